/- Contracts of the functions that the statement reaches, printed by a program out of the translation and joined with the plain laws. -/
import Derived.Test.YtioghacieopbdaaCFnCacheRun3
import Derived.Test.YtioghacieopbdaaCFnCacheRun4
import Derived.Test.YtioghacieopbdaaCFnCacheRun6
import Derived.Test.YtioghacieopbdaaCFnCacheRun8
section
namespace Go.Proofs.Ytioghacieopbdaa.PAll
open Go.RowKit Go.Proofs.YtioghacieopbdaaW.PrintWords Go.Proofs.YtioghacieopbdaaW.PrintLast Go.Proofs.YtioghacieopbdaaW.PrintMore
attribute [local go_sem] max2_int min2_int max_two min_two max_three min_three max_four min_four   -- for this text's walks alone
set_option linter.unusedVariables false
set_option linter.unusedSimpArgs false
attribute [local go_sem high] eqA25
mutual
def spec_CacheOk.j0 : Nat → List (S34) → Bool → Int → List (S108) → Option (Bool)
 | 0, _, _, _, _ => none
 | k + 1, x0, x23, x102000, x102001 => if x23 = true then (some false) else (spec_CacheOk.l0 k x0 0 x102000 x102001)
def spec_CacheOk.l0 : Nat → List (S34) → Int → Int → List (S108) → Option (Bool)
 | 0, _, _, _, _ => none
 | k + 1, x0, x5, x102000, x102001 => if x5 < (x102001.length : Int) then (if 0 ≤ x5 then ((spec_l4Call.f ((rd_T108 x102001 x5).f0.f0) ((rd_T108 x102001 x5).f0.f1) ((rd_T108 x102001 x5).f0.f2)).bind fun t105 => (if t105 = true then ((spec_l4First.f k x0 ((rd_T108 x102001 x5).f0.f0) ((rd_T108 x102001 x5).f0.f1) ((rd_T108 x102001 x5).f0.f2)).bind fun t108 => (spec_CacheOk.j2 k x0 x5 (((rd_T108 x102001 x5).f1) != t108) x102000 x102001)) else (spec_CacheOk.j2 k x0 x5 true x102000 x102001))) else (none)) else (some true)
def spec_CacheOk.j2 : Nat → List (S34) → Int → Bool → Int → List (S108) → Option (Bool)
 | 0, _, _, _, _, _ => none
 | k + 1, x0, x5, x55, x102000, x102001 => if x55 = true then (some false) else (spec_CacheOk.l1 k x0 x5 0 x102000 x102001)
def spec_CacheOk.l1 : Nat → List (S34) → Int → Int → Int → List (S108) → Option (Bool)
 | 0, _, _, _, _, _ => none
 | k + 1, x0, x5, x6, x102000, x102001 => if x6 < x5 then (if 0 ≤ x6 then (if x6 < (x102001.length : Int) then (if 0 ≤ x5 then (if x5 < (x102001.length : Int) then (if (((rd_T108 x102001 x6).f0.f0) == ((rd_T108 x102001 x5).f0.f0) && (((rd_T108 x102001 x6).f0.f1) == ((rd_T108 x102001 x5).f0.f1) && (((rd_T108 x102001 x6).f0.f2) == ((rd_T108 x102001 x5).f0.f2)))) = true then (some false) else (spec_CacheOk.l1 k x0 x5 (wrap64 (x6 + 1)) x102000 x102001)) else (none)) else (none)) else (none)) else (none)) else (spec_CacheOk.l0 k x0 (wrap64 (x5 + 1)) x102000 x102001)
end
def spec_CacheOk.f (k : Nat) (l0 : List (S34)) (a1_0 : Int) (l1_1 : List (S108)) : Option (Bool) := (spec_RulesOk.f k l0).bind fun t102 => (if t102 = true then ((spec_l1In.f a1_0 0 16).bind fun t103 => (if t103 = true then (spec_CacheOk.j0 k l0 (decide ((l1_1.length : Int) > a1_0)) a1_0 l1_1) else (spec_CacheOk.j0 k l0 true a1_0 l1_1))) else (spec_CacheOk.j0 k l0 true a1_0 l1_1))
def spec_CacheOk.T6 : Bool × List (List Nat × List Nat) := (true, [([], []), ([0], [0]), ([], []), ([1, 2], [1, 2]), ([3], [3]), ([4], [4]), ([5], [5]), ([6], [6]), ([7, 6], [7]), ([8], [8]), ([9, 8], [8, 9]), ([8], [8]), ([10, 11, 8], [8, 10, 11]), ([12, 8], [8, 12]), ([13, 8], [8, 13]), ([8], [8]), ([8], [8]), ([16, 8], [8, 16]), ([8], [8]), ([17, 18, 8], [8, 17, 18]), ([19, 8], [8, 19]), ([20, 8], [8, 20]), ([15, 21, 8, 8], [8, 15, 21]), ([14, 22, 8], [8, 14, 22]), ([8, 23], [8, 23])])
def spec_CacheOk.B6 : List Nat := [0, 1, 0, 7, 15, 31, 63, 127, 255, 511, 1023, 511, 4095, 8191, 16383, 511, 511, 66047, 511, 459263, 983551, 2032127, 4162047, 8388607, 16777215]
theorem spec_CacheOk.tab6 : rtab .any (opsOf Try.f23 6) = spec_CacheOk.T6 := by kernel_rfl
theorem spec_CacheOk.bits6 : waitsOk spec_CacheOk.T6.2 spec_CacheOk.B6 = true := by kernel_rfl
def spec_CacheOk.T11 : Bool × List (List Nat × List Nat) := (true, [([], []), ([0], [0]), ([], []), ([1, 2], [1, 2]), ([3], [3]), ([4], [4]), ([], []), ([6], [6]), ([], []), ([7, 8], [7, 8]), ([9], [9]), ([10], [10]), ([5, 11], [5, 11])])
def spec_CacheOk.B11 : List Nat := [0, 1, 0, 7, 15, 31, 0, 64, 0, 448, 960, 1984, 4095]
theorem spec_CacheOk.tab11 : rtab .any (opsOf Try.f23 11) = spec_CacheOk.T11 := by kernel_rfl
theorem spec_CacheOk.bits11 : waitsOk spec_CacheOk.T11.2 spec_CacheOk.B11 = true := by kernel_rfl
set_option maxHeartbeats 8000000 in
set_option maxRecDepth 100000 in
theorem spec_CacheOk.calls (k : Nat) (A0 : Option Addr) (c0 : Nat) (l0 : List (S34)) (a1_0 : Int) (A1_1 : Option Addr) (c1_1 : Nat) (l1_1 : List (S108)) (r : Bool) (w : World) (hr0 : Kd.C k34 w A0 l0.length l0) (hc0 : l0.length ≤ c0) (hr1_1 : Kd.C k108 w A1_1 l1_1.length l1_1) (hc1_1 : l1_1.length ≤ c1_1) (h : spec_CacheOk.f k l0 a1_0 l1_1 = some r) :
  Calls Try.prog 23 #[.slice A0 l0.length c0, .agg #[.int .i64 a1_0, .slice A1_1 l1_1.length c1_1]] w fun e w' => e = .returned (.bool r) ∧ Below w.heap.size w w' := by
 have hu46 := Try.underlying46
 have hu25 := Try.underlying25
 have HR0 := Aside0.mk hr0
 have HC0 := Aside0.mk hc0
 clear hr0 hc0
 have HR1_1 := Aside0.mk hr1_1
 have HC1_1 := Aside0.mk hc1_1
 clear hr1_1 hc1_1
 have HB := am (Below.refl w.heap.size w)
 have H : ((spec_RulesOk.f k l0).bind fun t102 => (if t102 = true then ((spec_l1In.f a1_0 0 16).bind fun t103 => (if t103 = true then (spec_CacheOk.j0 k l0 (decide ((l1_1.length : Int) > a1_0)) a1_0 l1_1) else (spec_CacheOk.j0 k l0 true a1_0 l1_1))) else (spec_CacheOk.j0 k l0 true a1_0 l1_1))) = some r := h
 clear h
 have HC3 := Aside0.mk H
 clear H
 go_enter Try.func23, Try.ntmps23
 go_upto_region 1 with (first | ((with_reducible refine gate_dst (N := 3) rfl ?_); (try (refine gate_guard (by rfl) ?_; dsimp only)); refine box_event rfl (N := 3) rfl (cs := #[.int .i64 a1_0, .slice A1_1 l1_1.length c1_1]) (t := 46) BX ?_; intro gb101 hg w4 hbox hb; have BK101 := am (hbox); have GW101 := am ((GL hg (below_size (KL HB)) : w.heap.size ≤ gb101)); have GE101 := GW101; replace HB := am (below_step (KL HB) hb); clear hb hbox hg))
 (try simp only [Act.put, List.setIfInBounds_toArray, List.set_cons_zero, List.set_cons_succ])
 go_cut [23] (fun v23 wc => ∃ (kq : Nat) (x23_2 : Bool), v23 = .bool x23_2 ∧ Aside0 (spec_CacheOk.j0 kq l0 x23_2 a1_0 l1_1 = some r) ∧ Aside0 (kq ≤ k) ∧ Aside0 (wc.heap[gb101]? = some (.cells #[.int .i64 a1_0, (.slice A1_1 l1_1.length c1_1)] 46 (0, 0))) ∧ Aside0 (Below w.heap.size w wc))
 case first =>
  have H := HC3.out
  clear HC3
  replace H := Option.bind_eq_some_iff.mp H
  obtain ⟨t102, A50, H⟩ := H
  replace H : (if t102 = true then ((spec_l1In.f a1_0 0 16).bind fun t103 => (if t103 = true then (spec_CacheOk.j0 k l0 (decide ((l1_1.length : Int) > a1_0)) a1_0 l1_1) else (spec_CacheOk.j0 k l0 true a1_0 l1_1))) else (spec_CacheOk.j0 k l0 true a1_0 l1_1)) = some r := H
  have A5 := Aside0.mk A50
  clear A50
  by_cases c6 : t102 = true
  ·subst c6
   have H1 : ((spec_l1In.f a1_0 0 16).bind fun t103 => (if t103 = true then (spec_CacheOk.j0 k l0 (decide ((l1_1.length : Int) > a1_0)) a1_0 l1_1) else (spec_CacheOk.j0 k l0 true a1_0 l1_1))) = some r := by rw [if_pos rfl] at H; exact H
   clear H
   have H := H1
   clear H1
   replace H := Option.bind_eq_some_iff.mp H
   obtain ⟨t103, A70, H⟩ := H
   replace H : (if t103 = true then (spec_CacheOk.j0 k l0 (decide ((l1_1.length : Int) > a1_0)) a1_0 l1_1) else (spec_CacheOk.j0 k l0 true a1_0 l1_1)) = some r := H
   have A7 := Aside0.mk A70
   clear A70
   by_cases c8 : t103 = true
   ·subst c8
    have H1 : (spec_CacheOk.j0 k l0 (decide ((l1_1.length : Int) > a1_0)) a1_0 l1_1) = some r := by rw [if_pos rfl] at H; exact H
    clear H
    have H := H1
    clear H1
    have H' := Aside0.mk H
    clear H
    go_wp2_with (first | ((with_reducible refine gate_callee (f := 19) rfl ?_); refine goesL_ (some 8) rfl rfl Try.func19 (by kernel_rfl) rfl #[.slice A0 l0.length c0] rfl MT ?_; (with_reducible refine (spec_RulesOk.calls k _ _ l0 true _ ?side1 ?side2 A5.out).mono ?_); (case side1 => exact KC (Kd.C_below HR0.out HB.out)); (case side2 => exact HC0.out); rintro e w9 ⟨rfl, hb⟩; refine ⟨_, rfl, ?_⟩; replace BK101 := am (BB BK101 hb); replace HB := am (below_step (K1 HB GE101.out) hb); (try clear hb); (try clear hb2); (try clear hk); (try clear hi); have hcz10_0 := z0 w9 BK101.out; have hcz10_1 := z1 w9 BK101.out; have hfz10_0 := blk_frozen BK101.out 0; have hfz10_1 := blk_frozen BK101.out 1) | (go_at_call 82; (with_reducible refine (spec_l1In.calls a1_0 0 16 true _ A7.out).mono ?_); rintro e w' ⟨rfl, ⟨nd, rfl⟩⟩))
    go_meet
    case rel => exact ⟨_, (decide ((l1_1.length : Int) > a1_0)), (by first | rfl | (simp; done) | (simp [*]; done)), H', ⟨by first | omega | exact Nat.le_refl _⟩, ⟨KB BK101⟩, ⟨K1 HB GE101.out⟩⟩
   ·replace c8 := Bool.eq_false_iff.mpr c8
    subst c8
    have H1 : (spec_CacheOk.j0 k l0 true a1_0 l1_1) = some r := by rw [if_neg (show ¬ (false = true) by decide)] at H; exact H
    clear H
    have H := H1
    clear H1
    have H' := Aside0.mk H
    clear H
    go_wp2_with (first | ((with_reducible refine gate_callee (f := 19) rfl ?_); refine goesL_ (some 8) rfl rfl Try.func19 (by kernel_rfl) rfl #[.slice A0 l0.length c0] rfl MT ?_; (with_reducible refine (spec_RulesOk.calls k _ _ l0 true _ ?side1 ?side2 A5.out).mono ?_); (case side1 => exact KC (Kd.C_below HR0.out HB.out)); (case side2 => exact HC0.out); rintro e w11 ⟨rfl, hb⟩; refine ⟨_, rfl, ?_⟩; replace BK101 := am (BB BK101 hb); replace HB := am (below_step (K1 HB GE101.out) hb); (try clear hb); (try clear hb2); (try clear hk); (try clear hi); have hcz12_0 := z0 w11 BK101.out; have hcz12_1 := z1 w11 BK101.out; have hfz12_0 := blk_frozen BK101.out 0; have hfz12_1 := blk_frozen BK101.out 1) | (go_at_call 82; (with_reducible refine (spec_l1In.calls a1_0 0 16 false _ A7.out).mono ?_); rintro e w' ⟨rfl, ⟨nd, rfl⟩⟩))
    go_meet
    case rel => exact ⟨_, (true), (by first | rfl | (simp; done) | (simp [*]; done)), H', ⟨by first | omega | exact Nat.le_refl _⟩, ⟨KB BK101⟩, ⟨K1 HB GE101.out⟩⟩
  ·replace c6 := Bool.eq_false_iff.mpr c6
   subst c6
   have H1 : (spec_CacheOk.j0 k l0 true a1_0 l1_1) = some r := by rw [if_neg (show ¬ (false = true) by decide)] at H; exact H
   clear H
   have H := H1
   clear H1
   have H' := Aside0.mk H
   clear H
   go_wp2_with (first | ((with_reducible refine gate_callee (f := 19) rfl ?_); refine goesL_ (some 8) rfl rfl Try.func19 (by kernel_rfl) rfl #[.slice A0 l0.length c0] rfl MT ?_; (with_reducible refine (spec_RulesOk.calls k _ _ l0 false _ ?side1 ?side2 A5.out).mono ?_); (case side1 => exact KC (Kd.C_below HR0.out HB.out)); (case side2 => exact HC0.out); rintro e w13 ⟨rfl, hb⟩; refine ⟨_, rfl, ?_⟩; replace BK101 := am (BB BK101 hb); replace HB := am (below_step (K1 HB GE101.out) hb); (try clear hb); (try clear hb2); (try clear hk); (try clear hi)))
   go_meet
   case rel => exact ⟨_, (true), (by first | rfl | (simp; done) | (simp [*]; done)), H', ⟨by first | omega | exact Nat.le_refl _⟩, ⟨KB BK101⟩, ⟨K1 HB GE101.out⟩⟩
 case rest =>
  clear HC3
  try clear c1
  try clear c2
  try clear p2
  try clear c6
  try clear c8
  try clear hcz10_0
  try clear hcz10_1
  try clear hcz12_0
  try clear hcz12_1
  try clear hfz10_0
  try clear hfz10_1
  try clear hfz12_0
  try clear hfz12_1
  obtain ⟨kq, x23_2, rfl, HA, HJ2, BK101, HB⟩ := hcut
  cases kq with
  | zero => exact absurd HA.out (by simp [spec_CacheOk.j0])
  | succ kj2 =>
   have H := HA.out
   clear HA
   simp only [spec_CacheOk.j0] at H
   by_cases c14 : x23_2 = true
   ·subst c14
    have H1 : (some false) = some r := by rw [if_pos rfl] at H; exact H
    clear H
    have H := H1
    clear H1
    obtain rfl := Option.some.inj H
    go_wp2
    go_ret
    exact ⟨by first | rfl | (simp [errW_none, errW_some] <;> rfl) | (simp [*, errW_none, errW_some] <;> rfl), K1 HB GE101.out⟩
   ·replace c14 := Bool.eq_false_iff.mpr c14
    subst c14
    have H1 : (spec_CacheOk.l0 kj2 l0 0 a1_0 l1_1) = some r := by rw [if_neg (show ¬ (false = true) by decide)] at H; exact H
    clear H
    have H := H1
    clear H1
    have H' := Aside0.mk H
    clear H
    go_wp2
    go_loopg [5] kj2 (fun kq v5 w' => ∃ (x5_2 : Int), v5 = .int .i64 x5_2 ∧ Aside0 (spec_CacheOk.l0 kq l0 x5_2 a1_0 l1_1 = some r) ∧ Aside0 (kq ≤ kj2) ∧ Aside0 (w'.heap[gb101]? = some (.cells #[.int .i64 a1_0, (.slice A1_1 l1_1.length c1_1)] 46 (0, 0))) ∧ Aside0 (Below w.heap.size w w'))
    case atStart => exact ⟨(0), (by first | rfl | (simp; done) | (simp [*]; done)), H', ⟨Nat.le_refl _⟩, ⟨KB BK101⟩, ⟨K1 HB GE101.out⟩⟩
    case round =>
     clear H'
     try clear c1
     try clear c2
     try clear p2
     try clear c6
     try clear c8
     try clear c14
     try clear hcz10_0
     try clear hcz10_1
     try clear hcz12_0
     try clear hcz12_1
     try clear hfz10_0
     try clear hfz10_1
     try clear hfz12_0
     try clear hfz12_1
     try clear p2
     obtain ⟨x5_2, rfl, HA, HK2, BK101, HB⟩ := hrel
     cases gk with
     | zero => exact absurd HA.out (by simp [spec_CacheOk.l0])
     | succ k2 =>
      have H := HA.out
      clear HA
      simp only [spec_CacheOk.l0] at H
      by_cases c15 : x5_2 < (l1_1.length : Int)
      ·rw [if_pos c15] at H
       have c15b0 : decide (x5_2 < (l1_1.length : Int)) = true := decide_eq_true c15
       clear c15
       have HC16 := Aside0.mk H
       clear H
       have hcz17_0 := z0 wr BK101.out
       have hcz17_1 := z1 wr BK101.out
       have hfz17_0 := blk_frozen BK101.out 0
       have hfz17_1 := blk_frozen BK101.out 1
       go_upto_region 6 with (fail)
       go_cut [55] (fun v55 wc => ∃ (kq : Nat) (x55_15 : Bool), v55 = .bool x55_15 ∧ Aside0 (spec_CacheOk.j2 kq l0 x5_2 x55_15 a1_0 l1_1 = some r) ∧ Aside0 (kq ≤ k2) ∧ Aside0 (wc.heap[gb101]? = some (.cells #[.int .i64 a1_0, (.slice A1_1 l1_1.length c1_1)] 46 (0, 0))) ∧ Aside0 (Below w.heap.size w wc))
       case first =>
        have H := HC16.out
        clear HC16
        by_cases c18 : 0 ≤ x5_2
        ·rw [if_pos c18] at H
         have c18b0 : decide (0 ≤ x5_2) = true := decide_eq_true c18
         clear c18
         (first | rw [c18b0] | (simp only [i64_w, i32_w]; rw [c18b0]) | skip)
         replace H := Option.bind_eq_some_iff.mp H
         obtain ⟨t105, A190, H⟩ := H
         replace H : (if t105 = true then ((spec_l4First.f k2 l0 ((rd_T108 l1_1 x5_2).f0.f0) ((rd_T108 l1_1 x5_2).f0.f1) ((rd_T108 l1_1 x5_2).f0.f2)).bind fun t108 => (spec_CacheOk.j2 k2 l0 x5_2 (((rd_T108 l1_1 x5_2).f1) != t108) a1_0 l1_1)) else (spec_CacheOk.j2 k2 l0 x5_2 true a1_0 l1_1)) = some r := H
         have A19 := Aside0.mk A190
         clear A190
         by_cases c20 : t105 = true
         ·subst c20
          have H1 : ((spec_l4First.f k2 l0 ((rd_T108 l1_1 x5_2).f0.f0) ((rd_T108 l1_1 x5_2).f0.f1) ((rd_T108 l1_1 x5_2).f0.f2)).bind fun t108 => (spec_CacheOk.j2 k2 l0 x5_2 (((rd_T108 l1_1 x5_2).f1) != t108) a1_0 l1_1)) = some r := by rw [if_pos rfl] at H; exact H
          clear H
          have H := H1
          clear H1
          replace H := Option.bind_eq_some_iff.mp H
          obtain ⟨t108, A210, H⟩ := H
          replace H : (spec_CacheOk.j2 k2 l0 x5_2 (((rd_T108 l1_1 x5_2).f1) != t108) a1_0 l1_1) = some r := H
          have A21 := Aside0.mk A210
          clear A210
          have H' := Aside0.mk H
          clear H
          try go_wp2
          replace BK101 := am (blk_drew BK101.out)
          replace HB := am (below_drew1 HB.out)
          have p104 : 0 ≤ (x5_2 : Int) := of_decide_eq_true (by first | (with_reducible assumption) | assumption)
          have q104 : x5_2 < (l1_1.length : Int) := of_decide_eq_true (by first | (with_reducible assumption) | assumption)
          obtain ⟨ad104, e104, hx104_0, hx104_1, hx104_2, hx104_3⟩ := at_T108 HR1_1.out x5_2 p104 q104
          have hw104_3 := hx104_3
          have hw104_2 := hx104_2
          have hw104_1 := hx104_1
          have hw104_0 := hx104_0
          cases e104
          replace hx104_0 := (HB.out.cell (World.block_lt_of_cell? w _ hx104_0)).trans hx104_0
          replace hx104_1 := (HB.out.cell (World.block_lt_of_cell? w _ hx104_1)).trans hx104_1
          replace hx104_2 := (HB.out.cell (World.block_lt_of_cell? w _ hx104_2)).trans hx104_2
          replace hx104_3 := (HB.out.cell (World.block_lt_of_cell? w _ hx104_3)).trans hx104_3
          replace p104 := eq_true p104
          replace q104 := eq_true q104
          have p106 : 0 ≤ (x5_2 : Int) := of_decide_eq_true (by first | (with_reducible assumption) | assumption)
          have q106 : x5_2 < (l1_1.length : Int) := of_decide_eq_true (by first | (with_reducible assumption) | assumption)
          obtain ⟨ad106, e106, hx106_0, hx106_1, hx106_2, hx106_3⟩ := at_T108 HR1_1.out x5_2 p106 q106
          have hw106_3 := hx106_3
          have hw106_2 := hx106_2
          have hw106_1 := hx106_1
          have hw106_0 := hx106_0
          obtain rfl : ad104 = ad106 := (by injection e106)
          replace hx106_0 := (HB.out.cell (World.block_lt_of_cell? w _ hx106_0)).trans hx106_0
          replace hx106_1 := (HB.out.cell (World.block_lt_of_cell? w _ hx106_1)).trans hx106_1
          replace hx106_2 := (HB.out.cell (World.block_lt_of_cell? w _ hx106_2)).trans hx106_2
          replace hx106_3 := (HB.out.cell (World.block_lt_of_cell? w _ hx106_3)).trans hx106_3
          replace p106 := eq_true p106
          replace q106 := eq_true q106
          have p107 : 0 ≤ (x5_2 : Int) := of_decide_eq_true (by first | (with_reducible assumption) | assumption)
          have q107 : x5_2 < (l1_1.length : Int) := of_decide_eq_true (by first | (with_reducible assumption) | assumption)
          obtain ⟨ad107, e107, hx107_0, hx107_1, hx107_2, hx107_3⟩ := at_T108 HR1_1.out x5_2 p107 q107
          have hw107_3 := hx107_3
          have hw107_2 := hx107_2
          have hw107_1 := hx107_1
          have hw107_0 := hx107_0
          obtain rfl : ad104 = ad107 := (by injection e107)
          replace hx107_0 := (HB.out.cell (World.block_lt_of_cell? w _ hx107_0)).trans hx107_0
          replace hx107_1 := (HB.out.cell (World.block_lt_of_cell? w _ hx107_1)).trans hx107_1
          replace hx107_2 := (HB.out.cell (World.block_lt_of_cell? w _ hx107_2)).trans hx107_2
          replace hx107_3 := (HB.out.cell (World.block_lt_of_cell? w _ hx107_3)).trans hx107_3
          replace p107 := eq_true p107
          replace q107 := eq_true q107
          refine start_ (n := 25) (S := fun w' => w'.cell? ⟨gb101, 0, none⟩ = some (.int .i64 a1_0) ∧ w'.cell? ⟨gb101, 1, none⟩ = some (.slice (some ad104) l1_1.length c1_1) ∧ w'.cell? (ad104.add ((x5_2).toNat * 4)) = some (.int .i64 ((rd_T108 l1_1 x5_2).f0.f0)) ∧ w'.cell? ⟨(ad104.add ((x5_2).toNat * 4)).block, (ad104.add ((x5_2).toNat * 4)).off + 1, none⟩ = some (.int .i64 ((rd_T108 l1_1 x5_2).f0.f1)) ∧ w'.cell? ⟨(ad104.add ((x5_2).toNat * 4)).block, (ad104.add ((x5_2).toNat * 4)).off + 2, none⟩ = some (.int .i64 ((rd_T108 l1_1 x5_2).f0.f2)) ∧ w'.cell? ⟨(ad104.add ((x5_2).toNat * 4)).block, (ad104.add ((x5_2).toNat * 4)).off + 3, none⟩ = some (.int .i64 ((rd_T108 l1_1 x5_2).f1)) ∧ w'.cell? (ad104.add ((x5_2).toNat * 4)) = some (.int .i64 ((rd_T108 l1_1 x5_2).f0.f0)) ∧ w'.cell? ⟨(ad104.add ((x5_2).toNat * 4)).block, (ad104.add ((x5_2).toNat * 4)).off + 1, none⟩ = some (.int .i64 ((rd_T108 l1_1 x5_2).f0.f1)) ∧ w'.cell? ⟨(ad104.add ((x5_2).toNat * 4)).block, (ad104.add ((x5_2).toNat * 4)).off + 2, none⟩ = some (.int .i64 ((rd_T108 l1_1 x5_2).f0.f2)) ∧ w'.cell? ⟨(ad104.add ((x5_2).toNat * 4)).block, (ad104.add ((x5_2).toNat * 4)).off + 3, none⟩ = some (.int .i64 ((rd_T108 l1_1 x5_2).f1)) ∧ w'.cell? (ad104.add ((x5_2).toNat * 4)) = some (.int .i64 ((rd_T108 l1_1 x5_2).f0.f0)) ∧ w'.cell? ⟨(ad104.add ((x5_2).toNat * 4)).block, (ad104.add ((x5_2).toNat * 4)).off + 1, none⟩ = some (.int .i64 ((rd_T108 l1_1 x5_2).f0.f1)) ∧ w'.cell? ⟨(ad104.add ((x5_2).toNat * 4)).block, (ad104.add ((x5_2).toNat * 4)).off + 2, none⟩ = some (.int .i64 ((rd_T108 l1_1 x5_2).f0.f2)) ∧ w'.cell? ⟨(ad104.add ((x5_2).toNat * 4)).block, (ad104.add ((x5_2).toNat * 4)).off + 3, none⟩ = some (.int .i64 ((rd_T108 l1_1 x5_2).f1))) (ds := []) (tf 0 25) (by kernel_rfl) rfl rfl ⟨z0 _ BK101.out, z1 _ BK101.out, ((HB.out.cell (World.block_lt_of_cell? w _ hw104_0)).trans hw104_0), ((HB.out.cell (World.block_lt_of_cell? w _ hw104_1)).trans hw104_1), ((HB.out.cell (World.block_lt_of_cell? w _ hw104_2)).trans hw104_2), ((HB.out.cell (World.block_lt_of_cell? w _ hw104_3)).trans hw104_3), ((HB.out.cell (World.block_lt_of_cell? w _ hw106_0)).trans hw106_0), ((HB.out.cell (World.block_lt_of_cell? w _ hw106_1)).trans hw106_1), ((HB.out.cell (World.block_lt_of_cell? w _ hw106_2)).trans hw106_2), ((HB.out.cell (World.block_lt_of_cell? w _ hw106_3)).trans hw106_3), ((HB.out.cell (World.block_lt_of_cell? w _ hw107_0)).trans hw107_0), ((HB.out.cell (World.block_lt_of_cell? w _ hw107_1)).trans hw107_1), ((HB.out.cell (World.block_lt_of_cell? w _ hw107_2)).trans hw107_2), ((HB.out.cell (World.block_lt_of_cell? w _ hw107_3)).trans hw107_3)⟩ (fun hHeld => ?_); refine with_tabW spec_CacheOk.tab6 spec_CacheOk.bits6 (fun HT_ HW_ => ?_)
          generalize wr.drew = w22 at BK101 HB hx104_0 hx104_1 hx104_2 hx104_3 hx106_0 hx106_1 hx106_2 hx106_3 hx107_0 hx107_1 hx107_2 hx107_3 hHeld ⊢
          refine pu 0 (some 31) (tf 1 24) (any_of HT_.out (by kernel_rfl)) ?_
          refine pu 2 (some 33) #[true, false, true, false, false, false, false, false, false, false, false, false, false, false, false, false, false, false, false, false, false, false, false, false, false] (any_of HT_.out (by kernel_rfl)) ?_
          refine tk 1 (some 32) (tf 3 22) (take_ofW HT_.out HW_.out (by kernel_rfl)) hHeld ?_
          refine pu 3 (some 34) (tf 4 21) (any_of HT_.out (by kernel_rfl)) ?_
          refine pu 4 (some 35) (tf 5 20) (any_of HT_.out (by kernel_rfl)) ?_
          refine tk 5 (some 36) (tf 6 19) (take_ofW HT_.out HW_.out (by kernel_rfl)) hHeld ?_
          refine one_ (i := 6) (N := some 37) (tf 7 18) rfl rfl (one_of HT_.out (by kernel_rfl)) (by decide) (fun K hK => ?_)
          refine goes_ Try.func75 (by kernel_rfl) rfl #[.agg #[.int .i64 ((rd_T108 l1_1 x5_2).f0.f0), .int .i64 ((rd_T108 l1_1 x5_2).f0.f1), .int .i64 ((rd_T108 l1_1 x5_2).f0.f2)]] (by rfl) rfl rfl MT ?_
          with_reducible refine (spec_l4Call.calls ((rd_T108 l1_1 x5_2).f0.f0) ((rd_T108 l1_1 x5_2).f0.f1) ((rd_T108 l1_1 x5_2).f0.f2) true _ A19.out).mono ?_
          rintro e w23 ⟨rfl, hb⟩
          refine ⟨_, rfl, ?_⟩
          replace BK101 := am (BB BK101 hb)
          replace HB := am (below_step (K1 HB GE101.out) hb)
          (try clear hb)
          (try clear hb2)
          (try clear hk)
          (try clear hi)
          refine hK.out _ _ ⟨z0 _ BK101.out, z1 _ BK101.out, ((HB.out.cell (World.block_lt_of_cell? w _ hw104_0)).trans hw104_0), ((HB.out.cell (World.block_lt_of_cell? w _ hw104_1)).trans hw104_1), ((HB.out.cell (World.block_lt_of_cell? w _ hw104_2)).trans hw104_2), ((HB.out.cell (World.block_lt_of_cell? w _ hw104_3)).trans hw104_3), ((HB.out.cell (World.block_lt_of_cell? w _ hw106_0)).trans hw106_0), ((HB.out.cell (World.block_lt_of_cell? w _ hw106_1)).trans hw106_1), ((HB.out.cell (World.block_lt_of_cell? w _ hw106_2)).trans hw106_2), ((HB.out.cell (World.block_lt_of_cell? w _ hw106_3)).trans hw106_3), ((HB.out.cell (World.block_lt_of_cell? w _ hw107_0)).trans hw107_0), ((HB.out.cell (World.block_lt_of_cell? w _ hw107_1)).trans hw107_1), ((HB.out.cell (World.block_lt_of_cell? w _ hw107_2)).trans hw107_2), ((HB.out.cell (World.block_lt_of_cell? w _ hw107_3)).trans hw107_3)⟩ (fun hHeld => ?_)
          clear hK K
          refine norm_ (a' := ?_) ?_ ?_
          rotate_left
          ·show Act.put _ (some 37) _ = _
           simp only [Act.put, List.setIfInBounds_toArray, List.set_cons_zero, List.set_cons_succ, i64_w, i32_w]
           rfl
          refine pu 7 (some 38) (tf 8 17) (any_of HT_.out (by kernel_rfl)) ?_
          refine pu 8 (some 39) (tf 9 16) (any_of HT_.out (by kernel_rfl)) ?_
          refine pu 9 (some 40) (tf 10 15) (any_of HT_.out (by kernel_rfl)) ?_
          refine pu 11 (some 42) #[true, true, true, true, true, true, true, true, true, true, false, true, false, false, false, false, false, false, false, false, false, false, false, false, false] (any_of HT_.out (by kernel_rfl)) ?_
          refine pu 15 (some 46) #[true, true, true, true, true, true, true, true, true, true, false, true, false, false, false, true, false, false, false, false, false, false, false, false, false] (any_of HT_.out (by kernel_rfl)) ?_
          refine pu 16 (some 47) #[true, true, true, true, true, true, true, true, true, true, false, true, false, false, false, true, true, false, false, false, false, false, false, false, false] (any_of HT_.out (by kernel_rfl)) ?_
          refine pu 18 (some 49) #[true, true, true, true, true, true, true, true, true, true, false, true, false, false, false, true, true, false, true, false, false, false, false, false, false] (any_of HT_.out (by kernel_rfl)) ?_
          refine tk 10 (some 41) #[true, true, true, true, true, true, true, true, true, true, true, true, false, false, false, true, true, false, true, false, false, false, false, false, false] (take_ofW HT_.out HW_.out (by kernel_rfl)) hHeld ?_
          refine pu 12 (some 43) #[true, true, true, true, true, true, true, true, true, true, true, true, true, false, false, true, true, false, true, false, false, false, false, false, false] (any_of HT_.out (by kernel_rfl)) ?_
          refine pu 13 (some 44) #[true, true, true, true, true, true, true, true, true, true, true, true, true, true, false, true, true, false, true, false, false, false, false, false, false] (any_of HT_.out (by kernel_rfl)) ?_
          refine tk 14 (some 45) #[true, true, true, true, true, true, true, true, true, true, true, true, true, true, true, true, true, false, true, false, false, false, false, false, false] (take_ofW HT_.out HW_.out (by kernel_rfl)) hHeld ?_
          refine tk 17 (some 48) (tf 19 6) (take_ofW HT_.out HW_.out (by kernel_rfl)) hHeld ?_
          refine pu 19 (some 50) (tf 20 5) (any_of HT_.out (by kernel_rfl)) ?_
          refine pu 20 (some 51) (tf 21 4) (any_of HT_.out (by kernel_rfl)) ?_
          refine tk 21 (some 52) (tf 22 3) (take_ofW HT_.out HW_.out (by kernel_rfl)) hHeld ?_
          refine one_ (i := 22) (N := some 53) (tf 23 2) rfl rfl (one_of HT_.out (by kernel_rfl)) (by decide) (fun K hK => ?_)
          refine goes_ Try.func76 (by kernel_rfl) rfl #[.slice A0 l0.length c0, .agg #[.int .i64 ((rd_T108 l1_1 x5_2).f0.f0), .int .i64 ((rd_T108 l1_1 x5_2).f0.f1), .int .i64 ((rd_T108 l1_1 x5_2).f0.f2)]] (by rfl) rfl rfl MT ?_
          with_reducible refine (spec_l4First.calls k2 _ _ l0 ((rd_T108 l1_1 x5_2).f0.f0) ((rd_T108 l1_1 x5_2).f0.f1) ((rd_T108 l1_1 x5_2).f0.f2) t108 _ ?side1 ?side2 A21.out).mono ?_
          (case side1 => exact KC (Kd.C_below HR0.out HB.out))
          (case side2 => exact HC0.out)
          rintro e w24 ⟨rfl, hb⟩
          refine ⟨_, rfl, ?_⟩
          replace BK101 := am (BB BK101 hb)
          replace HB := am (below_step (K1 HB GE101.out) hb)
          (try clear hb)
          (try clear hb2)
          (try clear hk)
          (try clear hi)
          refine hK.out _ _ ⟨z0 _ BK101.out, z1 _ BK101.out, ((HB.out.cell (World.block_lt_of_cell? w _ hw104_0)).trans hw104_0), ((HB.out.cell (World.block_lt_of_cell? w _ hw104_1)).trans hw104_1), ((HB.out.cell (World.block_lt_of_cell? w _ hw104_2)).trans hw104_2), ((HB.out.cell (World.block_lt_of_cell? w _ hw104_3)).trans hw104_3), ((HB.out.cell (World.block_lt_of_cell? w _ hw106_0)).trans hw106_0), ((HB.out.cell (World.block_lt_of_cell? w _ hw106_1)).trans hw106_1), ((HB.out.cell (World.block_lt_of_cell? w _ hw106_2)).trans hw106_2), ((HB.out.cell (World.block_lt_of_cell? w _ hw106_3)).trans hw106_3), ((HB.out.cell (World.block_lt_of_cell? w _ hw107_0)).trans hw107_0), ((HB.out.cell (World.block_lt_of_cell? w _ hw107_1)).trans hw107_1), ((HB.out.cell (World.block_lt_of_cell? w _ hw107_2)).trans hw107_2), ((HB.out.cell (World.block_lt_of_cell? w _ hw107_3)).trans hw107_3)⟩ (fun hHeld => ?_)
          clear hK K
          refine norm_ (a' := ?_) ?_ ?_
          rotate_left
          ·show Act.put _ (some 53) _ = _
           simp only [Act.put, List.setIfInBounds_toArray, List.set_cons_zero, List.set_cons_succ, i64_w, i32_w]
           rfl
          refine pu 23 (some 54) (tf 24 1) (any_of HT_.out (by kernel_rfl)) ?_
          refine pu 24 (some 55) (tf 25 0) (any_of HT_.out (by kernel_rfl)) ?_
          refine done_ (done_of HT_.out (by kernel_rfl)) ?_
          try go_wp2
          go_meet
          case rel => exact ⟨_, ((((rd_T108 l1_1 x5_2).f1) != t108)), (by first | rfl | (simp; done) | (simp [*]; done)), H', ⟨by have := HJ2.out; have := HK2.out; first | omega | exact Nat.le_refl _⟩, ⟨KB BK101⟩, ⟨K1 HB GE101.out⟩⟩
         ·replace c20 := Bool.eq_false_iff.mpr c20
          subst c20
          have H1 : (spec_CacheOk.j2 k2 l0 x5_2 true a1_0 l1_1) = some r := by rw [if_neg (show ¬ (false = true) by decide)] at H; exact H
          clear H
          have H := H1
          clear H1
          have H' := Aside0.mk H
          clear H
          try go_wp2
          replace BK101 := am (blk_drew BK101.out)
          replace HB := am (below_drew1 HB.out)
          have p104 : 0 ≤ (x5_2 : Int) := of_decide_eq_true (by first | (with_reducible assumption) | assumption)
          have q104 : x5_2 < (l1_1.length : Int) := of_decide_eq_true (by first | (with_reducible assumption) | assumption)
          obtain ⟨ad104, e104, hx104_0, hx104_1, hx104_2, hx104_3⟩ := at_T108 HR1_1.out x5_2 p104 q104
          have hw104_3 := hx104_3
          have hw104_2 := hx104_2
          have hw104_1 := hx104_1
          have hw104_0 := hx104_0
          cases e104
          replace hx104_0 := (HB.out.cell (World.block_lt_of_cell? w _ hx104_0)).trans hx104_0
          replace hx104_1 := (HB.out.cell (World.block_lt_of_cell? w _ hx104_1)).trans hx104_1
          replace hx104_2 := (HB.out.cell (World.block_lt_of_cell? w _ hx104_2)).trans hx104_2
          replace hx104_3 := (HB.out.cell (World.block_lt_of_cell? w _ hx104_3)).trans hx104_3
          replace p104 := eq_true p104
          replace q104 := eq_true q104
          refine start_ (n := 25) (S := fun w' => w'.cell? ⟨gb101, 0, none⟩ = some (.int .i64 a1_0) ∧ w'.cell? ⟨gb101, 1, none⟩ = some (.slice (some ad104) l1_1.length c1_1) ∧ w'.cell? (ad104.add ((x5_2).toNat * 4)) = some (.int .i64 ((rd_T108 l1_1 x5_2).f0.f0)) ∧ w'.cell? ⟨(ad104.add ((x5_2).toNat * 4)).block, (ad104.add ((x5_2).toNat * 4)).off + 1, none⟩ = some (.int .i64 ((rd_T108 l1_1 x5_2).f0.f1)) ∧ w'.cell? ⟨(ad104.add ((x5_2).toNat * 4)).block, (ad104.add ((x5_2).toNat * 4)).off + 2, none⟩ = some (.int .i64 ((rd_T108 l1_1 x5_2).f0.f2)) ∧ w'.cell? ⟨(ad104.add ((x5_2).toNat * 4)).block, (ad104.add ((x5_2).toNat * 4)).off + 3, none⟩ = some (.int .i64 ((rd_T108 l1_1 x5_2).f1))) (ds := []) (tf 0 25) (by kernel_rfl) rfl rfl ⟨z0 _ BK101.out, z1 _ BK101.out, ((HB.out.cell (World.block_lt_of_cell? w _ hw104_0)).trans hw104_0), ((HB.out.cell (World.block_lt_of_cell? w _ hw104_1)).trans hw104_1), ((HB.out.cell (World.block_lt_of_cell? w _ hw104_2)).trans hw104_2), ((HB.out.cell (World.block_lt_of_cell? w _ hw104_3)).trans hw104_3)⟩ (fun hHeld => ?_); refine with_tabW spec_CacheOk.tab6 spec_CacheOk.bits6 (fun HT_ HW_ => ?_)
          generalize wr.drew = w25 at BK101 HB hx104_0 hx104_1 hx104_2 hx104_3 hHeld ⊢
          refine pu 0 (some 31) (tf 1 24) (any_of HT_.out (by kernel_rfl)) ?_
          refine pu 2 (some 33) #[true, false, true, false, false, false, false, false, false, false, false, false, false, false, false, false, false, false, false, false, false, false, false, false, false] (any_of HT_.out (by kernel_rfl)) ?_
          refine tk 1 (some 32) (tf 3 22) (take_ofW HT_.out HW_.out (by kernel_rfl)) hHeld ?_
          refine pu 3 (some 34) (tf 4 21) (any_of HT_.out (by kernel_rfl)) ?_
          refine pu 4 (some 35) (tf 5 20) (any_of HT_.out (by kernel_rfl)) ?_
          refine tk 5 (some 36) (tf 6 19) (take_ofW HT_.out HW_.out (by kernel_rfl)) hHeld ?_
          refine one_ (i := 6) (N := some 37) (tf 7 18) rfl rfl (one_of HT_.out (by kernel_rfl)) (by decide) (fun K hK => ?_)
          refine goes_ Try.func75 (by kernel_rfl) rfl #[.agg #[.int .i64 ((rd_T108 l1_1 x5_2).f0.f0), .int .i64 ((rd_T108 l1_1 x5_2).f0.f1), .int .i64 ((rd_T108 l1_1 x5_2).f0.f2)]] (by rfl) rfl rfl MT ?_
          with_reducible refine (spec_l4Call.calls ((rd_T108 l1_1 x5_2).f0.f0) ((rd_T108 l1_1 x5_2).f0.f1) ((rd_T108 l1_1 x5_2).f0.f2) false _ A19.out).mono ?_
          rintro e w26 ⟨rfl, hb⟩
          refine ⟨_, rfl, ?_⟩
          replace BK101 := am (BB BK101 hb)
          replace HB := am (below_step (K1 HB GE101.out) hb)
          (try clear hb)
          (try clear hb2)
          (try clear hk)
          (try clear hi)
          refine hK.out _ _ ⟨z0 _ BK101.out, z1 _ BK101.out, ((HB.out.cell (World.block_lt_of_cell? w _ hw104_0)).trans hw104_0), ((HB.out.cell (World.block_lt_of_cell? w _ hw104_1)).trans hw104_1), ((HB.out.cell (World.block_lt_of_cell? w _ hw104_2)).trans hw104_2), ((HB.out.cell (World.block_lt_of_cell? w _ hw104_3)).trans hw104_3)⟩ (fun hHeld => ?_)
          clear hK K
          refine norm_ (a' := ?_) ?_ ?_
          rotate_left
          ·show Act.put _ (some 37) _ = _
           simp only [Act.put, List.setIfInBounds_toArray, List.set_cons_zero, List.set_cons_succ, i64_w, i32_w]
           rfl
          refine pu 7 (some 38) (tf 8 17) (any_of HT_.out (by kernel_rfl)) ?_
          refine pu 8 (some 39) (tf 9 16) (any_of HT_.out (by kernel_rfl)) ?_
          refine pn 9 (some 40) (tf 10 15) (any_of HT_.out (by kernel_rfl)) ?_
          refine pn 10 (some 41) (tf 11 14) (any_of HT_.out (by kernel_rfl)) ?_
          refine pn 11 (some 42) (tf 12 13) (any_of HT_.out (by kernel_rfl)) ?_
          refine pn 12 (some 43) (tf 13 12) (any_of HT_.out (by kernel_rfl)) ?_
          refine pn 13 (some 44) (tf 14 11) (any_of HT_.out (by kernel_rfl)) ?_
          refine pn 14 (some 45) (tf 15 10) (any_of HT_.out (by kernel_rfl)) ?_
          refine pn 15 (some 46) (tf 16 9) (any_of HT_.out (by kernel_rfl)) ?_
          refine pn 16 (some 47) (tf 17 8) (any_of HT_.out (by kernel_rfl)) ?_
          refine pn 17 (some 48) (tf 18 7) (any_of HT_.out (by kernel_rfl)) ?_
          refine pn 18 (some 49) (tf 19 6) (any_of HT_.out (by kernel_rfl)) ?_
          refine pn 19 (some 50) (tf 20 5) (any_of HT_.out (by kernel_rfl)) ?_
          refine pn 20 (some 51) (tf 21 4) (any_of HT_.out (by kernel_rfl)) ?_
          refine pn 21 (some 52) (tf 22 3) (any_of HT_.out (by kernel_rfl)) ?_
          refine pn 22 (some 53) (tf 23 2) (any_of HT_.out (by kernel_rfl)) ?_
          refine pn 23 (some 54) (tf 24 1) (any_of HT_.out (by kernel_rfl)) ?_
          refine pu 24 (some 55) (tf 25 0) (any_of HT_.out (by kernel_rfl)) ?_
          refine done_ (done_of HT_.out (by kernel_rfl)) ?_
          try go_wp2
          go_meet
          case rel => exact ⟨_, (true), (by first | rfl | (simp; done) | (simp [*]; done)), H', ⟨by have := HJ2.out; have := HK2.out; first | omega | exact Nat.le_refl _⟩, ⟨KB BK101⟩, ⟨K1 HB GE101.out⟩⟩
        ·rw [if_neg c18] at H
         exact absurd H (by simp)
       case rest =>
        clear HC16
        try clear c1
        try clear p1
        try clear q1
        try clear hx1
        try clear c2
        try clear p2
        try clear c6
        try clear c7
        try clear c8
        try clear p10
        try clear q10
        try clear hx10
        try clear c14
        try clear c15
        try clear c15b0
        try clear c18
        try clear c18b0
        try clear c19
        try clear c20
        try clear hcz10_0
        try clear hcz10_1
        try clear hcz12_0
        try clear hcz12_1
        try clear hcz17_0
        try clear hcz17_1
        try clear hfz10_0
        try clear hfz10_1
        try clear hfz12_0
        try clear hfz12_1
        try clear hfz17_0
        try clear hfz17_1
        try clear hx104_0
        try clear hx104_1
        try clear hx104_2
        try clear hx104_3
        try clear hx106_0
        try clear hx106_1
        try clear hx106_2
        try clear hx106_3
        try clear hx107_0
        try clear hx107_1
        try clear hx107_2
        try clear hx107_3
        try clear p104
        try clear p106
        try clear p107
        try clear p2
        try clear q104
        try clear q106
        try clear q107
        obtain ⟨kq, x55_15, rfl, HA, HJ15, BK101, HB⟩ := hcut
        cases kq with
        | zero => exact absurd HA.out (by simp [spec_CacheOk.j2])
        | succ kj15 =>
         have H := HA.out
         clear HA
         simp only [spec_CacheOk.j2] at H
         by_cases c27 : x55_15 = true
         ·subst c27
          have H1 : (some false) = some r := by rw [if_pos rfl] at H; exact H
          clear H
          have H := H1
          clear H1
          obtain rfl := Option.some.inj H
          go_wp2
          go_ret
          exact ⟨by first | rfl | (simp [errW_none, errW_some] <;> rfl) | (simp [*, errW_none, errW_some] <;> rfl), K1 HB GE101.out⟩
         ·replace c27 := Bool.eq_false_iff.mpr c27
          subst c27
          have H1 : (spec_CacheOk.l1 kj15 l0 x5_2 0 a1_0 l1_1) = some r := by rw [if_neg (show ¬ (false = true) by decide)] at H; exact H
          clear H
          have H := H1
          clear H1
          have H' := Aside0.mk H
          clear H
          go_wp2
          go_loopg [6] kj15 (fun kq v6 w' => ∃ (x6_4 : Int), v6 = .int .i64 x6_4 ∧ Aside0 (spec_CacheOk.l1 kq l0 x5_2 x6_4 a1_0 l1_1 = some r) ∧ Aside0 (kq ≤ kj15) ∧ Aside0 (w'.heap[gb101]? = some (.cells #[.int .i64 a1_0, (.slice A1_1 l1_1.length c1_1)] 46 (0, 0))) ∧ Aside0 (Below w.heap.size w w'))
          case atStart => exact ⟨(0), (by first | rfl | (simp; done) | (simp [*]; done)), H', ⟨Nat.le_refl _⟩, ⟨KB BK101⟩, ⟨K1 HB GE101.out⟩⟩
          case round =>
           clear H'
           try clear c1
           try clear p1
           try clear q1
           try clear hx1
           try clear c2
           try clear p2
           try clear c6
           try clear c7
           try clear c8
           try clear p10
           try clear q10
           try clear hx10
           try clear c14
           try clear c15
           try clear c15b0
           try clear c18
           try clear c18b0
           try clear c19
           try clear c20
           try clear c27
           try clear hcz10_0
           try clear hcz10_1
           try clear hcz12_0
           try clear hcz12_1
           try clear hcz17_0
           try clear hcz17_1
           try clear hfz10_0
           try clear hfz10_1
           try clear hfz12_0
           try clear hfz12_1
           try clear hfz17_0
           try clear hfz17_1
           try clear hx104_0
           try clear hx104_1
           try clear hx104_2
           try clear hx104_3
           try clear hx106_0
           try clear hx106_1
           try clear hx106_2
           try clear hx106_3
           try clear hx107_0
           try clear hx107_1
           try clear hx107_2
           try clear hx107_3
           try clear p1
           try clear p10
           try clear p104
           try clear p106
           try clear p107
           try clear p2
           try clear q1
           try clear q10
           try clear q104
           try clear q106
           try clear q107
           obtain ⟨x6_4, rfl, HA, HK4, BK101, HB⟩ := hrel
           cases gk with
           | zero => exact absurd HA.out (by simp [spec_CacheOk.l1])
           | succ k4 =>
            have H := HA.out
            clear HA
            simp only [spec_CacheOk.l1] at H
            by_cases c28 : x6_4 < x5_2
            ·rw [if_pos c28] at H
             have c28b0 : decide (x6_4 < x5_2) = true := decide_eq_true c28
             clear c28
             by_cases c29 : 0 ≤ x6_4
             ·rw [if_pos c29] at H
              have c29b0 : decide (0 ≤ x6_4) = true := decide_eq_true c29
              clear c29
              by_cases c30 : x6_4 < (l1_1.length : Int)
              ·rw [if_pos c30] at H
               have c30b0 : decide (x6_4 < (l1_1.length : Int)) = true := decide_eq_true c30
               clear c30
               by_cases c31 : 0 ≤ x5_2
               ·rw [if_pos c31] at H
                have c31b0 : decide (0 ≤ x5_2) = true := decide_eq_true c31
                clear c31
                by_cases c32 : x5_2 < (l1_1.length : Int)
                ·rw [if_pos c32] at H
                 have c32b0 : decide (x5_2 < (l1_1.length : Int)) = true := decide_eq_true c32
                 clear c32
                 by_cases c33 : (((rd_T108 l1_1 x6_4).f0.f0) == ((rd_T108 l1_1 x5_2).f0.f0) && (((rd_T108 l1_1 x6_4).f0.f1) == ((rd_T108 l1_1 x5_2).f0.f1) && (((rd_T108 l1_1 x6_4).f0.f2) == ((rd_T108 l1_1 x5_2).f0.f2)))) = true
                 ·rw [if_pos c33] at H
                  have c33b0 : (((rd_T108 l1_1 x6_4).f0.f0) == ((rd_T108 l1_1 x5_2).f0.f0) && (((rd_T108 l1_1 x6_4).f0.f1) == ((rd_T108 l1_1 x5_2).f0.f1) && (((rd_T108 l1_1 x6_4).f0.f2) == ((rd_T108 l1_1 x5_2).f0.f2)))) = true := c33
                  (try (have c33b1 : decide (((rd_T108 l1_1 x6_4).f0.f0) = ((rd_T108 l1_1 x5_2).f0.f0) && (((rd_T108 l1_1 x6_4).f0.f1) == ((rd_T108 l1_1 x5_2).f0.f1) && (((rd_T108 l1_1 x6_4).f0.f2) == ((rd_T108 l1_1 x5_2).f0.f2)))) = true := by simpa using c33))
                  (try (have c33b2 : (((rd_T108 l1_1 x6_4).f0.f0) == ((rd_T108 l1_1 x5_2).f0.f0) && (((rd_T108 l1_1 x6_4).f0.f1) == ((rd_T108 l1_1 x5_2).f0.f1) && (((rd_T108 l1_1 x6_4).f0.f2) == ((rd_T108 l1_1 x5_2).f0.f2)))) = true := by simpa using c33))
                  clear c33
                  obtain rfl := Option.some.inj H
                  try go_wp2
                  replace BK101 := am (blk_drew BK101.out)
                  replace HB := am (below_drew1 HB.out)
                  have p109 : 0 ≤ (x6_4 : Int) := of_decide_eq_true (by first | (with_reducible assumption) | assumption)
                  have q109 : x6_4 < (l1_1.length : Int) := of_decide_eq_true (by first | (with_reducible assumption) | assumption)
                  obtain ⟨ad109, e109, hx109_0, hx109_1, hx109_2, hx109_3⟩ := at_T108 HR1_1.out x6_4 p109 q109
                  have hw109_3 := hx109_3
                  have hw109_2 := hx109_2
                  have hw109_1 := hx109_1
                  have hw109_0 := hx109_0
                  cases e109
                  replace hx109_0 := (HB.out.cell (World.block_lt_of_cell? w _ hx109_0)).trans hx109_0
                  replace hx109_1 := (HB.out.cell (World.block_lt_of_cell? w _ hx109_1)).trans hx109_1
                  replace hx109_2 := (HB.out.cell (World.block_lt_of_cell? w _ hx109_2)).trans hx109_2
                  replace hx109_3 := (HB.out.cell (World.block_lt_of_cell? w _ hx109_3)).trans hx109_3
                  replace p109 := eq_true p109
                  replace q109 := eq_true q109
                  have p110 : 0 ≤ (x5_2 : Int) := of_decide_eq_true (by first | (with_reducible assumption) | assumption)
                  have q110 : x5_2 < (l1_1.length : Int) := of_decide_eq_true (by first | (with_reducible assumption) | assumption)
                  obtain ⟨ad110, e110, hx110_0, hx110_1, hx110_2, hx110_3⟩ := at_T108 HR1_1.out x5_2 p110 q110
                  have hw110_3 := hx110_3
                  have hw110_2 := hx110_2
                  have hw110_1 := hx110_1
                  have hw110_0 := hx110_0
                  obtain rfl : ad109 = ad110 := (by injection e110)
                  replace hx110_0 := (HB.out.cell (World.block_lt_of_cell? w _ hx110_0)).trans hx110_0
                  replace hx110_1 := (HB.out.cell (World.block_lt_of_cell? w _ hx110_1)).trans hx110_1
                  replace hx110_2 := (HB.out.cell (World.block_lt_of_cell? w _ hx110_2)).trans hx110_2
                  replace hx110_3 := (HB.out.cell (World.block_lt_of_cell? w _ hx110_3)).trans hx110_3
                  replace p110 := eq_true p110
                  replace q110 := eq_true q110
                  refine start_ (n := 13) (S := fun w' => w'.cell? ⟨gb101, 0, none⟩ = some (.int .i64 a1_0) ∧ w'.cell? ⟨gb101, 1, none⟩ = some (.slice (some ad109) l1_1.length c1_1) ∧ w'.cell? (ad109.add ((x6_4).toNat * 4)) = some (.int .i64 ((rd_T108 l1_1 x6_4).f0.f0)) ∧ w'.cell? ⟨(ad109.add ((x6_4).toNat * 4)).block, (ad109.add ((x6_4).toNat * 4)).off + 1, none⟩ = some (.int .i64 ((rd_T108 l1_1 x6_4).f0.f1)) ∧ w'.cell? ⟨(ad109.add ((x6_4).toNat * 4)).block, (ad109.add ((x6_4).toNat * 4)).off + 2, none⟩ = some (.int .i64 ((rd_T108 l1_1 x6_4).f0.f2)) ∧ w'.cell? ⟨(ad109.add ((x6_4).toNat * 4)).block, (ad109.add ((x6_4).toNat * 4)).off + 3, none⟩ = some (.int .i64 ((rd_T108 l1_1 x6_4).f1)) ∧ w'.cell? (ad109.add ((x5_2).toNat * 4)) = some (.int .i64 ((rd_T108 l1_1 x5_2).f0.f0)) ∧ w'.cell? ⟨(ad109.add ((x5_2).toNat * 4)).block, (ad109.add ((x5_2).toNat * 4)).off + 1, none⟩ = some (.int .i64 ((rd_T108 l1_1 x5_2).f0.f1)) ∧ w'.cell? ⟨(ad109.add ((x5_2).toNat * 4)).block, (ad109.add ((x5_2).toNat * 4)).off + 2, none⟩ = some (.int .i64 ((rd_T108 l1_1 x5_2).f0.f2)) ∧ w'.cell? ⟨(ad109.add ((x5_2).toNat * 4)).block, (ad109.add ((x5_2).toNat * 4)).off + 3, none⟩ = some (.int .i64 ((rd_T108 l1_1 x5_2).f1))) (ds := []) (tf 0 13) (by kernel_rfl) rfl rfl ⟨z0 _ BK101.out, z1 _ BK101.out, ((HB.out.cell (World.block_lt_of_cell? w _ hw109_0)).trans hw109_0), ((HB.out.cell (World.block_lt_of_cell? w _ hw109_1)).trans hw109_1), ((HB.out.cell (World.block_lt_of_cell? w _ hw109_2)).trans hw109_2), ((HB.out.cell (World.block_lt_of_cell? w _ hw109_3)).trans hw109_3), ((HB.out.cell (World.block_lt_of_cell? w _ hw110_0)).trans hw110_0), ((HB.out.cell (World.block_lt_of_cell? w _ hw110_1)).trans hw110_1), ((HB.out.cell (World.block_lt_of_cell? w _ hw110_2)).trans hw110_2), ((HB.out.cell (World.block_lt_of_cell? w _ hw110_3)).trans hw110_3)⟩ (fun hHeld => ?_); refine with_tabW spec_CacheOk.tab11 spec_CacheOk.bits11 (fun HT_ HW_ => ?_)
                  generalize wr.drew = w34 at BK101 HB hx109_0 hx109_1 hx109_2 hx109_3 hx110_0 hx110_1 hx110_2 hx110_3 hHeld ⊢
                  refine pu 0 (some 61) (tf 1 12) (any_of HT_.out (by kernel_rfl)) ?_
                  refine pu 2 (some 63) #[true, false, true, false, false, false, false, false, false, false, false, false, false] (any_of HT_.out (by kernel_rfl)) ?_
                  refine pu 6 (some 67) #[true, false, true, false, false, false, true, false, false, false, false, false, false] (any_of HT_.out (by kernel_rfl)) ?_
                  refine pu 8 (some 69) #[true, false, true, false, false, false, true, false, true, false, false, false, false] (any_of HT_.out (by kernel_rfl)) ?_
                  refine tk 1 (some 62) #[true, true, true, false, false, false, true, false, true, false, false, false, false] (take_ofW HT_.out HW_.out (by kernel_rfl)) hHeld ?_
                  refine pu 3 (some 64) #[true, true, true, true, false, false, true, false, true, false, false, false, false] (any_of HT_.out (by kernel_rfl)) ?_
                  refine pu 4 (some 65) #[true, true, true, true, true, false, true, false, true, false, false, false, false] (any_of HT_.out (by kernel_rfl)) ?_
                  refine tk 5 (some 66) #[true, true, true, true, true, true, true, false, true, false, false, false, false] (take_ofW HT_.out HW_.out (by kernel_rfl)) hHeld ?_
                  refine tk 7 (some 68) (tf 9 4) (take_ofW HT_.out HW_.out (by kernel_rfl)) hHeld ?_
                  refine pu 9 (some 70) (tf 10 3) (any_of HT_.out (by kernel_rfl)) ?_
                  refine pu 10 (some 71) (tf 11 2) (any_of HT_.out (by kernel_rfl)) ?_
                  refine tk 11 (some 72) (tf 12 1) (take_ofW HT_.out HW_.out (by kernel_rfl)) hHeld ?_
                  refine pu 12 (some 73) (tf 13 0) (any_of HT_.out (by kernel_rfl)) ?_
                  refine done_ (done_of HT_.out (by kernel_rfl)) ?_
                  try go_wp2
                  go_ret
                  exact ⟨by first | rfl | (simp [errW_none, errW_some] <;> rfl) | (simp [*, errW_none, errW_some] <;> rfl), K1 HB GE101.out⟩
                 ·rw [if_neg c33] at H
                  have c33b0 : (((rd_T108 l1_1 x6_4).f0.f0) == ((rd_T108 l1_1 x5_2).f0.f0) && (((rd_T108 l1_1 x6_4).f0.f1) == ((rd_T108 l1_1 x5_2).f0.f1) && (((rd_T108 l1_1 x6_4).f0.f2) == ((rd_T108 l1_1 x5_2).f0.f2)))) = false := by simpa using c33
                  (try (have c33b1 : decide (((rd_T108 l1_1 x6_4).f0.f0) = ((rd_T108 l1_1 x5_2).f0.f0) && (((rd_T108 l1_1 x6_4).f0.f1) == ((rd_T108 l1_1 x5_2).f0.f1) && (((rd_T108 l1_1 x6_4).f0.f2) == ((rd_T108 l1_1 x5_2).f0.f2)))) = false := by simpa using c33))
                  (try (have c33b2 : (((rd_T108 l1_1 x6_4).f0.f0) == ((rd_T108 l1_1 x5_2).f0.f0) && (((rd_T108 l1_1 x6_4).f0.f1) == ((rd_T108 l1_1 x5_2).f0.f1) && (((rd_T108 l1_1 x6_4).f0.f2) == ((rd_T108 l1_1 x5_2).f0.f2)))) = false := by simpa using c33))
                  (try (have c33b3 : ¬ (((rd_T108 l1_1 x6_4).f0.f0) = ((rd_T108 l1_1 x5_2).f0.f0) && (((rd_T108 l1_1 x6_4).f0.f1) == ((rd_T108 l1_1 x5_2).f0.f1) && (((rd_T108 l1_1 x6_4).f0.f2) == ((rd_T108 l1_1 x5_2).f0.f2)))) := by simpa using c33))
                  clear c33
                  have H' := Aside0.mk H
                  clear H
                  try go_wp2
                  replace BK101 := am (blk_drew BK101.out)
                  replace HB := am (below_drew1 HB.out)
                  have p109 : 0 ≤ (x6_4 : Int) := of_decide_eq_true (by first | (with_reducible assumption) | assumption)
                  have q109 : x6_4 < (l1_1.length : Int) := of_decide_eq_true (by first | (with_reducible assumption) | assumption)
                  obtain ⟨ad109, e109, hx109_0, hx109_1, hx109_2, hx109_3⟩ := at_T108 HR1_1.out x6_4 p109 q109
                  have hw109_3 := hx109_3
                  have hw109_2 := hx109_2
                  have hw109_1 := hx109_1
                  have hw109_0 := hx109_0
                  cases e109
                  replace hx109_0 := (HB.out.cell (World.block_lt_of_cell? w _ hx109_0)).trans hx109_0
                  replace hx109_1 := (HB.out.cell (World.block_lt_of_cell? w _ hx109_1)).trans hx109_1
                  replace hx109_2 := (HB.out.cell (World.block_lt_of_cell? w _ hx109_2)).trans hx109_2
                  replace hx109_3 := (HB.out.cell (World.block_lt_of_cell? w _ hx109_3)).trans hx109_3
                  replace p109 := eq_true p109
                  replace q109 := eq_true q109
                  have p110 : 0 ≤ (x5_2 : Int) := of_decide_eq_true (by first | (with_reducible assumption) | assumption)
                  have q110 : x5_2 < (l1_1.length : Int) := of_decide_eq_true (by first | (with_reducible assumption) | assumption)
                  obtain ⟨ad110, e110, hx110_0, hx110_1, hx110_2, hx110_3⟩ := at_T108 HR1_1.out x5_2 p110 q110
                  have hw110_3 := hx110_3
                  have hw110_2 := hx110_2
                  have hw110_1 := hx110_1
                  have hw110_0 := hx110_0
                  obtain rfl : ad109 = ad110 := (by injection e110)
                  replace hx110_0 := (HB.out.cell (World.block_lt_of_cell? w _ hx110_0)).trans hx110_0
                  replace hx110_1 := (HB.out.cell (World.block_lt_of_cell? w _ hx110_1)).trans hx110_1
                  replace hx110_2 := (HB.out.cell (World.block_lt_of_cell? w _ hx110_2)).trans hx110_2
                  replace hx110_3 := (HB.out.cell (World.block_lt_of_cell? w _ hx110_3)).trans hx110_3
                  replace p110 := eq_true p110
                  replace q110 := eq_true q110
                  refine start_ (n := 13) (S := fun w' => w'.cell? ⟨gb101, 0, none⟩ = some (.int .i64 a1_0) ∧ w'.cell? ⟨gb101, 1, none⟩ = some (.slice (some ad109) l1_1.length c1_1) ∧ w'.cell? (ad109.add ((x6_4).toNat * 4)) = some (.int .i64 ((rd_T108 l1_1 x6_4).f0.f0)) ∧ w'.cell? ⟨(ad109.add ((x6_4).toNat * 4)).block, (ad109.add ((x6_4).toNat * 4)).off + 1, none⟩ = some (.int .i64 ((rd_T108 l1_1 x6_4).f0.f1)) ∧ w'.cell? ⟨(ad109.add ((x6_4).toNat * 4)).block, (ad109.add ((x6_4).toNat * 4)).off + 2, none⟩ = some (.int .i64 ((rd_T108 l1_1 x6_4).f0.f2)) ∧ w'.cell? ⟨(ad109.add ((x6_4).toNat * 4)).block, (ad109.add ((x6_4).toNat * 4)).off + 3, none⟩ = some (.int .i64 ((rd_T108 l1_1 x6_4).f1)) ∧ w'.cell? (ad109.add ((x5_2).toNat * 4)) = some (.int .i64 ((rd_T108 l1_1 x5_2).f0.f0)) ∧ w'.cell? ⟨(ad109.add ((x5_2).toNat * 4)).block, (ad109.add ((x5_2).toNat * 4)).off + 1, none⟩ = some (.int .i64 ((rd_T108 l1_1 x5_2).f0.f1)) ∧ w'.cell? ⟨(ad109.add ((x5_2).toNat * 4)).block, (ad109.add ((x5_2).toNat * 4)).off + 2, none⟩ = some (.int .i64 ((rd_T108 l1_1 x5_2).f0.f2)) ∧ w'.cell? ⟨(ad109.add ((x5_2).toNat * 4)).block, (ad109.add ((x5_2).toNat * 4)).off + 3, none⟩ = some (.int .i64 ((rd_T108 l1_1 x5_2).f1))) (ds := []) (tf 0 13) (by kernel_rfl) rfl rfl ⟨z0 _ BK101.out, z1 _ BK101.out, ((HB.out.cell (World.block_lt_of_cell? w _ hw109_0)).trans hw109_0), ((HB.out.cell (World.block_lt_of_cell? w _ hw109_1)).trans hw109_1), ((HB.out.cell (World.block_lt_of_cell? w _ hw109_2)).trans hw109_2), ((HB.out.cell (World.block_lt_of_cell? w _ hw109_3)).trans hw109_3), ((HB.out.cell (World.block_lt_of_cell? w _ hw110_0)).trans hw110_0), ((HB.out.cell (World.block_lt_of_cell? w _ hw110_1)).trans hw110_1), ((HB.out.cell (World.block_lt_of_cell? w _ hw110_2)).trans hw110_2), ((HB.out.cell (World.block_lt_of_cell? w _ hw110_3)).trans hw110_3)⟩ (fun hHeld => ?_); refine with_tabW spec_CacheOk.tab11 spec_CacheOk.bits11 (fun HT_ HW_ => ?_)
                  generalize wr.drew = w35 at BK101 HB hx109_0 hx109_1 hx109_2 hx109_3 hx110_0 hx110_1 hx110_2 hx110_3 hHeld ⊢
                  refine pu 0 (some 61) (tf 1 12) (any_of HT_.out (by kernel_rfl)) ?_
                  refine pu 2 (some 63) #[true, false, true, false, false, false, false, false, false, false, false, false, false] (any_of HT_.out (by kernel_rfl)) ?_
                  refine pu 6 (some 67) #[true, false, true, false, false, false, true, false, false, false, false, false, false] (any_of HT_.out (by kernel_rfl)) ?_
                  refine pu 8 (some 69) #[true, false, true, false, false, false, true, false, true, false, false, false, false] (any_of HT_.out (by kernel_rfl)) ?_
                  refine tk 1 (some 62) #[true, true, true, false, false, false, true, false, true, false, false, false, false] (take_ofW HT_.out HW_.out (by kernel_rfl)) hHeld ?_
                  refine pu 3 (some 64) #[true, true, true, true, false, false, true, false, true, false, false, false, false] (any_of HT_.out (by kernel_rfl)) ?_
                  refine pu 4 (some 65) #[true, true, true, true, true, false, true, false, true, false, false, false, false] (any_of HT_.out (by kernel_rfl)) ?_
                  refine tk 5 (some 66) #[true, true, true, true, true, true, true, false, true, false, false, false, false] (take_ofW HT_.out HW_.out (by kernel_rfl)) hHeld ?_
                  refine tk 7 (some 68) (tf 9 4) (take_ofW HT_.out HW_.out (by kernel_rfl)) hHeld ?_
                  refine pu 9 (some 70) (tf 10 3) (any_of HT_.out (by kernel_rfl)) ?_
                  refine pu 10 (some 71) (tf 11 2) (any_of HT_.out (by kernel_rfl)) ?_
                  refine tk 11 (some 72) (tf 12 1) (take_ofW HT_.out HW_.out (by kernel_rfl)) hHeld ?_
                  refine pu 12 (some 73) (tf 13 0) (any_of HT_.out (by kernel_rfl)) ?_
                  refine done_ (done_of HT_.out (by kernel_rfl)) ?_
                  try go_wp2
                  go_roundg k4
                  case measure => have := HJ2.out; have := HK2.out; have := HJ15.out; have := HK4.out; omega
                  case rel => exact ⟨(wrap64 (x6_4 + 1)), (by first | rfl | (simp; done) | (simp [*]; done)), H', ⟨by have := HJ2.out; have := HK2.out; have := HJ15.out; have := HK4.out; omega⟩, ⟨KB BK101⟩, ⟨K1 HB GE101.out⟩⟩
                ·rw [if_neg c32] at H
                 exact absurd H (by simp)
               ·rw [if_neg c31] at H
                exact absurd H (by simp)
              ·rw [if_neg c30] at H
               exact absurd H (by simp)
             ·rw [if_neg c29] at H
              exact absurd H (by simp)
            ·rw [if_neg c28] at H
             have c28b0 : decide (x6_4 < x5_2) = false := decide_eq_false c28
             clear c28
             have H' := Aside0.mk H
             clear H
             go_wp2
             go_roundg k4
             case measure => have := HJ2.out; have := HK2.out; have := HJ15.out; have := HK4.out; omega
             case rel => exact ⟨(wrap64 (x5_2 + 1)), (by first | rfl | (simp; done) | (simp [*]; done)), H', ⟨by have := HJ2.out; have := HK2.out; have := HJ15.out; have := HK4.out; omega⟩, ⟨KB BK101⟩, ⟨K1 HB GE101.out⟩⟩
      ·rw [if_neg c15] at H
       have c15b0 : decide (x5_2 < (l1_1.length : Int)) = false := decide_eq_false c15
       clear c15
       obtain rfl := Option.some.inj H
       have hcz36_0 := z0 wr BK101.out
       have hcz36_1 := z1 wr BK101.out
       have hfz36_0 := blk_frozen BK101.out 0
       have hfz36_1 := blk_frozen BK101.out 1
       go_wp2
       go_ret
       exact ⟨by first | rfl | (simp [errW_none, errW_some] <;> rfl) | (simp [*, errW_none, errW_some] <;> rfl), K1 HB GE101.out⟩
end Go.Proofs.Ytioghacieopbdaa.PAll
end
section
namespace Go.Proofs.Ytioghacieopbdaa.PAll
open Go.RowKit Go.Proofs.YtioghacieopbdaaW.PrintWords Go.Proofs.YtioghacieopbdaaW.PrintLast Go.Proofs.YtioghacieopbdaaW.PrintMore
attribute [local go_sem] max2_int min2_int max_two min_two max_three min_three max_four min_four   -- for this text's walks alone
set_option linter.unusedVariables false
set_option linter.unusedSimpArgs false
def spec_CacheFind.f (k : Nat) (l0 : List (S34)) (a1_0 : Int) (l1_1 : List (S108)) (a2_0 : Int) (a2_1 : Int) (a2_2 : Int) : Option (Int × (List (S108)) × Int) := (spec_CacheOk.f k l0 a1_0 l1_1).bind fun t104 => (if t104 = true then ((spec_l4Call.f a2_0 a2_1 a2_2).bind fun t105 => (if t105 = true then ((spec_l5Find.f k l0 a1_0 l1_1 a2_0 a2_1 a2_2).bind fun bt106 => (some (bt106.1, bt106.2.1, bt106.2.2))) else ((some (([] : List (S108)) : List (S108))).bind fun y111 => (if y111.length + l1_1.length < 4398046511104 then (some (a1_0, (y111 ++ l1_1), (-1))) else (none))))) else (some (0, ([] : List (S108)), (-1))))
def spec_CacheFind.T4 : Bool × List (List Nat × List Nat) := (true, [([], []), ([0], [0]), ([], []), ([], []), ([3], [3]), ([2, 4], [2, 4]), ([1, 5], [1, 5]), ([6, 5, 0, 1, 2, 3, 4, 5, 6], [6]), ([7, 0, 1, 2, 3, 4, 5, 6, 7], [])])
def spec_CacheFind.B4 : List Nat := [0, 1, 0, 0, 8, 28, 63, 127, 255]
theorem spec_CacheFind.tab4 : rtab .any (opsOf Try.f31 4) = spec_CacheFind.T4 := by kernel_rfl
theorem spec_CacheFind.bits4 : waitsOk spec_CacheFind.T4.2 spec_CacheFind.B4 = true := by kernel_rfl
set_option maxHeartbeats 8000000 in
set_option maxRecDepth 100000 in
theorem spec_CacheFind.calls (k : Nat) (A0 : Option Addr) (c0 : Nat) (l0 : List (S34)) (a1_0 : Int) (A1_1 : Option Addr) (c1_1 : Nat) (l1_1 : List (S108)) (a2_0 : Int) (a2_1 : Int) (a2_2 : Int) (r1 : Int) (r2 : List (S108)) (r3 : Int) (w : World) (hr0 : Kd.C k34 w A0 l0.length l0) (hc0 : l0.length ≤ c0) (hr1_1 : Kd.C k108 w A1_1 l1_1.length l1_1) (hc1_1 : l1_1.length ≤ c1_1) (h : spec_CacheFind.f k l0 a1_0 l1_1 a2_0 a2_1 a2_2 = some (r1, r2, r3)) :
  Calls Try.prog 31 #[.slice A0 l0.length c0, .agg #[.int .i64 a1_0, .slice A1_1 l1_1.length c1_1], .agg #[.int .i64 a2_0, .int .i64 a2_1, .int .i64 a2_2]] w fun e w' => ∃ v1_ : Value, e = .returned (.tuple #[.agg #[.int .i64 r1, v1_], .int .i64 r3]) ∧ Kd.R k108 108 w' w.heap.size (fun _ => True) v1_ r2 ∧ Below w.heap.size w w' := by
 have hu46 := Try.underlying46
 have hu25 := Try.underlying25
 have HR0 := Aside0.mk hr0
 have HC0 := Aside0.mk hc0
 clear hr0 hc0
 have HR1_1 := Aside0.mk hr1_1
 have HC1_1 := Aside0.mk hc1_1
 clear hr1_1 hc1_1
 have HB := am (Below.refl w.heap.size w)
 have H : ((spec_CacheOk.f k l0 a1_0 l1_1).bind fun t104 => (if t104 = true then ((spec_l4Call.f a2_0 a2_1 a2_2).bind fun t105 => (if t105 = true then ((spec_l5Find.f k l0 a1_0 l1_1 a2_0 a2_1 a2_2).bind fun bt106 => (some (bt106.1, bt106.2.1, bt106.2.2))) else ((some (([] : List (S108)) : List (S108))).bind fun y111 => (if y111.length + l1_1.length < 4398046511104 then (some (a1_0, (y111 ++ l1_1), (-1))) else (none))))) else (some (0, ([] : List (S108)), (-1))))) = some (r1, r2, r3) := h
 clear h
 replace H := Option.bind_eq_some_iff.mp H
 obtain ⟨t104, A40, H⟩ := H
 replace H : (if t104 = true then ((spec_l4Call.f a2_0 a2_1 a2_2).bind fun t105 => (if t105 = true then ((spec_l5Find.f k l0 a1_0 l1_1 a2_0 a2_1 a2_2).bind fun bt106 => (some (bt106.1, bt106.2.1, bt106.2.2))) else ((some (([] : List (S108)) : List (S108))).bind fun y111 => (if y111.length + l1_1.length < 4398046511104 then (some (a1_0, (y111 ++ l1_1), (-1))) else (none))))) else (some (0, ([] : List (S108)), (-1)))) = some (r1, r2, r3) := H
 have A4 := Aside0.mk A40
 clear A40
 by_cases c5 : t104 = true
 ·subst c5
  have H1 : ((spec_l4Call.f a2_0 a2_1 a2_2).bind fun t105 => (if t105 = true then ((spec_l5Find.f k l0 a1_0 l1_1 a2_0 a2_1 a2_2).bind fun bt106 => (some (bt106.1, bt106.2.1, bt106.2.2))) else ((some (([] : List (S108)) : List (S108))).bind fun y111 => (if y111.length + l1_1.length < 4398046511104 then (some (a1_0, (y111 ++ l1_1), (-1))) else (none))))) = some (r1, r2, r3) := by rw [if_pos rfl] at H; exact H
  clear H
  have H := H1
  clear H1
  replace H := Option.bind_eq_some_iff.mp H
  obtain ⟨t105, A60, H⟩ := H
  replace H : (if t105 = true then ((spec_l5Find.f k l0 a1_0 l1_1 a2_0 a2_1 a2_2).bind fun bt106 => (some (bt106.1, bt106.2.1, bt106.2.2))) else ((some (([] : List (S108)) : List (S108))).bind fun y111 => (if y111.length + l1_1.length < 4398046511104 then (some (a1_0, (y111 ++ l1_1), (-1))) else (none)))) = some (r1, r2, r3) := H
  have A6 := Aside0.mk A60
  clear A60
  by_cases c7 : t105 = true
  ·subst c7
   have H1 : ((spec_l5Find.f k l0 a1_0 l1_1 a2_0 a2_1 a2_2).bind fun bt106 => (some (bt106.1, bt106.2.1, bt106.2.2))) = some (r1, r2, r3) := by rw [if_pos rfl] at H; exact H
   clear H
   have H := H1
   clear H1
   replace H := Option.bind_eq_some_iff.mp H
   obtain ⟨⟨t106, t107, t110⟩, A80, H⟩ := H
   replace H : (some (t106, t107, t110)) = some (r1, r2, r3) := H
   have A8 := Aside0.mk A80
   clear A80
   simp only [Option.some.injEq, Prod.mk.injEq] at H
   obtain ⟨rfl, rfl, rfl⟩ := H
   go_enter Try.func31, Try.ntmps31
   go_wp2_with (first | ((with_reducible refine gate_dst (N := 4) rfl ?_); refine box_event rfl (N := 4) rfl (cs := #[.int .i64 a1_0, .slice A1_1 l1_1.length c1_1]) (t := 46) BX ?_; intro gb101 hg w9 hbox hb; have BK101 := am (hbox); have GW101 := am ((GL hg (below_size (KL HB)) : w.heap.size ≤ gb101)); have GE101 := GW101; replace HB := am (below_step (KL HB) hb); clear hb hbox hg) | ((with_reducible refine gate_dst (N := 5) rfl ?_); refine box_event rfl (N := 5) rfl (cs := #[.int .i64 a2_0, .int .i64 a2_1, .int .i64 a2_2]) (t := 25) BX ?_; intro gb102 hg w10 hbox hb; have BK102 := am (hbox); have GW102 := am ((GL hg (below_size (K1 HB GE101.out)) : w.heap.size ≤ gb102)); have GE102 := GW102; replace HB := am (below_step (K1 HB GE101.out) hb); have NB101_102 := am (NL BK101 hg); have NB102_101 := am (NG BK101 hg); replace BK101 := am (BB BK101 hb); clear hb hbox hg) | ((with_reducible refine gate_dst (N := 6) rfl ?_); refine box_event rfl (N := 6) rfl (cs := #[.int .i64 0, .slice none 0 0]) (t := 46) BX ?_; intro gb103 hg w11 hbox hb; have BK103 := am (hbox); have GW103 := am ((GL hg (below_size (K2 HB GE101.out GE102.out)) : w.heap.size ≤ gb103)); have GE103 := GW103; replace HB := am (below_step (K2 HB GE101.out GE102.out) hb); have NB101_103 := am (NL BK101 hg); have NB103_101 := am (NG BK101 hg); replace BK101 := am (BB BK101 hb); have NB102_103 := am (NL BK102 hg); have NB103_102 := am (NG BK102 hg); replace BK102 := am (BB BK102 hb); clear hb hbox hg; have hnb12 := NB101_102.out; have hnc12 := NB102_101.out; have hnb13 := NB101_103.out; have hnc13 := NB103_101.out; have hcz14_0 := z0 w11 BK101.out; have hcz14_1 := z1 w11 BK101.out; have hfz14_0 := blk_frozen BK101.out 0; have hfz14_1 := blk_frozen BK101.out 1) | ((with_reducible refine gate_callee (f := 23) rfl ?_); refine goesL_ (some 10) rfl rfl Try.func23 (by kernel_rfl) rfl #[.slice A0 l0.length c0, .agg #[.int .i64 a1_0, .slice A1_1 l1_1.length c1_1]] rfl MT ?_; (with_reducible refine (spec_CacheOk.calls k _ _ l0 a1_0 _ _ l1_1 true _ ?side1 ?side2 ?side3 ?side4 A4.out).mono ?_); (case side1 => exact KC (Kd.C_below HR0.out HB.out)); (case side2 => exact HC0.out); (case side3 => exact KC (Kd.C_below HR1_1.out HB.out)); (case side4 => exact HC1_1.out); rintro e w15 ⟨rfl, hb⟩; refine ⟨_, rfl, ?_⟩; replace BK101 := am (BB BK101 hb); replace BK102 := am (BB BK102 hb); replace BK103 := am (BB BK103 hb); replace HB := am (below_step (K3 HB GE101.out GE102.out GE103.out) hb); (try clear hb); (try clear hb2); (try clear hk); (try clear hi); have hnb16 := NB102_103.out; have hnc16 := NB103_102.out; have hcz17_0 := z0 w15 BK102.out; have hcz17_1 := z1 w15 BK102.out; have hcz17_2 := z2 w15 BK102.out; have hfz17_0 := blk_frozen BK102.out 0; have hfz17_1 := blk_frozen BK102.out 1; have hfz17_2 := blk_frozen BK102.out 2) | ((with_reducible refine gate_callee (f := 75) rfl ?_); refine goesL_ (some 14) rfl rfl Try.func75 (by kernel_rfl) rfl #[.agg #[.int .i64 a2_0, .int .i64 a2_1, .int .i64 a2_2]] rfl MT ?_; (with_reducible refine (spec_l4Call.calls a2_0 a2_1 a2_2 true _ A6.out).mono ?_); rintro e w18 ⟨rfl, hb⟩; refine ⟨_, rfl, ?_⟩; replace BK101 := am (BB BK101 hb); replace BK102 := am (BB BK102 hb); replace BK103 := am (BB BK103 hb); replace HB := am (below_step (K3 HB GE101.out GE102.out GE103.out) hb); (try clear hb); (try clear hb2); (try clear hk); (try clear hi); have hcz19_0 := z0 w18 BK101.out; have hcz19_1 := z1 w18 BK101.out; have hfz19_0 := blk_frozen BK101.out 0; have hfz19_1 := blk_frozen BK101.out 1; have hcz20_0 := z0 w18 BK102.out; have hcz20_1 := z1 w18 BK102.out; have hcz20_2 := z2 w18 BK102.out; have hfz20_0 := blk_frozen BK102.out 0; have hfz20_1 := blk_frozen BK102.out 1; have hfz20_2 := blk_frozen BK102.out 2) | ((with_reducible refine gate_callee (f := 94) rfl ?_); refine goesL_ (some 26) rfl rfl Try.func94 (by kernel_rfl) rfl #[.slice A0 l0.length c0, .agg #[.int .i64 a1_0, .slice A1_1 l1_1.length c1_1], .agg #[.int .i64 a2_0, .int .i64 a2_1, .int .i64 a2_2]] rfl MT ?_; (with_reducible refine (spec_l5Find.calls k _ _ l0 a1_0 _ _ l1_1 a2_0 a2_1 a2_2 t106 t107 t110 _ ?side1 ?side2 ?side3 ?side4 A8.out).mono ?_); (case side1 => exact KC (Kd.C_below HR0.out HB.out)); (case side2 => exact HC0.out); (case side3 => exact KC (Kd.C_below HR1_1.out HB.out)); (case side4 => exact HC1_1.out); rintro e w21 ⟨v108, rfl, ho0, hb⟩; refine ⟨_, rfl, ?_⟩; have HO109 := am (Kd.R_lower ho0 (below_size (K3 HB GE101.out GE102.out GE103.out))); replace BK101 := am (BB BK101 hb); replace BK102 := am (BB BK102 hb); replace BK103 := am (BB BK103 hb); replace HB := am (below_step (K3 HB GE101.out GE102.out GE103.out) hb); (try clear hb); (try clear hb2); (try clear hk); (try clear hi); (try clear ho0); have hcz22_0 := z0 w21 BK103.out; have hcz22_1 := z1 w21 BK103.out; have hfz22_0 := blk_frozen BK103.out 0; have hfz22_1 := blk_frozen BK103.out 1; obtain ⟨Ao23, co23, eo23⟩ := Kd.R_slice HO109.out; subst eo23))
   refine bodyPost_ret (results_ct rfl _ _ gb103 46 #[.int .i64 t106, .slice Ao23 t107.length co23] (0, 0) _ rfl (by (with_reducible repeat (first | refine blk_drewN ?_ _ | refine blk_drew ?_ | refine blk_alloc ?_ _)); refine blk_put (cs := #[.int .i64 t106, .slice none 0 0]) ?_ 1 _ rfl; (with_reducible repeat (first | refine blk_drewN ?_ _ | refine blk_drew ?_ | refine blk_alloc ?_ _)); refine blk_put (cs := #[.int .i64 0, .slice none 0 0]) ?_ 0 _ rfl; (with_reducible repeat (first | refine blk_drewN ?_ _ | refine blk_drew ?_ | refine blk_alloc ?_ _)); exact BK103.out) Try.underlying46 rfl (by kernel_rfl)) rfl ?_
   exact ⟨_, by first | rfl | (simp [errW_none, errW_some] <;> rfl) | (simp [*, errW_none, errW_some] <;> rfl), by (with_reducible repeat (first | apply Kd.R_alloc | apply Kd.R_drewN | apply Kd.R_drew)); exact Kd.R_mono (Kd.R_far (p := ⟨gb103, 1, none⟩) (Kd.R_far (p := ⟨gb103, 0, none⟩) (Kd.R_types HO109.out BK103.out (by decide)) (fun _ hk => hk.2) (.int .i64 t106)) (fun _ hk => hk.2) (.slice Ao23 t107.length co23)) (fun _ hk => trivial), K3 HB GE101.out GE102.out GE103.out⟩
  ·replace c7 := Bool.eq_false_iff.mpr c7
   subst c7
   have H1 : ((some (([] : List (S108)) : List (S108))).bind fun y111 => (if y111.length + l1_1.length < 4398046511104 then (some (a1_0, (y111 ++ l1_1), (-1))) else (none))) = some (r1, r2, r3) := by rw [if_neg (show ¬ (false = true) by decide)] at H; exact H
   clear H
   have H := H1
   clear H1
   obtain ⟨y111, hy111⟩ : ∃ y_ : List (S108), y_ = (([] : List (S108))) := ⟨_, rfl⟩
   replace H : (if y111.length + l1_1.length < 4398046511104 then (some (a1_0, (y111 ++ l1_1), (-1))) else (none)) = some (r1, r2, r3) := by first | (rw [hy111]; with_reducible exact H) | (have H2_ := (Option.bind_some _ _).symm.trans H; rw [hy111]; with_reducible exact H2_) | (have H2_ := (Option.bind_some _ _).symm.trans H; with_reducible exact H2_) | with_reducible exact H | (rw [hy111]; exact H) | exact H
   have Ny111 := Aside0.mk hy111
   clear hy111
   by_cases c24 : y111.length + l1_1.length < 4398046511104
   ·rw [if_pos c24] at H
    have LMc24 := Aside0.mk c24
    clear c24
    obtain ⟨y114, hy114⟩ : ∃ y_ : List (S108), y_ = (y111 ++ l1_1) := ⟨_, rfl⟩
    replace H : (some (a1_0, y114, (-1))) = some (r1, r2, r3) := by first | (rw [hy114]; with_reducible exact H) | (have H2_ := (Option.bind_some _ _).symm.trans H; rw [hy114]; with_reducible exact H2_) | (have H2_ := (Option.bind_some _ _).symm.trans H; with_reducible exact H2_) | with_reducible exact H | (rw [hy114]; exact H) | exact H
    have Ny114 := Aside0.mk hy114
    clear hy114
    simp only [Option.some.injEq, Prod.mk.injEq] at H
    obtain ⟨rfl, rfl, rfl⟩ := H
    go_enter Try.func31, Try.ntmps31
    try go_wp2_with (first | ((with_reducible refine gate_dst (N := 4) rfl ?_); refine box_event rfl (N := 4) rfl (cs := #[.int .i64 a1_0, .slice A1_1 l1_1.length c1_1]) (t := 46) BX ?_; intro gb101 hg w25 hbox hb; have BK101 := am (hbox); have GW101 := am ((GL hg (below_size (KL HB)) : w.heap.size ≤ gb101)); have GE101 := GW101; replace HB := am (below_step (KL HB) hb); clear hb hbox hg) | ((with_reducible refine gate_dst (N := 5) rfl ?_); refine box_event rfl (N := 5) rfl (cs := #[.int .i64 a2_0, .int .i64 a2_1, .int .i64 a2_2]) (t := 25) BX ?_; intro gb102 hg w26 hbox hb; have BK102 := am (hbox); have GW102 := am ((GL hg (below_size (K1 HB GE101.out)) : w.heap.size ≤ gb102)); have GE102 := GW102; replace HB := am (below_step (K1 HB GE101.out) hb); have NB101_102 := am (NL BK101 hg); have NB102_101 := am (NG BK101 hg); replace BK101 := am (BB BK101 hb); clear hb hbox hg) | ((with_reducible refine gate_dst (N := 6) rfl ?_); refine box_event rfl (N := 6) rfl (cs := #[.int .i64 0, .slice none 0 0]) (t := 46) BX ?_; intro gb103 hg w27 hbox hb; have BK103 := am (hbox); have GW103 := am ((GL hg (below_size (K2 HB GE101.out GE102.out)) : w.heap.size ≤ gb103)); have GE103 := GW103; replace HB := am (below_step (K2 HB GE101.out GE102.out) hb); have NB101_103 := am (NL BK101 hg); have NB103_101 := am (NG BK101 hg); replace BK101 := am (BB BK101 hb); have NB102_103 := am (NL BK102 hg); have NB103_102 := am (NG BK102 hg); replace BK102 := am (BB BK102 hb); clear hb hbox hg; have hnb28 := NB101_102.out; have hnc28 := NB102_101.out; have hnb29 := NB101_103.out; have hnc29 := NB103_101.out; have hcz30_0 := z0 w27 BK101.out; have hcz30_1 := z1 w27 BK101.out; have hfz30_0 := blk_frozen BK101.out 0; have hfz30_1 := blk_frozen BK101.out 1) | ((with_reducible refine gate_callee (f := 23) rfl ?_); refine goesL_ (some 10) rfl rfl Try.func23 (by kernel_rfl) rfl #[.slice A0 l0.length c0, .agg #[.int .i64 a1_0, .slice A1_1 l1_1.length c1_1]] rfl MT ?_; (with_reducible refine (spec_CacheOk.calls k _ _ l0 a1_0 _ _ l1_1 true _ ?side1 ?side2 ?side3 ?side4 A4.out).mono ?_); (case side1 => exact KC (Kd.C_below HR0.out HB.out)); (case side2 => exact HC0.out); (case side3 => exact KC (Kd.C_below HR1_1.out HB.out)); (case side4 => exact HC1_1.out); rintro e w31 ⟨rfl, hb⟩; refine ⟨_, rfl, ?_⟩; replace BK101 := am (BB BK101 hb); replace BK102 := am (BB BK102 hb); replace BK103 := am (BB BK103 hb); replace HB := am (below_step (K3 HB GE101.out GE102.out GE103.out) hb); (try clear hb); (try clear hb2); (try clear hk); (try clear hi); have hnb32 := NB102_103.out; have hnc32 := NB103_102.out; have hcz33_0 := z0 w31 BK102.out; have hcz33_1 := z1 w31 BK102.out; have hcz33_2 := z2 w31 BK102.out; have hfz33_0 := blk_frozen BK102.out 0; have hfz33_1 := blk_frozen BK102.out 1; have hfz33_2 := blk_frozen BK102.out 2) | ((with_reducible refine gate_callee (f := 75) rfl ?_); refine goesL_ (some 14) rfl rfl Try.func75 (by kernel_rfl) rfl #[.agg #[.int .i64 a2_0, .int .i64 a2_1, .int .i64 a2_2]] rfl MT ?_; (with_reducible refine (spec_l4Call.calls a2_0 a2_1 a2_2 false _ A6.out).mono ?_); rintro e w34 ⟨rfl, hb⟩; refine ⟨_, rfl, ?_⟩; replace BK101 := am (BB BK101 hb); replace BK102 := am (BB BK102 hb); replace BK103 := am (BB BK103 hb); replace HB := am (below_step (K3 HB GE101.out GE102.out GE103.out) hb); (try clear hb); (try clear hb2); (try clear hk); (try clear hi)))
    replace BK101 := am (blk_drew BK101.out)
    replace BK102 := am (blk_drew BK102.out)
    replace BK103 := am (blk_drew BK103.out)
    replace HB := am (below_drew1 HB.out)
    refine start_ (n := 9) (S := fun w' => w'.cell? ⟨gb101, 0, none⟩ = some (.int .i64 a1_0) ∧ w'.cell? ⟨gb101, 1, none⟩ = some (.slice A1_1 l1_1.length c1_1)) (ds := []) (tf 0 9) (by kernel_rfl) rfl rfl ⟨z0 _ BK101.out, z1 _ BK101.out⟩ (fun hHeld => ?_); refine with_tabW spec_CacheFind.tab4 spec_CacheFind.bits4 (fun HT_ HW_ => ?_)
    generalize w34.drew = w35 at BK101 BK102 BK103 HB hHeld ⊢
    refine pu 0 (some 16) (tf 1 8) (any_of HT_.out (by kernel_rfl)) ?_
    refine pu 3 (some 19) #[true, false, false, true, false, false, false, false, false] (any_of HT_.out (by kernel_rfl)) ?_
    refine tk 1 (some 17) #[true, true, false, true, false, false, false, false, false] (take_ofW HT_.out HW_.out (by kernel_rfl)) hHeld ?_
    refine tk 4 (some 20) #[true, true, false, true, true, false, false, false, false] (take_ofW HT_.out HW_.out (by kernel_rfl)) hHeld ?_
    refine one_ (i := 2) (N := some 18) (tf 5 4) rfl rfl (one_of HT_.out (by kernel_rfl)) (by decide) (fun K hK => ?_)
    refine Kd.R_lit_step k108 _ 108 ?hg (N := 18) ?hd (xs := ([] : List (S108))) (inner := []) (ok := fun _ => True) (okp := fun _ => True) ?hr ?hp (fun _ hk => hk) trivial (Below.refl _ _) (Nat.le_refl _) (by simp) ?_; (case hd => rfl); (case hg => rfl); (case hr => first | (go_simp; done) | (go_simp; rfl)); (case hp => exact (Reps.none _ _))
    intro v112 w36 ho37 hb hg_ hnew_
    clear hg_ hnew_
    (first | rw [← Ny111.out] at ho37 | (simp only [Int.reduceToNat] at ho37; rw [← Ny111.out] at ho37))
    have HO113 := am (Kd.R_lower ho37 (below_size (K3 HB GE101.out GE102.out GE103.out)))
    replace BK101 := am (BB BK101 hb)
    replace BK102 := am (BB BK102 hb)
    replace BK103 := am (BB BK103 hb)
    replace HB := am (below_step (K3 HB GE101.out GE102.out GE103.out) hb)
    clear hb ho37
    refine hK.out _ _ ⟨z0 _ BK101.out, z1 _ BK101.out⟩ (fun hHeld => ?_)
    clear hK K
    refine norm_ (a' := ?_) ?_ ?_
    rotate_left
    ·show Act.put _ (some 18) _ = _
     simp only [Act.put, List.setIfInBounds_toArray, List.set_cons_zero, List.set_cons_succ, i64_w, i32_w]
     rfl
    refine one_ (i := 5) (N := some 21) (tf 6 3) rfl rfl (one_of HT_.out (by kernel_rfl)) (by decide) (fun K hK => ?_)
    refine Kd.R_append_rows_step k108 (w0 := w) w.heap.size (by rfl) (.tmp 18) (.tmp 20) 44 108 (.agg #[(.int .i64 0), (.int .i64 0), (.int .i64 0), (.int .i64 0)]) 32 rfl Try.underlying44 info108 rfl (by decide) (by omega) v112 y111 l1_1 _ _ _ (fun _ => True) (fun _ => False) rfl rfl ?aO ?aR (fun _ _ h => h) (fun _ h => h.elim) ?aF ?aB ?aS ?aL ?_
    (case aR => exact KC (Kd.C_below HR1_1.out HB.out))
    (case aB => exact (K3 HB GE101.out GE102.out GE103.out))
    (case aF => exact (fun _ _ => trivial))
    (case aO => exact (KR HO113))
    (case aS => exact (below_size (K3 HB GE101.out GE102.out GE103.out)))
    (case aL => have := LMc24.out; omega)
    intro v115 w38 ho hb hg hat
    rw [← Ny114.out] at ho
    replace BK101 := am (blk_grown (g := gb101) (o := .cells #[.int .i64 a1_0, .slice A1_1 l1_1.length c1_1] 46 (0, 0)) (KB BK101) hg (Kd.R_ne HO113.out BK101.out (by decide)))
    replace BK102 := am (blk_grown (g := gb102) (o := .cells #[.int .i64 a2_0, .int .i64 a2_1, .int .i64 a2_2] 25 (0, 0)) (KB BK102) hg (Kd.R_ne HO113.out BK102.out (by decide)))
    replace BK103 := am (blk_grown (g := gb103) (o := .cells #[.int .i64 0, .slice none 0 0] 46 (0, 0)) (KB BK103) hg (Kd.R_ne HO113.out BK103.out (by decide)))
    replace HB := am (hb)
    have HO116 := am (ho)
    clear HO113
    clear ho hb hg hat
    obtain ⟨Ao39, co39, eo39⟩ := Kd.R_slice HO116.out
    (first | subst eo39 | (injection eo39 with f1_ f2_ f3_; have f4_ := f1_.symm; have f5_ := f3_.symm; clear f1_ f2_ f3_; subst f4_; subst f5_))
    refine hK.out _ _ ⟨z0 _ BK101.out, z1 _ BK101.out⟩ (fun hHeld => ?_)
    clear hK K
    refine norm_ (a' := ?_) ?_ ?_
    rotate_left
    ·show Act.put _ (some 21) _ = _
     simp only [Act.put, List.setIfInBounds_toArray, List.set_cons_zero, List.set_cons_succ, i64_w, i32_w]
     rfl
    refine pu 6 (some 22) (tf 7 2) (any_of HT_.out (by kernel_rfl)) ?_
    refine one_ (i := 7) (N := none) (tf 8 1) rfl rfl (one_of HT_.out (by kernel_rfl)) (by decide) (fun K hK => ?_)
    have hs40 : w38.cell? ⟨gb103, 0, none⟩ = some (.int .i64 0) := z0 _ BK103.out
    have hfs40 := blk_frozen BK103.out 0
    have hns40_0 := NB101_103.out
    have hns40_1 := NB102_103.out
    have hms40_0 := NB103_101.out
    have hms40_1 := NB103_102.out
    have hs41 : w38.cell? ⟨gb103, 1, none⟩ = some (.slice none 0 0) := z1 _ BK103.out
    have hfs41 := blk_frozen BK103.out 1
    have hns41_0 := NB101_103.out
    have hns41_1 := NB102_103.out
    have hms41_0 := NB103_101.out
    have hms41_1 := NB103_102.out
    refine skip_ (w1 := ?_) (by rfl) rfl ?_ ?_
    rotate_left
    ·go_simp
     rfl
    refine hK.out _ _ ⟨((cell_far (p := ⟨gb103, _, none⟩) NB101_103.out _).trans (((cell_far (p := ⟨gb103, _, none⟩) NB101_103.out _).trans (hHeld.1)))), ((cell_far (p := ⟨gb103, _, none⟩) NB101_103.out _).trans (((cell_far (p := ⟨gb103, _, none⟩) NB101_103.out _).trans (hHeld.2))))⟩ (fun hHeld => ?_)
    clear hK K
    refine pu 8 (some 7) (tf 9 0) (any_of HT_.out (by kernel_rfl)) ?_
    refine done_ (done_of HT_.out (by kernel_rfl)) ?_
    try go_wp2
    refine bodyPost_ret (results_ct rfl _ _ gb103 46 #[.int .i64 a1_0, .slice Ao39 y114.length co39] (0, 0) _ rfl (by (with_reducible repeat (first | refine blk_drewN ?_ _ | refine blk_drew ?_ | refine blk_alloc ?_ _)); refine blk_put (cs := #[.int .i64 a1_0, .slice none 0 0]) ?_ 1 _ rfl; (with_reducible repeat (first | refine blk_drewN ?_ _ | refine blk_drew ?_ | refine blk_alloc ?_ _)); refine blk_put (cs := #[.int .i64 0, .slice none 0 0]) ?_ 0 _ rfl; (with_reducible repeat (first | refine blk_drewN ?_ _ | refine blk_drew ?_ | refine blk_alloc ?_ _)); exact BK103.out) Try.underlying46 rfl (by kernel_rfl)) rfl ?_
    exact ⟨_, by first | rfl | (simp [errW_none, errW_some] <;> rfl) | (simp [*, errW_none, errW_some] <;> rfl), by (with_reducible repeat (first | apply Kd.R_alloc | apply Kd.R_drewN | apply Kd.R_drew)); exact Kd.R_mono (Kd.R_far (p := ⟨gb103, 1, none⟩) (Kd.R_far (p := ⟨gb103, 0, none⟩) (Kd.R_types HO116.out BK103.out (by decide)) (fun _ hk => hk.2) (.int .i64 a1_0)) (fun _ hk => hk.2) (.slice Ao39 y114.length co39)) (fun _ hk => trivial), K3 HB GE101.out GE102.out GE103.out⟩
   ·rw [if_neg c24] at H
    exact absurd H (by simp)
 ·replace c5 := Bool.eq_false_iff.mpr c5
  subst c5
  have H1 : (some (0, ([] : List (S108)), (-1))) = some (r1, r2, r3) := by rw [if_neg (show ¬ (false = true) by decide)] at H; exact H
  clear H
  have H := H1
  clear H1
  simp only [Option.some.injEq, Prod.mk.injEq] at H
  obtain ⟨rfl, rfl, rfl⟩ := H
  go_enter Try.func31, Try.ntmps31
  go_wp2_with (first | ((with_reducible refine gate_dst (N := 4) rfl ?_); refine box_event rfl (N := 4) rfl (cs := #[.int .i64 a1_0, .slice A1_1 l1_1.length c1_1]) (t := 46) BX ?_; intro gb101 hg w42 hbox hb; have BK101 := am (hbox); have GW101 := am ((GL hg (below_size (KL HB)) : w.heap.size ≤ gb101)); have GE101 := GW101; replace HB := am (below_step (KL HB) hb); clear hb hbox hg) | ((with_reducible refine gate_dst (N := 5) rfl ?_); refine box_event rfl (N := 5) rfl (cs := #[.int .i64 a2_0, .int .i64 a2_1, .int .i64 a2_2]) (t := 25) BX ?_; intro gb102 hg w43 hbox hb; have BK102 := am (hbox); have GW102 := am ((GL hg (below_size (K1 HB GE101.out)) : w.heap.size ≤ gb102)); have GE102 := GW102; replace HB := am (below_step (K1 HB GE101.out) hb); have NB101_102 := am (NL BK101 hg); have NB102_101 := am (NG BK101 hg); replace BK101 := am (BB BK101 hb); clear hb hbox hg) | ((with_reducible refine gate_dst (N := 6) rfl ?_); refine box_event rfl (N := 6) rfl (cs := #[.int .i64 0, .slice none 0 0]) (t := 46) BX ?_; intro gb103 hg w44 hbox hb; have BK103 := am (hbox); have GW103 := am ((GL hg (below_size (K2 HB GE101.out GE102.out)) : w.heap.size ≤ gb103)); have GE103 := GW103; replace HB := am (below_step (K2 HB GE101.out GE102.out) hb); have NB101_103 := am (NL BK101 hg); have NB103_101 := am (NG BK101 hg); replace BK101 := am (BB BK101 hb); have NB102_103 := am (NL BK102 hg); have NB103_102 := am (NG BK102 hg); replace BK102 := am (BB BK102 hb); clear hb hbox hg; have hnb45 := NB101_102.out; have hnc45 := NB102_101.out; have hnb46 := NB101_103.out; have hnc46 := NB103_101.out; have hcz47_0 := z0 w44 BK101.out; have hcz47_1 := z1 w44 BK101.out; have hfz47_0 := blk_frozen BK101.out 0; have hfz47_1 := blk_frozen BK101.out 1) | ((with_reducible refine gate_callee (f := 23) rfl ?_); refine goesL_ (some 10) rfl rfl Try.func23 (by kernel_rfl) rfl #[.slice A0 l0.length c0, .agg #[.int .i64 a1_0, .slice A1_1 l1_1.length c1_1]] rfl MT ?_; (with_reducible refine (spec_CacheOk.calls k _ _ l0 a1_0 _ _ l1_1 false _ ?side1 ?side2 ?side3 ?side4 A4.out).mono ?_); (case side1 => exact KC (Kd.C_below HR0.out HB.out)); (case side2 => exact HC0.out); (case side3 => exact KC (Kd.C_below HR1_1.out HB.out)); (case side4 => exact HC1_1.out); rintro e w48 ⟨rfl, hb⟩; refine ⟨_, rfl, ?_⟩; replace BK101 := am (BB BK101 hb); replace BK102 := am (BB BK102 hb); replace BK103 := am (BB BK103 hb); replace HB := am (below_step (K3 HB GE101.out GE102.out GE103.out) hb); (try clear hb); (try clear hb2); (try clear hk); (try clear hi); have hnb49 := NB103_102.out; have hnc49 := NB102_103.out; have hcz50_0 := z0 w48 BK103.out; have hcz50_1 := z1 w48 BK103.out; have hfz50_0 := blk_frozen BK103.out 0; have hfz50_1 := blk_frozen BK103.out 1))
  refine bodyPost_ret (results_ct rfl _ _ gb103 46 #[.int .i64 0, .slice none 0 0] (0, 0) _ rfl (by (with_reducible repeat (first | refine blk_drewN ?_ _ | refine blk_drew ?_ | refine blk_alloc ?_ _)); refine blk_put (cs := #[.int .i64 0, .slice none 0 0]) ?_ 1 _ rfl; (with_reducible repeat (first | refine blk_drewN ?_ _ | refine blk_drew ?_ | refine blk_alloc ?_ _)); refine blk_put (cs := #[.int .i64 0, .slice none 0 0]) ?_ 0 _ rfl; (with_reducible repeat (first | refine blk_drewN ?_ _ | refine blk_drew ?_ | refine blk_alloc ?_ _)); exact BK103.out) Try.underlying46 rfl (by kernel_rfl)) rfl ?_
  exact ⟨_, by first | rfl | (simp [errW_none, errW_some] <;> rfl) | (simp [*, errW_none, errW_some] <;> rfl), by first | exact Kd.R_nil _ _ _ _ _ | exact Kd.N_nil _ _ _ _ _ | exact Kd.V_nil _ _ _ _ _ | exact Kd.Q_nil _ _ _ _ _ | exact Kd.S_nil _ _ _ _ _, K3 HB GE101.out GE102.out GE103.out⟩
end Go.Proofs.Ytioghacieopbdaa.PAll
end
section
namespace Go.Proofs.Ytioghacieopbdaa.PAll
open Go.RowKit Go.Proofs.YtioghacieopbdaaW.PrintWords Go.Proofs.YtioghacieopbdaaW.PrintLast Go.Proofs.YtioghacieopbdaaW.PrintMore
attribute [local go_sem] max2_int min2_int max_two min_two max_three min_three max_four min_four   -- for this text's walks alone
set_option linter.unusedVariables false
set_option linter.unusedSimpArgs false
mutual
def spec_CacheRun.j0 : Nat → List (S34) → List (S25) → List Int → Bool → Int → Option (List Int)
 | 0, _, _, _, _, _ => none
 | k + 1, x0, x2, x7, x23, x105000 => if x23 = true then (some x7) else (spec_CacheRun.l0 k x0 x2 x7 0 x105000 ([] : List (S108)))
def spec_CacheRun.l0 : Nat → List (S34) → List (S25) → List Int → Int → Int → List (S108) → Option (List Int)
 | 0, _, _, _, _, _, _ => none
 | k + 1, x0, x2, x7, x9, x105000, x105001 => if x9 < (x2.length : Int) then (if 0 ≤ x9 then ((spec_CacheFind.f k x0 x105000 x105001 ((rd_T25 x2 x9).f0) ((rd_T25 x2 x9).f1) ((rd_T25 x2 x9).f2)).bind fun bt107 => (if x7.length < 17592186044416 then (spec_CacheRun.l0 k x0 x2 (x7 ++ [bt107.2.2]) (wrap64 (x9 + 1)) bt107.1 bt107.2.1) else (none))) else (none)) else (some x7)
end
def spec_CacheRun.f (k : Nat) (l0 : List (S34)) (a1 : Int) (l2 : List (S25)) : Option (List Int) := (some (([] : List Int) : List Int)).bind fun y101 => ((spec_CacheOk.f k l0 a1 ([] : List (S108))).bind fun t105 => (if t105 = true then (spec_CacheRun.j0 k l0 l2 y101 (decide ((l2.length : Int) > 60)) a1) else (spec_CacheRun.j0 k l0 l2 y101 true a1)))
def spec_CacheRun.T8 : Bool × List (List Nat × List Nat) := (true, [([], []), ([], []), ([], []), ([], []), ([2, 3], [2, 3]), ([4], [4]), ([0, 1, 5], [0, 1, 5]), ([6], [6]), ([7], [7]), ([7], [7]), ([], []), ([10, 8, 6, 0, 1, 2, 3, 4, 5, 6, 7, 8, 10], [8, 10]), ([9, 11, 0, 1, 2, 3, 4, 5, 6, 7, 8, 9, 10, 11], [9])])
def spec_CacheRun.B8 : List Nat := [0, 0, 0, 0, 12, 28, 63, 127, 255, 255, 0, 1535, 4095]
theorem spec_CacheRun.tab8 : rtab .any (opsOf Try.f36 8) = spec_CacheRun.T8 := by kernel_rfl
theorem spec_CacheRun.bits8 : waitsOk spec_CacheRun.T8.2 spec_CacheRun.B8 = true := by kernel_rfl
set_option maxHeartbeats 8000000 in
set_option maxRecDepth 100000 in
theorem spec_CacheRun.calls (k : Nat) (A0 : Option Addr) (c0 : Nat) (l0 : List (S34)) (a1 : Int) (A2 : Option Addr) (c2 : Nat) (l2 : List (S25)) (r : List Int) (w : World) (hr0 : Kd.C k34 w A0 l0.length l0) (hc0 : l0.length ≤ c0) (hr2 : Kd.C k25 w A2 l2.length l2) (hc2 : l2.length ≤ c2) (h : spec_CacheRun.f k l0 a1 l2 = some r) :
  Calls Try.prog 36 #[.slice A0 l0.length c0, .int .i64 a1, .slice A2 l2.length c2] w fun e w' => ∃ v0_ : Value, e = .returned (v0_) ∧ Kd.R (Kd.int .i64) 3 w' w.heap.size (fun _ => True) v0_ r ∧ Below w.heap.size w w' := by
 have hu46 := Try.underlying46
 have hu25 := Try.underlying25
 have HR0 := Aside0.mk hr0
 have HC0 := Aside0.mk hc0
 clear hr0 hc0
 have HR2 := Aside0.mk hr2
 have HC2 := Aside0.mk hc2
 clear hr2 hc2
 have HB := am (Below.refl w.heap.size w)
 have H : ((some (([] : List Int) : List Int)).bind fun y101 => ((spec_CacheOk.f k l0 a1 ([] : List (S108))).bind fun t105 => (if t105 = true then (spec_CacheRun.j0 k l0 l2 y101 (decide ((l2.length : Int) > 60)) a1) else (spec_CacheRun.j0 k l0 l2 y101 true a1)))) = some r := h
 clear h
 obtain ⟨y101, hy101⟩ : ∃ y_ : List Int, y_ = (([] : List Int)) := ⟨_, rfl⟩
 replace H : ((spec_CacheOk.f k l0 a1 ([] : List (S108))).bind fun t105 => (if t105 = true then (spec_CacheRun.j0 k l0 l2 y101 (decide ((l2.length : Int) > 60)) a1) else (spec_CacheRun.j0 k l0 l2 y101 true a1))) = some r := by first | (rw [hy101]; with_reducible exact H) | (have H2_ := (Option.bind_some _ _).symm.trans H; rw [hy101]; with_reducible exact H2_) | (have H2_ := (Option.bind_some _ _).symm.trans H; with_reducible exact H2_) | with_reducible exact H | (rw [hy101]; exact H) | exact H
 have Ny101 := Aside0.mk hy101
 clear hy101
 have HC4 := Aside0.mk H
 clear H
 go_enter Try.func36, Try.ntmps36
 go_upto_region 3 with (first | ((with_reducible refine gate_dst (N := 12) rfl ?_); (try (refine gate_guard (by rfl) ?_; dsimp only)); refine Kd.R_lit (Kd.int .i64) _ 3 ?hg (N := 12) ?hd (xs := ([] : List Int)) (inner := []) (ok := fun _ => True) (okp := fun _ => True) ?hr ?hp (fun _ hk => hk) trivial (Below.refl _ _) (Nat.le_refl _) (by simp) ?_; (case hd => rfl); (case hg => rfl); (case hr => first | (go_simp; done) | (go_simp; rfl)); (case hp => exact (Reps.none _ _)); intro v102 w5 ho6 hb hg_ hnew_; clear hg_ hnew_; (first | rw [← Ny101.out] at ho6 | (simp only [Int.reduceToNat] at ho6; rw [← Ny101.out] at ho6)); have HO103 := am (Kd.R_lower ho6 (below_size (KL HB))); replace HB := am (below_step (KL HB) hb); clear hb ho6) | ((with_reducible refine gate_dst (N := 8) rfl ?_); (try (refine gate_guard (by rfl) ?_; dsimp only)); refine box_event rfl (N := 8) rfl (cs := #[.int .i64 0, .slice none 0 0]) (t := 46) BX ?_; intro gb104 hg w7 hbox hb; replace HO103 := am (Kd.R_below (KR HO103) hb); have BK104 := am (hbox); have GW104 := am ((GL hg (below_size (KL HB)) : w.heap.size ≤ gb104)); have GE104 := GW104; replace HB := am (below_step (KL HB) hb); clear hb hbox hg; have hcz8_0 := z0 w7 BK104.out; have hcz8_1 := z1 w7 BK104.out; have hfz8_0 := blk_frozen BK104.out 0; have hfz8_1 := blk_frozen BK104.out 1))
 (try simp only [Act.put, List.setIfInBounds_toArray, List.set_cons_zero, List.set_cons_succ])
 go_cut [23] (fun v23 wc => ∃ (kq : Nat) (x23_3 : Bool), v23 = .bool x23_3 ∧ Aside0 (spec_CacheRun.j0 kq l0 l2 y101 x23_3 a1 = some r) ∧ Aside0 (kq ≤ k) ∧ Aside0 (Kd.R (Kd.int .i64) 3 wc w.heap.size (fun _ => True) v102 y101) ∧ Aside0 (wc.heap[gb104]? = some (.cells #[.int .i64 a1, (.slice none 0 0)] 46 (0, 0))) ∧ Aside0 (Below w.heap.size w wc))
 case first =>
  have H := HC4.out
  clear HC4
  replace H := Option.bind_eq_some_iff.mp H
  obtain ⟨t105, A90, H⟩ := H
  replace H : (if t105 = true then (spec_CacheRun.j0 k l0 l2 y101 (decide ((l2.length : Int) > 60)) a1) else (spec_CacheRun.j0 k l0 l2 y101 true a1)) = some r := H
  have A9 := Aside0.mk A90
  clear A90
  by_cases c10 : t105 = true
  ·subst c10
   have H1 : (spec_CacheRun.j0 k l0 l2 y101 (decide ((l2.length : Int) > 60)) a1) = some r := by rw [if_pos rfl] at H; exact H
   clear H
   have H := H1
   clear H1
   have H' := Aside0.mk H
   clear H
   have hcz11_0 := z0 w7 BK104.out
   have hcz11_1 := z1 w7 BK104.out
   have hfz11_0 := blk_frozen BK104.out 0
   have hfz11_1 := blk_frozen BK104.out 1
   go_wp2_with (first | ((with_reducible refine gate_callee (f := 23) rfl ?_); refine goesL_ (some 17) rfl rfl Try.func23 (by kernel_rfl) rfl #[.slice A0 l0.length c0, .agg #[.int .i64 a1, .slice none 0 0]] rfl MT ?_; (refine (spec_CacheOk.calls k _ _ l0 a1 _ _ ([] : List (S108)) true _ ?side1 ?side2 ?side3 ?side4 A9.out).mono ?_); (case side1 => exact Kd.C_below HR0.out (K1 HB GE104.out)); (case side2 => exact HC0.out); (case side3 => exact Kd.C_nil _ _); (case side4 => exact Nat.le_refl _); rintro e w12 ⟨rfl, hb⟩; refine ⟨_, rfl, ?_⟩; replace HO103 := am (Kd.R_below (by (with_reducible repeat (first | apply Kd.R_alloc | apply Kd.R_drewN | apply Kd.R_drew)); exact (Kd.R_mono (Kd.R_far (p := ⟨gb104, 1, none⟩) (Kd.R_far (p := ⟨gb104, 0, none⟩) (Kd.R_types HO103.out BK104.out (by decide)) (fun _ hk => hk.2) (.int .i64 a1)) (fun _ hk => hk.2) (.slice none 0 0)) (fun _ h_ => h_.1))) hb); replace BK104 := am (blk_below (g := gb104) (o := .cells #[.int .i64 a1, .slice none 0 0] 46 (0, 0)) (by (with_reducible repeat (first | refine blk_drewN ?_ _ | refine blk_drew ?_ | refine blk_alloc ?_ _)); refine blk_put (cs := #[.int .i64 a1, .slice none 0 0]) ?_ 1 _ rfl; (with_reducible repeat (first | refine blk_drewN ?_ _ | refine blk_drew ?_ | refine blk_alloc ?_ _)); refine blk_put (cs := #[.int .i64 0, .slice none 0 0]) ?_ 0 _ rfl; (with_reducible repeat (first | refine blk_drewN ?_ _ | refine blk_drew ?_ | refine blk_alloc ?_ _)); exact BK104.out) hb); replace HB := am (below_step (K1 HB GE104.out) hb); (try clear hb); (try clear hb2); (try clear hk); (try clear hi)))
   go_meet
   case rel => exact ⟨_, (decide ((l2.length : Int) > 60)), (by first | rfl | (simp; done) | (simp [*]; done)), H', ⟨by first | omega | exact Nat.le_refl _⟩, ⟨KR HO103⟩, ⟨KB BK104⟩, ⟨K1 HB GE104.out⟩⟩
  ·replace c10 := Bool.eq_false_iff.mpr c10
   subst c10
   have H1 : (spec_CacheRun.j0 k l0 l2 y101 true a1) = some r := by rw [if_neg (show ¬ (false = true) by decide)] at H; exact H
   clear H
   have H := H1
   clear H1
   have H' := Aside0.mk H
   clear H
   have hcz13_0 := z0 w7 BK104.out
   have hcz13_1 := z1 w7 BK104.out
   have hfz13_0 := blk_frozen BK104.out 0
   have hfz13_1 := blk_frozen BK104.out 1
   go_wp2_with (first | ((with_reducible refine gate_callee (f := 23) rfl ?_); refine goesL_ (some 17) rfl rfl Try.func23 (by kernel_rfl) rfl #[.slice A0 l0.length c0, .agg #[.int .i64 a1, .slice none 0 0]] rfl MT ?_; (refine (spec_CacheOk.calls k _ _ l0 a1 _ _ ([] : List (S108)) false _ ?side1 ?side2 ?side3 ?side4 A9.out).mono ?_); (case side1 => exact Kd.C_below HR0.out (K1 HB GE104.out)); (case side2 => exact HC0.out); (case side3 => exact Kd.C_nil _ _); (case side4 => exact Nat.le_refl _); rintro e w14 ⟨rfl, hb⟩; refine ⟨_, rfl, ?_⟩; replace HO103 := am (Kd.R_below (by (with_reducible repeat (first | apply Kd.R_alloc | apply Kd.R_drewN | apply Kd.R_drew)); exact (Kd.R_mono (Kd.R_far (p := ⟨gb104, 1, none⟩) (Kd.R_far (p := ⟨gb104, 0, none⟩) (Kd.R_types HO103.out BK104.out (by decide)) (fun _ hk => hk.2) (.int .i64 a1)) (fun _ hk => hk.2) (.slice none 0 0)) (fun _ h_ => h_.1))) hb); replace BK104 := am (blk_below (g := gb104) (o := .cells #[.int .i64 a1, .slice none 0 0] 46 (0, 0)) (by (with_reducible repeat (first | refine blk_drewN ?_ _ | refine blk_drew ?_ | refine blk_alloc ?_ _)); refine blk_put (cs := #[.int .i64 a1, .slice none 0 0]) ?_ 1 _ rfl; (with_reducible repeat (first | refine blk_drewN ?_ _ | refine blk_drew ?_ | refine blk_alloc ?_ _)); refine blk_put (cs := #[.int .i64 0, .slice none 0 0]) ?_ 0 _ rfl; (with_reducible repeat (first | refine blk_drewN ?_ _ | refine blk_drew ?_ | refine blk_alloc ?_ _)); exact BK104.out) hb); replace HB := am (below_step (K1 HB GE104.out) hb); (try clear hb); (try clear hb2); (try clear hk); (try clear hi)))
   go_meet
   case rel => exact ⟨_, (true), (by first | rfl | (simp; done) | (simp [*]; done)), H', ⟨by first | omega | exact Nat.le_refl _⟩, ⟨KR HO103⟩, ⟨KB BK104⟩, ⟨K1 HB GE104.out⟩⟩
 case rest =>
  clear HC4
  try clear c1
  try clear c2
  try clear p2
  try clear c3
  try clear c10
  try clear hcz11_0
  try clear hcz11_1
  try clear hcz13_0
  try clear hcz13_1
  try clear hcz8_0
  try clear hcz8_1
  try clear hfz11_0
  try clear hfz11_1
  try clear hfz13_0
  try clear hfz13_1
  try clear hfz8_0
  try clear hfz8_1
  obtain ⟨kq, x23_3, rfl, HA, HJ3, HO_7, BK104, HB⟩ := hcut
  cases kq with
  | zero => exact absurd HA.out (by simp [spec_CacheRun.j0])
  | succ kj3 =>
   have H := HA.out
   clear HA
   simp only [spec_CacheRun.j0] at H
   by_cases c15 : x23_3 = true
   ·subst c15
    have H1 : (some y101) = some r := by rw [if_pos rfl] at H; exact H
    clear H
    have H := H1
    clear H1
    obtain rfl := Option.some.inj H
    go_wp2
    go_ret
    exact ⟨_, by first | rfl | (simp [errW_none, errW_some] <;> rfl) | (simp [*, errW_none, errW_some] <;> rfl), by (with_reducible repeat (first | apply Kd.R_alloc | apply Kd.R_drewN | apply Kd.R_drew)); exact HO_7.out, K1 HB GE104.out⟩
   ·replace c15 := Bool.eq_false_iff.mpr c15
    subst c15
    have H1 : (spec_CacheRun.l0 kj3 l0 l2 y101 0 a1 ([] : List (S108))) = some r := by rw [if_neg (show ¬ (false = true) by decide)] at H; exact H
    clear H
    have H := H1
    clear H1
    have H' := Aside0.mk H
    clear H
    go_wp2
    go_loopg [7, 9] kj3 (fun kq v7 v9 w' => ∃ (x7_2 : List Int) (x9_2 : Int) (x105000_2 : Int) (x105001_2 : List (S108)) (u105001 : Value), v9 = .int .i64 x9_2 ∧ Aside0 (spec_CacheRun.l0 kq l0 l2 x7_2 x9_2 x105000_2 x105001_2 = some r) ∧ Aside0 (kq ≤ kj3) ∧ Aside0 (Kd.R (Kd.int .i64) 3 w' w.heap.size (fun _ => True) v7 x7_2) ∧ Aside0 (Kd.R k108 108 w' w.heap.size (fun _ => True) u105001 x105001_2) ∧ Aside0 (w'.heap[gb104]? = some (.cells #[.int .i64 x105000_2, u105001] 46 (0, 0))) ∧ Aside0 (Below w.heap.size w w'))
    case atStart => exact ⟨(y101), (0), (a1), (([] : List (S108))), (.slice none 0 0), (by first | rfl | (simp; done) | (simp [*]; done)), H', ⟨Nat.le_refl _⟩, ⟨KR HO_7⟩, ⟨by first | exact Kd.R_nil _ _ _ _ _ | exact Kd.N_nil _ _ _ _ _ | exact Kd.V_nil _ _ _ _ _ | exact Kd.Q_nil _ _ _ _ _ | exact Kd.S_nil _ _ _ _ _⟩, ⟨KB BK104⟩, ⟨K1 HB GE104.out⟩⟩
    case round =>
     clear H'
     try clear c1
     try clear c2
     try clear p2
     try clear c3
     try clear c10
     try clear c15
     try clear hcz11_0
     try clear hcz11_1
     try clear hcz13_0
     try clear hcz13_1
     try clear hcz8_0
     try clear hcz8_1
     try clear hfz11_0
     try clear hfz11_1
     try clear hfz13_0
     try clear hfz13_1
     try clear hfz8_0
     try clear hfz8_1
     try clear p2
     obtain ⟨x7_2, x9_2, x105000_2, x105001_2, u105001, rfl, HA, HK2, HO_7, HO_105001, BK104, HB⟩ := hrel
     cases gk with
     | zero => exact absurd HA.out (by simp [spec_CacheRun.l0])
     | succ k2 =>
      have H := HA.out
      clear HA
      simp only [spec_CacheRun.l0] at H
      by_cases c16 : x9_2 < (l2.length : Int)
      ·rw [if_pos c16] at H
       have c16b0 : decide (x9_2 < (l2.length : Int)) = true := decide_eq_true c16
       clear c16
       by_cases c17 : 0 ≤ x9_2
       ·rw [if_pos c17] at H
        have c17b0 : decide (0 ≤ x9_2) = true := decide_eq_true c17
        clear c17
        replace H := Option.bind_eq_some_iff.mp H
        obtain ⟨⟨t107, t108, t111⟩, A180, H⟩ := H
        replace H : (if x7_2.length < 17592186044416 then (spec_CacheRun.l0 k2 l0 l2 (x7_2 ++ [t111]) (wrap64 (x9_2 + 1)) t107 t108) else (none)) = some r := H
        have A18 := Aside0.mk A180
        clear A180
        by_cases c19 : x7_2.length < 17592186044416
        ·rw [if_pos c19] at H
         have LMc19 := Aside0.mk c19
         clear c19
         obtain ⟨y113, hy113⟩ : ∃ y_ : List Int, y_ = (x7_2 ++ [t111]) := ⟨_, rfl⟩
         replace H : (spec_CacheRun.l0 k2 l0 l2 y113 (wrap64 (x9_2 + 1)) t107 t108) = some r := by first | (rw [hy113]; with_reducible exact H) | (have H2_ := (Option.bind_some _ _).symm.trans H; rw [hy113]; with_reducible exact H2_) | (have H2_ := (Option.bind_some _ _).symm.trans H; with_reducible exact H2_) | with_reducible exact H | (rw [hy113]; exact H) | exact H
         have Ny113 := Aside0.mk hy113
         clear hy113
         have H' := Aside0.mk H
         clear H
         obtain ⟨Ao20, co20, eo20⟩ := Kd.R_slice HO_105001.out
         subst eo20
         try go_wp2
         replace HO_7 := am (Kd.R_drew HO_7.out)
         replace HO_105001 := am (Kd.R_drew HO_105001.out)
         replace BK104 := am (blk_drew BK104.out)
         replace HB := am (below_drew1 HB.out)
         have p106 : 0 ≤ (x9_2 : Int) := of_decide_eq_true (by first | (with_reducible assumption) | assumption)
         have q106 : x9_2 < (l2.length : Int) := of_decide_eq_true (by first | (with_reducible assumption) | assumption)
         obtain ⟨ad106, e106, hx106_0, hx106_1, hx106_2⟩ := at_T25 HR2.out x9_2 p106 q106
         have hw106_2 := hx106_2
         have hw106_1 := hx106_1
         have hw106_0 := hx106_0
         cases e106
         replace hx106_0 := (HB.out.cell (World.block_lt_of_cell? w _ hx106_0)).trans hx106_0
         replace hx106_1 := (HB.out.cell (World.block_lt_of_cell? w _ hx106_1)).trans hx106_1
         replace hx106_2 := (HB.out.cell (World.block_lt_of_cell? w _ hx106_2)).trans hx106_2
         replace p106 := eq_true p106
         replace q106 := eq_true q106
         refine start_ (n := 13) (S := fun w' => w'.cell? ⟨gb104, 0, none⟩ = some (.int .i64 x105000_2) ∧ w'.cell? ⟨gb104, 1, none⟩ = some (.slice Ao20 x105001_2.length co20) ∧ w'.cell? (ad106.add ((x9_2).toNat * 3)) = some (.int .i64 ((rd_T25 l2 x9_2).f0)) ∧ w'.cell? ⟨(ad106.add ((x9_2).toNat * 3)).block, (ad106.add ((x9_2).toNat * 3)).off + 1, none⟩ = some (.int .i64 ((rd_T25 l2 x9_2).f1)) ∧ w'.cell? ⟨(ad106.add ((x9_2).toNat * 3)).block, (ad106.add ((x9_2).toNat * 3)).off + 2, none⟩ = some (.int .i64 ((rd_T25 l2 x9_2).f2))) (ds := []) (tf 0 13) (by kernel_rfl) rfl rfl ⟨z0 _ BK104.out, z1 _ BK104.out, ((HB.out.cell (World.block_lt_of_cell? w _ hw106_0)).trans hw106_0), ((HB.out.cell (World.block_lt_of_cell? w _ hw106_1)).trans hw106_1), ((HB.out.cell (World.block_lt_of_cell? w _ hw106_2)).trans hw106_2)⟩ (fun hHeld => ?_); refine with_tabW spec_CacheRun.tab8 spec_CacheRun.bits8 (fun HT_ HW_ => ?_)
         generalize wr.drew = w21 at HO_7 HO_105001 BK104 HB hx106_0 hx106_1 hx106_2 hHeld ⊢
         refine pu 0 (some 32) (tf 1 12) (any_of HT_.out (by kernel_rfl)) ?_
         refine pu 2 (some 34) #[true, false, true, false, false, false, false, false, false, false, false, false, false] (any_of HT_.out (by kernel_rfl)) ?_
         refine pu 3 (some 35) #[true, false, true, true, false, false, false, false, false, false, false, false, false] (any_of HT_.out (by kernel_rfl)) ?_
         refine pu 4 (some 36) #[true, false, true, true, true, false, false, false, false, false, false, false, false] (any_of HT_.out (by kernel_rfl)) ?_
         refine tk 1 (some 33) (tf 5 8) (take_ofW HT_.out HW_.out (by kernel_rfl)) hHeld ?_
         refine tk 5 (some 37) (tf 6 7) (take_ofW HT_.out HW_.out (by kernel_rfl)) hHeld ?_
         refine join_ (σ := Value × Nat) 2 (tf 11 2) (fun s_ => [(38, .tuple #[.agg #[.int .i64 t107, s_.1], .int .i64 t111]), (10, .pointer (some ⟨s_.2, 0, none⟩)), (31, .tuple #[.agg #[.int .i64 t107, s_.1], .int .i64 t111]), (39, .agg #[.int .i64 t107, s_.1]), (40, .int .i64 t111)]) (fun s_ w' => (w'.cell? ⟨gb104, 0, none⟩ = some (.int .i64 x105000_2) ∧ w'.cell? ⟨gb104, 1, none⟩ = some (.slice Ao20 x105001_2.length co20) ∧ w'.cell? (ad106.add ((x9_2).toNat * 3)) = some (.int .i64 ((rd_T25 l2 x9_2).f0)) ∧ w'.cell? ⟨(ad106.add ((x9_2).toNat * 3)).block, (ad106.add ((x9_2).toNat * 3)).off + 1, none⟩ = some (.int .i64 ((rd_T25 l2 x9_2).f1)) ∧ w'.cell? ⟨(ad106.add ((x9_2).toNat * 3)).block, (ad106.add ((x9_2).toNat * 3)).off + 2, none⟩ = some (.int .i64 ((rd_T25 l2 x9_2).f2))) ∧ (Kd.R k108 108 w' w.heap.size (fun k_ => some k_ ≠ (.slice Ao20 x105001_2.length co20 : Value).ownBlock) s_.1 t108) ∧ (Kd.R k108 108 w' w.heap.size (fun k_ => some k_ ≠ (s_.1 : Value).ownBlock) (.slice Ao20 x105001_2.length co20) x105001_2) ∧ (Kd.R (Kd.int .i64) 3 w' w.heap.size (fun _ => True) u7 x7_2) ∧ (w'.heap[gb104]? = some (.cells #[.int .i64 x105000_2, .slice Ao20 x105001_2.length co20] 46 (0, 0))) ∧ (w'.heap[s_.2]? = some (.cells #[.int .i64 0, .slice none 0 0] 46 (0, 0))) ∧ (w.heap.size ≤ s_.2) ∧ (w.heap.size ≤ s_.2) ∧ (gb104 ≠ s_.2) ∧ (s_.2 ≠ gb104) ∧ (Below w.heap.size w w')) ?_ ?_
         rotate_left
         ·intro hCont
          refine two_ (i := 6) (j := 10) (Ni := some 38) (Nj := some 10) (tf 7 6) #[true, true, true, true, true, true, false, false, false, false, true, false, false] rfl rfl rfl rfl (two_of HT_.out (by kernel_rfl)) (by decide) (by decide) (fun K hK => ?_) (fun K hK => ?_)
          ·skip
           refine goes_ Try.func31 (by kernel_rfl) rfl #[.slice A0 l0.length c0, .agg #[.int .i64 x105000_2, .slice Ao20 x105001_2.length co20], .agg #[.int .i64 ((rd_T25 l2 x9_2).f0), .int .i64 ((rd_T25 l2 x9_2).f1), .int .i64 ((rd_T25 l2 x9_2).f2)]] (by rfl) rfl rfl MT ?_
           with_reducible refine (spec_CacheFind.calls k2 _ _ l0 x105000_2 _ _ x105001_2 ((rd_T25 l2 x9_2).f0) ((rd_T25 l2 x9_2).f1) ((rd_T25 l2 x9_2).f2) t107 t108 t111 _ ?side1 ?side2 ?side3 ?side4 A18.out).mono ?_
           (case side1 => exact KC (Kd.C_below HR0.out HB.out))
           (case side2 => exact HC0.out)
           (case side3 => exact KC (Kd.R_reads' HO_105001.out).2.2)
           (case side4 => exact (Kd.R_reads' HO_105001.out).2.1)
           rintro e w22 ⟨v109, rfl, ho0, hb⟩
           refine ⟨_, rfl, ?_⟩
           replace HO_7 := am (Kd.R_below (KR HO_7) hb)
           have HO110 := am (Kd.R_lower (Kd.R_new' ho0 (Kd.R_lt (KR HO_105001))) (below_size (K1 HB GE104.out)))
           replace HO_105001 := am (Kd.R_elder' (KR HO_105001) (Kd.R_base ho0) hb)
           replace BK104 := am (BB BK104 hb)
           replace HB := am (below_step (K1 HB GE104.out) hb)
           (try clear hb)
           (try clear hb2)
           (try clear hk)
           (try clear hi)
           (try clear ho0)
           refine hK.out _ _ ⟨z0 _ BK104.out, z1 _ BK104.out, ((HB.out.cell (World.block_lt_of_cell? w _ hw106_0)).trans hw106_0), ((HB.out.cell (World.block_lt_of_cell? w _ hw106_1)).trans hw106_1), ((HB.out.cell (World.block_lt_of_cell? w _ hw106_2)).trans hw106_2)⟩ (fun hHeld => ?_)
           clear hK K
           refine norm_ (a' := ?_) ?_ ?_
           rotate_left
           ·show Act.put _ (some 38) _ = _
            simp only [Act.put, List.setIfInBounds_toArray, List.set_cons_zero, List.set_cons_succ, i64_w, i32_w]
            rfl
           refine pu 7 (some 31) (tf 8 5) (any_of HT_.out (by kernel_rfl)) ?_
           refine pu 8 (some 39) (tf 9 4) (any_of HT_.out (by kernel_rfl)) ?_
           refine pu 9 (some 40) (tf 10 3) (any_of HT_.out (by kernel_rfl)) ?_
           refine one_ (i := 10) (N := some 10) (tf 11 2) rfl rfl (one_of HT_.out (by kernel_rfl)) (by decide) (fun K hK => ?_)
           refine box_step rfl (N := 10) rfl (cs := #[.int .i64 0, .slice none 0 0]) (t := 46) BX ?_
           intro gb112 hg w23 hbox hb
           replace HO_7 := am (Kd.R_below (KR HO_7) hb)
           replace HO_105001 := am (Kd.R_below (KR HO_105001) hb)
           replace HO110 := am (Kd.R_below (KR HO110) hb)
           have BK112 := am (hbox)
           have GW112 := am ((GL hg (below_size (K1 HB GE104.out)) : w.heap.size ≤ gb112))
           have GE112 := GW112
           replace HB := am (below_step (K1 HB GE104.out) hb)
           have NB104_112 := am (NL BK104 hg)
           have NB112_104 := am (NG BK104 hg)
           replace BK104 := am (BB BK104 hb)
           clear hb hbox hg
           refine hK.out _ _ ⟨z0 _ BK104.out, z1 _ BK104.out, ((HB.out.cell (World.block_lt_of_cell? w _ hw106_0)).trans hw106_0), ((HB.out.cell (World.block_lt_of_cell? w _ hw106_1)).trans hw106_1), ((HB.out.cell (World.block_lt_of_cell? w _ hw106_2)).trans hw106_2)⟩ (fun hHeld => ?_)
           clear hK K
           refine norm_ (a' := ?_) ?_ ?_
           rotate_left
           ·show Act.put _ (some 10) _ = _
            simp only [Act.put, List.setIfInBounds_toArray, List.set_cons_zero, List.set_cons_succ, i64_w, i32_w]
            rfl
           exact norm_ (by simp only [putAll, Act.put, List.setIfInBounds_toArray, List.set_cons_zero, List.set_cons_succ]) (hCont (v109, gb112) _ ⟨hHeld, (by (with_reducible repeat (first | apply Kd.R_alloc | apply Kd.R_drewN | apply Kd.R_drew)); exact Kd.R_mono HO110.out (fun _ hk => hk.2)), (by (with_reducible repeat (first | apply Kd.R_alloc | apply Kd.R_drewN | apply Kd.R_drew)); exact Kd.R_mono HO_105001.out (fun _ hk => hk.2)), (KR HO_7), (KB BK104), (KB BK112), GW112.out, GE112.out, NB104_112.out, NB112_104.out, (K2 HB GE104.out GE112.out)⟩)
          ·skip
           refine box_step rfl (N := 10) rfl (cs := #[.int .i64 0, .slice none 0 0]) (t := 46) BX ?_
           intro gb112 hg w22 hbox hb
           replace HO_7 := am (Kd.R_below (KR HO_7) hb)
           replace HO_105001 := am (Kd.R_below (KR HO_105001) hb)
           have BK112 := am (hbox)
           have GW112 := am ((GL hg (below_size (K1 HB GE104.out)) : w.heap.size ≤ gb112))
           have GE112 := GW112
           replace HB := am (below_step (K1 HB GE104.out) hb)
           have NB104_112 := am (NL BK104 hg)
           have NB112_104 := am (NG BK104 hg)
           replace BK104 := am (BB BK104 hb)
           clear hb hbox hg
           refine hK.out _ _ ⟨z0 _ BK104.out, z1 _ BK104.out, ((HB.out.cell (World.block_lt_of_cell? w _ hw106_0)).trans hw106_0), ((HB.out.cell (World.block_lt_of_cell? w _ hw106_1)).trans hw106_1), ((HB.out.cell (World.block_lt_of_cell? w _ hw106_2)).trans hw106_2)⟩ (fun hHeld => ?_)
           clear hK K
           refine norm_ (a' := ?_) ?_ ?_
           rotate_left
           ·show Act.put _ (some 10) _ = _
            simp only [Act.put, List.setIfInBounds_toArray, List.set_cons_zero, List.set_cons_succ, i64_w, i32_w]
            rfl
           refine one_ (i := 6) (N := some 38) #[true, true, true, true, true, true, true, false, false, false, true, false, false] rfl rfl (one_of HT_.out (by kernel_rfl)) (by decide) (fun K hK => ?_)
           refine goes_ Try.func31 (by kernel_rfl) rfl #[.slice A0 l0.length c0, .agg #[.int .i64 x105000_2, .slice Ao20 x105001_2.length co20], .agg #[.int .i64 ((rd_T25 l2 x9_2).f0), .int .i64 ((rd_T25 l2 x9_2).f1), .int .i64 ((rd_T25 l2 x9_2).f2)]] (by rfl) rfl rfl MT ?_
           with_reducible refine (spec_CacheFind.calls k2 _ _ l0 x105000_2 _ _ x105001_2 ((rd_T25 l2 x9_2).f0) ((rd_T25 l2 x9_2).f1) ((rd_T25 l2 x9_2).f2) t107 t108 t111 _ ?side1 ?side2 ?side3 ?side4 A18.out).mono ?_
           (case side1 => exact KC (Kd.C_below HR0.out HB.out))
           (case side2 => exact HC0.out)
           (case side3 => exact KC (Kd.R_reads' HO_105001.out).2.2)
           (case side4 => exact (Kd.R_reads' HO_105001.out).2.1)
           rintro e w23 ⟨v109, rfl, ho0, hb⟩
           refine ⟨_, rfl, ?_⟩
           replace HO_7 := am (Kd.R_below (KR HO_7) hb)
           have HO110 := am (Kd.R_lower (Kd.R_new' ho0 (Kd.R_lt (KR HO_105001))) (below_size (K2 HB GE104.out GE112.out)))
           replace HO_105001 := am (Kd.R_elder' (KR HO_105001) (Kd.R_base ho0) hb)
           replace BK104 := am (BB BK104 hb)
           replace BK112 := am (BB BK112 hb)
           replace HB := am (below_step (K2 HB GE104.out GE112.out) hb)
           (try clear hb)
           (try clear hb2)
           (try clear hk)
           (try clear hi)
           (try clear ho0)
           refine hK.out _ _ ⟨z0 _ BK104.out, z1 _ BK104.out, ((HB.out.cell (World.block_lt_of_cell? w _ hw106_0)).trans hw106_0), ((HB.out.cell (World.block_lt_of_cell? w _ hw106_1)).trans hw106_1), ((HB.out.cell (World.block_lt_of_cell? w _ hw106_2)).trans hw106_2)⟩ (fun hHeld => ?_)
           clear hK K
           refine norm_ (a' := ?_) ?_ ?_
           rotate_left
           ·show Act.put _ (some 38) _ = _
            simp only [Act.put, List.setIfInBounds_toArray, List.set_cons_zero, List.set_cons_succ, i64_w, i32_w]
            rfl
           refine pu 7 (some 31) #[true, true, true, true, true, true, true, true, false, false, true, false, false] (any_of HT_.out (by kernel_rfl)) ?_
           refine pu 8 (some 39) #[true, true, true, true, true, true, true, true, true, false, true, false, false] (any_of HT_.out (by kernel_rfl)) ?_
           refine pu 9 (some 40) (tf 11 2) (any_of HT_.out (by kernel_rfl)) ?_
           exact norm_ (by simp only [putAll, Act.put, List.setIfInBounds_toArray, List.set_cons_zero, List.set_cons_succ]) (hCont (v109, gb112) _ ⟨hHeld, (by (with_reducible repeat (first | apply Kd.R_alloc | apply Kd.R_drewN | apply Kd.R_drew)); exact Kd.R_mono HO110.out (fun _ hk => hk.2)), (by (with_reducible repeat (first | apply Kd.R_alloc | apply Kd.R_drewN | apply Kd.R_drew)); exact Kd.R_mono HO_105001.out (fun _ hk => hk.2)), (KR HO_7), (KB BK104), (KB BK112), GW112.out, GE112.out, NB104_112.out, NB112_104.out, (K2 HB GE104.out GE112.out)⟩)
         rintro ⟨v109, gb112⟩ w24 ⟨hS_, h0_, h1_, h2_, h3_, h4_, h5_, h6_, h7_, h8_, h9_⟩
         have HO110 : Aside0 (Kd.R k108 108 w24 w.heap.size (fun k_ => some k_ ≠ (.slice Ao20 x105001_2.length co20 : Value).ownBlock) v109 t108) := ⟨h0_⟩
         replace HO_105001 : Aside0 (Kd.R k108 108 w24 w.heap.size (fun k_ => some k_ ≠ (v109 : Value).ownBlock) (.slice Ao20 x105001_2.length co20) x105001_2) := ⟨h1_⟩
         replace HO_7 : Aside0 (Kd.R (Kd.int .i64) 3 w24 w.heap.size (fun _ => True) u7 x7_2) := ⟨h2_⟩
         replace BK104 : Aside0 (w24.heap[gb104]? = some (.cells #[.int .i64 x105000_2, .slice Ao20 x105001_2.length co20] 46 (0, 0))) := ⟨h3_⟩
         have BK112 : Aside0 (w24.heap[gb112]? = some (.cells #[.int .i64 0, .slice none 0 0] 46 (0, 0))) := ⟨h4_⟩
         have GW112 : Aside0 (w.heap.size ≤ gb112) := ⟨h5_⟩
         have GE112 : Aside0 (w.heap.size ≤ gb112) := ⟨h6_⟩
         have NB104_112 : Aside0 (gb104 ≠ gb112) := ⟨h7_⟩
         have NB112_104 : Aside0 (gb112 ≠ gb104) := ⟨h8_⟩
         replace HB : Aside0 (Below w.heap.size w w24) := ⟨h9_⟩
         clear h0_ h1_ h2_ h3_ h4_ h5_ h6_ h7_ h8_ h9_
         have hHeld : w24.cell? ⟨gb104, 0, none⟩ = some (.int .i64 x105000_2) ∧ w24.cell? ⟨gb104, 1, none⟩ = some (.slice Ao20 x105001_2.length co20) ∧ w24.cell? (ad106.add ((x9_2).toNat * 3)) = some (.int .i64 ((rd_T25 l2 x9_2).f0)) ∧ w24.cell? ⟨(ad106.add ((x9_2).toNat * 3)).block, (ad106.add ((x9_2).toNat * 3)).off + 1, none⟩ = some (.int .i64 ((rd_T25 l2 x9_2).f1)) ∧ w24.cell? ⟨(ad106.add ((x9_2).toNat * 3)).block, (ad106.add ((x9_2).toNat * 3)).off + 2, none⟩ = some (.int .i64 ((rd_T25 l2 x9_2).f2)) := hS_
         obtain ⟨Ao26, co26, eo26⟩ := Kd.R_slice HO110.out
         (first | subst eo26 | (injection eo26 with f1_ f2_ f3_; have f4_ := f1_.symm; have f5_ := f3_.symm; clear f1_ f2_ f3_; subst f4_; subst f5_))
         refine norm_ (a' := ?_) ?_ ?_
         rotate_left
         ·simp only [putAll, Act.put, List.setIfInBounds_toArray, List.set_cons_zero, List.set_cons_succ]
          rfl
         refine one_ (i := 11) (N := none) (tf 12 1) rfl rfl (one_of HT_.out (by kernel_rfl)) (by decide) (fun K hK => ?_)
         have hs25 : w24.cell? ⟨gb112, 0, none⟩ = some (.int .i64 0) := z0 _ BK112.out
         have hfs25 := blk_frozen BK112.out 0
         have hns25_0 := NB104_112.out
         have hms25_0 := NB112_104.out
         have hs27 : w24.cell? ⟨gb112, 1, none⟩ = some (.slice none 0 0) := z1 _ BK112.out
         have hfs27 := blk_frozen BK112.out 1
         have hns27_0 := NB104_112.out
         have hms27_0 := NB112_104.out
         refine skip_ (w1 := ?_) (by rfl) rfl ?_ ?_
         rotate_left
         ·go_simp
          rfl
         refine hK.out _ _ ⟨((cell_far (p := ⟨gb112, _, none⟩) NB104_112.out _).trans (((cell_far (p := ⟨gb112, _, none⟩) NB104_112.out _).trans (hHeld.1)))), ((cell_far (p := ⟨gb112, _, none⟩) NB104_112.out _).trans (((cell_far (p := ⟨gb112, _, none⟩) NB104_112.out _).trans (hHeld.2.1)))), ((cell_far (p := ⟨gb112, _, none⟩) (by first | exact Nat.ne_of_lt (Nat.lt_of_lt_of_le (by have := World.block_lt_of_cell? _ _ hw106_0; first | rwa [add_block] at this | exact this) GW112.out) | (rw [add_block]; exact Nat.ne_of_lt (Nat.lt_of_lt_of_le (by have := World.block_lt_of_cell? _ _ hw106_0; first | rwa [add_block] at this | exact this) GW112.out)) | (show (Addr.add _ _).block ≠ _; rw [add_block]; exact Nat.ne_of_lt (Nat.lt_of_lt_of_le (by have := World.block_lt_of_cell? _ _ hw106_0; first | rwa [add_block] at this | exact this) GW112.out)) | (dsimp only; exact Nat.ne_of_lt (Nat.lt_of_lt_of_le (by have := World.block_lt_of_cell? _ _ hw106_0; first | rwa [add_block] at this | exact this) GW112.out))) _).trans (((cell_far (p := ⟨gb112, _, none⟩) (by first | exact Nat.ne_of_lt (Nat.lt_of_lt_of_le (by have := World.block_lt_of_cell? _ _ hw106_0; first | rwa [add_block] at this | exact this) GW112.out) | (rw [add_block]; exact Nat.ne_of_lt (Nat.lt_of_lt_of_le (by have := World.block_lt_of_cell? _ _ hw106_0; first | rwa [add_block] at this | exact this) GW112.out)) | (show (Addr.add _ _).block ≠ _; rw [add_block]; exact Nat.ne_of_lt (Nat.lt_of_lt_of_le (by have := World.block_lt_of_cell? _ _ hw106_0; first | rwa [add_block] at this | exact this) GW112.out)) | (dsimp only; exact Nat.ne_of_lt (Nat.lt_of_lt_of_le (by have := World.block_lt_of_cell? _ _ hw106_0; first | rwa [add_block] at this | exact this) GW112.out))) _).trans (hHeld.2.2.1)))), ((cell_far (p := ⟨gb112, _, none⟩) (by first | exact Nat.ne_of_lt (Nat.lt_of_lt_of_le (by have := World.block_lt_of_cell? _ _ hw106_1; first | rwa [add_block] at this | exact this) GW112.out) | (rw [add_block]; exact Nat.ne_of_lt (Nat.lt_of_lt_of_le (by have := World.block_lt_of_cell? _ _ hw106_1; first | rwa [add_block] at this | exact this) GW112.out)) | (show (Addr.add _ _).block ≠ _; rw [add_block]; exact Nat.ne_of_lt (Nat.lt_of_lt_of_le (by have := World.block_lt_of_cell? _ _ hw106_1; first | rwa [add_block] at this | exact this) GW112.out)) | (dsimp only; exact Nat.ne_of_lt (Nat.lt_of_lt_of_le (by have := World.block_lt_of_cell? _ _ hw106_1; first | rwa [add_block] at this | exact this) GW112.out))) _).trans (((cell_far (p := ⟨gb112, _, none⟩) (by first | exact Nat.ne_of_lt (Nat.lt_of_lt_of_le (by have := World.block_lt_of_cell? _ _ hw106_1; first | rwa [add_block] at this | exact this) GW112.out) | (rw [add_block]; exact Nat.ne_of_lt (Nat.lt_of_lt_of_le (by have := World.block_lt_of_cell? _ _ hw106_1; first | rwa [add_block] at this | exact this) GW112.out)) | (show (Addr.add _ _).block ≠ _; rw [add_block]; exact Nat.ne_of_lt (Nat.lt_of_lt_of_le (by have := World.block_lt_of_cell? _ _ hw106_1; first | rwa [add_block] at this | exact this) GW112.out)) | (dsimp only; exact Nat.ne_of_lt (Nat.lt_of_lt_of_le (by have := World.block_lt_of_cell? _ _ hw106_1; first | rwa [add_block] at this | exact this) GW112.out))) _).trans (hHeld.2.2.2.1)))), ((cell_far (p := ⟨gb112, _, none⟩) (by first | exact Nat.ne_of_lt (Nat.lt_of_lt_of_le (by have := World.block_lt_of_cell? _ _ hw106_2; first | rwa [add_block] at this | exact this) GW112.out) | (rw [add_block]; exact Nat.ne_of_lt (Nat.lt_of_lt_of_le (by have := World.block_lt_of_cell? _ _ hw106_2; first | rwa [add_block] at this | exact this) GW112.out)) | (show (Addr.add _ _).block ≠ _; rw [add_block]; exact Nat.ne_of_lt (Nat.lt_of_lt_of_le (by have := World.block_lt_of_cell? _ _ hw106_2; first | rwa [add_block] at this | exact this) GW112.out)) | (dsimp only; exact Nat.ne_of_lt (Nat.lt_of_lt_of_le (by have := World.block_lt_of_cell? _ _ hw106_2; first | rwa [add_block] at this | exact this) GW112.out))) _).trans (((cell_far (p := ⟨gb112, _, none⟩) (by first | exact Nat.ne_of_lt (Nat.lt_of_lt_of_le (by have := World.block_lt_of_cell? _ _ hw106_2; first | rwa [add_block] at this | exact this) GW112.out) | (rw [add_block]; exact Nat.ne_of_lt (Nat.lt_of_lt_of_le (by have := World.block_lt_of_cell? _ _ hw106_2; first | rwa [add_block] at this | exact this) GW112.out)) | (show (Addr.add _ _).block ≠ _; rw [add_block]; exact Nat.ne_of_lt (Nat.lt_of_lt_of_le (by have := World.block_lt_of_cell? _ _ hw106_2; first | rwa [add_block] at this | exact this) GW112.out)) | (dsimp only; exact Nat.ne_of_lt (Nat.lt_of_lt_of_le (by have := World.block_lt_of_cell? _ _ hw106_2; first | rwa [add_block] at this | exact this) GW112.out))) _).trans (hHeld.2.2.2.2))))⟩ (fun hHeld => ?_)
         clear hK K
         refine pu 12 (some 11) (tf 13 0) (any_of HT_.out (by kernel_rfl)) ?_
         refine done_ (done_of HT_.out (by kernel_rfl)) ?_
         have hnb28 := NB112_104.out
         have hnc28 := NB104_112.out
         have hcz29_0 := z0 w24 BK112.out
         have hcz29_1 := z1 w24 BK112.out
         have hfz29_0 := blk_frozen BK112.out 0
         have hfz29_1 := blk_frozen BK112.out 1
         have hcz30_0 := z0 w24 BK104.out
         have hcz30_1 := z1 w24 BK104.out
         have hfz30_0 := blk_frozen BK104.out 0
         have hfz30_1 := blk_frozen BK104.out 1
         try go_wp2_with (first | ((with_reducible refine gate_builtin (b := .append) (xs := #[.tmp 42, .tmp 44]) rfl ?_); (try (refine gate_guard (by rfl) ?_; dsimp only)); at_builtin; refine Kd.R_append (Kd.int .i64) (w0 := w) w.heap.size rfl (.tmp 42) (.tmp 44) 58 3 (.int .i64 0) 8 rfl Try.underlying58 info3 rfl (by decide) (by omega) u7 x7_2 t111 [.int .i64 t111] (fun _ => True) (fun _ => False) rfl (by first | (go_simp; done) | (go_simp; rfl)) ?aP (fun _ hk => hk.elim) ?aF ?aO ?aB ?aS ?aL ?_; (case aP => exact rfl); (case aB => exact (K2 HB GE104.out GE112.out)); (case aF => exact (fun _ _ => trivial)); (case aO => exact (by (with_reducible repeat (first | apply Kd.R_alloc | apply Kd.R_drewN | apply Kd.R_drew)); exact Kd.R_mono (Kd.R_far (p := ⟨gb104, 1, none⟩) (Kd.R_far (p := ⟨gb104, 0, none⟩) (Kd.R_far (p := ⟨gb112, 1, none⟩) (Kd.R_far (p := ⟨gb112, 0, none⟩) (Kd.R_types (Kd.R_types HO_7.out BK112.out (by decide)) BK104.out (by decide)) (fun _ hk => hk.1.2) (.int .i64 t107)) (fun _ hk => hk.1.2) (.slice Ao26 t108.length co26)) (fun _ hk => hk.2) (.int .i64 t107)) (fun _ hk => hk.2) (.slice Ao26 t108.length co26)) (fun _ hk => trivial))); (case aS => exact (below_size (K2 HB GE104.out GE112.out))); (case aL => have := LMc19.out; omega); intro v114 w31 ho hb hg hat; rw [← Ny113.out] at ho; replace HO_105001 := am (Kd.R_over' (by (with_reducible repeat (first | apply Kd.R_alloc | apply Kd.R_drewN | apply Kd.R_drew)); exact (Kd.R_mono (Kd.R_mono (Kd.R_far (p := ⟨gb104, 1, none⟩) (Kd.R_far (p := ⟨gb104, 0, none⟩) (Kd.R_far (p := ⟨gb112, 1, none⟩) (Kd.R_far (p := ⟨gb112, 0, none⟩) (Kd.R_types (Kd.R_types HO_105001.out BK112.out (by decide)) BK104.out (by decide)) (fun _ hk => hk.1.2) (.int .i64 t107)) (fun _ hk => hk.1.2) (.slice Ao26 t108.length co26)) (fun _ hk => hk.2) (.int .i64 t107)) (fun _ hk => hk.2) (.slice Ao26 t108.length co26)) (fun _ h_ => h_.1)) (fun _ h_ => h_.1))) (Kd.R_typed (by (with_reducible repeat (first | apply Kd.R_alloc | apply Kd.R_drewN | apply Kd.R_drew)); exact (Kd.R_mono (Kd.R_mono (Kd.R_far (p := ⟨gb104, 1, none⟩) (Kd.R_far (p := ⟨gb104, 0, none⟩) (Kd.R_far (p := ⟨gb112, 1, none⟩) (Kd.R_far (p := ⟨gb112, 0, none⟩) (Kd.R_types (Kd.R_types HO_7.out BK112.out (by decide)) BK104.out (by decide)) (fun _ hk => hk.1.2) (.int .i64 t107)) (fun _ hk => hk.1.2) (.slice Ao26 t108.length co26)) (fun _ hk => hk.2) (.int .i64 t107)) (fun _ hk => hk.2) (.slice Ao26 t108.length co26)) (fun _ h_ => h_.1)) (fun _ h_ => h_.1)))) (by decide) hg); replace HO110 := am (Kd.R_over' (by (with_reducible repeat (first | apply Kd.R_alloc | apply Kd.R_drewN | apply Kd.R_drew)); exact (Kd.R_mono (Kd.R_mono (Kd.R_far (p := ⟨gb104, 1, none⟩) (Kd.R_far (p := ⟨gb104, 0, none⟩) (Kd.R_far (p := ⟨gb112, 1, none⟩) (Kd.R_far (p := ⟨gb112, 0, none⟩) (Kd.R_types (Kd.R_types HO110.out BK112.out (by decide)) BK104.out (by decide)) (fun _ hk => hk.1.2) (.int .i64 t107)) (fun _ hk => hk.1.2) (.slice Ao26 t108.length co26)) (fun _ hk => hk.2) (.int .i64 t107)) (fun _ hk => hk.2) (.slice Ao26 t108.length co26)) (fun _ h_ => h_.1)) (fun _ h_ => h_.1))) (Kd.R_typed (by (with_reducible repeat (first | apply Kd.R_alloc | apply Kd.R_drewN | apply Kd.R_drew)); exact (Kd.R_mono (Kd.R_mono (Kd.R_far (p := ⟨gb104, 1, none⟩) (Kd.R_far (p := ⟨gb104, 0, none⟩) (Kd.R_far (p := ⟨gb112, 1, none⟩) (Kd.R_far (p := ⟨gb112, 0, none⟩) (Kd.R_types (Kd.R_types HO_7.out BK112.out (by decide)) BK104.out (by decide)) (fun _ hk => hk.1.2) (.int .i64 t107)) (fun _ hk => hk.1.2) (.slice Ao26 t108.length co26)) (fun _ hk => hk.2) (.int .i64 t107)) (fun _ hk => hk.2) (.slice Ao26 t108.length co26)) (fun _ h_ => h_.1)) (fun _ h_ => h_.1)))) (by decide) hg); replace BK104 := am (blk_grown (g := gb104) (o := .cells #[.int .i64 t107, .slice Ao26 t108.length co26] 46 (0, 0)) (by (with_reducible repeat (first | refine blk_drewN ?_ _ | refine blk_drew ?_ | refine blk_alloc ?_ _)); refine blk_put (cs := #[.int .i64 t107, .slice Ao20 x105001_2.length co20]) ?_ 1 _ rfl; (with_reducible repeat (first | refine blk_drewN ?_ _ | refine blk_drew ?_ | refine blk_alloc ?_ _)); refine blk_put (cs := #[.int .i64 x105000_2, .slice Ao20 x105001_2.length co20]) ?_ 0 _ rfl; (with_reducible repeat (first | refine blk_drewN ?_ _ | refine blk_drew ?_ | refine blk_alloc ?_ _)); refine blk_far ?_ NB104_112.out _; (with_reducible repeat (first | refine blk_drewN ?_ _ | refine blk_drew ?_ | refine blk_alloc ?_ _)); refine blk_far ?_ NB104_112.out _; (with_reducible repeat (first | refine blk_drewN ?_ _ | refine blk_drew ?_ | refine blk_alloc ?_ _)); exact BK104.out) hg (Kd.R_ne HO_7.out BK104.out (by decide))); replace BK112 := am (blk_grown (g := gb112) (o := .cells #[.int .i64 t107, .slice Ao26 t108.length co26] 46 (0, 0)) (by (with_reducible repeat (first | refine blk_drewN ?_ _ | refine blk_drew ?_ | refine blk_alloc ?_ _)); refine blk_far ?_ NB112_104.out _; (with_reducible repeat (first | refine blk_drewN ?_ _ | refine blk_drew ?_ | refine blk_alloc ?_ _)); refine blk_far ?_ NB112_104.out _; (with_reducible repeat (first | refine blk_drewN ?_ _ | refine blk_drew ?_ | refine blk_alloc ?_ _)); refine blk_put (cs := #[.int .i64 t107, .slice none 0 0]) ?_ 1 _ rfl; (with_reducible repeat (first | refine blk_drewN ?_ _ | refine blk_drew ?_ | refine blk_alloc ?_ _)); refine blk_put (cs := #[.int .i64 0, .slice none 0 0]) ?_ 0 _ rfl; (with_reducible repeat (first | refine blk_drewN ?_ _ | refine blk_drew ?_ | refine blk_alloc ?_ _)); exact BK112.out) hg (Kd.R_ne HO_7.out BK112.out (by decide))); replace HB := am (hb); have HO115 := am (ho); clear HO_7; clear ho hb hg hat))
         go_roundg k2
         case measure => have := HJ3.out; have := HK2.out; omega
         case rel => exact ⟨(y113), (wrap64 (x9_2 + 1)), (t107), (t108), (.slice Ao26 t108.length co26), (by first | rfl | (simp; done) | (simp [*]; done)), H', ⟨by have := HJ3.out; have := HK2.out; omega⟩, ⟨KR HO115⟩, ⟨by (with_reducible repeat (first | apply Kd.R_alloc | apply Kd.R_drewN | apply Kd.R_drew)); exact Kd.R_mono HO110.out (fun _ hk => trivial)⟩, ⟨KB BK104⟩, ⟨K2 HB GE104.out GE112.out⟩⟩
        ·rw [if_neg c19] at H
         exact absurd H (by simp)
       ·rw [if_neg c17] at H
        exact absurd H (by simp)
      ·rw [if_neg c16] at H
       have c16b0 : decide (x9_2 < (l2.length : Int)) = false := decide_eq_false c16
       clear c16
       obtain rfl := Option.some.inj H
       go_wp2
       go_ret
       exact ⟨_, by first | rfl | (simp [errW_none, errW_some] <;> rfl) | (simp [*, errW_none, errW_some] <;> rfl), by (with_reducible repeat (first | apply Kd.R_alloc | apply Kd.R_drewN | apply Kd.R_drew)); exact HO_7.out, K1 HB GE104.out⟩
end Go.Proofs.Ytioghacieopbdaa.PAll
end
