/- Contracts of the functions that the statement reaches, printed by a program out of the translation and joined with the plain laws. -/
import Derived.Test.YtioghacieopbdaaCFnWaysGone3
import Derived.Test.YtioghacieopbdaaCFnWaysGone4
import Derived.Test.YtioghacieopbdaaCFnWaysGone5
section
namespace Go.Proofs.Ytioghacieopbdaa.PAll
open Go.RowKit Go.Proofs.YtioghacieopbdaaW.PrintWords Go.Proofs.YtioghacieopbdaaW.PrintLast Go.Proofs.YtioghacieopbdaaW.PrintMore
attribute [local go_sem] max2_int min2_int max_two min_two max_three min_three max_four min_four   -- for this text's walks alone
set_option linter.unusedVariables false
set_option linter.unusedSimpArgs false
def spec_WaysGone.f (k : Nat) (l0 : List (S86)) (a1_0 : Int) (a1_1 : Int) : Option ((List (S86)) × Bool) := (spec_WaysOk.f k l0).bind fun t102 => (if t102 = true then ((spec_l3At.f k l0 a1_0 a1_1).bind fun bt106 => (if bt106.2 = true then ((some (([] : List (S86)) : List (S86))).bind fun y108 => (if 0 ≤ bt106.1 then (if bt106.1 ≤ (l0.length : Int) then ((some (l0.take (bt106.1 : Int).toNat : List (S86))).bind fun y111 => (if y108.length + y111.length < 5864062014805 then ((some (y108 ++ y111 : List (S86))).bind fun y115 => (if 0 ≤ (wrap64 (bt106.1 + 1)) then (if (wrap64 (bt106.1 + 1)) ≤ (l0.length : Int) then ((some (l0.drop ((wrap64 (bt106.1 + 1)) : Int).toNat : List (S86))).bind fun y118 => (if y115.length + y118.length < 5864062014805 then (some ((y115 ++ y118), true)) else (none))) else (none)) else (none))) else (none))) else (none)) else (none))) else ((spec_l3Copy.f l0).bind fun t125 => (some (t125, false))))) else (some ((([] : List (S86))), false)))
def spec_WaysGone.T6 : Bool × List (List Nat × List Nat) := (true, [([], []), ([], []), ([], []), ([1, 2], [1, 2]), ([0, 3], [0, 3]), ([], []), ([], []), ([6], [6]), ([5, 7], [5, 7]), ([4, 8, 4], [4, 8]), ([9, 9, 0, 1, 2, 3, 4, 5, 6, 7, 8, 9], [9]), ([10, 0, 1, 2, 3, 4, 5, 6, 7, 8, 9, 10], [])])
def spec_WaysGone.B6 : List Nat := [0, 0, 0, 6, 15, 0, 0, 64, 224, 511, 1023, 2047]
theorem spec_WaysGone.tab6 : rtab .any (opsOf Try.f66 6) = spec_WaysGone.T6 := by kernel_rfl
theorem spec_WaysGone.bits6 : waitsOk spec_WaysGone.T6.2 spec_WaysGone.B6 = true := by kernel_rfl
set_option maxHeartbeats 8000000 in
set_option maxRecDepth 100000 in
theorem spec_WaysGone.calls (k : Nat) (A0 : Option Addr) (c0 : Nat) (l0 : List (S86)) (a1_0 : Int) (a1_1 : Int) (r1 : List (S86)) (r2 : Bool) (w : World) (hr0 : Kd.C k86 w A0 l0.length l0) (hc0 : l0.length ≤ c0) (h : spec_WaysGone.f k l0 a1_0 a1_1 = some (r1, r2)) :
  Calls Try.prog 66 #[.slice A0 l0.length c0, .agg #[.int .i64 a1_0, .int .i64 a1_1]] w fun e w' => ∃ v0_ : Value, e = .returned (.tuple #[v0_, .bool r2]) ∧ Kd.R k86 86 w' w.heap.size (fun _ => True) v0_ r1 ∧ Below w.heap.size w w' := by
 have hu32 := Try.underlying32
 have HR0 := Aside0.mk hr0
 have HC0 := Aside0.mk hc0
 clear hr0 hc0
 have HB := am (Below.refl w.heap.size w)
 have H : ((spec_WaysOk.f k l0).bind fun t102 => (if t102 = true then ((spec_l3At.f k l0 a1_0 a1_1).bind fun bt106 => (if bt106.2 = true then ((some (([] : List (S86)) : List (S86))).bind fun y108 => (if 0 ≤ bt106.1 then (if bt106.1 ≤ (l0.length : Int) then ((some (l0.take (bt106.1 : Int).toNat : List (S86))).bind fun y111 => (if y108.length + y111.length < 5864062014805 then ((some (y108 ++ y111 : List (S86))).bind fun y115 => (if 0 ≤ (wrap64 (bt106.1 + 1)) then (if (wrap64 (bt106.1 + 1)) ≤ (l0.length : Int) then ((some (l0.drop ((wrap64 (bt106.1 + 1)) : Int).toNat : List (S86))).bind fun y118 => (if y115.length + y118.length < 5864062014805 then (some ((y115 ++ y118), true)) else (none))) else (none)) else (none))) else (none))) else (none)) else (none))) else ((spec_l3Copy.f l0).bind fun t125 => (some (t125, false))))) else (some ((([] : List (S86))), false)))) = some (r1, r2) := h
 clear h
 replace H := Option.bind_eq_some_iff.mp H
 obtain ⟨t102, A30, H⟩ := H
 replace H : (if t102 = true then ((spec_l3At.f k l0 a1_0 a1_1).bind fun bt106 => (if bt106.2 = true then ((some (([] : List (S86)) : List (S86))).bind fun y108 => (if 0 ≤ bt106.1 then (if bt106.1 ≤ (l0.length : Int) then ((some (l0.take (bt106.1 : Int).toNat : List (S86))).bind fun y111 => (if y108.length + y111.length < 5864062014805 then ((some (y108 ++ y111 : List (S86))).bind fun y115 => (if 0 ≤ (wrap64 (bt106.1 + 1)) then (if (wrap64 (bt106.1 + 1)) ≤ (l0.length : Int) then ((some (l0.drop ((wrap64 (bt106.1 + 1)) : Int).toNat : List (S86))).bind fun y118 => (if y115.length + y118.length < 5864062014805 then (some ((y115 ++ y118), true)) else (none))) else (none)) else (none))) else (none))) else (none)) else (none))) else ((spec_l3Copy.f l0).bind fun t125 => (some (t125, false))))) else (some ((([] : List (S86))), false))) = some (r1, r2) := H
 have A3 := Aside0.mk A30
 clear A30
 by_cases c4 : t102 = true
 ·subst c4
  have H1 : ((spec_l3At.f k l0 a1_0 a1_1).bind fun bt106 => (if bt106.2 = true then ((some (([] : List (S86)) : List (S86))).bind fun y108 => (if 0 ≤ bt106.1 then (if bt106.1 ≤ (l0.length : Int) then ((some (l0.take (bt106.1 : Int).toNat : List (S86))).bind fun y111 => (if y108.length + y111.length < 5864062014805 then ((some (y108 ++ y111 : List (S86))).bind fun y115 => (if 0 ≤ (wrap64 (bt106.1 + 1)) then (if (wrap64 (bt106.1 + 1)) ≤ (l0.length : Int) then ((some (l0.drop ((wrap64 (bt106.1 + 1)) : Int).toNat : List (S86))).bind fun y118 => (if y115.length + y118.length < 5864062014805 then (some ((y115 ++ y118), true)) else (none))) else (none)) else (none))) else (none))) else (none)) else (none))) else ((spec_l3Copy.f l0).bind fun t125 => (some (t125, false))))) = some (r1, r2) := by rw [if_pos rfl] at H; exact H
  clear H
  have H := H1
  clear H1
  replace H := Option.bind_eq_some_iff.mp H
  obtain ⟨⟨t106, t107⟩, A50, H⟩ := H
  replace H : (if t107 = true then ((some (([] : List (S86)) : List (S86))).bind fun y108 => (if 0 ≤ t106 then (if t106 ≤ (l0.length : Int) then ((some (l0.take (t106 : Int).toNat : List (S86))).bind fun y111 => (if y108.length + y111.length < 5864062014805 then ((some (y108 ++ y111 : List (S86))).bind fun y115 => (if 0 ≤ (wrap64 (t106 + 1)) then (if (wrap64 (t106 + 1)) ≤ (l0.length : Int) then ((some (l0.drop ((wrap64 (t106 + 1)) : Int).toNat : List (S86))).bind fun y118 => (if y115.length + y118.length < 5864062014805 then (some ((y115 ++ y118), true)) else (none))) else (none)) else (none))) else (none))) else (none)) else (none))) else ((spec_l3Copy.f l0).bind fun t125 => (some (t125, false)))) = some (r1, r2) := H
  have A5 := Aside0.mk A50
  clear A50
  by_cases c6 : t107 = true
  ·subst c6
   have H1 : ((some (([] : List (S86)) : List (S86))).bind fun y108 => (if 0 ≤ t106 then (if t106 ≤ (l0.length : Int) then ((some (l0.take (t106 : Int).toNat : List (S86))).bind fun y111 => (if y108.length + y111.length < 5864062014805 then ((some (y108 ++ y111 : List (S86))).bind fun y115 => (if 0 ≤ (wrap64 (t106 + 1)) then (if (wrap64 (t106 + 1)) ≤ (l0.length : Int) then ((some (l0.drop ((wrap64 (t106 + 1)) : Int).toNat : List (S86))).bind fun y118 => (if y115.length + y118.length < 5864062014805 then (some ((y115 ++ y118), true)) else (none))) else (none)) else (none))) else (none))) else (none)) else (none))) = some (r1, r2) := by rw [if_pos rfl] at H; exact H
   clear H
   have H := H1
   clear H1
   obtain ⟨y108, hy108⟩ : ∃ y_ : List (S86), y_ = (([] : List (S86))) := ⟨_, rfl⟩
   replace H : (if 0 ≤ t106 then (if t106 ≤ (l0.length : Int) then ((some (l0.take (t106 : Int).toNat : List (S86))).bind fun y111 => (if y108.length + y111.length < 5864062014805 then ((some (y108 ++ y111 : List (S86))).bind fun y115 => (if 0 ≤ (wrap64 (t106 + 1)) then (if (wrap64 (t106 + 1)) ≤ (l0.length : Int) then ((some (l0.drop ((wrap64 (t106 + 1)) : Int).toNat : List (S86))).bind fun y118 => (if y115.length + y118.length < 5864062014805 then (some ((y115 ++ y118), true)) else (none))) else (none)) else (none))) else (none))) else (none)) else (none)) = some (r1, r2) := by first | (rw [hy108]; with_reducible exact H) | (have H2_ := (Option.bind_some _ _).symm.trans H; rw [hy108]; with_reducible exact H2_) | (have H2_ := (Option.bind_some _ _).symm.trans H; with_reducible exact H2_) | with_reducible exact H | (rw [hy108]; exact H) | exact H
   have Ny108 := Aside0.mk hy108
   clear hy108
   by_cases c7 : 0 ≤ t106
   ·rw [if_pos c7] at H
    have c7b0 := eq_true c7
    have c7b1 : decide (0 ≤ t106) = true := decide_eq_true c7
    clear c7
    by_cases c8 : t106 ≤ (l0.length : Int)
    ·rw [if_pos c8] at H
     have c8b0 := eq_true c8
     have c8b1 : decide (t106 ≤ (l0.length : Int)) = true := decide_eq_true c8
     clear c8
     obtain ⟨y111, hy111⟩ : ∃ y_ : List (S86), y_ = (l0.take (t106 : Int).toNat) := ⟨_, rfl⟩
     replace H : (if y108.length + y111.length < 5864062014805 then ((some (y108 ++ y111 : List (S86))).bind fun y115 => (if 0 ≤ (wrap64 (t106 + 1)) then (if (wrap64 (t106 + 1)) ≤ (l0.length : Int) then ((some (l0.drop ((wrap64 (t106 + 1)) : Int).toNat : List (S86))).bind fun y118 => (if y115.length + y118.length < 5864062014805 then (some ((y115 ++ y118), true)) else (none))) else (none)) else (none))) else (none)) = some (r1, r2) := by first | (rw [hy111]; with_reducible exact H) | (have H2_ := (Option.bind_some _ _).symm.trans H; rw [hy111]; with_reducible exact H2_) | (have H2_ := (Option.bind_some _ _).symm.trans H; with_reducible exact H2_) | with_reducible exact H | (rw [hy111]; exact H) | exact H
     have Ny111 := Aside0.mk hy111
     clear hy111
     by_cases c9 : y108.length + y111.length < 5864062014805
     ·rw [if_pos c9] at H
      have LMc9 := Aside0.mk c9
      clear c9
      obtain ⟨y115, hy115⟩ : ∃ y_ : List (S86), y_ = (y108 ++ y111) := ⟨_, rfl⟩
      replace H : (if 0 ≤ (wrap64 (t106 + 1)) then (if (wrap64 (t106 + 1)) ≤ (l0.length : Int) then ((some (l0.drop ((wrap64 (t106 + 1)) : Int).toNat : List (S86))).bind fun y118 => (if y115.length + y118.length < 5864062014805 then (some ((y115 ++ y118), true)) else (none))) else (none)) else (none)) = some (r1, r2) := by first | (rw [hy115]; with_reducible exact H) | (have H2_ := (Option.bind_some _ _).symm.trans H; rw [hy115]; with_reducible exact H2_) | (have H2_ := (Option.bind_some _ _).symm.trans H; with_reducible exact H2_) | with_reducible exact H | (rw [hy115]; exact H) | exact H
      have Ny115 := Aside0.mk hy115
      clear hy115
      obtain ⟨ji10, hji10⟩ : ∃ j_ : Int, (wrap64 (t106 + 1)) = j_ := ⟨_, rfl⟩
      replace H : (if 0 ≤ (ji10) then (if (ji10) ≤ (l0.length : Int) then ((some (l0.drop ((ji10) : Int).toNat : List (S86))).bind fun y118 => (if y115.length + y118.length < 5864062014805 then (some ((y115 ++ y118), true)) else (none))) else (none)) else (none)) = some (r1, r2) := by first | (rw [hji10] at H; exact H) | (simp only [hji10] at H ⊢; exact H)
      (try rw [hji10] at A3)
      (try rw [hji10] at A5)
      have hji10w : (IntKind.i64.wrap (t106 + 1)) = ji10 := (i64_w _).trans hji10
      by_cases c11 : 0 ≤ (ji10)
      ·rw [if_pos c11] at H
       have c11b0 := eq_true c11
       have c11b1 : decide (0 ≤ (ji10)) = true := decide_eq_true c11
       clear c11
       by_cases c12 : (ji10) ≤ (l0.length : Int)
       ·rw [if_pos c12] at H
        have c12b0 := eq_true c12
        have c12b1 : decide ((ji10) ≤ (l0.length : Int)) = true := decide_eq_true c12
        clear c12
        obtain ⟨y118, hy118⟩ : ∃ y_ : List (S86), y_ = (l0.drop ((ji10) : Int).toNat) := ⟨_, rfl⟩
        replace H : (if y115.length + y118.length < 5864062014805 then (some ((y115 ++ y118), true)) else (none)) = some (r1, r2) := by first | (rw [hy118]; with_reducible exact H) | (have H2_ := (Option.bind_some _ _).symm.trans H; rw [hy118]; with_reducible exact H2_) | (have H2_ := (Option.bind_some _ _).symm.trans H; with_reducible exact H2_) | with_reducible exact H | (rw [hy118]; exact H) | exact H
        have Ny118 := Aside0.mk hy118
        clear hy118
        by_cases c13 : y115.length + y118.length < 5864062014805
        ·rw [if_pos c13] at H
         have LMc13 := Aside0.mk c13
         clear c13
         obtain ⟨y122, hy122⟩ : ∃ y_ : List (S86), y_ = (y115 ++ y118) := ⟨_, rfl⟩
         replace H : (some (y122, true)) = some (r1, r2) := by first | (rw [hy122]; with_reducible exact H) | (have H2_ := (Option.bind_some _ _).symm.trans H; rw [hy122]; with_reducible exact H2_) | (have H2_ := (Option.bind_some _ _).symm.trans H; with_reducible exact H2_) | with_reducible exact H | (rw [hy122]; exact H) | exact H
         have Ny122 := Aside0.mk hy122
         clear hy122
         simp only [Option.some.injEq, Prod.mk.injEq] at H
         obtain ⟨rfl, rfl⟩ := H
         go_enter Try.func66, Try.ntmps66
         try go_wp2_with (first | ((with_reducible refine gate_dst (N := 3) rfl ?_); refine box_event rfl (N := 3) rfl (cs := #[.int .i64 a1_0, .int .i64 a1_1]) (t := 32) BX ?_; intro gb101 hg w14 hbox hb; have BK101 := am (hbox); have GW101 := am (GH HB hg); have GE101 := GW101; replace HB := am (below_step (KL HB) hb); clear hb hbox hg) | ((with_reducible refine gate_callee (f := 58) rfl ?_); refine goesL_ (some 9) rfl rfl Try.func58 (by kernel_rfl) rfl #[.slice A0 l0.length c0] rfl MT ?_; (with_reducible refine (spec_WaysOk.calls k _ _ l0 true _ ?side1 ?side2 A3.out).mono ?_); (case side1 => exact KC (Kd.C_below HR0.out HB.out)); (case side2 => exact HC0.out); rintro e w15 ⟨rfl, hb⟩; refine ⟨_, rfl, ?_⟩; replace BK101 := am (BB BK101 hb); replace HB := am (below_step (K1 HB GE101.out) hb); (try clear hb); (try clear hb2); (try clear hk); (try clear hi); obtain ⟨hcz16_0, hcz16_1, hfz16_0⟩ := y2 w15 BK101.out) | ((with_reducible refine gate_callee (f := 118) rfl ?_); refine goesL_ (some 15) rfl rfl Try.func118 (by kernel_rfl) rfl #[.slice A0 l0.length c0, .agg #[.int .i64 a1_0, .int .i64 a1_1]] rfl MT ?_; (with_reducible refine (spec_l3At.calls k _ _ l0 a1_0 a1_1 t106 true _ ?side1 ?side2 A5.out).mono ?_); (case side1 => exact KC (Kd.C_below HR0.out HB.out)); (case side2 => exact HC0.out); rintro e w17 ⟨rfl, hb⟩; refine ⟨_, rfl, ?_⟩; replace BK101 := am (BB BK101 hb); replace HB := am (below_step (K1 HB GE101.out) hb); (try clear hb); (try clear hb2); (try clear hk); (try clear hi)))
         replace BK101 := am (blk_drew BK101.out)
         replace HB := am (below_drew1 HB.out)
         have q19 : (t106 : Int) ≤ ((l0.length : Int) : Int) := OD
         obtain ⟨i019, hi019, _, hsz19, _⟩ := info_parts info86
         have hroom19 : l0.length ≤ c0 := HC0.out
         have hC19 : Kd.C k86 _ A0 l0.length l0 := HR0.out
         have hcut19 := cut_to (P := Try.prog) 75 86 .i64 Try.underlying75 hi019 A0 l0.length c0 t106 (OD) q19 hroom19
         have hr19 := Kd.C_take (m := (t106 : Int).toNat) hC19 (by omega)
         have hy19 : y111.length = (t106 : Int).toNat := (by rw [Ny111.out, List.length_take]; omega)
         rw [← Ny111.out] at hr19
         rw [← hy19] at hcut19
         have HR114 := Aside0.mk hr19
         have HC114 := am (show y111.length ≤ c0 from by omega)
         clear hr19 hC19 hroom19 hi019 hsz19
         have KY19 := Aside0.mk hy19
         clear hy19
         replace q19 := eq_true q19
         have q20 : ((ji10) : Int) ≤ ((l0.length : Int) : Int) := OD
         obtain ⟨i020, hi020, _, hsz20, _⟩ := info_parts info86
         have hroom20 : l0.length ≤ c0 := HC0.out
         have hC20 : Kd.C k86 _ A0 l0.length l0 := HR0.out
         have q020 : (0 : Int) ≤ ((ji10) : Int) := OD
         have hcut20 := cut_from (P := Try.prog) 75 86 .i64 Try.underlying75 hi020 3 hsz20 A0 l0.length c0 (ji10) q020 q20
         have hr20 := Kd.C_drop (m := ((ji10) : Int).toNat) (c := c0) hC20 (by omega) hroom20
         obtain ⟨A20, hA20⟩ : ∃ A1, A1 = (if c0 = ((ji10) : Int).toNat then A0 else (A0 : Option Addr).map (·.add (((ji10) : Int).toNat * 3))) := ⟨_, rfl⟩
         obtain ⟨c20, hc20⟩ : ∃ c1, c1 = c0 - ((ji10) : Int).toNat := ⟨_, rfl⟩
         have hy20 : y118.length = l0.length - ((ji10) : Int).toNat := (by rw [Ny118.out, List.length_drop] <;> omega)
         rw [show (l0).drop ((ji10) : Int).toNat = y118 from Ny118.out.symm] at hr20
         replace hr20 : Kd.C k86 _ A20 y118.length y118 := (by rw [hA20]; exact hr20)
         rw [← hy20, ← hA20, ← hc20] at hcut20
         have HR121 := Aside0.mk hr20
         have HC121 := am (show y118.length ≤ c20 from by rw [hy20, hc20]; exact Nat.sub_le_sub_right hroom20 _)
         clear hr20 hC20 hroom20 hi020 hsz20 hc20
         have KY20 := Aside0.mk hy20
         have KA20 := Aside0.mk hA20
         clear hy20 hA20
         replace q20 := eq_true q20
         refine start_ (n := 12) (S := fun w' => True) (ds := []) (tf 0 12) (by kernel_rfl) rfl rfl trivial (fun hHeld => ?_); refine with_tabW spec_WaysGone.tab6 spec_WaysGone.bits6 (fun HT_ HW_ => ?_)
         generalize w17.drew = w18 at BK101 HB HR114 HR121 hHeld ⊢
         refine pv HT_ 1 23 (tr [0, 1, 1, 10]) ?_
         refine pv HT_ 2 24 (tr [0, 1, 2, 9]) ?_
         refine pv HT_ 3 25 (tr [0, 1, 3, 8]) ?_
         refine pv HT_ 5 27 (tr [0, 1, 3, 1, 1, 6]) ?_
         refine pv HT_ 6 28 (tr [0, 1, 3, 1, 2, 5]) ?_
         refine pv HT_ 7 29 (tr [0, 1, 3, 1, 3, 4]) ?_
         refine pv HT_ 8 30 (tr [0, 1, 3, 1, 4, 3]) ?_
         refine one_ (i := 0) (N := some 22) (tr [4, 1, 4, 3]) rfl rfl (one_of HT_.out (by kernel_rfl)) (by decide) (fun K hK => ?_)
         refine Kd.R_lit_step k86 _ 86 ?hg (N := 22) ?hd (xs := ([] : List (S86))) (inner := []) (ok := fun _ => True) (okp := fun _ => True) ?hr ?hp (fun _ hk => hk) trivial (Below.refl _ _) (Nat.le_refl _) (by simp) ?_; (case hd => rfl); (case hg => rfl); (case hr => first | (go_simp; done) | (go_simp; rfl)); (case hp => exact (Reps.none _ _))
         intro v109 w21 ho22 hb hg_ hnew_
         clear hg_ hnew_
         (first | rw [← Ny108.out] at ho22 | (simp only [Int.reduceToNat] at ho22; rw [← Ny108.out] at ho22))
         have HO110 := am (Kd.R_lower ho22 (below_size (K1 HB GE101.out)))
         replace BK101 := am (BB BK101 hb)
         replace HB := am (below_step (K1 HB GE101.out) hb)
         clear hb ho22
         refine hK.out _ _ trivial (fun hHeld => ?_)
         clear hK K
         refine norm_ (a' := ?_) ?_ ?_
         rotate_left
         ·show Act.put _ (some 22) _ = _
          simp only [Act.put, List.setIfInBounds_toArray, List.set_cons_zero, List.set_cons_succ, i64_w, i32_w]
          rfl
         refine one_ (i := 4) (N := some 26) (tf 9 3) rfl rfl (one_of HT_.out (by kernel_rfl)) (by decide) (fun K hK => ?_)
         refine Kd.R_append_rows_step k86 (w0 := w) w.heap.size (by rfl) (.tmp 22) (.tmp 25) 75 86 (.agg #[(.int .i64 0), (.int .i64 0), (.int .i64 0)]) 24 rfl Try.underlying75 info86 rfl (by decide) (by omega) v109 y108 y111 _ _ _ (fun _ => True) (fun _ => False) rfl rfl ?aO ?aR (fun _ _ h => h) (fun _ h => h.elim) ?aF ?aB ?aS ?aL ?_
         (case aR => exact KC (Kd.C_below HR114.out HB.out))
         (case aB => exact (K1 HB GE101.out))
         (case aF => exact (fun _ _ => trivial))
         (case aO => exact (KR HO110))
         (case aS => exact (below_size (K1 HB GE101.out)))
         (case aL => have := LMc9.out; omega)
         intro v116 w23 ho hb hg hat
         rw [← Ny115.out] at ho
         replace BK101 := am (blk_grown (g := gb101) (o := .cells #[.int .i64 a1_0, .int .i64 a1_1] 32 (0, 0)) (KB BK101) hg (Kd.R_ne HO110.out BK101.out (by decide)))
         replace HB := am (hb)
         have HO117 := am (ho)
         clear HO110
         clear ho hb hg hat
         refine hK.out _ _ trivial (fun hHeld => ?_)
         clear hK K
         refine norm_ (a' := ?_) ?_ ?_
         rotate_left
         ·show Act.put _ (some 26) _ = _
          simp only [Act.put, List.setIfInBounds_toArray, List.set_cons_zero, List.set_cons_succ, i64_w, i32_w]
          rfl
         refine one_ (i := 9) (N := some 31) (tf 10 2) rfl rfl (one_of HT_.out (by kernel_rfl)) (by decide) (fun K hK => ?_)
         refine Kd.R_append_rows_step k86 (w0 := w) w.heap.size (by rfl) (.tmp 26) (.tmp 30) 75 86 (.agg #[(.int .i64 0), (.int .i64 0), (.int .i64 0)]) 24 rfl Try.underlying75 info86 rfl (by decide) (by omega) v116 y115 y118 _ _ _ (fun _ => True) (fun _ => False) rfl rfl ?aO ?aR (fun _ _ h => h) (fun _ h => h.elim) ?aF ?aB ?aS ?aL ?_
         (case aR => exact KC (Kd.C_below HR121.out HB.out))
         (case aB => exact (K1 HB GE101.out))
         (case aF => exact (fun _ _ => trivial))
         (case aO => exact (KR HO117))
         (case aS => exact (below_size (K1 HB GE101.out)))
         (case aL => have := LMc13.out; omega)
         intro v123 w24 ho hb hg hat
         rw [← Ny122.out] at ho
         replace BK101 := am (blk_grown (g := gb101) (o := .cells #[.int .i64 a1_0, .int .i64 a1_1] 32 (0, 0)) (KB BK101) hg (Kd.R_ne HO117.out BK101.out (by decide)))
         replace HB := am (hb)
         have HO124 := am (ho)
         clear HO117
         clear ho hb hg hat
         refine hK.out _ _ trivial (fun hHeld => ?_)
         clear hK K
         refine norm_ (a' := ?_) ?_ ?_
         rotate_left
         ·show Act.put _ (some 31) _ = _
          simp only [Act.put, List.setIfInBounds_toArray, List.set_cons_zero, List.set_cons_succ, i64_w, i32_w]
          rfl
         refine pv HT_ 10 4 (tf 11 1) ?_
         refine pv HT_ 11 5 (tf 12 0) ?_
         refine done_ (done_of HT_.out (by kernel_rfl)) ?_
         try go_wp2
         go_ret2
         exact ⟨_, by first | rfl | (simp [errW_none, errW_some] <;> rfl) | (simp only [← hji10]; first | rfl | (simp [errW_none, errW_some] <;> rfl)) | (simp [*, errW_none, errW_some] <;> rfl), by (with_reducible repeat (first | apply Kd.R_alloc | apply Kd.R_drewN | apply Kd.R_drew)); exact HO124.out, K1 HB GE101.out⟩
        ·rw [if_neg c13] at H
         exact absurd H (by simp)
       ·rw [if_neg c12] at H
        exact absurd H (by simp)
      ·rw [if_neg c11] at H
       exact absurd H (by simp)
     ·rw [if_neg c9] at H
      exact absurd H (by simp)
    ·rw [if_neg c8] at H
     exact absurd H (by simp)
   ·rw [if_neg c7] at H
    exact absurd H (by simp)
  ·replace c6 := Bool.eq_false_iff.mpr c6
   subst c6
   have H1 : ((spec_l3Copy.f l0).bind fun t125 => (some (t125, false))) = some (r1, r2) := by rw [if_neg (show ¬ (false = true) by decide)] at H; exact H
   clear H
   have H := H1
   clear H1
   replace H := Option.bind_eq_some_iff.mp H
   obtain ⟨t125, A250, H⟩ := H
   replace H : (some (t125, false)) = some (r1, r2) := H
   have A25 := Aside0.mk A250
   clear A250
   simp only [Option.some.injEq, Prod.mk.injEq] at H
   obtain ⟨rfl, rfl⟩ := H
   go_enter Try.func66, Try.ntmps66
   go_wp2_with (first | ((with_reducible refine gate_dst (N := 3) rfl ?_); refine box_event rfl (N := 3) rfl (cs := #[.int .i64 a1_0, .int .i64 a1_1]) (t := 32) BX ?_; intro gb101 hg w26 hbox hb; have BK101 := am (hbox); have GW101 := am (GH HB hg); have GE101 := GW101; replace HB := am (below_step (KL HB) hb); clear hb hbox hg) | ((with_reducible refine gate_callee (f := 58) rfl ?_); refine goesL_ (some 9) rfl rfl Try.func58 (by kernel_rfl) rfl #[.slice A0 l0.length c0] rfl MT ?_; (with_reducible refine (spec_WaysOk.calls k _ _ l0 true _ ?side1 ?side2 A3.out).mono ?_); (case side1 => exact KC (Kd.C_below HR0.out HB.out)); (case side2 => exact HC0.out); rintro e w27 ⟨rfl, hb⟩; refine ⟨_, rfl, ?_⟩; replace BK101 := am (BB BK101 hb); replace HB := am (below_step (K1 HB GE101.out) hb); (try clear hb); (try clear hb2); (try clear hk); (try clear hi); obtain ⟨hcz28_0, hcz28_1, hfz28_0⟩ := y2 w27 BK101.out) | ((with_reducible refine gate_callee (f := 118) rfl ?_); refine goesL_ (some 15) rfl rfl Try.func118 (by kernel_rfl) rfl #[.slice A0 l0.length c0, .agg #[.int .i64 a1_0, .int .i64 a1_1]] rfl MT ?_; (with_reducible refine (spec_l3At.calls k _ _ l0 a1_0 a1_1 t106 false _ ?side1 ?side2 A5.out).mono ?_); (case side1 => exact KC (Kd.C_below HR0.out HB.out)); (case side2 => exact HC0.out); rintro e w29 ⟨rfl, hb⟩; refine ⟨_, rfl, ?_⟩; replace BK101 := am (BB BK101 hb); replace HB := am (below_step (K1 HB GE101.out) hb); (try clear hb); (try clear hb2); (try clear hk); (try clear hi)) | ((with_reducible refine gate_callee (f := 119) rfl ?_); refine goesL_ (some 21) rfl rfl Try.func119 (by kernel_rfl) rfl #[.slice A0 l0.length c0] rfl MT ?_; (with_reducible refine (spec_l3Copy.calls _ _ l0 t125 _ ?side1 ?side2 A25.out).mono ?_); (case side1 => exact KC (Kd.C_below HR0.out HB.out)); (case side2 => exact HC0.out); rintro e w30 ⟨v126, rfl, ho0, hb⟩; refine ⟨_, rfl, ?_⟩; have HO127 := am (Kd.R_lower ho0 (below_size (K1 HB GE101.out))); replace BK101 := am (BB BK101 hb); replace HB := am (below_step (K1 HB GE101.out) hb); (try clear hb); (try clear hb2); (try clear hk); (try clear hi); (try clear ho0)))
   go_ret2
   exact ⟨_, ER, by (with_reducible repeat (first | apply Kd.R_alloc | apply Kd.R_drewN | apply Kd.R_drew)); exact HO127.out, K1 HB GE101.out⟩
 ·replace c4 := Bool.eq_false_iff.mpr c4
  subst c4
  have H1 : (some ((([] : List (S86))), false)) = some (r1, r2) := by rw [if_neg (show ¬ (false = true) by decide)] at H; exact H
  clear H
  have H := H1
  clear H1
  obtain ⟨y103, hy103⟩ : ∃ y_ : List (S86), y_ = (([] : List (S86))) := ⟨_, rfl⟩
  replace H : (some (y103, false)) = some (r1, r2) := by first | (rw [hy103]; with_reducible exact H) | (have H2_ := (Option.bind_some _ _).symm.trans H; rw [hy103]; with_reducible exact H2_) | (have H2_ := (Option.bind_some _ _).symm.trans H; with_reducible exact H2_) | with_reducible exact H | (rw [hy103]; exact H) | exact H
  have Ny103 := Aside0.mk hy103
  clear hy103
  simp only [Option.some.injEq, Prod.mk.injEq] at H
  obtain ⟨rfl, rfl⟩ := H
  go_enter Try.func66, Try.ntmps66
  go_wp2_with (first | ((with_reducible refine gate_dst (N := 3) rfl ?_); refine box_event rfl (N := 3) rfl (cs := #[.int .i64 a1_0, .int .i64 a1_1]) (t := 32) BX ?_; intro gb101 hg w31 hbox hb; have BK101 := am (hbox); have GW101 := am (GH HB hg); have GE101 := GW101; replace HB := am (below_step (KL HB) hb); clear hb hbox hg) | ((with_reducible refine gate_callee (f := 58) rfl ?_); refine goesL_ (some 9) rfl rfl Try.func58 (by kernel_rfl) rfl #[.slice A0 l0.length c0] rfl MT ?_; (with_reducible refine (spec_WaysOk.calls k _ _ l0 false _ ?side1 ?side2 A3.out).mono ?_); (case side1 => exact KC (Kd.C_below HR0.out HB.out)); (case side2 => exact HC0.out); rintro e w32 ⟨rfl, hb⟩; refine ⟨_, rfl, ?_⟩; replace BK101 := am (BB BK101 hb); replace HB := am (below_step (K1 HB GE101.out) hb); (try clear hb); (try clear hb2); (try clear hk); (try clear hi)) | ((with_reducible refine gate_dst (N := 11) rfl ?_); refine Kd.R_lit k86 _ 86 ?hg (N := 11) ?hd (xs := ([] : List (S86))) (inner := []) (ok := fun _ => True) (okp := fun _ => True) ?hr ?hp (fun _ hk => hk) trivial (Below.refl _ _) (Nat.le_refl _) (by simp) ?_; (case hd => rfl); (case hg => rfl); (case hr => first | (go_simp; done) | (go_simp; rfl)); (case hp => exact (Reps.none _ _)); intro v104 w33 ho34 hb hg_ hnew_; clear hg_ hnew_; (first | rw [← Ny103.out] at ho34 | (simp only [Int.reduceToNat] at ho34; rw [← Ny103.out] at ho34)); have HO105 := am (Kd.R_lower ho34 (below_size (K1 HB GE101.out))); replace BK101 := am (BB BK101 hb); replace HB := am (below_step (K1 HB GE101.out) hb); clear hb ho34))
  go_ret2
  exact ⟨_, ER, by (with_reducible repeat (first | apply Kd.R_alloc | apply Kd.R_drewN | apply Kd.R_drew)); exact HO105.out, K1 HB GE101.out⟩
end Go.Proofs.Ytioghacieopbdaa.PAll
end
