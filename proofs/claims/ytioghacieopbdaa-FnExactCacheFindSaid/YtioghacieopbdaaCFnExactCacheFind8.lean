/- Contracts of the functions that the statement reaches, printed by a program out of the translation and joined with the plain laws. -/
import Derived.Test.YtioghacieopbdaaCFnExactCacheFind3
import Derived.Test.YtioghacieopbdaaCFnExactCacheFind4
import Derived.Test.YtioghacieopbdaaCFnExactCacheFind5
import Derived.Test.YtioghacieopbdaaCFnExactCacheFind6
import Derived.Test.YtioghacieopbdaaCFnExactCacheFind7
section
namespace Go.Proofs.Ytioghacieopbdaa.PAll
open Go.RowKit Go.Proofs.YtioghacieopbdaaW.PrintWords Go.Proofs.YtioghacieopbdaaW.PrintLast Go.Proofs.YtioghacieopbdaaW.PrintMore
attribute [local go_sem] max2_int min2_int max_two min_two max_three min_three max_four min_four   -- for this text's walks alone
set_option linter.unusedVariables false
set_option linter.unusedSimpArgs false
mutual
def laws_FnExactCacheFind.j0 : Nat → List (S112) → Int → List (S34) → Int → Bool → Int → List (S149) → Int → Int → Int → Int → List (S108) → Int → List (S108) → Int → List (S108) → Option (Bool)
 | 0, _, _, _, _, _, _, _, _, _, _, _, _, _, _, _, _ => none
 | k + 1, x0, x9, x10, x13, x59, x102000, x102001, x103000, x103001, x103002, x121000, x121001, x129000, x129001, x138000, x138001 => if x59 = true then (some false) else ((laws_toRuleS.f k x0).bind fun t139 => ((laws_eqRuleS.f k x10 t139).bind fun t142 => (if t142 = true then ((laws_toCache.f k x102000 x102001).bind fun bt143 => ((laws_eqCache.f k x129000 x129001 bt143.1 bt143.2).bind fun t147 => (if t147 = true then ((laws_markRuleS.f k x10 1).bind fun bt148 => ((laws_markCache.f k x129000 x129001 bt148.1).bind fun bt150 => (if bt150.1 < 0 then (laws_FnExactCacheFind.j1 k x0 x9 true x102000 x102001 x103000 x103001 x103002 x121000 x121001 x138000 x138001) else ((laws_eqCache.f k x138000 x138001 x121000 x121001).bind fun t152 => (if t152 = true then (laws_FnExactCacheFind.j1 k x0 x9 (x13 != x9) x102000 x102001 x103000 x103001 x103002 x121000 x121001 x138000 x138001) else (laws_FnExactCacheFind.j1 k x0 x9 true x102000 x102001 x103000 x103001 x103002 x121000 x121001 x138000 x138001)))))) else (some false)))) else (some false))))
def laws_FnExactCacheFind.j1 : Nat → List (S112) → Int → Bool → Int → List (S149) → Int → Int → Int → Int → List (S108) → Int → List (S108) → Option (Bool)
 | 0, _, _, _, _, _, _, _, _, _, _, _, _ => none
 | k + 1, x0, x9, x88, x102000, x102001, x103000, x103001, x103002, x121000, x121001, x138000, x138001 => if x88 = true then (some false) else ((laws_markCache.f k x138000 x138001 1).bind fun bt153 => ((laws_heldCache.f k x138000 bt153.2 1).bind fun t155 => (if t155 < 0 then (some false) else (if t155 = bt153.1 then ((laws_toRuleS.f k x0).bind fun t156 => ((laws_toCache.f k x102000 x102001).bind fun bt159 => ((laws_toCall.f x103000 x103001 x103002).bind fun bt163 => ((impl_CacheFind.f k t156 bt159.1 bt159.2 bt163.1 bt163.2.1 bt163.2.2).bind fun bt166 => ((laws_eqCache.f k bt166.1 bt166.2.1 x121000 x121001).bind fun t172 => (if t172 = true then (laws_FnExactCacheFind.j2 k bt153.1 (bt166.2.2 != x9) x138000 bt153.2) else (laws_FnExactCacheFind.j2 k bt153.1 true x138000 bt153.2))))))) else (some false)))))
def laws_FnExactCacheFind.j2 : Nat → Int → Bool → Int → List (S108) → Option (Bool)
 | 0, _, _, _, _ => none
 | k + 1, x15, x118, x138000, x138001 => if x118 = true then (some false) else ((laws_heldCache.f k x138000 x138001 1).bind fun t173 => (if t173 < 0 then (some false) else (if t173 = x15 then (some true) else (some false))))
end
def laws_FnExactCacheFind.f (k : Nat) (l0 : List (S112)) (a1_0 : Int) (l1_1 : List (S149)) (a2_0 : Int) (a2_1 : Int) (a2_2 : Int) : Option (Bool) := (laws_szRuleS.f l0 1048576).bind fun t103 => (if t103 < 0 then (some true) else ((laws_szCache.f a1_0 l1_1 t103).bind fun t104 => (if t104 < 0 then (some true) else ((laws_toRuleS.f k l0).bind fun t105 => ((laws_toCache.f k a1_0 l1_1).bind fun bt108 => ((laws_toCall.f a2_0 a2_1 a2_2).bind fun bt112 => ((spec_CacheFind.f k t105 bt108.1 bt108.2 bt112.1 bt112.2.1 bt112.2.2).bind fun bt115 => ((laws_toRuleS.f k l0).bind fun t121 => ((laws_toCache.f k a1_0 l1_1).bind fun bt124 => ((laws_toCall.f a2_0 a2_1 a2_2).bind fun bt129 => ((impl_CacheFind.f k t121 bt124.1 bt124.2 bt129.1 bt129.2.1 bt129.2.2).bind fun bt132 => ((laws_eqCache.f k bt132.1 bt132.2.1 bt115.1 bt115.2.1).bind fun t138 => (if t138 = true then (laws_FnExactCacheFind.j0 k l0 bt115.2.2 t121 bt132.2.2 (bt132.2.2 != bt115.2.2) a1_0 l1_1 a2_0 a2_1 a2_2 bt115.1 bt115.2.1 bt124.1 bt124.2 bt132.1 bt132.2.1) else (laws_FnExactCacheFind.j0 k l0 bt115.2.2 t121 bt132.2.2 true a1_0 l1_1 a2_0 a2_1 a2_2 bt115.1 bt115.2.1 bt124.1 bt124.2 bt132.1 bt132.2.1))))))))))))))
def laws_FnExactCacheFind.T8 : Bool × List (List Nat × List Nat) := (true, [([], []), ([0], [0]), ([], []), ([2, 1], [2]), ([], []), ([4, 3], [4]), ([1, 3, 5, 5], [1, 3, 5]), ([6], [6]), ([7], [7]), ([7], [7]), ([], []), ([10, 8, 6, 0, 1, 2, 3, 4, 5, 6, 7, 8, 10], [8, 10]), ([9, 11, 0, 1, 2, 3, 4, 5, 6, 7, 8, 9, 10, 11], [9])])
def laws_FnExactCacheFind.B8 : List Nat := [0, 1, 0, 7, 0, 31, 63, 127, 255, 255, 0, 1535, 4095]
theorem laws_FnExactCacheFind.tab8 : rtab .any (opsOf Try.f9 8) = laws_FnExactCacheFind.T8 := by kernel_rfl
theorem laws_FnExactCacheFind.bits8 : waitsOk laws_FnExactCacheFind.T8.2 laws_FnExactCacheFind.B8 = true := by kernel_rfl
def laws_FnExactCacheFind.T11 : Bool × List (List Nat × List Nat) := (true, [([], []), ([], []), ([], []), ([2], [2]), ([0, 1, 3, 3], [0, 1, 3]), ([4], [4]), ([5], [5]), ([5], [5]), ([], []), ([8, 6, 4, 0, 1, 2, 3, 4, 5, 6, 8], [6, 8]), ([7, 9, 0, 1, 2, 3, 4, 5, 6, 7, 8, 9], [7])])
def laws_FnExactCacheFind.B11 : List Nat := [0, 0, 0, 4, 15, 31, 63, 63, 0, 383, 1023]
theorem laws_FnExactCacheFind.tab11 : rtab .any (opsOf Try.f9 11) = laws_FnExactCacheFind.T11 := by kernel_rfl
theorem laws_FnExactCacheFind.bits11 : waitsOk laws_FnExactCacheFind.T11.2 laws_FnExactCacheFind.B11 = true := by kernel_rfl
def laws_FnExactCacheFind.T31 : Bool × List (List Nat × List Nat) := (true, [([], []), ([0], [0]), ([], []), ([2, 1], [2]), ([], []), ([4, 3], [4]), ([1, 3, 5, 5], [1, 3, 5]), ([6], [6]), ([7], [7]), ([7], [7]), ([], []), ([10, 8, 6, 0, 1, 2, 3, 4, 5, 6, 7, 8, 10], [8, 10]), ([9, 11, 0, 1, 2, 3, 4, 5, 6, 7, 8, 9, 10, 11], [9])])
def laws_FnExactCacheFind.B31 : List Nat := [0, 1, 0, 7, 0, 31, 63, 127, 255, 255, 0, 1535, 4095]
theorem laws_FnExactCacheFind.tab31 : rtab .any (opsOf Try.f9 31) = laws_FnExactCacheFind.T31 := by kernel_rfl
theorem laws_FnExactCacheFind.bits31 : waitsOk laws_FnExactCacheFind.T31.2 laws_FnExactCacheFind.B31 = true := by kernel_rfl
set_option maxHeartbeats 8000000 in
set_option maxRecDepth 100000 in
theorem laws_FnExactCacheFind.calls (k : Nat) (A0 : Option Addr) (c0 : Nat) (l0 : List (S112)) (a1_0 : Int) (A1_1 : Option Addr) (c1_1 : Nat) (l1_1 : List (S149)) (a2_0 : Int) (a2_1 : Int) (a2_2 : Int) (r : Bool) (w : World) (hr0 : Kd.C k112 w A0 l0.length l0) (hc0 : l0.length ≤ c0) (hr1_1 : Kd.C k149 w A1_1 l1_1.length l1_1) (hc1_1 : l1_1.length ≤ c1_1) (hr0_ : r = true) (h : laws_FnExactCacheFind.f k l0 a1_0 l1_1 a2_0 a2_1 a2_2 = some r) :
  Calls Try.prog 9 #[.slice A0 l0.length c0, .agg #[.int .i64 a1_0, .slice A1_1 l1_1.length c1_1], .agg #[.int .i64 a2_0, .int .i64 a2_1, .int .i64 a2_2]] w fun e w' => e = .returned (.bool r) ∧ Below w.heap.size w w' := by
 have hu39 := Try.underlying39
 have hu69 := Try.underlying69
 have hu46 := Try.underlying46
 have HR0 := Aside0.mk hr0
 have HC0 := Aside0.mk hc0
 clear hr0 hc0
 have HR1_1 := Aside0.mk hr1_1
 have HC1_1 := Aside0.mk hc1_1
 clear hr1_1 hc1_1
 have HB := am (Below.refl w.heap.size w)
 have H : ((laws_szRuleS.f l0 1048576).bind fun t103 => (if t103 < 0 then (some true) else ((laws_szCache.f a1_0 l1_1 t103).bind fun t104 => (if t104 < 0 then (some true) else ((laws_toRuleS.f k l0).bind fun t105 => ((laws_toCache.f k a1_0 l1_1).bind fun bt108 => ((laws_toCall.f a2_0 a2_1 a2_2).bind fun bt112 => ((spec_CacheFind.f k t105 bt108.1 bt108.2 bt112.1 bt112.2.1 bt112.2.2).bind fun bt115 => ((laws_toRuleS.f k l0).bind fun t121 => ((laws_toCache.f k a1_0 l1_1).bind fun bt124 => ((laws_toCall.f a2_0 a2_1 a2_2).bind fun bt129 => ((impl_CacheFind.f k t121 bt124.1 bt124.2 bt129.1 bt129.2.1 bt129.2.2).bind fun bt132 => ((laws_eqCache.f k bt132.1 bt132.2.1 bt115.1 bt115.2.1).bind fun t138 => (if t138 = true then (laws_FnExactCacheFind.j0 k l0 bt115.2.2 t121 bt132.2.2 (bt132.2.2 != bt115.2.2) a1_0 l1_1 a2_0 a2_1 a2_2 bt115.1 bt115.2.1 bt124.1 bt124.2 bt132.1 bt132.2.1) else (laws_FnExactCacheFind.j0 k l0 bt115.2.2 t121 bt132.2.2 true a1_0 l1_1 a2_0 a2_1 a2_2 bt115.1 bt115.2.1 bt124.1 bt124.2 bt132.1 bt132.2.1))))))))))))))) = some r := h
 clear h
 have HR_ := Aside0.mk hr0_
 clear hr0_
 replace H := Option.bind_eq_some_iff.mp H
 obtain ⟨t103, A40, H⟩ := H
 replace H : (if t103 < 0 then (some true) else ((laws_szCache.f a1_0 l1_1 t103).bind fun t104 => (if t104 < 0 then (some true) else ((laws_toRuleS.f k l0).bind fun t105 => ((laws_toCache.f k a1_0 l1_1).bind fun bt108 => ((laws_toCall.f a2_0 a2_1 a2_2).bind fun bt112 => ((spec_CacheFind.f k t105 bt108.1 bt108.2 bt112.1 bt112.2.1 bt112.2.2).bind fun bt115 => ((laws_toRuleS.f k l0).bind fun t121 => ((laws_toCache.f k a1_0 l1_1).bind fun bt124 => ((laws_toCall.f a2_0 a2_1 a2_2).bind fun bt129 => ((impl_CacheFind.f k t121 bt124.1 bt124.2 bt129.1 bt129.2.1 bt129.2.2).bind fun bt132 => ((laws_eqCache.f k bt132.1 bt132.2.1 bt115.1 bt115.2.1).bind fun t138 => (if t138 = true then (laws_FnExactCacheFind.j0 k l0 bt115.2.2 t121 bt132.2.2 (bt132.2.2 != bt115.2.2) a1_0 l1_1 a2_0 a2_1 a2_2 bt115.1 bt115.2.1 bt124.1 bt124.2 bt132.1 bt132.2.1) else (laws_FnExactCacheFind.j0 k l0 bt115.2.2 t121 bt132.2.2 true a1_0 l1_1 a2_0 a2_1 a2_2 bt115.1 bt115.2.1 bt124.1 bt124.2 bt132.1 bt132.2.1)))))))))))))) = some r := H
 have A4 := Aside0.mk A40
 clear A40
 by_cases c5 : t103 < 0
 ·rw [if_pos c5] at H
  have c5b0 : decide (t103 < 0) = true := decide_eq_true c5
  clear c5
  obtain rfl := Option.some.inj H
  go_enter Try.func9, Try.ntmps9
  go_wp2_with (first | ((with_reducible refine gate_dst (N := 4) rfl ?_); refine box_event rfl (N := 4) rfl (cs := #[.int .i64 a1_0, .slice A1_1 l1_1.length c1_1]) (t := 39) BX ?_; intro gb101 hg w6 hbox hb; have BK101 := am (hbox); have GW101 := am (GH HB hg); have GE101 := GW101; replace HB := am (below_step (KL HB) hb); clear hb hbox hg) | ((with_reducible refine gate_dst (N := 5) rfl ?_); refine box_event rfl (N := 5) rfl (cs := #[.int .i64 a2_0, .int .i64 a2_1, .int .i64 a2_2]) (t := 69) BX ?_; intro gb102 hg w7 hbox hb; have BK102 := am (hbox); have GW102 := am (GH1 HB GE101.out hg); have GE102 := GW102; replace HB := am (below_step (K1 HB GE101.out) hb); have NB101_102 := am (NL BK101 hg); have NB102_101 := am (NG BK101 hg); replace BK101 := am (BB BK101 hb); clear hb hbox hg) | ((with_reducible refine gate_callee (f := 21) rfl ?_); refine goesL_ (some 21) rfl rfl Try.func21 (by kernel_rfl) rfl #[.slice A0 l0.length c0, .int .i64 1048576] rfl MT ?_; (with_reducible refine (laws_szRuleS.calls _ _ l0 1048576 t103 _ ?side1 ?side2 A4.out).mono ?_); (case side1 => exact KC (Kd.C_below HR0.out HB.out)); (case side2 => exact HC0.out); rintro e w' ⟨rfl, ⟨nd, rfl⟩⟩; refine ⟨_, rfl, ?_⟩))
  go_ret
  exact ⟨ER, K2 HB GE101.out GE102.out⟩
 ·rw [if_neg c5] at H
  have c5b0 : decide (t103 < 0) = false := decide_eq_false c5
  clear c5
  replace H := Option.bind_eq_some_iff.mp H
  obtain ⟨t104, A80, H⟩ := H
  replace H : (if t104 < 0 then (some true) else ((laws_toRuleS.f k l0).bind fun t105 => ((laws_toCache.f k a1_0 l1_1).bind fun bt108 => ((laws_toCall.f a2_0 a2_1 a2_2).bind fun bt112 => ((spec_CacheFind.f k t105 bt108.1 bt108.2 bt112.1 bt112.2.1 bt112.2.2).bind fun bt115 => ((laws_toRuleS.f k l0).bind fun t121 => ((laws_toCache.f k a1_0 l1_1).bind fun bt124 => ((laws_toCall.f a2_0 a2_1 a2_2).bind fun bt129 => ((impl_CacheFind.f k t121 bt124.1 bt124.2 bt129.1 bt129.2.1 bt129.2.2).bind fun bt132 => ((laws_eqCache.f k bt132.1 bt132.2.1 bt115.1 bt115.2.1).bind fun t138 => (if t138 = true then (laws_FnExactCacheFind.j0 k l0 bt115.2.2 t121 bt132.2.2 (bt132.2.2 != bt115.2.2) a1_0 l1_1 a2_0 a2_1 a2_2 bt115.1 bt115.2.1 bt124.1 bt124.2 bt132.1 bt132.2.1) else (laws_FnExactCacheFind.j0 k l0 bt115.2.2 t121 bt132.2.2 true a1_0 l1_1 a2_0 a2_1 a2_2 bt115.1 bt115.2.1 bt124.1 bt124.2 bt132.1 bt132.2.1)))))))))))) = some r := H
  have A8 := Aside0.mk A80
  clear A80
  by_cases c9 : t104 < 0
  ·rw [if_pos c9] at H
   have c9b0 : decide (t104 < 0) = true := decide_eq_true c9
   clear c9
   obtain rfl := Option.some.inj H
   go_enter Try.func9, Try.ntmps9
   go_wp2_with (first | ((with_reducible refine gate_dst (N := 4) rfl ?_); refine box_event rfl (N := 4) rfl (cs := #[.int .i64 a1_0, .slice A1_1 l1_1.length c1_1]) (t := 39) BX ?_; intro gb101 hg w10 hbox hb; have BK101 := am (hbox); have GW101 := am (GH HB hg); have GE101 := GW101; replace HB := am (below_step (KL HB) hb); clear hb hbox hg) | ((with_reducible refine gate_dst (N := 5) rfl ?_); refine box_event rfl (N := 5) rfl (cs := #[.int .i64 a2_0, .int .i64 a2_1, .int .i64 a2_2]) (t := 69) BX ?_; intro gb102 hg w11 hbox hb; have BK102 := am (hbox); have GW102 := am (GH1 HB GE101.out hg); have GE102 := GW102; replace HB := am (below_step (K1 HB GE101.out) hb); have NB101_102 := am (NL BK101 hg); have NB102_101 := am (NG BK101 hg); replace BK101 := am (BB BK101 hb); clear hb hbox hg) | ((with_reducible refine gate_callee (f := 21) rfl ?_); refine goesL_ (some 21) rfl rfl Try.func21 (by kernel_rfl) rfl #[.slice A0 l0.length c0, .int .i64 1048576] rfl MT ?_; (with_reducible refine (laws_szRuleS.calls _ _ l0 1048576 t103 _ ?side1 ?side2 A4.out).mono ?_); (case side1 => exact KC (Kd.C_below HR0.out HB.out)); (case side2 => exact HC0.out); rintro e w' ⟨rfl, ⟨nd, rfl⟩⟩; refine ⟨_, rfl, ?_⟩; have hnb12 := NB101_102.out; have hnc12 := NB102_101.out; obtain ⟨hcz13_0, hcz13_1, hfz13_0⟩ := y2 w11 BK101.out) | ((with_reducible refine gate_callee (f := 22) rfl ?_); refine goesL_ (some 26) rfl rfl Try.func22 (by kernel_rfl) rfl #[.agg #[.int .i64 a1_0, .slice A1_1 l1_1.length c1_1], .int .i64 t103] rfl MT ?_; (with_reducible refine (laws_szCache.calls a1_0 _ _ l1_1 t103 t104 _ ?side1 ?side2 A8.out).mono ?_); (case side1 => repeat (first | exact (Kd.C_below HR1_1.out (K2 HB GE101.out GE102.out)) | (with_reducible refine Kd.C_alloc ?_ _) | (with_reducible refine Kd.C_drewN ?_ _) | (with_reducible refine Kd.C_drew ?_))); (case side2 => exact HC1_1.out); rintro e w14 ⟨rfl, hb⟩; refine ⟨_, rfl, ?_⟩; replace BK101 := am (BB BK101 hb); replace BK102 := am (BB BK102 hb); replace HB := am (below_step (K2 HB GE101.out GE102.out) hb); (try clear hb); (try clear hb2); (try clear hk); (try clear hi)))
   go_ret
   exact ⟨ER, K2 HB GE101.out GE102.out⟩
  ·rw [if_neg c9] at H
   have c9b0 : decide (t104 < 0) = false := decide_eq_false c9
   clear c9
   replace H := Option.bind_eq_some_iff.mp H
   obtain ⟨t105, A150, H⟩ := H
   replace H : ((laws_toCache.f k a1_0 l1_1).bind fun bt108 => ((laws_toCall.f a2_0 a2_1 a2_2).bind fun bt112 => ((spec_CacheFind.f k t105 bt108.1 bt108.2 bt112.1 bt112.2.1 bt112.2.2).bind fun bt115 => ((laws_toRuleS.f k l0).bind fun t121 => ((laws_toCache.f k a1_0 l1_1).bind fun bt124 => ((laws_toCall.f a2_0 a2_1 a2_2).bind fun bt129 => ((impl_CacheFind.f k t121 bt124.1 bt124.2 bt129.1 bt129.2.1 bt129.2.2).bind fun bt132 => ((laws_eqCache.f k bt132.1 bt132.2.1 bt115.1 bt115.2.1).bind fun t138 => (if t138 = true then (laws_FnExactCacheFind.j0 k l0 bt115.2.2 t121 bt132.2.2 (bt132.2.2 != bt115.2.2) a1_0 l1_1 a2_0 a2_1 a2_2 bt115.1 bt115.2.1 bt124.1 bt124.2 bt132.1 bt132.2.1) else (laws_FnExactCacheFind.j0 k l0 bt115.2.2 t121 bt132.2.2 true a1_0 l1_1 a2_0 a2_1 a2_2 bt115.1 bt115.2.1 bt124.1 bt124.2 bt132.1 bt132.2.1)))))))))) = some r := H
   have A15 := Aside0.mk A150
   clear A150
   replace H := Option.bind_eq_some_iff.mp H
   obtain ⟨⟨t108, t109⟩, A160, H⟩ := H
   replace H : ((laws_toCall.f a2_0 a2_1 a2_2).bind fun bt112 => ((spec_CacheFind.f k t105 t108 t109 bt112.1 bt112.2.1 bt112.2.2).bind fun bt115 => ((laws_toRuleS.f k l0).bind fun t121 => ((laws_toCache.f k a1_0 l1_1).bind fun bt124 => ((laws_toCall.f a2_0 a2_1 a2_2).bind fun bt129 => ((impl_CacheFind.f k t121 bt124.1 bt124.2 bt129.1 bt129.2.1 bt129.2.2).bind fun bt132 => ((laws_eqCache.f k bt132.1 bt132.2.1 bt115.1 bt115.2.1).bind fun t138 => (if t138 = true then (laws_FnExactCacheFind.j0 k l0 bt115.2.2 t121 bt132.2.2 (bt132.2.2 != bt115.2.2) a1_0 l1_1 a2_0 a2_1 a2_2 bt115.1 bt115.2.1 bt124.1 bt124.2 bt132.1 bt132.2.1) else (laws_FnExactCacheFind.j0 k l0 bt115.2.2 t121 bt132.2.2 true a1_0 l1_1 a2_0 a2_1 a2_2 bt115.1 bt115.2.1 bt124.1 bt124.2 bt132.1 bt132.2.1))))))))) = some r := H
   have A16 := Aside0.mk A160
   clear A160
   replace H := Option.bind_eq_some_iff.mp H
   obtain ⟨⟨t112, t113, t114⟩, A170, H⟩ := H
   replace H : ((spec_CacheFind.f k t105 t108 t109 t112 t113 t114).bind fun bt115 => ((laws_toRuleS.f k l0).bind fun t121 => ((laws_toCache.f k a1_0 l1_1).bind fun bt124 => ((laws_toCall.f a2_0 a2_1 a2_2).bind fun bt129 => ((impl_CacheFind.f k t121 bt124.1 bt124.2 bt129.1 bt129.2.1 bt129.2.2).bind fun bt132 => ((laws_eqCache.f k bt132.1 bt132.2.1 bt115.1 bt115.2.1).bind fun t138 => (if t138 = true then (laws_FnExactCacheFind.j0 k l0 bt115.2.2 t121 bt132.2.2 (bt132.2.2 != bt115.2.2) a1_0 l1_1 a2_0 a2_1 a2_2 bt115.1 bt115.2.1 bt124.1 bt124.2 bt132.1 bt132.2.1) else (laws_FnExactCacheFind.j0 k l0 bt115.2.2 t121 bt132.2.2 true a1_0 l1_1 a2_0 a2_1 a2_2 bt115.1 bt115.2.1 bt124.1 bt124.2 bt132.1 bt132.2.1)))))))) = some r := H
   have A17 := Aside0.mk A170
   clear A170
   replace H := Option.bind_eq_some_iff.mp H
   obtain ⟨⟨t115, t116, t119⟩, A180, H⟩ := H
   replace H : ((laws_toRuleS.f k l0).bind fun t121 => ((laws_toCache.f k a1_0 l1_1).bind fun bt124 => ((laws_toCall.f a2_0 a2_1 a2_2).bind fun bt129 => ((impl_CacheFind.f k t121 bt124.1 bt124.2 bt129.1 bt129.2.1 bt129.2.2).bind fun bt132 => ((laws_eqCache.f k bt132.1 bt132.2.1 t115 t116).bind fun t138 => (if t138 = true then (laws_FnExactCacheFind.j0 k l0 t119 t121 bt132.2.2 (bt132.2.2 != t119) a1_0 l1_1 a2_0 a2_1 a2_2 t115 t116 bt124.1 bt124.2 bt132.1 bt132.2.1) else (laws_FnExactCacheFind.j0 k l0 t119 t121 bt132.2.2 true a1_0 l1_1 a2_0 a2_1 a2_2 t115 t116 bt124.1 bt124.2 bt132.1 bt132.2.1))))))) = some r := H
   have A18 := Aside0.mk A180
   clear A180
   replace H := Option.bind_eq_some_iff.mp H
   obtain ⟨t121, A190, H⟩ := H
   replace H : ((laws_toCache.f k a1_0 l1_1).bind fun bt124 => ((laws_toCall.f a2_0 a2_1 a2_2).bind fun bt129 => ((impl_CacheFind.f k t121 bt124.1 bt124.2 bt129.1 bt129.2.1 bt129.2.2).bind fun bt132 => ((laws_eqCache.f k bt132.1 bt132.2.1 t115 t116).bind fun t138 => (if t138 = true then (laws_FnExactCacheFind.j0 k l0 t119 t121 bt132.2.2 (bt132.2.2 != t119) a1_0 l1_1 a2_0 a2_1 a2_2 t115 t116 bt124.1 bt124.2 bt132.1 bt132.2.1) else (laws_FnExactCacheFind.j0 k l0 t119 t121 bt132.2.2 true a1_0 l1_1 a2_0 a2_1 a2_2 t115 t116 bt124.1 bt124.2 bt132.1 bt132.2.1)))))) = some r := H
   have A19 := Aside0.mk A190
   clear A190
   replace H := Option.bind_eq_some_iff.mp H
   obtain ⟨⟨t124, t125⟩, A200, H⟩ := H
   replace H : ((laws_toCall.f a2_0 a2_1 a2_2).bind fun bt129 => ((impl_CacheFind.f k t121 t124 t125 bt129.1 bt129.2.1 bt129.2.2).bind fun bt132 => ((laws_eqCache.f k bt132.1 bt132.2.1 t115 t116).bind fun t138 => (if t138 = true then (laws_FnExactCacheFind.j0 k l0 t119 t121 bt132.2.2 (bt132.2.2 != t119) a1_0 l1_1 a2_0 a2_1 a2_2 t115 t116 t124 t125 bt132.1 bt132.2.1) else (laws_FnExactCacheFind.j0 k l0 t119 t121 bt132.2.2 true a1_0 l1_1 a2_0 a2_1 a2_2 t115 t116 t124 t125 bt132.1 bt132.2.1))))) = some r := H
   have A20 := Aside0.mk A200
   clear A200
   replace H := Option.bind_eq_some_iff.mp H
   obtain ⟨⟨t129, t130, t131⟩, A210, H⟩ := H
   replace H : ((impl_CacheFind.f k t121 t124 t125 t129 t130 t131).bind fun bt132 => ((laws_eqCache.f k bt132.1 bt132.2.1 t115 t116).bind fun t138 => (if t138 = true then (laws_FnExactCacheFind.j0 k l0 t119 t121 bt132.2.2 (bt132.2.2 != t119) a1_0 l1_1 a2_0 a2_1 a2_2 t115 t116 t124 t125 bt132.1 bt132.2.1) else (laws_FnExactCacheFind.j0 k l0 t119 t121 bt132.2.2 true a1_0 l1_1 a2_0 a2_1 a2_2 t115 t116 t124 t125 bt132.1 bt132.2.1)))) = some r := H
   have A21 := Aside0.mk A210
   clear A210
   replace H := Option.bind_eq_some_iff.mp H
   obtain ⟨⟨t132, t133, t136⟩, A220, H⟩ := H
   replace H : ((laws_eqCache.f k t132 t133 t115 t116).bind fun t138 => (if t138 = true then (laws_FnExactCacheFind.j0 k l0 t119 t121 t136 (t136 != t119) a1_0 l1_1 a2_0 a2_1 a2_2 t115 t116 t124 t125 t132 t133) else (laws_FnExactCacheFind.j0 k l0 t119 t121 t136 true a1_0 l1_1 a2_0 a2_1 a2_2 t115 t116 t124 t125 t132 t133))) = some r := H
   have A22 := Aside0.mk A220
   clear A220
   have HC23 := Aside0.mk H
   clear H
   go_enter Try.func9, Try.ntmps9
   try go_wp2_with (first | ((with_reducible refine gate_dst (N := 4) rfl ?_); refine box_event rfl (N := 4) rfl (cs := #[.int .i64 a1_0, .slice A1_1 l1_1.length c1_1]) (t := 39) BX ?_; intro gb101 hg w24 hbox hb; have BK101 := am (hbox); have GW101 := am (GH HB hg); have GE101 := GW101; replace HB := am (below_step (KL HB) hb); clear hb hbox hg) | ((with_reducible refine gate_dst (N := 5) rfl ?_); refine box_event rfl (N := 5) rfl (cs := #[.int .i64 a2_0, .int .i64 a2_1, .int .i64 a2_2]) (t := 69) BX ?_; intro gb102 hg w25 hbox hb; have BK102 := am (hbox); have GW102 := am (GH1 HB GE101.out hg); have GE102 := GW102; replace HB := am (below_step (K1 HB GE101.out) hb); have NB101_102 := am (NL BK101 hg); have NB102_101 := am (NG BK101 hg); replace BK101 := am (BB BK101 hb); clear hb hbox hg) | ((with_reducible refine gate_callee (f := 21) rfl ?_); refine goesL_ (some 21) rfl rfl Try.func21 (by kernel_rfl) rfl #[.slice A0 l0.length c0, .int .i64 1048576] rfl MT ?_; (with_reducible refine (laws_szRuleS.calls _ _ l0 1048576 t103 _ ?side1 ?side2 A4.out).mono ?_); (case side1 => exact KC (Kd.C_below HR0.out HB.out)); (case side2 => exact HC0.out); rintro e w' ⟨rfl, ⟨nd, rfl⟩⟩; refine ⟨_, rfl, ?_⟩; (try (rw [drewN_self w25]; generalize hq_ : World.drewN w25 _ = w25; replace BK101 : Aside0 (w25.heap[gb101]? = some (.cells #[.int .i64 a1_0, .slice A1_1 l1_1.length c1_1] 39 (0, 0))) := ⟨by rw [← hq_]; exact (KB BK101)⟩; replace BK102 : Aside0 (w25.heap[gb102]? = some (.cells #[.int .i64 a2_0, .int .i64 a2_1, .int .i64 a2_2] 69 (0, 0))) := ⟨by rw [← hq_]; exact (KB BK102)⟩; replace HB : Aside0 (Below w.heap.size w w25) := ⟨by rw [← hq_]; exact (K2 HB GE101.out GE102.out)⟩; clear hq_)); have hnb26 := NB101_102.out; have hnc26 := NB102_101.out; obtain ⟨hcz27_0, hcz27_1, hfz27_0⟩ := y2 w25 BK101.out) | ((with_reducible refine gate_callee (f := 22) rfl ?_); refine goesL_ (some 26) rfl rfl Try.func22 (by kernel_rfl) rfl #[.agg #[.int .i64 a1_0, .slice A1_1 l1_1.length c1_1], .int .i64 t103] rfl MT ?_; (with_reducible refine (laws_szCache.calls a1_0 _ _ l1_1 t103 t104 _ ?side1 ?side2 A8.out).mono ?_); (case side1 => exact KC (Kd.C_below HR1_1.out HB.out)); (case side2 => exact HC1_1.out); rintro e w28 ⟨rfl, hb⟩; refine ⟨_, rfl, ?_⟩; replace BK101 := am (BB BK101 hb); replace BK102 := am (BB BK102 hb); replace HB := am (below_step (K2 HB GE101.out GE102.out) hb); (try clear hb); (try clear hb2); (try clear hk); (try clear hi)))
   replace BK101 := am (blk_drew BK101.out)
   replace BK102 := am (blk_drew BK102.out)
   replace HB := am (below_drew1 HB.out)
   refine start_ (n := 13) (S := fun w' => ce2 w' gb101 (.int .i64 a1_0) (.slice A1_1 l1_1.length c1_1) (de3 w' gb102 (.int .i64 a2_0) (.int .i64 a2_1) (.int .i64 a2_2))) (ds := []) (tf 0 13) (by kernel_rfl) rfl rfl ⟨z0 _ BK101.out, z1 _ BK101.out, z0 _ BK102.out, z1 _ BK102.out, z2 _ BK102.out⟩ (fun hHeld => ?_); refine with_tabW laws_FnExactCacheFind.tab8 laws_FnExactCacheFind.bits8 (fun HT_ HW_ => ?_)
   generalize w28.drew = w29 at BK101 BK102 HB hHeld ⊢
   refine pv HT_ 0 30 (tf 1 12) ?_
   refine tk 2 (some 32) (tr [1, 1, 1, 10]) (take_ofW HT_.out HW_.out (by kernel_rfl)) hHeld ?_
   refine tk 4 (some 34) (tr [1, 1, 1, 1, 1, 8]) (take_ofW HT_.out HW_.out (by kernel_rfl)) hHeld ?_
   refine join_ (σ := Value × Value × Value × Nat) 2 (tf 11 2) (fun s_ => [(31, s_.1), (33, .agg #[.int .i64 t108, s_.2.1]), (35, .agg #[.int .i64 t112, .int .i64 t113, .int .i64 t114]), (36, .tuple #[.agg #[.int .i64 t115, s_.2.2.1], .int .i64 t119]), (8, .pointer (some ⟨s_.2.2.2, 0, none⟩)), (29, .tuple #[.agg #[.int .i64 t115, s_.2.2.1], .int .i64 t119]), (37, .agg #[.int .i64 t115, s_.2.2.1]), (38, .int .i64 t119)]) (fun s_ w' => (w'.cell? ⟨gb101, 0, none⟩ = some (.int .i64 a1_0) ∧ w'.cell? ⟨gb101, 1, none⟩ = some (.slice A1_1 l1_1.length c1_1) ∧ w'.cell? ⟨gb102, 0, none⟩ = some (.int .i64 a2_0) ∧ w'.cell? ⟨gb102, 1, none⟩ = some (.int .i64 a2_1) ∧ w'.cell? ⟨gb102, 2, none⟩ = some (.int .i64 a2_2)) ∧ (Kd.R k34 34 w' w.heap.size (fun _ => True) s_.1 t105) ∧ (Kd.R k108 108 w' w.heap.size (fun k_ => some k_ ≠ (s_.2.2.1 : Value).ownBlock) s_.2.1 t109) ∧ (Kd.R k108 108 w' w.heap.size (fun k_ => some k_ ≠ (s_.2.1 : Value).ownBlock) s_.2.2.1 t116) ∧ (w'.heap[gb101]? = some (.cells #[.int .i64 a1_0, .slice A1_1 l1_1.length c1_1] 39 (0, 0))) ∧ (w'.heap[gb102]? = some (.cells #[.int .i64 a2_0, .int .i64 a2_1, .int .i64 a2_2] 69 (0, 0))) ∧ (w'.heap[s_.2.2.2]? = some (.cells #[.int .i64 0, .slice none 0 0] 46 (0, 0))) ∧ (w.heap.size ≤ s_.2.2.2) ∧ (w.heap.size ≤ s_.2.2.2) ∧ (gb101 ≠ s_.2.2.2) ∧ (s_.2.2.2 ≠ gb101) ∧ (gb102 ≠ s_.2.2.2) ∧ (s_.2.2.2 ≠ gb102) ∧ (Below w.heap.size w w')) ?_ ?_
   rotate_left
   ·intro hJ1_3_5_6_10
    refine join_ (σ := Value × Value × Value) 3 (tf 10 3) (fun s_ => [(31, s_.1), (33, .agg #[.int .i64 t108, s_.2.1]), (35, .agg #[.int .i64 t112, .int .i64 t113, .int .i64 t114]), (36, .tuple #[.agg #[.int .i64 t115, s_.2.2], .int .i64 t119]), (29, .tuple #[.agg #[.int .i64 t115, s_.2.2], .int .i64 t119]), (37, .agg #[.int .i64 t115, s_.2.2]), (38, .int .i64 t119)]) (fun s_ w' => (w'.cell? ⟨gb101, 0, none⟩ = some (.int .i64 a1_0) ∧ w'.cell? ⟨gb101, 1, none⟩ = some (.slice A1_1 l1_1.length c1_1) ∧ w'.cell? ⟨gb102, 0, none⟩ = some (.int .i64 a2_0) ∧ w'.cell? ⟨gb102, 1, none⟩ = some (.int .i64 a2_1) ∧ w'.cell? ⟨gb102, 2, none⟩ = some (.int .i64 a2_2)) ∧ (Kd.R k34 34 w' w.heap.size (fun _ => True) s_.1 t105) ∧ (Kd.R k108 108 w' w.heap.size (fun k_ => some k_ ≠ (s_.2.2 : Value).ownBlock) s_.2.1 t109) ∧ (Kd.R k108 108 w' w.heap.size (fun k_ => some k_ ≠ (s_.2.1 : Value).ownBlock) s_.2.2 t116) ∧ (w'.heap[gb101]? = some (.cells #[.int .i64 a1_0, .slice A1_1 l1_1.length c1_1] 39 (0, 0))) ∧ (w'.heap[gb102]? = some (.cells #[.int .i64 a2_0, .int .i64 a2_1, .int .i64 a2_2] 69 (0, 0))) ∧ (Below w.heap.size w w')) ?_ ?_
    rotate_left
    ·intro hJ1_3_5_6
     refine join_ (σ := Value × Value × Nat) 6 (tr [6, 4, 1, 2]) (fun s_ => [(31, s_.1), (33, .agg #[.int .i64 t108, s_.2.1]), (35, .agg #[.int .i64 t112, .int .i64 t113, .int .i64 t114]), (8, .pointer (some ⟨s_.2.2, 0, none⟩))]) (fun s_ w' => (w'.cell? ⟨gb101, 0, none⟩ = some (.int .i64 a1_0) ∧ w'.cell? ⟨gb101, 1, none⟩ = some (.slice A1_1 l1_1.length c1_1) ∧ w'.cell? ⟨gb102, 0, none⟩ = some (.int .i64 a2_0) ∧ w'.cell? ⟨gb102, 1, none⟩ = some (.int .i64 a2_1) ∧ w'.cell? ⟨gb102, 2, none⟩ = some (.int .i64 a2_2)) ∧ (Kd.R k34 34 w' w.heap.size (fun _ => True) s_.1 t105) ∧ (Kd.R k108 108 w' w.heap.size (fun _ => True) s_.2.1 t109) ∧ (w'.heap[gb101]? = some (.cells #[.int .i64 a1_0, .slice A1_1 l1_1.length c1_1] 39 (0, 0))) ∧ (w'.heap[gb102]? = some (.cells #[.int .i64 a2_0, .int .i64 a2_1, .int .i64 a2_2] 69 (0, 0))) ∧ (w'.heap[s_.2.2]? = some (.cells #[.int .i64 0, .slice none 0 0] 46 (0, 0))) ∧ (w.heap.size ≤ s_.2.2) ∧ (w.heap.size ≤ s_.2.2) ∧ (gb101 ≠ s_.2.2) ∧ (s_.2.2 ≠ gb101) ∧ (gb102 ≠ s_.2.2) ∧ (s_.2.2 ≠ gb102) ∧ (Below w.heap.size w w')) ?_ ?_
     rotate_left
     ·intro hJ1_3_5_10
      refine join_ (σ := Value × Value) 7 (tf 6 7) (fun s_ => [(31, s_.1), (33, .agg #[.int .i64 t108, s_.2]), (35, .agg #[.int .i64 t112, .int .i64 t113, .int .i64 t114])]) (fun s_ w' => (w'.cell? ⟨gb101, 0, none⟩ = some (.int .i64 a1_0) ∧ w'.cell? ⟨gb101, 1, none⟩ = some (.slice A1_1 l1_1.length c1_1) ∧ w'.cell? ⟨gb102, 0, none⟩ = some (.int .i64 a2_0) ∧ w'.cell? ⟨gb102, 1, none⟩ = some (.int .i64 a2_1) ∧ w'.cell? ⟨gb102, 2, none⟩ = some (.int .i64 a2_2)) ∧ (Kd.R k34 34 w' w.heap.size (fun _ => True) s_.1 t105) ∧ (Kd.R k108 108 w' w.heap.size (fun _ => True) s_.2 t109) ∧ (w'.heap[gb101]? = some (.cells #[.int .i64 a1_0, .slice A1_1 l1_1.length c1_1] 39 (0, 0))) ∧ (w'.heap[gb102]? = some (.cells #[.int .i64 a2_0, .int .i64 a2_1, .int .i64 a2_2] 69 (0, 0))) ∧ (Below w.heap.size w w')) ?_ ?_
      rotate_left
      ·intro hJ1_3_5
       refine join_ (σ := Value × Value × Nat) 7 (tr [5, 5, 1, 2]) (fun s_ => [(31, s_.1), (33, .agg #[.int .i64 t108, s_.2.1]), (8, .pointer (some ⟨s_.2.2, 0, none⟩))]) (fun s_ w' => (w'.cell? ⟨gb101, 0, none⟩ = some (.int .i64 a1_0) ∧ w'.cell? ⟨gb101, 1, none⟩ = some (.slice A1_1 l1_1.length c1_1) ∧ w'.cell? ⟨gb102, 0, none⟩ = some (.int .i64 a2_0) ∧ w'.cell? ⟨gb102, 1, none⟩ = some (.int .i64 a2_1) ∧ w'.cell? ⟨gb102, 2, none⟩ = some (.int .i64 a2_2)) ∧ (Kd.R k34 34 w' w.heap.size (fun _ => True) s_.1 t105) ∧ (Kd.R k108 108 w' w.heap.size (fun _ => True) s_.2.1 t109) ∧ (w'.heap[gb101]? = some (.cells #[.int .i64 a1_0, .slice A1_1 l1_1.length c1_1] 39 (0, 0))) ∧ (w'.heap[gb102]? = some (.cells #[.int .i64 a2_0, .int .i64 a2_1, .int .i64 a2_2] 69 (0, 0))) ∧ (w'.heap[s_.2.2]? = some (.cells #[.int .i64 0, .slice none 0 0] 46 (0, 0))) ∧ (w.heap.size ≤ s_.2.2) ∧ (w.heap.size ≤ s_.2.2) ∧ (gb101 ≠ s_.2.2) ∧ (s_.2.2 ≠ gb101) ∧ (gb102 ≠ s_.2.2) ∧ (s_.2.2 ≠ gb102) ∧ (Below w.heap.size w w')) ?_ ?_
       rotate_left
       ·intro hJ1_3_10
        refine join_ (σ := Value × Value) 8 (tf 5 8) (fun s_ => [(31, s_.1), (33, .agg #[.int .i64 t108, s_.2])]) (fun s_ w' => (w'.cell? ⟨gb101, 0, none⟩ = some (.int .i64 a1_0) ∧ w'.cell? ⟨gb101, 1, none⟩ = some (.slice A1_1 l1_1.length c1_1) ∧ w'.cell? ⟨gb102, 0, none⟩ = some (.int .i64 a2_0) ∧ w'.cell? ⟨gb102, 1, none⟩ = some (.int .i64 a2_1) ∧ w'.cell? ⟨gb102, 2, none⟩ = some (.int .i64 a2_2)) ∧ (Kd.R k34 34 w' w.heap.size (fun _ => True) s_.1 t105) ∧ (Kd.R k108 108 w' w.heap.size (fun _ => True) s_.2 t109) ∧ (w'.heap[gb101]? = some (.cells #[.int .i64 a1_0, .slice A1_1 l1_1.length c1_1] 39 (0, 0))) ∧ (w'.heap[gb102]? = some (.cells #[.int .i64 a2_0, .int .i64 a2_1, .int .i64 a2_2] 69 (0, 0))) ∧ (Below w.heap.size w w')) ?_ ?_
        rotate_left
        ·intro hJ1_3
         refine join_ (σ := Value × Nat) 8 (tr [3, 1, 1, 5, 1, 2]) (fun s_ => [(31, s_.1), (8, .pointer (some ⟨s_.2, 0, none⟩))]) (fun s_ w' => (w'.cell? ⟨gb101, 0, none⟩ = some (.int .i64 a1_0) ∧ w'.cell? ⟨gb101, 1, none⟩ = some (.slice A1_1 l1_1.length c1_1) ∧ w'.cell? ⟨gb102, 0, none⟩ = some (.int .i64 a2_0) ∧ w'.cell? ⟨gb102, 1, none⟩ = some (.int .i64 a2_1) ∧ w'.cell? ⟨gb102, 2, none⟩ = some (.int .i64 a2_2)) ∧ (Kd.R k34 34 w' w.heap.size (fun _ => True) s_.1 t105) ∧ (w'.heap[gb101]? = some (.cells #[.int .i64 a1_0, .slice A1_1 l1_1.length c1_1] 39 (0, 0))) ∧ (w'.heap[gb102]? = some (.cells #[.int .i64 a2_0, .int .i64 a2_1, .int .i64 a2_2] 69 (0, 0))) ∧ (w'.heap[s_.2]? = some (.cells #[.int .i64 0, .slice none 0 0] 46 (0, 0))) ∧ (w.heap.size ≤ s_.2) ∧ (w.heap.size ≤ s_.2) ∧ (gb101 ≠ s_.2) ∧ (s_.2 ≠ gb101) ∧ (gb102 ≠ s_.2) ∧ (s_.2 ≠ gb102) ∧ (Below w.heap.size w w')) ?_ ?_
         rotate_left
         ·intro hJ1_10
          refine join_ (σ := Value) 9 (tr [3, 1, 1, 8]) (fun s_ => [(31, s_)]) (fun s_ w' => (w'.cell? ⟨gb101, 0, none⟩ = some (.int .i64 a1_0) ∧ w'.cell? ⟨gb101, 1, none⟩ = some (.slice A1_1 l1_1.length c1_1) ∧ w'.cell? ⟨gb102, 0, none⟩ = some (.int .i64 a2_0) ∧ w'.cell? ⟨gb102, 1, none⟩ = some (.int .i64 a2_1) ∧ w'.cell? ⟨gb102, 2, none⟩ = some (.int .i64 a2_2)) ∧ (Kd.R k34 34 w' w.heap.size (fun _ => True) s_ t105) ∧ (w'.heap[gb101]? = some (.cells #[.int .i64 a1_0, .slice A1_1 l1_1.length c1_1] 39 (0, 0))) ∧ (w'.heap[gb102]? = some (.cells #[.int .i64 a2_0, .int .i64 a2_1, .int .i64 a2_2] 69 (0, 0))) ∧ (Below w.heap.size w w')) ?_ ?_
          rotate_left
          ·intro hJ1
           refine join_ (σ := Nat) 9 (tr [1, 1, 1, 1, 1, 5, 1, 2]) (fun s_ => [(8, .pointer (some ⟨s_, 0, none⟩))]) (fun s_ w' => (w'.cell? ⟨gb101, 0, none⟩ = some (.int .i64 a1_0) ∧ w'.cell? ⟨gb101, 1, none⟩ = some (.slice A1_1 l1_1.length c1_1) ∧ w'.cell? ⟨gb102, 0, none⟩ = some (.int .i64 a2_0) ∧ w'.cell? ⟨gb102, 1, none⟩ = some (.int .i64 a2_1) ∧ w'.cell? ⟨gb102, 2, none⟩ = some (.int .i64 a2_2)) ∧ (w'.heap[gb101]? = some (.cells #[.int .i64 a1_0, .slice A1_1 l1_1.length c1_1] 39 (0, 0))) ∧ (w'.heap[gb102]? = some (.cells #[.int .i64 a2_0, .int .i64 a2_1, .int .i64 a2_2] 69 (0, 0))) ∧ (w'.heap[s_]? = some (.cells #[.int .i64 0, .slice none 0 0] 46 (0, 0))) ∧ (w.heap.size ≤ s_) ∧ (w.heap.size ≤ s_) ∧ (gb101 ≠ s_) ∧ (s_ ≠ gb101) ∧ (gb102 ≠ s_) ∧ (s_ ≠ gb102) ∧ (Below w.heap.size w w')) ?_ ?_
           rotate_left
           ·intro hJ10
            refine two_ (i := 1) (j := 10) (Ni := some 31) (Nj := some 8) (tr [3, 1, 1, 8]) (tr [1, 1, 1, 1, 1, 5, 1, 2]) rfl rfl rfl rfl (two_of HT_.out (by kernel_rfl)) (by decide) (by decide) (fun K hK => ?_) (fun K hK => ?_)
            ·skip
             refine goes_ Try.func24 (by kernel_rfl) rfl #[.slice A0 l0.length c0] (by rfl) rfl rfl MT ?_
             with_reducible refine (laws_toRuleS.calls k _ _ l0 t105 _ ?side1 ?side2 A15.out).mono ?_
             (case side1 => exact KC (Kd.C_below HR0.out HB.out))
             (case side2 => exact HC0.out)
             rintro e w30 ⟨v106, rfl, ho0, hb⟩
             refine ⟨_, rfl, ?_⟩
             have HO107 := am (Kd.R_lower ho0 (below_size (K2 HB GE101.out GE102.out)))
             replace BK101 := am (BB BK101 hb)
             replace BK102 := am (BB BK102 hb)
             replace HB := am (below_step (K2 HB GE101.out GE102.out) hb)
             (try clear hb)
             (try clear hb2)
             (try clear hk)
             (try clear hi)
             (try clear ho0)
             refine hK.out _ _ ⟨z0 _ BK101.out, z1 _ BK101.out, z0 _ BK102.out, z1 _ BK102.out, z2 _ BK102.out⟩ (fun hHeld => ?_)
             clear hK K
             refine norm_ (a' := ?_) ?_ ?_
             rotate_left
             ·show Act.put _ (some 31) _ = _
              simp only [Act.put, List.setIfInBounds_toArray, List.set_cons_zero, List.set_cons_succ, i64_w, i32_w]
              rfl
             exact norm_ NM (hJ1 (v106) _ ⟨hHeld, (KR HO107), (KB BK101), (KB BK102), (K2 HB GE101.out GE102.out)⟩)
            ·skip
             refine box_step rfl (N := 8) rfl (cs := #[.int .i64 0, .slice none 0 0]) (t := 46) BX ?_
             intro gb120 hg w30 hbox hb
             have BK120 := am (hbox)
             have GW120 := am (GH2 HB GE101.out GE102.out hg)
             have GE120 := GW120
             replace HB := am (below_step (K2 HB GE101.out GE102.out) hb)
             have NB101_120 := am (NL BK101 hg)
             have NB120_101 := am (NG BK101 hg)
             replace BK101 := am (BB BK101 hb)
             have NB102_120 := am (NL BK102 hg)
             have NB120_102 := am (NG BK102 hg)
             replace BK102 := am (BB BK102 hb)
             clear hb hbox hg
             refine hK.out _ _ ⟨z0 _ BK101.out, z1 _ BK101.out, z0 _ BK102.out, z1 _ BK102.out, z2 _ BK102.out⟩ (fun hHeld => ?_)
             clear hK K
             refine norm_ (a' := ?_) ?_ ?_
             rotate_left
             ·show Act.put _ (some 8) _ = _
              simp only [Act.put, List.setIfInBounds_toArray, List.set_cons_zero, List.set_cons_succ, i64_w, i32_w]
              rfl
             exact norm_ NM (hJ10 (gb120) _ ⟨hHeld, (KB BK101), (KB BK102), (KB BK120), GW120.out, GE120.out, NB101_120.out, NB120_101.out, NB102_120.out, NB120_102.out, (K3 HB GE101.out GE102.out GE120.out)⟩)
           ·skip
            rintro gb120 w31 ⟨hS_, h0_, h1_, h2_, h3_, h4_, h5_, h6_, h7_, h8_, h9_⟩
            replace BK101 : Aside0 (bk w31 gb101 #[.int .i64 a1_0, .slice A1_1 l1_1.length c1_1] 39) := ⟨h0_⟩
            replace BK102 : Aside0 (bk w31 gb102 #[.int .i64 a2_0, .int .i64 a2_1, .int .i64 a2_2] 69) := ⟨h1_⟩
            have BK120 : Aside0 (bk w31 gb120 #[.int .i64 0, .slice none 0 0] 46) := ⟨h2_⟩
            have GW120 : Aside0 (w.heap.size ≤ gb120) := ⟨h3_⟩
            have GE120 : Aside0 (w.heap.size ≤ gb120) := ⟨h4_⟩
            have NB101_120 : Aside0 (gb101 ≠ gb120) := ⟨h5_⟩
            have NB120_101 : Aside0 (gb120 ≠ gb101) := ⟨h6_⟩
            have NB102_120 : Aside0 (gb102 ≠ gb120) := ⟨h7_⟩
            have NB120_102 : Aside0 (gb120 ≠ gb102) := ⟨h8_⟩
            replace HB : Aside0 (Below w.heap.size w w31) := ⟨h9_⟩
            clear h0_ h1_ h2_ h3_ h4_ h5_ h6_ h7_ h8_ h9_
            have hHeld : ce2 w31 gb101 (.int .i64 a1_0) (.slice A1_1 l1_1.length c1_1) (de3 w31 gb102 (.int .i64 a2_0) (.int .i64 a2_1) (.int .i64 a2_2)) := hS_
            refine norm_ (a' := ?_) ?_ ?_
            rotate_left
            ·simp only [putAll, Act.put, List.setIfInBounds_toArray, List.set_cons_zero, List.set_cons_succ]
             rfl
            refine one_ (i := 1) (N := some 31) (tr [3, 1, 1, 5, 1, 2]) rfl rfl (one_of HT_.out (by kernel_rfl)) (by decide) (fun K hK => ?_)
            refine goes_ Try.func24 (by kernel_rfl) rfl #[.slice A0 l0.length c0] (by rfl) rfl rfl MT ?_
            with_reducible refine (laws_toRuleS.calls k _ _ l0 t105 _ ?side1 ?side2 A15.out).mono ?_
            (case side1 => exact KC (Kd.C_below HR0.out HB.out))
            (case side2 => exact HC0.out)
            rintro e w32 ⟨v106, rfl, ho0, hb⟩
            refine ⟨_, rfl, ?_⟩
            have HO107 := am (Kd.R_lower ho0 (below_size (K3 HB GE101.out GE102.out GE120.out)))
            replace BK101 := am (BB BK101 hb)
            replace BK102 := am (BB BK102 hb)
            replace BK120 := am (BB BK120 hb)
            replace HB := am (below_step (K3 HB GE101.out GE102.out GE120.out) hb)
            (try clear hb)
            (try clear hb2)
            (try clear hk)
            (try clear hi)
            (try clear ho0)
            refine hK.out _ _ ⟨z0 _ BK101.out, z1 _ BK101.out, z0 _ BK102.out, z1 _ BK102.out, z2 _ BK102.out⟩ (fun hHeld => ?_)
            clear hK K
            refine norm_ (a' := ?_) ?_ ?_
            rotate_left
            ·show Act.put _ (some 31) _ = _
             simp only [Act.put, List.setIfInBounds_toArray, List.set_cons_zero, List.set_cons_succ, i64_w, i32_w]
             rfl
            exact norm_ NM (hJ1_10 (v106, gb120) _ ⟨hHeld, (KR HO107), (KB BK101), (KB BK102), (KB BK120), GW120.out, GE120.out, NB101_120.out, NB120_101.out, NB102_120.out, NB120_102.out, (K3 HB GE101.out GE102.out GE120.out)⟩)
          ·skip
           rintro v106 w31 ⟨hS_, h0_, h1_, h2_, h3_⟩
           have HO107 : Aside0 (Kd.R k34 34 w31 w.heap.size (fun _ => True) v106 t105) := ⟨h0_⟩
           replace BK101 : Aside0 (bk w31 gb101 #[.int .i64 a1_0, .slice A1_1 l1_1.length c1_1] 39) := ⟨h1_⟩
           replace BK102 : Aside0 (bk w31 gb102 #[.int .i64 a2_0, .int .i64 a2_1, .int .i64 a2_2] 69) := ⟨h2_⟩
           replace HB : Aside0 (Below w.heap.size w w31) := ⟨h3_⟩
           clear h0_ h1_ h2_ h3_
           have hHeld : ce2 w31 gb101 (.int .i64 a1_0) (.slice A1_1 l1_1.length c1_1) (de3 w31 gb102 (.int .i64 a2_0) (.int .i64 a2_1) (.int .i64 a2_2)) := hS_
           refine norm_ (a' := ?_) ?_ ?_
           rotate_left
           ·simp only [putAll, Act.put, List.setIfInBounds_toArray, List.set_cons_zero, List.set_cons_succ]
            rfl
           refine two_ (i := 3) (j := 10) (Ni := some 33) (Nj := some 8) (tf 5 8) (tr [3, 1, 1, 5, 1, 2]) rfl rfl rfl rfl (two_of HT_.out (by kernel_rfl)) (by decide) (by decide) (fun K hK => ?_) (fun K hK => ?_)
           ·skip
            refine goes_ Try.func25 (by kernel_rfl) rfl #[.agg #[.int .i64 a1_0, .slice A1_1 l1_1.length c1_1]] (by rfl) rfl rfl MT ?_
            with_reducible refine (laws_toCache.calls k a1_0 _ _ l1_1 t108 t109 _ ?side1 ?side2 A16.out).mono ?_
            (case side1 => exact KC (Kd.C_below HR1_1.out HB.out))
            (case side2 => exact HC1_1.out)
            rintro e w32 ⟨v110, rfl, ho0, hb⟩
            refine ⟨_, rfl, ?_⟩
            replace HO107 := am (Kd.R_below (KR HO107) hb)
            have HO111 := am (Kd.R_lower ho0 (below_size (K2 HB GE101.out GE102.out)))
            replace BK101 := am (BB BK101 hb)
            replace BK102 := am (BB BK102 hb)
            replace HB := am (below_step (K2 HB GE101.out GE102.out) hb)
            (try clear hb)
            (try clear hb2)
            (try clear hk)
            (try clear hi)
            (try clear ho0)
            refine hK.out _ _ ⟨z0 _ BK101.out, z1 _ BK101.out, z0 _ BK102.out, z1 _ BK102.out, z2 _ BK102.out⟩ (fun hHeld => ?_)
            clear hK K
            refine norm_ (a' := ?_) ?_ ?_
            rotate_left
            ·show Act.put _ (some 33) _ = _
             simp only [Act.put, List.setIfInBounds_toArray, List.set_cons_zero, List.set_cons_succ, i64_w, i32_w]
             rfl
            exact norm_ NM (hJ1_3 (v106, v110) _ ⟨hHeld, (KR HO107), (KR HO111), (KB BK101), (KB BK102), (K2 HB GE101.out GE102.out)⟩)
           ·skip
            refine box_step rfl (N := 8) rfl (cs := #[.int .i64 0, .slice none 0 0]) (t := 46) BX ?_
            intro gb120 hg w32 hbox hb
            replace HO107 := am (Kd.R_below (KR HO107) hb)
            have BK120 := am (hbox)
            have GW120 := am (GH2 HB GE101.out GE102.out hg)
            have GE120 := GW120
            replace HB := am (below_step (K2 HB GE101.out GE102.out) hb)
            have NB101_120 := am (NL BK101 hg)
            have NB120_101 := am (NG BK101 hg)
            replace BK101 := am (BB BK101 hb)
            have NB102_120 := am (NL BK102 hg)
            have NB120_102 := am (NG BK102 hg)
            replace BK102 := am (BB BK102 hb)
            clear hb hbox hg
            refine hK.out _ _ ⟨z0 _ BK101.out, z1 _ BK101.out, z0 _ BK102.out, z1 _ BK102.out, z2 _ BK102.out⟩ (fun hHeld => ?_)
            clear hK K
            refine norm_ (a' := ?_) ?_ ?_
            rotate_left
            ·show Act.put _ (some 8) _ = _
             simp only [Act.put, List.setIfInBounds_toArray, List.set_cons_zero, List.set_cons_succ, i64_w, i32_w]
             rfl
            exact norm_ NM (hJ1_10 (v106, gb120) _ ⟨hHeld, (KR HO107), (KB BK101), (KB BK102), (KB BK120), GW120.out, GE120.out, NB101_120.out, NB120_101.out, NB102_120.out, NB120_102.out, (K3 HB GE101.out GE102.out GE120.out)⟩)
         ·skip
          rintro ⟨v106, gb120⟩ w32 ⟨hS_, h0_, h1_, h2_, h3_, h4_, h5_, h6_, h7_, h8_, h9_, h10_⟩
          have HO107 : Aside0 (Kd.R k34 34 w32 w.heap.size (fun _ => True) v106 t105) := ⟨h0_⟩
          replace BK101 : Aside0 (bk w32 gb101 #[.int .i64 a1_0, .slice A1_1 l1_1.length c1_1] 39) := ⟨h1_⟩
          replace BK102 : Aside0 (bk w32 gb102 #[.int .i64 a2_0, .int .i64 a2_1, .int .i64 a2_2] 69) := ⟨h2_⟩
          have BK120 : Aside0 (bk w32 gb120 #[.int .i64 0, .slice none 0 0] 46) := ⟨h3_⟩
          have GW120 : Aside0 (w.heap.size ≤ gb120) := ⟨h4_⟩
          have GE120 : Aside0 (w.heap.size ≤ gb120) := ⟨h5_⟩
          have NB101_120 : Aside0 (gb101 ≠ gb120) := ⟨h6_⟩
          have NB120_101 : Aside0 (gb120 ≠ gb101) := ⟨h7_⟩
          have NB102_120 : Aside0 (gb102 ≠ gb120) := ⟨h8_⟩
          have NB120_102 : Aside0 (gb120 ≠ gb102) := ⟨h9_⟩
          replace HB : Aside0 (Below w.heap.size w w32) := ⟨h10_⟩
          clear h0_ h1_ h2_ h3_ h4_ h5_ h6_ h7_ h8_ h9_ h10_
          have hHeld : ce2 w32 gb101 (.int .i64 a1_0) (.slice A1_1 l1_1.length c1_1) (de3 w32 gb102 (.int .i64 a2_0) (.int .i64 a2_1) (.int .i64 a2_2)) := hS_
          refine norm_ (a' := ?_) ?_ ?_
          rotate_left
          ·simp only [putAll, Act.put, List.setIfInBounds_toArray, List.set_cons_zero, List.set_cons_succ]
           rfl
          refine one_ (i := 3) (N := some 33) (tr [5, 5, 1, 2]) rfl rfl (one_of HT_.out (by kernel_rfl)) (by decide) (fun K hK => ?_)
          refine goes_ Try.func25 (by kernel_rfl) rfl #[.agg #[.int .i64 a1_0, .slice A1_1 l1_1.length c1_1]] (by rfl) rfl rfl MT ?_
          with_reducible refine (laws_toCache.calls k a1_0 _ _ l1_1 t108 t109 _ ?side1 ?side2 A16.out).mono ?_
          (case side1 => exact KC (Kd.C_below HR1_1.out HB.out))
          (case side2 => exact HC1_1.out)
          rintro e w33 ⟨v110, rfl, ho0, hb⟩
          refine ⟨_, rfl, ?_⟩
          replace HO107 := am (Kd.R_below (KR HO107) hb)
          have HO111 := am (Kd.R_lower ho0 (below_size (K3 HB GE101.out GE102.out GE120.out)))
          replace BK101 := am (BB BK101 hb)
          replace BK102 := am (BB BK102 hb)
          replace BK120 := am (BB BK120 hb)
          replace HB := am (below_step (K3 HB GE101.out GE102.out GE120.out) hb)
          (try clear hb)
          (try clear hb2)
          (try clear hk)
          (try clear hi)
          (try clear ho0)
          refine hK.out _ _ ⟨z0 _ BK101.out, z1 _ BK101.out, z0 _ BK102.out, z1 _ BK102.out, z2 _ BK102.out⟩ (fun hHeld => ?_)
          clear hK K
          refine norm_ (a' := ?_) ?_ ?_
          rotate_left
          ·show Act.put _ (some 33) _ = _
           simp only [Act.put, List.setIfInBounds_toArray, List.set_cons_zero, List.set_cons_succ, i64_w, i32_w]
           rfl
          exact norm_ NM (hJ1_3_10 (v106, v110, gb120) _ ⟨hHeld, (KR HO107), (KR HO111), (KB BK101), (KB BK102), (KB BK120), GW120.out, GE120.out, NB101_120.out, NB120_101.out, NB102_120.out, NB120_102.out, (K3 HB GE101.out GE102.out GE120.out)⟩)
        ·skip
         rintro ⟨v106, v110⟩ w32 ⟨hS_, h0_, h1_, h2_, h3_, h4_⟩
         have HO107 : Aside0 (Kd.R k34 34 w32 w.heap.size (fun _ => True) v106 t105) := ⟨h0_⟩
         have HO111 : Aside0 (Kd.R k108 108 w32 w.heap.size (fun _ => True) v110 t109) := ⟨h1_⟩
         replace BK101 : Aside0 (bk w32 gb101 #[.int .i64 a1_0, .slice A1_1 l1_1.length c1_1] 39) := ⟨h2_⟩
         replace BK102 : Aside0 (bk w32 gb102 #[.int .i64 a2_0, .int .i64 a2_1, .int .i64 a2_2] 69) := ⟨h3_⟩
         replace HB : Aside0 (Below w.heap.size w w32) := ⟨h4_⟩
         clear h0_ h1_ h2_ h3_ h4_
         have hHeld : ce2 w32 gb101 (.int .i64 a1_0) (.slice A1_1 l1_1.length c1_1) (de3 w32 gb102 (.int .i64 a2_0) (.int .i64 a2_1) (.int .i64 a2_2)) := hS_
         refine norm_ (a' := ?_) ?_ ?_
         rotate_left
         ·simp only [putAll, Act.put, List.setIfInBounds_toArray, List.set_cons_zero, List.set_cons_succ]
          rfl
         refine two_ (i := 5) (j := 10) (Ni := some 35) (Nj := some 8) (tf 6 7) (tr [5, 5, 1, 2]) rfl rfl rfl rfl (two_of HT_.out (by kernel_rfl)) (by decide) (by decide) (fun K hK => ?_) (fun K hK => ?_)
         ·skip
          refine goes_ Try.func45 (by kernel_rfl) rfl #[.agg #[.int .i64 a2_0, .int .i64 a2_1, .int .i64 a2_2]] (by rfl) rfl rfl MT ?_
          with_reducible refine (laws_toCall.calls a2_0 a2_1 a2_2 t112 t113 t114 _ A17.out).mono ?_
          rintro e w33 ⟨rfl, hb⟩
          refine ⟨_, rfl, ?_⟩
          replace HO107 := am (Kd.R_below (KR HO107) hb)
          replace HO111 := am (Kd.R_below (KR HO111) hb)
          replace BK101 := am (BB BK101 hb)
          replace BK102 := am (BB BK102 hb)
          replace HB := am (below_step (K2 HB GE101.out GE102.out) hb)
          (try clear hb)
          (try clear hb2)
          (try clear hk)
          (try clear hi)
          refine hK.out _ _ ⟨z0 _ BK101.out, z1 _ BK101.out, z0 _ BK102.out, z1 _ BK102.out, z2 _ BK102.out⟩ (fun hHeld => ?_)
          clear hK K
          refine norm_ (a' := ?_) ?_ ?_
          rotate_left
          ·show Act.put _ (some 35) _ = _
           simp only [Act.put, List.setIfInBounds_toArray, List.set_cons_zero, List.set_cons_succ, i64_w, i32_w]
           rfl
          exact norm_ NM (hJ1_3_5 (v106, v110) _ ⟨hHeld, (KR HO107), (KR HO111), (KB BK101), (KB BK102), (K2 HB GE101.out GE102.out)⟩)
         ·skip
          refine box_step rfl (N := 8) rfl (cs := #[.int .i64 0, .slice none 0 0]) (t := 46) BX ?_
          intro gb120 hg w33 hbox hb
          replace HO107 := am (Kd.R_below (KR HO107) hb)
          replace HO111 := am (Kd.R_below (KR HO111) hb)
          have BK120 := am (hbox)
          have GW120 := am (GH2 HB GE101.out GE102.out hg)
          have GE120 := GW120
          replace HB := am (below_step (K2 HB GE101.out GE102.out) hb)
          have NB101_120 := am (NL BK101 hg)
          have NB120_101 := am (NG BK101 hg)
          replace BK101 := am (BB BK101 hb)
          have NB102_120 := am (NL BK102 hg)
          have NB120_102 := am (NG BK102 hg)
          replace BK102 := am (BB BK102 hb)
          clear hb hbox hg
          refine hK.out _ _ ⟨z0 _ BK101.out, z1 _ BK101.out, z0 _ BK102.out, z1 _ BK102.out, z2 _ BK102.out⟩ (fun hHeld => ?_)
          clear hK K
          refine norm_ (a' := ?_) ?_ ?_
          rotate_left
          ·show Act.put _ (some 8) _ = _
           simp only [Act.put, List.setIfInBounds_toArray, List.set_cons_zero, List.set_cons_succ, i64_w, i32_w]
           rfl
          exact norm_ NM (hJ1_3_10 (v106, v110, gb120) _ ⟨hHeld, (KR HO107), (KR HO111), (KB BK101), (KB BK102), (KB BK120), GW120.out, GE120.out, NB101_120.out, NB120_101.out, NB102_120.out, NB120_102.out, (K3 HB GE101.out GE102.out GE120.out)⟩)
       ·skip
        rintro ⟨v106, v110, gb120⟩ w33 ⟨hS_, h0_, h1_, h2_, h3_, h4_, h5_, h6_, h7_, h8_, h9_, h10_, h11_⟩
        have HO107 : Aside0 (Kd.R k34 34 w33 w.heap.size (fun _ => True) v106 t105) := ⟨h0_⟩
        have HO111 : Aside0 (Kd.R k108 108 w33 w.heap.size (fun _ => True) v110 t109) := ⟨h1_⟩
        replace BK101 : Aside0 (bk w33 gb101 #[.int .i64 a1_0, .slice A1_1 l1_1.length c1_1] 39) := ⟨h2_⟩
        replace BK102 : Aside0 (bk w33 gb102 #[.int .i64 a2_0, .int .i64 a2_1, .int .i64 a2_2] 69) := ⟨h3_⟩
        have BK120 : Aside0 (bk w33 gb120 #[.int .i64 0, .slice none 0 0] 46) := ⟨h4_⟩
        have GW120 : Aside0 (w.heap.size ≤ gb120) := ⟨h5_⟩
        have GE120 : Aside0 (w.heap.size ≤ gb120) := ⟨h6_⟩
        have NB101_120 : Aside0 (gb101 ≠ gb120) := ⟨h7_⟩
        have NB120_101 : Aside0 (gb120 ≠ gb101) := ⟨h8_⟩
        have NB102_120 : Aside0 (gb102 ≠ gb120) := ⟨h9_⟩
        have NB120_102 : Aside0 (gb120 ≠ gb102) := ⟨h10_⟩
        replace HB : Aside0 (Below w.heap.size w w33) := ⟨h11_⟩
        clear h0_ h1_ h2_ h3_ h4_ h5_ h6_ h7_ h8_ h9_ h10_ h11_
        have hHeld : ce2 w33 gb101 (.int .i64 a1_0) (.slice A1_1 l1_1.length c1_1) (de3 w33 gb102 (.int .i64 a2_0) (.int .i64 a2_1) (.int .i64 a2_2)) := hS_
        refine norm_ (a' := ?_) ?_ ?_
        rotate_left
        ·simp only [putAll, Act.put, List.setIfInBounds_toArray, List.set_cons_zero, List.set_cons_succ]
         rfl
        refine one_ (i := 5) (N := some 35) (tr [6, 4, 1, 2]) rfl rfl (one_of HT_.out (by kernel_rfl)) (by decide) (fun K hK => ?_)
        refine goes_ Try.func45 (by kernel_rfl) rfl #[.agg #[.int .i64 a2_0, .int .i64 a2_1, .int .i64 a2_2]] (by rfl) rfl rfl MT ?_
        with_reducible refine (laws_toCall.calls a2_0 a2_1 a2_2 t112 t113 t114 _ A17.out).mono ?_
        rintro e w34 ⟨rfl, hb⟩
        refine ⟨_, rfl, ?_⟩
        replace HO107 := am (Kd.R_below (KR HO107) hb)
        replace HO111 := am (Kd.R_below (KR HO111) hb)
        replace BK101 := am (BB BK101 hb)
        replace BK102 := am (BB BK102 hb)
        replace BK120 := am (BB BK120 hb)
        replace HB := am (below_step (K3 HB GE101.out GE102.out GE120.out) hb)
        (try clear hb)
        (try clear hb2)
        (try clear hk)
        (try clear hi)
        refine hK.out _ _ ⟨z0 _ BK101.out, z1 _ BK101.out, z0 _ BK102.out, z1 _ BK102.out, z2 _ BK102.out⟩ (fun hHeld => ?_)
        clear hK K
        refine norm_ (a' := ?_) ?_ ?_
        rotate_left
        ·show Act.put _ (some 35) _ = _
         simp only [Act.put, List.setIfInBounds_toArray, List.set_cons_zero, List.set_cons_succ, i64_w, i32_w]
         rfl
        exact norm_ NM (hJ1_3_5_10 (v106, v110, gb120) _ ⟨hHeld, (KR HO107), (KR HO111), (KB BK101), (KB BK102), (KB BK120), GW120.out, GE120.out, NB101_120.out, NB120_101.out, NB102_120.out, NB120_102.out, (K3 HB GE101.out GE102.out GE120.out)⟩)
      ·skip
       rintro ⟨v106, v110⟩ w33 ⟨hS_, h0_, h1_, h2_, h3_, h4_⟩
       have HO107 : Aside0 (Kd.R k34 34 w33 w.heap.size (fun _ => True) v106 t105) := ⟨h0_⟩
       have HO111 : Aside0 (Kd.R k108 108 w33 w.heap.size (fun _ => True) v110 t109) := ⟨h1_⟩
       replace BK101 : Aside0 (bk w33 gb101 #[.int .i64 a1_0, .slice A1_1 l1_1.length c1_1] 39) := ⟨h2_⟩
       replace BK102 : Aside0 (bk w33 gb102 #[.int .i64 a2_0, .int .i64 a2_1, .int .i64 a2_2] 69) := ⟨h3_⟩
       replace HB : Aside0 (Below w.heap.size w w33) := ⟨h4_⟩
       clear h0_ h1_ h2_ h3_ h4_
       have hHeld : ce2 w33 gb101 (.int .i64 a1_0) (.slice A1_1 l1_1.length c1_1) (de3 w33 gb102 (.int .i64 a2_0) (.int .i64 a2_1) (.int .i64 a2_2)) := hS_
       obtain ⟨Ao34, co34, eo34⟩ := Kd.R_slice HO107.out
       (first | subst eo34 | (injection eo34 with f1_ f2_ f3_; have f4_ := f1_.symm; have f5_ := f3_.symm; clear f1_ f2_ f3_; subst f4_; subst f5_))
       obtain ⟨Ao35, co35, eo35⟩ := Kd.R_slice HO111.out
       (first | subst eo35 | (injection eo35 with f1_ f2_ f3_; have f4_ := f1_.symm; have f5_ := f3_.symm; clear f1_ f2_ f3_; subst f4_; subst f5_))
       refine norm_ (a' := ?_) ?_ ?_
       rotate_left
       ·simp only [putAll, Act.put, List.setIfInBounds_toArray, List.set_cons_zero, List.set_cons_succ]
        rfl
       refine two_ (i := 6) (j := 10) (Ni := some 36) (Nj := some 8) (tf 7 6) (tr [6, 4, 1, 2]) rfl rfl rfl rfl (two_of HT_.out (by kernel_rfl)) (by decide) (by decide) (fun K hK => ?_) (fun K hK => ?_)
       ·skip
        refine goes_ Try.func31 (by kernel_rfl) rfl #[.slice Ao34 t105.length co34, .agg #[.int .i64 t108, .slice Ao35 t109.length co35], .agg #[.int .i64 t112, .int .i64 t113, .int .i64 t114]] (by rfl) rfl rfl MT ?_
        with_reducible refine (spec_CacheFind.calls k _ _ t105 t108 _ _ t109 t112 t113 t114 t115 t116 t119 _ ?side1 ?side2 ?side3 ?side4 A18.out).mono ?_
        (case side1 => exact KC (Kd.R_reads' HO107.out).2.2)
        (case side2 => exact (Kd.R_reads' HO107.out).2.1)
        (case side3 => exact KC (Kd.R_reads' HO111.out).2.2)
        (case side4 => exact (Kd.R_reads' HO111.out).2.1)
        rintro e w36 ⟨v117, rfl, ho0, hb⟩
        refine ⟨_, rfl, ?_⟩
        replace HO107 := am (Kd.R_below (KR HO107) hb)
        have HO118 := am (Kd.R_lower (Kd.R_new' ho0 (Kd.R_lt (KR HO111))) (below_size (K2 HB GE101.out GE102.out)))
        replace HO111 := am (Kd.R_elder' (KR HO111) (Kd.R_base ho0) hb)
        replace BK101 := am (BB BK101 hb)
        replace BK102 := am (BB BK102 hb)
        replace HB := am (below_step (K2 HB GE101.out GE102.out) hb)
        (try clear hb)
        (try clear hb2)
        (try clear hk)
        (try clear hi)
        (try clear ho0)
        refine hK.out _ _ ⟨z0 _ BK101.out, z1 _ BK101.out, z0 _ BK102.out, z1 _ BK102.out, z2 _ BK102.out⟩ (fun hHeld => ?_)
        clear hK K
        refine norm_ (a' := ?_) ?_ ?_
        rotate_left
        ·show Act.put _ (some 36) _ = _
         simp only [Act.put, List.setIfInBounds_toArray, List.set_cons_zero, List.set_cons_succ, i64_w, i32_w]
         rfl
        refine pv HT_ 7 29 (tf 8 5) ?_
        refine pv HT_ 8 37 (tf 9 4) ?_
        refine pv HT_ 9 38 (tf 10 3) ?_
        exact norm_ NM (hJ1_3_5_6 (.slice Ao34 t105.length co34, .slice Ao35 t109.length co35, v117) _ ⟨hHeld, (KR HO107), (by (with_reducible repeat (first | apply Kd.R_alloc | apply Kd.R_drewN | apply Kd.R_drew)); exact Kd.R_mono HO111.out (fun _ hk => hk.2)), (by (with_reducible repeat (first | apply Kd.R_alloc | apply Kd.R_drewN | apply Kd.R_drew)); exact Kd.R_mono HO118.out (fun _ hk => hk.2)), (KB BK101), (KB BK102), (K2 HB GE101.out GE102.out)⟩)
       ·skip
        refine box_step rfl (N := 8) rfl (cs := #[.int .i64 0, .slice none 0 0]) (t := 46) BX ?_
        intro gb120 hg w34 hbox hb
        replace HO107 := am (Kd.R_below (KR HO107) hb)
        replace HO111 := am (Kd.R_below (KR HO111) hb)
        have BK120 := am (hbox)
        have GW120 := am (GH2 HB GE101.out GE102.out hg)
        have GE120 := GW120
        replace HB := am (below_step (K2 HB GE101.out GE102.out) hb)
        have NB101_120 := am (NL BK101 hg)
        have NB120_101 := am (NG BK101 hg)
        replace BK101 := am (BB BK101 hb)
        have NB102_120 := am (NL BK102 hg)
        have NB120_102 := am (NG BK102 hg)
        replace BK102 := am (BB BK102 hb)
        clear hb hbox hg
        refine hK.out _ _ ⟨z0 _ BK101.out, z1 _ BK101.out, z0 _ BK102.out, z1 _ BK102.out, z2 _ BK102.out⟩ (fun hHeld => ?_)
        clear hK K
        refine norm_ (a' := ?_) ?_ ?_
        rotate_left
        ·show Act.put _ (some 8) _ = _
         simp only [Act.put, List.setIfInBounds_toArray, List.set_cons_zero, List.set_cons_succ, i64_w, i32_w]
         rfl
        exact norm_ NM (hJ1_3_5_10 ((.slice Ao34 t105.length co34 : Value), (.slice Ao35 t109.length co35 : Value), gb120) _ ⟨hHeld, (KR HO107), (KR HO111), (KB BK101), (KB BK102), (KB BK120), GW120.out, GE120.out, NB101_120.out, NB120_101.out, NB102_120.out, NB120_102.out, (K3 HB GE101.out GE102.out GE120.out)⟩)
     ·skip
      rintro ⟨v106, v110, gb120⟩ w34 ⟨hS_, h0_, h1_, h2_, h3_, h4_, h5_, h6_, h7_, h8_, h9_, h10_, h11_⟩
      have HO107 : Aside0 (Kd.R k34 34 w34 w.heap.size (fun _ => True) v106 t105) := ⟨h0_⟩
      have HO111 : Aside0 (Kd.R k108 108 w34 w.heap.size (fun _ => True) v110 t109) := ⟨h1_⟩
      replace BK101 : Aside0 (bk w34 gb101 #[.int .i64 a1_0, .slice A1_1 l1_1.length c1_1] 39) := ⟨h2_⟩
      replace BK102 : Aside0 (bk w34 gb102 #[.int .i64 a2_0, .int .i64 a2_1, .int .i64 a2_2] 69) := ⟨h3_⟩
      have BK120 : Aside0 (bk w34 gb120 #[.int .i64 0, .slice none 0 0] 46) := ⟨h4_⟩
      have GW120 : Aside0 (w.heap.size ≤ gb120) := ⟨h5_⟩
      have GE120 : Aside0 (w.heap.size ≤ gb120) := ⟨h6_⟩
      have NB101_120 : Aside0 (gb101 ≠ gb120) := ⟨h7_⟩
      have NB120_101 : Aside0 (gb120 ≠ gb101) := ⟨h8_⟩
      have NB102_120 : Aside0 (gb102 ≠ gb120) := ⟨h9_⟩
      have NB120_102 : Aside0 (gb120 ≠ gb102) := ⟨h10_⟩
      replace HB : Aside0 (Below w.heap.size w w34) := ⟨h11_⟩
      clear h0_ h1_ h2_ h3_ h4_ h5_ h6_ h7_ h8_ h9_ h10_ h11_
      have hHeld : ce2 w34 gb101 (.int .i64 a1_0) (.slice A1_1 l1_1.length c1_1) (de3 w34 gb102 (.int .i64 a2_0) (.int .i64 a2_1) (.int .i64 a2_2)) := hS_
      obtain ⟨Ao35, co35, eo35⟩ := Kd.R_slice HO107.out
      (first | subst eo35 | (injection eo35 with f1_ f2_ f3_; have f4_ := f1_.symm; have f5_ := f3_.symm; clear f1_ f2_ f3_; subst f4_; subst f5_))
      obtain ⟨Ao36, co36, eo36⟩ := Kd.R_slice HO111.out
      (first | subst eo36 | (injection eo36 with f1_ f2_ f3_; have f4_ := f1_.symm; have f5_ := f3_.symm; clear f1_ f2_ f3_; subst f4_; subst f5_))
      refine norm_ (a' := ?_) ?_ ?_
      rotate_left
      ·simp only [putAll, Act.put, List.setIfInBounds_toArray, List.set_cons_zero, List.set_cons_succ]
       rfl
      refine one_ (i := 6) (N := some 36) (tr [7, 3, 1, 2]) rfl rfl (one_of HT_.out (by kernel_rfl)) (by decide) (fun K hK => ?_)
      refine goes_ Try.func31 (by kernel_rfl) rfl #[.slice Ao35 t105.length co35, .agg #[.int .i64 t108, .slice Ao36 t109.length co36], .agg #[.int .i64 t112, .int .i64 t113, .int .i64 t114]] (by rfl) rfl rfl MT ?_
      with_reducible refine (spec_CacheFind.calls k _ _ t105 t108 _ _ t109 t112 t113 t114 t115 t116 t119 _ ?side1 ?side2 ?side3 ?side4 A18.out).mono ?_
      (case side1 => exact KC (Kd.R_reads' HO107.out).2.2)
      (case side2 => exact (Kd.R_reads' HO107.out).2.1)
      (case side3 => exact KC (Kd.R_reads' HO111.out).2.2)
      (case side4 => exact (Kd.R_reads' HO111.out).2.1)
      rintro e w37 ⟨v117, rfl, ho0, hb⟩
      refine ⟨_, rfl, ?_⟩
      replace HO107 := am (Kd.R_below (KR HO107) hb)
      have HO118 := am (Kd.R_lower (Kd.R_new' ho0 (Kd.R_lt (KR HO111))) (below_size (K3 HB GE101.out GE102.out GE120.out)))
      replace HO111 := am (Kd.R_elder' (KR HO111) (Kd.R_base ho0) hb)
      replace BK101 := am (BB BK101 hb)
      replace BK102 := am (BB BK102 hb)
      replace BK120 := am (BB BK120 hb)
      replace HB := am (below_step (K3 HB GE101.out GE102.out GE120.out) hb)
      (try clear hb)
      (try clear hb2)
      (try clear hk)
      (try clear hi)
      (try clear ho0)
      refine hK.out _ _ ⟨z0 _ BK101.out, z1 _ BK101.out, z0 _ BK102.out, z1 _ BK102.out, z2 _ BK102.out⟩ (fun hHeld => ?_)
      clear hK K
      refine norm_ (a' := ?_) ?_ ?_
      rotate_left
      ·show Act.put _ (some 36) _ = _
       simp only [Act.put, List.setIfInBounds_toArray, List.set_cons_zero, List.set_cons_succ, i64_w, i32_w]
       rfl
      refine pv HT_ 7 29 (tr [8, 2, 1, 2]) ?_
      refine pv HT_ 8 37 (tr [9, 1, 1, 2]) ?_
      refine pv HT_ 9 38 (tf 11 2) ?_
      exact norm_ NM (hJ1_3_5_6_10 (.slice Ao35 t105.length co35, .slice Ao36 t109.length co36, v117, gb120) _ ⟨hHeld, (KR HO107), (by (with_reducible repeat (first | apply Kd.R_alloc | apply Kd.R_drewN | apply Kd.R_drew)); exact Kd.R_mono HO111.out (fun _ hk => hk.2)), (by (with_reducible repeat (first | apply Kd.R_alloc | apply Kd.R_drewN | apply Kd.R_drew)); exact Kd.R_mono HO118.out (fun _ hk => hk.2)), (KB BK101), (KB BK102), (KB BK120), GW120.out, GE120.out, NB101_120.out, NB120_101.out, NB102_120.out, NB120_102.out, (K3 HB GE101.out GE102.out GE120.out)⟩)
    ·skip
     rintro ⟨v106, v110, v117⟩ w36 ⟨hS_, h0_, h1_, h2_, h3_, h4_, h5_⟩
     have HO107 : Aside0 (Kd.R k34 34 w36 w.heap.size (fun _ => True) v106 t105) := ⟨h0_⟩
     have HO111 : Aside0 (Kd.R k108 108 w36 w.heap.size (fun k_ => some k_ ≠ (v117 : Value).ownBlock) v110 t109) := ⟨h1_⟩
     have HO118 : Aside0 (Kd.R k108 108 w36 w.heap.size (fun k_ => some k_ ≠ (v110 : Value).ownBlock) v117 t116) := ⟨h2_⟩
     replace BK101 : Aside0 (bk w36 gb101 #[.int .i64 a1_0, .slice A1_1 l1_1.length c1_1] 39) := ⟨h3_⟩
     replace BK102 : Aside0 (bk w36 gb102 #[.int .i64 a2_0, .int .i64 a2_1, .int .i64 a2_2] 69) := ⟨h4_⟩
     replace HB : Aside0 (Below w.heap.size w w36) := ⟨h5_⟩
     clear h0_ h1_ h2_ h3_ h4_ h5_
     have hHeld : ce2 w36 gb101 (.int .i64 a1_0) (.slice A1_1 l1_1.length c1_1) (de3 w36 gb102 (.int .i64 a2_0) (.int .i64 a2_1) (.int .i64 a2_2)) := hS_
     refine norm_ (a' := ?_) ?_ ?_
     rotate_left
     ·simp only [putAll, Act.put, List.setIfInBounds_toArray, List.set_cons_zero, List.set_cons_succ]
      rfl
     refine one_ (i := 10) (N := some 8) (tf 11 2) rfl rfl (one_of HT_.out (by kernel_rfl)) (by decide) (fun K hK => ?_)
     refine box_step rfl (N := 8) rfl (cs := #[.int .i64 0, .slice none 0 0]) (t := 46) BX ?_
     intro gb120 hg w37 hbox hb
     replace HO107 := am (Kd.R_below (KR HO107) hb)
     replace HO111 := am (Kd.R_below (KR HO111) hb)
     replace HO118 := am (Kd.R_below (KR HO118) hb)
     have BK120 := am (hbox)
     have GW120 := am (GH2 HB GE101.out GE102.out hg)
     have GE120 := GW120
     replace HB := am (below_step (K2 HB GE101.out GE102.out) hb)
     have NB101_120 := am (NL BK101 hg)
     have NB120_101 := am (NG BK101 hg)
     replace BK101 := am (BB BK101 hb)
     have NB102_120 := am (NL BK102 hg)
     have NB120_102 := am (NG BK102 hg)
     replace BK102 := am (BB BK102 hb)
     clear hb hbox hg
     refine hK.out _ _ ⟨z0 _ BK101.out, z1 _ BK101.out, z0 _ BK102.out, z1 _ BK102.out, z2 _ BK102.out⟩ (fun hHeld => ?_)
     clear hK K
     refine norm_ (a' := ?_) ?_ ?_
     rotate_left
     ·show Act.put _ (some 8) _ = _
      simp only [Act.put, List.setIfInBounds_toArray, List.set_cons_zero, List.set_cons_succ, i64_w, i32_w]
      rfl
     exact norm_ NM (hJ1_3_5_6_10 (v106, v110, v117, gb120) _ ⟨hHeld, (KR HO107), (KR HO111), (KR HO118), (KB BK101), (KB BK102), (KB BK120), GW120.out, GE120.out, NB101_120.out, NB120_101.out, NB102_120.out, NB120_102.out, (K3 HB GE101.out GE102.out GE120.out)⟩)
   rintro ⟨v106, v110, v117, gb120⟩ w37 ⟨hS_, h0_, h1_, h2_, h3_, h4_, h5_, h6_, h7_, h8_, h9_, h10_, h11_, h12_⟩
   have HO107 : Aside0 (Kd.R k34 34 w37 w.heap.size (fun _ => True) v106 t105) := ⟨h0_⟩
   have HO111 : Aside0 (Kd.R k108 108 w37 w.heap.size (fun k_ => some k_ ≠ (v117 : Value).ownBlock) v110 t109) := ⟨h1_⟩
   have HO118 : Aside0 (Kd.R k108 108 w37 w.heap.size (fun k_ => some k_ ≠ (v110 : Value).ownBlock) v117 t116) := ⟨h2_⟩
   replace BK101 : Aside0 (bk w37 gb101 #[.int .i64 a1_0, .slice A1_1 l1_1.length c1_1] 39) := ⟨h3_⟩
   replace BK102 : Aside0 (bk w37 gb102 #[.int .i64 a2_0, .int .i64 a2_1, .int .i64 a2_2] 69) := ⟨h4_⟩
   have BK120 : Aside0 (bk w37 gb120 #[.int .i64 0, .slice none 0 0] 46) := ⟨h5_⟩
   have GW120 : Aside0 (w.heap.size ≤ gb120) := ⟨h6_⟩
   have GE120 : Aside0 (w.heap.size ≤ gb120) := ⟨h7_⟩
   have NB101_120 : Aside0 (gb101 ≠ gb120) := ⟨h8_⟩
   have NB120_101 : Aside0 (gb120 ≠ gb101) := ⟨h9_⟩
   have NB102_120 : Aside0 (gb102 ≠ gb120) := ⟨h10_⟩
   have NB120_102 : Aside0 (gb120 ≠ gb102) := ⟨h11_⟩
   replace HB : Aside0 (Below w.heap.size w w37) := ⟨h12_⟩
   clear h0_ h1_ h2_ h3_ h4_ h5_ h6_ h7_ h8_ h9_ h10_ h11_ h12_
   have hHeld : ce2 w37 gb101 (.int .i64 a1_0) (.slice A1_1 l1_1.length c1_1) (de3 w37 gb102 (.int .i64 a2_0) (.int .i64 a2_1) (.int .i64 a2_2)) := hS_
   obtain ⟨Ao39, co39, eo39⟩ := Kd.R_slice HO118.out
   (first | subst eo39 | (injection eo39 with f1_ f2_ f3_; have f4_ := f1_.symm; have f5_ := f3_.symm; clear f1_ f2_ f3_; subst f4_; subst f5_))
   refine norm_ (a' := ?_) ?_ ?_
   rotate_left
   ·simp only [putAll, Act.put, List.setIfInBounds_toArray, List.set_cons_zero, List.set_cons_succ]
    rfl
   refine one_ (i := 11) (N := none) (tf 12 1) rfl rfl (one_of HT_.out (by kernel_rfl)) (by decide) (fun K hK => ?_)
   have hs38 : w37.cell? ⟨gb120, 0, none⟩ = some (.int .i64 0) := z0 _ BK120.out
   have hfs38 := blk_frozen BK120.out 0
   have hns38_0 := NB101_120.out
   have hns38_1 := NB102_120.out
   have hms38_0 := NB120_101.out
   have hms38_1 := NB120_102.out
   have hs40 : w37.cell? ⟨gb120, 1, none⟩ = some (.slice none 0 0) := z1 _ BK120.out
   have hfs40 := blk_frozen BK120.out 1
   have hns40_0 := NB101_120.out
   have hns40_1 := NB102_120.out
   have hms40_0 := NB120_101.out
   have hms40_1 := NB120_102.out
   refine skip_ (w1 := ?_) (by rfl) rfl ?_ ?_
   rotate_left
   ·go_simp
    rfl
   refine hK.out _ _ ⟨((cell_far (p := ⟨gb120, _, none⟩) NB101_120.out _).trans (((cell_far (p := ⟨gb120, _, none⟩) NB101_120.out _).trans (hHeld.1)))), ((cell_far (p := ⟨gb120, _, none⟩) NB101_120.out _).trans (((cell_far (p := ⟨gb120, _, none⟩) NB101_120.out _).trans (hHeld.2.1)))), ((cell_far (p := ⟨gb120, _, none⟩) NB102_120.out _).trans (((cell_far (p := ⟨gb120, _, none⟩) NB102_120.out _).trans (hHeld.2.2.1)))), ((cell_far (p := ⟨gb120, _, none⟩) NB102_120.out _).trans (((cell_far (p := ⟨gb120, _, none⟩) NB102_120.out _).trans (hHeld.2.2.2.1)))), ((cell_far (p := ⟨gb120, _, none⟩) NB102_120.out _).trans (((cell_far (p := ⟨gb120, _, none⟩) NB102_120.out _).trans (hHeld.2.2.2.2))))⟩ (fun hHeld => ?_)
   clear hK K
   refine pv HT_ 12 9 (tf 13 0) ?_
   refine done_ (done_of HT_.out (by kernel_rfl)) ?_
   try go_wp2_with (first | ((with_reducible refine gate_callee (f := 24) rfl ?_); refine goesL_ (some 40) rfl rfl Try.func24 (by kernel_rfl) rfl #[.slice A0 l0.length c0] rfl MT ?_; (with_reducible refine (laws_toRuleS.calls k _ _ l0 t121 _ ?side1 ?side2 A19.out).mono ?_); (case side1 => exact Kd.C_below HR0.out (K3 HB GE101.out GE102.out GE120.out)); (case side2 => exact HC0.out); rintro e w41 ⟨v122, rfl, ho0, hb⟩; refine ⟨_, rfl, ?_⟩; replace HO111 := am (Kd.R_below (by (with_reducible repeat (first | apply Kd.R_alloc | apply Kd.R_drewN | apply Kd.R_drew)); exact (Kd.R_mono (Kd.R_far (p := ⟨gb120, 1, none⟩) (Kd.R_far (p := ⟨gb120, 0, none⟩) (Kd.R_types HO111.out BK120.out (by decide)) (fun _ hk => hk.2) (.int .i64 t115)) (fun _ hk => hk.2) (.slice Ao39 t116.length co39)) (fun _ h_ => h_.1))) hb); replace HO118 := am (Kd.R_below (by (with_reducible repeat (first | apply Kd.R_alloc | apply Kd.R_drewN | apply Kd.R_drew)); exact (Kd.R_mono (Kd.R_far (p := ⟨gb120, 1, none⟩) (Kd.R_far (p := ⟨gb120, 0, none⟩) (Kd.R_types HO118.out BK120.out (by decide)) (fun _ hk => hk.2) (.int .i64 t115)) (fun _ hk => hk.2) (.slice Ao39 t116.length co39)) (fun _ h_ => h_.1))) hb); have HO123 := am (Kd.R_lower (Kd.R_new' ho0 (Kd.R_lt (by (with_reducible repeat (first | apply Kd.R_alloc | apply Kd.R_drewN | apply Kd.R_drew)); exact (Kd.R_mono (Kd.R_far (p := ⟨gb120, 1, none⟩) (Kd.R_far (p := ⟨gb120, 0, none⟩) (Kd.R_types HO107.out BK120.out (by decide)) (fun _ hk => hk.2) (.int .i64 t115)) (fun _ hk => hk.2) (.slice Ao39 t116.length co39)) (fun _ h_ => h_.1))))) (below_size (K3 HB GE101.out GE102.out GE120.out))); replace HO107 := am (Kd.R_elder' (by (with_reducible repeat (first | apply Kd.R_alloc | apply Kd.R_drewN | apply Kd.R_drew)); exact (Kd.R_mono (Kd.R_far (p := ⟨gb120, 1, none⟩) (Kd.R_far (p := ⟨gb120, 0, none⟩) (Kd.R_types HO107.out BK120.out (by decide)) (fun _ hk => hk.2) (.int .i64 t115)) (fun _ hk => hk.2) (.slice Ao39 t116.length co39)) (fun _ h_ => h_.1))) (Kd.R_base ho0) hb); replace BK101 := am (blk_below (g := gb101) (o := .cells #[.int .i64 a1_0, .slice A1_1 l1_1.length c1_1] 39 (0, 0)) (by (with_reducible repeat (first | refine blk_drewN ?_ _ | refine blk_drew ?_ | refine blk_alloc ?_ _)); refine blk_far ?_ NB101_120.out _; (with_reducible repeat (first | refine blk_drewN ?_ _ | refine blk_drew ?_ | refine blk_alloc ?_ _)); refine blk_far ?_ NB101_120.out _; (with_reducible repeat (first | refine blk_drewN ?_ _ | refine blk_drew ?_ | refine blk_alloc ?_ _)); exact BK101.out) hb); replace BK102 := am (blk_below (g := gb102) (o := .cells #[.int .i64 a2_0, .int .i64 a2_1, .int .i64 a2_2] 69 (0, 0)) (by (with_reducible repeat (first | refine blk_drewN ?_ _ | refine blk_drew ?_ | refine blk_alloc ?_ _)); refine blk_far ?_ NB102_120.out _; (with_reducible repeat (first | refine blk_drewN ?_ _ | refine blk_drew ?_ | refine blk_alloc ?_ _)); refine blk_far ?_ NB102_120.out _; (with_reducible repeat (first | refine blk_drewN ?_ _ | refine blk_drew ?_ | refine blk_alloc ?_ _)); exact BK102.out) hb); replace BK120 := am (blk_below (g := gb120) (o := .cells #[.int .i64 t115, .slice Ao39 t116.length co39] 46 (0, 0)) (by (with_reducible repeat (first | refine blk_drewN ?_ _ | refine blk_drew ?_ | refine blk_alloc ?_ _)); refine blk_put (cs := #[.int .i64 t115, .slice none 0 0]) ?_ 1 _ rfl; (with_reducible repeat (first | refine blk_drewN ?_ _ | refine blk_drew ?_ | refine blk_alloc ?_ _)); refine blk_put (cs := #[.int .i64 0, .slice none 0 0]) ?_ 0 _ rfl; (with_reducible repeat (first | refine blk_drewN ?_ _ | refine blk_drew ?_ | refine blk_alloc ?_ _)); exact BK120.out) hb); replace HB := am (below_step (K3 HB GE101.out GE102.out GE120.out) hb); (try clear hb); (try clear hb2); (try clear hk); (try clear hi); (try clear ho0); have hnb42 := NB101_120.out; have hnc42 := NB120_101.out; obtain ⟨hcz43_0, hcz43_1, hfz43_0⟩ := y2 w41 BK101.out) | ((with_reducible refine gate_callee (f := 25) rfl ?_); refine goesL_ (some 42) rfl rfl Try.func25 (by kernel_rfl) rfl #[.agg #[.int .i64 a1_0, .slice A1_1 l1_1.length c1_1]] rfl MT ?_; (with_reducible refine (laws_toCache.calls k a1_0 _ _ l1_1 t124 t125 _ ?side1 ?side2 A20.out).mono ?_); (case side1 => exact KC (Kd.C_below HR1_1.out HB.out)); (case side2 => exact HC1_1.out); rintro e w44 ⟨v126, rfl, ho0, hb⟩; refine ⟨_, rfl, ?_⟩; replace HO107 := am (Kd.R_below (KR HO107) hb); replace HO123 := am (Kd.R_below (KR HO123) hb); have HO127 := am (Kd.R_lower (Kd.R_new' (Kd.R_new' ho0 (Kd.R_lt (KR HO111))) (Kd.R_lt (KR HO118))) (below_size (K3 HB GE101.out GE102.out GE120.out))); replace HO111 := am (Kd.R_elder' (KR HO111) (Kd.R_base ho0) hb); replace HO118 := am (Kd.R_elder' (KR HO118) (Kd.R_base ho0) hb); replace BK101 := am (BB BK101 hb); replace BK102 := am (BB BK102 hb); replace BK120 := am (BB BK120 hb); replace HB := am (below_step (K3 HB GE101.out GE102.out GE120.out) hb); (try clear hb); (try clear hb2); (try clear hk); (try clear hi); (try clear ho0)) | ((with_reducible refine gate_dst (N := 11) rfl ?_); refine box_event rfl (N := 11) rfl (cs := #[.int .i64 0, .slice none 0 0]) (t := 46) BX ?_; intro gb128 hg w45 hbox hb; replace HO107 := am (Kd.R_below (KR HO107) hb); replace HO111 := am (Kd.R_below (KR HO111) hb); replace HO118 := am (Kd.R_below (KR HO118) hb); replace HO123 := am (Kd.R_below (KR HO123) hb); replace HO127 := am (Kd.R_below (KR HO127) hb); have BK128 := am (hbox); have GW128 := am (GH3 HB GE101.out GE102.out GE120.out hg); have GE128 := GW128; replace HB := am (below_step (K3 HB GE101.out GE102.out GE120.out) hb); have NB101_128 := am (NL BK101 hg); have NB128_101 := am (NG BK101 hg); replace BK101 := am (BB BK101 hb); have NB102_128 := am (NL BK102 hg); have NB128_102 := am (NG BK102 hg); replace BK102 := am (BB BK102 hb); have NB120_128 := am (NL BK120 hg); have NB128_120 := am (NG BK120 hg); replace BK120 := am (BB BK120 hb); clear hb hbox hg; have hnb46 := NB128_101.out; have hnc46 := NB101_128.out; have hnb47 := NB128_102.out; have hnc47 := NB102_128.out; have hnb48 := NB128_120.out; have hnc48 := NB120_128.out; obtain ⟨hcz49_0, hcz49_1, hfz49_0⟩ := y2 w45 BK128.out; obtain ⟨Ao50, co50, eo50⟩ := Kd.R_slice HO127.out; subst eo50; obtain ⟨Ao51, co51, eo51⟩ := Kd.R_slice HO123.out; subst eo51))
   have n0_ : Aside0 (Kd.R k34 34 ((w45.setCell ⟨gb128, 0, none⟩ (.int .i64 t124)).setCell ⟨gb128, 1, none⟩ (.slice Ao50 t125.length co50)) w.heap.size (fun k_ => some k_ ≠ (.slice Ao51 t121.length co51 : Value).ownBlock) v106 t105) := ⟨by (with_reducible repeat (first | apply Kd.R_alloc | apply Kd.R_drewN | apply Kd.R_drew)); exact Kd.R_mono (Kd.R_far (p := ⟨gb128, 1, none⟩) (Kd.R_far (p := ⟨gb128, 0, none⟩) (Kd.R_types HO107.out BK128.out (by decide)) (fun _ hk => hk.2) (.int .i64 t124)) (fun _ hk => hk.2) (.slice Ao50 t125.length co50)) (fun _ hk => hk.1.2)⟩
   have n1_ : Aside0 (Kd.R k108 108 ((w45.setCell ⟨gb128, 0, none⟩ (.int .i64 t124)).setCell ⟨gb128, 1, none⟩ (.slice Ao50 t125.length co50)) w.heap.size (fun k_ => some k_ ≠ (.slice Ao39 t116.length co39 : Value).ownBlock ∧ some k_ ≠ (.slice Ao50 t125.length co50 : Value).ownBlock) v110 t109) := ⟨by (with_reducible repeat (first | apply Kd.R_alloc | apply Kd.R_drewN | apply Kd.R_drew)); exact Kd.R_mono (Kd.R_far (p := ⟨gb128, 1, none⟩) (Kd.R_far (p := ⟨gb128, 0, none⟩) (Kd.R_types HO111.out BK128.out (by decide)) (fun _ hk => hk.2) (.int .i64 t124)) (fun _ hk => hk.2) (.slice Ao50 t125.length co50)) (fun _ hk => ⟨hk.1.1, hk.1.2⟩)⟩
   have n2_ : Aside0 (Kd.R k108 108 ((w45.setCell ⟨gb128, 0, none⟩ (.int .i64 t124)).setCell ⟨gb128, 1, none⟩ (.slice Ao50 t125.length co50)) w.heap.size (fun k_ => some k_ ≠ (v110 : Value).ownBlock ∧ some k_ ≠ (.slice Ao50 t125.length co50 : Value).ownBlock) (.slice Ao39 t116.length co39) t116) := ⟨by (with_reducible repeat (first | apply Kd.R_alloc | apply Kd.R_drewN | apply Kd.R_drew)); exact Kd.R_mono (Kd.R_far (p := ⟨gb128, 1, none⟩) (Kd.R_far (p := ⟨gb128, 0, none⟩) (Kd.R_types HO118.out BK128.out (by decide)) (fun _ hk => hk.2) (.int .i64 t124)) (fun _ hk => hk.2) (.slice Ao50 t125.length co50)) (fun _ hk => ⟨hk.1.1, hk.1.2⟩)⟩
   have n3_ : Aside0 (Kd.R k34 34 ((w45.setCell ⟨gb128, 0, none⟩ (.int .i64 t124)).setCell ⟨gb128, 1, none⟩ (.slice Ao50 t125.length co50)) w.heap.size (fun k_ => some k_ ≠ (v106 : Value).ownBlock) (.slice Ao51 t121.length co51) t121) := ⟨by (with_reducible repeat (first | apply Kd.R_alloc | apply Kd.R_drewN | apply Kd.R_drew)); exact Kd.R_mono (Kd.R_far (p := ⟨gb128, 1, none⟩) (Kd.R_far (p := ⟨gb128, 0, none⟩) (Kd.R_types HO123.out BK128.out (by decide)) (fun _ hk => hk.2) (.int .i64 t124)) (fun _ hk => hk.2) (.slice Ao50 t125.length co50)) (fun _ hk => hk.1.2)⟩
   have n4_ : Aside0 (Kd.R k108 108 ((w45.setCell ⟨gb128, 0, none⟩ (.int .i64 t124)).setCell ⟨gb128, 1, none⟩ (.slice Ao50 t125.length co50)) w.heap.size (fun k_ => some k_ ≠ (v110 : Value).ownBlock ∧ some k_ ≠ (.slice Ao39 t116.length co39 : Value).ownBlock) (.slice Ao50 t125.length co50) t125) := ⟨by (with_reducible repeat (first | apply Kd.R_alloc | apply Kd.R_drewN | apply Kd.R_drew)); exact Kd.R_mono (Kd.R_far (p := ⟨gb128, 1, none⟩) (Kd.R_far (p := ⟨gb128, 0, none⟩) (Kd.R_types HO127.out BK128.out (by decide)) (fun _ hk => hk.2) (.int .i64 t124)) (fun _ hk => hk.2) (.slice Ao50 t125.length co50)) (fun _ hk => ⟨hk.1.1.2, hk.1.2⟩)⟩
   have n5_ : Aside0 (((w45.setCell ⟨gb128, 0, none⟩ (.int .i64 t124)).setCell ⟨gb128, 1, none⟩ (.slice Ao50 t125.length co50)).heap[gb101]? = some (.cells #[.int .i64 a1_0, .slice A1_1 l1_1.length c1_1] 39 (0, 0))) := ⟨by (with_reducible repeat (first | refine blk_drewN ?_ _ | refine blk_drew ?_ | refine blk_alloc ?_ _)); refine blk_far ?_ NB101_128.out _; (with_reducible repeat (first | refine blk_drewN ?_ _ | refine blk_drew ?_ | refine blk_alloc ?_ _)); refine blk_far ?_ NB101_128.out _; (with_reducible repeat (first | refine blk_drewN ?_ _ | refine blk_drew ?_ | refine blk_alloc ?_ _)); exact BK101.out⟩
   have n6_ : Aside0 (((w45.setCell ⟨gb128, 0, none⟩ (.int .i64 t124)).setCell ⟨gb128, 1, none⟩ (.slice Ao50 t125.length co50)).heap[gb102]? = some (.cells #[.int .i64 a2_0, .int .i64 a2_1, .int .i64 a2_2] 69 (0, 0))) := ⟨by (with_reducible repeat (first | refine blk_drewN ?_ _ | refine blk_drew ?_ | refine blk_alloc ?_ _)); refine blk_far ?_ NB102_128.out _; (with_reducible repeat (first | refine blk_drewN ?_ _ | refine blk_drew ?_ | refine blk_alloc ?_ _)); refine blk_far ?_ NB102_128.out _; (with_reducible repeat (first | refine blk_drewN ?_ _ | refine blk_drew ?_ | refine blk_alloc ?_ _)); exact BK102.out⟩
   have n7_ : Aside0 (((w45.setCell ⟨gb128, 0, none⟩ (.int .i64 t124)).setCell ⟨gb128, 1, none⟩ (.slice Ao50 t125.length co50)).heap[gb120]? = some (.cells #[.int .i64 t115, .slice Ao39 t116.length co39] 46 (0, 0))) := ⟨by (with_reducible repeat (first | refine blk_drewN ?_ _ | refine blk_drew ?_ | refine blk_alloc ?_ _)); refine blk_far ?_ NB120_128.out _; (with_reducible repeat (first | refine blk_drewN ?_ _ | refine blk_drew ?_ | refine blk_alloc ?_ _)); refine blk_far ?_ NB120_128.out _; (with_reducible repeat (first | refine blk_drewN ?_ _ | refine blk_drew ?_ | refine blk_alloc ?_ _)); exact BK120.out⟩
   have n8_ : Aside0 (((w45.setCell ⟨gb128, 0, none⟩ (.int .i64 t124)).setCell ⟨gb128, 1, none⟩ (.slice Ao50 t125.length co50)).heap[gb128]? = some (.cells #[.int .i64 t124, .slice Ao50 t125.length co50] 46 (0, 0))) := ⟨by (with_reducible repeat (first | refine blk_drewN ?_ _ | refine blk_drew ?_ | refine blk_alloc ?_ _)); refine blk_put (cs := #[.int .i64 t124, .slice none 0 0]) ?_ 1 _ rfl; (with_reducible repeat (first | refine blk_drewN ?_ _ | refine blk_drew ?_ | refine blk_alloc ?_ _)); refine blk_put (cs := #[.int .i64 0, .slice none 0 0]) ?_ 0 _ rfl; (with_reducible repeat (first | refine blk_drewN ?_ _ | refine blk_drew ?_ | refine blk_alloc ?_ _)); exact BK128.out⟩
   have n9_ : Aside0 (Below w.heap.size w ((w45.setCell ⟨gb128, 0, none⟩ (.int .i64 t124)).setCell ⟨gb128, 1, none⟩ (.slice Ao50 t125.length co50))) := ⟨K4 HB GE101.out GE102.out GE120.out GE128.out⟩
   (try clear HO107)
   (try clear HO111)
   (try clear HO118)
   (try clear HO123)
   (try clear HO127)
   (try clear BK101)
   (try clear BK102)
   (try clear BK120)
   (try clear BK128)
   (try clear HB)
   generalize ((w45.setCell ⟨gb128, 0, none⟩ (.int .i64 t124)).setCell ⟨gb128, 1, none⟩ (.slice Ao50 t125.length co50)) = w52 at n0_ n1_ n2_ n3_ n4_ n5_ n6_ n7_ n8_ n9_ ⊢
   have HO107 := n0_
   have HO111 := n1_
   have HO118 := n2_
   have HO123 := n3_
   have HO127 := n4_
   have BK101 := n5_
   have BK102 := n6_
   have BK120 := n7_
   have BK128 := n8_
   have HB := n9_
   clear n0_ n1_ n2_ n3_ n4_ n5_ n6_ n7_ n8_ n9_
   replace HO107 := am (Kd.R_drew HO107.out)
   replace HO111 := am (Kd.R_drew HO111.out)
   replace HO118 := am (Kd.R_drew HO118.out)
   replace HO123 := am (Kd.R_drew HO123.out)
   replace HO127 := am (Kd.R_drew HO127.out)
   replace BK101 := am (blk_drew BK101.out)
   replace BK102 := am (blk_drew BK102.out)
   replace BK120 := am (blk_drew BK120.out)
   replace BK128 := am (blk_drew BK128.out)
   replace HB := am (below_drew1 HB.out)
   refine start_ (n := 11) (S := fun w' => ce2 w' gb128 (.int .i64 t124) (.slice Ao50 t125.length co50) (de3 w' gb102 (.int .i64 a2_0) (.int .i64 a2_1) (.int .i64 a2_2))) (ds := []) (tf 0 11) (by kernel_rfl) rfl rfl ⟨z0 _ BK128.out, z1 _ BK128.out, z0 _ BK102.out, z1 _ BK102.out, z2 _ BK102.out⟩ (fun hHeld => ?_); refine with_tabW laws_FnExactCacheFind.tab11 laws_FnExactCacheFind.bits11 (fun HT_ HW_ => ?_)
   generalize w52.drew = w53 at HO107 HO111 HO118 HO123 HO127 BK101 BK102 BK120 BK128 HB hHeld ⊢
   refine pv HT_ 0 44 (tf 1 10) ?_
   refine tk 1 (some 45) (tf 2 9) (take_ofW HT_.out HW_.out (by kernel_rfl)) hHeld ?_
   refine tk 2 (some 46) (tf 3 8) (take_ofW HT_.out HW_.out (by kernel_rfl)) hHeld ?_
   refine join_ (σ := Value × Nat) 2 (tf 9 2) (fun s_ => [(47, .agg #[.int .i64 t129, .int .i64 t130, .int .i64 t131]), (48, .tuple #[.agg #[.int .i64 t132, s_.1], .int .i64 t136]), (12, .pointer (some ⟨s_.2, 0, none⟩)), (43, .tuple #[.agg #[.int .i64 t132, s_.1], .int .i64 t136]), (49, .agg #[.int .i64 t132, s_.1]), (50, .int .i64 t136)]) (fun s_ w' => (w'.cell? ⟨gb128, 0, none⟩ = some (.int .i64 t124) ∧ w'.cell? ⟨gb128, 1, none⟩ = some (.slice Ao50 t125.length co50) ∧ w'.cell? ⟨gb102, 0, none⟩ = some (.int .i64 a2_0) ∧ w'.cell? ⟨gb102, 1, none⟩ = some (.int .i64 a2_1) ∧ w'.cell? ⟨gb102, 2, none⟩ = some (.int .i64 a2_2)) ∧ (Kd.R k34 34 w' w.heap.size (fun k_ => some k_ ≠ (.slice Ao51 t121.length co51 : Value).ownBlock) v106 t105) ∧ (Kd.R k108 108 w' w.heap.size (fun k_ => some k_ ≠ (.slice Ao39 t116.length co39 : Value).ownBlock ∧ some k_ ≠ (.slice Ao50 t125.length co50 : Value).ownBlock ∧ some k_ ≠ (s_.1 : Value).ownBlock) v110 t109) ∧ (Kd.R k108 108 w' w.heap.size (fun k_ => some k_ ≠ (v110 : Value).ownBlock ∧ some k_ ≠ (.slice Ao50 t125.length co50 : Value).ownBlock ∧ some k_ ≠ (s_.1 : Value).ownBlock) (.slice Ao39 t116.length co39) t116) ∧ (Kd.R k34 34 w' w.heap.size (fun k_ => some k_ ≠ (v106 : Value).ownBlock) (.slice Ao51 t121.length co51) t121) ∧ (Kd.R k108 108 w' w.heap.size (fun k_ => some k_ ≠ (v110 : Value).ownBlock ∧ some k_ ≠ (.slice Ao39 t116.length co39 : Value).ownBlock ∧ some k_ ≠ (s_.1 : Value).ownBlock) (.slice Ao50 t125.length co50) t125) ∧ (Kd.R k108 108 w' w.heap.size (fun k_ => some k_ ≠ (v110 : Value).ownBlock ∧ some k_ ≠ (.slice Ao39 t116.length co39 : Value).ownBlock ∧ some k_ ≠ (.slice Ao50 t125.length co50 : Value).ownBlock) s_.1 t133) ∧ (w'.heap[gb101]? = some (.cells #[.int .i64 a1_0, .slice A1_1 l1_1.length c1_1] 39 (0, 0))) ∧ (w'.heap[gb102]? = some (.cells #[.int .i64 a2_0, .int .i64 a2_1, .int .i64 a2_2] 69 (0, 0))) ∧ (w'.heap[gb120]? = some (.cells #[.int .i64 t115, .slice Ao39 t116.length co39] 46 (0, 0))) ∧ (w'.heap[gb128]? = some (.cells #[.int .i64 t124, .slice Ao50 t125.length co50] 46 (0, 0))) ∧ (w'.heap[s_.2]? = some (.cells #[.int .i64 0, .slice none 0 0] 46 (0, 0))) ∧ (w.heap.size ≤ s_.2) ∧ (w.heap.size ≤ s_.2) ∧ (gb101 ≠ s_.2) ∧ (s_.2 ≠ gb101) ∧ (gb102 ≠ s_.2) ∧ (s_.2 ≠ gb102) ∧ (gb120 ≠ s_.2) ∧ (s_.2 ≠ gb120) ∧ (gb128 ≠ s_.2) ∧ (s_.2 ≠ gb128) ∧ (Below w.heap.size w w')) ?_ ?_
   rotate_left
   ·intro hCont
    refine two_ (i := 3) (j := 8) (Ni := some 47) (Nj := some 12) (tf 4 7) (tr [3, 5, 1, 2]) rfl rfl rfl rfl (two_of HT_.out (by kernel_rfl)) (by decide) (by decide) (fun K hK => ?_) (fun K hK => ?_)
    ·skip
     refine goes_ Try.func45 (by kernel_rfl) rfl #[.agg #[.int .i64 a2_0, .int .i64 a2_1, .int .i64 a2_2]] (by rfl) rfl rfl MT ?_
     with_reducible refine (laws_toCall.calls a2_0 a2_1 a2_2 t129 t130 t131 _ A21.out).mono ?_
     rintro e w54 ⟨rfl, hb⟩
     refine ⟨_, rfl, ?_⟩
     replace HO107 := am (Kd.R_below (KR HO107) hb)
     replace HO111 := am (Kd.R_below (KR HO111) hb)
     replace HO118 := am (Kd.R_below (KR HO118) hb)
     replace HO123 := am (Kd.R_below (KR HO123) hb)
     replace HO127 := am (Kd.R_below (KR HO127) hb)
     replace BK101 := am (BB BK101 hb)
     replace BK102 := am (BB BK102 hb)
     replace BK120 := am (BB BK120 hb)
     replace BK128 := am (BB BK128 hb)
     replace HB := am (below_step (K4 HB GE101.out GE102.out GE120.out GE128.out) hb)
     (try clear hb)
     (try clear hb2)
     (try clear hk)
     (try clear hi)
     refine hK.out _ _ ⟨z0 _ BK128.out, z1 _ BK128.out, z0 _ BK102.out, z1 _ BK102.out, z2 _ BK102.out⟩ (fun hHeld => ?_)
     clear hK K
     refine norm_ (a' := ?_) ?_ ?_
     rotate_left
     ·show Act.put _ (some 47) _ = _
      simp only [Act.put, List.setIfInBounds_toArray, List.set_cons_zero, List.set_cons_succ, i64_w, i32_w]
      rfl
     refine two_ (i := 4) (j := 8) (Ni := some 48) (Nj := some 12) (tf 5 6) (tr [4, 4, 1, 2]) rfl rfl rfl rfl (two_of HT_.out (by kernel_rfl)) (by decide) (by decide) (fun K hK => ?_) (fun K hK => ?_)
     ·skip
      refine goes_ Try.func30 (by kernel_rfl) rfl #[.slice Ao51 t121.length co51, .agg #[.int .i64 t124, .slice Ao50 t125.length co50], .agg #[.int .i64 t129, .int .i64 t130, .int .i64 t131]] (by rfl) rfl rfl MT ?_
      with_reducible refine (impl_CacheFind.calls k _ _ t121 t124 _ _ t125 t129 t130 t131 t132 t133 t136 _ ?side1 ?side2 ?side3 ?side4 A22.out).mono ?_
      (case side1 => exact KC (Kd.R_reads' HO123.out).2.2)
      (case side2 => exact (Kd.R_reads' HO123.out).2.1)
      (case side3 => exact KC (Kd.R_reads' HO127.out).2.2)
      (case side4 => exact (Kd.R_reads' HO127.out).2.1)
      rintro e w55 ⟨v134, rfl, ho0, hb⟩
      refine ⟨_, rfl, ?_⟩
      replace HO107 := am (Kd.R_below (KR HO107) hb)
      replace HO123 := am (Kd.R_below (KR HO123) hb)
      have HO135 := am (Kd.R_lower (Kd.R_new' (Kd.R_new' (Kd.R_new' ho0 (Kd.R_lt (KR HO111))) (Kd.R_lt (KR HO118))) (Kd.R_lt (KR HO127))) (below_size (K4 HB GE101.out GE102.out GE120.out GE128.out)))
      replace HO111 := am (Kd.R_elder' (KR HO111) (Kd.R_base ho0) hb)
      replace HO118 := am (Kd.R_elder' (KR HO118) (Kd.R_base ho0) hb)
      replace HO127 := am (Kd.R_elder' (KR HO127) (Kd.R_base ho0) hb)
      replace BK101 := am (BB BK101 hb)
      replace BK102 := am (BB BK102 hb)
      replace BK120 := am (BB BK120 hb)
      replace BK128 := am (BB BK128 hb)
      replace HB := am (below_step (K4 HB GE101.out GE102.out GE120.out GE128.out) hb)
      (try clear hb)
      (try clear hb2)
      (try clear hk)
      (try clear hi)
      (try clear ho0)
      refine hK.out _ _ ⟨z0 _ BK128.out, z1 _ BK128.out, z0 _ BK102.out, z1 _ BK102.out, z2 _ BK102.out⟩ (fun hHeld => ?_)
      clear hK K
      refine norm_ (a' := ?_) ?_ ?_
      rotate_left
      ·show Act.put _ (some 48) _ = _
       simp only [Act.put, List.setIfInBounds_toArray, List.set_cons_zero, List.set_cons_succ, i64_w, i32_w]
       rfl
      refine pv HT_ 5 43 (tf 6 5) ?_
      refine pv HT_ 6 49 (tf 7 4) ?_
      refine pv HT_ 7 50 (tf 8 3) ?_
      refine one_ (i := 8) (N := some 12) (tf 9 2) rfl rfl (one_of HT_.out (by kernel_rfl)) (by decide) (fun K hK => ?_)
      refine box_step rfl (N := 12) rfl (cs := #[.int .i64 0, .slice none 0 0]) (t := 46) BX ?_
      intro gb137 hg w56 hbox hb
      replace HO107 := am (Kd.R_below (KR HO107) hb)
      replace HO111 := am (Kd.R_below (KR HO111) hb)
      replace HO118 := am (Kd.R_below (KR HO118) hb)
      replace HO123 := am (Kd.R_below (KR HO123) hb)
      replace HO127 := am (Kd.R_below (KR HO127) hb)
      replace HO135 := am (Kd.R_below (KR HO135) hb)
      have BK137 := am (hbox)
      have GW137 := am (GH4 HB GE101.out GE102.out GE120.out GE128.out hg)
      have GE137 := GW137
      replace HB := am (below_step (K4 HB GE101.out GE102.out GE120.out GE128.out) hb)
      have NB101_137 := am (NL BK101 hg)
      have NB137_101 := am (NG BK101 hg)
      replace BK101 := am (BB BK101 hb)
      have NB102_137 := am (NL BK102 hg)
      have NB137_102 := am (NG BK102 hg)
      replace BK102 := am (BB BK102 hb)
      have NB120_137 := am (NL BK120 hg)
      have NB137_120 := am (NG BK120 hg)
      replace BK120 := am (BB BK120 hb)
      have NB128_137 := am (NL BK128 hg)
      have NB137_128 := am (NG BK128 hg)
      replace BK128 := am (BB BK128 hb)
      clear hb hbox hg
      refine hK.out _ _ ⟨z0 _ BK128.out, z1 _ BK128.out, z0 _ BK102.out, z1 _ BK102.out, z2 _ BK102.out⟩ (fun hHeld => ?_)
      clear hK K
      refine norm_ (a' := ?_) ?_ ?_
      rotate_left
      ·show Act.put _ (some 12) _ = _
       simp only [Act.put, List.setIfInBounds_toArray, List.set_cons_zero, List.set_cons_succ, i64_w, i32_w]
       rfl
      exact norm_ (by simp only [putAll, Act.put, List.setIfInBounds_toArray, List.set_cons_zero, List.set_cons_succ]) (hCont (v134, gb137) _ ⟨hHeld, (KR HO107), (by (with_reducible repeat (first | apply Kd.R_alloc | apply Kd.R_drewN | apply Kd.R_drew)); exact Kd.R_mono HO111.out (fun _ hk => ⟨hk.1.1, ⟨hk.1.2, hk.2⟩⟩)), (by (with_reducible repeat (first | apply Kd.R_alloc | apply Kd.R_drewN | apply Kd.R_drew)); exact Kd.R_mono HO118.out (fun _ hk => ⟨hk.1.1, ⟨hk.1.2, hk.2⟩⟩)), (KR HO123), (by (with_reducible repeat (first | apply Kd.R_alloc | apply Kd.R_drewN | apply Kd.R_drew)); exact Kd.R_mono HO127.out (fun _ hk => ⟨hk.1.1, ⟨hk.1.2, hk.2⟩⟩)), (by (with_reducible repeat (first | apply Kd.R_alloc | apply Kd.R_drewN | apply Kd.R_drew)); exact Kd.R_mono HO135.out (fun _ hk => ⟨hk.1.1.2, ⟨hk.1.2, hk.2⟩⟩)), (KB BK101), (KB BK102), (KB BK120), (KB BK128), (KB BK137), GW137.out, GE137.out, NB101_137.out, NB137_101.out, NB102_137.out, NB137_102.out, NB120_137.out, NB137_120.out, NB128_137.out, NB137_128.out, (K5 HB GE101.out GE102.out GE120.out GE128.out GE137.out)⟩)
     ·skip
      refine box_step rfl (N := 12) rfl (cs := #[.int .i64 0, .slice none 0 0]) (t := 46) BX ?_
      intro gb137 hg w55 hbox hb
      replace HO107 := am (Kd.R_below (KR HO107) hb)
      replace HO111 := am (Kd.R_below (KR HO111) hb)
      replace HO118 := am (Kd.R_below (KR HO118) hb)
      replace HO123 := am (Kd.R_below (KR HO123) hb)
      replace HO127 := am (Kd.R_below (KR HO127) hb)
      have BK137 := am (hbox)
      have GW137 := am (GH4 HB GE101.out GE102.out GE120.out GE128.out hg)
      have GE137 := GW137
      replace HB := am (below_step (K4 HB GE101.out GE102.out GE120.out GE128.out) hb)
      have NB101_137 := am (NL BK101 hg)
      have NB137_101 := am (NG BK101 hg)
      replace BK101 := am (BB BK101 hb)
      have NB102_137 := am (NL BK102 hg)
      have NB137_102 := am (NG BK102 hg)
      replace BK102 := am (BB BK102 hb)
      have NB120_137 := am (NL BK120 hg)
      have NB137_120 := am (NG BK120 hg)
      replace BK120 := am (BB BK120 hb)
      have NB128_137 := am (NL BK128 hg)
      have NB137_128 := am (NG BK128 hg)
      replace BK128 := am (BB BK128 hb)
      clear hb hbox hg
      refine hK.out _ _ ⟨z0 _ BK128.out, z1 _ BK128.out, z0 _ BK102.out, z1 _ BK102.out, z2 _ BK102.out⟩ (fun hHeld => ?_)
      clear hK K
      refine norm_ (a' := ?_) ?_ ?_
      rotate_left
      ·show Act.put _ (some 12) _ = _
       simp only [Act.put, List.setIfInBounds_toArray, List.set_cons_zero, List.set_cons_succ, i64_w, i32_w]
       rfl
      refine one_ (i := 4) (N := some 48) (tr [5, 3, 1, 2]) rfl rfl (one_of HT_.out (by kernel_rfl)) (by decide) (fun K hK => ?_)
      refine goes_ Try.func30 (by kernel_rfl) rfl #[.slice Ao51 t121.length co51, .agg #[.int .i64 t124, .slice Ao50 t125.length co50], .agg #[.int .i64 t129, .int .i64 t130, .int .i64 t131]] (by rfl) rfl rfl MT ?_
      with_reducible refine (impl_CacheFind.calls k _ _ t121 t124 _ _ t125 t129 t130 t131 t132 t133 t136 _ ?side1 ?side2 ?side3 ?side4 A22.out).mono ?_
      (case side1 => exact KC (Kd.R_reads' HO123.out).2.2)
      (case side2 => exact (Kd.R_reads' HO123.out).2.1)
      (case side3 => exact KC (Kd.R_reads' HO127.out).2.2)
      (case side4 => exact (Kd.R_reads' HO127.out).2.1)
      rintro e w56 ⟨v134, rfl, ho0, hb⟩
      refine ⟨_, rfl, ?_⟩
      replace HO107 := am (Kd.R_below (KR HO107) hb)
      replace HO123 := am (Kd.R_below (KR HO123) hb)
      have HO135 := am (Kd.R_lower (Kd.R_new' (Kd.R_new' (Kd.R_new' ho0 (Kd.R_lt (KR HO111))) (Kd.R_lt (KR HO118))) (Kd.R_lt (KR HO127))) (below_size (K5 HB GE101.out GE102.out GE120.out GE128.out GE137.out)))
      replace HO111 := am (Kd.R_elder' (KR HO111) (Kd.R_base ho0) hb)
      replace HO118 := am (Kd.R_elder' (KR HO118) (Kd.R_base ho0) hb)
      replace HO127 := am (Kd.R_elder' (KR HO127) (Kd.R_base ho0) hb)
      replace BK101 := am (BB BK101 hb)
      replace BK102 := am (BB BK102 hb)
      replace BK120 := am (BB BK120 hb)
      replace BK128 := am (BB BK128 hb)
      replace BK137 := am (BB BK137 hb)
      replace HB := am (below_step (K5 HB GE101.out GE102.out GE120.out GE128.out GE137.out) hb)
      (try clear hb)
      (try clear hb2)
      (try clear hk)
      (try clear hi)
      (try clear ho0)
      refine hK.out _ _ ⟨z0 _ BK128.out, z1 _ BK128.out, z0 _ BK102.out, z1 _ BK102.out, z2 _ BK102.out⟩ (fun hHeld => ?_)
      clear hK K
      refine norm_ (a' := ?_) ?_ ?_
      rotate_left
      ·show Act.put _ (some 48) _ = _
       simp only [Act.put, List.setIfInBounds_toArray, List.set_cons_zero, List.set_cons_succ, i64_w, i32_w]
       rfl
      refine pv HT_ 5 43 (tr [6, 2, 1, 2]) ?_
      refine pv HT_ 6 49 (tr [7, 1, 1, 2]) ?_
      refine pv HT_ 7 50 (tf 9 2) ?_
      exact norm_ (by simp only [putAll, Act.put, List.setIfInBounds_toArray, List.set_cons_zero, List.set_cons_succ]) (hCont (v134, gb137) _ ⟨hHeld, (KR HO107), (by (with_reducible repeat (first | apply Kd.R_alloc | apply Kd.R_drewN | apply Kd.R_drew)); exact Kd.R_mono HO111.out (fun _ hk => ⟨hk.1.1, ⟨hk.1.2, hk.2⟩⟩)), (by (with_reducible repeat (first | apply Kd.R_alloc | apply Kd.R_drewN | apply Kd.R_drew)); exact Kd.R_mono HO118.out (fun _ hk => ⟨hk.1.1, ⟨hk.1.2, hk.2⟩⟩)), (KR HO123), (by (with_reducible repeat (first | apply Kd.R_alloc | apply Kd.R_drewN | apply Kd.R_drew)); exact Kd.R_mono HO127.out (fun _ hk => ⟨hk.1.1, ⟨hk.1.2, hk.2⟩⟩)), (by (with_reducible repeat (first | apply Kd.R_alloc | apply Kd.R_drewN | apply Kd.R_drew)); exact Kd.R_mono HO135.out (fun _ hk => ⟨hk.1.1.2, ⟨hk.1.2, hk.2⟩⟩)), (KB BK101), (KB BK102), (KB BK120), (KB BK128), (KB BK137), GW137.out, GE137.out, NB101_137.out, NB137_101.out, NB102_137.out, NB137_102.out, NB120_137.out, NB137_120.out, NB128_137.out, NB137_128.out, (K5 HB GE101.out GE102.out GE120.out GE128.out GE137.out)⟩)
    ·skip
     refine box_step rfl (N := 12) rfl (cs := #[.int .i64 0, .slice none 0 0]) (t := 46) BX ?_
     intro gb137 hg w54 hbox hb
     replace HO107 := am (Kd.R_below (KR HO107) hb)
     replace HO111 := am (Kd.R_below (KR HO111) hb)
     replace HO118 := am (Kd.R_below (KR HO118) hb)
     replace HO123 := am (Kd.R_below (KR HO123) hb)
     replace HO127 := am (Kd.R_below (KR HO127) hb)
     have BK137 := am (hbox)
     have GW137 := am (GH4 HB GE101.out GE102.out GE120.out GE128.out hg)
     have GE137 := GW137
     replace HB := am (below_step (K4 HB GE101.out GE102.out GE120.out GE128.out) hb)
     have NB101_137 := am (NL BK101 hg)
     have NB137_101 := am (NG BK101 hg)
     replace BK101 := am (BB BK101 hb)
     have NB102_137 := am (NL BK102 hg)
     have NB137_102 := am (NG BK102 hg)
     replace BK102 := am (BB BK102 hb)
     have NB120_137 := am (NL BK120 hg)
     have NB137_120 := am (NG BK120 hg)
     replace BK120 := am (BB BK120 hb)
     have NB128_137 := am (NL BK128 hg)
     have NB137_128 := am (NG BK128 hg)
     replace BK128 := am (BB BK128 hb)
     clear hb hbox hg
     refine hK.out _ _ ⟨z0 _ BK128.out, z1 _ BK128.out, z0 _ BK102.out, z1 _ BK102.out, z2 _ BK102.out⟩ (fun hHeld => ?_)
     clear hK K
     refine norm_ (a' := ?_) ?_ ?_
     rotate_left
     ·show Act.put _ (some 12) _ = _
      simp only [Act.put, List.setIfInBounds_toArray, List.set_cons_zero, List.set_cons_succ, i64_w, i32_w]
      rfl
     refine one_ (i := 3) (N := some 47) (tr [4, 4, 1, 2]) rfl rfl (one_of HT_.out (by kernel_rfl)) (by decide) (fun K hK => ?_)
     refine goes_ Try.func45 (by kernel_rfl) rfl #[.agg #[.int .i64 a2_0, .int .i64 a2_1, .int .i64 a2_2]] (by rfl) rfl rfl MT ?_
     with_reducible refine (laws_toCall.calls a2_0 a2_1 a2_2 t129 t130 t131 _ A21.out).mono ?_
     rintro e w55 ⟨rfl, hb⟩
     refine ⟨_, rfl, ?_⟩
     replace HO107 := am (Kd.R_below (KR HO107) hb)
     replace HO111 := am (Kd.R_below (KR HO111) hb)
     replace HO118 := am (Kd.R_below (KR HO118) hb)
     replace HO123 := am (Kd.R_below (KR HO123) hb)
     replace HO127 := am (Kd.R_below (KR HO127) hb)
     replace BK101 := am (BB BK101 hb)
     replace BK102 := am (BB BK102 hb)
     replace BK120 := am (BB BK120 hb)
     replace BK128 := am (BB BK128 hb)
     replace BK137 := am (BB BK137 hb)
     replace HB := am (below_step (K5 HB GE101.out GE102.out GE120.out GE128.out GE137.out) hb)
     (try clear hb)
     (try clear hb2)
     (try clear hk)
     (try clear hi)
     refine hK.out _ _ ⟨z0 _ BK128.out, z1 _ BK128.out, z0 _ BK102.out, z1 _ BK102.out, z2 _ BK102.out⟩ (fun hHeld => ?_)
     clear hK K
     refine norm_ (a' := ?_) ?_ ?_
     rotate_left
     ·show Act.put _ (some 47) _ = _
      simp only [Act.put, List.setIfInBounds_toArray, List.set_cons_zero, List.set_cons_succ, i64_w, i32_w]
      rfl
     refine one_ (i := 4) (N := some 48) (tr [5, 3, 1, 2]) rfl rfl (one_of HT_.out (by kernel_rfl)) (by decide) (fun K hK => ?_)
     refine goes_ Try.func30 (by kernel_rfl) rfl #[.slice Ao51 t121.length co51, .agg #[.int .i64 t124, .slice Ao50 t125.length co50], .agg #[.int .i64 t129, .int .i64 t130, .int .i64 t131]] (by rfl) rfl rfl MT ?_
     with_reducible refine (impl_CacheFind.calls k _ _ t121 t124 _ _ t125 t129 t130 t131 t132 t133 t136 _ ?side1 ?side2 ?side3 ?side4 A22.out).mono ?_
     (case side1 => exact KC (Kd.R_reads' HO123.out).2.2)
     (case side2 => exact (Kd.R_reads' HO123.out).2.1)
     (case side3 => exact KC (Kd.R_reads' HO127.out).2.2)
     (case side4 => exact (Kd.R_reads' HO127.out).2.1)
     rintro e w56 ⟨v134, rfl, ho0, hb⟩
     refine ⟨_, rfl, ?_⟩
     replace HO107 := am (Kd.R_below (KR HO107) hb)
     replace HO123 := am (Kd.R_below (KR HO123) hb)
     have HO135 := am (Kd.R_lower (Kd.R_new' (Kd.R_new' (Kd.R_new' ho0 (Kd.R_lt (KR HO111))) (Kd.R_lt (KR HO118))) (Kd.R_lt (KR HO127))) (below_size (K5 HB GE101.out GE102.out GE120.out GE128.out GE137.out)))
     replace HO111 := am (Kd.R_elder' (KR HO111) (Kd.R_base ho0) hb)
     replace HO118 := am (Kd.R_elder' (KR HO118) (Kd.R_base ho0) hb)
     replace HO127 := am (Kd.R_elder' (KR HO127) (Kd.R_base ho0) hb)
     replace BK101 := am (BB BK101 hb)
     replace BK102 := am (BB BK102 hb)
     replace BK120 := am (BB BK120 hb)
     replace BK128 := am (BB BK128 hb)
     replace BK137 := am (BB BK137 hb)
     replace HB := am (below_step (K5 HB GE101.out GE102.out GE120.out GE128.out GE137.out) hb)
     (try clear hb)
     (try clear hb2)
     (try clear hk)
     (try clear hi)
     (try clear ho0)
     refine hK.out _ _ ⟨z0 _ BK128.out, z1 _ BK128.out, z0 _ BK102.out, z1 _ BK102.out, z2 _ BK102.out⟩ (fun hHeld => ?_)
     clear hK K
     refine norm_ (a' := ?_) ?_ ?_
     rotate_left
     ·show Act.put _ (some 48) _ = _
      simp only [Act.put, List.setIfInBounds_toArray, List.set_cons_zero, List.set_cons_succ, i64_w, i32_w]
      rfl
     refine pv HT_ 5 43 (tr [6, 2, 1, 2]) ?_
     refine pv HT_ 6 49 (tr [7, 1, 1, 2]) ?_
     refine pv HT_ 7 50 (tf 9 2) ?_
     exact norm_ (by simp only [putAll, Act.put, List.setIfInBounds_toArray, List.set_cons_zero, List.set_cons_succ]) (hCont (v134, gb137) _ ⟨hHeld, (KR HO107), (by (with_reducible repeat (first | apply Kd.R_alloc | apply Kd.R_drewN | apply Kd.R_drew)); exact Kd.R_mono HO111.out (fun _ hk => ⟨hk.1.1, ⟨hk.1.2, hk.2⟩⟩)), (by (with_reducible repeat (first | apply Kd.R_alloc | apply Kd.R_drewN | apply Kd.R_drew)); exact Kd.R_mono HO118.out (fun _ hk => ⟨hk.1.1, ⟨hk.1.2, hk.2⟩⟩)), (KR HO123), (by (with_reducible repeat (first | apply Kd.R_alloc | apply Kd.R_drewN | apply Kd.R_drew)); exact Kd.R_mono HO127.out (fun _ hk => ⟨hk.1.1, ⟨hk.1.2, hk.2⟩⟩)), (by (with_reducible repeat (first | apply Kd.R_alloc | apply Kd.R_drewN | apply Kd.R_drew)); exact Kd.R_mono HO135.out (fun _ hk => ⟨hk.1.1.2, ⟨hk.1.2, hk.2⟩⟩)), (KB BK101), (KB BK102), (KB BK120), (KB BK128), (KB BK137), GW137.out, GE137.out, NB101_137.out, NB137_101.out, NB102_137.out, NB137_102.out, NB120_137.out, NB137_120.out, NB128_137.out, NB137_128.out, (K5 HB GE101.out GE102.out GE120.out GE128.out GE137.out)⟩)
   rintro ⟨v134, gb137⟩ w57 ⟨hS_, h0_, h1_, h2_, h3_, h4_, h5_, h6_, h7_, h8_, h9_, h10_, h11_, h12_, h13_, h14_, h15_, h16_, h17_, h18_, h19_, h20_, h21_⟩
   replace HO107 : Aside0 (Kd.R k34 34 w57 w.heap.size (fun k_ => some k_ ≠ (.slice Ao51 t121.length co51 : Value).ownBlock) v106 t105) := ⟨h0_⟩
   replace HO111 : Aside0 (Kd.R k108 108 w57 w.heap.size (fun k_ => some k_ ≠ (.slice Ao39 t116.length co39 : Value).ownBlock ∧ some k_ ≠ (.slice Ao50 t125.length co50 : Value).ownBlock ∧ some k_ ≠ (v134 : Value).ownBlock) v110 t109) := ⟨h1_⟩
   replace HO118 : Aside0 (Kd.R k108 108 w57 w.heap.size (fun k_ => some k_ ≠ (v110 : Value).ownBlock ∧ some k_ ≠ (.slice Ao50 t125.length co50 : Value).ownBlock ∧ some k_ ≠ (v134 : Value).ownBlock) (.slice Ao39 t116.length co39) t116) := ⟨h2_⟩
   replace HO123 : Aside0 (Kd.R k34 34 w57 w.heap.size (fun k_ => some k_ ≠ (v106 : Value).ownBlock) (.slice Ao51 t121.length co51) t121) := ⟨h3_⟩
   replace HO127 : Aside0 (Kd.R k108 108 w57 w.heap.size (fun k_ => some k_ ≠ (v110 : Value).ownBlock ∧ some k_ ≠ (.slice Ao39 t116.length co39 : Value).ownBlock ∧ some k_ ≠ (v134 : Value).ownBlock) (.slice Ao50 t125.length co50) t125) := ⟨h4_⟩
   have HO135 : Aside0 (Kd.R k108 108 w57 w.heap.size (fun k_ => some k_ ≠ (v110 : Value).ownBlock ∧ some k_ ≠ (.slice Ao39 t116.length co39 : Value).ownBlock ∧ some k_ ≠ (.slice Ao50 t125.length co50 : Value).ownBlock) v134 t133) := ⟨h5_⟩
   replace BK101 : Aside0 (bk w57 gb101 #[.int .i64 a1_0, .slice A1_1 l1_1.length c1_1] 39) := ⟨h6_⟩
   replace BK102 : Aside0 (bk w57 gb102 #[.int .i64 a2_0, .int .i64 a2_1, .int .i64 a2_2] 69) := ⟨h7_⟩
   replace BK120 : Aside0 (bk w57 gb120 #[.int .i64 t115, .slice Ao39 t116.length co39] 46) := ⟨h8_⟩
   replace BK128 : Aside0 (bk w57 gb128 #[.int .i64 t124, .slice Ao50 t125.length co50] 46) := ⟨h9_⟩
   have BK137 : Aside0 (bk w57 gb137 #[.int .i64 0, .slice none 0 0] 46) := ⟨h10_⟩
   have GW137 : Aside0 (w.heap.size ≤ gb137) := ⟨h11_⟩
   have GE137 : Aside0 (w.heap.size ≤ gb137) := ⟨h12_⟩
   have NB101_137 : Aside0 (gb101 ≠ gb137) := ⟨h13_⟩
   have NB137_101 : Aside0 (gb137 ≠ gb101) := ⟨h14_⟩
   have NB102_137 : Aside0 (gb102 ≠ gb137) := ⟨h15_⟩
   have NB137_102 : Aside0 (gb137 ≠ gb102) := ⟨h16_⟩
   have NB120_137 : Aside0 (gb120 ≠ gb137) := ⟨h17_⟩
   have NB137_120 : Aside0 (gb137 ≠ gb120) := ⟨h18_⟩
   have NB128_137 : Aside0 (gb128 ≠ gb137) := ⟨h19_⟩
   have NB137_128 : Aside0 (gb137 ≠ gb128) := ⟨h20_⟩
   replace HB : Aside0 (Below w.heap.size w w57) := ⟨h21_⟩
   clear h0_ h1_ h2_ h3_ h4_ h5_ h6_ h7_ h8_ h9_ h10_ h11_ h12_ h13_ h14_ h15_ h16_ h17_ h18_ h19_ h20_ h21_
   have hHeld : ce2 w57 gb128 (.int .i64 t124) (.slice Ao50 t125.length co50) (de3 w57 gb102 (.int .i64 a2_0) (.int .i64 a2_1) (.int .i64 a2_2)) := hS_
   obtain ⟨Ao59, co59, eo59⟩ := Kd.R_slice HO135.out
   (first | subst eo59 | (injection eo59 with f1_ f2_ f3_; have f4_ := f1_.symm; have f5_ := f3_.symm; clear f1_ f2_ f3_; subst f4_; subst f5_))
   refine norm_ (a' := ?_) ?_ ?_
   rotate_left
   ·simp only [putAll, Act.put, List.setIfInBounds_toArray, List.set_cons_zero, List.set_cons_succ]
    rfl
   refine one_ (i := 9) (N := none) (tf 10 1) rfl rfl (one_of HT_.out (by kernel_rfl)) (by decide) (fun K hK => ?_)
   have hs58 : w57.cell? ⟨gb137, 0, none⟩ = some (.int .i64 0) := z0 _ BK137.out
   have hfs58 := blk_frozen BK137.out 0
   have hns58_0 := NB101_137.out
   have hns58_1 := NB102_137.out
   have hns58_2 := NB120_137.out
   have hns58_3 := NB128_137.out
   have hms58_0 := NB137_101.out
   have hms58_1 := NB137_102.out
   have hms58_2 := NB137_120.out
   have hms58_3 := NB137_128.out
   have hs60 : w57.cell? ⟨gb137, 1, none⟩ = some (.slice none 0 0) := z1 _ BK137.out
   have hfs60 := blk_frozen BK137.out 1
   have hns60_0 := NB101_137.out
   have hns60_1 := NB102_137.out
   have hns60_2 := NB120_137.out
   have hns60_3 := NB128_137.out
   have hms60_0 := NB137_101.out
   have hms60_1 := NB137_102.out
   have hms60_2 := NB137_120.out
   have hms60_3 := NB137_128.out
   refine skip_ (w1 := ?_) (by rfl) rfl ?_ ?_
   rotate_left
   ·go_simp
    rfl
   refine hK.out _ _ ⟨((cell_far (p := ⟨gb137, _, none⟩) NB128_137.out _).trans (((cell_far (p := ⟨gb137, _, none⟩) NB128_137.out _).trans (hHeld.1)))), ((cell_far (p := ⟨gb137, _, none⟩) NB128_137.out _).trans (((cell_far (p := ⟨gb137, _, none⟩) NB128_137.out _).trans (hHeld.2.1)))), ((cell_far (p := ⟨gb137, _, none⟩) NB102_137.out _).trans (((cell_far (p := ⟨gb137, _, none⟩) NB102_137.out _).trans (hHeld.2.2.1)))), ((cell_far (p := ⟨gb137, _, none⟩) NB102_137.out _).trans (((cell_far (p := ⟨gb137, _, none⟩) NB102_137.out _).trans (hHeld.2.2.2.1)))), ((cell_far (p := ⟨gb137, _, none⟩) NB102_137.out _).trans (((cell_far (p := ⟨gb137, _, none⟩) NB102_137.out _).trans (hHeld.2.2.2.2))))⟩ (fun hHeld => ?_)
   clear hK K
   refine pv HT_ 10 13 (tf 11 0) ?_
   refine done_ (done_of HT_.out (by kernel_rfl)) ?_
   go_upto_region 12 with (fail)
   go_cut [59] (fun v59 wc => ∃ (kq : Nat) (x59_22 : Bool), v59 = .bool x59_22 ∧ Aside0 (laws_FnExactCacheFind.j0 kq l0 t119 t121 t136 x59_22 a1_0 l1_1 a2_0 a2_1 a2_2 t115 t116 t124 t125 t132 t133 = some r) ∧ Aside0 (kq ≤ k) ∧ Aside0 (Kd.R k34 34 wc w.heap.size (fun _ => True) (.slice Ao51 t121.length co51) t121) ∧ Aside0 (Kd.R k108 108 wc w.heap.size (fun k_ => some k_ ≠ ((.slice Ao50 t125.length co50) : Value).ownBlock ∧ some k_ ≠ ((.slice Ao59 t133.length co59) : Value).ownBlock) (.slice Ao39 t116.length co39) t116) ∧ Aside0 (Kd.R k108 108 wc w.heap.size (fun k_ => some k_ ≠ ((.slice Ao39 t116.length co39) : Value).ownBlock ∧ some k_ ≠ ((.slice Ao59 t133.length co59) : Value).ownBlock) (.slice Ao50 t125.length co50) t125) ∧ Aside0 (Kd.R k108 108 wc w.heap.size (fun k_ => some k_ ≠ ((.slice Ao39 t116.length co39) : Value).ownBlock ∧ some k_ ≠ ((.slice Ao50 t125.length co50) : Value).ownBlock) (.slice Ao59 t133.length co59) t133) ∧ Aside0 (wc.heap[gb101]? = some (.cells #[.int .i64 a1_0, (.slice A1_1 l1_1.length c1_1)] 39 (0, 0))) ∧ Aside0 (wc.heap[gb102]? = some (.cells #[.int .i64 a2_0, .int .i64 a2_1, .int .i64 a2_2] 69 (0, 0))) ∧ Aside0 (wc.heap[gb120]? = some (.cells #[.int .i64 t115, (.slice Ao39 t116.length co39)] 46 (0, 0))) ∧ Aside0 (wc.heap[gb128]? = some (.cells #[.int .i64 t124, (.slice Ao50 t125.length co50)] 46 (0, 0))) ∧ Aside0 (wc.heap[gb137]? = some (.cells #[.int .i64 t132, (.slice Ao59 t133.length co59)] 46 (0, 0))) ∧ Aside0 (Below w.heap.size w wc))
   case first =>
    have H := HC23.out
    clear HC23
    replace H := Option.bind_eq_some_iff.mp H
    obtain ⟨t138, A610, H⟩ := H
    replace H : (if t138 = true then (laws_FnExactCacheFind.j0 k l0 t119 t121 t136 (t136 != t119) a1_0 l1_1 a2_0 a2_1 a2_2 t115 t116 t124 t125 t132 t133) else (laws_FnExactCacheFind.j0 k l0 t119 t121 t136 true a1_0 l1_1 a2_0 a2_1 a2_2 t115 t116 t124 t125 t132 t133)) = some r := H
    have A61 := Aside0.mk A610
    clear A610
    by_cases c62 : t138 = true
    ·subst c62
     have H1 : (laws_FnExactCacheFind.j0 k l0 t119 t121 t136 (t136 != t119) a1_0 l1_1 a2_0 a2_1 a2_2 t115 t116 t124 t125 t132 t133) = some r := by rw [if_pos rfl] at H; exact H
     clear H
     have H := H1
     clear H1
     have H' := Aside0.mk H
     clear H
     have hnb63 := NB137_101.out
     have hnc63 := NB101_137.out
     have hnb64 := NB137_102.out
     have hnc64 := NB102_137.out
     have hnb65 := NB137_120.out
     have hnc65 := NB120_137.out
     have hnb66 := NB137_128.out
     have hnc66 := NB128_137.out
     obtain ⟨hcz67_0, hcz67_1, hfz67_0⟩ := y2 w57 BK137.out
     have hnb68 := NB120_101.out
     have hnc68 := NB101_120.out
     have hnb69 := NB120_102.out
     have hnc69 := NB102_120.out
     have hnb70 := NB120_128.out
     have hnc70 := NB128_120.out
     obtain ⟨hcz71_0, hcz71_1, hfz71_0⟩ := y2 w57 BK120.out
     go_wp2_with (first | ((with_reducible refine gate_callee (f := 28) rfl ?_); refine goesL_ (some 53) rfl rfl Try.func28 (by kernel_rfl) rfl #[.agg #[.int .i64 t132, .slice Ao59 t133.length co59], .agg #[.int .i64 t115, .slice Ao39 t116.length co39]] rfl MT ?_; (with_reducible refine (laws_eqCache.calls k t132 _ _ t133 t115 _ _ t116 true _ ?side1 ?side2 ?side3 ?side4 A61.out).mono ?_); (case side1 => refine (Kd.R_reads' (e := 108) (base := w.heap.size) (ok := fun k_ => (some k_ ≠ (v110 : Value).ownBlock ∧ (some k_ ≠ (.slice Ao39 t116.length co39 : Value).ownBlock ∧ some k_ ≠ (.slice Ao50 t125.length co50 : Value).ownBlock))) (n := t133.length) (c := co59) ?_).2.2; exact (by (with_reducible repeat (first | apply Kd.R_alloc | apply Kd.R_drewN | apply Kd.R_drew)); exact (Kd.R_mono (Kd.R_far (p := ⟨gb137, 1, none⟩) (Kd.R_far (p := ⟨gb137, 0, none⟩) (Kd.R_types HO135.out BK137.out (by decide)) (fun _ hk => hk.2) (.int .i64 t132)) (fun _ hk => hk.2) (.slice Ao59 t133.length co59)) (fun _ h_ => h_.1)))); (case side2 => exact (Kd.R_reads' HO135.out).2.1); (case side3 => refine (Kd.R_reads' (e := 108) (base := w.heap.size) (ok := fun k_ => (some k_ ≠ (v110 : Value).ownBlock ∧ (some k_ ≠ (.slice Ao50 t125.length co50 : Value).ownBlock ∧ some k_ ≠ (.slice Ao59 t133.length co59 : Value).ownBlock))) (n := t116.length) (c := co39) ?_).2.2; exact (by (with_reducible repeat (first | apply Kd.R_alloc | apply Kd.R_drewN | apply Kd.R_drew)); exact (Kd.R_mono (Kd.R_far (p := ⟨gb137, 1, none⟩) (Kd.R_far (p := ⟨gb137, 0, none⟩) (Kd.R_types HO118.out BK137.out (by decide)) (fun _ hk => hk.2) (.int .i64 t132)) (fun _ hk => hk.2) (.slice Ao59 t133.length co59)) (fun _ h_ => h_.1)))); (case side4 => exact (Kd.R_reads' HO118.out).2.1); rintro e w72 ⟨rfl, hb⟩; refine ⟨_, rfl, ?_⟩; replace HO107 := am (Kd.R_below (by (with_reducible repeat (first | apply Kd.R_alloc | apply Kd.R_drewN | apply Kd.R_drew)); exact (Kd.R_mono (Kd.R_far (p := ⟨gb137, 1, none⟩) (Kd.R_far (p := ⟨gb137, 0, none⟩) (Kd.R_types HO107.out BK137.out (by decide)) (fun _ hk => hk.2) (.int .i64 t132)) (fun _ hk => hk.2) (.slice Ao59 t133.length co59)) (fun _ h_ => h_.1))) hb); replace HO111 := am (Kd.R_below (by (with_reducible repeat (first | apply Kd.R_alloc | apply Kd.R_drewN | apply Kd.R_drew)); exact (Kd.R_mono (Kd.R_far (p := ⟨gb137, 1, none⟩) (Kd.R_far (p := ⟨gb137, 0, none⟩) (Kd.R_types HO111.out BK137.out (by decide)) (fun _ hk => hk.2) (.int .i64 t132)) (fun _ hk => hk.2) (.slice Ao59 t133.length co59)) (fun _ h_ => h_.1))) hb); replace HO118 := am (Kd.R_below (by (with_reducible repeat (first | apply Kd.R_alloc | apply Kd.R_drewN | apply Kd.R_drew)); exact (Kd.R_mono (Kd.R_far (p := ⟨gb137, 1, none⟩) (Kd.R_far (p := ⟨gb137, 0, none⟩) (Kd.R_types HO118.out BK137.out (by decide)) (fun _ hk => hk.2) (.int .i64 t132)) (fun _ hk => hk.2) (.slice Ao59 t133.length co59)) (fun _ h_ => h_.1))) hb); replace HO123 := am (Kd.R_below (by (with_reducible repeat (first | apply Kd.R_alloc | apply Kd.R_drewN | apply Kd.R_drew)); exact (Kd.R_mono (Kd.R_far (p := ⟨gb137, 1, none⟩) (Kd.R_far (p := ⟨gb137, 0, none⟩) (Kd.R_types HO123.out BK137.out (by decide)) (fun _ hk => hk.2) (.int .i64 t132)) (fun _ hk => hk.2) (.slice Ao59 t133.length co59)) (fun _ h_ => h_.1))) hb); replace HO127 := am (Kd.R_below (by (with_reducible repeat (first | apply Kd.R_alloc | apply Kd.R_drewN | apply Kd.R_drew)); exact (Kd.R_mono (Kd.R_far (p := ⟨gb137, 1, none⟩) (Kd.R_far (p := ⟨gb137, 0, none⟩) (Kd.R_types HO127.out BK137.out (by decide)) (fun _ hk => hk.2) (.int .i64 t132)) (fun _ hk => hk.2) (.slice Ao59 t133.length co59)) (fun _ h_ => h_.1))) hb); replace HO135 := am (Kd.R_below (by (with_reducible repeat (first | apply Kd.R_alloc | apply Kd.R_drewN | apply Kd.R_drew)); exact (Kd.R_mono (Kd.R_far (p := ⟨gb137, 1, none⟩) (Kd.R_far (p := ⟨gb137, 0, none⟩) (Kd.R_types HO135.out BK137.out (by decide)) (fun _ hk => hk.2) (.int .i64 t132)) (fun _ hk => hk.2) (.slice Ao59 t133.length co59)) (fun _ h_ => h_.1))) hb); replace BK101 := am (blk_below (g := gb101) (o := .cells #[.int .i64 a1_0, .slice A1_1 l1_1.length c1_1] 39 (0, 0)) (by (with_reducible repeat (first | refine blk_drewN ?_ _ | refine blk_drew ?_ | refine blk_alloc ?_ _)); refine blk_far ?_ NB101_137.out _; (with_reducible repeat (first | refine blk_drewN ?_ _ | refine blk_drew ?_ | refine blk_alloc ?_ _)); refine blk_far ?_ NB101_137.out _; (with_reducible repeat (first | refine blk_drewN ?_ _ | refine blk_drew ?_ | refine blk_alloc ?_ _)); exact BK101.out) hb); replace BK102 := am (blk_below (g := gb102) (o := .cells #[.int .i64 a2_0, .int .i64 a2_1, .int .i64 a2_2] 69 (0, 0)) (by (with_reducible repeat (first | refine blk_drewN ?_ _ | refine blk_drew ?_ | refine blk_alloc ?_ _)); refine blk_far ?_ NB102_137.out _; (with_reducible repeat (first | refine blk_drewN ?_ _ | refine blk_drew ?_ | refine blk_alloc ?_ _)); refine blk_far ?_ NB102_137.out _; (with_reducible repeat (first | refine blk_drewN ?_ _ | refine blk_drew ?_ | refine blk_alloc ?_ _)); exact BK102.out) hb); replace BK120 := am (blk_below (g := gb120) (o := .cells #[.int .i64 t115, .slice Ao39 t116.length co39] 46 (0, 0)) (by (with_reducible repeat (first | refine blk_drewN ?_ _ | refine blk_drew ?_ | refine blk_alloc ?_ _)); refine blk_far ?_ NB120_137.out _; (with_reducible repeat (first | refine blk_drewN ?_ _ | refine blk_drew ?_ | refine blk_alloc ?_ _)); refine blk_far ?_ NB120_137.out _; (with_reducible repeat (first | refine blk_drewN ?_ _ | refine blk_drew ?_ | refine blk_alloc ?_ _)); exact BK120.out) hb); replace BK128 := am (blk_below (g := gb128) (o := .cells #[.int .i64 t124, .slice Ao50 t125.length co50] 46 (0, 0)) (by (with_reducible repeat (first | refine blk_drewN ?_ _ | refine blk_drew ?_ | refine blk_alloc ?_ _)); refine blk_far ?_ NB128_137.out _; (with_reducible repeat (first | refine blk_drewN ?_ _ | refine blk_drew ?_ | refine blk_alloc ?_ _)); refine blk_far ?_ NB128_137.out _; (with_reducible repeat (first | refine blk_drewN ?_ _ | refine blk_drew ?_ | refine blk_alloc ?_ _)); exact BK128.out) hb); replace BK137 := am (blk_below (g := gb137) (o := .cells #[.int .i64 t132, .slice Ao59 t133.length co59] 46 (0, 0)) (by (with_reducible repeat (first | refine blk_drewN ?_ _ | refine blk_drew ?_ | refine blk_alloc ?_ _)); refine blk_put (cs := #[.int .i64 t132, .slice none 0 0]) ?_ 1 _ rfl; (with_reducible repeat (first | refine blk_drewN ?_ _ | refine blk_drew ?_ | refine blk_alloc ?_ _)); refine blk_put (cs := #[.int .i64 0, .slice none 0 0]) ?_ 0 _ rfl; (with_reducible repeat (first | refine blk_drewN ?_ _ | refine blk_drew ?_ | refine blk_alloc ?_ _)); exact BK137.out) hb); replace HB := am (below_step (K5 HB GE101.out GE102.out GE120.out GE128.out GE137.out) hb); (try clear hb); (try clear hb2); (try clear hk); (try clear hi)))
     go_meet
     case rel => exact ⟨_, ((t136 != t119)), (by first | rfl | (simp; done) | (simp [*]; done)), H', ⟨by first | omega | exact Nat.le_refl _⟩, ⟨by (with_reducible repeat (first | apply Kd.R_alloc | apply Kd.R_drewN | apply Kd.R_drew)); exact Kd.R_mono HO123.out (fun _ hk => trivial)⟩, ⟨by (with_reducible repeat (first | apply Kd.R_alloc | apply Kd.R_drewN | apply Kd.R_drew)); exact Kd.R_mono HO118.out (fun _ hk => ⟨hk.2.1, hk.2.2⟩)⟩, ⟨by (with_reducible repeat (first | apply Kd.R_alloc | apply Kd.R_drewN | apply Kd.R_drew)); exact Kd.R_mono HO127.out (fun _ hk => ⟨hk.2.1, hk.2.2⟩)⟩, ⟨by (with_reducible repeat (first | apply Kd.R_alloc | apply Kd.R_drewN | apply Kd.R_drew)); exact Kd.R_mono HO135.out (fun _ hk => ⟨hk.2.1, hk.2.2⟩)⟩, ⟨KB BK101⟩, ⟨KB BK102⟩, ⟨KB BK120⟩, ⟨KB BK128⟩, ⟨KB BK137⟩, ⟨K5 HB GE101.out GE102.out GE120.out GE128.out GE137.out⟩⟩
    ·replace c62 := Bool.eq_false_iff.mpr c62
     subst c62
     have H1 : (laws_FnExactCacheFind.j0 k l0 t119 t121 t136 true a1_0 l1_1 a2_0 a2_1 a2_2 t115 t116 t124 t125 t132 t133) = some r := by rw [if_neg (show ¬ (false = true) by decide)] at H; exact H
     clear H
     have H := H1
     clear H1
     have H' := Aside0.mk H
     clear H
     have hnb73 := NB137_101.out
     have hnc73 := NB101_137.out
     have hnb74 := NB137_102.out
     have hnc74 := NB102_137.out
     have hnb75 := NB137_120.out
     have hnc75 := NB120_137.out
     have hnb76 := NB137_128.out
     have hnc76 := NB128_137.out
     obtain ⟨hcz77_0, hcz77_1, hfz77_0⟩ := y2 w57 BK137.out
     have hnb78 := NB120_101.out
     have hnc78 := NB101_120.out
     have hnb79 := NB120_102.out
     have hnc79 := NB102_120.out
     have hnb80 := NB120_128.out
     have hnc80 := NB128_120.out
     obtain ⟨hcz81_0, hcz81_1, hfz81_0⟩ := y2 w57 BK120.out
     go_wp2_with (first | ((with_reducible refine gate_callee (f := 28) rfl ?_); refine goesL_ (some 53) rfl rfl Try.func28 (by kernel_rfl) rfl #[.agg #[.int .i64 t132, .slice Ao59 t133.length co59], .agg #[.int .i64 t115, .slice Ao39 t116.length co39]] rfl MT ?_; (with_reducible refine (laws_eqCache.calls k t132 _ _ t133 t115 _ _ t116 false _ ?side1 ?side2 ?side3 ?side4 A61.out).mono ?_); (case side1 => refine (Kd.R_reads' (e := 108) (base := w.heap.size) (ok := fun k_ => (some k_ ≠ (v110 : Value).ownBlock ∧ (some k_ ≠ (.slice Ao39 t116.length co39 : Value).ownBlock ∧ some k_ ≠ (.slice Ao50 t125.length co50 : Value).ownBlock))) (n := t133.length) (c := co59) ?_).2.2; exact (by (with_reducible repeat (first | apply Kd.R_alloc | apply Kd.R_drewN | apply Kd.R_drew)); exact (Kd.R_mono (Kd.R_far (p := ⟨gb137, 1, none⟩) (Kd.R_far (p := ⟨gb137, 0, none⟩) (Kd.R_types HO135.out BK137.out (by decide)) (fun _ hk => hk.2) (.int .i64 t132)) (fun _ hk => hk.2) (.slice Ao59 t133.length co59)) (fun _ h_ => h_.1)))); (case side2 => exact (Kd.R_reads' HO135.out).2.1); (case side3 => refine (Kd.R_reads' (e := 108) (base := w.heap.size) (ok := fun k_ => (some k_ ≠ (v110 : Value).ownBlock ∧ (some k_ ≠ (.slice Ao50 t125.length co50 : Value).ownBlock ∧ some k_ ≠ (.slice Ao59 t133.length co59 : Value).ownBlock))) (n := t116.length) (c := co39) ?_).2.2; exact (by (with_reducible repeat (first | apply Kd.R_alloc | apply Kd.R_drewN | apply Kd.R_drew)); exact (Kd.R_mono (Kd.R_far (p := ⟨gb137, 1, none⟩) (Kd.R_far (p := ⟨gb137, 0, none⟩) (Kd.R_types HO118.out BK137.out (by decide)) (fun _ hk => hk.2) (.int .i64 t132)) (fun _ hk => hk.2) (.slice Ao59 t133.length co59)) (fun _ h_ => h_.1)))); (case side4 => exact (Kd.R_reads' HO118.out).2.1); rintro e w82 ⟨rfl, hb⟩; refine ⟨_, rfl, ?_⟩; replace HO107 := am (Kd.R_below (by (with_reducible repeat (first | apply Kd.R_alloc | apply Kd.R_drewN | apply Kd.R_drew)); exact (Kd.R_mono (Kd.R_far (p := ⟨gb137, 1, none⟩) (Kd.R_far (p := ⟨gb137, 0, none⟩) (Kd.R_types HO107.out BK137.out (by decide)) (fun _ hk => hk.2) (.int .i64 t132)) (fun _ hk => hk.2) (.slice Ao59 t133.length co59)) (fun _ h_ => h_.1))) hb); replace HO111 := am (Kd.R_below (by (with_reducible repeat (first | apply Kd.R_alloc | apply Kd.R_drewN | apply Kd.R_drew)); exact (Kd.R_mono (Kd.R_far (p := ⟨gb137, 1, none⟩) (Kd.R_far (p := ⟨gb137, 0, none⟩) (Kd.R_types HO111.out BK137.out (by decide)) (fun _ hk => hk.2) (.int .i64 t132)) (fun _ hk => hk.2) (.slice Ao59 t133.length co59)) (fun _ h_ => h_.1))) hb); replace HO118 := am (Kd.R_below (by (with_reducible repeat (first | apply Kd.R_alloc | apply Kd.R_drewN | apply Kd.R_drew)); exact (Kd.R_mono (Kd.R_far (p := ⟨gb137, 1, none⟩) (Kd.R_far (p := ⟨gb137, 0, none⟩) (Kd.R_types HO118.out BK137.out (by decide)) (fun _ hk => hk.2) (.int .i64 t132)) (fun _ hk => hk.2) (.slice Ao59 t133.length co59)) (fun _ h_ => h_.1))) hb); replace HO123 := am (Kd.R_below (by (with_reducible repeat (first | apply Kd.R_alloc | apply Kd.R_drewN | apply Kd.R_drew)); exact (Kd.R_mono (Kd.R_far (p := ⟨gb137, 1, none⟩) (Kd.R_far (p := ⟨gb137, 0, none⟩) (Kd.R_types HO123.out BK137.out (by decide)) (fun _ hk => hk.2) (.int .i64 t132)) (fun _ hk => hk.2) (.slice Ao59 t133.length co59)) (fun _ h_ => h_.1))) hb); replace HO127 := am (Kd.R_below (by (with_reducible repeat (first | apply Kd.R_alloc | apply Kd.R_drewN | apply Kd.R_drew)); exact (Kd.R_mono (Kd.R_far (p := ⟨gb137, 1, none⟩) (Kd.R_far (p := ⟨gb137, 0, none⟩) (Kd.R_types HO127.out BK137.out (by decide)) (fun _ hk => hk.2) (.int .i64 t132)) (fun _ hk => hk.2) (.slice Ao59 t133.length co59)) (fun _ h_ => h_.1))) hb); replace HO135 := am (Kd.R_below (by (with_reducible repeat (first | apply Kd.R_alloc | apply Kd.R_drewN | apply Kd.R_drew)); exact (Kd.R_mono (Kd.R_far (p := ⟨gb137, 1, none⟩) (Kd.R_far (p := ⟨gb137, 0, none⟩) (Kd.R_types HO135.out BK137.out (by decide)) (fun _ hk => hk.2) (.int .i64 t132)) (fun _ hk => hk.2) (.slice Ao59 t133.length co59)) (fun _ h_ => h_.1))) hb); replace BK101 := am (blk_below (g := gb101) (o := .cells #[.int .i64 a1_0, .slice A1_1 l1_1.length c1_1] 39 (0, 0)) (by (with_reducible repeat (first | refine blk_drewN ?_ _ | refine blk_drew ?_ | refine blk_alloc ?_ _)); refine blk_far ?_ NB101_137.out _; (with_reducible repeat (first | refine blk_drewN ?_ _ | refine blk_drew ?_ | refine blk_alloc ?_ _)); refine blk_far ?_ NB101_137.out _; (with_reducible repeat (first | refine blk_drewN ?_ _ | refine blk_drew ?_ | refine blk_alloc ?_ _)); exact BK101.out) hb); replace BK102 := am (blk_below (g := gb102) (o := .cells #[.int .i64 a2_0, .int .i64 a2_1, .int .i64 a2_2] 69 (0, 0)) (by (with_reducible repeat (first | refine blk_drewN ?_ _ | refine blk_drew ?_ | refine blk_alloc ?_ _)); refine blk_far ?_ NB102_137.out _; (with_reducible repeat (first | refine blk_drewN ?_ _ | refine blk_drew ?_ | refine blk_alloc ?_ _)); refine blk_far ?_ NB102_137.out _; (with_reducible repeat (first | refine blk_drewN ?_ _ | refine blk_drew ?_ | refine blk_alloc ?_ _)); exact BK102.out) hb); replace BK120 := am (blk_below (g := gb120) (o := .cells #[.int .i64 t115, .slice Ao39 t116.length co39] 46 (0, 0)) (by (with_reducible repeat (first | refine blk_drewN ?_ _ | refine blk_drew ?_ | refine blk_alloc ?_ _)); refine blk_far ?_ NB120_137.out _; (with_reducible repeat (first | refine blk_drewN ?_ _ | refine blk_drew ?_ | refine blk_alloc ?_ _)); refine blk_far ?_ NB120_137.out _; (with_reducible repeat (first | refine blk_drewN ?_ _ | refine blk_drew ?_ | refine blk_alloc ?_ _)); exact BK120.out) hb); replace BK128 := am (blk_below (g := gb128) (o := .cells #[.int .i64 t124, .slice Ao50 t125.length co50] 46 (0, 0)) (by (with_reducible repeat (first | refine blk_drewN ?_ _ | refine blk_drew ?_ | refine blk_alloc ?_ _)); refine blk_far ?_ NB128_137.out _; (with_reducible repeat (first | refine blk_drewN ?_ _ | refine blk_drew ?_ | refine blk_alloc ?_ _)); refine blk_far ?_ NB128_137.out _; (with_reducible repeat (first | refine blk_drewN ?_ _ | refine blk_drew ?_ | refine blk_alloc ?_ _)); exact BK128.out) hb); replace BK137 := am (blk_below (g := gb137) (o := .cells #[.int .i64 t132, .slice Ao59 t133.length co59] 46 (0, 0)) (by (with_reducible repeat (first | refine blk_drewN ?_ _ | refine blk_drew ?_ | refine blk_alloc ?_ _)); refine blk_put (cs := #[.int .i64 t132, .slice none 0 0]) ?_ 1 _ rfl; (with_reducible repeat (first | refine blk_drewN ?_ _ | refine blk_drew ?_ | refine blk_alloc ?_ _)); refine blk_put (cs := #[.int .i64 0, .slice none 0 0]) ?_ 0 _ rfl; (with_reducible repeat (first | refine blk_drewN ?_ _ | refine blk_drew ?_ | refine blk_alloc ?_ _)); exact BK137.out) hb); replace HB := am (below_step (K5 HB GE101.out GE102.out GE120.out GE128.out GE137.out) hb); (try clear hb); (try clear hb2); (try clear hk); (try clear hi)))
     go_meet
     case rel => exact ⟨_, (true), (by first | rfl | (simp; done) | (simp [*]; done)), H', ⟨by first | omega | exact Nat.le_refl _⟩, ⟨by (with_reducible repeat (first | apply Kd.R_alloc | apply Kd.R_drewN | apply Kd.R_drew)); exact Kd.R_mono HO123.out (fun _ hk => trivial)⟩, ⟨by (with_reducible repeat (first | apply Kd.R_alloc | apply Kd.R_drewN | apply Kd.R_drew)); exact Kd.R_mono HO118.out (fun _ hk => ⟨hk.2.1, hk.2.2⟩)⟩, ⟨by (with_reducible repeat (first | apply Kd.R_alloc | apply Kd.R_drewN | apply Kd.R_drew)); exact Kd.R_mono HO127.out (fun _ hk => ⟨hk.2.1, hk.2.2⟩)⟩, ⟨by (with_reducible repeat (first | apply Kd.R_alloc | apply Kd.R_drewN | apply Kd.R_drew)); exact Kd.R_mono HO135.out (fun _ hk => ⟨hk.2.1, hk.2.2⟩)⟩, ⟨KB BK101⟩, ⟨KB BK102⟩, ⟨KB BK120⟩, ⟨KB BK128⟩, ⟨KB BK137⟩, ⟨K5 HB GE101.out GE102.out GE120.out GE128.out GE137.out⟩⟩
   case rest =>
    clear HC23
    try clear c1
    try clear c2
    try clear p2
    try clear c3
    try clear c4
    try clear c6
    try clear c7
    try clear c8
    try clear c28
    try clear c30
    try clear c45
    try clear c62
    try clear c63
    try clear c64
    try clear c65
    try clear c66
    try clear c68
    try clear c69
    try clear c70
    try clear c73
    try clear c74
    try clear c75
    try clear c76
    try clear c78
    try clear c79
    try clear c80
    try clear hcz67_0
    try clear hcz67_1
    try clear hcz71_0
    try clear hcz71_1
    try clear hcz77_0
    try clear hcz77_1
    try clear hcz81_0
    try clear hcz81_1
    try clear hfz67_0
    try clear hfz71_0
    try clear hfz77_0
    try clear hfz81_0
    obtain ⟨kq, x59_22, rfl, HA, HJ22, HO_10, HO_121001, HO_129001, HO_138001, BK101, BK102, BK120, BK128, BK137, HB⟩ := hcut
    cases kq with
    | zero => exact absurd HA.out (by simp [laws_FnExactCacheFind.j0])
    | succ kj22 =>
     have H := HA.out
     clear HA
     simp only [laws_FnExactCacheFind.j0] at H
     by_cases c83 : x59_22 = true
     ·subst c83
      have H1 : (some false) = some r := by rw [if_pos rfl] at H; exact H
      clear H
      have H := H1
      clear H1
      exact absurd ((Option.some.inj H).trans HR_.out) (by decide)
     ·replace c83 := Bool.eq_false_iff.mpr c83
      subst c83
      have H1 : ((laws_toRuleS.f kj22 l0).bind fun t139 => ((laws_eqRuleS.f kj22 t121 t139).bind fun t142 => (if t142 = true then ((laws_toCache.f kj22 a1_0 l1_1).bind fun bt143 => ((laws_eqCache.f kj22 t124 t125 bt143.1 bt143.2).bind fun t147 => (if t147 = true then ((laws_markRuleS.f kj22 t121 1).bind fun bt148 => ((laws_markCache.f kj22 t124 t125 bt148.1).bind fun bt150 => (if bt150.1 < 0 then (laws_FnExactCacheFind.j1 kj22 l0 t119 true a1_0 l1_1 a2_0 a2_1 a2_2 t115 t116 t132 t133) else ((laws_eqCache.f kj22 t132 t133 t115 t116).bind fun t152 => (if t152 = true then (laws_FnExactCacheFind.j1 kj22 l0 t119 (t136 != t119) a1_0 l1_1 a2_0 a2_1 a2_2 t115 t116 t132 t133) else (laws_FnExactCacheFind.j1 kj22 l0 t119 true a1_0 l1_1 a2_0 a2_1 a2_2 t115 t116 t132 t133)))))) else (some false)))) else (some false)))) = some r := by rw [if_neg (show ¬ (false = true) by decide)] at H; exact H
      clear H
      have H := H1
      clear H1
      replace H := Option.bind_eq_some_iff.mp H
      obtain ⟨t139, A840, H⟩ := H
      replace H : ((laws_eqRuleS.f kj22 t121 t139).bind fun t142 => (if t142 = true then ((laws_toCache.f kj22 a1_0 l1_1).bind fun bt143 => ((laws_eqCache.f kj22 t124 t125 bt143.1 bt143.2).bind fun t147 => (if t147 = true then ((laws_markRuleS.f kj22 t121 1).bind fun bt148 => ((laws_markCache.f kj22 t124 t125 bt148.1).bind fun bt150 => (if bt150.1 < 0 then (laws_FnExactCacheFind.j1 kj22 l0 t119 true a1_0 l1_1 a2_0 a2_1 a2_2 t115 t116 t132 t133) else ((laws_eqCache.f kj22 t132 t133 t115 t116).bind fun t152 => (if t152 = true then (laws_FnExactCacheFind.j1 kj22 l0 t119 (t136 != t119) a1_0 l1_1 a2_0 a2_1 a2_2 t115 t116 t132 t133) else (laws_FnExactCacheFind.j1 kj22 l0 t119 true a1_0 l1_1 a2_0 a2_1 a2_2 t115 t116 t132 t133)))))) else (some false)))) else (some false))) = some r := H
      have A84 := Aside0.mk A840
      clear A840
      replace H := Option.bind_eq_some_iff.mp H
      obtain ⟨t142, A850, H⟩ := H
      replace H : (if t142 = true then ((laws_toCache.f kj22 a1_0 l1_1).bind fun bt143 => ((laws_eqCache.f kj22 t124 t125 bt143.1 bt143.2).bind fun t147 => (if t147 = true then ((laws_markRuleS.f kj22 t121 1).bind fun bt148 => ((laws_markCache.f kj22 t124 t125 bt148.1).bind fun bt150 => (if bt150.1 < 0 then (laws_FnExactCacheFind.j1 kj22 l0 t119 true a1_0 l1_1 a2_0 a2_1 a2_2 t115 t116 t132 t133) else ((laws_eqCache.f kj22 t132 t133 t115 t116).bind fun t152 => (if t152 = true then (laws_FnExactCacheFind.j1 kj22 l0 t119 (t136 != t119) a1_0 l1_1 a2_0 a2_1 a2_2 t115 t116 t132 t133) else (laws_FnExactCacheFind.j1 kj22 l0 t119 true a1_0 l1_1 a2_0 a2_1 a2_2 t115 t116 t132 t133)))))) else (some false)))) else (some false)) = some r := H
      have A85 := Aside0.mk A850
      clear A850
      by_cases c86 : t142 = true
      ·subst c86
       have H1 : ((laws_toCache.f kj22 a1_0 l1_1).bind fun bt143 => ((laws_eqCache.f kj22 t124 t125 bt143.1 bt143.2).bind fun t147 => (if t147 = true then ((laws_markRuleS.f kj22 t121 1).bind fun bt148 => ((laws_markCache.f kj22 t124 t125 bt148.1).bind fun bt150 => (if bt150.1 < 0 then (laws_FnExactCacheFind.j1 kj22 l0 t119 true a1_0 l1_1 a2_0 a2_1 a2_2 t115 t116 t132 t133) else ((laws_eqCache.f kj22 t132 t133 t115 t116).bind fun t152 => (if t152 = true then (laws_FnExactCacheFind.j1 kj22 l0 t119 (t136 != t119) a1_0 l1_1 a2_0 a2_1 a2_2 t115 t116 t132 t133) else (laws_FnExactCacheFind.j1 kj22 l0 t119 true a1_0 l1_1 a2_0 a2_1 a2_2 t115 t116 t132 t133)))))) else (some false)))) = some r := by rw [if_pos rfl] at H; exact H
       clear H
       have H := H1
       clear H1
       replace H := Option.bind_eq_some_iff.mp H
       obtain ⟨⟨t143, t144⟩, A870, H⟩ := H
       replace H : ((laws_eqCache.f kj22 t124 t125 t143 t144).bind fun t147 => (if t147 = true then ((laws_markRuleS.f kj22 t121 1).bind fun bt148 => ((laws_markCache.f kj22 t124 t125 bt148.1).bind fun bt150 => (if bt150.1 < 0 then (laws_FnExactCacheFind.j1 kj22 l0 t119 true a1_0 l1_1 a2_0 a2_1 a2_2 t115 t116 t132 t133) else ((laws_eqCache.f kj22 t132 t133 t115 t116).bind fun t152 => (if t152 = true then (laws_FnExactCacheFind.j1 kj22 l0 t119 (t136 != t119) a1_0 l1_1 a2_0 a2_1 a2_2 t115 t116 t132 t133) else (laws_FnExactCacheFind.j1 kj22 l0 t119 true a1_0 l1_1 a2_0 a2_1 a2_2 t115 t116 t132 t133)))))) else (some false))) = some r := H
       have A87 := Aside0.mk A870
       clear A870
       replace H := Option.bind_eq_some_iff.mp H
       obtain ⟨t147, A880, H⟩ := H
       replace H : (if t147 = true then ((laws_markRuleS.f kj22 t121 1).bind fun bt148 => ((laws_markCache.f kj22 t124 t125 bt148.1).bind fun bt150 => (if bt150.1 < 0 then (laws_FnExactCacheFind.j1 kj22 l0 t119 true a1_0 l1_1 a2_0 a2_1 a2_2 t115 t116 t132 t133) else ((laws_eqCache.f kj22 t132 t133 t115 t116).bind fun t152 => (if t152 = true then (laws_FnExactCacheFind.j1 kj22 l0 t119 (t136 != t119) a1_0 l1_1 a2_0 a2_1 a2_2 t115 t116 t132 t133) else (laws_FnExactCacheFind.j1 kj22 l0 t119 true a1_0 l1_1 a2_0 a2_1 a2_2 t115 t116 t132 t133)))))) else (some false)) = some r := H
       have A88 := Aside0.mk A880
       clear A880
       by_cases c89 : t147 = true
       ·subst c89
        have H1 : ((laws_markRuleS.f kj22 t121 1).bind fun bt148 => ((laws_markCache.f kj22 t124 t125 bt148.1).bind fun bt150 => (if bt150.1 < 0 then (laws_FnExactCacheFind.j1 kj22 l0 t119 true a1_0 l1_1 a2_0 a2_1 a2_2 t115 t116 t132 t133) else ((laws_eqCache.f kj22 t132 t133 t115 t116).bind fun t152 => (if t152 = true then (laws_FnExactCacheFind.j1 kj22 l0 t119 (t136 != t119) a1_0 l1_1 a2_0 a2_1 a2_2 t115 t116 t132 t133) else (laws_FnExactCacheFind.j1 kj22 l0 t119 true a1_0 l1_1 a2_0 a2_1 a2_2 t115 t116 t132 t133)))))) = some r := by rw [if_pos rfl] at H; exact H
        clear H
        have H := H1
        clear H1
        replace H := Option.bind_eq_some_iff.mp H
        obtain ⟨⟨t148, t149⟩, A900, H⟩ := H
        replace H : ((laws_markCache.f kj22 t124 t125 t148).bind fun bt150 => (if bt150.1 < 0 then (laws_FnExactCacheFind.j1 kj22 l0 t119 true a1_0 l1_1 a2_0 a2_1 a2_2 t115 t116 t132 t133) else ((laws_eqCache.f kj22 t132 t133 t115 t116).bind fun t152 => (if t152 = true then (laws_FnExactCacheFind.j1 kj22 l0 t119 (t136 != t119) a1_0 l1_1 a2_0 a2_1 a2_2 t115 t116 t132 t133) else (laws_FnExactCacheFind.j1 kj22 l0 t119 true a1_0 l1_1 a2_0 a2_1 a2_2 t115 t116 t132 t133))))) = some r := H
        have A90 := Aside0.mk A900
        clear A900
        replace H := Option.bind_eq_some_iff.mp H
        obtain ⟨⟨t150, t151⟩, A910, H⟩ := H
        replace H : (if t150 < 0 then (laws_FnExactCacheFind.j1 kj22 l0 t119 true a1_0 l1_1 a2_0 a2_1 a2_2 t115 t116 t132 t133) else ((laws_eqCache.f kj22 t132 t133 t115 t116).bind fun t152 => (if t152 = true then (laws_FnExactCacheFind.j1 kj22 l0 t119 (t136 != t119) a1_0 l1_1 a2_0 a2_1 a2_2 t115 t116 t132 t133) else (laws_FnExactCacheFind.j1 kj22 l0 t119 true a1_0 l1_1 a2_0 a2_1 a2_2 t115 t116 t132 t133)))) = some r := H
        have A91 := Aside0.mk A910
        clear A910
        have HC92 := Aside0.mk H
        clear H
        try go_wp2_with (first | ((with_reducible refine gate_callee (f := 24) rfl ?_); refine goesL_ (some 62) rfl rfl Try.func24 (by kernel_rfl) rfl #[.slice A0 l0.length c0] rfl MT ?_; (with_reducible refine (laws_toRuleS.calls kj22 _ _ l0 t139 _ ?side1 ?side2 A84.out).mono ?_); (case side1 => exact KC (Kd.C_below HR0.out HB.out)); (case side2 => exact HC0.out); rintro e w93 ⟨v140, rfl, ho0, hb⟩; refine ⟨_, rfl, ?_⟩; replace HO_121001 := am (Kd.R_below (KR HO_121001) hb); replace HO_129001 := am (Kd.R_below (KR HO_129001) hb); replace HO_138001 := am (Kd.R_below (KR HO_138001) hb); have HO141 := am (Kd.R_lower (Kd.R_new' ho0 (Kd.R_lt (KR HO_10))) (below_size (K5 HB GE101.out GE102.out GE120.out GE128.out GE137.out))); replace HO_10 := am (Kd.R_elder' (KR HO_10) (Kd.R_base ho0) hb); replace BK101 := am (BB BK101 hb); replace BK102 := am (BB BK102 hb); replace BK120 := am (BB BK120 hb); replace BK128 := am (BB BK128 hb); replace BK137 := am (BB BK137 hb); replace HB := am (below_step (K5 HB GE101.out GE102.out GE120.out GE128.out GE137.out) hb); (try clear hb); (try clear hb2); (try clear hk); (try clear hi); (try clear ho0); obtain ⟨Ao94, co94, eo94⟩ := Kd.R_slice HO141.out; subst eo94) | ((with_reducible refine gate_callee (f := 27) rfl ?_); refine goesL_ (some 63) rfl rfl Try.func27 (by kernel_rfl) rfl #[.slice Ao51 t121.length co51, .slice Ao94 t139.length co94] rfl MT ?_; (with_reducible refine (laws_eqRuleS.calls kj22 _ _ t121 _ _ t139 true _ ?side1 ?side2 ?side3 ?side4 A85.out).mono ?_); (case side1 => exact KC (Kd.R_reads' HO_10.out).2.2); (case side2 => exact (Kd.R_reads' HO_10.out).2.1); (case side3 => exact KC (Kd.R_reads' HO141.out).2.2); (case side4 => exact (Kd.R_reads' HO141.out).2.1); rintro e w95 ⟨rfl, hb⟩; refine ⟨_, rfl, ?_⟩; replace HO_10 := am (Kd.R_below (KR HO_10) hb); replace HO_121001 := am (Kd.R_below (KR HO_121001) hb); replace HO_129001 := am (Kd.R_below (KR HO_129001) hb); replace HO_138001 := am (Kd.R_below (KR HO_138001) hb); replace HO141 := am (Kd.R_below (KR HO141) hb); replace BK101 := am (BB BK101 hb); replace BK102 := am (BB BK102 hb); replace BK120 := am (BB BK120 hb); replace BK128 := am (BB BK128 hb); replace BK137 := am (BB BK137 hb); replace HB := am (below_step (K5 HB GE101.out GE102.out GE120.out GE128.out GE137.out) hb); (try clear hb); (try clear hb2); (try clear hk); (try clear hi)))
        replace HO_10 := am (Kd.R_drew HO_10.out)
        replace HO_121001 := am (Kd.R_drew HO_121001.out)
        replace HO_129001 := am (Kd.R_drew HO_129001.out)
        replace HO_138001 := am (Kd.R_drew HO_138001.out)
        replace HO141 := am (Kd.R_drew HO141.out)
        replace BK101 := am (blk_drew BK101.out)
        replace BK102 := am (blk_drew BK102.out)
        replace BK120 := am (blk_drew BK120.out)
        replace BK128 := am (blk_drew BK128.out)
        replace BK137 := am (blk_drew BK137.out)
        replace HB := am (below_drew1 HB.out)
        refine start_ (n := 5) (S := fun w' => ce2 w' gb128 (.int .i64 t124) (.slice Ao50 t125.length co50) (de2 w' gb101 (.int .i64 a1_0) (.slice A1_1 l1_1.length c1_1))) (ds := []) (tf 0 5) (by kernel_rfl) rfl rfl ⟨z0 _ BK128.out, z1 _ BK128.out, z0 _ BK101.out, z1 _ BK101.out⟩ (fun hHeld => ?_)
        generalize w95.drew = w96 at HO_10 HO_121001 HO_129001 HO_138001 HO141 BK101 BK102 BK120 BK128 BK137 HB hHeld ⊢
        refine take_ (i := 0) (N := some 65) (v := ?_) (a' := ?_) (tf 1 4) rfl rfl (by kernel_rfl) (fun _ _ _ h => h) (Or.inl ⟨by rfl, ?_⟩) hHeld ?_ ?_
        rotate_left
        ·rintro w' ⟨s0, s1, s2, s3⟩
         go_simp
         with_reducible rfl
        rotate_left
        ·simp only [Act.put, List.setIfInBounds_toArray, List.set_cons_zero, List.set_cons_succ, i64_w, i32_w]
         rfl
        refine take_ (i := 1) (N := some 66) (v := ?_) (a' := ?_) (tf 2 3) rfl rfl (by kernel_rfl) (fun _ _ _ h => h) (Or.inl ⟨by rfl, ?_⟩) hHeld ?_ ?_
        rotate_left
        ·rintro w' ⟨s0, s1, s2, s3⟩
         go_simp
         with_reducible rfl
        rotate_left
        ·simp only [Act.put, List.setIfInBounds_toArray, List.set_cons_zero, List.set_cons_succ, i64_w, i32_w]
         rfl
        refine one_ (i := 2) (N := some 67) (tf 3 2) rfl rfl (by kernel_rfl) (by decide) (fun K hK => ?_)
        refine goes_ Try.func25 (by kernel_rfl) rfl #[.agg #[.int .i64 a1_0, .slice A1_1 l1_1.length c1_1]] (by rfl) rfl rfl MT ?_
        with_reducible refine (laws_toCache.calls kj22 a1_0 _ _ l1_1 t143 t144 _ ?side1 ?side2 A87.out).mono ?_
        (case side1 => exact KC (Kd.C_below HR1_1.out HB.out))
        (case side2 => exact HC1_1.out)
        rintro e w97 ⟨v145, rfl, ho0, hb⟩
        refine ⟨_, rfl, ?_⟩
        replace HO_10 := am (Kd.R_below (KR HO_10) hb)
        replace HO141 := am (Kd.R_below (KR HO141) hb)
        have HO146 := am (Kd.R_lower (Kd.R_new' (Kd.R_new' (Kd.R_new' ho0 (Kd.R_lt (KR HO_121001))) (Kd.R_lt (KR HO_129001))) (Kd.R_lt (KR HO_138001))) (below_size (K5 HB GE101.out GE102.out GE120.out GE128.out GE137.out)))
        replace HO_121001 := am (Kd.R_elder' (KR HO_121001) (Kd.R_base ho0) hb)
        replace HO_129001 := am (Kd.R_elder' (KR HO_129001) (Kd.R_base ho0) hb)
        replace HO_138001 := am (Kd.R_elder' (KR HO_138001) (Kd.R_base ho0) hb)
        replace BK101 := am (BB BK101 hb)
        replace BK102 := am (BB BK102 hb)
        replace BK120 := am (BB BK120 hb)
        replace BK128 := am (BB BK128 hb)
        replace BK137 := am (BB BK137 hb)
        replace HB := am (below_step (K5 HB GE101.out GE102.out GE120.out GE128.out GE137.out) hb)
        (try clear hb)
        (try clear hb2)
        (try clear hk)
        (try clear hi)
        (try clear ho0)
        obtain ⟨Ao98, co98, eo98⟩ := Kd.R_slice HO146.out
        (first | subst eo98 | (injection eo98 with f1_ f2_ f3_; have f4_ := f1_.symm; have f5_ := f3_.symm; clear f1_ f2_ f3_; subst f4_; subst f5_))
        refine hK.out _ _ ⟨z0 _ BK128.out, z1 _ BK128.out, z0 _ BK101.out, z1 _ BK101.out⟩ (fun hHeld => ?_)
        clear hK K
        refine norm_ (a' := ?_) ?_ ?_
        rotate_left
        ·show Act.put _ (some 67) _ = _
         simp only [Act.put, List.setIfInBounds_toArray, List.set_cons_zero, List.set_cons_succ, i64_w, i32_w]
         rfl
        refine one_ (i := 3) (N := some 68) (tf 4 1) rfl rfl (by kernel_rfl) (by decide) (fun K hK => ?_)
        refine goes_ Try.func28 (by kernel_rfl) rfl #[.agg #[.int .i64 t124, .slice Ao50 t125.length co50], .agg #[.int .i64 t143, .slice Ao98 t144.length co98]] (by rfl) rfl rfl MT ?_
        with_reducible refine (laws_eqCache.calls kj22 t124 _ _ t125 t143 _ _ t144 true _ ?side1 ?side2 ?side3 ?side4 A88.out).mono ?_
        (case side1 => exact KC (Kd.R_reads' HO_129001.out).2.2)
        (case side2 => exact (Kd.R_reads' HO_129001.out).2.1)
        (case side3 => exact KC (Kd.R_reads' HO146.out).2.2)
        (case side4 => exact (Kd.R_reads' HO146.out).2.1)
        rintro e w99 ⟨rfl, hb⟩
        refine ⟨_, rfl, ?_⟩
        replace HO_10 := am (Kd.R_below (KR HO_10) hb)
        replace HO_121001 := am (Kd.R_below (KR HO_121001) hb)
        replace HO_129001 := am (Kd.R_below (KR HO_129001) hb)
        replace HO_138001 := am (Kd.R_below (KR HO_138001) hb)
        replace HO141 := am (Kd.R_below (KR HO141) hb)
        replace HO146 := am (Kd.R_below (KR HO146) hb)
        replace BK101 := am (BB BK101 hb)
        replace BK102 := am (BB BK102 hb)
        replace BK120 := am (BB BK120 hb)
        replace BK128 := am (BB BK128 hb)
        replace BK137 := am (BB BK137 hb)
        replace HB := am (below_step (K5 HB GE101.out GE102.out GE120.out GE128.out GE137.out) hb)
        (try clear hb)
        (try clear hb2)
        (try clear hk)
        (try clear hi)
        refine hK.out _ _ ⟨z0 _ BK128.out, z1 _ BK128.out, z0 _ BK101.out, z1 _ BK101.out⟩ (fun hHeld => ?_)
        clear hK K
        refine norm_ (a' := ?_) ?_ ?_
        rotate_left
        ·show Act.put _ (some 68) _ = _
         simp only [Act.put, List.setIfInBounds_toArray, List.set_cons_zero, List.set_cons_succ, i64_w, i32_w]
         rfl
        refine pure_ (i := 4) (N := some 69) (v := ?_) (a' := ?_) (tf 5 0) rfl rfl (by kernel_rfl) (fun _ _ _ h => h) (Or.inl ⟨by rfl, ?_⟩) ?_ ?_; rotate_left; (· intro w'; go_simp; with_reducible rfl); rotate_left; (· simp only [Act.put, List.setIfInBounds_toArray, List.set_cons_zero, List.set_cons_succ, i64_w, i32_w]; rfl)
        refine done_ (by kernel_rfl) ?_
        go_upto_region 21 with (first | ((with_reducible refine gate_callee (f := 41) rfl ?_); refine goesL_ (some 72) rfl rfl Try.func41 (by kernel_rfl) rfl #[.slice Ao51 t121.length co51, .int .i64 1] rfl MT ?_; (with_reducible refine (laws_markRuleS.calls kj22 (fun k_ => some k_ = (.slice Ao51 t121.length co51 : Value).ownBlock) (.slice Ao51 t121.length co51) t121 1 t148 t149 w _ ?side1 ?side2 A90.out).mono ?_); (case side1 => exact K5 HB GE101.out GE102.out GE120.out GE128.out GE137.out); (case side2 => exact Kd.R_tight rfl HO_10.out); rintro e w100 ⟨rfl, hy0, hb, hkp⟩; refine ⟨_, rfl, ?_⟩; replace HO_121001 := am (Kd.R_mono (ok' := fun k_ => some k_ ≠ (.slice Ao50 t125.length co50 : Value).ownBlock ∧ some k_ ≠ (.slice Ao59 t133.length co59 : Value).ownBlock ∧ some k_ ≠ (.slice Ao98 t144.length co98 : Value).ownBlock) (Kd.R_keptB ((Kd.R_apart' HO_121001.out (Kd.R_typed HO_10.out) (by decide))) hkp (fun k_ hk_ hs_ => (hk_.2) hs_)) (fun k_ hk_ => ⟨hk_.1.1.1.1, hk_.1.1.1.2, hk_.1.1.2⟩)); replace HO_129001 := am (Kd.R_mono (ok' := fun k_ => some k_ ≠ (.slice Ao39 t116.length co39 : Value).ownBlock ∧ some k_ ≠ (.slice Ao59 t133.length co59 : Value).ownBlock ∧ some k_ ≠ (.slice Ao98 t144.length co98 : Value).ownBlock) (Kd.R_keptB ((Kd.R_apart' HO_129001.out (Kd.R_typed HO_10.out) (by decide))) hkp (fun k_ hk_ hs_ => (hk_.2) hs_)) (fun k_ hk_ => ⟨hk_.1.1.1.1, hk_.1.1.1.2, hk_.1.1.2⟩)); replace HO_138001 := am (Kd.R_mono (ok' := fun k_ => some k_ ≠ (.slice Ao39 t116.length co39 : Value).ownBlock ∧ some k_ ≠ (.slice Ao50 t125.length co50 : Value).ownBlock ∧ some k_ ≠ (.slice Ao98 t144.length co98 : Value).ownBlock) (Kd.R_keptB ((Kd.R_apart' HO_138001.out (Kd.R_typed HO_10.out) (by decide))) hkp (fun k_ hk_ hs_ => (hk_.2) hs_)) (fun k_ hk_ => ⟨hk_.1.1.1.1, hk_.1.1.1.2, hk_.1.1.2⟩)); replace BK101 := am (blk_kept (KB BK101) hkp (fun hs_ => (fun e_ => (Kd.R_ne HO_10.out BK101.out (by decide)) e_) hs_)); replace BK102 := am (blk_kept (KB BK102) hkp (fun hs_ => (fun e_ => (Kd.R_ne HO_10.out BK102.out (by decide)) e_) hs_)); replace BK120 := am (blk_kept (KB BK120) hkp (fun hs_ => (fun e_ => (Kd.R_ne HO_10.out BK120.out (by decide)) e_) hs_)); replace BK128 := am (blk_kept (KB BK128) hkp (fun hs_ => (fun e_ => (Kd.R_ne HO_10.out BK128.out (by decide)) e_) hs_)); replace BK137 := am (blk_kept (KB BK137) hkp (fun hs_ => (fun e_ => (Kd.R_ne HO_10.out BK137.out (by decide)) e_) hs_)); replace HO141 := am (Kd.R_mono (ok' := fun k_ => some k_ ≠ (.slice Ao51 t121.length co51 : Value).ownBlock) (Kd.R_keptB (HO141.out) hkp (fun k_ hk_ hs_ => (hk_.2) hs_)) (fun k_ hk_ => hk_.1.2)); replace HO146 := am (Kd.R_mono (ok' := fun k_ => some k_ ≠ (.slice Ao39 t116.length co39 : Value).ownBlock ∧ some k_ ≠ (.slice Ao50 t125.length co50 : Value).ownBlock ∧ some k_ ≠ (.slice Ao59 t133.length co59 : Value).ownBlock) (Kd.R_keptB ((Kd.R_apart' HO146.out (Kd.R_typed HO_10.out) (by decide))) hkp (fun k_ hk_ hs_ => (hk_.2) hs_)) (fun k_ hk_ => ⟨hk_.1.1.1.1.2, hk_.1.1.1.2, hk_.1.1.2⟩)); replace HO_10 := am (Kd.R_reok rfl hy0 (fun k_ e_ => HO_10.out.1 k_ e_)); replace HB := am (hb); (try clear hb); (try clear hkp); (try clear hy0); have hnb101 := NB128_101.out; have hnc101 := NB101_128.out; have hnb102 := NB128_102.out; have hnc102 := NB102_128.out; have hnb103 := NB128_120.out; have hnc103 := NB120_128.out; have hnb104 := NB128_137.out; have hnc104 := NB137_128.out; obtain ⟨hcz105_0, hcz105_1, hfz105_0⟩ := y2 w100 BK128.out) | ((with_reducible refine gate_callee (f := 46) rfl ?_); refine goesL_ (some 75) rfl rfl Try.func46 (by kernel_rfl) rfl #[.agg #[.int .i64 t124, .slice Ao50 t125.length co50], .int .i64 t148] rfl MT ?_; (with_reducible refine (laws_markCache.calls kj22 t124 (fun k_ => some k_ = (.slice Ao50 t125.length co50 : Value).ownBlock) (.slice Ao50 t125.length co50) t125 t148 t150 t151 w _ ?side1 ?side2 A91.out).mono ?_); (case side1 => exact K5 HB GE101.out GE102.out GE120.out GE128.out GE137.out); (case side2 => exact Kd.R_tight rfl HO_129001.out); rintro e w106 ⟨rfl, hy0, hb, hkp⟩; refine ⟨_, rfl, ?_⟩; replace HO_10 := am (Kd.R_mono (ok' := fun k_ => some k_ ≠ (.slice Ao94 t139.length co94 : Value).ownBlock) (Kd.R_keptB ((Kd.R_apart' HO_10.out (Kd.R_typed HO_129001.out) (by decide))) hkp (fun k_ hk_ hs_ => (hk_.2) hs_)) (fun k_ hk_ => hk_.1.1.2)); replace HO_121001 := am (Kd.R_mono (ok' := fun k_ => some k_ ≠ (.slice Ao50 t125.length co50 : Value).ownBlock ∧ some k_ ≠ (.slice Ao59 t133.length co59 : Value).ownBlock ∧ some k_ ≠ (.slice Ao98 t144.length co98 : Value).ownBlock) (Kd.R_keptB (HO_121001.out) hkp (fun k_ hk_ hs_ => (hk_.1) hs_)) (fun k_ hk_ => ⟨hk_.1.1, hk_.1.2.1, hk_.1.2.2⟩)); replace HO_138001 := am (Kd.R_mono (ok' := fun k_ => some k_ ≠ (.slice Ao39 t116.length co39 : Value).ownBlock ∧ some k_ ≠ (.slice Ao50 t125.length co50 : Value).ownBlock ∧ some k_ ≠ (.slice Ao98 t144.length co98 : Value).ownBlock) (Kd.R_keptB (HO_138001.out) hkp (fun k_ hk_ hs_ => (hk_.2.1) hs_)) (fun k_ hk_ => ⟨hk_.1.1, hk_.1.2.1, hk_.1.2.2⟩)); replace BK101 := am (blk_kept (KB BK101) hkp (fun hs_ => (fun e_ => (Kd.R_ne HO_129001.out BK101.out (by decide)) e_) hs_)); replace BK102 := am (blk_kept (KB BK102) hkp (fun hs_ => (fun e_ => (Kd.R_ne HO_129001.out BK102.out (by decide)) e_) hs_)); replace BK120 := am (blk_kept (KB BK120) hkp (fun hs_ => (fun e_ => (Kd.R_ne HO_129001.out BK120.out (by decide)) e_) hs_)); replace BK128 := am (blk_kept (KB BK128) hkp (fun hs_ => (fun e_ => (Kd.R_ne HO_129001.out BK128.out (by decide)) e_) hs_)); replace BK137 := am (blk_kept (KB BK137) hkp (fun hs_ => (fun e_ => (Kd.R_ne HO_129001.out BK137.out (by decide)) e_) hs_)); replace HO141 := am (Kd.R_mono (ok' := fun k_ => some k_ ≠ (.slice Ao51 t121.length co51 : Value).ownBlock) (Kd.R_keptB ((Kd.R_apart' HO141.out (Kd.R_typed HO_129001.out) (by decide))) hkp (fun k_ hk_ hs_ => (hk_.2) hs_)) (fun k_ hk_ => hk_.1.1)); replace HO_129001 := am (Kd.R_reok rfl hy0 (fun k_ e_ => HO_129001.out.1 k_ e_)); replace HO146 := am (Kd.R_mono (ok' := fun k_ => some k_ ≠ (.slice Ao39 t116.length co39 : Value).ownBlock ∧ some k_ ≠ (.slice Ao50 t125.length co50 : Value).ownBlock ∧ some k_ ≠ (.slice Ao59 t133.length co59 : Value).ownBlock) (Kd.R_keptB (HO146.out) hkp (fun k_ hk_ hs_ => (hk_.2.1) hs_)) (fun k_ hk_ => ⟨hk_.1.1, hk_.1.2.1, hk_.1.2.2⟩)); replace HB := am (hb); (try clear hb); (try clear hkp); (try clear hy0)))
        (try simp only [Act.put, List.setIfInBounds_toArray, List.set_cons_zero, List.set_cons_succ])
        go_cut [88] (fun v88 wc => ∃ (kq : Nat) (x88_91 : Bool), v88 = .bool x88_91 ∧ Aside0 (laws_FnExactCacheFind.j1 kq l0 t119 x88_91 a1_0 l1_1 a2_0 a2_1 a2_2 t115 t116 t132 t133 = some r) ∧ Aside0 (kq ≤ kj22) ∧ Aside0 (Kd.R k108 108 wc w.heap.size (fun k_ => some k_ ≠ ((.slice Ao50 t125.length co50) : Value).ownBlock ∧ some k_ ≠ ((.slice Ao59 t133.length co59) : Value).ownBlock) (.slice Ao39 t116.length co39) t116) ∧ Aside0 (Kd.R k108 108 wc w.heap.size (fun k_ => some k_ ≠ ((.slice Ao39 t116.length co39) : Value).ownBlock ∧ some k_ ≠ ((.slice Ao59 t133.length co59) : Value).ownBlock) (.slice Ao50 t125.length co50) t151) ∧ Aside0 (Kd.R k108 108 wc w.heap.size (fun k_ => some k_ ≠ ((.slice Ao39 t116.length co39) : Value).ownBlock ∧ some k_ ≠ ((.slice Ao50 t125.length co50) : Value).ownBlock) (.slice Ao59 t133.length co59) t133) ∧ Aside0 (wc.heap[gb101]? = some (.cells #[.int .i64 a1_0, (.slice A1_1 l1_1.length c1_1)] 39 (0, 0))) ∧ Aside0 (wc.heap[gb102]? = some (.cells #[.int .i64 a2_0, .int .i64 a2_1, .int .i64 a2_2] 69 (0, 0))) ∧ Aside0 (wc.heap[gb120]? = some (.cells #[.int .i64 t115, (.slice Ao39 t116.length co39)] 46 (0, 0))) ∧ Aside0 (wc.heap[gb128]? = some (.cells #[.int .i64 t124, (.slice Ao50 t125.length co50)] 46 (0, 0))) ∧ Aside0 (wc.heap[gb137]? = some (.cells #[.int .i64 t132, (.slice Ao59 t133.length co59)] 46 (0, 0))) ∧ Aside0 (Below w.heap.size w wc))
        case first =>
         have H := HC92.out
         clear HC92
         by_cases c107 : t150 < 0
         ·rw [if_pos c107] at H
          have c107b0 : decide (t150 < 0) = true := decide_eq_true c107
          clear c107
          (first | rw [c107b0] | (simp only [i64_w, i32_w]; rw [c107b0]) | skip)
          have H' := Aside0.mk H
          clear H
          go_wp2
          go_meet
          case rel => exact ⟨_, (true), (by first | rfl | (simp; done) | (simp [*]; done)), H', ⟨by have := HJ22.out; first | omega | exact Nat.le_refl _⟩, ⟨by (with_reducible repeat (first | apply Kd.R_alloc | apply Kd.R_drewN | apply Kd.R_drew)); exact Kd.R_mono HO_121001.out (fun _ hk => ⟨hk.1, hk.2.1⟩)⟩, ⟨by (with_reducible repeat (first | apply Kd.R_alloc | apply Kd.R_drewN | apply Kd.R_drew)); exact Kd.R_mono HO_129001.out (fun _ hk => ⟨hk.1, hk.2.1⟩)⟩, ⟨by (with_reducible repeat (first | apply Kd.R_alloc | apply Kd.R_drewN | apply Kd.R_drew)); exact Kd.R_mono HO_138001.out (fun _ hk => ⟨hk.1, hk.2.1⟩)⟩, ⟨KB BK101⟩, ⟨KB BK102⟩, ⟨KB BK120⟩, ⟨KB BK128⟩, ⟨KB BK137⟩, ⟨K5 HB GE101.out GE102.out GE120.out GE128.out GE137.out⟩⟩
         ·rw [if_neg c107] at H
          have c107b0 : decide (t150 < 0) = false := decide_eq_false c107
          clear c107
          (first | rw [c107b0] | (simp only [i64_w, i32_w]; rw [c107b0]) | skip)
          replace H := Option.bind_eq_some_iff.mp H
          obtain ⟨t152, A1080, H⟩ := H
          replace H : (if t152 = true then (laws_FnExactCacheFind.j1 kj22 l0 t119 (t136 != t119) a1_0 l1_1 a2_0 a2_1 a2_2 t115 t116 t132 t133) else (laws_FnExactCacheFind.j1 kj22 l0 t119 true a1_0 l1_1 a2_0 a2_1 a2_2 t115 t116 t132 t133)) = some r := H
          have A108 := Aside0.mk A1080
          clear A1080
          by_cases c109 : t152 = true
          ·subst c109
           have H1 : (laws_FnExactCacheFind.j1 kj22 l0 t119 (t136 != t119) a1_0 l1_1 a2_0 a2_1 a2_2 t115 t116 t132 t133) = some r := by rw [if_pos rfl] at H; exact H
           clear H
           have H := H1
           clear H1
           have H' := Aside0.mk H
           clear H
           have hnb110 := NB137_101.out
           have hnc110 := NB101_137.out
           have hnb111 := NB137_102.out
           have hnc111 := NB102_137.out
           have hnb112 := NB137_120.out
           have hnc112 := NB120_137.out
           have hnb113 := NB137_128.out
           have hnc113 := NB128_137.out
           obtain ⟨hcz114_0, hcz114_1, hfz114_0⟩ := y2 w106 BK137.out
           have hnb115 := NB120_101.out
           have hnc115 := NB101_120.out
           have hnb116 := NB120_102.out
           have hnc116 := NB102_120.out
           have hnb117 := NB120_128.out
           have hnc117 := NB128_120.out
           obtain ⟨hcz118_0, hcz118_1, hfz118_0⟩ := y2 w106 BK120.out
           go_wp2_with (first | (go_at_call 28; (with_reducible refine (laws_eqCache.calls kj22 t132 _ _ t133 t115 _ _ t116 true _ ?side1 ?side2 ?side3 ?side4 A108.out).mono ?_); (case side1 => exact KC (Kd.R_reads' HO_138001.out).2.2); (case side2 => exact (Kd.R_reads' HO_138001.out).2.1); (case side3 => exact KC (Kd.R_reads' HO_121001.out).2.2); (case side4 => exact (Kd.R_reads' HO_121001.out).2.1); rintro e w119 ⟨rfl, hb⟩; replace HO_10 := am (Kd.R_below (KR HO_10) hb); replace HO_121001 := am (Kd.R_below (KR HO_121001) hb); replace HO_129001 := am (Kd.R_below (KR HO_129001) hb); replace HO_138001 := am (Kd.R_below (KR HO_138001) hb); replace HO141 := am (Kd.R_below (KR HO141) hb); replace HO146 := am (Kd.R_below (KR HO146) hb); replace BK101 := am (BB BK101 hb); replace BK102 := am (BB BK102 hb); replace BK120 := am (BB BK120 hb); replace BK128 := am (BB BK128 hb); replace BK137 := am (BB BK137 hb); replace HB := am (below_step (K5 HB GE101.out GE102.out GE120.out GE128.out GE137.out) hb); (try clear hb); (try clear hb2); (try clear hk); (try clear hi)))
           go_meet
           case rel => exact ⟨_, ((t136 != t119)), (by first | rfl | (simp; done) | (simp [*]; done)), H', ⟨by have := HJ22.out; first | omega | exact Nat.le_refl _⟩, ⟨by (with_reducible repeat (first | apply Kd.R_alloc | apply Kd.R_drewN | apply Kd.R_drew)); exact Kd.R_mono HO_121001.out (fun _ hk => ⟨hk.1, hk.2.1⟩)⟩, ⟨by (with_reducible repeat (first | apply Kd.R_alloc | apply Kd.R_drewN | apply Kd.R_drew)); exact Kd.R_mono HO_129001.out (fun _ hk => ⟨hk.1, hk.2.1⟩)⟩, ⟨by (with_reducible repeat (first | apply Kd.R_alloc | apply Kd.R_drewN | apply Kd.R_drew)); exact Kd.R_mono HO_138001.out (fun _ hk => ⟨hk.1, hk.2.1⟩)⟩, ⟨KB BK101⟩, ⟨KB BK102⟩, ⟨KB BK120⟩, ⟨KB BK128⟩, ⟨KB BK137⟩, ⟨K5 HB GE101.out GE102.out GE120.out GE128.out GE137.out⟩⟩
          ·replace c109 := Bool.eq_false_iff.mpr c109
           subst c109
           have H1 : (laws_FnExactCacheFind.j1 kj22 l0 t119 true a1_0 l1_1 a2_0 a2_1 a2_2 t115 t116 t132 t133) = some r := by rw [if_neg (show ¬ (false = true) by decide)] at H; exact H
           clear H
           have H := H1
           clear H1
           have H' := Aside0.mk H
           clear H
           have hnb120 := NB137_101.out
           have hnc120 := NB101_137.out
           have hnb121 := NB137_102.out
           have hnc121 := NB102_137.out
           have hnb122 := NB137_120.out
           have hnc122 := NB120_137.out
           have hnb123 := NB137_128.out
           have hnc123 := NB128_137.out
           obtain ⟨hcz124_0, hcz124_1, hfz124_0⟩ := y2 w106 BK137.out
           have hnb125 := NB120_101.out
           have hnc125 := NB101_120.out
           have hnb126 := NB120_102.out
           have hnc126 := NB102_120.out
           have hnb127 := NB120_128.out
           have hnc127 := NB128_120.out
           obtain ⟨hcz128_0, hcz128_1, hfz128_0⟩ := y2 w106 BK120.out
           go_wp2_with (first | (go_at_call 28; (with_reducible refine (laws_eqCache.calls kj22 t132 _ _ t133 t115 _ _ t116 false _ ?side1 ?side2 ?side3 ?side4 A108.out).mono ?_); (case side1 => exact KC (Kd.R_reads' HO_138001.out).2.2); (case side2 => exact (Kd.R_reads' HO_138001.out).2.1); (case side3 => exact KC (Kd.R_reads' HO_121001.out).2.2); (case side4 => exact (Kd.R_reads' HO_121001.out).2.1); rintro e w129 ⟨rfl, hb⟩; replace HO_10 := am (Kd.R_below (KR HO_10) hb); replace HO_121001 := am (Kd.R_below (KR HO_121001) hb); replace HO_129001 := am (Kd.R_below (KR HO_129001) hb); replace HO_138001 := am (Kd.R_below (KR HO_138001) hb); replace HO141 := am (Kd.R_below (KR HO141) hb); replace HO146 := am (Kd.R_below (KR HO146) hb); replace BK101 := am (BB BK101 hb); replace BK102 := am (BB BK102 hb); replace BK120 := am (BB BK120 hb); replace BK128 := am (BB BK128 hb); replace BK137 := am (BB BK137 hb); replace HB := am (below_step (K5 HB GE101.out GE102.out GE120.out GE128.out GE137.out) hb); (try clear hb); (try clear hb2); (try clear hk); (try clear hi)))
           go_meet
           case rel => exact ⟨_, (true), (by first | rfl | (simp; done) | (simp [*]; done)), H', ⟨by have := HJ22.out; first | omega | exact Nat.le_refl _⟩, ⟨by (with_reducible repeat (first | apply Kd.R_alloc | apply Kd.R_drewN | apply Kd.R_drew)); exact Kd.R_mono HO_121001.out (fun _ hk => ⟨hk.1, hk.2.1⟩)⟩, ⟨by (with_reducible repeat (first | apply Kd.R_alloc | apply Kd.R_drewN | apply Kd.R_drew)); exact Kd.R_mono HO_129001.out (fun _ hk => ⟨hk.1, hk.2.1⟩)⟩, ⟨by (with_reducible repeat (first | apply Kd.R_alloc | apply Kd.R_drewN | apply Kd.R_drew)); exact Kd.R_mono HO_138001.out (fun _ hk => ⟨hk.1, hk.2.1⟩)⟩, ⟨KB BK101⟩, ⟨KB BK102⟩, ⟨KB BK120⟩, ⟨KB BK128⟩, ⟨KB BK137⟩, ⟨K5 HB GE101.out GE102.out GE120.out GE128.out GE137.out⟩⟩
        case rest =>
         clear HC92
         try clear c1
         try clear c2
         try clear p2
         try clear c3
         try clear c4
         try clear c6
         try clear c7
         try clear c8
         try clear c10
         try clear c11
         try clear c12
         try clear c24
         try clear c25
         try clear c27
         try clear c28
         try clear c30
         try clear c41
         try clear c45
         try clear c46
         try clear c62
         try clear c63
         try clear c64
         try clear c65
         try clear c66
         try clear c68
         try clear c69
         try clear c70
         try clear c73
         try clear c74
         try clear c75
         try clear c76
         try clear c78
         try clear c79
         try clear c80
         try clear c83
         try clear c86
         try clear c89
         try clear c101
         try clear c102
         try clear c103
         try clear c104
         try clear c107
         try clear c107b0
         try clear c109
         try clear c110
         try clear c111
         try clear c112
         try clear c113
         try clear c115
         try clear c116
         try clear c117
         try clear c120
         try clear c121
         try clear c122
         try clear c123
         try clear c125
         try clear c126
         try clear c127
         try clear hcz105_0
         try clear hcz105_1
         try clear hcz114_0
         try clear hcz114_1
         try clear hcz118_0
         try clear hcz118_1
         try clear hcz124_0
         try clear hcz124_1
         try clear hcz128_0
         try clear hcz128_1
         try clear hcz67_0
         try clear hcz67_1
         try clear hcz71_0
         try clear hcz71_1
         try clear hcz77_0
         try clear hcz77_1
         try clear hcz81_0
         try clear hcz81_1
         try clear hfz105_0
         try clear hfz114_0
         try clear hfz118_0
         try clear hfz124_0
         try clear hfz128_0
         try clear hfz67_0
         try clear hfz71_0
         try clear hfz77_0
         try clear hfz81_0
         try clear p2
         obtain ⟨kq, x88_91, rfl, HA, HJ91, HO_121001, HO_129001, HO_138001, BK101, BK102, BK120, BK128, BK137, HB⟩ := hcut
         have hl129001_91 := (Kd.R_reads' HO_129001.out).1
         rw [hl129001_91] at HO_129001
         (try simp only [hl129001_91])
         (try simp only [hl129001_91] at BK101)
         (try simp only [hl129001_91] at BK102)
         (try simp only [hl129001_91] at BK120)
         (try simp only [hl129001_91] at BK128)
         (try simp only [hl129001_91] at BK137)
         (try simp only [hl129001_91] at HO_121001)
         (try simp only [hl129001_91] at HO_138001)
         cases kq with
         | zero => exact absurd HA.out (by simp [laws_FnExactCacheFind.j1])
         | succ kj91 =>
          have H := HA.out
          clear HA
          simp only [laws_FnExactCacheFind.j1] at H
          by_cases c130 : x88_91 = true
          ·subst c130
           have H1 : (some false) = some r := by rw [if_pos rfl] at H; exact H
           clear H
           have H := H1
           clear H1
           exact absurd ((Option.some.inj H).trans HR_.out) (by decide)
          ·replace c130 := Bool.eq_false_iff.mpr c130
           subst c130
           have H1 : ((laws_markCache.f kj91 t132 t133 1).bind fun bt153 => ((laws_heldCache.f kj91 t132 bt153.2 1).bind fun t155 => (if t155 < 0 then (some false) else (if t155 = bt153.1 then ((laws_toRuleS.f kj91 l0).bind fun t156 => ((laws_toCache.f kj91 a1_0 l1_1).bind fun bt159 => ((laws_toCall.f a2_0 a2_1 a2_2).bind fun bt163 => ((impl_CacheFind.f kj91 t156 bt159.1 bt159.2 bt163.1 bt163.2.1 bt163.2.2).bind fun bt166 => ((laws_eqCache.f kj91 bt166.1 bt166.2.1 t115 t116).bind fun t172 => (if t172 = true then (laws_FnExactCacheFind.j2 kj91 bt153.1 (bt166.2.2 != t119) t132 bt153.2) else (laws_FnExactCacheFind.j2 kj91 bt153.1 true t132 bt153.2))))))) else (some false))))) = some r := by rw [if_neg (show ¬ (false = true) by decide)] at H; exact H
           clear H
           have H := H1
           clear H1
           replace H := Option.bind_eq_some_iff.mp H
           obtain ⟨⟨t153, t154⟩, A1310, H⟩ := H
           replace H : ((laws_heldCache.f kj91 t132 t154 1).bind fun t155 => (if t155 < 0 then (some false) else (if t155 = t153 then ((laws_toRuleS.f kj91 l0).bind fun t156 => ((laws_toCache.f kj91 a1_0 l1_1).bind fun bt159 => ((laws_toCall.f a2_0 a2_1 a2_2).bind fun bt163 => ((impl_CacheFind.f kj91 t156 bt159.1 bt159.2 bt163.1 bt163.2.1 bt163.2.2).bind fun bt166 => ((laws_eqCache.f kj91 bt166.1 bt166.2.1 t115 t116).bind fun t172 => (if t172 = true then (laws_FnExactCacheFind.j2 kj91 t153 (bt166.2.2 != t119) t132 t154) else (laws_FnExactCacheFind.j2 kj91 t153 true t132 t154))))))) else (some false)))) = some r := H
           have A131 := Aside0.mk A1310
           clear A1310
           replace H := Option.bind_eq_some_iff.mp H
           obtain ⟨t155, A1320, H⟩ := H
           replace H : (if t155 < 0 then (some false) else (if t155 = t153 then ((laws_toRuleS.f kj91 l0).bind fun t156 => ((laws_toCache.f kj91 a1_0 l1_1).bind fun bt159 => ((laws_toCall.f a2_0 a2_1 a2_2).bind fun bt163 => ((impl_CacheFind.f kj91 t156 bt159.1 bt159.2 bt163.1 bt163.2.1 bt163.2.2).bind fun bt166 => ((laws_eqCache.f kj91 bt166.1 bt166.2.1 t115 t116).bind fun t172 => (if t172 = true then (laws_FnExactCacheFind.j2 kj91 t153 (bt166.2.2 != t119) t132 t154) else (laws_FnExactCacheFind.j2 kj91 t153 true t132 t154))))))) else (some false))) = some r := H
           have A132 := Aside0.mk A1320
           clear A1320
           by_cases c133 : t155 < 0
           ·rw [if_pos c133] at H
            have c133b0 : decide (t155 < 0) = true := decide_eq_true c133
            clear c133
            exact absurd ((Option.some.inj H).trans HR_.out) (by decide)
           ·rw [if_neg c133] at H
            have c133b0 : decide (t155 < 0) = false := decide_eq_false c133
            clear c133
            by_cases c134 : t155 = t153
            ·rw [if_pos c134] at H
             have c134b0 : (t155 == t153) = true := beq_iff_eq.mpr c134
             have c134b1 : (t155 != t153) = false := bne_eq_false_iff_eq.mpr c134
             clear c134
             replace H := Option.bind_eq_some_iff.mp H
             obtain ⟨t156, A1350, H⟩ := H
             replace H : ((laws_toCache.f kj91 a1_0 l1_1).bind fun bt159 => ((laws_toCall.f a2_0 a2_1 a2_2).bind fun bt163 => ((impl_CacheFind.f kj91 t156 bt159.1 bt159.2 bt163.1 bt163.2.1 bt163.2.2).bind fun bt166 => ((laws_eqCache.f kj91 bt166.1 bt166.2.1 t115 t116).bind fun t172 => (if t172 = true then (laws_FnExactCacheFind.j2 kj91 t153 (bt166.2.2 != t119) t132 t154) else (laws_FnExactCacheFind.j2 kj91 t153 true t132 t154)))))) = some r := H
             have A135 := Aside0.mk A1350
             clear A1350
             replace H := Option.bind_eq_some_iff.mp H
             obtain ⟨⟨t159, t160⟩, A1360, H⟩ := H
             replace H : ((laws_toCall.f a2_0 a2_1 a2_2).bind fun bt163 => ((impl_CacheFind.f kj91 t156 t159 t160 bt163.1 bt163.2.1 bt163.2.2).bind fun bt166 => ((laws_eqCache.f kj91 bt166.1 bt166.2.1 t115 t116).bind fun t172 => (if t172 = true then (laws_FnExactCacheFind.j2 kj91 t153 (bt166.2.2 != t119) t132 t154) else (laws_FnExactCacheFind.j2 kj91 t153 true t132 t154))))) = some r := H
             have A136 := Aside0.mk A1360
             clear A1360
             replace H := Option.bind_eq_some_iff.mp H
             obtain ⟨⟨t163, t164, t165⟩, A1370, H⟩ := H
             replace H : ((impl_CacheFind.f kj91 t156 t159 t160 t163 t164 t165).bind fun bt166 => ((laws_eqCache.f kj91 bt166.1 bt166.2.1 t115 t116).bind fun t172 => (if t172 = true then (laws_FnExactCacheFind.j2 kj91 t153 (bt166.2.2 != t119) t132 t154) else (laws_FnExactCacheFind.j2 kj91 t153 true t132 t154)))) = some r := H
             have A137 := Aside0.mk A1370
             clear A1370
             replace H := Option.bind_eq_some_iff.mp H
             obtain ⟨⟨t166, t167, t170⟩, A1380, H⟩ := H
             replace H : ((laws_eqCache.f kj91 t166 t167 t115 t116).bind fun t172 => (if t172 = true then (laws_FnExactCacheFind.j2 kj91 t153 (t170 != t119) t132 t154) else (laws_FnExactCacheFind.j2 kj91 t153 true t132 t154))) = some r := H
             have A138 := Aside0.mk A1380
             clear A1380
             have HC139 := Aside0.mk H
             clear H
             have hnb140 := NB137_101.out
             have hnc140 := NB101_137.out
             have hnb141 := NB137_102.out
             have hnc141 := NB102_137.out
             have hnb142 := NB137_120.out
             have hnc142 := NB120_137.out
             have hnb143 := NB137_128.out
             have hnc143 := NB128_137.out
             obtain ⟨hcz144_0, hcz144_1, hfz144_0⟩ := y2 wc BK137.out
             try go_wp2_with (first | ((with_reducible refine gate_callee (f := 46) rfl ?_); refine goesL_ (some 91) rfl rfl Try.func46 (by kernel_rfl) rfl #[.agg #[.int .i64 t132, .slice Ao59 t133.length co59], .int .i64 1] rfl MT ?_; (with_reducible refine (laws_markCache.calls kj91 t132 (fun k_ => some k_ = (.slice Ao59 t133.length co59 : Value).ownBlock) (.slice Ao59 t133.length co59) t133 1 t153 t154 w _ ?side1 ?side2 A131.out).mono ?_); (case side1 => exact K5 HB GE101.out GE102.out GE120.out GE128.out GE137.out); (case side2 => exact Kd.R_tight rfl HO_138001.out); rintro e w145 ⟨rfl, hy0, hb, hkp⟩; refine ⟨_, rfl, ?_⟩; replace HO_121001 := am (Kd.R_mono (ok' := fun k_ => some k_ ≠ (.slice Ao50 t151.length co50 : Value).ownBlock ∧ some k_ ≠ (.slice Ao59 t133.length co59 : Value).ownBlock) (Kd.R_keptB (HO_121001.out) hkp (fun k_ hk_ hs_ => (hk_.2) hs_)) (fun k_ hk_ => ⟨hk_.1.1, hk_.1.2⟩)); replace HO_129001 := am (Kd.R_mono (ok' := fun k_ => some k_ ≠ (.slice Ao39 t116.length co39 : Value).ownBlock ∧ some k_ ≠ (.slice Ao59 t133.length co59 : Value).ownBlock) (Kd.R_keptB (HO_129001.out) hkp (fun k_ hk_ hs_ => (hk_.2) hs_)) (fun k_ hk_ => ⟨hk_.1.1, hk_.1.2⟩)); replace BK101 := am (blk_kept (KB BK101) hkp (fun hs_ => (fun e_ => (Kd.R_ne HO_138001.out BK101.out (by decide)) e_) hs_)); replace BK102 := am (blk_kept (KB BK102) hkp (fun hs_ => (fun e_ => (Kd.R_ne HO_138001.out BK102.out (by decide)) e_) hs_)); replace BK120 := am (blk_kept (KB BK120) hkp (fun hs_ => (fun e_ => (Kd.R_ne HO_138001.out BK120.out (by decide)) e_) hs_)); replace BK128 := am (blk_kept (KB BK128) hkp (fun hs_ => (fun e_ => (Kd.R_ne HO_138001.out BK128.out (by decide)) e_) hs_)); replace BK137 := am (blk_kept (KB BK137) hkp (fun hs_ => (fun e_ => (Kd.R_ne HO_138001.out BK137.out (by decide)) e_) hs_)); replace HO_138001 := am (Kd.R_reok rfl hy0 (fun k_ e_ => HO_138001.out.1 k_ e_)); replace HB := am (hb); (try clear hb); (try clear hkp); (try clear hy0); obtain ⟨hcz146_0, hcz146_1, hfz146_0⟩ := y2 w145 BK137.out) | ((with_reducible refine gate_callee (f := 47) rfl ?_); refine goesL_ (some 94) rfl rfl Try.func47 (by kernel_rfl) rfl #[.agg #[.int .i64 t132, .slice Ao59 t154.length co59], .int .i64 1] rfl (by (try simp only [List.map_toArray, List.map_cons, List.map_nil]); first | done | (rw [show t154.length = t133.length from (Kd.R_reads' HO_138001.out).1.symm] <;> rfl) | rfl | (simp only [List.length_drop, List.length_take]; rfl)) ?_; (with_reducible refine (laws_heldCache.calls kj91 t132 _ _ t154 1 t155 _ ?side1 ?side2 A132.out).mono ?_); (case side1 => exact KC (Kd.R_reads' HO_138001.out).2.2); (case side2 => rw [show t154.length = t133.length from (Kd.R_reads' HO_138001.out).1.symm]; exact (Kd.R_reads' HO_138001.out).2.1); rintro e w147 ⟨rfl, hb⟩; refine ⟨_, rfl, ?_⟩; replace HO_121001 := am (Kd.R_below (KR HO_121001) hb); replace HO_129001 := am (Kd.R_below (KR HO_129001) hb); replace HO_138001 := am (Kd.R_below (KR HO_138001) hb); replace BK101 := am (BB BK101 hb); replace BK102 := am (BB BK102 hb); replace BK120 := am (BB BK120 hb); replace BK128 := am (BB BK128 hb); replace BK137 := am (BB BK137 hb); replace HB := am (below_step (K5 HB GE101.out GE102.out GE120.out GE128.out GE137.out) hb); (try clear hb); (try clear hb2); (try clear hk); (try clear hi)))
             replace HO_121001 := am (Kd.R_drew HO_121001.out)
             replace HO_129001 := am (Kd.R_drew HO_129001.out)
             replace HO_138001 := am (Kd.R_drew HO_138001.out)
             replace BK101 := am (blk_drew BK101.out)
             replace BK102 := am (blk_drew BK102.out)
             replace BK120 := am (blk_drew BK120.out)
             replace BK128 := am (blk_drew BK128.out)
             replace BK137 := am (blk_drew BK137.out)
             replace HB := am (below_drew1 HB.out)
             refine start_ (n := 13) (S := fun w' => ce2 w' gb101 (.int .i64 a1_0) (.slice A1_1 l1_1.length c1_1) (de3 w' gb102 (.int .i64 a2_0) (.int .i64 a2_1) (.int .i64 a2_2))) (ds := []) (tf 0 13) (by kernel_rfl) rfl rfl ⟨z0 _ BK101.out, z1 _ BK101.out, z0 _ BK102.out, z1 _ BK102.out, z2 _ BK102.out⟩ (fun hHeld => ?_); refine with_tabW laws_FnExactCacheFind.tab31 laws_FnExactCacheFind.bits31 (fun HT_ HW_ => ?_)
             generalize w147.drew = w148 at HO_121001 HO_129001 HO_138001 BK101 BK102 BK120 BK128 BK137 HB hHeld ⊢
             refine pv HT_ 0 101 (tf 1 12) ?_
             refine tk 2 (some 103) (tr [1, 1, 1, 10]) (take_ofW HT_.out HW_.out (by kernel_rfl)) hHeld ?_
             refine tk 4 (some 105) (tr [1, 1, 1, 1, 1, 8]) (take_ofW HT_.out HW_.out (by kernel_rfl)) hHeld ?_
             refine join_ (σ := Value × Value × Value × Nat) 2 (tf 11 2) (fun s_ => [(102, s_.1), (104, .agg #[.int .i64 t159, s_.2.1]), (106, .agg #[.int .i64 t163, .int .i64 t164, .int .i64 t165]), (107, .tuple #[.agg #[.int .i64 t166, s_.2.2.1], .int .i64 t170]), (17, .pointer (some ⟨s_.2.2.2, 0, none⟩)), (100, .tuple #[.agg #[.int .i64 t166, s_.2.2.1], .int .i64 t170]), (108, .agg #[.int .i64 t166, s_.2.2.1]), (109, .int .i64 t170)]) (fun s_ w' => (w'.cell? ⟨gb101, 0, none⟩ = some (.int .i64 a1_0) ∧ w'.cell? ⟨gb101, 1, none⟩ = some (.slice A1_1 l1_1.length c1_1) ∧ w'.cell? ⟨gb102, 0, none⟩ = some (.int .i64 a2_0) ∧ w'.cell? ⟨gb102, 1, none⟩ = some (.int .i64 a2_1) ∧ w'.cell? ⟨gb102, 2, none⟩ = some (.int .i64 a2_2)) ∧ (Kd.R k34 34 w' w.heap.size (fun _ => True) s_.1 t156) ∧ (Kd.R k108 108 w' w.heap.size (fun k_ => some k_ ≠ (s_.2.2.1 : Value).ownBlock ∧ some k_ ≠ (.slice Ao39 t116.length co39 : Value).ownBlock ∧ some k_ ≠ (.slice Ao50 t151.length co50 : Value).ownBlock ∧ some k_ ≠ (.slice Ao59 t133.length co59 : Value).ownBlock) s_.2.1 t160) ∧ (Kd.R k108 108 w' w.heap.size (fun k_ => some k_ ≠ (s_.2.1 : Value).ownBlock ∧ some k_ ≠ (.slice Ao39 t116.length co39 : Value).ownBlock ∧ some k_ ≠ (.slice Ao50 t151.length co50 : Value).ownBlock ∧ some k_ ≠ (.slice Ao59 t133.length co59 : Value).ownBlock) s_.2.2.1 t167) ∧ (Kd.R k108 108 w' w.heap.size (fun k_ => some k_ ≠ (s_.2.1 : Value).ownBlock ∧ some k_ ≠ (s_.2.2.1 : Value).ownBlock ∧ some k_ ≠ (.slice Ao50 t151.length co50 : Value).ownBlock ∧ some k_ ≠ (.slice Ao59 t133.length co59 : Value).ownBlock) (.slice Ao39 t116.length co39) t116) ∧ (Kd.R k108 108 w' w.heap.size (fun k_ => some k_ ≠ (s_.2.1 : Value).ownBlock ∧ some k_ ≠ (s_.2.2.1 : Value).ownBlock ∧ some k_ ≠ (.slice Ao39 t116.length co39 : Value).ownBlock ∧ some k_ ≠ (.slice Ao59 t133.length co59 : Value).ownBlock) (.slice Ao50 t151.length co50) t151) ∧ (Kd.R k108 108 w' w.heap.size (fun k_ => some k_ ≠ (s_.2.1 : Value).ownBlock ∧ some k_ ≠ (s_.2.2.1 : Value).ownBlock ∧ some k_ ≠ (.slice Ao39 t116.length co39 : Value).ownBlock ∧ some k_ ≠ (.slice Ao50 t151.length co50 : Value).ownBlock) (.slice Ao59 t133.length co59) t154) ∧ (w'.heap[gb101]? = some (.cells #[.int .i64 a1_0, .slice A1_1 l1_1.length c1_1] 39 (0, 0))) ∧ (w'.heap[gb102]? = some (.cells #[.int .i64 a2_0, .int .i64 a2_1, .int .i64 a2_2] 69 (0, 0))) ∧ (w'.heap[gb120]? = some (.cells #[.int .i64 t115, .slice Ao39 t116.length co39] 46 (0, 0))) ∧ (w'.heap[gb128]? = some (.cells #[.int .i64 t124, .slice Ao50 t151.length co50] 46 (0, 0))) ∧ (w'.heap[gb137]? = some (.cells #[.int .i64 t132, .slice Ao59 t133.length co59] 46 (0, 0))) ∧ (w'.heap[s_.2.2.2]? = some (.cells #[.int .i64 0, .slice none 0 0] 46 (0, 0))) ∧ (w.heap.size ≤ s_.2.2.2) ∧ (w.heap.size ≤ s_.2.2.2) ∧ (gb101 ≠ s_.2.2.2) ∧ (s_.2.2.2 ≠ gb101) ∧ (gb102 ≠ s_.2.2.2) ∧ (s_.2.2.2 ≠ gb102) ∧ (gb120 ≠ s_.2.2.2) ∧ (s_.2.2.2 ≠ gb120) ∧ (gb128 ≠ s_.2.2.2) ∧ (s_.2.2.2 ≠ gb128) ∧ (gb137 ≠ s_.2.2.2) ∧ (s_.2.2.2 ≠ gb137) ∧ (Below w.heap.size w w')) ?_ ?_
             rotate_left
             ·intro hJ1_3_5_6_10
              refine join_ (σ := Value × Value × Value) 3 (tf 10 3) (fun s_ => [(102, s_.1), (104, .agg #[.int .i64 t159, s_.2.1]), (106, .agg #[.int .i64 t163, .int .i64 t164, .int .i64 t165]), (107, .tuple #[.agg #[.int .i64 t166, s_.2.2], .int .i64 t170]), (100, .tuple #[.agg #[.int .i64 t166, s_.2.2], .int .i64 t170]), (108, .agg #[.int .i64 t166, s_.2.2]), (109, .int .i64 t170)]) (fun s_ w' => (w'.cell? ⟨gb101, 0, none⟩ = some (.int .i64 a1_0) ∧ w'.cell? ⟨gb101, 1, none⟩ = some (.slice A1_1 l1_1.length c1_1) ∧ w'.cell? ⟨gb102, 0, none⟩ = some (.int .i64 a2_0) ∧ w'.cell? ⟨gb102, 1, none⟩ = some (.int .i64 a2_1) ∧ w'.cell? ⟨gb102, 2, none⟩ = some (.int .i64 a2_2)) ∧ (Kd.R k34 34 w' w.heap.size (fun _ => True) s_.1 t156) ∧ (Kd.R k108 108 w' w.heap.size (fun k_ => some k_ ≠ (s_.2.2 : Value).ownBlock ∧ some k_ ≠ (.slice Ao39 t116.length co39 : Value).ownBlock ∧ some k_ ≠ (.slice Ao50 t151.length co50 : Value).ownBlock ∧ some k_ ≠ (.slice Ao59 t133.length co59 : Value).ownBlock) s_.2.1 t160) ∧ (Kd.R k108 108 w' w.heap.size (fun k_ => some k_ ≠ (s_.2.1 : Value).ownBlock ∧ some k_ ≠ (.slice Ao39 t116.length co39 : Value).ownBlock ∧ some k_ ≠ (.slice Ao50 t151.length co50 : Value).ownBlock ∧ some k_ ≠ (.slice Ao59 t133.length co59 : Value).ownBlock) s_.2.2 t167) ∧ (Kd.R k108 108 w' w.heap.size (fun k_ => some k_ ≠ (s_.2.1 : Value).ownBlock ∧ some k_ ≠ (s_.2.2 : Value).ownBlock ∧ some k_ ≠ (.slice Ao50 t151.length co50 : Value).ownBlock ∧ some k_ ≠ (.slice Ao59 t133.length co59 : Value).ownBlock) (.slice Ao39 t116.length co39) t116) ∧ (Kd.R k108 108 w' w.heap.size (fun k_ => some k_ ≠ (s_.2.1 : Value).ownBlock ∧ some k_ ≠ (s_.2.2 : Value).ownBlock ∧ some k_ ≠ (.slice Ao39 t116.length co39 : Value).ownBlock ∧ some k_ ≠ (.slice Ao59 t133.length co59 : Value).ownBlock) (.slice Ao50 t151.length co50) t151) ∧ (Kd.R k108 108 w' w.heap.size (fun k_ => some k_ ≠ (s_.2.1 : Value).ownBlock ∧ some k_ ≠ (s_.2.2 : Value).ownBlock ∧ some k_ ≠ (.slice Ao39 t116.length co39 : Value).ownBlock ∧ some k_ ≠ (.slice Ao50 t151.length co50 : Value).ownBlock) (.slice Ao59 t133.length co59) t154) ∧ (w'.heap[gb101]? = some (.cells #[.int .i64 a1_0, .slice A1_1 l1_1.length c1_1] 39 (0, 0))) ∧ (w'.heap[gb102]? = some (.cells #[.int .i64 a2_0, .int .i64 a2_1, .int .i64 a2_2] 69 (0, 0))) ∧ (w'.heap[gb120]? = some (.cells #[.int .i64 t115, .slice Ao39 t116.length co39] 46 (0, 0))) ∧ (w'.heap[gb128]? = some (.cells #[.int .i64 t124, .slice Ao50 t151.length co50] 46 (0, 0))) ∧ (w'.heap[gb137]? = some (.cells #[.int .i64 t132, .slice Ao59 t133.length co59] 46 (0, 0))) ∧ (Below w.heap.size w w')) ?_ ?_
              rotate_left
              ·intro hJ1_3_5_6
               refine join_ (σ := Value × Value × Nat) 6 (tr [6, 4, 1, 2]) (fun s_ => [(102, s_.1), (104, .agg #[.int .i64 t159, s_.2.1]), (106, .agg #[.int .i64 t163, .int .i64 t164, .int .i64 t165]), (17, .pointer (some ⟨s_.2.2, 0, none⟩))]) (fun s_ w' => (w'.cell? ⟨gb101, 0, none⟩ = some (.int .i64 a1_0) ∧ w'.cell? ⟨gb101, 1, none⟩ = some (.slice A1_1 l1_1.length c1_1) ∧ w'.cell? ⟨gb102, 0, none⟩ = some (.int .i64 a2_0) ∧ w'.cell? ⟨gb102, 1, none⟩ = some (.int .i64 a2_1) ∧ w'.cell? ⟨gb102, 2, none⟩ = some (.int .i64 a2_2)) ∧ (Kd.R k34 34 w' w.heap.size (fun _ => True) s_.1 t156) ∧ (Kd.R k108 108 w' w.heap.size (fun k_ => some k_ ≠ (.slice Ao39 t116.length co39 : Value).ownBlock ∧ some k_ ≠ (.slice Ao50 t151.length co50 : Value).ownBlock ∧ some k_ ≠ (.slice Ao59 t133.length co59 : Value).ownBlock) s_.2.1 t160) ∧ (Kd.R k108 108 w' w.heap.size (fun k_ => some k_ ≠ (s_.2.1 : Value).ownBlock ∧ some k_ ≠ (.slice Ao50 t151.length co50 : Value).ownBlock ∧ some k_ ≠ (.slice Ao59 t133.length co59 : Value).ownBlock) (.slice Ao39 t116.length co39) t116) ∧ (Kd.R k108 108 w' w.heap.size (fun k_ => some k_ ≠ (s_.2.1 : Value).ownBlock ∧ some k_ ≠ (.slice Ao39 t116.length co39 : Value).ownBlock ∧ some k_ ≠ (.slice Ao59 t133.length co59 : Value).ownBlock) (.slice Ao50 t151.length co50) t151) ∧ (Kd.R k108 108 w' w.heap.size (fun k_ => some k_ ≠ (s_.2.1 : Value).ownBlock ∧ some k_ ≠ (.slice Ao39 t116.length co39 : Value).ownBlock ∧ some k_ ≠ (.slice Ao50 t151.length co50 : Value).ownBlock) (.slice Ao59 t133.length co59) t154) ∧ (w'.heap[gb101]? = some (.cells #[.int .i64 a1_0, .slice A1_1 l1_1.length c1_1] 39 (0, 0))) ∧ (w'.heap[gb102]? = some (.cells #[.int .i64 a2_0, .int .i64 a2_1, .int .i64 a2_2] 69 (0, 0))) ∧ (w'.heap[gb120]? = some (.cells #[.int .i64 t115, .slice Ao39 t116.length co39] 46 (0, 0))) ∧ (w'.heap[gb128]? = some (.cells #[.int .i64 t124, .slice Ao50 t151.length co50] 46 (0, 0))) ∧ (w'.heap[gb137]? = some (.cells #[.int .i64 t132, .slice Ao59 t133.length co59] 46 (0, 0))) ∧ (w'.heap[s_.2.2]? = some (.cells #[.int .i64 0, .slice none 0 0] 46 (0, 0))) ∧ (w.heap.size ≤ s_.2.2) ∧ (w.heap.size ≤ s_.2.2) ∧ (gb101 ≠ s_.2.2) ∧ (s_.2.2 ≠ gb101) ∧ (gb102 ≠ s_.2.2) ∧ (s_.2.2 ≠ gb102) ∧ (gb120 ≠ s_.2.2) ∧ (s_.2.2 ≠ gb120) ∧ (gb128 ≠ s_.2.2) ∧ (s_.2.2 ≠ gb128) ∧ (gb137 ≠ s_.2.2) ∧ (s_.2.2 ≠ gb137) ∧ (Below w.heap.size w w')) ?_ ?_
               rotate_left
               ·intro hJ1_3_5_10
                refine join_ (σ := Value × Value) 7 (tf 6 7) (fun s_ => [(102, s_.1), (104, .agg #[.int .i64 t159, s_.2]), (106, .agg #[.int .i64 t163, .int .i64 t164, .int .i64 t165])]) (fun s_ w' => (w'.cell? ⟨gb101, 0, none⟩ = some (.int .i64 a1_0) ∧ w'.cell? ⟨gb101, 1, none⟩ = some (.slice A1_1 l1_1.length c1_1) ∧ w'.cell? ⟨gb102, 0, none⟩ = some (.int .i64 a2_0) ∧ w'.cell? ⟨gb102, 1, none⟩ = some (.int .i64 a2_1) ∧ w'.cell? ⟨gb102, 2, none⟩ = some (.int .i64 a2_2)) ∧ (Kd.R k34 34 w' w.heap.size (fun _ => True) s_.1 t156) ∧ (Kd.R k108 108 w' w.heap.size (fun k_ => some k_ ≠ (.slice Ao39 t116.length co39 : Value).ownBlock ∧ some k_ ≠ (.slice Ao50 t151.length co50 : Value).ownBlock ∧ some k_ ≠ (.slice Ao59 t133.length co59 : Value).ownBlock) s_.2 t160) ∧ (Kd.R k108 108 w' w.heap.size (fun k_ => some k_ ≠ (s_.2 : Value).ownBlock ∧ some k_ ≠ (.slice Ao50 t151.length co50 : Value).ownBlock ∧ some k_ ≠ (.slice Ao59 t133.length co59 : Value).ownBlock) (.slice Ao39 t116.length co39) t116) ∧ (Kd.R k108 108 w' w.heap.size (fun k_ => some k_ ≠ (s_.2 : Value).ownBlock ∧ some k_ ≠ (.slice Ao39 t116.length co39 : Value).ownBlock ∧ some k_ ≠ (.slice Ao59 t133.length co59 : Value).ownBlock) (.slice Ao50 t151.length co50) t151) ∧ (Kd.R k108 108 w' w.heap.size (fun k_ => some k_ ≠ (s_.2 : Value).ownBlock ∧ some k_ ≠ (.slice Ao39 t116.length co39 : Value).ownBlock ∧ some k_ ≠ (.slice Ao50 t151.length co50 : Value).ownBlock) (.slice Ao59 t133.length co59) t154) ∧ (w'.heap[gb101]? = some (.cells #[.int .i64 a1_0, .slice A1_1 l1_1.length c1_1] 39 (0, 0))) ∧ (w'.heap[gb102]? = some (.cells #[.int .i64 a2_0, .int .i64 a2_1, .int .i64 a2_2] 69 (0, 0))) ∧ (w'.heap[gb120]? = some (.cells #[.int .i64 t115, .slice Ao39 t116.length co39] 46 (0, 0))) ∧ (w'.heap[gb128]? = some (.cells #[.int .i64 t124, .slice Ao50 t151.length co50] 46 (0, 0))) ∧ (w'.heap[gb137]? = some (.cells #[.int .i64 t132, .slice Ao59 t133.length co59] 46 (0, 0))) ∧ (Below w.heap.size w w')) ?_ ?_
                rotate_left
                ·intro hJ1_3_5
                 refine join_ (σ := Value × Value × Nat) 7 (tr [5, 5, 1, 2]) (fun s_ => [(102, s_.1), (104, .agg #[.int .i64 t159, s_.2.1]), (17, .pointer (some ⟨s_.2.2, 0, none⟩))]) (fun s_ w' => (w'.cell? ⟨gb101, 0, none⟩ = some (.int .i64 a1_0) ∧ w'.cell? ⟨gb101, 1, none⟩ = some (.slice A1_1 l1_1.length c1_1) ∧ w'.cell? ⟨gb102, 0, none⟩ = some (.int .i64 a2_0) ∧ w'.cell? ⟨gb102, 1, none⟩ = some (.int .i64 a2_1) ∧ w'.cell? ⟨gb102, 2, none⟩ = some (.int .i64 a2_2)) ∧ (Kd.R k34 34 w' w.heap.size (fun _ => True) s_.1 t156) ∧ (Kd.R k108 108 w' w.heap.size (fun k_ => some k_ ≠ (.slice Ao39 t116.length co39 : Value).ownBlock ∧ some k_ ≠ (.slice Ao50 t151.length co50 : Value).ownBlock ∧ some k_ ≠ (.slice Ao59 t133.length co59 : Value).ownBlock) s_.2.1 t160) ∧ (Kd.R k108 108 w' w.heap.size (fun k_ => some k_ ≠ (s_.2.1 : Value).ownBlock ∧ some k_ ≠ (.slice Ao50 t151.length co50 : Value).ownBlock ∧ some k_ ≠ (.slice Ao59 t133.length co59 : Value).ownBlock) (.slice Ao39 t116.length co39) t116) ∧ (Kd.R k108 108 w' w.heap.size (fun k_ => some k_ ≠ (s_.2.1 : Value).ownBlock ∧ some k_ ≠ (.slice Ao39 t116.length co39 : Value).ownBlock ∧ some k_ ≠ (.slice Ao59 t133.length co59 : Value).ownBlock) (.slice Ao50 t151.length co50) t151) ∧ (Kd.R k108 108 w' w.heap.size (fun k_ => some k_ ≠ (s_.2.1 : Value).ownBlock ∧ some k_ ≠ (.slice Ao39 t116.length co39 : Value).ownBlock ∧ some k_ ≠ (.slice Ao50 t151.length co50 : Value).ownBlock) (.slice Ao59 t133.length co59) t154) ∧ (w'.heap[gb101]? = some (.cells #[.int .i64 a1_0, .slice A1_1 l1_1.length c1_1] 39 (0, 0))) ∧ (w'.heap[gb102]? = some (.cells #[.int .i64 a2_0, .int .i64 a2_1, .int .i64 a2_2] 69 (0, 0))) ∧ (w'.heap[gb120]? = some (.cells #[.int .i64 t115, .slice Ao39 t116.length co39] 46 (0, 0))) ∧ (w'.heap[gb128]? = some (.cells #[.int .i64 t124, .slice Ao50 t151.length co50] 46 (0, 0))) ∧ (w'.heap[gb137]? = some (.cells #[.int .i64 t132, .slice Ao59 t133.length co59] 46 (0, 0))) ∧ (w'.heap[s_.2.2]? = some (.cells #[.int .i64 0, .slice none 0 0] 46 (0, 0))) ∧ (w.heap.size ≤ s_.2.2) ∧ (w.heap.size ≤ s_.2.2) ∧ (gb101 ≠ s_.2.2) ∧ (s_.2.2 ≠ gb101) ∧ (gb102 ≠ s_.2.2) ∧ (s_.2.2 ≠ gb102) ∧ (gb120 ≠ s_.2.2) ∧ (s_.2.2 ≠ gb120) ∧ (gb128 ≠ s_.2.2) ∧ (s_.2.2 ≠ gb128) ∧ (gb137 ≠ s_.2.2) ∧ (s_.2.2 ≠ gb137) ∧ (Below w.heap.size w w')) ?_ ?_
                 rotate_left
                 ·intro hJ1_3_10
                  refine join_ (σ := Value × Value) 8 (tf 5 8) (fun s_ => [(102, s_.1), (104, .agg #[.int .i64 t159, s_.2])]) (fun s_ w' => (w'.cell? ⟨gb101, 0, none⟩ = some (.int .i64 a1_0) ∧ w'.cell? ⟨gb101, 1, none⟩ = some (.slice A1_1 l1_1.length c1_1) ∧ w'.cell? ⟨gb102, 0, none⟩ = some (.int .i64 a2_0) ∧ w'.cell? ⟨gb102, 1, none⟩ = some (.int .i64 a2_1) ∧ w'.cell? ⟨gb102, 2, none⟩ = some (.int .i64 a2_2)) ∧ (Kd.R k34 34 w' w.heap.size (fun _ => True) s_.1 t156) ∧ (Kd.R k108 108 w' w.heap.size (fun k_ => some k_ ≠ (.slice Ao39 t116.length co39 : Value).ownBlock ∧ some k_ ≠ (.slice Ao50 t151.length co50 : Value).ownBlock ∧ some k_ ≠ (.slice Ao59 t133.length co59 : Value).ownBlock) s_.2 t160) ∧ (Kd.R k108 108 w' w.heap.size (fun k_ => some k_ ≠ (s_.2 : Value).ownBlock ∧ some k_ ≠ (.slice Ao50 t151.length co50 : Value).ownBlock ∧ some k_ ≠ (.slice Ao59 t133.length co59 : Value).ownBlock) (.slice Ao39 t116.length co39) t116) ∧ (Kd.R k108 108 w' w.heap.size (fun k_ => some k_ ≠ (s_.2 : Value).ownBlock ∧ some k_ ≠ (.slice Ao39 t116.length co39 : Value).ownBlock ∧ some k_ ≠ (.slice Ao59 t133.length co59 : Value).ownBlock) (.slice Ao50 t151.length co50) t151) ∧ (Kd.R k108 108 w' w.heap.size (fun k_ => some k_ ≠ (s_.2 : Value).ownBlock ∧ some k_ ≠ (.slice Ao39 t116.length co39 : Value).ownBlock ∧ some k_ ≠ (.slice Ao50 t151.length co50 : Value).ownBlock) (.slice Ao59 t133.length co59) t154) ∧ (w'.heap[gb101]? = some (.cells #[.int .i64 a1_0, .slice A1_1 l1_1.length c1_1] 39 (0, 0))) ∧ (w'.heap[gb102]? = some (.cells #[.int .i64 a2_0, .int .i64 a2_1, .int .i64 a2_2] 69 (0, 0))) ∧ (w'.heap[gb120]? = some (.cells #[.int .i64 t115, .slice Ao39 t116.length co39] 46 (0, 0))) ∧ (w'.heap[gb128]? = some (.cells #[.int .i64 t124, .slice Ao50 t151.length co50] 46 (0, 0))) ∧ (w'.heap[gb137]? = some (.cells #[.int .i64 t132, .slice Ao59 t133.length co59] 46 (0, 0))) ∧ (Below w.heap.size w w')) ?_ ?_
                  rotate_left
                  ·intro hJ1_3
                   refine join_ (σ := Value × Nat) 8 (tr [3, 1, 1, 5, 1, 2]) (fun s_ => [(102, s_.1), (17, .pointer (some ⟨s_.2, 0, none⟩))]) (fun s_ w' => (w'.cell? ⟨gb101, 0, none⟩ = some (.int .i64 a1_0) ∧ w'.cell? ⟨gb101, 1, none⟩ = some (.slice A1_1 l1_1.length c1_1) ∧ w'.cell? ⟨gb102, 0, none⟩ = some (.int .i64 a2_0) ∧ w'.cell? ⟨gb102, 1, none⟩ = some (.int .i64 a2_1) ∧ w'.cell? ⟨gb102, 2, none⟩ = some (.int .i64 a2_2)) ∧ (Kd.R k34 34 w' w.heap.size (fun _ => True) s_.1 t156) ∧ (Kd.R k108 108 w' w.heap.size (fun k_ => some k_ ≠ (.slice Ao50 t151.length co50 : Value).ownBlock ∧ some k_ ≠ (.slice Ao59 t133.length co59 : Value).ownBlock) (.slice Ao39 t116.length co39) t116) ∧ (Kd.R k108 108 w' w.heap.size (fun k_ => some k_ ≠ (.slice Ao39 t116.length co39 : Value).ownBlock ∧ some k_ ≠ (.slice Ao59 t133.length co59 : Value).ownBlock) (.slice Ao50 t151.length co50) t151) ∧ (Kd.R k108 108 w' w.heap.size (fun k_ => some k_ ≠ (.slice Ao39 t116.length co39 : Value).ownBlock ∧ some k_ ≠ (.slice Ao50 t151.length co50 : Value).ownBlock) (.slice Ao59 t133.length co59) t154) ∧ (w'.heap[gb101]? = some (.cells #[.int .i64 a1_0, .slice A1_1 l1_1.length c1_1] 39 (0, 0))) ∧ (w'.heap[gb102]? = some (.cells #[.int .i64 a2_0, .int .i64 a2_1, .int .i64 a2_2] 69 (0, 0))) ∧ (w'.heap[gb120]? = some (.cells #[.int .i64 t115, .slice Ao39 t116.length co39] 46 (0, 0))) ∧ (w'.heap[gb128]? = some (.cells #[.int .i64 t124, .slice Ao50 t151.length co50] 46 (0, 0))) ∧ (w'.heap[gb137]? = some (.cells #[.int .i64 t132, .slice Ao59 t133.length co59] 46 (0, 0))) ∧ (w'.heap[s_.2]? = some (.cells #[.int .i64 0, .slice none 0 0] 46 (0, 0))) ∧ (w.heap.size ≤ s_.2) ∧ (w.heap.size ≤ s_.2) ∧ (gb101 ≠ s_.2) ∧ (s_.2 ≠ gb101) ∧ (gb102 ≠ s_.2) ∧ (s_.2 ≠ gb102) ∧ (gb120 ≠ s_.2) ∧ (s_.2 ≠ gb120) ∧ (gb128 ≠ s_.2) ∧ (s_.2 ≠ gb128) ∧ (gb137 ≠ s_.2) ∧ (s_.2 ≠ gb137) ∧ (Below w.heap.size w w')) ?_ ?_
                   rotate_left
                   ·intro hJ1_10
                    refine join_ (σ := Value) 9 (tr [3, 1, 1, 8]) (fun s_ => [(102, s_)]) (fun s_ w' => (w'.cell? ⟨gb101, 0, none⟩ = some (.int .i64 a1_0) ∧ w'.cell? ⟨gb101, 1, none⟩ = some (.slice A1_1 l1_1.length c1_1) ∧ w'.cell? ⟨gb102, 0, none⟩ = some (.int .i64 a2_0) ∧ w'.cell? ⟨gb102, 1, none⟩ = some (.int .i64 a2_1) ∧ w'.cell? ⟨gb102, 2, none⟩ = some (.int .i64 a2_2)) ∧ (Kd.R k34 34 w' w.heap.size (fun _ => True) s_ t156) ∧ (Kd.R k108 108 w' w.heap.size (fun k_ => some k_ ≠ (.slice Ao50 t151.length co50 : Value).ownBlock ∧ some k_ ≠ (.slice Ao59 t133.length co59 : Value).ownBlock) (.slice Ao39 t116.length co39) t116) ∧ (Kd.R k108 108 w' w.heap.size (fun k_ => some k_ ≠ (.slice Ao39 t116.length co39 : Value).ownBlock ∧ some k_ ≠ (.slice Ao59 t133.length co59 : Value).ownBlock) (.slice Ao50 t151.length co50) t151) ∧ (Kd.R k108 108 w' w.heap.size (fun k_ => some k_ ≠ (.slice Ao39 t116.length co39 : Value).ownBlock ∧ some k_ ≠ (.slice Ao50 t151.length co50 : Value).ownBlock) (.slice Ao59 t133.length co59) t154) ∧ (w'.heap[gb101]? = some (.cells #[.int .i64 a1_0, .slice A1_1 l1_1.length c1_1] 39 (0, 0))) ∧ (w'.heap[gb102]? = some (.cells #[.int .i64 a2_0, .int .i64 a2_1, .int .i64 a2_2] 69 (0, 0))) ∧ (w'.heap[gb120]? = some (.cells #[.int .i64 t115, .slice Ao39 t116.length co39] 46 (0, 0))) ∧ (w'.heap[gb128]? = some (.cells #[.int .i64 t124, .slice Ao50 t151.length co50] 46 (0, 0))) ∧ (w'.heap[gb137]? = some (.cells #[.int .i64 t132, .slice Ao59 t133.length co59] 46 (0, 0))) ∧ (Below w.heap.size w w')) ?_ ?_
                    rotate_left
                    ·intro hJ1
                     refine join_ (σ := Nat) 9 (tr [1, 1, 1, 1, 1, 5, 1, 2]) (fun s_ => [(17, .pointer (some ⟨s_, 0, none⟩))]) (fun s_ w' => (w'.cell? ⟨gb101, 0, none⟩ = some (.int .i64 a1_0) ∧ w'.cell? ⟨gb101, 1, none⟩ = some (.slice A1_1 l1_1.length c1_1) ∧ w'.cell? ⟨gb102, 0, none⟩ = some (.int .i64 a2_0) ∧ w'.cell? ⟨gb102, 1, none⟩ = some (.int .i64 a2_1) ∧ w'.cell? ⟨gb102, 2, none⟩ = some (.int .i64 a2_2)) ∧ (Kd.R k108 108 w' w.heap.size (fun k_ => some k_ ≠ (.slice Ao50 t151.length co50 : Value).ownBlock ∧ some k_ ≠ (.slice Ao59 t133.length co59 : Value).ownBlock) (.slice Ao39 t116.length co39) t116) ∧ (Kd.R k108 108 w' w.heap.size (fun k_ => some k_ ≠ (.slice Ao39 t116.length co39 : Value).ownBlock ∧ some k_ ≠ (.slice Ao59 t133.length co59 : Value).ownBlock) (.slice Ao50 t151.length co50) t151) ∧ (Kd.R k108 108 w' w.heap.size (fun k_ => some k_ ≠ (.slice Ao39 t116.length co39 : Value).ownBlock ∧ some k_ ≠ (.slice Ao50 t151.length co50 : Value).ownBlock) (.slice Ao59 t133.length co59) t154) ∧ (w'.heap[gb101]? = some (.cells #[.int .i64 a1_0, .slice A1_1 l1_1.length c1_1] 39 (0, 0))) ∧ (w'.heap[gb102]? = some (.cells #[.int .i64 a2_0, .int .i64 a2_1, .int .i64 a2_2] 69 (0, 0))) ∧ (w'.heap[gb120]? = some (.cells #[.int .i64 t115, .slice Ao39 t116.length co39] 46 (0, 0))) ∧ (w'.heap[gb128]? = some (.cells #[.int .i64 t124, .slice Ao50 t151.length co50] 46 (0, 0))) ∧ (w'.heap[gb137]? = some (.cells #[.int .i64 t132, .slice Ao59 t133.length co59] 46 (0, 0))) ∧ (w'.heap[s_]? = some (.cells #[.int .i64 0, .slice none 0 0] 46 (0, 0))) ∧ (w.heap.size ≤ s_) ∧ (w.heap.size ≤ s_) ∧ (gb101 ≠ s_) ∧ (s_ ≠ gb101) ∧ (gb102 ≠ s_) ∧ (s_ ≠ gb102) ∧ (gb120 ≠ s_) ∧ (s_ ≠ gb120) ∧ (gb128 ≠ s_) ∧ (s_ ≠ gb128) ∧ (gb137 ≠ s_) ∧ (s_ ≠ gb137) ∧ (Below w.heap.size w w')) ?_ ?_
                     rotate_left
                     ·intro hJ10
                      refine two_ (i := 1) (j := 10) (Ni := some 102) (Nj := some 17) (tr [3, 1, 1, 8]) (tr [1, 1, 1, 1, 1, 5, 1, 2]) rfl rfl rfl rfl (two_of HT_.out (by kernel_rfl)) (by decide) (by decide) (fun K hK => ?_) (fun K hK => ?_)
                      ·skip
                       refine goes_ Try.func24 (by kernel_rfl) rfl #[.slice A0 l0.length c0] (by rfl) rfl rfl MT ?_
                       with_reducible refine (laws_toRuleS.calls kj91 _ _ l0 t156 _ ?side1 ?side2 A135.out).mono ?_
                       (case side1 => exact KC (Kd.C_below HR0.out HB.out))
                       (case side2 => exact HC0.out)
                       rintro e w149 ⟨v157, rfl, ho0, hb⟩
                       refine ⟨_, rfl, ?_⟩
                       replace HO_121001 := am (Kd.R_below (KR HO_121001) hb)
                       replace HO_129001 := am (Kd.R_below (KR HO_129001) hb)
                       replace HO_138001 := am (Kd.R_below (KR HO_138001) hb)
                       have HO158 := am (Kd.R_lower ho0 (below_size (K5 HB GE101.out GE102.out GE120.out GE128.out GE137.out)))
                       replace BK101 := am (BB BK101 hb)
                       replace BK102 := am (BB BK102 hb)
                       replace BK120 := am (BB BK120 hb)
                       replace BK128 := am (BB BK128 hb)
                       replace BK137 := am (BB BK137 hb)
                       replace HB := am (below_step (K5 HB GE101.out GE102.out GE120.out GE128.out GE137.out) hb)
                       (try clear hb)
                       (try clear hb2)
                       (try clear hk)
                       (try clear hi)
                       (try clear ho0)
                       refine hK.out _ _ ⟨z0 _ BK101.out, z1 _ BK101.out, z0 _ BK102.out, z1 _ BK102.out, z2 _ BK102.out⟩ (fun hHeld => ?_)
                       clear hK K
                       refine norm_ (a' := ?_) ?_ ?_
                       rotate_left
                       ·show Act.put _ (some 102) _ = _
                        simp only [Act.put, List.setIfInBounds_toArray, List.set_cons_zero, List.set_cons_succ, i64_w, i32_w]
                        rfl
                       exact norm_ NM (hJ1 (v157) _ ⟨hHeld, (KR HO158), (KR HO_121001), (KR HO_129001), (KR HO_138001), (KB BK101), (KB BK102), (KB BK120), (KB BK128), (KB BK137), (K5 HB GE101.out GE102.out GE120.out GE128.out GE137.out)⟩)
                      ·skip
                       refine box_step rfl (N := 17) rfl (cs := #[.int .i64 0, .slice none 0 0]) (t := 46) BX ?_
                       intro gb171 hg w149 hbox hb
                       replace HO_121001 := am (Kd.R_below (KR HO_121001) hb)
                       replace HO_129001 := am (Kd.R_below (KR HO_129001) hb)
                       replace HO_138001 := am (Kd.R_below (KR HO_138001) hb)
                       have BK171 := am (hbox)
                       have GW171 := am (GH5 HB GE101.out GE102.out GE120.out GE128.out GE137.out hg)
                       have GE171 := GW171
                       replace HB := am (below_step (K5 HB GE101.out GE102.out GE120.out GE128.out GE137.out) hb)
                       have NB101_171 := am (NL BK101 hg)
                       have NB171_101 := am (NG BK101 hg)
                       replace BK101 := am (BB BK101 hb)
                       have NB102_171 := am (NL BK102 hg)
                       have NB171_102 := am (NG BK102 hg)
                       replace BK102 := am (BB BK102 hb)
                       have NB120_171 := am (NL BK120 hg)
                       have NB171_120 := am (NG BK120 hg)
                       replace BK120 := am (BB BK120 hb)
                       have NB128_171 := am (NL BK128 hg)
                       have NB171_128 := am (NG BK128 hg)
                       replace BK128 := am (BB BK128 hb)
                       have NB137_171 := am (NL BK137 hg)
                       have NB171_137 := am (NG BK137 hg)
                       replace BK137 := am (BB BK137 hb)
                       clear hb hbox hg
                       refine hK.out _ _ ⟨z0 _ BK101.out, z1 _ BK101.out, z0 _ BK102.out, z1 _ BK102.out, z2 _ BK102.out⟩ (fun hHeld => ?_)
                       clear hK K
                       refine norm_ (a' := ?_) ?_ ?_
                       rotate_left
                       ·show Act.put _ (some 17) _ = _
                        simp only [Act.put, List.setIfInBounds_toArray, List.set_cons_zero, List.set_cons_succ, i64_w, i32_w]
                        rfl
                       exact norm_ NM (hJ10 (gb171) _ ⟨hHeld, (KR HO_121001), (KR HO_129001), (KR HO_138001), (KB BK101), (KB BK102), (KB BK120), (KB BK128), (KB BK137), (KB BK171), GW171.out, GE171.out, NB101_171.out, NB171_101.out, NB102_171.out, NB171_102.out, NB120_171.out, NB171_120.out, NB128_171.out, NB171_128.out, NB137_171.out, NB171_137.out, (K6 HB GE101.out GE102.out GE120.out GE128.out GE137.out GE171.out)⟩)
                     ·skip
                      rintro gb171 w150 ⟨hS_, h0_, h1_, h2_, h3_, h4_, h5_, h6_, h7_, h8_, h9_, h10_, h11_, h12_, h13_, h14_, h15_, h16_, h17_, h18_, h19_, h20_, h21_⟩
                      replace HO_121001 : Aside0 (Kd.R k108 108 w150 w.heap.size (fun k_ => some k_ ≠ (.slice Ao50 t151.length co50 : Value).ownBlock ∧ some k_ ≠ (.slice Ao59 t133.length co59 : Value).ownBlock) (.slice Ao39 t116.length co39) t116) := ⟨h0_⟩
                      replace HO_129001 : Aside0 (Kd.R k108 108 w150 w.heap.size (fun k_ => some k_ ≠ (.slice Ao39 t116.length co39 : Value).ownBlock ∧ some k_ ≠ (.slice Ao59 t133.length co59 : Value).ownBlock) (.slice Ao50 t151.length co50) t151) := ⟨h1_⟩
                      replace HO_138001 : Aside0 (Kd.R k108 108 w150 w.heap.size (fun k_ => some k_ ≠ (.slice Ao39 t116.length co39 : Value).ownBlock ∧ some k_ ≠ (.slice Ao50 t151.length co50 : Value).ownBlock) (.slice Ao59 t133.length co59) t154) := ⟨h2_⟩
                      replace BK101 : Aside0 (bk w150 gb101 #[.int .i64 a1_0, .slice A1_1 l1_1.length c1_1] 39) := ⟨h3_⟩
                      replace BK102 : Aside0 (bk w150 gb102 #[.int .i64 a2_0, .int .i64 a2_1, .int .i64 a2_2] 69) := ⟨h4_⟩
                      replace BK120 : Aside0 (bk w150 gb120 #[.int .i64 t115, .slice Ao39 t116.length co39] 46) := ⟨h5_⟩
                      replace BK128 : Aside0 (bk w150 gb128 #[.int .i64 t124, .slice Ao50 t151.length co50] 46) := ⟨h6_⟩
                      replace BK137 : Aside0 (bk w150 gb137 #[.int .i64 t132, .slice Ao59 t133.length co59] 46) := ⟨h7_⟩
                      have BK171 : Aside0 (bk w150 gb171 #[.int .i64 0, .slice none 0 0] 46) := ⟨h8_⟩
                      have GW171 : Aside0 (w.heap.size ≤ gb171) := ⟨h9_⟩
                      have GE171 : Aside0 (w.heap.size ≤ gb171) := ⟨h10_⟩
                      have NB101_171 : Aside0 (gb101 ≠ gb171) := ⟨h11_⟩
                      have NB171_101 : Aside0 (gb171 ≠ gb101) := ⟨h12_⟩
                      have NB102_171 : Aside0 (gb102 ≠ gb171) := ⟨h13_⟩
                      have NB171_102 : Aside0 (gb171 ≠ gb102) := ⟨h14_⟩
                      have NB120_171 : Aside0 (gb120 ≠ gb171) := ⟨h15_⟩
                      have NB171_120 : Aside0 (gb171 ≠ gb120) := ⟨h16_⟩
                      have NB128_171 : Aside0 (gb128 ≠ gb171) := ⟨h17_⟩
                      have NB171_128 : Aside0 (gb171 ≠ gb128) := ⟨h18_⟩
                      have NB137_171 : Aside0 (gb137 ≠ gb171) := ⟨h19_⟩
                      have NB171_137 : Aside0 (gb171 ≠ gb137) := ⟨h20_⟩
                      replace HB : Aside0 (Below w.heap.size w w150) := ⟨h21_⟩
                      clear h0_ h1_ h2_ h3_ h4_ h5_ h6_ h7_ h8_ h9_ h10_ h11_ h12_ h13_ h14_ h15_ h16_ h17_ h18_ h19_ h20_ h21_
                      have hHeld : ce2 w150 gb101 (.int .i64 a1_0) (.slice A1_1 l1_1.length c1_1) (de3 w150 gb102 (.int .i64 a2_0) (.int .i64 a2_1) (.int .i64 a2_2)) := hS_
                      refine norm_ (a' := ?_) ?_ ?_
                      rotate_left
                      ·simp only [putAll, Act.put, List.setIfInBounds_toArray, List.set_cons_zero, List.set_cons_succ]
                       rfl
                      refine one_ (i := 1) (N := some 102) (tr [3, 1, 1, 5, 1, 2]) rfl rfl (one_of HT_.out (by kernel_rfl)) (by decide) (fun K hK => ?_)
                      refine goes_ Try.func24 (by kernel_rfl) rfl #[.slice A0 l0.length c0] (by rfl) rfl rfl MT ?_
                      with_reducible refine (laws_toRuleS.calls kj91 _ _ l0 t156 _ ?side1 ?side2 A135.out).mono ?_
                      (case side1 => exact KC (Kd.C_below HR0.out HB.out))
                      (case side2 => exact HC0.out)
                      rintro e w151 ⟨v157, rfl, ho0, hb⟩
                      refine ⟨_, rfl, ?_⟩
                      replace HO_121001 := am (Kd.R_below (KR HO_121001) hb)
                      replace HO_129001 := am (Kd.R_below (KR HO_129001) hb)
                      replace HO_138001 := am (Kd.R_below (KR HO_138001) hb)
                      have HO158 := am (Kd.R_lower ho0 (below_size (K6 HB GE101.out GE102.out GE120.out GE128.out GE137.out GE171.out)))
                      replace BK101 := am (BB BK101 hb)
                      replace BK102 := am (BB BK102 hb)
                      replace BK120 := am (BB BK120 hb)
                      replace BK128 := am (BB BK128 hb)
                      replace BK137 := am (BB BK137 hb)
                      replace BK171 := am (BB BK171 hb)
                      replace HB := am (below_step (K6 HB GE101.out GE102.out GE120.out GE128.out GE137.out GE171.out) hb)
                      (try clear hb)
                      (try clear hb2)
                      (try clear hk)
                      (try clear hi)
                      (try clear ho0)
                      refine hK.out _ _ ⟨z0 _ BK101.out, z1 _ BK101.out, z0 _ BK102.out, z1 _ BK102.out, z2 _ BK102.out⟩ (fun hHeld => ?_)
                      clear hK K
                      refine norm_ (a' := ?_) ?_ ?_
                      rotate_left
                      ·show Act.put _ (some 102) _ = _
                       simp only [Act.put, List.setIfInBounds_toArray, List.set_cons_zero, List.set_cons_succ, i64_w, i32_w]
                       rfl
                      exact norm_ NM (hJ1_10 (v157, gb171) _ ⟨hHeld, (KR HO158), (KR HO_121001), (KR HO_129001), (KR HO_138001), (KB BK101), (KB BK102), (KB BK120), (KB BK128), (KB BK137), (KB BK171), GW171.out, GE171.out, NB101_171.out, NB171_101.out, NB102_171.out, NB171_102.out, NB120_171.out, NB171_120.out, NB128_171.out, NB171_128.out, NB137_171.out, NB171_137.out, (K6 HB GE101.out GE102.out GE120.out GE128.out GE137.out GE171.out)⟩)
                    ·skip
                     rintro v157 w150 ⟨hS_, h0_, h1_, h2_, h3_, h4_, h5_, h6_, h7_, h8_, h9_⟩
                     have HO158 : Aside0 (Kd.R k34 34 w150 w.heap.size (fun _ => True) v157 t156) := ⟨h0_⟩
                     replace HO_121001 : Aside0 (Kd.R k108 108 w150 w.heap.size (fun k_ => some k_ ≠ (.slice Ao50 t151.length co50 : Value).ownBlock ∧ some k_ ≠ (.slice Ao59 t133.length co59 : Value).ownBlock) (.slice Ao39 t116.length co39) t116) := ⟨h1_⟩
                     replace HO_129001 : Aside0 (Kd.R k108 108 w150 w.heap.size (fun k_ => some k_ ≠ (.slice Ao39 t116.length co39 : Value).ownBlock ∧ some k_ ≠ (.slice Ao59 t133.length co59 : Value).ownBlock) (.slice Ao50 t151.length co50) t151) := ⟨h2_⟩
                     replace HO_138001 : Aside0 (Kd.R k108 108 w150 w.heap.size (fun k_ => some k_ ≠ (.slice Ao39 t116.length co39 : Value).ownBlock ∧ some k_ ≠ (.slice Ao50 t151.length co50 : Value).ownBlock) (.slice Ao59 t133.length co59) t154) := ⟨h3_⟩
                     replace BK101 : Aside0 (bk w150 gb101 #[.int .i64 a1_0, .slice A1_1 l1_1.length c1_1] 39) := ⟨h4_⟩
                     replace BK102 : Aside0 (bk w150 gb102 #[.int .i64 a2_0, .int .i64 a2_1, .int .i64 a2_2] 69) := ⟨h5_⟩
                     replace BK120 : Aside0 (bk w150 gb120 #[.int .i64 t115, .slice Ao39 t116.length co39] 46) := ⟨h6_⟩
                     replace BK128 : Aside0 (bk w150 gb128 #[.int .i64 t124, .slice Ao50 t151.length co50] 46) := ⟨h7_⟩
                     replace BK137 : Aside0 (bk w150 gb137 #[.int .i64 t132, .slice Ao59 t133.length co59] 46) := ⟨h8_⟩
                     replace HB : Aside0 (Below w.heap.size w w150) := ⟨h9_⟩
                     clear h0_ h1_ h2_ h3_ h4_ h5_ h6_ h7_ h8_ h9_
                     have hHeld : ce2 w150 gb101 (.int .i64 a1_0) (.slice A1_1 l1_1.length c1_1) (de3 w150 gb102 (.int .i64 a2_0) (.int .i64 a2_1) (.int .i64 a2_2)) := hS_
                     refine norm_ (a' := ?_) ?_ ?_
                     rotate_left
                     ·simp only [putAll, Act.put, List.setIfInBounds_toArray, List.set_cons_zero, List.set_cons_succ]
                      rfl
                     refine two_ (i := 3) (j := 10) (Ni := some 104) (Nj := some 17) (tf 5 8) (tr [3, 1, 1, 5, 1, 2]) rfl rfl rfl rfl (two_of HT_.out (by kernel_rfl)) (by decide) (by decide) (fun K hK => ?_) (fun K hK => ?_)
                     ·skip
                      refine goes_ Try.func25 (by kernel_rfl) rfl #[.agg #[.int .i64 a1_0, .slice A1_1 l1_1.length c1_1]] (by rfl) rfl rfl MT ?_
                      with_reducible refine (laws_toCache.calls kj91 a1_0 _ _ l1_1 t159 t160 _ ?side1 ?side2 A136.out).mono ?_
                      (case side1 => exact KC (Kd.C_below HR1_1.out HB.out))
                      (case side2 => exact HC1_1.out)
                      rintro e w151 ⟨v161, rfl, ho0, hb⟩
                      refine ⟨_, rfl, ?_⟩
                      replace HO158 := am (Kd.R_below (KR HO158) hb)
                      have HO162 := am (Kd.R_lower (Kd.R_new' (Kd.R_new' (Kd.R_new' ho0 (Kd.R_lt (KR HO_121001))) (Kd.R_lt (KR HO_129001))) (Kd.R_lt (KR HO_138001))) (below_size (K5 HB GE101.out GE102.out GE120.out GE128.out GE137.out)))
                      replace HO_121001 := am (Kd.R_elder' (KR HO_121001) (Kd.R_base ho0) hb)
                      replace HO_129001 := am (Kd.R_elder' (KR HO_129001) (Kd.R_base ho0) hb)
                      replace HO_138001 := am (Kd.R_elder' (KR HO_138001) (Kd.R_base ho0) hb)
                      replace BK101 := am (BB BK101 hb)
                      replace BK102 := am (BB BK102 hb)
                      replace BK120 := am (BB BK120 hb)
                      replace BK128 := am (BB BK128 hb)
                      replace BK137 := am (BB BK137 hb)
                      replace HB := am (below_step (K5 HB GE101.out GE102.out GE120.out GE128.out GE137.out) hb)
                      (try clear hb)
                      (try clear hb2)
                      (try clear hk)
                      (try clear hi)
                      (try clear ho0)
                      refine hK.out _ _ ⟨z0 _ BK101.out, z1 _ BK101.out, z0 _ BK102.out, z1 _ BK102.out, z2 _ BK102.out⟩ (fun hHeld => ?_)
                      clear hK K
                      refine norm_ (a' := ?_) ?_ ?_
                      rotate_left
                      ·show Act.put _ (some 104) _ = _
                       simp only [Act.put, List.setIfInBounds_toArray, List.set_cons_zero, List.set_cons_succ, i64_w, i32_w]
                       rfl
                      exact norm_ NM (hJ1_3 (v157, v161) _ ⟨hHeld, (KR HO158), (by (with_reducible repeat (first | apply Kd.R_alloc | apply Kd.R_drewN | apply Kd.R_drew)); exact Kd.R_mono HO162.out (fun _ hk => ⟨hk.1.1.2, ⟨hk.1.2, hk.2⟩⟩)), (by (with_reducible repeat (first | apply Kd.R_alloc | apply Kd.R_drewN | apply Kd.R_drew)); exact Kd.R_mono HO_121001.out (fun _ hk => ⟨hk.2, ⟨hk.1.1, hk.1.2⟩⟩)), (by (with_reducible repeat (first | apply Kd.R_alloc | apply Kd.R_drewN | apply Kd.R_drew)); exact Kd.R_mono HO_129001.out (fun _ hk => ⟨hk.2, ⟨hk.1.1, hk.1.2⟩⟩)), (by (with_reducible repeat (first | apply Kd.R_alloc | apply Kd.R_drewN | apply Kd.R_drew)); exact Kd.R_mono HO_138001.out (fun _ hk => ⟨hk.2, ⟨hk.1.1, hk.1.2⟩⟩)), (KB BK101), (KB BK102), (KB BK120), (KB BK128), (KB BK137), (K5 HB GE101.out GE102.out GE120.out GE128.out GE137.out)⟩)
                     ·skip
                      refine box_step rfl (N := 17) rfl (cs := #[.int .i64 0, .slice none 0 0]) (t := 46) BX ?_
                      intro gb171 hg w151 hbox hb
                      replace HO_121001 := am (Kd.R_below (KR HO_121001) hb)
                      replace HO_129001 := am (Kd.R_below (KR HO_129001) hb)
                      replace HO_138001 := am (Kd.R_below (KR HO_138001) hb)
                      replace HO158 := am (Kd.R_below (KR HO158) hb)
                      have BK171 := am (hbox)
                      have GW171 := am (GH5 HB GE101.out GE102.out GE120.out GE128.out GE137.out hg)
                      have GE171 := GW171
                      replace HB := am (below_step (K5 HB GE101.out GE102.out GE120.out GE128.out GE137.out) hb)
                      have NB101_171 := am (NL BK101 hg)
                      have NB171_101 := am (NG BK101 hg)
                      replace BK101 := am (BB BK101 hb)
                      have NB102_171 := am (NL BK102 hg)
                      have NB171_102 := am (NG BK102 hg)
                      replace BK102 := am (BB BK102 hb)
                      have NB120_171 := am (NL BK120 hg)
                      have NB171_120 := am (NG BK120 hg)
                      replace BK120 := am (BB BK120 hb)
                      have NB128_171 := am (NL BK128 hg)
                      have NB171_128 := am (NG BK128 hg)
                      replace BK128 := am (BB BK128 hb)
                      have NB137_171 := am (NL BK137 hg)
                      have NB171_137 := am (NG BK137 hg)
                      replace BK137 := am (BB BK137 hb)
                      clear hb hbox hg
                      refine hK.out _ _ ⟨z0 _ BK101.out, z1 _ BK101.out, z0 _ BK102.out, z1 _ BK102.out, z2 _ BK102.out⟩ (fun hHeld => ?_)
                      clear hK K
                      refine norm_ (a' := ?_) ?_ ?_
                      rotate_left
                      ·show Act.put _ (some 17) _ = _
                       simp only [Act.put, List.setIfInBounds_toArray, List.set_cons_zero, List.set_cons_succ, i64_w, i32_w]
                       rfl
                      exact norm_ NM (hJ1_10 (v157, gb171) _ ⟨hHeld, (KR HO158), (KR HO_121001), (KR HO_129001), (KR HO_138001), (KB BK101), (KB BK102), (KB BK120), (KB BK128), (KB BK137), (KB BK171), GW171.out, GE171.out, NB101_171.out, NB171_101.out, NB102_171.out, NB171_102.out, NB120_171.out, NB171_120.out, NB128_171.out, NB171_128.out, NB137_171.out, NB171_137.out, (K6 HB GE101.out GE102.out GE120.out GE128.out GE137.out GE171.out)⟩)
                   ·skip
                    rintro ⟨v157, gb171⟩ w151 ⟨hS_, h0_, h1_, h2_, h3_, h4_, h5_, h6_, h7_, h8_, h9_, h10_, h11_, h12_, h13_, h14_, h15_, h16_, h17_, h18_, h19_, h20_, h21_, h22_⟩
                    have HO158 : Aside0 (Kd.R k34 34 w151 w.heap.size (fun _ => True) v157 t156) := ⟨h0_⟩
                    replace HO_121001 : Aside0 (Kd.R k108 108 w151 w.heap.size (fun k_ => some k_ ≠ (.slice Ao50 t151.length co50 : Value).ownBlock ∧ some k_ ≠ (.slice Ao59 t133.length co59 : Value).ownBlock) (.slice Ao39 t116.length co39) t116) := ⟨h1_⟩
                    replace HO_129001 : Aside0 (Kd.R k108 108 w151 w.heap.size (fun k_ => some k_ ≠ (.slice Ao39 t116.length co39 : Value).ownBlock ∧ some k_ ≠ (.slice Ao59 t133.length co59 : Value).ownBlock) (.slice Ao50 t151.length co50) t151) := ⟨h2_⟩
                    replace HO_138001 : Aside0 (Kd.R k108 108 w151 w.heap.size (fun k_ => some k_ ≠ (.slice Ao39 t116.length co39 : Value).ownBlock ∧ some k_ ≠ (.slice Ao50 t151.length co50 : Value).ownBlock) (.slice Ao59 t133.length co59) t154) := ⟨h3_⟩
                    replace BK101 : Aside0 (bk w151 gb101 #[.int .i64 a1_0, .slice A1_1 l1_1.length c1_1] 39) := ⟨h4_⟩
                    replace BK102 : Aside0 (bk w151 gb102 #[.int .i64 a2_0, .int .i64 a2_1, .int .i64 a2_2] 69) := ⟨h5_⟩
                    replace BK120 : Aside0 (bk w151 gb120 #[.int .i64 t115, .slice Ao39 t116.length co39] 46) := ⟨h6_⟩
                    replace BK128 : Aside0 (bk w151 gb128 #[.int .i64 t124, .slice Ao50 t151.length co50] 46) := ⟨h7_⟩
                    replace BK137 : Aside0 (bk w151 gb137 #[.int .i64 t132, .slice Ao59 t133.length co59] 46) := ⟨h8_⟩
                    have BK171 : Aside0 (bk w151 gb171 #[.int .i64 0, .slice none 0 0] 46) := ⟨h9_⟩
                    have GW171 : Aside0 (w.heap.size ≤ gb171) := ⟨h10_⟩
                    have GE171 : Aside0 (w.heap.size ≤ gb171) := ⟨h11_⟩
                    have NB101_171 : Aside0 (gb101 ≠ gb171) := ⟨h12_⟩
                    have NB171_101 : Aside0 (gb171 ≠ gb101) := ⟨h13_⟩
                    have NB102_171 : Aside0 (gb102 ≠ gb171) := ⟨h14_⟩
                    have NB171_102 : Aside0 (gb171 ≠ gb102) := ⟨h15_⟩
                    have NB120_171 : Aside0 (gb120 ≠ gb171) := ⟨h16_⟩
                    have NB171_120 : Aside0 (gb171 ≠ gb120) := ⟨h17_⟩
                    have NB128_171 : Aside0 (gb128 ≠ gb171) := ⟨h18_⟩
                    have NB171_128 : Aside0 (gb171 ≠ gb128) := ⟨h19_⟩
                    have NB137_171 : Aside0 (gb137 ≠ gb171) := ⟨h20_⟩
                    have NB171_137 : Aside0 (gb171 ≠ gb137) := ⟨h21_⟩
                    replace HB : Aside0 (Below w.heap.size w w151) := ⟨h22_⟩
                    clear h0_ h1_ h2_ h3_ h4_ h5_ h6_ h7_ h8_ h9_ h10_ h11_ h12_ h13_ h14_ h15_ h16_ h17_ h18_ h19_ h20_ h21_ h22_
                    have hHeld : ce2 w151 gb101 (.int .i64 a1_0) (.slice A1_1 l1_1.length c1_1) (de3 w151 gb102 (.int .i64 a2_0) (.int .i64 a2_1) (.int .i64 a2_2)) := hS_
                    refine norm_ (a' := ?_) ?_ ?_
                    rotate_left
                    ·simp only [putAll, Act.put, List.setIfInBounds_toArray, List.set_cons_zero, List.set_cons_succ]
                     rfl
                    refine one_ (i := 3) (N := some 104) (tr [5, 5, 1, 2]) rfl rfl (one_of HT_.out (by kernel_rfl)) (by decide) (fun K hK => ?_)
                    refine goes_ Try.func25 (by kernel_rfl) rfl #[.agg #[.int .i64 a1_0, .slice A1_1 l1_1.length c1_1]] (by rfl) rfl rfl MT ?_
                    with_reducible refine (laws_toCache.calls kj91 a1_0 _ _ l1_1 t159 t160 _ ?side1 ?side2 A136.out).mono ?_
                    (case side1 => exact KC (Kd.C_below HR1_1.out HB.out))
                    (case side2 => exact HC1_1.out)
                    rintro e w152 ⟨v161, rfl, ho0, hb⟩
                    refine ⟨_, rfl, ?_⟩
                    replace HO158 := am (Kd.R_below (KR HO158) hb)
                    have HO162 := am (Kd.R_lower (Kd.R_new' (Kd.R_new' (Kd.R_new' ho0 (Kd.R_lt (KR HO_121001))) (Kd.R_lt (KR HO_129001))) (Kd.R_lt (KR HO_138001))) (below_size (K6 HB GE101.out GE102.out GE120.out GE128.out GE137.out GE171.out)))
                    replace HO_121001 := am (Kd.R_elder' (KR HO_121001) (Kd.R_base ho0) hb)
                    replace HO_129001 := am (Kd.R_elder' (KR HO_129001) (Kd.R_base ho0) hb)
                    replace HO_138001 := am (Kd.R_elder' (KR HO_138001) (Kd.R_base ho0) hb)
                    replace BK101 := am (BB BK101 hb)
                    replace BK102 := am (BB BK102 hb)
                    replace BK120 := am (BB BK120 hb)
                    replace BK128 := am (BB BK128 hb)
                    replace BK137 := am (BB BK137 hb)
                    replace BK171 := am (BB BK171 hb)
                    replace HB := am (below_step (K6 HB GE101.out GE102.out GE120.out GE128.out GE137.out GE171.out) hb)
                    (try clear hb)
                    (try clear hb2)
                    (try clear hk)
                    (try clear hi)
                    (try clear ho0)
                    refine hK.out _ _ ⟨z0 _ BK101.out, z1 _ BK101.out, z0 _ BK102.out, z1 _ BK102.out, z2 _ BK102.out⟩ (fun hHeld => ?_)
                    clear hK K
                    refine norm_ (a' := ?_) ?_ ?_
                    rotate_left
                    ·show Act.put _ (some 104) _ = _
                     simp only [Act.put, List.setIfInBounds_toArray, List.set_cons_zero, List.set_cons_succ, i64_w, i32_w]
                     rfl
                    exact norm_ NM (hJ1_3_10 (v157, v161, gb171) _ ⟨hHeld, (KR HO158), (by (with_reducible repeat (first | apply Kd.R_alloc | apply Kd.R_drewN | apply Kd.R_drew)); exact Kd.R_mono HO162.out (fun _ hk => ⟨hk.1.1.2, ⟨hk.1.2, hk.2⟩⟩)), (by (with_reducible repeat (first | apply Kd.R_alloc | apply Kd.R_drewN | apply Kd.R_drew)); exact Kd.R_mono HO_121001.out (fun _ hk => ⟨hk.2, ⟨hk.1.1, hk.1.2⟩⟩)), (by (with_reducible repeat (first | apply Kd.R_alloc | apply Kd.R_drewN | apply Kd.R_drew)); exact Kd.R_mono HO_129001.out (fun _ hk => ⟨hk.2, ⟨hk.1.1, hk.1.2⟩⟩)), (by (with_reducible repeat (first | apply Kd.R_alloc | apply Kd.R_drewN | apply Kd.R_drew)); exact Kd.R_mono HO_138001.out (fun _ hk => ⟨hk.2, ⟨hk.1.1, hk.1.2⟩⟩)), (KB BK101), (KB BK102), (KB BK120), (KB BK128), (KB BK137), (KB BK171), GW171.out, GE171.out, NB101_171.out, NB171_101.out, NB102_171.out, NB171_102.out, NB120_171.out, NB171_120.out, NB128_171.out, NB171_128.out, NB137_171.out, NB171_137.out, (K6 HB GE101.out GE102.out GE120.out GE128.out GE137.out GE171.out)⟩)
                  ·skip
                   rintro ⟨v157, v161⟩ w151 ⟨hS_, h0_, h1_, h2_, h3_, h4_, h5_, h6_, h7_, h8_, h9_, h10_⟩
                   have HO158 : Aside0 (Kd.R k34 34 w151 w.heap.size (fun _ => True) v157 t156) := ⟨h0_⟩
                   have HO162 : Aside0 (Kd.R k108 108 w151 w.heap.size (fun k_ => some k_ ≠ (.slice Ao39 t116.length co39 : Value).ownBlock ∧ some k_ ≠ (.slice Ao50 t151.length co50 : Value).ownBlock ∧ some k_ ≠ (.slice Ao59 t133.length co59 : Value).ownBlock) v161 t160) := ⟨h1_⟩
                   replace HO_121001 : Aside0 (Kd.R k108 108 w151 w.heap.size (fun k_ => some k_ ≠ (v161 : Value).ownBlock ∧ some k_ ≠ (.slice Ao50 t151.length co50 : Value).ownBlock ∧ some k_ ≠ (.slice Ao59 t133.length co59 : Value).ownBlock) (.slice Ao39 t116.length co39) t116) := ⟨h2_⟩
                   replace HO_129001 : Aside0 (Kd.R k108 108 w151 w.heap.size (fun k_ => some k_ ≠ (v161 : Value).ownBlock ∧ some k_ ≠ (.slice Ao39 t116.length co39 : Value).ownBlock ∧ some k_ ≠ (.slice Ao59 t133.length co59 : Value).ownBlock) (.slice Ao50 t151.length co50) t151) := ⟨h3_⟩
                   replace HO_138001 : Aside0 (Kd.R k108 108 w151 w.heap.size (fun k_ => some k_ ≠ (v161 : Value).ownBlock ∧ some k_ ≠ (.slice Ao39 t116.length co39 : Value).ownBlock ∧ some k_ ≠ (.slice Ao50 t151.length co50 : Value).ownBlock) (.slice Ao59 t133.length co59) t154) := ⟨h4_⟩
                   replace BK101 : Aside0 (bk w151 gb101 #[.int .i64 a1_0, .slice A1_1 l1_1.length c1_1] 39) := ⟨h5_⟩
                   replace BK102 : Aside0 (bk w151 gb102 #[.int .i64 a2_0, .int .i64 a2_1, .int .i64 a2_2] 69) := ⟨h6_⟩
                   replace BK120 : Aside0 (bk w151 gb120 #[.int .i64 t115, .slice Ao39 t116.length co39] 46) := ⟨h7_⟩
                   replace BK128 : Aside0 (bk w151 gb128 #[.int .i64 t124, .slice Ao50 t151.length co50] 46) := ⟨h8_⟩
                   replace BK137 : Aside0 (bk w151 gb137 #[.int .i64 t132, .slice Ao59 t133.length co59] 46) := ⟨h9_⟩
                   replace HB : Aside0 (Below w.heap.size w w151) := ⟨h10_⟩
                   clear h0_ h1_ h2_ h3_ h4_ h5_ h6_ h7_ h8_ h9_ h10_
                   have hHeld : ce2 w151 gb101 (.int .i64 a1_0) (.slice A1_1 l1_1.length c1_1) (de3 w151 gb102 (.int .i64 a2_0) (.int .i64 a2_1) (.int .i64 a2_2)) := hS_
                   refine norm_ (a' := ?_) ?_ ?_
                   rotate_left
                   ·simp only [putAll, Act.put, List.setIfInBounds_toArray, List.set_cons_zero, List.set_cons_succ]
                    rfl
                   refine two_ (i := 5) (j := 10) (Ni := some 106) (Nj := some 17) (tf 6 7) (tr [5, 5, 1, 2]) rfl rfl rfl rfl (two_of HT_.out (by kernel_rfl)) (by decide) (by decide) (fun K hK => ?_) (fun K hK => ?_)
                   ·skip
                    refine goes_ Try.func45 (by kernel_rfl) rfl #[.agg #[.int .i64 a2_0, .int .i64 a2_1, .int .i64 a2_2]] (by rfl) rfl rfl MT ?_
                    with_reducible refine (laws_toCall.calls a2_0 a2_1 a2_2 t163 t164 t165 _ A137.out).mono ?_
                    rintro e w152 ⟨rfl, hb⟩
                    refine ⟨_, rfl, ?_⟩
                    replace HO_121001 := am (Kd.R_below (KR HO_121001) hb)
                    replace HO_129001 := am (Kd.R_below (KR HO_129001) hb)
                    replace HO_138001 := am (Kd.R_below (KR HO_138001) hb)
                    replace HO158 := am (Kd.R_below (KR HO158) hb)
                    replace HO162 := am (Kd.R_below (KR HO162) hb)
                    replace BK101 := am (BB BK101 hb)
                    replace BK102 := am (BB BK102 hb)
                    replace BK120 := am (BB BK120 hb)
                    replace BK128 := am (BB BK128 hb)
                    replace BK137 := am (BB BK137 hb)
                    replace HB := am (below_step (K5 HB GE101.out GE102.out GE120.out GE128.out GE137.out) hb)
                    (try clear hb)
                    (try clear hb2)
                    (try clear hk)
                    (try clear hi)
                    refine hK.out _ _ ⟨z0 _ BK101.out, z1 _ BK101.out, z0 _ BK102.out, z1 _ BK102.out, z2 _ BK102.out⟩ (fun hHeld => ?_)
                    clear hK K
                    refine norm_ (a' := ?_) ?_ ?_
                    rotate_left
                    ·show Act.put _ (some 106) _ = _
                     simp only [Act.put, List.setIfInBounds_toArray, List.set_cons_zero, List.set_cons_succ, i64_w, i32_w]
                     rfl
                    exact norm_ NM (hJ1_3_5 (v157, v161) _ ⟨hHeld, (KR HO158), (KR HO162), (KR HO_121001), (KR HO_129001), (KR HO_138001), (KB BK101), (KB BK102), (KB BK120), (KB BK128), (KB BK137), (K5 HB GE101.out GE102.out GE120.out GE128.out GE137.out)⟩)
                   ·skip
                    refine box_step rfl (N := 17) rfl (cs := #[.int .i64 0, .slice none 0 0]) (t := 46) BX ?_
                    intro gb171 hg w152 hbox hb
                    replace HO_121001 := am (Kd.R_below (KR HO_121001) hb)
                    replace HO_129001 := am (Kd.R_below (KR HO_129001) hb)
                    replace HO_138001 := am (Kd.R_below (KR HO_138001) hb)
                    replace HO158 := am (Kd.R_below (KR HO158) hb)
                    replace HO162 := am (Kd.R_below (KR HO162) hb)
                    have BK171 := am (hbox)
                    have GW171 := am (GH5 HB GE101.out GE102.out GE120.out GE128.out GE137.out hg)
                    have GE171 := GW171
                    replace HB := am (below_step (K5 HB GE101.out GE102.out GE120.out GE128.out GE137.out) hb)
                    have NB101_171 := am (NL BK101 hg)
                    have NB171_101 := am (NG BK101 hg)
                    replace BK101 := am (BB BK101 hb)
                    have NB102_171 := am (NL BK102 hg)
                    have NB171_102 := am (NG BK102 hg)
                    replace BK102 := am (BB BK102 hb)
                    have NB120_171 := am (NL BK120 hg)
                    have NB171_120 := am (NG BK120 hg)
                    replace BK120 := am (BB BK120 hb)
                    have NB128_171 := am (NL BK128 hg)
                    have NB171_128 := am (NG BK128 hg)
                    replace BK128 := am (BB BK128 hb)
                    have NB137_171 := am (NL BK137 hg)
                    have NB171_137 := am (NG BK137 hg)
                    replace BK137 := am (BB BK137 hb)
                    clear hb hbox hg
                    refine hK.out _ _ ⟨z0 _ BK101.out, z1 _ BK101.out, z0 _ BK102.out, z1 _ BK102.out, z2 _ BK102.out⟩ (fun hHeld => ?_)
                    clear hK K
                    refine norm_ (a' := ?_) ?_ ?_
                    rotate_left
                    ·show Act.put _ (some 17) _ = _
                     simp only [Act.put, List.setIfInBounds_toArray, List.set_cons_zero, List.set_cons_succ, i64_w, i32_w]
                     rfl
                    exact norm_ NM (hJ1_3_10 (v157, v161, gb171) _ ⟨hHeld, (KR HO158), (KR HO162), (KR HO_121001), (KR HO_129001), (KR HO_138001), (KB BK101), (KB BK102), (KB BK120), (KB BK128), (KB BK137), (KB BK171), GW171.out, GE171.out, NB101_171.out, NB171_101.out, NB102_171.out, NB171_102.out, NB120_171.out, NB171_120.out, NB128_171.out, NB171_128.out, NB137_171.out, NB171_137.out, (K6 HB GE101.out GE102.out GE120.out GE128.out GE137.out GE171.out)⟩)
                 ·skip
                  rintro ⟨v157, v161, gb171⟩ w152 ⟨hS_, h0_, h1_, h2_, h3_, h4_, h5_, h6_, h7_, h8_, h9_, h10_, h11_, h12_, h13_, h14_, h15_, h16_, h17_, h18_, h19_, h20_, h21_, h22_, h23_⟩
                  have HO158 : Aside0 (Kd.R k34 34 w152 w.heap.size (fun _ => True) v157 t156) := ⟨h0_⟩
                  have HO162 : Aside0 (Kd.R k108 108 w152 w.heap.size (fun k_ => some k_ ≠ (.slice Ao39 t116.length co39 : Value).ownBlock ∧ some k_ ≠ (.slice Ao50 t151.length co50 : Value).ownBlock ∧ some k_ ≠ (.slice Ao59 t133.length co59 : Value).ownBlock) v161 t160) := ⟨h1_⟩
                  replace HO_121001 : Aside0 (Kd.R k108 108 w152 w.heap.size (fun k_ => some k_ ≠ (v161 : Value).ownBlock ∧ some k_ ≠ (.slice Ao50 t151.length co50 : Value).ownBlock ∧ some k_ ≠ (.slice Ao59 t133.length co59 : Value).ownBlock) (.slice Ao39 t116.length co39) t116) := ⟨h2_⟩
                  replace HO_129001 : Aside0 (Kd.R k108 108 w152 w.heap.size (fun k_ => some k_ ≠ (v161 : Value).ownBlock ∧ some k_ ≠ (.slice Ao39 t116.length co39 : Value).ownBlock ∧ some k_ ≠ (.slice Ao59 t133.length co59 : Value).ownBlock) (.slice Ao50 t151.length co50) t151) := ⟨h3_⟩
                  replace HO_138001 : Aside0 (Kd.R k108 108 w152 w.heap.size (fun k_ => some k_ ≠ (v161 : Value).ownBlock ∧ some k_ ≠ (.slice Ao39 t116.length co39 : Value).ownBlock ∧ some k_ ≠ (.slice Ao50 t151.length co50 : Value).ownBlock) (.slice Ao59 t133.length co59) t154) := ⟨h4_⟩
                  replace BK101 : Aside0 (bk w152 gb101 #[.int .i64 a1_0, .slice A1_1 l1_1.length c1_1] 39) := ⟨h5_⟩
                  replace BK102 : Aside0 (bk w152 gb102 #[.int .i64 a2_0, .int .i64 a2_1, .int .i64 a2_2] 69) := ⟨h6_⟩
                  replace BK120 : Aside0 (bk w152 gb120 #[.int .i64 t115, .slice Ao39 t116.length co39] 46) := ⟨h7_⟩
                  replace BK128 : Aside0 (bk w152 gb128 #[.int .i64 t124, .slice Ao50 t151.length co50] 46) := ⟨h8_⟩
                  replace BK137 : Aside0 (bk w152 gb137 #[.int .i64 t132, .slice Ao59 t133.length co59] 46) := ⟨h9_⟩
                  have BK171 : Aside0 (bk w152 gb171 #[.int .i64 0, .slice none 0 0] 46) := ⟨h10_⟩
                  have GW171 : Aside0 (w.heap.size ≤ gb171) := ⟨h11_⟩
                  have GE171 : Aside0 (w.heap.size ≤ gb171) := ⟨h12_⟩
                  have NB101_171 : Aside0 (gb101 ≠ gb171) := ⟨h13_⟩
                  have NB171_101 : Aside0 (gb171 ≠ gb101) := ⟨h14_⟩
                  have NB102_171 : Aside0 (gb102 ≠ gb171) := ⟨h15_⟩
                  have NB171_102 : Aside0 (gb171 ≠ gb102) := ⟨h16_⟩
                  have NB120_171 : Aside0 (gb120 ≠ gb171) := ⟨h17_⟩
                  have NB171_120 : Aside0 (gb171 ≠ gb120) := ⟨h18_⟩
                  have NB128_171 : Aside0 (gb128 ≠ gb171) := ⟨h19_⟩
                  have NB171_128 : Aside0 (gb171 ≠ gb128) := ⟨h20_⟩
                  have NB137_171 : Aside0 (gb137 ≠ gb171) := ⟨h21_⟩
                  have NB171_137 : Aside0 (gb171 ≠ gb137) := ⟨h22_⟩
                  replace HB : Aside0 (Below w.heap.size w w152) := ⟨h23_⟩
                  clear h0_ h1_ h2_ h3_ h4_ h5_ h6_ h7_ h8_ h9_ h10_ h11_ h12_ h13_ h14_ h15_ h16_ h17_ h18_ h19_ h20_ h21_ h22_ h23_
                  have hHeld : ce2 w152 gb101 (.int .i64 a1_0) (.slice A1_1 l1_1.length c1_1) (de3 w152 gb102 (.int .i64 a2_0) (.int .i64 a2_1) (.int .i64 a2_2)) := hS_
                  refine norm_ (a' := ?_) ?_ ?_
                  rotate_left
                  ·simp only [putAll, Act.put, List.setIfInBounds_toArray, List.set_cons_zero, List.set_cons_succ]
                   rfl
                  refine one_ (i := 5) (N := some 106) (tr [6, 4, 1, 2]) rfl rfl (one_of HT_.out (by kernel_rfl)) (by decide) (fun K hK => ?_)
                  refine goes_ Try.func45 (by kernel_rfl) rfl #[.agg #[.int .i64 a2_0, .int .i64 a2_1, .int .i64 a2_2]] (by rfl) rfl rfl MT ?_
                  with_reducible refine (laws_toCall.calls a2_0 a2_1 a2_2 t163 t164 t165 _ A137.out).mono ?_
                  rintro e w153 ⟨rfl, hb⟩
                  refine ⟨_, rfl, ?_⟩
                  replace HO_121001 := am (Kd.R_below (KR HO_121001) hb)
                  replace HO_129001 := am (Kd.R_below (KR HO_129001) hb)
                  replace HO_138001 := am (Kd.R_below (KR HO_138001) hb)
                  replace HO158 := am (Kd.R_below (KR HO158) hb)
                  replace HO162 := am (Kd.R_below (KR HO162) hb)
                  replace BK101 := am (BB BK101 hb)
                  replace BK102 := am (BB BK102 hb)
                  replace BK120 := am (BB BK120 hb)
                  replace BK128 := am (BB BK128 hb)
                  replace BK137 := am (BB BK137 hb)
                  replace BK171 := am (BB BK171 hb)
                  replace HB := am (below_step (K6 HB GE101.out GE102.out GE120.out GE128.out GE137.out GE171.out) hb)
                  (try clear hb)
                  (try clear hb2)
                  (try clear hk)
                  (try clear hi)
                  refine hK.out _ _ ⟨z0 _ BK101.out, z1 _ BK101.out, z0 _ BK102.out, z1 _ BK102.out, z2 _ BK102.out⟩ (fun hHeld => ?_)
                  clear hK K
                  refine norm_ (a' := ?_) ?_ ?_
                  rotate_left
                  ·show Act.put _ (some 106) _ = _
                   simp only [Act.put, List.setIfInBounds_toArray, List.set_cons_zero, List.set_cons_succ, i64_w, i32_w]
                   rfl
                  exact norm_ NM (hJ1_3_5_10 (v157, v161, gb171) _ ⟨hHeld, (KR HO158), (KR HO162), (KR HO_121001), (KR HO_129001), (KR HO_138001), (KB BK101), (KB BK102), (KB BK120), (KB BK128), (KB BK137), (KB BK171), GW171.out, GE171.out, NB101_171.out, NB171_101.out, NB102_171.out, NB171_102.out, NB120_171.out, NB171_120.out, NB128_171.out, NB171_128.out, NB137_171.out, NB171_137.out, (K6 HB GE101.out GE102.out GE120.out GE128.out GE137.out GE171.out)⟩)
                ·skip
                 rintro ⟨v157, v161⟩ w152 ⟨hS_, h0_, h1_, h2_, h3_, h4_, h5_, h6_, h7_, h8_, h9_, h10_⟩
                 have HO158 : Aside0 (Kd.R k34 34 w152 w.heap.size (fun _ => True) v157 t156) := ⟨h0_⟩
                 have HO162 : Aside0 (Kd.R k108 108 w152 w.heap.size (fun k_ => some k_ ≠ (.slice Ao39 t116.length co39 : Value).ownBlock ∧ some k_ ≠ (.slice Ao50 t151.length co50 : Value).ownBlock ∧ some k_ ≠ (.slice Ao59 t133.length co59 : Value).ownBlock) v161 t160) := ⟨h1_⟩
                 replace HO_121001 : Aside0 (Kd.R k108 108 w152 w.heap.size (fun k_ => some k_ ≠ (v161 : Value).ownBlock ∧ some k_ ≠ (.slice Ao50 t151.length co50 : Value).ownBlock ∧ some k_ ≠ (.slice Ao59 t133.length co59 : Value).ownBlock) (.slice Ao39 t116.length co39) t116) := ⟨h2_⟩
                 replace HO_129001 : Aside0 (Kd.R k108 108 w152 w.heap.size (fun k_ => some k_ ≠ (v161 : Value).ownBlock ∧ some k_ ≠ (.slice Ao39 t116.length co39 : Value).ownBlock ∧ some k_ ≠ (.slice Ao59 t133.length co59 : Value).ownBlock) (.slice Ao50 t151.length co50) t151) := ⟨h3_⟩
                 replace HO_138001 : Aside0 (Kd.R k108 108 w152 w.heap.size (fun k_ => some k_ ≠ (v161 : Value).ownBlock ∧ some k_ ≠ (.slice Ao39 t116.length co39 : Value).ownBlock ∧ some k_ ≠ (.slice Ao50 t151.length co50 : Value).ownBlock) (.slice Ao59 t133.length co59) t154) := ⟨h4_⟩
                 replace BK101 : Aside0 (bk w152 gb101 #[.int .i64 a1_0, .slice A1_1 l1_1.length c1_1] 39) := ⟨h5_⟩
                 replace BK102 : Aside0 (bk w152 gb102 #[.int .i64 a2_0, .int .i64 a2_1, .int .i64 a2_2] 69) := ⟨h6_⟩
                 replace BK120 : Aside0 (bk w152 gb120 #[.int .i64 t115, .slice Ao39 t116.length co39] 46) := ⟨h7_⟩
                 replace BK128 : Aside0 (bk w152 gb128 #[.int .i64 t124, .slice Ao50 t151.length co50] 46) := ⟨h8_⟩
                 replace BK137 : Aside0 (bk w152 gb137 #[.int .i64 t132, .slice Ao59 t133.length co59] 46) := ⟨h9_⟩
                 replace HB : Aside0 (Below w.heap.size w w152) := ⟨h10_⟩
                 clear h0_ h1_ h2_ h3_ h4_ h5_ h6_ h7_ h8_ h9_ h10_
                 have hHeld : ce2 w152 gb101 (.int .i64 a1_0) (.slice A1_1 l1_1.length c1_1) (de3 w152 gb102 (.int .i64 a2_0) (.int .i64 a2_1) (.int .i64 a2_2)) := hS_
                 obtain ⟨Ao153, co153, eo153⟩ := Kd.R_slice HO158.out
                 (first | subst eo153 | (injection eo153 with f1_ f2_ f3_; have f4_ := f1_.symm; have f5_ := f3_.symm; clear f1_ f2_ f3_; subst f4_; subst f5_))
                 obtain ⟨Ao154, co154, eo154⟩ := Kd.R_slice HO162.out
                 (first | subst eo154 | (injection eo154 with f1_ f2_ f3_; have f4_ := f1_.symm; have f5_ := f3_.symm; clear f1_ f2_ f3_; subst f4_; subst f5_))
                 refine norm_ (a' := ?_) ?_ ?_
                 rotate_left
                 ·simp only [putAll, Act.put, List.setIfInBounds_toArray, List.set_cons_zero, List.set_cons_succ]
                  rfl
                 refine two_ (i := 6) (j := 10) (Ni := some 107) (Nj := some 17) (tf 7 6) (tr [6, 4, 1, 2]) rfl rfl rfl rfl (two_of HT_.out (by kernel_rfl)) (by decide) (by decide) (fun K hK => ?_) (fun K hK => ?_)
                 ·skip
                  refine goes_ Try.func30 (by kernel_rfl) rfl #[.slice Ao153 t156.length co153, .agg #[.int .i64 t159, .slice Ao154 t160.length co154], .agg #[.int .i64 t163, .int .i64 t164, .int .i64 t165]] (by rfl) rfl rfl MT ?_
                  with_reducible refine (impl_CacheFind.calls kj91 _ _ t156 t159 _ _ t160 t163 t164 t165 t166 t167 t170 _ ?side1 ?side2 ?side3 ?side4 A138.out).mono ?_
                  (case side1 => exact KC (Kd.R_reads' HO158.out).2.2)
                  (case side2 => exact (Kd.R_reads' HO158.out).2.1)
                  (case side3 => exact KC (Kd.R_reads' HO162.out).2.2)
                  (case side4 => exact (Kd.R_reads' HO162.out).2.1)
                  rintro e w155 ⟨v168, rfl, ho0, hb⟩
                  refine ⟨_, rfl, ?_⟩
                  replace HO158 := am (Kd.R_below (KR HO158) hb)
                  have HO169 := am (Kd.R_lower (Kd.R_new' (Kd.R_new' (Kd.R_new' (Kd.R_new' ho0 (Kd.R_lt (KR HO_121001))) (Kd.R_lt (KR HO_129001))) (Kd.R_lt (KR HO_138001))) (Kd.R_lt (KR HO162))) (below_size (K5 HB GE101.out GE102.out GE120.out GE128.out GE137.out)))
                  replace HO_121001 := am (Kd.R_elder' (KR HO_121001) (Kd.R_base ho0) hb)
                  replace HO_129001 := am (Kd.R_elder' (KR HO_129001) (Kd.R_base ho0) hb)
                  replace HO_138001 := am (Kd.R_elder' (KR HO_138001) (Kd.R_base ho0) hb)
                  replace HO162 := am (Kd.R_elder' (KR HO162) (Kd.R_base ho0) hb)
                  replace BK101 := am (BB BK101 hb)
                  replace BK102 := am (BB BK102 hb)
                  replace BK120 := am (BB BK120 hb)
                  replace BK128 := am (BB BK128 hb)
                  replace BK137 := am (BB BK137 hb)
                  replace HB := am (below_step (K5 HB GE101.out GE102.out GE120.out GE128.out GE137.out) hb)
                  (try clear hb)
                  (try clear hb2)
                  (try clear hk)
                  (try clear hi)
                  (try clear ho0)
                  refine hK.out _ _ ⟨z0 _ BK101.out, z1 _ BK101.out, z0 _ BK102.out, z1 _ BK102.out, z2 _ BK102.out⟩ (fun hHeld => ?_)
                  clear hK K
                  refine norm_ (a' := ?_) ?_ ?_
                  rotate_left
                  ·show Act.put _ (some 107) _ = _
                   simp only [Act.put, List.setIfInBounds_toArray, List.set_cons_zero, List.set_cons_succ, i64_w, i32_w]
                   rfl
                  refine pv HT_ 7 100 (tf 8 5) ?_
                  refine pv HT_ 8 108 (tf 9 4) ?_
                  refine pv HT_ 9 109 (tf 10 3) ?_
                  exact norm_ NM (hJ1_3_5_6 (.slice Ao153 t156.length co153, .slice Ao154 t160.length co154, v168) _ ⟨hHeld, (KR HO158), (by (with_reducible repeat (first | apply Kd.R_alloc | apply Kd.R_drewN | apply Kd.R_drew)); exact Kd.R_mono HO162.out (fun _ hk => ⟨hk.2, ⟨hk.1.1, ⟨hk.1.2.1, hk.1.2.2⟩⟩⟩)), (by (with_reducible repeat (first | apply Kd.R_alloc | apply Kd.R_drewN | apply Kd.R_drew)); exact Kd.R_mono HO169.out (fun _ hk => ⟨hk.2, ⟨hk.1.1.1.2, ⟨hk.1.1.2, hk.1.2⟩⟩⟩)), (by (with_reducible repeat (first | apply Kd.R_alloc | apply Kd.R_drewN | apply Kd.R_drew)); exact Kd.R_mono HO_121001.out (fun _ hk => ⟨hk.1.1, ⟨hk.2, ⟨hk.1.2.1, hk.1.2.2⟩⟩⟩)), (by (with_reducible repeat (first | apply Kd.R_alloc | apply Kd.R_drewN | apply Kd.R_drew)); exact Kd.R_mono HO_129001.out (fun _ hk => ⟨hk.1.1, ⟨hk.2, ⟨hk.1.2.1, hk.1.2.2⟩⟩⟩)), (by (with_reducible repeat (first | apply Kd.R_alloc | apply Kd.R_drewN | apply Kd.R_drew)); exact Kd.R_mono HO_138001.out (fun _ hk => ⟨hk.1.1, ⟨hk.2, ⟨hk.1.2.1, hk.1.2.2⟩⟩⟩)), (KB BK101), (KB BK102), (KB BK120), (KB BK128), (KB BK137), (K5 HB GE101.out GE102.out GE120.out GE128.out GE137.out)⟩)
                 ·skip
                  refine box_step rfl (N := 17) rfl (cs := #[.int .i64 0, .slice none 0 0]) (t := 46) BX ?_
                  intro gb171 hg w153 hbox hb
                  replace HO_121001 := am (Kd.R_below (KR HO_121001) hb)
                  replace HO_129001 := am (Kd.R_below (KR HO_129001) hb)
                  replace HO_138001 := am (Kd.R_below (KR HO_138001) hb)
                  replace HO158 := am (Kd.R_below (KR HO158) hb)
                  replace HO162 := am (Kd.R_below (KR HO162) hb)
                  have BK171 := am (hbox)
                  have GW171 := am (GH5 HB GE101.out GE102.out GE120.out GE128.out GE137.out hg)
                  have GE171 := GW171
                  replace HB := am (below_step (K5 HB GE101.out GE102.out GE120.out GE128.out GE137.out) hb)
                  have NB101_171 := am (NL BK101 hg)
                  have NB171_101 := am (NG BK101 hg)
                  replace BK101 := am (BB BK101 hb)
                  have NB102_171 := am (NL BK102 hg)
                  have NB171_102 := am (NG BK102 hg)
                  replace BK102 := am (BB BK102 hb)
                  have NB120_171 := am (NL BK120 hg)
                  have NB171_120 := am (NG BK120 hg)
                  replace BK120 := am (BB BK120 hb)
                  have NB128_171 := am (NL BK128 hg)
                  have NB171_128 := am (NG BK128 hg)
                  replace BK128 := am (BB BK128 hb)
                  have NB137_171 := am (NL BK137 hg)
                  have NB171_137 := am (NG BK137 hg)
                  replace BK137 := am (BB BK137 hb)
                  clear hb hbox hg
                  refine hK.out _ _ ⟨z0 _ BK101.out, z1 _ BK101.out, z0 _ BK102.out, z1 _ BK102.out, z2 _ BK102.out⟩ (fun hHeld => ?_)
                  clear hK K
                  refine norm_ (a' := ?_) ?_ ?_
                  rotate_left
                  ·show Act.put _ (some 17) _ = _
                   simp only [Act.put, List.setIfInBounds_toArray, List.set_cons_zero, List.set_cons_succ, i64_w, i32_w]
                   rfl
                  exact norm_ NM (hJ1_3_5_10 ((.slice Ao153 t156.length co153 : Value), (.slice Ao154 t160.length co154 : Value), gb171) _ ⟨hHeld, (KR HO158), (KR HO162), (KR HO_121001), (KR HO_129001), (KR HO_138001), (KB BK101), (KB BK102), (KB BK120), (KB BK128), (KB BK137), (KB BK171), GW171.out, GE171.out, NB101_171.out, NB171_101.out, NB102_171.out, NB171_102.out, NB120_171.out, NB171_120.out, NB128_171.out, NB171_128.out, NB137_171.out, NB171_137.out, (K6 HB GE101.out GE102.out GE120.out GE128.out GE137.out GE171.out)⟩)
               ·skip
                rintro ⟨v157, v161, gb171⟩ w153 ⟨hS_, h0_, h1_, h2_, h3_, h4_, h5_, h6_, h7_, h8_, h9_, h10_, h11_, h12_, h13_, h14_, h15_, h16_, h17_, h18_, h19_, h20_, h21_, h22_, h23_⟩
                have HO158 : Aside0 (Kd.R k34 34 w153 w.heap.size (fun _ => True) v157 t156) := ⟨h0_⟩
                have HO162 : Aside0 (Kd.R k108 108 w153 w.heap.size (fun k_ => some k_ ≠ (.slice Ao39 t116.length co39 : Value).ownBlock ∧ some k_ ≠ (.slice Ao50 t151.length co50 : Value).ownBlock ∧ some k_ ≠ (.slice Ao59 t133.length co59 : Value).ownBlock) v161 t160) := ⟨h1_⟩
                replace HO_121001 : Aside0 (Kd.R k108 108 w153 w.heap.size (fun k_ => some k_ ≠ (v161 : Value).ownBlock ∧ some k_ ≠ (.slice Ao50 t151.length co50 : Value).ownBlock ∧ some k_ ≠ (.slice Ao59 t133.length co59 : Value).ownBlock) (.slice Ao39 t116.length co39) t116) := ⟨h2_⟩
                replace HO_129001 : Aside0 (Kd.R k108 108 w153 w.heap.size (fun k_ => some k_ ≠ (v161 : Value).ownBlock ∧ some k_ ≠ (.slice Ao39 t116.length co39 : Value).ownBlock ∧ some k_ ≠ (.slice Ao59 t133.length co59 : Value).ownBlock) (.slice Ao50 t151.length co50) t151) := ⟨h3_⟩
                replace HO_138001 : Aside0 (Kd.R k108 108 w153 w.heap.size (fun k_ => some k_ ≠ (v161 : Value).ownBlock ∧ some k_ ≠ (.slice Ao39 t116.length co39 : Value).ownBlock ∧ some k_ ≠ (.slice Ao50 t151.length co50 : Value).ownBlock) (.slice Ao59 t133.length co59) t154) := ⟨h4_⟩
                replace BK101 : Aside0 (bk w153 gb101 #[.int .i64 a1_0, .slice A1_1 l1_1.length c1_1] 39) := ⟨h5_⟩
                replace BK102 : Aside0 (bk w153 gb102 #[.int .i64 a2_0, .int .i64 a2_1, .int .i64 a2_2] 69) := ⟨h6_⟩
                replace BK120 : Aside0 (bk w153 gb120 #[.int .i64 t115, .slice Ao39 t116.length co39] 46) := ⟨h7_⟩
                replace BK128 : Aside0 (bk w153 gb128 #[.int .i64 t124, .slice Ao50 t151.length co50] 46) := ⟨h8_⟩
                replace BK137 : Aside0 (bk w153 gb137 #[.int .i64 t132, .slice Ao59 t133.length co59] 46) := ⟨h9_⟩
                have BK171 : Aside0 (bk w153 gb171 #[.int .i64 0, .slice none 0 0] 46) := ⟨h10_⟩
                have GW171 : Aside0 (w.heap.size ≤ gb171) := ⟨h11_⟩
                have GE171 : Aside0 (w.heap.size ≤ gb171) := ⟨h12_⟩
                have NB101_171 : Aside0 (gb101 ≠ gb171) := ⟨h13_⟩
                have NB171_101 : Aside0 (gb171 ≠ gb101) := ⟨h14_⟩
                have NB102_171 : Aside0 (gb102 ≠ gb171) := ⟨h15_⟩
                have NB171_102 : Aside0 (gb171 ≠ gb102) := ⟨h16_⟩
                have NB120_171 : Aside0 (gb120 ≠ gb171) := ⟨h17_⟩
                have NB171_120 : Aside0 (gb171 ≠ gb120) := ⟨h18_⟩
                have NB128_171 : Aside0 (gb128 ≠ gb171) := ⟨h19_⟩
                have NB171_128 : Aside0 (gb171 ≠ gb128) := ⟨h20_⟩
                have NB137_171 : Aside0 (gb137 ≠ gb171) := ⟨h21_⟩
                have NB171_137 : Aside0 (gb171 ≠ gb137) := ⟨h22_⟩
                replace HB : Aside0 (Below w.heap.size w w153) := ⟨h23_⟩
                clear h0_ h1_ h2_ h3_ h4_ h5_ h6_ h7_ h8_ h9_ h10_ h11_ h12_ h13_ h14_ h15_ h16_ h17_ h18_ h19_ h20_ h21_ h22_ h23_
                have hHeld : ce2 w153 gb101 (.int .i64 a1_0) (.slice A1_1 l1_1.length c1_1) (de3 w153 gb102 (.int .i64 a2_0) (.int .i64 a2_1) (.int .i64 a2_2)) := hS_
                obtain ⟨Ao154, co154, eo154⟩ := Kd.R_slice HO158.out
                (first | subst eo154 | (injection eo154 with f1_ f2_ f3_; have f4_ := f1_.symm; have f5_ := f3_.symm; clear f1_ f2_ f3_; subst f4_; subst f5_))
                obtain ⟨Ao155, co155, eo155⟩ := Kd.R_slice HO162.out
                (first | subst eo155 | (injection eo155 with f1_ f2_ f3_; have f4_ := f1_.symm; have f5_ := f3_.symm; clear f1_ f2_ f3_; subst f4_; subst f5_))
                refine norm_ (a' := ?_) ?_ ?_
                rotate_left
                ·simp only [putAll, Act.put, List.setIfInBounds_toArray, List.set_cons_zero, List.set_cons_succ]
                 rfl
                refine one_ (i := 6) (N := some 107) (tr [7, 3, 1, 2]) rfl rfl (one_of HT_.out (by kernel_rfl)) (by decide) (fun K hK => ?_)
                refine goes_ Try.func30 (by kernel_rfl) rfl #[.slice Ao154 t156.length co154, .agg #[.int .i64 t159, .slice Ao155 t160.length co155], .agg #[.int .i64 t163, .int .i64 t164, .int .i64 t165]] (by rfl) rfl rfl MT ?_
                with_reducible refine (impl_CacheFind.calls kj91 _ _ t156 t159 _ _ t160 t163 t164 t165 t166 t167 t170 _ ?side1 ?side2 ?side3 ?side4 A138.out).mono ?_
                (case side1 => exact KC (Kd.R_reads' HO158.out).2.2)
                (case side2 => exact (Kd.R_reads' HO158.out).2.1)
                (case side3 => exact KC (Kd.R_reads' HO162.out).2.2)
                (case side4 => exact (Kd.R_reads' HO162.out).2.1)
                rintro e w156 ⟨v168, rfl, ho0, hb⟩
                refine ⟨_, rfl, ?_⟩
                replace HO158 := am (Kd.R_below (KR HO158) hb)
                have HO169 := am (Kd.R_lower (Kd.R_new' (Kd.R_new' (Kd.R_new' (Kd.R_new' ho0 (Kd.R_lt (KR HO_121001))) (Kd.R_lt (KR HO_129001))) (Kd.R_lt (KR HO_138001))) (Kd.R_lt (KR HO162))) (below_size (K6 HB GE101.out GE102.out GE120.out GE128.out GE137.out GE171.out)))
                replace HO_121001 := am (Kd.R_elder' (KR HO_121001) (Kd.R_base ho0) hb)
                replace HO_129001 := am (Kd.R_elder' (KR HO_129001) (Kd.R_base ho0) hb)
                replace HO_138001 := am (Kd.R_elder' (KR HO_138001) (Kd.R_base ho0) hb)
                replace HO162 := am (Kd.R_elder' (KR HO162) (Kd.R_base ho0) hb)
                replace BK101 := am (BB BK101 hb)
                replace BK102 := am (BB BK102 hb)
                replace BK120 := am (BB BK120 hb)
                replace BK128 := am (BB BK128 hb)
                replace BK137 := am (BB BK137 hb)
                replace BK171 := am (BB BK171 hb)
                replace HB := am (below_step (K6 HB GE101.out GE102.out GE120.out GE128.out GE137.out GE171.out) hb)
                (try clear hb)
                (try clear hb2)
                (try clear hk)
                (try clear hi)
                (try clear ho0)
                refine hK.out _ _ ⟨z0 _ BK101.out, z1 _ BK101.out, z0 _ BK102.out, z1 _ BK102.out, z2 _ BK102.out⟩ (fun hHeld => ?_)
                clear hK K
                refine norm_ (a' := ?_) ?_ ?_
                rotate_left
                ·show Act.put _ (some 107) _ = _
                 simp only [Act.put, List.setIfInBounds_toArray, List.set_cons_zero, List.set_cons_succ, i64_w, i32_w]
                 rfl
                refine pv HT_ 7 100 (tr [8, 2, 1, 2]) ?_
                refine pv HT_ 8 108 (tr [9, 1, 1, 2]) ?_
                refine pv HT_ 9 109 (tf 11 2) ?_
                exact norm_ NM (hJ1_3_5_6_10 (.slice Ao154 t156.length co154, .slice Ao155 t160.length co155, v168, gb171) _ ⟨hHeld, (KR HO158), (by (with_reducible repeat (first | apply Kd.R_alloc | apply Kd.R_drewN | apply Kd.R_drew)); exact Kd.R_mono HO162.out (fun _ hk => ⟨hk.2, ⟨hk.1.1, ⟨hk.1.2.1, hk.1.2.2⟩⟩⟩)), (by (with_reducible repeat (first | apply Kd.R_alloc | apply Kd.R_drewN | apply Kd.R_drew)); exact Kd.R_mono HO169.out (fun _ hk => ⟨hk.2, ⟨hk.1.1.1.2, ⟨hk.1.1.2, hk.1.2⟩⟩⟩)), (by (with_reducible repeat (first | apply Kd.R_alloc | apply Kd.R_drewN | apply Kd.R_drew)); exact Kd.R_mono HO_121001.out (fun _ hk => ⟨hk.1.1, ⟨hk.2, ⟨hk.1.2.1, hk.1.2.2⟩⟩⟩)), (by (with_reducible repeat (first | apply Kd.R_alloc | apply Kd.R_drewN | apply Kd.R_drew)); exact Kd.R_mono HO_129001.out (fun _ hk => ⟨hk.1.1, ⟨hk.2, ⟨hk.1.2.1, hk.1.2.2⟩⟩⟩)), (by (with_reducible repeat (first | apply Kd.R_alloc | apply Kd.R_drewN | apply Kd.R_drew)); exact Kd.R_mono HO_138001.out (fun _ hk => ⟨hk.1.1, ⟨hk.2, ⟨hk.1.2.1, hk.1.2.2⟩⟩⟩)), (KB BK101), (KB BK102), (KB BK120), (KB BK128), (KB BK137), (KB BK171), GW171.out, GE171.out, NB101_171.out, NB171_101.out, NB102_171.out, NB171_102.out, NB120_171.out, NB171_120.out, NB128_171.out, NB171_128.out, NB137_171.out, NB171_137.out, (K6 HB GE101.out GE102.out GE120.out GE128.out GE137.out GE171.out)⟩)
              ·skip
               rintro ⟨v157, v161, v168⟩ w155 ⟨hS_, h0_, h1_, h2_, h3_, h4_, h5_, h6_, h7_, h8_, h9_, h10_, h11_⟩
               have HO158 : Aside0 (Kd.R k34 34 w155 w.heap.size (fun _ => True) v157 t156) := ⟨h0_⟩
               have HO162 : Aside0 (Kd.R k108 108 w155 w.heap.size (fun k_ => some k_ ≠ (v168 : Value).ownBlock ∧ some k_ ≠ (.slice Ao39 t116.length co39 : Value).ownBlock ∧ some k_ ≠ (.slice Ao50 t151.length co50 : Value).ownBlock ∧ some k_ ≠ (.slice Ao59 t133.length co59 : Value).ownBlock) v161 t160) := ⟨h1_⟩
               have HO169 : Aside0 (Kd.R k108 108 w155 w.heap.size (fun k_ => some k_ ≠ (v161 : Value).ownBlock ∧ some k_ ≠ (.slice Ao39 t116.length co39 : Value).ownBlock ∧ some k_ ≠ (.slice Ao50 t151.length co50 : Value).ownBlock ∧ some k_ ≠ (.slice Ao59 t133.length co59 : Value).ownBlock) v168 t167) := ⟨h2_⟩
               replace HO_121001 : Aside0 (Kd.R k108 108 w155 w.heap.size (fun k_ => some k_ ≠ (v161 : Value).ownBlock ∧ some k_ ≠ (v168 : Value).ownBlock ∧ some k_ ≠ (.slice Ao50 t151.length co50 : Value).ownBlock ∧ some k_ ≠ (.slice Ao59 t133.length co59 : Value).ownBlock) (.slice Ao39 t116.length co39) t116) := ⟨h3_⟩
               replace HO_129001 : Aside0 (Kd.R k108 108 w155 w.heap.size (fun k_ => some k_ ≠ (v161 : Value).ownBlock ∧ some k_ ≠ (v168 : Value).ownBlock ∧ some k_ ≠ (.slice Ao39 t116.length co39 : Value).ownBlock ∧ some k_ ≠ (.slice Ao59 t133.length co59 : Value).ownBlock) (.slice Ao50 t151.length co50) t151) := ⟨h4_⟩
               replace HO_138001 : Aside0 (Kd.R k108 108 w155 w.heap.size (fun k_ => some k_ ≠ (v161 : Value).ownBlock ∧ some k_ ≠ (v168 : Value).ownBlock ∧ some k_ ≠ (.slice Ao39 t116.length co39 : Value).ownBlock ∧ some k_ ≠ (.slice Ao50 t151.length co50 : Value).ownBlock) (.slice Ao59 t133.length co59) t154) := ⟨h5_⟩
               replace BK101 : Aside0 (bk w155 gb101 #[.int .i64 a1_0, .slice A1_1 l1_1.length c1_1] 39) := ⟨h6_⟩
               replace BK102 : Aside0 (bk w155 gb102 #[.int .i64 a2_0, .int .i64 a2_1, .int .i64 a2_2] 69) := ⟨h7_⟩
               replace BK120 : Aside0 (bk w155 gb120 #[.int .i64 t115, .slice Ao39 t116.length co39] 46) := ⟨h8_⟩
               replace BK128 : Aside0 (bk w155 gb128 #[.int .i64 t124, .slice Ao50 t151.length co50] 46) := ⟨h9_⟩
               replace BK137 : Aside0 (bk w155 gb137 #[.int .i64 t132, .slice Ao59 t133.length co59] 46) := ⟨h10_⟩
               replace HB : Aside0 (Below w.heap.size w w155) := ⟨h11_⟩
               clear h0_ h1_ h2_ h3_ h4_ h5_ h6_ h7_ h8_ h9_ h10_ h11_
               have hHeld : ce2 w155 gb101 (.int .i64 a1_0) (.slice A1_1 l1_1.length c1_1) (de3 w155 gb102 (.int .i64 a2_0) (.int .i64 a2_1) (.int .i64 a2_2)) := hS_
               refine norm_ (a' := ?_) ?_ ?_
               rotate_left
               ·simp only [putAll, Act.put, List.setIfInBounds_toArray, List.set_cons_zero, List.set_cons_succ]
                rfl
               refine one_ (i := 10) (N := some 17) (tf 11 2) rfl rfl (one_of HT_.out (by kernel_rfl)) (by decide) (fun K hK => ?_)
               refine box_step rfl (N := 17) rfl (cs := #[.int .i64 0, .slice none 0 0]) (t := 46) BX ?_
               intro gb171 hg w156 hbox hb
               replace HO_121001 := am (Kd.R_below (KR HO_121001) hb)
               replace HO_129001 := am (Kd.R_below (KR HO_129001) hb)
               replace HO_138001 := am (Kd.R_below (KR HO_138001) hb)
               replace HO158 := am (Kd.R_below (KR HO158) hb)
               replace HO162 := am (Kd.R_below (KR HO162) hb)
               replace HO169 := am (Kd.R_below (KR HO169) hb)
               have BK171 := am (hbox)
               have GW171 := am (GH5 HB GE101.out GE102.out GE120.out GE128.out GE137.out hg)
               have GE171 := GW171
               replace HB := am (below_step (K5 HB GE101.out GE102.out GE120.out GE128.out GE137.out) hb)
               have NB101_171 := am (NL BK101 hg)
               have NB171_101 := am (NG BK101 hg)
               replace BK101 := am (BB BK101 hb)
               have NB102_171 := am (NL BK102 hg)
               have NB171_102 := am (NG BK102 hg)
               replace BK102 := am (BB BK102 hb)
               have NB120_171 := am (NL BK120 hg)
               have NB171_120 := am (NG BK120 hg)
               replace BK120 := am (BB BK120 hb)
               have NB128_171 := am (NL BK128 hg)
               have NB171_128 := am (NG BK128 hg)
               replace BK128 := am (BB BK128 hb)
               have NB137_171 := am (NL BK137 hg)
               have NB171_137 := am (NG BK137 hg)
               replace BK137 := am (BB BK137 hb)
               clear hb hbox hg
               refine hK.out _ _ ⟨z0 _ BK101.out, z1 _ BK101.out, z0 _ BK102.out, z1 _ BK102.out, z2 _ BK102.out⟩ (fun hHeld => ?_)
               clear hK K
               refine norm_ (a' := ?_) ?_ ?_
               rotate_left
               ·show Act.put _ (some 17) _ = _
                simp only [Act.put, List.setIfInBounds_toArray, List.set_cons_zero, List.set_cons_succ, i64_w, i32_w]
                rfl
               exact norm_ NM (hJ1_3_5_6_10 (v157, v161, v168, gb171) _ ⟨hHeld, (KR HO158), (KR HO162), (KR HO169), (KR HO_121001), (KR HO_129001), (KR HO_138001), (KB BK101), (KB BK102), (KB BK120), (KB BK128), (KB BK137), (KB BK171), GW171.out, GE171.out, NB101_171.out, NB171_101.out, NB102_171.out, NB171_102.out, NB120_171.out, NB171_120.out, NB128_171.out, NB171_128.out, NB137_171.out, NB171_137.out, (K6 HB GE101.out GE102.out GE120.out GE128.out GE137.out GE171.out)⟩)
             rintro ⟨v157, v161, v168, gb171⟩ w156 ⟨hS_, h0_, h1_, h2_, h3_, h4_, h5_, h6_, h7_, h8_, h9_, h10_, h11_, h12_, h13_, h14_, h15_, h16_, h17_, h18_, h19_, h20_, h21_, h22_, h23_, h24_⟩
             have HO158 : Aside0 (Kd.R k34 34 w156 w.heap.size (fun _ => True) v157 t156) := ⟨h0_⟩
             have HO162 : Aside0 (Kd.R k108 108 w156 w.heap.size (fun k_ => some k_ ≠ (v168 : Value).ownBlock ∧ some k_ ≠ (.slice Ao39 t116.length co39 : Value).ownBlock ∧ some k_ ≠ (.slice Ao50 t151.length co50 : Value).ownBlock ∧ some k_ ≠ (.slice Ao59 t133.length co59 : Value).ownBlock) v161 t160) := ⟨h1_⟩
             have HO169 : Aside0 (Kd.R k108 108 w156 w.heap.size (fun k_ => some k_ ≠ (v161 : Value).ownBlock ∧ some k_ ≠ (.slice Ao39 t116.length co39 : Value).ownBlock ∧ some k_ ≠ (.slice Ao50 t151.length co50 : Value).ownBlock ∧ some k_ ≠ (.slice Ao59 t133.length co59 : Value).ownBlock) v168 t167) := ⟨h2_⟩
             replace HO_121001 : Aside0 (Kd.R k108 108 w156 w.heap.size (fun k_ => some k_ ≠ (v161 : Value).ownBlock ∧ some k_ ≠ (v168 : Value).ownBlock ∧ some k_ ≠ (.slice Ao50 t151.length co50 : Value).ownBlock ∧ some k_ ≠ (.slice Ao59 t133.length co59 : Value).ownBlock) (.slice Ao39 t116.length co39) t116) := ⟨h3_⟩
             replace HO_129001 : Aside0 (Kd.R k108 108 w156 w.heap.size (fun k_ => some k_ ≠ (v161 : Value).ownBlock ∧ some k_ ≠ (v168 : Value).ownBlock ∧ some k_ ≠ (.slice Ao39 t116.length co39 : Value).ownBlock ∧ some k_ ≠ (.slice Ao59 t133.length co59 : Value).ownBlock) (.slice Ao50 t151.length co50) t151) := ⟨h4_⟩
             replace HO_138001 : Aside0 (Kd.R k108 108 w156 w.heap.size (fun k_ => some k_ ≠ (v161 : Value).ownBlock ∧ some k_ ≠ (v168 : Value).ownBlock ∧ some k_ ≠ (.slice Ao39 t116.length co39 : Value).ownBlock ∧ some k_ ≠ (.slice Ao50 t151.length co50 : Value).ownBlock) (.slice Ao59 t133.length co59) t154) := ⟨h5_⟩
             replace BK101 : Aside0 (bk w156 gb101 #[.int .i64 a1_0, .slice A1_1 l1_1.length c1_1] 39) := ⟨h6_⟩
             replace BK102 : Aside0 (bk w156 gb102 #[.int .i64 a2_0, .int .i64 a2_1, .int .i64 a2_2] 69) := ⟨h7_⟩
             replace BK120 : Aside0 (bk w156 gb120 #[.int .i64 t115, .slice Ao39 t116.length co39] 46) := ⟨h8_⟩
             replace BK128 : Aside0 (bk w156 gb128 #[.int .i64 t124, .slice Ao50 t151.length co50] 46) := ⟨h9_⟩
             replace BK137 : Aside0 (bk w156 gb137 #[.int .i64 t132, .slice Ao59 t133.length co59] 46) := ⟨h10_⟩
             have BK171 : Aside0 (bk w156 gb171 #[.int .i64 0, .slice none 0 0] 46) := ⟨h11_⟩
             have GW171 : Aside0 (w.heap.size ≤ gb171) := ⟨h12_⟩
             have GE171 : Aside0 (w.heap.size ≤ gb171) := ⟨h13_⟩
             have NB101_171 : Aside0 (gb101 ≠ gb171) := ⟨h14_⟩
             have NB171_101 : Aside0 (gb171 ≠ gb101) := ⟨h15_⟩
             have NB102_171 : Aside0 (gb102 ≠ gb171) := ⟨h16_⟩
             have NB171_102 : Aside0 (gb171 ≠ gb102) := ⟨h17_⟩
             have NB120_171 : Aside0 (gb120 ≠ gb171) := ⟨h18_⟩
             have NB171_120 : Aside0 (gb171 ≠ gb120) := ⟨h19_⟩
             have NB128_171 : Aside0 (gb128 ≠ gb171) := ⟨h20_⟩
             have NB171_128 : Aside0 (gb171 ≠ gb128) := ⟨h21_⟩
             have NB137_171 : Aside0 (gb137 ≠ gb171) := ⟨h22_⟩
             have NB171_137 : Aside0 (gb171 ≠ gb137) := ⟨h23_⟩
             replace HB : Aside0 (Below w.heap.size w w156) := ⟨h24_⟩
             clear h0_ h1_ h2_ h3_ h4_ h5_ h6_ h7_ h8_ h9_ h10_ h11_ h12_ h13_ h14_ h15_ h16_ h17_ h18_ h19_ h20_ h21_ h22_ h23_ h24_
             have hHeld : ce2 w156 gb101 (.int .i64 a1_0) (.slice A1_1 l1_1.length c1_1) (de3 w156 gb102 (.int .i64 a2_0) (.int .i64 a2_1) (.int .i64 a2_2)) := hS_
             obtain ⟨Ao158, co158, eo158⟩ := Kd.R_slice HO169.out
             (first | subst eo158 | (injection eo158 with f1_ f2_ f3_; have f4_ := f1_.symm; have f5_ := f3_.symm; clear f1_ f2_ f3_; subst f4_; subst f5_))
             refine norm_ (a' := ?_) ?_ ?_
             rotate_left
             ·simp only [putAll, Act.put, List.setIfInBounds_toArray, List.set_cons_zero, List.set_cons_succ]
              rfl
             refine one_ (i := 11) (N := none) (tf 12 1) rfl rfl (one_of HT_.out (by kernel_rfl)) (by decide) (fun K hK => ?_)
             have hs157 : w156.cell? ⟨gb171, 0, none⟩ = some (.int .i64 0) := z0 _ BK171.out
             have hfs157 := blk_frozen BK171.out 0
             have hns157_0 := NB101_171.out
             have hns157_1 := NB102_171.out
             have hns157_2 := NB120_171.out
             have hns157_3 := NB128_171.out
             have hns157_4 := NB137_171.out
             have hms157_0 := NB171_101.out
             have hms157_1 := NB171_102.out
             have hms157_2 := NB171_120.out
             have hms157_3 := NB171_128.out
             have hms157_4 := NB171_137.out
             have hs159 : w156.cell? ⟨gb171, 1, none⟩ = some (.slice none 0 0) := z1 _ BK171.out
             have hfs159 := blk_frozen BK171.out 1
             have hns159_0 := NB101_171.out
             have hns159_1 := NB102_171.out
             have hns159_2 := NB120_171.out
             have hns159_3 := NB128_171.out
             have hns159_4 := NB137_171.out
             have hms159_0 := NB171_101.out
             have hms159_1 := NB171_102.out
             have hms159_2 := NB171_120.out
             have hms159_3 := NB171_128.out
             have hms159_4 := NB171_137.out
             refine skip_ (w1 := ?_) (by rfl) rfl ?_ ?_
             rotate_left
             ·go_simp
              rfl
             refine hK.out _ _ ⟨((cell_far (p := ⟨gb171, _, none⟩) NB101_171.out _).trans (((cell_far (p := ⟨gb171, _, none⟩) NB101_171.out _).trans (hHeld.1)))), ((cell_far (p := ⟨gb171, _, none⟩) NB101_171.out _).trans (((cell_far (p := ⟨gb171, _, none⟩) NB101_171.out _).trans (hHeld.2.1)))), ((cell_far (p := ⟨gb171, _, none⟩) NB102_171.out _).trans (((cell_far (p := ⟨gb171, _, none⟩) NB102_171.out _).trans (hHeld.2.2.1)))), ((cell_far (p := ⟨gb171, _, none⟩) NB102_171.out _).trans (((cell_far (p := ⟨gb171, _, none⟩) NB102_171.out _).trans (hHeld.2.2.2.1)))), ((cell_far (p := ⟨gb171, _, none⟩) NB102_171.out _).trans (((cell_far (p := ⟨gb171, _, none⟩) NB102_171.out _).trans (hHeld.2.2.2.2))))⟩ (fun hHeld => ?_)
             clear hK K
             refine pv HT_ 12 18 (tf 13 0) ?_
             refine done_ (done_of HT_.out (by kernel_rfl)) ?_
             go_upto_region 32 with (fail)
             go_cut [118] (fun v118 wc => ∃ (kq : Nat) (x118_138 : Bool), v118 = .bool x118_138 ∧ Aside0 (laws_FnExactCacheFind.j2 kq t153 x118_138 t132 t154 = some r) ∧ Aside0 (kq ≤ kj91) ∧ Aside0 (Kd.R k108 108 wc w.heap.size (fun k_ => some k_ ≠ ((.slice Ao50 t151.length co50) : Value).ownBlock ∧ some k_ ≠ ((.slice Ao59 t133.length co59) : Value).ownBlock ∧ some k_ ≠ ((.slice Ao158 t167.length co158) : Value).ownBlock) (.slice Ao39 t116.length co39) t116) ∧ Aside0 (Kd.R k108 108 wc w.heap.size (fun k_ => some k_ ≠ ((.slice Ao39 t116.length co39) : Value).ownBlock ∧ some k_ ≠ ((.slice Ao59 t133.length co59) : Value).ownBlock ∧ some k_ ≠ ((.slice Ao158 t167.length co158) : Value).ownBlock) (.slice Ao50 t151.length co50) t151) ∧ Aside0 (Kd.R k108 108 wc w.heap.size (fun k_ => some k_ ≠ ((.slice Ao39 t116.length co39) : Value).ownBlock ∧ some k_ ≠ ((.slice Ao50 t151.length co50) : Value).ownBlock ∧ some k_ ≠ ((.slice Ao158 t167.length co158) : Value).ownBlock) (.slice Ao59 t133.length co59) t154) ∧ Aside0 (Kd.R k108 108 wc w.heap.size (fun k_ => some k_ ≠ ((.slice Ao39 t116.length co39) : Value).ownBlock ∧ some k_ ≠ ((.slice Ao50 t151.length co50) : Value).ownBlock ∧ some k_ ≠ ((.slice Ao59 t133.length co59) : Value).ownBlock) (.slice Ao158 t167.length co158) t167) ∧ Aside0 (wc.heap[gb101]? = some (.cells #[.int .i64 a1_0, (.slice A1_1 l1_1.length c1_1)] 39 (0, 0))) ∧ Aside0 (wc.heap[gb102]? = some (.cells #[.int .i64 a2_0, .int .i64 a2_1, .int .i64 a2_2] 69 (0, 0))) ∧ Aside0 (wc.heap[gb120]? = some (.cells #[.int .i64 t115, (.slice Ao39 t116.length co39)] 46 (0, 0))) ∧ Aside0 (wc.heap[gb128]? = some (.cells #[.int .i64 t124, (.slice Ao50 t151.length co50)] 46 (0, 0))) ∧ Aside0 (wc.heap[gb137]? = some (.cells #[.int .i64 t132, (.slice Ao59 t133.length co59)] 46 (0, 0))) ∧ Aside0 (wc.heap[gb171]? = some (.cells #[.int .i64 t166, (.slice Ao158 t167.length co158)] 46 (0, 0))) ∧ Aside0 (Below w.heap.size w wc))
             case first =>
              have H := HC139.out
              clear HC139
              replace H := Option.bind_eq_some_iff.mp H
              obtain ⟨t172, A1600, H⟩ := H
              replace H : (if t172 = true then (laws_FnExactCacheFind.j2 kj91 t153 (t170 != t119) t132 t154) else (laws_FnExactCacheFind.j2 kj91 t153 true t132 t154)) = some r := H
              have A160 := Aside0.mk A1600
              clear A1600
              by_cases c161 : t172 = true
              ·subst c161
               have H1 : (laws_FnExactCacheFind.j2 kj91 t153 (t170 != t119) t132 t154) = some r := by rw [if_pos rfl] at H; exact H
               clear H
               have H := H1
               clear H1
               have H' := Aside0.mk H
               clear H
               have hnb162 := NB171_101.out
               have hnc162 := NB101_171.out
               have hnb163 := NB171_102.out
               have hnc163 := NB102_171.out
               have hnb164 := NB171_120.out
               have hnc164 := NB120_171.out
               have hnb165 := NB171_128.out
               have hnc165 := NB128_171.out
               have hnb166 := NB171_137.out
               have hnc166 := NB137_171.out
               obtain ⟨hcz167_0, hcz167_1, hfz167_0⟩ := y2 w156 BK171.out
               have hnb168 := NB120_101.out
               have hnc168 := NB101_120.out
               have hnb169 := NB120_102.out
               have hnc169 := NB102_120.out
               have hnb170 := NB120_128.out
               have hnc170 := NB128_120.out
               have hnb171 := NB120_137.out
               have hnc171 := NB137_120.out
               obtain ⟨hcz172_0, hcz172_1, hfz172_0⟩ := y2 w156 BK120.out
               go_wp2_with (first | ((with_reducible refine gate_callee (f := 28) rfl ?_); refine goesL_ (some 112) rfl rfl Try.func28 (by kernel_rfl) rfl #[.agg #[.int .i64 t166, .slice Ao158 t167.length co158], .agg #[.int .i64 t115, .slice Ao39 t116.length co39]] rfl MT ?_; (with_reducible refine (laws_eqCache.calls kj91 t166 _ _ t167 t115 _ _ t116 true _ ?side1 ?side2 ?side3 ?side4 A160.out).mono ?_); (case side1 => refine (Kd.R_reads' (e := 108) (base := w.heap.size) (ok := fun k_ => (some k_ ≠ (v161 : Value).ownBlock ∧ (some k_ ≠ (.slice Ao39 t116.length co39 : Value).ownBlock ∧ (some k_ ≠ (.slice Ao50 t151.length co50 : Value).ownBlock ∧ some k_ ≠ (.slice Ao59 t133.length co59 : Value).ownBlock)))) (n := t167.length) (c := co158) ?_).2.2; exact (by (with_reducible repeat (first | apply Kd.R_alloc | apply Kd.R_drewN | apply Kd.R_drew)); exact (Kd.R_mono (Kd.R_far (p := ⟨gb171, 1, none⟩) (Kd.R_far (p := ⟨gb171, 0, none⟩) (Kd.R_types HO169.out BK171.out (by decide)) (fun _ hk => hk.2) (.int .i64 t166)) (fun _ hk => hk.2) (.slice Ao158 t167.length co158)) (fun _ h_ => h_.1)))); (case side2 => exact (Kd.R_reads' HO169.out).2.1); (case side3 => refine (Kd.R_reads' (e := 108) (base := w.heap.size) (ok := fun k_ => (some k_ ≠ (v161 : Value).ownBlock ∧ (some k_ ≠ (.slice Ao158 t167.length co158 : Value).ownBlock ∧ (some k_ ≠ (.slice Ao50 t151.length co50 : Value).ownBlock ∧ some k_ ≠ (.slice Ao59 t133.length co59 : Value).ownBlock)))) (n := t116.length) (c := co39) ?_).2.2; exact (by (with_reducible repeat (first | apply Kd.R_alloc | apply Kd.R_drewN | apply Kd.R_drew)); exact (Kd.R_mono (Kd.R_far (p := ⟨gb171, 1, none⟩) (Kd.R_far (p := ⟨gb171, 0, none⟩) (Kd.R_types HO_121001.out BK171.out (by decide)) (fun _ hk => hk.2) (.int .i64 t166)) (fun _ hk => hk.2) (.slice Ao158 t167.length co158)) (fun _ h_ => h_.1)))); (case side4 => exact (Kd.R_reads' HO_121001.out).2.1); rintro e w173 ⟨rfl, hb⟩; refine ⟨_, rfl, ?_⟩; replace HO_121001 := am (Kd.R_below (by (with_reducible repeat (first | apply Kd.R_alloc | apply Kd.R_drewN | apply Kd.R_drew)); exact (Kd.R_mono (Kd.R_far (p := ⟨gb171, 1, none⟩) (Kd.R_far (p := ⟨gb171, 0, none⟩) (Kd.R_types HO_121001.out BK171.out (by decide)) (fun _ hk => hk.2) (.int .i64 t166)) (fun _ hk => hk.2) (.slice Ao158 t167.length co158)) (fun _ h_ => h_.1))) hb); replace HO_129001 := am (Kd.R_below (by (with_reducible repeat (first | apply Kd.R_alloc | apply Kd.R_drewN | apply Kd.R_drew)); exact (Kd.R_mono (Kd.R_far (p := ⟨gb171, 1, none⟩) (Kd.R_far (p := ⟨gb171, 0, none⟩) (Kd.R_types HO_129001.out BK171.out (by decide)) (fun _ hk => hk.2) (.int .i64 t166)) (fun _ hk => hk.2) (.slice Ao158 t167.length co158)) (fun _ h_ => h_.1))) hb); replace HO_138001 := am (Kd.R_below (by (with_reducible repeat (first | apply Kd.R_alloc | apply Kd.R_drewN | apply Kd.R_drew)); exact (Kd.R_mono (Kd.R_far (p := ⟨gb171, 1, none⟩) (Kd.R_far (p := ⟨gb171, 0, none⟩) (Kd.R_types HO_138001.out BK171.out (by decide)) (fun _ hk => hk.2) (.int .i64 t166)) (fun _ hk => hk.2) (.slice Ao158 t167.length co158)) (fun _ h_ => h_.1))) hb); replace HO158 := am (Kd.R_below (by (with_reducible repeat (first | apply Kd.R_alloc | apply Kd.R_drewN | apply Kd.R_drew)); exact (Kd.R_mono (Kd.R_far (p := ⟨gb171, 1, none⟩) (Kd.R_far (p := ⟨gb171, 0, none⟩) (Kd.R_types HO158.out BK171.out (by decide)) (fun _ hk => hk.2) (.int .i64 t166)) (fun _ hk => hk.2) (.slice Ao158 t167.length co158)) (fun _ h_ => h_.1))) hb); replace HO162 := am (Kd.R_below (by (with_reducible repeat (first | apply Kd.R_alloc | apply Kd.R_drewN | apply Kd.R_drew)); exact (Kd.R_mono (Kd.R_far (p := ⟨gb171, 1, none⟩) (Kd.R_far (p := ⟨gb171, 0, none⟩) (Kd.R_types HO162.out BK171.out (by decide)) (fun _ hk => hk.2) (.int .i64 t166)) (fun _ hk => hk.2) (.slice Ao158 t167.length co158)) (fun _ h_ => h_.1))) hb); replace HO169 := am (Kd.R_below (by (with_reducible repeat (first | apply Kd.R_alloc | apply Kd.R_drewN | apply Kd.R_drew)); exact (Kd.R_mono (Kd.R_far (p := ⟨gb171, 1, none⟩) (Kd.R_far (p := ⟨gb171, 0, none⟩) (Kd.R_types HO169.out BK171.out (by decide)) (fun _ hk => hk.2) (.int .i64 t166)) (fun _ hk => hk.2) (.slice Ao158 t167.length co158)) (fun _ h_ => h_.1))) hb); replace BK101 := am (blk_below (g := gb101) (o := .cells #[.int .i64 a1_0, .slice A1_1 l1_1.length c1_1] 39 (0, 0)) (by (with_reducible repeat (first | refine blk_drewN ?_ _ | refine blk_drew ?_ | refine blk_alloc ?_ _)); refine blk_far ?_ NB101_171.out _; (with_reducible repeat (first | refine blk_drewN ?_ _ | refine blk_drew ?_ | refine blk_alloc ?_ _)); refine blk_far ?_ NB101_171.out _; (with_reducible repeat (first | refine blk_drewN ?_ _ | refine blk_drew ?_ | refine blk_alloc ?_ _)); exact BK101.out) hb); replace BK102 := am (blk_below (g := gb102) (o := .cells #[.int .i64 a2_0, .int .i64 a2_1, .int .i64 a2_2] 69 (0, 0)) (by (with_reducible repeat (first | refine blk_drewN ?_ _ | refine blk_drew ?_ | refine blk_alloc ?_ _)); refine blk_far ?_ NB102_171.out _; (with_reducible repeat (first | refine blk_drewN ?_ _ | refine blk_drew ?_ | refine blk_alloc ?_ _)); refine blk_far ?_ NB102_171.out _; (with_reducible repeat (first | refine blk_drewN ?_ _ | refine blk_drew ?_ | refine blk_alloc ?_ _)); exact BK102.out) hb); replace BK120 := am (blk_below (g := gb120) (o := .cells #[.int .i64 t115, .slice Ao39 t116.length co39] 46 (0, 0)) (by (with_reducible repeat (first | refine blk_drewN ?_ _ | refine blk_drew ?_ | refine blk_alloc ?_ _)); refine blk_far ?_ NB120_171.out _; (with_reducible repeat (first | refine blk_drewN ?_ _ | refine blk_drew ?_ | refine blk_alloc ?_ _)); refine blk_far ?_ NB120_171.out _; (with_reducible repeat (first | refine blk_drewN ?_ _ | refine blk_drew ?_ | refine blk_alloc ?_ _)); exact BK120.out) hb); replace BK128 := am (blk_below (g := gb128) (o := .cells #[.int .i64 t124, .slice Ao50 t151.length co50] 46 (0, 0)) (by (with_reducible repeat (first | refine blk_drewN ?_ _ | refine blk_drew ?_ | refine blk_alloc ?_ _)); refine blk_far ?_ NB128_171.out _; (with_reducible repeat (first | refine blk_drewN ?_ _ | refine blk_drew ?_ | refine blk_alloc ?_ _)); refine blk_far ?_ NB128_171.out _; (with_reducible repeat (first | refine blk_drewN ?_ _ | refine blk_drew ?_ | refine blk_alloc ?_ _)); exact BK128.out) hb); replace BK137 := am (blk_below (g := gb137) (o := .cells #[.int .i64 t132, .slice Ao59 t133.length co59] 46 (0, 0)) (by (with_reducible repeat (first | refine blk_drewN ?_ _ | refine blk_drew ?_ | refine blk_alloc ?_ _)); refine blk_far ?_ NB137_171.out _; (with_reducible repeat (first | refine blk_drewN ?_ _ | refine blk_drew ?_ | refine blk_alloc ?_ _)); refine blk_far ?_ NB137_171.out _; (with_reducible repeat (first | refine blk_drewN ?_ _ | refine blk_drew ?_ | refine blk_alloc ?_ _)); exact BK137.out) hb); replace BK171 := am (blk_below (g := gb171) (o := .cells #[.int .i64 t166, .slice Ao158 t167.length co158] 46 (0, 0)) (by (with_reducible repeat (first | refine blk_drewN ?_ _ | refine blk_drew ?_ | refine blk_alloc ?_ _)); refine blk_put (cs := #[.int .i64 t166, .slice none 0 0]) ?_ 1 _ rfl; (with_reducible repeat (first | refine blk_drewN ?_ _ | refine blk_drew ?_ | refine blk_alloc ?_ _)); refine blk_put (cs := #[.int .i64 0, .slice none 0 0]) ?_ 0 _ rfl; (with_reducible repeat (first | refine blk_drewN ?_ _ | refine blk_drew ?_ | refine blk_alloc ?_ _)); exact BK171.out) hb); replace HB := am (below_step (K6 HB GE101.out GE102.out GE120.out GE128.out GE137.out GE171.out) hb); (try clear hb); (try clear hb2); (try clear hk); (try clear hi)))
               go_meet
               case rel => exact ⟨_, ((t170 != t119)), (by first | rfl | (simp; done) | (simp [*]; done)), H', ⟨by have := HJ22.out; have := HJ91.out; first | omega | exact Nat.le_refl _⟩, ⟨by (try simp only [hl129001_91]); (with_reducible repeat (first | apply Kd.R_alloc | apply Kd.R_drewN | apply Kd.R_drew)); exact Kd.R_mono HO_121001.out (fun _ hk => ⟨hk.2.2.1, ⟨hk.2.2.2, hk.2.1⟩⟩)⟩, ⟨by (try simp only [hl129001_91]); (with_reducible repeat (first | apply Kd.R_alloc | apply Kd.R_drewN | apply Kd.R_drew)); exact Kd.R_mono HO_129001.out (fun _ hk => ⟨hk.2.2.1, ⟨hk.2.2.2, hk.2.1⟩⟩)⟩, ⟨by (try simp only [hl129001_91]); (with_reducible repeat (first | apply Kd.R_alloc | apply Kd.R_drewN | apply Kd.R_drew)); exact Kd.R_mono HO_138001.out (fun _ hk => ⟨hk.2.2.1, ⟨hk.2.2.2, hk.2.1⟩⟩)⟩, ⟨by (try simp only [hl129001_91]); (with_reducible repeat (first | apply Kd.R_alloc | apply Kd.R_drewN | apply Kd.R_drew)); exact Kd.R_mono HO169.out (fun _ hk => ⟨hk.2.1, ⟨hk.2.2.1, hk.2.2.2⟩⟩)⟩, ⟨by (try simp only [hl129001_91]); (with_reducible repeat (first | refine blk_drewN ?_ _ | refine blk_drew ?_ | refine blk_alloc ?_ _)); exact BK101.out⟩, ⟨by (try simp only [hl129001_91]); (with_reducible repeat (first | refine blk_drewN ?_ _ | refine blk_drew ?_ | refine blk_alloc ?_ _)); exact BK102.out⟩, ⟨by (try simp only [hl129001_91]); (with_reducible repeat (first | refine blk_drewN ?_ _ | refine blk_drew ?_ | refine blk_alloc ?_ _)); exact BK120.out⟩, ⟨by (try simp only [hl129001_91]); (with_reducible repeat (first | refine blk_drewN ?_ _ | refine blk_drew ?_ | refine blk_alloc ?_ _)); exact BK128.out⟩, ⟨by (try simp only [hl129001_91]); (with_reducible repeat (first | refine blk_drewN ?_ _ | refine blk_drew ?_ | refine blk_alloc ?_ _)); exact BK137.out⟩, ⟨by (try simp only [hl129001_91]); (with_reducible repeat (first | refine blk_drewN ?_ _ | refine blk_drew ?_ | refine blk_alloc ?_ _)); exact BK171.out⟩, ⟨K6 HB GE101.out GE102.out GE120.out GE128.out GE137.out GE171.out⟩⟩
              ·replace c161 := Bool.eq_false_iff.mpr c161
               subst c161
               have H1 : (laws_FnExactCacheFind.j2 kj91 t153 true t132 t154) = some r := by rw [if_neg (show ¬ (false = true) by decide)] at H; exact H
               clear H
               have H := H1
               clear H1
               have H' := Aside0.mk H
               clear H
               have hnb174 := NB171_101.out
               have hnc174 := NB101_171.out
               have hnb175 := NB171_102.out
               have hnc175 := NB102_171.out
               have hnb176 := NB171_120.out
               have hnc176 := NB120_171.out
               have hnb177 := NB171_128.out
               have hnc177 := NB128_171.out
               have hnb178 := NB171_137.out
               have hnc178 := NB137_171.out
               obtain ⟨hcz179_0, hcz179_1, hfz179_0⟩ := y2 w156 BK171.out
               have hnb180 := NB120_101.out
               have hnc180 := NB101_120.out
               have hnb181 := NB120_102.out
               have hnc181 := NB102_120.out
               have hnb182 := NB120_128.out
               have hnc182 := NB128_120.out
               have hnb183 := NB120_137.out
               have hnc183 := NB137_120.out
               obtain ⟨hcz184_0, hcz184_1, hfz184_0⟩ := y2 w156 BK120.out
               go_wp2_with (first | ((with_reducible refine gate_callee (f := 28) rfl ?_); refine goesL_ (some 112) rfl rfl Try.func28 (by kernel_rfl) rfl #[.agg #[.int .i64 t166, .slice Ao158 t167.length co158], .agg #[.int .i64 t115, .slice Ao39 t116.length co39]] rfl MT ?_; (with_reducible refine (laws_eqCache.calls kj91 t166 _ _ t167 t115 _ _ t116 false _ ?side1 ?side2 ?side3 ?side4 A160.out).mono ?_); (case side1 => refine (Kd.R_reads' (e := 108) (base := w.heap.size) (ok := fun k_ => (some k_ ≠ (v161 : Value).ownBlock ∧ (some k_ ≠ (.slice Ao39 t116.length co39 : Value).ownBlock ∧ (some k_ ≠ (.slice Ao50 t151.length co50 : Value).ownBlock ∧ some k_ ≠ (.slice Ao59 t133.length co59 : Value).ownBlock)))) (n := t167.length) (c := co158) ?_).2.2; exact (by (with_reducible repeat (first | apply Kd.R_alloc | apply Kd.R_drewN | apply Kd.R_drew)); exact (Kd.R_mono (Kd.R_far (p := ⟨gb171, 1, none⟩) (Kd.R_far (p := ⟨gb171, 0, none⟩) (Kd.R_types HO169.out BK171.out (by decide)) (fun _ hk => hk.2) (.int .i64 t166)) (fun _ hk => hk.2) (.slice Ao158 t167.length co158)) (fun _ h_ => h_.1)))); (case side2 => exact (Kd.R_reads' HO169.out).2.1); (case side3 => refine (Kd.R_reads' (e := 108) (base := w.heap.size) (ok := fun k_ => (some k_ ≠ (v161 : Value).ownBlock ∧ (some k_ ≠ (.slice Ao158 t167.length co158 : Value).ownBlock ∧ (some k_ ≠ (.slice Ao50 t151.length co50 : Value).ownBlock ∧ some k_ ≠ (.slice Ao59 t133.length co59 : Value).ownBlock)))) (n := t116.length) (c := co39) ?_).2.2; exact (by (with_reducible repeat (first | apply Kd.R_alloc | apply Kd.R_drewN | apply Kd.R_drew)); exact (Kd.R_mono (Kd.R_far (p := ⟨gb171, 1, none⟩) (Kd.R_far (p := ⟨gb171, 0, none⟩) (Kd.R_types HO_121001.out BK171.out (by decide)) (fun _ hk => hk.2) (.int .i64 t166)) (fun _ hk => hk.2) (.slice Ao158 t167.length co158)) (fun _ h_ => h_.1)))); (case side4 => exact (Kd.R_reads' HO_121001.out).2.1); rintro e w185 ⟨rfl, hb⟩; refine ⟨_, rfl, ?_⟩; replace HO_121001 := am (Kd.R_below (by (with_reducible repeat (first | apply Kd.R_alloc | apply Kd.R_drewN | apply Kd.R_drew)); exact (Kd.R_mono (Kd.R_far (p := ⟨gb171, 1, none⟩) (Kd.R_far (p := ⟨gb171, 0, none⟩) (Kd.R_types HO_121001.out BK171.out (by decide)) (fun _ hk => hk.2) (.int .i64 t166)) (fun _ hk => hk.2) (.slice Ao158 t167.length co158)) (fun _ h_ => h_.1))) hb); replace HO_129001 := am (Kd.R_below (by (with_reducible repeat (first | apply Kd.R_alloc | apply Kd.R_drewN | apply Kd.R_drew)); exact (Kd.R_mono (Kd.R_far (p := ⟨gb171, 1, none⟩) (Kd.R_far (p := ⟨gb171, 0, none⟩) (Kd.R_types HO_129001.out BK171.out (by decide)) (fun _ hk => hk.2) (.int .i64 t166)) (fun _ hk => hk.2) (.slice Ao158 t167.length co158)) (fun _ h_ => h_.1))) hb); replace HO_138001 := am (Kd.R_below (by (with_reducible repeat (first | apply Kd.R_alloc | apply Kd.R_drewN | apply Kd.R_drew)); exact (Kd.R_mono (Kd.R_far (p := ⟨gb171, 1, none⟩) (Kd.R_far (p := ⟨gb171, 0, none⟩) (Kd.R_types HO_138001.out BK171.out (by decide)) (fun _ hk => hk.2) (.int .i64 t166)) (fun _ hk => hk.2) (.slice Ao158 t167.length co158)) (fun _ h_ => h_.1))) hb); replace HO158 := am (Kd.R_below (by (with_reducible repeat (first | apply Kd.R_alloc | apply Kd.R_drewN | apply Kd.R_drew)); exact (Kd.R_mono (Kd.R_far (p := ⟨gb171, 1, none⟩) (Kd.R_far (p := ⟨gb171, 0, none⟩) (Kd.R_types HO158.out BK171.out (by decide)) (fun _ hk => hk.2) (.int .i64 t166)) (fun _ hk => hk.2) (.slice Ao158 t167.length co158)) (fun _ h_ => h_.1))) hb); replace HO162 := am (Kd.R_below (by (with_reducible repeat (first | apply Kd.R_alloc | apply Kd.R_drewN | apply Kd.R_drew)); exact (Kd.R_mono (Kd.R_far (p := ⟨gb171, 1, none⟩) (Kd.R_far (p := ⟨gb171, 0, none⟩) (Kd.R_types HO162.out BK171.out (by decide)) (fun _ hk => hk.2) (.int .i64 t166)) (fun _ hk => hk.2) (.slice Ao158 t167.length co158)) (fun _ h_ => h_.1))) hb); replace HO169 := am (Kd.R_below (by (with_reducible repeat (first | apply Kd.R_alloc | apply Kd.R_drewN | apply Kd.R_drew)); exact (Kd.R_mono (Kd.R_far (p := ⟨gb171, 1, none⟩) (Kd.R_far (p := ⟨gb171, 0, none⟩) (Kd.R_types HO169.out BK171.out (by decide)) (fun _ hk => hk.2) (.int .i64 t166)) (fun _ hk => hk.2) (.slice Ao158 t167.length co158)) (fun _ h_ => h_.1))) hb); replace BK101 := am (blk_below (g := gb101) (o := .cells #[.int .i64 a1_0, .slice A1_1 l1_1.length c1_1] 39 (0, 0)) (by (with_reducible repeat (first | refine blk_drewN ?_ _ | refine blk_drew ?_ | refine blk_alloc ?_ _)); refine blk_far ?_ NB101_171.out _; (with_reducible repeat (first | refine blk_drewN ?_ _ | refine blk_drew ?_ | refine blk_alloc ?_ _)); refine blk_far ?_ NB101_171.out _; (with_reducible repeat (first | refine blk_drewN ?_ _ | refine blk_drew ?_ | refine blk_alloc ?_ _)); exact BK101.out) hb); replace BK102 := am (blk_below (g := gb102) (o := .cells #[.int .i64 a2_0, .int .i64 a2_1, .int .i64 a2_2] 69 (0, 0)) (by (with_reducible repeat (first | refine blk_drewN ?_ _ | refine blk_drew ?_ | refine blk_alloc ?_ _)); refine blk_far ?_ NB102_171.out _; (with_reducible repeat (first | refine blk_drewN ?_ _ | refine blk_drew ?_ | refine blk_alloc ?_ _)); refine blk_far ?_ NB102_171.out _; (with_reducible repeat (first | refine blk_drewN ?_ _ | refine blk_drew ?_ | refine blk_alloc ?_ _)); exact BK102.out) hb); replace BK120 := am (blk_below (g := gb120) (o := .cells #[.int .i64 t115, .slice Ao39 t116.length co39] 46 (0, 0)) (by (with_reducible repeat (first | refine blk_drewN ?_ _ | refine blk_drew ?_ | refine blk_alloc ?_ _)); refine blk_far ?_ NB120_171.out _; (with_reducible repeat (first | refine blk_drewN ?_ _ | refine blk_drew ?_ | refine blk_alloc ?_ _)); refine blk_far ?_ NB120_171.out _; (with_reducible repeat (first | refine blk_drewN ?_ _ | refine blk_drew ?_ | refine blk_alloc ?_ _)); exact BK120.out) hb); replace BK128 := am (blk_below (g := gb128) (o := .cells #[.int .i64 t124, .slice Ao50 t151.length co50] 46 (0, 0)) (by (with_reducible repeat (first | refine blk_drewN ?_ _ | refine blk_drew ?_ | refine blk_alloc ?_ _)); refine blk_far ?_ NB128_171.out _; (with_reducible repeat (first | refine blk_drewN ?_ _ | refine blk_drew ?_ | refine blk_alloc ?_ _)); refine blk_far ?_ NB128_171.out _; (with_reducible repeat (first | refine blk_drewN ?_ _ | refine blk_drew ?_ | refine blk_alloc ?_ _)); exact BK128.out) hb); replace BK137 := am (blk_below (g := gb137) (o := .cells #[.int .i64 t132, .slice Ao59 t133.length co59] 46 (0, 0)) (by (with_reducible repeat (first | refine blk_drewN ?_ _ | refine blk_drew ?_ | refine blk_alloc ?_ _)); refine blk_far ?_ NB137_171.out _; (with_reducible repeat (first | refine blk_drewN ?_ _ | refine blk_drew ?_ | refine blk_alloc ?_ _)); refine blk_far ?_ NB137_171.out _; (with_reducible repeat (first | refine blk_drewN ?_ _ | refine blk_drew ?_ | refine blk_alloc ?_ _)); exact BK137.out) hb); replace BK171 := am (blk_below (g := gb171) (o := .cells #[.int .i64 t166, .slice Ao158 t167.length co158] 46 (0, 0)) (by (with_reducible repeat (first | refine blk_drewN ?_ _ | refine blk_drew ?_ | refine blk_alloc ?_ _)); refine blk_put (cs := #[.int .i64 t166, .slice none 0 0]) ?_ 1 _ rfl; (with_reducible repeat (first | refine blk_drewN ?_ _ | refine blk_drew ?_ | refine blk_alloc ?_ _)); refine blk_put (cs := #[.int .i64 0, .slice none 0 0]) ?_ 0 _ rfl; (with_reducible repeat (first | refine blk_drewN ?_ _ | refine blk_drew ?_ | refine blk_alloc ?_ _)); exact BK171.out) hb); replace HB := am (below_step (K6 HB GE101.out GE102.out GE120.out GE128.out GE137.out GE171.out) hb); (try clear hb); (try clear hb2); (try clear hk); (try clear hi)))
               go_meet
               case rel => exact ⟨_, (true), (by first | rfl | (simp; done) | (simp [*]; done)), H', ⟨by have := HJ22.out; have := HJ91.out; first | omega | exact Nat.le_refl _⟩, ⟨by (try simp only [hl129001_91]); (with_reducible repeat (first | apply Kd.R_alloc | apply Kd.R_drewN | apply Kd.R_drew)); exact Kd.R_mono HO_121001.out (fun _ hk => ⟨hk.2.2.1, ⟨hk.2.2.2, hk.2.1⟩⟩)⟩, ⟨by (try simp only [hl129001_91]); (with_reducible repeat (first | apply Kd.R_alloc | apply Kd.R_drewN | apply Kd.R_drew)); exact Kd.R_mono HO_129001.out (fun _ hk => ⟨hk.2.2.1, ⟨hk.2.2.2, hk.2.1⟩⟩)⟩, ⟨by (try simp only [hl129001_91]); (with_reducible repeat (first | apply Kd.R_alloc | apply Kd.R_drewN | apply Kd.R_drew)); exact Kd.R_mono HO_138001.out (fun _ hk => ⟨hk.2.2.1, ⟨hk.2.2.2, hk.2.1⟩⟩)⟩, ⟨by (try simp only [hl129001_91]); (with_reducible repeat (first | apply Kd.R_alloc | apply Kd.R_drewN | apply Kd.R_drew)); exact Kd.R_mono HO169.out (fun _ hk => ⟨hk.2.1, ⟨hk.2.2.1, hk.2.2.2⟩⟩)⟩, ⟨by (try simp only [hl129001_91]); (with_reducible repeat (first | refine blk_drewN ?_ _ | refine blk_drew ?_ | refine blk_alloc ?_ _)); exact BK101.out⟩, ⟨by (try simp only [hl129001_91]); (with_reducible repeat (first | refine blk_drewN ?_ _ | refine blk_drew ?_ | refine blk_alloc ?_ _)); exact BK102.out⟩, ⟨by (try simp only [hl129001_91]); (with_reducible repeat (first | refine blk_drewN ?_ _ | refine blk_drew ?_ | refine blk_alloc ?_ _)); exact BK120.out⟩, ⟨by (try simp only [hl129001_91]); (with_reducible repeat (first | refine blk_drewN ?_ _ | refine blk_drew ?_ | refine blk_alloc ?_ _)); exact BK128.out⟩, ⟨by (try simp only [hl129001_91]); (with_reducible repeat (first | refine blk_drewN ?_ _ | refine blk_drew ?_ | refine blk_alloc ?_ _)); exact BK137.out⟩, ⟨by (try simp only [hl129001_91]); (with_reducible repeat (first | refine blk_drewN ?_ _ | refine blk_drew ?_ | refine blk_alloc ?_ _)); exact BK171.out⟩, ⟨K6 HB GE101.out GE102.out GE120.out GE128.out GE137.out GE171.out⟩⟩
             case rest =>
              clear HC139
              try clear c1
              try clear c2
              try clear p2
              try clear c3
              try clear c16
              try clear c17
              try clear c18
              try clear c28
              try clear c30
              try clear c161
              try clear c162
              try clear c163
              try clear c164
              try clear c165
              try clear c166
              try clear c168
              try clear c169
              try clear c170
              try clear c171
              try clear c174
              try clear c175
              try clear c176
              try clear c177
              try clear c178
              try clear c180
              try clear c181
              try clear c182
              try clear c183
              try clear hcz167_0
              try clear hcz167_1
              try clear hcz172_0
              try clear hcz172_1
              try clear hcz179_0
              try clear hcz179_1
              try clear hcz184_0
              try clear hcz184_1
              try clear hfz167_0
              try clear hfz172_0
              try clear hfz179_0
              try clear hfz184_0
              obtain ⟨kq, x118_138, rfl, HA, HJ138, HO_121001, HO_129001, HO_138001, HO_172001, BK101, BK102, BK120, BK128, BK137, BK171, HB⟩ := hcut
              have hl138001_138 := (Kd.R_reads' HO_138001.out).1
              rw [hl138001_138] at HO_138001
              (try simp only [hl138001_138])
              (try simp only [hl138001_138] at BK101)
              (try simp only [hl138001_138] at BK102)
              (try simp only [hl138001_138] at BK120)
              (try simp only [hl138001_138] at BK128)
              (try simp only [hl138001_138] at BK137)
              (try simp only [hl138001_138] at BK171)
              (try simp only [hl138001_138] at HO_121001)
              (try simp only [hl138001_138] at HO_129001)
              (try simp only [hl138001_138] at HO_172001)
              cases kq with
              | zero => exact absurd HA.out (by simp [laws_FnExactCacheFind.j2])
              | succ kj138 =>
               have H := HA.out
               clear HA
               simp only [laws_FnExactCacheFind.j2] at H
               by_cases c186 : x118_138 = true
               ·subst c186
                have H1 : (some false) = some r := by rw [if_pos rfl] at H; exact H
                clear H
                have H := H1
                clear H1
                exact absurd ((Option.some.inj H).trans HR_.out) (by decide)
               ·replace c186 := Bool.eq_false_iff.mpr c186
                subst c186
                have H1 : ((laws_heldCache.f kj138 t132 t154 1).bind fun t173 => (if t173 < 0 then (some false) else (if t173 = t153 then (some true) else (some false)))) = some r := by rw [if_neg (show ¬ (false = true) by decide)] at H; exact H
                clear H
                have H := H1
                clear H1
                replace H := Option.bind_eq_some_iff.mp H
                obtain ⟨t173, A1870, H⟩ := H
                replace H : (if t173 < 0 then (some false) else (if t173 = t153 then (some true) else (some false))) = some r := H
                have A187 := Aside0.mk A1870
                clear A1870
                by_cases c188 : t173 < 0
                ·rw [if_pos c188] at H
                 have c188b0 : decide (t173 < 0) = true := decide_eq_true c188
                 clear c188
                 exact absurd ((Option.some.inj H).trans HR_.out) (by decide)
                ·rw [if_neg c188] at H
                 have c188b0 : decide (t173 < 0) = false := decide_eq_false c188
                 clear c188
                 by_cases c189 : t173 = t153
                 ·rw [if_pos c189] at H
                  have c189b0 : (t173 == t153) = true := beq_iff_eq.mpr c189
                  have c189b1 : (t173 != t153) = false := bne_eq_false_iff_eq.mpr c189
                  clear c189
                  obtain rfl := Option.some.inj H
                  have hnb190 := NB137_101.out
                  have hnc190 := NB101_137.out
                  have hnb191 := NB137_102.out
                  have hnc191 := NB102_137.out
                  have hnb192 := NB137_120.out
                  have hnc192 := NB120_137.out
                  have hnb193 := NB137_128.out
                  have hnc193 := NB128_137.out
                  have hnb194 := NB137_171.out
                  have hnc194 := NB171_137.out
                  obtain ⟨hcz195_0, hcz195_1, hfz195_0⟩ := y2 wc BK137.out
                  go_wp2_with (first | ((with_reducible refine gate_callee (f := 47) rfl ?_); refine goesL_ (some 121) rfl rfl Try.func47 (by kernel_rfl) rfl #[.agg #[.int .i64 t132, .slice Ao59 t154.length co59], .int .i64 1] rfl MT ?_; (with_reducible refine (laws_heldCache.calls kj138 t132 _ _ t154 1 t173 _ ?side1 ?side2 A187.out).mono ?_); (case side1 => exact KC (Kd.R_reads' HO_138001.out).2.2); (case side2 => exact (Kd.R_reads' HO_138001.out).2.1); rintro e w196 ⟨rfl, hb⟩; refine ⟨_, rfl, ?_⟩; replace HO_121001 := am (Kd.R_below (KR HO_121001) hb); replace HO_129001 := am (Kd.R_below (KR HO_129001) hb); replace HO_138001 := am (Kd.R_below (KR HO_138001) hb); replace HO_172001 := am (Kd.R_below (KR HO_172001) hb); replace BK101 := am (BB BK101 hb); replace BK102 := am (BB BK102 hb); replace BK120 := am (BB BK120 hb); replace BK128 := am (BB BK128 hb); replace BK137 := am (BB BK137 hb); replace BK171 := am (BB BK171 hb); replace HB := am (below_step (K6 HB GE101.out GE102.out GE120.out GE128.out GE137.out GE171.out) hb); (try clear hb); (try clear hb2); (try clear hk); (try clear hi)))
                  go_ret
                  exact ⟨ER, K6 HB GE101.out GE102.out GE120.out GE128.out GE137.out GE171.out⟩
                 ·rw [if_neg c189] at H
                  have c189b0 : (t173 == t153) = false := beq_eq_false_iff_ne.mpr c189
                  have c189b1 : (t173 != t153) = true := bne_iff_ne.mpr c189
                  exact absurd ((Option.some.inj H).trans HR_.out) (by decide)
            ·rw [if_neg c134] at H
             have c134b0 : (t155 == t153) = false := beq_eq_false_iff_ne.mpr c134
             have c134b1 : (t155 != t153) = true := bne_iff_ne.mpr c134
             exact absurd ((Option.some.inj H).trans HR_.out) (by decide)
       ·replace c89 := Bool.eq_false_iff.mpr c89
        subst c89
        have H1 : (some false) = some r := by rw [if_neg (show ¬ (false = true) by decide)] at H; exact H
        clear H
        have H := H1
        clear H1
        exact absurd ((Option.some.inj H).trans HR_.out) (by decide)
      ·replace c86 := Bool.eq_false_iff.mpr c86
       subst c86
       have H1 : (some false) = some r := by rw [if_neg (show ¬ (false = true) by decide)] at H; exact H
       clear H
       have H := H1
       clear H1
       exact absurd ((Option.some.inj H).trans HR_.out) (by decide)
def laws_FnExactCacheFind.Pure : Prop := ∀ (l0 : List (S112)) (a1_0 : Int) (l1_1 : List (S149)) (a2_0 : Int) (a2_1 : Int) (a2_2 : Int), ((l0.length ≤ maxLen ∧ ∀ x_ ∈ l0, wfT112 x_)) → ((Lit.int .i64 a1_0).wf = true) → ((l1_1.length ≤ maxLen ∧ ∀ x_ ∈ l1_1, wfT149 x_)) → ((Lit.int .i64 a2_0).wf = true) → ((Lit.int .i64 a2_1).wf = true) → ((Lit.int .i64 a2_2).wf = true) → ∃ k, laws_FnExactCacheFind.f k l0 a1_0 l1_1 a2_0 a2_1 a2_2 = some true
theorem laws_FnExactCacheFind.walk (P : laws_FnExactCacheFind.Pure) (A0 : Option Addr) (c0 : Nat) (l0 : List (S112)) (a1_0 : Int) (A1_1 : Option Addr) (c1_1 : Nat) (l1_1 : List (S149)) (a2_0 : Int) (a2_1 : Int) (a2_2 : Int) (w : World) (hr0 : Kd.C k112 w A0 l0.length l0) (hc0 : l0.length ≤ c0) (hr1_1 : Kd.C k149 w A1_1 l1_1.length l1_1) (hc1_1 : l1_1.length ≤ c1_1) (q0_ : (l0.length ≤ maxLen ∧ ∀ x_ ∈ l0, wfT112 x_)) (q1_ : (Lit.int .i64 a1_0).wf = true) (q2_ : (l1_1.length ≤ maxLen ∧ ∀ x_ ∈ l1_1, wfT149 x_)) (q3_ : (Lit.int .i64 a2_0).wf = true) (q4_ : (Lit.int .i64 a2_1).wf = true) (q5_ : (Lit.int .i64 a2_2).wf = true) :
  Calls Try.prog 9 #[.slice A0 l0.length c0, .agg #[.int .i64 a1_0, .slice A1_1 l1_1.length c1_1], .agg #[.int .i64 a2_0, .int .i64 a2_1, .int .i64 a2_2]] w fun e w' => e = .returned (.bool true) ∧ Below w.heap.size w w' := by
 obtain ⟨k, h⟩ := P l0 a1_0 l1_1 a2_0 a2_1 a2_2 q0_ q1_ q2_ q3_ q4_ q5_
 refine (laws_FnExactCacheFind.calls k A0 c0 l0 a1_0 A1_1 c1_1 l1_1 a2_0 a2_1 a2_2 true w hr0 hc0 hr1_1 hc1_1 rfl h).mono ?_
 rintro e w' ⟨rfl, hd⟩
 exact ⟨rfl, hd⟩
end Go.Proofs.Ytioghacieopbdaa.PAll
end
