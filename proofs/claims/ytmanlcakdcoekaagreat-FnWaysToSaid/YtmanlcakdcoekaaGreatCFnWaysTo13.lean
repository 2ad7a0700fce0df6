/- Contracts of the functions that the statement reaches, printed by a program out of the translation and joined with the plain laws. -/
import Derived.Test.YtmanlcakdcoekaaGreatCFnWaysTo3
import Derived.Test.YtmanlcakdcoekaaGreatCFnWaysTo4
import Derived.Test.YtmanlcakdcoekaaGreatCFnWaysTo7
import Derived.Test.YtmanlcakdcoekaaGreatCFnWaysTo8
import Derived.Test.YtmanlcakdcoekaaGreatCFnWaysTo11
import Derived.Test.YtmanlcakdcoekaaGreatCFnWaysTo12
section
namespace Go.Proofs.YtmanlcakdcoekaaGreat.PAll
open Go.RowKit Go.Proofs.YtmanlcakdcoekaaGreatW.PrintWords Go.Proofs.YtmanlcakdcoekaaGreatW.PrintLast Go.Proofs.YtmanlcakdcoekaaGreatW.PrintMore
attribute [local go_sem] max2_int min2_int max_two min_two max_three min_three max_four min_four   -- for this text's walks alone
set_option linter.unusedVariables false
set_option linter.unusedSimpArgs false
mutual
def impl_WaysTo.j0 : Nat → List (S34) → Int → Bool → Option ((List (S32)) × Bool)
 | 0, _, _, _ => none
 | k + 1, x0, x1, x18 => if x18 = true then (some (([] : List (S32)), false)) else ((impl_blocksOf.f k (([x0] : List (List (S34))))).bind fun t106 => ((impl_bounds.f k t106).bind fun t109 => (impl_WaysTo.l0 k x0 x1 ([] : List (S50)) t109 t109 (t109.length : Int) 0)))
def impl_WaysTo.l0 : Nat → List (S34) → Int → List (S50) → List Int → List Int → Int → Int → Option ((List (S32)) × Bool)
 | 0, _, _, _, _, _, _, _ => none
 | k + 1, x0, x1, x6, x7, x23, x24, x25 => if x25 < x24 then (if 0 ≤ x25 then (if x25 < (x23.length : Int) then (if (wrap64 (x25 + 1)) < (x7.length : Int) then (if 0 ≤ (wrap64 (x25 + 1)) then ((impl_lead.f k x0 (rd x23 x25)).bind fun t121 => (if t121 = x1 then (if x6.length < 8796093022208 then (impl_WaysTo.l0 k x0 x1 (x6 ++ [(⟨rd x23 x25, wrap64 ((rd x7 (wrap64 (x25 + 1))) - 1)⟩ : S50)]) x7 x23 x24 (wrap64 (x25 + 1))) else (none)) else (impl_WaysTo.l0 k x0 x1 x6 x7 x23 x24 (wrap64 (x25 + 1))))) else (none)) else ((impl_lead.f k x0 (rd x23 x25)).bind fun t125 => (if t125 = x1 then (if x6.length < 8796093022208 then (impl_WaysTo.l0 k x0 x1 (x6 ++ [(⟨rd x23 x25, 4294967295⟩ : S50)]) x7 x23 x24 (wrap64 (x25 + 1))) else (none)) else (impl_WaysTo.l0 k x0 x1 x6 x7 x23 x24 (wrap64 (x25 + 1)))))) else (none)) else (none)) else ((impl_set.f k x6).bind fun t112 => ((impl_limited.f t112).bind fun bt115 => (some (bt115.1, bt115.2))))
end
def impl_WaysTo.f (k : Nat) (l0 : List (S34)) (a1 : Int) : Option ((List (S32)) × Bool) := (impl_WaysOk.f k l0).bind fun t101 => (if t101 = true then ((impl_in.f a1 (-1) 99).bind fun t102 => (impl_WaysTo.j0 k l0 a1 (!t102))) else (impl_WaysTo.j0 k l0 a1 true))
set_option maxHeartbeats 8000000 in
set_option maxRecDepth 100000 in
theorem impl_WaysTo.calls (k : Nat) (P0_ : Nat → Prop) (A0 : Option Addr) (c0 : Nat) (l0 : List (S34)) (a1 : Int) (r1 : List (S32)) (r2 : Bool) (w : World) (hs0 : Kd.V k34 34 w w.heap.size (fun k_ => P0_ k_) (.slice A0 l0.length c0) l0) (h : impl_WaysTo.f k l0 a1 = some (r1, r2)) :
  Calls Tryz.prog 5 #[.slice A0 l0.length c0, .int .i64 a1] w fun e w' => ∃ v0_ : Value, e = .returned (.tuple #[v0_, .bool r2]) ∧ Kd.R k32 32 w' w.heap.size (fun k_ => (w.heap.size ≤ k_)) v0_ r1 ∧ Below w.heap.size w w' := by
 have hu50 := Tryz.underlying50
 have HO0 := am (show Kd.V k34 34 w w.heap.size (fun k_ => (P0_ k_ ∨ w.heap.size ≤ k_)) (.slice A0 l0.length c0) l0 from Kd.V_mono hs0 (fun k_ hk => .inl hk))
 have HB := am (Below.refl w.heap.size w)
 have H : ((impl_WaysOk.f k l0).bind fun t101 => (if t101 = true then ((impl_in.f a1 (-1) 99).bind fun t102 => (impl_WaysTo.j0 k l0 a1 (!t102))) else (impl_WaysTo.j0 k l0 a1 true))) = some (r1, r2) := h
 clear h
 have HC3 := Aside0.mk H
 clear H
 go_enter Tryz.func5, Tryz.ntmps5
 go_upto_region 1 with (fail)
 go_cut [18] (fun v18 wc => ∃ (kq : Nat) (x18_2 : Bool), v18 = .bool x18_2 ∧ Aside0 (impl_WaysTo.j0 kq l0 a1 x18_2 = some (r1, r2)) ∧ Aside0 (kq ≤ k) ∧ Aside0 (Kd.V k34 34 wc w.heap.size (fun k_ => (P0_ k_ ∨ w.heap.size ≤ k_)) (.slice A0 l0.length c0) l0) ∧ Aside0 (Below w.heap.size w wc))
 case first =>
  have H := HC3.out
  clear HC3
  replace H := Option.bind_eq_some_iff.mp H
  obtain ⟨t101, A40, H⟩ := H
  replace H : (if t101 = true then ((impl_in.f a1 (-1) 99).bind fun t102 => (impl_WaysTo.j0 k l0 a1 (!t102))) else (impl_WaysTo.j0 k l0 a1 true)) = some (r1, r2) := H
  have A4 := Aside0.mk A40
  clear A40
  by_cases c5 : t101 = true
  ·subst c5
   have H1 : ((impl_in.f a1 (-1) 99).bind fun t102 => (impl_WaysTo.j0 k l0 a1 (!t102))) = some (r1, r2) := by rw [if_pos rfl] at H; exact H
   clear H
   have H := H1
   clear H1
   replace H := Option.bind_eq_some_iff.mp H
   obtain ⟨t102, A60, H⟩ := H
   replace H : (impl_WaysTo.j0 k l0 a1 (!t102)) = some (r1, r2) := H
   have A6 := Aside0.mk A60
   clear A60
   have H' := Aside0.mk H
   clear H
   go_wp2_with (first | ((with_reducible refine gate_callee (f := 16) rfl ?_); refine goesL_ (some 12) rfl rfl Tryz.func16 (by kernel_rfl) rfl #[.slice A0 l0.length c0] rfl MT ?_; (with_reducible refine (impl_WaysOk.calls k _ _ l0 true _ ?side1 ?side2 A4.out).mono ?_); (case side1 => exact KC (Kd.V_reads' HO0.out).2.2); (case side2 => exact (Kd.V_reads' HO0.out).2.1); rintro e w7 ⟨rfl, hb⟩; refine ⟨_, rfl, ?_⟩; replace HO0 := am (Kd.V_below (by (with_reducible repeat (first | apply Kd.V_alloc | apply Kd.V_drewN | apply Kd.V_drew)); exact HO0.out) hb); replace HB := am (below_step (KL HB) hb); (try clear hb); (try clear hb2); (try clear hk); (try clear hi)) | (go_at_call 17; (with_reducible refine (impl_in.calls a1 (-1) 99 t102 _ A6.out).mono ?_); rintro e w' ⟨rfl, ⟨nd, rfl⟩⟩))
   go_meet
   case rel => exact ⟨_, (!t102), (by first | rfl | (simp; done) | (simp [*]; done)), H', ⟨by first | omega | exact Nat.le_refl _⟩, ⟨by (with_reducible repeat (first | apply Kd.V_alloc | apply Kd.V_drewN | apply Kd.V_drew)); exact HO0.out⟩, ⟨KL HB⟩⟩
  ·replace c5 := Bool.eq_false_iff.mpr c5
   subst c5
   have H1 : (impl_WaysTo.j0 k l0 a1 true) = some (r1, r2) := by rw [if_neg (show ¬ (false = true) by decide)] at H; exact H
   clear H
   have H := H1
   clear H1
   have H' := Aside0.mk H
   clear H
   go_wp2_with (first | ((with_reducible refine gate_callee (f := 16) rfl ?_); refine goesL_ (some 12) rfl rfl Tryz.func16 (by kernel_rfl) rfl #[.slice A0 l0.length c0] rfl MT ?_; (with_reducible refine (impl_WaysOk.calls k _ _ l0 false _ ?side1 ?side2 A4.out).mono ?_); (case side1 => exact KC (Kd.V_reads' HO0.out).2.2); (case side2 => exact (Kd.V_reads' HO0.out).2.1); rintro e w8 ⟨rfl, hb⟩; refine ⟨_, rfl, ?_⟩; replace HO0 := am (Kd.V_below (by (with_reducible repeat (first | apply Kd.V_alloc | apply Kd.V_drewN | apply Kd.V_drew)); exact HO0.out) hb); replace HB := am (below_step (KL HB) hb); (try clear hb); (try clear hb2); (try clear hk); (try clear hi)))
   go_meet
   case rel => exact ⟨_, (true), (by first | rfl | (simp; done) | (simp [*]; done)), H', ⟨by first | omega | exact Nat.le_refl _⟩, ⟨by (with_reducible repeat (first | apply Kd.V_alloc | apply Kd.V_drewN | apply Kd.V_drew)); exact HO0.out⟩, ⟨KL HB⟩⟩
 case rest =>
  clear HC3
  try clear c1
  try clear p2
  try clear c5
  obtain ⟨kq, x18_2, rfl, HA, HJ2, HO_0, HB⟩ := hcut
  cases kq with
  | zero => exact absurd HA.out (by simp [impl_WaysTo.j0])
  | succ kj2 =>
   have H := HA.out
   clear HA
   simp only [impl_WaysTo.j0] at H
   by_cases c9 : x18_2 = true
   ·subst c9
    have H1 : (some (([] : List (S32)), false)) = some (r1, r2) := by rw [if_pos rfl] at H; exact H
    clear H
    have H := H1
    clear H1
    simp only [Option.some.injEq, Prod.mk.injEq] at H
    obtain ⟨rfl, rfl⟩ := H
    go_wp2
    go_ret2
    exact ⟨_, ER, by first | exact Kd.R_nil _ _ _ _ _ | exact Kd.N_nil _ _ _ _ _ | exact Kd.V_nil _ _ _ _ _ | exact Kd.Q_nil _ _ _ _ _ | exact Kd.S_nil _ _ _ _ _, KL HB⟩
   ·replace c9 := Bool.eq_false_iff.mpr c9
    subst c9
    have H1 : ((impl_blocksOf.f kj2 (([l0] : List (List (S34))))).bind fun t106 => ((impl_bounds.f kj2 t106).bind fun t109 => (impl_WaysTo.l0 kj2 l0 a1 ([] : List (S50)) t109 t109 (t109.length : Int) 0))) = some (r1, r2) := by rw [if_neg (show ¬ (false = true) by decide)] at H; exact H
    clear H
    have H := H1
    clear H1
    obtain ⟨y103, hy103⟩ : ∃ y_ : List (List (S34)), y_ = (([l0] : List (List (S34)))) := ⟨_, rfl⟩
    replace H : ((impl_blocksOf.f kj2 y103).bind fun t106 => ((impl_bounds.f kj2 t106).bind fun t109 => (impl_WaysTo.l0 kj2 l0 a1 ([] : List (S50)) t109 t109 (t109.length : Int) 0))) = some (r1, r2) := by first | (rw [hy103]; with_reducible exact H) | (have H2_ := (Option.bind_some _ _).symm.trans H; rw [hy103]; with_reducible exact H2_) | (have H2_ := (Option.bind_some _ _).symm.trans H; with_reducible exact H2_) | with_reducible exact H | (rw [hy103]; exact H) | exact H
    have Ny103 := Aside0.mk hy103
    clear hy103
    replace H := Option.bind_eq_some_iff.mp H
    obtain ⟨t106, A100, H⟩ := H
    replace H : ((impl_bounds.f kj2 t106).bind fun t109 => (impl_WaysTo.l0 kj2 l0 a1 ([] : List (S50)) t109 t109 (t109.length : Int) 0)) = some (r1, r2) := H
    have A10 := Aside0.mk A100
    clear A100
    replace H := Option.bind_eq_some_iff.mp H
    obtain ⟨t109, A110, H⟩ := H
    replace H : (impl_WaysTo.l0 kj2 l0 a1 ([] : List (S50)) t109 t109 (t109.length : Int) 0) = some (r1, r2) := H
    have A11 := Aside0.mk A110
    clear A110
    have H' := Aside0.mk H
    clear H
    go_wp2_with (first | ((with_reducible refine gate_dst (N := 20) rfl ?_); refine Kd.N_lit (Kd.slice 34 k34) _ 23 ?hg (N' := 20) ?hd (xs := ([l0] : List (List (S34)))) (inner := [.slice A0 l0.length c0]) (ok := (fun k_ => (P0_ k_ ∨ w.heap.size ≤ k_))) (okp := (fun k_ => (P0_ k_ ∨ w.heap.size ≤ k_))) ?hr ?hp (fun _ hk => hk) ((show ∀ k_, wc.heap.size ≤ k_ → (fun k_ => (P0_ k_ ∨ w.heap.size ≤ k_)) k_ from fun k_ hk => (.inr (Nat.le_trans (below_size (KL HB)) hk))) _ (Nat.le_refl _)) (Below.refl _ _) (Nat.le_refl _) (by simp) ?_; (case hd => rfl); (case hg => rfl); (case hr => first | (go_simp; done) | (go_simp; rfl)); (case hp => exact (Reps.one (show Kd.FK (Kd.slice 34 k34) _ _ l0 [.slice A0 l0.length c0] from (Kd.FK_slice_mk (Kd.V_reads' (Kd.V_mono (ok' := (fun k_ => (P0_ k_ ∨ w.heap.size ≤ k_))) (HO_0.out) (fun k_ hk => hk))).2.1 (Kd.V_F (Kd.V_mono (ok' := (fun k_ => (P0_ k_ ∨ w.heap.size ≤ k_))) (HO_0.out) (fun k_ hk => hk))))) (Reps.none _ _))); intro v104 w12 ho13 hb hg_ hnew_; clear hg_ hnew_; (first | rw [← Ny103.out] at ho13 | (simp only [Int.reduceToNat] at ho13; rw [← Ny103.out] at ho13)); replace HO_0 := am (Kd.V_elder' (by (with_reducible repeat (first | apply Kd.V_alloc | apply Kd.V_drewN | apply Kd.V_drew)); exact HO_0.out) (Kd.N_base ho13) hb); have HO105 := am (Kd.N_lower ho13 (below_size (KL HB))); replace HB := am (below_step (KL HB) hb); clear hb ho13; obtain ⟨Ao14, co14, eo14⟩ := Kd.N_slice HO105.out; subst eo14) | ((with_reducible refine gate_callee (f := 19) rfl ?_); refine goesL_ (some 21) rfl rfl Tryz.func19 (by kernel_rfl) rfl #[.slice Ao14 y103.length co14] rfl MT ?_; (with_reducible refine (impl_blocksOf.calls kj2 _ _ y103 t106 _ ?side1 ?side2 A10.out).mono ?_); (case side1 => exact KC (Kd.N_reads' HO105.out).2.2); (case side2 => exact (Kd.N_reads' HO105.out).2.1); rintro e w15 ⟨v107, rfl, ho0, hb⟩; refine ⟨_, rfl, ?_⟩; replace HO_0 := am (Kd.V_elder' (by (with_reducible repeat (first | apply Kd.V_alloc | apply Kd.V_drewN | apply Kd.V_drew)); exact HO_0.out) (Kd.R_base ho0) hb); replace HO105 := am (Kd.N_elder' (by (with_reducible repeat (first | apply Kd.N_alloc | apply Kd.N_drewN | apply Kd.N_drew)); exact HO105.out) (Kd.R_base ho0) hb); have HO108 := am (Kd.R_lower (Kd.R_newM (M := fun k_ => (w.heap.size ≤ k_)) ho0 (below_size (KL HB)) (fun k_ h_ => h_)) (below_size (KL HB))); replace HB := am (below_step (KL HB) hb); (try clear hb); (try clear hb2); (try clear hk); (try clear hi); (try clear ho0); obtain ⟨Ao16, co16, eo16⟩ := Kd.R_slice HO108.out; subst eo16) | ((with_reducible refine gate_callee (f := 18) rfl ?_); refine goesL_ (some 22) rfl rfl Tryz.func18 (by kernel_rfl) rfl #[.slice Ao16 t106.length co16] rfl MT ?_; (with_reducible refine (impl_bounds.calls kj2 _ _ t106 t109 _ ?side1 ?side2 A11.out).mono ?_); (case side1 => exact KC (Kd.R_reads' HO108.out).2.2); (case side2 => exact (Kd.R_reads' HO108.out).2.1); rintro e w17 ⟨v110, rfl, ho0, hb⟩; refine ⟨_, rfl, ?_⟩; replace HO_0 := am (Kd.V_elder' (by (with_reducible repeat (first | apply Kd.V_alloc | apply Kd.V_drewN | apply Kd.V_drew)); exact HO_0.out) (Kd.R_base ho0) hb); replace HO105 := am (Kd.N_elder' (by (with_reducible repeat (first | apply Kd.N_alloc | apply Kd.N_drewN | apply Kd.N_drew)); exact HO105.out) (Kd.R_base ho0) hb); replace HO108 := am (Kd.R_below (KR HO108) hb); have HO111 := am (Kd.R_lower (Kd.R_newM (M := fun k_ => (w.heap.size ≤ k_)) ho0 (below_size (KL HB)) (fun k_ h_ => h_)) (below_size (KL HB))); replace HB := am (below_step (KL HB) hb); (try clear hb); (try clear hb2); (try clear hk); (try clear hi); (try clear ho0); obtain ⟨Ao18, co18, eo18⟩ := Kd.R_slice HO111.out; subst eo18))
    go_loopg [6, 25] kj2 (fun kq v6 v25 w' => ∃ (x6_2 : List (S50)) (x25_2 : Int), v25 = .int .i64 x25_2 ∧ Aside0 (impl_WaysTo.l0 kq l0 a1 x6_2 t109 t109 (t109.length : Int) x25_2 = some (r1, r2)) ∧ Aside0 (kq ≤ kj2) ∧ Aside0 (Kd.V k34 34 w' w.heap.size (fun k_ => (P0_ k_ ∨ w.heap.size ≤ k_) ∧ some k_ ≠ (v6 : Value).ownBlock ∧ some k_ ≠ ((.slice Ao18 t109.length co18) : Value).ownBlock ∧ some k_ ≠ ((.slice Ao18 t109.length co18) : Value).ownBlock) (.slice A0 l0.length c0) l0) ∧ Aside0 (Kd.R k50 50 w' w.heap.size (fun k_ => (w.heap.size ≤ k_)) v6 x6_2) ∧ Aside0 (Kd.R (Kd.int .i64) 3 w' w.heap.size (fun k_ => (w.heap.size ≤ k_)) (.slice Ao18 t109.length co18) t109) ∧ Aside0 (Kd.R (Kd.int .i64) 3 w' w.heap.size (fun k_ => (w.heap.size ≤ k_)) (.slice Ao18 t109.length co18) t109) ∧ Aside0 (Below w.heap.size w w'))
    case atStart => exact ⟨(([] : List (S50))), (0), (by first | rfl | (simp; done) | (simp [*]; done)), H', ⟨Nat.le_refl _⟩, ⟨by (with_reducible repeat (first | apply Kd.V_alloc | apply Kd.V_drewN | apply Kd.V_drew)); exact Kd.V_mono HO_0.out (fun _ hk => ⟨hk.1.1.1, ⟨(by simp [Value.ownBlock]), ⟨hk.2, hk.2⟩⟩⟩)⟩, ⟨by first | exact Kd.R_nil _ _ _ _ _ | exact Kd.N_nil _ _ _ _ _ | exact Kd.V_nil _ _ _ _ _ | exact Kd.Q_nil _ _ _ _ _ | exact Kd.S_nil _ _ _ _ _⟩, ⟨by (with_reducible repeat (first | apply Kd.R_alloc | apply Kd.R_drewN | apply Kd.R_drew)); exact Kd.R_mono HO111.out (fun _ hk => hk.1)⟩, ⟨by (with_reducible repeat (first | apply Kd.R_alloc | apply Kd.R_drewN | apply Kd.R_drew)); exact Kd.R_mono HO111.out (fun _ hk => hk.1)⟩, ⟨KL HB⟩⟩
    case round =>
     clear H'
     try clear c1
     try clear p2
     try clear c5
     try clear c9
     try clear c16
     try clear c18
     try clear p2
     obtain ⟨x6_2, x25_2, rfl, HA, HK2, HO_0, HO_6, HO_7, HO_23, HB⟩ := hrel
     cases gk with
     | zero => exact absurd HA.out (by simp [impl_WaysTo.l0])
     | succ k2 =>
      have H := HA.out
      clear HA
      simp only [impl_WaysTo.l0] at H
      by_cases c19 : x25_2 < (t109.length : Int)
      ·rw [if_pos c19] at H
       have c19b0 : decide (x25_2 < (t109.length : Int)) = true := decide_eq_true c19
       clear c19
       by_cases c20 : 0 ≤ x25_2
       ·rw [if_pos c20] at H
        have c20b0 : decide (0 ≤ x25_2) = true := decide_eq_true c20
        clear c20
        by_cases c21 : x25_2 < (t109.length : Int)
        ·rw [if_pos c21] at H
         have c21b0 : decide (x25_2 < (t109.length : Int)) = true := decide_eq_true c21
         clear c21
         by_cases c22 : (wrap64 (x25_2 + 1)) < (t109.length : Int)
         ·rw [if_pos c22] at H
          have c22b0 : decide ((wrap64 (x25_2 + 1)) < (t109.length : Int)) = true := decide_eq_true c22
          clear c22
          obtain ⟨ji23, hji23⟩ : ∃ j_ : Int, (wrap64 (x25_2 + 1)) = j_ := ⟨_, rfl⟩
          replace H : (if 0 ≤ (ji23) then ((impl_lead.f k2 l0 (rd t109 x25_2)).bind fun t121 => (if t121 = a1 then (if x6_2.length < 8796093022208 then (impl_WaysTo.l0 k2 l0 a1 (x6_2 ++ [(⟨rd t109 x25_2, wrap64 ((rd t109 (ji23)) - 1)⟩ : S50)]) t109 t109 (t109.length : Int) ji23) else (none)) else (impl_WaysTo.l0 k2 l0 a1 x6_2 t109 t109 (t109.length : Int) ji23))) else (none)) = some (r1, r2) := by first | (rw [hji23] at H; exact H) | (simp only [hji23] at H ⊢; exact H)
          (try rw [hji23] at c22b0)
          have hji23w : (IntKind.i64.wrap (x25_2 + 1)) = ji23 := (i64_w _).trans hji23
          by_cases c24 : 0 ≤ (ji23)
          ·rw [if_pos c24] at H
           have c24b0 : decide (0 ≤ (ji23)) = true := decide_eq_true c24
           clear c24
           replace H := Option.bind_eq_some_iff.mp H
           obtain ⟨t121, A250, H⟩ := H
           replace H : (if t121 = a1 then (if x6_2.length < 8796093022208 then (impl_WaysTo.l0 k2 l0 a1 (x6_2 ++ [(⟨rd t109 x25_2, wrap64 ((rd t109 (ji23)) - 1)⟩ : S50)]) t109 t109 (t109.length : Int) ji23) else (none)) else (impl_WaysTo.l0 k2 l0 a1 x6_2 t109 t109 (t109.length : Int) ji23)) = some (r1, r2) := H
           have A25 := Aside0.mk A250
           clear A250
           by_cases c26 : t121 = a1
           ·rw [if_pos c26] at H
            have c26b0 : (t121 == a1) = true := beq_iff_eq.mpr c26
            have c26b1 : (t121 != a1) = false := bne_eq_false_iff_eq.mpr c26
            clear c26
            by_cases c27 : x6_2.length < 8796093022208
            ·rw [if_pos c27] at H
             have LMc27 := Aside0.mk c27
             clear c27
             obtain ⟨y122, hy122⟩ : ∃ y_ : List (S50), y_ = (x6_2 ++ [(⟨rd t109 x25_2, wrap64 ((rd t109 (ji23)) - 1)⟩ : S50)]) := ⟨_, rfl⟩
             replace H : (impl_WaysTo.l0 k2 l0 a1 y122 t109 t109 (t109.length : Int) ji23) = some (r1, r2) := by first | (rw [hy122]; with_reducible exact H) | (have H2_ := (Option.bind_some _ _).symm.trans H; rw [hy122]; with_reducible exact H2_) | (have H2_ := (Option.bind_some _ _).symm.trans H; with_reducible exact H2_) | with_reducible exact H | (rw [hy122]; exact H) | exact H
             have Ny122 := Aside0.mk hy122
             clear hy122
             have H' := Aside0.mk H
             clear H
             have p119 : 0 ≤ (x25_2 : Int) := OD
             have q119 : x25_2 < (t109.length : Int) := OD
             obtain ⟨ad119, e119, hx119_0⟩ := Kd.at_int (Kd.R_reads' HO_23.out).2.2 x25_2 p119 q119
             cases e119
             replace p119 := eq_true p119
             replace q119 := eq_true q119
             have p120 : 0 ≤ ((ji23) : Int) := OD
             have q120 : (ji23) < (t109.length : Int) := OD
             obtain ⟨ad120, e120, hx120_0⟩ := Kd.at_int (Kd.R_reads' HO_7.out).2.2 (ji23) p120 q120
             obtain rfl : ad119 = ad120 := (by injection e120)
             replace p120 := eq_true p120
             replace q120 := eq_true q120
             go_wp2_with (first | ((with_reducible refine gate_callee (f := 20) rfl ?_); refine goesL_ (some 43) rfl rfl Tryz.func20 (by kernel_rfl) rfl #[.slice A0 l0.length c0, .int .i64 (rd t109 x25_2)] rfl MT ?_; (with_reducible refine (impl_lead.calls k2 _ _ l0 (rd t109 x25_2) t121 _ ?side1 ?side2 A25.out).mono ?_); (case side1 => exact KC (Kd.V_reads' HO_0.out).2.2); (case side2 => exact (Kd.V_reads' HO_0.out).2.1); rintro e w28 ⟨rfl, hb⟩; refine ⟨_, rfl, ?_⟩; replace HO_0 := am (Kd.V_below (by (with_reducible repeat (first | apply Kd.V_alloc | apply Kd.V_drewN | apply Kd.V_drew)); exact HO_0.out) hb); replace HO_6 := am (Kd.R_below (KR HO_6) hb); replace HO_7 := am (Kd.R_below (KR HO_7) hb); replace HO_23 := am (Kd.R_below (KR HO_23) hb); replace HB := am (below_step (KL HB) hb); (try clear hb); (try clear hb2); (try clear hk); (try clear hi)) | ((with_reducible refine gate_builtin (b := .append) (xs := #[.tmp 46, .tmp 50]) rfl ?_); at_builtin; refine Kd.R_append k50 (w0 := w) w.heap.size rfl (.tmp 46) (.tmp 50) 46 50 (.agg #[(.int .i64 0), (.int .i64 0)]) 16 rfl Tryz.underlying46 info50 rfl (by decide) (by omega) u6 x6_2 (⟨rd t109 x25_2, wrap64 ((rd t109 (ji23)) - 1)⟩ : S50) [.int .i64 (rd t109 x25_2), .int .i64 (wrap64 ((rd t109 (ji23)) - 1))] (fun k_ => (w.heap.size ≤ k_)) (fun _ => False) rfl rfl ?aP (fun _ hk => hk.elim) ?aF ?aO ?aB ?aS ?aL ?_; (case aP => exact k50_mkM _ _ _ (⟨rd t109 x25_2, wrap64 ((rd t109 (ji23)) - 1)⟩ : S50)); (case aB => exact (KL HB)); (case aF => exact (fun k_ hk => (Nat.le_trans (below_size (KL HB)) hk))); (case aO => exact (KR HO_6)); (case aS => exact (below_size (KL HB))); (case aL => have := LMc27.out; omega); intro v123 w29 ho hb hg hat; rw [← Ny122.out] at ho; replace HO_0 := am (Kd.V_afterv (ok := (fun k_ => (P0_ k_ ∨ w.heap.size ≤ k_) ∧ some k_ ≠ (.slice (some ad119) t109.length co18 : Value).ownBlock ∧ some k_ ≠ (.slice (some ad119) t109.length co18 : Value).ownBlock)) (by (with_reducible repeat (first | apply Kd.V_alloc | apply Kd.V_drewN | apply Kd.V_drew)); exact Kd.V_mono HO_0.out (fun _ hk => ⟨⟨hk.1, ⟨hk.2.2.1, hk.2.2.2⟩⟩, hk.2.1⟩)) hg hat); replace HO_7 := am (Kd.R_over' (KR HO_7) (Kd.R_typed (KR HO_6)) (by decide) hg); replace HO_23 := am (Kd.R_over' (KR HO_23) (Kd.R_typed (KR HO_6)) (by decide) hg); replace HB := am (hb); have HO124 := am (ho); clear HO_6; clear ho hb hg hat))
             go_roundg k2
             case measure => have := HJ2.out; have := HK2.out; omega
             case rel => exact ⟨(y122), (ji23), (by first | rfl | (simp; done) | (simp only [← hji23] <;> (first | rfl | simp)) | (simp [*]; done)), H', ⟨by have := HJ2.out; have := HK2.out; omega⟩, ⟨by (with_reducible repeat (first | apply Kd.V_alloc | apply Kd.V_drewN | apply Kd.V_drew)); exact Kd.V_mono HO_0.out (fun _ hk => ⟨hk.1.1, ⟨hk.2, ⟨hk.1.2.1, hk.1.2.2⟩⟩⟩)⟩, ⟨KR HO124⟩, ⟨KR HO_7⟩, ⟨KR HO_23⟩, ⟨KL HB⟩⟩
            ·rw [if_neg c27] at H
             exact absurd H (by simp)
           ·rw [if_neg c26] at H
            have c26b0 : (t121 == a1) = false := beq_eq_false_iff_ne.mpr c26
            have c26b1 : (t121 != a1) = true := bne_iff_ne.mpr c26
            have H' := Aside0.mk H
            clear H
            have p119 : 0 ≤ (x25_2 : Int) := OD
            have q119 : x25_2 < (t109.length : Int) := OD
            obtain ⟨ad119, e119, hx119_0⟩ := Kd.at_int (Kd.R_reads' HO_23.out).2.2 x25_2 p119 q119
            cases e119
            replace p119 := eq_true p119
            replace q119 := eq_true q119
            have p120 : 0 ≤ ((ji23) : Int) := OD
            have q120 : (ji23) < (t109.length : Int) := OD
            obtain ⟨ad120, e120, hx120_0⟩ := Kd.at_int (Kd.R_reads' HO_7.out).2.2 (ji23) p120 q120
            obtain rfl : ad119 = ad120 := (by injection e120)
            replace p120 := eq_true p120
            replace q120 := eq_true q120
            go_wp2_with (first | ((with_reducible refine gate_callee (f := 20) rfl ?_); refine goesL_ (some 43) rfl rfl Tryz.func20 (by kernel_rfl) rfl #[.slice A0 l0.length c0, .int .i64 (rd t109 x25_2)] rfl MT ?_; (with_reducible refine (impl_lead.calls k2 _ _ l0 (rd t109 x25_2) t121 _ ?side1 ?side2 A25.out).mono ?_); (case side1 => exact KC (Kd.V_reads' HO_0.out).2.2); (case side2 => exact (Kd.V_reads' HO_0.out).2.1); rintro e w30 ⟨rfl, hb⟩; refine ⟨_, rfl, ?_⟩; replace HO_0 := am (Kd.V_below (by (with_reducible repeat (first | apply Kd.V_alloc | apply Kd.V_drewN | apply Kd.V_drew)); exact HO_0.out) hb); replace HO_6 := am (Kd.R_below (KR HO_6) hb); replace HO_7 := am (Kd.R_below (KR HO_7) hb); replace HO_23 := am (Kd.R_below (KR HO_23) hb); replace HB := am (below_step (KL HB) hb); (try clear hb); (try clear hb2); (try clear hk); (try clear hi)))
            go_roundg k2
            case measure => have := HJ2.out; have := HK2.out; omega
            case rel => exact ⟨(x6_2), (ji23), (by first | rfl | (simp; done) | (simp only [← hji23] <;> (first | rfl | simp)) | (simp [*]; done)), H', ⟨by have := HJ2.out; have := HK2.out; omega⟩, ⟨by (with_reducible repeat (first | apply Kd.V_alloc | apply Kd.V_drewN | apply Kd.V_drew)); exact HO_0.out⟩, ⟨KR HO_6⟩, ⟨KR HO_7⟩, ⟨KR HO_23⟩, ⟨KL HB⟩⟩
          ·rw [if_neg c24] at H
           exact absurd H (by simp)
         ·rw [if_neg c22] at H
          have c22b0 : decide ((wrap64 (x25_2 + 1)) < (t109.length : Int)) = false := decide_eq_false c22
          clear c22
          replace H := Option.bind_eq_some_iff.mp H
          obtain ⟨t125, A310, H⟩ := H
          replace H : (if t125 = a1 then (if x6_2.length < 8796093022208 then (impl_WaysTo.l0 k2 l0 a1 (x6_2 ++ [(⟨rd t109 x25_2, 4294967295⟩ : S50)]) t109 t109 (t109.length : Int) (wrap64 (x25_2 + 1))) else (none)) else (impl_WaysTo.l0 k2 l0 a1 x6_2 t109 t109 (t109.length : Int) (wrap64 (x25_2 + 1)))) = some (r1, r2) := H
          have A31 := Aside0.mk A310
          clear A310
          by_cases c32 : t125 = a1
          ·rw [if_pos c32] at H
           have c32b0 : (t125 == a1) = true := beq_iff_eq.mpr c32
           have c32b1 : (t125 != a1) = false := bne_eq_false_iff_eq.mpr c32
           clear c32
           by_cases c33 : x6_2.length < 8796093022208
           ·rw [if_pos c33] at H
            have LMc33 := Aside0.mk c33
            clear c33
            obtain ⟨y126, hy126⟩ : ∃ y_ : List (S50), y_ = (x6_2 ++ [(⟨rd t109 x25_2, 4294967295⟩ : S50)]) := ⟨_, rfl⟩
            replace H : (impl_WaysTo.l0 k2 l0 a1 y126 t109 t109 (t109.length : Int) (wrap64 (x25_2 + 1))) = some (r1, r2) := by first | (rw [hy126]; with_reducible exact H) | (have H2_ := (Option.bind_some _ _).symm.trans H; rw [hy126]; with_reducible exact H2_) | (have H2_ := (Option.bind_some _ _).symm.trans H; with_reducible exact H2_) | with_reducible exact H | (rw [hy126]; exact H) | exact H
            have Ny126 := Aside0.mk hy126
            clear hy126
            have H' := Aside0.mk H
            clear H
            have p119 : 0 ≤ (x25_2 : Int) := OD
            have q119 : x25_2 < (t109.length : Int) := OD
            obtain ⟨ad119, e119, hx119_0⟩ := Kd.at_int (Kd.R_reads' HO_23.out).2.2 x25_2 p119 q119
            cases e119
            replace p119 := eq_true p119
            replace q119 := eq_true q119
            go_wp2_with (first | ((with_reducible refine gate_callee (f := 20) rfl ?_); refine goesL_ (some 43) rfl rfl Tryz.func20 (by kernel_rfl) rfl #[.slice A0 l0.length c0, .int .i64 (rd t109 x25_2)] rfl MT ?_; (with_reducible refine (impl_lead.calls k2 _ _ l0 (rd t109 x25_2) t125 _ ?side1 ?side2 A31.out).mono ?_); (case side1 => exact KC (Kd.V_reads' HO_0.out).2.2); (case side2 => exact (Kd.V_reads' HO_0.out).2.1); rintro e w34 ⟨rfl, hb⟩; refine ⟨_, rfl, ?_⟩; replace HO_0 := am (Kd.V_below (by (with_reducible repeat (first | apply Kd.V_alloc | apply Kd.V_drewN | apply Kd.V_drew)); exact HO_0.out) hb); replace HO_6 := am (Kd.R_below (KR HO_6) hb); replace HO_7 := am (Kd.R_below (KR HO_7) hb); replace HO_23 := am (Kd.R_below (KR HO_23) hb); replace HB := am (below_step (KL HB) hb); (try clear hb); (try clear hb2); (try clear hk); (try clear hi)) | ((with_reducible refine gate_builtin (b := .append) (xs := #[.tmp 46, .tmp 50]) rfl ?_); at_builtin; refine Kd.R_append k50 (w0 := w) w.heap.size rfl (.tmp 46) (.tmp 50) 46 50 (.agg #[(.int .i64 0), (.int .i64 0)]) 16 rfl Tryz.underlying46 info50 rfl (by decide) (by omega) u6 x6_2 (⟨rd t109 x25_2, 4294967295⟩ : S50) [.int .i64 (rd t109 x25_2), .int .i64 4294967295] (fun k_ => (w.heap.size ≤ k_)) (fun _ => False) rfl rfl ?aP (fun _ hk => hk.elim) ?aF ?aO ?aB ?aS ?aL ?_; (case aP => exact k50_mkM _ _ _ (⟨rd t109 x25_2, 4294967295⟩ : S50)); (case aB => exact (KL HB)); (case aF => exact (fun k_ hk => (Nat.le_trans (below_size (KL HB)) hk))); (case aO => exact (KR HO_6)); (case aS => exact (below_size (KL HB))); (case aL => have := LMc33.out; omega); intro v127 w35 ho hb hg hat; rw [← Ny126.out] at ho; replace HO_0 := am (Kd.V_afterv (ok := (fun k_ => (P0_ k_ ∨ w.heap.size ≤ k_) ∧ some k_ ≠ (.slice (some ad119) t109.length co18 : Value).ownBlock ∧ some k_ ≠ (.slice (some ad119) t109.length co18 : Value).ownBlock)) (by (with_reducible repeat (first | apply Kd.V_alloc | apply Kd.V_drewN | apply Kd.V_drew)); exact Kd.V_mono HO_0.out (fun _ hk => ⟨⟨hk.1, ⟨hk.2.2.1, hk.2.2.2⟩⟩, hk.2.1⟩)) hg hat); replace HO_7 := am (Kd.R_over' (KR HO_7) (Kd.R_typed (KR HO_6)) (by decide) hg); replace HO_23 := am (Kd.R_over' (KR HO_23) (Kd.R_typed (KR HO_6)) (by decide) hg); replace HB := am (hb); have HO128 := am (ho); clear HO_6; clear ho hb hg hat))
            go_roundg k2
            case measure => have := HJ2.out; have := HK2.out; omega
            case rel => exact ⟨(y126), (wrap64 (x25_2 + 1)), (by first | rfl | (simp; done) | (simp [*]; done)), H', ⟨by have := HJ2.out; have := HK2.out; omega⟩, ⟨by (with_reducible repeat (first | apply Kd.V_alloc | apply Kd.V_drewN | apply Kd.V_drew)); exact Kd.V_mono HO_0.out (fun _ hk => ⟨hk.1.1, ⟨hk.2, ⟨hk.1.2.1, hk.1.2.2⟩⟩⟩)⟩, ⟨KR HO128⟩, ⟨KR HO_7⟩, ⟨KR HO_23⟩, ⟨KL HB⟩⟩
           ·rw [if_neg c33] at H
            exact absurd H (by simp)
          ·rw [if_neg c32] at H
           have c32b0 : (t125 == a1) = false := beq_eq_false_iff_ne.mpr c32
           have c32b1 : (t125 != a1) = true := bne_iff_ne.mpr c32
           have H' := Aside0.mk H
           clear H
           have p119 : 0 ≤ (x25_2 : Int) := OD
           have q119 : x25_2 < (t109.length : Int) := OD
           obtain ⟨ad119, e119, hx119_0⟩ := Kd.at_int (Kd.R_reads' HO_23.out).2.2 x25_2 p119 q119
           cases e119
           replace p119 := eq_true p119
           replace q119 := eq_true q119
           go_wp2_with (first | ((with_reducible refine gate_callee (f := 20) rfl ?_); refine goesL_ (some 43) rfl rfl Tryz.func20 (by kernel_rfl) rfl #[.slice A0 l0.length c0, .int .i64 (rd t109 x25_2)] rfl MT ?_; (with_reducible refine (impl_lead.calls k2 _ _ l0 (rd t109 x25_2) t125 _ ?side1 ?side2 A31.out).mono ?_); (case side1 => exact KC (Kd.V_reads' HO_0.out).2.2); (case side2 => exact (Kd.V_reads' HO_0.out).2.1); rintro e w36 ⟨rfl, hb⟩; refine ⟨_, rfl, ?_⟩; replace HO_0 := am (Kd.V_below (by (with_reducible repeat (first | apply Kd.V_alloc | apply Kd.V_drewN | apply Kd.V_drew)); exact HO_0.out) hb); replace HO_6 := am (Kd.R_below (KR HO_6) hb); replace HO_7 := am (Kd.R_below (KR HO_7) hb); replace HO_23 := am (Kd.R_below (KR HO_23) hb); replace HB := am (below_step (KL HB) hb); (try clear hb); (try clear hb2); (try clear hk); (try clear hi)))
           go_roundg k2
           case measure => have := HJ2.out; have := HK2.out; omega
           case rel => exact ⟨(x6_2), (wrap64 (x25_2 + 1)), (by first | rfl | (simp; done) | (simp [*]; done)), H', ⟨by have := HJ2.out; have := HK2.out; omega⟩, ⟨by (with_reducible repeat (first | apply Kd.V_alloc | apply Kd.V_drewN | apply Kd.V_drew)); exact HO_0.out⟩, ⟨KR HO_6⟩, ⟨KR HO_7⟩, ⟨KR HO_23⟩, ⟨KL HB⟩⟩
        ·rw [if_neg c21] at H
         exact absurd H (by simp)
       ·rw [if_neg c20] at H
        exact absurd H (by simp)
      ·rw [if_neg c19] at H
       have c19b0 : decide (x25_2 < (t109.length : Int)) = false := decide_eq_false c19
       clear c19
       replace H := Option.bind_eq_some_iff.mp H
       obtain ⟨t112, A370, H⟩ := H
       replace H : ((impl_limited.f t112).bind fun bt115 => (some (bt115.1, bt115.2))) = some (r1, r2) := H
       have A37 := Aside0.mk A370
       clear A370
       replace H := Option.bind_eq_some_iff.mp H
       obtain ⟨⟨t115, t118⟩, A380, H⟩ := H
       replace H : (some (t115, t118)) = some (r1, r2) := H
       have A38 := Aside0.mk A380
       clear A380
       simp only [Option.some.injEq, Prod.mk.injEq] at H
       obtain ⟨rfl, rfl⟩ := H
       obtain ⟨Ao39, co39, eo39⟩ := Kd.R_slice HO_6.out
       subst eo39
       go_wp2_with (first | ((with_reducible refine gate_callee (f := 22) rfl ?_); refine goesL_ (some 54) rfl rfl Tryz.func22 (by kernel_rfl) rfl #[.slice Ao39 x6_2.length co39] rfl MT ?_; (with_reducible refine (impl_set.calls k2 _ _ x6_2 t112 _ ?side1 ?side2 A37.out).mono ?_); (case side1 => exact KC (Kd.R_reads' HO_6.out).2.2); (case side2 => exact (Kd.R_reads' HO_6.out).2.1); rintro e w40 ⟨v113, rfl, ho0, hb⟩; refine ⟨_, rfl, ?_⟩; replace HO_0 := am (Kd.V_elder' (by (with_reducible repeat (first | apply Kd.V_alloc | apply Kd.V_drewN | apply Kd.V_drew)); exact HO_0.out) (Kd.R_base ho0) hb); replace HO_6 := am (Kd.R_below (KR HO_6) hb); replace HO_7 := am (Kd.R_below (KR HO_7) hb); replace HO_23 := am (Kd.R_below (KR HO_23) hb); have HO114 := am (Kd.R_lower (Kd.R_newM (M := fun k_ => (w.heap.size ≤ k_)) ho0 (below_size (KL HB)) (fun k_ h_ => h_)) (below_size (KL HB))); replace HB := am (below_step (KL HB) hb); (try clear hb); (try clear hb2); (try clear hk); (try clear hi); (try clear ho0); obtain ⟨Ao41, co41, eo41⟩ := Kd.R_slice HO114.out; subst eo41) | ((with_reducible refine gate_callee (f := 21) rfl ?_); refine goesL_ (some 55) rfl rfl Tryz.func21 (by kernel_rfl) rfl #[.slice Ao41 t112.length co41] rfl MT ?_; (with_reducible refine (impl_limited.calls (fun k_ => some k_ = (.slice Ao41 t112.length co41 : Value).ownBlock) (.slice Ao41 t112.length co41) t112 t115 t118 w _ ?side1 ?side2 A38.out).mono ?_); (case side1 => exact KL HB); (case side2 => exact Kd.R_tight rfl HO114.out); rintro e w42 ⟨v116, rfl, ho0, hb, hkp⟩; refine ⟨_, rfl, ?_⟩; replace HO_0 := am (Kd.V_mono (ok' := fun k_ => (P0_ k_ ∨ w.heap.size ≤ k_) ∧ some k_ ≠ (.slice Ao39 x6_2.length co39 : Value).ownBlock ∧ some k_ ≠ (.slice Ao18 t109.length co18 : Value).ownBlock ∧ some k_ ≠ (.slice Ao18 t109.length co18 : Value).ownBlock ∧ some k_ ≠ (v116 : Value).ownBlock) (Kd.V_keptB (HO_0.out) hkp (fun k_ hk_ hs_ => (hk_.2) hs_)) (fun k_ hk_ => ⟨hk_.1.1.1, hk_.1.1.2.1, hk_.1.1.2.2.1, hk_.1.1.2.2.2, fun e_ => Or.elim (ho0.1 k_ e_.symm) (fun hs_ => hk_.2.1 hs_) (fun hn_ => Nat.not_le.2 hk_.2.2 hn_)⟩)); replace HO_6 := am (Kd.R_mono (ok' := fun k_ => (w.heap.size ≤ k_)) (Kd.R_keptB ((Kd.R_apart' HO_6.out (Kd.R_typed HO114.out) (by decide))) hkp (fun k_ hk_ hs_ => (hk_.2) hs_)) (fun k_ hk_ => hk_.1.1)); replace HO_7 := am (Kd.R_mono (ok' := fun k_ => (w.heap.size ≤ k_)) (Kd.R_keptB ((Kd.R_apart' HO_7.out (Kd.R_typed HO114.out) (by decide))) hkp (fun k_ hk_ hs_ => (hk_.2) hs_)) (fun k_ hk_ => hk_.1.1)); replace HO_23 := am (Kd.R_mono (ok' := fun k_ => (w.heap.size ≤ k_)) (Kd.R_keptB ((Kd.R_apart' HO_23.out (Kd.R_typed HO114.out) (by decide))) hkp (fun k_ hk_ hs_ => (hk_.2) hs_)) (fun k_ hk_ => hk_.1.1)); have HO117 := am (Kd.R_mono (ok' := fun k_ => (w.heap.size ≤ k_)) ho0 (fun k_ hk_ => Or.elim hk_ (fun hs_ => (HO114.out.1 k_ (hs_).symm).1) (fun hn_ => (Nat.le_trans (below_size (KL HB)) hn_)))); replace HB := am (hb); clear HO114; (try clear hb); (try clear hkp); (try clear ho0)))
       go_ret2
       exact ⟨_, ER, by (with_reducible repeat (first | apply Kd.R_alloc | apply Kd.R_drewN | apply Kd.R_drew)); exact HO117.out, KL HB⟩
end Go.Proofs.YtmanlcakdcoekaaGreat.PAll
end
