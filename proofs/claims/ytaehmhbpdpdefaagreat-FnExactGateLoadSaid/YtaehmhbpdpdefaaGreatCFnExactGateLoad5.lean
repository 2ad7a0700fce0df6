/- Contracts of the functions that the statement reaches. -/
import Derived.Test.YtaehmhbpdpdefaaGreatCFnExactGateLoad3
import Derived.Test.YtaehmhbpdpdefaaGreatCFnExactGateLoad4
set_option maxHeartbeats 8000000
set_option maxRecDepth 100000
section
namespace Go.Proofs.YtaehmhbpdpdefaaGreat.PAll
open Go.RowKit Go.Proofs.YtaehmhbpdpdefaaGreatW.PrintWords Go.Proofs.YtaehmhbpdpdefaaGreatW.PrintLast Go.Proofs.YtaehmhbpdpdefaaGreatW.PrintMore
attribute [local go_sem] max2_int min2_int max_two min_two max_three min_three max_four min_four
set_option linter.unusedVariables false
set_option linter.unusedSimpArgs false
def spec_l1In.f (a0 : Int) (a1 : Int) (a2 : Int) : Option (Bool) := if a0 ≥ a1 then (some (decide (a0 ≤ a2))) else (some false)
theorem spec_l1In.calls (a0 : Int) (a1 : Int) (a2 : Int) (r : Bool) (w : World) (h : spec_l1In.f a0 a1 a2 = some r) :
  Calls Tryz.prog 37 #[.int .i64 a0, .int .i64 a1, .int .i64 a2] w fun e w' => e = .returned (.bool r) ∧ Drawn0 w w' := by
 unfold spec_l1In.f at h; have H := h; clear h; by_cases c4 : a0 ≥ a1
 ·rw [if_pos c4] at H
  have c4b0 := decide_eq_true c4; clear c4; obtain rfl := sj H; go_enter Tryz.func37, Tryz.ntmps37
  go_wp2
  go_ret
  exact ⟨by first | rfl | (simp; done) | (simp [*]; done), by repeat (first | exact Drawn0.refl _ | apply Drawn0.step)⟩
 ·rw [if_neg c4] at H
  have c4b0 := decide_eq_false c4; clear c4; obtain rfl := sj H; go_enter Tryz.func37, Tryz.ntmps37
  go_wp2
  go_ret
  exact ⟨by first | rfl | (simp; done) | (simp [*]; done), by repeat (first | exact Drawn0.refl _ | apply Drawn0.step)⟩
theorem eqA94 (d : Nat) (w : World) (x0 y0 : Int) (x1 y1 : Int) (x2 y2 : Int) :
  (Op.equalIn (d + 2) 94 (.agg #[.int .i64 x0, .int .i64 x1, .int .i64 x2]) (.agg #[.int .i64 y0, .int .i64 y1, .int .i64 y2])).run Tryz.prog w = .ok (x0 == y0 && (x1 == y1 && (x2 == y2))) w := by
 refine eqA_of Tryz.underlying94 (by kernel_rfl) ?_; refine eqf_cons (by rfl) (by go_simp; rfl) (by go_simp; rfl) (by go_simp) ?_; refine eqf_cons (by rfl) (by go_simp; rfl) (by go_simp; rfl) (by go_simp) ?_; exact eqf_last (by rfl) (by go_simp; rfl) (by go_simp; rfl) (by go_simp)
def spec_l1Two.l0 : Nat → Int → Int → Option (Int)
 | 0, _, _ => none
 | k + 1, x0, x3 => if x0 > 0 then (spec_l1Two.l0 k (wrap64 (x0 - 1)) (wrap64 (x3 * 2))) else (some x3)
def spec_l1Two.f (k : Nat) (a0 : Int) : Option (Int) := spec_l1Two.l0 k a0 1
theorem spec_l1Two.calls (k : Nat) (a0 : Int) (r : Int) (w : World) (h : spec_l1Two.f k a0 = some r) :
  Calls Tryz.prog 131 #[.int .i64 a0] w fun e w' => e = .returned (.int .i64 r) ∧ Drawn0 w w' := by
 have H : (spec_l1Two.l0 k a0 1) = some r := h; clear h; have H' := Aside0.mk H; clear H; go_enter Tryz.func131, Tryz.ntmps131
 go_wp2
 go_loopg [0, 3] k (fun kq v0 v3 w' => ∃ (aA : Int) (aB : Int), v0 = .int .i64 aA ∧ v3 = .int .i64 aB ∧ Aside0 (spec_l1Two.l0 kq aA aB = some r) ∧ Aside0 (kq ≤ k) ∧ Drawn0 w w')
 case atStart => exact ⟨(a0), (1), RS, RS, H', ⟨Nat.le_refl _⟩, by repeat (first | exact Drawn0.refl _ | apply Drawn0.step)⟩
 case round =>
  clear H'; obtain ⟨aA, aB, rfl, rfl, HA, HK1, ⟨m1, rfl⟩⟩ := hrel; cases gk with
  | zero => exact absurd HA.out (by simp [spec_l1Two.l0])
  | succ k1 =>
   have H := HA.out; clear HA; simp only [spec_l1Two.l0] at H; by_cases c2 : aA > 0
   ·rw [if_pos c2] at H
    have c2b0 := decide_eq_true c2; clear c2; have H' := Aside0.mk H; clear H; go_wp2
    go_roundg k1
    case measure => have := HK1.out; omega
    case rel => exact ⟨(wrap64 (aA - 1)), (wrap64 (aB * 2)), RS, RS, H', LK HK1, by repeat (first | exact Drawn0.refl _ | apply Drawn0.step)⟩
   ·rw [if_neg c2] at H
    have c2b0 := decide_eq_false c2; clear c2; obtain rfl := sj H; go_wp2
    go_ret
    exact ⟨by first | rfl | (simp; done) | (simp [*]; done), by repeat (first | exact Drawn0.refl _ | apply Drawn0.step)⟩
def spec_l1Size.f (k : Nat) (a0 : Int) : Option (Int) := (spec_l1Two.f k (wrap64 (32 - a0))).bind fun t101 => (some t101)
theorem spec_l1Size.calls (k : Nat) (a0 : Int) (r : Int) (w : World) (h : spec_l1Size.f k a0 = some r) :
  Calls Tryz.prog 116 #[.int .i64 a0] w fun e w' => e = .returned (.int .i64 r) ∧ Drawn0 w w' := by
 unfold spec_l1Size.f at h; have H := h; clear h; obtain ⟨aA, A2, H⟩ := b1 H; obtain rfl := sj H; go_enter Tryz.func116, Tryz.ntmps116
 go_wp2_with (first | (go_at_call 131; (with_reducible refine (spec_l1Two.calls _ _ _ _ A2.out).mono ?_); rintro e w' ⟨rfl, ⟨nd, rfl⟩⟩))
 go_ret
 exact ⟨by first | rfl | (simp; done) | (simp [*]; done), by repeat (first | exact Drawn0.refl _ | apply Drawn0.step)⟩
def spec_l1Addr.f (a0 : Int) : Option (Bool) := (spec_l1In.f a0 0 4294967295).bind fun t101 => (some t101)
theorem spec_l1Addr.calls (a0 : Int) (r : Bool) (w : World) (h : spec_l1Addr.f a0 = some r) :
  Calls Tryz.prog 96 #[.int .i64 a0] w fun e w' => e = .returned (.bool r) ∧ Drawn0 w w' := by
 unfold spec_l1Addr.f at h; have H := h; clear h; obtain ⟨aA, A2, H⟩ := b1 H; obtain rfl := sj H; go_enter Tryz.func96, Tryz.ntmps96
 go_wp2_with (first | (go_at_call 37; (with_reducible refine (spec_l1In.calls _ _ _ _ _ A2.out).mono ?_); rintro e w' ⟨rfl, ⟨nd, rfl⟩⟩))
 go_ret
 exact ⟨by first | rfl | (simp; done) | (simp [*]; done), by repeat (first | exact Drawn0.refl _ | apply Drawn0.step)⟩
def spec_BlockOk.f (k : Nat) (a0_0 : Int) (a0_1 : Int) : Option (Bool) := (spec_l1Addr.f a0_0).bind fun t102 => (if t102 = true then ((spec_l1In.f a0_1 0 32).bind fun t103 => (if t103 = true then ((spec_l1Size.f k a0_1).bind fun t104 => (if t104 = 0 then (none) else (some ((Int.tmod a0_0 t104) == 0)))) else (some false))) else (some false))
theorem spec_BlockOk.calls (k : Nat) (aD : Int) (aE : Int) (r : Bool) (w : World) (h : spec_BlockOk.f k aD aE = some r) :
  Calls Tryz.prog 99 #[.agg #[.int .i64 aD, .int .i64 aE]] w fun e w' => e = .returned (.bool r) ∧ Below w.heap.size w w' := by
 have aY := Tryz.underlying57; have HB := am (Below.refl w.heap.size w); unfold spec_BlockOk.f at h; have H := h; clear h; obtain ⟨aS, A2, H⟩ := b1 H; by_cases c3 : aS = true
 ·subst c3
  replace H := pf H; obtain ⟨aO, A4, H⟩ := b1 H; by_cases c5 : aO = true
  ·subst c5
   replace H := pf H; obtain ⟨aF, A6, H⟩ := b1 H; by_cases c7 : aF = 0
   ·rw [if_pos c7] at H
    exact absurd H (by simp)
   ·rw [if_neg c7] at H
    have c7b0 := beq_eq_false_iff_ne.mpr c7; have c7b1 := bne_iff_ne.mpr c7; obtain rfl := sj H; go_enter Tryz.func99, Tryz.ntmps99
    go_wp2_with (first | ((with_reducible refine gate_dst (N := 1) rfl ?_); refine bxe (KL HB) (cs := #[.int .i64 aD, .int .i64 aE]) ?_; intro aH w8 aB aG HB hb hg; clear hb hg; obtain ⟨aP, aQ, aR⟩ := y2 w8 aB.out) | (go_at_call 96; (with_reducible refine (spec_l1Addr.calls _ _ _ A2.out).mono ?_); rintro e w' ⟨rfl, ⟨nd, rfl⟩⟩; (try first | exact ⟨rfl, _, World.drewN_drewN _ _ _⟩ | exact ⟨rfl, _, Eq.trans (World.drewN_drewN _ _ _) (congrArg (World.drewN _) (Nat.add_assoc _ _ _))⟩)) | (go_at_call 37; (with_reducible refine (spec_l1In.calls _ _ _ _ _ A4.out).mono ?_); rintro e w' ⟨rfl, ⟨nd, rfl⟩⟩; (try first | exact ⟨rfl, _, World.drewN_drewN _ _ _⟩ | exact ⟨rfl, _, Eq.trans (World.drewN_drewN _ _ _) (congrArg (World.drewN _) (Nat.add_assoc _ _ _))⟩)) | (go_at_call 116; (with_reducible refine (spec_l1Size.calls _ _ _ _ A6.out).mono ?_); rintro e w' ⟨rfl, ⟨nd, rfl⟩⟩; (try first | exact ⟨rfl, _, World.drewN_drewN _ _ _⟩ | exact ⟨rfl, _, Eq.trans (World.drewN_drewN _ _ _) (congrArg (World.drewN _) (Nat.add_assoc _ _ _))⟩)))
    repeat (go_quiet (first | ((with_reducible refine gate_dst (N := 1) rfl ?_); refine bxe (KL HB) (cs := #[.int .i64 aD, .int .i64 aE]) ?_; intro aH w8 aB aG HB hb hg; clear hb hg; obtain ⟨aP, aQ, aR⟩ := y2 w8 aB.out) | (go_at_call 96; (with_reducible refine (spec_l1Addr.calls _ _ _ A2.out).mono ?_); rintro e w' ⟨rfl, ⟨nd, rfl⟩⟩; (try first | exact ⟨rfl, _, World.drewN_drewN _ _ _⟩ | exact ⟨rfl, _, Eq.trans (World.drewN_drewN _ _ _) (congrArg (World.drewN _) (Nat.add_assoc _ _ _))⟩)) | (go_at_call 37; (with_reducible refine (spec_l1In.calls _ _ _ _ _ A4.out).mono ?_); rintro e w' ⟨rfl, ⟨nd, rfl⟩⟩; (try first | exact ⟨rfl, _, World.drewN_drewN _ _ _⟩ | exact ⟨rfl, _, Eq.trans (World.drewN_drewN _ _ _) (congrArg (World.drewN _) (Nat.add_assoc _ _ _))⟩)) | (go_at_call 116; (with_reducible refine (spec_l1Size.calls _ _ _ _ A6.out).mono ?_); rintro e w' ⟨rfl, ⟨nd, rfl⟩⟩; (try first | exact ⟨rfl, _, World.drewN_drewN _ _ _⟩ | exact ⟨rfl, _, Eq.trans (World.drewN_drewN _ _ _) (congrArg (World.drewN _) (Nat.add_assoc _ _ _))⟩))); try go_wp2_with (first | ((with_reducible refine gate_dst (N := 1) rfl ?_); refine bxe (KL HB) (cs := #[.int .i64 aD, .int .i64 aE]) ?_; intro aH w8 aB aG HB hb hg; clear hb hg; obtain ⟨aP, aQ, aR⟩ := y2 w8 aB.out) | (go_at_call 96; (with_reducible refine (spec_l1Addr.calls _ _ _ A2.out).mono ?_); rintro e w' ⟨rfl, ⟨nd, rfl⟩⟩; (try first | exact ⟨rfl, _, World.drewN_drewN _ _ _⟩ | exact ⟨rfl, _, Eq.trans (World.drewN_drewN _ _ _) (congrArg (World.drewN _) (Nat.add_assoc _ _ _))⟩)) | (go_at_call 37; (with_reducible refine (spec_l1In.calls _ _ _ _ _ A4.out).mono ?_); rintro e w' ⟨rfl, ⟨nd, rfl⟩⟩; (try first | exact ⟨rfl, _, World.drewN_drewN _ _ _⟩ | exact ⟨rfl, _, Eq.trans (World.drewN_drewN _ _ _) (congrArg (World.drewN _) (Nat.add_assoc _ _ _))⟩)) | (go_at_call 116; (with_reducible refine (spec_l1Size.calls _ _ _ _ A6.out).mono ?_); rintro e w' ⟨rfl, ⟨nd, rfl⟩⟩; (try first | exact ⟨rfl, _, World.drewN_drewN _ _ _⟩ | exact ⟨rfl, _, Eq.trans (World.drewN_drewN _ _ _) (congrArg (World.drewN _) (Nat.add_assoc _ _ _))⟩))))
    go_ret
    exact ⟨ER, K1 HB aG.out⟩
  ·replace c5 := Bool.eq_false_iff.mpr c5
   subst c5; replace H := nf H; obtain rfl := sj H; go_enter Tryz.func99, Tryz.ntmps99
   go_wp2_with (first | ((with_reducible refine gate_dst (N := 1) rfl ?_); refine bxe (KL HB) (cs := #[.int .i64 aD, .int .i64 aE]) ?_; intro aH aT aB aG HB hb hg; clear hb hg; obtain ⟨aI, aJ, aK⟩ := y2 aT aB.out) | (go_at_call 96; (with_reducible refine (spec_l1Addr.calls _ _ _ A2.out).mono ?_); rintro e w' ⟨rfl, ⟨nd, rfl⟩⟩; (try first | exact ⟨rfl, _, World.drewN_drewN _ _ _⟩ | exact ⟨rfl, _, Eq.trans (World.drewN_drewN _ _ _) (congrArg (World.drewN _) (Nat.add_assoc _ _ _))⟩)) | (go_at_call 37; (with_reducible refine (spec_l1In.calls _ _ _ _ _ A4.out).mono ?_); rintro e w' ⟨rfl, ⟨nd, rfl⟩⟩; (try first | exact ⟨rfl, _, World.drewN_drewN _ _ _⟩ | exact ⟨rfl, _, Eq.trans (World.drewN_drewN _ _ _) (congrArg (World.drewN _) (Nat.add_assoc _ _ _))⟩)))
   repeat (go_quiet (first | ((with_reducible refine gate_dst (N := 1) rfl ?_); refine bxe (KL HB) (cs := #[.int .i64 aD, .int .i64 aE]) ?_; intro aH aT aB aG HB hb hg; clear hb hg; obtain ⟨aI, aJ, aK⟩ := y2 aT aB.out) | (go_at_call 96; (with_reducible refine (spec_l1Addr.calls _ _ _ A2.out).mono ?_); rintro e w' ⟨rfl, ⟨nd, rfl⟩⟩; (try first | exact ⟨rfl, _, World.drewN_drewN _ _ _⟩ | exact ⟨rfl, _, Eq.trans (World.drewN_drewN _ _ _) (congrArg (World.drewN _) (Nat.add_assoc _ _ _))⟩)) | (go_at_call 37; (with_reducible refine (spec_l1In.calls _ _ _ _ _ A4.out).mono ?_); rintro e w' ⟨rfl, ⟨nd, rfl⟩⟩; (try first | exact ⟨rfl, _, World.drewN_drewN _ _ _⟩ | exact ⟨rfl, _, Eq.trans (World.drewN_drewN _ _ _) (congrArg (World.drewN _) (Nat.add_assoc _ _ _))⟩))); try go_wp2_with (first | ((with_reducible refine gate_dst (N := 1) rfl ?_); refine bxe (KL HB) (cs := #[.int .i64 aD, .int .i64 aE]) ?_; intro aH aT aB aG HB hb hg; clear hb hg; obtain ⟨aI, aJ, aK⟩ := y2 aT aB.out) | (go_at_call 96; (with_reducible refine (spec_l1Addr.calls _ _ _ A2.out).mono ?_); rintro e w' ⟨rfl, ⟨nd, rfl⟩⟩; (try first | exact ⟨rfl, _, World.drewN_drewN _ _ _⟩ | exact ⟨rfl, _, Eq.trans (World.drewN_drewN _ _ _) (congrArg (World.drewN _) (Nat.add_assoc _ _ _))⟩)) | (go_at_call 37; (with_reducible refine (spec_l1In.calls _ _ _ _ _ A4.out).mono ?_); rintro e w' ⟨rfl, ⟨nd, rfl⟩⟩; (try first | exact ⟨rfl, _, World.drewN_drewN _ _ _⟩ | exact ⟨rfl, _, Eq.trans (World.drewN_drewN _ _ _) (congrArg (World.drewN _) (Nat.add_assoc _ _ _))⟩))))
   go_ret
   exact ⟨ER, K1 HB aG.out⟩
 ·replace c3 := Bool.eq_false_iff.mpr c3
  subst c3; replace H := nf H; obtain rfl := sj H; go_enter Tryz.func99, Tryz.ntmps99
  go_wp2_with (first | ((with_reducible refine gate_dst (N := 1) rfl ?_); refine bxe (KL HB) (cs := #[.int .i64 aD, .int .i64 aE]) ?_; intro aH aU aB aG HB hb hg; clear hb hg; obtain ⟨aL, aM, aN⟩ := y2 aU aB.out) | (go_at_call 96; (with_reducible refine (spec_l1Addr.calls _ _ _ A2.out).mono ?_); rintro e w' ⟨rfl, ⟨nd, rfl⟩⟩; (try first | exact ⟨rfl, _, World.drewN_drewN _ _ _⟩ | exact ⟨rfl, _, Eq.trans (World.drewN_drewN _ _ _) (congrArg (World.drewN _) (Nat.add_assoc _ _ _))⟩)))
  repeat (go_quiet (first | ((with_reducible refine gate_dst (N := 1) rfl ?_); refine bxe (KL HB) (cs := #[.int .i64 aD, .int .i64 aE]) ?_; intro aH aU aB aG HB hb hg; clear hb hg; obtain ⟨aL, aM, aN⟩ := y2 aU aB.out) | (go_at_call 96; (with_reducible refine (spec_l1Addr.calls _ _ _ A2.out).mono ?_); rintro e w' ⟨rfl, ⟨nd, rfl⟩⟩; (try first | exact ⟨rfl, _, World.drewN_drewN _ _ _⟩ | exact ⟨rfl, _, Eq.trans (World.drewN_drewN _ _ _) (congrArg (World.drewN _) (Nat.add_assoc _ _ _))⟩))); try go_wp2_with (first | ((with_reducible refine gate_dst (N := 1) rfl ?_); refine bxe (KL HB) (cs := #[.int .i64 aD, .int .i64 aE]) ?_; intro aH aU aB aG HB hb hg; clear hb hg; obtain ⟨aL, aM, aN⟩ := y2 aU aB.out) | (go_at_call 96; (with_reducible refine (spec_l1Addr.calls _ _ _ A2.out).mono ?_); rintro e w' ⟨rfl, ⟨nd, rfl⟩⟩; (try first | exact ⟨rfl, _, World.drewN_drewN _ _ _⟩ | exact ⟨rfl, _, Eq.trans (World.drewN_drewN _ _ _) (congrArg (World.drewN _) (Nat.add_assoc _ _ _))⟩))))
  go_ret
  exact ⟨ER, K1 HB aG.out⟩
def spec_l4Ok.j0 : Nat → Bool → Int → Int → Int → Int → Int → Int → Int → Int → Option (Bool)
 | 0, _, _, _, _, _, _, _, _, _ => none
 | k + 1, x31, x102000, x102001, x102002, x102003, x102004, x102005, x102006, x102007 => if x31 = true then (some false) else (if x102000 = 2 then ((spec_l1In.f x102001 0 3).bind fun t106 => (some t106)) else (some (x102001 == 0)))
def spec_l4Ok.f (k : Nat) (a0_0 : Int) (a0_1 : Int) (a0_2 : Int) (a0_3 : Int) (a0_4 : Int) (a0_5 : Int) (a0_6 : Int) (a0_7 : Int) : Option (Bool) := (spec_BlockOk.f k a0_2 a0_3).bind fun t102 => (if t102 = true then ((spec_BlockOk.f k a0_4 a0_5).bind fun t103 => (if t103 = true then ((spec_l1In.f a0_6 0 a0_7).bind fun t104 => (if t104 = true then (if a0_7 > 65535 then (spec_l4Ok.j0 k true a0_0 a0_1 a0_2 a0_3 a0_4 a0_5 a0_6 a0_7) else ((spec_l1In.f a0_0 0 2).bind fun t105 => (spec_l4Ok.j0 k (!t105) a0_0 a0_1 a0_2 a0_3 a0_4 a0_5 a0_6 a0_7))) else (spec_l4Ok.j0 k true a0_0 a0_1 a0_2 a0_3 a0_4 a0_5 a0_6 a0_7))) else (spec_l4Ok.j0 k true a0_0 a0_1 a0_2 a0_3 a0_4 a0_5 a0_6 a0_7))) else (spec_l4Ok.j0 k true a0_0 a0_1 a0_2 a0_3 a0_4 a0_5 a0_6 a0_7))
theorem spec_l4Ok.calls (k : Nat) (aE : Int) (aJ : Int) (aC : Int) (aD : Int) (aF : Int) (aG : Int) (aH : Int) (aB : Int) (r : Bool) (w : World) (h : spec_l4Ok.f k aE aJ aC aD aF aG aH aB = some r) :
  Calls Tryz.prog 73 #[.agg #[.int .i64 aE, .int .i64 aJ, .int .i64 aC, .int .i64 aD, .int .i64 aF, .int .i64 aG, .int .i64 aH, .int .i64 aB]] w fun e w' => e = .returned (.bool r) ∧ Below w.heap.size w w' := by
 have fY := Tryz.underlying59; have fZ := Tryz.underlying57; have HB := am (Below.refl w.heap.size w); unfold spec_l4Ok.f at h; have H := h; clear h; have fU := Aside0.mk H; clear H; go_enter Tryz.func73, Tryz.ntmps73
 go_upto_region 1 with (first | ((with_reducible refine gate_dst (N := 1) rfl ?_); refine bxe (KL HB) (cs := #[.int .i64 aE, .int .i64 aJ, .int .i64 aC, .int .i64 aD, .int .i64 aF, .int .i64 aG, .int .i64 aH, .int .i64 aB]) ?_; intro eV w3 aA aI HB hb hg; clear hb hg))
 (try simp only [Act.put, List.setIfInBounds_toArray, List.set_cons_zero, List.set_cons_succ])
 go_cut [31] (fun gA wc => ∃ (kq : Nat) (aM : Bool), gA = .bool aM ∧ Aside0 (spec_l4Ok.j0 kq aM aE aJ aC aD aF aG aH aB = some r) ∧ Aside0 (kq ≤ k) ∧ Aside0 (wc.heap[eV]? = some (.cells #[.int .i64 aE, .int .i64 aJ, .int .i64 aC, .int .i64 aD, .int .i64 aF, .int .i64 aG, .int .i64 aH, .int .i64 aB] 59 (0, 0))) ∧ Aside0 (Below w.heap.size w wc))
 case first =>
  have H := fU.out; clear fU; obtain ⟨aO, A4, H⟩ := b1 H; by_cases c5 : aO = true
  ·subst c5
   replace H := pf H; obtain ⟨aN, A6, H⟩ := b1 H; by_cases c7 : aN = true
   ·subst c7
    replace H := pf H; obtain ⟨aL, A8, H⟩ := b1 H; by_cases c9 : aL = true
    ·subst c9
     replace H := pf H; by_cases eT : aB > 65535
     ·rw [if_pos eT] at H
      have c10b0 := decide_eq_true eT; clear eT; (first | rw [c10b0] | (simp only [i64_w, i32_w]; rw [c10b0]) | skip)
      have H' := Aside0.mk H; clear H; obtain ⟨aP, aQ, aR, aS, aT, aU, aV, aW, aX⟩ := y8 w3 aA.out; go_wp2_with (first | (go_at_call 99; (with_reducible refine (spec_BlockOk.calls _ _ _ _ _ A4.out).mono ?_); rintro e gB ⟨rfl, hb⟩; replace aA := am (BB aA hb); replace HB := bl (K1 HB aI.out) hb; obtain ⟨aY, aZ, bA, bB, bC, bD, bE, bF, bG⟩ := y8 gB aA.out) | (go_at_call 99; (with_reducible refine (spec_BlockOk.calls _ _ _ _ _ A6.out).mono ?_); rintro e gC ⟨rfl, hb⟩; replace aA := am (BB aA hb); replace HB := bl (K1 HB aI.out) hb; obtain ⟨bH, bI, bJ, bK, bL, bM, bN, bO, bP⟩ := y8 gC aA.out) | (go_at_call 37; (with_reducible refine (spec_l1In.calls _ _ _ _ _ A8.out).mono ?_); rintro e w' ⟨rfl, ⟨nd, rfl⟩⟩))
      go_meet
      case rel => exact ⟨_, (true), RS, H', ⟨LE⟩, ⟨KB aA⟩, ⟨K1 HB aI.out⟩⟩
     ·rw [if_neg eT] at H
      have c10b0 := decide_eq_false eT; clear eT; (first | rw [c10b0] | (simp only [i64_w, i32_w]; rw [c10b0]) | skip)
      obtain ⟨aK, gD, H⟩ := b1 H; have H' := Aside0.mk H; clear H; obtain ⟨bQ, bR, bS, bT, bU, bV, bW, bX, bY⟩ := y8 w3 aA.out; go_wp2_with (first | (go_at_call 99; (with_reducible refine (spec_BlockOk.calls _ _ _ _ _ A4.out).mono ?_); rintro e gE ⟨rfl, hb⟩; replace aA := am (BB aA hb); replace HB := bl (K1 HB aI.out) hb; obtain ⟨bZ, cA, cB, cC, cD, cE, cF, cG, cH⟩ := y8 gE aA.out) | (go_at_call 99; (with_reducible refine (spec_BlockOk.calls _ _ _ _ _ A6.out).mono ?_); rintro e gF ⟨rfl, hb⟩; replace aA := am (BB aA hb); replace HB := bl (K1 HB aI.out) hb; obtain ⟨cI, cJ, cK, cL, cM, cN, cO, cP, cQ⟩ := y8 gF aA.out) | (go_at_call 37; (with_reducible refine (spec_l1In.calls _ _ _ _ _ A8.out).mono ?_); rintro e w' ⟨rfl, ⟨nd, rfl⟩⟩) | (go_at_call 37; (with_reducible refine (spec_l1In.calls _ _ _ _ _ gD.out).mono ?_); rintro e w' ⟨rfl, ⟨nd, rfl⟩⟩))
      go_meet
      case rel => exact ⟨_, (!aK), RS, H', ⟨LE⟩, ⟨KB aA⟩, ⟨K1 HB aI.out⟩⟩
    ·replace c9 := Bool.eq_false_iff.mpr c9
     subst c9; replace H := nf H; have H' := Aside0.mk H; clear H; obtain ⟨cR, cS, cT, cU, cV, cW, cX, cY, cZ⟩ := y8 w3 aA.out; go_wp2_with (first | (go_at_call 99; (with_reducible refine (spec_BlockOk.calls _ _ _ _ _ A4.out).mono ?_); rintro e gG ⟨rfl, hb⟩; replace aA := am (BB aA hb); replace HB := bl (K1 HB aI.out) hb; obtain ⟨dA, dB, dC, dD, dE, dF, dG, dH, dI⟩ := y8 gG aA.out) | (go_at_call 99; (with_reducible refine (spec_BlockOk.calls _ _ _ _ _ A6.out).mono ?_); rintro e gH ⟨rfl, hb⟩; replace aA := am (BB aA hb); replace HB := bl (K1 HB aI.out) hb; obtain ⟨dJ, dK, dL, dM, dN, dO, dP, dQ, dR⟩ := y8 gH aA.out) | (go_at_call 37; (with_reducible refine (spec_l1In.calls _ _ _ _ _ A8.out).mono ?_); rintro e w' ⟨rfl, ⟨nd, rfl⟩⟩))
     go_meet
     case rel => exact ⟨_, (true), RS, H', ⟨LE⟩, ⟨KB aA⟩, ⟨K1 HB aI.out⟩⟩
   ·replace c7 := Bool.eq_false_iff.mpr c7
    subst c7; replace H := nf H; have H' := Aside0.mk H; clear H; obtain ⟨dS, dT, dU, dV, dW, dX, dY, dZ, eA⟩ := y8 w3 aA.out; go_wp2_with (first | (go_at_call 99; (with_reducible refine (spec_BlockOk.calls _ _ _ _ _ A4.out).mono ?_); rintro e gI ⟨rfl, hb⟩; replace aA := am (BB aA hb); replace HB := bl (K1 HB aI.out) hb; obtain ⟨eB, eC, eD, eE, eF, eG, eH, eI, eJ⟩ := y8 gI aA.out) | (go_at_call 99; (with_reducible refine (spec_BlockOk.calls _ _ _ _ _ A6.out).mono ?_); rintro e gK ⟨rfl, hb⟩; replace aA := am (BB aA hb); replace HB := bl (K1 HB aI.out) hb))
    go_meet
    case rel => exact ⟨_, (true), RS, H', ⟨LE⟩, ⟨KB aA⟩, ⟨K1 HB aI.out⟩⟩
  ·replace c5 := Bool.eq_false_iff.mpr c5
   subst c5; replace H := nf H; have H' := Aside0.mk H; clear H; obtain ⟨eK, eL, eM, eN, eO, eP, eQ, eR, eS⟩ := y8 w3 aA.out; go_wp2_with (first | (go_at_call 99; (with_reducible refine (spec_BlockOk.calls _ _ _ _ _ A4.out).mono ?_); rintro e gL ⟨rfl, hb⟩; replace aA := am (BB aA hb); replace HB := bl (K1 HB aI.out) hb))
   go_meet
   case rel => exact ⟨_, (true), RS, H', ⟨LE⟩, ⟨KB aA⟩, ⟨K1 HB aI.out⟩⟩
 case rest =>
  clear fU; try clear c5
  try clear c7
  try clear c9
  try clear eT
  try clear c10b0
  try clear aP aQ aR aS aT aU aV aW aX
  try clear aY aZ bA bB bC bD bE bF bG
  try clear bH bI bJ bK bL bM bN bO bP
  try clear bQ bR bS bT bU bV bW bX bY
  try clear bZ cA cB cC cD cE cF cG cH
  try clear cI cJ cK cL cM cN cO cP cQ
  try clear cR cS cT cU cV cW cX cY cZ
  try clear dA dB dC dD dE dF dG dH dI
  try clear dJ dK dL dM dN dO dP dQ dR
  try clear dS dT dU dV dW dX dY dZ eA
  try clear eB eC eD eE eF eG eH eI eJ
  try clear eK eL eM eN eO eP eQ eR eS
  obtain ⟨kq, aM, rfl, HA, HJ1, aA, HB⟩ := hcut; cases kq with
  | zero => exact absurd HA.out (by simp [spec_l4Ok.j0])
  | succ kj1 =>
   have H := HA.out; clear HA; simp only [spec_l4Ok.j0] at H; by_cases fB : aM = true
   ·subst fB
    replace H := pf H; obtain rfl := sj H; go_wp2
    go_ret
    exact ⟨ER, K1 HB aI.out⟩
   ·replace fB := Bool.eq_false_iff.mpr fB
    subst fB; replace H := nf H; by_cases eU : aE = 2
    ·rw [if_pos eU] at H
     have c34b0 := beq_iff_eq.mpr eU; have c34b1 := bne_eq_false_iff_eq.mpr eU; clear eU; obtain ⟨eZ, gJ, H⟩ := b1 H; obtain rfl := sj H; have ⟨_, _, _, _, _, _, _, _, _⟩ := y8 wc aA.out; go_wp2_with (first | (go_at_call 37; (with_reducible refine (spec_l1In.calls _ _ _ _ _ gJ.out).mono ?_); rintro e w' ⟨rfl, ⟨nd, rfl⟩⟩))
     go_ret
     exact ⟨ER, K1 HB aI.out⟩
    ·rw [if_neg eU] at H
     have c34b0 := beq_eq_false_iff_ne.mpr eU; have c34b1 := bne_iff_ne.mpr eU; obtain rfl := sj H; have ⟨_, _, _, _, _, _, _, _, _⟩ := y8 wc aA.out; go_wp2
     go_ret
     exact ⟨ER, K1 HB aI.out⟩
def spec_RulesOk.l0 : Nat → List (S59) → Int → Option (Bool)
 | 0, _, _ => none
 | k + 1, x0, x3 => if x3 < (x0.length : Int) then (if 0 ≤ x3 then ((spec_l4Ok.f k ((rd_T59 x0 x3).f0) ((rd_T59 x0 x3).f1) ((rd_T59 x0 x3).f2.f0) ((rd_T59 x0 x3).f2.f1) ((rd_T59 x0 x3).f3.f0) ((rd_T59 x0 x3).f3.f1) ((rd_T59 x0 x3).f4) ((rd_T59 x0 x3).f5)).bind fun t102 => (if t102 = true then (spec_RulesOk.l0 k x0 (wrap64 (x3 + 1))) else (some false))) else (none)) else (some (decide ((x0.length : Int) ≤ 8)))
def spec_RulesOk.f (k : Nat) (l0 : List (S59)) : Option (Bool) := spec_RulesOk.l0 k l0 0
theorem spec_RulesOk.calls (k : Nat) (A0 : Option Addr) (c0 : Nat) (l0 : List (S59)) (r : Bool) (w : World) (aO : Kd.C k59 w A0 l0.length l0) (aP : l0.length ≤ c0) (h : spec_RulesOk.f k l0 = some r) :
  Calls Tryz.prog 41 #[.slice A0 l0.length c0] w fun e w' => e = .returned (.bool r) ∧ Below w.heap.size w w' := by
 have aS := Tryz.underlying59; have aQ := Aside0.mk aO; have aT := Aside0.mk aP; clear aO aP; have HB := am (Below.refl w.heap.size w); have H : (spec_RulesOk.l0 k l0 0) = some r := h; clear h; have H' := Aside0.mk H; clear H; go_enter Tryz.func41, Tryz.ntmps41
 go_wp2
 go_loopg [3] k (fun kq v3 w' => ∃ (aA : Int), v3 = .int .i64 aA ∧ Aside0 (spec_RulesOk.l0 kq l0 aA = some r) ∧ Aside0 (kq ≤ k) ∧ Aside0 (Below w.heap.size w w'))
 case atStart => exact ⟨(0), RS, H', ⟨Nat.le_refl _⟩, ⟨KL HB⟩⟩
 case round =>
  clear H'; obtain ⟨aA, rfl, HA, HK1, HB⟩ := hrel; cases gk with
  | zero => exact absurd HA.out (by simp [spec_RulesOk.l0])
  | succ k1 =>
   have H := HA.out; clear HA; simp only [spec_RulesOk.l0] at H; by_cases c2 : aA < (l0.length : Int)
   ·rw [if_pos c2] at H
    have c2b0 := decide_eq_true c2; clear c2; by_cases c3 : 0 ≤ aA
    ·rw [if_pos c3] at H
     have c3b0 := decide_eq_true c3; clear c3; obtain ⟨aM, A4, H⟩ := b1 H; by_cases c5 : aM = true
     ·subst c5
      replace H := pf H; have H' := Aside0.mk H; clear H; have aJ : 0 ≤ (aA : Int) := OD; have aK : aA < (l0.length : Int) := OD; obtain ⟨aN, aL, aB, aC, aD, aE, aF, aG, aH, aI⟩ := at_T59 aQ.out aA aJ aK; cases aL
      replace aB := CX HB.out aB; replace aC := CX HB.out aC; replace aD := CX HB.out aD; replace aE := CX HB.out aE; replace aF := CX HB.out aF; replace aG := CX HB.out aG; replace aH := CX HB.out aH; replace aI := CX HB.out aI; replace aJ := eq_true aJ; replace aK := eq_true aK; go_wp2_with (first | (go_at_call 73; (with_reducible refine (spec_l4Ok.calls _ _ _ _ _ _ _ _ _ _ _ A4.out).mono ?_); rintro e w6 ⟨rfl, hb⟩; replace HB := bl (KL HB) hb))
      go_roundg k1
      case measure => have := HK1.out; omega
      case rel => exact ⟨(wrap64 (aA + 1)), RS, H', LK HK1, ⟨KL HB⟩⟩
     ·replace c5 := Bool.eq_false_iff.mpr c5
      subst c5; replace H := nf H; obtain rfl := sj H; have aJ : 0 ≤ (aA : Int) := OD; have aK : aA < (l0.length : Int) := OD; obtain ⟨aN, aL, aB, aC, aD, aE, aF, aG, aH, aI⟩ := at_T59 aQ.out aA aJ aK; cases aL
      replace aB := CX HB.out aB; replace aC := CX HB.out aC; replace aD := CX HB.out aD; replace aE := CX HB.out aE; replace aF := CX HB.out aF; replace aG := CX HB.out aG; replace aH := CX HB.out aH; replace aI := CX HB.out aI; replace aJ := eq_true aJ; replace aK := eq_true aK; go_wp2_with (first | (go_at_call 73; (with_reducible refine (spec_l4Ok.calls _ _ _ _ _ _ _ _ _ _ _ A4.out).mono ?_); rintro e w7 ⟨rfl, hb⟩; replace HB := bl (KL HB) hb))
      go_ret
      exact ⟨ER, KL HB⟩
    ·rw [if_neg c3] at H
     exact absurd H (by simp)
   ·rw [if_neg c2] at H
    have c2b0 := decide_eq_false c2; clear c2; obtain rfl := sj H; go_wp2
    go_ret
    exact ⟨ER, KL HB⟩
def spec_l4Call.f (a0_0 : Int) (a0_1 : Int) (a0_2 : Int) : Option (Bool) := (spec_l1Addr.f a0_0).bind fun t102 => (if t102 = true then ((spec_l1Addr.f a0_1).bind fun t103 => (if t103 = true then ((spec_l1In.f a0_2 0 65535).bind fun t104 => (some t104)) else (some false))) else (some false))
theorem spec_l4Call.calls (aA : Int) (aB : Int) (aC : Int) (r : Bool) (w : World) (h : spec_l4Call.f aA aB aC = some r) :
  Calls Tryz.prog 68 #[.agg #[.int .i64 aA, .int .i64 aB, .int .i64 aC]] w fun e w' => e = .returned (.bool r) ∧ Below w.heap.size w w' := by
 have bA := Tryz.underlying94; have HB := am (Below.refl w.heap.size w); unfold spec_l4Call.f at h; have A := am h; clear h; go_enter Tryz.func68, Tryz.ntmps68
 go_wp2_with (first | ((with_reducible refine gate_dst (N := 1) rfl ?_); refine bxe (KL HB) (cs := #[.int .i64 aA, .int .i64 aB, .int .i64 aC]) ?_; intro aK w7 aF aH HB hb hg; clear hb hg; have ⟨_, _, _, _⟩ := y3 w7 aF.out) | (go_at_call 96; obtain ⟨v_, q_, A⟩ := s1 (sy A); (with_reducible refine (spec_l1Addr.calls _ _ _ q_).mono ?_); rintro e w' ⟨rfl, ⟨nd, rfl⟩⟩) | (go_at_call 37; obtain ⟨v_, q_, A⟩ := s1 (sy A); (with_reducible refine (spec_l1In.calls _ _ _ _ _ q_).mono ?_); rintro e w' ⟨rfl, ⟨nd, rfl⟩⟩))
 all_goals (replace A := sy A; first | (obtain rfl := s0 A; go_ret; exact ⟨ER, K1 HB aH.out⟩))
def spec_l1Last.f (k : Nat) (a0_0 : Int) (a0_1 : Int) : Option (Int) := (spec_l1Size.f k a0_1).bind fun t102 => (some (wrap64 ((wrap64 (a0_0 + t102)) - 1)))
theorem spec_l1Last.calls (k : Nat) (aE : Int) (aA : Int) (r : Int) (w : World) (h : spec_l1Last.f k aE aA = some r) :
  Calls Tryz.prog 115 #[.agg #[.int .i64 aE, .int .i64 aA]] w fun e w' => e = .returned (.int .i64 r) ∧ Below w.heap.size w w' := by
 have aM := Tryz.underlying57; have HB := am (Below.refl w.heap.size w); unfold spec_l1Last.f at h; have H := h; clear h; obtain ⟨aF, A2, H⟩ := b1 H; obtain rfl := sj H; go_enter Tryz.func115, Tryz.ntmps115
 go_wp2_with (first | ((with_reducible refine gate_dst (N := 1) rfl ?_); refine bxe (KL HB) (cs := #[.int .i64 aE, .int .i64 aA]) ?_; intro aK w3 aC aG HB hb hg; clear hb hg; obtain ⟨aH, aI, aJ⟩ := y2 w3 aC.out) | (go_at_call 116; (with_reducible refine (spec_l1Size.calls _ _ _ _ A2.out).mono ?_); rintro e w' ⟨rfl, ⟨nd, rfl⟩⟩; (try first | exact ⟨rfl, _, World.drewN_drewN _ _ _⟩ | exact ⟨rfl, _, Eq.trans (World.drewN_drewN _ _ _) (congrArg (World.drewN _) (Nat.add_assoc _ _ _))⟩)))
 repeat (go_quiet (first | ((with_reducible refine gate_dst (N := 1) rfl ?_); refine bxe (KL HB) (cs := #[.int .i64 aE, .int .i64 aA]) ?_; intro aK w3 aC aG HB hb hg; clear hb hg; obtain ⟨aH, aI, aJ⟩ := y2 w3 aC.out) | (go_at_call 116; (with_reducible refine (spec_l1Size.calls _ _ _ _ A2.out).mono ?_); rintro e w' ⟨rfl, ⟨nd, rfl⟩⟩; (try first | exact ⟨rfl, _, World.drewN_drewN _ _ _⟩ | exact ⟨rfl, _, Eq.trans (World.drewN_drewN _ _ _) (congrArg (World.drewN _) (Nat.add_assoc _ _ _))⟩))); try go_wp2_with (first | ((with_reducible refine gate_dst (N := 1) rfl ?_); refine bxe (KL HB) (cs := #[.int .i64 aE, .int .i64 aA]) ?_; intro aK w3 aC aG HB hb hg; clear hb hg; obtain ⟨aH, aI, aJ⟩ := y2 w3 aC.out) | (go_at_call 116; (with_reducible refine (spec_l1Size.calls _ _ _ _ A2.out).mono ?_); rintro e w' ⟨rfl, ⟨nd, rfl⟩⟩; (try first | exact ⟨rfl, _, World.drewN_drewN _ _ _⟩ | exact ⟨rfl, _, Eq.trans (World.drewN_drewN _ _ _) (congrArg (World.drewN _) (Nat.add_assoc _ _ _))⟩))))
 go_ret
 exact ⟨ER, K1 HB aG.out⟩
def spec_l4About.f (k : Nat) (a0_0 : Int) (a0_1 : Int) (a0_2 : Int) (a0_3 : Int) (a0_4 : Int) (a0_5 : Int) (a0_6 : Int) (a0_7 : Int) (a1_0 : Int) (a1_1 : Int) (a1_2 : Int) : Option (Bool) := (spec_l1Last.f k a0_2 a0_3).bind fun t103 => ((spec_l1In.f a1_0 a0_2 t103).bind fun t104 => (if t104 = true then ((spec_l1Last.f k a0_4 a0_5).bind fun t105 => ((spec_l1In.f a1_1 a0_4 t105).bind fun t106 => (if t106 = true then ((spec_l1In.f a1_2 a0_6 a0_7).bind fun t107 => (some t107)) else (some false)))) else (some false)))
def spec_l4About.T1 : Bool × List (List Nat × List Nat) := (true, [([], []), ([0], [0]), ([], []), ([2], [2]), ([3], [3]), ([], []), ([5], [5]), ([6], [6]), ([1, 4, 7, 7], [1, 4, 7]), ([8, 8], [8]), ([9], [9]), ([10, 9], [9, 10]), ([9], [9]), ([12, 9], [9, 12]), ([13, 9], [9, 13]), ([9], [9]), ([15, 9], [9, 15]), ([16, 9, 9], [9, 16]), ([11, 14, 17, 17, 9], [9, 11, 14, 17]), ([9, 18], [9, 18]), ([19, 18], [19]), ([20], [20]), ([21, 20], [20, 21]), ([20], [20]), ([23, 20], [20, 23]), ([20], [20]), ([25, 20], [20, 25]), ([22, 24, 26, 20, 20], [20, 22, 24, 26]), ([20, 27], [20, 27]), ([28, 27, 0, 1, 2, 3, 4, 5, 6, 7, 8, 9, 10, 11, 12, 13, 14, 15, 16, 17, 18, 19, 20, 21, 22, 23, 24, 25, 26, 27, 28], [28])])
def spec_l4About.B1 : List Nat := [0, 1, 0, 4, 12, 0, 32, 96, 255, 511, 1023, 2047, 1023, 5119, 13311, 1023, 33791, 99327, 262143, 524287, 1048575, 2097151, 4194303, 2097151, 10485759, 2097151, 35651583, 134217727, 268435455, 536870911]
theorem spec_l4About.tab1 : rtab .any (opsOf Tryz.f97 1) = spec_l4About.T1 := by kernel_rfl
theorem spec_l4About.bits1 : waitsOk spec_l4About.T1.2 spec_l4About.B1 = true := by kernel_rfl
theorem spec_l4About.calls (k : Nat) (aX : Int) (aY : Int) (aF : Int) (aL : Int) (aG : Int) (aM : Int) (aN : Int) (aO : Int) (aI : Int) (aJ : Int) (aP : Int) (r : Bool) (w : World) (h : spec_l4About.f k aX aY aF aL aG aM aN aO aI aJ aP = some r) :
  Calls Tryz.prog 97 #[.agg #[.int .i64 aX, .int .i64 aY, .int .i64 aF, .int .i64 aL, .int .i64 aG, .int .i64 aM, .int .i64 aN, .int .i64 aO], .agg #[.int .i64 aI, .int .i64 aJ, .int .i64 aP]] w fun e w' => e = .returned (.bool r) ∧ Below w.heap.size w w' := by
 have bJ := Tryz.underlying59; have bK := Tryz.underlying94; have bL := Tryz.underlying57; have HB := am (Below.refl w.heap.size w); unfold spec_l4About.f at h; have H := h; clear h; obtain ⟨aR, A3, H⟩ := b1 H; obtain ⟨bD, A4, H⟩ := b1 H; by_cases c5 : bD = true
 ·subst c5
  replace H := pf H; obtain ⟨aQ, A6, H⟩ := b1 H; obtain ⟨aT, A7, H⟩ := b1 H; by_cases c8 : aT = true
  ·subst c8
   replace H := pf H; obtain ⟨aS, A9, H⟩ := b1 H; obtain rfl := sj H; go_enter Tryz.func97, Tryz.ntmps97
   try go_wp2_with (first | ((with_reducible refine gate_dst (N := 2) rfl ?_); refine bxe (KL HB) (cs := #[.int .i64 aX, .int .i64 aY, .int .i64 aF, .int .i64 aL, .int .i64 aG, .int .i64 aM, .int .i64 aN, .int .i64 aO]) ?_; intro aZ bP aA aE HB hb hg; clear hb hg) | ((with_reducible refine gate_dst (N := 3) rfl ?_); refine box_event rfl (N := 3) rfl (cs := #[.int .i64 aI, .int .i64 aJ, .int .i64 aP]) (t := 94) BX ?_; intro bB hg bM aH hb; have aB := am (aH); have bC := am (GH1 HB aE.out hg); have aK := bC; replace HB := bl (K1 HB aE.out) hb; have aU := am (NL aA hg); have aV := am (NG aA hg); replace aA := am (BB aA hb); clear hb aH hg))
   replace aA := am (blk_drew aA.out); replace aB := am (blk_drew aB.out); replace HB := am (below_drew1 HB.out); refine start_ (n := 30) (S := fun w' => ce3 w' bB (.int .i64 aI) (.int .i64 aJ) (.int .i64 aP) (de8 w' aZ (.int .i64 aX) (.int .i64 aY) (.int .i64 aF) (.int .i64 aL) (.int .i64 aG) (.int .i64 aM) (.int .i64 aN) (.int .i64 aO))) (ds := []) (tf 0 30) (by kernel_rfl) rfl rfl (zc3 aB ⟨z0 _ aA.out, z1 _ aA.out, z2 _ aA.out, z3 _ aA.out, z4 _ aA.out, z5 _ aA.out, z6 _ aA.out, z7 _ aA.out⟩) (fun aC => ?_); refine with_tabW spec_l4About.tab1 spec_l4About.bits1 (fun aD aW => ?_); generalize bM.drew = bQ at aA aB HB aC ⊢; refine pv aD 0 5 (tf 1 29) ?_; refine pv aD 2 7 (tr [1, 1, 1, 27]) ?_; refine pv aD 3 8 (tr [1, 1, 2, 26]) ?_; refine pv aD 5 10 (tr [1, 1, 2, 1, 1, 24]) ?_; refine tw aD aW 1 6 (tr [4, 1, 1, 24]) aC ?_; refine tw aD aW 4 9 (tf 6 24) aC ?_; refine tw aD aW 6 11 (tf 7 23) aC ?_; refine oW aD 7 12 (tf 8 22) (fun K hK => ?_); refine gW Tryz.func115 #[.agg #[.int .i64 aF, .int .i64 aL]] ?_; with_reducible refine (spec_l1Last.calls k aF aL aR _ A3.out).mono ?_
   rintro e bR ⟨rfl, hb⟩; refine ⟨_, rfl, ?_⟩; replace aA := am (BB aA hb); replace aB := am (BB aB hb); replace HB := bl (K2 HB aE.out aK.out) hb; (try clear hb)
   refine hK.out _ _ (zc3 aB ⟨z0 _ aA.out, z1 _ aA.out, z2 _ aA.out, z3 _ aA.out, z4 _ aA.out, z5 _ aA.out, z6 _ aA.out, z7 _ aA.out⟩) (fun aC => ?_); clear hK K; refine nm (some 12) ?_; refine oW aD 8 13 (tf 9 21) (fun K hK => ?_); refine gW Tryz.func37 #[.int .i64 aI, .int .i64 aF, .int .i64 aR] ?_; with_reducible refine (spec_l1In.calls aI aF aR true _ A4.out).mono ?_
   rintro e w' ⟨rfl, ⟨nd, rfl⟩⟩; refine ⟨_, rfl, ?_⟩; refine hK.out _ _ (zc3 aB ⟨z0 _ aA.out, z1 _ aA.out, z2 _ aA.out, z3 _ aA.out, z4 _ aA.out, z5 _ aA.out, z6 _ aA.out, z7 _ aA.out⟩) (fun aC => ?_); clear hK K; refine nm (some 13) ?_; refine pv aD 9 14 (tf 10 20) ?_; refine pv aD 10 15 (tf 11 19) ?_; refine pv aD 12 17 (tr [11, 1, 1, 17]) ?_; refine pv aD 13 18 (tr [11, 1, 2, 16]) ?_; refine pv aD 15 20 (tr [11, 1, 2, 1, 1, 14]) ?_; refine tw aD aW 11 16 (tr [14, 1, 1, 14]) aC ?_; refine tw aD aW 14 19 (tf 16 14) aC ?_; refine tw aD aW 16 21 (tf 17 13) aC ?_; refine oW aD 17 22 (tf 18 12) (fun K hK => ?_); refine gW Tryz.func115 #[.agg #[.int .i64 aG, .int .i64 aM]] ?_; with_reducible refine (spec_l1Last.calls k aG aM aQ _ A6.out).mono ?_
   rintro e bS ⟨rfl, hb⟩; refine ⟨_, rfl, ?_⟩; replace aA := am (BB aA hb); replace aB := am (BB aB hb); replace HB := bl (K2 HB aE.out aK.out) hb; (try clear hb)
   refine hK.out _ _ (zc3 aB ⟨z0 _ aA.out, z1 _ aA.out, z2 _ aA.out, z3 _ aA.out, z4 _ aA.out, z5 _ aA.out, z6 _ aA.out, z7 _ aA.out⟩) (fun aC => ?_); clear hK K; refine nm (some 22) ?_; refine oW aD 18 23 (tf 19 11) (fun K hK => ?_); refine gW Tryz.func37 #[.int .i64 aJ, .int .i64 aG, .int .i64 aQ] ?_; with_reducible refine (spec_l1In.calls aJ aG aQ true _ A7.out).mono ?_
   rintro e w' ⟨rfl, ⟨nd, rfl⟩⟩; refine ⟨_, rfl, ?_⟩; refine hK.out _ _ (zc3 aB ⟨z0 _ aA.out, z1 _ aA.out, z2 _ aA.out, z3 _ aA.out, z4 _ aA.out, z5 _ aA.out, z6 _ aA.out, z7 _ aA.out⟩) (fun aC => ?_); clear hK K; refine nm (some 23) ?_; refine pv aD 19 24 (tf 20 10) ?_; refine pv aD 20 25 (tf 21 9) ?_; refine pv aD 21 26 (tf 22 8) ?_; refine pv aD 23 28 (tr [22, 1, 1, 6]) ?_; refine pv aD 25 30 (tr [22, 1, 1, 1, 1, 4]) ?_; refine tw aD aW 22 27 (tr [24, 1, 1, 4]) aC ?_; refine tw aD aW 24 29 (tf 26 4) aC ?_; refine tw aD aW 26 31 (tf 27 3) aC ?_; refine oW aD 27 32 (tf 28 2) (fun K hK => ?_); refine gW Tryz.func37 #[.int .i64 aP, .int .i64 aN, .int .i64 aO] ?_; with_reducible refine (spec_l1In.calls aP aN aO aS _ A9.out).mono ?_
   rintro e w' ⟨rfl, ⟨nd, rfl⟩⟩; refine ⟨_, rfl, ?_⟩; refine hK.out _ _ (zc3 aB ⟨z0 _ aA.out, z1 _ aA.out, z2 _ aA.out, z3 _ aA.out, z4 _ aA.out, z5 _ aA.out, z6 _ aA.out, z7 _ aA.out⟩) (fun aC => ?_); clear hK K; refine nm (some 32) ?_; refine pv aD 28 33 (tf 29 1) ?_; refine pv aD 29 4 (tf 30 0) ?_; refine done_ (done_of aD.out (by kernel_rfl)) ?_; try go_wp2
   go_ret
   exact ⟨ER, K2 HB aE.out aK.out⟩
  ·replace c8 := Bool.eq_false_iff.mpr c8
   subst c8; replace H := nf H; obtain rfl := sj H; go_enter Tryz.func97, Tryz.ntmps97
   try go_wp2_with (first | ((with_reducible refine gate_dst (N := 2) rfl ?_); refine bxe (KL HB) (cs := #[.int .i64 aX, .int .i64 aY, .int .i64 aF, .int .i64 aL, .int .i64 aG, .int .i64 aM, .int .i64 aN, .int .i64 aO]) ?_; intro aZ bT aA aE HB hb hg; clear hb hg) | ((with_reducible refine gate_dst (N := 3) rfl ?_); refine box_event rfl (N := 3) rfl (cs := #[.int .i64 aI, .int .i64 aJ, .int .i64 aP]) (t := 94) BX ?_; intro bB hg bN aH hb; have aB := am (aH); have bC := am (GH1 HB aE.out hg); have aK := bC; replace HB := bl (K1 HB aE.out) hb; have aU := am (NL aA hg); have aV := am (NG aA hg); replace aA := am (BB aA hb); clear hb aH hg))
   replace aA := am (blk_drew aA.out); replace aB := am (blk_drew aB.out); replace HB := am (below_drew1 HB.out); refine start_ (n := 30) (S := fun w' => ce3 w' bB (.int .i64 aI) (.int .i64 aJ) (.int .i64 aP) (de8 w' aZ (.int .i64 aX) (.int .i64 aY) (.int .i64 aF) (.int .i64 aL) (.int .i64 aG) (.int .i64 aM) (.int .i64 aN) (.int .i64 aO))) (ds := []) (tf 0 30) (by kernel_rfl) rfl rfl (zc3 aB ⟨z0 _ aA.out, z1 _ aA.out, z2 _ aA.out, z3 _ aA.out, z4 _ aA.out, z5 _ aA.out, z6 _ aA.out, z7 _ aA.out⟩) (fun aC => ?_); refine with_tabW spec_l4About.tab1 spec_l4About.bits1 (fun aD aW => ?_); generalize bN.drew = bU at aA aB HB aC ⊢; refine pv aD 0 5 (tf 1 29) ?_; refine pv aD 2 7 (tr [1, 1, 1, 27]) ?_; refine pv aD 3 8 (tr [1, 1, 2, 26]) ?_; refine pv aD 5 10 (tr [1, 1, 2, 1, 1, 24]) ?_; refine tw aD aW 1 6 (tr [4, 1, 1, 24]) aC ?_; refine tw aD aW 4 9 (tf 6 24) aC ?_; refine tw aD aW 6 11 (tf 7 23) aC ?_; refine oW aD 7 12 (tf 8 22) (fun K hK => ?_); refine gW Tryz.func115 #[.agg #[.int .i64 aF, .int .i64 aL]] ?_; with_reducible refine (spec_l1Last.calls k aF aL aR _ A3.out).mono ?_
   rintro e bV ⟨rfl, hb⟩; refine ⟨_, rfl, ?_⟩; replace aA := am (BB aA hb); replace aB := am (BB aB hb); replace HB := bl (K2 HB aE.out aK.out) hb; (try clear hb)
   refine hK.out _ _ (zc3 aB ⟨z0 _ aA.out, z1 _ aA.out, z2 _ aA.out, z3 _ aA.out, z4 _ aA.out, z5 _ aA.out, z6 _ aA.out, z7 _ aA.out⟩) (fun aC => ?_); clear hK K; refine nm (some 12) ?_; refine oW aD 8 13 (tf 9 21) (fun K hK => ?_); refine gW Tryz.func37 #[.int .i64 aI, .int .i64 aF, .int .i64 aR] ?_; with_reducible refine (spec_l1In.calls aI aF aR true _ A4.out).mono ?_
   rintro e w' ⟨rfl, ⟨nd, rfl⟩⟩; refine ⟨_, rfl, ?_⟩; refine hK.out _ _ (zc3 aB ⟨z0 _ aA.out, z1 _ aA.out, z2 _ aA.out, z3 _ aA.out, z4 _ aA.out, z5 _ aA.out, z6 _ aA.out, z7 _ aA.out⟩) (fun aC => ?_); clear hK K; refine nm (some 13) ?_; refine pv aD 9 14 (tf 10 20) ?_; refine pv aD 10 15 (tf 11 19) ?_; refine pv aD 12 17 (tr [11, 1, 1, 17]) ?_; refine pv aD 13 18 (tr [11, 1, 2, 16]) ?_; refine pv aD 15 20 (tr [11, 1, 2, 1, 1, 14]) ?_; refine tw aD aW 11 16 (tr [14, 1, 1, 14]) aC ?_; refine tw aD aW 14 19 (tf 16 14) aC ?_; refine tw aD aW 16 21 (tf 17 13) aC ?_; refine oW aD 17 22 (tf 18 12) (fun K hK => ?_); refine gW Tryz.func115 #[.agg #[.int .i64 aG, .int .i64 aM]] ?_; with_reducible refine (spec_l1Last.calls k aG aM aQ _ A6.out).mono ?_
   rintro e bW ⟨rfl, hb⟩; refine ⟨_, rfl, ?_⟩; replace aA := am (BB aA hb); replace aB := am (BB aB hb); replace HB := bl (K2 HB aE.out aK.out) hb; (try clear hb)
   refine hK.out _ _ (zc3 aB ⟨z0 _ aA.out, z1 _ aA.out, z2 _ aA.out, z3 _ aA.out, z4 _ aA.out, z5 _ aA.out, z6 _ aA.out, z7 _ aA.out⟩) (fun aC => ?_); clear hK K; refine nm (some 22) ?_; refine oW aD 18 23 (tf 19 11) (fun K hK => ?_); refine gW Tryz.func37 #[.int .i64 aJ, .int .i64 aG, .int .i64 aQ] ?_; with_reducible refine (spec_l1In.calls aJ aG aQ false _ A7.out).mono ?_
   rintro e w' ⟨rfl, ⟨nd, rfl⟩⟩; refine ⟨_, rfl, ?_⟩; refine hK.out _ _ (zc3 aB ⟨z0 _ aA.out, z1 _ aA.out, z2 _ aA.out, z3 _ aA.out, z4 _ aA.out, z5 _ aA.out, z6 _ aA.out, z7 _ aA.out⟩) (fun aC => ?_); clear hK K; refine nm (some 23) ?_; refine pv aD 19 24 (tf 20 10) ?_; refine pv aD 20 25 (tf 21 9) ?_; refine pw aD 21 26 (tf 22 8) ?_; refine pw aD 22 27 (tf 23 7) ?_; refine pw aD 23 28 (tf 24 6) ?_; refine pw aD 24 29 (tf 25 5) ?_; refine pw aD 25 30 (tf 26 4) ?_; refine pw aD 26 31 (tf 27 3) ?_; refine pw aD 27 32 (tf 28 2) ?_; refine pv aD 28 33 (tf 29 1) ?_; refine pv aD 29 4 (tf 30 0) ?_; refine done_ (done_of aD.out (by kernel_rfl)) ?_; try go_wp2
   go_ret
   exact ⟨ER, K2 HB aE.out aK.out⟩
 ·replace c5 := Bool.eq_false_iff.mpr c5
  subst c5; replace H := nf H; obtain rfl := sj H; go_enter Tryz.func97, Tryz.ntmps97
  try go_wp2_with (first | ((with_reducible refine gate_dst (N := 2) rfl ?_); refine bxe (KL HB) (cs := #[.int .i64 aX, .int .i64 aY, .int .i64 aF, .int .i64 aL, .int .i64 aG, .int .i64 aM, .int .i64 aN, .int .i64 aO]) ?_; intro aZ bX aA aE HB hb hg; clear hb hg) | ((with_reducible refine gate_dst (N := 3) rfl ?_); refine box_event rfl (N := 3) rfl (cs := #[.int .i64 aI, .int .i64 aJ, .int .i64 aP]) (t := 94) BX ?_; intro bB hg bO aH hb; have aB := am (aH); have bC := am (GH1 HB aE.out hg); have aK := bC; replace HB := bl (K1 HB aE.out) hb; have aU := am (NL aA hg); have aV := am (NG aA hg); replace aA := am (BB aA hb); clear hb aH hg))
  replace aA := am (blk_drew aA.out); replace aB := am (blk_drew aB.out); replace HB := am (below_drew1 HB.out); refine start_ (n := 30) (S := fun w' => ce3 w' bB (.int .i64 aI) (.int .i64 aJ) (.int .i64 aP) (de8 w' aZ (.int .i64 aX) (.int .i64 aY) (.int .i64 aF) (.int .i64 aL) (.int .i64 aG) (.int .i64 aM) (.int .i64 aN) (.int .i64 aO))) (ds := []) (tf 0 30) (by kernel_rfl) rfl rfl (zc3 aB ⟨z0 _ aA.out, z1 _ aA.out, z2 _ aA.out, z3 _ aA.out, z4 _ aA.out, z5 _ aA.out, z6 _ aA.out, z7 _ aA.out⟩) (fun aC => ?_); refine with_tabW spec_l4About.tab1 spec_l4About.bits1 (fun aD aW => ?_); generalize bO.drew = bY at aA aB HB aC ⊢; refine pv aD 0 5 (tf 1 29) ?_; refine pv aD 2 7 (tr [1, 1, 1, 27]) ?_; refine pv aD 3 8 (tr [1, 1, 2, 26]) ?_; refine pv aD 5 10 (tr [1, 1, 2, 1, 1, 24]) ?_; refine tw aD aW 1 6 (tr [4, 1, 1, 24]) aC ?_; refine tw aD aW 4 9 (tf 6 24) aC ?_; refine tw aD aW 6 11 (tf 7 23) aC ?_; refine oW aD 7 12 (tf 8 22) (fun K hK => ?_); refine gW Tryz.func115 #[.agg #[.int .i64 aF, .int .i64 aL]] ?_; with_reducible refine (spec_l1Last.calls k aF aL aR _ A3.out).mono ?_
  rintro e bZ ⟨rfl, hb⟩; refine ⟨_, rfl, ?_⟩; replace aA := am (BB aA hb); replace aB := am (BB aB hb); replace HB := bl (K2 HB aE.out aK.out) hb; (try clear hb)
  refine hK.out _ _ (zc3 aB ⟨z0 _ aA.out, z1 _ aA.out, z2 _ aA.out, z3 _ aA.out, z4 _ aA.out, z5 _ aA.out, z6 _ aA.out, z7 _ aA.out⟩) (fun aC => ?_); clear hK K; refine nm (some 12) ?_; refine oW aD 8 13 (tf 9 21) (fun K hK => ?_); refine gW Tryz.func37 #[.int .i64 aI, .int .i64 aF, .int .i64 aR] ?_; with_reducible refine (spec_l1In.calls aI aF aR false _ A4.out).mono ?_
  rintro e w' ⟨rfl, ⟨nd, rfl⟩⟩; refine ⟨_, rfl, ?_⟩; refine hK.out _ _ (zc3 aB ⟨z0 _ aA.out, z1 _ aA.out, z2 _ aA.out, z3 _ aA.out, z4 _ aA.out, z5 _ aA.out, z6 _ aA.out, z7 _ aA.out⟩) (fun aC => ?_); clear hK K; refine nm (some 13) ?_; refine pv aD 9 14 (tf 10 20) ?_; refine pw aD 10 15 (tf 11 19) ?_; refine pw aD 11 16 (tf 12 18) ?_; refine pw aD 12 17 (tf 13 17) ?_; refine pw aD 13 18 (tf 14 16) ?_; refine pw aD 14 19 (tf 15 15) ?_; refine pw aD 15 20 (tf 16 14) ?_; refine pw aD 16 21 (tf 17 13) ?_; refine pw aD 17 22 (tf 18 12) ?_; refine pw aD 18 23 (tf 19 11) ?_; refine pv aD 19 24 (tf 20 10) ?_; refine pv aD 20 25 (tf 21 9) ?_; refine pw aD 21 26 (tf 22 8) ?_; refine pw aD 22 27 (tf 23 7) ?_; refine pw aD 23 28 (tf 24 6) ?_; refine pw aD 24 29 (tf 25 5) ?_; refine pw aD 25 30 (tf 26 4) ?_; refine pw aD 26 31 (tf 27 3) ?_; refine pw aD 27 32 (tf 28 2) ?_; refine pv aD 28 33 (tf 29 1) ?_; refine pv aD 29 4 (tf 30 0) ?_; refine done_ (done_of aD.out (by kernel_rfl)) ?_; try go_wp2
  go_ret
  exact ⟨ER, K2 HB aE.out aK.out⟩
def spec_l4First.l0 : Nat → List (S59) → Int → Int → Int → Int → Option (Int)
 | 0, _, _, _, _, _ => none
 | k + 1, x0, x5, x102000, x102001, x102002 => if x5 < (x0.length : Int) then (if 0 ≤ x5 then ((spec_l4About.f k ((rd_T59 x0 x5).f0) ((rd_T59 x0 x5).f1) ((rd_T59 x0 x5).f2.f0) ((rd_T59 x0 x5).f2.f1) ((rd_T59 x0 x5).f3.f0) ((rd_T59 x0 x5).f3.f1) ((rd_T59 x0 x5).f4) ((rd_T59 x0 x5).f5) x102000 x102001 x102002).bind fun t103 => (if t103 = true then (some x5) else (spec_l4First.l0 k x0 (wrap64 (x5 + 1)) x102000 x102001 x102002))) else (none)) else (some (-1))
def spec_l4First.f (k : Nat) (l0 : List (S59)) (a1_0 : Int) (a1_1 : Int) (a1_2 : Int) : Option (Int) := spec_l4First.l0 k l0 0 a1_0 a1_1 a1_2
theorem spec_l4First.calls (k : Nat) (A0 : Option Addr) (c0 : Nat) (l0 : List (S59)) (aU : Int) (aV : Int) (aW : Int) (r : Int) (w : World) (bF : Kd.C k59 w A0 l0.length l0) (bG : l0.length ≤ c0) (h : spec_l4First.f k l0 aU aV aW = some r) :
  Calls Tryz.prog 69 #[.slice A0 l0.length c0, .agg #[.int .i64 aU, .int .i64 aV, .int .i64 aW]] w fun e w' => e = .returned (.int .i64 r) ∧ Below w.heap.size w w' := by
 have bJ := Tryz.underlying94; have bK := Tryz.underlying59; have bH := Aside0.mk bF; have bL := Aside0.mk bG; clear bF bG; have HB := am (Below.refl w.heap.size w); unfold spec_l4First.f at h; have H := h; clear h; have H' := Aside0.mk H; clear H; go_enter Tryz.func69, Tryz.ntmps69
 go_wp2_with (first | ((with_reducible refine gate_dst (N := 3) rfl ?_); refine bxe (KL HB) (cs := #[.int .i64 aU, .int .i64 aV, .int .i64 aW]) ?_; intro bA w3 aC aX HB hb hg; clear hb hg))
 go_loopg [5] k (fun kq v5 w' => ∃ (aA : Int), v5 = .int .i64 aA ∧ Aside0 (spec_l4First.l0 kq l0 aA aU aV aW = some r) ∧ Aside0 (kq ≤ k) ∧ Aside0 (w'.heap[bA]? = some (.cells #[.int .i64 aU, .int .i64 aV, .int .i64 aW] 94 (0, 0))) ∧ Aside0 (Below w.heap.size w w'))
 case atStart => exact ⟨(0), RS, H', ⟨Nat.le_refl _⟩, ⟨KB aC⟩, ⟨K1 HB aX.out⟩⟩
 case round =>
  clear H'; obtain ⟨aA, rfl, HA, HK1, aC, HB⟩ := hrel; cases gk with
  | zero => exact absurd HA.out (by simp [spec_l4First.l0])
  | succ k1 =>
   have H := HA.out; clear HA; simp only [spec_l4First.l0] at H; by_cases c4 : aA < (l0.length : Int)
   ·rw [if_pos c4] at H
    have c4b0 := decide_eq_true c4; clear c4; by_cases c5 : 0 ≤ aA
    ·rw [if_pos c5] at H
     have c5b0 := decide_eq_true c5; clear c5; obtain ⟨bE, A6, H⟩ := b1 H; by_cases c7 : bE = true
     ·subst c7
      replace H := pf H; obtain rfl := sj H; try go_wp2
      replace aC := am (blk_drew aC.out); replace HB := am (below_drew1 HB.out); have aY : 0 ≤ (aA : Int) := OD; have aZ : aA < (l0.length : Int) := OD; obtain ⟨aB, bB, aD, aE, aF, aG, aH, aI, aJ, aK⟩ := at_T59 bH.out aA aY aZ; have aL := aK; have aM := aJ; have aN := aI; have aO := aH; have aP := aG; have aQ := aF; have aR := aE; have aS := aD; cases bB
      replace aD := CX HB.out aD; replace aE := CX HB.out aE; replace aF := CX HB.out aF; replace aG := CX HB.out aG; replace aH := CX HB.out aH; replace aI := CX HB.out aI; replace aJ := CX HB.out aJ; replace aK := CX HB.out aK; replace aY := eq_true aY; replace aZ := eq_true aZ; refine start_ (n := 6) (S := fun w' => ce3 w' bA (.int .i64 aU) (.int .i64 aV) (.int .i64 aW) (w'.cell? (aB.add ((aA).toNat * 8)) = some (.int .i64 ((rd_T59 l0 aA).f0)) ∧ w'.cell? ⟨(aB.add ((aA).toNat * 8)).block, (aB.add ((aA).toNat * 8)).off + 1, none⟩ = some (.int .i64 ((rd_T59 l0 aA).f1)) ∧ w'.cell? ⟨(aB.add ((aA).toNat * 8)).block, (aB.add ((aA).toNat * 8)).off + 2, none⟩ = some (.int .i64 ((rd_T59 l0 aA).f2.f0)) ∧ w'.cell? ⟨(aB.add ((aA).toNat * 8)).block, (aB.add ((aA).toNat * 8)).off + 3, none⟩ = some (.int .i64 ((rd_T59 l0 aA).f2.f1)) ∧ w'.cell? ⟨(aB.add ((aA).toNat * 8)).block, (aB.add ((aA).toNat * 8)).off + 4, none⟩ = some (.int .i64 ((rd_T59 l0 aA).f3.f0)) ∧ w'.cell? ⟨(aB.add ((aA).toNat * 8)).block, (aB.add ((aA).toNat * 8)).off + 5, none⟩ = some (.int .i64 ((rd_T59 l0 aA).f3.f1)) ∧ w'.cell? ⟨(aB.add ((aA).toNat * 8)).block, (aB.add ((aA).toNat * 8)).off + 6, none⟩ = some (.int .i64 ((rd_T59 l0 aA).f4)) ∧ w'.cell? ⟨(aB.add ((aA).toNat * 8)).block, (aB.add ((aA).toNat * 8)).off + 7, none⟩ = some (.int .i64 ((rd_T59 l0 aA).f5)))) (ds := []) (tf 0 6) (by kernel_rfl) rfl rfl (zc3 aC ⟨(CY HB.out aS), (CY HB.out aR), (CY HB.out aQ), (CY HB.out aP), (CY HB.out aO), (CY HB.out aN), (CY HB.out aM), (CY HB.out aL)⟩) (fun aT => ?_); generalize wr.drew = w8 at aC HB aD aE aF aG aH aI aJ aK aT ⊢; refine pure_ (i := 0) (N := some 12) (v := ?_) (a' := ?_) (tf 1 5) rfl rfl (by kernel_rfl) (fun _ _ _ h => h) (Or.inl ⟨by rfl, ?_⟩) ?_ ?_; rotate_left; (· intro w'; go_simp; with_reducible rfl); rotate_left; (· simp only [Act.put, List.setIfInBounds_toArray, List.set_cons_zero, List.set_cons_succ, i64_w, i32_w]; rfl); refine pure_ (i := 1) (N := some 13) (v := ?_) (a' := ?_) (tf 2 4) rfl rfl (by kernel_rfl) (fun _ _ _ h => h) (Or.inl ⟨by rfl, ?_⟩) ?_ ?_; rotate_left; (· intro w'; go_simp; with_reducible rfl); rotate_left; (· simp only [Act.put, List.setIfInBounds_toArray, List.set_cons_zero, List.set_cons_succ, i64_w, i32_w]; rfl); refine pure_ (i := 2) (N := some 14) (v := ?_) (a' := ?_) (tf 3 3) rfl rfl (by kernel_rfl) (fun _ _ _ h => h) (Or.inl ⟨by rfl, ?_⟩) ?_ ?_; rotate_left; (· intro w'; go_simp; with_reducible rfl); rotate_left; (· simp only [Act.put, List.setIfInBounds_toArray, List.set_cons_zero, List.set_cons_succ, i64_w, i32_w]; rfl); refine take_ (i := 3) (N := some 15) (v := ?_) (a' := ?_) (tf 4 2) rfl rfl (by kernel_rfl) (fun _ _ _ h => h) (Or.inl ⟨by rfl, ?_⟩) aT ?_ ?_
      rotate_left
      ·rintro w' ⟨s0, s1, s2, s3, s4, s5, s6, s7, s8, s9, s10⟩
       go_simp
       with_reducible rfl
      rotate_left
      ·simp only [Act.put, List.setIfInBounds_toArray, List.set_cons_zero, List.set_cons_succ, i64_w, i32_w]
       rfl
      refine take_ (i := 4) (N := some 16) (v := ?_) (a' := ?_) (tf 5 1) rfl rfl (by kernel_rfl) (fun _ _ _ h => h) (Or.inl ⟨by rfl, ?_⟩) aT ?_ ?_
      rotate_left
      ·rintro w' ⟨s0, s1, s2, s3, s4, s5, s6, s7, s8, s9, s10⟩
       go_simp
       with_reducible rfl
      rotate_left
      ·simp only [Act.put, List.setIfInBounds_toArray, List.set_cons_zero, List.set_cons_succ, i64_w, i32_w]
       rfl
      refine one_ (i := 5) (N := some 17) (tf 6 0) rfl rfl (by kernel_rfl) (by decide) (fun K hK => ?_); refine gW Tryz.func97 #[.agg #[.int .i64 ((rd_T59 l0 aA).f0), .int .i64 ((rd_T59 l0 aA).f1), .int .i64 ((rd_T59 l0 aA).f2.f0), .int .i64 ((rd_T59 l0 aA).f2.f1), .int .i64 ((rd_T59 l0 aA).f3.f0), .int .i64 ((rd_T59 l0 aA).f3.f1), .int .i64 ((rd_T59 l0 aA).f4), .int .i64 ((rd_T59 l0 aA).f5)], .agg #[.int .i64 aU, .int .i64 aV, .int .i64 aW]] ?_; with_reducible refine (spec_l4About.calls k1 ((rd_T59 l0 aA).f0) ((rd_T59 l0 aA).f1) ((rd_T59 l0 aA).f2.f0) ((rd_T59 l0 aA).f2.f1) ((rd_T59 l0 aA).f3.f0) ((rd_T59 l0 aA).f3.f1) ((rd_T59 l0 aA).f4) ((rd_T59 l0 aA).f5) aU aV aW true _ A6.out).mono ?_
      rintro e w9 ⟨rfl, hb⟩; refine ⟨_, rfl, ?_⟩; replace aC := am (BB aC hb); replace HB := bl (K1 HB aX.out) hb; (try clear hb)
      refine hK.out _ _ (zc3 aC ⟨(CY HB.out aS), (CY HB.out aR), (CY HB.out aQ), (CY HB.out aP), (CY HB.out aO), (CY HB.out aN), (CY HB.out aM), (CY HB.out aL)⟩) (fun aT => ?_); clear hK K; refine nm (some 17) ?_; refine done_ (by kernel_rfl) ?_; try go_wp2
      go_ret
      exact ⟨ER, K1 HB aX.out⟩
     ·replace c7 := Bool.eq_false_iff.mpr c7
      subst c7; replace H := nf H; have H' := Aside0.mk H; clear H; try go_wp2
      replace aC := am (blk_drew aC.out); replace HB := am (below_drew1 HB.out); have aY : 0 ≤ (aA : Int) := OD; have aZ : aA < (l0.length : Int) := OD; obtain ⟨aB, bB, aD, aE, aF, aG, aH, aI, aJ, aK⟩ := at_T59 bH.out aA aY aZ; have aL := aK; have aM := aJ; have aN := aI; have aO := aH; have aP := aG; have aQ := aF; have aR := aE; have aS := aD; cases bB
      replace aD := CX HB.out aD; replace aE := CX HB.out aE; replace aF := CX HB.out aF; replace aG := CX HB.out aG; replace aH := CX HB.out aH; replace aI := CX HB.out aI; replace aJ := CX HB.out aJ; replace aK := CX HB.out aK; replace aY := eq_true aY; replace aZ := eq_true aZ; refine start_ (n := 6) (S := fun w' => ce3 w' bA (.int .i64 aU) (.int .i64 aV) (.int .i64 aW) (w'.cell? (aB.add ((aA).toNat * 8)) = some (.int .i64 ((rd_T59 l0 aA).f0)) ∧ w'.cell? ⟨(aB.add ((aA).toNat * 8)).block, (aB.add ((aA).toNat * 8)).off + 1, none⟩ = some (.int .i64 ((rd_T59 l0 aA).f1)) ∧ w'.cell? ⟨(aB.add ((aA).toNat * 8)).block, (aB.add ((aA).toNat * 8)).off + 2, none⟩ = some (.int .i64 ((rd_T59 l0 aA).f2.f0)) ∧ w'.cell? ⟨(aB.add ((aA).toNat * 8)).block, (aB.add ((aA).toNat * 8)).off + 3, none⟩ = some (.int .i64 ((rd_T59 l0 aA).f2.f1)) ∧ w'.cell? ⟨(aB.add ((aA).toNat * 8)).block, (aB.add ((aA).toNat * 8)).off + 4, none⟩ = some (.int .i64 ((rd_T59 l0 aA).f3.f0)) ∧ w'.cell? ⟨(aB.add ((aA).toNat * 8)).block, (aB.add ((aA).toNat * 8)).off + 5, none⟩ = some (.int .i64 ((rd_T59 l0 aA).f3.f1)) ∧ w'.cell? ⟨(aB.add ((aA).toNat * 8)).block, (aB.add ((aA).toNat * 8)).off + 6, none⟩ = some (.int .i64 ((rd_T59 l0 aA).f4)) ∧ w'.cell? ⟨(aB.add ((aA).toNat * 8)).block, (aB.add ((aA).toNat * 8)).off + 7, none⟩ = some (.int .i64 ((rd_T59 l0 aA).f5)))) (ds := []) (tf 0 6) (by kernel_rfl) rfl rfl (zc3 aC ⟨(CY HB.out aS), (CY HB.out aR), (CY HB.out aQ), (CY HB.out aP), (CY HB.out aO), (CY HB.out aN), (CY HB.out aM), (CY HB.out aL)⟩) (fun aT => ?_); generalize wr.drew = bM at aC HB aD aE aF aG aH aI aJ aK aT ⊢; refine pure_ (i := 0) (N := some 12) (v := ?_) (a' := ?_) (tf 1 5) rfl rfl (by kernel_rfl) (fun _ _ _ h => h) (Or.inl ⟨by rfl, ?_⟩) ?_ ?_; rotate_left; (· intro w'; go_simp; with_reducible rfl); rotate_left; (· simp only [Act.put, List.setIfInBounds_toArray, List.set_cons_zero, List.set_cons_succ, i64_w, i32_w]; rfl); refine pure_ (i := 1) (N := some 13) (v := ?_) (a' := ?_) (tf 2 4) rfl rfl (by kernel_rfl) (fun _ _ _ h => h) (Or.inl ⟨by rfl, ?_⟩) ?_ ?_; rotate_left; (· intro w'; go_simp; with_reducible rfl); rotate_left; (· simp only [Act.put, List.setIfInBounds_toArray, List.set_cons_zero, List.set_cons_succ, i64_w, i32_w]; rfl); refine pure_ (i := 2) (N := some 14) (v := ?_) (a' := ?_) (tf 3 3) rfl rfl (by kernel_rfl) (fun _ _ _ h => h) (Or.inl ⟨by rfl, ?_⟩) ?_ ?_; rotate_left; (· intro w'; go_simp; with_reducible rfl); rotate_left; (· simp only [Act.put, List.setIfInBounds_toArray, List.set_cons_zero, List.set_cons_succ, i64_w, i32_w]; rfl); refine take_ (i := 3) (N := some 15) (v := ?_) (a' := ?_) (tf 4 2) rfl rfl (by kernel_rfl) (fun _ _ _ h => h) (Or.inl ⟨by rfl, ?_⟩) aT ?_ ?_
      rotate_left
      ·rintro w' ⟨s0, s1, s2, s3, s4, s5, s6, s7, s8, s9, s10⟩
       go_simp
       with_reducible rfl
      rotate_left
      ·simp only [Act.put, List.setIfInBounds_toArray, List.set_cons_zero, List.set_cons_succ, i64_w, i32_w]
       rfl
      refine take_ (i := 4) (N := some 16) (v := ?_) (a' := ?_) (tf 5 1) rfl rfl (by kernel_rfl) (fun _ _ _ h => h) (Or.inl ⟨by rfl, ?_⟩) aT ?_ ?_
      rotate_left
      ·rintro w' ⟨s0, s1, s2, s3, s4, s5, s6, s7, s8, s9, s10⟩
       go_simp
       with_reducible rfl
      rotate_left
      ·simp only [Act.put, List.setIfInBounds_toArray, List.set_cons_zero, List.set_cons_succ, i64_w, i32_w]
       rfl
      refine one_ (i := 5) (N := some 17) (tf 6 0) rfl rfl (by kernel_rfl) (by decide) (fun K hK => ?_); refine gW Tryz.func97 #[.agg #[.int .i64 ((rd_T59 l0 aA).f0), .int .i64 ((rd_T59 l0 aA).f1), .int .i64 ((rd_T59 l0 aA).f2.f0), .int .i64 ((rd_T59 l0 aA).f2.f1), .int .i64 ((rd_T59 l0 aA).f3.f0), .int .i64 ((rd_T59 l0 aA).f3.f1), .int .i64 ((rd_T59 l0 aA).f4), .int .i64 ((rd_T59 l0 aA).f5)], .agg #[.int .i64 aU, .int .i64 aV, .int .i64 aW]] ?_; with_reducible refine (spec_l4About.calls k1 ((rd_T59 l0 aA).f0) ((rd_T59 l0 aA).f1) ((rd_T59 l0 aA).f2.f0) ((rd_T59 l0 aA).f2.f1) ((rd_T59 l0 aA).f3.f0) ((rd_T59 l0 aA).f3.f1) ((rd_T59 l0 aA).f4) ((rd_T59 l0 aA).f5) aU aV aW false _ A6.out).mono ?_
      rintro e bN ⟨rfl, hb⟩; refine ⟨_, rfl, ?_⟩; replace aC := am (BB aC hb); replace HB := bl (K1 HB aX.out) hb; (try clear hb)
      refine hK.out _ _ (zc3 aC ⟨(CY HB.out aS), (CY HB.out aR), (CY HB.out aQ), (CY HB.out aP), (CY HB.out aO), (CY HB.out aN), (CY HB.out aM), (CY HB.out aL)⟩) (fun aT => ?_); clear hK K; refine nm (some 17) ?_; refine done_ (by kernel_rfl) ?_; try go_wp2
      go_roundg k1
      case measure => have := HK1.out; omega
      case rel => exact ⟨(wrap64 (aA + 1)), RS, H', LK HK1, ⟨KB aC⟩, ⟨K1 HB aX.out⟩⟩
    ·rw [if_neg c5] at H
     exact absurd H (by simp)
   ·rw [if_neg c4] at H
    have c4b0 := decide_eq_false c4; clear c4; obtain rfl := sj H; go_wp2
    go_ret
    exact ⟨ER, K1 HB aX.out⟩
end Go.Proofs.YtaehmhbpdpdefaaGreat.PAll
end
section
namespace Go.Proofs.YtaehmhbpdpdefaaGreat.PAll
open Go.RowKit Go.Proofs.YtaehmhbpdpdefaaGreatW.PrintWords Go.Proofs.YtaehmhbpdpdefaaGreatW.PrintLast Go.Proofs.YtaehmhbpdpdefaaGreatW.PrintMore
attribute [local go_sem] max2_int min2_int max_two min_two max_three min_three max_four min_four
set_option linter.unusedVariables false
set_option linter.unusedSimpArgs false
attribute [local go_sem high] eqA94
mutual
def spec_CacheOk.j0 : Nat → List (S59) → Bool → Int → List (S96) → Option (Bool)
 | 0, _, _, _, _ => none
 | k + 1, x0, x23, x102000, x102001 => if x23 = true then (some false) else (spec_CacheOk.l0 k x0 0 x102000 x102001)
def spec_CacheOk.l0 : Nat → List (S59) → Int → Int → List (S96) → Option (Bool)
 | 0, _, _, _, _ => none
 | k + 1, x0, x5, x102000, x102001 => if x5 < (x102001.length : Int) then (if 0 ≤ x5 then ((spec_l4Call.f ((rd_T96 x102001 x5).f0.f0) ((rd_T96 x102001 x5).f0.f1) ((rd_T96 x102001 x5).f0.f2)).bind fun t105 => (if t105 = true then ((spec_l4First.f k x0 ((rd_T96 x102001 x5).f0.f0) ((rd_T96 x102001 x5).f0.f1) ((rd_T96 x102001 x5).f0.f2)).bind fun t108 => (spec_CacheOk.j2 k x0 x5 (((rd_T96 x102001 x5).f1) != t108) x102000 x102001)) else (spec_CacheOk.j2 k x0 x5 true x102000 x102001))) else (none)) else (some true)
def spec_CacheOk.j2 : Nat → List (S59) → Int → Bool → Int → List (S96) → Option (Bool)
 | 0, _, _, _, _, _ => none
 | k + 1, x0, x5, x55, x102000, x102001 => if x55 = true then (some false) else (spec_CacheOk.l1 k x0 x5 0 x102000 x102001)
def spec_CacheOk.l1 : Nat → List (S59) → Int → Int → Int → List (S96) → Option (Bool)
 | 0, _, _, _, _, _ => none
 | k + 1, x0, x5, x6, x102000, x102001 => if x6 < x5 then (if 0 ≤ x6 then (if x6 < (x102001.length : Int) then (if 0 ≤ x5 then (if x5 < (x102001.length : Int) then (if (((rd_T96 x102001 x6).f0.f0) == ((rd_T96 x102001 x5).f0.f0) && (((rd_T96 x102001 x6).f0.f1) == ((rd_T96 x102001 x5).f0.f1) && (((rd_T96 x102001 x6).f0.f2) == ((rd_T96 x102001 x5).f0.f2)))) = true then (some false) else (spec_CacheOk.l1 k x0 x5 (wrap64 (x6 + 1)) x102000 x102001)) else (none)) else (none)) else (none)) else (none)) else (spec_CacheOk.l0 k x0 (wrap64 (x5 + 1)) x102000 x102001)
end
def spec_CacheOk.f (k : Nat) (l0 : List (S59)) (a1_0 : Int) (l1_1 : List (S96)) : Option (Bool) := (spec_RulesOk.f k l0).bind fun t102 => (if t102 = true then ((spec_l1In.f a1_0 0 16).bind fun t103 => (if t103 = true then (spec_CacheOk.j0 k l0 (decide ((l1_1.length : Int) > a1_0)) a1_0 l1_1) else (spec_CacheOk.j0 k l0 true a1_0 l1_1))) else (spec_CacheOk.j0 k l0 true a1_0 l1_1))
def spec_CacheOk.T6 : Bool × List (List Nat × List Nat) := (true, [([], []), ([0], [0]), ([], []), ([1, 2], [1, 2]), ([3], [3]), ([4], [4]), ([5], [5]), ([6], [6]), ([7, 6], [7]), ([8], [8]), ([9, 8], [8, 9]), ([8], [8]), ([10, 11, 8], [8, 10, 11]), ([12, 8], [8, 12]), ([13, 8], [8, 13]), ([8], [8]), ([8], [8]), ([16, 8], [8, 16]), ([8], [8]), ([17, 18, 8], [8, 17, 18]), ([19, 8], [8, 19]), ([20, 8], [8, 20]), ([15, 21, 8, 8], [8, 15, 21]), ([14, 22, 8], [8, 14, 22]), ([8, 23], [8, 23])])
def spec_CacheOk.B6 : List Nat := [0, 1, 0, 7, 15, 31, 63, 127, 255, 511, 1023, 511, 4095, 8191, 16383, 511, 511, 66047, 511, 459263, 983551, 2032127, 4162047, 8388607, 16777215]
theorem spec_CacheOk.tab6 : rtab .any (opsOf Tryz.f38 6) = spec_CacheOk.T6 := by kernel_rfl
theorem spec_CacheOk.bits6 : waitsOk spec_CacheOk.T6.2 spec_CacheOk.B6 = true := by kernel_rfl
def spec_CacheOk.T11 : Bool × List (List Nat × List Nat) := (true, [([], []), ([0], [0]), ([], []), ([1, 2], [1, 2]), ([3], [3]), ([4], [4]), ([], []), ([6], [6]), ([], []), ([7, 8], [7, 8]), ([9], [9]), ([10], [10]), ([5, 11], [5, 11])])
def spec_CacheOk.B11 : List Nat := [0, 1, 0, 7, 15, 31, 0, 64, 0, 448, 960, 1984, 4095]
theorem spec_CacheOk.tab11 : rtab .any (opsOf Tryz.f38 11) = spec_CacheOk.T11 := by kernel_rfl
theorem spec_CacheOk.bits11 : waitsOk spec_CacheOk.T11.2 spec_CacheOk.B11 = true := by kernel_rfl
theorem spec_CacheOk.calls (k : Nat) (A0 : Option Addr) (c0 : Nat) (l0 : List (S59)) (aI : Int) (cL : Option Addr) (bQ : Nat) (aB : List (S96)) (r : Bool) (w : World) (eJ : Kd.C k59 w A0 l0.length l0) (eK : l0.length ≤ c0) (dD : Kd.C k96 w cL aB.length aB) (dE : aB.length ≤ bQ) (h : spec_CacheOk.f k l0 aI aB = some r) :
  Calls Tryz.prog 38 #[.slice A0 l0.length c0, .agg #[.int .i64 aI, .slice cL aB.length bQ]] w fun e w' => e = .returned (.bool r) ∧ Below w.heap.size w w' := by
 have eR := Tryz.underlying34; have eS := Tryz.underlying94; have dW := Aside0.mk eJ; have dX := Aside0.mk eK; clear eJ eK; have bI := Aside0.mk dD; have eL := Aside0.mk dE; clear dD dE; have HB := am (Below.refl w.heap.size w); unfold spec_CacheOk.f at h; have H := h; clear h; have eF := Aside0.mk H; clear H; go_enter Tryz.func38, Tryz.ntmps38
 go_upto_region 1 with (first | ((with_reducible refine gate_dst (N := 3) rfl ?_); (try (refine gate_guard (by rfl) ?_; dsimp only)); refine bxe (KL HB) (cs := #[.int .i64 aI, .slice cL aB.length bQ]) ?_; intro bJ w4 aC aJ HB hb hg; clear hb hg))
 (try simp only [Act.put, List.setIfInBounds_toArray, List.set_cons_zero, List.set_cons_succ])
 go_cut [23] (fun eT wc => ∃ (kq : Nat) (cQ : Bool), eT = .bool cQ ∧ Aside0 (spec_CacheOk.j0 kq l0 cQ aI aB = some r) ∧ Aside0 (kq ≤ k) ∧ Aside0 (wc.heap[bJ]? = some (.cells #[.int .i64 aI, (.slice cL aB.length bQ)] 34 (0, 0))) ∧ Aside0 (Below w.heap.size w wc))
 case first =>
  have H := eF.out; clear eF; obtain ⟨dC, A5, H⟩ := b1 H; by_cases c6 : dC = true
  ·subst c6
   replace H := pf H; obtain ⟨cU, A7, H⟩ := b1 H; by_cases c8 : cU = true
   ·subst c8
    replace H := pf H; have H' := Aside0.mk H; clear H; go_wp2_with (first | (go_at_call 41; (with_reducible refine (spec_RulesOk.calls _ _ _ _ _ _ ?_ ?_ A5.out).mono ?_); exact KD dW HB; exact dX.out; rintro e w9 ⟨rfl, hb⟩; replace aC := am (BB aC hb); replace HB := bl (K1 HB aJ.out) hb; obtain ⟨bK, bL, bM⟩ := y2 w9 aC.out) | (go_at_call 37; (with_reducible refine (spec_l1In.calls _ _ _ _ _ A7.out).mono ?_); rintro e w' ⟨rfl, ⟨nd, rfl⟩⟩))
    go_meet
    case rel => exact ⟨_, (decide ((aB.length : Int) > aI)), RS, H', ⟨LE⟩, ⟨KB aC⟩, ⟨K1 HB aJ.out⟩⟩
   ·replace c8 := Bool.eq_false_iff.mpr c8
    subst c8; replace H := nf H; have H' := Aside0.mk H; clear H; go_wp2_with (first | (go_at_call 41; (with_reducible refine (spec_RulesOk.calls _ _ _ _ _ _ ?_ ?_ A5.out).mono ?_); exact KD dW HB; exact dX.out; rintro e eU ⟨rfl, hb⟩; replace aC := am (BB aC hb); replace HB := bl (K1 HB aJ.out) hb; obtain ⟨bN, bO, bP⟩ := y2 eU aC.out) | (go_at_call 37; (with_reducible refine (spec_l1In.calls _ _ _ _ _ A7.out).mono ?_); rintro e w' ⟨rfl, ⟨nd, rfl⟩⟩))
    go_meet
    case rel => exact ⟨_, (true), RS, H', ⟨LE⟩, ⟨KB aC⟩, ⟨K1 HB aJ.out⟩⟩
  ·replace c6 := Bool.eq_false_iff.mpr c6
   subst c6; replace H := nf H; have H' := Aside0.mk H; clear H; go_wp2_with (first | (go_at_call 41; (with_reducible refine (spec_RulesOk.calls _ _ _ _ _ _ ?_ ?_ A5.out).mono ?_); exact KD dW HB; exact dX.out; rintro e eY ⟨rfl, hb⟩; replace aC := am (BB aC hb); replace HB := bl (K1 HB aJ.out) hb))
   go_meet
   case rel => exact ⟨_, (true), RS, H', ⟨LE⟩, ⟨KB aC⟩, ⟨K1 HB aJ.out⟩⟩
 case rest =>
  clear eF; try clear c6
  try clear c8
  try clear bK bL bM
  try clear bN bO bP
  obtain ⟨kq, cQ, rfl, HA, HJ2, aC, HB⟩ := hcut; cases kq with
  | zero => exact absurd HA.out (by simp [spec_CacheOk.j0])
  | succ kj2 =>
   have H := HA.out; clear HA; simp only [spec_CacheOk.j0] at H; by_cases dG : cQ = true
   ·subst dG
    replace H := pf H; obtain rfl := sj H; go_wp2
    go_ret
    exact ⟨ER, K1 HB aJ.out⟩
   ·replace dG := Bool.eq_false_iff.mpr dG
    subst dG; replace H := nf H; have H' := Aside0.mk H; clear H; go_wp2
    go_loopg [5] kj2 (fun kq v5 w' => ∃ (aA : Int), v5 = .int .i64 aA ∧ Aside0 (spec_CacheOk.l0 kq l0 aA aI aB = some r) ∧ Aside0 (kq ≤ kj2) ∧ Aside0 (w'.heap[bJ]? = some (.cells #[.int .i64 aI, (.slice cL aB.length bQ)] 34 (0, 0))) ∧ Aside0 (Below w.heap.size w w'))
    case atStart => exact ⟨(0), RS, H', ⟨Nat.le_refl _⟩, ⟨KB aC⟩, ⟨K1 HB aJ.out⟩⟩
    case round =>
     clear H'; try clear c6
     try clear c8
     try clear dG
     try clear bK bL bM
     try clear bN bO bP
     obtain ⟨aA, rfl, HA, HK2, aC, HB⟩ := hrel; cases gk with
     | zero => exact absurd HA.out (by simp [spec_CacheOk.l0])
     | succ k2 =>
      have H := HA.out; clear HA; simp only [spec_CacheOk.l0] at H; by_cases dF : aA < (aB.length : Int)
      ·rw [if_pos dF] at H
       have c15b0 := decide_eq_true dF; clear dF; have dH := Aside0.mk H; clear H; obtain ⟨cR, cS, cT⟩ := y2 wr aC.out; go_upto_region 6 with (fail)
       go_cut [55] (fun eV wc => ∃ (kq : Nat) (bR : Bool), eV = .bool bR ∧ Aside0 (spec_CacheOk.j2 kq l0 aA bR aI aB = some r) ∧ Aside0 (kq ≤ k2) ∧ Aside0 (wc.heap[bJ]? = some (.cells #[.int .i64 aI, (.slice cL aB.length bQ)] 34 (0, 0))) ∧ Aside0 (Below w.heap.size w wc))
       case first =>
        have H := dH.out; clear dH; by_cases dL : 0 ≤ aA
        ·rw [if_pos dL] at H
         have c18b0 := decide_eq_true dL; clear dL; (first | rw [c18b0] | (simp only [i64_w, i32_w]; rw [c18b0]) | skip)
         obtain ⟨dQ, eO, H⟩ := b1 H; by_cases dM : dQ = true
         ·subst dM
          replace H := pf H; obtain ⟨cV, eW, H⟩ := b1 H; have H' := Aside0.mk H; clear H; try go_wp2
          replace aC := am (blk_drew aC.out); replace HB := am (below_drew1 HB.out); have bS : 0 ≤ (aA : Int) := OD; have bT : aA < (aB.length : Int) := OD; obtain ⟨aE, dI, aK, aL, aM, aN⟩ := at_T96 bI.out aA bS bT; have aW := aN; have aX := aM; have aY := aL; have aZ := aK; cases dI
          replace aK := CX HB.out aK; replace aL := CX HB.out aL; replace aM := CX HB.out aM; replace aN := CX HB.out aN; replace bS := eq_true bS; replace bT := eq_true bT; have cW : 0 ≤ (aA : Int) := OD; have cX : aA < (aB.length : Int) := OD; obtain ⟨dT, eG, bA, bB, bC, bD⟩ := at_T96 bI.out aA cW cX; have bU := bD; have bV := bC; have bW := bB; have bX := bA; obtain rfl : aE = dT := (by injection eG); replace bA := CX HB.out bA; replace bB := CX HB.out bB; replace bC := CX HB.out bC; replace bD := CX HB.out bD; replace cW := eq_true cW; replace cX := eq_true cX; have cY : 0 ≤ (aA : Int) := OD; have cZ : aA < (aB.length : Int) := OD; obtain ⟨dU, eH, bE, bF, bG, bH⟩ := at_T96 bI.out aA cY cZ; have bY := bH; have bZ := bG; have cA := bF; have cB := bE; obtain rfl : aE = dU := (by injection eH); replace bE := CX HB.out bE; replace bF := CX HB.out bF; replace bG := CX HB.out bG; replace bH := CX HB.out bH; replace cY := eq_true cY; replace cZ := eq_true cZ; refine start_ (n := 25) (S := fun w' => ce2 w' bJ (.int .i64 aI) (.slice (some aE) aB.length bQ) (w'.cell? (aE.add ((aA).toNat * 4)) = some (.int .i64 ((rd_T96 aB aA).f0.f0)) ∧ w'.cell? ⟨(aE.add ((aA).toNat * 4)).block, (aE.add ((aA).toNat * 4)).off + 1, none⟩ = some (.int .i64 ((rd_T96 aB aA).f0.f1)) ∧ w'.cell? ⟨(aE.add ((aA).toNat * 4)).block, (aE.add ((aA).toNat * 4)).off + 2, none⟩ = some (.int .i64 ((rd_T96 aB aA).f0.f2)) ∧ w'.cell? ⟨(aE.add ((aA).toNat * 4)).block, (aE.add ((aA).toNat * 4)).off + 3, none⟩ = some (.int .i64 ((rd_T96 aB aA).f1)) ∧ w'.cell? (aE.add ((aA).toNat * 4)) = some (.int .i64 ((rd_T96 aB aA).f0.f0)) ∧ w'.cell? ⟨(aE.add ((aA).toNat * 4)).block, (aE.add ((aA).toNat * 4)).off + 1, none⟩ = some (.int .i64 ((rd_T96 aB aA).f0.f1)) ∧ w'.cell? ⟨(aE.add ((aA).toNat * 4)).block, (aE.add ((aA).toNat * 4)).off + 2, none⟩ = some (.int .i64 ((rd_T96 aB aA).f0.f2)) ∧ w'.cell? ⟨(aE.add ((aA).toNat * 4)).block, (aE.add ((aA).toNat * 4)).off + 3, none⟩ = some (.int .i64 ((rd_T96 aB aA).f1)) ∧ w'.cell? (aE.add ((aA).toNat * 4)) = some (.int .i64 ((rd_T96 aB aA).f0.f0)) ∧ w'.cell? ⟨(aE.add ((aA).toNat * 4)).block, (aE.add ((aA).toNat * 4)).off + 1, none⟩ = some (.int .i64 ((rd_T96 aB aA).f0.f1)) ∧ w'.cell? ⟨(aE.add ((aA).toNat * 4)).block, (aE.add ((aA).toNat * 4)).off + 2, none⟩ = some (.int .i64 ((rd_T96 aB aA).f0.f2)) ∧ w'.cell? ⟨(aE.add ((aA).toNat * 4)).block, (aE.add ((aA).toNat * 4)).off + 3, none⟩ = some (.int .i64 ((rd_T96 aB aA).f1)))) (ds := []) (tf 0 25) (by kernel_rfl) rfl rfl (zc2 aC ⟨(CY HB.out aZ), (CY HB.out aY), (CY HB.out aX), (CY HB.out aW), (CY HB.out bX), (CY HB.out bW), (CY HB.out bV), (CY HB.out bU), (CY HB.out cB), (CY HB.out cA), (CY HB.out bZ), (CY HB.out bY)⟩) (fun aH => ?_); refine with_tabW spec_CacheOk.tab6 spec_CacheOk.bits6 (fun aG cC => ?_); generalize wr.drew = eZ at aC HB aK aL aM aN bA bB bC bD bE bF bG bH aH ⊢; refine pv aG 0 31 (tf 1 24) ?_; refine pv aG 2 33 (tr [1, 1, 1, 22]) ?_; refine tw aG cC 1 32 (tf 3 22) aH ?_; refine pv aG 3 34 (tf 4 21) ?_; refine pv aG 4 35 (tf 5 20) ?_; refine tw aG cC 5 36 (tf 6 19) aH ?_; refine oW aG 6 37 (tf 7 18) (fun K hK => ?_); refine gW Tryz.func68 #[.agg #[.int .i64 ((rd_T96 aB aA).f0.f0), .int .i64 ((rd_T96 aB aA).f0.f1), .int .i64 ((rd_T96 aB aA).f0.f2)]] ?_; with_reducible refine (spec_l4Call.calls ((rd_T96 aB aA).f0.f0) ((rd_T96 aB aA).f0.f1) ((rd_T96 aB aA).f0.f2) true _ eO.out).mono ?_
          rintro e fA ⟨rfl, hb⟩; refine ⟨_, rfl, ?_⟩; replace aC := am (BB aC hb); replace HB := bl (K1 HB aJ.out) hb; (try clear hb)
          refine hK.out _ _ (zc2 aC ⟨(CY HB.out aZ), (CY HB.out aY), (CY HB.out aX), (CY HB.out aW), (CY HB.out bX), (CY HB.out bW), (CY HB.out bV), (CY HB.out bU), (CY HB.out cB), (CY HB.out cA), (CY HB.out bZ), (CY HB.out bY)⟩) (fun aH => ?_); clear hK K; refine nm (some 37) ?_; refine pv aG 7 38 (tf 8 17) ?_; refine pv aG 8 39 (tf 9 16) ?_; refine pv aG 9 40 (tf 10 15) ?_; refine pv aG 11 42 (tr [10, 1, 1, 13]) ?_; refine pv aG 15 46 (tr [10, 1, 1, 3, 1, 9]) ?_; refine pv aG 16 47 (tr [10, 1, 1, 3, 2, 8]) ?_; refine pv aG 18 49 (tr [10, 1, 1, 3, 2, 1, 1, 6]) ?_; refine tw aG cC 10 41 (tr [12, 3, 2, 1, 1, 6]) aH ?_; refine pv aG 12 43 (tr [13, 2, 2, 1, 1, 6]) ?_; refine pv aG 13 44 (tr [14, 1, 2, 1, 1, 6]) ?_; refine tw aG cC 14 45 (tr [17, 1, 1, 6]) aH ?_; refine tw aG cC 17 48 (tf 19 6) aH ?_; refine pv aG 19 50 (tf 20 5) ?_; refine pv aG 20 51 (tf 21 4) ?_; refine tw aG cC 21 52 (tf 22 3) aH ?_; refine oW aG 22 53 (tf 23 2) (fun K hK => ?_); refine gW Tryz.func69 #[.slice A0 l0.length c0, .agg #[.int .i64 ((rd_T96 aB aA).f0.f0), .int .i64 ((rd_T96 aB aA).f0.f1), .int .i64 ((rd_T96 aB aA).f0.f2)]] ?_; with_reducible refine (spec_l4First.calls k2 _ _ l0 ((rd_T96 aB aA).f0.f0) ((rd_T96 aB aA).f0.f1) ((rd_T96 aB aA).f0.f2) cV _ ?_ ?_ eW.out).mono ?_
          exact KD dW HB; exact dX.out; rintro e fB ⟨rfl, hb⟩; refine ⟨_, rfl, ?_⟩; replace aC := am (BB aC hb); replace HB := bl (K1 HB aJ.out) hb; (try clear hb)
          refine hK.out _ _ (zc2 aC ⟨(CY HB.out aZ), (CY HB.out aY), (CY HB.out aX), (CY HB.out aW), (CY HB.out bX), (CY HB.out bW), (CY HB.out bV), (CY HB.out bU), (CY HB.out cB), (CY HB.out cA), (CY HB.out bZ), (CY HB.out bY)⟩) (fun aH => ?_); clear hK K; refine nm (some 53) ?_; refine pv aG 23 54 (tf 24 1) ?_; refine pv aG 24 55 (tf 25 0) ?_; refine done_ (done_of aG.out (by kernel_rfl)) ?_; try go_wp2
          go_meet
          case rel => exact ⟨_, ((((rd_T96 aB aA).f1) != cV)), RS, H', ⟨by have := HJ2.out; have := HK2.out; first | omega | exact Nat.le_refl _⟩, ⟨KB aC⟩, ⟨K1 HB aJ.out⟩⟩
         ·replace dM := Bool.eq_false_iff.mpr dM
          subst dM; replace H := nf H; have H' := Aside0.mk H; clear H; try go_wp2
          replace aC := am (blk_drew aC.out); replace HB := am (below_drew1 HB.out); have bS : 0 ≤ (aA : Int) := OD; have bT : aA < (aB.length : Int) := OD; obtain ⟨aE, dI, aK, aL, aM, aN⟩ := at_T96 bI.out aA bS bT; have aW := aN; have aX := aM; have aY := aL; have aZ := aK; cases dI
          replace aK := CX HB.out aK; replace aL := CX HB.out aL; replace aM := CX HB.out aM; replace aN := CX HB.out aN; replace bS := eq_true bS; replace bT := eq_true bT; refine start_ (n := 25) (S := fun w' => ce2 w' bJ (.int .i64 aI) (.slice (some aE) aB.length bQ) (w'.cell? (aE.add ((aA).toNat * 4)) = some (.int .i64 ((rd_T96 aB aA).f0.f0)) ∧ w'.cell? ⟨(aE.add ((aA).toNat * 4)).block, (aE.add ((aA).toNat * 4)).off + 1, none⟩ = some (.int .i64 ((rd_T96 aB aA).f0.f1)) ∧ w'.cell? ⟨(aE.add ((aA).toNat * 4)).block, (aE.add ((aA).toNat * 4)).off + 2, none⟩ = some (.int .i64 ((rd_T96 aB aA).f0.f2)) ∧ w'.cell? ⟨(aE.add ((aA).toNat * 4)).block, (aE.add ((aA).toNat * 4)).off + 3, none⟩ = some (.int .i64 ((rd_T96 aB aA).f1)))) (ds := []) (tf 0 25) (by kernel_rfl) rfl rfl (zc2 aC ⟨(CY HB.out aZ), (CY HB.out aY), (CY HB.out aX), (CY HB.out aW)⟩) (fun aH => ?_); refine with_tabW spec_CacheOk.tab6 spec_CacheOk.bits6 (fun aG cC => ?_); generalize wr.drew = fC at aC HB aK aL aM aN aH ⊢; refine pv aG 0 31 (tf 1 24) ?_; refine pv aG 2 33 (tr [1, 1, 1, 22]) ?_; refine tw aG cC 1 32 (tf 3 22) aH ?_; refine pv aG 3 34 (tf 4 21) ?_; refine pv aG 4 35 (tf 5 20) ?_; refine tw aG cC 5 36 (tf 6 19) aH ?_; refine oW aG 6 37 (tf 7 18) (fun K hK => ?_); refine gW Tryz.func68 #[.agg #[.int .i64 ((rd_T96 aB aA).f0.f0), .int .i64 ((rd_T96 aB aA).f0.f1), .int .i64 ((rd_T96 aB aA).f0.f2)]] ?_; with_reducible refine (spec_l4Call.calls ((rd_T96 aB aA).f0.f0) ((rd_T96 aB aA).f0.f1) ((rd_T96 aB aA).f0.f2) false _ eO.out).mono ?_
          rintro e fD ⟨rfl, hb⟩; refine ⟨_, rfl, ?_⟩; replace aC := am (BB aC hb); replace HB := bl (K1 HB aJ.out) hb; (try clear hb)
          refine hK.out _ _ (zc2 aC ⟨(CY HB.out aZ), (CY HB.out aY), (CY HB.out aX), (CY HB.out aW)⟩) (fun aH => ?_); clear hK K; refine nm (some 37) ?_; refine pv aG 7 38 (tf 8 17) ?_; refine pv aG 8 39 (tf 9 16) ?_; refine pw aG 9 40 (tf 10 15) ?_; refine pw aG 10 41 (tf 11 14) ?_; refine pw aG 11 42 (tf 12 13) ?_; refine pw aG 12 43 (tf 13 12) ?_; refine pw aG 13 44 (tf 14 11) ?_; refine pw aG 14 45 (tf 15 10) ?_; refine pw aG 15 46 (tf 16 9) ?_; refine pw aG 16 47 (tf 17 8) ?_; refine pw aG 17 48 (tf 18 7) ?_; refine pw aG 18 49 (tf 19 6) ?_; refine pw aG 19 50 (tf 20 5) ?_; refine pw aG 20 51 (tf 21 4) ?_; refine pw aG 21 52 (tf 22 3) ?_; refine pw aG 22 53 (tf 23 2) ?_; refine pw aG 23 54 (tf 24 1) ?_; refine pv aG 24 55 (tf 25 0) ?_; refine done_ (done_of aG.out (by kernel_rfl)) ?_; try go_wp2
          go_meet
          case rel => exact ⟨_, (true), RS, H', ⟨by have := HJ2.out; have := HK2.out; first | omega | exact Nat.le_refl _⟩, ⟨KB aC⟩, ⟨K1 HB aJ.out⟩⟩
        ·rw [if_neg dL] at H
         exact absurd H (by simp)
       case rest =>
        clear dH; try clear c6
        try clear c8
        try clear dG
        try clear dF
        try clear c15b0
        try clear dL
        try clear c18b0
        try clear dM
        try clear bK bL bM
        try clear bN bO bP
        try clear cR cS cT
        try clear aK
        try clear aL
        try clear aM
        try clear aN
        try clear bA
        try clear bB
        try clear bC
        try clear bD
        try clear bE
        try clear bF
        try clear bG
        try clear bH
        try clear bS
        try clear cW
        try clear cY
        try clear bT
        try clear cX
        try clear cZ
        obtain ⟨kq, bR, rfl, HA, HJ15, aC, HB⟩ := hcut; cases kq with
        | zero => exact absurd HA.out (by simp [spec_CacheOk.j2])
        | succ kj15 =>
         have H := HA.out; clear HA; simp only [spec_CacheOk.j2] at H; by_cases dV : bR = true
         ·subst dV
          replace H := pf H; obtain rfl := sj H; go_wp2
          go_ret
          exact ⟨ER, K1 HB aJ.out⟩
         ·replace dV := Bool.eq_false_iff.mpr dV
          subst dV; replace H := nf H; have H' := Aside0.mk H; clear H; go_wp2
          go_loopg [6] kj15 (fun kq v6 w' => ∃ (aD : Int), v6 = .int .i64 aD ∧ Aside0 (spec_CacheOk.l1 kq l0 aA aD aI aB = some r) ∧ Aside0 (kq ≤ kj15) ∧ Aside0 (w'.heap[bJ]? = some (.cells #[.int .i64 aI, (.slice cL aB.length bQ)] 34 (0, 0))) ∧ Aside0 (Below w.heap.size w w'))
          case atStart => exact ⟨(0), RS, H', ⟨Nat.le_refl _⟩, ⟨KB aC⟩, ⟨K1 HB aJ.out⟩⟩
          case round =>
           clear H'; try clear c6
           try clear c8
           try clear dG
           try clear dF
           try clear c15b0
           try clear dL
           try clear c18b0
           try clear dM
           try clear dV
           try clear bK bL bM
           try clear bN bO bP
           try clear cR cS cT
           try clear aK
           try clear aL
           try clear aM
           try clear aN
           try clear bA
           try clear bB
           try clear bC
           try clear bD
           try clear bE
           try clear bF
           try clear bG
           try clear bH
           try clear bS
           try clear cW
           try clear cY
           try clear bT
           try clear cX
           try clear cZ
           obtain ⟨aD, rfl, HA, HK4, aC, HB⟩ := hrel; cases gk with
           | zero => exact absurd HA.out (by simp [spec_CacheOk.l1])
           | succ k4 =>
            have H := HA.out; clear HA; simp only [spec_CacheOk.l1] at H; by_cases dN : aD < aA
            ·rw [if_pos dN] at H
             have c28b0 := decide_eq_true dN; clear dN; by_cases dY : 0 ≤ aD
             ·rw [if_pos dY] at H
              have c29b0 := decide_eq_true dY; clear dY; by_cases dZ : aD < (aB.length : Int)
              ·rw [if_pos dZ] at H
               have c30b0 := decide_eq_true dZ; clear dZ; by_cases eA : 0 ≤ aA
               ·rw [if_pos eA] at H
                have c31b0 := decide_eq_true eA; clear eA; by_cases eB : aA < (aB.length : Int)
                ·rw [if_pos eB] at H
                 have c32b0 := decide_eq_true eB; clear eB; by_cases dA : (((rd_T96 aB aD).f0.f0) == ((rd_T96 aB aA).f0.f0) && (((rd_T96 aB aD).f0.f1) == ((rd_T96 aB aA).f0.f1) && (((rd_T96 aB aD).f0.f2) == ((rd_T96 aB aA).f0.f2)))) = true
                 ·rw [if_pos dA] at H
                  have c33b0 : (((rd_T96 aB aD).f0.f0) == ((rd_T96 aB aA).f0.f0) && (((rd_T96 aB aD).f0.f1) == ((rd_T96 aB aA).f0.f1) && (((rd_T96 aB aD).f0.f2) == ((rd_T96 aB aA).f0.f2)))) = true := dA; (try (have c33b1 : decide (((rd_T96 aB aD).f0.f0) = ((rd_T96 aB aA).f0.f0) && (((rd_T96 aB aD).f0.f1) == ((rd_T96 aB aA).f0.f1) && (((rd_T96 aB aD).f0.f2) == ((rd_T96 aB aA).f0.f2)))) = true := by simpa using dA))
                  (try (have c33b2 : (((rd_T96 aB aD).f0.f0) == ((rd_T96 aB aA).f0.f0) && (((rd_T96 aB aD).f0.f1) == ((rd_T96 aB aA).f0.f1) && (((rd_T96 aB aD).f0.f2) == ((rd_T96 aB aA).f0.f2)))) = true := by simpa using dA))
                  clear dA; obtain rfl := sj H; try go_wp2
                  replace aC := am (blk_drew aC.out); replace HB := am (below_drew1 HB.out); have cM : 0 ≤ (aD : Int) := OD; have cN : aD < (aB.length : Int) := OD; obtain ⟨aF, dJ, aO, aP, aQ, aR⟩ := at_T96 bI.out aD cM cN; have cD := aR; have cE := aQ; have cF := aP; have cG := aO; cases dJ
                  replace aO := CX HB.out aO; replace aP := CX HB.out aP; replace aQ := CX HB.out aQ; replace aR := CX HB.out aR; replace cM := eq_true cM; replace cN := eq_true cN; have cO : 0 ≤ (aA : Int) := OD; have cP : aA < (aB.length : Int) := OD; obtain ⟨dB, dK, aS, aT, aU, aV⟩ := at_T96 bI.out aA cO cP; have cH := aV; have cI := aU; have cJ := aT; have cK := aS; obtain rfl : aF = dB := (by injection dK); replace aS := CX HB.out aS; replace aT := CX HB.out aT; replace aU := CX HB.out aU; replace aV := CX HB.out aV; replace cO := eq_true cO; replace cP := eq_true cP; refine start_ (n := 13) (S := fun w' => ce2 w' bJ (.int .i64 aI) (.slice (some aF) aB.length bQ) (w'.cell? (aF.add ((aD).toNat * 4)) = some (.int .i64 ((rd_T96 aB aD).f0.f0)) ∧ w'.cell? ⟨(aF.add ((aD).toNat * 4)).block, (aF.add ((aD).toNat * 4)).off + 1, none⟩ = some (.int .i64 ((rd_T96 aB aD).f0.f1)) ∧ w'.cell? ⟨(aF.add ((aD).toNat * 4)).block, (aF.add ((aD).toNat * 4)).off + 2, none⟩ = some (.int .i64 ((rd_T96 aB aD).f0.f2)) ∧ w'.cell? ⟨(aF.add ((aD).toNat * 4)).block, (aF.add ((aD).toNat * 4)).off + 3, none⟩ = some (.int .i64 ((rd_T96 aB aD).f1)) ∧ w'.cell? (aF.add ((aA).toNat * 4)) = some (.int .i64 ((rd_T96 aB aA).f0.f0)) ∧ w'.cell? ⟨(aF.add ((aA).toNat * 4)).block, (aF.add ((aA).toNat * 4)).off + 1, none⟩ = some (.int .i64 ((rd_T96 aB aA).f0.f1)) ∧ w'.cell? ⟨(aF.add ((aA).toNat * 4)).block, (aF.add ((aA).toNat * 4)).off + 2, none⟩ = some (.int .i64 ((rd_T96 aB aA).f0.f2)) ∧ w'.cell? ⟨(aF.add ((aA).toNat * 4)).block, (aF.add ((aA).toNat * 4)).off + 3, none⟩ = some (.int .i64 ((rd_T96 aB aA).f1)))) (ds := []) (tf 0 13) (by kernel_rfl) rfl rfl (zc2 aC ⟨(CY HB.out cG), (CY HB.out cF), (CY HB.out cE), (CY HB.out cD), (CY HB.out cK), (CY HB.out cJ), (CY HB.out cI), (CY HB.out cH)⟩) (fun aH => ?_); refine with_tabW spec_CacheOk.tab11 spec_CacheOk.bits11 (fun aG cC => ?_); generalize wr.drew = fE at aC HB aO aP aQ aR aS aT aU aV aH ⊢; refine pv aG 0 61 (tf 1 12) ?_; refine pv aG 2 63 (tr [1, 1, 1, 10]) ?_; refine pv aG 6 67 (tr [1, 1, 1, 3, 1, 6]) ?_; refine pv aG 8 69 (tr [1, 1, 1, 3, 1, 1, 1, 4]) ?_; refine tw aG cC 1 62 (tr [3, 3, 1, 1, 1, 4]) aH ?_; refine pv aG 3 64 (tr [4, 2, 1, 1, 1, 4]) ?_; refine pv aG 4 65 (tr [5, 1, 1, 1, 1, 4]) ?_; refine tw aG cC 5 66 (tr [7, 1, 1, 4]) aH ?_; refine tw aG cC 7 68 (tf 9 4) aH ?_; refine pv aG 9 70 (tf 10 3) ?_; refine pv aG 10 71 (tf 11 2) ?_; refine tw aG cC 11 72 (tf 12 1) aH ?_; refine pv aG 12 73 (tf 13 0) ?_; refine done_ (done_of aG.out (by kernel_rfl)) ?_; try go_wp2
                  go_ret
                  exact ⟨ER, K1 HB aJ.out⟩
                 ·rw [if_neg dA] at H
                  have c33b0 : (((rd_T96 aB aD).f0.f0) == ((rd_T96 aB aA).f0.f0) && (((rd_T96 aB aD).f0.f1) == ((rd_T96 aB aA).f0.f1) && (((rd_T96 aB aD).f0.f2) == ((rd_T96 aB aA).f0.f2)))) = false := by simpa using dA
                  (try (have c33b1 : decide (((rd_T96 aB aD).f0.f0) = ((rd_T96 aB aA).f0.f0) && (((rd_T96 aB aD).f0.f1) == ((rd_T96 aB aA).f0.f1) && (((rd_T96 aB aD).f0.f2) == ((rd_T96 aB aA).f0.f2)))) = false := by simpa using dA))
                  (try (have c33b2 : (((rd_T96 aB aD).f0.f0) == ((rd_T96 aB aA).f0.f0) && (((rd_T96 aB aD).f0.f1) == ((rd_T96 aB aA).f0.f1) && (((rd_T96 aB aD).f0.f2) == ((rd_T96 aB aA).f0.f2)))) = false := by simpa using dA))
                  (try (have c33b3 : ¬ (((rd_T96 aB aD).f0.f0) = ((rd_T96 aB aA).f0.f0) && (((rd_T96 aB aD).f0.f1) == ((rd_T96 aB aA).f0.f1) && (((rd_T96 aB aD).f0.f2) == ((rd_T96 aB aA).f0.f2)))) := by simpa using dA))
                  clear dA; have H' := Aside0.mk H; clear H; try go_wp2
                  replace aC := am (blk_drew aC.out); replace HB := am (below_drew1 HB.out); have cM : 0 ≤ (aD : Int) := OD; have cN : aD < (aB.length : Int) := OD; obtain ⟨aF, dJ, aO, aP, aQ, aR⟩ := at_T96 bI.out aD cM cN; have cD := aR; have cE := aQ; have cF := aP; have cG := aO; cases dJ
                  replace aO := CX HB.out aO; replace aP := CX HB.out aP; replace aQ := CX HB.out aQ; replace aR := CX HB.out aR; replace cM := eq_true cM; replace cN := eq_true cN; have cO : 0 ≤ (aA : Int) := OD; have cP : aA < (aB.length : Int) := OD; obtain ⟨dB, dK, aS, aT, aU, aV⟩ := at_T96 bI.out aA cO cP; have cH := aV; have cI := aU; have cJ := aT; have cK := aS; obtain rfl : aF = dB := (by injection dK); replace aS := CX HB.out aS; replace aT := CX HB.out aT; replace aU := CX HB.out aU; replace aV := CX HB.out aV; replace cO := eq_true cO; replace cP := eq_true cP; refine start_ (n := 13) (S := fun w' => ce2 w' bJ (.int .i64 aI) (.slice (some aF) aB.length bQ) (w'.cell? (aF.add ((aD).toNat * 4)) = some (.int .i64 ((rd_T96 aB aD).f0.f0)) ∧ w'.cell? ⟨(aF.add ((aD).toNat * 4)).block, (aF.add ((aD).toNat * 4)).off + 1, none⟩ = some (.int .i64 ((rd_T96 aB aD).f0.f1)) ∧ w'.cell? ⟨(aF.add ((aD).toNat * 4)).block, (aF.add ((aD).toNat * 4)).off + 2, none⟩ = some (.int .i64 ((rd_T96 aB aD).f0.f2)) ∧ w'.cell? ⟨(aF.add ((aD).toNat * 4)).block, (aF.add ((aD).toNat * 4)).off + 3, none⟩ = some (.int .i64 ((rd_T96 aB aD).f1)) ∧ w'.cell? (aF.add ((aA).toNat * 4)) = some (.int .i64 ((rd_T96 aB aA).f0.f0)) ∧ w'.cell? ⟨(aF.add ((aA).toNat * 4)).block, (aF.add ((aA).toNat * 4)).off + 1, none⟩ = some (.int .i64 ((rd_T96 aB aA).f0.f1)) ∧ w'.cell? ⟨(aF.add ((aA).toNat * 4)).block, (aF.add ((aA).toNat * 4)).off + 2, none⟩ = some (.int .i64 ((rd_T96 aB aA).f0.f2)) ∧ w'.cell? ⟨(aF.add ((aA).toNat * 4)).block, (aF.add ((aA).toNat * 4)).off + 3, none⟩ = some (.int .i64 ((rd_T96 aB aA).f1)))) (ds := []) (tf 0 13) (by kernel_rfl) rfl rfl (zc2 aC ⟨(CY HB.out cG), (CY HB.out cF), (CY HB.out cE), (CY HB.out cD), (CY HB.out cK), (CY HB.out cJ), (CY HB.out cI), (CY HB.out cH)⟩) (fun aH => ?_); refine with_tabW spec_CacheOk.tab11 spec_CacheOk.bits11 (fun aG cC => ?_); generalize wr.drew = fF at aC HB aO aP aQ aR aS aT aU aV aH ⊢; refine pv aG 0 61 (tf 1 12) ?_; refine pv aG 2 63 (tr [1, 1, 1, 10]) ?_; refine pv aG 6 67 (tr [1, 1, 1, 3, 1, 6]) ?_; refine pv aG 8 69 (tr [1, 1, 1, 3, 1, 1, 1, 4]) ?_; refine tw aG cC 1 62 (tr [3, 3, 1, 1, 1, 4]) aH ?_; refine pv aG 3 64 (tr [4, 2, 1, 1, 1, 4]) ?_; refine pv aG 4 65 (tr [5, 1, 1, 1, 1, 4]) ?_; refine tw aG cC 5 66 (tr [7, 1, 1, 4]) aH ?_; refine tw aG cC 7 68 (tf 9 4) aH ?_; refine pv aG 9 70 (tf 10 3) ?_; refine pv aG 10 71 (tf 11 2) ?_; refine tw aG cC 11 72 (tf 12 1) aH ?_; refine pv aG 12 73 (tf 13 0) ?_; refine done_ (done_of aG.out (by kernel_rfl)) ?_; try go_wp2
                  go_roundg k4
                  case measure => have := HJ2.out; have := HK2.out; have := HJ15.out; have := HK4.out; omega
                  case rel => exact ⟨(wrap64 (aD + 1)), RS, H', ⟨by have := HJ2.out; have := HK2.out; have := HJ15.out; have := HK4.out; omega⟩, ⟨KB aC⟩, ⟨K1 HB aJ.out⟩⟩
                ·rw [if_neg eB] at H
                 exact absurd H (by simp)
               ·rw [if_neg eA] at H
                exact absurd H (by simp)
              ·rw [if_neg dZ] at H
               exact absurd H (by simp)
             ·rw [if_neg dY] at H
              exact absurd H (by simp)
            ·rw [if_neg dN] at H
             have c28b0 := decide_eq_false dN; clear dN; have H' := Aside0.mk H; clear H; go_wp2
             go_roundg k4
             case measure => have := HJ2.out; have := HK2.out; have := HJ15.out; have := HK4.out; omega
             case rel => exact ⟨(wrap64 (aA + 1)), RS, H', ⟨by have := HJ2.out; have := HK2.out; have := HJ15.out; have := HK4.out; omega⟩, ⟨KB aC⟩, ⟨K1 HB aJ.out⟩⟩
      ·rw [if_neg dF] at H
       have c15b0 := decide_eq_false dF; clear dF; obtain rfl := sj H; have ⟨_, _, _⟩ := y2 wr aC.out; go_wp2
       go_ret
       exact ⟨ER, K1 HB aJ.out⟩
end Go.Proofs.YtaehmhbpdpdefaaGreat.PAll
end
section
namespace Go.Proofs.YtaehmhbpdpdefaaGreat.PAll
open Go.RowKit Go.Proofs.YtaehmhbpdpdefaaGreatW.PrintWords Go.Proofs.YtaehmhbpdpdefaaGreatW.PrintLast Go.Proofs.YtaehmhbpdpdefaaGreatW.PrintMore
attribute [local go_sem] max2_int min2_int max_two min_two max_three min_three max_four min_four
set_option linter.unusedVariables false
set_option linter.unusedSimpArgs false
def spec_l8Keys.f (a0 : ByteArray) (a1 : ByteArray) : Option (Bool) := if (a0.size : Int) = 16 then ((spec_l1In.f (a1.size : Int) 1 64).bind fun t101 => (some t101)) else (some false)
theorem spec_l8Keys.calls (a0 : ByteArray) (a1 : ByteArray) (r : Bool) (w : World) (h : spec_l8Keys.f a0 a1 = some r) :
  Calls Tryz.prog 70 #[.string a0, .string a1] w fun e w' => e = .returned (.bool r) ∧ Drawn0 w w' := by
 unfold spec_l8Keys.f at h; have H := h; clear h; by_cases c3 : (a0.size : Int) = 16
 ·rw [if_pos c3] at H
  have c3b0 := beq_iff_eq.mpr c3; have c3b1 := bne_eq_false_iff_eq.mpr c3; clear c3; obtain ⟨aA, A4, H⟩ := b1 H; obtain rfl := sj H; go_enter Tryz.func70, Tryz.ntmps70
  go_wp2_with (first | (go_at_call 37; (with_reducible refine (spec_l1In.calls _ _ _ _ _ A4.out).mono ?_); rintro e w' ⟨rfl, ⟨nd, rfl⟩⟩))
  go_ret
  exact ⟨by first | rfl | (simp; done) | (simp [*]; done), by repeat (first | exact Drawn0.refl _ | apply Drawn0.step)⟩
 ·rw [if_neg c3] at H
  have c3b0 := beq_eq_false_iff_ne.mpr c3; have c3b1 := bne_iff_ne.mpr c3; obtain rfl := sj H; go_enter Tryz.func70, Tryz.ntmps70
  go_wp2
  go_ret
  exact ⟨by first | rfl | (simp; done) | (simp [*]; done), by repeat (first | exact Drawn0.refl _ | apply Drawn0.step)⟩
def spec_WindowOk.l0 : Nat → Int → Int → Int → List Int → Option (Bool)
 | 0, _, _, _, _ => none
 | k + 1, x3, x4, x102000, x102001 => if x4 < x3 then (if 0 ≤ x4 then (if x4 < (x102001.length : Int) then (if (rd x102001 x4) ≤ (wrap64 (x102000 - 16)) then (some false) else (if (rd x102001 x4) < 1 then (some false) else (if x4 > 0 then (if 0 ≤ (wrap64 (x4 - 1)) then (if (wrap64 (x4 - 1)) < (x102001.length : Int) then (if (rd x102001 (wrap64 (x4 - 1))) ≥ (rd x102001 x4) then (some false) else (spec_WindowOk.l0 k x3 (wrap64 (x4 + 1)) x102000 x102001)) else (none)) else (none)) else (spec_WindowOk.l0 k x3 (wrap64 (x4 + 1)) x102000 x102001)))) else (none)) else (none)) else (if 0 ≤ (wrap64 (x3 - 1)) then (if (wrap64 (x3 - 1)) < (x102001.length : Int) then (if (rd x102001 (wrap64 (x3 - 1))) = x102000 then (some (decide (x102000 ≤ 1000000))) else (some false)) else (none)) else (none))
def spec_WindowOk.f (k : Nat) (a0_0 : Int) (l0_1 : List Int) : Option (Bool) := if (l0_1.length : Int) = 0 then (some (a0_0 == 0)) else (spec_WindowOk.l0 k (l0_1.length : Int) 0 a0_0 l0_1)
theorem spec_WindowOk.calls (k : Nat) (aF : Int) (aU : Option Addr) (aV : Nat) (aA : List Int) (r : Bool) (w : World) (bM : Kd.C (Kd.int .i64) w aU aA.length aA) (bN : aA.length ≤ aV) (h : spec_WindowOk.f k aF aA = some r) :
  Calls Tryz.prog 71 #[.agg #[.int .i64 aF, .slice aU aA.length aV]] w fun e w' => e = .returned (.bool r) ∧ Below w.heap.size w w' := by
 have cX := Tryz.underlying81; have aG := Aside0.mk bM; have cW := Aside0.mk bN; clear bM bN; have HB := am (Below.refl w.heap.size w); unfold spec_WindowOk.f at h; have H := h; clear h; by_cases c2 : (aA.length : Int) = 0
 ·rw [if_pos c2] at H
  have c2b0 := beq_iff_eq.mpr c2; have c2b1 := bne_eq_false_iff_eq.mpr c2; clear c2; obtain rfl := sj H; go_enter Tryz.func71, Tryz.ntmps71
  go_wp2_with (first | ((with_reducible refine gate_dst (N := 1) rfl ?_); refine bxe (KL HB) (cs := #[.int .i64 aF, .slice aU aA.length aV]) ?_; intro aT w3 aD aH HB hb hg; clear hb hg; obtain ⟨aX, aY, aZ⟩ := y2 w3 aD.out))
  repeat (go_quiet (first | ((with_reducible refine gate_dst (N := 1) rfl ?_); refine bxe (KL HB) (cs := #[.int .i64 aF, .slice aU aA.length aV]) ?_; intro aT w3 aD aH HB hb hg; clear hb hg; obtain ⟨aX, aY, aZ⟩ := y2 w3 aD.out)); try go_wp2_with (first | ((with_reducible refine gate_dst (N := 1) rfl ?_); refine bxe (KL HB) (cs := #[.int .i64 aF, .slice aU aA.length aV]) ?_; intro aT w3 aD aH HB hb hg; clear hb hg; obtain ⟨aX, aY, aZ⟩ := y2 w3 aD.out)))
  go_ret
  exact ⟨ER, K1 HB aH.out⟩
 ·rw [if_neg c2] at H
  have c2b0 := beq_eq_false_iff_ne.mpr c2; have c2b1 := bne_iff_ne.mpr c2; have c2b2 : ¬ (aA = []) := fun h_ => c2 (by rw [h_]; rfl)
  have H' := Aside0.mk H; clear H; go_enter Tryz.func71, Tryz.ntmps71
  go_wp2_with (first | ((with_reducible refine gate_dst (N := 1) rfl ?_); refine bxe (KL HB) (cs := #[.int .i64 aF, .slice aU aA.length aV]) ?_; intro aT w5 aD aH HB hb hg; clear hb hg; obtain ⟨bA, bB, bC⟩ := y2 w5 aD.out))
  repeat (go_quiet (first | ((with_reducible refine gate_dst (N := 1) rfl ?_); refine bxe (KL HB) (cs := #[.int .i64 aF, .slice aU aA.length aV]) ?_; intro aT w5 aD aH HB hb hg; clear hb hg; obtain ⟨bA, bB, bC⟩ := y2 w5 aD.out)); try go_wp2_with (first | ((with_reducible refine gate_dst (N := 1) rfl ?_); refine bxe (KL HB) (cs := #[.int .i64 aF, .slice aU aA.length aV]) ?_; intro aT w5 aD aH HB hb hg; clear hb hg; obtain ⟨bA, bB, bC⟩ := y2 w5 aD.out)))
  go_loopg [4] k (fun kq v4 w' => ∃ (aB : Int), v4 = .int .i64 aB ∧ Aside0 (spec_WindowOk.l0 kq (aA.length : Int) aB aF aA = some r) ∧ Aside0 (kq ≤ k) ∧ Aside0 (w'.heap[aT]? = some (.cells #[.int .i64 aF, (.slice aU aA.length aV)] 81 (0, 0))) ∧ Aside0 (Below w.heap.size w w'))
  case atStart => exact ⟨(0), RS, H', ⟨Nat.le_refl _⟩, ⟨KB aD⟩, ⟨K1 HB aH.out⟩⟩
  case round =>
   clear H'; try clear c2
   try clear c2b0
   try clear c2b1
   try clear c2b2
   try clear aX aY aZ
   try clear bA bB bC
   obtain ⟨aB, rfl, HA, HK1, aD, HB⟩ := hrel; cases gk with
   | zero => exact absurd HA.out (by simp [spec_WindowOk.l0])
   | succ k1 =>
    have H := HA.out; clear HA; simp only [spec_WindowOk.l0] at H; by_cases c7 : aB < (aA.length : Int)
    ·rw [if_pos c7] at H
     have c7b0 := decide_eq_true c7; clear c7; by_cases c8 : 0 ≤ aB
     ·rw [if_pos c8] at H
      have c8b0 := decide_eq_true c8; clear c8; by_cases c9 : aB < (aA.length : Int)
      ·rw [if_pos c9] at H
       have c9b0 := decide_eq_true c9; clear c9; by_cases bS : (rd aA aB) ≤ (wrap64 (aF - 16))
       ·rw [if_pos bS] at H
        have c10b0 := decide_eq_true bS; clear bS; obtain rfl := sj H; have ⟨_, _, _⟩ := y2 wr aD.out; have aI : 0 ≤ (aB : Int) := OD; have aJ : aB < (aA.length : Int) := OD; obtain ⟨aK, aW, aC⟩ := Kd.at_int aG.out aB aI aJ; cases aW
        replace aC := CX HB.out aC; replace aI := eq_true aI; replace aJ := eq_true aJ; go_wp2
        repeat (go_quiet (fail); try go_wp2)
        go_ret
        exact ⟨ER, K1 HB aH.out⟩
       ·rw [if_neg bS] at H
        have c10b0 := decide_eq_false bS; clear bS; by_cases bT : (rd aA aB) < 1
        ·rw [if_pos bT] at H
         have c12b0 := decide_eq_true bT; clear bT; obtain rfl := sj H; have ⟨_, _, _⟩ := y2 wr aD.out; have aI : 0 ≤ (aB : Int) := OD; have aJ : aB < (aA.length : Int) := OD; obtain ⟨aK, aW, aC⟩ := Kd.at_int aG.out aB aI aJ; cases aW
         replace aC := CX HB.out aC; replace aI := eq_true aI; replace aJ := eq_true aJ; have aN : 0 ≤ (aB : Int) := OD; have aO : aB < (aA.length : Int) := OD; obtain ⟨aS, bD, aE⟩ := Kd.at_int aG.out aB aN aO; obtain rfl : aK = aS := (by injection bD); replace aE := CX HB.out aE; replace aN := eq_true aN; replace aO := eq_true aO; go_wp2
         repeat (go_quiet (fail); try go_wp2)
         go_ret
         exact ⟨ER, K1 HB aH.out⟩
        ·rw [if_neg bT] at H
         have c12b0 := decide_eq_false bT; clear bT; by_cases bU : aB > 0
         ·rw [if_pos bU] at H
          have c14b0 := decide_eq_true bU; clear bU; obtain ⟨ji15, hji15⟩ : ∃ j_ : Int, (wrap64 (aB - 1)) = j_ := ⟨_, rfl⟩; replace H : (if 0 ≤ (ji15) then (if (ji15) < (aA.length : Int) then (if (rd aA (ji15)) ≥ (rd aA aB) then (some false) else (spec_WindowOk.l0 k1 (aA.length : Int) (wrap64 (aB + 1)) aF aA)) else (none)) else (none)) = some r := by first | (rw [hji15] at H; exact H) | (simp only [hji15] at H ⊢; exact H)
          have hji15w : (IntKind.i64.wrap (aB - 1)) = ji15 := (i64_w _).trans hji15; by_cases cD : 0 ≤ (ji15)
          ·rw [if_pos cD] at H
           have c16b0 := decide_eq_true cD; clear cD; by_cases cE : (ji15) < (aA.length : Int)
           ·rw [if_pos cE] at H
            have c17b0 := decide_eq_true cE; clear cE; by_cases bV : (rd aA (ji15)) ≥ (rd aA aB)
            ·rw [if_pos bV] at H
             have c18b0 := decide_eq_true bV; clear bV; obtain rfl := sj H; have ⟨_, _, _⟩ := y2 wr aD.out; have aI : 0 ≤ (aB : Int) := OD; have aJ : aB < (aA.length : Int) := OD; obtain ⟨aK, aW, aC⟩ := Kd.at_int aG.out aB aI aJ; cases aW
             replace aC := CX HB.out aC; replace aI := eq_true aI; replace aJ := eq_true aJ; have aN : 0 ≤ (aB : Int) := OD; have aO : aB < (aA.length : Int) := OD; obtain ⟨aS, bD, aE⟩ := Kd.at_int aG.out aB aN aO; obtain rfl : aK = aS := (by injection bD); replace aE := CX HB.out aE; replace aN := eq_true aN; replace aO := eq_true aO; have bE : 0 ≤ ((ji15) : Int) := OD; have bF : (ji15) < (aA.length : Int) := OD; obtain ⟨bK, bO, aP⟩ := Kd.at_int aG.out (ji15) bE bF; obtain rfl : aK = bK := (by injection bO); replace aP := CX HB.out aP; replace bE := eq_true bE; replace bF := eq_true bF; have bG : 0 ≤ (aB : Int) := OD; have bH : aB < (aA.length : Int) := OD; obtain ⟨bL, bP, aQ⟩ := Kd.at_int aG.out aB bG bH; obtain rfl : aK = bL := (by injection bP); replace aQ := CX HB.out aQ; replace bG := eq_true bG; replace bH := eq_true bH; go_wp2
             repeat (go_quiet (fail); try go_wp2)
             go_ret
             exact ⟨by first | rfl | (simp [errW_none, errW_some] <;> rfl) | (simp only [← hji15]; first | rfl | (simp [errW_none, errW_some] <;> rfl)) | (simp [*, errW_none, errW_some] <;> rfl), K1 HB aH.out⟩
            ·rw [if_neg bV] at H
             have c18b0 := decide_eq_false bV; clear bV; have H' := Aside0.mk H; clear H; have ⟨_, _, _⟩ := y2 wr aD.out; have aI : 0 ≤ (aB : Int) := OD; have aJ : aB < (aA.length : Int) := OD; obtain ⟨aK, aW, aC⟩ := Kd.at_int aG.out aB aI aJ; cases aW
             replace aC := CX HB.out aC; replace aI := eq_true aI; replace aJ := eq_true aJ; have aN : 0 ≤ (aB : Int) := OD; have aO : aB < (aA.length : Int) := OD; obtain ⟨aS, bD, aE⟩ := Kd.at_int aG.out aB aN aO; obtain rfl : aK = aS := (by injection bD); replace aE := CX HB.out aE; replace aN := eq_true aN; replace aO := eq_true aO; have bE : 0 ≤ ((ji15) : Int) := OD; have bF : (ji15) < (aA.length : Int) := OD; obtain ⟨bK, bO, aP⟩ := Kd.at_int aG.out (ji15) bE bF; obtain rfl : aK = bK := (by injection bO); replace aP := CX HB.out aP; replace bE := eq_true bE; replace bF := eq_true bF; have bG : 0 ≤ (aB : Int) := OD; have bH : aB < (aA.length : Int) := OD; obtain ⟨bL, bP, aQ⟩ := Kd.at_int aG.out aB bG bH; obtain rfl : aK = bL := (by injection bP); replace aQ := CX HB.out aQ; replace bG := eq_true bG; replace bH := eq_true bH; go_wp2
             repeat (go_quiet (fail); try go_wp2)
             go_roundg k1
             case measure => have := HK1.out; omega
             case rel => exact ⟨(wrap64 (aB + 1)), RS, H', LK HK1, ⟨KB aD⟩, ⟨K1 HB aH.out⟩⟩
           ·rw [if_neg cE] at H
            exact absurd H (by simp)
          ·rw [if_neg cD] at H
           exact absurd H (by simp)
         ·rw [if_neg bU] at H
          have c14b0 := decide_eq_false bU; clear bU; have H' := Aside0.mk H; clear H; have ⟨_, _, _⟩ := y2 wr aD.out; have aI : 0 ≤ (aB : Int) := OD; have aJ : aB < (aA.length : Int) := OD; obtain ⟨aK, aW, aC⟩ := Kd.at_int aG.out aB aI aJ; cases aW
          replace aC := CX HB.out aC; replace aI := eq_true aI; replace aJ := eq_true aJ; have aN : 0 ≤ (aB : Int) := OD; have aO : aB < (aA.length : Int) := OD; obtain ⟨aS, bD, aE⟩ := Kd.at_int aG.out aB aN aO; obtain rfl : aK = aS := (by injection bD); replace aE := CX HB.out aE; replace aN := eq_true aN; replace aO := eq_true aO; go_wp2
          repeat (go_quiet (fail); try go_wp2)
          go_roundg k1
          case measure => have := HK1.out; omega
          case rel => exact ⟨(wrap64 (aB + 1)), RS, H', LK HK1, ⟨KB aD⟩, ⟨K1 HB aH.out⟩⟩
      ·rw [if_neg c9] at H
       exact absurd H (by simp)
     ·rw [if_neg c8] at H
      exact absurd H (by simp)
    ·rw [if_neg c7] at H
     have c7b0 := decide_eq_false c7; clear c7; obtain ⟨ji22, hji22⟩ : ∃ j_ : Int, (wrap64 ((aA.length : Int) - 1)) = j_ := ⟨_, rfl⟩; replace H : (if 0 ≤ (ji22) then (if (ji22) < (aA.length : Int) then (if (rd aA (ji22)) = aF then (some (decide (aF ≤ 1000000))) else (some false)) else (none)) else (none)) = some r := by first | (rw [hji22] at H; exact H) | (simp only [hji22] at H ⊢; exact H)
     have hji22w : (IntKind.i64.wrap ((aA.length : Int) - 1)) = ji22 := (i64_w _).trans hji22; by_cases cO : 0 ≤ (ji22)
     ·rw [if_pos cO] at H
      have c23b0 := decide_eq_true cO; clear cO; by_cases cP : (ji22) < (aA.length : Int)
      ·rw [if_pos cP] at H
       have c24b0 := decide_eq_true cP; clear cP; by_cases bQ : (rd aA (ji22)) = aF
       ·rw [if_pos bQ] at H
        have c25b0 := beq_iff_eq.mpr bQ; have c25b1 := bne_eq_false_iff_eq.mpr bQ; clear bQ; obtain rfl := sj H; have ⟨_, _, _⟩ := y2 wr aD.out; have bI : 0 ≤ ((ji22) : Int) := OD; have bJ : (ji22) < (aA.length : Int) := OD; obtain ⟨bW, bR, aR⟩ := Kd.at_int aG.out (ji22) bI bJ; cases bR
        replace aR := CX HB.out aR; replace bI := eq_true bI; replace bJ := eq_true bJ; go_wp2
        repeat (go_quiet (fail); try go_wp2)
        go_ret
        exact ⟨by first | rfl | (simp [errW_none, errW_some] <;> rfl) | (simp only [← hji22]; first | rfl | (simp [errW_none, errW_some] <;> rfl)) | (simp [*, errW_none, errW_some] <;> rfl), K1 HB aH.out⟩
       ·rw [if_neg bQ] at H
        have c25b0 := beq_eq_false_iff_ne.mpr bQ; have c25b1 := bne_iff_ne.mpr bQ; obtain rfl := sj H; have ⟨_, _, _⟩ := y2 wr aD.out; have bI : 0 ≤ ((ji22) : Int) := OD; have bJ : (ji22) < (aA.length : Int) := OD; obtain ⟨bW, bR, aR⟩ := Kd.at_int aG.out (ji22) bI bJ; cases bR
        replace aR := CX HB.out aR; replace bI := eq_true bI; replace bJ := eq_true bJ; go_wp2
        repeat (go_quiet (fail); try go_wp2)
        go_ret
        exact ⟨by first | rfl | (simp [errW_none, errW_some] <;> rfl) | (simp only [← hji22]; first | rfl | (simp [errW_none, errW_some] <;> rfl)) | (simp [*, errW_none, errW_some] <;> rfl), K1 HB aH.out⟩
      ·rw [if_neg cP] at H
       exact absurd H (by simp)
     ·rw [if_neg cO] at H
      exact absurd H (by simp)
def spec_SaOk.f (k : Nat) (a0_0 : Int) (a0_1 : Int) (a0_2 : ByteArray) (a0_3 : ByteArray) (a0_4 : Int) (a0_5 : Int) (a0_6 : Int) (a0_7 : Int) (a0_8 : Int) (a0_9 : Int) (l0_10 : List Int) : Option (Bool) := (spec_l1In.f a0_0 1 999).bind fun t102 => (if t102 = true then ((spec_l1In.f a0_1 0 3).bind fun t103 => (if t103 = true then ((spec_l8Keys.f a0_2 a0_3).bind fun t104 => (if t104 = true then ((spec_l1In.f a0_4 0 1000000).bind fun t105 => (if t105 = true then ((spec_l1In.f a0_5 1 a0_6).bind fun t106 => (if t106 = true then ((spec_l1In.f a0_6 1 1000000).bind fun t107 => (if t107 = true then ((spec_l1In.f a0_7 1 1000000).bind fun t108 => (if t108 = true then ((spec_l1In.f a0_8 0 a0_6).bind fun t109 => (if t109 = true then ((spec_WindowOk.f k a0_9 l0_10).bind fun t110 => (some t110)) else (some false))) else (some false))) else (some false))) else (some false))) else (some false))) else (some false))) else (some false))) else (some false))
theorem spec_SaOk.calls (k : Nat) (aC : Int) (aH : Int) (aI : ByteArray) (aJ : ByteArray) (aK : Int) (aL : Int) (aA : Int) (aM : Int) (aN : Int) (aO : Int) (aR : Option Addr) (aS : Nat) (aB : List Int) (r : Bool) (w : World) (bA : Kd.C (Kd.int .i64) w aR aB.length aB) (bB : aB.length ≤ aS) (h : spec_SaOk.f k aC aH aI aJ aK aL aA aM aN aO aB = some r) :
  Calls Tryz.prog 39 #[.agg #[.int .i64 aC, .int .i64 aH, .string aI, .string aJ, .int .i64 aK, .int .i64 aL, .int .i64 aA, .int .i64 aM, .int .i64 aN, .int .i64 aO, .slice aR aB.length aS]] w fun e w' => e = .returned (.bool r) ∧ Below w.heap.size w w' := by
 have gA := Tryz.underlying83; have gB := Tryz.underlying81; have bD := Aside0.mk bA; have bE := Aside0.mk bB; clear bA bB; have HB := am (Below.refl w.heap.size w); unfold spec_SaOk.f at h; have A := am h; clear h; go_enter Tryz.func39, Tryz.ntmps39
 go_wp2_with (first | ((with_reducible refine gate_dst (N := 1) rfl ?_); refine bxe (KL HB) (cs := #[.int .i64 aC, .int .i64 aH, .string aI, .string aJ, .int .i64 aK, .int .i64 aL, .int .i64 aA, .int .i64 aM, .int .i64 aN, .int .i64 aO, .slice aR aB.length aS]) ?_; intro aV gD aD aE HB hb hg; clear hb hg; have ⟨_, _, _, _, _, _, _, _, _, _, _, _⟩ := y11 gD aD.out) | (go_at_call 37; obtain ⟨v_, q_, A⟩ := s1 (sy A); (with_reducible refine (spec_l1In.calls _ _ _ _ _ q_).mono ?_); rintro e w' ⟨rfl, ⟨nd, rfl⟩⟩) | (go_at_call 70; obtain ⟨v_, q_, A⟩ := s1 (sy A); (with_reducible refine (spec_l8Keys.calls _ _ _ _ q_).mono ?_); rintro e w' ⟨rfl, ⟨nd, rfl⟩⟩) | (go_at_call 71; obtain ⟨v_, q_, A⟩ := s1 (sy A); (with_reducible refine (spec_WindowOk.calls _ _ _ _ _ _ _ ?_ ?_ q_).mono ?_); (repeat (first | exact (Kd.C_below bD.out (K1 HB aE.out)) | (with_reducible refine Kd.C_alloc ?_ _) | (with_reducible refine Kd.C_drewN ?_ _) | (with_reducible refine Kd.C_drew ?_))); exact bE.out; rintro e gM ⟨rfl, hb⟩; replace aD := am (BB aD hb); replace HB := bl (K1 HB aE.out) hb))
 all_goals (replace A := sy A; first | (obtain rfl := s0 A; go_ret; exact ⟨ER, K1 HB aE.out⟩))
@[reducible] def eleG (w : World) (a : Addr) (x : S83) (v : Value) (p : Prop) : Prop := w.cell? a = some (.int .i64 x.f0) ∧ w.cell? ⟨a.block, a.off + 1, none⟩ = some (.int .i64 x.f1) ∧ w.cell? ⟨a.block, a.off + 2, none⟩ = some (.string x.f2) ∧ w.cell? ⟨a.block, a.off + 3, none⟩ = some (.string x.f3) ∧ w.cell? ⟨a.block, a.off + 4, none⟩ = some (.int .i64 x.f4) ∧ w.cell? ⟨a.block, a.off + 5, none⟩ = some (.int .i64 x.f5) ∧ w.cell? ⟨a.block, a.off + 6, none⟩ = some (.int .i64 x.f6) ∧ w.cell? ⟨a.block, a.off + 7, none⟩ = some (.int .i64 x.f7) ∧ w.cell? ⟨a.block, a.off + 8, none⟩ = some (.int .i64 x.f8) ∧ w.cell? ⟨a.block, a.off + 9, none⟩ = some (.int .i64 x.f9.f0) ∧ w.cell? ⟨a.block, a.off + 10, none⟩ = some v ∧ p
@[reducible] def eleH (w : World) (a : Addr) (x : S83) (v : Value) : Prop := w.cell? a = some (.int .i64 x.f0) ∧ w.cell? ⟨a.block, a.off + 1, none⟩ = some (.int .i64 x.f1) ∧ w.cell? ⟨a.block, a.off + 2, none⟩ = some (.string x.f2) ∧ w.cell? ⟨a.block, a.off + 3, none⟩ = some (.string x.f3) ∧ w.cell? ⟨a.block, a.off + 4, none⟩ = some (.int .i64 x.f4) ∧ w.cell? ⟨a.block, a.off + 5, none⟩ = some (.int .i64 x.f5) ∧ w.cell? ⟨a.block, a.off + 6, none⟩ = some (.int .i64 x.f6) ∧ w.cell? ⟨a.block, a.off + 7, none⟩ = some (.int .i64 x.f7) ∧ w.cell? ⟨a.block, a.off + 8, none⟩ = some (.int .i64 x.f8) ∧ w.cell? ⟨a.block, a.off + 9, none⟩ = some (.int .i64 x.f9.f0) ∧ w.cell? ⟨a.block, a.off + 10, none⟩ = some v
mutual
def spec_GateOk.j0 : Nat → Bool → Int → List (S59) → Int → List (S96) → List (S83) → List (S83) → Option (Bool)
 | 0, _, _, _, _, _, _, _ => none
 | k + 1, x34, x102000, x102001, x102002, x102003, x102004, x102005 => if x34 = true then (some false) else (spec_GateOk.l0 k 0 x102000 x102001 x102002 x102003 x102004 x102005)
def spec_GateOk.l0 : Nat → Int → Int → List (S59) → Int → List (S96) → List (S83) → List (S83) → Option (Bool)
 | 0, _, _, _, _, _, _, _ => none
 | k + 1, x3, x102000, x102001, x102002, x102003, x102004, x102005 => if x3 < (x102004.length : Int) then (if 0 ≤ x3 then ((spec_SaOk.f k ((rd_T83 x102004 x3).f0) ((rd_T83 x102004 x3).f1) ((rd_T83 x102004 x3).f2) ((rd_T83 x102004 x3).f3) ((rd_T83 x102004 x3).f4) ((rd_T83 x102004 x3).f5) ((rd_T83 x102004 x3).f6) ((rd_T83 x102004 x3).f7) ((rd_T83 x102004 x3).f8) ((rd_T83 x102004 x3).f9.f0) ((rd_T83 x102004 x3).f9.f1)).bind fun t105 => (if t105 = true then (if ((rd_T83 x102004 x3).f4) > x102000 then (spec_GateOk.j2 k x3 true x102000 x102001 x102002 x102003 x102004 x102005) else (if x3 > 0 then (if 0 ≤ (wrap64 (x3 - 1)) then (if (wrap64 (x3 - 1)) < (x102004.length : Int) then (spec_GateOk.j2 k x3 (decide (((rd_T83 x102004 (wrap64 (x3 - 1))).f1) ≥ ((rd_T83 x102004 x3).f1))) x102000 x102001 x102002 x102003 x102004 x102005) else (none)) else (none)) else (spec_GateOk.j2 k x3 false x102000 x102001 x102002 x102003 x102004 x102005))) else (spec_GateOk.j2 k x3 true x102000 x102001 x102002 x102003 x102004 x102005))) else (none)) else (spec_GateOk.l1 k 0 x102000 x102001 x102002 x102003 x102004 x102005)
def spec_GateOk.j2 : Nat → Int → Bool → Int → List (S59) → Int → List (S96) → List (S83) → List (S83) → Option (Bool)
 | 0, _, _, _, _, _, _, _, _ => none
 | k + 1, x3, x79, x102000, x102001, x102002, x102003, x102004, x102005 => if x79 = true then (some false) else (spec_GateOk.l0 k (wrap64 (x3 + 1)) x102000 x102001 x102002 x102003 x102004 x102005)
def spec_GateOk.l1 : Nat → Int → Int → List (S59) → Int → List (S96) → List (S83) → List (S83) → Option (Bool)
 | 0, _, _, _, _, _, _, _ => none
 | k + 1, x4, x102000, x102001, x102002, x102003, x102004, x102005 => if x4 < (x102005.length : Int) then (if 0 ≤ x4 then ((spec_SaOk.f k ((rd_T83 x102005 x4).f0) ((rd_T83 x102005 x4).f1) ((rd_T83 x102005 x4).f2) ((rd_T83 x102005 x4).f3) ((rd_T83 x102005 x4).f4) ((rd_T83 x102005 x4).f5) ((rd_T83 x102005 x4).f6) ((rd_T83 x102005 x4).f7) ((rd_T83 x102005 x4).f8) ((rd_T83 x102005 x4).f9.f0) ((rd_T83 x102005 x4).f9.f1)).bind fun t110 => (if t110 = true then (if ((rd_T83 x102005 x4).f4) > x102000 then (spec_GateOk.j4 k x4 true x102000 x102001 x102002 x102003 x102004 x102005) else (if x4 > 0 then (if 0 ≤ (wrap64 (x4 - 1)) then (if (wrap64 (x4 - 1)) < (x102005.length : Int) then (spec_GateOk.j4 k x4 (decide (((rd_T83 x102005 (wrap64 (x4 - 1))).f0) ≥ ((rd_T83 x102005 x4).f0))) x102000 x102001 x102002 x102003 x102004 x102005) else (none)) else (none)) else (spec_GateOk.j4 k x4 false x102000 x102001 x102002 x102003 x102004 x102005))) else (spec_GateOk.j4 k x4 true x102000 x102001 x102002 x102003 x102004 x102005))) else (none)) else (some true)
def spec_GateOk.j4 : Nat → Int → Bool → Int → List (S59) → Int → List (S96) → List (S83) → List (S83) → Option (Bool)
 | 0, _, _, _, _, _, _, _, _ => none
 | k + 1, x4, x124, x102000, x102001, x102002, x102003, x102004, x102005 => if x124 = true then (some false) else (spec_GateOk.l1 k (wrap64 (x4 + 1)) x102000 x102001 x102002 x102003 x102004 x102005)
end
def spec_GateOk.f (k : Nat) (a0_0 : Int) (l0_1 : List (S59)) (a0_2 : Int) (l0_3 : List (S96)) (l0_4 : List (S83)) (l0_5 : List (S83)) : Option (Bool) := (spec_l1In.f a0_0 0 1000000).bind fun t102 => (if t102 = true then (if a0_2 = 4 then ((spec_CacheOk.f k l0_1 a0_2 l0_3).bind fun t103 => (if t103 = true then (if (l0_4.length : Int) > 4 then (spec_GateOk.j0 k true a0_0 l0_1 a0_2 l0_3 l0_4 l0_5) else (spec_GateOk.j0 k (decide ((l0_5.length : Int) > 6)) a0_0 l0_1 a0_2 l0_3 l0_4 l0_5)) else (spec_GateOk.j0 k true a0_0 l0_1 a0_2 l0_3 l0_4 l0_5))) else (spec_GateOk.j0 k true a0_0 l0_1 a0_2 l0_3 l0_4 l0_5)) else (spec_GateOk.j0 k true a0_0 l0_1 a0_2 l0_3 l0_4 l0_5))
def spec_GateOk.T6 : Bool × List (List Nat × List Nat) := (true, [([], []), ([0], [0]), ([], []), ([1, 2], [1, 2]), ([3], [3]), ([4], [4]), ([5], [5]), ([6, 5], [6]), ([7], [7]), ([8, 7], [7, 8]), ([7], [7]), ([9, 10, 7], [7, 9, 10]), ([11, 7], [7, 11]), ([12, 7], [7, 12]), ([7], [7]), ([14, 7], [7, 14]), ([13, 15, 7], [7, 13, 15]), ([7, 16], [7, 16]), ([17, 7], [17]), ([18], [18]), ([19, 18], [18, 19]), ([20, 18, 18], [18, 20]), ([21], [21]), ([22, 21], [21, 22]), ([21], [21]), ([24, 21], [21, 24]), ([23, 25, 21], [21, 23, 25]), ([26, 21], [21, 26]), ([27, 21], [21, 27]), ([21], [21]), ([29, 21], [21, 29]), ([21], [21]), ([30, 31, 21], [21, 30, 31]), ([32, 21], [21, 32]), ([33, 21], [21, 33]), ([28, 34, 21], [21, 28, 34]), ([21, 35, 18], [18, 21, 35]), ([18, 36], [18, 36])])
def spec_GateOk.B6 : List Nat := [0, 1, 0, 7, 15, 31, 63, 127, 255, 511, 255, 2047, 4095, 8191, 255, 16639, 65535, 131071, 262143, 524287, 1048575, 2097151, 4194303, 8388607, 4194303, 20971519, 67108863, 134217727, 268435455, 4194303, 541065215, 4194303, 3762290687, 8057257983, 16647192575, 34359738367, 68719476735, 137438953471]
theorem spec_GateOk.tab6 : rtab .any (opsOf Tryz.f17 6) = spec_GateOk.T6 := by kernel_rfl
theorem spec_GateOk.bits6 : waitsOk spec_GateOk.T6.2 spec_GateOk.B6 = true := by kernel_rfl
def spec_GateOk.T11 : Bool × List (List Nat × List Nat) := (true, [([], []), ([0], [0]), ([], []), ([1, 2], [1, 2]), ([3], [3]), ([4], [4]), ([5], [5]), ([6, 5], [6]), ([7], [7]), ([8, 7], [7, 8]), ([7], [7]), ([9, 10, 7], [7, 9, 10]), ([11, 7], [7, 11]), ([12, 7], [7, 12]), ([7], [7]), ([14, 7], [7, 14]), ([13, 15, 7], [7, 13, 15]), ([7, 16], [7, 16]), ([17, 7], [17]), ([18], [18]), ([19, 18], [18, 19]), ([20, 18, 18], [18, 20]), ([21], [21]), ([22, 21], [21, 22]), ([21], [21]), ([24, 21], [21, 24]), ([23, 25, 21], [21, 23, 25]), ([26, 21], [21, 26]), ([27, 21], [21, 27]), ([21], [21]), ([29, 21], [21, 29]), ([21], [21]), ([30, 31, 21], [21, 30, 31]), ([32, 21], [21, 32]), ([33, 21], [21, 33]), ([28, 34, 21], [21, 28, 34]), ([21, 35, 18], [18, 21, 35]), ([18, 36], [18, 36])])
def spec_GateOk.B11 : List Nat := [0, 1, 0, 7, 15, 31, 63, 127, 255, 511, 255, 2047, 4095, 8191, 255, 16639, 65535, 131071, 262143, 524287, 1048575, 2097151, 4194303, 8388607, 4194303, 20971519, 67108863, 134217727, 268435455, 4194303, 541065215, 4194303, 3762290687, 8057257983, 16647192575, 34359738367, 68719476735, 137438953471]
theorem spec_GateOk.tab11 : rtab .any (opsOf Tryz.f17 11) = spec_GateOk.T11 := by kernel_rfl
theorem spec_GateOk.bits11 : waitsOk spec_GateOk.T11.2 spec_GateOk.B11 = true := by kernel_rfl
theorem spec_GateOk.calls (k : Nat) (aI : Int) (fA : Option Addr) (fB : Nat) (aX : List (S59)) (aL : Int) (fC : Option Addr) (fD : Nat) (aY : List (S96)) (fO : Option Addr) (fE : Nat) (aB : List (S83)) (fP : Option Addr) (fF : Nat) (aC : List (S83)) (r : Bool) (w : World) (mK : Kd.C k59 w fA aX.length aX) (mL : aX.length ≤ fB) (mM : Kd.C k96 w fC aY.length aY) (mN : aY.length ≤ fD) (mO : Kd.C k83 w fO aB.length aB) (mP : aB.length ≤ fE) (mQ : Kd.C k83 w fP aC.length aC) (mR : aC.length ≤ fF) (h : spec_GateOk.f k aI aX aL aY aB aC = some r) :
  Calls Tryz.prog 17 #[.agg #[.int .i64 aI, .slice fA aX.length fB, .int .i64 aL, .slice fC aY.length fD, .slice fO aB.length fE, .slice fP aC.length fF]] w fun e w' => e = .returned (.bool r) ∧ Below w.heap.size w w' := by
 have pY := Tryz.underlying37; have pZ := Tryz.underlying34; have qA := Tryz.underlying83; have lO := Aside0.mk mK; have lP := Aside0.mk mL; clear mK mL; have lQ := Aside0.mk mM; have lR := Aside0.mk mN; clear mM mN; have fI := Aside0.mk mO; have pR := Aside0.mk mP; clear mO mP; have fJ := Aside0.mk mQ; have pS := Aside0.mk mR; clear mQ mR; have HB := am (Below.refl w.heap.size w); unfold spec_GateOk.f at h; have H := h; clear h; have pJ := Aside0.mk H; clear H; go_enter Tryz.func17, Tryz.ntmps17
 go_upto_region 1 with (first | ((with_reducible refine gate_dst (N := 1) rfl ?_); (try (refine gate_guard (by rfl) ?_; dsimp only)); refine bxe (KL HB) (cs := #[.int .i64 aI, .slice fA aX.length fB, .int .i64 aL, .slice fC aY.length fD, .slice fO aB.length fE, .slice fP aC.length fF]) ?_; intro eP w3 aA aK HB hb hg; clear hb hg))
 (try simp only [Act.put, List.setIfInBounds_toArray, List.set_cons_zero, List.set_cons_succ])
 go_cut [34] (fun qB wc => ∃ (kq : Nat) (iB : Bool), qB = .bool iB ∧ Aside0 (spec_GateOk.j0 kq iB aI aX aL aY aB aC = some r) ∧ Aside0 (kq ≤ k) ∧ Aside0 (wc.heap[eP]? = some (.cells #[.int .i64 aI, (.slice fA aX.length fB), .int .i64 aL, (.slice fC aY.length fD), (.slice fO aB.length fE), (.slice fP aC.length fF)] 37 (0, 0))) ∧ Aside0 (Below w.heap.size w wc))
 case first =>
  have H := pJ.out; clear pJ; obtain ⟨lY, A4, H⟩ := b1 H; by_cases c5 : lY = true
  ·subst c5
   replace H := pf H; by_cases c6 : aL = 4
   ·rw [if_pos c6] at H
    have c6b0 := beq_iff_eq.mpr c6; have c6b1 := bne_eq_false_iff_eq.mpr c6; clear c6; (first | rw [c6b0] | (simp only [i64_w, i32_w]; rw [c6b0]) | skip)
    obtain ⟨lN, A7, H⟩ := b1 H; by_cases c8 : lN = true
    ·subst c8
     replace H := pf H; by_cases c9 : (aB.length : Int) > 4
     ·rw [if_pos c9] at H
      have c9b0 := decide_eq_true c9; have c9b1 : decide (4 < aB.length) = true := decide_eq_true (by omega); clear c9; have H' := Aside0.mk H; clear H; obtain ⟨iC, iD, iE, iF, iG, iH, iI⟩ := y6 w3 aA.out; go_wp2_with (first | (go_at_call 37; (with_reducible refine (spec_l1In.calls _ _ _ _ _ A4.out).mono ?_); rintro e w' ⟨rfl, ⟨nd, rfl⟩⟩) | (go_at_call 38; (with_reducible refine (spec_CacheOk.calls _ _ _ _ _ _ _ _ _ _ ?_ ?_ ?_ ?_ A7.out).mono ?_); (repeat (first | exact (Kd.C_below lO.out (K1 HB aK.out)) | (with_reducible refine Kd.C_alloc ?_ _) | (with_reducible refine Kd.C_drewN ?_ _) | (with_reducible refine Kd.C_drew ?_))); exact lP.out; (repeat (first | exact (Kd.C_below lQ.out (K1 HB aK.out)) | (with_reducible refine Kd.C_alloc ?_ _) | (with_reducible refine Kd.C_drewN ?_ _) | (with_reducible refine Kd.C_drew ?_))); exact lR.out; rintro e qC ⟨rfl, hb⟩; replace aA := am (BB aA hb); replace HB := bl (K1 HB aK.out) hb; obtain ⟨iJ, iK, iL, iM, iN, iO, iP⟩ := y6 qC aA.out))
      go_meet
      case rel => exact ⟨_, (true), RS, H', ⟨LE⟩, ⟨KB aA⟩, ⟨K1 HB aK.out⟩⟩
     ·rw [if_neg c9] at H
      have c9b0 := decide_eq_false c9; have c9b1 : decide (4 < aB.length) = false := decide_eq_false (by omega); clear c9; have H' := Aside0.mk H; clear H; obtain ⟨iQ, iR, iS, iT, iU, iV, iW⟩ := y6 w3 aA.out; go_wp2_with (first | (go_at_call 37; (with_reducible refine (spec_l1In.calls _ _ _ _ _ A4.out).mono ?_); rintro e w' ⟨rfl, ⟨nd, rfl⟩⟩) | (go_at_call 38; (with_reducible refine (spec_CacheOk.calls _ _ _ _ _ _ _ _ _ _ ?_ ?_ ?_ ?_ A7.out).mono ?_); (repeat (first | exact (Kd.C_below lO.out (K1 HB aK.out)) | (with_reducible refine Kd.C_alloc ?_ _) | (with_reducible refine Kd.C_drewN ?_ _) | (with_reducible refine Kd.C_drew ?_))); exact lP.out; (repeat (first | exact (Kd.C_below lQ.out (K1 HB aK.out)) | (with_reducible refine Kd.C_alloc ?_ _) | (with_reducible refine Kd.C_drewN ?_ _) | (with_reducible refine Kd.C_drew ?_))); exact lR.out; rintro e qD ⟨rfl, hb⟩; replace aA := am (BB aA hb); replace HB := bl (K1 HB aK.out) hb; obtain ⟨iX, iY, iZ, jA, jB, jC, jD⟩ := y6 qD aA.out))
      go_meet
      case rel => exact ⟨_, (decide ((aC.length : Int) > 6)), RS, H', ⟨LE⟩, ⟨KB aA⟩, ⟨K1 HB aK.out⟩⟩
    ·replace c8 := Bool.eq_false_iff.mpr c8
     subst c8; replace H := nf H; have H' := Aside0.mk H; clear H; obtain ⟨jE, jF, jG, jH, jI, jJ, jK⟩ := y6 w3 aA.out; go_wp2_with (first | (go_at_call 37; (with_reducible refine (spec_l1In.calls _ _ _ _ _ A4.out).mono ?_); rintro e w' ⟨rfl, ⟨nd, rfl⟩⟩) | (go_at_call 38; (with_reducible refine (spec_CacheOk.calls _ _ _ _ _ _ _ _ _ _ ?_ ?_ ?_ ?_ A7.out).mono ?_); (repeat (first | exact (Kd.C_below lO.out (K1 HB aK.out)) | (with_reducible refine Kd.C_alloc ?_ _) | (with_reducible refine Kd.C_drewN ?_ _) | (with_reducible refine Kd.C_drew ?_))); exact lP.out; (repeat (first | exact (Kd.C_below lQ.out (K1 HB aK.out)) | (with_reducible refine Kd.C_alloc ?_ _) | (with_reducible refine Kd.C_drewN ?_ _) | (with_reducible refine Kd.C_drew ?_))); exact lR.out; rintro e qH ⟨rfl, hb⟩; replace aA := am (BB aA hb); replace HB := bl (K1 HB aK.out) hb))
     go_meet
     case rel => exact ⟨_, (true), RS, H', ⟨LE⟩, ⟨KB aA⟩, ⟨K1 HB aK.out⟩⟩
   ·rw [if_neg c6] at H
    have c6b0 := beq_eq_false_iff_ne.mpr c6; have c6b1 := bne_iff_ne.mpr c6; (first | rw [c6b0] | (simp only [i64_w, i32_w]; rw [c6b0]) | skip)
    have H' := Aside0.mk H; clear H; obtain ⟨jL, jM, jN, jO, jP, jQ, jR⟩ := y6 w3 aA.out; go_wp2_with (first | (go_at_call 37; (with_reducible refine (spec_l1In.calls _ _ _ _ _ A4.out).mono ?_); rintro e w' ⟨rfl, ⟨nd, rfl⟩⟩))
    go_meet
    case rel => exact ⟨_, (true), RS, H', ⟨LE⟩, ⟨KB aA⟩, ⟨K1 HB aK.out⟩⟩
  ·replace c5 := Bool.eq_false_iff.mpr c5
   subst c5; replace H := nf H; have H' := Aside0.mk H; clear H; obtain ⟨jS, jT, jU, jV, jW, jX, jY⟩ := y6 w3 aA.out; go_wp2_with (first | (go_at_call 37; (with_reducible refine (spec_l1In.calls _ _ _ _ _ A4.out).mono ?_); rintro e w' ⟨rfl, ⟨nd, rfl⟩⟩))
   go_meet
   case rel => exact ⟨_, (true), RS, H', ⟨LE⟩, ⟨KB aA⟩, ⟨K1 HB aK.out⟩⟩
 case rest =>
  clear pJ; try clear c5
  try clear c6
  try clear c6b0
  try clear c6b1
  try clear c8
  try clear c9
  try clear c9b0
  try clear c9b1
  try clear iC iD iE iF iG iH iI
  try clear iJ iK iL iM iN iO iP
  try clear iQ iR iS iT iU iV iW
  try clear iX iY iZ jA jB jC jD
  try clear jE jF jG jH jI jJ jK
  try clear jL jM jN jO jP jQ jR
  try clear jS jT jU jV jW jX jY
  obtain ⟨kq, iB, rfl, HA, HJ1, aA, HB⟩ := hcut; cases kq with
  | zero => exact absurd HA.out (by simp [spec_GateOk.j0])
  | succ kj1 =>
   have H := HA.out; clear HA; simp only [spec_GateOk.j0] at H; by_cases nM : iB = true
   ·subst nM
    replace H := pf H; obtain rfl := sj H; go_wp2
    go_ret
    exact ⟨ER, K1 HB aK.out⟩
   ·replace nM := Bool.eq_false_iff.mpr nM
    subst nM; replace H := nf H; have H' := Aside0.mk H; clear H; go_wp2
    go_loopg [3] kj1 (fun kq v3 w' => ∃ (aD : Int), v3 = .int .i64 aD ∧ Aside0 (spec_GateOk.l0 kq aD aI aX aL aY aB aC = some r) ∧ Aside0 (kq ≤ kj1) ∧ Aside0 (w'.heap[eP]? = some (.cells #[.int .i64 aI, (.slice fA aX.length fB), .int .i64 aL, (.slice fC aY.length fD), (.slice fO aB.length fE), (.slice fP aC.length fF)] 37 (0, 0))) ∧ Aside0 (Below w.heap.size w w'))
    case atStart => exact ⟨(0), RS, H', ⟨Nat.le_refl _⟩, ⟨KB aA⟩, ⟨K1 HB aK.out⟩⟩
    case round =>
     clear H'; try clear c5
     try clear c6
     try clear c6b0
     try clear c6b1
     try clear c8
     try clear c9
     try clear c9b0
     try clear c9b1
     try clear nM
     try clear iC iD iE iF iG iH iI
     try clear iJ iK iL iM iN iO iP
     try clear iQ iR iS iT iU iV iW
     try clear iX iY iZ jA jB jC jD
     try clear jE jF jG jH jI jJ jK
     try clear jL jM jN jO jP jQ jR
     try clear jS jT jU jV jW jX jY
     obtain ⟨aD, rfl, HA, HK2, aA, HB⟩ := hrel; cases gk with
     | zero => exact absurd HA.out (by simp [spec_GateOk.l0])
     | succ k2 =>
      have H := HA.out; clear HA; simp only [spec_GateOk.l0] at H; by_cases mS : aD < (aB.length : Int)
      ·rw [if_pos mS] at H
       have c21b0 := decide_eq_true mS; clear mS; have mT := Aside0.mk H; clear H; have ⟨_, _, _, _, _, _, _⟩ := y6 wr aA.out; go_upto_region 6 with (fail)
       go_cut [79] (fun qF wc => ∃ (kq : Nat) (hH : Bool), qF = .bool hH ∧ Aside0 (spec_GateOk.j2 kq aD hH aI aX aL aY aB aC = some r) ∧ Aside0 (kq ≤ k2) ∧ Aside0 (wc.heap[eP]? = some (.cells #[.int .i64 aI, (.slice fA aX.length fB), .int .i64 aL, (.slice fC aY.length fD), (.slice fO aB.length fE), (.slice fP aC.length fF)] 37 (0, 0))) ∧ Aside0 (Below w.heap.size w wc))
       case first =>
        have H := mT.out; clear mT; by_cases nD : 0 ≤ aD
        ·rw [if_pos nD] at H
         have c24b0 := decide_eq_true nD; clear nD; (first | rw [c24b0] | (simp only [i64_w, i32_w]; rw [c24b0]) | skip)
         obtain ⟨nN, nP, H⟩ := b1 H; by_cases nE : nN = true
         ·subst nE
          replace H := pf H; by_cases nF : ((rd_T83 aB aD).f4) > aI
          ·rw [if_pos nF] at H
           have c27b0 := decide_eq_true nF; clear nF; have H' := Aside0.mk H; clear H; try go_wp2
           replace aA := am (blk_drew aA.out); replace HB := am (below_drew1 HB.out); have eQ : 0 ≤ (aD : Int) := OD; have eR : aD < (aB.length : Int) := OD; obtain ⟨cM, cO, cP, hZ, aM, aN, aO, aP, aQ, aR, aS, aT, aU, aV, aH, cE, cF⟩ := at_T83 fI.out aD eQ eR; have cG := aH; have cQ := aV; have cR := aU; have cS := aT; have cT := aS; have cU := aR; have cV := aQ; have cW := aP; have cX := aO; have cY := aN; have cZ := aM; cases hZ
           replace aM := CX HB.out aM; replace aN := CX HB.out aN; replace aO := CX HB.out aO; replace aP := CX HB.out aP; replace aQ := CX HB.out aQ; replace aR := CX HB.out aR; replace aS := CX HB.out aS; replace aT := CX HB.out aT; replace aU := CX HB.out aU; replace aV := CX HB.out aV; replace aH := CX HB.out aH; have cH := Aside0.mk cF; have dT := Aside0.mk cE; clear cF cE; replace eQ := eq_true eQ; replace eR := eq_true eR; have fM : 0 ≤ (aD : Int) := OD; have fN : aD < (aB.length : Int) := OD; obtain ⟨hI, eW, eX, lS, bK, bL, bM, bN, bO, bP, bQ, bR, bS, bT, aW, dM, dN⟩ := at_T83 fI.out aD fM fN; have dO := aW; have dV := bT; have dW := bS; have dX := bR; have dY := bQ; have dZ := bP; have eA := bO; have eB := bN; have eC := bM; have eD := bL; have eE := bK; obtain rfl : cM = hI := (by injection lS); replace bK := CX HB.out bK; replace bL := CX HB.out bL; replace bM := CX HB.out bM; replace bN := CX HB.out bN; replace bO := CX HB.out bO; replace bP := CX HB.out bP; replace bQ := CX HB.out bQ; replace bR := CX HB.out bR; replace bS := CX HB.out bS; replace bT := CX HB.out bT; replace aW := CX HB.out aW; have eS := Aside0.mk dN; have hJ := Aside0.mk dM; clear dN dM; replace fM := eq_true fM; replace fN := eq_true fN; refine start_ (n := 38) (S := fun w' => ce6 w' eP (.int .i64 aI) (.slice fA aX.length fB) (.int .i64 aL) (.slice fC aY.length fD) (.slice (some cM) aB.length fE) (.slice fP aC.length fF) (eleG w' (cM.add ((aD).toNat * 11)) (rd_T83 aB aD) (.slice cO ((rd_T83 aB aD).f9.f1).length cP) (eleH w' (cM.add ((aD).toNat * 11)) (rd_T83 aB aD) (.slice eW ((rd_T83 aB aD).f9.f1).length eX)))) (ds := []) (tf 0 38) (by kernel_rfl) rfl rfl (zc6 aA ⟨(CY HB.out cZ), (CY HB.out cY), (CY HB.out cX), (CY HB.out cW), (CY HB.out cV), (CY HB.out cU), (CY HB.out cT), (CY HB.out cS), (CY HB.out cR), (CY HB.out cQ), (CY HB.out cG), (CY HB.out eE), (CY HB.out eD), (CY HB.out eC), (CY HB.out eB), (CY HB.out eA), (CY HB.out dZ), (CY HB.out dY), (CY HB.out dX), (CY HB.out dW), (CY HB.out dV), (CY HB.out dO)⟩) (fun aG => ?_); refine with_tabW spec_GateOk.tab6 spec_GateOk.bits6 (fun aF dS => ?_); generalize wr.drew = qI at aA HB cH eS aM aN aH aO aP aQ aR aS aT aU aV bK bL aW bM bN bO bP bQ bR bS bT aG ⊢; refine pv aF 0 42 (tf 1 37) ?_; refine pv aF 2 44 (tr [1, 1, 1, 35]) ?_; refine tw aF dS 1 43 (tf 3 35) aG ?_; refine pv aF 3 45 (tf 4 34) ?_; refine tw aF dS 4 46 (tf 5 33) aG ?_; refine oW aF 5 47 (tf 6 32) (fun K hK => ?_); refine gW Tryz.func39 #[.agg #[.int .i64 ((rd_T83 aB aD).f0), .int .i64 ((rd_T83 aB aD).f1), .string ((rd_T83 aB aD).f2), .string ((rd_T83 aB aD).f3), .int .i64 ((rd_T83 aB aD).f4), .int .i64 ((rd_T83 aB aD).f5), .int .i64 ((rd_T83 aB aD).f6), .int .i64 ((rd_T83 aB aD).f7), .int .i64 ((rd_T83 aB aD).f8), .int .i64 ((rd_T83 aB aD).f9.f0), .slice cO ((rd_T83 aB aD).f9.f1).length cP]] ?_; with_reducible refine (spec_SaOk.calls k2 ((rd_T83 aB aD).f0) ((rd_T83 aB aD).f1) ((rd_T83 aB aD).f2) ((rd_T83 aB aD).f3) ((rd_T83 aB aD).f4) ((rd_T83 aB aD).f5) ((rd_T83 aB aD).f6) ((rd_T83 aB aD).f7) ((rd_T83 aB aD).f8) ((rd_T83 aB aD).f9.f0) _ _ ((rd_T83 aB aD).f9.f1) true _ ?_ ?_ nP.out).mono ?_
           exact KD cH HB; exact dT.out; rintro e qJ ⟨rfl, hb⟩; refine ⟨_, rfl, ?_⟩; replace aA := am (BB aA hb); replace HB := bl (K1 HB aK.out) hb; (try clear hb)
           refine hK.out _ _ (zc6 aA ⟨(CY HB.out cZ), (CY HB.out cY), (CY HB.out cX), (CY HB.out cW), (CY HB.out cV), (CY HB.out cU), (CY HB.out cT), (CY HB.out cS), (CY HB.out cR), (CY HB.out cQ), (CY HB.out cG), (CY HB.out eE), (CY HB.out eD), (CY HB.out eC), (CY HB.out eB), (CY HB.out eA), (CY HB.out dZ), (CY HB.out dY), (CY HB.out dX), (CY HB.out dW), (CY HB.out dV), (CY HB.out dO)⟩) (fun aG => ?_); clear hK K; refine nm (some 47) ?_; refine pv aF 6 48 (tf 7 31) ?_; refine pv aF 7 49 (tf 8 30) ?_; refine pv aF 8 50 (tf 9 29) ?_; refine pv aF 10 52 (tr [9, 1, 1, 27]) ?_; refine pv aF 14 56 (tr [9, 1, 1, 3, 1, 23]) ?_; refine tw aF dS 9 51 (tr [11, 3, 1, 23]) aG ?_; refine pv aF 11 53 (tr [12, 2, 1, 23]) ?_; refine pv aF 12 54 (tr [13, 1, 1, 23]) ?_; refine tw aF dS 13 55 (tf 15 23) aG ?_; refine tw aF dS 15 57 (tf 16 22) aG ?_; refine pv aF 16 58 (tf 17 21) ?_; refine pv aF 17 59 (tf 18 20) ?_; refine pv aF 18 60 (tf 19 19) ?_; refine pw aF 19 61 (tf 20 18) ?_; refine pw aF 20 62 (tf 21 17) ?_; refine pw aF 21 63 (tf 22 16) ?_; refine pw aF 22 64 (tf 23 15) ?_; refine pw aF 23 65 (tf 24 14) ?_; refine pw aF 24 66 (tf 25 13) ?_; refine pw aF 25 67 (tf 26 12) ?_; refine pw aF 26 68 (tf 27 11) ?_; refine pw aF 27 69 (tf 28 10) ?_; refine pw aF 28 70 (tf 29 9) ?_; refine pw aF 29 71 (tf 30 8) ?_; refine pw aF 30 72 (tf 31 7) ?_; refine pw aF 31 73 (tf 32 6) ?_; refine pw aF 32 74 (tf 33 5) ?_; refine pw aF 33 75 (tf 34 4) ?_; refine pw aF 34 76 (tf 35 3) ?_; refine pw aF 35 77 (tf 36 2) ?_; refine pw aF 36 78 (tf 37 1) ?_; refine pv aF 37 79 (tf 38 0) ?_; refine done_ (done_of aF.out (by kernel_rfl)) ?_; try go_wp2
           go_meet
           case rel => exact ⟨_, (true), RS, H', ⟨by have := HJ1.out; have := HK2.out; first | omega | exact Nat.le_refl _⟩, ⟨KB aA⟩, ⟨K1 HB aK.out⟩⟩
          ·rw [if_neg nF] at H
           have c27b0 := decide_eq_false nF; clear nF; by_cases nG : aD > 0
           ·rw [if_pos nG] at H
            have c30b0 := decide_eq_true nG; clear nG; obtain ⟨ji31, hji31⟩ : ∃ j_ : Int, (wrap64 (aD - 1)) = j_ := ⟨_, rfl⟩; replace H : (if 0 ≤ (ji31) then (if (ji31) < (aB.length : Int) then (spec_GateOk.j2 k2 aD (decide (((rd_T83 aB (ji31)).f1) ≥ ((rd_T83 aB aD).f1))) aI aX aL aY aB aC) else (none)) else (none)) = some r := by first | (rw [hji31] at H; exact H) | (simp only [hji31] at H ⊢; exact H)
            (try rw [hji31] at nP)
            have hji31w : (IntKind.i64.wrap (aD - 1)) = ji31 := (i64_w _).trans hji31; by_cases oM : 0 ≤ (ji31)
            ·rw [if_pos oM] at H
             have c32b0 := decide_eq_true oM; clear oM; by_cases oN : (ji31) < (aB.length : Int)
             ·rw [if_pos oN] at H
              have c33b0 := decide_eq_true oN; clear oN; have H' := Aside0.mk H; clear H; try go_wp2
              replace aA := am (blk_drew aA.out); replace HB := am (below_drew1 HB.out); have eQ : 0 ≤ (aD : Int) := OD; have eR : aD < (aB.length : Int) := OD; obtain ⟨cM, cO, cP, hZ, aM, aN, aO, aP, aQ, aR, aS, aT, aU, aV, aH, cE, cF⟩ := at_T83 fI.out aD eQ eR; have cG := aH; have cQ := aV; have cR := aU; have cS := aT; have cT := aS; have cU := aR; have cV := aQ; have cW := aP; have cX := aO; have cY := aN; have cZ := aM; cases hZ
              replace aM := CX HB.out aM; replace aN := CX HB.out aN; replace aO := CX HB.out aO; replace aP := CX HB.out aP; replace aQ := CX HB.out aQ; replace aR := CX HB.out aR; replace aS := CX HB.out aS; replace aT := CX HB.out aT; replace aU := CX HB.out aU; replace aV := CX HB.out aV; replace aH := CX HB.out aH; have cH := Aside0.mk cF; have dT := Aside0.mk cE; clear cF cE; replace eQ := eq_true eQ; replace eR := eq_true eR; have fM : 0 ≤ (aD : Int) := OD; have fN : aD < (aB.length : Int) := OD; obtain ⟨hI, eW, eX, lS, bK, bL, bM, bN, bO, bP, bQ, bR, bS, bT, aW, dM, dN⟩ := at_T83 fI.out aD fM fN; have dO := aW; have dV := bT; have dW := bS; have dX := bR; have dY := bQ; have dZ := bP; have eA := bO; have eB := bN; have eC := bM; have eD := bL; have eE := bK; obtain rfl : cM = hI := (by injection lS); replace bK := CX HB.out bK; replace bL := CX HB.out bL; replace bM := CX HB.out bM; replace bN := CX HB.out bN; replace bO := CX HB.out bO; replace bP := CX HB.out bP; replace bQ := CX HB.out bQ; replace bR := CX HB.out bR; replace bS := CX HB.out bS; replace bT := CX HB.out bT; replace aW := CX HB.out aW; have eS := Aside0.mk dN; have hJ := Aside0.mk dM; clear dN dM; replace fM := eq_true fM; replace fN := eq_true fN; have mU : 0 ≤ ((ji31) : Int) := OD; have mV : (ji31) < (aB.length : Int) := OD; obtain ⟨nQ, lZ, mA, pK, fS, fT, fU, fV, fW, fX, fY, fZ, gA, gB, fK, hL, hM⟩ := at_T83 fI.out (ji31) mU mV; have hN := fK; have jZ := gB; have kA := gA; have kB := fZ; have kC := fY; have kD := fX; have kE := fW; have kF := fV; have kG := fU; have kH := fT; have kI := fS; obtain rfl : cM = nQ := (by injection pK); replace fS := CX HB.out fS; replace fT := CX HB.out fT; replace fU := CX HB.out fU; replace fV := CX HB.out fV; replace fW := CX HB.out fW; replace fX := CX HB.out fX; replace fY := CX HB.out fY; replace fZ := CX HB.out fZ; replace gA := CX HB.out gA; replace gB := CX HB.out gB; replace fK := CX HB.out fK; have lT := Aside0.mk hM; have nR := Aside0.mk hL; clear hM hL; replace mU := eq_true mU; replace mV := eq_true mV; have mW : 0 ≤ (aD : Int) := OD; have mX : aD < (aB.length : Int) := OD; obtain ⟨nS, _, _, pL, gC, gD, gE, gF, gG, gH, gI, gJ, gK, gL, eT, hO, hP⟩ := at_T83 fI.out aD mW mX; have hQ := eT; have kJ := gL; have kK := gK; have kL := gJ; have kM := gI; have kN := gH; have kO := gG; have kP := gF; have kQ := gE; have kR := gD; have kS := gC; obtain rfl : cM = nS := (by injection pL); replace gC := CX HB.out gC; replace gD := CX HB.out gD; replace gE := CX HB.out gE; replace gF := CX HB.out gF; replace gG := CX HB.out gG; replace gH := CX HB.out gH; replace gI := CX HB.out gI; replace gJ := CX HB.out gJ; replace gK := CX HB.out gK; replace gL := CX HB.out gL; replace eT := CX HB.out eT; have lU := Aside0.mk hP; have nT := Aside0.mk hO; clear hP hO; replace mW := eq_true mW; replace mX := eq_true mX; have ea_ := Option.some.inj (aW.symm.trans eT); injection ea_ with ea_ en_ ec_
              subst ea_; subst ec_; clear en_; refine start_ (n := 38) (S := fun w' => ce6 w' eP (.int .i64 aI) (.slice fA aX.length fB) (.int .i64 aL) (.slice fC aY.length fD) (.slice (some cM) aB.length fE) (.slice fP aC.length fF) (eleG w' (cM.add ((aD).toNat * 11)) (rd_T83 aB aD) (.slice cO ((rd_T83 aB aD).f9.f1).length cP) (eleG w' (cM.add ((aD).toNat * 11)) (rd_T83 aB aD) (.slice eW ((rd_T83 aB aD).f9.f1).length eX) (eleG w' (cM.add (((ji31)).toNat * 11)) (rd_T83 aB (ji31)) (.slice lZ ((rd_T83 aB (ji31)).f9.f1).length mA) (eleH w' (cM.add ((aD).toNat * 11)) (rd_T83 aB aD) (.slice eW ((rd_T83 aB aD).f9.f1).length eX)))))) (ds := []) (tf 0 38) (by kernel_rfl) rfl rfl (zc6 aA ⟨(CY HB.out cZ), (CY HB.out cY), (CY HB.out cX), (CY HB.out cW), (CY HB.out cV), (CY HB.out cU), (CY HB.out cT), (CY HB.out cS), (CY HB.out cR), (CY HB.out cQ), (CY HB.out cG), (CY HB.out eE), (CY HB.out eD), (CY HB.out eC), (CY HB.out eB), (CY HB.out eA), (CY HB.out dZ), (CY HB.out dY), (CY HB.out dX), (CY HB.out dW), (CY HB.out dV), (CY HB.out dO), (CY HB.out kI), (CY HB.out kH), (CY HB.out kG), (CY HB.out kF), (CY HB.out kE), (CY HB.out kD), (CY HB.out kC), (CY HB.out kB), (CY HB.out kA), (CY HB.out jZ), (CY HB.out hN), (CY HB.out kS), (CY HB.out kR), (CY HB.out kQ), (CY HB.out kP), (CY HB.out kO), (CY HB.out kN), (CY HB.out kM), (CY HB.out kL), (CY HB.out kK), (CY HB.out kJ), (CY HB.out hQ)⟩) (fun aG => ?_); refine with_tabW spec_GateOk.tab6 spec_GateOk.bits6 (fun aF dS => ?_); generalize wr.drew = qK at aA HB cH eS lT lU aM aN aH aO aP aQ aR aS aT aU aV bK bL aW bM bN bO bP bQ bR bS bT fS fT fK fU fV fW fX fY fZ gA gB gC gD eT gE gF gG gH gI gJ gK gL aG ⊢; refine pv aF 0 42 (tf 1 37) ?_; refine pv aF 2 44 (tr [1, 1, 1, 35]) ?_; refine tw aF dS 1 43 (tf 3 35) aG ?_; refine pv aF 3 45 (tf 4 34) ?_; refine tw aF dS 4 46 (tf 5 33) aG ?_; refine oW aF 5 47 (tf 6 32) (fun K hK => ?_); refine gW Tryz.func39 #[.agg #[.int .i64 ((rd_T83 aB aD).f0), .int .i64 ((rd_T83 aB aD).f1), .string ((rd_T83 aB aD).f2), .string ((rd_T83 aB aD).f3), .int .i64 ((rd_T83 aB aD).f4), .int .i64 ((rd_T83 aB aD).f5), .int .i64 ((rd_T83 aB aD).f6), .int .i64 ((rd_T83 aB aD).f7), .int .i64 ((rd_T83 aB aD).f8), .int .i64 ((rd_T83 aB aD).f9.f0), .slice cO ((rd_T83 aB aD).f9.f1).length cP]] ?_; with_reducible refine (spec_SaOk.calls k2 ((rd_T83 aB aD).f0) ((rd_T83 aB aD).f1) ((rd_T83 aB aD).f2) ((rd_T83 aB aD).f3) ((rd_T83 aB aD).f4) ((rd_T83 aB aD).f5) ((rd_T83 aB aD).f6) ((rd_T83 aB aD).f7) ((rd_T83 aB aD).f8) ((rd_T83 aB aD).f9.f0) _ _ ((rd_T83 aB aD).f9.f1) true _ ?_ ?_ nP.out).mono ?_
              exact KD cH HB; exact dT.out; rintro e qL ⟨rfl, hb⟩; refine ⟨_, rfl, ?_⟩; replace aA := am (BB aA hb); replace HB := bl (K1 HB aK.out) hb; (try clear hb)
              refine hK.out _ _ (zc6 aA ⟨(CY HB.out cZ), (CY HB.out cY), (CY HB.out cX), (CY HB.out cW), (CY HB.out cV), (CY HB.out cU), (CY HB.out cT), (CY HB.out cS), (CY HB.out cR), (CY HB.out cQ), (CY HB.out cG), (CY HB.out eE), (CY HB.out eD), (CY HB.out eC), (CY HB.out eB), (CY HB.out eA), (CY HB.out dZ), (CY HB.out dY), (CY HB.out dX), (CY HB.out dW), (CY HB.out dV), (CY HB.out dO), (CY HB.out kI), (CY HB.out kH), (CY HB.out kG), (CY HB.out kF), (CY HB.out kE), (CY HB.out kD), (CY HB.out kC), (CY HB.out kB), (CY HB.out kA), (CY HB.out jZ), (CY HB.out hN), (CY HB.out kS), (CY HB.out kR), (CY HB.out kQ), (CY HB.out kP), (CY HB.out kO), (CY HB.out kN), (CY HB.out kM), (CY HB.out kL), (CY HB.out kK), (CY HB.out kJ), (CY HB.out hQ)⟩) (fun aG => ?_); clear hK K; refine nm (some 47) ?_; refine pv aF 6 48 (tf 7 31) ?_; refine pv aF 7 49 (tf 8 30) ?_; refine pv aF 8 50 (tf 9 29) ?_; refine pv aF 10 52 (tr [9, 1, 1, 27]) ?_; refine pv aF 14 56 (tr [9, 1, 1, 3, 1, 23]) ?_; refine tw aF dS 9 51 (tr [11, 3, 1, 23]) aG ?_; refine pv aF 11 53 (tr [12, 2, 1, 23]) ?_; refine pv aF 12 54 (tr [13, 1, 1, 23]) ?_; refine tw aF dS 13 55 (tf 15 23) aG ?_; refine tw aF dS 15 57 (tf 16 22) aG ?_; refine pv aF 16 58 (tf 17 21) ?_; refine pv aF 17 59 (tf 18 20) ?_; refine pv aF 18 60 (tf 19 19) ?_; refine pv aF 19 61 (tf 20 18) ?_; refine pv aF 20 62 (tf 21 17) ?_; refine pv aF 21 63 (tf 22 16) ?_; refine pv aF 22 64 (tf 23 15) ?_; refine pv aF 24 66 (tr [23, 1, 1, 13]) ?_; refine pv aF 25 67 (tr [23, 1, 2, 12]) ?_; refine pv aF 29 71 (tr [23, 1, 2, 3, 1, 8]) ?_; refine pv aF 31 73 (tr [23, 1, 2, 3, 1, 1, 1, 6]) ?_; refine tw aF dS 23 65 (tr [26, 3, 1, 1, 1, 6]) aG ?_; refine pv aF 26 68 (tr [27, 2, 1, 1, 1, 6]) ?_; refine pv aF 27 69 (tr [28, 1, 1, 1, 1, 6]) ?_; refine tw aF dS 28 70 (tr [30, 1, 1, 6]) aG ?_; refine tw aF dS 30 72 (tf 32 6) aG ?_; refine pv aF 32 74 (tf 33 5) ?_; refine pv aF 33 75 (tf 34 4) ?_; refine tw aF dS 34 76 (tf 35 3) aG ?_; refine pv aF 35 77 (tf 36 2) ?_; refine pv aF 36 78 (tf 37 1) ?_; refine pv aF 37 79 (tf 38 0) ?_; refine done_ (done_of aF.out (by kernel_rfl)) ?_; try go_wp2
              go_meet
              case rel => exact ⟨_, (decide (((rd_T83 aB (ji31)).f1) ≥ ((rd_T83 aB aD).f1))), (by first | rfl | (simp; done) | (simp only [← hji31] <;> (first | rfl | simp)) | (simp [*]; done)), H', ⟨by have := HJ1.out; have := HK2.out; first | omega | exact Nat.le_refl _⟩, ⟨KB aA⟩, ⟨K1 HB aK.out⟩⟩
             ·rw [if_neg oN] at H
              exact absurd H (by simp)
            ·rw [if_neg oM] at H
             exact absurd H (by simp)
           ·rw [if_neg nG] at H
            have c30b0 := decide_eq_false nG; clear nG; have H' := Aside0.mk H; clear H; try go_wp2
            replace aA := am (blk_drew aA.out); replace HB := am (below_drew1 HB.out); have eQ : 0 ≤ (aD : Int) := OD; have eR : aD < (aB.length : Int) := OD; obtain ⟨cM, cO, cP, hZ, aM, aN, aO, aP, aQ, aR, aS, aT, aU, aV, aH, cE, cF⟩ := at_T83 fI.out aD eQ eR; have cG := aH; have cQ := aV; have cR := aU; have cS := aT; have cT := aS; have cU := aR; have cV := aQ; have cW := aP; have cX := aO; have cY := aN; have cZ := aM; cases hZ
            replace aM := CX HB.out aM; replace aN := CX HB.out aN; replace aO := CX HB.out aO; replace aP := CX HB.out aP; replace aQ := CX HB.out aQ; replace aR := CX HB.out aR; replace aS := CX HB.out aS; replace aT := CX HB.out aT; replace aU := CX HB.out aU; replace aV := CX HB.out aV; replace aH := CX HB.out aH; have cH := Aside0.mk cF; have dT := Aside0.mk cE; clear cF cE; replace eQ := eq_true eQ; replace eR := eq_true eR; have fM : 0 ≤ (aD : Int) := OD; have fN : aD < (aB.length : Int) := OD; obtain ⟨hI, eW, eX, lS, bK, bL, bM, bN, bO, bP, bQ, bR, bS, bT, aW, dM, dN⟩ := at_T83 fI.out aD fM fN; have dO := aW; have dV := bT; have dW := bS; have dX := bR; have dY := bQ; have dZ := bP; have eA := bO; have eB := bN; have eC := bM; have eD := bL; have eE := bK; obtain rfl : cM = hI := (by injection lS); replace bK := CX HB.out bK; replace bL := CX HB.out bL; replace bM := CX HB.out bM; replace bN := CX HB.out bN; replace bO := CX HB.out bO; replace bP := CX HB.out bP; replace bQ := CX HB.out bQ; replace bR := CX HB.out bR; replace bS := CX HB.out bS; replace bT := CX HB.out bT; replace aW := CX HB.out aW; have eS := Aside0.mk dN; have hJ := Aside0.mk dM; clear dN dM; replace fM := eq_true fM; replace fN := eq_true fN; refine start_ (n := 38) (S := fun w' => ce6 w' eP (.int .i64 aI) (.slice fA aX.length fB) (.int .i64 aL) (.slice fC aY.length fD) (.slice (some cM) aB.length fE) (.slice fP aC.length fF) (eleG w' (cM.add ((aD).toNat * 11)) (rd_T83 aB aD) (.slice cO ((rd_T83 aB aD).f9.f1).length cP) (eleH w' (cM.add ((aD).toNat * 11)) (rd_T83 aB aD) (.slice eW ((rd_T83 aB aD).f9.f1).length eX)))) (ds := []) (tf 0 38) (by kernel_rfl) rfl rfl (zc6 aA ⟨(CY HB.out cZ), (CY HB.out cY), (CY HB.out cX), (CY HB.out cW), (CY HB.out cV), (CY HB.out cU), (CY HB.out cT), (CY HB.out cS), (CY HB.out cR), (CY HB.out cQ), (CY HB.out cG), (CY HB.out eE), (CY HB.out eD), (CY HB.out eC), (CY HB.out eB), (CY HB.out eA), (CY HB.out dZ), (CY HB.out dY), (CY HB.out dX), (CY HB.out dW), (CY HB.out dV), (CY HB.out dO)⟩) (fun aG => ?_); refine with_tabW spec_GateOk.tab6 spec_GateOk.bits6 (fun aF dS => ?_); generalize wr.drew = qM at aA HB cH eS aM aN aH aO aP aQ aR aS aT aU aV bK bL aW bM bN bO bP bQ bR bS bT aG ⊢; refine pv aF 0 42 (tf 1 37) ?_; refine pv aF 2 44 (tr [1, 1, 1, 35]) ?_; refine tw aF dS 1 43 (tf 3 35) aG ?_; refine pv aF 3 45 (tf 4 34) ?_; refine tw aF dS 4 46 (tf 5 33) aG ?_; refine oW aF 5 47 (tf 6 32) (fun K hK => ?_); refine gW Tryz.func39 #[.agg #[.int .i64 ((rd_T83 aB aD).f0), .int .i64 ((rd_T83 aB aD).f1), .string ((rd_T83 aB aD).f2), .string ((rd_T83 aB aD).f3), .int .i64 ((rd_T83 aB aD).f4), .int .i64 ((rd_T83 aB aD).f5), .int .i64 ((rd_T83 aB aD).f6), .int .i64 ((rd_T83 aB aD).f7), .int .i64 ((rd_T83 aB aD).f8), .int .i64 ((rd_T83 aB aD).f9.f0), .slice cO ((rd_T83 aB aD).f9.f1).length cP]] ?_; with_reducible refine (spec_SaOk.calls k2 ((rd_T83 aB aD).f0) ((rd_T83 aB aD).f1) ((rd_T83 aB aD).f2) ((rd_T83 aB aD).f3) ((rd_T83 aB aD).f4) ((rd_T83 aB aD).f5) ((rd_T83 aB aD).f6) ((rd_T83 aB aD).f7) ((rd_T83 aB aD).f8) ((rd_T83 aB aD).f9.f0) _ _ ((rd_T83 aB aD).f9.f1) true _ ?_ ?_ nP.out).mono ?_
            exact KD cH HB; exact dT.out; rintro e qN ⟨rfl, hb⟩; refine ⟨_, rfl, ?_⟩; replace aA := am (BB aA hb); replace HB := bl (K1 HB aK.out) hb; (try clear hb)
            refine hK.out _ _ (zc6 aA ⟨(CY HB.out cZ), (CY HB.out cY), (CY HB.out cX), (CY HB.out cW), (CY HB.out cV), (CY HB.out cU), (CY HB.out cT), (CY HB.out cS), (CY HB.out cR), (CY HB.out cQ), (CY HB.out cG), (CY HB.out eE), (CY HB.out eD), (CY HB.out eC), (CY HB.out eB), (CY HB.out eA), (CY HB.out dZ), (CY HB.out dY), (CY HB.out dX), (CY HB.out dW), (CY HB.out dV), (CY HB.out dO)⟩) (fun aG => ?_); clear hK K; refine nm (some 47) ?_; refine pv aF 6 48 (tf 7 31) ?_; refine pv aF 7 49 (tf 8 30) ?_; refine pv aF 8 50 (tf 9 29) ?_; refine pv aF 10 52 (tr [9, 1, 1, 27]) ?_; refine pv aF 14 56 (tr [9, 1, 1, 3, 1, 23]) ?_; refine tw aF dS 9 51 (tr [11, 3, 1, 23]) aG ?_; refine pv aF 11 53 (tr [12, 2, 1, 23]) ?_; refine pv aF 12 54 (tr [13, 1, 1, 23]) ?_; refine tw aF dS 13 55 (tf 15 23) aG ?_; refine tw aF dS 15 57 (tf 16 22) aG ?_; refine pv aF 16 58 (tf 17 21) ?_; refine pv aF 17 59 (tf 18 20) ?_; refine pv aF 18 60 (tf 19 19) ?_; refine pv aF 19 61 (tf 20 18) ?_; refine pv aF 20 62 (tf 21 17) ?_; refine pv aF 21 63 (tf 22 16) ?_; refine pw aF 22 64 (tf 23 15) ?_; refine pw aF 23 65 (tf 24 14) ?_; refine pw aF 24 66 (tf 25 13) ?_; refine pw aF 25 67 (tf 26 12) ?_; refine pw aF 26 68 (tf 27 11) ?_; refine pw aF 27 69 (tf 28 10) ?_; refine pw aF 28 70 (tf 29 9) ?_; refine pw aF 29 71 (tf 30 8) ?_; refine pw aF 30 72 (tf 31 7) ?_; refine pw aF 31 73 (tf 32 6) ?_; refine pw aF 32 74 (tf 33 5) ?_; refine pw aF 33 75 (tf 34 4) ?_; refine pw aF 34 76 (tf 35 3) ?_; refine pw aF 35 77 (tf 36 2) ?_; refine pv aF 36 78 (tf 37 1) ?_; refine pv aF 37 79 (tf 38 0) ?_; refine done_ (done_of aF.out (by kernel_rfl)) ?_; try go_wp2
            go_meet
            case rel => exact ⟨_, (false), RS, H', ⟨by have := HJ1.out; have := HK2.out; first | omega | exact Nat.le_refl _⟩, ⟨KB aA⟩, ⟨K1 HB aK.out⟩⟩
         ·replace nE := Bool.eq_false_iff.mpr nE
          subst nE; replace H := nf H; have H' := Aside0.mk H; clear H; try go_wp2
          replace aA := am (blk_drew aA.out); replace HB := am (below_drew1 HB.out); have eQ : 0 ≤ (aD : Int) := OD; have eR : aD < (aB.length : Int) := OD; obtain ⟨cM, cO, cP, hZ, aM, aN, aO, aP, aQ, aR, aS, aT, aU, aV, aH, cE, cF⟩ := at_T83 fI.out aD eQ eR; have cG := aH; have cQ := aV; have cR := aU; have cS := aT; have cT := aS; have cU := aR; have cV := aQ; have cW := aP; have cX := aO; have cY := aN; have cZ := aM; cases hZ
          replace aM := CX HB.out aM; replace aN := CX HB.out aN; replace aO := CX HB.out aO; replace aP := CX HB.out aP; replace aQ := CX HB.out aQ; replace aR := CX HB.out aR; replace aS := CX HB.out aS; replace aT := CX HB.out aT; replace aU := CX HB.out aU; replace aV := CX HB.out aV; replace aH := CX HB.out aH; have cH := Aside0.mk cF; have dT := Aside0.mk cE; clear cF cE; replace eQ := eq_true eQ; replace eR := eq_true eR; refine start_ (n := 38) (S := fun w' => ce6 w' eP (.int .i64 aI) (.slice fA aX.length fB) (.int .i64 aL) (.slice fC aY.length fD) (.slice (some cM) aB.length fE) (.slice fP aC.length fF) (eleH w' (cM.add ((aD).toNat * 11)) (rd_T83 aB aD) (.slice cO ((rd_T83 aB aD).f9.f1).length cP))) (ds := []) (tf 0 38) (by kernel_rfl) rfl rfl (zc6 aA ⟨(CY HB.out cZ), (CY HB.out cY), (CY HB.out cX), (CY HB.out cW), (CY HB.out cV), (CY HB.out cU), (CY HB.out cT), (CY HB.out cS), (CY HB.out cR), (CY HB.out cQ), (CY HB.out cG)⟩) (fun aG => ?_); refine with_tabW spec_GateOk.tab6 spec_GateOk.bits6 (fun aF dS => ?_); generalize wr.drew = qO at aA HB cH aM aN aH aO aP aQ aR aS aT aU aV aG ⊢; refine pv aF 0 42 (tf 1 37) ?_; refine pv aF 2 44 (tr [1, 1, 1, 35]) ?_; refine tw aF dS 1 43 (tf 3 35) aG ?_; refine pv aF 3 45 (tf 4 34) ?_; refine tw aF dS 4 46 (tf 5 33) aG ?_; refine oW aF 5 47 (tf 6 32) (fun K hK => ?_); refine gW Tryz.func39 #[.agg #[.int .i64 ((rd_T83 aB aD).f0), .int .i64 ((rd_T83 aB aD).f1), .string ((rd_T83 aB aD).f2), .string ((rd_T83 aB aD).f3), .int .i64 ((rd_T83 aB aD).f4), .int .i64 ((rd_T83 aB aD).f5), .int .i64 ((rd_T83 aB aD).f6), .int .i64 ((rd_T83 aB aD).f7), .int .i64 ((rd_T83 aB aD).f8), .int .i64 ((rd_T83 aB aD).f9.f0), .slice cO ((rd_T83 aB aD).f9.f1).length cP]] ?_; with_reducible refine (spec_SaOk.calls k2 ((rd_T83 aB aD).f0) ((rd_T83 aB aD).f1) ((rd_T83 aB aD).f2) ((rd_T83 aB aD).f3) ((rd_T83 aB aD).f4) ((rd_T83 aB aD).f5) ((rd_T83 aB aD).f6) ((rd_T83 aB aD).f7) ((rd_T83 aB aD).f8) ((rd_T83 aB aD).f9.f0) _ _ ((rd_T83 aB aD).f9.f1) false _ ?_ ?_ nP.out).mono ?_
          exact KD cH HB; exact dT.out; rintro e qP ⟨rfl, hb⟩; refine ⟨_, rfl, ?_⟩; replace aA := am (BB aA hb); replace HB := bl (K1 HB aK.out) hb; (try clear hb)
          refine hK.out _ _ (zc6 aA ⟨(CY HB.out cZ), (CY HB.out cY), (CY HB.out cX), (CY HB.out cW), (CY HB.out cV), (CY HB.out cU), (CY HB.out cT), (CY HB.out cS), (CY HB.out cR), (CY HB.out cQ), (CY HB.out cG)⟩) (fun aG => ?_); clear hK K; refine nm (some 47) ?_; refine pv aF 6 48 (tf 7 31) ?_; refine pv aF 7 49 (tf 8 30) ?_; refine pw aF 8 50 (tf 9 29) ?_; refine pw aF 9 51 (tf 10 28) ?_; refine pw aF 10 52 (tf 11 27) ?_; refine pw aF 11 53 (tf 12 26) ?_; refine pw aF 12 54 (tf 13 25) ?_; refine pw aF 13 55 (tf 14 24) ?_; refine pw aF 14 56 (tf 15 23) ?_; refine pw aF 15 57 (tf 16 22) ?_; refine pw aF 16 58 (tf 17 21) ?_; refine pv aF 17 59 (tf 18 20) ?_; refine pv aF 18 60 (tf 19 19) ?_; refine pw aF 19 61 (tf 20 18) ?_; refine pw aF 20 62 (tf 21 17) ?_; refine pw aF 21 63 (tf 22 16) ?_; refine pw aF 22 64 (tf 23 15) ?_; refine pw aF 23 65 (tf 24 14) ?_; refine pw aF 24 66 (tf 25 13) ?_; refine pw aF 25 67 (tf 26 12) ?_; refine pw aF 26 68 (tf 27 11) ?_; refine pw aF 27 69 (tf 28 10) ?_; refine pw aF 28 70 (tf 29 9) ?_; refine pw aF 29 71 (tf 30 8) ?_; refine pw aF 30 72 (tf 31 7) ?_; refine pw aF 31 73 (tf 32 6) ?_; refine pw aF 32 74 (tf 33 5) ?_; refine pw aF 33 75 (tf 34 4) ?_; refine pw aF 34 76 (tf 35 3) ?_; refine pw aF 35 77 (tf 36 2) ?_; refine pw aF 36 78 (tf 37 1) ?_; refine pv aF 37 79 (tf 38 0) ?_; refine done_ (done_of aF.out (by kernel_rfl)) ?_; try go_wp2
          go_meet
          case rel => exact ⟨_, (true), RS, H', ⟨by have := HJ1.out; have := HK2.out; first | omega | exact Nat.le_refl _⟩, ⟨KB aA⟩, ⟨K1 HB aK.out⟩⟩
        ·rw [if_neg nD] at H
         exact absurd H (by simp)
       case rest =>
        clear mT; try clear nD
        try clear nE
        try clear aM
        try clear aN
        try clear aH
        try clear aO
        try clear aP
        try clear aQ
        try clear aR
        try clear aS
        try clear aT
        try clear aU
        try clear aV
        try clear bK
        try clear bL
        try clear aW
        try clear bM
        try clear bN
        try clear bO
        try clear bP
        try clear bQ
        try clear bR
        try clear bS
        try clear bT
        try clear eQ
        try clear fM
        try clear eR
        try clear fN
        obtain ⟨kq, hH, rfl, HA, HJ21, aA, HB⟩ := hcut; cases kq with
        | zero => exact absurd HA.out (by simp [spec_GateOk.j2])
        | succ kj21 =>
         have H := HA.out; clear HA; simp only [spec_GateOk.j2] at H; by_cases nV : hH = true
         ·subst nV
          replace H := pf H; obtain rfl := sj H; go_wp2
          go_ret
          exact ⟨ER, K1 HB aK.out⟩
         ·replace nV := Bool.eq_false_iff.mpr nV
          subst nV; replace H := nf H; have H' := Aside0.mk H; clear H; go_wp2
          go_roundg kj21
          case measure => have := HJ1.out; have := HK2.out; have := HJ21.out; omega
          case rel => exact ⟨(wrap64 (aD + 1)), RS, H', ⟨by have := HJ1.out; have := HK2.out; have := HJ21.out; omega⟩, ⟨KB aA⟩, ⟨K1 HB aK.out⟩⟩
      ·rw [if_neg mS] at H
       have c21b0 := decide_eq_false mS; clear mS; have H' := Aside0.mk H; clear H; obtain ⟨mB, mC, mD, mE, mF, mG, mH⟩ := y6 wr aA.out; go_wp2
       go_loopg [4] k2 (fun kq v4 w' => ∃ (aE : Int), v4 = .int .i64 aE ∧ Aside0 (spec_GateOk.l1 kq aE aI aX aL aY aB aC = some r) ∧ Aside0 (kq ≤ k2) ∧ Aside0 (w'.heap[eP]? = some (.cells #[.int .i64 aI, (.slice fA aX.length fB), .int .i64 aL, (.slice fC aY.length fD), (.slice fO aB.length fE), (.slice fP aC.length fF)] 37 (0, 0))) ∧ Aside0 (Below w.heap.size w w'))
       case atStart => exact ⟨(0), RS, H', ⟨Nat.le_refl _⟩, ⟨KB aA⟩, ⟨K1 HB aK.out⟩⟩
       case round =>
        clear H'; try clear mS
        try clear c21b0
        try clear nD
        try clear nE
        try clear nV
        try clear mB mC mD mE mF mG mH
        try clear aM
        try clear aN
        try clear aH
        try clear aO
        try clear aP
        try clear aQ
        try clear aR
        try clear aS
        try clear aT
        try clear aU
        try clear aV
        try clear bK
        try clear bL
        try clear aW
        try clear bM
        try clear bN
        try clear bO
        try clear bP
        try clear bQ
        try clear bR
        try clear bS
        try clear bT
        try clear eQ
        try clear fM
        try clear eR
        try clear fN
        obtain ⟨aE, rfl, HA, HK3, aA, HB⟩ := hrel; cases gk with
        | zero => exact absurd HA.out (by simp [spec_GateOk.l1])
        | succ k3 =>
         have H := HA.out; clear HA; simp only [spec_GateOk.l1] at H; by_cases nH : aE < (aC.length : Int)
         ·rw [if_pos nH] at H
          have c42b0 := decide_eq_true nH; clear nH; have mY := Aside0.mk H; clear H; have ⟨_, _, _, _, _, _, _⟩ := y6 wr aA.out; go_upto_region 11 with (fail)
          go_cut [124] (fun pO wc => ∃ (kq : Nat) (gM : Bool), pO = .bool gM ∧ Aside0 (spec_GateOk.j4 kq aE gM aI aX aL aY aB aC = some r) ∧ Aside0 (kq ≤ k3) ∧ Aside0 (wc.heap[eP]? = some (.cells #[.int .i64 aI, (.slice fA aX.length fB), .int .i64 aL, (.slice fC aY.length fD), (.slice fO aB.length fE), (.slice fP aC.length fF)] 37 (0, 0))) ∧ Aside0 (Below w.heap.size w wc))
          case first =>
           have H := mY.out; clear mY; by_cases nW : 0 ≤ aE
           ·rw [if_pos nW] at H
            have c45b0 := decide_eq_true nW; clear nW; (first | rw [c45b0] | (simp only [i64_w, i32_w]; rw [c45b0]) | skip)
            obtain ⟨nX, nZ, H⟩ := b1 H; by_cases oA : nX = true
            ·subst oA
             replace H := pf H; by_cases nI : ((rd_T83 aC aE).f4) > aI
             ·rw [if_pos nI] at H
              have c48b0 := decide_eq_true nI; clear nI; have H' := Aside0.mk H; clear H; try go_wp2
              replace aA := am (blk_drew aA.out); replace HB := am (below_drew1 HB.out); have fG : 0 ≤ (aE : Int) := OD; have fH : aE < (aC.length : Int) := OD; obtain ⟨cN, dA, dB, iA, aZ, bA, bB, bC, bD, bE, bF, bG, bH, bI, aJ, cI, cJ⟩ := at_T83 fJ.out aE fG fH; have cK := aJ; have dC := bI; have dD := bH; have dE := bG; have dF := bF; have dG := bE; have dH := bD; have dI := bC; have dJ := bB; have dK := bA; have dL := aZ; cases iA
              replace aZ := CX HB.out aZ; replace bA := CX HB.out bA; replace bB := CX HB.out bB; replace bC := CX HB.out bC; replace bD := CX HB.out bD; replace bE := CX HB.out bE; replace bF := CX HB.out bF; replace bG := CX HB.out bG; replace bH := CX HB.out bH; replace bI := CX HB.out bI; replace aJ := CX HB.out aJ; have cL := Aside0.mk cJ; have dU := Aside0.mk cI; clear cJ cI; replace fG := eq_true fG; replace fH := eq_true fH; have fQ : 0 ≤ (aE : Int) := OD; have fR : aE < (aC.length : Int) := OD; obtain ⟨hR, eY, eZ, lV, bU, bV, bW, bX, bY, bZ, cA, cB, cC, cD, bJ, dP, dQ⟩ := at_T83 fJ.out aE fQ fR; have dR := bJ; have eF := cD; have eG := cC; have eH := cB; have eI := cA; have eJ := bZ; have eK := bY; have eL := bX; have eM := bW; have eN := bV; have eO := bU; obtain rfl : cN = hR := (by injection lV); replace bU := CX HB.out bU; replace bV := CX HB.out bV; replace bW := CX HB.out bW; replace bX := CX HB.out bX; replace bY := CX HB.out bY; replace bZ := CX HB.out bZ; replace cA := CX HB.out cA; replace cB := CX HB.out cB; replace cC := CX HB.out cC; replace cD := CX HB.out cD; replace bJ := CX HB.out bJ; have eU := Aside0.mk dQ; have hS := Aside0.mk dP; clear dQ dP; replace fQ := eq_true fQ; replace fR := eq_true fR; refine start_ (n := 38) (S := fun w' => ce6 w' eP (.int .i64 aI) (.slice fA aX.length fB) (.int .i64 aL) (.slice fC aY.length fD) (.slice fO aB.length fE) (.slice (some cN) aC.length fF) (eleG w' (cN.add ((aE).toNat * 11)) (rd_T83 aC aE) (.slice dA ((rd_T83 aC aE).f9.f1).length dB) (eleH w' (cN.add ((aE).toNat * 11)) (rd_T83 aC aE) (.slice eY ((rd_T83 aC aE).f9.f1).length eZ)))) (ds := []) (tf 0 38) (by kernel_rfl) rfl rfl (zc6 aA ⟨(CY HB.out dL), (CY HB.out dK), (CY HB.out dJ), (CY HB.out dI), (CY HB.out dH), (CY HB.out dG), (CY HB.out dF), (CY HB.out dE), (CY HB.out dD), (CY HB.out dC), (CY HB.out cK), (CY HB.out eO), (CY HB.out eN), (CY HB.out eM), (CY HB.out eL), (CY HB.out eK), (CY HB.out eJ), (CY HB.out eI), (CY HB.out eH), (CY HB.out eG), (CY HB.out eF), (CY HB.out dR)⟩) (fun aG => ?_); refine with_tabW spec_GateOk.tab11 spec_GateOk.bits11 (fun aF dS => ?_); generalize wr.drew = qQ at aA HB cL eU aZ bA aJ bB bC bD bE bF bG bH bI bU bV bJ bW bX bY bZ cA cB cC cD aG ⊢; refine pv aF 0 87 (tf 1 37) ?_; refine pv aF 2 89 (tr [1, 1, 1, 35]) ?_; refine tw aF dS 1 88 (tf 3 35) aG ?_; refine pv aF 3 90 (tf 4 34) ?_; refine tw aF dS 4 91 (tf 5 33) aG ?_; refine oW aF 5 92 (tf 6 32) (fun K hK => ?_); refine gW Tryz.func39 #[.agg #[.int .i64 ((rd_T83 aC aE).f0), .int .i64 ((rd_T83 aC aE).f1), .string ((rd_T83 aC aE).f2), .string ((rd_T83 aC aE).f3), .int .i64 ((rd_T83 aC aE).f4), .int .i64 ((rd_T83 aC aE).f5), .int .i64 ((rd_T83 aC aE).f6), .int .i64 ((rd_T83 aC aE).f7), .int .i64 ((rd_T83 aC aE).f8), .int .i64 ((rd_T83 aC aE).f9.f0), .slice dA ((rd_T83 aC aE).f9.f1).length dB]] ?_; with_reducible refine (spec_SaOk.calls k3 ((rd_T83 aC aE).f0) ((rd_T83 aC aE).f1) ((rd_T83 aC aE).f2) ((rd_T83 aC aE).f3) ((rd_T83 aC aE).f4) ((rd_T83 aC aE).f5) ((rd_T83 aC aE).f6) ((rd_T83 aC aE).f7) ((rd_T83 aC aE).f8) ((rd_T83 aC aE).f9.f0) _ _ ((rd_T83 aC aE).f9.f1) true _ ?_ ?_ nZ.out).mono ?_
              exact KD cL HB; exact dU.out; rintro e qR ⟨rfl, hb⟩; refine ⟨_, rfl, ?_⟩; replace aA := am (BB aA hb); replace HB := bl (K1 HB aK.out) hb; (try clear hb)
              refine hK.out _ _ (zc6 aA ⟨(CY HB.out dL), (CY HB.out dK), (CY HB.out dJ), (CY HB.out dI), (CY HB.out dH), (CY HB.out dG), (CY HB.out dF), (CY HB.out dE), (CY HB.out dD), (CY HB.out dC), (CY HB.out cK), (CY HB.out eO), (CY HB.out eN), (CY HB.out eM), (CY HB.out eL), (CY HB.out eK), (CY HB.out eJ), (CY HB.out eI), (CY HB.out eH), (CY HB.out eG), (CY HB.out eF), (CY HB.out dR)⟩) (fun aG => ?_); clear hK K; refine nm (some 92) ?_; refine pv aF 6 93 (tf 7 31) ?_; refine pv aF 7 94 (tf 8 30) ?_; refine pv aF 8 95 (tf 9 29) ?_; refine pv aF 10 97 (tr [9, 1, 1, 27]) ?_; refine pv aF 14 101 (tr [9, 1, 1, 3, 1, 23]) ?_; refine tw aF dS 9 96 (tr [11, 3, 1, 23]) aG ?_; refine pv aF 11 98 (tr [12, 2, 1, 23]) ?_; refine pv aF 12 99 (tr [13, 1, 1, 23]) ?_; refine tw aF dS 13 100 (tf 15 23) aG ?_; refine tw aF dS 15 102 (tf 16 22) aG ?_; refine pv aF 16 103 (tf 17 21) ?_; refine pv aF 17 104 (tf 18 20) ?_; refine pv aF 18 105 (tf 19 19) ?_; refine pw aF 19 106 (tf 20 18) ?_; refine pw aF 20 107 (tf 21 17) ?_; refine pw aF 21 108 (tf 22 16) ?_; refine pw aF 22 109 (tf 23 15) ?_; refine pw aF 23 110 (tf 24 14) ?_; refine pw aF 24 111 (tf 25 13) ?_; refine pw aF 25 112 (tf 26 12) ?_; refine pw aF 26 113 (tf 27 11) ?_; refine pw aF 27 114 (tf 28 10) ?_; refine pw aF 28 115 (tf 29 9) ?_; refine pw aF 29 116 (tf 30 8) ?_; refine pw aF 30 117 (tf 31 7) ?_; refine pw aF 31 118 (tf 32 6) ?_; refine pw aF 32 119 (tf 33 5) ?_; refine pw aF 33 120 (tf 34 4) ?_; refine pw aF 34 121 (tf 35 3) ?_; refine pw aF 35 122 (tf 36 2) ?_; refine pw aF 36 123 (tf 37 1) ?_; refine pv aF 37 124 (tf 38 0) ?_; refine done_ (done_of aF.out (by kernel_rfl)) ?_; try go_wp2
              go_meet
              case rel => exact ⟨_, (true), RS, H', ⟨by have := HJ1.out; have := HK2.out; have := HK3.out; first | omega | exact Nat.le_refl _⟩, ⟨KB aA⟩, ⟨K1 HB aK.out⟩⟩
             ·rw [if_neg nI] at H
              have c48b0 := decide_eq_false nI; clear nI; by_cases nJ : aE > 0
              ·rw [if_pos nJ] at H
               have c51b0 := decide_eq_true nJ; clear nJ; obtain ⟨ji52, hji52⟩ : ∃ j_ : Int, (wrap64 (aE - 1)) = j_ := ⟨_, rfl⟩; replace H : (if 0 ≤ (ji52) then (if (ji52) < (aC.length : Int) then (spec_GateOk.j4 k3 aE (decide (((rd_T83 aC (ji52)).f0) ≥ ((rd_T83 aC aE).f0))) aI aX aL aY aB aC) else (none)) else (none)) = some r := by first | (rw [hji52] at H; exact H) | (simp only [hji52] at H ⊢; exact H)
               (try rw [hji52] at nZ)
               have hji52w : (IntKind.i64.wrap (aE - 1)) = ji52 := (i64_w _).trans hji52; by_cases oX : 0 ≤ (ji52)
               ·rw [if_pos oX] at H
                have c53b0 := decide_eq_true oX; clear oX; by_cases oY : (ji52) < (aC.length : Int)
                ·rw [if_pos oY] at H
                 have c54b0 := decide_eq_true oY; clear oY; have H' := Aside0.mk H; clear H; try go_wp2
                 replace aA := am (blk_drew aA.out); replace HB := am (below_drew1 HB.out); have fG : 0 ≤ (aE : Int) := OD; have fH : aE < (aC.length : Int) := OD; obtain ⟨cN, dA, dB, iA, aZ, bA, bB, bC, bD, bE, bF, bG, bH, bI, aJ, cI, cJ⟩ := at_T83 fJ.out aE fG fH; have cK := aJ; have dC := bI; have dD := bH; have dE := bG; have dF := bF; have dG := bE; have dH := bD; have dI := bC; have dJ := bB; have dK := bA; have dL := aZ; cases iA
                 replace aZ := CX HB.out aZ; replace bA := CX HB.out bA; replace bB := CX HB.out bB; replace bC := CX HB.out bC; replace bD := CX HB.out bD; replace bE := CX HB.out bE; replace bF := CX HB.out bF; replace bG := CX HB.out bG; replace bH := CX HB.out bH; replace bI := CX HB.out bI; replace aJ := CX HB.out aJ; have cL := Aside0.mk cJ; have dU := Aside0.mk cI; clear cJ cI; replace fG := eq_true fG; replace fH := eq_true fH; have fQ : 0 ≤ (aE : Int) := OD; have fR : aE < (aC.length : Int) := OD; obtain ⟨hR, eY, eZ, lV, bU, bV, bW, bX, bY, bZ, cA, cB, cC, cD, bJ, dP, dQ⟩ := at_T83 fJ.out aE fQ fR; have dR := bJ; have eF := cD; have eG := cC; have eH := cB; have eI := cA; have eJ := bZ; have eK := bY; have eL := bX; have eM := bW; have eN := bV; have eO := bU; obtain rfl : cN = hR := (by injection lV); replace bU := CX HB.out bU; replace bV := CX HB.out bV; replace bW := CX HB.out bW; replace bX := CX HB.out bX; replace bY := CX HB.out bY; replace bZ := CX HB.out bZ; replace cA := CX HB.out cA; replace cB := CX HB.out cB; replace cC := CX HB.out cC; replace cD := CX HB.out cD; replace bJ := CX HB.out bJ; have eU := Aside0.mk dQ; have hS := Aside0.mk dP; clear dQ dP; replace fQ := eq_true fQ; replace fR := eq_true fR; have mZ : 0 ≤ ((ji52) : Int) := OD; have nA : (ji52) < (aC.length : Int) := OD; obtain ⟨oB, mI, mJ, pP, gN, gO, gP, gQ, gR, gS, gT, gU, gV, gW_, fL, hT, hU⟩ := at_T83 fJ.out (ji52) mZ nA; have hV := fL; have kT := gW_; have kU := gV; have kV := gU; have kW := gT; have kX := gS; have kY := gR; have kZ := gQ; have lA := gP; have lB := gO; have lC := gN; obtain rfl : cN = oB := (by injection pP); replace gN := CX HB.out gN; replace gO := CX HB.out gO; replace gP := CX HB.out gP; replace gQ := CX HB.out gQ; replace gR := CX HB.out gR; replace gS := CX HB.out gS; replace gT := CX HB.out gT; replace gU := CX HB.out gU; replace gV := CX HB.out gV; replace gW_ := CX HB.out gW_; replace fL := CX HB.out fL; have lW := Aside0.mk hU; have oC := Aside0.mk hT; clear hU hT; replace mZ := eq_true mZ; replace nA := eq_true nA; have nB : 0 ≤ (aE : Int) := OD; have nC : aE < (aC.length : Int) := OD; obtain ⟨oD, _, _, pQ, gX, gY, gZ, hA, hB, hC, hD, hE, hF, hG, eV, hW, hX⟩ := at_T83 fJ.out aE nB nC; have hY := eV; have lD := hG; have lE := hF; have lF := hE; have lG := hD; have lH := hC; have lI := hB; have lJ := hA; have lK := gZ; have lL := gY; have lM := gX; obtain rfl : cN = oD := (by injection pQ); replace gX := CX HB.out gX; replace gY := CX HB.out gY; replace gZ := CX HB.out gZ; replace hA := CX HB.out hA; replace hB := CX HB.out hB; replace hC := CX HB.out hC; replace hD := CX HB.out hD; replace hE := CX HB.out hE; replace hF := CX HB.out hF; replace hG := CX HB.out hG; replace eV := CX HB.out eV; have lX := Aside0.mk hX; have oE := Aside0.mk hW; clear hX hW; replace nB := eq_true nB; replace nC := eq_true nC; have ea_ := Option.some.inj (bJ.symm.trans eV); injection ea_ with ea_ en_ ec_
                 subst ea_; subst ec_; clear en_; refine start_ (n := 38) (S := fun w' => ce6 w' eP (.int .i64 aI) (.slice fA aX.length fB) (.int .i64 aL) (.slice fC aY.length fD) (.slice fO aB.length fE) (.slice (some cN) aC.length fF) (eleG w' (cN.add ((aE).toNat * 11)) (rd_T83 aC aE) (.slice dA ((rd_T83 aC aE).f9.f1).length dB) (eleG w' (cN.add ((aE).toNat * 11)) (rd_T83 aC aE) (.slice eY ((rd_T83 aC aE).f9.f1).length eZ) (eleG w' (cN.add (((ji52)).toNat * 11)) (rd_T83 aC (ji52)) (.slice mI ((rd_T83 aC (ji52)).f9.f1).length mJ) (eleH w' (cN.add ((aE).toNat * 11)) (rd_T83 aC aE) (.slice eY ((rd_T83 aC aE).f9.f1).length eZ)))))) (ds := []) (tf 0 38) (by kernel_rfl) rfl rfl (zc6 aA ⟨(CY HB.out dL), (CY HB.out dK), (CY HB.out dJ), (CY HB.out dI), (CY HB.out dH), (CY HB.out dG), (CY HB.out dF), (CY HB.out dE), (CY HB.out dD), (CY HB.out dC), (CY HB.out cK), (CY HB.out eO), (CY HB.out eN), (CY HB.out eM), (CY HB.out eL), (CY HB.out eK), (CY HB.out eJ), (CY HB.out eI), (CY HB.out eH), (CY HB.out eG), (CY HB.out eF), (CY HB.out dR), (CY HB.out lC), (CY HB.out lB), (CY HB.out lA), (CY HB.out kZ), (CY HB.out kY), (CY HB.out kX), (CY HB.out kW), (CY HB.out kV), (CY HB.out kU), (CY HB.out kT), (CY HB.out hV), (CY HB.out lM), (CY HB.out lL), (CY HB.out lK), (CY HB.out lJ), (CY HB.out lI), (CY HB.out lH), (CY HB.out lG), (CY HB.out lF), (CY HB.out lE), (CY HB.out lD), (CY HB.out hY)⟩) (fun aG => ?_); refine with_tabW spec_GateOk.tab11 spec_GateOk.bits11 (fun aF dS => ?_); generalize wr.drew = qS at aA HB cL eU lW lX aZ bA aJ bB bC bD bE bF bG bH bI bU bV bJ bW bX bY bZ cA cB cC cD gN gO fL gP gQ gR gS gT gU gV gW_ gX gY eV gZ hA hB hC hD hE hF hG aG ⊢; refine pv aF 0 87 (tf 1 37) ?_; refine pv aF 2 89 (tr [1, 1, 1, 35]) ?_; refine tw aF dS 1 88 (tf 3 35) aG ?_; refine pv aF 3 90 (tf 4 34) ?_; refine tw aF dS 4 91 (tf 5 33) aG ?_; refine oW aF 5 92 (tf 6 32) (fun K hK => ?_); refine gW Tryz.func39 #[.agg #[.int .i64 ((rd_T83 aC aE).f0), .int .i64 ((rd_T83 aC aE).f1), .string ((rd_T83 aC aE).f2), .string ((rd_T83 aC aE).f3), .int .i64 ((rd_T83 aC aE).f4), .int .i64 ((rd_T83 aC aE).f5), .int .i64 ((rd_T83 aC aE).f6), .int .i64 ((rd_T83 aC aE).f7), .int .i64 ((rd_T83 aC aE).f8), .int .i64 ((rd_T83 aC aE).f9.f0), .slice dA ((rd_T83 aC aE).f9.f1).length dB]] ?_; with_reducible refine (spec_SaOk.calls k3 ((rd_T83 aC aE).f0) ((rd_T83 aC aE).f1) ((rd_T83 aC aE).f2) ((rd_T83 aC aE).f3) ((rd_T83 aC aE).f4) ((rd_T83 aC aE).f5) ((rd_T83 aC aE).f6) ((rd_T83 aC aE).f7) ((rd_T83 aC aE).f8) ((rd_T83 aC aE).f9.f0) _ _ ((rd_T83 aC aE).f9.f1) true _ ?_ ?_ nZ.out).mono ?_
                 exact KD cL HB; exact dU.out; rintro e qT ⟨rfl, hb⟩; refine ⟨_, rfl, ?_⟩; replace aA := am (BB aA hb); replace HB := bl (K1 HB aK.out) hb; (try clear hb)
                 refine hK.out _ _ (zc6 aA ⟨(CY HB.out dL), (CY HB.out dK), (CY HB.out dJ), (CY HB.out dI), (CY HB.out dH), (CY HB.out dG), (CY HB.out dF), (CY HB.out dE), (CY HB.out dD), (CY HB.out dC), (CY HB.out cK), (CY HB.out eO), (CY HB.out eN), (CY HB.out eM), (CY HB.out eL), (CY HB.out eK), (CY HB.out eJ), (CY HB.out eI), (CY HB.out eH), (CY HB.out eG), (CY HB.out eF), (CY HB.out dR), (CY HB.out lC), (CY HB.out lB), (CY HB.out lA), (CY HB.out kZ), (CY HB.out kY), (CY HB.out kX), (CY HB.out kW), (CY HB.out kV), (CY HB.out kU), (CY HB.out kT), (CY HB.out hV), (CY HB.out lM), (CY HB.out lL), (CY HB.out lK), (CY HB.out lJ), (CY HB.out lI), (CY HB.out lH), (CY HB.out lG), (CY HB.out lF), (CY HB.out lE), (CY HB.out lD), (CY HB.out hY)⟩) (fun aG => ?_); clear hK K; refine nm (some 92) ?_; refine pv aF 6 93 (tf 7 31) ?_; refine pv aF 7 94 (tf 8 30) ?_; refine pv aF 8 95 (tf 9 29) ?_; refine pv aF 10 97 (tr [9, 1, 1, 27]) ?_; refine pv aF 14 101 (tr [9, 1, 1, 3, 1, 23]) ?_; refine tw aF dS 9 96 (tr [11, 3, 1, 23]) aG ?_; refine pv aF 11 98 (tr [12, 2, 1, 23]) ?_; refine pv aF 12 99 (tr [13, 1, 1, 23]) ?_; refine tw aF dS 13 100 (tf 15 23) aG ?_; refine tw aF dS 15 102 (tf 16 22) aG ?_; refine pv aF 16 103 (tf 17 21) ?_; refine pv aF 17 104 (tf 18 20) ?_; refine pv aF 18 105 (tf 19 19) ?_; refine pv aF 19 106 (tf 20 18) ?_; refine pv aF 20 107 (tf 21 17) ?_; refine pv aF 21 108 (tf 22 16) ?_; refine pv aF 22 109 (tf 23 15) ?_; refine pv aF 24 111 (tr [23, 1, 1, 13]) ?_; refine pv aF 25 112 (tr [23, 1, 2, 12]) ?_; refine pv aF 29 116 (tr [23, 1, 2, 3, 1, 8]) ?_; refine pv aF 31 118 (tr [23, 1, 2, 3, 1, 1, 1, 6]) ?_; refine tw aF dS 23 110 (tr [26, 3, 1, 1, 1, 6]) aG ?_; refine pv aF 26 113 (tr [27, 2, 1, 1, 1, 6]) ?_; refine pv aF 27 114 (tr [28, 1, 1, 1, 1, 6]) ?_; refine tw aF dS 28 115 (tr [30, 1, 1, 6]) aG ?_; refine tw aF dS 30 117 (tf 32 6) aG ?_; refine pv aF 32 119 (tf 33 5) ?_; refine pv aF 33 120 (tf 34 4) ?_; refine tw aF dS 34 121 (tf 35 3) aG ?_; refine pv aF 35 122 (tf 36 2) ?_; refine pv aF 36 123 (tf 37 1) ?_; refine pv aF 37 124 (tf 38 0) ?_; refine done_ (done_of aF.out (by kernel_rfl)) ?_; try go_wp2
                 go_meet
                 case rel => exact ⟨_, (decide (((rd_T83 aC (ji52)).f0) ≥ ((rd_T83 aC aE).f0))), (by first | rfl | (simp; done) | (simp only [← hji52] <;> (first | rfl | simp)) | (simp [*]; done)), H', ⟨by have := HJ1.out; have := HK2.out; have := HK3.out; first | omega | exact Nat.le_refl _⟩, ⟨KB aA⟩, ⟨K1 HB aK.out⟩⟩
                ·rw [if_neg oY] at H
                 exact absurd H (by simp)
               ·rw [if_neg oX] at H
                exact absurd H (by simp)
              ·rw [if_neg nJ] at H
               have c51b0 := decide_eq_false nJ; clear nJ; have H' := Aside0.mk H; clear H; try go_wp2
               replace aA := am (blk_drew aA.out); replace HB := am (below_drew1 HB.out); have fG : 0 ≤ (aE : Int) := OD; have fH : aE < (aC.length : Int) := OD; obtain ⟨cN, dA, dB, iA, aZ, bA, bB, bC, bD, bE, bF, bG, bH, bI, aJ, cI, cJ⟩ := at_T83 fJ.out aE fG fH; have cK := aJ; have dC := bI; have dD := bH; have dE := bG; have dF := bF; have dG := bE; have dH := bD; have dI := bC; have dJ := bB; have dK := bA; have dL := aZ; cases iA
               replace aZ := CX HB.out aZ; replace bA := CX HB.out bA; replace bB := CX HB.out bB; replace bC := CX HB.out bC; replace bD := CX HB.out bD; replace bE := CX HB.out bE; replace bF := CX HB.out bF; replace bG := CX HB.out bG; replace bH := CX HB.out bH; replace bI := CX HB.out bI; replace aJ := CX HB.out aJ; have cL := Aside0.mk cJ; have dU := Aside0.mk cI; clear cJ cI; replace fG := eq_true fG; replace fH := eq_true fH; have fQ : 0 ≤ (aE : Int) := OD; have fR : aE < (aC.length : Int) := OD; obtain ⟨hR, eY, eZ, lV, bU, bV, bW, bX, bY, bZ, cA, cB, cC, cD, bJ, dP, dQ⟩ := at_T83 fJ.out aE fQ fR; have dR := bJ; have eF := cD; have eG := cC; have eH := cB; have eI := cA; have eJ := bZ; have eK := bY; have eL := bX; have eM := bW; have eN := bV; have eO := bU; obtain rfl : cN = hR := (by injection lV); replace bU := CX HB.out bU; replace bV := CX HB.out bV; replace bW := CX HB.out bW; replace bX := CX HB.out bX; replace bY := CX HB.out bY; replace bZ := CX HB.out bZ; replace cA := CX HB.out cA; replace cB := CX HB.out cB; replace cC := CX HB.out cC; replace cD := CX HB.out cD; replace bJ := CX HB.out bJ; have eU := Aside0.mk dQ; have hS := Aside0.mk dP; clear dQ dP; replace fQ := eq_true fQ; replace fR := eq_true fR; refine start_ (n := 38) (S := fun w' => ce6 w' eP (.int .i64 aI) (.slice fA aX.length fB) (.int .i64 aL) (.slice fC aY.length fD) (.slice fO aB.length fE) (.slice (some cN) aC.length fF) (eleG w' (cN.add ((aE).toNat * 11)) (rd_T83 aC aE) (.slice dA ((rd_T83 aC aE).f9.f1).length dB) (eleH w' (cN.add ((aE).toNat * 11)) (rd_T83 aC aE) (.slice eY ((rd_T83 aC aE).f9.f1).length eZ)))) (ds := []) (tf 0 38) (by kernel_rfl) rfl rfl (zc6 aA ⟨(CY HB.out dL), (CY HB.out dK), (CY HB.out dJ), (CY HB.out dI), (CY HB.out dH), (CY HB.out dG), (CY HB.out dF), (CY HB.out dE), (CY HB.out dD), (CY HB.out dC), (CY HB.out cK), (CY HB.out eO), (CY HB.out eN), (CY HB.out eM), (CY HB.out eL), (CY HB.out eK), (CY HB.out eJ), (CY HB.out eI), (CY HB.out eH), (CY HB.out eG), (CY HB.out eF), (CY HB.out dR)⟩) (fun aG => ?_); refine with_tabW spec_GateOk.tab11 spec_GateOk.bits11 (fun aF dS => ?_); generalize wr.drew = qU at aA HB cL eU aZ bA aJ bB bC bD bE bF bG bH bI bU bV bJ bW bX bY bZ cA cB cC cD aG ⊢; refine pv aF 0 87 (tf 1 37) ?_; refine pv aF 2 89 (tr [1, 1, 1, 35]) ?_; refine tw aF dS 1 88 (tf 3 35) aG ?_; refine pv aF 3 90 (tf 4 34) ?_; refine tw aF dS 4 91 (tf 5 33) aG ?_; refine oW aF 5 92 (tf 6 32) (fun K hK => ?_); refine gW Tryz.func39 #[.agg #[.int .i64 ((rd_T83 aC aE).f0), .int .i64 ((rd_T83 aC aE).f1), .string ((rd_T83 aC aE).f2), .string ((rd_T83 aC aE).f3), .int .i64 ((rd_T83 aC aE).f4), .int .i64 ((rd_T83 aC aE).f5), .int .i64 ((rd_T83 aC aE).f6), .int .i64 ((rd_T83 aC aE).f7), .int .i64 ((rd_T83 aC aE).f8), .int .i64 ((rd_T83 aC aE).f9.f0), .slice dA ((rd_T83 aC aE).f9.f1).length dB]] ?_; with_reducible refine (spec_SaOk.calls k3 ((rd_T83 aC aE).f0) ((rd_T83 aC aE).f1) ((rd_T83 aC aE).f2) ((rd_T83 aC aE).f3) ((rd_T83 aC aE).f4) ((rd_T83 aC aE).f5) ((rd_T83 aC aE).f6) ((rd_T83 aC aE).f7) ((rd_T83 aC aE).f8) ((rd_T83 aC aE).f9.f0) _ _ ((rd_T83 aC aE).f9.f1) true _ ?_ ?_ nZ.out).mono ?_
               exact KD cL HB; exact dU.out; rintro e qV ⟨rfl, hb⟩; refine ⟨_, rfl, ?_⟩; replace aA := am (BB aA hb); replace HB := bl (K1 HB aK.out) hb; (try clear hb)
               refine hK.out _ _ (zc6 aA ⟨(CY HB.out dL), (CY HB.out dK), (CY HB.out dJ), (CY HB.out dI), (CY HB.out dH), (CY HB.out dG), (CY HB.out dF), (CY HB.out dE), (CY HB.out dD), (CY HB.out dC), (CY HB.out cK), (CY HB.out eO), (CY HB.out eN), (CY HB.out eM), (CY HB.out eL), (CY HB.out eK), (CY HB.out eJ), (CY HB.out eI), (CY HB.out eH), (CY HB.out eG), (CY HB.out eF), (CY HB.out dR)⟩) (fun aG => ?_); clear hK K; refine nm (some 92) ?_; refine pv aF 6 93 (tf 7 31) ?_; refine pv aF 7 94 (tf 8 30) ?_; refine pv aF 8 95 (tf 9 29) ?_; refine pv aF 10 97 (tr [9, 1, 1, 27]) ?_; refine pv aF 14 101 (tr [9, 1, 1, 3, 1, 23]) ?_; refine tw aF dS 9 96 (tr [11, 3, 1, 23]) aG ?_; refine pv aF 11 98 (tr [12, 2, 1, 23]) ?_; refine pv aF 12 99 (tr [13, 1, 1, 23]) ?_; refine tw aF dS 13 100 (tf 15 23) aG ?_; refine tw aF dS 15 102 (tf 16 22) aG ?_; refine pv aF 16 103 (tf 17 21) ?_; refine pv aF 17 104 (tf 18 20) ?_; refine pv aF 18 105 (tf 19 19) ?_; refine pv aF 19 106 (tf 20 18) ?_; refine pv aF 20 107 (tf 21 17) ?_; refine pv aF 21 108 (tf 22 16) ?_; refine pw aF 22 109 (tf 23 15) ?_; refine pw aF 23 110 (tf 24 14) ?_; refine pw aF 24 111 (tf 25 13) ?_; refine pw aF 25 112 (tf 26 12) ?_; refine pw aF 26 113 (tf 27 11) ?_; refine pw aF 27 114 (tf 28 10) ?_; refine pw aF 28 115 (tf 29 9) ?_; refine pw aF 29 116 (tf 30 8) ?_; refine pw aF 30 117 (tf 31 7) ?_; refine pw aF 31 118 (tf 32 6) ?_; refine pw aF 32 119 (tf 33 5) ?_; refine pw aF 33 120 (tf 34 4) ?_; refine pw aF 34 121 (tf 35 3) ?_; refine pw aF 35 122 (tf 36 2) ?_; refine pv aF 36 123 (tf 37 1) ?_; refine pv aF 37 124 (tf 38 0) ?_; refine done_ (done_of aF.out (by kernel_rfl)) ?_; try go_wp2
               go_meet
               case rel => exact ⟨_, (false), RS, H', ⟨by have := HJ1.out; have := HK2.out; have := HK3.out; first | omega | exact Nat.le_refl _⟩, ⟨KB aA⟩, ⟨K1 HB aK.out⟩⟩
            ·replace oA := Bool.eq_false_iff.mpr oA
             subst oA; replace H := nf H; have H' := Aside0.mk H; clear H; try go_wp2
             replace aA := am (blk_drew aA.out); replace HB := am (below_drew1 HB.out); have fG : 0 ≤ (aE : Int) := OD; have fH : aE < (aC.length : Int) := OD; obtain ⟨cN, dA, dB, iA, aZ, bA, bB, bC, bD, bE, bF, bG, bH, bI, aJ, cI, cJ⟩ := at_T83 fJ.out aE fG fH; have cK := aJ; have dC := bI; have dD := bH; have dE := bG; have dF := bF; have dG := bE; have dH := bD; have dI := bC; have dJ := bB; have dK := bA; have dL := aZ; cases iA
             replace aZ := CX HB.out aZ; replace bA := CX HB.out bA; replace bB := CX HB.out bB; replace bC := CX HB.out bC; replace bD := CX HB.out bD; replace bE := CX HB.out bE; replace bF := CX HB.out bF; replace bG := CX HB.out bG; replace bH := CX HB.out bH; replace bI := CX HB.out bI; replace aJ := CX HB.out aJ; have cL := Aside0.mk cJ; have dU := Aside0.mk cI; clear cJ cI; replace fG := eq_true fG; replace fH := eq_true fH; refine start_ (n := 38) (S := fun w' => ce6 w' eP (.int .i64 aI) (.slice fA aX.length fB) (.int .i64 aL) (.slice fC aY.length fD) (.slice fO aB.length fE) (.slice (some cN) aC.length fF) (eleH w' (cN.add ((aE).toNat * 11)) (rd_T83 aC aE) (.slice dA ((rd_T83 aC aE).f9.f1).length dB))) (ds := []) (tf 0 38) (by kernel_rfl) rfl rfl (zc6 aA ⟨(CY HB.out dL), (CY HB.out dK), (CY HB.out dJ), (CY HB.out dI), (CY HB.out dH), (CY HB.out dG), (CY HB.out dF), (CY HB.out dE), (CY HB.out dD), (CY HB.out dC), (CY HB.out cK)⟩) (fun aG => ?_); refine with_tabW spec_GateOk.tab11 spec_GateOk.bits11 (fun aF dS => ?_); generalize wr.drew = qW at aA HB cL aZ bA aJ bB bC bD bE bF bG bH bI aG ⊢; refine pv aF 0 87 (tf 1 37) ?_; refine pv aF 2 89 (tr [1, 1, 1, 35]) ?_; refine tw aF dS 1 88 (tf 3 35) aG ?_; refine pv aF 3 90 (tf 4 34) ?_; refine tw aF dS 4 91 (tf 5 33) aG ?_; refine oW aF 5 92 (tf 6 32) (fun K hK => ?_); refine gW Tryz.func39 #[.agg #[.int .i64 ((rd_T83 aC aE).f0), .int .i64 ((rd_T83 aC aE).f1), .string ((rd_T83 aC aE).f2), .string ((rd_T83 aC aE).f3), .int .i64 ((rd_T83 aC aE).f4), .int .i64 ((rd_T83 aC aE).f5), .int .i64 ((rd_T83 aC aE).f6), .int .i64 ((rd_T83 aC aE).f7), .int .i64 ((rd_T83 aC aE).f8), .int .i64 ((rd_T83 aC aE).f9.f0), .slice dA ((rd_T83 aC aE).f9.f1).length dB]] ?_; with_reducible refine (spec_SaOk.calls k3 ((rd_T83 aC aE).f0) ((rd_T83 aC aE).f1) ((rd_T83 aC aE).f2) ((rd_T83 aC aE).f3) ((rd_T83 aC aE).f4) ((rd_T83 aC aE).f5) ((rd_T83 aC aE).f6) ((rd_T83 aC aE).f7) ((rd_T83 aC aE).f8) ((rd_T83 aC aE).f9.f0) _ _ ((rd_T83 aC aE).f9.f1) false _ ?_ ?_ nZ.out).mono ?_
             exact KD cL HB; exact dU.out; rintro e qX ⟨rfl, hb⟩; refine ⟨_, rfl, ?_⟩; replace aA := am (BB aA hb); replace HB := bl (K1 HB aK.out) hb; (try clear hb)
             refine hK.out _ _ (zc6 aA ⟨(CY HB.out dL), (CY HB.out dK), (CY HB.out dJ), (CY HB.out dI), (CY HB.out dH), (CY HB.out dG), (CY HB.out dF), (CY HB.out dE), (CY HB.out dD), (CY HB.out dC), (CY HB.out cK)⟩) (fun aG => ?_); clear hK K; refine nm (some 92) ?_; refine pv aF 6 93 (tf 7 31) ?_; refine pv aF 7 94 (tf 8 30) ?_; refine pw aF 8 95 (tf 9 29) ?_; refine pw aF 9 96 (tf 10 28) ?_; refine pw aF 10 97 (tf 11 27) ?_; refine pw aF 11 98 (tf 12 26) ?_; refine pw aF 12 99 (tf 13 25) ?_; refine pw aF 13 100 (tf 14 24) ?_; refine pw aF 14 101 (tf 15 23) ?_; refine pw aF 15 102 (tf 16 22) ?_; refine pw aF 16 103 (tf 17 21) ?_; refine pv aF 17 104 (tf 18 20) ?_; refine pv aF 18 105 (tf 19 19) ?_; refine pw aF 19 106 (tf 20 18) ?_; refine pw aF 20 107 (tf 21 17) ?_; refine pw aF 21 108 (tf 22 16) ?_; refine pw aF 22 109 (tf 23 15) ?_; refine pw aF 23 110 (tf 24 14) ?_; refine pw aF 24 111 (tf 25 13) ?_; refine pw aF 25 112 (tf 26 12) ?_; refine pw aF 26 113 (tf 27 11) ?_; refine pw aF 27 114 (tf 28 10) ?_; refine pw aF 28 115 (tf 29 9) ?_; refine pw aF 29 116 (tf 30 8) ?_; refine pw aF 30 117 (tf 31 7) ?_; refine pw aF 31 118 (tf 32 6) ?_; refine pw aF 32 119 (tf 33 5) ?_; refine pw aF 33 120 (tf 34 4) ?_; refine pw aF 34 121 (tf 35 3) ?_; refine pw aF 35 122 (tf 36 2) ?_; refine pw aF 36 123 (tf 37 1) ?_; refine pv aF 37 124 (tf 38 0) ?_; refine done_ (done_of aF.out (by kernel_rfl)) ?_; try go_wp2
             go_meet
             case rel => exact ⟨_, (true), RS, H', ⟨by have := HJ1.out; have := HK2.out; have := HK3.out; first | omega | exact Nat.le_refl _⟩, ⟨KB aA⟩, ⟨K1 HB aK.out⟩⟩
           ·rw [if_neg nW] at H
            exact absurd H (by simp)
          case rest =>
           clear mY; try clear nW
           try clear oA
           try clear aZ
           try clear bA
           try clear aJ
           try clear bB
           try clear bC
           try clear bD
           try clear bE
           try clear bF
           try clear bG
           try clear bH
           try clear bI
           try clear bU
           try clear bV
           try clear bJ
           try clear bW
           try clear bX
           try clear bY
           try clear bZ
           try clear cA
           try clear cB
           try clear cC
           try clear cD
           try clear fG
           try clear fQ
           try clear fH
           try clear fR
           obtain ⟨kq, gM, rfl, HA, HJ42, aA, HB⟩ := hcut; cases kq with
           | zero => exact absurd HA.out (by simp [spec_GateOk.j4])
           | succ kj42 =>
            have H := HA.out; clear HA; simp only [spec_GateOk.j4] at H; by_cases pB : gM = true
            ·subst pB
             replace H := pf H; obtain rfl := sj H; go_wp2
             go_ret
             exact ⟨ER, K1 HB aK.out⟩
            ·replace pB := Bool.eq_false_iff.mpr pB
             subst pB; replace H := nf H; have H' := Aside0.mk H; clear H; go_wp2
             go_roundg kj42
             case measure => have := HJ1.out; have := HK2.out; have := HK3.out; have := HJ42.out; omega
             case rel => exact ⟨(wrap64 (aE + 1)), RS, H', ⟨by have := HJ1.out; have := HK2.out; have := HK3.out; have := HJ42.out; omega⟩, ⟨KB aA⟩, ⟨K1 HB aK.out⟩⟩
         ·rw [if_neg nH] at H
          have c42b0 := decide_eq_false nH; clear nH; obtain rfl := sj H; have ⟨_, _, _, _, _, _, _⟩ := y6 wr aA.out; go_wp2
          go_ret
          exact ⟨ER, K1 HB aK.out⟩
def spec_l7Copy.f (a0_0 : Int) (l0_1 : List Int) : Option (Int × List Int) := (some (([] : List Int) : List Int)).bind fun y103 => (if y103.length + l0_1.length < 17592186044416 then (some (a0_0, (y103 ++ l0_1))) else (none))
def spec_l7Copy.T1 : Bool × List (List Nat × List Nat) := (true, [([], []), ([0], [0]), ([], []), ([], []), ([3], [3]), ([2, 4], [2, 4]), ([1, 5], [1, 5]), ([6, 5, 0, 1, 2, 3, 4, 5, 6], [6])])
def spec_l7Copy.B1 : List Nat := [0, 1, 0, 0, 8, 28, 63, 127]
theorem spec_l7Copy.tab1 : rtab .any (opsOf Tryz.f98 1) = spec_l7Copy.T1 := by kernel_rfl
theorem spec_l7Copy.bits1 : waitsOk spec_l7Copy.T1.2 spec_l7Copy.B1 = true := by kernel_rfl
theorem spec_l7Copy.calls (aI : Int) (aU : Option Addr) (aV : Nat) (aG : List Int) (r1 : Int) (r2 : List Int) (w : World) (aY : Kd.C (Kd.int .i64) w aU aG.length aG) (aZ : aG.length ≤ aV) (h : spec_l7Copy.f aI aG = some (r1, r2)) :
  Calls Tryz.prog 98 #[.agg #[.int .i64 aI, .slice aU aG.length aV]] w fun e w' => ∃ v1_ : Value, e = .returned (.agg #[.int .i64 r1, v1_]) ∧ Kd.R (Kd.int .i64) 3 w' w.heap.size (fun _ => True) v1_ r2 ∧ Below w.heap.size w w' := by
 have bN := Tryz.underlying81; have bD := Aside0.mk aY; have bI := Aside0.mk aZ; clear aY aZ; have HB := am (Below.refl w.heap.size w); unfold spec_l7Copy.f at h; have H := h; clear h; obtain ⟨aM, Ny103, H⟩ := b3 ((([] : List Int)) : List Int) H; by_cases c2 : aM.length + aG.length < 17592186044416
 ·rw [if_pos c2] at H
  have LMc2 := Aside0.mk c2; clear c2; obtain ⟨bC, Ny106, H⟩ := b3 ((aM ++ aG) : List Int) H; simp only [Option.some.injEq, Prod.mk.injEq] at H; obtain ⟨rfl, rfl⟩ := H; go_enter Tryz.func98, Tryz.ntmps98
  try go_wp2_with (first | ((with_reducible refine gate_dst (N := 1) rfl ?_); refine bxe (KL HB) (cs := #[.int .i64 aI, .slice aU aG.length aV]) ?_; intro bA w3 aA aJ HB hb hg; clear hb hg) | ((with_reducible refine gate_dst (N := 2) rfl ?_); refine box_event rfl (N := 2) rfl (cs := #[.int .i64 0, .slice none 0 0]) (t := 81) BX ?_; intro aE hg w4 aW hb; have aD := am (aW); have bF := am (GH1 HB aJ.out hg); have aQ := bF; replace HB := bl (K1 HB aJ.out) hb; have aC := am (NL aA hg); have aK := am (NG aA hg); replace aA := am (BB aA hb); clear hb aW hg))
  replace aA := am (blk_drew aA.out); replace aD := am (blk_drew aD.out); replace HB := am (below_drew1 HB.out); refine start_ (n := 8) (S := fun w' => de2 w' bA (.int .i64 aI) (.slice aU aG.length aV)) (ds := []) (tf 0 8) (by kernel_rfl) rfl rfl (zd2 aA) (fun aH => ?_); refine with_tabW spec_l7Copy.tab1 spec_l7Copy.bits1 (fun aX bJ => ?_); generalize w4.drew = w5 at aA aD HB aH ⊢; refine pv aX 0 3 (tf 1 7) ?_; refine pv aX 3 6 (tr [1, 2, 1, 4]) ?_; refine tw aX bJ 1 4 (tr [2, 1, 1, 4]) aH ?_; refine tw aX bJ 4 7 (tr [2, 1, 2, 3]) aH ?_; refine oW aX 2 5 (tf 5 3) (fun K hK => ?_); refine Kd.R_lit_step (Kd.int .i64) _ 3 ?hg (N := 5) ?hd (xs := ([] : List Int)) (inner := []) (ok := fun _ => True) (okp := fun _ => True) ?hr ?hp (fun _ hk => hk) trivial (Below.refl _ _) (Nat.le_refl _) (by simp) ?_; (case hd => rfl); (case hg => rfl); (case hr => first | (go_simp; done) | (go_simp; rfl)); (case hp => exact (Reps.none _ _)); intro bH w6 bG hb hg_ hnew_; clear hg_ hnew_; (first | rw [← Ny103.out] at bG | (simp only [Int.reduceToNat] at bG; rw [← Ny103.out] at bG))
  have aT := am (Kd.R_lower bG (below_size (K2 HB aJ.out aQ.out))); replace aA := am (BB aA hb); replace aD := am (BB aD hb); replace HB := bl (K2 HB aJ.out aQ.out) hb; clear hb bG; refine hK.out _ _ (zd2 aA) (fun aH => ?_); clear hK K; refine nm (some 5) ?_; refine oW aX 5 8 (tf 6 2) (fun K hK => ?_); refine Kd.R_append_rows_step (Kd.int .i64) (w0 := w) w.heap.size (by rfl) (.tmp 5) (.tmp 7) 73 3 (.int .i64 0) 8 rfl Tryz.underlying73 info3 rfl (by decide) (by omega) bH aM aG _ _ _ (fun _ => True) (fun _ => False) rfl rfl ?aO ?aR (fun _ _ h => h) (fun _ h => h.elim) ?aF ?aB ?aS ?aL ?_
  (case aR => exact KD bD HB)
  (case aB => exact (K2 HB aJ.out aQ.out))
  (case aF => exact (fun _ _ => trivial))
  (case aO => exact (KR aT))
  (case aS => exact (below_size (K2 HB aJ.out aQ.out)))
  (case aL => have := LMc2.out; omega)
  intro bO w8 ho hb hg hat; rw [← Ny106.out] at ho; replace aA := am (blk_grown (g := bA) (o := .cells #[.int .i64 aI, .slice aU aG.length aV] 81 (0, 0)) (KB aA) hg (Kd.R_ne aT.out aA.out (by decide))); replace aD := am (blk_grown (g := aE) (o := .cells #[.int .i64 0, .slice none 0 0] 81 (0, 0)) (KB aD) hg (Kd.R_ne aT.out aD.out (by decide))); replace HB := am (hb); have bB := am (ho); clear aT; clear ho hb hg hat; obtain ⟨bK, bL, bM⟩ := Kd.R_slice bB.out; (first | subst bM | (injection bM with f1_ f2_ f3_; have f4_ := f1_.symm; have f5_ := f3_.symm; clear f1_ f2_ f3_; subst f4_; subst f5_))
  refine hK.out _ _ (zd2 aA) (fun aH => ?_); clear hK K; refine nm (some 8) ?_; refine pv aX 6 9 (tf 7 1) ?_; refine one_ (i := 7) (N := none) (tf 8 0) rfl rfl (one_of aX.out (by kernel_rfl)) (by decide) (fun K hK => ?_); have hs10 : w8.cell? ⟨aE, 0, none⟩ = some (.int .i64 0) := z0 _ aD.out; have hfs10 := blk_frozen aD.out 0; have hns10_0 := aC.out; have hms10_0 := aK.out; have hs11 : w8.cell? ⟨aE, 1, none⟩ = some (.slice none 0 0) := z1 _ aD.out; have hfs11 := blk_frozen aD.out 1; have hns11_0 := aC.out; have hms11_0 := aK.out; refine skip_ (w1 := ?_) (by rfl) rfl ?_ ?_
  rotate_left
  ·go_simp
   rfl
  refine hK.out _ _ ⟨((cell_far (p := ⟨aE, _, none⟩) aC.out _).trans (((cell_far (p := ⟨aE, _, none⟩) aC.out _).trans (aH.1)))), ((cell_far (p := ⟨aE, _, none⟩) aC.out _).trans (((cell_far (p := ⟨aE, _, none⟩) aC.out _).trans (aH.2))))⟩ (fun aH => ?_); clear hK K; refine done_ (done_of aX.out (by kernel_rfl)) ?_; try go_wp2
  refine bodyPost_ret (results_cell_row rfl _ _ aE 81 #[.int .i64 aI, .slice bK bC.length bL] (0, 0) _ rfl (by refine BD ?_; refine blk_put (cs := #[.int .i64 aI, .slice none 0 0]) ?_ 1 _ rfl; refine BD ?_; refine blk_put (cs := #[.int .i64 0, .slice none 0 0]) ?_ 0 _ rfl; refine BD ?_; exact aD.out) Tryz.underlying81 rfl (by kernel_rfl)) rfl ?_; exact ⟨_, ER, by refine KW ?_; exact Kd.R_mono (Kd.R_far (p := ⟨aE, 1, none⟩) (Kd.R_far (p := ⟨aE, 0, none⟩) (Kd.R_types bB.out aD.out (by decide)) (fun _ hk => hk.2) (.int .i64 aI)) (fun _ hk => hk.2) (.slice bK bC.length bL)) (fun _ hk => trivial), K2 HB aJ.out aQ.out⟩
 ·rw [if_neg c2] at H
  exact absurd H (by simp)
def spec_l9Copy.f (a0_0 : Int) (a0_1 : Int) (a0_2 : ByteArray) (a0_3 : ByteArray) (a0_4 : Int) (a0_5 : Int) (a0_6 : Int) (a0_7 : Int) (a0_8 : Int) (a0_9 : Int) (l0_10 : List Int) : Option (Int × Int × ByteArray × ByteArray × Int × Int × Int × Int × Int × Int × List Int) := (spec_l7Copy.f a0_9 l0_10).bind fun bt103 => (some (a0_0, a0_1, a0_2, a0_3, a0_4, a0_5, a0_6, a0_7, a0_8, bt103.1, bt103.2))
theorem spec_l9Copy.calls (aB : Int) (aC : Int) (aD : ByteArray) (aE : ByteArray) (aH : Int) (aJ : Int) (aK : Int) (aL : Int) (aM : Int) (aR : Int) (aP : Option Addr) (aQ : Nat) (aF : List Int) (r1 : Int) (r2 : Int) (r3 : ByteArray) (r4 : ByteArray) (r5 : Int) (r6 : Int) (r7 : Int) (r8 : Int) (r9 : Int) (r10 : Int) (r11 : List Int) (w : World) (aU : Kd.C (Kd.int .i64) w aP aF.length aF) (aV : aF.length ≤ aQ) (h : spec_l9Copy.f aB aC aD aE aH aJ aK aL aM aR aF = some (r1, r2, r3, r4, r5, r6, r7, r8, r9, r10, r11)) :
  Calls Tryz.prog 72 #[.agg #[.int .i64 aB, .int .i64 aC, .string aD, .string aE, .int .i64 aH, .int .i64 aJ, .int .i64 aK, .int .i64 aL, .int .i64 aM, .int .i64 aR, .slice aP aF.length aQ]] w fun e w' => ∃ v10_ : Value, e = .returned (.agg #[.int .i64 r1, .int .i64 r2, .string r3, .string r4, .int .i64 r5, .int .i64 r6, .int .i64 r7, .int .i64 r8, .int .i64 r9, .int .i64 r10, v10_]) ∧ Kd.R (Kd.int .i64) 3 w' w.heap.size (fun _ => True) v10_ r11 ∧ Below w.heap.size w w' := by
 have cU := Tryz.underlying83; have cV := Tryz.underlying81; have bC := Aside0.mk aU; have bD := Aside0.mk aV; clear aU aV; have HB := am (Below.refl w.heap.size w); unfold spec_l9Copy.f at h; have H := h; clear h; replace H := bm H; obtain ⟨⟨aS, aW⟩, cS, H⟩ := H; have A2 := Aside0.mk cS; clear cS; simp only [Option.some.injEq, Prod.mk.injEq] at H; obtain ⟨rfl, rfl, rfl, rfl, rfl, rfl, rfl, rfl, rfl, rfl, rfl⟩ := H; go_enter Tryz.func72, Tryz.ntmps72
 go_wp2_with (first | ((with_reducible refine gate_dst (N := 1) rfl ?_); refine bxe (KL HB) (cs := #[.int .i64 aB, .int .i64 aC, .string aD, .string aE, .int .i64 aH, .int .i64 aJ, .int .i64 aK, .int .i64 aL, .int .i64 aM, .int .i64 aR, .slice aP aF.length aQ]) ?_; intro bA w3 aG aN HB hb hg; clear hb hg) | ((with_reducible refine gate_dst (N := 2) rfl ?_); refine box_event rfl (N := 2) rfl (cs := #[.int .i64 0, .int .i64 0, .string (⟨#[]⟩ : ByteArray), .string (⟨#[]⟩ : ByteArray), .int .i64 0, .int .i64 0, .int .i64 0, .int .i64 0, .int .i64 0, .int .i64 0, .slice none 0 0]) (t := 83) BX ?_; intro aA hg w4 aX hb; have aO := am (aX); have bF := am (GH1 HB aN.out hg); have aY := bF; replace HB := bl (K1 HB aN.out) hb; have aT := am (NL aG hg); have aI := am (NG aG hg); replace aG := am (BB aG hb); clear hb aX hg; have cW := aT.out; have cX := aI.out; have ⟨_, _, _, _, _, _, _, _, _, _, _, _⟩ := y11 w4 aG.out) | (go_at_call 98; (with_reducible refine (spec_l7Copy.calls _ _ _ _ _ _ _ ?_ ?_ A2.out).mono ?_); exact KD bC HB; exact bD.out; rintro e w7 ⟨cY, rfl, cT, hb⟩; have bB := am (Kd.R_lower cT (below_size (K2 HB aN.out aY.out))); replace aG := am (BB aG hb); replace aO := am (BB aO hb); replace HB := bl (K2 HB aN.out aY.out) hb; (try clear cT); have ⟨_, _, _, _, _, _, _, _, _, _, _, _⟩ := y11 w7 aG.out; obtain ⟨cQ, cR, cZ⟩ := Kd.R_slice bB.out; subst cZ; have ⟨_, _, _, _, _, _, _, _, _, _, _, _⟩ := y11 w7 aO.out))
 refine bodyPost_ret (results_cell_row rfl _ _ aA 83 #[.int .i64 aB, .int .i64 aC, .string aD, .string aE, .int .i64 aH, .int .i64 aJ, .int .i64 aK, .int .i64 aL, .int .i64 aM, .int .i64 aS, .slice cQ aW.length cR] (0, 0) _ rfl (by refine BD ?_; refine blk_put (cs := #[.int .i64 aB, .int .i64 aC, .string aD, .string aE, .int .i64 aH, .int .i64 aJ, .int .i64 aK, .int .i64 aL, .int .i64 aM, .int .i64 aS, .slice none 0 0]) ?_ 10 _ rfl; refine BD ?_; refine blk_put (cs := #[.int .i64 aB, .int .i64 aC, .string aD, .string aE, .int .i64 aH, .int .i64 aJ, .int .i64 aK, .int .i64 aL, .int .i64 aM, .int .i64 0, .slice none 0 0]) ?_ 9 _ rfl; refine BD ?_; refine blk_put (cs := #[.int .i64 aB, .int .i64 aC, .string aD, .string aE, .int .i64 aH, .int .i64 aJ, .int .i64 aK, .int .i64 aL, .int .i64 0, .int .i64 0, .slice none 0 0]) ?_ 8 _ rfl; refine BD ?_; refine blk_put (cs := #[.int .i64 aB, .int .i64 aC, .string aD, .string aE, .int .i64 aH, .int .i64 aJ, .int .i64 aK, .int .i64 0, .int .i64 0, .int .i64 0, .slice none 0 0]) ?_ 7 _ rfl; refine BD ?_; refine blk_put (cs := #[.int .i64 aB, .int .i64 aC, .string aD, .string aE, .int .i64 aH, .int .i64 aJ, .int .i64 0, .int .i64 0, .int .i64 0, .int .i64 0, .slice none 0 0]) ?_ 6 _ rfl; refine BD ?_; refine blk_put (cs := #[.int .i64 aB, .int .i64 aC, .string aD, .string aE, .int .i64 aH, .int .i64 0, .int .i64 0, .int .i64 0, .int .i64 0, .int .i64 0, .slice none 0 0]) ?_ 5 _ rfl; refine BD ?_; refine blk_put (cs := #[.int .i64 aB, .int .i64 aC, .string aD, .string aE, .int .i64 0, .int .i64 0, .int .i64 0, .int .i64 0, .int .i64 0, .int .i64 0, .slice none 0 0]) ?_ 4 _ rfl; refine BD ?_; refine blk_put (cs := #[.int .i64 aB, .int .i64 aC, .string aD, .string (⟨#[]⟩ : ByteArray), .int .i64 0, .int .i64 0, .int .i64 0, .int .i64 0, .int .i64 0, .int .i64 0, .slice none 0 0]) ?_ 3 _ rfl; refine BD ?_; refine blk_put (cs := #[.int .i64 aB, .int .i64 aC, .string (⟨#[]⟩ : ByteArray), .string (⟨#[]⟩ : ByteArray), .int .i64 0, .int .i64 0, .int .i64 0, .int .i64 0, .int .i64 0, .int .i64 0, .slice none 0 0]) ?_ 2 _ rfl; refine BD ?_; refine blk_put (cs := #[.int .i64 aB, .int .i64 0, .string (⟨#[]⟩ : ByteArray), .string (⟨#[]⟩ : ByteArray), .int .i64 0, .int .i64 0, .int .i64 0, .int .i64 0, .int .i64 0, .int .i64 0, .slice none 0 0]) ?_ 1 _ rfl; refine BD ?_; refine blk_put (cs := #[.int .i64 0, .int .i64 0, .string (⟨#[]⟩ : ByteArray), .string (⟨#[]⟩ : ByteArray), .int .i64 0, .int .i64 0, .int .i64 0, .int .i64 0, .int .i64 0, .int .i64 0, .slice none 0 0]) ?_ 0 _ rfl; refine BD ?_; refine blk_far ?_ aI.out _; refine BD ?_; refine blk_far ?_ aI.out _; refine BD ?_; exact aO.out) Tryz.underlying83 rfl (by kernel_rfl)) rfl ?_; exact ⟨_, ER, by refine KW ?_; exact Kd.R_mono (Kd.R_far (p := ⟨aA, 10, none⟩) (Kd.R_far (p := ⟨aA, 9, none⟩) (Kd.R_far (p := ⟨aA, 8, none⟩) (Kd.R_far (p := ⟨aA, 7, none⟩) (Kd.R_far (p := ⟨aA, 6, none⟩) (Kd.R_far (p := ⟨aA, 5, none⟩) (Kd.R_far (p := ⟨aA, 4, none⟩) (Kd.R_far (p := ⟨aA, 3, none⟩) (Kd.R_far (p := ⟨aA, 2, none⟩) (Kd.R_far (p := ⟨aA, 1, none⟩) (Kd.R_far (p := ⟨aA, 0, none⟩) (Kd.R_far (p := ⟨bA, 10, none⟩) (Kd.R_far (p := ⟨bA, 9, none⟩) (Kd.R_types (Kd.R_types bB.out aG.out (by decide)) aO.out (by decide)) (fun _ hk => hk.1.2) (.int .i64 aS)) (fun _ hk => hk.1.2) (.slice cQ aW.length cR)) (fun _ hk => hk.2) (.int .i64 aB)) (fun _ hk => hk.2) (.int .i64 aC)) (fun _ hk => hk.2) (.string aD)) (fun _ hk => hk.2) (.string aE)) (fun _ hk => hk.2) (.int .i64 aH)) (fun _ hk => hk.2) (.int .i64 aJ)) (fun _ hk => hk.2) (.int .i64 aK)) (fun _ hk => hk.2) (.int .i64 aL)) (fun _ hk => hk.2) (.int .i64 aM)) (fun _ hk => hk.2) (.int .i64 aS)) (fun _ hk => hk.2) (.slice cQ aW.length cR)) (fun _ hk => trivial), K2 HB aN.out aY.out⟩
def spec_l10Sas.l0 : Nat → List (S83) → List (S83) → Int → Option ((List (S83)))
 | 0, _, _, _ => none
 | k + 1, x0, x3, x4 => if x4 < (x0.length : Int) then (if 0 ≤ x4 then ((spec_l9Copy.f ((rd_T83 x0 x4).f0) ((rd_T83 x0 x4).f1) ((rd_T83 x0 x4).f2) ((rd_T83 x0 x4).f3) ((rd_T83 x0 x4).f4) ((rd_T83 x0 x4).f5) ((rd_T83 x0 x4).f6) ((rd_T83 x0 x4).f7) ((rd_T83 x0 x4).f8) ((rd_T83 x0 x4).f9.f0) ((rd_T83 x0 x4).f9.f1)).bind fun bt105 => (if x3.length < 1172812402961 then (spec_l10Sas.l0 k x0 (x3 ++ [(⟨bt105.1, bt105.2.1, bt105.2.2.1, bt105.2.2.2.1, bt105.2.2.2.2.1, bt105.2.2.2.2.2.1, bt105.2.2.2.2.2.2.1, bt105.2.2.2.2.2.2.2.1, bt105.2.2.2.2.2.2.2.2.1, (⟨bt105.2.2.2.2.2.2.2.2.2.1, bt105.2.2.2.2.2.2.2.2.2.2⟩ : S81)⟩ : S83)]) (wrap64 (x4 + 1))) else (none))) else (none)) else (some x3)
def spec_l10Sas.f (k : Nat) (l0 : List (S83)) : Option ((List (S83))) := spec_l10Sas.l0 k l0 (([] : List (S83))) 0
theorem spec_l10Sas.calls (k : Nat) (A0 : Option Addr) (c0 : Nat) (l0 : List (S83)) (r : List (S83)) (w : World) (cA : Kd.C k83 w A0 l0.length l0) (cB : l0.length ≤ c0) (h : spec_l10Sas.f k l0 = some r) :
  Calls Tryz.prog 40 #[.slice A0 l0.length c0] w fun e w' => ∃ v0_ : Value, e = .returned (v0_) ∧ Kd.S k83 83 w' w.heap.size (fun _ => True) v0_ r ∧ Below w.heap.size w w' := by
 have cE := Tryz.underlying83; have cF := Aside0.mk cA; have cJ := Aside0.mk cB; clear cA cB; have HB := am (Below.refl w.heap.size w); unfold spec_l10Sas.f at h; have H := h; clear h; obtain ⟨bQ, Ny101, H⟩ := b3 ((([] : List (S83))) : List (S83)) H; have H' := Aside0.mk H; clear H; go_enter Tryz.func40, Tryz.ntmps40
 go_wp2_with (first | ((with_reducible refine gate_dst (N := 5) rfl ?_); refine Kd.S_lit k83 _ 83 ?hg (N := 5) ?hd (xs := ([] : List (S83))) (inner := []) (ok := fun _ => True) (okp := fun _ => True) ?hr ?hp (fun _ hk => hk) trivial (Below.refl _ _) (Nat.le_refl _) (by simp) ?_; (case hd => rfl); (case hg => rfl); (case hr => first | (go_simp; done) | (go_simp; rfl)); (case hp => exact (Reps.none _ _)); intro cG w2 bR hb hg_ hnew_; clear hg_ hnew_; (first | rw [← Ny101.out] at bR | (simp only [Int.reduceToNat] at bR; rw [← Ny101.out] at bR)); have bS := am (Kd.S_lower bR (below_size (KL HB))); replace HB := bl (KL HB) hb; clear hb bR))
 go_loopg [3, 4] k (fun kq v3 v4 w' => ∃ (aD : List (S83)) (aA : Int), v4 = .int .i64 aA ∧ Aside0 (spec_l10Sas.l0 kq l0 aD aA = some r) ∧ Aside0 (kq ≤ k) ∧ Aside0 (Kd.S k83 83 w' w.heap.size (fun _ => True) v3 aD) ∧ Aside0 (Below w.heap.size w w'))
 case atStart => exact ⟨(bQ), (0), RS, H', ⟨Nat.le_refl _⟩, ⟨by refine KX ?_; exact bS.out⟩, ⟨KL HB⟩⟩
 case round =>
  clear H'; obtain ⟨aD, aA, rfl, HA, HK1, aJ, HB⟩ := hrel; cases gk with
  | zero => exact absurd HA.out (by simp [spec_l10Sas.l0])
  | succ k1 =>
   have H := HA.out; clear HA; simp only [spec_l10Sas.l0] at H; by_cases c4 : aA < (l0.length : Int)
   ·rw [if_pos c4] at H
    have c4b0 := decide_eq_true c4; clear c4; by_cases c5 : 0 ≤ aA
    ·rw [if_pos c5] at H
     have c5b0 := decide_eq_true c5; clear c5; replace H := bm H; obtain ⟨⟨bA, bB, bC, bD, bE, bF, bG, bH, bI, bJ, aK⟩, cC, H⟩ := H; have A6 := Aside0.mk cC; clear cC; by_cases c7 : aD.length < 1172812402961
     ·rw [if_pos c7] at H
      have LMc7 := Aside0.mk c7; clear c7; obtain ⟨bT, Ny118, H⟩ := b3 ((aD ++ [(⟨bA, bB, bC, bD, bE, bF, bG, bH, bI, (⟨bJ, aK⟩ : S81)⟩ : S83)]) : List (S83)) H; have H' := Aside0.mk H; clear H; have bO : 0 ≤ (aA : Int) := OD; have bP : aA < (l0.length : Int) := OD; obtain ⟨_, bM, bN, bX, aM, aN, aQ, aR, aT, aU, aV, aW, aX, aY, aG, aH, aI⟩ := at_T83 cF.out aA bO bP; cases bX
      replace aM := CX HB.out aM; replace aN := CX HB.out aN; replace aQ := CX HB.out aQ; replace aR := CX HB.out aR; replace aT := CX HB.out aT; replace aU := CX HB.out aU; replace aV := CX HB.out aV; replace aW := CX HB.out aW; replace aX := CX HB.out aX; replace aY := CX HB.out aY; replace aG := CX HB.out aG; have bK := Aside0.mk aI; have bL := Aside0.mk aH; clear aI aH; replace bO := eq_true bO; replace bP := eq_true bP; go_wp2_with (first | (go_at_call 72; (with_reducible refine (spec_l9Copy.calls _ _ _ _ _ _ _ _ _ _ _ _ _ _ _ _ _ _ _ _ _ _ _ _ _ ?_ ?_ A6.out).mono ?_); exact KD bK HB; exact bL.out; rintro e w8 ⟨cH, rfl, bY, hb⟩; replace aJ := am (Kd.S_elder' (by refine KX ?_; exact aJ.out) (Kd.R_base bY) hb); have aZ := am (Kd.R_lower bY (below_size (KL HB))); replace HB := bl (KL HB) hb; (try clear hb2); (try clear hk); (try clear hi); (try clear bY); obtain ⟨bU, bV, bZ⟩ := Kd.R_slice aZ.out; subst bZ) | ((with_reducible refine gate_builtin (b := .append) (xs := #[.tmp 12, .tmp 18]) rfl ?_); at_builtin; refine Kd.S_append k83 (w0 := w) w.heap.size rfl (.tmp 12) (.tmp 18) 35 83 (.agg #[(.int .i64 0), (.int .i64 0), (.string ⟨#[]⟩), (.string ⟨#[]⟩), (.int .i64 0), (.int .i64 0), (.int .i64 0), (.int .i64 0), (.int .i64 0), (.int .i64 0), (.slice none 0 0)]) 120 rfl Tryz.underlying35 info83 rfl (by decide) (by omega) u3 aD (⟨bA, bB, bC, bD, bE, bF, bG, bH, bI, (⟨bJ, aK⟩ : S81)⟩ : S83) [.int .i64 bA, .int .i64 bB, .string bC, .string bD, .int .i64 bE, .int .i64 bF, .int .i64 bG, .int .i64 bH, .int .i64 bI, .int .i64 bJ, .slice bU aK.length bV] (fun _ => True) (fun k_ => some k_ = (.slice bU aK.length bV : Value).ownBlock) rfl rfl ?aP (fun k_ hk_ => ((Kd.R_mono (ok' := fun k_ => ((fun _ => True)) k_ ∧ some k_ ≠ (u3 : Value).ownBlock) (Kd.R_apart' (aZ.out) (Kd.S_typed aJ.out) (by decide)) (fun k_ hk => ⟨trivial, hk.2⟩))).1 k_ hk_.symm) ?aF ?aO ?aB ?aS ?aL ?_; (case aP => exact k83_mkM _ _ _ (⟨bA, bB, bC, bD, bE, bF, bG, bH, bI, (⟨bJ, aK⟩ : S81)⟩ : S83) (Kd.R_mono (Kd.R_tight rfl (Kd.R_mono (ok' := fun k_ => ((fun _ => True)) k_ ∧ some k_ ≠ (u3 : Value).ownBlock) (Kd.R_apart' (aZ.out) (Kd.S_typed aJ.out) (by decide)) (fun k_ hk => ⟨trivial, hk.2⟩))) (fun _ h_ => h_))); (case aB => exact (KL HB)); (case aF => exact (fun _ _ => trivial)); (case aO => exact (by refine KX ?_; exact Kd.S_mono aJ.out (fun k_ hk => ⟨trivial, fun e_ => hk.2 e_⟩))); (case aS => exact (below_size (KL HB))); (case aL => have := LMc7.out; omega); intro cI w9 ho hb hg hat; rw [← Ny118.out] at ho; replace HB := am (hb); have bW := am (ho); clear aJ aZ; clear ho hb hg hat))
      go_roundg k1
      case measure => have := HK1.out; omega
      case rel => exact ⟨(bT), (wrap64 (aA + 1)), RS, H', LK HK1, ⟨by refine KX ?_; exact bW.out⟩, ⟨KL HB⟩⟩
     ·rw [if_neg c7] at H
      exact absurd H (by simp)
    ·rw [if_neg c5] at H
     exact absurd H (by simp)
   ·rw [if_neg c4] at H
    have c4b0 := decide_eq_false c4; clear c4; obtain rfl := sj H; go_wp2
    go_ret
    exact ⟨_, ER, by refine KX ?_; exact aJ.out, KL HB⟩
def spec_l10Copy.f (k : Nat) (a0_0 : Int) (l0_1 : List (S59)) (a0_2 : Int) (l0_3 : List (S96)) (l0_4 : List (S83)) (l0_5 : List (S83)) : Option (Int × (List (S59)) × Int × (List (S96)) × (List (S83)) × (List (S83))) := (some (([] : List (S59)) : List (S59))).bind fun y103 => (if y103.length + l0_1.length < 2199023255552 then ((some (([] : List (S96)) : List (S96))).bind fun y109 => (if y109.length + l0_3.length < 4398046511104 then ((spec_l10Sas.f k l0_4).bind fun t115 => ((spec_l10Sas.f k l0_5).bind fun t118 => (some (a0_0, (y103 ++ l0_1), a0_2, (y109 ++ l0_3), t115, t118)))) else (none))) else (none))
def spec_l10Copy.T1 : Bool × List (List Nat × List Nat) := (true, [([], []), ([0], [0]), ([], []), ([], []), ([3], [3]), ([2, 4], [2, 4]), ([], []), ([6], [6]), ([7], [7]), ([], []), ([], []), ([10], [10]), ([11], [11]), ([9, 12, 5], [9, 12]), ([8, 13], [8, 13]), ([], []), ([15], [15]), ([16, 13], [16]), ([], []), ([18], [18]), ([19, 17], [19]), ([1, 5, 14, 17, 20], [1, 5, 14, 17, 20]), ([21, 20, 0, 1, 2, 3, 4, 5, 6, 7, 8, 9, 10, 11, 12, 13, 14, 15, 16, 17, 18, 19, 20, 21], [21])])
def spec_l10Copy.B1 : List Nat := [0, 1, 0, 0, 8, 28, 0, 64, 192, 0, 0, 1024, 3072, 7740, 16380, 0, 32768, 114236, 0, 262144, 1031740, 2097151, 4194303]
theorem spec_l10Copy.tab1 : rtab .any (opsOf Tryz.f18 1) = spec_l10Copy.T1 := by kernel_rfl
theorem spec_l10Copy.bits1 : waitsOk spec_l10Copy.T1.2 spec_l10Copy.B1 = true := by kernel_rfl
theorem spec_l10Copy.calls (k : Nat) (aJ : Int) (bH : Option Addr) (bI : Nat) (aT : List (S59)) (aK : Int) (bJ : Option Addr) (bK : Nat) (aM : List (S96)) (bC : Option Addr) (bD : Nat) (aW : List (S83)) (bE : Option Addr) (bF : Nat) (aV : List (S83)) (r1 : Int) (r2 : List (S59)) (r3 : Int) (r4 : List (S96)) (r5 : List (S83)) (r6 : List (S83)) (w : World) (cJ : Kd.C k59 w bH aT.length aT) (cK : aT.length ≤ bI) (cL : Kd.C k96 w bJ aM.length aM) (cM : aM.length ≤ bK) (cN : Kd.C k83 w bC aW.length aW) (cO : aW.length ≤ bD) (cP : Kd.C k83 w bE aV.length aV) (cQ : aV.length ≤ bF) (h : spec_l10Copy.f k aJ aT aK aM aW aV = some (r1, r2, r3, r4, r5, r6)) :
  Calls Tryz.prog 18 #[.agg #[.int .i64 aJ, .slice bH aT.length bI, .int .i64 aK, .slice bJ aM.length bK, .slice bC aW.length bD, .slice bE aV.length bF]] w fun e w' => ∃ v1_ v3_ v4_ v5_ : Value, e = .returned (.agg #[.int .i64 r1, v1_, .int .i64 r3, v3_, v4_, v5_]) ∧ Kd.R k59 59 w' w.heap.size (fun _ => True) v1_ r2 ∧ Kd.R k96 96 w' w.heap.size (fun _ => True) v3_ r4 ∧ Kd.S k83 83 w' w.heap.size (fun k_ => some k_ ≠ (v5_ : Value).ownBlock) v4_ r5 ∧ Kd.S k83 83 w' w.heap.size (fun k_ => some k_ ≠ (v4_ : Value).ownBlock) v5_ r6 ∧ Below w.heap.size w w' := by
 have dM := Tryz.underlying37; have dN := Tryz.underlying34; have cE := Aside0.mk cJ; have dH := Aside0.mk cK; clear cJ cK; have cW := Aside0.mk cL; have dI := Aside0.mk cM; clear cL cM; have cX := Aside0.mk cN; have cY := Aside0.mk cO; clear cN cO; have cZ := Aside0.mk cP; have dA := Aside0.mk cQ; clear cP cQ; have HB := am (Below.refl w.heap.size w); unfold spec_l10Copy.f at h; have H := h; clear h; obtain ⟨bN, Ny103, H⟩ := b3 ((([] : List (S59))) : List (S59)) H; by_cases c2 : bN.length + aT.length < 2199023255552
 ·rw [if_pos c2] at H
  have LMc2 := Aside0.mk c2; clear c2; obtain ⟨bB, Ny106, H⟩ := b3 ((bN ++ aT) : List (S59)) H; obtain ⟨bA, Ny109, H⟩ := b3 ((([] : List (S96))) : List (S96)) H; by_cases c3 : bA.length + aM.length < 4398046511104
  ·rw [if_pos c3] at H
   have LMc3 := Aside0.mk c3; clear c3; obtain ⟨bO, Ny112, H⟩ := b3 ((bA ++ aM) : List (S96)) H; obtain ⟨aY, A4, H⟩ := b1 H; obtain ⟨aZ, A5, H⟩ := b1 H; simp only [Option.some.injEq, Prod.mk.injEq] at H; obtain ⟨rfl, rfl, rfl, rfl, rfl, rfl⟩ := H; go_enter Tryz.func18, Tryz.ntmps18
   try go_wp2_with (first | ((with_reducible refine gate_dst (N := 1) rfl ?_); refine bxe (KL HB) (cs := #[.int .i64 aJ, .slice bH aT.length bI, .int .i64 aK, .slice bJ aM.length bK, .slice bC aW.length bD, .slice bE aV.length bF]) ?_; intro aX w6 aA aH HB hb hg; clear hb hg) | ((with_reducible refine gate_dst (N := 2) rfl ?_); refine box_event rfl (N := 2) rfl (cs := #[.int .i64 0, .slice none 0 0, .int .i64 0, .slice none 0 0, .slice none 0 0, .slice none 0 0]) (t := 37) BX ?_; intro aD hg w7 cF hb; have aE := am (cF); have dC := am (GH1 HB aH.out hg); have aI := dC; replace HB := bl (K1 HB aH.out) hb; have aC := am (NL aA hg); have aU := am (NG aA hg); replace aA := am (BB aA hb); clear hb cF hg))
   replace aA := am (blk_drew aA.out); replace aE := am (blk_drew aE.out); replace HB := am (below_drew1 HB.out); refine start_ (n := 23) (S := fun w' => de6 w' aX (.int .i64 aJ) (.slice bH aT.length bI) (.int .i64 aK) (.slice bJ aM.length bK) (.slice bC aW.length bD) (.slice bE aV.length bF)) (ds := []) (tf 0 23) (by kernel_rfl) rfl rfl (zd6 aA) (fun aG => ?_); refine with_tabW spec_l10Copy.tab1 spec_l10Copy.bits1 (fun bG cS => ?_); generalize w7.drew = w8 at aA aE HB aG ⊢; refine pv bG 0 3 (tf 1 22) ?_; refine pv bG 3 6 (tr [1, 2, 1, 19]) ?_; refine pv bG 6 9 (tr [1, 2, 1, 2, 1, 16]) ?_; refine pv bG 7 10 (tr [1, 2, 1, 2, 2, 15]) ?_; refine pv bG 10 13 (tr [1, 2, 1, 2, 2, 2, 1, 12]) ?_; refine pv bG 11 14 (tr [1, 2, 1, 2, 2, 2, 2, 11]) ?_; refine pv bG 15 18 (tr [1, 2, 1, 2, 2, 2, 2, 3, 1, 7]) ?_; refine pv bG 18 21 (tr [1, 2, 1, 2, 2, 2, 2, 3, 1, 2, 1, 4]) ?_; refine tw bG cS 1 4 (tr [2, 1, 1, 2, 2, 2, 2, 3, 1, 2, 1, 4]) aG ?_; refine tw bG cS 4 7 (tr [2, 1, 2, 1, 2, 2, 2, 3, 1, 2, 1, 4]) aG ?_; refine tw bG cS 8 11 (tr [2, 1, 2, 1, 3, 1, 2, 3, 1, 2, 1, 4]) aG ?_; refine tw bG cS 12 15 (tr [2, 1, 2, 1, 3, 1, 3, 2, 1, 2, 1, 4]) aG ?_; refine tw bG cS 16 19 (tr [2, 1, 2, 1, 3, 1, 3, 2, 2, 1, 1, 4]) aG ?_; refine tw bG cS 19 22 (tr [2, 1, 2, 1, 3, 1, 3, 2, 2, 1, 2, 3]) aG ?_; refine join_ (σ := Value × Value × Value) 6 (tr [13, 2, 2, 1, 2, 3]) (fun s_ => [(5, s_.1), (8, s_.2.1), (12, s_.2.2)]) (fun s_ w' => (w'.cell? ⟨aX, 0, none⟩ = some (.int .i64 aJ) ∧ w'.cell? ⟨aX, 1, none⟩ = some (.slice bH aT.length bI) ∧ w'.cell? ⟨aX, 2, none⟩ = some (.int .i64 aK) ∧ w'.cell? ⟨aX, 3, none⟩ = some (.slice bJ aM.length bK) ∧ w'.cell? ⟨aX, 4, none⟩ = some (.slice bC aW.length bD) ∧ w'.cell? ⟨aX, 5, none⟩ = some (.slice bE aV.length bF)) ∧ (Kd.R k59 59 w' w.heap.size (fun _ => True) s_.2.1 bB) ∧ (Kd.R k96 96 w' w.heap.size (fun _ => True) s_.2.2 bA) ∧ (w'.heap[aX]? = some (.cells #[.int .i64 aJ, .slice bH aT.length bI, .int .i64 aK, .slice bJ aM.length bK, .slice bC aW.length bD, .slice bE aV.length bF] 37 (0, 0))) ∧ (w'.heap[aD]? = some (.cells #[.int .i64 0, .slice none 0 0, .int .i64 0, .slice none 0 0, .slice none 0 0, .slice none 0 0] 37 (0, 0))) ∧ (Below w.heap.size w w')) ?_ ?_
   rotate_left
   ·intro hCont
    refine two_ (i := 2) (j := 9) (Ni := some 5) (Nj := some 12) (tr [5, 1, 3, 1, 3, 2, 2, 1, 2, 3]) (tr [2, 1, 2, 1, 7, 2, 2, 1, 2, 3]) rfl rfl rfl rfl (two_of bG.out (by kernel_rfl)) (by decide) (by decide) (fun K hK => ?_) (fun K hK => ?_)
    ·skip
     refine Kd.R_lit_step k59 _ 59 ?hg (N := 5) ?hd (xs := ([] : List (S59))) (inner := []) (ok := fun _ => True) (okp := fun _ => True) ?hr ?hp (fun _ hk => hk) trivial (Below.refl _ _) (Nat.le_refl _) (by simp) ?_; (case hd => rfl); (case hg => rfl); (case hr => first | (go_simp; done) | (go_simp; rfl)); (case hp => exact (Reps.none _ _)); intro bW w9 bL hb hg_ hnew_; clear hg_ hnew_; (first | rw [← Ny103.out] at bL | (simp only [Int.reduceToNat] at bL; rw [← Ny103.out] at bL))
     have aN := am (Kd.R_lower bL (below_size (K2 HB aH.out aI.out))); replace aA := am (BB aA hb); replace aE := am (BB aE hb); replace HB := bl (K2 HB aH.out aI.out) hb; clear hb bL; refine hK.out _ _ (zd6 aA) (fun aG => ?_); clear hK K; refine nm (some 5) ?_; refine two_ (i := 5) (j := 9) (Ni := some 8) (Nj := some 12) (tr [9, 1, 3, 2, 2, 1, 2, 3]) (tr [5, 1, 7, 2, 2, 1, 2, 3]) rfl rfl rfl rfl (two_of bG.out (by kernel_rfl)) (by decide) (by decide) (fun K hK => ?_) (fun K hK => ?_)
     ·skip
      refine Kd.R_append_rows_step k59 (w0 := w) w.heap.size (by rfl) (.tmp 5) (.tmp 7) 31 59 (.agg #[(.int .i64 0), (.int .i64 0), (.int .i64 0), (.int .i64 0), (.int .i64 0), (.int .i64 0), (.int .i64 0), (.int .i64 0)]) 64 rfl Tryz.underlying31 info59 rfl (by decide) (by omega) bW bN aT _ _ _ (fun _ => True) (fun _ => False) rfl rfl ?aO ?aR (fun _ _ h => h) (fun _ h => h.elim) ?aF ?aB ?aS ?aL ?_
      (case aR => exact KD cE HB)
      (case aB => exact (K2 HB aH.out aI.out))
      (case aF => exact (fun _ _ => trivial))
      (case aO => exact (KR aN))
      (case aS => exact (below_size (K2 HB aH.out aI.out)))
      (case aL => have := LMc2.out; omega)
      intro bZ dL ho hb hg hat; rw [← Ny106.out] at ho; replace aA := am (blk_grown (g := aX) (o := .cells #[.int .i64 aJ, .slice bH aT.length bI, .int .i64 aK, .slice bJ aM.length bK, .slice bC aW.length bD, .slice bE aV.length bF] 37 (0, 0)) (KB aA) hg (Kd.R_ne aN.out aA.out (by decide))); replace aE := am (blk_grown (g := aD) (o := .cells #[.int .i64 0, .slice none 0 0, .int .i64 0, .slice none 0 0, .slice none 0 0, .slice none 0 0] 37 (0, 0)) (KB aE) hg (Kd.R_ne aN.out aE.out (by decide))); replace HB := am (hb); have aQ := am (ho); clear aN; clear ho hb hg hat; refine hK.out _ _ (zd6 aA) (fun aG => ?_); clear hK K; refine nm (some 8) ?_; refine oW bG 9 12 (tr [13, 2, 2, 1, 2, 3]) (fun K hK => ?_); refine Kd.R_lit_step k96 _ 96 ?hg (N := 12) ?hd (xs := ([] : List (S96))) (inner := []) (ok := fun _ => True) (okp := fun _ => True) ?hr ?hp (fun _ hk => hk) trivial (Below.refl _ _) (Nat.le_refl _) (by simp) ?_; (case hd => rfl); (case hg => rfl); (case hr => first | (go_simp; done) | (go_simp; rfl)); (case hp => exact (Reps.none _ _)); intro bX dS cG hb hg_ hnew_; clear hg_ hnew_; (first | rw [← Ny109.out] at cG | (simp only [Int.reduceToNat] at cG; rw [← Ny109.out] at cG))
      replace aQ := am (Kd.R_below (KR aQ) hb); have aP := am (Kd.R_lower cG (below_size (K2 HB aH.out aI.out))); replace aA := am (BB aA hb); replace aE := am (BB aE hb); replace HB := bl (K2 HB aH.out aI.out) hb; clear hb cG; refine hK.out _ _ (zd6 aA) (fun aG => ?_); clear hK K; refine nm (some 12) ?_; exact norm_ (by simp only [putAll, Act.put, List.setIfInBounds_toArray, List.set_cons_zero, List.set_cons_succ]) (hCont (bW, bZ, bX) _ ⟨aG, (KR aQ), (KR aP), (KB aA), (KB aE), (K2 HB aH.out aI.out)⟩)
     ·skip
      refine Kd.R_lit_step k96 _ 96 ?hg (N := 12) ?hd (xs := ([] : List (S96))) (inner := []) (ok := fun _ => True) (okp := fun _ => True) ?hr ?hp (fun _ hk => hk) trivial (Below.refl _ _) (Nat.le_refl _) (by simp) ?_; (case hd => rfl); (case hg => rfl); (case hr => first | (go_simp; done) | (go_simp; rfl)); (case hp => exact (Reps.none _ _)); intro bX dL bM hb hg_ hnew_; clear hg_ hnew_; (first | rw [← Ny109.out] at bM | (simp only [Int.reduceToNat] at bM; rw [← Ny109.out] at bM))
      replace aN := am (Kd.R_below (KR aN) hb); have aP := am (Kd.R_lower bM (below_size (K2 HB aH.out aI.out))); replace aA := am (BB aA hb); replace aE := am (BB aE hb); replace HB := bl (K2 HB aH.out aI.out) hb; clear hb bM; refine hK.out _ _ (zd6 aA) (fun aG => ?_); clear hK K; refine nm (some 12) ?_; refine oW bG 5 8 (tr [13, 2, 2, 1, 2, 3]) (fun K hK => ?_); refine Kd.R_append_rows_step k59 (w0 := w) w.heap.size (by rfl) (.tmp 5) (.tmp 7) 31 59 (.agg #[(.int .i64 0), (.int .i64 0), (.int .i64 0), (.int .i64 0), (.int .i64 0), (.int .i64 0), (.int .i64 0), (.int .i64 0)]) 64 rfl Tryz.underlying31 info59 rfl (by decide) (by omega) bW bN aT _ _ _ (fun _ => True) (fun _ => False) rfl rfl ?aO ?aR (fun _ _ h => h) (fun _ h => h.elim) ?aF ?aB ?aS ?aL ?_
      (case aR => exact KD cE HB)
      (case aB => exact (K2 HB aH.out aI.out))
      (case aF => exact (fun _ _ => trivial))
      (case aO => exact (KR aN))
      (case aS => exact (below_size (K2 HB aH.out aI.out)))
      (case aL => have := LMc2.out; omega)
      intro bZ dO ho hb hg hat; rw [← Ny106.out] at ho; replace aA := am (blk_grown (g := aX) (o := .cells #[.int .i64 aJ, .slice bH aT.length bI, .int .i64 aK, .slice bJ aM.length bK, .slice bC aW.length bD, .slice bE aV.length bF] 37 (0, 0)) (KB aA) hg (Kd.R_ne aN.out aA.out (by decide))); replace aE := am (blk_grown (g := aD) (o := .cells #[.int .i64 0, .slice none 0 0, .int .i64 0, .slice none 0 0, .slice none 0 0, .slice none 0 0] 37 (0, 0)) (KB aE) hg (Kd.R_ne aN.out aE.out (by decide))); replace aP := am (Kd.R_over' (KR aP) (Kd.R_typed (KR aN)) (by decide) hg); replace HB := am (hb); have aQ := am (ho); clear aN; clear ho hb hg hat; refine hK.out _ _ (zd6 aA) (fun aG => ?_); clear hK K; refine nm (some 8) ?_; exact norm_ (by simp only [putAll, Act.put, List.setIfInBounds_toArray, List.set_cons_zero, List.set_cons_succ]) (hCont (bW, bZ, bX) _ ⟨aG, (KR aQ), (KR aP), (KB aA), (KB aE), (K2 HB aH.out aI.out)⟩)
    ·skip
     refine Kd.R_lit_step k96 _ 96 ?hg (N := 12) ?hd (xs := ([] : List (S96))) (inner := []) (ok := fun _ => True) (okp := fun _ => True) ?hr ?hp (fun _ hk => hk) trivial (Below.refl _ _) (Nat.le_refl _) (by simp) ?_; (case hd => rfl); (case hg => rfl); (case hr => first | (go_simp; done) | (go_simp; rfl)); (case hp => exact (Reps.none _ _)); intro bX w9 bL hb hg_ hnew_; clear hg_ hnew_; (first | rw [← Ny109.out] at bL | (simp only [Int.reduceToNat] at bL; rw [← Ny109.out] at bL))
     have aP := am (Kd.R_lower bL (below_size (K2 HB aH.out aI.out))); replace aA := am (BB aA hb); replace aE := am (BB aE hb); replace HB := bl (K2 HB aH.out aI.out) hb; clear hb bL; refine hK.out _ _ (zd6 aA) (fun aG => ?_); clear hK K; refine nm (some 12) ?_; refine oW bG 2 5 (tr [5, 1, 7, 2, 2, 1, 2, 3]) (fun K hK => ?_); refine Kd.R_lit_step k59 _ 59 ?hg (N := 5) ?hd (xs := ([] : List (S59))) (inner := []) (ok := fun _ => True) (okp := fun _ => True) ?hr ?hp (fun _ hk => hk) trivial (Below.refl _ _) (Nat.le_refl _) (by simp) ?_; (case hd => rfl); (case hg => rfl); (case hr => first | (go_simp; done) | (go_simp; rfl)); (case hp => exact (Reps.none _ _)); intro bW dL bM hb hg_ hnew_; clear hg_ hnew_; (first | rw [← Ny103.out] at bM | (simp only [Int.reduceToNat] at bM; rw [← Ny103.out] at bM))
     replace aP := am (Kd.R_below (KR aP) hb); have aN := am (Kd.R_lower bM (below_size (K2 HB aH.out aI.out))); replace aA := am (BB aA hb); replace aE := am (BB aE hb); replace HB := bl (K2 HB aH.out aI.out) hb; clear hb bM; refine hK.out _ _ (zd6 aA) (fun aG => ?_); clear hK K; refine nm (some 5) ?_; refine oW bG 5 8 (tr [13, 2, 2, 1, 2, 3]) (fun K hK => ?_); refine Kd.R_append_rows_step k59 (w0 := w) w.heap.size (by rfl) (.tmp 5) (.tmp 7) 31 59 (.agg #[(.int .i64 0), (.int .i64 0), (.int .i64 0), (.int .i64 0), (.int .i64 0), (.int .i64 0), (.int .i64 0), (.int .i64 0)]) 64 rfl Tryz.underlying31 info59 rfl (by decide) (by omega) bW bN aT _ _ _ (fun _ => True) (fun _ => False) rfl rfl ?aO ?aR (fun _ _ h => h) (fun _ h => h.elim) ?aF ?aB ?aS ?aL ?_
     (case aR => exact KD cE HB)
     (case aB => exact (K2 HB aH.out aI.out))
     (case aF => exact (fun _ _ => trivial))
     (case aO => exact (KR aN))
     (case aS => exact (below_size (K2 HB aH.out aI.out)))
     (case aL => have := LMc2.out; omega)
     intro bZ dO ho hb hg hat; rw [← Ny106.out] at ho; replace aA := am (blk_grown (g := aX) (o := .cells #[.int .i64 aJ, .slice bH aT.length bI, .int .i64 aK, .slice bJ aM.length bK, .slice bC aW.length bD, .slice bE aV.length bF] 37 (0, 0)) (KB aA) hg (Kd.R_ne aN.out aA.out (by decide))); replace aE := am (blk_grown (g := aD) (o := .cells #[.int .i64 0, .slice none 0 0, .int .i64 0, .slice none 0 0, .slice none 0 0, .slice none 0 0] 37 (0, 0)) (KB aE) hg (Kd.R_ne aN.out aE.out (by decide))); replace aP := am (Kd.R_over' (KR aP) (Kd.R_typed (KR aN)) (by decide) hg); replace HB := am (hb); have aQ := am (ho); clear aN; clear ho hb hg hat; refine hK.out _ _ (zd6 aA) (fun aG => ?_); clear hK K; refine nm (some 8) ?_; exact norm_ (by simp only [putAll, Act.put, List.setIfInBounds_toArray, List.set_cons_zero, List.set_cons_succ]) (hCont (bW, bZ, bX) _ ⟨aG, (KR aQ), (KR aP), (KB aA), (KB aE), (K2 HB aH.out aI.out)⟩)
   rintro ⟨bW, bZ, bX⟩ cT ⟨hS_, h0_, h1_, h2_, h3_, h4_⟩; have aQ : Aside0 (Kd.R k59 59 cT w.heap.size (fun _ => True) bZ bB) := ⟨h0_⟩; have aP : Aside0 (Kd.R k96 96 cT w.heap.size (fun _ => True) bX bA) := ⟨h1_⟩; replace aA : Aside0 (bk cT aX #[.int .i64 aJ, .slice bH aT.length bI, .int .i64 aK, .slice bJ aM.length bK, .slice bC aW.length bD, .slice bE aV.length bF] 37) := ⟨h2_⟩; replace aE : Aside0 (bk cT aD #[.int .i64 0, .slice none 0 0, .int .i64 0, .slice none 0 0, .slice none 0 0, .slice none 0 0] 37) := ⟨h3_⟩; replace HB : Aside0 (Below w.heap.size w cT) := ⟨h4_⟩; clear h0_ h1_ h2_ h3_ h4_; have aG : de6 cT aX (.int .i64 aJ) (.slice bH aT.length bI) (.int .i64 aK) (.slice bJ aM.length bK) (.slice bC aW.length bD) (.slice bE aV.length bF) := hS_; refine norm_ (a' := ?_) ?_ ?_
   rotate_left
   ·simp only [putAll, Act.put, List.setIfInBounds_toArray, List.set_cons_zero, List.set_cons_succ]
    rfl
   refine oW bG 13 16 (tr [14, 1, 2, 1, 2, 3]) (fun K hK => ?_); refine Kd.R_append_rows_step k96 (w0 := w) w.heap.size (by rfl) (.tmp 12) (.tmp 15) 32 96 (.agg #[(.int .i64 0), (.int .i64 0), (.int .i64 0), (.int .i64 0)]) 32 rfl Tryz.underlying32 info96 rfl (by decide) (by omega) bX bA aM _ _ _ (fun _ => True) (fun _ => False) rfl rfl ?aO ?aR (fun _ _ h => h) (fun _ h => h.elim) ?aF ?aB ?aS ?aL ?_
   (case aR => exact KD cW HB)
   (case aB => exact (K2 HB aH.out aI.out))
   (case aF => exact (fun _ _ => trivial))
   (case aO => exact (KR aP))
   (case aS => exact (below_size (K2 HB aH.out aI.out)))
   (case aL => have := LMc3.out; omega)
   intro dP dT ho hb hg hat; rw [← Ny112.out] at ho; replace aA := am (blk_grown (g := aX) (o := .cells #[.int .i64 aJ, .slice bH aT.length bI, .int .i64 aK, .slice bJ aM.length bK, .slice bC aW.length bD, .slice bE aV.length bF] 37 (0, 0)) (KB aA) hg (Kd.R_ne aP.out aA.out (by decide))); replace aE := am (blk_grown (g := aD) (o := .cells #[.int .i64 0, .slice none 0 0, .int .i64 0, .slice none 0 0, .slice none 0 0, .slice none 0 0] 37 (0, 0)) (KB aE) hg (Kd.R_ne aP.out aE.out (by decide))); replace aQ := am (Kd.R_over' (KR aQ) (Kd.R_typed (KR aP)) (by decide) hg); replace HB := am (hb); have bP := am (ho); clear aP; clear ho hb hg hat; obtain ⟨cA, cB, dD⟩ := Kd.R_slice bP.out; (first | subst dD | (injection dD with f1_ f2_ f3_; have f4_ := f1_.symm; have f5_ := f3_.symm; clear f1_ f2_ f3_; subst f4_; subst f5_))
   refine hK.out _ _ (zd6 aA) (fun aG => ?_); clear hK K; refine nm (some 16) ?_; refine pv bG 14 17 (tr [17, 1, 2, 3]) ?_; refine oW bG 17 20 (tf 20 3) (fun K hK => ?_); refine gW Tryz.func40 #[.slice bC aW.length bD] ?_; with_reducible refine (spec_l10Sas.calls k _ _ aW aY _ ?_ ?_ A4.out).mono ?_
   exact KD cX HB; exact cY.out; rintro e dU ⟨dQ, rfl, cU, hb⟩; refine ⟨_, rfl, ?_⟩; replace aQ := am (Kd.R_below (KR aQ) hb); replace bP := am (Kd.R_below (KR bP) hb); have bY := am (Kd.S_lower cU (below_size (K2 HB aH.out aI.out))); replace aA := am (BB aA hb); replace aE := am (BB aE hb); replace HB := bl (K2 HB aH.out aI.out) hb; (try clear hb)
   (try clear hk)
   (try clear cU)
   refine hK.out _ _ (zd6 aA) (fun aG => ?_); clear hK K; refine nm (some 20) ?_; refine oW bG 20 23 (tf 21 2) (fun K hK => ?_); refine gW Tryz.func40 #[.slice bE aV.length bF] ?_; with_reducible refine (spec_l10Sas.calls k _ _ aV aZ _ ?_ ?_ A5.out).mono ?_
   exact KD cZ HB; exact dA.out; rintro e cV ⟨dR, rfl, cU, hb⟩; refine ⟨_, rfl, ?_⟩; replace aQ := am (Kd.R_below (KR aQ) hb); replace bP := am (Kd.R_below (KR bP) hb); have cR := am (Kd.S_lower (Kd.S_new' cU (Kd.S_lt (KX bY.out))) (below_size (K2 HB aH.out aI.out))); replace bY := am (Kd.S_elder' (KX bY.out) (Kd.S_base cU) hb); replace aA := am (BB aA hb); replace aE := am (BB aE hb); replace HB := bl (K2 HB aH.out aI.out) hb; (try clear hb)
   (try clear hk)
   (try clear cU)
   obtain ⟨cH, cI, dE⟩ := Kd.S_slice cR.out; (first | subst dE | (injection dE with f1_ f2_ f3_; have f4_ := f1_.symm; have f5_ := f3_.symm; clear f1_ f2_ f3_; subst f4_; subst f5_))
   obtain ⟨cC, cD, dF⟩ := Kd.S_slice bY.out; (first | subst dF | (injection dF with f1_ f2_ f3_; have f4_ := f1_.symm; have f5_ := f3_.symm; clear f1_ f2_ f3_; subst f4_; subst f5_))
   obtain ⟨bQ, bR, dG⟩ := Kd.R_slice aQ.out; (first | subst dG | (injection dG with f1_ f2_ f3_; have f4_ := f1_.symm; have f5_ := f3_.symm; clear f1_ f2_ f3_; subst f4_; subst f5_))
   refine hK.out _ _ (zd6 aA) (fun aG => ?_); clear hK K; refine nm (some 23) ?_; refine pv bG 21 24 (tf 22 1) ?_; refine one_ (i := 22) (N := none) (tf 23 0) rfl rfl (one_of bG.out (by kernel_rfl)) (by decide) (fun K hK => ?_); have hs22 : cV.cell? ⟨aD, 0, none⟩ = some (.int .i64 0) := z0 _ aE.out; have hfs22 := blk_frozen aE.out 0; have hns22_0 := aC.out; have hms22_0 := aU.out; have hs23 : cV.cell? ⟨aD, 1, none⟩ = some (.slice none 0 0) := z1 _ aE.out; have hfs23 := blk_frozen aE.out 1; have hns23_0 := aC.out; have hms23_0 := aU.out; have hs24 : cV.cell? ⟨aD, 2, none⟩ = some (.int .i64 0) := z2 _ aE.out; have hfs24 := blk_frozen aE.out 2; have hns24_0 := aC.out; have hms24_0 := aU.out; have hs25 : cV.cell? ⟨aD, 3, none⟩ = some (.slice none 0 0) := z3 _ aE.out; have hfs25 := blk_frozen aE.out 3; have hns25_0 := aC.out; have hms25_0 := aU.out; have hs26 : cV.cell? ⟨aD, 4, none⟩ = some (.slice none 0 0) := z4 _ aE.out; have hfs26 := blk_frozen aE.out 4; have hns26_0 := aC.out; have hms26_0 := aU.out; have hs27 : cV.cell? ⟨aD, 5, none⟩ = some (.slice none 0 0) := z5 _ aE.out; have hfs27 := blk_frozen aE.out 5; have hns27_0 := aC.out; have hms27_0 := aU.out; refine skip_ (w1 := ?_) (by rfl) rfl ?_ ?_
   rotate_left
   ·go_simp
    rfl
   refine hK.out _ _ ⟨((cell_far (p := ⟨aD, _, none⟩) aC.out _).trans (((cell_far (p := ⟨aD, _, none⟩) aC.out _).trans (((cell_far (p := ⟨aD, _, none⟩) aC.out _).trans (((cell_far (p := ⟨aD, _, none⟩) aC.out _).trans (((cell_far (p := ⟨aD, _, none⟩) aC.out _).trans (((cell_far (p := ⟨aD, _, none⟩) aC.out _).trans (aG.1)))))))))))), ((cell_far (p := ⟨aD, _, none⟩) aC.out _).trans (((cell_far (p := ⟨aD, _, none⟩) aC.out _).trans (((cell_far (p := ⟨aD, _, none⟩) aC.out _).trans (((cell_far (p := ⟨aD, _, none⟩) aC.out _).trans (((cell_far (p := ⟨aD, _, none⟩) aC.out _).trans (((cell_far (p := ⟨aD, _, none⟩) aC.out _).trans (aG.2.1)))))))))))), ((cell_far (p := ⟨aD, _, none⟩) aC.out _).trans (((cell_far (p := ⟨aD, _, none⟩) aC.out _).trans (((cell_far (p := ⟨aD, _, none⟩) aC.out _).trans (((cell_far (p := ⟨aD, _, none⟩) aC.out _).trans (((cell_far (p := ⟨aD, _, none⟩) aC.out _).trans (((cell_far (p := ⟨aD, _, none⟩) aC.out _).trans (aG.2.2.1)))))))))))), ((cell_far (p := ⟨aD, _, none⟩) aC.out _).trans (((cell_far (p := ⟨aD, _, none⟩) aC.out _).trans (((cell_far (p := ⟨aD, _, none⟩) aC.out _).trans (((cell_far (p := ⟨aD, _, none⟩) aC.out _).trans (((cell_far (p := ⟨aD, _, none⟩) aC.out _).trans (((cell_far (p := ⟨aD, _, none⟩) aC.out _).trans (aG.2.2.2.1)))))))))))), ((cell_far (p := ⟨aD, _, none⟩) aC.out _).trans (((cell_far (p := ⟨aD, _, none⟩) aC.out _).trans (((cell_far (p := ⟨aD, _, none⟩) aC.out _).trans (((cell_far (p := ⟨aD, _, none⟩) aC.out _).trans (((cell_far (p := ⟨aD, _, none⟩) aC.out _).trans (((cell_far (p := ⟨aD, _, none⟩) aC.out _).trans (aG.2.2.2.2.1)))))))))))), ((cell_far (p := ⟨aD, _, none⟩) aC.out _).trans (((cell_far (p := ⟨aD, _, none⟩) aC.out _).trans (((cell_far (p := ⟨aD, _, none⟩) aC.out _).trans (((cell_far (p := ⟨aD, _, none⟩) aC.out _).trans (((cell_far (p := ⟨aD, _, none⟩) aC.out _).trans (((cell_far (p := ⟨aD, _, none⟩) aC.out _).trans (aG.2.2.2.2.2))))))))))))⟩ (fun aG => ?_); clear hK K; refine done_ (done_of bG.out (by kernel_rfl)) ?_; try go_wp2
   refine bodyPost_ret (results_cell_row rfl _ _ aD 37 #[.int .i64 aJ, .slice bQ bB.length bR, .int .i64 aK, .slice cA bO.length cB, .slice cC aY.length cD, .slice cH aZ.length cI] (0, 0) _ rfl (by refine BD ?_; refine blk_put (cs := #[.int .i64 aJ, .slice bQ bB.length bR, .int .i64 aK, .slice cA bO.length cB, .slice cC aY.length cD, .slice none 0 0]) ?_ 5 _ rfl; refine BD ?_; refine blk_put (cs := #[.int .i64 aJ, .slice bQ bB.length bR, .int .i64 aK, .slice cA bO.length cB, .slice none 0 0, .slice none 0 0]) ?_ 4 _ rfl; refine BD ?_; refine blk_put (cs := #[.int .i64 aJ, .slice bQ bB.length bR, .int .i64 aK, .slice none 0 0, .slice none 0 0, .slice none 0 0]) ?_ 3 _ rfl; refine BD ?_; refine blk_put (cs := #[.int .i64 aJ, .slice bQ bB.length bR, .int .i64 0, .slice none 0 0, .slice none 0 0, .slice none 0 0]) ?_ 2 _ rfl; refine BD ?_; refine blk_put (cs := #[.int .i64 aJ, .slice none 0 0, .int .i64 0, .slice none 0 0, .slice none 0 0, .slice none 0 0]) ?_ 1 _ rfl; refine BD ?_; refine blk_put (cs := #[.int .i64 0, .slice none 0 0, .int .i64 0, .slice none 0 0, .slice none 0 0, .slice none 0 0]) ?_ 0 _ rfl; refine BD ?_; exact aE.out) Tryz.underlying37 rfl (by kernel_rfl)) rfl ?_; exact ⟨_, _, _, _, ER, by refine KW ?_; exact Kd.R_mono (Kd.R_far (p := ⟨aD, 5, none⟩) (Kd.R_far (p := ⟨aD, 4, none⟩) (Kd.R_far (p := ⟨aD, 3, none⟩) (Kd.R_far (p := ⟨aD, 2, none⟩) (Kd.R_far (p := ⟨aD, 1, none⟩) (Kd.R_far (p := ⟨aD, 0, none⟩) (Kd.R_types aQ.out aE.out (by decide)) (fun _ hk => hk.2) (.int .i64 aJ)) (fun _ hk => hk.2) (.slice bQ bB.length bR)) (fun _ hk => hk.2) (.int .i64 aK)) (fun _ hk => hk.2) (.slice cA bO.length cB)) (fun _ hk => hk.2) (.slice cC aY.length cD)) (fun _ hk => hk.2) (.slice cH aZ.length cI)) (fun _ hk => trivial), by refine KW ?_; exact Kd.R_mono (Kd.R_far (p := ⟨aD, 5, none⟩) (Kd.R_far (p := ⟨aD, 4, none⟩) (Kd.R_far (p := ⟨aD, 3, none⟩) (Kd.R_far (p := ⟨aD, 2, none⟩) (Kd.R_far (p := ⟨aD, 1, none⟩) (Kd.R_far (p := ⟨aD, 0, none⟩) (Kd.R_types bP.out aE.out (by decide)) (fun _ hk => hk.2) (.int .i64 aJ)) (fun _ hk => hk.2) (.slice bQ bB.length bR)) (fun _ hk => hk.2) (.int .i64 aK)) (fun _ hk => hk.2) (.slice cA bO.length cB)) (fun _ hk => hk.2) (.slice cC aY.length cD)) (fun _ hk => hk.2) (.slice cH aZ.length cI)) (fun _ hk => trivial), by refine KX ?_; exact Kd.S_mono (Kd.S_far (p := ⟨aD, 5, none⟩) (Kd.S_far (p := ⟨aD, 4, none⟩) (Kd.S_far (p := ⟨aD, 3, none⟩) (Kd.S_far (p := ⟨aD, 2, none⟩) (Kd.S_far (p := ⟨aD, 1, none⟩) (Kd.S_far (p := ⟨aD, 0, none⟩) (Kd.S_types bY.out aE.out (by decide)) (fun _ hk => hk.2) (.int .i64 aJ)) (fun _ hk => hk.2) (.slice bQ bB.length bR)) (fun _ hk => hk.2) (.int .i64 aK)) (fun _ hk => hk.2) (.slice cA bO.length cB)) (fun _ hk => hk.2) (.slice cC aY.length cD)) (fun _ hk => hk.2) (.slice cH aZ.length cI)) (fun _ hk => hk.1.2), by refine KX ?_; exact Kd.S_mono (Kd.S_far (p := ⟨aD, 5, none⟩) (Kd.S_far (p := ⟨aD, 4, none⟩) (Kd.S_far (p := ⟨aD, 3, none⟩) (Kd.S_far (p := ⟨aD, 2, none⟩) (Kd.S_far (p := ⟨aD, 1, none⟩) (Kd.S_far (p := ⟨aD, 0, none⟩) (Kd.S_types cR.out aE.out (by decide)) (fun _ hk => hk.2) (.int .i64 aJ)) (fun _ hk => hk.2) (.slice bQ bB.length bR)) (fun _ hk => hk.2) (.int .i64 aK)) (fun _ hk => hk.2) (.slice cA bO.length cB)) (fun _ hk => hk.2) (.slice cC aY.length cD)) (fun _ hk => hk.2) (.slice cH aZ.length cI)) (fun _ hk => hk.1.2), K2 HB aH.out aI.out⟩
  ·rw [if_neg c3] at H
   exact absurd H (by simp)
 ·rw [if_neg c2] at H
  exact absurd H (by simp)
def spec_l5Join.f (l0 : List (S104)) (a1_0 : Int) (a1_1 : Int) (a1_2 : Int) (a1_3 : Int) (a1_4 : Int) (a1_5 : Int) (a1_6 : Int) : Option ((List (S104))) := if (wrap64 ((l0.length : Int) - 1)) ≥ 0 then (if 0 ≤ (wrap64 ((l0.length : Int) - 1)) then (if (wrap64 ((l0.length : Int) - 1)) < (l0.length : Int) then (if ((rd_T104 l0 (wrap64 ((l0.length : Int) - 1))).f6) = a1_6 then (if ((rd_T104 l0 (wrap64 ((l0.length : Int) - 1))).f0) = a1_0 then (if ((rd_T104 l0 (wrap64 ((l0.length : Int) - 1))).f2) = a1_2 then (if (wrap64 (((rd_T104 l0 (wrap64 ((l0.length : Int) - 1))).f5) + 1)) = a1_4 then (some (l0.set ((wrap64 ((l0.length : Int) - 1)) : Int).toNat (⟨(rd_T104 l0 (wrap64 ((l0.length : Int) - 1))).f0, (rd_T104 l0 (wrap64 ((l0.length : Int) - 1))).f1, (rd_T104 l0 (wrap64 ((l0.length : Int) - 1))).f2, (rd_T104 l0 (wrap64 ((l0.length : Int) - 1))).f3, (rd_T104 l0 (wrap64 ((l0.length : Int) - 1))).f4, a1_5, (rd_T104 l0 (wrap64 ((l0.length : Int) - 1))).f6⟩ : S104))) else (if l0.length < 2513169434916 then (some (l0 ++ [(⟨a1_0, a1_1, a1_2, a1_3, a1_4, a1_5, a1_6⟩ : S104)])) else (none))) else (if l0.length < 2513169434916 then (some (l0 ++ [(⟨a1_0, a1_1, a1_2, a1_3, a1_4, a1_5, a1_6⟩ : S104)])) else (none))) else (if l0.length < 2513169434916 then (some (l0 ++ [(⟨a1_0, a1_1, a1_2, a1_3, a1_4, a1_5, a1_6⟩ : S104)])) else (none))) else (if l0.length < 2513169434916 then (some (l0 ++ [(⟨a1_0, a1_1, a1_2, a1_3, a1_4, a1_5, a1_6⟩ : S104)])) else (none))) else (none)) else (none)) else (if l0.length < 2513169434916 then (some (l0 ++ [(⟨a1_0, a1_1, a1_2, a1_3, a1_4, a1_5, a1_6⟩ : S104)])) else (none))
theorem spec_l5Join.calls (P0_ : Nat → Prop) (u9000_ : Value) (l0 : List (S104)) (aE : Int) (aJ : Int) (aG : Int) (aK : Int) (aH : Int) (aD : Int) (aI : Int) (r : List (S104)) (w0 w : World) (hB : Below w0.heap.size w0 w) (hO : Kd.R k104 104 w w0.heap.size P0_ u9000_ l0) (h : spec_l5Join.f l0 aE aJ aG aK aH aD aI = some r) :
  Calls Tryz.prog 75 #[u9000_, .agg #[.int .i64 aE, .int .i64 aJ, .int .i64 aG, .int .i64 aK, .int .i64 aH, .int .i64 aD, .int .i64 aI]] w fun e w' => ∃ v0_ : Value, e = .returned (v0_) ∧ Kd.R k104 104 w' w0.heap.size (fun k_ => (P0_ k_ ∨ w.heap.size ≤ k_)) v0_ r ∧ Below w0.heap.size w0 w' ∧ Kept w w' (fun k_ => P0_ k_) := by
 have hI := Tryz.underlying104; have aM := am (show Kd.R k104 104 w w0.heap.size (fun k_ => (P0_ k_ ∨ w.heap.size ≤ k_)) u9000_ l0 from Kd.R_mono hO (fun k_ hk => (.inl hk))); have HK := am (Kept.refl w (fun k_ => P0_ k_)); have HW0 := Aside0.mk hB.size; have HB := Aside0.mk hB; clear hB; unfold spec_l5Join.f at h; generalize hji4 : wrap64 ((l0.length : Int) - 1) = ji4 at h; have hji4w : (IntKind.i64.wrap ((l0.length : Int) - 1)) = ji4 := (i64_w _).trans hji4
 have hc : (0 ≤ ji4 ∧ ji4 < (l0.length : Int) ∧ ((rd_T104 l0 ji4).f6 == aI) = true ∧ ((rd_T104 l0 ji4).f0 == aE) = true ∧ ((rd_T104 l0 ji4).f2 == aG) = true ∧ (wrap64 ((rd_T104 l0 ji4).f5 + 1) == aH) = true ∧ r = l0.set ji4.toNat (⟨(rd_T104 l0 ji4).f0, (rd_T104 l0 ji4).f1, (rd_T104 l0 ji4).f2, (rd_T104 l0 ji4).f3, (rd_T104 l0 ji4).f4, aD, (rd_T104 l0 ji4).f6⟩ : S104)) ∨
   (l0.length < 2513169434916 ∧ r = l0 ++ [(⟨aE, aJ, aG, aK, aH, aD, aI⟩ : S104)] ∧ (decide (ji4 ≥ 0) = false ∨ (decide (ji4 ≥ 0) = true ∧ 0 ≤ ji4 ∧ ji4 < (l0.length : Int) ∧
    (((rd_T104 l0 ji4).f6 == aI) = false ∨ (((rd_T104 l0 ji4).f6 == aI) = true ∧ (((rd_T104 l0 ji4).f0 == aE) = false ∨ (((rd_T104 l0 ji4).f0 == aE) = true ∧ (((rd_T104 l0 ji4).f2 == aG) = false ∨ (((rd_T104 l0 ji4).f2 == aG) = true ∧ (wrap64 ((rd_T104 l0 ji4).f5 + 1) == aH) = false))))))))) := by
  repeat' split at h
  all_goals first | (cases h; done) | (obtain rfl := sj h; grind)
 clear h; rcases hc with ⟨h0, h1, c7, c8, c9, c10, rfl⟩ | ⟨LM, rfl, hc⟩
 ·have c3 : decide (ji4 ≥ 0) = true := decide_eq_true h0
  have c5 := decide_eq_true h0; have c6 := decide_eq_true h1; clear h0 h1; obtain ⟨gF, Ny106⟩ : ∃ y, Aside0 (y = l0.set ji4.toNat (⟨(rd_T104 l0 ji4).f0, (rd_T104 l0 ji4).f1, (rd_T104 l0 ji4).f2, (rd_T104 l0 ji4).f3, (rd_T104 l0 ji4).f4, aD, (rd_T104 l0 ji4).f6⟩ : S104)) := ⟨_, am rfl⟩; rw [← Ny106.out]; go_enter Tryz.func75, Tryz.ntmps75
  go_wp2_with (first | ((with_reducible refine gate_dst (N := 3) rfl ?_); refine box_event rfl (N := 3) rfl (cs := #[.int .i64 aE, .int .i64 aJ, .int .i64 aG, .int .i64 aK, .int .i64 aH, .int .i64 aD, .int .i64 aI]) (t := 104) BX ?_; intro aA hg bS aV hb; replace aM := am (Kd.R_below (Kd.R_elderB (KR aM) aA (Nat.le_of_eq hg.symm)) hb); have aC := am (aV); have aN := am ((by rw [hg]; exact (by first | exact HK.out.1 | exact (show Kept w _ (fun k_ => P0_ k_) from by repeat (first | (with_reducible first | exact HK.out | apply Kept.alloc | apply Kept.drewN | apply Kept.drew) | exact HK.out)).1) : w.heap.size ≤ aA)); replace HK := am (Kept.below (S := (fun k_ => P0_ k_)) (by repeat (first | (with_reducible first | exact HK.out | apply Kept.alloc | apply Kept.drewN | apply Kept.drew) | exact HK.out)) hb); have aQ := am ((by rw [hg]; exact (below_size (KL HB)) : w0.heap.size ≤ aA)); replace HB := bl (KL HB) hb; clear hb aV hg; obtain ⟨gH, cR, eX⟩ := Kd.R_slice aM.out; subst eX; have aT : 0 ≤ ((ji4) : Int) := OD; have aU : (ji4) < (l0.length : Int) := OD; obtain ⟨aR, bT, aY, aZ, bA, bB, bC, bD, bE⟩ := at_T104 (Kd.R_reads' aM.out).2.2 (ji4) aT aU; cases bT; replace aT := eq_true aT; replace aU := eq_true aU; obtain ⟨dB, dC, dD, dE, dF, dG, dH, dI⟩ := y7 bS aC.out; have eY : 0 ≤ ((ji4) : Int) := OD; have eZ : ((ji4) : Int) < ((l0.length : Int) : Int) := OD; obtain ⟨go11, gI, cU, cV, gl11, cl11, HG11⟩ := Kd.R_form aM.out (by omega); (first | cases cU | (injection cU with ea_ en_ ec_; (first | subst ea_ | (injection ea_ with ea_; subst ea_)); subst ec_; clear en_)); have GB11 := Aside0.mk cV; have GG11 := Aside0.mk HG11; clear cV gl11 HG11; have HMgo11 := am (show (P0_ go11 ∨ w.heap.size ≤ go11) from (aM.out.1 _ rfl).1); (first | simp only [add_plain] at aY | skip); (first | simp only [add_plain] at aZ | skip); (first | simp only [add_plain] at bA | skip); (first | simp only [add_plain] at bB | skip); (first | simp only [add_plain] at bC | skip); (first | simp only [add_plain] at bD | skip); (first | simp only [add_plain] at bE | skip); obtain ⟨ce11, hcl11, hM11, bF, bG⟩ := Kd.R_elem aM.out z104 ((ji4) : Int) eY eZ; obtain rfl := k104_openM hM11; have fA : bS.cell? ⟨go11, ((ji4) : Int).toNat * 7, none⟩ = some (.int .i64 ((rd_T104 l0 (ji4)).f0)) := bF 0 _ rfl; have fB : bS.cell? ⟨go11, ((ji4) : Int).toNat * 7 + 1, none⟩ = some (.int .i64 ((rd_T104 l0 (ji4)).f1)) := bF 1 _ rfl; have fC : bS.cell? ⟨go11, ((ji4) : Int).toNat * 7 + 2, none⟩ = some (.int .i64 ((rd_T104 l0 (ji4)).f2)) := bF 2 _ rfl; have fD : bS.cell? ⟨go11, ((ji4) : Int).toNat * 7 + 3, none⟩ = some (.int .i64 ((rd_T104 l0 (ji4)).f3)) := bF 3 _ rfl; have fE : bS.cell? ⟨go11, ((ji4) : Int).toNat * 7 + 4, none⟩ = some (.int .i64 ((rd_T104 l0 (ji4)).f4)) := bF 4 _ rfl; have fF : bS.cell? ⟨go11, ((ji4) : Int).toNat * 7 + 5, none⟩ = some (.int .i64 ((rd_T104 l0 (ji4)).f5)) := bF 5 _ rfl; have fG : bS.cell? ⟨go11, ((ji4) : Int).toNat * 7 + 6, none⟩ = some (.int .i64 ((rd_T104 l0 (ji4)).f6)) := bF 6 _ rfl; have fH : bS.frozen? ⟨go11, ((ji4) : Int).toNat * 7, none⟩ = false := bG 0; have fI : bS.frozen? ⟨go11, ((ji4) : Int).toNat * 7 + 1, none⟩ = false := bG 1; have fJ : bS.frozen? ⟨go11, ((ji4) : Int).toNat * 7 + 2, none⟩ = false := bG 2; have fK : bS.frozen? ⟨go11, ((ji4) : Int).toNat * 7 + 3, none⟩ = false := bG 3; have fL : bS.frozen? ⟨go11, ((ji4) : Int).toNat * 7 + 4, none⟩ = false := bG 4; have fM : bS.frozen? ⟨go11, ((ji4) : Int).toNat * 7 + 5, none⟩ = false := bG 5; have fN : bS.frozen? ⟨go11, ((ji4) : Int).toNat * 7 + 6, none⟩ = false := bG 6; clear hcl11 bF bG hM11; replace eY := eq_true eY; replace eZ := eq_true eZ; have HX15 := am (show Kd.R k104 104 bS w0.heap.size (fun k_ => (P0_ k_ ∨ w.heap.size ≤ k_) ∧ k_ ≠ aA) (.slice (some ⟨go11, 0, none⟩) l0.length cR) l0 from (KR aM)); obtain ⟨ce15, hcl15, hM15, bR, cC⟩ := Kd.R_elem HX15.out z104 ((ji4) : Int) (OD) (by have h_ : ((ji4) : Int) < ((l0.length : Int) : Int) := OD; first | exact h_ | (have e_ := (Kd.R_reads' aM.out).1; omega) | simpa using h_); obtain rfl := k104_openM hM15; have HP15 := Kd.R_seg HX15.out ((ji4) : Int) (OD) (by have h_ : ((ji4) : Int) < ((l0.length : Int) : Int) := OD; first | exact h_ | (have e_ := (Kd.R_reads' aM.out).1; omega) | simpa using h_) (seg := [.int .i64 aD]) (j := 5) hcl15 bR (show 6 ≤ 7 from by decide) (x' := (⟨(rd_T104 l0 (ji4)).f0, (rd_T104 l0 (ji4)).f1, (rd_T104 l0 (ji4)).f2, (rd_T104 l0 (ji4)).f3, (rd_T104 l0 (ji4)).f4, aD, (rd_T104 l0 (ji4)).f6⟩ : S104)) (k104_mkM _ _ _ (⟨(rd_T104 l0 (ji4)).f0, (rd_T104 l0 (ji4)).f1, (rd_T104 l0 (ji4)).f2, (rd_T104 l0 (ji4)).f3, (rd_T104 l0 (ji4)).f4, aD, (rd_T104 l0 (ji4)).f6⟩ : S104) ) (fun _ hk => hk); have cG := bR 5 _ rfl; (try simp only [show (k104).sz = 7 from rfl, Nat.mul_one, Nat.add_zero] at cG); have cH := cC 5; (try simp only [show (k104).sz = 7 from rfl, Nat.mul_one, Nat.add_zero] at cH); clear hcl15 bR cC hM15))
  go_quiet (fail)
  go_wp2_with (first | ((with_reducible refine gate_store (t := 3) (p := 57) rfl ?_); (try (rw [drewN_self bS]; generalize hq_ : World.drewN bS _ = bS; replace aM := am (Kd.R_at hq_ aM.out); replace aC := am (blk_at hq_ aC.out); replace HK := am (kept_at hq_ HK.out); replace HB := am (below_at hq_ HB.out); clear hq_; (try (have HX15 := am (show Kd.R k104 104 bS w0.heap.size (fun k_ => (P0_ k_ ∨ w.heap.size ≤ k_) ∧ k_ ≠ aA) (.slice (some ⟨go11, 0, none⟩) l0.length cR) l0 from (KR aM)))); (try (obtain ⟨ce15, hcl15, hM15, bR, cC⟩ := Kd.R_elem HX15.out z104 ((ji4) : Int) (OD) (by have h_ : ((ji4) : Int) < ((l0.length : Int) : Int) := OD; first | exact h_ | (have e_ := (Kd.R_reads' aM.out).1; omega) | simpa using h_))); (try (obtain rfl := k104_openM hM15)); (try (have HP15 := Kd.R_seg HX15.out ((ji4) : Int) (OD) (by have h_ : ((ji4) : Int) < ((l0.length : Int) : Int) := OD; first | exact h_ | (have e_ := (Kd.R_reads' aM.out).1; omega) | simpa using h_) (seg := [.int .i64 aD]) (j := 5) hcl15 bR (show 6 ≤ 7 from by decide) (x' := (⟨(rd_T104 l0 (ji4)).f0, (rd_T104 l0 (ji4)).f1, (rd_T104 l0 (ji4)).f2, (rd_T104 l0 (ji4)).f3, (rd_T104 l0 (ji4)).f4, aD, (rd_T104 l0 (ji4)).f6⟩ : S104)) (k104_mkM _ _ _ (⟨(rd_T104 l0 (ji4)).f0, (rd_T104 l0 (ji4)).f1, (rd_T104 l0 (ji4)).f2, (rd_T104 l0 (ji4)).f3, (rd_T104 l0 (ji4)).f4, aD, (rd_T104 l0 (ji4)).f6⟩ : S104) ) (fun _ hk => hk))); (try (have cG := bR 5 _ rfl)); (try (try simp only [show (k104).sz = 7 from rfl, Nat.mul_one, Nat.add_zero] at cG)); (try (have cH := cC 5)); (try (try simp only [show (k104).sz = 7 from rfl, Nat.mul_one, Nat.add_zero] at cH)); (try (clear hcl15 bR cC hM15)))); refine store_event (t := 3) (p := 57) (v := ?vo_w16) (w1 := (bS.setCell ⟨go11, ((ji4) : Int).toNat * 7 + 5, none⟩ (.int .i64 aD))) ?hg ?ho ?hn ?hr ?_; (case ho => rfl); (case hg => rfl); (case hn => rfl); (case hr => first | (go_simp; done) | (go_simp; rfl)); intro fO hw; have hg : bS.grownBy fO (some go11) := (by rw [hw]; exact HP15.2); have hp_ : Kd.R k104 104 fO w0.heap.size (fun k_ => (P0_ k_ ∨ w.heap.size ≤ k_) ∧ k_ ≠ aA) (.slice (some ⟨go11, 0, none⟩) l0.length cR) gF := (by rw [hw, Ny106.out]; exact HP15.1); clear HP15; replace aC := am (blk_grown (g := aA) (o := .cells #[.int .i64 aE, .int .i64 aJ, .int .i64 aG, .int .i64 aK, .int .i64 aH, .int .i64 aD, .int .i64 aI] 104 (0, 0)) (KB aC) hg (Kd.R_away aM.out (fun _ hk => hk.2))); replace HB := am ((by rw [hw]; exact below_set (HB.out) GB11.out : Below w0.heap.size w0 fO)); replace HK := am (Kept.of_grown (S := (fun k_ => P0_ k_)) hg (by repeat (first | (with_reducible first | exact HK.out | apply Kept.alloc | apply Kept.drewN | apply Kept.drew | refine Kept.setCell ?_ (.inr aN.out) _) | exact HK.out)) (fun k_ e_ => (aM.out.1 k_ e_).1)); replace aM := am (hp_); clear hg hw hp_))
  go_ret
  exact ⟨_, by first | rfl | (simp [errW_none, errW_some] <;> rfl) | (simp only [← hji4]; first | rfl | (simp [errW_none, errW_some] <;> rfl)) | (simp [*, errW_none, errW_some] <;> rfl), by refine KW ?_; exact Kd.R_mono aM.out (fun _ hk => hk.1), K1 HB aQ.out, by repeat (first | (with_reducible first | exact HK.out | apply Kept.alloc | apply Kept.drewN | apply Kept.drew | refine Kept.setCell ?_ (.inr aN.out) _) | exact HK.out)⟩
 ·obtain ⟨hD, Ny107⟩ : ∃ y, Aside0 (y = l0 ++ [(⟨aE, aJ, aG, aK, aH, aD, aI⟩ : S104)]) := ⟨_, am rfl⟩
  rw [← Ny107.out]; have LMc17 := am LM; clear LM; have hf : ∃ q : Bool, q = decide (ji4 ≥ 0) := ⟨_, rfl⟩; rcases hc with c3 | ⟨c3, h0, h1, hc⟩
  ·go_enter Tryz.func75, Tryz.ntmps75
   go_wp2_with (first | ((with_reducible refine gate_dst (N := 3) rfl ?_); refine box_event rfl (N := 3) rfl (cs := #[.int .i64 aE, .int .i64 aJ, .int .i64 aG, .int .i64 aK, .int .i64 aH, .int .i64 aD, .int .i64 aI]) (t := 104) BX ?_; intro aA hg gV aV hb; replace aM := am (Kd.R_below (Kd.R_elderB (KR aM) aA (Nat.le_of_eq hg.symm)) hb); have aC := am (aV); have aN := am ((by rw [hg]; exact (by first | exact HK.out.1 | exact (show Kept w _ (fun k_ => P0_ k_) from by repeat (first | (with_reducible first | exact HK.out | apply Kept.alloc | apply Kept.drewN | apply Kept.drew) | exact HK.out)).1) : w.heap.size ≤ aA)); replace HK := am (Kept.below (S := (fun k_ => P0_ k_)) (by repeat (first | (with_reducible first | exact HK.out | apply Kept.alloc | apply Kept.drewN | apply Kept.drew) | exact HK.out)) hb); have aQ := am ((by rw [hg]; exact (below_size (KL HB)) : w0.heap.size ≤ aA)); replace HB := bl (KL HB) hb; clear hb aV hg; obtain ⟨gB, gC, gD⟩ := Kd.R_slice aM.out; subst gD; obtain ⟨eP, eQ, eR, eS, eT, eU, eV, eW⟩ := y7 gV aC.out))
   go_quiet (fail)
   go_wp2_with (first | ((with_reducible refine gate_builtin (b := .append) (xs := #[.tmp 59, .tmp 61]) rfl ?_); at_builtin; refine Kd.R_append k104 (w0 := w0) w0.heap.size rfl (.tmp 59) (.tmp 61) 51 104 (.agg #[(.int .i64 0), (.int .i64 0), (.int .i64 0), (.int .i64 0), (.int .i64 0), (.int .i64 0), (.int .i64 0)]) 56 rfl Tryz.underlying51 info104 rfl (by decide) (by omega) (.slice gB l0.length gC) l0 (⟨aE, aJ, aG, aK, aH, aD, aI⟩ : S104) [.int .i64 aE, .int .i64 aJ, .int .i64 aG, .int .i64 aK, .int .i64 aH, .int .i64 aD, .int .i64 aI] (fun k_ => (P0_ k_ ∨ w.heap.size ≤ k_) ∧ k_ ≠ aA) (fun _ => False) rfl rfl ?aP (fun _ hk => hk.elim) ?aF ?aO ?aB ?aS ?aL ?_; (case aP => exact k104_mkM _ _ _ (⟨aE, aJ, aG, aK, aH, aD, aI⟩ : S104)); (case aB => exact (K1 HB aQ.out)); (case aF => exact (fun k_ hk => ⟨(.inr (Nat.le_trans (by first | exact HK.out.1 | exact (show Kept w _ (fun k_ => P0_ k_) from by repeat (first | (with_reducible first | exact HK.out | apply Kept.alloc | apply Kept.drewN | apply Kept.drew | refine Kept.setCell ?_ (.inr aN.out) _) | exact HK.out)).1) hk)), Kd.freshB (g := aA) (o := .cells #[.int .i64 aE, .int .i64 aJ, .int .i64 aG, .int .i64 aK, .int .i64 aH, .int .i64 aD, .int .i64 aI] 104 (0, 0)) (KB aC) k_ hk⟩)); (case aO => exact (KR aM)); (case aS => exact (below_size (K1 HB aQ.out))); (case aL => have := LMc17.out; omega); intro gW hN ho hb hg hat; rw [← Ny107.out] at ho; replace aC := am (blk_grown (g := aA) (o := .cells #[.int .i64 aE, .int .i64 aJ, .int .i64 aG, .int .i64 aK, .int .i64 aH, .int .i64 aD, .int .i64 aI] 104 (0, 0)) (KB aC) hg (Kd.R_away aM.out (fun _ hk => hk.2))); replace HB := am (hb); replace HK := am (Kept.of_grown (S := (fun k_ => P0_ k_)) hg (by repeat (first | (with_reducible first | exact HK.out | apply Kept.alloc | apply Kept.drewN | apply Kept.drew | refine Kept.setCell ?_ (.inr aN.out) _) | exact HK.out)) (fun k_ e_ => (aM.out.1 k_ e_).1)); have gE := am (ho); clear aM; clear ho hb hg hat))
   go_ret
   exact ⟨_, rfl, by refine KW ?_; exact Kd.R_mono gE.out (fun _ hk => hk.1), K1 HB aQ.out, by repeat (first | (with_reducible first | exact HK.out | apply Kept.alloc | apply Kept.drewN | apply Kept.drew | refine Kept.setCell ?_ (.inr aN.out) _) | exact HK.out)⟩
  ·have c5 := decide_eq_true h0
   have c6 := decide_eq_true h1; clear h0 h1; rcases hc with c7 | ⟨c7, c8 | ⟨c8, c9 | ⟨c9, c10⟩⟩⟩
   all_goals
    go_enter Tryz.func75, Tryz.ntmps75
    go_wp2_with (first | ((with_reducible refine gate_dst (N := 3) rfl ?_); refine box_event rfl (N := 3) rfl (cs := #[.int .i64 aE, .int .i64 aJ, .int .i64 aG, .int .i64 aK, .int .i64 aH, .int .i64 aD, .int .i64 aI]) (t := 104) BX ?_; intro aA hg gJ aV hb; replace aM := am (Kd.R_below (Kd.R_elderB (KR aM) aA (Nat.le_of_eq hg.symm)) hb); have aC := am (aV); have aN := am ((by rw [hg]; exact (by first | exact HK.out.1 | exact (show Kept w _ (fun k_ => P0_ k_) from by repeat (first | (with_reducible first | exact HK.out | apply Kept.alloc | apply Kept.drewN | apply Kept.drew) | exact HK.out)).1) : w.heap.size ≤ aA)); replace HK := am (Kept.below (S := (fun k_ => P0_ k_)) (by repeat (first | (with_reducible first | exact HK.out | apply Kept.alloc | apply Kept.drewN | apply Kept.drew) | exact HK.out)) hb); have aQ := am ((by rw [hg]; exact (below_size (KL HB)) : w0.heap.size ≤ aA)); replace HB := bl (KL HB) hb; clear hb aV hg; obtain ⟨gK, fP, fQ⟩ := Kd.R_slice aM.out; subst fQ; have aT : 0 ≤ ((ji4) : Int) := OD; have aU : (ji4) < (l0.length : Int) := OD; obtain ⟨aR, bT, aY, aZ, bA, bB, bC, bD, bE⟩ := at_T104 (Kd.R_reads' aM.out).2.2 (ji4) aT aU; cases bT; replace aT := eq_true aT; replace aU := eq_true aU; obtain ⟨dJ, dK, dL, dM, dN, dO, dP, dQ⟩ := y7 gJ aC.out))
    go_quiet (fail)
    go_wp2_with (first | ((with_reducible refine gate_builtin (b := .append) (xs := #[.tmp 59, .tmp 61]) rfl ?_); at_builtin; refine Kd.R_append k104 (w0 := w0) w0.heap.size rfl (.tmp 59) (.tmp 61) 51 104 (.agg #[(.int .i64 0), (.int .i64 0), (.int .i64 0), (.int .i64 0), (.int .i64 0), (.int .i64 0), (.int .i64 0)]) 56 rfl Tryz.underlying51 info104 rfl (by decide) (by omega) (.slice (some aR) l0.length fP) l0 (⟨aE, aJ, aG, aK, aH, aD, aI⟩ : S104) [.int .i64 aE, .int .i64 aJ, .int .i64 aG, .int .i64 aK, .int .i64 aH, .int .i64 aD, .int .i64 aI] (fun k_ => (P0_ k_ ∨ w.heap.size ≤ k_) ∧ k_ ≠ aA) (fun _ => False) rfl rfl ?aP (fun _ hk => hk.elim) ?aF ?aO ?aB ?aS ?aL ?_; (case aP => exact k104_mkM _ _ _ (⟨aE, aJ, aG, aK, aH, aD, aI⟩ : S104)); (case aB => exact (K1 HB aQ.out)); (case aF => exact (fun k_ hk => ⟨(.inr (Nat.le_trans (by first | exact HK.out.1 | exact (show Kept w _ (fun k_ => P0_ k_) from by repeat (first | (with_reducible first | exact HK.out | apply Kept.alloc | apply Kept.drewN | apply Kept.drew | refine Kept.setCell ?_ (.inr aN.out) _) | exact HK.out)).1) hk)), Kd.freshB (g := aA) (o := .cells #[.int .i64 aE, .int .i64 aJ, .int .i64 aG, .int .i64 aK, .int .i64 aH, .int .i64 aD, .int .i64 aI] 104 (0, 0)) (KB aC) k_ hk⟩)); (case aO => exact (KR aM)); (case aS => exact (below_size (K1 HB aQ.out))); (case aL => have := LMc17.out; omega); intro gL hJ ho hb hg hat; rw [← Ny107.out] at ho; replace aC := am (blk_grown (g := aA) (o := .cells #[.int .i64 aE, .int .i64 aJ, .int .i64 aG, .int .i64 aK, .int .i64 aH, .int .i64 aD, .int .i64 aI] 104 (0, 0)) (KB aC) hg (Kd.R_away aM.out (fun _ hk => hk.2))); replace HB := am (hb); replace HK := am (Kept.of_grown (S := (fun k_ => P0_ k_)) hg (by repeat (first | (with_reducible first | exact HK.out | apply Kept.alloc | apply Kept.drewN | apply Kept.drew | refine Kept.setCell ?_ (.inr aN.out) _) | exact HK.out)) (fun k_ e_ => (aM.out.1 k_ e_).1)); have fR := am (ho); clear aM; clear ho hb hg hat))
    go_ret
    exact ⟨_, rfl, by refine KW ?_; exact Kd.R_mono fR.out (fun _ hk => hk.1), K1 HB aQ.out, by repeat (first | (with_reducible first | exact HK.out | apply Kept.alloc | apply Kept.drewN | apply Kept.drew | refine Kept.setCell ?_ (.inr aN.out) _) | exact HK.out)⟩
def spec_l5To.f (l0 : List Int) (a1 : Int) (a2 : Int) : Option (Int) := if (wrap64 (a1 + 1)) < (l0.length : Int) then (if 0 ≤ (wrap64 (a1 + 1)) then (some (wrap64 ((rd l0 (wrap64 (a1 + 1))) - 1))) else (none)) else (some a2)
theorem spec_l5To.calls (A0 : Option Addr) (c0 : Nat) (l0 : List Int) (a1 : Int) (a2 : Int) (r : Int) (w : World) (aE : Kd.C (Kd.int .i64) w A0 l0.length l0) (aF : l0.length ≤ c0) (h : spec_l5To.f l0 a1 a2 = some r) :
  Calls Tryz.prog 76 #[.slice A0 l0.length c0, .int .i64 a1, .int .i64 a2] w fun e w' => e = .returned (.int .i64 r) ∧ Drawn0 w w' := by
 have aH := Aside0.mk aE; have aI := Aside0.mk aF; clear aE aF; unfold spec_l5To.f at h; have H := h; clear h; by_cases c4 : (wrap64 (a1 + 1)) < (l0.length : Int)
 ·rw [if_pos c4] at H
  have c4b0 := decide_eq_true c4; clear c4; obtain ⟨ji5, hji5⟩ : ∃ j_ : Int, (wrap64 (a1 + 1)) = j_ := ⟨_, rfl⟩; replace H : (if 0 ≤ (ji5) then (some (wrap64 ((rd l0 (ji5)) - 1))) else (none)) = some r := by first | (rw [hji5] at H; exact H) | (simp only [hji5] at H ⊢; exact H)
  (try rw [hji5] at c4b0)
  have hji5w : (IntKind.i64.wrap (a1 + 1)) = ji5 := (i64_w _).trans hji5; by_cases c6 : 0 ≤ (ji5)
  ·rw [if_pos c6] at H
   have c6b0 := decide_eq_true c6; clear c6; obtain rfl := sj H; have aA : 0 ≤ ((ji5) : Int) := OD; have aB : (ji5) < (l0.length : Int) := OD; obtain ⟨_, aD, _⟩ := Kd.at_int aH.out (ji5) aA aB; cases aD
   replace aA := eq_true aA; replace aB := eq_true aB; go_enter Tryz.func76, Tryz.ntmps76
   go_wp2
   go_ret
   exact ⟨by first | rfl | (simp; done) | (simp only [← hji5] <;> (first | rfl | simp)) | (simp [*]; done), by repeat (first | exact Drawn0.refl _ | apply Drawn0.step)⟩
  ·rw [if_neg c6] at H
   exact absurd H (by simp)
 ·rw [if_neg c4] at H
  have c4b0 := decide_eq_false c4; clear c4; obtain rfl := sj H; go_enter Tryz.func76, Tryz.ntmps76
  go_wp2
  go_ret
  exact ⟨by first | rfl | (simp; done) | (simp [*]; done), by repeat (first | exact Drawn0.refl _ | apply Drawn0.step)⟩
def laws_szSeenS.f (l0 : List (S125)) (a1 : Int) : Option (Int) := if (wrap64 (a1 - (l0.length : Int))) < 0 then (some (-1)) else (some (wrap64 (a1 - (l0.length : Int))))
theorem laws_szSeenS.calls (A0 : Option Addr) (c0 : Nat) (l0 : List (S125)) (a1 : Int) (r : Int) (w : World) (aA : Kd.C k125 w A0 l0.length l0) (aB : l0.length ≤ c0) (h : laws_szSeenS.f l0 a1 = some r) :
  Calls Tryz.prog 35 #[.slice A0 l0.length c0, .int .i64 a1] w fun e w' => e = .returned (.int .i64 r) ∧ Drawn0 w w' := by
 have aC := Aside0.mk aA; have aD := Aside0.mk aB; clear aA aB; unfold laws_szSeenS.f at h; have H := h; clear h; by_cases c3 : (wrap64 (a1 - (l0.length : Int))) < 0
 ·rw [if_pos c3] at H
  have c3b0 := decide_eq_true c3; clear c3; obtain rfl := sj H; go_enter Tryz.func35, Tryz.ntmps35
  go_wp2
  go_ret
  exact ⟨by first | rfl | (simp; done) | (simp [*]; done), by repeat (first | exact Drawn0.refl _ | apply Drawn0.step)⟩
 ·rw [if_neg c3] at H
  have c3b0 := decide_eq_false c3; clear c3; obtain rfl := sj H; go_enter Tryz.func35, Tryz.ntmps35
  go_wp2
  go_ret
  exact ⟨by first | rfl | (simp; done) | (simp [*]; done), by repeat (first | exact Drawn0.refl _ | apply Drawn0.step)⟩
def laws_szCache.f (a0_0 : Int) (l0_1 : List (S125)) (a1 : Int) : Option (Int) := (laws_szSeenS.f l0_1 a1).bind fun t102 => (if t102 < 0 then (some (-1)) else (some t102))
theorem laws_szCache.calls (aI : Int) (aC : Option Addr) (aD : Nat) (aA : List (S125)) (a1 : Int) (r : Int) (w : World) (aJ : Kd.C k125 w aC aA.length aA) (aK : aA.length ≤ aD) (h : laws_szCache.f aI aA a1 = some r) :
  Calls Tryz.prog 15 #[.agg #[.int .i64 aI, .slice aC aA.length aD], .int .i64 a1] w fun e w' => e = .returned (.int .i64 r) ∧ Below w.heap.size w w' := by
 have aV := Tryz.underlying25; have aL := Aside0.mk aJ; have aM := Aside0.mk aK; clear aJ aK; have HB := am (Below.refl w.heap.size w); unfold laws_szCache.f at h; have H := h; clear h; obtain ⟨aB, A3, H⟩ := b1 H; by_cases c4 : aB < 0
 ·rw [if_pos c4] at H
  have c4b0 := decide_eq_true c4; clear c4; obtain rfl := sj H; go_enter Tryz.func15, Tryz.ntmps15
  go_wp2_with (first | ((with_reducible refine gate_dst (N := 2) rfl ?_); refine bxe (KL HB) (cs := #[.int .i64 aI, .slice aC aA.length aD]) ?_; intro aN w5 aF aH HB hb hg; clear hb hg; have ⟨_, _, _⟩ := y2 w5 aF.out) | (go_at_call 35; (with_reducible refine (laws_szSeenS.calls _ _ _ _ _ _ ?_ ?_ A3.out).mono ?_); exact KD aL HB; exact aM.out; rintro e w' ⟨rfl, ⟨nd, rfl⟩⟩))
  go_ret
  exact ⟨ER, K1 HB aH.out⟩
 ·rw [if_neg c4] at H
  have c4b0 := decide_eq_false c4; clear c4; obtain rfl := sj H; go_enter Tryz.func15, Tryz.ntmps15
  go_wp2_with (first | ((with_reducible refine gate_dst (N := 2) rfl ?_); refine bxe (KL HB) (cs := #[.int .i64 aI, .slice aC aA.length aD]) ?_; intro aN w7 aF aH HB hb hg; clear hb hg; have ⟨_, _, _⟩ := y2 w7 aF.out) | (go_at_call 35; (with_reducible refine (laws_szSeenS.calls _ _ _ _ _ _ ?_ ?_ A3.out).mono ?_); exact KD aL HB; exact aM.out; rintro e w' ⟨rfl, ⟨nd, rfl⟩⟩))
  go_ret
  exact ⟨ER, K1 HB aH.out⟩
def laws_szIntS.f (l0 : List Int) (a1 : Int) : Option (Int) := if (wrap64 (a1 - (l0.length : Int))) < 0 then (some (-1)) else (some (wrap64 (a1 - (l0.length : Int))))
theorem laws_szIntS.calls (A0 : Option Addr) (c0 : Nat) (l0 : List Int) (a1 : Int) (r : Int) (w : World) (aA : Kd.C (Kd.int .i64) w A0 l0.length l0) (aB : l0.length ≤ c0) (h : laws_szIntS.f l0 a1 = some r) :
  Calls Tryz.prog 95 #[.slice A0 l0.length c0, .int .i64 a1] w fun e w' => e = .returned (.int .i64 r) ∧ Drawn0 w w' := by
 have aC := Aside0.mk aA; have aD := Aside0.mk aB; clear aA aB; unfold laws_szIntS.f at h; have H := h; clear h; by_cases c3 : (wrap64 (a1 - (l0.length : Int))) < 0
 ·rw [if_pos c3] at H
  have c3b0 := decide_eq_true c3; clear c3; obtain rfl := sj H; go_enter Tryz.func95, Tryz.ntmps95
  go_wp2
  go_ret
  exact ⟨by first | rfl | (simp; done) | (simp [*]; done), by repeat (first | exact Drawn0.refl _ | apply Drawn0.step)⟩
 ·rw [if_neg c3] at H
  have c3b0 := decide_eq_false c3; clear c3; obtain rfl := sj H; go_enter Tryz.func95, Tryz.ntmps95
  go_wp2
  go_ret
  exact ⟨by first | rfl | (simp; done) | (simp [*]; done), by repeat (first | exact Drawn0.refl _ | apply Drawn0.step)⟩
def laws_szWindow.f (a0_0 : Int) (l0_1 : List Int) (a1 : Int) : Option (Int) := (laws_szIntS.f l0_1 a1).bind fun t102 => (if t102 < 0 then (some (-1)) else (some t102))
theorem laws_szWindow.calls (aI : Int) (aC : Option Addr) (aD : Nat) (aA : List Int) (a1 : Int) (r : Int) (w : World) (aJ : Kd.C (Kd.int .i64) w aC aA.length aA) (aK : aA.length ≤ aD) (h : laws_szWindow.f aI aA a1 = some r) :
  Calls Tryz.prog 67 #[.agg #[.int .i64 aI, .slice aC aA.length aD], .int .i64 a1] w fun e w' => e = .returned (.int .i64 r) ∧ Below w.heap.size w w' := by
 have aV := Tryz.underlying75; have aL := Aside0.mk aJ; have aM := Aside0.mk aK; clear aJ aK; have HB := am (Below.refl w.heap.size w); unfold laws_szWindow.f at h; have H := h; clear h; obtain ⟨aB, A3, H⟩ := b1 H; by_cases c4 : aB < 0
 ·rw [if_pos c4] at H
  have c4b0 := decide_eq_true c4; clear c4; obtain rfl := sj H; go_enter Tryz.func67, Tryz.ntmps67
  go_wp2_with (first | ((with_reducible refine gate_dst (N := 2) rfl ?_); refine bxe (KL HB) (cs := #[.int .i64 aI, .slice aC aA.length aD]) ?_; intro aN w5 aF aH HB hb hg; clear hb hg; have ⟨_, _, _⟩ := y2 w5 aF.out) | (go_at_call 95; (with_reducible refine (laws_szIntS.calls _ _ _ _ _ _ ?_ ?_ A3.out).mono ?_); exact KD aL HB; exact aM.out; rintro e w' ⟨rfl, ⟨nd, rfl⟩⟩))
  go_ret
  exact ⟨ER, K1 HB aH.out⟩
 ·rw [if_neg c4] at H
  have c4b0 := decide_eq_false c4; clear c4; obtain rfl := sj H; go_enter Tryz.func67, Tryz.ntmps67
  go_wp2_with (first | ((with_reducible refine gate_dst (N := 2) rfl ?_); refine bxe (KL HB) (cs := #[.int .i64 aI, .slice aC aA.length aD]) ?_; intro aN w7 aF aH HB hb hg; clear hb hg; have ⟨_, _, _⟩ := y2 w7 aF.out) | (go_at_call 95; (with_reducible refine (laws_szIntS.calls _ _ _ _ _ _ ?_ ?_ A3.out).mono ?_); exact KD aL HB; exact aM.out; rintro e w' ⟨rfl, ⟨nd, rfl⟩⟩))
  go_ret
  exact ⟨ER, K1 HB aH.out⟩
def laws_szSa.f (a0_0 : Int) (a0_1 : Int) (a0_2 : ByteArray) (a0_3 : ByteArray) (a0_4 : Int) (a0_5 : Int) (a0_6 : Int) (a0_7 : Int) (a0_8 : Int) (a0_9 : Int) (l0_10 : List Int) (a1 : Int) : Option (Int) := if (wrap64 (a1 - (a0_2.size : Int))) < 0 then (some (-1)) else (if (wrap64 ((wrap64 (a1 - (a0_2.size : Int))) - (a0_3.size : Int))) < 0 then (some (-1)) else ((laws_szWindow.f a0_9 l0_10 (wrap64 ((wrap64 (a1 - (a0_2.size : Int))) - (a0_3.size : Int)))).bind fun t102 => (if t102 < 0 then (some (-1)) else (some t102))))
theorem laws_szSa.calls (aL : Int) (aM : Int) (aB : ByteArray) (aD : ByteArray) (aN : Int) (aO : Int) (aP : Int) (aQ : Int) (aR : Int) (aH : Int) (aF : Option Addr) (aG : Nat) (aA : List Int) (a1 : Int) (r : Int) (w : World) (aS : Kd.C (Kd.int .i64) w aF aA.length aA) (aT : aA.length ≤ aG) (h : laws_szSa.f aL aM aB aD aN aO aP aQ aR aH aA a1 = some r) :
  Calls Tryz.prog 36 #[.agg #[.int .i64 aL, .int .i64 aM, .string aB, .string aD, .int .i64 aN, .int .i64 aO, .int .i64 aP, .int .i64 aQ, .int .i64 aR, .int .i64 aH, .slice aF aA.length aG], .int .i64 a1] w fun e w' => e = .returned (.int .i64 r) ∧ Below w.heap.size w w' := by
 have cV := Tryz.underlying77; have cW := Tryz.underlying75; have aU := Aside0.mk aS; have aV := Aside0.mk aT; clear aS aT; have HB := am (Below.refl w.heap.size w); unfold laws_szSa.f at h; have A := am h; clear h; go_enter Tryz.func36, Tryz.ntmps36
 go_wp2_with (first | ((with_reducible refine gate_dst (N := 2) rfl ?_); refine bxe (KL HB) (cs := #[.int .i64 aL, .int .i64 aM, .string aB, .string aD, .int .i64 aN, .int .i64 aO, .int .i64 aP, .int .i64 aQ, .int .i64 aR, .int .i64 aH, .slice aF aA.length aG]) ?_; intro aW w4 aC aE HB hb hg; clear hb hg; have ⟨_, _, _, _, _, _, _, _, _, _, _, _⟩ := y11 w4 aC.out) | (go_at_call 67; obtain ⟨v_, q_, A⟩ := s1 (sy A); (with_reducible refine (laws_szWindow.calls _ _ _ _ _ _ _ ?_ ?_ q_).mono ?_); exact KD aU HB; exact aV.out; rintro e cZ ⟨rfl, hb⟩; replace aC := am (BB aC hb); replace HB := bl (K1 HB aE.out) hb))
 all_goals (replace A := sy A; first | (obtain rfl := s0 A; go_ret; exact ⟨ER, K1 HB aE.out⟩))
def laws_szSaS.l0 : Nat → List (S77) → Int → Int → Option (Int)
 | 0, _, _, _ => none
 | k + 1, x0, x1, x5 => if x5 < (x0.length : Int) then (if 0 ≤ x5 then ((laws_szSa.f ((rd_T77 x0 x5).f0) ((rd_T77 x0 x5).f1) ((rd_T77 x0 x5).f2) ((rd_T77 x0 x5).f3) ((rd_T77 x0 x5).f4) ((rd_T77 x0 x5).f5) ((rd_T77 x0 x5).f6) ((rd_T77 x0 x5).f7) ((rd_T77 x0 x5).f8) ((rd_T77 x0 x5).f9.f0) ((rd_T77 x0 x5).f9.f1) x1).bind fun t102 => (if t102 < 0 then (some (-1)) else (laws_szSaS.l0 k x0 t102 (wrap64 (x5 + 1))))) else (none)) else (some x1)
def laws_szSaS.f (k : Nat) (l0 : List (S77)) (a1 : Int) : Option (Int) := if (wrap64 (a1 - (l0.length : Int))) < 0 then (some (-1)) else (laws_szSaS.l0 k l0 (wrap64 (a1 - (l0.length : Int))) 0)
theorem laws_szSaS.calls (k : Nat) (A0 : Option Addr) (c0 : Nat) (l0 : List (S77)) (a1 : Int) (r : Int) (w : World) (aY : Kd.C k77 w A0 l0.length l0) (aZ : l0.length ≤ c0) (h : laws_szSaS.f k l0 a1 = some r) :
  Calls Tryz.prog 16 #[.slice A0 l0.length c0, .int .i64 a1] w fun e w' => e = .returned (.int .i64 r) ∧ Below w.heap.size w w' := by
 have bC := Tryz.underlying77; have bA := Aside0.mk aY; have bD := Aside0.mk aZ; clear aY aZ; have HB := am (Below.refl w.heap.size w); unfold laws_szSaS.f at h; have H := h; clear h; by_cases c3 : (wrap64 (a1 - (l0.length : Int))) < 0
 ·rw [if_pos c3] at H
  have c3b0 := decide_eq_true c3; clear c3; obtain rfl := sj H; go_enter Tryz.func16, Tryz.ntmps16
  go_wp2
  go_ret
  exact ⟨ER, KL HB⟩
 ·rw [if_neg c3] at H
  have c3b0 := decide_eq_false c3; clear c3; have H' := Aside0.mk H; clear H; go_enter Tryz.func16, Tryz.ntmps16
  go_wp2
  go_loopg [1, 5] k (fun kq v1 v5 w' => ∃ (aT : Int) (aA : Int), v1 = .int .i64 aT ∧ v5 = .int .i64 aA ∧ Aside0 (laws_szSaS.l0 kq l0 aT aA = some r) ∧ Aside0 (kq ≤ k) ∧ Aside0 (Below w.heap.size w w'))
  case atStart => exact ⟨(wrap64 (a1 - (l0.length : Int))), (0), RS, RS, H', ⟨Nat.le_refl _⟩, ⟨KL HB⟩⟩
  case round =>
   clear H'; try clear c3
   try clear c3b0
   obtain ⟨aT, aA, rfl, rfl, HA, HK1, HB⟩ := hrel; cases gk with
   | zero => exact absurd HA.out (by simp [laws_szSaS.l0])
   | succ k1 =>
    have H := HA.out; clear HA; simp only [laws_szSaS.l0] at H; by_cases c4 : aA < (l0.length : Int)
    ·rw [if_pos c4] at H
     have c4b0 := decide_eq_true c4; clear c4; by_cases c5 : 0 ≤ aA
     ·rw [if_pos c5] at H
      have c5b0 := decide_eq_true c5; clear c5; obtain ⟨aS, A6, H⟩ := b1 H; by_cases c7 : aS < 0
      ·rw [if_pos c7] at H
       have c7b0 := decide_eq_true c7; clear c7; obtain rfl := sj H; have aU : 0 ≤ (aA : Int) := OD; have aV : aA < (l0.length : Int) := OD; obtain ⟨aX, aQ, aR, aW, aE, aF, aG, aH, aI, aJ, aK, aL, aM, aN, aB, aC, aD⟩ := at_T77 bA.out aA aU aV; cases aW
       replace aE := CX HB.out aE; replace aF := CX HB.out aF; replace aG := CX HB.out aG; replace aH := CX HB.out aH; replace aI := CX HB.out aI; replace aJ := CX HB.out aJ; replace aK := CX HB.out aK; replace aL := CX HB.out aL; replace aM := CX HB.out aM; replace aN := CX HB.out aN; replace aB := CX HB.out aB; have aO := Aside0.mk aD; have aP := Aside0.mk aC; clear aD aC; replace aU := eq_true aU; replace aV := eq_true aV; go_wp2_with (first | (go_at_call 36; (with_reducible refine (laws_szSa.calls _ _ _ _ _ _ _ _ _ _ _ _ _ _ _ _ ?_ ?_ A6.out).mono ?_); exact KD aO HB; exact aP.out; rintro e w8 ⟨rfl, hb⟩; replace HB := bl (KL HB) hb))
       go_ret
       exact ⟨ER, KL HB⟩
      ·rw [if_neg c7] at H
       have c7b0 := decide_eq_false c7; clear c7; have H' := Aside0.mk H; clear H; have aU : 0 ≤ (aA : Int) := OD; have aV : aA < (l0.length : Int) := OD; obtain ⟨aX, aQ, aR, aW, aE, aF, aG, aH, aI, aJ, aK, aL, aM, aN, aB, aC, aD⟩ := at_T77 bA.out aA aU aV; cases aW
       replace aE := CX HB.out aE; replace aF := CX HB.out aF; replace aG := CX HB.out aG; replace aH := CX HB.out aH; replace aI := CX HB.out aI; replace aJ := CX HB.out aJ; replace aK := CX HB.out aK; replace aL := CX HB.out aL; replace aM := CX HB.out aM; replace aN := CX HB.out aN; replace aB := CX HB.out aB; have aO := Aside0.mk aD; have aP := Aside0.mk aC; clear aD aC; replace aU := eq_true aU; replace aV := eq_true aV; go_wp2_with (first | (go_at_call 36; (with_reducible refine (laws_szSa.calls _ _ _ _ _ _ _ _ _ _ _ _ _ _ _ _ ?_ ?_ A6.out).mono ?_); exact KD aO HB; exact aP.out; rintro e w9 ⟨rfl, hb⟩; replace HB := bl (KL HB) hb))
       go_roundg k1
       case measure => have := HK1.out; omega
       case rel => exact ⟨(aS), (wrap64 (aA + 1)), RS, RS, H', LK HK1, ⟨KL HB⟩⟩
     ·rw [if_neg c5] at H
      exact absurd H (by simp)
    ·rw [if_neg c4] at H
     have c4b0 := decide_eq_false c4; clear c4; obtain rfl := sj H; go_wp2
     go_ret
     exact ⟨ER, KL HB⟩
def laws_szRuleS.f (l0 : List (S63)) (a1 : Int) : Option (Int) := if (wrap64 (a1 - (l0.length : Int))) < 0 then (some (-1)) else (some (wrap64 (a1 - (l0.length : Int))))
theorem laws_szRuleS.calls (A0 : Option Addr) (c0 : Nat) (l0 : List (S63)) (a1 : Int) (r : Int) (w : World) (aA : Kd.C k63 w A0 l0.length l0) (aB : l0.length ≤ c0) (h : laws_szRuleS.f l0 a1 = some r) :
  Calls Tryz.prog 5 #[.slice A0 l0.length c0, .int .i64 a1] w fun e w' => e = .returned (.int .i64 r) ∧ Drawn0 w w' := by
 have aC := Aside0.mk aA; have aD := Aside0.mk aB; clear aA aB; unfold laws_szRuleS.f at h; have H := h; clear h; by_cases c3 : (wrap64 (a1 - (l0.length : Int))) < 0
 ·rw [if_pos c3] at H
  have c3b0 := decide_eq_true c3; clear c3; obtain rfl := sj H; go_enter Tryz.func5, Tryz.ntmps5
  go_wp2
  go_ret
  exact ⟨by first | rfl | (simp; done) | (simp [*]; done), by repeat (first | exact Drawn0.refl _ | apply Drawn0.step)⟩
 ·rw [if_neg c3] at H
  have c3b0 := decide_eq_false c3; clear c3; obtain rfl := sj H; go_enter Tryz.func5, Tryz.ntmps5
  go_wp2
  go_ret
  exact ⟨by first | rfl | (simp; done) | (simp [*]; done), by repeat (first | exact Drawn0.refl _ | apply Drawn0.step)⟩
def laws_toCall.f (a0_0 : Int) (a0_1 : Int) (a0_2 : Int) : Option (Int × Int × Int) := some (a0_0, a0_1, a0_2)
theorem laws_toCall.calls (aF : Int) (aG : Int) (aM : Int) (r1 : Int) (r2 : Int) (r3 : Int) (w : World) (h : laws_toCall.f aF aG aM = some (r1, r2, r3)) :
  Calls Tryz.prog 101 #[.agg #[.int .i64 aF, .int .i64 aG, .int .i64 aM]] w fun e w' => e = .returned (.agg #[.int .i64 r1, .int .i64 r2, .int .i64 r3]) ∧ Below w.heap.size w w' := by
 have bG := Tryz.underlying123; have bJ := Tryz.underlying94; have HB := am (Below.refl w.heap.size w); have H : (some (aF, aG, aM)) = some (r1, r2, r3) := h; clear h; simp only [Option.some.injEq, Prod.mk.injEq] at H; obtain ⟨rfl, rfl, rfl⟩ := H; go_enter Tryz.func101, Tryz.ntmps101
 go_wp2_with (first | ((with_reducible refine gate_dst (N := 1) rfl ?_); refine bxe (KL HB) (cs := #[.int .i64 aF, .int .i64 aG, .int .i64 aM]) ?_; intro bH w2 aB aE HB hb hg; clear hb hg) | ((with_reducible refine gate_dst (N := 2) rfl ?_); refine box_event rfl (N := 2) rfl (cs := #[.int .i64 0, .int .i64 0, .int .i64 0]) (t := 94) BX ?_; intro aP hg w3 aD hb; have aC := am (aD); have aQ := am (GH1 HB aE.out hg); have aN := aQ; replace HB := bl (K1 HB aE.out) hb; have aH := am (NL aB hg); have aI := am (NG aB hg); replace aB := am (BB aB hb); clear hb aD hg) | ((with_reducible refine gate_dst (N := 3) rfl ?_); refine box_event rfl (N := 3) rfl (cs := #[.int .i64 0, .int .i64 0, .int .i64 0]) (t := 94) BX ?_; intro bI hg w4 aD hb; have aR := am (aD); have aS := am (GH2 HB aE.out aN.out hg); have aT := aS; replace HB := bl (K2 HB aE.out aN.out) hb; have aJ := am (NL aB hg); have aK := am (NG aB hg); replace aB := am (BB aB hb); have aA := am (NL aC hg); have aL := am (NG aC hg); replace aC := am (BB aC hb); clear hb aD hg; have bK := aH.out; have bL := aI.out; have bM := aJ.out; have bN := aK.out; have ⟨_, _, _, _⟩ := y3 w4 aB.out; have bO := aL.out; have bP := aA.out; have ⟨_, _, _, _⟩ := y3 w4 aR.out; have ⟨_, _, _, _⟩ := y3 w4 aC.out))
 refine bodyPost_ret (results_cell_row rfl _ _ aP 94 #[.int .i64 aF, .int .i64 aG, .int .i64 aM] (0, 0) _ rfl (by refine BD ?_; refine blk_put (cs := #[.int .i64 aF, .int .i64 aG, .int .i64 0]) ?_ 2 _ rfl; refine BD ?_; refine blk_put (cs := #[.int .i64 aF, .int .i64 0, .int .i64 0]) ?_ 1 _ rfl; refine BD ?_; refine blk_put (cs := #[.int .i64 0, .int .i64 0, .int .i64 0]) ?_ 0 _ rfl; refine BD ?_; refine blk_far ?_ aA.out _; refine BD ?_; refine blk_far ?_ aA.out _; refine BD ?_; refine blk_far ?_ aA.out _; refine BD ?_; exact aC.out) Tryz.underlying94 rfl (by kernel_rfl)) rfl ?_; exact ⟨ER, K3 HB aE.out aN.out aT.out⟩
end Go.Proofs.YtaehmhbpdpdefaaGreat.PAll
end
