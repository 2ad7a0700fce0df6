/- Contracts of the functions that the statement reaches, printed by a program out of the translation and joined with the plain laws. -/
import Derived.Test.YtlpmmmhfceeiaaaCFnWindowSee3
import Derived.Test.YtlpmmmhfceeiaaaCFnWindowSee4
section
namespace Go.Proofs.Ytlpmmmhfceeiaaa.PAll
open Go.RowKit Go.Proofs.YtlpmmmhfceeiaaaW.PrintWords Go.Proofs.YtlpmmmhfceeiaaaW.PrintLast Go.Proofs.YtlpmmmhfceeiaaaW.PrintMore
attribute [local go_sem] max2_int min2_int max_two min_two max_three min_three max_four min_four   -- for this text's walks alone
set_option linter.unusedVariables false
set_option linter.unusedSimpArgs false
/-- A state of type 124 at block g of W; what its slices lead to came in by w0. -/
def IsS124 (w0 W : World) (g : Nat) (f0 : List Int) (f1 : Int) : Prop := ∃ A0 c0, W.heap[g]? = some (.cells #[.slice A0 f0.length c0, .int .i64 f1] 124 (0, 0)) ∧ w0.heap.size ≤ g ∧ Kd.C (Kd.int .u8) w0 A0 f0.length f0
theorem IsS124.grown {w0 W : World} {g : Nat} {f0 : List Int} {f1 : Int} {W1 : World} {row : Option Nat} (h : IsS124 w0 W g f0 f1) (hw : W.grownBy W1 row) (hne : some g ≠ row) : IsS124 w0 W1 g f0 f1 := by
 obtain ⟨A0, c0, hb, hg, hr0⟩ := h
 exact ⟨A0, c0, blk_grown hb hw hne, hg, hr0⟩
theorem IsS124.kept {w0 W : World} {g : Nat} {f0 : List Int} {f1 : Int} {W1 : World} {S : Nat → Prop} (h : IsS124 w0 W g f0 f1) (hk : Kept W W1 S) (hne : ¬ S g) : IsS124 w0 W1 g f0 f1 := by
 obtain ⟨A0, c0, hb, hg, hr0⟩ := h
 exact ⟨A0, c0, blk_kept hb hk hne, hg, hr0⟩
theorem IsS124.below {w0 W : World} {g : Nat} {f0 : List Int} {f1 : Int} {W1 : World} (h : IsS124 w0 W g f0 f1) (hw : Below W.heap.size W W1) : IsS124 w0 W1 g f0 f1 := h.grown (grown_of_below hw none) (by simp)
theorem IsS124.alloc {w0 W : World} {g : Nat} {f0 : List Int} {f1 : Int} (h : IsS124 w0 W g f0 f1) (o : Obj) : IsS124 w0 (W.alloc o) g f0 f1 := h.below (below_alloc (Below.refl _ _) o)
theorem IsS124.drewN {w0 W : World} {g : Nat} {f0 : List Int} {f1 : Int} (h : IsS124 w0 W g f0 f1) (m : Nat) : IsS124 w0 (W.drewN m) g f0 f1 := h
theorem IsS124.drew {w0 W : World} {g : Nat} {f0 : List Int} {f1 : Int} (h : IsS124 w0 W g f0 f1) : IsS124 w0 W.drew g f0 f1 := h
theorem IsS124.at_ {w0 W : World} {g : Nat} {f0 : List Int} {f1 : Int} {w' : World} {m : Nat} (hq : W.drewN m = w') (h : IsS124 w0 W g f0 f1) : IsS124 w0 w' g f0 f1 := by subst hq; exact IsS124.drewN h m
theorem IsS124.apart {w0 W : World} {g : Nat} {f0 : List Int} {f1 : Int} {α : Type} {d : Kd α} {e : Nat} {base : Nat} {ok : Nat → Prop} {v : Value} {xs : List α} (h : IsS124 w0 W g f0 f1) (ho : d.R e W base ok v xs) (ht : ∀ q, q ∈ e :: d.E → q ≠ 124) : d.R e W base (fun k => ok k ∧ k ≠ g) v xs := by
 obtain ⟨A0, c0, hb, hg, hr0⟩ := h
 exact Kd.R_types ho hb ht
theorem IsS124.own_ne {w0 W : World} {g : Nat} {f0 : List Int} {f1 : Int} {α : Type} {d : Kd α} {e : Nat} {base : Nat} {ok : Nat → Prop} {v : Value} {xs : List α} (h : IsS124 w0 W g f0 f1) (ho : d.R e W base ok v xs) (ht : e ≠ 124) : some g ≠ v.ownBlock := by
 obtain ⟨A0, c0, hb, hg, hr0⟩ := h
 exact Kd.R_ne ho hb ht
theorem IsS124.lt {w0 W : World} {g : Nat} {f0 : List Int} {f1 : Int} (h : IsS124 w0 W g f0 f1) : g < W.heap.size := by
 obtain ⟨A0, c0, hb, hg, hr0⟩ := h
 exact blk_lt hb
theorem IsS124.ge {w0 W : World} {g : Nat} {f0 : List Int} {f1 : Int} (h : IsS124 w0 W g f0 f1) : w0.heap.size ≤ g := by
 obtain ⟨A0, c0, hb, hg, hr0⟩ := h
 exact hg
theorem IsS124.ne_blk {w0 W : World} {g : Nat} {f0 : List Int} {f1 : Int} {a : Nat} {cs : Array Value} {t : TypeId} {fr : Nat × Nat} (h : IsS124 w0 W g f0 f1) (hb2 : W.heap[a]? = some (.cells cs t fr)) (ht : t ≠ 124) : g ≠ a := by
 obtain ⟨A0, c0, hb, hg, hr0⟩ := h
 rintro rfl
 rw [hb] at hb2
 injection hb2 with hb2
 injection hb2 with _ ht2
 exact ht ht2.symm
theorem IsS124.far {w0 W : World} {g : Nat} {f0 : List Int} {f1 : Int} {p : Addr} (h : IsS124 w0 W g f0 f1) (hne : g ≠ p.block) (u : Value) : IsS124 w0 (W.setCell p u) g f0 f1 := by
 obtain ⟨A0, c0, hb, hg, hr0⟩ := h
 exact ⟨A0, c0, blk_far hb hne u, hg, hr0⟩
theorem cellS124_0 {W : World} {g : Nat} {A0 : Option Addr} {c0 : Nat} {f0 : List Int} {f1 : Int} (h : W.heap[g]? = some (.cells #[.slice A0 f0.length c0, .int .i64 f1] 124 (0, 0))) : W.cell? ⟨g, 0, none⟩ = some (.slice A0 f0.length c0) := (blk_cell h 0).trans rfl
theorem cellS124_1 {W : World} {g : Nat} {A0 : Option Addr} {c0 : Nat} {f0 : List Int} {f1 : Int} (h : W.heap[g]? = some (.cells #[.slice A0 f0.length c0, .int .i64 f1] 124 (0, 0))) : W.cell? ⟨g, 1, none⟩ = some (.int .i64 f1) := (blk_cell h 1).trans rfl
theorem IsS124.set_1 {w0 W : World} {g : Nat} {f0 : List Int} {f1 : Int} (h : IsS124 w0 W g f0 f1) (x : Int) : IsS124 w0 (W.setCell ⟨g, 1, none⟩ (.int .i64 x)) g f0 x := by
 obtain ⟨A0, c0, hb, hg, hr0⟩ := h
 exact ⟨A0, c0, by simpa using blk_set hb 1 (.int .i64 x), hg, hr0⟩
theorem I124_0 {P Q : Prop} (q : Aside0 Q)  (h : Q → P := by intro h_; repeat (first | (with_reducible first | exact h_ | apply IsS124.alloc | apply IsS124.drewN | apply IsS124.drew | apply IsS124.set_1) | exact h_)) : P := h q.out
theorem I124_1 {P Q R0 : Prop} (q : Aside0 Q) (r0 : R0) (h : Q → R0 → P := by intro h_ r0_; repeat (first | (with_reducible first | exact h_ | apply IsS124.alloc | apply IsS124.drewN | apply IsS124.drew | apply IsS124.set_1 | refine IsS124.far ?_ r0_ _) | exact h_)) : P := h q.out r0
theorem I124_2 {P Q R0 R1 : Prop} (q : Aside0 Q) (r0 : R0) (r1 : R1) (h : Q → R0 → R1 → P := by intro h_ r0_ r1_; repeat (first | (with_reducible first | exact h_ | apply IsS124.alloc | apply IsS124.drewN | apply IsS124.drew | apply IsS124.set_1 | refine IsS124.far ?_ r0_ _ | refine IsS124.far ?_ r1_ _) | exact h_)) : P := h q.out r0 r1
theorem IsS124.new (w0 W : World) (A0 : Option Addr) (c0 : Nat) (f0 : List Int) (f1 : Int) (hB : Below w0.heap.size w0 W) (hr0 : Kd.C (Kd.int .u8) w0 A0 f0.length f0) : IsS124 w0 (W.alloc (.cells #[.slice A0 f0.length c0, .int .i64 f1] 124)) W.heap.size f0 f1 := ⟨A0, c0, by simpa using heap_alloc_new W _, hB.size, hr0⟩
def spec_l1Open.f (l0 : List Int) : Option (List Int × Int) := if (l0.length : Int) > 2000 then (if 2000 ≤ (l0.length : Int) then (some (l0.take 2000, 0)) else (none)) else (some (l0, 0))
set_option maxHeartbeats 8000000 in
set_option maxRecDepth 100000 in
theorem spec_l1Open.calls (A0 : Option Addr) (c0 : Nat) (l0 : List Int) (r1 : List Int) (r2 : Int) (w0 w : World) (hB : Below w0.heap.size w0 w) (hr0 : Kd.C (Kd.int .u8) w0 A0 l0.length l0) (hc0 : l0.length ≤ c0) (h : spec_l1Open.f l0 = some (r1, r2)) :
  Calls Try.prog 44 #[.slice A0 l0.length c0] w fun e w' => ∃ g_ : Nat, e = .returned (.pointer (some ⟨g_, 0, none⟩)) ∧ IsS124 w0 w' g_ r1 r2 ∧ Below w0.heap.size w0 w' ∧ Below w.heap.size w w' := by
 have hu124 := Try.underlying124
 have HR0 := Aside0.mk hr0
 have HC0 := Aside0.mk hc0
 clear hr0 hc0
 have HBW := am (Below.refl w.heap.size w)
 have HW0 := Aside0.mk hB.size
 have HB := Aside0.mk hB
 clear hB
 have H : (if (l0.length : Int) > 2000 then (if 2000 ≤ (l0.length : Int) then (some (l0.take 2000, 0)) else (none)) else (some (l0, 0))) = some (r1, r2) := h
 clear h
 by_cases c2 : (l0.length : Int) > 2000
 ·rw [if_pos c2] at H
  have c2b0 : decide (2000 < (l0.length : Int)) = true := decide_eq_true c2
  have c2b1 : decide (2000 < l0.length) = true := decide_eq_true (by omega)
  clear c2
  by_cases c3 : 2000 ≤ (l0.length : Int)
  ·rw [if_pos c3] at H
   have c3b0 := eq_true c3
   have c3b1 : decide (2000 ≤ (l0.length : Int)) = true := decide_eq_true c3
   clear c3
   simp only [Option.some.injEq, Prod.mk.injEq] at H
   obtain ⟨rfl, rfl⟩ := H
   obtain ⟨i04, hi04, _, hsz4, _⟩ := info_parts info5
   obtain ⟨hcut4, hA4, hC4⟩ := print_take_of (P := Try.prog) (Value.int .u8) 0 27 5 .i64 Try.underlying27 hi04 hsz4 A0 c0 l0 2000 (by omega) (OD) HC0.out
   have HR101 := am (Kd.C_of_reads (h1 := fun _ => rfl) (hA4 _ (Kd.reads_of_C HR0.out)))
   have HC101 := Aside0.mk hC4
   clear hA4 hC4 hi04 hsz4
   go_enter Try.func44, Try.ntmps44
   go_wp2_with (first | ((with_reducible refine gate_dst (N := 10) rfl ?_); refine box_event rfl (N := 10) rfl (cs := #[.slice A0 (l0.take 2000).length c0, .int .i64 0]) (t := 124) BX ?_; intro gb102 hg w5 hbox hb; replace HB := am (below_step (KL HB) hb); have BK102 := am (hbox); have GW102 := am ((GL hg (below_size (KL HBW)) : w.heap.size ≤ gb102)); have GE102 := am ((Nat.le_trans HW0.out (GL hg (below_size (KL HBW)) : w.heap.size ≤ gb102) : w0.heap.size ≤ gb102)); replace HBW := am (below_step HBW.out hb); clear hb hbox hg))
   go_ret
   exact ⟨_, rfl, (show IsS124 w0 _ gb102 (l0.take 2000) 0 from ⟨_, _, by (with_reducible repeat (first | refine blk_drewN ?_ _ | refine blk_drew ?_ | refine blk_alloc ?_ _)); exact BK102.out, GE102.out, HR101.out⟩), K1 HB GE102.out, K1 HBW GW102.out⟩
  ·rw [if_neg c3] at H
   exact absurd H (by simp)
 ·rw [if_neg c2] at H
  have c2b0 : decide (2000 < (l0.length : Int)) = false := decide_eq_false c2
  have c2b1 : decide (2000 < l0.length) = false := decide_eq_false (by omega)
  clear c2
  simp only [Option.some.injEq, Prod.mk.injEq] at H
  obtain ⟨rfl, rfl⟩ := H
  go_enter Try.func44, Try.ntmps44
  go_wp2_with (first | ((with_reducible refine gate_dst (N := 10) rfl ?_); refine box_event rfl (N := 10) rfl (cs := #[.slice A0 l0.length c0, .int .i64 0]) (t := 124) BX ?_; intro gb103 hg w6 hbox hb; replace HB := am (below_step (KL HB) hb); have BK103 := am (hbox); have GW103 := am ((GL hg (below_size (KL HBW)) : w.heap.size ≤ gb103)); have GE103 := am ((Nat.le_trans HW0.out (GL hg (below_size (KL HBW)) : w.heap.size ≤ gb103) : w0.heap.size ≤ gb103)); replace HBW := am (below_step HBW.out hb); clear hb hbox hg))
  go_ret
  exact ⟨_, rfl, (show IsS124 w0 _ gb103 l0 0 from ⟨_, _, by (with_reducible repeat (first | refine blk_drewN ?_ _ | refine blk_drew ?_ | refine blk_alloc ?_ _)); exact BK103.out, GE103.out, HR0.out⟩), K1 HB GE103.out, K1 HBW GW103.out⟩
def spec_l1Rd_pick.j0 : Nat → Int → Bool → List Int → Int → Option (Int × Int)
 | 0, _, _, _, _ => none
 | k + 1, x1, x24, x1000, x1001 => if x24 = true then (some (0, x1001)) else (if (wrap64 (x1001 - 1)) < (x1000.length : Int) then (if 0 ≤ (wrap64 (x1001 - 1)) then (if x1 = 0 then (none) else (some (Int.tmod (wrap64 (rd x1000 (wrap64 (x1001 - 1)))) x1, x1001))) else (none)) else (if (x1000.length : Int) = 0 then (none) else (if 0 ≤ (Int.tmod (wrap64 (x1001 - 1)) (x1000.length : Int)) then (if (Int.tmod (wrap64 (x1001 - 1)) (x1000.length : Int)) < (x1000.length : Int) then (if 0 ≤ (Int.tmod (wrap64 ((wrap64 ((wrap64 (x1001 - 1)) * 7)) + 3)) (x1000.length : Int)) then (if (Int.tmod (wrap64 ((wrap64 ((wrap64 (x1001 - 1)) * 7)) + 3)) (x1000.length : Int)) < (x1000.length : Int) then (if x1 = 0 then (none) else (some (Int.tmod (Go.bits .xor .i64 (wrap64 ((wrap64 ((wrap64 ((wrap64 ((wrap64 (rd x1000 (Int.tmod (wrap64 (x1001 - 1)) (x1000.length : Int)))) * 131)) + (wrap64 ((wrap64 (rd x1000 (Int.tmod (wrap64 ((wrap64 ((wrap64 (x1001 - 1)) * 7)) + 3)) (x1000.length : Int)))) * 1117)))) + (wrap64 ((wrap64 (x1001 - 1)) * 29)))) + (wrap64 ((wrap64 (Int.tdiv (wrap64 (x1001 - 1)) (x1000.length : Int))) * 53)))) (wrap64 (Int.tdiv (wrap64 ((wrap64 ((wrap64 ((wrap64 ((wrap64 (rd x1000 (Int.tmod (wrap64 (x1001 - 1)) (x1000.length : Int)))) * 131)) + (wrap64 ((wrap64 (rd x1000 (Int.tmod (wrap64 ((wrap64 ((wrap64 (x1001 - 1)) * 7)) + 3)) (x1000.length : Int)))) * 1117)))) + (wrap64 ((wrap64 (x1001 - 1)) * 29)))) + (wrap64 ((wrap64 (Int.tdiv (wrap64 (x1001 - 1)) (x1000.length : Int))) * 53)))) 64))) x1, x1001))) else (none)) else (none)) else (none)) else (none))))
def spec_l1Rd_pick.f (k : Nat) (s0_0 : List Int) (s0_1 : Int) (a1 : Int) : Option (Int × Int) := if a1 < 1 then (spec_l1Rd_pick.j0 k a1 true s0_0 (wrap64 (s0_1 + 1))) else (spec_l1Rd_pick.j0 k a1 ((s0_0.length : Int) == 0) s0_0 (wrap64 (s0_1 + 1)))
theorem spec_l1Rd_pick.mono_l : ∀ k, (∀ y0 y1 y2 y3, LeO (spec_l1Rd_pick.j0 k y0 y1 y2 y3) (spec_l1Rd_pick.j0 (k + 1) y0 y1 y2 y3))
 | 0 => fun _ _ _ _ r h => by simp [spec_l1Rd_pick.j0] at h
 | k + 1 => by
  have ih0 := spec_l1Rd_pick.mono_l k
  ·intro y0 y1 y2 y3
   unfold spec_l1Rd_pick.j0
   repeat' first
   | (with_reducible exact ih0 _ _ _ _)
   | (with_reducible exact LeO.refl _)
   | (with_reducible exact LeO.none _)
   | (with_reducible refine LeO.ite ?_ ?_)
   | (with_reducible refine LeO.bind ?_ (fun _ => ?_))
   | exact ih0 _ _ _ _
   | exact LeO.none _
   | refine LeO.ite ?_ ?_
   | refine LeO.bind ?_ (fun _ => ?_)
theorem spec_l1Rd_pick.mono : ∀ a0 a1 a2 k, LeO (spec_l1Rd_pick.f k a0 a1 a2) (spec_l1Rd_pick.f (k + 1) a0 a1 a2) := by
 intro a0 a1 a2 k
 have ih0 := spec_l1Rd_pick.mono_l k
 unfold spec_l1Rd_pick.f
 repeat' first
   | (with_reducible exact ih0 _ _ _ _)
   | (with_reducible exact LeO.refl _)
   | (with_reducible exact LeO.none _)
   | (with_reducible refine LeO.ite ?_ ?_)
   | (with_reducible refine LeO.bind ?_ (fun _ => ?_))
   | exact ih0 _ _ _ _
   | exact LeO.none _
   | refine LeO.ite ?_ ?_
   | refine LeO.bind ?_ (fun _ => ?_)
set_option maxHeartbeats 8000000 in
set_option maxRecDepth 100000 in
theorem spec_l1Rd_pick.calls (k : Nat) (g : Nat) (s0_0 : List Int) (s0_1 : Int) (a1 : Int) (r1 : Int) (r2 : Int) (w0 w : World) (hI : IsS124 w0 w g s0_0 s0_1) (hB : Below w0.heap.size w0 w) (h : spec_l1Rd_pick.f k s0_0 s0_1 a1 = some (r1, r2)) :
  Calls Try.prog 45 #[.pointer (some ⟨g, 0, none⟩), .int .i64 a1] w fun e w' => e = .returned (.int .i64 r1) ∧ IsS124 w0 w' g s0_0 r2 ∧ Below w0.heap.size w0 w' ∧ KeepBut w w' g none := by
 have HI0 := Aside0.mk hI
 have HK := am (KeepBut.refl w g none)
 have HL := Aside0.mk hB.size
 clear hI
 have HW0 := Aside0.mk hB.size
 have HB := Aside0.mk hB
 clear hB
 have H : (if a1 < 1 then (spec_l1Rd_pick.j0 k a1 true s0_0 (wrap64 (s0_1 + 1))) else (spec_l1Rd_pick.j0 k a1 ((s0_0.length : Int) == 0) s0_0 (wrap64 (s0_1 + 1)))) = some (r1, r2) := h
 clear h
 have HC3 := Aside0.mk H
 clear H
 obtain ⟨ASz4_0, cSz4_0, HGz4, hgz4, HSz4_0⟩ := HI0.out
 have hcz4_0 := cellS124_0 HGz4
 have hcz4_1 := cellS124_1 HGz4
 have hfz4_1 := blk_frozen HGz4 1
 clear HGz4 hgz4
 go_enter Try.func45, Try.ntmps45
 go_upto_region 2 with (fail)
 repeat (go_quiet (fail); go_upto_region 2 with (fail))
 go_cut [24] (fun v24 wc => ∃ (kq : Nat) (x24_2 : Bool), v24 = .bool x24_2 ∧ Aside0 (spec_l1Rd_pick.j0 kq a1 x24_2 s0_0 (wrap64 (s0_1 + 1)) = some (r1, r2)) ∧ Aside0 (kq ≤ k) ∧ Aside0 (IsS124 w0 wc g s0_0 (wrap64 (s0_1 + 1))) ∧ Aside0 (KeepBut w wc g none) ∧ Aside0 (Below w0.heap.size w0 wc))
 case first =>
  have H := HC3.out
  clear HC3
  by_cases c5 : a1 < 1
  ·rw [if_pos c5] at H
   have c5b0 : decide (a1 < 1) = true := decide_eq_true c5
   clear c5
   (first | rw [c5b0] | (simp only [i64_w, i32_w]; rw [c5b0]) | skip)
   have H' := Aside0.mk H
   clear H
   go_wp2
   repeat (go_quiet (fail); try go_wp2)
   go_meet
   case rel => exact ⟨_, (true), (by first | rfl | (simp; done) | (simp [*]; done)), H', ⟨by first | omega | exact Nat.le_refl _⟩, ⟨I124_0 HI0⟩, ⟨J0 HK⟩, ⟨K1 HB (IsS124.ge HI0.out)⟩⟩
  ·rw [if_neg c5] at H
   have c5b0 : decide (a1 < 1) = false := decide_eq_false c5
   clear c5
   (first | rw [c5b0] | (simp only [i64_w, i32_w]; rw [c5b0]) | skip)
   have H' := Aside0.mk H
   clear H
   obtain ⟨ASz6_0, cSz6_0, HGz6, hgz6, HSz6_0⟩ := HI0.out
   have hcz6_0 := cellS124_0 HGz6
   have hcz6_1 := cellS124_1 HGz6
   have hfz6_1 := blk_frozen HGz6 1
   clear HGz6 hgz6
   go_wp2
   repeat (go_quiet (fail); try go_wp2)
   go_meet
   case rel => exact ⟨_, (((s0_0.length : Int) == 0)), (by first | rfl | (simp; done) | (simp [*]; done)), H', ⟨by first | omega | exact Nat.le_refl _⟩, ⟨I124_0 HI0⟩, ⟨J0 HK⟩, ⟨K1 HB (IsS124.ge HI0.out)⟩⟩
 case rest =>
  clear HC3
  try clear p2
  try clear c4
  try clear c5
  try clear c5b0
  try clear p6
  try clear hcz4_0 hcz4_1
  try clear hcz6_0 hcz6_1
  obtain ⟨kq, x24_2, rfl, HA, HJ2, HI0, HK, HB⟩ := hcut
  cases kq with
  | zero => exact absurd HA.out (by simp [spec_l1Rd_pick.j0])
  | succ kj2 =>
   have H := HA.out
   clear HA
   simp only [spec_l1Rd_pick.j0] at H
   by_cases c7 : x24_2 = true
   ·subst c7
    have H1 : (some (0, (wrap64 (s0_1 + 1)))) = some (r1, r2) := by rw [if_pos rfl] at H; exact H
    clear H
    have H := H1
    clear H1
    simp only [Option.some.injEq, Prod.mk.injEq] at H
    obtain ⟨rfl, rfl⟩ := H
    go_wp2
    repeat (go_quiet (fail); try go_wp2)
    go_ret
    exact ⟨ER, I124_0 HI0, K1 HB (IsS124.ge HI0.out), J0 HK⟩
   ·replace c7 := Bool.eq_false_iff.mpr c7
    subst c7
    have H1 : (if (wrap64 ((wrap64 (s0_1 + 1)) - 1)) < (s0_0.length : Int) then (if 0 ≤ (wrap64 ((wrap64 (s0_1 + 1)) - 1)) then (if a1 = 0 then (none) else (some (Int.tmod (wrap64 (rd s0_0 (wrap64 ((wrap64 (s0_1 + 1)) - 1)))) a1, (wrap64 (s0_1 + 1))))) else (none)) else (if (s0_0.length : Int) = 0 then (none) else (if 0 ≤ (Int.tmod (wrap64 ((wrap64 (s0_1 + 1)) - 1)) (s0_0.length : Int)) then (if (Int.tmod (wrap64 ((wrap64 (s0_1 + 1)) - 1)) (s0_0.length : Int)) < (s0_0.length : Int) then (if 0 ≤ (Int.tmod (wrap64 ((wrap64 ((wrap64 ((wrap64 (s0_1 + 1)) - 1)) * 7)) + 3)) (s0_0.length : Int)) then (if (Int.tmod (wrap64 ((wrap64 ((wrap64 ((wrap64 (s0_1 + 1)) - 1)) * 7)) + 3)) (s0_0.length : Int)) < (s0_0.length : Int) then (if a1 = 0 then (none) else (some (Int.tmod (Go.bits .xor .i64 (wrap64 ((wrap64 ((wrap64 ((wrap64 ((wrap64 (rd s0_0 (Int.tmod (wrap64 ((wrap64 (s0_1 + 1)) - 1)) (s0_0.length : Int)))) * 131)) + (wrap64 ((wrap64 (rd s0_0 (Int.tmod (wrap64 ((wrap64 ((wrap64 ((wrap64 (s0_1 + 1)) - 1)) * 7)) + 3)) (s0_0.length : Int)))) * 1117)))) + (wrap64 ((wrap64 ((wrap64 (s0_1 + 1)) - 1)) * 29)))) + (wrap64 ((wrap64 (Int.tdiv (wrap64 ((wrap64 (s0_1 + 1)) - 1)) (s0_0.length : Int))) * 53)))) (wrap64 (Int.tdiv (wrap64 ((wrap64 ((wrap64 ((wrap64 ((wrap64 (rd s0_0 (Int.tmod (wrap64 ((wrap64 (s0_1 + 1)) - 1)) (s0_0.length : Int)))) * 131)) + (wrap64 ((wrap64 (rd s0_0 (Int.tmod (wrap64 ((wrap64 ((wrap64 ((wrap64 (s0_1 + 1)) - 1)) * 7)) + 3)) (s0_0.length : Int)))) * 1117)))) + (wrap64 ((wrap64 ((wrap64 (s0_1 + 1)) - 1)) * 29)))) + (wrap64 ((wrap64 (Int.tdiv (wrap64 ((wrap64 (s0_1 + 1)) - 1)) (s0_0.length : Int))) * 53)))) 64))) a1, (wrap64 (s0_1 + 1))))) else (none)) else (none)) else (none)) else (none)))) = some (r1, r2) := by rw [if_neg (show ¬ (false = true) by decide)] at H; exact H
    clear H
    have H := H1
    clear H1
    by_cases c8 : (wrap64 ((wrap64 (s0_1 + 1)) - 1)) < (s0_0.length : Int)
    ·rw [if_pos c8] at H
     have c8b0 : decide ((wrap64 ((wrap64 (s0_1 + 1)) - 1)) < (s0_0.length : Int)) = true := decide_eq_true c8
     clear c8
     obtain ⟨ji9, hji9⟩ : ∃ j_ : Int, (wrap64 ((wrap64 (s0_1 + 1)) - 1)) = j_ := ⟨_, rfl⟩
     replace H : (if 0 ≤ (ji9) then (if a1 = 0 then (none) else (some (Int.tmod (wrap64 (rd s0_0 (ji9))) a1, (wrap64 (s0_1 + 1))))) else (none)) = some (r1, r2) := by first | (rw [hji9] at H; exact H) | (simp only [hji9] at H ⊢; exact H)
     (try rw [hji9] at c8b0)
     have hji9w : (IntKind.i64.wrap ((wrap64 (s0_1 + 1)) - 1)) = ji9 := (i64_w _).trans hji9
     by_cases c10 : 0 ≤ (ji9)
     ·rw [if_pos c10] at H
      have c10b0 : decide (0 ≤ (ji9)) = true := decide_eq_true c10
      clear c10
      by_cases c11 : a1 = 0
      ·rw [if_pos c11] at H
       exact absurd H (by simp)
      ·rw [if_neg c11] at H
       have c11b0 : (a1 == 0) = false := beq_eq_false_iff_ne.mpr c11
       have c11b1 : (a1 != 0) = true := bne_iff_ne.mpr c11
       simp only [Option.some.injEq, Prod.mk.injEq] at H
       obtain ⟨rfl, rfl⟩ := H
       obtain ⟨ASz12_0, cSz12_0, HGz12, hgz12, HSz12_0⟩ := HI0.out
       have hcz12_0 := cellS124_0 HGz12
       have hcz12_1 := cellS124_1 HGz12
       have hfz12_1 := blk_frozen HGz12 1
       clear HGz12 hgz12
       have p101 : 0 ≤ ((ji9) : Int) := OD
       have q101 : (ji9) < (s0_0.length : Int) := OD
       obtain ⟨ad101, e101, hx101_0⟩ := Kd.at_int HSz12_0 (ji9) p101 q101
       cases e101
       replace hx101_0 := pw_cell_below HB.out hx101_0
       replace p101 := eq_true p101
       replace q101 := eq_true q101
       go_wp2
       repeat (go_quiet (fail); try go_wp2)
       go_ret
       exact ⟨by first | rfl | (simp [errW_none, errW_some] <;> rfl) | (simp only [← hji9]; first | rfl | (simp [errW_none, errW_some] <;> rfl)) | (simp [*, errW_none, errW_some] <;> rfl), I124_0 HI0, K1 HB (IsS124.ge HI0.out), J0 HK⟩
     ·rw [if_neg c10] at H
      exact absurd H (by simp)
    ·rw [if_neg c8] at H
     have c8b0 : decide ((wrap64 ((wrap64 (s0_1 + 1)) - 1)) < (s0_0.length : Int)) = false := decide_eq_false c8
     clear c8
     by_cases c13 : (s0_0.length : Int) = 0
     ·rw [if_pos c13] at H
      exact absurd H (by simp)
     ·rw [if_neg c13] at H
      have c13b0 : ((s0_0.length : Int) == 0) = false := beq_eq_false_iff_ne.mpr c13
      have c13b1 : ((s0_0.length : Int) != 0) = true := bne_iff_ne.mpr c13
      have c13b2 : ¬ (s0_0 = []) := fun h_ => c13 (by rw [h_]; rfl)
      obtain ⟨ji14, hji14⟩ : ∃ j_ : Int, (Int.tmod (wrap64 ((wrap64 (s0_1 + 1)) - 1)) (s0_0.length : Int)) = j_ := ⟨_, rfl⟩
      replace H : (if 0 ≤ (ji14) then (if (ji14) < (s0_0.length : Int) then (if 0 ≤ (Int.tmod (wrap64 ((wrap64 ((wrap64 ((wrap64 (s0_1 + 1)) - 1)) * 7)) + 3)) (s0_0.length : Int)) then (if (Int.tmod (wrap64 ((wrap64 ((wrap64 ((wrap64 (s0_1 + 1)) - 1)) * 7)) + 3)) (s0_0.length : Int)) < (s0_0.length : Int) then (if a1 = 0 then (none) else (some (Int.tmod (Go.bits .xor .i64 (wrap64 ((wrap64 ((wrap64 ((wrap64 ((wrap64 (rd s0_0 (ji14))) * 131)) + (wrap64 ((wrap64 (rd s0_0 (Int.tmod (wrap64 ((wrap64 ((wrap64 ((wrap64 (s0_1 + 1)) - 1)) * 7)) + 3)) (s0_0.length : Int)))) * 1117)))) + (wrap64 ((wrap64 ((wrap64 (s0_1 + 1)) - 1)) * 29)))) + (wrap64 ((wrap64 (Int.tdiv (wrap64 ((wrap64 (s0_1 + 1)) - 1)) (s0_0.length : Int))) * 53)))) (wrap64 (Int.tdiv (wrap64 ((wrap64 ((wrap64 ((wrap64 ((wrap64 (rd s0_0 (ji14))) * 131)) + (wrap64 ((wrap64 (rd s0_0 (Int.tmod (wrap64 ((wrap64 ((wrap64 ((wrap64 (s0_1 + 1)) - 1)) * 7)) + 3)) (s0_0.length : Int)))) * 1117)))) + (wrap64 ((wrap64 ((wrap64 (s0_1 + 1)) - 1)) * 29)))) + (wrap64 ((wrap64 (Int.tdiv (wrap64 ((wrap64 (s0_1 + 1)) - 1)) (s0_0.length : Int))) * 53)))) 64))) a1, (wrap64 (s0_1 + 1))))) else (none)) else (none)) else (none)) else (none)) = some (r1, r2) := by first | (rw [hji14] at H; exact H) | (simp only [hji14] at H ⊢; exact H)
      by_cases c15 : 0 ≤ (ji14)
      ·rw [if_pos c15] at H
       have c15b0 : decide (0 ≤ (ji14)) = true := decide_eq_true c15
       clear c15
       by_cases c16 : (ji14) < (s0_0.length : Int)
       ·rw [if_pos c16] at H
        have c16b0 : decide ((ji14) < (s0_0.length : Int)) = true := decide_eq_true c16
        clear c16
        obtain ⟨ji17, hji17⟩ : ∃ j_ : Int, (Int.tmod (wrap64 ((wrap64 ((wrap64 ((wrap64 (s0_1 + 1)) - 1)) * 7)) + 3)) (s0_0.length : Int)) = j_ := ⟨_, rfl⟩
        replace H : (if 0 ≤ (ji17) then (if (ji17) < (s0_0.length : Int) then (if a1 = 0 then (none) else (some (Int.tmod (Go.bits .xor .i64 (wrap64 ((wrap64 ((wrap64 ((wrap64 ((wrap64 (rd s0_0 (ji14))) * 131)) + (wrap64 ((wrap64 (rd s0_0 (ji17))) * 1117)))) + (wrap64 ((wrap64 ((wrap64 (s0_1 + 1)) - 1)) * 29)))) + (wrap64 ((wrap64 (Int.tdiv (wrap64 ((wrap64 (s0_1 + 1)) - 1)) (s0_0.length : Int))) * 53)))) (wrap64 (Int.tdiv (wrap64 ((wrap64 ((wrap64 ((wrap64 ((wrap64 (rd s0_0 (ji14))) * 131)) + (wrap64 ((wrap64 (rd s0_0 (ji17))) * 1117)))) + (wrap64 ((wrap64 ((wrap64 (s0_1 + 1)) - 1)) * 29)))) + (wrap64 ((wrap64 (Int.tdiv (wrap64 ((wrap64 (s0_1 + 1)) - 1)) (s0_0.length : Int))) * 53)))) 64))) a1, (wrap64 (s0_1 + 1))))) else (none)) else (none)) = some (r1, r2) := by first | (rw [hji17] at H; exact H) | (simp only [hji17] at H ⊢; exact H)
        by_cases c18 : 0 ≤ (ji17)
        ·rw [if_pos c18] at H
         have c18b0 : decide (0 ≤ (ji17)) = true := decide_eq_true c18
         clear c18
         by_cases c19 : (ji17) < (s0_0.length : Int)
         ·rw [if_pos c19] at H
          have c19b0 : decide ((ji17) < (s0_0.length : Int)) = true := decide_eq_true c19
          clear c19
          by_cases c20 : a1 = 0
          ·rw [if_pos c20] at H
           exact absurd H (by simp)
          ·rw [if_neg c20] at H
           have c20b0 : (a1 == 0) = false := beq_eq_false_iff_ne.mpr c20
           have c20b1 : (a1 != 0) = true := bne_iff_ne.mpr c20
           simp only [Option.some.injEq, Prod.mk.injEq] at H
           obtain ⟨rfl, rfl⟩ := H
           obtain ⟨ASz21_0, cSz21_0, HGz21, hgz21, HSz21_0⟩ := HI0.out
           have hcz21_0 := cellS124_0 HGz21
           have hcz21_1 := cellS124_1 HGz21
           have hfz21_1 := blk_frozen HGz21 1
           clear HGz21 hgz21
           have p102 : 0 ≤ ((ji14) : Int) := OD
           have q102 : (ji14) < (s0_0.length : Int) := OD
           obtain ⟨ad102, e102, hx102_0⟩ := Kd.at_int HSz21_0 (ji14) p102 q102
           cases e102
           replace hx102_0 := pw_cell_below HB.out hx102_0
           replace p102 := eq_true p102
           replace q102 := eq_true q102
           have p103 : 0 ≤ ((ji17) : Int) := OD
           have q103 : (ji17) < (s0_0.length : Int) := OD
           obtain ⟨ad103, e103, hx103_0⟩ := Kd.at_int HSz21_0 (ji17) p103 q103
           obtain rfl : ad102 = ad103 := (by injection e103)
           replace hx103_0 := pw_cell_below HB.out hx103_0
           replace p103 := eq_true p103
           replace q103 := eq_true q103
           go_wp2
           repeat (go_quiet (fail); try go_wp2)
           go_ret
           exact ⟨by first | rfl | (simp [errW_none, errW_some] <;> rfl) | (simp only [← hji14, ← hji17]; first | rfl | (simp [errW_none, errW_some] <;> rfl)) | (simp [*, errW_none, errW_some] <;> rfl), I124_0 HI0, K1 HB (IsS124.ge HI0.out), J0 HK⟩
         ·rw [if_neg c19] at H
          exact absurd H (by simp)
        ·rw [if_neg c18] at H
         exact absurd H (by simp)
       ·rw [if_neg c16] at H
        exact absurd H (by simp)
      ·rw [if_neg c15] at H
       exact absurd H (by simp)
def spec_l1Rd_one.f (k : Nat) (s0_0 : List Int) (s0_1 : Int) (l1 : List Int) : Option (Int × Int) := (spec_l1Rd_pick.f k s0_0 s0_1 (l1.length : Int)).bind fun bt101 => (if 0 ≤ bt101.1 then (if bt101.1 < (l1.length : Int) then (some (rd l1 bt101.1, bt101.2)) else (none)) else (none))
set_option maxHeartbeats 8000000 in
set_option maxRecDepth 100000 in
theorem spec_l1Rd_one.calls (k : Nat) (g : Nat) (s0_0 : List Int) (s0_1 : Int) (A1 : Option Addr) (c1 : Nat) (l1 : List Int) (r1 : Int) (r2 : Int) (w0 w : World) (hI : IsS124 w0 w g s0_0 s0_1) (hB : Below w0.heap.size w0 w) (hr1 : Kd.C (Kd.int .i64) w A1 l1.length l1) (hc1 : l1.length ≤ c1) (hf1 : ∀ ad, A1 = some ad → 0 < l1.length → ad.block ≠ g) (h : spec_l1Rd_one.f k s0_0 s0_1 l1 = some (r1, r2)) :
  Calls Try.prog 46 #[.pointer (some ⟨g, 0, none⟩), .slice A1 l1.length c1] w fun e w' => e = .returned (.int .i64 r1) ∧ IsS124 w0 w' g s0_0 r2 ∧ Below w0.heap.size w0 w' ∧ KeepBut w w' g none := by
 have HR1 := Aside0.mk hr1
 have HC1 := Aside0.mk hc1
 clear hr1 hc1
 have HI0 := Aside0.mk hI
 have HK := am (KeepBut.refl w g none)
 have HL := Aside0.mk hB.size
 clear hI
 have HW0 := Aside0.mk hB.size
 have HB := Aside0.mk hB
 clear hB
 have H : ((spec_l1Rd_pick.f k s0_0 s0_1 (l1.length : Int)).bind fun bt101 => (if 0 ≤ bt101.1 then (if bt101.1 < (l1.length : Int) then (some (rd l1 bt101.1, bt101.2)) else (none)) else (none))) = some (r1, r2) := h
 clear h
 replace H := Option.bind_eq_some_iff.mp H
 obtain ⟨⟨t101, t102⟩, A30, H⟩ := H
 replace H : (if 0 ≤ t101 then (if t101 < (l1.length : Int) then (some (rd l1 t101, t102)) else (none)) else (none)) = some (r1, r2) := H
 have A3 := Aside0.mk A30
 clear A30
 by_cases c4 : 0 ≤ t101
 ·rw [if_pos c4] at H
  have c4b0 : decide (0 ≤ t101) = true := decide_eq_true c4
  clear c4
  by_cases c5 : t101 < (l1.length : Int)
  ·rw [if_pos c5] at H
   have c5b0 : decide (t101 < (l1.length : Int)) = true := decide_eq_true c5
   clear c5
   simp only [Option.some.injEq, Prod.mk.injEq] at H
   obtain ⟨rfl, rfl⟩ := H
   go_enter Try.func46, Try.ntmps46
   go_wp2_with (first | ((with_reducible refine gate_callee (f := 45) rfl ?_); refine goesL_ (some 9) rfl rfl Try.func45 (by kernel_rfl) rfl #[.pointer (some ⟨g, 0, none⟩), .int .i64 (l1.length : Int)] rfl MT ?_; (with_reducible refine (spec_l1Rd_pick.calls k g s0_0 s0_1 (l1.length : Int) t101 t102 w0 _ ?side1 ?side2 A3.out).mono ?_); (case side1 => exact I124_0 HI0); (case side2 => exact K1 HB (IsS124.ge HI0.out)); rintro e w6 ⟨rfl, hi, hb, hk⟩; refine ⟨_, rfl, ?_⟩; replace HK := am (KeepBut.trans (J0 HK) hk (.inl rfl)); replace HB := am (hb); replace HI0 := am (hi); (try clear hb); (try clear hk); (try clear hi); have p103 : 0 ≤ (t101 : Int) := OD; have q103 : t101 < (l1.length : Int) := OD; obtain ⟨ad103, e103, hx103_0⟩ := Kd.at_int HR1.out t101 p103 q103; cases e103; replace hx103_0 := keep_cell HK.out hx103_0 (by first | (rw [add_block]; exact hf1 _ rfl (by omega)) | exact hf1 _ rfl (by omega) | exact hf1 ad103 rfl (by omega)); replace p103 := eq_true p103; replace q103 := eq_true q103))
   go_ret
   exact ⟨ER, I124_0 HI0, K1 HB (IsS124.ge HI0.out), J0 HK⟩
  ·rw [if_neg c5] at H
   exact absurd H (by simp)
 ·rw [if_neg c4] at H
  exact absurd H (by simp)
def spec_l7Copy.f (a0_0 : Int) (l0_1 : List Int) : Option (Int × List Int) := (some (([] : List Int) : List Int)).bind fun y103 => (if y103.length + l0_1.length < 17592186044416 then (some (a0_0, (y103 ++ l0_1))) else (none))
def spec_l7Copy.T1 : Bool × List (List Nat × List Nat) := (true, [([], []), ([0], [0]), ([], []), ([], []), ([3], [3]), ([2, 4], [2, 4]), ([1, 5], [1, 5]), ([6, 5, 0, 1, 2, 3, 4, 5, 6], [6])])
def spec_l7Copy.B1 : List Nat := [0, 1, 0, 0, 8, 28, 63, 127]
theorem spec_l7Copy.tab1 : rtab .any (opsOf Try.f89 1) = spec_l7Copy.T1 := by kernel_rfl
theorem spec_l7Copy.bits1 : waitsOk spec_l7Copy.T1.2 spec_l7Copy.B1 = true := by kernel_rfl
set_option maxHeartbeats 8000000 in
set_option maxRecDepth 100000 in
theorem spec_l7Copy.calls (a0_0 : Int) (A0_1 : Option Addr) (c0_1 : Nat) (l0_1 : List Int) (r1 : Int) (r2 : List Int) (w : World) (hr0_1 : Kd.C (Kd.int .i64) w A0_1 l0_1.length l0_1) (hc0_1 : l0_1.length ≤ c0_1) (h : spec_l7Copy.f a0_0 l0_1 = some (r1, r2)) :
  Calls Try.prog 89 #[.agg #[.int .i64 a0_0, .slice A0_1 l0_1.length c0_1]] w fun e w' => ∃ v1_ : Value, e = .returned (.agg #[.int .i64 r1, v1_]) ∧ Kd.R (Kd.int .i64) 3 w' w.heap.size (fun _ => True) v1_ r2 ∧ Below w.heap.size w w' := by
 have hu31 := Try.underlying31
 have HR0_1 := Aside0.mk hr0_1
 have HC0_1 := Aside0.mk hc0_1
 clear hr0_1 hc0_1
 have HB := am (Below.refl w.heap.size w)
 have H : ((some (([] : List Int) : List Int)).bind fun y103 => (if y103.length + l0_1.length < 17592186044416 then (some (a0_0, (y103 ++ l0_1))) else (none))) = some (r1, r2) := h
 clear h
 obtain ⟨y103, hy103⟩ : ∃ y_ : List Int, y_ = (([] : List Int)) := ⟨_, rfl⟩
 replace H : (if y103.length + l0_1.length < 17592186044416 then (some (a0_0, (y103 ++ l0_1))) else (none)) = some (r1, r2) := by first | (rw [hy103]; with_reducible exact H) | (have H2_ := (Option.bind_some _ _).symm.trans H; rw [hy103]; with_reducible exact H2_) | (have H2_ := (Option.bind_some _ _).symm.trans H; with_reducible exact H2_) | with_reducible exact H | (rw [hy103]; exact H) | exact H
 have Ny103 := Aside0.mk hy103
 clear hy103
 by_cases c2 : y103.length + l0_1.length < 17592186044416
 ·rw [if_pos c2] at H
  have LMc2 := Aside0.mk c2
  clear c2
  obtain ⟨y106, hy106⟩ : ∃ y_ : List Int, y_ = (y103 ++ l0_1) := ⟨_, rfl⟩
  replace H : (some (a0_0, y106)) = some (r1, r2) := by first | (rw [hy106]; with_reducible exact H) | (have H2_ := (Option.bind_some _ _).symm.trans H; rw [hy106]; with_reducible exact H2_) | (have H2_ := (Option.bind_some _ _).symm.trans H; with_reducible exact H2_) | with_reducible exact H | (rw [hy106]; exact H) | exact H
  have Ny106 := Aside0.mk hy106
  clear hy106
  simp only [Option.some.injEq, Prod.mk.injEq] at H
  obtain ⟨rfl, rfl⟩ := H
  go_enter Try.func89, Try.ntmps89
  try go_wp2_with (first | ((with_reducible refine gate_dst (N := 1) rfl ?_); refine box_event rfl (N := 1) rfl (cs := #[.int .i64 a0_0, .slice A0_1 l0_1.length c0_1]) (t := 31) BX ?_; intro gb101 hg w3 hbox hb; have BK101 := am (hbox); have GW101 := am (GH HB hg); have GE101 := GW101; replace HB := am (below_step (KL HB) hb); clear hb hbox hg) | ((with_reducible refine gate_dst (N := 2) rfl ?_); refine box_event rfl (N := 2) rfl (cs := #[.int .i64 0, .slice none 0 0]) (t := 31) BX ?_; intro gb102 hg w4 hbox hb; have BK102 := am (hbox); have GW102 := am (GH1 HB GE101.out hg); have GE102 := GW102; replace HB := am (below_step (K1 HB GE101.out) hb); have NB101_102 := am (NL BK101 hg); have NB102_101 := am (NG BK101 hg); replace BK101 := am (BB BK101 hb); clear hb hbox hg))
  replace BK101 := am (blk_drew BK101.out)
  replace BK102 := am (blk_drew BK102.out)
  replace HB := am (below_drew1 HB.out)
  refine start_ (n := 8) (S := fun w' => de2 w' gb101 (.int .i64 a0_0) (.slice A0_1 l0_1.length c0_1)) (ds := []) (tf 0 8) (by kernel_rfl) rfl rfl ⟨z0 _ BK101.out, z1 _ BK101.out⟩ (fun hHeld => ?_); refine with_tabW spec_l7Copy.tab1 spec_l7Copy.bits1 (fun HT_ HW_ => ?_)
  generalize w4.drew = w5 at BK101 BK102 HB hHeld ⊢
  refine pv HT_ 0 3 (tf 1 7) ?_
  refine pv HT_ 3 6 (tr [1, 2, 1, 4]) ?_
  refine tk 1 (some 4) (tr [2, 1, 1, 4]) (take_ofW HT_.out HW_.out (by kernel_rfl)) hHeld ?_
  refine tk 4 (some 7) (tr [2, 1, 2, 3]) (take_ofW HT_.out HW_.out (by kernel_rfl)) hHeld ?_
  refine one_ (i := 2) (N := some 5) (tf 5 3) rfl rfl (one_of HT_.out (by kernel_rfl)) (by decide) (fun K hK => ?_)
  refine Kd.R_lit_step (Kd.int .i64) _ 3 ?hg (N := 5) ?hd (xs := ([] : List Int)) (inner := []) (ok := fun _ => True) (okp := fun _ => True) ?hr ?hp (fun _ hk => hk) trivial (Below.refl _ _) (Nat.le_refl _) (by simp) ?_; (case hd => rfl); (case hg => rfl); (case hr => first | (go_simp; done) | (go_simp; rfl)); (case hp => exact (Reps.none _ _))
  intro v104 w6 ho7 hb hg_ hnew_
  clear hg_ hnew_
  (first | rw [← Ny103.out] at ho7 | (simp only [Int.reduceToNat] at ho7; rw [← Ny103.out] at ho7))
  have HO105 := am (Kd.R_lower ho7 (below_size (K2 HB GE101.out GE102.out)))
  replace BK101 := am (BB BK101 hb)
  replace BK102 := am (BB BK102 hb)
  replace HB := am (below_step (K2 HB GE101.out GE102.out) hb)
  clear hb ho7
  refine hK.out _ _ ⟨z0 _ BK101.out, z1 _ BK101.out⟩ (fun hHeld => ?_)
  clear hK K
  refine norm_ (a' := ?_) ?_ ?_
  rotate_left
  ·show Act.put _ (some 5) _ = _
   simp only [Act.put, List.setIfInBounds_toArray, List.set_cons_zero, List.set_cons_succ, i64_w, i32_w]
   rfl
  refine one_ (i := 5) (N := some 8) (tf 6 2) rfl rfl (one_of HT_.out (by kernel_rfl)) (by decide) (fun K hK => ?_)
  refine Kd.R_append_rows_step (Kd.int .i64) (w0 := w) w.heap.size (by rfl) (.tmp 5) (.tmp 7) 22 3 (.int .i64 0) 8 rfl Try.underlying22 info3 rfl (by decide) (by omega) v104 y103 l0_1 _ _ _ (fun _ => True) (fun _ => False) rfl rfl ?aO ?aR (fun _ _ h => h) (fun _ h => h.elim) ?aF ?aB ?aS ?aL ?_
  (case aR => exact KD HR0_1 HB)
  (case aB => exact (K2 HB GE101.out GE102.out))
  (case aF => exact (fun _ _ => trivial))
  (case aO => exact (KR HO105))
  (case aS => exact (below_size (K2 HB GE101.out GE102.out)))
  (case aL => have := LMc2.out; omega)
  intro v107 w8 ho hb hg hat
  rw [← Ny106.out] at ho
  replace BK101 := am (blk_grown (g := gb101) (o := .cells #[.int .i64 a0_0, .slice A0_1 l0_1.length c0_1] 31 (0, 0)) (KB BK101) hg (Kd.R_ne HO105.out BK101.out (by decide)))
  replace BK102 := am (blk_grown (g := gb102) (o := .cells #[.int .i64 0, .slice none 0 0] 31 (0, 0)) (KB BK102) hg (Kd.R_ne HO105.out BK102.out (by decide)))
  replace HB := am (hb)
  have HO108 := am (ho)
  clear HO105
  clear ho hb hg hat
  obtain ⟨Ao9, co9, eo9⟩ := Kd.R_slice HO108.out
  (first | subst eo9 | (injection eo9 with f1_ f2_ f3_; have f4_ := f1_.symm; have f5_ := f3_.symm; clear f1_ f2_ f3_; subst f4_; subst f5_))
  refine hK.out _ _ ⟨z0 _ BK101.out, z1 _ BK101.out⟩ (fun hHeld => ?_)
  clear hK K
  refine norm_ (a' := ?_) ?_ ?_
  rotate_left
  ·show Act.put _ (some 8) _ = _
   simp only [Act.put, List.setIfInBounds_toArray, List.set_cons_zero, List.set_cons_succ, i64_w, i32_w]
   rfl
  refine pv HT_ 6 9 (tf 7 1) ?_
  refine one_ (i := 7) (N := none) (tf 8 0) rfl rfl (one_of HT_.out (by kernel_rfl)) (by decide) (fun K hK => ?_)
  have hs10 : w8.cell? ⟨gb102, 0, none⟩ = some (.int .i64 0) := z0 _ BK102.out
  have hfs10 := blk_frozen BK102.out 0
  have hns10_0 := NB101_102.out
  have hms10_0 := NB102_101.out
  have hs11 : w8.cell? ⟨gb102, 1, none⟩ = some (.slice none 0 0) := z1 _ BK102.out
  have hfs11 := blk_frozen BK102.out 1
  have hns11_0 := NB101_102.out
  have hms11_0 := NB102_101.out
  refine skip_ (w1 := ?_) (by rfl) rfl ?_ ?_
  rotate_left
  ·go_simp
   rfl
  refine hK.out _ _ ⟨((cell_far (p := ⟨gb102, _, none⟩) NB101_102.out _).trans (((cell_far (p := ⟨gb102, _, none⟩) NB101_102.out _).trans (hHeld.1)))), ((cell_far (p := ⟨gb102, _, none⟩) NB101_102.out _).trans (((cell_far (p := ⟨gb102, _, none⟩) NB101_102.out _).trans (hHeld.2))))⟩ (fun hHeld => ?_)
  clear hK K
  refine done_ (done_of HT_.out (by kernel_rfl)) ?_
  try go_wp2
  refine bodyPost_ret (results_cell_row rfl _ _ gb102 31 #[.int .i64 a0_0, .slice Ao9 y106.length co9] (0, 0) _ rfl (by (with_reducible repeat (first | refine blk_drewN ?_ _ | refine blk_drew ?_ | refine blk_alloc ?_ _)); refine blk_put (cs := #[.int .i64 a0_0, .slice none 0 0]) ?_ 1 _ rfl; (with_reducible repeat (first | refine blk_drewN ?_ _ | refine blk_drew ?_ | refine blk_alloc ?_ _)); refine blk_put (cs := #[.int .i64 0, .slice none 0 0]) ?_ 0 _ rfl; (with_reducible repeat (first | refine blk_drewN ?_ _ | refine blk_drew ?_ | refine blk_alloc ?_ _)); exact BK102.out) Try.underlying31 rfl (by kernel_rfl)) rfl ?_
  exact ⟨_, ER, by (with_reducible repeat (first | apply Kd.R_alloc | apply Kd.R_drewN | apply Kd.R_drew)); exact Kd.R_mono (Kd.R_far (p := ⟨gb102, 1, none⟩) (Kd.R_far (p := ⟨gb102, 0, none⟩) (Kd.R_types HO108.out BK102.out (by decide)) (fun _ hk => hk.2) (.int .i64 a0_0)) (fun _ hk => hk.2) (.slice Ao9 y106.length co9)) (fun _ hk => trivial), K2 HB GE101.out GE102.out⟩
 ·rw [if_neg c2] at H
  exact absurd H (by simp)
def spec_l7Had.l0 : Nat → Int → Int → Int → List Int → Option (Bool)
 | 0, _, _, _, _ => none
 | k + 1, x1, x5, x102000, x102001 => if x5 < (x102001.length : Int) then (if 0 ≤ x5 then (if (rd x102001 x5) = x1 then (some true) else (spec_l7Had.l0 k x1 (wrap64 (x5 + 1)) x102000 x102001)) else (none)) else (some false)
def spec_l7Had.f (k : Nat) (a0_0 : Int) (l0_1 : List Int) (a1 : Int) : Option (Bool) := spec_l7Had.l0 k a1 0 a0_0 l0_1
set_option maxHeartbeats 8000000 in
set_option maxRecDepth 100000 in
theorem spec_l7Had.calls (k : Nat) (a0_0 : Int) (A0_1 : Option Addr) (c0_1 : Nat) (l0_1 : List Int) (a1 : Int) (r : Bool) (w : World) (hr0_1 : Kd.C (Kd.int .i64) w A0_1 l0_1.length l0_1) (hc0_1 : l0_1.length ≤ c0_1) (h : spec_l7Had.f k a0_0 l0_1 a1 = some r) :
  Calls Try.prog 90 #[.agg #[.int .i64 a0_0, .slice A0_1 l0_1.length c0_1], .int .i64 a1] w fun e w' => e = .returned (.bool r) ∧ Below w.heap.size w w' := by
 have hu31 := Try.underlying31
 have HR0_1 := Aside0.mk hr0_1
 have HC0_1 := Aside0.mk hc0_1
 clear hr0_1 hc0_1
 have HB := am (Below.refl w.heap.size w)
 have H : (spec_l7Had.l0 k a1 0 a0_0 l0_1) = some r := h
 clear h
 have H' := Aside0.mk H
 clear H
 go_enter Try.func90, Try.ntmps90
 go_wp2_with (first | ((with_reducible refine gate_dst (N := 2) rfl ?_); refine box_event rfl (N := 2) rfl (cs := #[.int .i64 a0_0, .slice A0_1 l0_1.length c0_1]) (t := 31) BX ?_; intro gb101 hg w3 hbox hb; have BK101 := am (hbox); have GW101 := am (GH HB hg); have GE101 := GW101; replace HB := am (below_step (KL HB) hb); clear hb hbox hg))
 go_loopg [5] k (fun kq v5 w' => ∃ (x5_1 : Int), v5 = .int .i64 x5_1 ∧ Aside0 (spec_l7Had.l0 kq a1 x5_1 a0_0 l0_1 = some r) ∧ Aside0 (kq ≤ k) ∧ Aside0 (w'.heap[gb101]? = some (.cells #[.int .i64 a0_0, (.slice A0_1 l0_1.length c0_1)] 31 (0, 0))) ∧ Aside0 (Below w.heap.size w w'))
 case atStart => exact ⟨(0), (by first | rfl | (simp; done) | (simp [*]; done)), H', ⟨Nat.le_refl _⟩, ⟨KB BK101⟩, ⟨K1 HB GE101.out⟩⟩
 case round =>
  clear H'
  try clear p2
  obtain ⟨x5_1, rfl, HA, HK1, BK101, HB⟩ := hrel
  cases gk with
  | zero => exact absurd HA.out (by simp [spec_l7Had.l0])
  | succ k1 =>
   have H := HA.out
   clear HA
   simp only [spec_l7Had.l0] at H
   by_cases c4 : x5_1 < (l0_1.length : Int)
   ·rw [if_pos c4] at H
    have c4b0 : decide (x5_1 < (l0_1.length : Int)) = true := decide_eq_true c4
    clear c4
    by_cases c5 : 0 ≤ x5_1
    ·rw [if_pos c5] at H
     have c5b0 : decide (0 ≤ x5_1) = true := decide_eq_true c5
     clear c5
     by_cases c6 : (rd l0_1 x5_1) = a1
     ·rw [if_pos c6] at H
      have c6b0 : ((rd l0_1 x5_1) == a1) = true := beq_iff_eq.mpr c6
      have c6b1 : ((rd l0_1 x5_1) != a1) = false := bne_eq_false_iff_eq.mpr c6
      clear c6
      obtain rfl := Option.some.inj H
      obtain ⟨hcz7_0, hcz7_1, hfz7_0⟩ := y2 wr BK101.out
      have p102 : 0 ≤ (x5_1 : Int) := OD
      have q102 : x5_1 < (l0_1.length : Int) := OD
      obtain ⟨ad102, e102, hx102_0⟩ := Kd.at_int HR0_1.out x5_1 p102 q102
      cases e102
      replace hx102_0 := CX HB.out hx102_0
      replace p102 := eq_true p102
      replace q102 := eq_true q102
      go_wp2
      go_ret
      exact ⟨ER, K1 HB GE101.out⟩
     ·rw [if_neg c6] at H
      have c6b0 : ((rd l0_1 x5_1) == a1) = false := beq_eq_false_iff_ne.mpr c6
      have c6b1 : ((rd l0_1 x5_1) != a1) = true := bne_iff_ne.mpr c6
      have H' := Aside0.mk H
      clear H
      obtain ⟨hcz8_0, hcz8_1, hfz8_0⟩ := y2 wr BK101.out
      have p102 : 0 ≤ (x5_1 : Int) := OD
      have q102 : x5_1 < (l0_1.length : Int) := OD
      obtain ⟨ad102, e102, hx102_0⟩ := Kd.at_int HR0_1.out x5_1 p102 q102
      cases e102
      replace hx102_0 := CX HB.out hx102_0
      replace p102 := eq_true p102
      replace q102 := eq_true q102
      go_wp2
      go_roundg k1
      case measure => have := HK1.out; omega
      case rel => exact ⟨(wrap64 (x5_1 + 1)), (by first | rfl | (simp; done) | (simp [*]; done)), H', ⟨by have := HK1.out; omega⟩, ⟨KB BK101⟩, ⟨K1 HB GE101.out⟩⟩
    ·rw [if_neg c5] at H
     exact absurd H (by simp)
   ·rw [if_neg c4] at H
    have c4b0 : decide (x5_1 < (l0_1.length : Int)) = false := decide_eq_false c4
    clear c4
    obtain rfl := Option.some.inj H
    obtain ⟨hcz9_0, hcz9_1, hfz9_0⟩ := y2 wr BK101.out
    go_wp2
    go_ret
    exact ⟨ER, K1 HB GE101.out⟩
def spec_l3Num.l0 : Nat → List Int → Int → Int → Option (List Int)
 | 0, _, _, _ => none
 | k + 1, x0, x1, x5 => if x5 < (x0.length : Int) then (if 0 ≤ x5 then (if (rd x0 x5) < x1 then (spec_l3Num.l0 k x0 x1 (wrap64 (x5 + 1))) else (if (rd x0 x5) = x1 then (some x0) else ((some (([] : List Int) : List Int)).bind fun y103 => (if x5 ≤ (x0.length : Int) then ((some (x0.take (x5 : Int).toNat : List Int)).bind fun y106 => (if y103.length + y106.length < 17592186044416 then ((some (y103 ++ y106 : List Int)).bind fun y111 => ((some (([x1] : List Int) : List Int)).bind fun y114 => (if y111.length + y114.length < 17592186044416 then ((some (y111 ++ y114 : List Int)).bind fun y117 => ((some (x0.drop (x5 : Int).toNat : List Int)).bind fun y120 => (if y117.length + y120.length < 17592186044416 then (some (y117 ++ y120)) else (none)))) else (none)))) else (none))) else (none))))) else (none)) else ((some (([] : List Int) : List Int)).bind fun y128 => (if 0 ≤ x5 then (if x5 ≤ (x0.length : Int) then ((some (x0.take (x5 : Int).toNat : List Int)).bind fun y131 => (if y128.length + y131.length < 17592186044416 then ((some (y128 ++ y131 : List Int)).bind fun y136 => ((some (([x1] : List Int) : List Int)).bind fun y139 => (if y136.length + y139.length < 17592186044416 then ((some (y136 ++ y139 : List Int)).bind fun y142 => ((some (x0.drop (x5 : Int).toNat : List Int)).bind fun y145 => (if y142.length + y145.length < 17592186044416 then (some (y142 ++ y145)) else (none)))) else (none)))) else (none))) else (none)) else (none)))
def spec_l3Num.f (k : Nat) (l0 : List Int) (a1 : Int) : Option (List Int) := spec_l3Num.l0 k l0 a1 0
def spec_l3Num.T6 : Bool × List (List Nat × List Nat) := (true, [([], []), ([], []), ([], []), ([1, 2], [1, 2]), ([0, 3], [0, 3]), ([], []), ([5], [5]), ([4, 6, 4], [4, 6]), ([], []), ([], []), ([8, 9], [8, 9]), ([7, 10, 7], [7, 10]), ([11, 11, 0, 1, 2, 3, 4, 5, 6, 7, 8, 9, 10, 11], [11])])
def spec_l3Num.B6 : List Nat := [0, 0, 0, 6, 15, 0, 32, 127, 0, 0, 768, 2047, 4095]
theorem spec_l3Num.tab6 : rtab .any (opsOf Try.f91 6) = spec_l3Num.T6 := by kernel_rfl
theorem spec_l3Num.bits6 : waitsOk spec_l3Num.T6.2 spec_l3Num.B6 = true := by kernel_rfl
set_option maxHeartbeats 8000000 in
set_option maxRecDepth 100000 in
theorem spec_l3Num.calls (k : Nat) (P0_ : Nat → Prop) (A0 : Option Addr) (c0 : Nat) (l0 : List Int) (a1 : Int) (r : List Int) (w : World) (hs0 : Kd.V (Kd.int .i64) 3 w w.heap.size (fun k_ => P0_ k_) (.slice A0 l0.length c0) l0) (h : spec_l3Num.f k l0 a1 = some r) :
  Calls Try.prog 91 #[.slice A0 l0.length c0, .int .i64 a1] w fun e w' => ∃ v0_ : Value, e = .returned (v0_) ∧ Kd.V (Kd.int .i64) 3 w' w.heap.size (fun k_ => (P0_ k_ ∨ w.heap.size ≤ k_)) v0_ r ∧ Below w.heap.size w w' := by
 have HO0 := am (show Kd.V (Kd.int .i64) 3 w w.heap.size (fun k_ => (P0_ k_ ∨ w.heap.size ≤ k_)) (.slice A0 l0.length c0) l0 from Kd.V_mono hs0 (fun k_ hk => .inl hk))
 have HB := am (Below.refl w.heap.size w)
 have H : (spec_l3Num.l0 k l0 a1 0) = some r := h
 clear h
 have H' := Aside0.mk H
 clear H
 go_enter Try.func91, Try.ntmps91
 go_wp2
 go_loopg [5] k (fun kq v5 w' => ∃ (x5_1 : Int), v5 = .int .i64 x5_1 ∧ Aside0 (spec_l3Num.l0 kq l0 a1 x5_1 = some r) ∧ Aside0 (kq ≤ k) ∧ Aside0 (Kd.V (Kd.int .i64) 3 w' w.heap.size (fun k_ => (P0_ k_ ∨ w.heap.size ≤ k_)) (.slice A0 l0.length c0) l0) ∧ Aside0 (Below w.heap.size w w'))
 case atStart => exact ⟨(0), (by first | rfl | (simp; done) | (simp [*]; done)), H', ⟨Nat.le_refl _⟩, ⟨by (with_reducible repeat (first | apply Kd.V_alloc | apply Kd.V_drewN | apply Kd.V_drew)); exact HO0.out⟩, ⟨KL HB⟩⟩
 case round =>
  clear H'
  try clear p2
  obtain ⟨x5_1, rfl, HA, HK1, HO_0, HB⟩ := hrel
  cases gk with
  | zero => exact absurd HA.out (by simp [spec_l3Num.l0])
  | succ k1 =>
   have H := HA.out
   clear HA
   simp only [spec_l3Num.l0] at H
   by_cases c3 : x5_1 < (l0.length : Int)
   ·rw [if_pos c3] at H
    have c3b0 : decide (x5_1 < (l0.length : Int)) = true := decide_eq_true c3
    clear c3
    by_cases c4 : 0 ≤ x5_1
    ·rw [if_pos c4] at H
     have c4b0 : decide (0 ≤ x5_1) = true := decide_eq_true c4
     clear c4
     by_cases c5 : (rd l0 x5_1) < a1
     ·rw [if_pos c5] at H
      have c5b0 : decide ((rd l0 x5_1) < a1) = true := decide_eq_true c5
      clear c5
      have H' := Aside0.mk H
      clear H
      have p101 : 0 ≤ (x5_1 : Int) := OD
      have q101 : x5_1 < (l0.length : Int) := OD
      obtain ⟨ad101, e101, hx101_0⟩ := Kd.at_int (Kd.V_reads' HO_0.out).2.2 x5_1 p101 q101
      cases e101
      replace p101 := eq_true p101
      replace q101 := eq_true q101
      go_wp2
      go_roundg k1
      case measure => have := HK1.out; omega
      case rel => exact ⟨(wrap64 (x5_1 + 1)), (by first | rfl | (simp; done) | (simp [*]; done)), H', ⟨by have := HK1.out; omega⟩, ⟨by (with_reducible repeat (first | apply Kd.V_alloc | apply Kd.V_drewN | apply Kd.V_drew)); exact HO_0.out⟩, ⟨KL HB⟩⟩
     ·rw [if_neg c5] at H
      have c5b0 : decide ((rd l0 x5_1) < a1) = false := decide_eq_false c5
      clear c5
      by_cases c6 : (rd l0 x5_1) = a1
      ·rw [if_pos c6] at H
       have c6b0 : ((rd l0 x5_1) == a1) = true := beq_iff_eq.mpr c6
       have c6b1 : ((rd l0 x5_1) != a1) = false := bne_eq_false_iff_eq.mpr c6
       clear c6
       obtain rfl := Option.some.inj H
       have p101 : 0 ≤ (x5_1 : Int) := OD
       have q101 : x5_1 < (l0.length : Int) := OD
       obtain ⟨ad101, e101, hx101_0⟩ := Kd.at_int (Kd.V_reads' HO_0.out).2.2 x5_1 p101 q101
       cases e101
       replace p101 := eq_true p101
       replace q101 := eq_true q101
       have p102 : 0 ≤ (x5_1 : Int) := OD
       have q102 : x5_1 < (l0.length : Int) := OD
       obtain ⟨ad102, e102, hx102_0⟩ := Kd.at_int (Kd.V_reads' HO_0.out).2.2 x5_1 p102 q102
       obtain rfl : ad101 = ad102 := (by injection e102)
       replace p102 := eq_true p102
       replace q102 := eq_true q102
       go_wp2
       go_ret
       exact ⟨_, ER, by (with_reducible repeat (first | apply Kd.V_alloc | apply Kd.V_drewN | apply Kd.V_drew)); exact HO_0.out, KL HB⟩
      ·rw [if_neg c6] at H
       have c6b0 : ((rd l0 x5_1) == a1) = false := beq_eq_false_iff_ne.mpr c6
       have c6b1 : ((rd l0 x5_1) != a1) = true := bne_iff_ne.mpr c6
       obtain ⟨y103, hy103⟩ : ∃ y_ : List Int, y_ = (([] : List Int)) := ⟨_, rfl⟩
       replace H : (if x5_1 ≤ (l0.length : Int) then ((some (l0.take (x5_1 : Int).toNat : List Int)).bind fun y106 => (if y103.length + y106.length < 17592186044416 then ((some (y103 ++ y106 : List Int)).bind fun y111 => ((some (([a1] : List Int) : List Int)).bind fun y114 => (if y111.length + y114.length < 17592186044416 then ((some (y111 ++ y114 : List Int)).bind fun y117 => ((some (l0.drop (x5_1 : Int).toNat : List Int)).bind fun y120 => (if y117.length + y120.length < 17592186044416 then (some (y117 ++ y120)) else (none)))) else (none)))) else (none))) else (none)) = some r := by first | (rw [hy103]; with_reducible exact H) | (have H2_ := (Option.bind_some _ _).symm.trans H; rw [hy103]; with_reducible exact H2_) | (have H2_ := (Option.bind_some _ _).symm.trans H; with_reducible exact H2_) | with_reducible exact H | (rw [hy103]; exact H) | exact H
       have Ny103 := Aside0.mk hy103
       clear hy103
       have c7b0 := eq_true (OD : 0 ≤ x5_1)
       by_cases c8 : x5_1 ≤ (l0.length : Int)
       ·rw [if_pos c8] at H
        have c8b0 := eq_true c8
        have c8b1 : decide (x5_1 ≤ (l0.length : Int)) = true := decide_eq_true c8
        clear c8
        obtain ⟨y106, hy106⟩ : ∃ y_ : List Int, y_ = (l0.take (x5_1 : Int).toNat) := ⟨_, rfl⟩
        replace H : (if y103.length + y106.length < 17592186044416 then ((some (y103 ++ y106 : List Int)).bind fun y111 => ((some (([a1] : List Int) : List Int)).bind fun y114 => (if y111.length + y114.length < 17592186044416 then ((some (y111 ++ y114 : List Int)).bind fun y117 => ((some (l0.drop (x5_1 : Int).toNat : List Int)).bind fun y120 => (if y117.length + y120.length < 17592186044416 then (some (y117 ++ y120)) else (none)))) else (none)))) else (none)) = some r := by first | (rw [hy106]; with_reducible exact H) | (have H2_ := (Option.bind_some _ _).symm.trans H; rw [hy106]; with_reducible exact H2_) | (have H2_ := (Option.bind_some _ _).symm.trans H; with_reducible exact H2_) | with_reducible exact H | (rw [hy106]; exact H) | exact H
        have Ny106 := Aside0.mk hy106
        clear hy106
        by_cases c9 : y103.length + y106.length < 17592186044416
        ·rw [if_pos c9] at H
         have LMc9 := Aside0.mk c9
         clear c9
         obtain ⟨y111, hy111⟩ : ∃ y_ : List Int, y_ = (y103 ++ y106) := ⟨_, rfl⟩
         replace H : ((some (([a1] : List Int) : List Int)).bind fun y114 => (if y111.length + y114.length < 17592186044416 then ((some (y111 ++ y114 : List Int)).bind fun y117 => ((some (l0.drop (x5_1 : Int).toNat : List Int)).bind fun y120 => (if y117.length + y120.length < 17592186044416 then (some (y117 ++ y120)) else (none)))) else (none))) = some r := by first | (rw [hy111]; with_reducible exact H) | (have H2_ := (Option.bind_some _ _).symm.trans H; rw [hy111]; with_reducible exact H2_) | (have H2_ := (Option.bind_some _ _).symm.trans H; with_reducible exact H2_) | with_reducible exact H | (rw [hy111]; exact H) | exact H
         have Ny111 := Aside0.mk hy111
         clear hy111
         obtain ⟨y114, hy114⟩ : ∃ y_ : List Int, y_ = (([a1] : List Int)) := ⟨_, rfl⟩
         replace H : (if y111.length + y114.length < 17592186044416 then ((some (y111 ++ y114 : List Int)).bind fun y117 => ((some (l0.drop (x5_1 : Int).toNat : List Int)).bind fun y120 => (if y117.length + y120.length < 17592186044416 then (some (y117 ++ y120)) else (none)))) else (none)) = some r := by first | (rw [hy114]; with_reducible exact H) | (have H2_ := (Option.bind_some _ _).symm.trans H; rw [hy114]; with_reducible exact H2_) | (have H2_ := (Option.bind_some _ _).symm.trans H; with_reducible exact H2_) | with_reducible exact H | (rw [hy114]; exact H) | exact H
         have Ny114 := Aside0.mk hy114
         clear hy114
         by_cases c10 : y111.length + y114.length < 17592186044416
         ·rw [if_pos c10] at H
          have LMc10 := Aside0.mk c10
          clear c10
          obtain ⟨y117, hy117⟩ : ∃ y_ : List Int, y_ = (y111 ++ y114) := ⟨_, rfl⟩
          replace H : ((some (l0.drop (x5_1 : Int).toNat : List Int)).bind fun y120 => (if y117.length + y120.length < 17592186044416 then (some (y117 ++ y120)) else (none))) = some r := by first | (rw [hy117]; with_reducible exact H) | (have H2_ := (Option.bind_some _ _).symm.trans H; rw [hy117]; with_reducible exact H2_) | (have H2_ := (Option.bind_some _ _).symm.trans H; with_reducible exact H2_) | with_reducible exact H | (rw [hy117]; exact H) | exact H
          have Ny117 := Aside0.mk hy117
          clear hy117
          have c11b0 := eq_true (OD : 0 ≤ x5_1)
          have c12b0 := eq_true (OD : x5_1 ≤ (l0.length : Int))
          obtain ⟨y120, hy120⟩ : ∃ y_ : List Int, y_ = (l0.drop (x5_1 : Int).toNat) := ⟨_, rfl⟩
          replace H : (if y117.length + y120.length < 17592186044416 then (some (y117 ++ y120)) else (none)) = some r := by first | (rw [hy120]; with_reducible exact H) | (have H2_ := (Option.bind_some _ _).symm.trans H; rw [hy120]; with_reducible exact H2_) | (have H2_ := (Option.bind_some _ _).symm.trans H; with_reducible exact H2_) | with_reducible exact H | (rw [hy120]; exact H) | exact H
          have Ny120 := Aside0.mk hy120
          clear hy120
          by_cases c13 : y117.length + y120.length < 17592186044416
          ·rw [if_pos c13] at H
           have LMc13 := Aside0.mk c13
           clear c13
           obtain ⟨y125, hy125⟩ : ∃ y_ : List Int, y_ = (y117 ++ y120) := ⟨_, rfl⟩
           replace H : (some y125) = some r := by first | (rw [hy125]; with_reducible exact H) | (have H2_ := (Option.bind_some _ _).symm.trans H; rw [hy125]; with_reducible exact H2_) | (have H2_ := (Option.bind_some _ _).symm.trans H; with_reducible exact H2_) | with_reducible exact H | (rw [hy125]; exact H) | exact H
           have Ny125 := Aside0.mk hy125
           clear hy125
           obtain rfl := Option.some.inj H
           have p101 : 0 ≤ (x5_1 : Int) := OD
           have q101 : x5_1 < (l0.length : Int) := OD
           obtain ⟨ad101, e101, hx101_0⟩ := Kd.at_int (Kd.V_reads' HO_0.out).2.2 x5_1 p101 q101
           cases e101
           replace p101 := eq_true p101
           replace q101 := eq_true q101
           have p102 : 0 ≤ (x5_1 : Int) := OD
           have q102 : x5_1 < (l0.length : Int) := OD
           obtain ⟨ad102, e102, hx102_0⟩ := Kd.at_int (Kd.V_reads' HO_0.out).2.2 x5_1 p102 q102
           obtain rfl : ad101 = ad102 := (by injection e102)
           replace p102 := eq_true p102
           replace q102 := eq_true q102
           try go_wp2
           replace HO_0 := am (Kd.V_drew HO_0.out)
           replace HB := am (below_drew1 HB.out)
           have q15 : (x5_1 : Int) ≤ ((l0.length : Int) : Int) := OD
           obtain ⟨i015, hi015, _, hsz15, _⟩ := info_parts info3
           have hroom15 : l0.length ≤ c0 := (Kd.V_reads' HO_0.out).2.1
           have hC15 : Kd.F (Kd.int .i64) _ _ (some ad101) l0.length l0 := (Kd.V_at (base := w.heap.size) HO_0.out).2.2
           have hcut15 := cut_to (P := Try.prog) 22 3 .i64 Try.underlying22 hi015 (some ad101) l0.length c0 x5_1 (OD) q15 hroom15
           have hr15 := Kd.F_take (m := (x5_1 : Int).toNat) hC15 (by omega)
           have hy15 : y106.length = (x5_1 : Int).toNat := (by rw [Ny106.out, List.length_take]; omega)
           rw [← Ny106.out] at hr15
           rw [← hy15] at hcut15
           have HO110 := am (show Kd.V (Kd.int .i64) 3 _ w.heap.size _ (.slice (some ad101) y106.length c0) y106 from Kd.V_mk (by omega) hr15)
           have HC110 := am (show y106.length ≤ c0 from by omega)
           clear hr15 hC15 hroom15 hi015 hsz15
           have KY15 := Aside0.mk hy15
           clear hy15
           replace q15 := eq_true q15
           have q16 : (x5_1 : Int) ≤ ((l0.length : Int) : Int) := OD
           obtain ⟨i016, hi016, _, hsz16, _⟩ := info_parts info3
           have hroom16 : l0.length ≤ c0 := (Kd.V_reads' HO_0.out).2.1
           have hC16 : Kd.F (Kd.int .i64) _ _ (some ad101) l0.length l0 := (Kd.V_at (base := w.heap.size) HO_0.out).2.2
           have q016 : (0 : Int) ≤ (x5_1 : Int) := OD
           have hcut16 := cut_from (P := Try.prog) 22 3 .i64 Try.underlying22 hi016 1 hsz16 (some ad101) l0.length c0 x5_1 q016 q16
           have hr16 := Kd.F_cut (m := (x5_1 : Int).toNat) (c := c0) hC16 (by omega) hroom16
           obtain ⟨A16, hA16⟩ : ∃ A1, A1 = (if c0 = (x5_1 : Int).toNat then (some ad101) else ((some ad101) : Option Addr).map (·.add ((x5_1 : Int).toNat * 1))) := ⟨_, rfl⟩
           obtain ⟨c16, hc16⟩ : ∃ c1, c1 = c0 - (x5_1 : Int).toNat := ⟨_, rfl⟩
           have hy16 : y120.length = l0.length - (x5_1 : Int).toNat := (by rw [Ny120.out, List.length_drop] <;> omega)
           rw [show (l0).drop (x5_1 : Int).toNat = y120 from Ny120.out.symm] at hr16
           replace hr16 : Kd.F (Kd.int .i64) _ _ A16 y120.length y120 := (by rw [hA16]; exact hr16)
           rw [← hy16, ← hA16, ← hc16] at hcut16
           have HO124 := am (show Kd.V (Kd.int .i64) 3 _ w.heap.size _ (.slice A16 y120.length c16) y120 from Kd.V_mk (by rw [hy16, hc16]; exact Nat.sub_le_sub_right hroom16 _) hr16)
           have HC124 := am (show y120.length ≤ c16 from by rw [hy16, hc16]; exact Nat.sub_le_sub_right hroom16 _)
           clear hr16 hC16 hroom16 hi016 hsz16 hc16
           have KY16 := Aside0.mk hy16
           have KA16 := Aside0.mk hA16
           clear hy16 hA16
           replace q16 := eq_true q16
           refine start_ (n := 13) (S := fun w' => True) (ds := []) (tf 0 13) (by kernel_rfl) rfl rfl trivial (fun hHeld => ?_); refine with_tabW spec_l3Num.tab6 spec_l3Num.bits6 (fun HT_ HW_ => ?_)
           generalize wr.drew = w14 at HO_0 HB HO110 HO124 hHeld ⊢
           refine pv HT_ 1 34 (tr [0, 1, 1, 11]) ?_
           refine pv HT_ 2 35 (tr [0, 1, 2, 10]) ?_
           refine pv HT_ 3 36 (tr [0, 1, 3, 9]) ?_
           refine pv HT_ 5 38 (tr [0, 1, 3, 1, 1, 7]) ?_
           refine pv HT_ 8 41 (tr [0, 1, 3, 1, 1, 2, 1, 4]) ?_
           refine pv HT_ 9 42 (tr [0, 1, 3, 1, 1, 2, 2, 3]) ?_
           refine pv HT_ 10 43 (tr [0, 1, 3, 1, 1, 2, 3, 2]) ?_
           refine join_ (σ := Value × Value × Value) 3 (tr [7, 1, 3, 2]) (fun s_ => [(33, s_.1), (37, s_.2.1), (39, s_.2.2)]) (fun s_ w' => (Kd.V (Kd.int .i64) 3 w' w.heap.size (fun k_ => (P0_ k_ ∨ w.heap.size ≤ k_) ∧ some k_ ≠ (s_.2.1 : Value).ownBlock ∧ some k_ ≠ (s_.2.2 : Value).ownBlock) (.slice (some ad101) y106.length c0) y106) ∧ (Kd.R (Kd.int .i64) 3 w' w.heap.size (fun k_ => (w.heap.size ≤ k_) ∧ some k_ ≠ (s_.2.2 : Value).ownBlock) s_.2.1 y111) ∧ (Kd.R (Kd.int .i64) 3 w' w.heap.size (fun k_ => (w.heap.size ≤ k_) ∧ some k_ ≠ (s_.2.1 : Value).ownBlock) s_.2.2 y114) ∧ (Kd.V (Kd.int .i64) 3 w' w.heap.size (fun k_ => (P0_ k_ ∨ w.heap.size ≤ k_) ∧ some k_ ≠ (s_.2.1 : Value).ownBlock ∧ some k_ ≠ (s_.2.2 : Value).ownBlock) (.slice A16 y120.length c16) y120) ∧ (Kd.V (Kd.int .i64) 3 w' w.heap.size (fun k_ => (P0_ k_ ∨ w.heap.size ≤ k_) ∧ some k_ ≠ (s_.2.1 : Value).ownBlock ∧ some k_ ≠ (s_.2.2 : Value).ownBlock) (.slice (some ad101) l0.length c0) l0) ∧ (Below w.heap.size w w')) ?_ ?_
           rotate_left
           ·intro hCont
            refine two_ (i := 0) (j := 6) (Ni := some 33) (Nj := some 39) (tr [4, 1, 1, 2, 3, 2]) (tr [0, 1, 3, 1, 2, 1, 3, 2]) rfl rfl rfl rfl (two_of HT_.out (by kernel_rfl)) (by decide) (by decide) (fun K hK => ?_) (fun K hK => ?_)
            ·skip
             refine Kd.R_lit_step (Kd.int .i64) _ 3 ?hg (N := 33) ?hd (xs := ([] : List Int)) (inner := []) (ok := fun _ => True) (okp := fun _ => True) ?hr ?hp (fun _ hk => hk) trivial (Below.refl _ _) (Nat.le_refl _) (by simp) ?_; (case hd => rfl); (case hg => rfl); (case hr => first | (go_simp; done) | (go_simp; rfl)); (case hp => exact (Reps.none _ _))
             intro v104 w17 ho18 hb hg_ hnew_
             clear hg_ hnew_
             (first | rw [← Ny103.out] at ho18 | (simp only [Int.reduceToNat] at ho18; rw [← Ny103.out] at ho18))
             replace HO_0 := am (Kd.V_elder' (by (with_reducible repeat (first | apply Kd.V_alloc | apply Kd.V_drewN | apply Kd.V_drew)); exact HO_0.out) (Kd.R_base ho18) hb)
             replace HO110 := am (Kd.V_elder' (by (with_reducible repeat (first | apply Kd.V_alloc | apply Kd.V_drewN | apply Kd.V_drew)); exact HO110.out) (Kd.R_base ho18) hb)
             replace HO124 := am (Kd.V_elder' (by (with_reducible repeat (first | apply Kd.V_alloc | apply Kd.V_drewN | apply Kd.V_drew)); exact HO124.out) (Kd.R_base ho18) hb)
             have HO105 := am (Kd.R_lower (Kd.R_newM (M := fun k_ => (w.heap.size ≤ k_)) ho18 (below_size (KL HB)) (fun k_ h_ => h_)) (below_size (KL HB)))
             replace HB := am (below_step (KL HB) hb)
             clear hb ho18
             refine hK.out _ _ trivial (fun hHeld => ?_)
             clear hK K
             refine norm_ (a' := ?_) ?_ ?_
             rotate_left
             ·show Act.put _ (some 33) _ = _
              simp only [Act.put, List.setIfInBounds_toArray, List.set_cons_zero, List.set_cons_succ, i64_w, i32_w]
              rfl
             refine two_ (i := 4) (j := 6) (Ni := some 37) (Nj := some 39) (tr [6, 2, 3, 2]) (tr [4, 1, 2, 1, 3, 2]) rfl rfl rfl rfl (two_of HT_.out (by kernel_rfl)) (by decide) (by decide) (fun K hK => ?_) (fun K hK => ?_)
             ·skip
              refine Kd.R_append_rows_step (Kd.int .i64) (w0 := w) w.heap.size (by rfl) (.tmp 33) (.tmp 36) 22 3 (.int .i64 0) 8 rfl Try.underlying22 info3 rfl (by decide) (by omega) v104 y103 y106 _ _ _ (fun k_ => (w.heap.size ≤ k_)) (fun _ => False) rfl rfl ?aO ?aR (fun _ _ h => h) (fun _ h => h.elim) ?aF ?aB ?aS ?aL ?_
              (case aR => exact KC (Kd.V_reads' HO110.out).2.2)
              (case aB => exact (KL HB))
              (case aF => exact (fun k_ hk => (Nat.le_trans (below_size (KL HB)) hk)))
              (case aO => exact (by (with_reducible repeat (first | apply Kd.R_alloc | apply Kd.R_drewN | apply Kd.R_drew)); exact Kd.R_mono HO105.out (fun _ hk => hk.1)))
              (case aS => exact (below_size (KL HB)))
              (case aL => have := LMc9.out; omega)
              intro v112 w19 ho hb hg hat
              rw [← Ny111.out] at ho
              replace HO_0 := am (Kd.V_afterv (ok := (fun k_ => (P0_ k_ ∨ w.heap.size ≤ k_))) (by (with_reducible repeat (first | apply Kd.V_alloc | apply Kd.V_drewN | apply Kd.V_drew)); exact HO_0.out) hg hat)
              replace HO110 := am (Kd.V_afterv (ok := (fun k_ => (P0_ k_ ∨ w.heap.size ≤ k_))) (by (with_reducible repeat (first | apply Kd.V_alloc | apply Kd.V_drewN | apply Kd.V_drew)); exact HO110.out) hg hat)
              replace HO124 := am (Kd.V_afterv (ok := (fun k_ => (P0_ k_ ∨ w.heap.size ≤ k_))) (by (with_reducible repeat (first | apply Kd.V_alloc | apply Kd.V_drewN | apply Kd.V_drew)); exact HO124.out) hg hat)
              replace HB := am (hb)
              have HO113 := am (ho)
              clear HO105
              clear ho hb hg hat
              refine hK.out _ _ trivial (fun hHeld => ?_)
              clear hK K
              refine norm_ (a' := ?_) ?_ ?_
              rotate_left
              ·show Act.put _ (some 37) _ = _
               simp only [Act.put, List.setIfInBounds_toArray, List.set_cons_zero, List.set_cons_succ, i64_w, i32_w]
               rfl
              refine one_ (i := 6) (N := some 39) (tr [7, 1, 3, 2]) rfl rfl (one_of HT_.out (by kernel_rfl)) (by decide) (fun K hK => ?_)
              refine Kd.R_lit_step (Kd.int .i64) _ 3 ?hg (N := 39) ?hd (xs := ([a1] : List Int)) (inner := [.int .i64 a1]) (ok := fun _ => True) (okp := fun _ => True) ?hr ?hp (fun _ hk => hk) trivial (Below.refl _ _) (Nat.le_refl _) (by simp) ?_; (case hd => rfl); (case hg => rfl); (case hr => first | (go_simp; done) | (go_simp; rfl)); (case hp => exact (Reps.one (show Kd.M (Kd.int .i64) _ _ _ a1 [.int .i64 a1] from rfl) (Reps.none _ _)))
              intro v115 w20 ho21 hb hg_ hnew_
              clear hg_ hnew_
              (first | rw [← Ny114.out] at ho21 | (simp only [Int.reduceToNat] at ho21; rw [← Ny114.out] at ho21))
              replace HO_0 := am (Kd.V_elder' (by (with_reducible repeat (first | apply Kd.V_alloc | apply Kd.V_drewN | apply Kd.V_drew)); exact HO_0.out) (Kd.R_base ho21) hb)
              replace HO110 := am (Kd.V_elder' (by (with_reducible repeat (first | apply Kd.V_alloc | apply Kd.V_drewN | apply Kd.V_drew)); exact HO110.out) (Kd.R_base ho21) hb)
              replace HO124 := am (Kd.V_elder' (by (with_reducible repeat (first | apply Kd.V_alloc | apply Kd.V_drewN | apply Kd.V_drew)); exact HO124.out) (Kd.R_base ho21) hb)
              have HO116 := am (Kd.R_lower (Kd.R_new' (Kd.R_newM (M := fun k_ => (w.heap.size ≤ k_)) ho21 (below_size (KL HB)) (fun k_ h_ => h_)) (Kd.R_lt (KR HO113))) (below_size (KL HB)))
              replace HO113 := am (Kd.R_elder' (KR HO113) (Kd.R_base ho21) hb)
              replace HB := am (below_step (KL HB) hb)
              clear hb ho21
              refine hK.out _ _ trivial (fun hHeld => ?_)
              clear hK K
              refine norm_ (a' := ?_) ?_ ?_
              rotate_left
              ·show Act.put _ (some 39) _ = _
               simp only [Act.put, List.setIfInBounds_toArray, List.set_cons_zero, List.set_cons_succ, i64_w, i32_w]
               rfl
              exact norm_ (by simp only [putAll, Act.put, List.setIfInBounds_toArray, List.set_cons_zero, List.set_cons_succ]) (hCont (v104, v112, v115) _ ⟨(by (with_reducible repeat (first | apply Kd.V_alloc | apply Kd.V_drewN | apply Kd.V_drew)); exact Kd.V_mono HO110.out (fun _ hk => ⟨hk.1.1, ⟨hk.1.2, hk.2⟩⟩)), (KR HO113), (by (with_reducible repeat (first | apply Kd.R_alloc | apply Kd.R_drewN | apply Kd.R_drew)); exact Kd.R_mono HO116.out (fun _ hk => ⟨hk.1.1, hk.2⟩)), (by (with_reducible repeat (first | apply Kd.V_alloc | apply Kd.V_drewN | apply Kd.V_drew)); exact Kd.V_mono HO124.out (fun _ hk => ⟨hk.1.1, ⟨hk.1.2, hk.2⟩⟩)), (by (with_reducible repeat (first | apply Kd.V_alloc | apply Kd.V_drewN | apply Kd.V_drew)); exact Kd.V_mono HO_0.out (fun _ hk => ⟨hk.1.1, ⟨hk.1.2, hk.2⟩⟩)), (KL HB)⟩)
             ·skip
              refine Kd.R_lit_step (Kd.int .i64) _ 3 ?hg (N := 39) ?hd (xs := ([a1] : List Int)) (inner := [.int .i64 a1]) (ok := fun _ => True) (okp := fun _ => True) ?hr ?hp (fun _ hk => hk) trivial (Below.refl _ _) (Nat.le_refl _) (by simp) ?_; (case hd => rfl); (case hg => rfl); (case hr => first | (go_simp; done) | (go_simp; rfl)); (case hp => exact (Reps.one (show Kd.M (Kd.int .i64) _ _ _ a1 [.int .i64 a1] from rfl) (Reps.none _ _)))
              intro v115 w19 ho20 hb hg_ hnew_
              clear hg_ hnew_
              (first | rw [← Ny114.out] at ho20 | (simp only [Int.reduceToNat] at ho20; rw [← Ny114.out] at ho20))
              replace HO_0 := am (Kd.V_elder' (by (with_reducible repeat (first | apply Kd.V_alloc | apply Kd.V_drewN | apply Kd.V_drew)); exact HO_0.out) (Kd.R_base ho20) hb)
              replace HO110 := am (Kd.V_elder' (by (with_reducible repeat (first | apply Kd.V_alloc | apply Kd.V_drewN | apply Kd.V_drew)); exact HO110.out) (Kd.R_base ho20) hb)
              replace HO124 := am (Kd.V_elder' (by (with_reducible repeat (first | apply Kd.V_alloc | apply Kd.V_drewN | apply Kd.V_drew)); exact HO124.out) (Kd.R_base ho20) hb)
              have HO116 := am (Kd.R_lower (Kd.R_new' (Kd.R_newM (M := fun k_ => (w.heap.size ≤ k_)) ho20 (below_size (KL HB)) (fun k_ h_ => h_)) (Kd.R_lt (KR HO105))) (below_size (KL HB)))
              replace HO105 := am (Kd.R_elder' (KR HO105) (Kd.R_base ho20) hb)
              replace HB := am (below_step (KL HB) hb)
              clear hb ho20
              refine hK.out _ _ trivial (fun hHeld => ?_)
              clear hK K
              refine norm_ (a' := ?_) ?_ ?_
              rotate_left
              ·show Act.put _ (some 39) _ = _
               simp only [Act.put, List.setIfInBounds_toArray, List.set_cons_zero, List.set_cons_succ, i64_w, i32_w]
               rfl
              refine one_ (i := 4) (N := some 37) (tr [7, 1, 3, 2]) rfl rfl (one_of HT_.out (by kernel_rfl)) (by decide) (fun K hK => ?_)
              refine Kd.R_append_rows_step (Kd.int .i64) (w0 := w) w.heap.size (by rfl) (.tmp 33) (.tmp 36) 22 3 (.int .i64 0) 8 rfl Try.underlying22 info3 rfl (by decide) (by omega) v104 y103 y106 _ _ _ (fun k_ => (w.heap.size ≤ k_) ∧ some k_ ≠ (v115 : Value).ownBlock) (fun _ => False) rfl rfl ?aO ?aR (fun _ _ h => h) (fun _ h => h.elim) ?aF ?aB ?aS ?aL ?_
              (case aR => exact KC (Kd.V_reads' HO110.out).2.2)
              (case aB => exact (KL HB))
              (case aF => exact (fun k_ hk => ⟨(Nat.le_trans (below_size (KL HB)) hk), Kd.fresh' (Kd.R_lt (KR HO116)) k_ hk⟩))
              (case aO => exact (by (with_reducible repeat (first | apply Kd.R_alloc | apply Kd.R_drewN | apply Kd.R_drew)); exact Kd.R_mono HO105.out (fun _ hk => ⟨hk.1.1, hk.2⟩)))
              (case aS => exact (below_size (KL HB)))
              (case aL => have := LMc9.out; omega)
              intro v112 w21 ho hb hg hat
              rw [← Ny111.out] at ho
              replace HO_0 := am (Kd.V_afterv (ok := (fun k_ => (P0_ k_ ∨ w.heap.size ≤ k_) ∧ some k_ ≠ (v115 : Value).ownBlock)) (by (with_reducible repeat (first | apply Kd.V_alloc | apply Kd.V_drewN | apply Kd.V_drew)); exact Kd.V_mono HO_0.out (fun _ hk => ⟨⟨hk.1.1, hk.2⟩, hk.1.2⟩)) hg hat)
              replace HO110 := am (Kd.V_afterv (ok := (fun k_ => (P0_ k_ ∨ w.heap.size ≤ k_) ∧ some k_ ≠ (v115 : Value).ownBlock)) (by (with_reducible repeat (first | apply Kd.V_alloc | apply Kd.V_drewN | apply Kd.V_drew)); exact Kd.V_mono HO110.out (fun _ hk => ⟨⟨hk.1.1, hk.2⟩, hk.1.2⟩)) hg hat)
              replace HO124 := am (Kd.V_afterv (ok := (fun k_ => (P0_ k_ ∨ w.heap.size ≤ k_) ∧ some k_ ≠ (v115 : Value).ownBlock)) (by (with_reducible repeat (first | apply Kd.V_alloc | apply Kd.V_drewN | apply Kd.V_drew)); exact Kd.V_mono HO124.out (fun _ hk => ⟨⟨hk.1.1, hk.2⟩, hk.1.2⟩)) hg hat)
              replace HO116 := am (Kd.R_after (ok := (fun k_ => (w.heap.size ≤ k_))) (by (with_reducible repeat (first | apply Kd.R_alloc | apply Kd.R_drewN | apply Kd.R_drew)); exact Kd.R_mono HO116.out (fun _ hk => ⟨hk.1.1, hk.2⟩)) hg hat)
              replace HB := am (hb)
              have HO113 := am (ho)
              clear HO105
              clear ho hb hg hat
              refine hK.out _ _ trivial (fun hHeld => ?_)
              clear hK K
              refine norm_ (a' := ?_) ?_ ?_
              rotate_left
              ·show Act.put _ (some 37) _ = _
               simp only [Act.put, List.setIfInBounds_toArray, List.set_cons_zero, List.set_cons_succ, i64_w, i32_w]
               rfl
              exact norm_ (by simp only [putAll, Act.put, List.setIfInBounds_toArray, List.set_cons_zero, List.set_cons_succ]) (hCont (v104, v112, v115) _ ⟨(by (with_reducible repeat (first | apply Kd.V_alloc | apply Kd.V_drewN | apply Kd.V_drew)); exact Kd.V_mono HO110.out (fun _ hk => ⟨hk.1.1, ⟨hk.2, hk.1.2⟩⟩)), (KR HO113), (KR HO116), (by (with_reducible repeat (first | apply Kd.V_alloc | apply Kd.V_drewN | apply Kd.V_drew)); exact Kd.V_mono HO124.out (fun _ hk => ⟨hk.1.1, ⟨hk.2, hk.1.2⟩⟩)), (by (with_reducible repeat (first | apply Kd.V_alloc | apply Kd.V_drewN | apply Kd.V_drew)); exact Kd.V_mono HO_0.out (fun _ hk => ⟨hk.1.1, ⟨hk.2, hk.1.2⟩⟩)), (KL HB)⟩)
            ·skip
             refine Kd.R_lit_step (Kd.int .i64) _ 3 ?hg (N := 39) ?hd (xs := ([a1] : List Int)) (inner := [.int .i64 a1]) (ok := fun _ => True) (okp := fun _ => True) ?hr ?hp (fun _ hk => hk) trivial (Below.refl _ _) (Nat.le_refl _) (by simp) ?_; (case hd => rfl); (case hg => rfl); (case hr => first | (go_simp; done) | (go_simp; rfl)); (case hp => exact (Reps.one (show Kd.M (Kd.int .i64) _ _ _ a1 [.int .i64 a1] from rfl) (Reps.none _ _)))
             intro v115 w17 ho18 hb hg_ hnew_
             clear hg_ hnew_
             (first | rw [← Ny114.out] at ho18 | (simp only [Int.reduceToNat] at ho18; rw [← Ny114.out] at ho18))
             replace HO_0 := am (Kd.V_elder' (by (with_reducible repeat (first | apply Kd.V_alloc | apply Kd.V_drewN | apply Kd.V_drew)); exact HO_0.out) (Kd.R_base ho18) hb)
             replace HO110 := am (Kd.V_elder' (by (with_reducible repeat (first | apply Kd.V_alloc | apply Kd.V_drewN | apply Kd.V_drew)); exact HO110.out) (Kd.R_base ho18) hb)
             replace HO124 := am (Kd.V_elder' (by (with_reducible repeat (first | apply Kd.V_alloc | apply Kd.V_drewN | apply Kd.V_drew)); exact HO124.out) (Kd.R_base ho18) hb)
             have HO116 := am (Kd.R_lower (Kd.R_newM (M := fun k_ => (w.heap.size ≤ k_)) ho18 (below_size (KL HB)) (fun k_ h_ => h_)) (below_size (KL HB)))
             replace HB := am (below_step (KL HB) hb)
             clear hb ho18
             refine hK.out _ _ trivial (fun hHeld => ?_)
             clear hK K
             refine norm_ (a' := ?_) ?_ ?_
             rotate_left
             ·show Act.put _ (some 39) _ = _
              simp only [Act.put, List.setIfInBounds_toArray, List.set_cons_zero, List.set_cons_succ, i64_w, i32_w]
              rfl
             refine one_ (i := 0) (N := some 33) (tr [4, 1, 2, 1, 3, 2]) rfl rfl (one_of HT_.out (by kernel_rfl)) (by decide) (fun K hK => ?_)
             refine Kd.R_lit_step (Kd.int .i64) _ 3 ?hg (N := 33) ?hd (xs := ([] : List Int)) (inner := []) (ok := fun _ => True) (okp := fun _ => True) ?hr ?hp (fun _ hk => hk) trivial (Below.refl _ _) (Nat.le_refl _) (by simp) ?_; (case hd => rfl); (case hg => rfl); (case hr => first | (go_simp; done) | (go_simp; rfl)); (case hp => exact (Reps.none _ _))
             intro v104 w19 ho20 hb hg_ hnew_
             clear hg_ hnew_
             (first | rw [← Ny103.out] at ho20 | (simp only [Int.reduceToNat] at ho20; rw [← Ny103.out] at ho20))
             replace HO_0 := am (Kd.V_elder' (by (with_reducible repeat (first | apply Kd.V_alloc | apply Kd.V_drewN | apply Kd.V_drew)); exact HO_0.out) (Kd.R_base ho20) hb)
             replace HO110 := am (Kd.V_elder' (by (with_reducible repeat (first | apply Kd.V_alloc | apply Kd.V_drewN | apply Kd.V_drew)); exact HO110.out) (Kd.R_base ho20) hb)
             replace HO124 := am (Kd.V_elder' (by (with_reducible repeat (first | apply Kd.V_alloc | apply Kd.V_drewN | apply Kd.V_drew)); exact HO124.out) (Kd.R_base ho20) hb)
             have HO105 := am (Kd.R_lower (Kd.R_new' (Kd.R_newM (M := fun k_ => (w.heap.size ≤ k_)) ho20 (below_size (KL HB)) (fun k_ h_ => h_)) (Kd.R_lt (KR HO116))) (below_size (KL HB)))
             replace HO116 := am (Kd.R_elder' (KR HO116) (Kd.R_base ho20) hb)
             replace HB := am (below_step (KL HB) hb)
             clear hb ho20
             refine hK.out _ _ trivial (fun hHeld => ?_)
             clear hK K
             refine norm_ (a' := ?_) ?_ ?_
             rotate_left
             ·show Act.put _ (some 33) _ = _
              simp only [Act.put, List.setIfInBounds_toArray, List.set_cons_zero, List.set_cons_succ, i64_w, i32_w]
              rfl
             refine one_ (i := 4) (N := some 37) (tr [7, 1, 3, 2]) rfl rfl (one_of HT_.out (by kernel_rfl)) (by decide) (fun K hK => ?_)
             refine Kd.R_append_rows_step (Kd.int .i64) (w0 := w) w.heap.size (by rfl) (.tmp 33) (.tmp 36) 22 3 (.int .i64 0) 8 rfl Try.underlying22 info3 rfl (by decide) (by omega) v104 y103 y106 _ _ _ (fun k_ => (w.heap.size ≤ k_) ∧ some k_ ≠ (v115 : Value).ownBlock) (fun _ => False) rfl rfl ?aO ?aR (fun _ _ h => h) (fun _ h => h.elim) ?aF ?aB ?aS ?aL ?_
             (case aR => exact KC (Kd.V_reads' HO110.out).2.2)
             (case aB => exact (KL HB))
             (case aF => exact (fun k_ hk => ⟨(Nat.le_trans (below_size (KL HB)) hk), Kd.fresh' (Kd.R_lt (KR HO116)) k_ hk⟩))
             (case aO => exact (by (with_reducible repeat (first | apply Kd.R_alloc | apply Kd.R_drewN | apply Kd.R_drew)); exact Kd.R_mono HO105.out (fun _ hk => ⟨hk.1.1, hk.2⟩)))
             (case aS => exact (below_size (KL HB)))
             (case aL => have := LMc9.out; omega)
             intro v112 w21 ho hb hg hat
             rw [← Ny111.out] at ho
             replace HO_0 := am (Kd.V_afterv (ok := (fun k_ => (P0_ k_ ∨ w.heap.size ≤ k_) ∧ some k_ ≠ (v115 : Value).ownBlock)) (by (with_reducible repeat (first | apply Kd.V_alloc | apply Kd.V_drewN | apply Kd.V_drew)); exact HO_0.out) hg hat)
             replace HO110 := am (Kd.V_afterv (ok := (fun k_ => (P0_ k_ ∨ w.heap.size ≤ k_) ∧ some k_ ≠ (v115 : Value).ownBlock)) (by (with_reducible repeat (first | apply Kd.V_alloc | apply Kd.V_drewN | apply Kd.V_drew)); exact HO110.out) hg hat)
             replace HO124 := am (Kd.V_afterv (ok := (fun k_ => (P0_ k_ ∨ w.heap.size ≤ k_) ∧ some k_ ≠ (v115 : Value).ownBlock)) (by (with_reducible repeat (first | apply Kd.V_alloc | apply Kd.V_drewN | apply Kd.V_drew)); exact HO124.out) hg hat)
             replace HO116 := am (Kd.R_after (ok := (fun k_ => (w.heap.size ≤ k_))) (by (with_reducible repeat (first | apply Kd.R_alloc | apply Kd.R_drewN | apply Kd.R_drew)); exact Kd.R_mono HO116.out (fun _ hk => ⟨hk.1.1, hk.2⟩)) hg hat)
             replace HB := am (hb)
             have HO113 := am (ho)
             clear HO105
             clear ho hb hg hat
             refine hK.out _ _ trivial (fun hHeld => ?_)
             clear hK K
             refine norm_ (a' := ?_) ?_ ?_
             rotate_left
             ·show Act.put _ (some 37) _ = _
              simp only [Act.put, List.setIfInBounds_toArray, List.set_cons_zero, List.set_cons_succ, i64_w, i32_w]
              rfl
             exact norm_ (by simp only [putAll, Act.put, List.setIfInBounds_toArray, List.set_cons_zero, List.set_cons_succ]) (hCont (v104, v112, v115) _ ⟨(by (with_reducible repeat (first | apply Kd.V_alloc | apply Kd.V_drewN | apply Kd.V_drew)); exact Kd.V_mono HO110.out (fun _ hk => ⟨hk.1.1, ⟨hk.2, hk.1.2⟩⟩)), (KR HO113), (KR HO116), (by (with_reducible repeat (first | apply Kd.V_alloc | apply Kd.V_drewN | apply Kd.V_drew)); exact Kd.V_mono HO124.out (fun _ hk => ⟨hk.1.1, ⟨hk.2, hk.1.2⟩⟩)), (by (with_reducible repeat (first | apply Kd.V_alloc | apply Kd.V_drewN | apply Kd.V_drew)); exact Kd.V_mono HO_0.out (fun _ hk => ⟨hk.1.1, ⟨hk.2, hk.1.2⟩⟩)), (KL HB)⟩)
           rintro ⟨v104, v112, v115⟩ w22 ⟨h0_, h1_, h2_, h3_, h4_, h5_⟩
           have HO110 : Aside0 (Kd.V (Kd.int .i64) 3 w22 w.heap.size (fun k_ => (P0_ k_ ∨ w.heap.size ≤ k_) ∧ some k_ ≠ (v112 : Value).ownBlock ∧ some k_ ≠ (v115 : Value).ownBlock) (.slice (some ad101) y106.length c0) y106) := ⟨h0_⟩
           have HO113 : Aside0 (Kd.R (Kd.int .i64) 3 w22 w.heap.size (fun k_ => (w.heap.size ≤ k_) ∧ some k_ ≠ (v115 : Value).ownBlock) v112 y111) := ⟨h1_⟩
           have HO116 : Aside0 (Kd.R (Kd.int .i64) 3 w22 w.heap.size (fun k_ => (w.heap.size ≤ k_) ∧ some k_ ≠ (v112 : Value).ownBlock) v115 y114) := ⟨h2_⟩
           have HO124 : Aside0 (Kd.V (Kd.int .i64) 3 w22 w.heap.size (fun k_ => (P0_ k_ ∨ w.heap.size ≤ k_) ∧ some k_ ≠ (v112 : Value).ownBlock ∧ some k_ ≠ (v115 : Value).ownBlock) (.slice A16 y120.length c16) y120) := ⟨h3_⟩
           replace HO_0 : Aside0 (Kd.V (Kd.int .i64) 3 w22 w.heap.size (fun k_ => (P0_ k_ ∨ w.heap.size ≤ k_) ∧ some k_ ≠ (v112 : Value).ownBlock ∧ some k_ ≠ (v115 : Value).ownBlock) (.slice (some ad101) l0.length c0) l0) := ⟨h4_⟩
           replace HB : Aside0 (Below w.heap.size w w22) := ⟨h5_⟩
           clear h0_ h1_ h2_ h3_ h4_ h5_
           have hHeld := trivial
           obtain ⟨Ao24, co24, eo24⟩ := Kd.R_slice HO116.out
           (first | subst eo24 | (injection eo24 with f1_ f2_ f3_; have f4_ := f1_.symm; have f5_ := f3_.symm; clear f1_ f2_ f3_; subst f4_; subst f5_))
           refine norm_ (a' := ?_) ?_ ?_
           rotate_left
           ·simp only [putAll, Act.put, List.setIfInBounds_toArray, List.set_cons_zero, List.set_cons_succ]
            rfl
           refine one_ (i := 7) (N := some 40) (tf 11 2) rfl rfl (one_of HT_.out (by kernel_rfl)) (by decide) (fun K hK => ?_)
           refine Kd.R_append_rows_step (Kd.int .i64) (w0 := w) w.heap.size (by rfl) (.tmp 37) (.tmp 39) 22 3 (.int .i64 0) 8 rfl Try.underlying22 info3 rfl (by decide) (by omega) v112 y111 y114 _ _ _ (fun k_ => (w.heap.size ≤ k_) ∧ some k_ ≠ (.slice Ao24 y114.length co24 : Value).ownBlock) (fun _ => False) rfl rfl ?aO ?aR (fun _ _ h => h) (fun _ h => h.elim) ?aF ?aB ?aS ?aL ?_
           (case aR => exact KC (Kd.R_reads' HO116.out).2.2)
           (case aB => exact (KL HB))
           (case aF => exact (fun k_ hk => ⟨(Nat.le_trans (below_size (KL HB)) hk), Kd.fresh' (Kd.R_lt (KR HO116)) k_ hk⟩))
           (case aO => exact (KR HO113))
           (case aS => exact (below_size (KL HB)))
           (case aL => have := LMc10.out; omega)
           intro v118 w23 ho hb hg hat
           rw [← Ny117.out] at ho
           replace HO_0 := am (Kd.V_afterv (ok := (fun k_ => (P0_ k_ ∨ w.heap.size ≤ k_) ∧ some k_ ≠ (.slice Ao24 y114.length co24 : Value).ownBlock)) (by (with_reducible repeat (first | apply Kd.V_alloc | apply Kd.V_drewN | apply Kd.V_drew)); exact Kd.V_mono HO_0.out (fun _ hk => ⟨⟨hk.1, hk.2.2⟩, hk.2.1⟩)) hg hat)
           replace HO110 := am (Kd.V_afterv (ok := (fun k_ => (P0_ k_ ∨ w.heap.size ≤ k_) ∧ some k_ ≠ (.slice Ao24 y114.length co24 : Value).ownBlock)) (by (with_reducible repeat (first | apply Kd.V_alloc | apply Kd.V_drewN | apply Kd.V_drew)); exact Kd.V_mono HO110.out (fun _ hk => ⟨⟨hk.1, hk.2.2⟩, hk.2.1⟩)) hg hat)
           replace HO124 := am (Kd.V_afterv (ok := (fun k_ => (P0_ k_ ∨ w.heap.size ≤ k_) ∧ some k_ ≠ (.slice Ao24 y114.length co24 : Value).ownBlock)) (by (with_reducible repeat (first | apply Kd.V_alloc | apply Kd.V_drewN | apply Kd.V_drew)); exact Kd.V_mono HO124.out (fun _ hk => ⟨⟨hk.1, hk.2.2⟩, hk.2.1⟩)) hg hat)
           replace HO116 := am (Kd.R_after (ok := (fun k_ => (w.heap.size ≤ k_))) (KR HO116) hg hat)
           replace HB := am (hb)
           have HO119 := am (ho)
           clear HO113
           clear ho hb hg hat
           refine hK.out _ _ trivial (fun hHeld => ?_)
           clear hK K
           refine norm_ (a' := ?_) ?_ ?_
           rotate_left
           ·show Act.put _ (some 40) _ = _
            simp only [Act.put, List.setIfInBounds_toArray, List.set_cons_zero, List.set_cons_succ, i64_w, i32_w]
            rfl
           refine one_ (i := 11) (N := some 44) (tf 12 1) rfl rfl (one_of HT_.out (by kernel_rfl)) (by decide) (fun K hK => ?_)
           refine Kd.R_append_rows_step (Kd.int .i64) (w0 := w) w.heap.size (by rfl) (.tmp 40) (.tmp 43) 22 3 (.int .i64 0) 8 rfl Try.underlying22 info3 rfl (by decide) (by omega) v118 y117 y120 _ _ _ (fun k_ => (w.heap.size ≤ k_) ∧ some k_ ≠ (.slice Ao24 y114.length co24 : Value).ownBlock) (fun _ => False) rfl rfl ?aO ?aR (fun _ _ h => h) (fun _ h => h.elim) ?aF ?aB ?aS ?aL ?_
           (case aR => exact KC (Kd.V_reads' HO124.out).2.2)
           (case aB => exact (KL HB))
           (case aF => exact (fun k_ hk => ⟨(Nat.le_trans (below_size (KL HB)) hk), Kd.fresh' (Kd.R_lt (KR HO116)) k_ hk⟩))
           (case aO => exact (KR HO119))
           (case aS => exact (below_size (KL HB)))
           (case aL => have := LMc13.out; omega)
           intro v126 w25 ho hb hg hat
           rw [← Ny125.out] at ho
           replace HO_0 := am (Kd.V_afterv (ok := (fun k_ => (P0_ k_ ∨ w.heap.size ≤ k_) ∧ some k_ ≠ (.slice Ao24 y114.length co24 : Value).ownBlock)) (by (with_reducible repeat (first | apply Kd.V_alloc | apply Kd.V_drewN | apply Kd.V_drew)); exact HO_0.out) hg hat)
           replace HO110 := am (Kd.V_afterv (ok := (fun k_ => (P0_ k_ ∨ w.heap.size ≤ k_) ∧ some k_ ≠ (.slice Ao24 y114.length co24 : Value).ownBlock)) (by (with_reducible repeat (first | apply Kd.V_alloc | apply Kd.V_drewN | apply Kd.V_drew)); exact HO110.out) hg hat)
           replace HO124 := am (Kd.V_afterv (ok := (fun k_ => (P0_ k_ ∨ w.heap.size ≤ k_) ∧ some k_ ≠ (.slice Ao24 y114.length co24 : Value).ownBlock)) (by (with_reducible repeat (first | apply Kd.V_alloc | apply Kd.V_drewN | apply Kd.V_drew)); exact HO124.out) hg hat)
           replace HO116 := am (Kd.R_after (ok := (fun k_ => (w.heap.size ≤ k_))) (KR HO116) hg hat)
           replace HB := am (hb)
           have HO127 := am (ho)
           clear HO119
           clear ho hb hg hat
           refine hK.out _ _ trivial (fun hHeld => ?_)
           clear hK K
           refine norm_ (a' := ?_) ?_ ?_
           rotate_left
           ·show Act.put _ (some 44) _ = _
            simp only [Act.put, List.setIfInBounds_toArray, List.set_cons_zero, List.set_cons_succ, i64_w, i32_w]
            rfl
           refine pv HT_ 12 4 (tf 13 0) ?_
           refine done_ (done_of HT_.out (by kernel_rfl)) ?_
           try go_wp2
           go_ret
           exact ⟨_, ER, Kd.V_mono (Kd.R_V (by (with_reducible repeat (first | apply Kd.R_alloc | apply Kd.R_drewN | apply Kd.R_drew)); exact Kd.R_mono HO127.out (fun _ hk => hk.1))) (fun k_ hk => by first | exact ⟨(.inr (hk.1)), hk.2⟩ | exact (.inr (hk))), KL HB⟩
          ·rw [if_neg c13] at H
           exact absurd H (by simp)
         ·rw [if_neg c10] at H
          exact absurd H (by simp)
        ·rw [if_neg c9] at H
         exact absurd H (by simp)
       ·rw [if_neg c8] at H
        exact absurd H (by simp)
    ·rw [if_neg c4] at H
     exact absurd H (by simp)
   ·rw [if_neg c3] at H
    have c3b0 : decide (x5_1 < (l0.length : Int)) = false := decide_eq_false c3
    clear c3
    obtain ⟨y128, hy128⟩ : ∃ y_ : List Int, y_ = (([] : List Int)) := ⟨_, rfl⟩
    replace H : (if 0 ≤ x5_1 then (if x5_1 ≤ (l0.length : Int) then ((some (l0.take (x5_1 : Int).toNat : List Int)).bind fun y131 => (if y128.length + y131.length < 17592186044416 then ((some (y128 ++ y131 : List Int)).bind fun y136 => ((some (([a1] : List Int) : List Int)).bind fun y139 => (if y136.length + y139.length < 17592186044416 then ((some (y136 ++ y139 : List Int)).bind fun y142 => ((some (l0.drop (x5_1 : Int).toNat : List Int)).bind fun y145 => (if y142.length + y145.length < 17592186044416 then (some (y142 ++ y145)) else (none)))) else (none)))) else (none))) else (none)) else (none)) = some r := by first | (rw [hy128]; with_reducible exact H) | (have H2_ := (Option.bind_some _ _).symm.trans H; rw [hy128]; with_reducible exact H2_) | (have H2_ := (Option.bind_some _ _).symm.trans H; with_reducible exact H2_) | with_reducible exact H | (rw [hy128]; exact H) | exact H
    have Ny128 := Aside0.mk hy128
    clear hy128
    by_cases c26 : 0 ≤ x5_1
    ·rw [if_pos c26] at H
     have c26b0 := eq_true c26
     have c26b1 : decide (0 ≤ x5_1) = true := decide_eq_true c26
     clear c26
     by_cases c27 : x5_1 ≤ (l0.length : Int)
     ·rw [if_pos c27] at H
      have c27b0 := eq_true c27
      have c27b1 : decide (x5_1 ≤ (l0.length : Int)) = true := decide_eq_true c27
      clear c27
      obtain ⟨y131, hy131⟩ : ∃ y_ : List Int, y_ = (l0.take (x5_1 : Int).toNat) := ⟨_, rfl⟩
      replace H : (if y128.length + y131.length < 17592186044416 then ((some (y128 ++ y131 : List Int)).bind fun y136 => ((some (([a1] : List Int) : List Int)).bind fun y139 => (if y136.length + y139.length < 17592186044416 then ((some (y136 ++ y139 : List Int)).bind fun y142 => ((some (l0.drop (x5_1 : Int).toNat : List Int)).bind fun y145 => (if y142.length + y145.length < 17592186044416 then (some (y142 ++ y145)) else (none)))) else (none)))) else (none)) = some r := by first | (rw [hy131]; with_reducible exact H) | (have H2_ := (Option.bind_some _ _).symm.trans H; rw [hy131]; with_reducible exact H2_) | (have H2_ := (Option.bind_some _ _).symm.trans H; with_reducible exact H2_) | with_reducible exact H | (rw [hy131]; exact H) | exact H
      have Ny131 := Aside0.mk hy131
      clear hy131
      by_cases c28 : y128.length + y131.length < 17592186044416
      ·rw [if_pos c28] at H
       have LMc28 := Aside0.mk c28
       clear c28
       obtain ⟨y136, hy136⟩ : ∃ y_ : List Int, y_ = (y128 ++ y131) := ⟨_, rfl⟩
       replace H : ((some (([a1] : List Int) : List Int)).bind fun y139 => (if y136.length + y139.length < 17592186044416 then ((some (y136 ++ y139 : List Int)).bind fun y142 => ((some (l0.drop (x5_1 : Int).toNat : List Int)).bind fun y145 => (if y142.length + y145.length < 17592186044416 then (some (y142 ++ y145)) else (none)))) else (none))) = some r := by first | (rw [hy136]; with_reducible exact H) | (have H2_ := (Option.bind_some _ _).symm.trans H; rw [hy136]; with_reducible exact H2_) | (have H2_ := (Option.bind_some _ _).symm.trans H; with_reducible exact H2_) | with_reducible exact H | (rw [hy136]; exact H) | exact H
       have Ny136 := Aside0.mk hy136
       clear hy136
       obtain ⟨y139, hy139⟩ : ∃ y_ : List Int, y_ = (([a1] : List Int)) := ⟨_, rfl⟩
       replace H : (if y136.length + y139.length < 17592186044416 then ((some (y136 ++ y139 : List Int)).bind fun y142 => ((some (l0.drop (x5_1 : Int).toNat : List Int)).bind fun y145 => (if y142.length + y145.length < 17592186044416 then (some (y142 ++ y145)) else (none)))) else (none)) = some r := by first | (rw [hy139]; with_reducible exact H) | (have H2_ := (Option.bind_some _ _).symm.trans H; rw [hy139]; with_reducible exact H2_) | (have H2_ := (Option.bind_some _ _).symm.trans H; with_reducible exact H2_) | with_reducible exact H | (rw [hy139]; exact H) | exact H
       have Ny139 := Aside0.mk hy139
       clear hy139
       by_cases c29 : y136.length + y139.length < 17592186044416
       ·rw [if_pos c29] at H
        have LMc29 := Aside0.mk c29
        clear c29
        obtain ⟨y142, hy142⟩ : ∃ y_ : List Int, y_ = (y136 ++ y139) := ⟨_, rfl⟩
        replace H : ((some (l0.drop (x5_1 : Int).toNat : List Int)).bind fun y145 => (if y142.length + y145.length < 17592186044416 then (some (y142 ++ y145)) else (none))) = some r := by first | (rw [hy142]; with_reducible exact H) | (have H2_ := (Option.bind_some _ _).symm.trans H; rw [hy142]; with_reducible exact H2_) | (have H2_ := (Option.bind_some _ _).symm.trans H; with_reducible exact H2_) | with_reducible exact H | (rw [hy142]; exact H) | exact H
        have Ny142 := Aside0.mk hy142
        clear hy142
        have c30b0 := eq_true (OD : 0 ≤ x5_1)
        have c31b0 := eq_true (OD : x5_1 ≤ (l0.length : Int))
        obtain ⟨y145, hy145⟩ : ∃ y_ : List Int, y_ = (l0.drop (x5_1 : Int).toNat) := ⟨_, rfl⟩
        replace H : (if y142.length + y145.length < 17592186044416 then (some (y142 ++ y145)) else (none)) = some r := by first | (rw [hy145]; with_reducible exact H) | (have H2_ := (Option.bind_some _ _).symm.trans H; rw [hy145]; with_reducible exact H2_) | (have H2_ := (Option.bind_some _ _).symm.trans H; with_reducible exact H2_) | with_reducible exact H | (rw [hy145]; exact H) | exact H
        have Ny145 := Aside0.mk hy145
        clear hy145
        by_cases c32 : y142.length + y145.length < 17592186044416
        ·rw [if_pos c32] at H
         have LMc32 := Aside0.mk c32
         clear c32
         obtain ⟨y150, hy150⟩ : ∃ y_ : List Int, y_ = (y142 ++ y145) := ⟨_, rfl⟩
         replace H : (some y150) = some r := by first | (rw [hy150]; with_reducible exact H) | (have H2_ := (Option.bind_some _ _).symm.trans H; rw [hy150]; with_reducible exact H2_) | (have H2_ := (Option.bind_some _ _).symm.trans H; with_reducible exact H2_) | with_reducible exact H | (rw [hy150]; exact H) | exact H
         have Ny150 := Aside0.mk hy150
         clear hy150
         obtain rfl := Option.some.inj H
         try go_wp2
         replace HO_0 := am (Kd.V_drew HO_0.out)
         replace HB := am (below_drew1 HB.out)
         have q34 : (x5_1 : Int) ≤ ((l0.length : Int) : Int) := OD
         obtain ⟨i034, hi034, _, hsz34, _⟩ := info_parts info3
         have hroom34 : l0.length ≤ c0 := (Kd.V_reads' HO_0.out).2.1
         have hC34 : Kd.F (Kd.int .i64) _ _ A0 l0.length l0 := (Kd.V_at (base := w.heap.size) HO_0.out).2.2
         have hcut34 := cut_to (P := Try.prog) 22 3 .i64 Try.underlying22 hi034 A0 l0.length c0 x5_1 (OD) q34 hroom34
         have hr34 := Kd.F_take (m := (x5_1 : Int).toNat) hC34 (by omega)
         have hy34 : y131.length = (x5_1 : Int).toNat := (by rw [Ny131.out, List.length_take]; omega)
         rw [← Ny131.out] at hr34
         rw [← hy34] at hcut34
         have HO135 := am (show Kd.V (Kd.int .i64) 3 _ w.heap.size _ (.slice A0 y131.length c0) y131 from Kd.V_mk (by omega) hr34)
         have HC135 := am (show y131.length ≤ c0 from by omega)
         clear hr34 hC34 hroom34 hi034 hsz34
         have KY34 := Aside0.mk hy34
         clear hy34
         replace q34 := eq_true q34
         have q35 : (x5_1 : Int) ≤ ((l0.length : Int) : Int) := OD
         obtain ⟨i035, hi035, _, hsz35, _⟩ := info_parts info3
         have hroom35 : l0.length ≤ c0 := (Kd.V_reads' HO_0.out).2.1
         have hC35 : Kd.F (Kd.int .i64) _ _ A0 l0.length l0 := (Kd.V_at (base := w.heap.size) HO_0.out).2.2
         have q035 : (0 : Int) ≤ (x5_1 : Int) := OD
         have hcut35 := cut_from (P := Try.prog) 22 3 .i64 Try.underlying22 hi035 1 hsz35 A0 l0.length c0 x5_1 q035 q35
         have hr35 := Kd.F_cut (m := (x5_1 : Int).toNat) (c := c0) hC35 (by omega) hroom35
         obtain ⟨A35, hA35⟩ : ∃ A1, A1 = (if c0 = (x5_1 : Int).toNat then A0 else (A0 : Option Addr).map (·.add ((x5_1 : Int).toNat * 1))) := ⟨_, rfl⟩
         obtain ⟨c35, hc35⟩ : ∃ c1, c1 = c0 - (x5_1 : Int).toNat := ⟨_, rfl⟩
         have hy35 : y145.length = l0.length - (x5_1 : Int).toNat := (by rw [Ny145.out, List.length_drop] <;> omega)
         rw [show (l0).drop (x5_1 : Int).toNat = y145 from Ny145.out.symm] at hr35
         replace hr35 : Kd.F (Kd.int .i64) _ _ A35 y145.length y145 := (by rw [hA35]; exact hr35)
         rw [← hy35, ← hA35, ← hc35] at hcut35
         have HO149 := am (show Kd.V (Kd.int .i64) 3 _ w.heap.size _ (.slice A35 y145.length c35) y145 from Kd.V_mk (by rw [hy35, hc35]; exact Nat.sub_le_sub_right hroom35 _) hr35)
         have HC149 := am (show y145.length ≤ c35 from by rw [hy35, hc35]; exact Nat.sub_le_sub_right hroom35 _)
         clear hr35 hC35 hroom35 hi035 hsz35 hc35
         have KY35 := Aside0.mk hy35
         have KA35 := Aside0.mk hA35
         clear hy35 hA35
         replace q35 := eq_true q35
         refine start_ (n := 13) (S := fun w' => True) (ds := []) (tf 0 13) (by kernel_rfl) rfl rfl trivial (fun hHeld => ?_); refine with_tabW spec_l3Num.tab6 spec_l3Num.bits6 (fun HT_ HW_ => ?_)
         generalize wr.drew = w33 at HO_0 HB HO135 HO149 hHeld ⊢
         refine pv HT_ 1 34 (tr [0, 1, 1, 11]) ?_
         refine pv HT_ 2 35 (tr [0, 1, 2, 10]) ?_
         refine pv HT_ 3 36 (tr [0, 1, 3, 9]) ?_
         refine pv HT_ 5 38 (tr [0, 1, 3, 1, 1, 7]) ?_
         refine pv HT_ 8 41 (tr [0, 1, 3, 1, 1, 2, 1, 4]) ?_
         refine pv HT_ 9 42 (tr [0, 1, 3, 1, 1, 2, 2, 3]) ?_
         refine pv HT_ 10 43 (tr [0, 1, 3, 1, 1, 2, 3, 2]) ?_
         refine join_ (σ := Value × Value × Value) 3 (tr [7, 1, 3, 2]) (fun s_ => [(33, s_.1), (37, s_.2.1), (39, s_.2.2)]) (fun s_ w' => (Kd.V (Kd.int .i64) 3 w' w.heap.size (fun k_ => (P0_ k_ ∨ w.heap.size ≤ k_) ∧ some k_ ≠ (s_.2.1 : Value).ownBlock ∧ some k_ ≠ (s_.2.2 : Value).ownBlock) (.slice A0 y131.length c0) y131) ∧ (Kd.R (Kd.int .i64) 3 w' w.heap.size (fun k_ => (w.heap.size ≤ k_) ∧ some k_ ≠ (s_.2.2 : Value).ownBlock) s_.2.1 y136) ∧ (Kd.R (Kd.int .i64) 3 w' w.heap.size (fun k_ => (w.heap.size ≤ k_) ∧ some k_ ≠ (s_.2.1 : Value).ownBlock) s_.2.2 y139) ∧ (Kd.V (Kd.int .i64) 3 w' w.heap.size (fun k_ => (P0_ k_ ∨ w.heap.size ≤ k_) ∧ some k_ ≠ (s_.2.1 : Value).ownBlock ∧ some k_ ≠ (s_.2.2 : Value).ownBlock) (.slice A35 y145.length c35) y145) ∧ (Kd.V (Kd.int .i64) 3 w' w.heap.size (fun k_ => (P0_ k_ ∨ w.heap.size ≤ k_) ∧ some k_ ≠ (s_.2.1 : Value).ownBlock ∧ some k_ ≠ (s_.2.2 : Value).ownBlock) (.slice A0 l0.length c0) l0) ∧ (Below w.heap.size w w')) ?_ ?_
         rotate_left
         ·intro hCont
          refine two_ (i := 0) (j := 6) (Ni := some 33) (Nj := some 39) (tr [4, 1, 1, 2, 3, 2]) (tr [0, 1, 3, 1, 2, 1, 3, 2]) rfl rfl rfl rfl (two_of HT_.out (by kernel_rfl)) (by decide) (by decide) (fun K hK => ?_) (fun K hK => ?_)
          ·skip
           refine Kd.R_lit_step (Kd.int .i64) _ 3 ?hg (N := 33) ?hd (xs := ([] : List Int)) (inner := []) (ok := fun _ => True) (okp := fun _ => True) ?hr ?hp (fun _ hk => hk) trivial (Below.refl _ _) (Nat.le_refl _) (by simp) ?_; (case hd => rfl); (case hg => rfl); (case hr => first | (go_simp; done) | (go_simp; rfl)); (case hp => exact (Reps.none _ _))
           intro v129 w36 ho37 hb hg_ hnew_
           clear hg_ hnew_
           (first | rw [← Ny128.out] at ho37 | (simp only [Int.reduceToNat] at ho37; rw [← Ny128.out] at ho37))
           replace HO_0 := am (Kd.V_elder' (by (with_reducible repeat (first | apply Kd.V_alloc | apply Kd.V_drewN | apply Kd.V_drew)); exact HO_0.out) (Kd.R_base ho37) hb)
           replace HO135 := am (Kd.V_elder' (by (with_reducible repeat (first | apply Kd.V_alloc | apply Kd.V_drewN | apply Kd.V_drew)); exact HO135.out) (Kd.R_base ho37) hb)
           replace HO149 := am (Kd.V_elder' (by (with_reducible repeat (first | apply Kd.V_alloc | apply Kd.V_drewN | apply Kd.V_drew)); exact HO149.out) (Kd.R_base ho37) hb)
           have HO130 := am (Kd.R_lower (Kd.R_newM (M := fun k_ => (w.heap.size ≤ k_)) ho37 (below_size (KL HB)) (fun k_ h_ => h_)) (below_size (KL HB)))
           replace HB := am (below_step (KL HB) hb)
           clear hb ho37
           refine hK.out _ _ trivial (fun hHeld => ?_)
           clear hK K
           refine norm_ (a' := ?_) ?_ ?_
           rotate_left
           ·show Act.put _ (some 33) _ = _
            simp only [Act.put, List.setIfInBounds_toArray, List.set_cons_zero, List.set_cons_succ, i64_w, i32_w]
            rfl
           refine two_ (i := 4) (j := 6) (Ni := some 37) (Nj := some 39) (tr [6, 2, 3, 2]) (tr [4, 1, 2, 1, 3, 2]) rfl rfl rfl rfl (two_of HT_.out (by kernel_rfl)) (by decide) (by decide) (fun K hK => ?_) (fun K hK => ?_)
           ·skip
            refine Kd.R_append_rows_step (Kd.int .i64) (w0 := w) w.heap.size (by rfl) (.tmp 33) (.tmp 36) 22 3 (.int .i64 0) 8 rfl Try.underlying22 info3 rfl (by decide) (by omega) v129 y128 y131 _ _ _ (fun k_ => (w.heap.size ≤ k_)) (fun _ => False) rfl rfl ?aO ?aR (fun _ _ h => h) (fun _ h => h.elim) ?aF ?aB ?aS ?aL ?_
            (case aR => exact KC (Kd.V_reads' HO135.out).2.2)
            (case aB => exact (KL HB))
            (case aF => exact (fun k_ hk => (Nat.le_trans (below_size (KL HB)) hk)))
            (case aO => exact (by (with_reducible repeat (first | apply Kd.R_alloc | apply Kd.R_drewN | apply Kd.R_drew)); exact Kd.R_mono HO130.out (fun _ hk => hk.1)))
            (case aS => exact (below_size (KL HB)))
            (case aL => have := LMc28.out; omega)
            intro v137 w38 ho hb hg hat
            rw [← Ny136.out] at ho
            replace HO_0 := am (Kd.V_afterv (ok := (fun k_ => (P0_ k_ ∨ w.heap.size ≤ k_))) (by (with_reducible repeat (first | apply Kd.V_alloc | apply Kd.V_drewN | apply Kd.V_drew)); exact HO_0.out) hg hat)
            replace HO135 := am (Kd.V_afterv (ok := (fun k_ => (P0_ k_ ∨ w.heap.size ≤ k_))) (by (with_reducible repeat (first | apply Kd.V_alloc | apply Kd.V_drewN | apply Kd.V_drew)); exact HO135.out) hg hat)
            replace HO149 := am (Kd.V_afterv (ok := (fun k_ => (P0_ k_ ∨ w.heap.size ≤ k_))) (by (with_reducible repeat (first | apply Kd.V_alloc | apply Kd.V_drewN | apply Kd.V_drew)); exact HO149.out) hg hat)
            replace HB := am (hb)
            have HO138 := am (ho)
            clear HO130
            clear ho hb hg hat
            refine hK.out _ _ trivial (fun hHeld => ?_)
            clear hK K
            refine norm_ (a' := ?_) ?_ ?_
            rotate_left
            ·show Act.put _ (some 37) _ = _
             simp only [Act.put, List.setIfInBounds_toArray, List.set_cons_zero, List.set_cons_succ, i64_w, i32_w]
             rfl
            refine one_ (i := 6) (N := some 39) (tr [7, 1, 3, 2]) rfl rfl (one_of HT_.out (by kernel_rfl)) (by decide) (fun K hK => ?_)
            refine Kd.R_lit_step (Kd.int .i64) _ 3 ?hg (N := 39) ?hd (xs := ([a1] : List Int)) (inner := [.int .i64 a1]) (ok := fun _ => True) (okp := fun _ => True) ?hr ?hp (fun _ hk => hk) trivial (Below.refl _ _) (Nat.le_refl _) (by simp) ?_; (case hd => rfl); (case hg => rfl); (case hr => first | (go_simp; done) | (go_simp; rfl)); (case hp => exact (Reps.one (show Kd.M (Kd.int .i64) _ _ _ a1 [.int .i64 a1] from rfl) (Reps.none _ _)))
            intro v140 w39 ho40 hb hg_ hnew_
            clear hg_ hnew_
            (first | rw [← Ny139.out] at ho40 | (simp only [Int.reduceToNat] at ho40; rw [← Ny139.out] at ho40))
            replace HO_0 := am (Kd.V_elder' (by (with_reducible repeat (first | apply Kd.V_alloc | apply Kd.V_drewN | apply Kd.V_drew)); exact HO_0.out) (Kd.R_base ho40) hb)
            replace HO135 := am (Kd.V_elder' (by (with_reducible repeat (first | apply Kd.V_alloc | apply Kd.V_drewN | apply Kd.V_drew)); exact HO135.out) (Kd.R_base ho40) hb)
            replace HO149 := am (Kd.V_elder' (by (with_reducible repeat (first | apply Kd.V_alloc | apply Kd.V_drewN | apply Kd.V_drew)); exact HO149.out) (Kd.R_base ho40) hb)
            have HO141 := am (Kd.R_lower (Kd.R_new' (Kd.R_newM (M := fun k_ => (w.heap.size ≤ k_)) ho40 (below_size (KL HB)) (fun k_ h_ => h_)) (Kd.R_lt (KR HO138))) (below_size (KL HB)))
            replace HO138 := am (Kd.R_elder' (KR HO138) (Kd.R_base ho40) hb)
            replace HB := am (below_step (KL HB) hb)
            clear hb ho40
            refine hK.out _ _ trivial (fun hHeld => ?_)
            clear hK K
            refine norm_ (a' := ?_) ?_ ?_
            rotate_left
            ·show Act.put _ (some 39) _ = _
             simp only [Act.put, List.setIfInBounds_toArray, List.set_cons_zero, List.set_cons_succ, i64_w, i32_w]
             rfl
            exact norm_ (by simp only [putAll, Act.put, List.setIfInBounds_toArray, List.set_cons_zero, List.set_cons_succ]) (hCont (v129, v137, v140) _ ⟨(by (with_reducible repeat (first | apply Kd.V_alloc | apply Kd.V_drewN | apply Kd.V_drew)); exact Kd.V_mono HO135.out (fun _ hk => ⟨hk.1.1, ⟨hk.1.2, hk.2⟩⟩)), (KR HO138), (by (with_reducible repeat (first | apply Kd.R_alloc | apply Kd.R_drewN | apply Kd.R_drew)); exact Kd.R_mono HO141.out (fun _ hk => ⟨hk.1.1, hk.2⟩)), (by (with_reducible repeat (first | apply Kd.V_alloc | apply Kd.V_drewN | apply Kd.V_drew)); exact Kd.V_mono HO149.out (fun _ hk => ⟨hk.1.1, ⟨hk.1.2, hk.2⟩⟩)), (by (with_reducible repeat (first | apply Kd.V_alloc | apply Kd.V_drewN | apply Kd.V_drew)); exact Kd.V_mono HO_0.out (fun _ hk => ⟨hk.1.1, ⟨hk.1.2, hk.2⟩⟩)), (KL HB)⟩)
           ·skip
            refine Kd.R_lit_step (Kd.int .i64) _ 3 ?hg (N := 39) ?hd (xs := ([a1] : List Int)) (inner := [.int .i64 a1]) (ok := fun _ => True) (okp := fun _ => True) ?hr ?hp (fun _ hk => hk) trivial (Below.refl _ _) (Nat.le_refl _) (by simp) ?_; (case hd => rfl); (case hg => rfl); (case hr => first | (go_simp; done) | (go_simp; rfl)); (case hp => exact (Reps.one (show Kd.M (Kd.int .i64) _ _ _ a1 [.int .i64 a1] from rfl) (Reps.none _ _)))
            intro v140 w38 ho39 hb hg_ hnew_
            clear hg_ hnew_
            (first | rw [← Ny139.out] at ho39 | (simp only [Int.reduceToNat] at ho39; rw [← Ny139.out] at ho39))
            replace HO_0 := am (Kd.V_elder' (by (with_reducible repeat (first | apply Kd.V_alloc | apply Kd.V_drewN | apply Kd.V_drew)); exact HO_0.out) (Kd.R_base ho39) hb)
            replace HO135 := am (Kd.V_elder' (by (with_reducible repeat (first | apply Kd.V_alloc | apply Kd.V_drewN | apply Kd.V_drew)); exact HO135.out) (Kd.R_base ho39) hb)
            replace HO149 := am (Kd.V_elder' (by (with_reducible repeat (first | apply Kd.V_alloc | apply Kd.V_drewN | apply Kd.V_drew)); exact HO149.out) (Kd.R_base ho39) hb)
            have HO141 := am (Kd.R_lower (Kd.R_new' (Kd.R_newM (M := fun k_ => (w.heap.size ≤ k_)) ho39 (below_size (KL HB)) (fun k_ h_ => h_)) (Kd.R_lt (KR HO130))) (below_size (KL HB)))
            replace HO130 := am (Kd.R_elder' (KR HO130) (Kd.R_base ho39) hb)
            replace HB := am (below_step (KL HB) hb)
            clear hb ho39
            refine hK.out _ _ trivial (fun hHeld => ?_)
            clear hK K
            refine norm_ (a' := ?_) ?_ ?_
            rotate_left
            ·show Act.put _ (some 39) _ = _
             simp only [Act.put, List.setIfInBounds_toArray, List.set_cons_zero, List.set_cons_succ, i64_w, i32_w]
             rfl
            refine one_ (i := 4) (N := some 37) (tr [7, 1, 3, 2]) rfl rfl (one_of HT_.out (by kernel_rfl)) (by decide) (fun K hK => ?_)
            refine Kd.R_append_rows_step (Kd.int .i64) (w0 := w) w.heap.size (by rfl) (.tmp 33) (.tmp 36) 22 3 (.int .i64 0) 8 rfl Try.underlying22 info3 rfl (by decide) (by omega) v129 y128 y131 _ _ _ (fun k_ => (w.heap.size ≤ k_) ∧ some k_ ≠ (v140 : Value).ownBlock) (fun _ => False) rfl rfl ?aO ?aR (fun _ _ h => h) (fun _ h => h.elim) ?aF ?aB ?aS ?aL ?_
            (case aR => exact KC (Kd.V_reads' HO135.out).2.2)
            (case aB => exact (KL HB))
            (case aF => exact (fun k_ hk => ⟨(Nat.le_trans (below_size (KL HB)) hk), Kd.fresh' (Kd.R_lt (KR HO141)) k_ hk⟩))
            (case aO => exact (by (with_reducible repeat (first | apply Kd.R_alloc | apply Kd.R_drewN | apply Kd.R_drew)); exact Kd.R_mono HO130.out (fun _ hk => ⟨hk.1.1, hk.2⟩)))
            (case aS => exact (below_size (KL HB)))
            (case aL => have := LMc28.out; omega)
            intro v137 w40 ho hb hg hat
            rw [← Ny136.out] at ho
            replace HO_0 := am (Kd.V_afterv (ok := (fun k_ => (P0_ k_ ∨ w.heap.size ≤ k_) ∧ some k_ ≠ (v140 : Value).ownBlock)) (by (with_reducible repeat (first | apply Kd.V_alloc | apply Kd.V_drewN | apply Kd.V_drew)); exact Kd.V_mono HO_0.out (fun _ hk => ⟨⟨hk.1.1, hk.2⟩, hk.1.2⟩)) hg hat)
            replace HO135 := am (Kd.V_afterv (ok := (fun k_ => (P0_ k_ ∨ w.heap.size ≤ k_) ∧ some k_ ≠ (v140 : Value).ownBlock)) (by (with_reducible repeat (first | apply Kd.V_alloc | apply Kd.V_drewN | apply Kd.V_drew)); exact Kd.V_mono HO135.out (fun _ hk => ⟨⟨hk.1.1, hk.2⟩, hk.1.2⟩)) hg hat)
            replace HO149 := am (Kd.V_afterv (ok := (fun k_ => (P0_ k_ ∨ w.heap.size ≤ k_) ∧ some k_ ≠ (v140 : Value).ownBlock)) (by (with_reducible repeat (first | apply Kd.V_alloc | apply Kd.V_drewN | apply Kd.V_drew)); exact Kd.V_mono HO149.out (fun _ hk => ⟨⟨hk.1.1, hk.2⟩, hk.1.2⟩)) hg hat)
            replace HO141 := am (Kd.R_after (ok := (fun k_ => (w.heap.size ≤ k_))) (by (with_reducible repeat (first | apply Kd.R_alloc | apply Kd.R_drewN | apply Kd.R_drew)); exact Kd.R_mono HO141.out (fun _ hk => ⟨hk.1.1, hk.2⟩)) hg hat)
            replace HB := am (hb)
            have HO138 := am (ho)
            clear HO130
            clear ho hb hg hat
            refine hK.out _ _ trivial (fun hHeld => ?_)
            clear hK K
            refine norm_ (a' := ?_) ?_ ?_
            rotate_left
            ·show Act.put _ (some 37) _ = _
             simp only [Act.put, List.setIfInBounds_toArray, List.set_cons_zero, List.set_cons_succ, i64_w, i32_w]
             rfl
            exact norm_ (by simp only [putAll, Act.put, List.setIfInBounds_toArray, List.set_cons_zero, List.set_cons_succ]) (hCont (v129, v137, v140) _ ⟨(by (with_reducible repeat (first | apply Kd.V_alloc | apply Kd.V_drewN | apply Kd.V_drew)); exact Kd.V_mono HO135.out (fun _ hk => ⟨hk.1.1, ⟨hk.2, hk.1.2⟩⟩)), (KR HO138), (KR HO141), (by (with_reducible repeat (first | apply Kd.V_alloc | apply Kd.V_drewN | apply Kd.V_drew)); exact Kd.V_mono HO149.out (fun _ hk => ⟨hk.1.1, ⟨hk.2, hk.1.2⟩⟩)), (by (with_reducible repeat (first | apply Kd.V_alloc | apply Kd.V_drewN | apply Kd.V_drew)); exact Kd.V_mono HO_0.out (fun _ hk => ⟨hk.1.1, ⟨hk.2, hk.1.2⟩⟩)), (KL HB)⟩)
          ·skip
           refine Kd.R_lit_step (Kd.int .i64) _ 3 ?hg (N := 39) ?hd (xs := ([a1] : List Int)) (inner := [.int .i64 a1]) (ok := fun _ => True) (okp := fun _ => True) ?hr ?hp (fun _ hk => hk) trivial (Below.refl _ _) (Nat.le_refl _) (by simp) ?_; (case hd => rfl); (case hg => rfl); (case hr => first | (go_simp; done) | (go_simp; rfl)); (case hp => exact (Reps.one (show Kd.M (Kd.int .i64) _ _ _ a1 [.int .i64 a1] from rfl) (Reps.none _ _)))
           intro v140 w36 ho37 hb hg_ hnew_
           clear hg_ hnew_
           (first | rw [← Ny139.out] at ho37 | (simp only [Int.reduceToNat] at ho37; rw [← Ny139.out] at ho37))
           replace HO_0 := am (Kd.V_elder' (by (with_reducible repeat (first | apply Kd.V_alloc | apply Kd.V_drewN | apply Kd.V_drew)); exact HO_0.out) (Kd.R_base ho37) hb)
           replace HO135 := am (Kd.V_elder' (by (with_reducible repeat (first | apply Kd.V_alloc | apply Kd.V_drewN | apply Kd.V_drew)); exact HO135.out) (Kd.R_base ho37) hb)
           replace HO149 := am (Kd.V_elder' (by (with_reducible repeat (first | apply Kd.V_alloc | apply Kd.V_drewN | apply Kd.V_drew)); exact HO149.out) (Kd.R_base ho37) hb)
           have HO141 := am (Kd.R_lower (Kd.R_newM (M := fun k_ => (w.heap.size ≤ k_)) ho37 (below_size (KL HB)) (fun k_ h_ => h_)) (below_size (KL HB)))
           replace HB := am (below_step (KL HB) hb)
           clear hb ho37
           refine hK.out _ _ trivial (fun hHeld => ?_)
           clear hK K
           refine norm_ (a' := ?_) ?_ ?_
           rotate_left
           ·show Act.put _ (some 39) _ = _
            simp only [Act.put, List.setIfInBounds_toArray, List.set_cons_zero, List.set_cons_succ, i64_w, i32_w]
            rfl
           refine one_ (i := 0) (N := some 33) (tr [4, 1, 2, 1, 3, 2]) rfl rfl (one_of HT_.out (by kernel_rfl)) (by decide) (fun K hK => ?_)
           refine Kd.R_lit_step (Kd.int .i64) _ 3 ?hg (N := 33) ?hd (xs := ([] : List Int)) (inner := []) (ok := fun _ => True) (okp := fun _ => True) ?hr ?hp (fun _ hk => hk) trivial (Below.refl _ _) (Nat.le_refl _) (by simp) ?_; (case hd => rfl); (case hg => rfl); (case hr => first | (go_simp; done) | (go_simp; rfl)); (case hp => exact (Reps.none _ _))
           intro v129 w38 ho39 hb hg_ hnew_
           clear hg_ hnew_
           (first | rw [← Ny128.out] at ho39 | (simp only [Int.reduceToNat] at ho39; rw [← Ny128.out] at ho39))
           replace HO_0 := am (Kd.V_elder' (by (with_reducible repeat (first | apply Kd.V_alloc | apply Kd.V_drewN | apply Kd.V_drew)); exact HO_0.out) (Kd.R_base ho39) hb)
           replace HO135 := am (Kd.V_elder' (by (with_reducible repeat (first | apply Kd.V_alloc | apply Kd.V_drewN | apply Kd.V_drew)); exact HO135.out) (Kd.R_base ho39) hb)
           replace HO149 := am (Kd.V_elder' (by (with_reducible repeat (first | apply Kd.V_alloc | apply Kd.V_drewN | apply Kd.V_drew)); exact HO149.out) (Kd.R_base ho39) hb)
           have HO130 := am (Kd.R_lower (Kd.R_new' (Kd.R_newM (M := fun k_ => (w.heap.size ≤ k_)) ho39 (below_size (KL HB)) (fun k_ h_ => h_)) (Kd.R_lt (KR HO141))) (below_size (KL HB)))
           replace HO141 := am (Kd.R_elder' (KR HO141) (Kd.R_base ho39) hb)
           replace HB := am (below_step (KL HB) hb)
           clear hb ho39
           refine hK.out _ _ trivial (fun hHeld => ?_)
           clear hK K
           refine norm_ (a' := ?_) ?_ ?_
           rotate_left
           ·show Act.put _ (some 33) _ = _
            simp only [Act.put, List.setIfInBounds_toArray, List.set_cons_zero, List.set_cons_succ, i64_w, i32_w]
            rfl
           refine one_ (i := 4) (N := some 37) (tr [7, 1, 3, 2]) rfl rfl (one_of HT_.out (by kernel_rfl)) (by decide) (fun K hK => ?_)
           refine Kd.R_append_rows_step (Kd.int .i64) (w0 := w) w.heap.size (by rfl) (.tmp 33) (.tmp 36) 22 3 (.int .i64 0) 8 rfl Try.underlying22 info3 rfl (by decide) (by omega) v129 y128 y131 _ _ _ (fun k_ => (w.heap.size ≤ k_) ∧ some k_ ≠ (v140 : Value).ownBlock) (fun _ => False) rfl rfl ?aO ?aR (fun _ _ h => h) (fun _ h => h.elim) ?aF ?aB ?aS ?aL ?_
           (case aR => exact KC (Kd.V_reads' HO135.out).2.2)
           (case aB => exact (KL HB))
           (case aF => exact (fun k_ hk => ⟨(Nat.le_trans (below_size (KL HB)) hk), Kd.fresh' (Kd.R_lt (KR HO141)) k_ hk⟩))
           (case aO => exact (by (with_reducible repeat (first | apply Kd.R_alloc | apply Kd.R_drewN | apply Kd.R_drew)); exact Kd.R_mono HO130.out (fun _ hk => ⟨hk.1.1, hk.2⟩)))
           (case aS => exact (below_size (KL HB)))
           (case aL => have := LMc28.out; omega)
           intro v137 w40 ho hb hg hat
           rw [← Ny136.out] at ho
           replace HO_0 := am (Kd.V_afterv (ok := (fun k_ => (P0_ k_ ∨ w.heap.size ≤ k_) ∧ some k_ ≠ (v140 : Value).ownBlock)) (by (with_reducible repeat (first | apply Kd.V_alloc | apply Kd.V_drewN | apply Kd.V_drew)); exact HO_0.out) hg hat)
           replace HO135 := am (Kd.V_afterv (ok := (fun k_ => (P0_ k_ ∨ w.heap.size ≤ k_) ∧ some k_ ≠ (v140 : Value).ownBlock)) (by (with_reducible repeat (first | apply Kd.V_alloc | apply Kd.V_drewN | apply Kd.V_drew)); exact HO135.out) hg hat)
           replace HO149 := am (Kd.V_afterv (ok := (fun k_ => (P0_ k_ ∨ w.heap.size ≤ k_) ∧ some k_ ≠ (v140 : Value).ownBlock)) (by (with_reducible repeat (first | apply Kd.V_alloc | apply Kd.V_drewN | apply Kd.V_drew)); exact HO149.out) hg hat)
           replace HO141 := am (Kd.R_after (ok := (fun k_ => (w.heap.size ≤ k_))) (by (with_reducible repeat (first | apply Kd.R_alloc | apply Kd.R_drewN | apply Kd.R_drew)); exact Kd.R_mono HO141.out (fun _ hk => ⟨hk.1.1, hk.2⟩)) hg hat)
           replace HB := am (hb)
           have HO138 := am (ho)
           clear HO130
           clear ho hb hg hat
           refine hK.out _ _ trivial (fun hHeld => ?_)
           clear hK K
           refine norm_ (a' := ?_) ?_ ?_
           rotate_left
           ·show Act.put _ (some 37) _ = _
            simp only [Act.put, List.setIfInBounds_toArray, List.set_cons_zero, List.set_cons_succ, i64_w, i32_w]
            rfl
           exact norm_ (by simp only [putAll, Act.put, List.setIfInBounds_toArray, List.set_cons_zero, List.set_cons_succ]) (hCont (v129, v137, v140) _ ⟨(by (with_reducible repeat (first | apply Kd.V_alloc | apply Kd.V_drewN | apply Kd.V_drew)); exact Kd.V_mono HO135.out (fun _ hk => ⟨hk.1.1, ⟨hk.2, hk.1.2⟩⟩)), (KR HO138), (KR HO141), (by (with_reducible repeat (first | apply Kd.V_alloc | apply Kd.V_drewN | apply Kd.V_drew)); exact Kd.V_mono HO149.out (fun _ hk => ⟨hk.1.1, ⟨hk.2, hk.1.2⟩⟩)), (by (with_reducible repeat (first | apply Kd.V_alloc | apply Kd.V_drewN | apply Kd.V_drew)); exact Kd.V_mono HO_0.out (fun _ hk => ⟨hk.1.1, ⟨hk.2, hk.1.2⟩⟩)), (KL HB)⟩)
         rintro ⟨v129, v137, v140⟩ w41 ⟨h0_, h1_, h2_, h3_, h4_, h5_⟩
         have HO135 : Aside0 (Kd.V (Kd.int .i64) 3 w41 w.heap.size (fun k_ => (P0_ k_ ∨ w.heap.size ≤ k_) ∧ some k_ ≠ (v137 : Value).ownBlock ∧ some k_ ≠ (v140 : Value).ownBlock) (.slice A0 y131.length c0) y131) := ⟨h0_⟩
         have HO138 : Aside0 (Kd.R (Kd.int .i64) 3 w41 w.heap.size (fun k_ => (w.heap.size ≤ k_) ∧ some k_ ≠ (v140 : Value).ownBlock) v137 y136) := ⟨h1_⟩
         have HO141 : Aside0 (Kd.R (Kd.int .i64) 3 w41 w.heap.size (fun k_ => (w.heap.size ≤ k_) ∧ some k_ ≠ (v137 : Value).ownBlock) v140 y139) := ⟨h2_⟩
         have HO149 : Aside0 (Kd.V (Kd.int .i64) 3 w41 w.heap.size (fun k_ => (P0_ k_ ∨ w.heap.size ≤ k_) ∧ some k_ ≠ (v137 : Value).ownBlock ∧ some k_ ≠ (v140 : Value).ownBlock) (.slice A35 y145.length c35) y145) := ⟨h3_⟩
         replace HO_0 : Aside0 (Kd.V (Kd.int .i64) 3 w41 w.heap.size (fun k_ => (P0_ k_ ∨ w.heap.size ≤ k_) ∧ some k_ ≠ (v137 : Value).ownBlock ∧ some k_ ≠ (v140 : Value).ownBlock) (.slice A0 l0.length c0) l0) := ⟨h4_⟩
         replace HB : Aside0 (Below w.heap.size w w41) := ⟨h5_⟩
         clear h0_ h1_ h2_ h3_ h4_ h5_
         have hHeld := trivial
         obtain ⟨Ao43, co43, eo43⟩ := Kd.R_slice HO141.out
         (first | subst eo43 | (injection eo43 with f1_ f2_ f3_; have f4_ := f1_.symm; have f5_ := f3_.symm; clear f1_ f2_ f3_; subst f4_; subst f5_))
         refine norm_ (a' := ?_) ?_ ?_
         rotate_left
         ·simp only [putAll, Act.put, List.setIfInBounds_toArray, List.set_cons_zero, List.set_cons_succ]
          rfl
         refine one_ (i := 7) (N := some 40) (tf 11 2) rfl rfl (one_of HT_.out (by kernel_rfl)) (by decide) (fun K hK => ?_)
         refine Kd.R_append_rows_step (Kd.int .i64) (w0 := w) w.heap.size (by rfl) (.tmp 37) (.tmp 39) 22 3 (.int .i64 0) 8 rfl Try.underlying22 info3 rfl (by decide) (by omega) v137 y136 y139 _ _ _ (fun k_ => (w.heap.size ≤ k_) ∧ some k_ ≠ (.slice Ao43 y139.length co43 : Value).ownBlock) (fun _ => False) rfl rfl ?aO ?aR (fun _ _ h => h) (fun _ h => h.elim) ?aF ?aB ?aS ?aL ?_
         (case aR => exact KC (Kd.R_reads' HO141.out).2.2)
         (case aB => exact (KL HB))
         (case aF => exact (fun k_ hk => ⟨(Nat.le_trans (below_size (KL HB)) hk), Kd.fresh' (Kd.R_lt (KR HO141)) k_ hk⟩))
         (case aO => exact (KR HO138))
         (case aS => exact (below_size (KL HB)))
         (case aL => have := LMc29.out; omega)
         intro v143 w42 ho hb hg hat
         rw [← Ny142.out] at ho
         replace HO_0 := am (Kd.V_afterv (ok := (fun k_ => (P0_ k_ ∨ w.heap.size ≤ k_) ∧ some k_ ≠ (.slice Ao43 y139.length co43 : Value).ownBlock)) (by (with_reducible repeat (first | apply Kd.V_alloc | apply Kd.V_drewN | apply Kd.V_drew)); exact Kd.V_mono HO_0.out (fun _ hk => ⟨⟨hk.1, hk.2.2⟩, hk.2.1⟩)) hg hat)
         replace HO135 := am (Kd.V_afterv (ok := (fun k_ => (P0_ k_ ∨ w.heap.size ≤ k_) ∧ some k_ ≠ (.slice Ao43 y139.length co43 : Value).ownBlock)) (by (with_reducible repeat (first | apply Kd.V_alloc | apply Kd.V_drewN | apply Kd.V_drew)); exact Kd.V_mono HO135.out (fun _ hk => ⟨⟨hk.1, hk.2.2⟩, hk.2.1⟩)) hg hat)
         replace HO149 := am (Kd.V_afterv (ok := (fun k_ => (P0_ k_ ∨ w.heap.size ≤ k_) ∧ some k_ ≠ (.slice Ao43 y139.length co43 : Value).ownBlock)) (by (with_reducible repeat (first | apply Kd.V_alloc | apply Kd.V_drewN | apply Kd.V_drew)); exact Kd.V_mono HO149.out (fun _ hk => ⟨⟨hk.1, hk.2.2⟩, hk.2.1⟩)) hg hat)
         replace HO141 := am (Kd.R_after (ok := (fun k_ => (w.heap.size ≤ k_))) (KR HO141) hg hat)
         replace HB := am (hb)
         have HO144 := am (ho)
         clear HO138
         clear ho hb hg hat
         refine hK.out _ _ trivial (fun hHeld => ?_)
         clear hK K
         refine norm_ (a' := ?_) ?_ ?_
         rotate_left
         ·show Act.put _ (some 40) _ = _
          simp only [Act.put, List.setIfInBounds_toArray, List.set_cons_zero, List.set_cons_succ, i64_w, i32_w]
          rfl
         refine one_ (i := 11) (N := some 44) (tf 12 1) rfl rfl (one_of HT_.out (by kernel_rfl)) (by decide) (fun K hK => ?_)
         refine Kd.R_append_rows_step (Kd.int .i64) (w0 := w) w.heap.size (by rfl) (.tmp 40) (.tmp 43) 22 3 (.int .i64 0) 8 rfl Try.underlying22 info3 rfl (by decide) (by omega) v143 y142 y145 _ _ _ (fun k_ => (w.heap.size ≤ k_) ∧ some k_ ≠ (.slice Ao43 y139.length co43 : Value).ownBlock) (fun _ => False) rfl rfl ?aO ?aR (fun _ _ h => h) (fun _ h => h.elim) ?aF ?aB ?aS ?aL ?_
         (case aR => exact KC (Kd.V_reads' HO149.out).2.2)
         (case aB => exact (KL HB))
         (case aF => exact (fun k_ hk => ⟨(Nat.le_trans (below_size (KL HB)) hk), Kd.fresh' (Kd.R_lt (KR HO141)) k_ hk⟩))
         (case aO => exact (KR HO144))
         (case aS => exact (below_size (KL HB)))
         (case aL => have := LMc32.out; omega)
         intro v151 w44 ho hb hg hat
         rw [← Ny150.out] at ho
         replace HO_0 := am (Kd.V_afterv (ok := (fun k_ => (P0_ k_ ∨ w.heap.size ≤ k_) ∧ some k_ ≠ (.slice Ao43 y139.length co43 : Value).ownBlock)) (by (with_reducible repeat (first | apply Kd.V_alloc | apply Kd.V_drewN | apply Kd.V_drew)); exact HO_0.out) hg hat)
         replace HO135 := am (Kd.V_afterv (ok := (fun k_ => (P0_ k_ ∨ w.heap.size ≤ k_) ∧ some k_ ≠ (.slice Ao43 y139.length co43 : Value).ownBlock)) (by (with_reducible repeat (first | apply Kd.V_alloc | apply Kd.V_drewN | apply Kd.V_drew)); exact HO135.out) hg hat)
         replace HO149 := am (Kd.V_afterv (ok := (fun k_ => (P0_ k_ ∨ w.heap.size ≤ k_) ∧ some k_ ≠ (.slice Ao43 y139.length co43 : Value).ownBlock)) (by (with_reducible repeat (first | apply Kd.V_alloc | apply Kd.V_drewN | apply Kd.V_drew)); exact HO149.out) hg hat)
         replace HO141 := am (Kd.R_after (ok := (fun k_ => (w.heap.size ≤ k_))) (KR HO141) hg hat)
         replace HB := am (hb)
         have HO152 := am (ho)
         clear HO144
         clear ho hb hg hat
         refine hK.out _ _ trivial (fun hHeld => ?_)
         clear hK K
         refine norm_ (a' := ?_) ?_ ?_
         rotate_left
         ·show Act.put _ (some 44) _ = _
          simp only [Act.put, List.setIfInBounds_toArray, List.set_cons_zero, List.set_cons_succ, i64_w, i32_w]
          rfl
         refine pv HT_ 12 4 (tf 13 0) ?_
         refine done_ (done_of HT_.out (by kernel_rfl)) ?_
         try go_wp2
         go_ret
         exact ⟨_, ER, Kd.V_mono (Kd.R_V (by (with_reducible repeat (first | apply Kd.R_alloc | apply Kd.R_drewN | apply Kd.R_drew)); exact Kd.R_mono HO152.out (fun _ hk => hk.1))) (fun k_ hk => by first | exact ⟨(.inr (hk.1)), hk.2⟩ | exact (.inr (hk))), KL HB⟩
        ·rw [if_neg c32] at H
         exact absurd H (by simp)
       ·rw [if_neg c29] at H
        exact absurd H (by simp)
      ·rw [if_neg c28] at H
       exact absurd H (by simp)
     ·rw [if_neg c27] at H
      exact absurd H (by simp)
    ·rw [if_neg c26] at H
     exact absurd H (by simp)
mutual
def spec_l7See.j0 : Nat → Int → Int → List Int → Int → Option (Int × List Int × Int)
 | 0, _, _, _, _ => none
 | k + 1, x1, x102000, x102001, x118000 => (some (([] : List Int) : List Int)).bind fun y118 => (if y118.length + x102001.length < 17592186044416 then ((spec_l3Num.f k (y118 ++ x102001) x1).bind fun t124 => (spec_l7See.l0 k t124 0 x118000 ([] : List Int))) else (none))
def spec_l7See.l0 : Nat → List Int → Int → Int → List Int → Option (Int × List Int × Int)
 | 0, _, _, _, _ => none
 | k + 1, x7, x8, x118000, x118001 => if x8 < (x7.length : Int) then (if 0 ≤ x8 then (if (rd x7 x8) > (wrap64 (x118000 - 16)) then (if x118001.length < 17592186044416 then (spec_l7See.l0 k x7 (wrap64 (x8 + 1)) x118000 (x118001 ++ [rd x7 x8])) else (none)) else (spec_l7See.l0 k x7 (wrap64 (x8 + 1)) x118000 x118001)) else (none)) else (some (x118000, x118001, 0))
end
def spec_l7See.f (k : Nat) (a0_0 : Int) (l0_1 : List Int) (a1 : Int) : Option (Int × List Int × Int) := (spec_l1In.f a1 1 1000000).bind fun t103 => (if t103 = true then (if a1 ≤ (wrap64 (a0_0 - 16)) then ((spec_l7Copy.f a0_0 l0_1).bind fun bt104 => (some (bt104.1, bt104.2, 2))) else ((spec_l7Had.f k a0_0 l0_1 a1).bind fun t108 => (if t108 = true then ((spec_l7Copy.f a0_0 l0_1).bind fun bt109 => (some (bt109.1, bt109.2, 3))) else (if a1 > a0_0 then (spec_l7See.j0 k a1 a0_0 l0_1 a1) else (spec_l7See.j0 k a1 a0_0 l0_1 a0_0))))) else ((spec_l7Copy.f a0_0 l0_1).bind fun bt113 => (some (bt113.1, bt113.2, 1))))
def spec_l7See.T14 : Bool × List (List Nat × List Nat) := (true, [([], []), ([], []), ([0, 1], [0, 1]), ([2], [2]), ([], []), ([4], [4]), ([5], [5]), ([3, 6], [3, 6])])
def spec_l7See.B14 : List Nat := [0, 0, 3, 7, 0, 16, 48, 127]
theorem spec_l7See.tab14 : rtab .any (opsOf Try.f43 14) = spec_l7See.T14 := by kernel_rfl
theorem spec_l7See.bits14 : waitsOk spec_l7See.T14.2 spec_l7See.B14 = true := by kernel_rfl
def spec_l7See.T15 : Bool × List (List Nat × List Nat) := (true, [([], []), ([0], [0]), ([], []), ([], []), ([2, 3], [2, 3]), ([4], [4]), ([5], [5]), ([1, 6], [1, 6]), ([0, 1, 2, 3, 4, 5, 6, 7], []), ([8, 7, 7, 0, 1, 2, 3, 4, 5, 6, 7], [7, 8])])
def spec_l7See.B15 : List Nat := [0, 1, 0, 0, 12, 28, 60, 127, 255, 511]
theorem spec_l7See.tab15 : rtab .any (opsOf Try.f43 15) = spec_l7See.T15 := by kernel_rfl
theorem spec_l7See.bits15 : waitsOk spec_l7See.T15.2 spec_l7See.B15 = true := by kernel_rfl
set_option maxHeartbeats 8000000 in
set_option maxRecDepth 100000 in
theorem spec_l7See.calls (k : Nat) (a0_0 : Int) (A0_1 : Option Addr) (c0_1 : Nat) (l0_1 : List Int) (a1 : Int) (r1 : Int) (r2 : List Int) (r3 : Int) (w : World) (hr0_1 : Kd.C (Kd.int .i64) w A0_1 l0_1.length l0_1) (hc0_1 : l0_1.length ≤ c0_1) (h : spec_l7See.f k a0_0 l0_1 a1 = some (r1, r2, r3)) :
  Calls Try.prog 43 #[.agg #[.int .i64 a0_0, .slice A0_1 l0_1.length c0_1], .int .i64 a1] w fun e w' => ∃ v1_ : Value, e = .returned (.tuple #[.agg #[.int .i64 r1, v1_], .int .i64 r3]) ∧ Kd.R (Kd.int .i64) 3 w' w.heap.size (fun _ => True) v1_ r2 ∧ Below w.heap.size w w' := by
 have hu31 := Try.underlying31
 have HR0_1 := Aside0.mk hr0_1
 have HC0_1 := Aside0.mk hc0_1
 clear hr0_1 hc0_1
 have HB := am (Below.refl w.heap.size w)
 have H : ((spec_l1In.f a1 1 1000000).bind fun t103 => (if t103 = true then (if a1 ≤ (wrap64 (a0_0 - 16)) then ((spec_l7Copy.f a0_0 l0_1).bind fun bt104 => (some (bt104.1, bt104.2, 2))) else ((spec_l7Had.f k a0_0 l0_1 a1).bind fun t108 => (if t108 = true then ((spec_l7Copy.f a0_0 l0_1).bind fun bt109 => (some (bt109.1, bt109.2, 3))) else (if a1 > a0_0 then (spec_l7See.j0 k a1 a0_0 l0_1 a1) else (spec_l7See.j0 k a1 a0_0 l0_1 a0_0))))) else ((spec_l7Copy.f a0_0 l0_1).bind fun bt113 => (some (bt113.1, bt113.2, 1))))) = some (r1, r2, r3) := h
 clear h
 replace H := Option.bind_eq_some_iff.mp H
 obtain ⟨t103, A30, H⟩ := H
 replace H : (if t103 = true then (if a1 ≤ (wrap64 (a0_0 - 16)) then ((spec_l7Copy.f a0_0 l0_1).bind fun bt104 => (some (bt104.1, bt104.2, 2))) else ((spec_l7Had.f k a0_0 l0_1 a1).bind fun t108 => (if t108 = true then ((spec_l7Copy.f a0_0 l0_1).bind fun bt109 => (some (bt109.1, bt109.2, 3))) else (if a1 > a0_0 then (spec_l7See.j0 k a1 a0_0 l0_1 a1) else (spec_l7See.j0 k a1 a0_0 l0_1 a0_0))))) else ((spec_l7Copy.f a0_0 l0_1).bind fun bt113 => (some (bt113.1, bt113.2, 1)))) = some (r1, r2, r3) := H
 have A3 := Aside0.mk A30
 clear A30
 by_cases c4 : t103 = true
 ·subst c4
  have H1 : (if a1 ≤ (wrap64 (a0_0 - 16)) then ((spec_l7Copy.f a0_0 l0_1).bind fun bt104 => (some (bt104.1, bt104.2, 2))) else ((spec_l7Had.f k a0_0 l0_1 a1).bind fun t108 => (if t108 = true then ((spec_l7Copy.f a0_0 l0_1).bind fun bt109 => (some (bt109.1, bt109.2, 3))) else (if a1 > a0_0 then (spec_l7See.j0 k a1 a0_0 l0_1 a1) else (spec_l7See.j0 k a1 a0_0 l0_1 a0_0))))) = some (r1, r2, r3) := by rw [if_pos rfl] at H; exact H
  clear H
  have H := H1
  clear H1
  by_cases c5 : a1 ≤ (wrap64 (a0_0 - 16))
  ·rw [if_pos c5] at H
   have c5b0 : decide (a1 ≤ (wrap64 (a0_0 - 16))) = true := decide_eq_true c5
   clear c5
   replace H := Option.bind_eq_some_iff.mp H
   obtain ⟨⟨t104, t105⟩, A60, H⟩ := H
   replace H : (some (t104, t105, 2)) = some (r1, r2, r3) := H
   have A6 := Aside0.mk A60
   clear A60
   simp only [Option.some.injEq, Prod.mk.injEq] at H
   obtain ⟨rfl, rfl, rfl⟩ := H
   go_enter Try.func43, Try.ntmps43
   go_wp2_with (first | ((with_reducible refine gate_dst (N := 2) rfl ?_); refine box_event rfl (N := 2) rfl (cs := #[.int .i64 a0_0, .slice A0_1 l0_1.length c0_1]) (t := 31) BX ?_; intro gb101 hg w7 hbox hb; have BK101 := am (hbox); have GW101 := am (GH HB hg); have GE101 := GW101; replace HB := am (below_step (KL HB) hb); clear hb hbox hg) | ((with_reducible refine gate_dst (N := 4) rfl ?_); refine box_event rfl (N := 4) rfl (cs := #[.int .i64 0, .slice none 0 0]) (t := 31) BX ?_; intro gb102 hg w8 hbox hb; have BK102 := am (hbox); have GW102 := am (GH1 HB GE101.out hg); have GE102 := GW102; replace HB := am (below_step (K1 HB GE101.out) hb); have NB101_102 := am (NL BK101 hg); have NB102_101 := am (NG BK101 hg); replace BK101 := am (BB BK101 hb); clear hb hbox hg) | ((with_reducible refine gate_callee (f := 59) rfl ?_); refine goesL_ (some 11) rfl rfl Try.func59 (by kernel_rfl) rfl #[.int .i64 a1, .int .i64 1, .int .i64 1000000] rfl MT ?_; (with_reducible refine (spec_l1In.calls a1 1 1000000 true _ A3.out).mono ?_); rintro e w' ⟨rfl, ⟨nd, rfl⟩⟩; refine ⟨_, rfl, ?_⟩; (try (rw [drewN_self w8]; generalize hq_ : World.drewN w8 _ = w8; replace BK101 : Aside0 (w8.heap[gb101]? = some (.cells #[.int .i64 a0_0, .slice A0_1 l0_1.length c0_1] 31 (0, 0))) := ⟨by rw [← hq_]; exact (KB BK101)⟩; replace BK102 : Aside0 (w8.heap[gb102]? = some (.cells #[.int .i64 0, .slice none 0 0] 31 (0, 0))) := ⟨by rw [← hq_]; exact (KB BK102)⟩; replace HB : Aside0 (Below w.heap.size w w8) := ⟨by rw [← hq_]; exact (K2 HB GE101.out GE102.out)⟩; clear hq_)); have hnb9 := NB101_102.out; have hnc9 := NB102_101.out; obtain ⟨hcz10_0, hcz10_1, hfz10_0⟩ := y2 w8 BK101.out) | ((with_reducible refine gate_callee (f := 89) rfl ?_); refine goesL_ (some 22) rfl rfl Try.func89 (by kernel_rfl) rfl #[.agg #[.int .i64 a0_0, .slice A0_1 l0_1.length c0_1]] rfl MT ?_; (with_reducible refine (spec_l7Copy.calls a0_0 _ _ l0_1 t104 t105 _ ?side1 ?side2 A6.out).mono ?_); (case side1 => exact KD HR0_1 HB); (case side2 => exact HC0_1.out); rintro e w11 ⟨v106, rfl, ho0, hb⟩; refine ⟨_, rfl, ?_⟩; have HO107 := am (Kd.R_lower ho0 (below_size (K2 HB GE101.out GE102.out))); replace BK101 := am (BB BK101 hb); replace BK102 := am (BB BK102 hb); replace HB := am (below_step (K2 HB GE101.out GE102.out) hb); (try clear hb); (try clear ho0); obtain ⟨hcz12_0, hcz12_1, hfz12_0⟩ := y2 w11 BK102.out; obtain ⟨Ao13, co13, eo13⟩ := Kd.R_slice HO107.out; subst eo13))
   refine bodyPost_ret (results_ct rfl _ _ gb102 31 #[.int .i64 t104, .slice Ao13 t105.length co13] (0, 0) _ rfl (by (with_reducible repeat (first | refine blk_drewN ?_ _ | refine blk_drew ?_ | refine blk_alloc ?_ _)); refine blk_put (cs := #[.int .i64 t104, .slice none 0 0]) ?_ 1 _ rfl; (with_reducible repeat (first | refine blk_drewN ?_ _ | refine blk_drew ?_ | refine blk_alloc ?_ _)); refine blk_put (cs := #[.int .i64 0, .slice none 0 0]) ?_ 0 _ rfl; (with_reducible repeat (first | refine blk_drewN ?_ _ | refine blk_drew ?_ | refine blk_alloc ?_ _)); exact BK102.out) Try.underlying31 rfl (by kernel_rfl)) rfl ?_
   exact ⟨_, ER, by (with_reducible repeat (first | apply Kd.R_alloc | apply Kd.R_drewN | apply Kd.R_drew)); exact Kd.R_mono (Kd.R_far (p := ⟨gb102, 1, none⟩) (Kd.R_far (p := ⟨gb102, 0, none⟩) (Kd.R_types HO107.out BK102.out (by decide)) (fun _ hk => hk.2) (.int .i64 t104)) (fun _ hk => hk.2) (.slice Ao13 t105.length co13)) (fun _ hk => trivial), K2 HB GE101.out GE102.out⟩
  ·rw [if_neg c5] at H
   have c5b0 : decide (a1 ≤ (wrap64 (a0_0 - 16))) = false := decide_eq_false c5
   clear c5
   replace H := Option.bind_eq_some_iff.mp H
   obtain ⟨t108, A140, H⟩ := H
   replace H : (if t108 = true then ((spec_l7Copy.f a0_0 l0_1).bind fun bt109 => (some (bt109.1, bt109.2, 3))) else (if a1 > a0_0 then (spec_l7See.j0 k a1 a0_0 l0_1 a1) else (spec_l7See.j0 k a1 a0_0 l0_1 a0_0))) = some (r1, r2, r3) := H
   have A14 := Aside0.mk A140
   clear A140
   by_cases c15 : t108 = true
   ·subst c15
    have H1 : ((spec_l7Copy.f a0_0 l0_1).bind fun bt109 => (some (bt109.1, bt109.2, 3))) = some (r1, r2, r3) := by rw [if_pos rfl] at H; exact H
    clear H
    have H := H1
    clear H1
    replace H := Option.bind_eq_some_iff.mp H
    obtain ⟨⟨t109, t110⟩, A160, H⟩ := H
    replace H : (some (t109, t110, 3)) = some (r1, r2, r3) := H
    have A16 := Aside0.mk A160
    clear A160
    simp only [Option.some.injEq, Prod.mk.injEq] at H
    obtain ⟨rfl, rfl, rfl⟩ := H
    go_enter Try.func43, Try.ntmps43
    go_wp2_with (first | ((with_reducible refine gate_dst (N := 2) rfl ?_); refine box_event rfl (N := 2) rfl (cs := #[.int .i64 a0_0, .slice A0_1 l0_1.length c0_1]) (t := 31) BX ?_; intro gb101 hg w17 hbox hb; have BK101 := am (hbox); have GW101 := am (GH HB hg); have GE101 := GW101; replace HB := am (below_step (KL HB) hb); clear hb hbox hg) | ((with_reducible refine gate_dst (N := 4) rfl ?_); refine box_event rfl (N := 4) rfl (cs := #[.int .i64 0, .slice none 0 0]) (t := 31) BX ?_; intro gb102 hg w18 hbox hb; have BK102 := am (hbox); have GW102 := am (GH1 HB GE101.out hg); have GE102 := GW102; replace HB := am (below_step (K1 HB GE101.out) hb); have NB101_102 := am (NL BK101 hg); have NB102_101 := am (NG BK101 hg); replace BK101 := am (BB BK101 hb); clear hb hbox hg) | ((with_reducible refine gate_callee (f := 59) rfl ?_); refine goesL_ (some 11) rfl rfl Try.func59 (by kernel_rfl) rfl #[.int .i64 a1, .int .i64 1, .int .i64 1000000] rfl MT ?_; (with_reducible refine (spec_l1In.calls a1 1 1000000 true _ A3.out).mono ?_); rintro e w' ⟨rfl, ⟨nd, rfl⟩⟩; refine ⟨_, rfl, ?_⟩; (try (rw [drewN_self w18]; generalize hq_ : World.drewN w18 _ = w18; replace BK101 : Aside0 (w18.heap[gb101]? = some (.cells #[.int .i64 a0_0, .slice A0_1 l0_1.length c0_1] 31 (0, 0))) := ⟨by rw [← hq_]; exact (KB BK101)⟩; replace BK102 : Aside0 (w18.heap[gb102]? = some (.cells #[.int .i64 0, .slice none 0 0] 31 (0, 0))) := ⟨by rw [← hq_]; exact (KB BK102)⟩; replace HB : Aside0 (Below w.heap.size w w18) := ⟨by rw [← hq_]; exact (K2 HB GE101.out GE102.out)⟩; clear hq_)); have hnb19 := NB101_102.out; have hnc19 := NB102_101.out; obtain ⟨hcz20_0, hcz20_1, hfz20_0⟩ := y2 w18 BK101.out) | ((with_reducible refine gate_callee (f := 90) rfl ?_); refine goesL_ (some 26) rfl rfl Try.func90 (by kernel_rfl) rfl #[.agg #[.int .i64 a0_0, .slice A0_1 l0_1.length c0_1], .int .i64 a1] rfl MT ?_; (with_reducible refine (spec_l7Had.calls k a0_0 _ _ l0_1 a1 true _ ?side1 ?side2 A14.out).mono ?_); (case side1 => exact KD HR0_1 HB); (case side2 => exact HC0_1.out); rintro e w21 ⟨rfl, hb⟩; refine ⟨_, rfl, ?_⟩; replace BK101 := am (BB BK101 hb); replace BK102 := am (BB BK102 hb); replace HB := am (below_step (K2 HB GE101.out GE102.out) hb); (try clear hb); obtain ⟨hcz22_0, hcz22_1, hfz22_0⟩ := y2 w21 BK101.out) | ((with_reducible refine gate_callee (f := 89) rfl ?_); refine goesL_ (some 28) rfl rfl Try.func89 (by kernel_rfl) rfl #[.agg #[.int .i64 a0_0, .slice A0_1 l0_1.length c0_1]] rfl MT ?_; (with_reducible refine (spec_l7Copy.calls a0_0 _ _ l0_1 t109 t110 _ ?side1 ?side2 A16.out).mono ?_); (case side1 => exact KD HR0_1 HB); (case side2 => exact HC0_1.out); rintro e w23 ⟨v111, rfl, ho0, hb⟩; refine ⟨_, rfl, ?_⟩; have HO112 := am (Kd.R_lower ho0 (below_size (K2 HB GE101.out GE102.out))); replace BK101 := am (BB BK101 hb); replace BK102 := am (BB BK102 hb); replace HB := am (below_step (K2 HB GE101.out GE102.out) hb); (try clear hb); (try clear ho0); obtain ⟨hcz24_0, hcz24_1, hfz24_0⟩ := y2 w23 BK102.out; obtain ⟨Ao25, co25, eo25⟩ := Kd.R_slice HO112.out; subst eo25))
    refine bodyPost_ret (results_ct rfl _ _ gb102 31 #[.int .i64 t109, .slice Ao25 t110.length co25] (0, 0) _ rfl (by (with_reducible repeat (first | refine blk_drewN ?_ _ | refine blk_drew ?_ | refine blk_alloc ?_ _)); refine blk_put (cs := #[.int .i64 t109, .slice none 0 0]) ?_ 1 _ rfl; (with_reducible repeat (first | refine blk_drewN ?_ _ | refine blk_drew ?_ | refine blk_alloc ?_ _)); refine blk_put (cs := #[.int .i64 0, .slice none 0 0]) ?_ 0 _ rfl; (with_reducible repeat (first | refine blk_drewN ?_ _ | refine blk_drew ?_ | refine blk_alloc ?_ _)); exact BK102.out) Try.underlying31 rfl (by kernel_rfl)) rfl ?_
    exact ⟨_, ER, by (with_reducible repeat (first | apply Kd.R_alloc | apply Kd.R_drewN | apply Kd.R_drew)); exact Kd.R_mono (Kd.R_far (p := ⟨gb102, 1, none⟩) (Kd.R_far (p := ⟨gb102, 0, none⟩) (Kd.R_types HO112.out BK102.out (by decide)) (fun _ hk => hk.2) (.int .i64 t109)) (fun _ hk => hk.2) (.slice Ao25 t110.length co25)) (fun _ hk => trivial), K2 HB GE101.out GE102.out⟩
   ·replace c15 := Bool.eq_false_iff.mpr c15
    subst c15
    have H1 : (if a1 > a0_0 then (spec_l7See.j0 k a1 a0_0 l0_1 a1) else (spec_l7See.j0 k a1 a0_0 l0_1 a0_0)) = some (r1, r2, r3) := by rw [if_neg (show ¬ (false = true) by decide)] at H; exact H
    clear H
    have H := H1
    clear H1
    have HC26 := Aside0.mk H
    clear H
    go_enter Try.func43, Try.ntmps43
    go_upto_if 35 with (first | ((with_reducible refine gate_dst (N := 2) rfl ?_); refine box_event rfl (N := 2) rfl (cs := #[.int .i64 a0_0, .slice A0_1 l0_1.length c0_1]) (t := 31) BX ?_; intro gb101 hg w27 hbox hb; have BK101 := am (hbox); have GW101 := am (GH HB hg); have GE101 := GW101; replace HB := am (below_step (KL HB) hb); clear hb hbox hg) | ((with_reducible refine gate_dst (N := 4) rfl ?_); refine box_event rfl (N := 4) rfl (cs := #[.int .i64 0, .slice none 0 0]) (t := 31) BX ?_; intro gb102 hg w28 hbox hb; have BK102 := am (hbox); have GW102 := am (GH1 HB GE101.out hg); have GE102 := GW102; replace HB := am (below_step (K1 HB GE101.out) hb); have NB101_102 := am (NL BK101 hg); have NB102_101 := am (NG BK101 hg); replace BK101 := am (BB BK101 hb); clear hb hbox hg) | ((with_reducible refine gate_callee (f := 59) rfl ?_); refine goesL_ (some 11) rfl rfl Try.func59 (by kernel_rfl) rfl #[.int .i64 a1, .int .i64 1, .int .i64 1000000] rfl MT ?_; (with_reducible refine (spec_l1In.calls a1 1 1000000 true _ A3.out).mono ?_); rintro e w' ⟨rfl, ⟨nd, rfl⟩⟩; refine ⟨_, rfl, ?_⟩; (try (rw [drewN_self w28]; generalize hq_ : World.drewN w28 _ = w28; replace BK101 : Aside0 (w28.heap[gb101]? = some (.cells #[.int .i64 a0_0, .slice A0_1 l0_1.length c0_1] 31 (0, 0))) := ⟨by rw [← hq_]; exact (KB BK101)⟩; replace BK102 : Aside0 (w28.heap[gb102]? = some (.cells #[.int .i64 0, .slice none 0 0] 31 (0, 0))) := ⟨by rw [← hq_]; exact (KB BK102)⟩; replace HB : Aside0 (Below w.heap.size w w28) := ⟨by rw [← hq_]; exact (K2 HB GE101.out GE102.out)⟩; clear hq_)); have hnb29 := NB101_102.out; have hnc29 := NB102_101.out; obtain ⟨hcz30_0, hcz30_1, hfz30_0⟩ := y2 w28 BK101.out) | ((with_reducible refine gate_callee (f := 90) rfl ?_); refine goesL_ (some 26) rfl rfl Try.func90 (by kernel_rfl) rfl #[.agg #[.int .i64 a0_0, .slice A0_1 l0_1.length c0_1], .int .i64 a1] rfl MT ?_; (with_reducible refine (spec_l7Had.calls k a0_0 _ _ l0_1 a1 false _ ?side1 ?side2 A14.out).mono ?_); (case side1 => exact KD HR0_1 HB); (case side2 => exact HC0_1.out); rintro e w31 ⟨rfl, hb⟩; refine ⟨_, rfl, ?_⟩; replace BK101 := am (BB BK101 hb); replace BK102 := am (BB BK102 hb); replace HB := am (below_step (K2 HB GE101.out GE102.out) hb); (try clear hb); obtain ⟨hcz32_0, hcz32_1, hfz32_0⟩ := y2 w31 BK101.out) | ((with_reducible refine gate_dst (N := 6) rfl ?_); refine box_event rfl (N := 6) rfl (cs := #[.int .i64 0, .slice none 0 0]) (t := 31) BX ?_; intro gb117 hg w33 hbox hb; have BK117 := am (hbox); have GW117 := am (GH2 HB GE101.out GE102.out hg); have GE117 := GW117; replace HB := am (below_step (K2 HB GE101.out GE102.out) hb); have NB101_117 := am (NL BK101 hg); have NB117_101 := am (NG BK101 hg); replace BK101 := am (BB BK101 hb); have NB102_117 := am (NL BK102 hg); have NB117_102 := am (NG BK102 hg); replace BK102 := am (BB BK102 hb); clear hb hbox hg; have hnb34 := NB117_101.out; have hnc34 := NB101_117.out; have hnb35 := NB117_102.out; have hnc35 := NB102_117.out; obtain ⟨hcz36_0, hcz36_1, hfz36_0⟩ := y2 w33 BK117.out; obtain ⟨hcz37_0, hcz37_1, hfz37_0⟩ := y2 w33 BK101.out))
    (try simp only [Act.put, List.setIfInBounds_toArray, List.set_cons_zero, List.set_cons_succ])
    go_cut [] (fun wc => ∃ (kq : Nat) (x118000_25 : Int), Aside0 (spec_l7See.j0 kq a1 a0_0 l0_1 x118000_25 = some (r1, r2, r3)) ∧ Aside0 (kq ≤ k) ∧ Aside0 (wc.heap[gb101]? = some (.cells #[.int .i64 a0_0, (.slice A0_1 l0_1.length c0_1)] 31 (0, 0))) ∧ Aside0 (wc.heap[gb102]? = some (.cells #[.int .i64 0, (.slice none 0 0)] 31 (0, 0))) ∧ Aside0 (wc.heap[gb117]? = some (.cells #[.int .i64 x118000_25, (.slice none 0 0)] 31 (0, 0))) ∧ Aside0 (Below w.heap.size w wc))
    case first =>
     have H := HC26.out
     clear HC26
     by_cases c38 : a1 > a0_0
     ·rw [if_pos c38] at H
      have c38b0 : decide (a0_0 < a1) = true := decide_eq_true c38
      clear c38
      (first | rw [c38b0] | (simp only [i64_w, i32_w]; rw [c38b0]) | skip)
      have H' := Aside0.mk H
      clear H
      have hnb39 := NB117_101.out
      have hnc39 := NB101_117.out
      have hnb40 := NB117_102.out
      have hnc40 := NB102_117.out
      obtain ⟨hcz41_0, hcz41_1, hfz41_0⟩ := y2 w33 BK117.out
      go_wp2
      go_meet
      case rel => exact ⟨_, (a1), H', ⟨by first | omega | exact Nat.le_refl _⟩, ⟨by (with_reducible repeat (first | refine blk_drewN ?_ _ | refine blk_drew ?_ | refine blk_alloc ?_ _)); refine blk_far ?_ NB101_117.out _; (with_reducible repeat (first | refine blk_drewN ?_ _ | refine blk_drew ?_ | refine blk_alloc ?_ _)); refine blk_far ?_ NB101_117.out _; (with_reducible repeat (first | refine blk_drewN ?_ _ | refine blk_drew ?_ | refine blk_alloc ?_ _)); refine blk_far ?_ NB101_117.out _; (with_reducible repeat (first | refine blk_drewN ?_ _ | refine blk_drew ?_ | refine blk_alloc ?_ _)); exact BK101.out⟩, ⟨by (with_reducible repeat (first | refine blk_drewN ?_ _ | refine blk_drew ?_ | refine blk_alloc ?_ _)); refine blk_far ?_ NB102_117.out _; (with_reducible repeat (first | refine blk_drewN ?_ _ | refine blk_drew ?_ | refine blk_alloc ?_ _)); refine blk_far ?_ NB102_117.out _; (with_reducible repeat (first | refine blk_drewN ?_ _ | refine blk_drew ?_ | refine blk_alloc ?_ _)); refine blk_far ?_ NB102_117.out _; (with_reducible repeat (first | refine blk_drewN ?_ _ | refine blk_drew ?_ | refine blk_alloc ?_ _)); exact BK102.out⟩, ⟨by (with_reducible repeat (first | refine blk_drewN ?_ _ | refine blk_drew ?_ | refine blk_alloc ?_ _)); refine blk_put (cs := #[.int .i64 a0_0, .slice none 0 0]) ?_ 0 _ rfl; (with_reducible repeat (first | refine blk_drewN ?_ _ | refine blk_drew ?_ | refine blk_alloc ?_ _)); refine blk_put (cs := #[.int .i64 a0_0, .slice none 0 0]) ?_ 1 _ rfl; (with_reducible repeat (first | refine blk_drewN ?_ _ | refine blk_drew ?_ | refine blk_alloc ?_ _)); refine blk_put (cs := #[.int .i64 0, .slice none 0 0]) ?_ 0 _ rfl; (with_reducible repeat (first | refine blk_drewN ?_ _ | refine blk_drew ?_ | refine blk_alloc ?_ _)); exact BK117.out⟩, ⟨K3 HB GE101.out GE102.out GE117.out⟩⟩
     ·rw [if_neg c38] at H
      have c38b0 : decide (a0_0 < a1) = false := decide_eq_false c38
      clear c38
      (first | rw [c38b0] | (simp only [i64_w, i32_w]; rw [c38b0]) | skip)
      have H' := Aside0.mk H
      clear H
      go_wp2
      go_meet
      case rel => exact ⟨_, (a0_0), H', ⟨by first | omega | exact Nat.le_refl _⟩, ⟨by (with_reducible repeat (first | refine blk_drewN ?_ _ | refine blk_drew ?_ | refine blk_alloc ?_ _)); refine blk_far ?_ NB101_117.out _; (with_reducible repeat (first | refine blk_drewN ?_ _ | refine blk_drew ?_ | refine blk_alloc ?_ _)); refine blk_far ?_ NB101_117.out _; (with_reducible repeat (first | refine blk_drewN ?_ _ | refine blk_drew ?_ | refine blk_alloc ?_ _)); exact BK101.out⟩, ⟨by (with_reducible repeat (first | refine blk_drewN ?_ _ | refine blk_drew ?_ | refine blk_alloc ?_ _)); refine blk_far ?_ NB102_117.out _; (with_reducible repeat (first | refine blk_drewN ?_ _ | refine blk_drew ?_ | refine blk_alloc ?_ _)); refine blk_far ?_ NB102_117.out _; (with_reducible repeat (first | refine blk_drewN ?_ _ | refine blk_drew ?_ | refine blk_alloc ?_ _)); exact BK102.out⟩, ⟨by (with_reducible repeat (first | refine blk_drewN ?_ _ | refine blk_drew ?_ | refine blk_alloc ?_ _)); refine blk_put (cs := #[.int .i64 a0_0, .slice none 0 0]) ?_ 1 _ rfl; (with_reducible repeat (first | refine blk_drewN ?_ _ | refine blk_drew ?_ | refine blk_alloc ?_ _)); refine blk_put (cs := #[.int .i64 0, .slice none 0 0]) ?_ 0 _ rfl; (with_reducible repeat (first | refine blk_drewN ?_ _ | refine blk_drew ?_ | refine blk_alloc ?_ _)); exact BK117.out⟩, ⟨K3 HB GE101.out GE102.out GE117.out⟩⟩
    case rest =>
     clear HC26
     try clear c1
     try clear c2
     try clear p2
     try clear c3
     try clear c4
     try clear c5
     try clear c5b0
     try clear p6
     try clear c8
     try clear c9
     try clear c15
     try clear c19
     try clear c29
     try clear c34
     try clear c35
     try clear c38
     try clear c38b0
     try clear c39
     try clear c40
     try clear hcz10_0 hcz10_1 hfz10_0
     try clear hcz12_0 hcz12_1 hfz12_0
     try clear hcz20_0 hcz20_1 hfz20_0
     try clear hcz22_0 hcz22_1 hfz22_0
     try clear hcz24_0 hcz24_1 hfz24_0
     try clear hcz30_0 hcz30_1 hfz30_0
     try clear hcz32_0 hcz32_1 hfz32_0
     try clear hcz36_0 hcz36_1 hfz36_0
     try clear hcz37_0 hcz37_1 hfz37_0
     try clear hcz41_0 hcz41_1 hfz41_0
     obtain ⟨kq, x118000_25, HA, HJ25, BK101, BK102, BK117, HB⟩ := hcut
     cases kq with
     | zero => exact absurd HA.out (by simp [spec_l7See.j0])
     | succ kj25 =>
      have H := HA.out
      clear HA
      simp only [spec_l7See.j0] at H
      obtain ⟨y118, hy118⟩ : ∃ y_ : List Int, y_ = (([] : List Int)) := ⟨_, rfl⟩
      replace H : (if y118.length + l0_1.length < 17592186044416 then ((spec_l3Num.f kj25 (y118 ++ l0_1) a1).bind fun t124 => (spec_l7See.l0 kj25 t124 0 x118000_25 ([] : List Int))) else (none)) = some (r1, r2, r3) := by first | (rw [hy118]; with_reducible exact H) | (have H2_ := (Option.bind_some _ _).symm.trans H; rw [hy118]; with_reducible exact H2_) | (have H2_ := (Option.bind_some _ _).symm.trans H; with_reducible exact H2_) | with_reducible exact H | (rw [hy118]; exact H) | exact H
      have Ny118 := Aside0.mk hy118
      clear hy118
      by_cases c42 : y118.length + l0_1.length < 17592186044416
      ·rw [if_pos c42] at H
       have LMc42 := Aside0.mk c42
       clear c42
       obtain ⟨y121, hy121⟩ : ∃ y_ : List Int, y_ = (y118 ++ l0_1) := ⟨_, rfl⟩
       replace H : ((spec_l3Num.f kj25 y121 a1).bind fun t124 => (spec_l7See.l0 kj25 t124 0 x118000_25 ([] : List Int))) = some (r1, r2, r3) := by first | (rw [hy121]; with_reducible exact H) | (have H2_ := (Option.bind_some _ _).symm.trans H; rw [hy121]; with_reducible exact H2_) | (have H2_ := (Option.bind_some _ _).symm.trans H; with_reducible exact H2_) | with_reducible exact H | (rw [hy121]; exact H) | exact H
       have Ny121 := Aside0.mk hy121
       clear hy121
       replace H := Option.bind_eq_some_iff.mp H
       obtain ⟨t124, A430, H⟩ := H
       replace H : (spec_l7See.l0 kj25 t124 0 x118000_25 ([] : List Int)) = some (r1, r2, r3) := H
       have A43 := Aside0.mk A430
       clear A430
       have H' := Aside0.mk H
       clear H
       go_wp2_with (first | ((with_reducible refine gate_dst (N := 38) rfl ?_); refine Kd.R_lit (Kd.int .i64) _ 3 ?hg (N := 38) ?hd (xs := ([] : List Int)) (inner := []) (ok := fun _ => True) (okp := fun _ => True) ?hr ?hp (fun _ hk => hk) trivial (Below.refl _ _) (Nat.le_refl _) (by simp) ?_; (case hd => rfl); (case hg => rfl); (case hr => first | (go_simp; done) | (go_simp; rfl)); (case hp => exact (Reps.none _ _)); intro v119 w44 ho45 hb hg_ hnew_; clear hg_ hnew_; (first | rw [← Ny118.out] at ho45 | (simp only [Int.reduceToNat] at ho45; rw [← Ny118.out] at ho45)); have HO120 := am (Kd.R_lower ho45 (below_size (K3 HB GE101.out GE102.out GE117.out))); replace BK101 := am (BB BK101 hb); replace BK102 := am (BB BK102 hb); replace BK117 := am (BB BK117 hb); replace HB := am (below_step (K3 HB GE101.out GE102.out GE117.out) hb); clear hb ho45; have hnb46 := NB101_102.out; have hnc46 := NB102_101.out; have hnb47 := NB101_117.out; have hnc47 := NB117_101.out; obtain ⟨hcz48_0, hcz48_1, hfz48_0⟩ := y2 w44 BK101.out) | ((with_reducible refine gate_builtin (b := .append) (xs := #[.tmp 38, .tmp 40]) rfl ?_); at_builtin; refine Kd.R_append_rows (Kd.int .i64) (w0 := w) w.heap.size rfl (.tmp 38) (.tmp 40) 22 3 (.int .i64 0) 8 rfl Try.underlying22 info3 rfl (by decide) (by omega) v119 y118 l0_1 _ _ _ (fun _ => True) (fun _ => False) rfl rfl ?aO ?aR (fun _ _ h => h) (fun _ h => h.elim) ?aF ?aB ?aS ?aL ?_; (case aR => exact KD HR0_1 HB); (case aB => exact (K3 HB GE101.out GE102.out GE117.out)); (case aF => exact (fun _ _ => trivial)); (case aO => exact (KR HO120)); (case aS => exact (below_size (K3 HB GE101.out GE102.out GE117.out))); (case aL => have := LMc42.out; omega); intro v122 w49 ho hb hg hat; rw [← Ny121.out] at ho; replace BK101 := am (blk_grown (g := gb101) (o := .cells #[.int .i64 a0_0, .slice A0_1 l0_1.length c0_1] 31 (0, 0)) (KB BK101) hg (Kd.R_ne HO120.out BK101.out (by decide))); replace BK102 := am (blk_grown (g := gb102) (o := .cells #[.int .i64 0, .slice none 0 0] 31 (0, 0)) (KB BK102) hg (Kd.R_ne HO120.out BK102.out (by decide))); replace BK117 := am (blk_grown (g := gb117) (o := .cells #[.int .i64 x118000_25, .slice none 0 0] 31 (0, 0)) (KB BK117) hg (Kd.R_ne HO120.out BK117.out (by decide))); replace HB := am (hb); have HO123 := am (ho); clear HO120; clear ho hb hg hat; obtain ⟨Ao50, co50, eo50⟩ := Kd.R_slice HO123.out; subst eo50) | ((with_reducible refine gate_callee (f := 91) rfl ?_); refine goesL_ (some 43) rfl rfl Try.func91 (by kernel_rfl) rfl #[.slice Ao50 y121.length co50, .int .i64 a1] rfl MT ?_; (with_reducible refine (spec_l3Num.calls kj25 (fun k_ => some k_ = (.slice Ao50 y121.length co50 : Value).ownBlock) _ _ y121 a1 t124 _ ?side1 A43.out).mono ?_); (case side1 => exact Kd.R_V (Kd.R_tight rfl (Kd.R_types (Kd.R_types (Kd.R_types (HO123.out) BK101.out (by decide)) BK102.out (by decide)) BK117.out (by decide)))); rintro e w51 ⟨v125, rfl, ho0, hb⟩; refine ⟨_, rfl, ?_⟩; have HO126 := am (Kd.V_lower (Kd.V_mono (ok' := fun k_ => k_ ≠ gb101 ∧ k_ ≠ gb102 ∧ k_ ≠ gb117) ho0 (fun k_ hk_ => ⟨Or.elim hk_ (fun hs_ => ((Kd.R_types (Kd.R_types (Kd.R_types (HO123.out) BK101.out (by decide)) BK102.out (by decide)) BK117.out (by decide)).1 k_ hs_.symm).1.1.2) (fun hn_ => (Kd.freshB (g := gb101) (o := .cells #[.int .i64 a0_0, .slice A0_1 l0_1.length c0_1] 31 (0, 0)) (KB BK101) k_ hn_)), Or.elim hk_ (fun hs_ => ((Kd.R_types (Kd.R_types (Kd.R_types (HO123.out) BK101.out (by decide)) BK102.out (by decide)) BK117.out (by decide)).1 k_ hs_.symm).1.2) (fun hn_ => (Kd.freshB (g := gb102) (o := .cells #[.int .i64 0, .slice none 0 0] 31 (0, 0)) (KB BK102) k_ hn_)), Or.elim hk_ (fun hs_ => ((Kd.R_types (Kd.R_types (Kd.R_types (HO123.out) BK101.out (by decide)) BK102.out (by decide)) BK117.out (by decide)).1 k_ hs_.symm).2) (fun hn_ => (Kd.freshB (g := gb117) (o := .cells #[.int .i64 x118000_25, .slice none 0 0] 31 (0, 0)) (KB BK117) k_ hn_))⟩)) (below_size (K3 HB GE101.out GE102.out GE117.out))); replace HO123 := am (Kd.R_below (KR HO123) hb); replace BK101 := am (BB BK101 hb); replace BK102 := am (BB BK102 hb); replace BK117 := am (BB BK117 hb); replace HB := am (below_step (K3 HB GE101.out GE102.out GE117.out) hb); (try clear hb); (try clear ho0)))
       go_loopg [8] kj25 (fun kq v8 w' => ∃ (x8_2 : Int) (x118001_2 : List Int) (u118001 : Value), v8 = .int .i64 x8_2 ∧ Aside0 (spec_l7See.l0 kq t124 x8_2 x118000_25 x118001_2 = some (r1, r2, r3)) ∧ Aside0 (kq ≤ kj25) ∧ Aside0 (Kd.V (Kd.int .i64) 3 w' w.heap.size (fun k_ => some k_ ≠ (u118001 : Value).ownBlock ∧ k_ ≠ gb101 ∧ k_ ≠ gb102 ∧ k_ ≠ gb117) v125 t124) ∧ Aside0 (Kd.R (Kd.int .i64) 3 w' w.heap.size (fun _ => True) u118001 x118001_2) ∧ Aside0 (w'.heap[gb101]? = some (.cells #[.int .i64 a0_0, (.slice A0_1 l0_1.length c0_1)] 31 (0, 0))) ∧ Aside0 (w'.heap[gb102]? = some (.cells #[.int .i64 0, (.slice none 0 0)] 31 (0, 0))) ∧ Aside0 (w'.heap[gb117]? = some (.cells #[.int .i64 x118000_25, u118001] 31 (0, 0))) ∧ Aside0 (Below w.heap.size w w'))
       case atStart => exact ⟨(0), (([] : List Int)), (.slice none 0 0), (by first | rfl | (simp; done) | (simp [*]; done)), H', ⟨Nat.le_refl _⟩, ⟨by (with_reducible repeat (first | apply Kd.V_alloc | apply Kd.V_drewN | apply Kd.V_drew)); exact Kd.V_mono HO126.out (fun _ hk => ⟨(by simp [Value.ownBlock]), ⟨hk.1, ⟨hk.2.1, hk.2.2⟩⟩⟩)⟩, ⟨by first | exact Kd.R_nil _ _ _ _ _ | exact Kd.N_nil _ _ _ _ _ | exact Kd.V_nil _ _ _ _ _ | exact Kd.Q_nil _ _ _ _ _ | exact Kd.S_nil _ _ _ _ _⟩, ⟨KB BK101⟩, ⟨KB BK102⟩, ⟨KB BK117⟩, ⟨K3 HB GE101.out GE102.out GE117.out⟩⟩
       case round =>
        clear H'
        try clear c1
        try clear c2
        try clear p2
        try clear c3
        try clear c4
        try clear c5
        try clear c5b0
        try clear p6
        try clear c8
        try clear c9
        try clear c15
        try clear c19
        try clear c29
        try clear c34
        try clear c35
        try clear c38
        try clear c38b0
        try clear c39
        try clear c40
        try clear c42
        try clear c43
        try clear c46
        try clear c47
        try clear hcz10_0 hcz10_1 hfz10_0
        try clear hcz12_0 hcz12_1 hfz12_0
        try clear hcz20_0 hcz20_1 hfz20_0
        try clear hcz22_0 hcz22_1 hfz22_0
        try clear hcz24_0 hcz24_1 hfz24_0
        try clear hcz30_0 hcz30_1 hfz30_0
        try clear hcz32_0 hcz32_1 hfz32_0
        try clear hcz36_0 hcz36_1 hfz36_0
        try clear hcz37_0 hcz37_1 hfz37_0
        try clear hcz41_0 hcz41_1 hfz41_0
        try clear hcz48_0 hcz48_1 hfz48_0
        try clear p2
        try clear p6
        obtain ⟨x8_2, x118001_2, u118001, rfl, HA, HK2, HO_7, HO_118001, BK101, BK102, BK117, HB⟩ := hrel
        cases gk with
        | zero => exact absurd HA.out (by simp [spec_l7See.l0])
        | succ k2 =>
         have H := HA.out
         clear HA
         simp only [spec_l7See.l0] at H
         by_cases c52 : x8_2 < (t124.length : Int)
         ·rw [if_pos c52] at H
          have c52b0 : decide (x8_2 < (t124.length : Int)) = true := decide_eq_true c52
          clear c52
          by_cases c53 : 0 ≤ x8_2
          ·rw [if_pos c53] at H
           have c53b0 : decide (0 ≤ x8_2) = true := decide_eq_true c53
           clear c53
           by_cases c54 : (rd t124 x8_2) > (wrap64 (x118000_25 - 16))
           ·rw [if_pos c54] at H
            have c54b0 : decide ((wrap64 (x118000_25 - 16)) < (rd t124 x8_2)) = true := decide_eq_true c54
            clear c54
            by_cases c55 : x118001_2.length < 17592186044416
            ·rw [if_pos c55] at H
             have LMc55 := Aside0.mk c55
             clear c55
             obtain ⟨y129, hy129⟩ : ∃ y_ : List Int, y_ = (x118001_2 ++ [rd t124 x8_2]) := ⟨_, rfl⟩
             replace H : (spec_l7See.l0 k2 t124 (wrap64 (x8_2 + 1)) x118000_25 y129) = some (r1, r2, r3) := by first | (rw [hy129]; with_reducible exact H) | (have H2_ := (Option.bind_some _ _).symm.trans H; rw [hy129]; with_reducible exact H2_) | (have H2_ := (Option.bind_some _ _).symm.trans H; with_reducible exact H2_) | with_reducible exact H | (rw [hy129]; exact H) | exact H
             have Ny129 := Aside0.mk hy129
             clear hy129
             have H' := Aside0.mk H
             clear H
             obtain ⟨Ao56, co56, eo56⟩ := Kd.V_slice HO_7.out
             subst eo56
             try go_wp2
             replace HO_7 := am (Kd.V_drew HO_7.out)
             replace HO_118001 := am (Kd.R_drew HO_118001.out)
             replace BK101 := am (blk_drew BK101.out)
             replace BK102 := am (blk_drew BK102.out)
             replace BK117 := am (blk_drew BK117.out)
             replace HB := am (below_drew1 HB.out)
             have p127 : 0 ≤ (x8_2 : Int) := OD
             have q127 : x8_2 < (t124.length : Int) := OD
             obtain ⟨ad127, e127, hx127_0⟩ := Kd.at_int (Kd.V_reads' HO_7.out).2.2 x8_2 p127 q127
             cases e127
             replace p127 := eq_true p127
             replace q127 := eq_true q127
             refine start_ (n := 8) (S := fun w' => ce2 w' gb117 (.int .i64 x118000_25) (u118001) (w'.cell? (ad127.add (x8_2).toNat) = some (.int .i64 (rd t124 x8_2)))) (ds := []) (tf 0 8) (by kernel_rfl) rfl rfl ⟨z0 _ BK117.out, z1 _ BK117.out, hx127_0⟩ (fun hHeld => ?_); refine with_tabW spec_l7See.tab14 spec_l7See.bits14 (fun HT_ HW_ => ?_)
             generalize wr.drew = w57 at HO_7 HO_118001 BK101 BK102 BK117 HB hx127_0 hHeld ⊢
             refine pv HT_ 0 50 (tf 1 7) ?_
             refine pv HT_ 1 51 (tf 2 6) ?_
             refine pv HT_ 2 52 (tf 3 5) ?_
             refine pv HT_ 4 54 (tr [3, 1, 1, 3]) ?_
             refine tk 3 (some 53) (tf 5 3) (take_ofW HT_.out HW_.out (by kernel_rfl)) hHeld ?_
             refine tk 5 (some 55) (tf 6 2) (take_ofW HT_.out HW_.out (by kernel_rfl)) hHeld ?_
             refine pv HT_ 6 56 (tf 7 1) ?_
             refine pv HT_ 7 57 (tf 8 0) ?_
             refine done_ (done_of HT_.out (by kernel_rfl)) ?_
             try go_wp2
             replace HO_7 := am (Kd.V_drew HO_7.out)
             replace HO_118001 := am (Kd.R_drew HO_118001.out)
             replace BK101 := am (blk_drew BK101.out)
             replace BK102 := am (blk_drew BK102.out)
             replace BK117 := am (blk_drew BK117.out)
             replace HB := am (below_drew1 HB.out)
             have p128 : 0 ≤ (x8_2 : Int) := OD
             have q128 : x8_2 < (t124.length : Int) := OD
             obtain ⟨ad128, e128, hx128_0⟩ := Kd.at_int (Kd.V_reads' HO_7.out).2.2 x8_2 p128 q128
             obtain rfl : ad127 = ad128 := (by injection e128)
             replace p128 := eq_true p128
             replace q128 := eq_true q128
             refine start_ (n := 10) (S := fun w' => ce2 w' gb117 (.int .i64 x118000_25) (u118001) (w'.cell? (ad127.add (x8_2).toNat) = some (.int .i64 (rd t124 x8_2)))) (ds := [7, 9]) (tf 0 10) (by kernel_rfl) rfl rfl ⟨z0 _ BK117.out, z1 _ BK117.out, hx128_0⟩ (fun hHeld => ?_); refine with_tabW spec_l7See.tab15 spec_l7See.bits15 (fun HT_ HW_ => ?_)
             generalize w57.drew = w58 at HO_7 HO_118001 BK101 BK102 BK117 HB hx128_0 hHeld ⊢
             refine pv HT_ 0 58 (tf 1 9) ?_
             refine pv HT_ 2 60 (tr [1, 1, 1, 7]) ?_
             refine pv HT_ 3 61 (tr [1, 1, 2, 6]) ?_
             refine pv HT_ 4 62 (tr [1, 1, 3, 5]) ?_
             refine tk 1 (some 59) (tf 5 5) (take_ofW HT_.out HW_.out (by kernel_rfl)) hHeld ?_
             refine tk 5 (some 63) (tf 6 4) (take_ofW HT_.out HW_.out (by kernel_rfl)) hHeld ?_
             refine one_ (i := 6) (N := some 64) (tf 7 3) rfl rfl (one_of HT_.out (by kernel_rfl)) (by decide) (fun K hK => ?_)
             refine value_ (w1 := ?_) (v := ?_) (by rfl) rfl ?_ ?_
             rotate_left 2
             ·go_simp
              constructor
              ·rfl
              ·rfl
             refine hK.out _ _ ⟨(blk_cell (blk_alloc BK117.out _) 0).trans rfl, (blk_cell (blk_alloc BK117.out _) 1).trans rfl, (World.cell?_alloc_lt _ _ _ (World.block_lt_of_cell? _ _ (hHeld.2.2))).trans (hHeld.2.2)⟩ (fun hHeld => ?_)
             clear hK K
             refine norm_ (a' := ?_) ?_ ?_
             rotate_left
             ·show Act.put _ (some 64) _ = _
              simp only [Act.put, List.setIfInBounds_toArray, List.set_cons_zero, List.set_cons_succ, i64_w, i32_w]
              rfl
             refine last_ (i := 7) (N := some 65) (tf 8 2) rfl rfl (one_of HT_.out (by kernel_rfl)) (by decide) (fun K hK => ?_)
             refine Kd.R_append_step (Kd.int .i64) (w0 := w) w.heap.size (by rfl) (.tmp 59) (.tmp 64) 22 3 (.int .i64 0) 8 rfl Try.underlying22 info3 rfl (by decide) (by omega) u118001 x118001_2 (rd t124 x8_2) [.int .i64 (rd t124 x8_2)] (fun _ => True) (fun _ => False) rfl rfl ?aP (fun _ hk => hk.elim) ?aF ?aO ?aB ?aS ?aL ?_
             (case aP => exact rfl)
             (case aB => exact (K3 HB GE101.out GE102.out GE117.out))
             (case aF => exact (fun _ _ => trivial))
             (case aO => exact (KR HO_118001))
             (case aS => exact (below_size (K3 HB GE101.out GE102.out GE117.out)))
             (case aL => have := LMc55.out; omega)
             intro v130 w59 ho hb hg hat
             rw [← Ny129.out] at ho
             replace HO_7 := am (Kd.V_afterv (ok := (fun k_ => k_ ≠ gb101 ∧ k_ ≠ gb102 ∧ k_ ≠ gb117)) (by (with_reducible repeat (first | apply Kd.V_alloc | apply Kd.V_drewN | apply Kd.V_drew)); exact Kd.V_mono HO_7.out (fun _ hk => ⟨⟨hk.2.1, ⟨hk.2.2.1, hk.2.2.2⟩⟩, hk.1⟩)) hg hat)
             replace BK101 := am (blk_grown (g := gb101) (o := .cells #[.int .i64 a0_0, .slice A0_1 l0_1.length c0_1] 31 (0, 0)) (KB BK101) hg (Kd.R_ne HO_118001.out BK101.out (by decide)))
             replace BK102 := am (blk_grown (g := gb102) (o := .cells #[.int .i64 0, .slice none 0 0] 31 (0, 0)) (KB BK102) hg (Kd.R_ne HO_118001.out BK102.out (by decide)))
             replace BK117 := am (blk_grown (g := gb117) (o := .cells #[.int .i64 x118000_25, u118001] 31 (0, 0)) (KB BK117) hg (Kd.R_ne HO_118001.out BK117.out (by decide)))
             replace HB := am (hb)
             have HO131 := am (ho)
             clear HO_118001
             clear ho hb hg hat
             obtain ⟨Ao60, co60, eo60⟩ := Kd.R_slice HO131.out
             (first | subst eo60 | (injection eo60 with f1_ f2_ f3_; have f4_ := f1_.symm; have f5_ := f3_.symm; clear f1_ f2_ f3_; subst f4_; subst f5_))
             refine hK.out _ _ ?_
             clear hK K
             refine norm_ (a' := ?_) ?_ ?_
             rotate_left
             ·show Act.put _ (some 65) _ = _
              simp only [Act.put, List.setIfInBounds_toArray, List.set_cons_zero, List.set_cons_succ, i64_w, i32_w]
              rfl
             refine pv HT_ 8 66 (tf 9 1) ?_
             refine last_ (i := 9) (N := none) (tf 10 0) rfl rfl (one_of HT_.out (by kernel_rfl)) (by decide) (fun K hK => ?_)
             have hs61 : w59.cell? ⟨gb117, 1, none⟩ = some (u118001) := z1 _ BK117.out
             have hfs61 := blk_frozen BK117.out 1
             have hns61_0 := NB101_117.out
             have hns61_1 := NB102_117.out
             have hms61_0 := NB117_101.out
             have hms61_1 := NB117_102.out
             refine skip_ (w1 := ?_) (by rfl) rfl ?_ ?_
             rotate_left
             ·go_simp
              rfl
             refine hK.out _ _ ?_
             clear hK K
             refine done_ (done_of HT_.out (by kernel_rfl)) ?_
             try go_wp2
             go_roundg k2
             case measure => have := HJ25.out; have := HK2.out; omega
             case rel => exact ⟨(wrap64 (x8_2 + 1)), (y129), (.slice Ao60 y129.length co60), (by first | rfl | (simp; done) | (simp [*]; done)), H', ⟨by have := HJ25.out; have := HK2.out; omega⟩, ⟨by (with_reducible repeat (first | apply Kd.V_alloc | apply Kd.V_drewN | apply Kd.V_drew)); exact Kd.V_mono (Kd.V_far (p := ⟨gb117, 1, none⟩) (Kd.V_mono HO_7.out (fun k_ hk => (⟨hk, hk.1.2.2⟩ : _ ∧ k_ ≠ gb117))) (fun _ hk => hk.2) (.slice Ao60 y129.length co60)) (fun _ hk => ⟨hk.1.2, ⟨hk.1.1.1, ⟨hk.1.1.2.1, hk.1.1.2.2⟩⟩⟩)⟩, ⟨by (with_reducible repeat (first | apply Kd.R_alloc | apply Kd.R_drewN | apply Kd.R_drew)); exact Kd.R_mono (Kd.R_far (p := ⟨gb117, 1, none⟩) (Kd.R_types HO131.out BK117.out (by decide)) (fun _ hk => hk.2) (.slice Ao60 y129.length co60)) (fun _ hk => trivial)⟩, ⟨by (with_reducible repeat (first | refine blk_drewN ?_ _ | refine blk_drew ?_ | refine blk_alloc ?_ _)); refine blk_far ?_ NB101_117.out _; (with_reducible repeat (first | refine blk_drewN ?_ _ | refine blk_drew ?_ | refine blk_alloc ?_ _)); exact BK101.out⟩, ⟨by (with_reducible repeat (first | refine blk_drewN ?_ _ | refine blk_drew ?_ | refine blk_alloc ?_ _)); refine blk_far ?_ NB102_117.out _; (with_reducible repeat (first | refine blk_drewN ?_ _ | refine blk_drew ?_ | refine blk_alloc ?_ _)); exact BK102.out⟩, ⟨by (with_reducible repeat (first | refine blk_drewN ?_ _ | refine blk_drew ?_ | refine blk_alloc ?_ _)); refine blk_put (cs := #[.int .i64 x118000_25, u118001]) ?_ 1 _ rfl; (with_reducible repeat (first | refine blk_drewN ?_ _ | refine blk_drew ?_ | refine blk_alloc ?_ _)); exact BK117.out⟩, ⟨K3 HB GE101.out GE102.out GE117.out⟩⟩
            ·rw [if_neg c55] at H
             exact absurd H (by simp)
           ·rw [if_neg c54] at H
            have c54b0 : decide ((wrap64 (x118000_25 - 16)) < (rd t124 x8_2)) = false := decide_eq_false c54
            clear c54
            have H' := Aside0.mk H
            clear H
            obtain ⟨Ao62, co62, eo62⟩ := Kd.V_slice HO_7.out
            subst eo62
            try go_wp2
            replace HO_7 := am (Kd.V_drew HO_7.out)
            replace HO_118001 := am (Kd.R_drew HO_118001.out)
            replace BK101 := am (blk_drew BK101.out)
            replace BK102 := am (blk_drew BK102.out)
            replace BK117 := am (blk_drew BK117.out)
            replace HB := am (below_drew1 HB.out)
            have p127 : 0 ≤ (x8_2 : Int) := OD
            have q127 : x8_2 < (t124.length : Int) := OD
            obtain ⟨ad127, e127, hx127_0⟩ := Kd.at_int (Kd.V_reads' HO_7.out).2.2 x8_2 p127 q127
            cases e127
            replace p127 := eq_true p127
            replace q127 := eq_true q127
            refine start_ (n := 8) (S := fun w' => ce2 w' gb117 (.int .i64 x118000_25) (u118001) (w'.cell? (ad127.add (x8_2).toNat) = some (.int .i64 (rd t124 x8_2)))) (ds := []) (tf 0 8) (by kernel_rfl) rfl rfl ⟨z0 _ BK117.out, z1 _ BK117.out, hx127_0⟩ (fun hHeld => ?_); refine with_tabW spec_l7See.tab14 spec_l7See.bits14 (fun HT_ HW_ => ?_)
            generalize wr.drew = w63 at HO_7 HO_118001 BK101 BK102 BK117 HB hx127_0 hHeld ⊢
            refine pv HT_ 0 50 (tf 1 7) ?_
            refine pv HT_ 1 51 (tf 2 6) ?_
            refine pv HT_ 2 52 (tf 3 5) ?_
            refine pv HT_ 4 54 (tr [3, 1, 1, 3]) ?_
            refine tk 3 (some 53) (tf 5 3) (take_ofW HT_.out HW_.out (by kernel_rfl)) hHeld ?_
            refine tk 5 (some 55) (tf 6 2) (take_ofW HT_.out HW_.out (by kernel_rfl)) hHeld ?_
            refine pv HT_ 6 56 (tf 7 1) ?_
            refine pv HT_ 7 57 (tf 8 0) ?_
            refine done_ (done_of HT_.out (by kernel_rfl)) ?_
            try go_wp2
            go_roundg k2
            case measure => have := HJ25.out; have := HK2.out; omega
            case rel => exact ⟨(wrap64 (x8_2 + 1)), (x118001_2), (u118001), (by first | rfl | (simp; done) | (simp [*]; done)), H', ⟨by have := HJ25.out; have := HK2.out; omega⟩, ⟨by (with_reducible repeat (first | apply Kd.V_alloc | apply Kd.V_drewN | apply Kd.V_drew)); exact HO_7.out⟩, ⟨KR HO_118001⟩, ⟨KB BK101⟩, ⟨KB BK102⟩, ⟨KB BK117⟩, ⟨K3 HB GE101.out GE102.out GE117.out⟩⟩
          ·rw [if_neg c53] at H
           exact absurd H (by simp)
         ·rw [if_neg c52] at H
          have c52b0 : decide (x8_2 < (t124.length : Int)) = false := decide_eq_false c52
          clear c52
          simp only [Option.some.injEq, Prod.mk.injEq] at H
          obtain ⟨rfl, rfl, rfl⟩ := H
          obtain ⟨Ao64, co64, eo64⟩ := Kd.V_slice HO_7.out
          subst eo64
          have hnb65 := NB117_101.out
          have hnc65 := NB101_117.out
          have hnb66 := NB117_102.out
          have hnc66 := NB102_117.out
          obtain ⟨hcz67_0, hcz67_1, hfz67_0⟩ := y2 wr BK117.out
          have hnb68 := NB102_101.out
          have hnc68 := NB101_102.out
          obtain ⟨hcz69_0, hcz69_1, hfz69_0⟩ := y2 wr BK102.out
          obtain ⟨Ao70, co70, eo70⟩ := Kd.R_slice HO_118001.out
          subst eo70
          go_wp2
          refine bodyPost_ret (results_ct rfl _ _ gb102 31 #[.int .i64 x118000_25, .slice Ao70 x118001_2.length co70] (0, 0) _ rfl (by (with_reducible repeat (first | refine blk_drewN ?_ _ | refine blk_drew ?_ | refine blk_alloc ?_ _)); refine blk_put (cs := #[.int .i64 x118000_25, .slice none 0 0]) ?_ 1 _ rfl; (with_reducible repeat (first | refine blk_drewN ?_ _ | refine blk_drew ?_ | refine blk_alloc ?_ _)); refine blk_put (cs := #[.int .i64 0, .slice none 0 0]) ?_ 0 _ rfl; (with_reducible repeat (first | refine blk_drewN ?_ _ | refine blk_drew ?_ | refine blk_alloc ?_ _)); exact BK102.out) Try.underlying31 rfl (by kernel_rfl)) rfl ?_
          exact ⟨_, ER, by (with_reducible repeat (first | apply Kd.R_alloc | apply Kd.R_drewN | apply Kd.R_drew)); exact Kd.R_mono (Kd.R_far (p := ⟨gb102, 1, none⟩) (Kd.R_far (p := ⟨gb102, 0, none⟩) (Kd.R_types HO_118001.out BK102.out (by decide)) (fun _ hk => hk.2) (.int .i64 x118000_25)) (fun _ hk => hk.2) (.slice Ao70 x118001_2.length co70)) (fun _ hk => trivial), K3 HB GE101.out GE102.out GE117.out⟩
      ·rw [if_neg c42] at H
       exact absurd H (by simp)
 ·replace c4 := Bool.eq_false_iff.mpr c4
  subst c4
  have H1 : ((spec_l7Copy.f a0_0 l0_1).bind fun bt113 => (some (bt113.1, bt113.2, 1))) = some (r1, r2, r3) := by rw [if_neg (show ¬ (false = true) by decide)] at H; exact H
  clear H
  have H := H1
  clear H1
  replace H := Option.bind_eq_some_iff.mp H
  obtain ⟨⟨t113, t114⟩, A710, H⟩ := H
  replace H : (some (t113, t114, 1)) = some (r1, r2, r3) := H
  have A71 := Aside0.mk A710
  clear A710
  simp only [Option.some.injEq, Prod.mk.injEq] at H
  obtain ⟨rfl, rfl, rfl⟩ := H
  go_enter Try.func43, Try.ntmps43
  go_wp2_with (first | ((with_reducible refine gate_dst (N := 2) rfl ?_); refine box_event rfl (N := 2) rfl (cs := #[.int .i64 a0_0, .slice A0_1 l0_1.length c0_1]) (t := 31) BX ?_; intro gb101 hg w72 hbox hb; have BK101 := am (hbox); have GW101 := am (GH HB hg); have GE101 := GW101; replace HB := am (below_step (KL HB) hb); clear hb hbox hg) | ((with_reducible refine gate_dst (N := 4) rfl ?_); refine box_event rfl (N := 4) rfl (cs := #[.int .i64 0, .slice none 0 0]) (t := 31) BX ?_; intro gb102 hg w73 hbox hb; have BK102 := am (hbox); have GW102 := am (GH1 HB GE101.out hg); have GE102 := GW102; replace HB := am (below_step (K1 HB GE101.out) hb); have NB101_102 := am (NL BK101 hg); have NB102_101 := am (NG BK101 hg); replace BK101 := am (BB BK101 hb); clear hb hbox hg) | ((with_reducible refine gate_callee (f := 59) rfl ?_); refine goesL_ (some 11) rfl rfl Try.func59 (by kernel_rfl) rfl #[.int .i64 a1, .int .i64 1, .int .i64 1000000] rfl MT ?_; (with_reducible refine (spec_l1In.calls a1 1 1000000 false _ A3.out).mono ?_); rintro e w' ⟨rfl, ⟨nd, rfl⟩⟩; refine ⟨_, rfl, ?_⟩; (try (rw [drewN_self w73]; generalize hq_ : World.drewN w73 _ = w73; replace BK101 : Aside0 (w73.heap[gb101]? = some (.cells #[.int .i64 a0_0, .slice A0_1 l0_1.length c0_1] 31 (0, 0))) := ⟨by rw [← hq_]; exact (KB BK101)⟩; replace BK102 : Aside0 (w73.heap[gb102]? = some (.cells #[.int .i64 0, .slice none 0 0] 31 (0, 0))) := ⟨by rw [← hq_]; exact (KB BK102)⟩; replace HB : Aside0 (Below w.heap.size w w73) := ⟨by rw [← hq_]; exact (K2 HB GE101.out GE102.out)⟩; clear hq_)); have hnb74 := NB101_102.out; have hnc74 := NB102_101.out; obtain ⟨hcz75_0, hcz75_1, hfz75_0⟩ := y2 w73 BK101.out) | ((with_reducible refine gate_callee (f := 89) rfl ?_); refine goesL_ (some 14) rfl rfl Try.func89 (by kernel_rfl) rfl #[.agg #[.int .i64 a0_0, .slice A0_1 l0_1.length c0_1]] rfl MT ?_; (with_reducible refine (spec_l7Copy.calls a0_0 _ _ l0_1 t113 t114 _ ?side1 ?side2 A71.out).mono ?_); (case side1 => exact KD HR0_1 HB); (case side2 => exact HC0_1.out); rintro e w76 ⟨v115, rfl, ho0, hb⟩; refine ⟨_, rfl, ?_⟩; have HO116 := am (Kd.R_lower ho0 (below_size (K2 HB GE101.out GE102.out))); replace BK101 := am (BB BK101 hb); replace BK102 := am (BB BK102 hb); replace HB := am (below_step (K2 HB GE101.out GE102.out) hb); (try clear hb); (try clear ho0); obtain ⟨hcz77_0, hcz77_1, hfz77_0⟩ := y2 w76 BK102.out; obtain ⟨Ao78, co78, eo78⟩ := Kd.R_slice HO116.out; subst eo78))
  refine bodyPost_ret (results_ct rfl _ _ gb102 31 #[.int .i64 t113, .slice Ao78 t114.length co78] (0, 0) _ rfl (by (with_reducible repeat (first | refine blk_drewN ?_ _ | refine blk_drew ?_ | refine blk_alloc ?_ _)); refine blk_put (cs := #[.int .i64 t113, .slice none 0 0]) ?_ 1 _ rfl; (with_reducible repeat (first | refine blk_drewN ?_ _ | refine blk_drew ?_ | refine blk_alloc ?_ _)); refine blk_put (cs := #[.int .i64 0, .slice none 0 0]) ?_ 0 _ rfl; (with_reducible repeat (first | refine blk_drewN ?_ _ | refine blk_drew ?_ | refine blk_alloc ?_ _)); exact BK102.out) Try.underlying31 rfl (by kernel_rfl)) rfl ?_
  exact ⟨_, ER, by (with_reducible repeat (first | apply Kd.R_alloc | apply Kd.R_drewN | apply Kd.R_drew)); exact Kd.R_mono (Kd.R_far (p := ⟨gb102, 1, none⟩) (Kd.R_far (p := ⟨gb102, 0, none⟩) (Kd.R_types HO116.out BK102.out (by decide)) (fun _ hk => hk.2) (.int .i64 t113)) (fun _ hk => hk.2) (.slice Ao78 t114.length co78)) (fun _ hk => trivial), K2 HB GE101.out GE102.out⟩
def spec_l12Window.l0 : Nat → Int → Int → List Int → Int → Int → List Int → Option (Int × List Int × Int)
 | 0, _, _, _, _, _, _ => none
 | k + 1, x4, x5, x1000, x1001, x103000, x103001 => if x5 > 0 then ((spec_l1Rd_pick.f k x1000 x1001 9).bind fun bt107 => ((spec_l7See.f k x103000 x103001 (wrap64 ((wrap64 (x4 + bt107.1)) - 3))).bind fun bt109 => ((spec_l1Rd_one.f k x1000 bt107.2 (([1, 1, 2, 20] : List Int))).bind fun bt117 => (spec_l12Window.l0 k (wrap64 (x4 + bt117.1)) (wrap64 (x5 - 1)) x1000 bt117.2 bt109.1 bt109.2.1)))) else (some (x103000, x103001, x1001))
def spec_l12Window.f (k : Nat) (s0_0 : List Int) (s0_1 : Int) : Option (Int × List Int × Int) := (spec_l1Rd_pick.f k s0_0 s0_1 20).bind fun bt103 => ((spec_l1Rd_pick.f k s0_0 bt103.2 9).bind fun bt105 => (spec_l12Window.l0 k bt103.1 bt105.1 s0_0 bt105.2 0 ([] : List Int)))
def spec_l12Window.T6 : Bool × List (List Nat × List Nat) := (true, [([], []), ([], []), ([], []), ([2], [2]), ([1, 3], [1, 3]), ([4], [4]), ([0, 5, 3], [0, 5]), ([6], [6]), ([7], [7]), ([7], [7]), ([8, 6, 0, 1, 2, 3, 4, 5, 6, 7, 8], [8])])
def spec_l12Window.B6 : List Nat := [0, 0, 0, 4, 14, 30, 63, 127, 255, 255, 511]
theorem spec_l12Window.tab6 : rtab .any (opsOf Try.f92 6) = spec_l12Window.T6 := by kernel_rfl
theorem spec_l12Window.bits6 : waitsOk spec_l12Window.T6.2 spec_l12Window.B6 = true := by kernel_rfl
set_option maxHeartbeats 8000000 in
set_option maxRecDepth 100000 in
theorem spec_l12Window.calls (k : Nat) (g : Nat) (s0_0 : List Int) (s0_1 : Int) (r1 : Int) (r2 : List Int) (r3 : Int) (w0 w : World) (hI : IsS124 w0 w g s0_0 s0_1) (hB : Below w0.heap.size w0 w) (h : spec_l12Window.f k s0_0 s0_1 = some (r1, r2, r3)) :
  Calls Try.prog 92 #[.pointer (some ⟨g, 0, none⟩)] w fun e w' => ∃ v1_ : Value, e = .returned (.agg #[.int .i64 r1, v1_]) ∧ Kd.R (Kd.int .i64) 3 w' w.heap.size (fun _ => True) v1_ r2 ∧ IsS124 w0 w' g s0_0 r3 ∧ Below w0.heap.size w0 w' ∧ KeepBut w w' g none := by
 have hu31 := Try.underlying31
 have HI0 := Aside0.mk hI
 have HK := am (KeepBut.refl w g none)
 have HL := Aside0.mk hB.size
 clear hI
 have HW0 := Aside0.mk hB.size
 have HB := Aside0.mk hB
 clear hB
 have H : ((spec_l1Rd_pick.f k s0_0 s0_1 20).bind fun bt103 => ((spec_l1Rd_pick.f k s0_0 bt103.2 9).bind fun bt105 => (spec_l12Window.l0 k bt103.1 bt105.1 s0_0 bt105.2 0 ([] : List Int)))) = some (r1, r2, r3) := h
 clear h
 replace H := Option.bind_eq_some_iff.mp H
 obtain ⟨⟨t103, t104⟩, A20, H⟩ := H
 replace H : ((spec_l1Rd_pick.f k s0_0 t104 9).bind fun bt105 => (spec_l12Window.l0 k t103 bt105.1 s0_0 bt105.2 0 ([] : List Int))) = some (r1, r2, r3) := H
 have A2 := Aside0.mk A20
 clear A20
 replace H := Option.bind_eq_some_iff.mp H
 obtain ⟨⟨t105, t106⟩, A30, H⟩ := H
 replace H : (spec_l12Window.l0 k t103 t105 s0_0 t106 0 ([] : List Int)) = some (r1, r2, r3) := H
 have A3 := Aside0.mk A30
 clear A30
 have H' := Aside0.mk H
 clear H
 go_enter Try.func92, Try.ntmps92
 go_wp2_with (first | ((with_reducible refine gate_dst (N := 2) rfl ?_); refine box_event rfl (N := 2) rfl (cs := #[.int .i64 0, .slice none 0 0]) (t := 31) BX ?_; intro gb101 hg w4 hbox hb; replace HB := am (below_step (K1 HB (IsS124.ge HI0.out)) hb); have BK101 := am (hbox); have GW101 := am ((by rw [hg]; exact (keep_size (w := w) (g := g) (row := none) (J0 HK)) : w.heap.size ≤ gb101)); have GE101 := am ((Nat.le_trans HW0.out (by rw [hg]; exact (keep_size (w := w) (g := g) (row := none) (J0 HK)) : w.heap.size ≤ gb101) : w0.heap.size ≤ gb101)); replace HK := am (KeepBut.trans (J0 HK) (KeepBut.of_below hb g none) (.inl rfl)); have NB0_101 := am ((by rw [hg]; exact Nat.ne_of_lt (IsS124.lt (show IsS124 w0 _ g s0_0 s0_1 from I124_0 HI0)) : g ≠ gb101)); have NB101_0 := am ((by rw [hg]; exact Nat.ne_of_gt (IsS124.lt (show IsS124 w0 _ g s0_0 s0_1 from I124_0 HI0)) : gb101 ≠ g)); replace HI0 := am (IsS124.below (I124_0 HI0) hb); clear hb hbox hg) | ((with_reducible refine gate_dst (N := 3) rfl ?_); refine box_event rfl (N := 3) rfl (cs := #[.int .i64 0, .slice none 0 0]) (t := 31) BX ?_; intro gb102 hg w5 hbox hb; replace HB := am (below_step (K2 HB (IsS124.ge HI0.out) GE101.out) hb); have BK102 := am (hbox); have GW102 := am ((by rw [hg]; exact (keep_size (w := w) (g := g) (row := none) (J1 HK GW101.out)) : w.heap.size ≤ gb102)); have GE102 := am ((Nat.le_trans HW0.out (by rw [hg]; exact (keep_size (w := w) (g := g) (row := none) (J1 HK GW101.out)) : w.heap.size ≤ gb102) : w0.heap.size ≤ gb102)); replace HK := am (KeepBut.trans (J1 HK GW101.out) (KeepBut.of_below hb g none) (.inl rfl)); have NB101_102 := am (NL BK101 hg); have NB102_101 := am (NG BK101 hg); replace BK101 := am (BB BK101 hb); have NB0_102 := am ((by rw [hg]; exact Nat.ne_of_lt (IsS124.lt (show IsS124 w0 _ g s0_0 s0_1 from I124_1 HI0 NB0_101.out)) : g ≠ gb102)); have NB102_0 := am ((by rw [hg]; exact Nat.ne_of_gt (IsS124.lt (show IsS124 w0 _ g s0_0 s0_1 from I124_1 HI0 NB0_101.out)) : gb102 ≠ g)); replace HI0 := am (IsS124.below (I124_1 HI0 NB0_101.out) hb); clear hb hbox hg; have hnb6 := NB102_101.out; have hnc6 := NB101_102.out; have hnb7 := NB102_0.out; have hnc7 := NB0_102.out; obtain ⟨hcz8_0, hcz8_1, hfz8_0⟩ := y2 w5 BK102.out) | ((with_reducible refine gate_callee (f := 45) rfl ?_); refine goesL_ (some 8) rfl rfl Try.func45 (by kernel_rfl) rfl #[.pointer (some ⟨g, 0, none⟩), .int .i64 20] rfl MT ?_; (with_reducible refine (spec_l1Rd_pick.calls k g s0_0 s0_1 20 t103 t104 w0 _ ?side1 ?side2 A2.out).mono ?_); (case side1 => exact I124_2 HI0 NB0_101.out NB0_102.out); (case side2 => exact K3 HB (IsS124.ge HI0.out) GE101.out GE102.out); rintro e w9 ⟨rfl, hi, hb, hk⟩; refine ⟨_, rfl, ?_⟩; replace BK101 := am (KeepBut.blk hk (g' := gb101) (o := .cells #[.int .i64 0, .slice none 0 0] 31 (0, 0)) (by (with_reducible repeat (first | refine blk_drewN ?_ _ | refine blk_drew ?_ | refine blk_alloc ?_ _)); refine blk_far ?_ NB101_102.out _; (with_reducible repeat (first | refine blk_drewN ?_ _ | refine blk_drew ?_ | refine blk_alloc ?_ _)); refine blk_far ?_ NB101_102.out _; (with_reducible repeat (first | refine blk_drewN ?_ _ | refine blk_drew ?_ | refine blk_alloc ?_ _)); exact BK101.out) NB101_0.out (by simp)); replace BK102 := am (KeepBut.blk hk (g' := gb102) (o := .cells #[.int .i64 0, .slice none 0 0] 31 (0, 0)) (by (with_reducible repeat (first | refine blk_drewN ?_ _ | refine blk_drew ?_ | refine blk_alloc ?_ _)); refine blk_put (cs := #[.int .i64 0, .slice none 0 0]) ?_ 1 _ rfl; (with_reducible repeat (first | refine blk_drewN ?_ _ | refine blk_drew ?_ | refine blk_alloc ?_ _)); refine blk_put (cs := #[.int .i64 0, .slice none 0 0]) ?_ 0 _ rfl; (with_reducible repeat (first | refine blk_drewN ?_ _ | refine blk_drew ?_ | refine blk_alloc ?_ _)); exact BK102.out) NB102_0.out (by simp)); replace HK := am (KeepBut.trans (J2 HK GW101.out GW102.out) hk (.inl rfl)); replace HB := am (hb); replace HI0 := am (hi); (try clear hb); (try clear hb2); (try clear hk); (try clear hi)) | ((with_reducible refine gate_callee (f := 45) rfl ?_); refine goesL_ (some 10) rfl rfl Try.func45 (by kernel_rfl) rfl #[.pointer (some ⟨g, 0, none⟩), .int .i64 9] rfl MT ?_; (with_reducible refine (spec_l1Rd_pick.calls k g s0_0 t104 9 t105 t106 w0 _ ?side1 ?side2 A3.out).mono ?_); (case side1 => exact I124_2 HI0 NB0_101.out NB0_102.out); (case side2 => exact K3 HB (IsS124.ge HI0.out) GE101.out GE102.out); rintro e w10 ⟨rfl, hi, hb, hk⟩; refine ⟨_, rfl, ?_⟩; replace BK101 := am (KeepBut.blk hk (g' := gb101) (o := .cells #[.int .i64 0, .slice none 0 0] 31 (0, 0)) (KB BK101) NB101_0.out (by simp)); replace BK102 := am (KeepBut.blk hk (g' := gb102) (o := .cells #[.int .i64 0, .slice none 0 0] 31 (0, 0)) (KB BK102) NB102_0.out (by simp)); replace HK := am (KeepBut.trans (J2 HK GW101.out GW102.out) hk (.inl rfl)); replace HB := am (hb); replace HI0 := am (hi); (try clear hb); (try clear hk); (try clear hi)))
 go_loopg [4, 5] k (fun kq v4 v5 w' => ∃ (x4_1 : Int) (x5_1 : Int) (x1001_1 : Int) (x103000_1 : Int) (x103001_1 : List Int) (u103001 : Value), v4 = .int .i64 x4_1 ∧ v5 = .int .i64 x5_1 ∧ Aside0 (spec_l12Window.l0 kq x4_1 x5_1 s0_0 x1001_1 x103000_1 x103001_1 = some (r1, r2, r3)) ∧ Aside0 (kq ≤ k) ∧ Aside0 (Kd.R (Kd.int .i64) 3 w' w.heap.size (fun _ => True) u103001 x103001_1) ∧ Aside0 (w'.heap[gb101]? = some (.cells #[.int .i64 0, (.slice none 0 0)] 31 (0, 0))) ∧ Aside0 (w'.heap[gb102]? = some (.cells #[.int .i64 x103000_1, u103001] 31 (0, 0))) ∧ Aside0 (IsS124 w0 w' g s0_0 x1001_1) ∧ Aside0 (KeepBut w w' g none) ∧ Aside0 (Below w0.heap.size w0 w'))
 case atStart => exact ⟨(t103), (t105), (t106), (0), (([] : List Int)), (.slice none 0 0), (by first | rfl | (simp; done) | (simp [*]; done)), (by first | rfl | (simp; done) | (simp [*]; done)), H', ⟨Nat.le_refl _⟩, ⟨by first | exact Kd.R_nil _ _ _ _ _ | exact Kd.N_nil _ _ _ _ _ | exact Kd.V_nil _ _ _ _ _ | exact Kd.Q_nil _ _ _ _ _ | exact Kd.S_nil _ _ _ _ _⟩, ⟨KB BK101⟩, ⟨KB BK102⟩, ⟨I124_2 HI0 NB0_101.out NB0_102.out⟩, ⟨J2 HK GW101.out GW102.out⟩, ⟨K3 HB (IsS124.ge HI0.out) GE101.out GE102.out⟩⟩
 case round =>
  clear H'
  try clear p2
  try clear c4
  try clear c6
  try clear c7
  try clear c9
  try clear hcz8_0 hcz8_1 hfz8_0
  obtain ⟨x4_1, x5_1, x1001_1, x103000_1, x103001_1, u103001, rfl, rfl, HA, HK1, HO_103001, BK101, BK102, HI0, HK, HB⟩ := hrel
  cases gk with
  | zero => exact absurd HA.out (by simp [spec_l12Window.l0])
  | succ k1 =>
   have H := HA.out
   clear HA
   simp only [spec_l12Window.l0] at H
   by_cases c11 : x5_1 > 0
   ·rw [if_pos c11] at H
    have c11b0 : decide (0 < x5_1) = true := decide_eq_true c11
    clear c11
    replace H := Option.bind_eq_some_iff.mp H
    obtain ⟨⟨t107, t108⟩, A120, H⟩ := H
    replace H : ((spec_l7See.f k1 x103000_1 x103001_1 (wrap64 ((wrap64 (x4_1 + t107)) - 3))).bind fun bt109 => ((spec_l1Rd_one.f k1 s0_0 t108 (([1, 1, 2, 20] : List Int))).bind fun bt117 => (spec_l12Window.l0 k1 (wrap64 (x4_1 + bt117.1)) (wrap64 (x5_1 - 1)) s0_0 bt117.2 bt109.1 bt109.2.1))) = some (r1, r2, r3) := H
    have A12 := Aside0.mk A120
    clear A120
    replace H := Option.bind_eq_some_iff.mp H
    obtain ⟨⟨t109, t110, t113⟩, A130, H⟩ := H
    replace H : ((spec_l1Rd_one.f k1 s0_0 t108 (([1, 1, 2, 20] : List Int))).bind fun bt117 => (spec_l12Window.l0 k1 (wrap64 (x4_1 + bt117.1)) (wrap64 (x5_1 - 1)) s0_0 bt117.2 t109 t110)) = some (r1, r2, r3) := H
    have A13 := Aside0.mk A130
    clear A130
    obtain ⟨y114, hy114⟩ : ∃ y_ : List Int, y_ = (([1, 1, 2, 20] : List Int)) := ⟨_, rfl⟩
    replace H : ((spec_l1Rd_one.f k1 s0_0 t108 y114).bind fun bt117 => (spec_l12Window.l0 k1 (wrap64 (x4_1 + bt117.1)) (wrap64 (x5_1 - 1)) s0_0 bt117.2 t109 t110)) = some (r1, r2, r3) := by first | (rw [hy114]; with_reducible exact H) | (have H2_ := (Option.bind_some _ _).symm.trans H; rw [hy114]; with_reducible exact H2_) | (have H2_ := (Option.bind_some _ _).symm.trans H; with_reducible exact H2_) | with_reducible exact H | (rw [hy114]; exact H) | exact H
    have Ny114 := Aside0.mk hy114
    clear hy114
    replace H := Option.bind_eq_some_iff.mp H
    obtain ⟨⟨t117, t118⟩, A140, H⟩ := H
    replace H : (spec_l12Window.l0 k1 (wrap64 (x4_1 + t117)) (wrap64 (x5_1 - 1)) s0_0 t118 t109 t110) = some (r1, r2, r3) := H
    have A14 := Aside0.mk A140
    clear A140
    have H' := Aside0.mk H
    clear H
    try go_wp2
    replace HO_103001 := am (Kd.R_drew HO_103001.out)
    replace BK101 := am (blk_drew BK101.out)
    replace BK102 := am (blk_drew BK102.out)
    replace HI0 := am (IsS124.drew HI0.out)
    replace HK := am (keep_drew HK.out)
    replace HB := am (below_drew1 HB.out)
    refine start_ (n := 11) (S := fun w' => de2 w' gb102 (.int .i64 x103000_1) (u103001)) (ds := [10]) (tf 0 11) (by kernel_rfl) rfl rfl ⟨z0 _ BK102.out, z1 _ BK102.out⟩ (fun hHeld => ?_); refine with_tabW spec_l12Window.tab6 spec_l12Window.bits6 (fun HT_ HW_ => ?_)
    generalize wr.drew = w15 at HO_103001 BK101 BK102 HI0 HK HB hHeld ⊢
    refine pv HT_ 1 17 (tr [0, 1, 1, 9]) ?_
    refine pv HT_ 2 18 (tr [0, 1, 2, 8]) ?_
    refine tk 0 (some 16) (tf 3 8) (take_ofW HT_.out HW_.out (by kernel_rfl)) hHeld ?_
    refine one_ (i := 3) (N := some 19) (tf 4 7) rfl rfl (one_of HT_.out (by kernel_rfl)) (by decide) (fun K hK => ?_)
    refine goes_ Try.func45 (by kernel_rfl) rfl #[.pointer (some ⟨g, 0, none⟩), .int .i64 9] (by rfl) rfl rfl MT ?_
    with_reducible refine (spec_l1Rd_pick.calls k1 g s0_0 x1001_1 9 t107 t108 w0 _ ?side1 ?side2 A12.out).mono ?_
    (case side1 => exact I124_2 HI0 NB0_101.out NB0_102.out)
    (case side2 => exact K3 HB (IsS124.ge HI0.out) GE101.out GE102.out)
    rintro e w16 ⟨rfl, hi, hb, hk⟩
    refine ⟨_, rfl, ?_⟩
    replace HO_103001 := am (Kd.R_mono (Kd.R_keep (IsS124.apart (show IsS124 w0 _ g s0_0 x1001_1 from I124_2 HI0 NB0_101.out NB0_102.out) (KR HO_103001) (by decide)) hk (fun _ h => h.2)) (fun _ h => h.1))
    replace BK101 := am (KeepBut.blk hk (g' := gb101) (o := .cells #[.int .i64 0, .slice none 0 0] 31 (0, 0)) (KB BK101) NB101_0.out (by simp))
    replace BK102 := am (KeepBut.blk hk (g' := gb102) (o := .cells #[.int .i64 x103000_1, u103001] 31 (0, 0)) (KB BK102) NB102_0.out (by simp))
    replace HK := am (KeepBut.trans (J2 HK GW101.out GW102.out) hk (.inl rfl))
    replace HB := am (hb)
    replace HI0 := am (hi)
    (try clear hb)
    (try clear hb2)
    (try clear hk)
    (try clear hi)
    obtain ⟨Ao17, co17, eo17⟩ := Kd.R_slice HO_103001.out
    (first | subst eo17 | (injection eo17 with f1_ f2_ f3_; have f4_ := f1_.symm; have f5_ := f3_.symm; clear f1_ f2_ f3_; subst f4_; subst f5_))
    refine hK.out _ _ ⟨z0 _ BK102.out, z1 _ BK102.out⟩ (fun hHeld => ?_)
    clear hK K
    refine norm_ (a' := ?_) ?_ ?_
    rotate_left
    ·show Act.put _ (some 19) _ = _
     simp only [Act.put, List.setIfInBounds_toArray, List.set_cons_zero, List.set_cons_succ, i64_w, i32_w]
     rfl
    refine pv HT_ 4 20 (tf 5 6) ?_
    refine pv HT_ 5 21 (tf 6 5) ?_
    refine one_ (i := 6) (N := some 22) (tf 7 4) rfl rfl (one_of HT_.out (by kernel_rfl)) (by decide) (fun K hK => ?_)
    refine goes_ Try.func43 (by kernel_rfl) rfl #[.agg #[.int .i64 x103000_1, .slice Ao17 x103001_1.length co17], .int .i64 (wrap64 ((wrap64 (x4_1 + t107)) - 3))] (by rfl) rfl rfl MT ?_
    with_reducible refine (spec_l7See.calls k1 x103000_1 _ _ x103001_1 (wrap64 ((wrap64 (x4_1 + t107)) - 3)) t109 t110 t113 _ ?side1 ?side2 A13.out).mono ?_
    (case side1 => exact KC (Kd.R_reads' HO_103001.out).2.2)
    (case side2 => exact (Kd.R_reads' HO_103001.out).2.1)
    rintro e w18 ⟨v111, rfl, ho0, hb⟩
    refine ⟨_, rfl, ?_⟩
    have HO112 := am (Kd.R_lower (Kd.R_new' ho0 (Kd.R_lt (KR HO_103001))) (keep_size (w := w) (g := g) (row := none) (J2 HK GW101.out GW102.out)))
    replace HO_103001 := am (Kd.R_elder' (KR HO_103001) (Kd.R_base ho0) hb)
    replace BK101 := am (BB BK101 hb)
    replace BK102 := am (BB BK102 hb)
    replace HK := am (KeepBut.trans (J2 HK GW101.out GW102.out) (KeepBut.of_below hb g none) (.inl rfl))
    replace HB := am (below_step (K3 HB (IsS124.ge HI0.out) GE101.out GE102.out) hb)
    replace HI0 := am (IsS124.below (I124_2 HI0 NB0_101.out NB0_102.out) hb)
    (try clear hb)
    (try clear hb2)
    (try clear hk)
    (try clear hi)
    (try clear ho0)
    obtain ⟨Ao20, co20, eo20⟩ := Kd.R_slice HO112.out
    (first | subst eo20 | (injection eo20 with f1_ f2_ f3_; have f4_ := f1_.symm; have f5_ := f3_.symm; clear f1_ f2_ f3_; subst f4_; subst f5_))
    refine hK.out _ _ ⟨z0 _ BK102.out, z1 _ BK102.out⟩ (fun hHeld => ?_)
    clear hK K
    refine norm_ (a' := ?_) ?_ ?_
    rotate_left
    ·show Act.put _ (some 22) _ = _
     simp only [Act.put, List.setIfInBounds_toArray, List.set_cons_zero, List.set_cons_succ, i64_w, i32_w]
     rfl
    refine pv HT_ 7 15 (tf 8 3) ?_
    refine pv HT_ 8 23 (tf 9 2) ?_
    refine pv HT_ 9 24 (tf 10 1) ?_
    refine last_ (i := 10) (N := none) (tf 11 0) rfl rfl (one_of HT_.out (by kernel_rfl)) (by decide) (fun K hK => ?_)
    have hs19 : w18.cell? ⟨gb102, 0, none⟩ = some (.int .i64 x103000_1) := z0 _ BK102.out
    have hfs19 := blk_frozen BK102.out 0
    have hns19_0 := NB101_102.out
    have hms19_0 := NB102_101.out
    have hs21 : w18.cell? ⟨gb102, 1, none⟩ = some (.slice Ao17 x103001_1.length co17) := z1 _ BK102.out
    have hfs21 := blk_frozen BK102.out 1
    have hns21_0 := NB101_102.out
    have hms21_0 := NB102_101.out
    refine skip_ (w1 := ?_) (by rfl) rfl ?_ ?_
    rotate_left
    ·go_simp
     rfl
    refine hK.out _ _ ?_
    clear hK K
    refine done_ (done_of HT_.out (by kernel_rfl)) ?_
    try go_wp2_with (first | ((with_reducible refine gate_dst (N := 27) rfl ?_); refine Kd.R_lit (Kd.int .i64) _ 3 ?hg (N := 27) ?hd (xs := ([1, 1, 2, 20] : List Int)) (inner := [.int .i64 1, .int .i64 1, .int .i64 2, .int .i64 20]) (ok := fun _ => True) (okp := fun _ => True) ?hr ?hp (fun _ hk => hk) trivial (Below.refl _ _) (Nat.le_refl _) (by simp) ?_; (case hd => rfl); (case hg => rfl); (case hr => first | (go_simp; done) | (go_simp; rfl)); (case hp => exact (Reps.one (show Kd.M (Kd.int .i64) _ _ _ 1 [.int .i64 1] from rfl) (Reps.one (show Kd.M (Kd.int .i64) _ _ _ 1 [.int .i64 1] from rfl) (Reps.one (show Kd.M (Kd.int .i64) _ _ _ 2 [.int .i64 2] from rfl) (Reps.one (show Kd.M (Kd.int .i64) _ _ _ 20 [.int .i64 20] from rfl) (Reps.none _ _)))))); intro v115 w22 ho23 hb hg_ hnew_; clear hg_ hnew_; (first | rw [← Ny114.out] at ho23 | (simp only [Int.reduceToNat] at ho23; rw [← Ny114.out] at ho23)); have HO116 := am (Kd.R_lower (Kd.R_new' (Kd.R_new' ho23 (Kd.R_lt (by (with_reducible repeat (first | apply Kd.R_alloc | apply Kd.R_drewN | apply Kd.R_drew)); exact (RF HO_103001.out BK102.out)))) (Kd.R_lt (by (with_reducible repeat (first | apply Kd.R_alloc | apply Kd.R_drewN | apply Kd.R_drew)); exact (RF HO112.out BK102.out)))) (keep_size (w := w) (g := g) (row := none) (J2 HK GW101.out GW102.out))); replace HO_103001 := am (Kd.R_elder' (by (with_reducible repeat (first | apply Kd.R_alloc | apply Kd.R_drewN | apply Kd.R_drew)); exact (RF HO_103001.out BK102.out)) (Kd.R_base ho23) hb); replace HO112 := am (Kd.R_elder' (by (with_reducible repeat (first | apply Kd.R_alloc | apply Kd.R_drewN | apply Kd.R_drew)); exact (RF HO112.out BK102.out)) (Kd.R_base ho23) hb); replace BK101 := am (blk_below (g := gb101) (o := .cells #[.int .i64 0, .slice none 0 0] 31 (0, 0)) (by (with_reducible repeat (first | refine blk_drewN ?_ _ | refine blk_drew ?_ | refine blk_alloc ?_ _)); refine blk_far ?_ NB101_102.out _; (with_reducible repeat (first | refine blk_drewN ?_ _ | refine blk_drew ?_ | refine blk_alloc ?_ _)); refine blk_far ?_ NB101_102.out _; (with_reducible repeat (first | refine blk_drewN ?_ _ | refine blk_drew ?_ | refine blk_alloc ?_ _)); exact BK101.out) hb); replace BK102 := am (blk_below (g := gb102) (o := .cells #[.int .i64 t109, .slice Ao20 t110.length co20] 31 (0, 0)) (by (with_reducible repeat (first | refine blk_drewN ?_ _ | refine blk_drew ?_ | refine blk_alloc ?_ _)); refine blk_put (cs := #[.int .i64 t109, .slice Ao17 x103001_1.length co17]) ?_ 1 _ rfl; (with_reducible repeat (first | refine blk_drewN ?_ _ | refine blk_drew ?_ | refine blk_alloc ?_ _)); refine blk_put (cs := #[.int .i64 x103000_1, .slice Ao17 x103001_1.length co17]) ?_ 0 _ rfl; (with_reducible repeat (first | refine blk_drewN ?_ _ | refine blk_drew ?_ | refine blk_alloc ?_ _)); exact BK102.out) hb); replace HK := am (KeepBut.trans (J2 HK GW101.out GW102.out) (KeepBut.of_below hb g none) (.inl rfl)); replace HB := am (below_step (K3 HB (IsS124.ge HI0.out) GE101.out GE102.out) hb); replace HI0 := am (IsS124.below (show IsS124 w0 ((w18.setCell ⟨gb102, 0, none⟩ (.int .i64 t109)).setCell ⟨gb102, 1, none⟩ (.slice Ao20 t110.length co20)) g s0_0 t108 from I124_2 HI0 NB0_101.out NB0_102.out) hb); clear hb ho23; obtain ⟨Ao24, co24, eo24⟩ := Kd.R_slice HO116.out; subst eo24) | ((with_reducible refine gate_callee (f := 46) rfl ?_); refine goesL_ (some 28) rfl rfl Try.func46 (by kernel_rfl) rfl #[.pointer (some ⟨g, 0, none⟩), .slice Ao24 y114.length co24] rfl MT ?_; (with_reducible refine (spec_l1Rd_one.calls k1 g s0_0 t108 _ _ y114 t117 t118 w0 _ ?side1 ?side2 ?side3 ?side4 ?side5 A14.out).mono ?_); (case side1 => exact I124_2 HI0 NB0_101.out NB0_102.out); (case side2 => exact K3 HB (IsS124.ge HI0.out) GE101.out GE102.out); (case side3 => exact KC (Kd.R_reads' HO116.out).2.2); (case side4 => exact (Kd.R_reads' HO116.out).2.1); (case side5 => exact far_slice (IsS124.own_ne HI0.out HO116.out (by decide))); rintro e w25 ⟨rfl, hi, hb, hk⟩; refine ⟨_, rfl, ?_⟩; replace HO_103001 := am (Kd.R_mono (Kd.R_keep (IsS124.apart (show IsS124 w0 _ g s0_0 t108 from I124_2 HI0 NB0_101.out NB0_102.out) (KR HO_103001) (by decide)) hk (fun _ h => h.2)) (fun _ h => h.1)); replace BK101 := am (KeepBut.blk hk (g' := gb101) (o := .cells #[.int .i64 0, .slice none 0 0] 31 (0, 0)) (KB BK101) NB101_0.out (by simp)); replace BK102 := am (KeepBut.blk hk (g' := gb102) (o := .cells #[.int .i64 t109, .slice Ao20 t110.length co20] 31 (0, 0)) (KB BK102) NB102_0.out (by simp)); replace HO112 := am (Kd.R_mono (Kd.R_keep (IsS124.apart (show IsS124 w0 _ g s0_0 t108 from I124_2 HI0 NB0_101.out NB0_102.out) (KR HO112) (by decide)) hk (fun _ h => h.2)) (fun _ h => h.1)); replace HO116 := am (Kd.R_mono (Kd.R_keep (IsS124.apart (show IsS124 w0 _ g s0_0 t108 from I124_2 HI0 NB0_101.out NB0_102.out) (KR HO116) (by decide)) hk (fun _ h => h.2)) (fun _ h => h.1)); replace HK := am (KeepBut.trans (J2 HK GW101.out GW102.out) hk (.inl rfl)); replace HB := am (hb); replace HI0 := am (hi); (try clear hb); (try clear hk); (try clear hi)))
    go_roundg k1
    case measure => have := HK1.out; omega
    case rel => exact ⟨(wrap64 (x4_1 + t117)), (wrap64 (x5_1 - 1)), (t118), (t109), (t110), (.slice Ao20 t110.length co20), (by first | rfl | (simp; done) | (simp [*]; done)), (by first | rfl | (simp; done) | (simp [*]; done)), H', ⟨by have := HK1.out; omega⟩, ⟨by (with_reducible repeat (first | apply Kd.R_alloc | apply Kd.R_drewN | apply Kd.R_drew)); exact Kd.R_mono HO112.out (fun _ hk => trivial)⟩, ⟨KB BK101⟩, ⟨KB BK102⟩, ⟨I124_2 HI0 NB0_101.out NB0_102.out⟩, ⟨J2 HK GW101.out GW102.out⟩, ⟨K3 HB (IsS124.ge HI0.out) GE101.out GE102.out⟩⟩
   ·rw [if_neg c11] at H
    have c11b0 : decide (0 < x5_1) = false := decide_eq_false c11
    clear c11
    simp only [Option.some.injEq, Prod.mk.injEq] at H
    obtain ⟨rfl, rfl, rfl⟩ := H
    have hnb26 := NB102_101.out
    have hnc26 := NB101_102.out
    have hnb27 := NB102_0.out
    have hnc27 := NB0_102.out
    obtain ⟨hcz28_0, hcz28_1, hfz28_0⟩ := y2 wr BK102.out
    have hnb29 := NB101_0.out
    have hnc29 := NB0_101.out
    obtain ⟨hcz30_0, hcz30_1, hfz30_0⟩ := y2 wr BK101.out
    obtain ⟨Ao31, co31, eo31⟩ := Kd.R_slice HO_103001.out
    subst eo31
    go_wp2
    refine bodyPost_ret (results_cell_row rfl _ _ gb101 31 #[.int .i64 x103000_1, .slice Ao31 x103001_1.length co31] (0, 0) _ rfl (by (with_reducible repeat (first | refine blk_drewN ?_ _ | refine blk_drew ?_ | refine blk_alloc ?_ _)); refine blk_put (cs := #[.int .i64 x103000_1, .slice none 0 0]) ?_ 1 _ rfl; (with_reducible repeat (first | refine blk_drewN ?_ _ | refine blk_drew ?_ | refine blk_alloc ?_ _)); refine blk_put (cs := #[.int .i64 0, .slice none 0 0]) ?_ 0 _ rfl; (with_reducible repeat (first | refine blk_drewN ?_ _ | refine blk_drew ?_ | refine blk_alloc ?_ _)); exact BK101.out) Try.underlying31 rfl (by kernel_rfl)) rfl ?_
    exact ⟨_, ER, by (with_reducible repeat (first | apply Kd.R_alloc | apply Kd.R_drewN | apply Kd.R_drew)); exact Kd.R_mono (Kd.R_far (p := ⟨gb101, 1, none⟩) (Kd.R_far (p := ⟨gb101, 0, none⟩) (Kd.R_types HO_103001.out BK101.out (by decide)) (fun _ hk => hk.2) (.int .i64 x103000_1)) (fun _ hk => hk.2) (.slice Ao31 x103001_1.length co31)) (fun _ hk => trivial), I124_2 HI0 NB0_101.out NB0_102.out, K3 HB (IsS124.ge HI0.out) GE101.out GE102.out, J2 HK GW101.out GW102.out⟩
def spec_l12AnyWindow.f (k : Nat) (s0_0 : List Int) (s0_1 : Int) : Option (Int × List Int × Int) := (spec_l12Window.f k s0_0 s0_1).bind fun bt102 => ((spec_l1Rd_pick.f k s0_0 bt102.2.2 16).bind fun bt108 => (if bt108.1 = 0 then ((spec_l1Rd_one.f k s0_0 bt108.2 (([1, (-1), 20] : List Int))).bind fun bt113 => (some (wrap64 (bt102.1 + bt113.1), bt102.2.1, bt113.2))) else (if bt108.1 = 1 then ((spec_l1Rd_pick.f k s0_0 bt108.2 30).bind fun bt115 => (if bt102.2.1.length < 17592186044416 then (some (bt102.1, (bt102.2.1 ++ [bt115.1]), bt115.2)) else (none))) else (some (bt102.1, bt102.2.1, bt108.2)))))
def spec_l12AnyWindow.T4 : Bool × List (List Nat × List Nat) := (true, [([], []), ([0], [0]), ([], []), ([], []), ([2, 3], [2, 3]), ([1, 4], [1, 4]), ([0, 1, 2, 3, 4, 5], []), ([6, 5, 4, 0, 1, 2, 3, 4, 5], [5, 6])])
def spec_l12AnyWindow.B4 : List Nat := [0, 1, 0, 0, 12, 31, 63, 127]
theorem spec_l12AnyWindow.tab4 : rtab .any (opsOf Try.f47 4) = spec_l12AnyWindow.T4 := by kernel_rfl
theorem spec_l12AnyWindow.bits4 : waitsOk spec_l12AnyWindow.T4.2 spec_l12AnyWindow.B4 = true := by kernel_rfl
def spec_l12AnyWindow.T6 : Bool × List (List Nat × List Nat) := (true, [([], []), ([0], [0]), ([], []), ([2], [2]), ([3], [3]), ([1, 4, 3], [1, 4]), ([0, 1, 2, 3, 4, 5], []), ([6, 5, 5, 0, 1, 2, 3, 4, 5], [5, 6])])
def spec_l12AnyWindow.B6 : List Nat := [0, 1, 0, 4, 12, 31, 63, 127]
theorem spec_l12AnyWindow.tab6 : rtab .any (opsOf Try.f47 6) = spec_l12AnyWindow.T6 := by kernel_rfl
theorem spec_l12AnyWindow.bits6 : waitsOk spec_l12AnyWindow.T6.2 spec_l12AnyWindow.B6 = true := by kernel_rfl
set_option maxHeartbeats 8000000 in
set_option maxRecDepth 100000 in
theorem spec_l12AnyWindow.calls (k : Nat) (g : Nat) (s0_0 : List Int) (s0_1 : Int) (r1 : Int) (r2 : List Int) (r3 : Int) (w0 w : World) (hI : IsS124 w0 w g s0_0 s0_1) (hB : Below w0.heap.size w0 w) (h : spec_l12AnyWindow.f k s0_0 s0_1 = some (r1, r2, r3)) :
  Calls Try.prog 47 #[.pointer (some ⟨g, 0, none⟩)] w fun e w' => ∃ v1_ : Value, e = .returned (.agg #[.int .i64 r1, v1_]) ∧ Kd.R (Kd.int .i64) 3 w' w.heap.size (fun _ => True) v1_ r2 ∧ IsS124 w0 w' g s0_0 r3 ∧ Below w0.heap.size w0 w' ∧ KeepBut w w' g none := by
 have hu31 := Try.underlying31
 have HI0 := Aside0.mk hI
 have HK := am (KeepBut.refl w g none)
 have HL := Aside0.mk hB.size
 clear hI
 have HW0 := Aside0.mk hB.size
 have HB := Aside0.mk hB
 clear hB
 have H : ((spec_l12Window.f k s0_0 s0_1).bind fun bt102 => ((spec_l1Rd_pick.f k s0_0 bt102.2.2 16).bind fun bt108 => (if bt108.1 = 0 then ((spec_l1Rd_one.f k s0_0 bt108.2 (([1, (-1), 20] : List Int))).bind fun bt113 => (some (wrap64 (bt102.1 + bt113.1), bt102.2.1, bt113.2))) else (if bt108.1 = 1 then ((spec_l1Rd_pick.f k s0_0 bt108.2 30).bind fun bt115 => (if bt102.2.1.length < 17592186044416 then (some (bt102.1, (bt102.2.1 ++ [bt115.1]), bt115.2)) else (none))) else (some (bt102.1, bt102.2.1, bt108.2)))))) = some (r1, r2, r3) := h
 clear h
 replace H := Option.bind_eq_some_iff.mp H
 obtain ⟨⟨t102, t103, t106⟩, A20, H⟩ := H
 replace H : ((spec_l1Rd_pick.f k s0_0 t106 16).bind fun bt108 => (if bt108.1 = 0 then ((spec_l1Rd_one.f k s0_0 bt108.2 (([1, (-1), 20] : List Int))).bind fun bt113 => (some (wrap64 (t102 + bt113.1), t103, bt113.2))) else (if bt108.1 = 1 then ((spec_l1Rd_pick.f k s0_0 bt108.2 30).bind fun bt115 => (if t103.length < 17592186044416 then (some (t102, (t103 ++ [bt115.1]), bt115.2)) else (none))) else (some (t102, t103, bt108.2))))) = some (r1, r2, r3) := H
 have A2 := Aside0.mk A20
 clear A20
 replace H := Option.bind_eq_some_iff.mp H
 obtain ⟨⟨t108, t109⟩, A30, H⟩ := H
 replace H : (if t108 = 0 then ((spec_l1Rd_one.f k s0_0 t109 (([1, (-1), 20] : List Int))).bind fun bt113 => (some (wrap64 (t102 + bt113.1), t103, bt113.2))) else (if t108 = 1 then ((spec_l1Rd_pick.f k s0_0 t109 30).bind fun bt115 => (if t103.length < 17592186044416 then (some (t102, (t103 ++ [bt115.1]), bt115.2)) else (none))) else (some (t102, t103, t109)))) = some (r1, r2, r3) := H
 have A3 := Aside0.mk A30
 clear A30
 by_cases c4 : t108 = 0
 ·rw [if_pos c4] at H
  have c4b0 : (t108 == 0) = true := beq_iff_eq.mpr c4
  have c4b1 : (t108 != 0) = false := bne_eq_false_iff_eq.mpr c4
  clear c4
  obtain ⟨y110, hy110⟩ : ∃ y_ : List Int, y_ = (([1, (-1), 20] : List Int)) := ⟨_, rfl⟩
  replace H : ((spec_l1Rd_one.f k s0_0 t109 y110).bind fun bt113 => (some (wrap64 (t102 + bt113.1), t103, bt113.2))) = some (r1, r2, r3) := by first | (rw [hy110]; with_reducible exact H) | (have H2_ := (Option.bind_some _ _).symm.trans H; rw [hy110]; with_reducible exact H2_) | (have H2_ := (Option.bind_some _ _).symm.trans H; with_reducible exact H2_) | with_reducible exact H | (rw [hy110]; exact H) | exact H
  have Ny110 := Aside0.mk hy110
  clear hy110
  replace H := Option.bind_eq_some_iff.mp H
  obtain ⟨⟨t113, t114⟩, A50, H⟩ := H
  replace H : (some (wrap64 (t102 + t113), t103, t114)) = some (r1, r2, r3) := H
  have A5 := Aside0.mk A50
  clear A50
  simp only [Option.some.injEq, Prod.mk.injEq] at H
  obtain ⟨rfl, rfl, rfl⟩ := H
  go_enter Try.func47, Try.ntmps47
  try go_wp2_with (first | ((with_reducible refine gate_dst (N := 2) rfl ?_); refine box_event rfl (N := 2) rfl (cs := #[.int .i64 0, .slice none 0 0]) (t := 31) BX ?_; intro gb101 hg w6 hbox hb; replace HB := am (below_step (K1 HB (IsS124.ge HI0.out)) hb); have BK101 := am (hbox); have GW101 := am ((by rw [hg]; exact (keep_size (w := w) (g := g) (row := none) (J0 HK)) : w.heap.size ≤ gb101)); have GE101 := am ((Nat.le_trans HW0.out (by rw [hg]; exact (keep_size (w := w) (g := g) (row := none) (J0 HK)) : w.heap.size ≤ gb101) : w0.heap.size ≤ gb101)); replace HK := am (KeepBut.trans (J0 HK) (KeepBut.of_below hb g none) (.inl rfl)); have NB0_101 := am ((by rw [hg]; exact Nat.ne_of_lt (IsS124.lt (show IsS124 w0 _ g s0_0 s0_1 from I124_0 HI0)) : g ≠ gb101)); have NB101_0 := am ((by rw [hg]; exact Nat.ne_of_gt (IsS124.lt (show IsS124 w0 _ g s0_0 s0_1 from I124_0 HI0)) : gb101 ≠ g)); replace HI0 := am (IsS124.below (I124_0 HI0) hb); clear hb hbox hg) | ((with_reducible refine gate_callee (f := 92) rfl ?_); refine goesL_ (some 5) rfl rfl Try.func92 (by kernel_rfl) rfl #[.pointer (some ⟨g, 0, none⟩)] rfl MT ?_; (with_reducible refine (spec_l12Window.calls k g s0_0 s0_1 t102 t103 t106 w0 _ ?side1 ?side2 A2.out).mono ?_); (case side1 => exact I124_1 HI0 NB0_101.out); (case side2 => exact K2 HB (IsS124.ge HI0.out) GE101.out); rintro e w7 ⟨v104, rfl, ho0, hi, hb, hk⟩; refine ⟨_, rfl, ?_⟩; replace BK101 := am (KeepBut.blk hk (g' := gb101) (o := .cells #[.int .i64 0, .slice none 0 0] 31 (0, 0)) (KB BK101) NB101_0.out (by simp)); have HO105 := am (Kd.R_lower ho0 (keep_size (w := w) (g := g) (row := none) (J1 HK GW101.out))); replace HK := am (KeepBut.trans (J1 HK GW101.out) hk (.inl rfl)); replace HB := am (hb); replace HI0 := am (hi); (try clear hb); (try clear hk); (try clear hi); (try clear ho0)) | ((with_reducible refine gate_dst (N := 3) rfl ?_); refine box_event rfl (N := 3) rfl (cs := #[.int .i64 0, .slice none 0 0]) (t := 31) BX ?_; intro gb107 hg w8 hbox hb; replace HO105 := am (Kd.R_below (KR HO105) hb); replace HB := am (below_step (K2 HB (IsS124.ge HI0.out) GE101.out) hb); have BK107 := am (hbox); have GW107 := am ((by rw [hg]; exact (keep_size (w := w) (g := g) (row := none) (J1 HK GW101.out)) : w.heap.size ≤ gb107)); have GE107 := am ((Nat.le_trans HW0.out (by rw [hg]; exact (keep_size (w := w) (g := g) (row := none) (J1 HK GW101.out)) : w.heap.size ≤ gb107) : w0.heap.size ≤ gb107)); replace HK := am (KeepBut.trans (J1 HK GW101.out) (KeepBut.of_below hb g none) (.inl rfl)); have NB101_107 := am (NL BK101 hg); have NB107_101 := am (NG BK101 hg); replace BK101 := am (BB BK101 hb); have NB0_107 := am ((by rw [hg]; exact Nat.ne_of_lt (IsS124.lt (show IsS124 w0 _ g s0_0 t106 from I124_1 HI0 NB0_101.out)) : g ≠ gb107)); have NB107_0 := am ((by rw [hg]; exact Nat.ne_of_gt (IsS124.lt (show IsS124 w0 _ g s0_0 t106 from I124_1 HI0 NB0_101.out)) : gb107 ≠ g)); replace HI0 := am (IsS124.below (I124_1 HI0 NB0_101.out) hb); clear hb hbox hg; have hnb9 := NB107_101.out; have hnc9 := NB101_107.out; have hnb10 := NB107_0.out; have hnc10 := NB0_107.out; obtain ⟨hcz11_0, hcz11_1, hfz11_0⟩ := y2 w8 BK107.out; obtain ⟨Ao12, co12, eo12⟩ := Kd.R_slice HO105.out; subst eo12) | ((with_reducible refine gate_callee (f := 45) rfl ?_); refine goesL_ (some 7) rfl rfl Try.func45 (by kernel_rfl) rfl #[.pointer (some ⟨g, 0, none⟩), .int .i64 16] rfl MT ?_; (with_reducible refine (spec_l1Rd_pick.calls k g s0_0 t106 16 t108 t109 w0 _ ?side1 ?side2 A3.out).mono ?_); (case side1 => exact I124_2 HI0 NB0_101.out NB0_107.out); (case side2 => exact K3 HB (IsS124.ge HI0.out) GE101.out GE107.out); rintro e w13 ⟨rfl, hi, hb, hk⟩; refine ⟨_, rfl, ?_⟩; replace BK101 := am (KeepBut.blk hk (g' := gb101) (o := .cells #[.int .i64 0, .slice none 0 0] 31 (0, 0)) (by (with_reducible repeat (first | refine blk_drewN ?_ _ | refine blk_drew ?_ | refine blk_alloc ?_ _)); refine blk_far ?_ NB101_107.out _; (with_reducible repeat (first | refine blk_drewN ?_ _ | refine blk_drew ?_ | refine blk_alloc ?_ _)); refine blk_far ?_ NB101_107.out _; (with_reducible repeat (first | refine blk_drewN ?_ _ | refine blk_drew ?_ | refine blk_alloc ?_ _)); exact BK101.out) NB101_0.out (by simp)); replace HO105 := am (Kd.R_mono (Kd.R_keep (IsS124.apart (show IsS124 w0 _ g s0_0 t106 from I124_2 HI0 NB0_101.out NB0_107.out) (by (with_reducible repeat (first | apply Kd.R_alloc | apply Kd.R_drewN | apply Kd.R_drew)); exact (RF HO105.out BK107.out)) (by decide)) hk (fun _ h => h.2)) (fun _ h => h.1)); replace BK107 := am (KeepBut.blk hk (g' := gb107) (o := .cells #[.int .i64 t102, .slice Ao12 t103.length co12] 31 (0, 0)) (by (with_reducible repeat (first | refine blk_drewN ?_ _ | refine blk_drew ?_ | refine blk_alloc ?_ _)); refine blk_put (cs := #[.int .i64 t102, .slice none 0 0]) ?_ 1 _ rfl; (with_reducible repeat (first | refine blk_drewN ?_ _ | refine blk_drew ?_ | refine blk_alloc ?_ _)); refine blk_put (cs := #[.int .i64 0, .slice none 0 0]) ?_ 0 _ rfl; (with_reducible repeat (first | refine blk_drewN ?_ _ | refine blk_drew ?_ | refine blk_alloc ?_ _)); exact BK107.out) NB107_0.out (by simp)); replace HK := am (KeepBut.trans (J2 HK GW101.out GW107.out) hk (.inl rfl)); replace HB := am (hb); replace HI0 := am (hi); (try clear hb); (try clear hb2); (try clear hk); (try clear hi)))
  replace HO105 := am (Kd.R_drew HO105.out)
  replace BK101 := am (blk_drew BK101.out)
  replace BK107 := am (blk_drew BK107.out)
  replace HI0 := am (IsS124.drew HI0.out)
  replace HK := am (keep_drew HK.out)
  replace HB := am (below_drew1 HB.out)
  refine start_ (n := 8) (S := fun w' => de2 w' gb107 (.int .i64 t102) (.slice Ao12 t103.length co12)) (ds := [7]) (tf 0 8) (by kernel_rfl) rfl rfl ⟨z0 _ BK107.out, z1 _ BK107.out⟩ (fun hHeld => ?_); refine with_tabW spec_l12AnyWindow.tab4 spec_l12AnyWindow.bits4 (fun HT_ HW_ => ?_)
  generalize w13.drew = w14 at HO105 BK101 BK107 HI0 HK HB hHeld ⊢
  refine pv HT_ 0 10 (tf 1 7) ?_
  refine pv HT_ 2 12 (tr [1, 1, 1, 5]) ?_
  refine tk 1 (some 11) (tf 3 5) (take_ofW HT_.out HW_.out (by kernel_rfl)) hHeld ?_
  refine one_ (i := 3) (N := some 13) (tf 4 4) rfl rfl (one_of HT_.out (by kernel_rfl)) (by decide) (fun K hK => ?_)
  refine Kd.R_lit_step (Kd.int .i64) _ 3 ?hg (N := 13) ?hd (xs := ([1, (-1), 20] : List Int)) (inner := [.int .i64 1, .int .i64 (-1), .int .i64 20]) (ok := fun _ => True) (okp := fun _ => True) ?hr ?hp (fun _ hk => hk) trivial (Below.refl _ _) (Nat.le_refl _) (by simp) ?_; (case hd => rfl); (case hg => rfl); (case hr => first | (go_simp; done) | (go_simp; rfl)); (case hp => exact (Reps.one (show Kd.M (Kd.int .i64) _ _ _ 1 [.int .i64 1] from rfl) (Reps.one (show Kd.M (Kd.int .i64) _ _ _ (-1) [.int .i64 (-1)] from rfl) (Reps.one (show Kd.M (Kd.int .i64) _ _ _ 20 [.int .i64 20] from rfl) (Reps.none _ _)))))
  intro v111 w15 ho16 hb hg_ hnew_
  clear hg_ hnew_
  (first | rw [← Ny110.out] at ho16 | (simp only [Int.reduceToNat] at ho16; rw [← Ny110.out] at ho16))
  have HO112 := am (Kd.R_lower (Kd.R_new' ho16 (Kd.R_lt (KR HO105))) (keep_size (w := w) (g := g) (row := none) (J2 HK GW101.out GW107.out)))
  replace HO105 := am (Kd.R_elder' (KR HO105) (Kd.R_base ho16) hb)
  replace BK101 := am (BB BK101 hb)
  replace BK107 := am (BB BK107 hb)
  replace HK := am (KeepBut.trans (J2 HK GW101.out GW107.out) (KeepBut.of_below hb g none) (.inl rfl))
  replace HB := am (below_step (K3 HB (IsS124.ge HI0.out) GE101.out GE107.out) hb)
  replace HI0 := am (IsS124.below (I124_2 HI0 NB0_101.out NB0_107.out) hb)
  clear hb ho16
  obtain ⟨Ao17, co17, eo17⟩ := Kd.R_slice HO112.out
  (first | subst eo17 | (injection eo17 with f1_ f2_ f3_; have f4_ := f1_.symm; have f5_ := f3_.symm; clear f1_ f2_ f3_; subst f4_; subst f5_))
  refine hK.out _ _ ⟨z0 _ BK107.out, z1 _ BK107.out⟩ (fun hHeld => ?_)
  clear hK K
  refine norm_ (a' := ?_) ?_ ?_
  rotate_left
  ·show Act.put _ (some 13) _ = _
   simp only [Act.put, List.setIfInBounds_toArray, List.set_cons_zero, List.set_cons_succ, i64_w, i32_w]
   rfl
  refine one_ (i := 4) (N := some 14) (tf 5 3) rfl rfl (one_of HT_.out (by kernel_rfl)) (by decide) (fun K hK => ?_)
  refine goes_ Try.func46 (by kernel_rfl) rfl #[.pointer (some ⟨g, 0, none⟩), .slice Ao17 y110.length co17] (by rfl) rfl rfl MT ?_
  with_reducible refine (spec_l1Rd_one.calls k g s0_0 t109 _ _ y110 t113 t114 w0 _ ?side1 ?side2 ?side3 ?side4 ?side5 A5.out).mono ?_
  (case side1 => exact I124_2 HI0 NB0_101.out NB0_107.out)
  (case side2 => exact K3 HB (IsS124.ge HI0.out) GE101.out GE107.out)
  (case side3 => exact KC (Kd.R_reads' HO112.out).2.2)
  (case side4 => exact (Kd.R_reads' HO112.out).2.1)
  (case side5 => exact far_slice (IsS124.own_ne HI0.out HO112.out (by decide)))
  rintro e w18 ⟨rfl, hi, hb, hk⟩
  refine ⟨_, rfl, ?_⟩
  replace BK101 := am (KeepBut.blk hk (g' := gb101) (o := .cells #[.int .i64 0, .slice none 0 0] 31 (0, 0)) (KB BK101) NB101_0.out (by simp))
  replace HO105 := am (Kd.R_mono (Kd.R_keep (IsS124.apart (show IsS124 w0 _ g s0_0 t109 from I124_2 HI0 NB0_101.out NB0_107.out) (KR HO105) (by decide)) hk (fun _ h => h.2)) (fun _ h => h.1))
  replace BK107 := am (KeepBut.blk hk (g' := gb107) (o := .cells #[.int .i64 t102, .slice Ao12 t103.length co12] 31 (0, 0)) (KB BK107) NB107_0.out (by simp))
  replace HO112 := am (Kd.R_mono (Kd.R_keep (IsS124.apart (show IsS124 w0 _ g s0_0 t109 from I124_2 HI0 NB0_101.out NB0_107.out) (KR HO112) (by decide)) hk (fun _ h => h.2)) (fun _ h => h.1))
  replace HK := am (KeepBut.trans (J2 HK GW101.out GW107.out) hk (.inl rfl))
  replace HB := am (hb)
  replace HI0 := am (hi)
  (try clear hb)
  (try clear hb2)
  (try clear hk)
  (try clear hi)
  refine hK.out _ _ ⟨z0 _ BK107.out, z1 _ BK107.out⟩ (fun hHeld => ?_)
  clear hK K
  refine norm_ (a' := ?_) ?_ ?_
  rotate_left
  ·show Act.put _ (some 14) _ = _
   simp only [Act.put, List.setIfInBounds_toArray, List.set_cons_zero, List.set_cons_succ, i64_w, i32_w]
   rfl
  refine pv HT_ 5 15 (tf 6 2) ?_
  refine pv HT_ 6 16 (tf 7 1) ?_
  refine last_ (i := 7) (N := none) (tf 8 0) rfl rfl (one_of HT_.out (by kernel_rfl)) (by decide) (fun K hK => ?_)
  have hs19 : w18.cell? ⟨gb107, 0, none⟩ = some (.int .i64 t102) := z0 _ BK107.out
  have hfs19 := blk_frozen BK107.out 0
  have hns19_0 := NB101_107.out
  have hms19_0 := NB107_101.out
  refine skip_ (w1 := ?_) (by rfl) rfl ?_ ?_
  rotate_left
  ·go_simp
   rfl
  refine hK.out _ _ ?_
  clear hK K
  refine done_ (done_of HT_.out (by kernel_rfl)) ?_
  obtain ⟨hcz20_0, hcz20_1, hfz20_0⟩ := y2 w18 BK107.out
  have hnb21 := NB101_0.out
  have hnc21 := NB0_101.out
  obtain ⟨hcz22_0, hcz22_1, hfz22_0⟩ := y2 w18 BK101.out
  try go_wp2
  refine bodyPost_ret (results_cell_row rfl _ _ gb101 31 #[.int .i64 (wrap64 (t102 + t113)), .slice Ao12 t103.length co12] (0, 0) _ rfl (by (with_reducible repeat (first | refine blk_drewN ?_ _ | refine blk_drew ?_ | refine blk_alloc ?_ _)); refine blk_put (cs := #[.int .i64 (wrap64 (t102 + t113)), .slice none 0 0]) ?_ 1 _ rfl; (with_reducible repeat (first | refine blk_drewN ?_ _ | refine blk_drew ?_ | refine blk_alloc ?_ _)); refine blk_put (cs := #[.int .i64 0, .slice none 0 0]) ?_ 0 _ rfl; (with_reducible repeat (first | refine blk_drewN ?_ _ | refine blk_drew ?_ | refine blk_alloc ?_ _)); refine blk_far ?_ NB101_107.out _; (with_reducible repeat (first | refine blk_drewN ?_ _ | refine blk_drew ?_ | refine blk_alloc ?_ _)); exact BK101.out) Try.underlying31 rfl (by kernel_rfl)) rfl ?_
  exact ⟨_, ER, by (with_reducible repeat (first | apply Kd.R_alloc | apply Kd.R_drewN | apply Kd.R_drew)); exact Kd.R_mono (Kd.R_far (p := ⟨gb101, 1, none⟩) (Kd.R_far (p := ⟨gb101, 0, none⟩) (Kd.R_far (p := ⟨gb107, 0, none⟩) (Kd.R_types (Kd.R_types HO105.out BK107.out (by decide)) BK101.out (by decide)) (fun _ hk => hk.1.2) (.int .i64 (wrap64 (t102 + t113)))) (fun _ hk => hk.2) (.int .i64 (wrap64 (t102 + t113)))) (fun _ hk => hk.2) (.slice Ao12 t103.length co12)) (fun _ hk => trivial), I124_2 HI0 NB0_101.out NB0_107.out, K3 HB (IsS124.ge HI0.out) GE101.out GE107.out, J2 HK GW101.out GW107.out⟩
 ·rw [if_neg c4] at H
  have c4b0 : (t108 == 0) = false := beq_eq_false_iff_ne.mpr c4
  have c4b1 : (t108 != 0) = true := bne_iff_ne.mpr c4
  by_cases c23 : t108 = 1
  ·rw [if_pos c23] at H
   have c23b0 : (t108 == 1) = true := beq_iff_eq.mpr c23
   have c23b1 : (t108 != 1) = false := bne_eq_false_iff_eq.mpr c23
   clear c23
   replace H := Option.bind_eq_some_iff.mp H
   obtain ⟨⟨t115, t116⟩, A240, H⟩ := H
   replace H : (if t103.length < 17592186044416 then (some (t102, (t103 ++ [t115]), t116)) else (none)) = some (r1, r2, r3) := H
   have A24 := Aside0.mk A240
   clear A240
   by_cases c25 : t103.length < 17592186044416
   ·rw [if_pos c25] at H
    have LMc25 := Aside0.mk c25
    clear c25
    obtain ⟨y117, hy117⟩ : ∃ y_ : List Int, y_ = (t103 ++ [t115]) := ⟨_, rfl⟩
    replace H : (some (t102, y117, t116)) = some (r1, r2, r3) := by first | (rw [hy117]; with_reducible exact H) | (have H2_ := (Option.bind_some _ _).symm.trans H; rw [hy117]; with_reducible exact H2_) | (have H2_ := (Option.bind_some _ _).symm.trans H; with_reducible exact H2_) | with_reducible exact H | (rw [hy117]; exact H) | exact H
    have Ny117 := Aside0.mk hy117
    clear hy117
    simp only [Option.some.injEq, Prod.mk.injEq] at H
    obtain ⟨rfl, rfl, rfl⟩ := H
    go_enter Try.func47, Try.ntmps47
    try go_wp2_with (first | ((with_reducible refine gate_dst (N := 2) rfl ?_); refine box_event rfl (N := 2) rfl (cs := #[.int .i64 0, .slice none 0 0]) (t := 31) BX ?_; intro gb101 hg w26 hbox hb; replace HB := am (below_step (K1 HB (IsS124.ge HI0.out)) hb); have BK101 := am (hbox); have GW101 := am ((by rw [hg]; exact (keep_size (w := w) (g := g) (row := none) (J0 HK)) : w.heap.size ≤ gb101)); have GE101 := am ((Nat.le_trans HW0.out (by rw [hg]; exact (keep_size (w := w) (g := g) (row := none) (J0 HK)) : w.heap.size ≤ gb101) : w0.heap.size ≤ gb101)); replace HK := am (KeepBut.trans (J0 HK) (KeepBut.of_below hb g none) (.inl rfl)); have NB0_101 := am ((by rw [hg]; exact Nat.ne_of_lt (IsS124.lt (show IsS124 w0 _ g s0_0 s0_1 from I124_0 HI0)) : g ≠ gb101)); have NB101_0 := am ((by rw [hg]; exact Nat.ne_of_gt (IsS124.lt (show IsS124 w0 _ g s0_0 s0_1 from I124_0 HI0)) : gb101 ≠ g)); replace HI0 := am (IsS124.below (I124_0 HI0) hb); clear hb hbox hg) | ((with_reducible refine gate_callee (f := 92) rfl ?_); refine goesL_ (some 5) rfl rfl Try.func92 (by kernel_rfl) rfl #[.pointer (some ⟨g, 0, none⟩)] rfl MT ?_; (with_reducible refine (spec_l12Window.calls k g s0_0 s0_1 t102 t103 t106 w0 _ ?side1 ?side2 A2.out).mono ?_); (case side1 => exact I124_1 HI0 NB0_101.out); (case side2 => exact K2 HB (IsS124.ge HI0.out) GE101.out); rintro e w27 ⟨v104, rfl, ho0, hi, hb, hk⟩; refine ⟨_, rfl, ?_⟩; replace BK101 := am (KeepBut.blk hk (g' := gb101) (o := .cells #[.int .i64 0, .slice none 0 0] 31 (0, 0)) (KB BK101) NB101_0.out (by simp)); have HO105 := am (Kd.R_lower ho0 (keep_size (w := w) (g := g) (row := none) (J1 HK GW101.out))); replace HK := am (KeepBut.trans (J1 HK GW101.out) hk (.inl rfl)); replace HB := am (hb); replace HI0 := am (hi); (try clear hb); (try clear hk); (try clear hi); (try clear ho0)) | ((with_reducible refine gate_dst (N := 3) rfl ?_); refine box_event rfl (N := 3) rfl (cs := #[.int .i64 0, .slice none 0 0]) (t := 31) BX ?_; intro gb107 hg w28 hbox hb; replace HO105 := am (Kd.R_below (KR HO105) hb); replace HB := am (below_step (K2 HB (IsS124.ge HI0.out) GE101.out) hb); have BK107 := am (hbox); have GW107 := am ((by rw [hg]; exact (keep_size (w := w) (g := g) (row := none) (J1 HK GW101.out)) : w.heap.size ≤ gb107)); have GE107 := am ((Nat.le_trans HW0.out (by rw [hg]; exact (keep_size (w := w) (g := g) (row := none) (J1 HK GW101.out)) : w.heap.size ≤ gb107) : w0.heap.size ≤ gb107)); replace HK := am (KeepBut.trans (J1 HK GW101.out) (KeepBut.of_below hb g none) (.inl rfl)); have NB101_107 := am (NL BK101 hg); have NB107_101 := am (NG BK101 hg); replace BK101 := am (BB BK101 hb); have NB0_107 := am ((by rw [hg]; exact Nat.ne_of_lt (IsS124.lt (show IsS124 w0 _ g s0_0 t106 from I124_1 HI0 NB0_101.out)) : g ≠ gb107)); have NB107_0 := am ((by rw [hg]; exact Nat.ne_of_gt (IsS124.lt (show IsS124 w0 _ g s0_0 t106 from I124_1 HI0 NB0_101.out)) : gb107 ≠ g)); replace HI0 := am (IsS124.below (I124_1 HI0 NB0_101.out) hb); clear hb hbox hg; have hnb29 := NB107_101.out; have hnc29 := NB101_107.out; have hnb30 := NB107_0.out; have hnc30 := NB0_107.out; obtain ⟨hcz31_0, hcz31_1, hfz31_0⟩ := y2 w28 BK107.out; obtain ⟨Ao32, co32, eo32⟩ := Kd.R_slice HO105.out; subst eo32) | ((with_reducible refine gate_callee (f := 45) rfl ?_); refine goesL_ (some 7) rfl rfl Try.func45 (by kernel_rfl) rfl #[.pointer (some ⟨g, 0, none⟩), .int .i64 16] rfl MT ?_; (with_reducible refine (spec_l1Rd_pick.calls k g s0_0 t106 16 t108 t109 w0 _ ?side1 ?side2 A3.out).mono ?_); (case side1 => exact I124_2 HI0 NB0_101.out NB0_107.out); (case side2 => exact K3 HB (IsS124.ge HI0.out) GE101.out GE107.out); rintro e w33 ⟨rfl, hi, hb, hk⟩; refine ⟨_, rfl, ?_⟩; replace BK101 := am (KeepBut.blk hk (g' := gb101) (o := .cells #[.int .i64 0, .slice none 0 0] 31 (0, 0)) (by (with_reducible repeat (first | refine blk_drewN ?_ _ | refine blk_drew ?_ | refine blk_alloc ?_ _)); refine blk_far ?_ NB101_107.out _; (with_reducible repeat (first | refine blk_drewN ?_ _ | refine blk_drew ?_ | refine blk_alloc ?_ _)); refine blk_far ?_ NB101_107.out _; (with_reducible repeat (first | refine blk_drewN ?_ _ | refine blk_drew ?_ | refine blk_alloc ?_ _)); exact BK101.out) NB101_0.out (by simp)); replace HO105 := am (Kd.R_mono (Kd.R_keep (IsS124.apart (show IsS124 w0 _ g s0_0 t106 from I124_2 HI0 NB0_101.out NB0_107.out) (by (with_reducible repeat (first | apply Kd.R_alloc | apply Kd.R_drewN | apply Kd.R_drew)); exact (RF HO105.out BK107.out)) (by decide)) hk (fun _ h => h.2)) (fun _ h => h.1)); replace BK107 := am (KeepBut.blk hk (g' := gb107) (o := .cells #[.int .i64 t102, .slice Ao32 t103.length co32] 31 (0, 0)) (by (with_reducible repeat (first | refine blk_drewN ?_ _ | refine blk_drew ?_ | refine blk_alloc ?_ _)); refine blk_put (cs := #[.int .i64 t102, .slice none 0 0]) ?_ 1 _ rfl; (with_reducible repeat (first | refine blk_drewN ?_ _ | refine blk_drew ?_ | refine blk_alloc ?_ _)); refine blk_put (cs := #[.int .i64 0, .slice none 0 0]) ?_ 0 _ rfl; (with_reducible repeat (first | refine blk_drewN ?_ _ | refine blk_drew ?_ | refine blk_alloc ?_ _)); exact BK107.out) NB107_0.out (by simp)); replace HK := am (KeepBut.trans (J2 HK GW101.out GW107.out) hk (.inl rfl)); replace HB := am (hb); replace HI0 := am (hi); (try clear hb); (try clear hb2); (try clear hk); (try clear hi)))
    replace HO105 := am (Kd.R_drew HO105.out)
    replace BK101 := am (blk_drew BK101.out)
    replace BK107 := am (blk_drew BK107.out)
    replace HI0 := am (IsS124.drew HI0.out)
    replace HK := am (keep_drew HK.out)
    replace HB := am (below_drew1 HB.out)
    refine start_ (n := 8) (S := fun w' => de2 w' gb107 (.int .i64 t102) (.slice Ao32 t103.length co32)) (ds := [7]) (tf 0 8) (by kernel_rfl) rfl rfl ⟨z0 _ BK107.out, z1 _ BK107.out⟩ (fun hHeld => ?_); refine with_tabW spec_l12AnyWindow.tab6 spec_l12AnyWindow.bits6 (fun HT_ HW_ => ?_)
    generalize w33.drew = w34 at HO105 BK101 BK107 HI0 HK HB hHeld ⊢
    refine pv HT_ 0 19 (tf 1 7) ?_
    refine pv HT_ 2 21 (tr [1, 1, 1, 5]) ?_
    refine tk 1 (some 20) (tf 3 5) (take_ofW HT_.out HW_.out (by kernel_rfl)) hHeld ?_
    refine one_ (i := 3) (N := some 22) (tf 4 4) rfl rfl (one_of HT_.out (by kernel_rfl)) (by decide) (fun K hK => ?_)
    refine goes_ Try.func45 (by kernel_rfl) rfl #[.pointer (some ⟨g, 0, none⟩), .int .i64 30] (by rfl) rfl rfl MT ?_
    with_reducible refine (spec_l1Rd_pick.calls k g s0_0 t109 30 t115 t116 w0 _ ?side1 ?side2 A24.out).mono ?_
    (case side1 => exact I124_2 HI0 NB0_101.out NB0_107.out)
    (case side2 => exact K3 HB (IsS124.ge HI0.out) GE101.out GE107.out)
    rintro e w35 ⟨rfl, hi, hb, hk⟩
    refine ⟨_, rfl, ?_⟩
    replace BK101 := am (KeepBut.blk hk (g' := gb101) (o := .cells #[.int .i64 0, .slice none 0 0] 31 (0, 0)) (KB BK101) NB101_0.out (by simp))
    replace HO105 := am (Kd.R_mono (Kd.R_keep (IsS124.apart (show IsS124 w0 _ g s0_0 t109 from I124_2 HI0 NB0_101.out NB0_107.out) (KR HO105) (by decide)) hk (fun _ h => h.2)) (fun _ h => h.1))
    replace BK107 := am (KeepBut.blk hk (g' := gb107) (o := .cells #[.int .i64 t102, .slice Ao32 t103.length co32] 31 (0, 0)) (KB BK107) NB107_0.out (by simp))
    replace HK := am (KeepBut.trans (J2 HK GW101.out GW107.out) hk (.inl rfl))
    replace HB := am (hb)
    replace HI0 := am (hi)
    (try clear hb)
    (try clear hb2)
    (try clear hk)
    (try clear hi)
    refine hK.out _ _ ⟨z0 _ BK107.out, z1 _ BK107.out⟩ (fun hHeld => ?_)
    clear hK K
    refine norm_ (a' := ?_) ?_ ?_
    rotate_left
    ·show Act.put _ (some 22) _ = _
     simp only [Act.put, List.setIfInBounds_toArray, List.set_cons_zero, List.set_cons_succ, i64_w, i32_w]
     rfl
    refine one_ (i := 4) (N := some 23) (tf 5 3) rfl rfl (one_of HT_.out (by kernel_rfl)) (by decide) (fun K hK => ?_)
    refine value_ (w1 := ?_) (v := ?_) (by rfl) rfl ?_ ?_
    rotate_left 2
    ·go_simp
     constructor
     ·rfl
     ·rfl
    refine hK.out _ _ ⟨(blk_cell (blk_alloc BK107.out _) 0).trans rfl, (blk_cell (blk_alloc BK107.out _) 1).trans rfl⟩ (fun hHeld => ?_)
    clear hK K
    refine norm_ (a' := ?_) ?_ ?_
    rotate_left
    ·show Act.put _ (some 23) _ = _
     simp only [Act.put, List.setIfInBounds_toArray, List.set_cons_zero, List.set_cons_succ, i64_w, i32_w]
     rfl
    refine one_ (i := 5) (N := some 24) (tf 6 2) rfl rfl (one_of HT_.out (by kernel_rfl)) (by decide) (fun K hK => ?_)
    refine Kd.R_append_step (Kd.int .i64) w.heap.size (by rfl) (.tmp 20) (.tmp 23) 22 3 (.int .i64 0) 8 rfl Try.underlying22 info3 rfl (by decide) (by omega) (.slice Ao32 t103.length co32) t103 t115 [.int .i64 t115] (fun _ => True) (fun _ => False) rfl rfl ?aP (fun _ hk => hk.elim) ?aF ?aO (Below.refl _ _) ?aS ?aL ?_
    (case aP => exact rfl)
    (case aF => exact (fun _ _ => trivial))
    (case aO => exact (KR HO105))
    (case aS => exact (keep_size (w := w) (g := g) (row := none) (J2 HK GW101.out GW107.out)))
    (case aL => have := LMc25.out; omega)
    intro v118 w36 ho hb hg hat
    rw [← Ny117.out] at ho
    replace BK101 := am (blk_grown (g := gb101) (o := .cells #[.int .i64 0, .slice none 0 0] 31 (0, 0)) (KB BK101) hg (Kd.R_ne HO105.out BK101.out (by decide)))
    replace BK107 := am (blk_grown (g := gb107) (o := .cells #[.int .i64 t102, .slice Ao32 t103.length co32] 31 (0, 0)) (KB BK107) hg (Kd.R_ne HO105.out BK107.out (by decide)))
    replace HB := am (below_weaken (K3 HB (IsS124.ge HI0.out) GE101.out GE107.out) HL.out hb)
    replace HI0 := am (IsS124.grown (I124_2 HI0 NB0_101.out NB0_107.out) hg (IsS124.own_ne HI0.out HO105.out (by decide)))
    replace HK := am (KeepBut.trans (J2 HK GW101.out GW107.out) (KeepBut.of_grown hg g) (Kd.R_base2 HO105.out))
    have HO119 := am (ho)
    clear HO105
    clear ho hb hg hat
    obtain ⟨Ao37, co37, eo37⟩ := Kd.R_slice HO119.out
    (first | subst eo37 | (injection eo37 with f1_ f2_ f3_; have f4_ := f1_.symm; have f5_ := f3_.symm; clear f1_ f2_ f3_; subst f4_; subst f5_))
    refine hK.out _ _ ⟨z0 _ BK107.out, z1 _ BK107.out⟩ (fun hHeld => ?_)
    clear hK K
    refine norm_ (a' := ?_) ?_ ?_
    rotate_left
    ·show Act.put _ (some 24) _ = _
     simp only [Act.put, List.setIfInBounds_toArray, List.set_cons_zero, List.set_cons_succ, i64_w, i32_w]
     rfl
    refine pv HT_ 6 25 (tf 7 1) ?_
    refine last_ (i := 7) (N := none) (tf 8 0) rfl rfl (one_of HT_.out (by kernel_rfl)) (by decide) (fun K hK => ?_)
    have hs38 : w36.cell? ⟨gb107, 1, none⟩ = some (.slice Ao32 t103.length co32) := z1 _ BK107.out
    have hfs38 := blk_frozen BK107.out 1
    have hns38_0 := NB101_107.out
    have hms38_0 := NB107_101.out
    refine skip_ (w1 := ?_) (by rfl) rfl ?_ ?_
    rotate_left
    ·go_simp
     rfl
    refine hK.out _ _ ?_
    clear hK K
    refine done_ (done_of HT_.out (by kernel_rfl)) ?_
    obtain ⟨hcz39_0, hcz39_1, hfz39_0⟩ := y2 w36 BK107.out
    have hnb40 := NB101_0.out
    have hnc40 := NB0_101.out
    obtain ⟨hcz41_0, hcz41_1, hfz41_0⟩ := y2 w36 BK101.out
    try go_wp2
    refine bodyPost_ret (results_cell_row rfl _ _ gb101 31 #[.int .i64 t102, .slice Ao37 y117.length co37] (0, 0) _ rfl (by (with_reducible repeat (first | refine blk_drewN ?_ _ | refine blk_drew ?_ | refine blk_alloc ?_ _)); refine blk_put (cs := #[.int .i64 t102, .slice none 0 0]) ?_ 1 _ rfl; (with_reducible repeat (first | refine blk_drewN ?_ _ | refine blk_drew ?_ | refine blk_alloc ?_ _)); refine blk_put (cs := #[.int .i64 0, .slice none 0 0]) ?_ 0 _ rfl; (with_reducible repeat (first | refine blk_drewN ?_ _ | refine blk_drew ?_ | refine blk_alloc ?_ _)); refine blk_far ?_ NB101_107.out _; (with_reducible repeat (first | refine blk_drewN ?_ _ | refine blk_drew ?_ | refine blk_alloc ?_ _)); exact BK101.out) Try.underlying31 rfl (by kernel_rfl)) rfl ?_
    exact ⟨_, ER, by (with_reducible repeat (first | apply Kd.R_alloc | apply Kd.R_drewN | apply Kd.R_drew)); exact Kd.R_mono (Kd.R_far (p := ⟨gb101, 1, none⟩) (Kd.R_far (p := ⟨gb101, 0, none⟩) (Kd.R_far (p := ⟨gb107, 1, none⟩) (Kd.R_types (Kd.R_types HO119.out BK107.out (by decide)) BK101.out (by decide)) (fun _ hk => hk.1.2) (.slice Ao37 y117.length co37)) (fun _ hk => hk.2) (.int .i64 t102)) (fun _ hk => hk.2) (.slice Ao37 y117.length co37)) (fun _ hk => trivial), I124_2 HI0 NB0_101.out NB0_107.out, K3 HB (IsS124.ge HI0.out) GE101.out GE107.out, J2 HK GW101.out GW107.out⟩
   ·rw [if_neg c25] at H
    exact absurd H (by simp)
  ·rw [if_neg c23] at H
   have c23b0 : (t108 == 1) = false := beq_eq_false_iff_ne.mpr c23
   have c23b1 : (t108 != 1) = true := bne_iff_ne.mpr c23
   simp only [Option.some.injEq, Prod.mk.injEq] at H
   obtain ⟨rfl, rfl, rfl⟩ := H
   go_enter Try.func47, Try.ntmps47
   go_wp2_with (first | ((with_reducible refine gate_dst (N := 2) rfl ?_); refine box_event rfl (N := 2) rfl (cs := #[.int .i64 0, .slice none 0 0]) (t := 31) BX ?_; intro gb101 hg w42 hbox hb; replace HB := am (below_step (K1 HB (IsS124.ge HI0.out)) hb); have BK101 := am (hbox); have GW101 := am ((by rw [hg]; exact (keep_size (w := w) (g := g) (row := none) (J0 HK)) : w.heap.size ≤ gb101)); have GE101 := am ((Nat.le_trans HW0.out (by rw [hg]; exact (keep_size (w := w) (g := g) (row := none) (J0 HK)) : w.heap.size ≤ gb101) : w0.heap.size ≤ gb101)); replace HK := am (KeepBut.trans (J0 HK) (KeepBut.of_below hb g none) (.inl rfl)); have NB0_101 := am ((by rw [hg]; exact Nat.ne_of_lt (IsS124.lt (show IsS124 w0 _ g s0_0 s0_1 from I124_0 HI0)) : g ≠ gb101)); have NB101_0 := am ((by rw [hg]; exact Nat.ne_of_gt (IsS124.lt (show IsS124 w0 _ g s0_0 s0_1 from I124_0 HI0)) : gb101 ≠ g)); replace HI0 := am (IsS124.below (I124_0 HI0) hb); clear hb hbox hg) | ((with_reducible refine gate_callee (f := 92) rfl ?_); refine goesL_ (some 5) rfl rfl Try.func92 (by kernel_rfl) rfl #[.pointer (some ⟨g, 0, none⟩)] rfl MT ?_; (with_reducible refine (spec_l12Window.calls k g s0_0 s0_1 t102 t103 t106 w0 _ ?side1 ?side2 A2.out).mono ?_); (case side1 => exact I124_1 HI0 NB0_101.out); (case side2 => exact K2 HB (IsS124.ge HI0.out) GE101.out); rintro e w43 ⟨v104, rfl, ho0, hi, hb, hk⟩; refine ⟨_, rfl, ?_⟩; replace BK101 := am (KeepBut.blk hk (g' := gb101) (o := .cells #[.int .i64 0, .slice none 0 0] 31 (0, 0)) (KB BK101) NB101_0.out (by simp)); have HO105 := am (Kd.R_lower ho0 (keep_size (w := w) (g := g) (row := none) (J1 HK GW101.out))); replace HK := am (KeepBut.trans (J1 HK GW101.out) hk (.inl rfl)); replace HB := am (hb); replace HI0 := am (hi); (try clear hb); (try clear hk); (try clear hi); (try clear ho0)) | ((with_reducible refine gate_dst (N := 3) rfl ?_); refine box_event rfl (N := 3) rfl (cs := #[.int .i64 0, .slice none 0 0]) (t := 31) BX ?_; intro gb107 hg w44 hbox hb; replace HO105 := am (Kd.R_below (KR HO105) hb); replace HB := am (below_step (K2 HB (IsS124.ge HI0.out) GE101.out) hb); have BK107 := am (hbox); have GW107 := am ((by rw [hg]; exact (keep_size (w := w) (g := g) (row := none) (J1 HK GW101.out)) : w.heap.size ≤ gb107)); have GE107 := am ((Nat.le_trans HW0.out (by rw [hg]; exact (keep_size (w := w) (g := g) (row := none) (J1 HK GW101.out)) : w.heap.size ≤ gb107) : w0.heap.size ≤ gb107)); replace HK := am (KeepBut.trans (J1 HK GW101.out) (KeepBut.of_below hb g none) (.inl rfl)); have NB101_107 := am (NL BK101 hg); have NB107_101 := am (NG BK101 hg); replace BK101 := am (BB BK101 hb); have NB0_107 := am ((by rw [hg]; exact Nat.ne_of_lt (IsS124.lt (show IsS124 w0 _ g s0_0 t106 from I124_1 HI0 NB0_101.out)) : g ≠ gb107)); have NB107_0 := am ((by rw [hg]; exact Nat.ne_of_gt (IsS124.lt (show IsS124 w0 _ g s0_0 t106 from I124_1 HI0 NB0_101.out)) : gb107 ≠ g)); replace HI0 := am (IsS124.below (I124_1 HI0 NB0_101.out) hb); clear hb hbox hg; have hnb45 := NB107_101.out; have hnc45 := NB101_107.out; have hnb46 := NB107_0.out; have hnc46 := NB0_107.out; obtain ⟨hcz47_0, hcz47_1, hfz47_0⟩ := y2 w44 BK107.out; obtain ⟨Ao48, co48, eo48⟩ := Kd.R_slice HO105.out; subst eo48) | ((with_reducible refine gate_callee (f := 45) rfl ?_); refine goesL_ (some 7) rfl rfl Try.func45 (by kernel_rfl) rfl #[.pointer (some ⟨g, 0, none⟩), .int .i64 16] rfl MT ?_; (with_reducible refine (spec_l1Rd_pick.calls k g s0_0 t106 16 t108 t109 w0 _ ?side1 ?side2 A3.out).mono ?_); (case side1 => exact I124_2 HI0 NB0_101.out NB0_107.out); (case side2 => exact K3 HB (IsS124.ge HI0.out) GE101.out GE107.out); rintro e w49 ⟨rfl, hi, hb, hk⟩; refine ⟨_, rfl, ?_⟩; replace BK101 := am (KeepBut.blk hk (g' := gb101) (o := .cells #[.int .i64 0, .slice none 0 0] 31 (0, 0)) (by (with_reducible repeat (first | refine blk_drewN ?_ _ | refine blk_drew ?_ | refine blk_alloc ?_ _)); refine blk_far ?_ NB101_107.out _; (with_reducible repeat (first | refine blk_drewN ?_ _ | refine blk_drew ?_ | refine blk_alloc ?_ _)); refine blk_far ?_ NB101_107.out _; (with_reducible repeat (first | refine blk_drewN ?_ _ | refine blk_drew ?_ | refine blk_alloc ?_ _)); exact BK101.out) NB101_0.out (by simp)); replace HO105 := am (Kd.R_mono (Kd.R_keep (IsS124.apart (show IsS124 w0 _ g s0_0 t106 from I124_2 HI0 NB0_101.out NB0_107.out) (by (with_reducible repeat (first | apply Kd.R_alloc | apply Kd.R_drewN | apply Kd.R_drew)); exact (RF HO105.out BK107.out)) (by decide)) hk (fun _ h => h.2)) (fun _ h => h.1)); replace BK107 := am (KeepBut.blk hk (g' := gb107) (o := .cells #[.int .i64 t102, .slice Ao48 t103.length co48] 31 (0, 0)) (by (with_reducible repeat (first | refine blk_drewN ?_ _ | refine blk_drew ?_ | refine blk_alloc ?_ _)); refine blk_put (cs := #[.int .i64 t102, .slice none 0 0]) ?_ 1 _ rfl; (with_reducible repeat (first | refine blk_drewN ?_ _ | refine blk_drew ?_ | refine blk_alloc ?_ _)); refine blk_put (cs := #[.int .i64 0, .slice none 0 0]) ?_ 0 _ rfl; (with_reducible repeat (first | refine blk_drewN ?_ _ | refine blk_drew ?_ | refine blk_alloc ?_ _)); exact BK107.out) NB107_0.out (by simp)); replace HK := am (KeepBut.trans (J2 HK GW101.out GW107.out) hk (.inl rfl)); replace HB := am (hb); replace HI0 := am (hi); (try clear hb); (try clear hb2); (try clear hk); (try clear hi); obtain ⟨hcz50_0, hcz50_1, hfz50_0⟩ := y2 w49 BK107.out; have hnb51 := NB101_0.out; have hnc51 := NB0_101.out; obtain ⟨hcz52_0, hcz52_1, hfz52_0⟩ := y2 w49 BK101.out))
   refine bodyPost_ret (results_cell_row rfl _ _ gb101 31 #[.int .i64 t102, .slice Ao48 t103.length co48] (0, 0) _ rfl (by (with_reducible repeat (first | refine blk_drewN ?_ _ | refine blk_drew ?_ | refine blk_alloc ?_ _)); refine blk_put (cs := #[.int .i64 t102, .slice none 0 0]) ?_ 1 _ rfl; (with_reducible repeat (first | refine blk_drewN ?_ _ | refine blk_drew ?_ | refine blk_alloc ?_ _)); refine blk_put (cs := #[.int .i64 0, .slice none 0 0]) ?_ 0 _ rfl; (with_reducible repeat (first | refine blk_drewN ?_ _ | refine blk_drew ?_ | refine blk_alloc ?_ _)); exact BK101.out) Try.underlying31 rfl (by kernel_rfl)) rfl ?_
   exact ⟨_, ER, by (with_reducible repeat (first | apply Kd.R_alloc | apply Kd.R_drewN | apply Kd.R_drew)); exact Kd.R_mono (Kd.R_far (p := ⟨gb101, 1, none⟩) (Kd.R_far (p := ⟨gb101, 0, none⟩) (Kd.R_types HO105.out BK101.out (by decide)) (fun _ hk => hk.2) (.int .i64 t102)) (fun _ hk => hk.2) (.slice Ao48 t103.length co48)) (fun _ hk => trivial), I124_2 HI0 NB0_101.out NB0_107.out, K3 HB (IsS124.ge HI0.out) GE101.out GE107.out, J2 HK GW101.out GW107.out⟩
def spec_DrawWindowSee.f (k : Nat) (l0 : List Int) : Option (Int × List Int × Int) := (spec_l1Open.f l0).bind fun bt102 => ((spec_l12AnyWindow.f k bt102.1 bt102.2).bind fun bt105 => ((spec_l1Rd_pick.f k bt102.1 bt105.2.2 18).bind fun bt111 => ((spec_l1Rd_pick.f k bt102.1 bt111.2 30).bind fun bt113 => ((spec_l1Rd_one.f k bt102.1 bt113.2 (([wrap64 (bt105.1 + 1), bt105.1, wrap64 ((wrap64 (bt105.1 - 1)) - bt111.1), wrap64 (bt105.1 + bt113.1), 0, (-1), 1000000, 1000001] : List Int))).bind fun bt118 => (some (bt105.1, bt105.2.1, bt118.1))))))
def spec_DrawWindowSee.T3 : Bool × List (List Nat × List Nat) := (true, [([], []), ([], []), ([], []), ([2], [2]), ([3], [3]), ([], []), ([5], [5]), ([], []), ([7], [7]), ([8], [8]), ([], []), ([10], [10]), ([9, 11], [9, 11]), ([], []), ([13], [13]), ([], []), ([15, 11], [15]), ([14, 16], [14, 16]), ([4, 6, 12, 17], [4, 6, 12, 17]), ([1, 18, 16], [1, 18]), ([0, 19, 0], [0]), ([19, 20, 0, 1, 2, 3, 4, 5, 6, 7, 8, 9, 10, 11, 12, 13, 14, 15, 16, 17, 18, 19, 20], [19])])
def spec_DrawWindowSee.B3 : List Nat := [0, 0, 0, 4, 12, 0, 32, 0, 128, 384, 0, 1024, 3968, 0, 8192, 0, 35840, 125952, 262140, 524286, 1048575, 2097151]
theorem spec_DrawWindowSee.tab3 : rtab .any (opsOf Try.f18 3) = spec_DrawWindowSee.T3 := by kernel_rfl
theorem spec_DrawWindowSee.bits3 : waitsOk spec_DrawWindowSee.T3.2 spec_DrawWindowSee.B3 = true := by kernel_rfl
set_option maxHeartbeats 8000000 in
set_option maxRecDepth 100000 in
theorem spec_DrawWindowSee.calls (k : Nat) (A0 : Option Addr) (c0 : Nat) (l0 : List Int) (r1 : Int) (r2 : List Int) (r3 : Int) (w : World) (hr0 : Kd.C (Kd.int .u8) w A0 l0.length l0) (hc0 : l0.length ≤ c0) (h : spec_DrawWindowSee.f k l0 = some (r1, r2, r3)) :
  Calls Try.prog 18 #[.slice A0 l0.length c0] w fun e w' => ∃ v1_ : Value, e = .returned (.tuple #[.agg #[.int .i64 r1, v1_], .int .i64 r3]) ∧ Kd.R (Kd.int .i64) 3 w' w.heap.size (fun _ => True) v1_ r2 ∧ Below w.heap.size w w' := by
 have hu31 := Try.underlying31
 have HR0 := Aside0.mk hr0
 have HC0 := Aside0.mk hc0
 clear hr0 hc0
 have HB := am (Below.refl w.heap.size w)
 have H : ((spec_l1Open.f l0).bind fun bt102 => ((spec_l12AnyWindow.f k bt102.1 bt102.2).bind fun bt105 => ((spec_l1Rd_pick.f k bt102.1 bt105.2.2 18).bind fun bt111 => ((spec_l1Rd_pick.f k bt102.1 bt111.2 30).bind fun bt113 => ((spec_l1Rd_one.f k bt102.1 bt113.2 (([wrap64 (bt105.1 + 1), bt105.1, wrap64 ((wrap64 (bt105.1 - 1)) - bt111.1), wrap64 (bt105.1 + bt113.1), 0, (-1), 1000000, 1000001] : List Int))).bind fun bt118 => (some (bt105.1, bt105.2.1, bt118.1))))))) = some (r1, r2, r3) := h
 clear h
 replace H := Option.bind_eq_some_iff.mp H
 obtain ⟨⟨t102, t103⟩, A20, H⟩ := H
 replace H : ((spec_l12AnyWindow.f k t102 t103).bind fun bt105 => ((spec_l1Rd_pick.f k t102 bt105.2.2 18).bind fun bt111 => ((spec_l1Rd_pick.f k t102 bt111.2 30).bind fun bt113 => ((spec_l1Rd_one.f k t102 bt113.2 (([wrap64 (bt105.1 + 1), bt105.1, wrap64 ((wrap64 (bt105.1 - 1)) - bt111.1), wrap64 (bt105.1 + bt113.1), 0, (-1), 1000000, 1000001] : List Int))).bind fun bt118 => (some (bt105.1, bt105.2.1, bt118.1)))))) = some (r1, r2, r3) := H
 have A2 := Aside0.mk A20
 clear A20
 replace H := Option.bind_eq_some_iff.mp H
 obtain ⟨⟨t105, t106, t109⟩, A30, H⟩ := H
 replace H : ((spec_l1Rd_pick.f k t102 t109 18).bind fun bt111 => ((spec_l1Rd_pick.f k t102 bt111.2 30).bind fun bt113 => ((spec_l1Rd_one.f k t102 bt113.2 (([wrap64 (t105 + 1), t105, wrap64 ((wrap64 (t105 - 1)) - bt111.1), wrap64 (t105 + bt113.1), 0, (-1), 1000000, 1000001] : List Int))).bind fun bt118 => (some (t105, t106, bt118.1))))) = some (r1, r2, r3) := H
 have A3 := Aside0.mk A30
 clear A30
 replace H := Option.bind_eq_some_iff.mp H
 obtain ⟨⟨t111, t112⟩, A40, H⟩ := H
 replace H : ((spec_l1Rd_pick.f k t102 t112 30).bind fun bt113 => ((spec_l1Rd_one.f k t102 bt113.2 (([wrap64 (t105 + 1), t105, wrap64 ((wrap64 (t105 - 1)) - t111), wrap64 (t105 + bt113.1), 0, (-1), 1000000, 1000001] : List Int))).bind fun bt118 => (some (t105, t106, bt118.1)))) = some (r1, r2, r3) := H
 have A4 := Aside0.mk A40
 clear A40
 replace H := Option.bind_eq_some_iff.mp H
 obtain ⟨⟨t113, t114⟩, A50, H⟩ := H
 replace H : ((spec_l1Rd_one.f k t102 t114 (([wrap64 (t105 + 1), t105, wrap64 ((wrap64 (t105 - 1)) - t111), wrap64 (t105 + t113), 0, (-1), 1000000, 1000001] : List Int))).bind fun bt118 => (some (t105, t106, bt118.1))) = some (r1, r2, r3) := H
 have A5 := Aside0.mk A50
 clear A50
 obtain ⟨y115, hy115⟩ : ∃ y_ : List Int, y_ = (([wrap64 (t105 + 1), t105, wrap64 ((wrap64 (t105 - 1)) - t111), wrap64 (t105 + t113), 0, (-1), 1000000, 1000001] : List Int)) := ⟨_, rfl⟩
 replace H : ((spec_l1Rd_one.f k t102 t114 y115).bind fun bt118 => (some (t105, t106, bt118.1))) = some (r1, r2, r3) := by first | (rw [hy115]; with_reducible exact H) | (have H2_ := (Option.bind_some _ _).symm.trans H; rw [hy115]; with_reducible exact H2_) | (have H2_ := (Option.bind_some _ _).symm.trans H; with_reducible exact H2_) | with_reducible exact H | (rw [hy115]; exact H) | exact H
 have Ny115 := Aside0.mk hy115
 clear hy115
 replace H := Option.bind_eq_some_iff.mp H
 obtain ⟨⟨t118, t119⟩, A60, H⟩ := H
 replace H : (some (t105, t106, t118)) = some (r1, r2, r3) := H
 have A6 := Aside0.mk A60
 clear A60
 simp only [Option.some.injEq, Prod.mk.injEq] at H
 obtain ⟨rfl, rfl, rfl⟩ := H
 go_enter Try.func18, Try.ntmps18
 try go_wp2_with (first | ((with_reducible refine gate_dst (N := 2) rfl ?_); refine box_event rfl (N := 2) rfl (cs := #[.int .i64 0, .slice none 0 0]) (t := 31) BX ?_; intro gb101 hg w7 hbox hb; have BK101 := am (hbox); have GW101 := am (GH HB hg); have GE101 := GW101; replace HB := am (below_step (KL HB) hb); clear hb hbox hg) | ((with_reducible refine gate_callee (f := 44) rfl ?_); refine goesL_ (some 7) rfl rfl Try.func44 (by kernel_rfl) rfl #[.slice A0 l0.length c0] rfl MT ?_; (with_reducible refine (spec_l1Open.calls _ _ l0 t102 t103 w _ ?side1 ?side2 ?side3 A2.out).mono ?_); (case side1 => exact K1 HB GE101.out); (case side2 => exact HR0.out); (case side3 => exact HC0.out); rintro e w8 ⟨g104, rfl, hi, hb, hb2⟩; refine ⟨_, rfl, ?_⟩; replace HB := am (hb); have HI104 := am (hi); have NB104_101 := am (IsS124.ne_blk hi (blk_below (g := gb101) (o := .cells #[.int .i64 0, .slice none 0 0] 31 (0, 0)) (KB BK101) hb2) (by decide)); have NB101_104 := am (Ne.symm (IsS124.ne_blk hi (blk_below (g := gb101) (o := .cells #[.int .i64 0, .slice none 0 0] 31 (0, 0)) (KB BK101) hb2) (by decide))); replace BK101 := am (blk_below (g := gb101) (o := .cells #[.int .i64 0, .slice none 0 0] 31 (0, 0)) (KB BK101) hb2); (try clear hb); (try clear hb2); (try clear hi)) | ((with_reducible refine gate_callee (f := 47) rfl ?_); refine goesL_ (some 9) rfl rfl Try.func47 (by kernel_rfl) rfl #[.pointer (some ⟨g104, 0, none⟩)] rfl MT ?_; (with_reducible refine (spec_l12AnyWindow.calls k g104 t102 t103 t105 t106 t109 w _ ?side1 ?side2 A3.out).mono ?_); (case side1 => exact I124_1 HI104 NB104_101.out); (case side2 => exact K2 HB (IsS124.ge HI104.out) GE101.out); rintro e w9 ⟨v107, rfl, ho0, hi, hb, hk⟩; refine ⟨_, rfl, ?_⟩; replace BK101 := am (KeepBut.blk hk (g' := gb101) (o := .cells #[.int .i64 0, .slice none 0 0] 31 (0, 0)) (KB BK101) NB101_104.out (by simp)); have HO108 := am (Kd.R_lower ho0 (below_size (K2 HB (IsS124.ge HI104.out) GE101.out))); replace HB := am (hb); replace HI104 := am (hi); (try clear hb); (try clear hk); (try clear hi); (try clear ho0)) | ((with_reducible refine gate_dst (N := 5) rfl ?_); refine box_event rfl (N := 5) rfl (cs := #[.int .i64 0, .slice none 0 0]) (t := 31) BX ?_; intro gb110 hg w10 hbox hb; replace HO108 := am (Kd.R_below (KR HO108) hb); have BK110 := am (hbox); have GW110 := am (GH2 HB (IsS124.ge HI104.out) GE101.out hg); have GE110 := GW110; replace HB := am (below_step (K2 HB (IsS124.ge HI104.out) GE101.out) hb); have NB101_110 := am (NL BK101 hg); have NB110_101 := am (NG BK101 hg); replace BK101 := am (BB BK101 hb); have NB104_110 := am ((by rw [hg]; exact Nat.ne_of_lt (IsS124.lt (show IsS124 w _ g104 t102 t109 from I124_1 HI104 NB104_101.out)) : g104 ≠ gb110)); have NB110_104 := am ((by rw [hg]; exact Nat.ne_of_gt (IsS124.lt (show IsS124 w _ g104 t102 t109 from I124_1 HI104 NB104_101.out)) : gb110 ≠ g104)); replace HI104 := am (IsS124.below (I124_1 HI104 NB104_101.out) hb); clear hb hbox hg; have hnb11 := NB110_101.out; have hnc11 := NB101_110.out; have hnb12 := NB110_104.out; have hnc12 := NB104_110.out; obtain ⟨hcz13_0, hcz13_1, hfz13_0⟩ := y2 w10 BK110.out; obtain ⟨Ao14, co14, eo14⟩ := Kd.R_slice HO108.out; subst eo14))
 generalize hq_ : ((w10.setCell ⟨gb110, 0, none⟩ (.int .i64 t105)).setCell ⟨gb110, 1, none⟩ (.slice Ao14 t106.length co14)) = w15
 have n0_ : Aside0 (Kd.R (Kd.int .i64) 3 w15 w.heap.size (fun _ => True) (.slice Ao14 t106.length co14) t106) := ⟨by rw [← hq_]; (with_reducible repeat (first | apply Kd.R_alloc | apply Kd.R_drewN | apply Kd.R_drew)); exact Kd.R_mono (Kd.R_far (p := ⟨gb110, 1, none⟩) (Kd.R_far (p := ⟨gb110, 0, none⟩) (Kd.R_types HO108.out BK110.out (by decide)) (fun _ hk => hk.2) (.int .i64 t105)) (fun _ hk => hk.2) (.slice Ao14 t106.length co14)) (fun _ hk => trivial)⟩
 have n1_ : Aside0 (w15.heap[gb101]? = some (.cells #[.int .i64 0, .slice none 0 0] 31 (0, 0))) := ⟨by rw [← hq_]; (with_reducible repeat (first | refine blk_drewN ?_ _ | refine blk_drew ?_ | refine blk_alloc ?_ _)); refine blk_far ?_ NB101_110.out _; (with_reducible repeat (first | refine blk_drewN ?_ _ | refine blk_drew ?_ | refine blk_alloc ?_ _)); refine blk_far ?_ NB101_110.out _; (with_reducible repeat (first | refine blk_drewN ?_ _ | refine blk_drew ?_ | refine blk_alloc ?_ _)); exact BK101.out⟩
 have n2_ : Aside0 (w15.heap[gb110]? = some (.cells #[.int .i64 t105, .slice Ao14 t106.length co14] 31 (0, 0))) := ⟨by rw [← hq_]; exact P2 BK110⟩
 have n3_ : Aside0 (IsS124 w w15 g104 t102 t109) := ⟨by rw [← hq_]; exact I124_2 HI104 NB104_101.out NB104_110.out⟩
 have n4_ : Aside0 (Below w.heap.size w w15) := ⟨by rw [← hq_]; exact K3 HB (IsS124.ge HI104.out) GE101.out GE110.out⟩
 clear hq_
 (try clear HO108)
 (try clear BK101)
 (try clear BK110)
 (try clear HI104)
 (try clear HB)
 have HO108 := n0_
 have BK101 := n1_
 have BK110 := n2_
 have HI104 := n3_
 have HB := n4_
 clear n0_ n1_ n2_ n3_ n4_
 replace HO108 := am (Kd.R_drew HO108.out)
 replace BK101 := am (blk_drew BK101.out)
 replace BK110 := am (blk_drew BK110.out)
 replace HI104 := am (IsS124.drew HI104.out)
 replace HB := am (below_drew1 HB.out)
 refine start_ (n := 22) (S := fun w' => de2 w' gb110 (.int .i64 t105) (.slice Ao14 t106.length co14)) (ds := []) (tf 0 22) (by kernel_rfl) rfl rfl ⟨z0 _ BK110.out, z1 _ BK110.out⟩ (fun hHeld => ?_); refine with_tabW spec_DrawWindowSee.tab3 spec_DrawWindowSee.bits3 (fun HT_ HW_ => ?_)
 generalize w15.drew = w16 at HO108 BK101 BK110 HI104 HB hHeld ⊢
 refine pv HT_ 1 11 (tr [0, 1, 1, 20]) ?_
 refine pv HT_ 2 12 (tr [0, 1, 2, 19]) ?_
 refine pv HT_ 5 15 (tr [0, 1, 2, 2, 1, 16]) ?_
 refine pv HT_ 7 17 (tr [0, 1, 2, 2, 1, 1, 1, 14]) ?_
 refine pv HT_ 10 20 (tr [0, 1, 2, 2, 1, 1, 1, 2, 1, 11]) ?_
 refine pv HT_ 13 23 (tr [0, 1, 2, 2, 1, 1, 1, 2, 1, 2, 1, 8]) ?_
 refine pv HT_ 15 25 (tr [0, 1, 2, 2, 1, 1, 1, 2, 1, 2, 1, 1, 1, 6]) ?_
 refine tk 0 (some 10) (tr [3, 2, 1, 1, 1, 2, 1, 2, 1, 1, 1, 6]) (take_ofW HT_.out HW_.out (by kernel_rfl)) hHeld ?_
 refine tk 3 (some 13) (tr [4, 1, 1, 1, 1, 2, 1, 2, 1, 1, 1, 6]) (take_ofW HT_.out HW_.out (by kernel_rfl)) hHeld ?_
 refine pv HT_ 4 14 (tr [6, 1, 1, 2, 1, 2, 1, 1, 1, 6]) ?_
 refine tk 6 (some 16) (tr [8, 2, 1, 2, 1, 1, 1, 6]) (take_ofW HT_.out HW_.out (by kernel_rfl)) hHeld ?_
 refine tk 8 (some 18) (tr [9, 1, 1, 2, 1, 1, 1, 6]) (take_ofW HT_.out HW_.out (by kernel_rfl)) hHeld ?_
 refine pv HT_ 9 19 (tr [11, 2, 1, 1, 1, 6]) ?_
 refine tk 14 (some 24) (tr [11, 2, 3, 6]) (take_ofW HT_.out HW_.out (by kernel_rfl)) hHeld ?_
 refine one_ (i := 11) (N := some 21) (tr [12, 1, 3, 6]) rfl rfl (one_of HT_.out (by kernel_rfl)) (by decide) (fun K hK => ?_)
 refine goes_ Try.func45 (by kernel_rfl) rfl #[.pointer (some ⟨g104, 0, none⟩), .int .i64 18] (by rfl) rfl rfl MT ?_
 with_reducible refine (spec_l1Rd_pick.calls k g104 t102 t109 18 t111 t112 w _ ?side1 ?side2 A4.out).mono ?_
 (case side1 => exact I124_2 HI104 NB104_101.out NB104_110.out)
 (case side2 => exact K3 HB (IsS124.ge HI104.out) GE101.out GE110.out)
 rintro e w17 ⟨rfl, hi, hb, hk⟩
 refine ⟨_, rfl, ?_⟩
 replace BK101 := am (KeepBut.blk hk (g' := gb101) (o := .cells #[.int .i64 0, .slice none 0 0] 31 (0, 0)) (KB BK101) NB101_104.out (by simp))
 replace HO108 := am (Kd.R_mono (Kd.R_keep (IsS124.apart (show IsS124 w _ g104 t102 t109 from I124_2 HI104 NB104_101.out NB104_110.out) (KR HO108) (by decide)) hk (fun _ h => h.2)) (fun _ h => h.1))
 replace BK110 := am (KeepBut.blk hk (g' := gb110) (o := .cells #[.int .i64 t105, .slice Ao14 t106.length co14] 31 (0, 0)) (KB BK110) NB110_104.out (by simp))
 replace HB := am (hb)
 replace HI104 := am (hi)
 (try clear hb)
 (try clear hb2)
 (try clear hk)
 (try clear hi)
 refine hK.out _ _ ⟨z0 _ BK110.out, z1 _ BK110.out⟩ (fun hHeld => ?_)
 clear hK K
 refine norm_ (a' := ?_) ?_ ?_
 rotate_left
 ·show Act.put _ (some 21) _ = _
  simp only [Act.put, List.setIfInBounds_toArray, List.set_cons_zero, List.set_cons_succ, i64_w, i32_w]
  rfl
 refine pv HT_ 12 22 (tf 16 6) ?_
 refine one_ (i := 16) (N := some 26) (tf 17 5) rfl rfl (one_of HT_.out (by kernel_rfl)) (by decide) (fun K hK => ?_)
 refine goes_ Try.func45 (by kernel_rfl) rfl #[.pointer (some ⟨g104, 0, none⟩), .int .i64 30] (by rfl) rfl rfl MT ?_
 with_reducible refine (spec_l1Rd_pick.calls k g104 t102 t112 30 t113 t114 w _ ?side1 ?side2 A5.out).mono ?_
 (case side1 => exact I124_2 HI104 NB104_101.out NB104_110.out)
 (case side2 => exact K3 HB (IsS124.ge HI104.out) GE101.out GE110.out)
 rintro e w18 ⟨rfl, hi, hb, hk⟩
 refine ⟨_, rfl, ?_⟩
 replace BK101 := am (KeepBut.blk hk (g' := gb101) (o := .cells #[.int .i64 0, .slice none 0 0] 31 (0, 0)) (KB BK101) NB101_104.out (by simp))
 replace HO108 := am (Kd.R_mono (Kd.R_keep (IsS124.apart (show IsS124 w _ g104 t102 t112 from I124_2 HI104 NB104_101.out NB104_110.out) (KR HO108) (by decide)) hk (fun _ h => h.2)) (fun _ h => h.1))
 replace BK110 := am (KeepBut.blk hk (g' := gb110) (o := .cells #[.int .i64 t105, .slice Ao14 t106.length co14] 31 (0, 0)) (KB BK110) NB110_104.out (by simp))
 replace HB := am (hb)
 replace HI104 := am (hi)
 (try clear hb)
 (try clear hb2)
 (try clear hk)
 (try clear hi)
 refine hK.out _ _ ⟨z0 _ BK110.out, z1 _ BK110.out⟩ (fun hHeld => ?_)
 clear hK K
 refine norm_ (a' := ?_) ?_ ?_
 rotate_left
 ·show Act.put _ (some 26) _ = _
  simp only [Act.put, List.setIfInBounds_toArray, List.set_cons_zero, List.set_cons_succ, i64_w, i32_w]
  rfl
 refine pv HT_ 17 27 (tf 18 4) ?_
 refine one_ (i := 18) (N := some 28) (tf 19 3) rfl rfl (one_of HT_.out (by kernel_rfl)) (by decide) (fun K hK => ?_)
 refine Kd.R_lit_step (Kd.int .i64) _ 3 ?hg (N := 28) ?hd (xs := ([wrap64 (t105 + 1), t105, wrap64 ((wrap64 (t105 - 1)) - t111), wrap64 (t105 + t113), 0, (-1), 1000000, 1000001] : List Int)) (inner := [.int .i64 (wrap64 (t105 + 1)), .int .i64 t105, .int .i64 (wrap64 ((wrap64 (t105 - 1)) - t111)), .int .i64 (wrap64 (t105 + t113)), .int .i64 0, .int .i64 (-1), .int .i64 1000000, .int .i64 1000001]) (ok := fun _ => True) (okp := fun _ => True) ?hr ?hp (fun _ hk => hk) trivial (Below.refl _ _) (Nat.le_refl _) (by simp) ?_; (case hd => rfl); (case hg => rfl); (case hr => first | (go_simp; done) | (go_simp; rfl)); (case hp => exact (Reps.one (show Kd.M (Kd.int .i64) _ _ _ (wrap64 (t105 + 1)) [.int .i64 (wrap64 (t105 + 1))] from rfl) (Reps.one (show Kd.M (Kd.int .i64) _ _ _ t105 [.int .i64 t105] from rfl) (Reps.one (show Kd.M (Kd.int .i64) _ _ _ (wrap64 ((wrap64 (t105 - 1)) - t111)) [.int .i64 (wrap64 ((wrap64 (t105 - 1)) - t111))] from rfl) (Reps.one (show Kd.M (Kd.int .i64) _ _ _ (wrap64 (t105 + t113)) [.int .i64 (wrap64 (t105 + t113))] from rfl) (Reps.one (show Kd.M (Kd.int .i64) _ _ _ 0 [.int .i64 0] from rfl) (Reps.one (show Kd.M (Kd.int .i64) _ _ _ (-1) [.int .i64 (-1)] from rfl) (Reps.one (show Kd.M (Kd.int .i64) _ _ _ 1000000 [.int .i64 1000000] from rfl) (Reps.one (show Kd.M (Kd.int .i64) _ _ _ 1000001 [.int .i64 1000001] from rfl) (Reps.none _ _))))))))))
 intro v116 w19 ho20 hb hg_ hnew_
 clear hg_ hnew_
 (first | rw [← Ny115.out] at ho20 | (simp only [Int.reduceToNat] at ho20; rw [← Ny115.out] at ho20))
 have HO117 := am (Kd.R_lower (Kd.R_new' ho20 (Kd.R_lt (KR HO108))) (below_size (K3 HB (IsS124.ge HI104.out) GE101.out GE110.out)))
 replace HO108 := am (Kd.R_elder' (KR HO108) (Kd.R_base ho20) hb)
 replace BK101 := am (BB BK101 hb)
 replace BK110 := am (BB BK110 hb)
 replace HB := am (below_step (K3 HB (IsS124.ge HI104.out) GE101.out GE110.out) hb)
 replace HI104 := am (IsS124.below (I124_2 HI104 NB104_101.out NB104_110.out) hb)
 clear hb ho20
 obtain ⟨Ao21, co21, eo21⟩ := Kd.R_slice HO117.out
 (first | subst eo21 | (injection eo21 with f1_ f2_ f3_; have f4_ := f1_.symm; have f5_ := f3_.symm; clear f1_ f2_ f3_; subst f4_; subst f5_))
 refine hK.out _ _ ⟨z0 _ BK110.out, z1 _ BK110.out⟩ (fun hHeld => ?_)
 clear hK K
 refine norm_ (a' := ?_) ?_ ?_
 rotate_left
 ·show Act.put _ (some 28) _ = _
  simp only [Act.put, List.setIfInBounds_toArray, List.set_cons_zero, List.set_cons_succ, i64_w, i32_w]
  rfl
 refine one_ (i := 19) (N := some 29) (tf 20 2) rfl rfl (one_of HT_.out (by kernel_rfl)) (by decide) (fun K hK => ?_)
 refine goes_ Try.func46 (by kernel_rfl) rfl #[.pointer (some ⟨g104, 0, none⟩), .slice Ao21 y115.length co21] (by rfl) rfl rfl MT ?_
 with_reducible refine (spec_l1Rd_one.calls k g104 t102 t114 _ _ y115 t118 t119 w _ ?side1 ?side2 ?side3 ?side4 ?side5 A6.out).mono ?_
 (case side1 => exact I124_2 HI104 NB104_101.out NB104_110.out)
 (case side2 => exact K3 HB (IsS124.ge HI104.out) GE101.out GE110.out)
 (case side3 => exact KC (Kd.R_reads' HO117.out).2.2)
 (case side4 => exact (Kd.R_reads' HO117.out).2.1)
 (case side5 => exact far_slice (IsS124.own_ne HI104.out HO117.out (by decide)))
 rintro e w22 ⟨rfl, hi, hb, hk⟩
 refine ⟨_, rfl, ?_⟩
 replace BK101 := am (KeepBut.blk hk (g' := gb101) (o := .cells #[.int .i64 0, .slice none 0 0] 31 (0, 0)) (KB BK101) NB101_104.out (by simp))
 replace HO108 := am (Kd.R_mono (Kd.R_keep (IsS124.apart (show IsS124 w _ g104 t102 t114 from I124_2 HI104 NB104_101.out NB104_110.out) (KR HO108) (by decide)) hk (fun _ h => h.2)) (fun _ h => h.1))
 replace BK110 := am (KeepBut.blk hk (g' := gb110) (o := .cells #[.int .i64 t105, .slice Ao14 t106.length co14] 31 (0, 0)) (KB BK110) NB110_104.out (by simp))
 replace HO117 := am (Kd.R_mono (Kd.R_keep (IsS124.apart (show IsS124 w _ g104 t102 t114 from I124_2 HI104 NB104_101.out NB104_110.out) (KR HO117) (by decide)) hk (fun _ h => h.2)) (fun _ h => h.1))
 replace HB := am (hb)
 replace HI104 := am (hi)
 (try clear hb)
 (try clear hb2)
 (try clear hk)
 (try clear hi)
 refine hK.out _ _ ⟨z0 _ BK110.out, z1 _ BK110.out⟩ (fun hHeld => ?_)
 clear hK K
 refine norm_ (a' := ?_) ?_ ?_
 rotate_left
 ·show Act.put _ (some 29) _ = _
  simp only [Act.put, List.setIfInBounds_toArray, List.set_cons_zero, List.set_cons_succ, i64_w, i32_w]
  rfl
 refine one_ (i := 20) (N := none) (tf 21 1) rfl rfl (one_of HT_.out (by kernel_rfl)) (by decide) (fun K hK => ?_)
 have hs23 : w22.cell? ⟨gb101, 0, none⟩ = some (.int .i64 0) := z0 _ BK101.out
 have hfs23 := blk_frozen BK101.out 0
 have hns23_1 := NB110_101.out
 have hms23_1 := NB101_110.out
 have hs24 : w22.cell? ⟨gb101, 1, none⟩ = some (.slice none 0 0) := z1 _ BK101.out
 have hfs24 := blk_frozen BK101.out 1
 have hns24_1 := NB110_101.out
 have hms24_1 := NB101_110.out
 refine skip_ (w1 := ?_) (by rfl) rfl ?_ ?_
 rotate_left
 ·go_simp
  rfl
 refine hK.out _ _ ⟨((cell_far (p := ⟨gb101, _, none⟩) NB110_101.out _).trans (((cell_far (p := ⟨gb101, _, none⟩) NB110_101.out _).trans (hHeld.1)))), ((cell_far (p := ⟨gb101, _, none⟩) NB110_101.out _).trans (((cell_far (p := ⟨gb101, _, none⟩) NB110_101.out _).trans (hHeld.2))))⟩ (fun hHeld => ?_)
 clear hK K
 refine pv HT_ 21 3 (tf 22 0) ?_
 refine done_ (done_of HT_.out (by kernel_rfl)) ?_
 try go_wp2
 refine bodyPost_ret (results_ct rfl _ _ gb101 31 #[.int .i64 t105, .slice Ao14 t106.length co14] (0, 0) _ rfl (by (with_reducible repeat (first | refine blk_drewN ?_ _ | refine blk_drew ?_ | refine blk_alloc ?_ _)); refine blk_put (cs := #[.int .i64 t105, .slice none 0 0]) ?_ 1 _ rfl; (with_reducible repeat (first | refine blk_drewN ?_ _ | refine blk_drew ?_ | refine blk_alloc ?_ _)); refine blk_put (cs := #[.int .i64 0, .slice none 0 0]) ?_ 0 _ rfl; (with_reducible repeat (first | refine blk_drewN ?_ _ | refine blk_drew ?_ | refine blk_alloc ?_ _)); exact BK101.out) Try.underlying31 rfl (by kernel_rfl)) rfl ?_
 exact ⟨_, ER, by (with_reducible repeat (first | apply Kd.R_alloc | apply Kd.R_drewN | apply Kd.R_drew)); exact Kd.R_mono (Kd.R_far (p := ⟨gb101, 1, none⟩) (Kd.R_far (p := ⟨gb101, 0, none⟩) (Kd.R_types HO108.out BK101.out (by decide)) (fun _ hk => hk.2) (.int .i64 t105)) (fun _ hk => hk.2) (.slice Ao14 t106.length co14)) (fun _ hk => trivial), K3 HB (IsS124.ge HI104.out) GE101.out GE110.out⟩
def impl_WindowOk.l0 : Nat → List Int → Int → Int → Int → List Int → Option (Bool)
 | 0, _, _, _, _, _ => none
 | k + 1, x13, x14, x15, x102000, x102001 => if x15 < x14 then (if 0 ≤ x15 then (if x15 < (x13.length : Int) then (if (rd x13 x15) < 1 then (some false) else (if (rd x13 x15) ≤ (wrap64 (x102000 - 16)) then (some false) else (if x15 > 0 then (if 0 ≤ (wrap64 (x15 - 1)) then (if (wrap64 (x15 - 1)) < (x102001.length : Int) then (if (rd x13 x15) ≤ (rd x102001 (wrap64 (x15 - 1))) then (some false) else (impl_WindowOk.l0 k x13 x14 (wrap64 (x15 + 1)) x102000 x102001)) else (none)) else (none)) else (impl_WindowOk.l0 k x13 x14 (wrap64 (x15 + 1)) x102000 x102001)))) else (none)) else (none)) else (if 0 ≤ (wrap64 ((x102001.length : Int) - 1)) then (if (wrap64 ((x102001.length : Int) - 1)) < (x102001.length : Int) then (if (rd x102001 (wrap64 ((x102001.length : Int) - 1))) = x102000 then (some (decide (x102000 ≤ 1000000))) else (some false)) else (none)) else (none))
def impl_WindowOk.f (k : Nat) (a0_0 : Int) (l0_1 : List Int) : Option (Bool) := if (l0_1.length : Int) = 0 then (some (a0_0 == 0)) else (impl_WindowOk.l0 k l0_1 (l0_1.length : Int) 0 a0_0 l0_1)
set_option maxHeartbeats 8000000 in
set_option maxRecDepth 100000 in
theorem impl_WindowOk.calls (k : Nat) (a0_0 : Int) (A0_1 : Option Addr) (c0_1 : Nat) (l0_1 : List Int) (r : Bool) (w : World) (hr0_1 : Kd.C (Kd.int .i64) w A0_1 l0_1.length l0_1) (hc0_1 : l0_1.length ≤ c0_1) (h : impl_WindowOk.f k a0_0 l0_1 = some r) :
  Calls Try.prog 22 #[.agg #[.int .i64 a0_0, .slice A0_1 l0_1.length c0_1]] w fun e w' => e = .returned (.bool r) ∧ Below w.heap.size w w' := by
 have hu31 := Try.underlying31
 have HR0_1 := Aside0.mk hr0_1
 have HC0_1 := Aside0.mk hc0_1
 clear hr0_1 hc0_1
 have HB := am (Below.refl w.heap.size w)
 have H : (if (l0_1.length : Int) = 0 then (some (a0_0 == 0)) else (impl_WindowOk.l0 k l0_1 (l0_1.length : Int) 0 a0_0 l0_1)) = some r := h
 clear h
 by_cases c2 : (l0_1.length : Int) = 0
 ·rw [if_pos c2] at H
  have c2b0 : ((l0_1.length : Int) == 0) = true := beq_iff_eq.mpr c2
  have c2b1 : ((l0_1.length : Int) != 0) = false := bne_eq_false_iff_eq.mpr c2
  clear c2
  obtain rfl := Option.some.inj H
  go_enter Try.func22, Try.ntmps22
  go_wp2_with (first | ((with_reducible refine gate_dst (N := 1) rfl ?_); refine box_event rfl (N := 1) rfl (cs := #[.int .i64 a0_0, .slice A0_1 l0_1.length c0_1]) (t := 31) BX ?_; intro gb101 hg w3 hbox hb; have BK101 := am (hbox); have GW101 := am (GH HB hg); have GE101 := GW101; replace HB := am (below_step (KL HB) hb); clear hb hbox hg; obtain ⟨hcz4_0, hcz4_1, hfz4_0⟩ := y2 w3 BK101.out))
  repeat (go_quiet (first | ((with_reducible refine gate_dst (N := 1) rfl ?_); refine box_event rfl (N := 1) rfl (cs := #[.int .i64 a0_0, .slice A0_1 l0_1.length c0_1]) (t := 31) BX ?_; intro gb101 hg w3 hbox hb; have BK101 := am (hbox); have GW101 := am (GH HB hg); have GE101 := GW101; replace HB := am (below_step (KL HB) hb); clear hb hbox hg; obtain ⟨hcz4_0, hcz4_1, hfz4_0⟩ := y2 w3 BK101.out)); try go_wp2_with (first | ((with_reducible refine gate_dst (N := 1) rfl ?_); refine box_event rfl (N := 1) rfl (cs := #[.int .i64 a0_0, .slice A0_1 l0_1.length c0_1]) (t := 31) BX ?_; intro gb101 hg w3 hbox hb; have BK101 := am (hbox); have GW101 := am (GH HB hg); have GE101 := GW101; replace HB := am (below_step (KL HB) hb); clear hb hbox hg; obtain ⟨hcz4_0, hcz4_1, hfz4_0⟩ := y2 w3 BK101.out)))
  go_ret
  exact ⟨ER, K1 HB GE101.out⟩
 ·rw [if_neg c2] at H
  have c2b0 : ((l0_1.length : Int) == 0) = false := beq_eq_false_iff_ne.mpr c2
  have c2b1 : ((l0_1.length : Int) != 0) = true := bne_iff_ne.mpr c2
  have c2b2 : ¬ (l0_1 = []) := fun h_ => c2 (by rw [h_]; rfl)
  have H' := Aside0.mk H
  clear H
  go_enter Try.func22, Try.ntmps22
  go_wp2_with (first | ((with_reducible refine gate_dst (N := 1) rfl ?_); refine box_event rfl (N := 1) rfl (cs := #[.int .i64 a0_0, .slice A0_1 l0_1.length c0_1]) (t := 31) BX ?_; intro gb101 hg w5 hbox hb; have BK101 := am (hbox); have GW101 := am (GH HB hg); have GE101 := GW101; replace HB := am (below_step (KL HB) hb); clear hb hbox hg; obtain ⟨hcz6_0, hcz6_1, hfz6_0⟩ := y2 w5 BK101.out))
  repeat (go_quiet (first | ((with_reducible refine gate_dst (N := 1) rfl ?_); refine box_event rfl (N := 1) rfl (cs := #[.int .i64 a0_0, .slice A0_1 l0_1.length c0_1]) (t := 31) BX ?_; intro gb101 hg w5 hbox hb; have BK101 := am (hbox); have GW101 := am (GH HB hg); have GE101 := GW101; replace HB := am (below_step (KL HB) hb); clear hb hbox hg; obtain ⟨hcz6_0, hcz6_1, hfz6_0⟩ := y2 w5 BK101.out)); try go_wp2_with (first | ((with_reducible refine gate_dst (N := 1) rfl ?_); refine box_event rfl (N := 1) rfl (cs := #[.int .i64 a0_0, .slice A0_1 l0_1.length c0_1]) (t := 31) BX ?_; intro gb101 hg w5 hbox hb; have BK101 := am (hbox); have GW101 := am (GH HB hg); have GE101 := GW101; replace HB := am (below_step (KL HB) hb); clear hb hbox hg; obtain ⟨hcz6_0, hcz6_1, hfz6_0⟩ := y2 w5 BK101.out)))
  go_loopg [15] k (fun kq v15 w' => ∃ (x15_1 : Int), v15 = .int .i64 x15_1 ∧ Aside0 (impl_WindowOk.l0 kq l0_1 (l0_1.length : Int) x15_1 a0_0 l0_1 = some r) ∧ Aside0 (kq ≤ k) ∧ Aside0 (w'.heap[gb101]? = some (.cells #[.int .i64 a0_0, (.slice A0_1 l0_1.length c0_1)] 31 (0, 0))) ∧ Aside0 (Below w.heap.size w w'))
  case atStart => exact ⟨(0), (by first | rfl | (simp; done) | (simp [*]; done)), H', ⟨Nat.le_refl _⟩, ⟨KB BK101⟩, ⟨K1 HB GE101.out⟩⟩
  case round =>
   clear H'
   try clear c2
   try clear c2b0
   try clear c2b1
   try clear c2b2
   try clear p2
   try clear hcz4_0 hcz4_1 hfz4_0
   try clear hcz6_0 hcz6_1 hfz6_0
   obtain ⟨x15_1, rfl, HA, HK1, BK101, HB⟩ := hrel
   cases gk with
   | zero => exact absurd HA.out (by simp [impl_WindowOk.l0])
   | succ k1 =>
    have H := HA.out
    clear HA
    simp only [impl_WindowOk.l0] at H
    by_cases c7 : x15_1 < (l0_1.length : Int)
    ·rw [if_pos c7] at H
     have c7b0 : decide (x15_1 < (l0_1.length : Int)) = true := decide_eq_true c7
     clear c7
     by_cases c8 : 0 ≤ x15_1
     ·rw [if_pos c8] at H
      have c8b0 : decide (0 ≤ x15_1) = true := decide_eq_true c8
      clear c8
      by_cases c9 : x15_1 < (l0_1.length : Int)
      ·rw [if_pos c9] at H
       have c9b0 : decide (x15_1 < (l0_1.length : Int)) = true := decide_eq_true c9
       clear c9
       by_cases c10 : (rd l0_1 x15_1) < 1
       ·rw [if_pos c10] at H
        have c10b0 : decide ((rd l0_1 x15_1) < 1) = true := decide_eq_true c10
        clear c10
        obtain rfl := Option.some.inj H
        have p102 : 0 ≤ (x15_1 : Int) := OD
        have q102 : x15_1 < (l0_1.length : Int) := OD
        obtain ⟨ad102, e102, hx102_0⟩ := Kd.at_int HR0_1.out x15_1 p102 q102
        cases e102
        replace hx102_0 := CX HB.out hx102_0
        replace p102 := eq_true p102
        replace q102 := eq_true q102
        go_wp2
        repeat (go_quiet (fail); try go_wp2)
        go_ret
        exact ⟨ER, K1 HB GE101.out⟩
       ·rw [if_neg c10] at H
        have c10b0 : decide ((rd l0_1 x15_1) < 1) = false := decide_eq_false c10
        clear c10
        by_cases c11 : (rd l0_1 x15_1) ≤ (wrap64 (a0_0 - 16))
        ·rw [if_pos c11] at H
         have c11b0 : decide ((rd l0_1 x15_1) ≤ (wrap64 (a0_0 - 16))) = true := decide_eq_true c11
         clear c11
         obtain rfl := Option.some.inj H
         have p102 : 0 ≤ (x15_1 : Int) := OD
         have q102 : x15_1 < (l0_1.length : Int) := OD
         obtain ⟨ad102, e102, hx102_0⟩ := Kd.at_int HR0_1.out x15_1 p102 q102
         cases e102
         replace hx102_0 := CX HB.out hx102_0
         replace p102 := eq_true p102
         replace q102 := eq_true q102
         obtain ⟨hcz12_0, hcz12_1, hfz12_0⟩ := y2 wr BK101.out
         go_wp2
         repeat (go_quiet (fail); try go_wp2)
         go_ret
         exact ⟨ER, K1 HB GE101.out⟩
        ·rw [if_neg c11] at H
         have c11b0 : decide ((rd l0_1 x15_1) ≤ (wrap64 (a0_0 - 16))) = false := decide_eq_false c11
         clear c11
         by_cases c13 : x15_1 > 0
         ·rw [if_pos c13] at H
          have c13b0 : decide (0 < x15_1) = true := decide_eq_true c13
          clear c13
          obtain ⟨ji14, hji14⟩ : ∃ j_ : Int, (wrap64 (x15_1 - 1)) = j_ := ⟨_, rfl⟩
          replace H : (if 0 ≤ (ji14) then (if (ji14) < (l0_1.length : Int) then (if (rd l0_1 x15_1) ≤ (rd l0_1 (ji14)) then (some false) else (impl_WindowOk.l0 k1 l0_1 (l0_1.length : Int) (wrap64 (x15_1 + 1)) a0_0 l0_1)) else (none)) else (none)) = some r := by first | (rw [hji14] at H; exact H) | (simp only [hji14] at H ⊢; exact H)
          have hji14w : (IntKind.i64.wrap (x15_1 - 1)) = ji14 := (i64_w _).trans hji14
          by_cases c15 : 0 ≤ (ji14)
          ·rw [if_pos c15] at H
           have c15b0 : decide (0 ≤ (ji14)) = true := decide_eq_true c15
           clear c15
           by_cases c16 : (ji14) < (l0_1.length : Int)
           ·rw [if_pos c16] at H
            have c16b0 : decide ((ji14) < (l0_1.length : Int)) = true := decide_eq_true c16
            clear c16
            by_cases c17 : (rd l0_1 x15_1) ≤ (rd l0_1 (ji14))
            ·rw [if_pos c17] at H
             have c17b0 : decide ((rd l0_1 x15_1) ≤ (rd l0_1 (ji14))) = true := decide_eq_true c17
             clear c17
             obtain rfl := Option.some.inj H
             have p102 : 0 ≤ (x15_1 : Int) := OD
             have q102 : x15_1 < (l0_1.length : Int) := OD
             obtain ⟨ad102, e102, hx102_0⟩ := Kd.at_int HR0_1.out x15_1 p102 q102
             cases e102
             replace hx102_0 := CX HB.out hx102_0
             replace p102 := eq_true p102
             replace q102 := eq_true q102
             obtain ⟨hcz18_0, hcz18_1, hfz18_0⟩ := y2 wr BK101.out
             have p103 : 0 ≤ ((ji14) : Int) := OD
             have q103 : (ji14) < (l0_1.length : Int) := OD
             obtain ⟨ad103, e103, hx103_0⟩ := Kd.at_int HR0_1.out (ji14) p103 q103
             obtain rfl : ad102 = ad103 := (by injection e103)
             replace hx103_0 := CX HB.out hx103_0
             replace p103 := eq_true p103
             replace q103 := eq_true q103
             go_wp2
             repeat (go_quiet (fail); try go_wp2)
             go_ret
             exact ⟨by first | rfl | (simp [errW_none, errW_some] <;> rfl) | (simp only [← hji14]; first | rfl | (simp [errW_none, errW_some] <;> rfl)) | (simp [*, errW_none, errW_some] <;> rfl), K1 HB GE101.out⟩
            ·rw [if_neg c17] at H
             have c17b0 : decide ((rd l0_1 x15_1) ≤ (rd l0_1 (ji14))) = false := decide_eq_false c17
             clear c17
             have H' := Aside0.mk H
             clear H
             have p102 : 0 ≤ (x15_1 : Int) := OD
             have q102 : x15_1 < (l0_1.length : Int) := OD
             obtain ⟨ad102, e102, hx102_0⟩ := Kd.at_int HR0_1.out x15_1 p102 q102
             cases e102
             replace hx102_0 := CX HB.out hx102_0
             replace p102 := eq_true p102
             replace q102 := eq_true q102
             obtain ⟨hcz19_0, hcz19_1, hfz19_0⟩ := y2 wr BK101.out
             have p103 : 0 ≤ ((ji14) : Int) := OD
             have q103 : (ji14) < (l0_1.length : Int) := OD
             obtain ⟨ad103, e103, hx103_0⟩ := Kd.at_int HR0_1.out (ji14) p103 q103
             obtain rfl : ad102 = ad103 := (by injection e103)
             replace hx103_0 := CX HB.out hx103_0
             replace p103 := eq_true p103
             replace q103 := eq_true q103
             go_wp2
             repeat (go_quiet (fail); try go_wp2)
             go_roundg k1
             case measure => have := HK1.out; omega
             case rel => exact ⟨(wrap64 (x15_1 + 1)), (by first | rfl | (simp; done) | (simp [*]; done)), H', ⟨by have := HK1.out; omega⟩, ⟨KB BK101⟩, ⟨K1 HB GE101.out⟩⟩
           ·rw [if_neg c16] at H
            exact absurd H (by simp)
          ·rw [if_neg c15] at H
           exact absurd H (by simp)
         ·rw [if_neg c13] at H
          have c13b0 : decide (0 < x15_1) = false := decide_eq_false c13
          clear c13
          have H' := Aside0.mk H
          clear H
          have p102 : 0 ≤ (x15_1 : Int) := OD
          have q102 : x15_1 < (l0_1.length : Int) := OD
          obtain ⟨ad102, e102, hx102_0⟩ := Kd.at_int HR0_1.out x15_1 p102 q102
          cases e102
          replace hx102_0 := CX HB.out hx102_0
          replace p102 := eq_true p102
          replace q102 := eq_true q102
          obtain ⟨hcz20_0, hcz20_1, hfz20_0⟩ := y2 wr BK101.out
          go_wp2
          repeat (go_quiet (fail); try go_wp2)
          go_roundg k1
          case measure => have := HK1.out; omega
          case rel => exact ⟨(wrap64 (x15_1 + 1)), (by first | rfl | (simp; done) | (simp [*]; done)), H', ⟨by have := HK1.out; omega⟩, ⟨KB BK101⟩, ⟨K1 HB GE101.out⟩⟩
      ·rw [if_neg c9] at H
       exact absurd H (by simp)
     ·rw [if_neg c8] at H
      exact absurd H (by simp)
    ·rw [if_neg c7] at H
     have c7b0 : decide (x15_1 < (l0_1.length : Int)) = false := decide_eq_false c7
     clear c7
     obtain ⟨ji21, hji21⟩ : ∃ j_ : Int, (wrap64 ((l0_1.length : Int) - 1)) = j_ := ⟨_, rfl⟩
     replace H : (if 0 ≤ (ji21) then (if (ji21) < (l0_1.length : Int) then (if (rd l0_1 (ji21)) = a0_0 then (some (decide (a0_0 ≤ 1000000))) else (some false)) else (none)) else (none)) = some r := by first | (rw [hji21] at H; exact H) | (simp only [hji21] at H ⊢; exact H)
     have hji21w : (IntKind.i64.wrap ((l0_1.length : Int) - 1)) = ji21 := (i64_w _).trans hji21
     by_cases c22 : 0 ≤ (ji21)
     ·rw [if_pos c22] at H
      have c22b0 : decide (0 ≤ (ji21)) = true := decide_eq_true c22
      clear c22
      by_cases c23 : (ji21) < (l0_1.length : Int)
      ·rw [if_pos c23] at H
       have c23b0 : decide ((ji21) < (l0_1.length : Int)) = true := decide_eq_true c23
       clear c23
       by_cases c24 : (rd l0_1 (ji21)) = a0_0
       ·rw [if_pos c24] at H
        have c24b0 : ((rd l0_1 (ji21)) == a0_0) = true := beq_iff_eq.mpr c24
        have c24b1 : ((rd l0_1 (ji21)) != a0_0) = false := bne_eq_false_iff_eq.mpr c24
        clear c24
        obtain rfl := Option.some.inj H
        obtain ⟨hcz25_0, hcz25_1, hfz25_0⟩ := y2 wr BK101.out
        have p104 : 0 ≤ ((ji21) : Int) := OD
        have q104 : (ji21) < (l0_1.length : Int) := OD
        obtain ⟨ad104, e104, hx104_0⟩ := Kd.at_int HR0_1.out (ji21) p104 q104
        cases e104
        replace hx104_0 := CX HB.out hx104_0
        replace p104 := eq_true p104
        replace q104 := eq_true q104
        go_wp2
        repeat (go_quiet (fail); try go_wp2)
        go_ret
        exact ⟨by first | rfl | (simp [errW_none, errW_some] <;> rfl) | (simp only [← hji21]; first | rfl | (simp [errW_none, errW_some] <;> rfl)) | (simp [*, errW_none, errW_some] <;> rfl), K1 HB GE101.out⟩
       ·rw [if_neg c24] at H
        have c24b0 : ((rd l0_1 (ji21)) == a0_0) = false := beq_eq_false_iff_ne.mpr c24
        have c24b1 : ((rd l0_1 (ji21)) != a0_0) = true := bne_iff_ne.mpr c24
        obtain rfl := Option.some.inj H
        obtain ⟨hcz26_0, hcz26_1, hfz26_0⟩ := y2 wr BK101.out
        have p104 : 0 ≤ ((ji21) : Int) := OD
        have q104 : (ji21) < (l0_1.length : Int) := OD
        obtain ⟨ad104, e104, hx104_0⟩ := Kd.at_int HR0_1.out (ji21) p104 q104
        cases e104
        replace hx104_0 := CX HB.out hx104_0
        replace p104 := eq_true p104
        replace q104 := eq_true q104
        go_wp2
        repeat (go_quiet (fail); try go_wp2)
        go_ret
        exact ⟨by first | rfl | (simp [errW_none, errW_some] <;> rfl) | (simp only [← hji21]; first | rfl | (simp [errW_none, errW_some] <;> rfl)) | (simp [*, errW_none, errW_some] <;> rfl), K1 HB GE101.out⟩
      ·rw [if_neg c23] at H
       exact absurd H (by simp)
     ·rw [if_neg c22] at H
      exact absurd H (by simp)
def cmp_Less_int.f (a0 : Int) (a1 : Int) : Option (Bool) := (cmp_isNaN_int.f a0).bind fun t101 => (if t101 = true then ((cmp_isNaN_int.f a1).bind fun t102 => (if t102 = true then (some (decide (a0 < a1))) else (some true))) else (some (decide (a0 < a1))))
set_option maxHeartbeats 8000000 in
set_option maxRecDepth 100000 in
theorem cmp_Less_int.calls (a0 : Int) (a1 : Int) (r : Bool) (w : World) (h : cmp_Less_int.f a0 a1 = some r) :
  Calls Try.prog 93 #[.int .i64 a0, .int .i64 a1] w fun e w' => e = .returned (.bool r) ∧ Drawn0 w w' := by
 have H : ((cmp_isNaN_int.f a0).bind fun t101 => (if t101 = true then ((cmp_isNaN_int.f a1).bind fun t102 => (if t102 = true then (some (decide (a0 < a1))) else (some true))) else (some (decide (a0 < a1))))) = some r := h
 clear h
 replace H := Option.bind_eq_some_iff.mp H
 obtain ⟨t101, A30, H⟩ := H
 replace H : (if t101 = true then ((cmp_isNaN_int.f a1).bind fun t102 => (if t102 = true then (some (decide (a0 < a1))) else (some true))) else (some (decide (a0 < a1)))) = some r := H
 have A3 := Aside0.mk A30
 clear A30
 by_cases c4 : t101 = true
 ·subst c4
  have H1 : ((cmp_isNaN_int.f a1).bind fun t102 => (if t102 = true then (some (decide (a0 < a1))) else (some true))) = some r := by rw [if_pos rfl] at H; exact H
  clear H
  have H := H1
  clear H1
  replace H := Option.bind_eq_some_iff.mp H
  obtain ⟨t102, A50, H⟩ := H
  replace H : (if t102 = true then (some (decide (a0 < a1))) else (some true)) = some r := H
  have A5 := Aside0.mk A50
  clear A50
  by_cases c6 : t102 = true
  ·subst c6
   have H1 : (some (decide (a0 < a1))) = some r := by rw [if_pos rfl] at H; exact H
   clear H
   have H := H1
   clear H1
   obtain rfl := Option.some.inj H
   go_enter Try.func93, Try.ntmps93
   go_wp2_with (first | ((with_reducible refine gate_callee (f := 127) rfl ?_); refine goesL_ (some 6) rfl rfl Try.func127 (by kernel_rfl) rfl #[.int .i64 a0] rfl MT ?_; (with_reducible refine (cmp_isNaN_int.calls a0 true _ A3.out).mono ?_); rintro e w' ⟨rfl, ⟨nd, rfl⟩⟩; refine ⟨_, rfl, ?_⟩) | (go_at_call 127; (with_reducible refine (cmp_isNaN_int.calls a1 true _ A5.out).mono ?_); rintro e w' ⟨rfl, ⟨nd, rfl⟩⟩))
   go_ret
   exact ⟨by first | rfl | (simp; done) | (simp [*]; done), by repeat (first | exact Drawn0.refl _ | apply Drawn0.step)⟩
  ·replace c6 := Bool.eq_false_iff.mpr c6
   subst c6
   have H1 : (some true) = some r := by rw [if_neg (show ¬ (false = true) by decide)] at H; exact H
   clear H
   have H := H1
   clear H1
   obtain rfl := Option.some.inj H
   go_enter Try.func93, Try.ntmps93
   go_wp2_with (first | ((with_reducible refine gate_callee (f := 127) rfl ?_); refine goesL_ (some 6) rfl rfl Try.func127 (by kernel_rfl) rfl #[.int .i64 a0] rfl MT ?_; (with_reducible refine (cmp_isNaN_int.calls a0 true _ A3.out).mono ?_); rintro e w' ⟨rfl, ⟨nd, rfl⟩⟩; refine ⟨_, rfl, ?_⟩) | (go_at_call 127; (with_reducible refine (cmp_isNaN_int.calls a1 false _ A5.out).mono ?_); rintro e w' ⟨rfl, ⟨nd, rfl⟩⟩))
   go_ret
   exact ⟨by first | rfl | (simp; done) | (simp [*]; done), by repeat (first | exact Drawn0.refl _ | apply Drawn0.step)⟩
 ·replace c4 := Bool.eq_false_iff.mpr c4
  subst c4
  have H1 : (some (decide (a0 < a1))) = some r := by rw [if_neg (show ¬ (false = true) by decide)] at H; exact H
  clear H
  have H := H1
  clear H1
  obtain rfl := Option.some.inj H
  go_enter Try.func93, Try.ntmps93
  go_wp2_with (first | ((with_reducible refine gate_callee (f := 127) rfl ?_); refine goesL_ (some 6) rfl rfl Try.func127 (by kernel_rfl) rfl #[.int .i64 a0] rfl MT ?_; (with_reducible refine (cmp_isNaN_int.calls a0 false _ A3.out).mono ?_); rintro e w' ⟨rfl, ⟨nd, rfl⟩⟩; refine ⟨_, rfl, ?_⟩))
  go_ret
  exact ⟨by first | rfl | (simp; done) | (simp [*]; done), by repeat (first | exact Drawn0.refl _ | apply Drawn0.step)⟩
theorem eqA107 (d : Nat) (w : World) (x0 y0 : Int) (x1 y1 : Int) (x2 y2 : Int) :
  (Op.equalIn (d + 2) 107 (.agg #[.int .i64 x0, .int .i64 x1, .int .i64 x2]) (.agg #[.int .i64 y0, .int .i64 y1, .int .i64 y2])).run Try.prog w = .ok (x0 == y0 && (x1 == y1 && (x2 == y2))) w := by
 refine eqA_of Try.underlying107 (by kernel_rfl) ?_
 refine eqf_cons (by rfl) (by go_simp; rfl) (by go_simp; rfl) (by go_simp) ?_
 refine eqf_cons (by rfl) (by go_simp; rfl) (by go_simp; rfl) (by go_simp) ?_
 exact eqf_last (by rfl) (by go_simp; rfl) (by go_simp; rfl) (by go_simp)
end Go.Proofs.Ytlpmmmhfceeiaaa.PAll
end
