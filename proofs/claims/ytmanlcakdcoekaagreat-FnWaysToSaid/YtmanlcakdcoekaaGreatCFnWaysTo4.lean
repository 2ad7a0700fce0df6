/- Contracts of the functions that the statement reaches, printed by a program out of the translation and joined with the plain laws. -/
import Derived.Laws.BitsAllLaws
import Derived.RowKit
import Derived.Test.YtmanlcakdcoekaaGreatCFnWaysTo0
import Derived.Test.YtmanlcakdcoekaaGreatCFnWaysTo2
import Derived.Test.YtmanlcakdcoekaaGreatCFnWaysTo3
section
namespace Go.Proofs.YtmanlcakdcoekaaGreat.PAll
open Go.RowKit Go.Proofs.YtmanlcakdcoekaaGreatW.PrintWords Go.Proofs.YtmanlcakdcoekaaGreatW.PrintLast Go.Proofs.YtmanlcakdcoekaaGreatW.PrintMore
attribute [local go_sem] max2_int min2_int max_two min_two max_three min_three max_four min_four   -- for this text's walks alone
set_option linter.unusedVariables false
set_option linter.unusedSimpArgs false
/-- The place of the first element of which p holds, from i on; -1. -/
def findO {α : Type} (p : α → Option Bool) : List α → Int → Option Int
 | [], _ => some (-1)
 | x :: xs, i => (p x).bind fun b => if b = true then some i else findO p xs (i + 1)
/-- Does p hold of some element? -/
def anyO {α : Type} (p : α → Option Bool) : List α → Option Bool
 | [] => some false
 | x :: xs => (p x).bind fun b => if b = true then some true else anyO p xs
theorem findO_any {α : Type} (p : α → Option Bool) : ∀ (l : List α) (i : Int) (r : Bool), 0 ≤ i → anyO p l = some r → ∃ v, findO p l i = some v ∧ decide (0 ≤ v) = r
 | [], i, r, _, h => by
  simp only [anyO, Option.some.injEq] at h
  exact ⟨-1, rfl, by rw [← h]; rfl⟩
 | x :: xs, i, r, hi, h => by
  simp only [anyO, Option.bind_eq_some_iff] at h
  obtain ⟨b, hb, h⟩ := h
  simp only [findO, hb, Option.bind_some]
  cases b with
  | true => exact ⟨i, rfl, by simp at h; rw [h]; simp [hi]⟩
  | false =>
   simp only [Bool.false_eq_true, if_false] at h ⊢
   exact findO_any p xs (i + 1) r (by omega) h
theorem v_atq {α : Type} {d : Kd α} {e base m : Nat} {ok : Nat → Prop} {w w' : World} {v : Value} {xs : List α} (hq : w.drewN m = w') (h : Kd.V d e w base ok v xs) : Kd.V d e w' base ok v xs := by subst hq; exact Kd.V_drewN h m
/-- A block's fact, a row's fact, what lies below: at a world that has drawn or laid something since. -/
theorem KB {P Q : Prop} (q : Aside0 Q) (h : Q → P := by intro h_; (with_reducible repeat (first | refine blk_drewN ?_ _ | refine blk_drew ?_ | refine blk_alloc ?_ _)); exact h_) : P := h q.out
theorem KR {P Q : Prop} (q : Aside0 Q) (h : Q → P := by intro h_; (with_reducible repeat (first | apply Kd.R_alloc | apply Kd.R_drewN | apply Kd.R_drew)); exact h_) : P := h q.out
theorem KL {P Q : Prop} (q : Aside0 Q) (h : Q → P := by intro h_; repeat (first | (with_reducible first | exact h_ | apply below_alloc | apply pw_below_drewN | apply below_drew1) | exact h_)) : P := h q.out
/-- So many that are on, so many that are not. -/
def tf (a b : Nat) : Array Bool := (List.replicate a true ++ List.replicate b false).toArray
theorem K1 {P Q R0 : Prop} (q : Aside0 Q) (r0 : R0) (h : Q → R0 → P := by intro h_ r0_; repeat (first | (with_reducible first | exact h_ | apply below_alloc | apply pw_below_drewN | apply below_drew1 | refine below_set ?_ r0_) | exact h_)) : P := h q.out r0
theorem K2 {P Q R0 R1 : Prop} (q : Aside0 Q) (r0 : R0) (r1 : R1) (h : Q → R0 → R1 → P := by intro h_ r0_ r1_; repeat (first | (with_reducible first | exact h_ | apply below_alloc | apply pw_below_drewN | apply below_drew1 | refine below_set ?_ r0_ | refine below_set ?_ r1_) | exact h_)) : P := h q.out r0 r1
theorem K3 {P Q R0 R1 R2 : Prop} (q : Aside0 Q) (r0 : R0) (r1 : R1) (r2 : R2) (h : Q → R0 → R1 → R2 → P := by intro h_ r0_ r1_ r2_; repeat (first | (with_reducible first | exact h_ | apply below_alloc | apply pw_below_drewN | apply below_drew1 | refine below_set ?_ r0_ | refine below_set ?_ r1_ | refine below_set ?_ r2_) | exact h_)) : P := h q.out r0 r1 r2
theorem K4 {P Q R0 R1 R2 R3 : Prop} (q : Aside0 Q) (r0 : R0) (r1 : R1) (r2 : R2) (r3 : R3) (h : Q → R0 → R1 → R2 → R3 → P := by intro h_ r0_ r1_ r2_ r3_; repeat (first | (with_reducible first | exact h_ | apply below_alloc | apply pw_below_drewN | apply below_drew1 | refine below_set ?_ r0_ | refine below_set ?_ r1_ | refine below_set ?_ r2_ | refine below_set ?_ r3_) | exact h_)) : P := h q.out r0 r1 r2 r3
theorem K5 {P Q R0 R1 R2 R3 R4 : Prop} (q : Aside0 Q) (r0 : R0) (r1 : R1) (r2 : R2) (r3 : R3) (r4 : R4) (h : Q → R0 → R1 → R2 → R3 → R4 → P := by intro h_ r0_ r1_ r2_ r3_ r4_; repeat (first | (with_reducible first | exact h_ | apply below_alloc | apply pw_below_drewN | apply below_drew1 | refine below_set ?_ r0_ | refine below_set ?_ r1_ | refine below_set ?_ r2_ | refine below_set ?_ r3_ | refine below_set ?_ r4_) | exact h_)) : P := h q.out r0 r1 r2 r3 r4
theorem K6 {P Q R0 R1 R2 R3 R4 R5 : Prop} (q : Aside0 Q) (r0 : R0) (r1 : R1) (r2 : R2) (r3 : R3) (r4 : R4) (r5 : R5) (h : Q → R0 → R1 → R2 → R3 → R4 → R5 → P := by intro h_ r0_ r1_ r2_ r3_ r4_ r5_; repeat (first | (with_reducible first | exact h_ | apply below_alloc | apply pw_below_drewN | apply below_drew1 | refine below_set ?_ r0_ | refine below_set ?_ r1_ | refine below_set ?_ r2_ | refine below_set ?_ r3_ | refine below_set ?_ r4_ | refine below_set ?_ r5_) | exact h_)) : P := h q.out r0 r1 r2 r3 r4 r5
theorem J0 {P Q : Prop} (q : Aside0 Q)  (h : Q → P := by intro h_; repeat (first | (with_reducible first | exact h_ | apply KeepBut.set_ | apply keep_drewN | apply keep_drew | apply keep_alloc) | exact h_)) : P := h q.out
theorem J1 {P Q R0 : Prop} (q : Aside0 Q) (r0 : R0) (h : Q → R0 → P := by intro h_ r0_; repeat (first | (with_reducible first | exact h_ | apply KeepBut.set_ | apply keep_drewN | apply keep_drew | apply keep_alloc | refine keep_far ?_ r0_ _) | exact h_)) : P := h q.out r0
theorem J2 {P Q R0 R1 : Prop} (q : Aside0 Q) (r0 : R0) (r1 : R1) (h : Q → R0 → R1 → P := by intro h_ r0_ r1_; repeat (first | (with_reducible first | exact h_ | apply KeepBut.set_ | apply keep_drewN | apply keep_drew | apply keep_alloc | refine keep_far ?_ r0_ _ | refine keep_far ?_ r1_ _) | exact h_)) : P := h q.out r0 r1
theorem KC {P Q : Prop} (q : Q) (h : Q → P := by intro h_; repeat (first | exact h_ | (with_reducible refine Kd.C_alloc ?_ _) | (with_reducible refine Kd.C_drewN ?_ _) | (with_reducible refine Kd.C_drew ?_))) : P := h q
theorem MT {P : Prop} (h : P := by ((try simp only [List.map_toArray, List.map_cons, List.map_nil]); first | done | rfl | (simp only [List.length_drop, List.length_take]; rfl))) : P := h
theorem am {p : Prop} (h : p) : Aside0 p := ⟨h⟩
theorem GL {a b c : Nat} (hg : a = b) (h : c ≤ b) : c ≤ a := by rw [hg]; exact h
theorem z0 (w : World) {g : Nat} {x0 : Value} {l : List Value} {t : TypeId} (h : w.heap[g]? = some (.cells (x0 :: l).toArray t (0, 0))) : w.cell? ⟨g, 0, none⟩ = some x0 := by rw [blk_cell h 0]; rfl
theorem z1 (w : World) {g : Nat} {x0 x1 : Value} {l : List Value} {t : TypeId} (h : w.heap[g]? = some (.cells (x0 :: x1 :: l).toArray t (0, 0))) : w.cell? ⟨g, 1, none⟩ = some x1 := by rw [blk_cell h 1]; rfl
theorem z2 (w : World) {g : Nat} {x0 x1 x2 : Value} {l : List Value} {t : TypeId} (h : w.heap[g]? = some (.cells (x0 :: x1 :: x2 :: l).toArray t (0, 0))) : w.cell? ⟨g, 2, none⟩ = some x2 := by rw [blk_cell h 2]; rfl
theorem z3 (w : World) {g : Nat} {x0 x1 x2 x3 : Value} {l : List Value} {t : TypeId} (h : w.heap[g]? = some (.cells (x0 :: x1 :: x2 :: x3 :: l).toArray t (0, 0))) : w.cell? ⟨g, 3, none⟩ = some x3 := by rw [blk_cell h 3]; rfl
theorem z4 (w : World) {g : Nat} {x0 x1 x2 x3 x4 : Value} {l : List Value} {t : TypeId} (h : w.heap[g]? = some (.cells (x0 :: x1 :: x2 :: x3 :: x4 :: l).toArray t (0, 0))) : w.cell? ⟨g, 4, none⟩ = some x4 := by rw [blk_cell h 4]; rfl
theorem z5 (w : World) {g : Nat} {x0 x1 x2 x3 x4 x5 : Value} {l : List Value} {t : TypeId} (h : w.heap[g]? = some (.cells (x0 :: x1 :: x2 :: x3 :: x4 :: x5 :: l).toArray t (0, 0))) : w.cell? ⟨g, 5, none⟩ = some x5 := by rw [blk_cell h 5]; rfl
theorem z9 (w : World) {g : Nat} {x0 x1 x2 x3 x4 x5 x6 x7 x8 x9 : Value} {l : List Value} {t : TypeId} (h : w.heap[g]? = some (.cells (x0 :: x1 :: x2 :: x3 :: x4 :: x5 :: x6 :: x7 :: x8 :: x9 :: l).toArray t (0, 0))) : w.cell? ⟨g, 9, none⟩ = some x9 := by rw [blk_cell h 9]; rfl
theorem tk {P : Program} {ops : Array Oper} {Q : Exit → Act → World → Prop} {md : Region.Mode} {S : World → Prop} {ds : List Nat} {oi : Oper} {v : Value} {fuel : Nat} {l : Array Bool} {a a' : Act} {w : World} (i : Nat) (N : Option Tmp) (l' : Array Bool) (hc : takeB md ops ds l l' i = true) (hS : S w)
  (h : wpAnyLast P md ops Q S ds fuel l' a' w) (hi : ops[i]? = some oi := by rfl) (hN : oi.dst = N := by rfl) (hQ : ∀ c a w, Q (.panic c) (a.put oi.dst v) w → Q (.panic c) a w := by exact fun _ _ _ h => h)
  (hy : YieldsIf P ops S oi v a := by exact Or.inl ⟨by rfl, by intro w' h_; (repeat (obtain ⟨_, h_⟩ := h_)); go_simp; with_reducible rfl⟩) (ha : a.put N v = a' := by simp only [Act.put, List.setIfInBounds_toArray, List.set_cons_zero, List.set_cons_succ, i64_w, i32_w]; rfl) : wpAnyLast P md ops Q S ds (fuel + 1) l a w :=
 take_ (i := i) (N := N) l' hi hN hc hQ hy hS ha h
theorem BB {g : Nat} {o : Obj} {w0 w w1 : World} (q : Aside0 (w0.heap[g]? = some o)) (hb : Below w.heap.size w w1) (h : w0.heap[g]? = some o → w.heap[g]? = some o := by intro h_; (with_reducible repeat (first | refine blk_drewN ?_ _ | refine blk_drew ?_ | refine blk_alloc ?_ _)); exact h_) : w1.heap[g]? = some o := blk_below (h q.out) hb
theorem NL {g b : Nat} {o : Obj} {w0 w : World} (q : Aside0 (w0.heap[g]? = some o)) (hg : b = w.heap.size) (h : w0.heap[g]? = some o → w.heap[g]? = some o := by intro h_; (with_reducible repeat (first | refine blk_drewN ?_ _ | refine blk_drew ?_ | refine blk_alloc ?_ _)); exact h_) : g ≠ b := by rw [hg]; exact Nat.ne_of_lt (blk_lt (h q.out))
theorem NG {g b : Nat} {o : Obj} {w0 w : World} (q : Aside0 (w0.heap[g]? = some o)) (hg : b = w.heap.size) (h : w0.heap[g]? = some o → w.heap[g]? = some o := by intro h_; (with_reducible repeat (first | refine blk_drewN ?_ _ | refine blk_drew ?_ | refine blk_alloc ?_ _)); exact h_) : b ≠ g := fun e => NL q hg h e.symm
theorem BX {P : Prop} (h : P := by first | (go_simp; done) | (go_simp; rfl)) : P := h
theorem CX {w w1 : World} {a : Addr} {v : Value} (hb : Below w.heap.size w w1) (h : w.cell? a = some v) : w1.cell? a = some v := (hb.cell (World.block_lt_of_cell? w _ h)).trans h
theorem ER {P : Prop} (h : P := by first | rfl | (simp [errW_none, errW_some] <;> rfl) | (simp [*, errW_none, errW_some] <;> rfl)) : P := h
theorem OD {p : Prop} [Decidable p] (h : decide p = true := by first | (with_reducible assumption) | assumption) : p := of_decide_eq_true h
theorem y1 (w : World) {g : Nat} {x0 : Value} {t : TypeId} (h : w.heap[g]? = some (.cells [x0].toArray t (0, 0))) : w.cell? ⟨g, 0, none⟩ = some x0 ∧ ∀ i, w.frozen? ⟨g, i, none⟩ = false := ⟨z0 w h, fun i => blk_frozen h i⟩
theorem y2 (w : World) {g : Nat} {x0 x1 : Value} {t : TypeId} (h : w.heap[g]? = some (.cells [x0, x1].toArray t (0, 0))) : w.cell? ⟨g, 0, none⟩ = some x0 ∧ w.cell? ⟨g, 1, none⟩ = some x1 ∧ ∀ i, w.frozen? ⟨g, i, none⟩ = false := ⟨z0 w h, z1 w h, fun i => blk_frozen h i⟩
theorem y3 (w : World) {g : Nat} {x0 x1 x2 : Value} {t : TypeId} (h : w.heap[g]? = some (.cells [x0, x1, x2].toArray t (0, 0))) : w.cell? ⟨g, 0, none⟩ = some x0 ∧ w.cell? ⟨g, 1, none⟩ = some x1 ∧ w.cell? ⟨g, 2, none⟩ = some x2 ∧ ∀ i, w.frozen? ⟨g, i, none⟩ = false := ⟨z0 w h, z1 w h, z2 w h, fun i => blk_frozen h i⟩
theorem pv {P : Program} {ops : Array Oper} {Q : Exit → Act → World → Prop} {md : Region.Mode} {S : World → Prop} {ds : List Nat} {oi : Oper} {v : Value} {fuel : Nat} {l : Array Bool} {a a' : Act} {w : World} {T : Bool × List (List Nat × List Nat)} (q : Aside0 (rtab md ops = T)) (i : Nat) (N : Nat) (l' : Array Bool)
  (h : wpAnyLast P md ops Q S ds fuel l' a' w) (hc : anyT T l.toList l'.toList i = true := by kernel_rfl) (hi : ops[i]? = some oi := by rfl) (hN : oi.dst = some N := by rfl) (hQ : ∀ c a w, Q (.panic c) (a.put oi.dst v) w → Q (.panic c) a w := by exact fun _ _ _ h => h)
  (hy : Yields P ops oi v a := by exact Or.inl ⟨by rfl, by intro w'; go_simp; with_reducible rfl⟩) (ha : a.put (some N) v = a' := by simp only [Act.put, List.setIfInBounds_toArray, List.set_cons_zero, List.set_cons_succ, i64_w, i32_w]; rfl) : wpAnyLast P md ops Q S ds (fuel + 1) l a w :=
 pure_ (i := i) (N := some N) l' hi hN (any_of q.out hc) hQ hy ha h
theorem pw {P : Program} {ops : Array Oper} {Q : Exit → Act → World → Prop} {md : Region.Mode} {S : World → Prop} {ds : List Nat} {oi : Oper} {fuel : Nat} {l : Array Bool} {a a' : Act} {w : World} {T : Bool × List (List Nat × List Nat)} (q : Aside0 (rtab md ops = T)) (i : Nat) (N : Nat) (l' : Array Bool)
  (h : wpAnyLast P md ops Q S ds fuel l' a' w) (hc : anyT T l.toList l'.toList i = true := by kernel_rfl) (hi : ops[i]? = some oi := by rfl) (hN : oi.dst = some N := by rfl) (hQ : ∀ c a w, Q (.panic c) (a.put oi.dst undef) w → Q (.panic c) a w := by exact fun _ _ _ h => h)
  (hy : Yields P ops oi undef a := by exact Or.inr ⟨by rfl, rfl⟩) (ha : a.put (some N) undef = a' := by simp only [Act.put, List.setIfInBounds_toArray, List.set_cons_zero, List.set_cons_succ, i64_w, i32_w]; rfl) : wpAnyLast P md ops Q S ds (fuel + 1) l a w :=
 pure_ (i := i) (N := some N) (v := undef) l' hi hN (any_of q.out hc) hQ hy ha h
@[reducible] def ce2 (w : World) (g : Nat) (x0 x1 : Value) (p : Prop) : Prop := w.cell? ⟨g, 0, none⟩ = some x0 ∧ w.cell? ⟨g, 1, none⟩ = some x1 ∧ p
@[reducible] def de2 (w : World) (g : Nat) (x0 x1 : Value) : Prop := w.cell? ⟨g, 0, none⟩ = some x0 ∧ w.cell? ⟨g, 1, none⟩ = some x1
@[reducible] def ce3 (w : World) (g : Nat) (x0 x1 x2 : Value) (p : Prop) : Prop := w.cell? ⟨g, 0, none⟩ = some x0 ∧ w.cell? ⟨g, 1, none⟩ = some x1 ∧ w.cell? ⟨g, 2, none⟩ = some x2 ∧ p
@[reducible] def de3 (w : World) (g : Nat) (x0 x1 x2 : Value) : Prop := w.cell? ⟨g, 0, none⟩ = some x0 ∧ w.cell? ⟨g, 1, none⟩ = some x1 ∧ w.cell? ⟨g, 2, none⟩ = some x2
@[reducible] def ce12 (w : World) (g : Nat) (x0 x1 x2 x3 x4 x5 x6 x7 x8 x9 x10 x11 : Value) (p : Prop) : Prop := w.cell? ⟨g, 0, none⟩ = some x0 ∧ w.cell? ⟨g, 1, none⟩ = some x1 ∧ w.cell? ⟨g, 2, none⟩ = some x2 ∧ w.cell? ⟨g, 3, none⟩ = some x3 ∧ w.cell? ⟨g, 4, none⟩ = some x4 ∧ w.cell? ⟨g, 5, none⟩ = some x5 ∧ w.cell? ⟨g, 6, none⟩ = some x6 ∧ w.cell? ⟨g, 7, none⟩ = some x7 ∧ w.cell? ⟨g, 8, none⟩ = some x8 ∧ w.cell? ⟨g, 9, none⟩ = some x9 ∧ w.cell? ⟨g, 10, none⟩ = some x10 ∧ w.cell? ⟨g, 11, none⟩ = some x11 ∧ p
@[reducible] def ce14 (w : World) (g : Nat) (x0 x1 x2 x3 x4 x5 x6 x7 x8 x9 x10 x11 x12 x13 : Value) (p : Prop) : Prop := w.cell? ⟨g, 0, none⟩ = some x0 ∧ w.cell? ⟨g, 1, none⟩ = some x1 ∧ w.cell? ⟨g, 2, none⟩ = some x2 ∧ w.cell? ⟨g, 3, none⟩ = some x3 ∧ w.cell? ⟨g, 4, none⟩ = some x4 ∧ w.cell? ⟨g, 5, none⟩ = some x5 ∧ w.cell? ⟨g, 6, none⟩ = some x6 ∧ w.cell? ⟨g, 7, none⟩ = some x7 ∧ w.cell? ⟨g, 8, none⟩ = some x8 ∧ w.cell? ⟨g, 9, none⟩ = some x9 ∧ w.cell? ⟨g, 10, none⟩ = some x10 ∧ w.cell? ⟨g, 11, none⟩ = some x11 ∧ w.cell? ⟨g, 12, none⟩ = some x12 ∧ w.cell? ⟨g, 13, none⟩ = some x13 ∧ p
theorem GH {b : Nat} {w W0 W : World} (q : Aside0 (Below w.heap.size w W0)) (hg : b = W.heap.size) (h : Below w.heap.size w W0 → Below w.heap.size w W := by intro h_; repeat (first | (with_reducible first | exact h_ | apply below_alloc | apply pw_below_drewN | apply below_drew1) | exact h_)) : w.heap.size ≤ b := by rw [hg]; exact below_size (h q.out)
theorem GH1 {b : Nat} {w W0 W : World} {R0 : Prop} (q : Aside0 (Below w.heap.size w W0)) (r0 : R0) (hg : b = W.heap.size) (h : Below w.heap.size w W0 → R0 → Below w.heap.size w W := by intro h_ r0_; repeat (first | (with_reducible first | exact h_ | apply below_alloc | apply pw_below_drewN | apply below_drew1 | refine below_set ?_ r0_) | exact h_)) : w.heap.size ≤ b := by rw [hg]; exact below_size (h q.out r0)
/-- Runs of what is on and what is not. -/
def tr (l : List Nat) : Array Bool := (l.foldl (fun (p : List Bool × Bool) n => (p.1 ++ List.replicate n p.2, !p.2)) ([], true)).1.toArray
@[reducible] def bk (w : World) (g : Nat) (cs : Array Value) (t : TypeId) : Prop := w.heap[g]? = some (.cells cs t (0, 0))
theorem CY {w w1 w2 : World} {a : Addr} {v : Value} (hb : Below w.heap.size w w1) (h : w.cell? a = some v) (e : w1.cell? a = w2.cell? a := by rfl) : w2.cell? a = some v := e ▸ CX hb h
theorem KD {α : Type} {d : Kd α} {w w1 w2 : World} {A : Option Addr} {n : Nat} {xs : List α} (q : Aside0 (d.C w A n xs)) (hb : Aside0 (Below w.heap.size w w1)) (h : d.C w1 A n xs → d.C w2 A n xs := by intro h_; repeat (first | exact h_ | (with_reducible refine Kd.C_alloc ?_ _) | (with_reducible refine Kd.C_drewN ?_ _) | (with_reducible refine Kd.C_drew ?_))) : d.C w2 A n xs := h (Kd.C_below q.out hb.out)
theorem RF {α : Type} {d : Kd α} {e base g t : Nat} {ok : Nat → Prop} {w w1 : World} {v : Value} {xs : List α} {cells : Array Value} (h : Kd.R d e w base ok v xs) (hb : w.heap[g]? = some (.cells cells t (0, 0))) (ht : ∀ q, q ∈ e :: d.E → q ≠ t := by decide)
  (hw : ∀ k, k ≠ g → w1.heap[k]? = w.heap[k]? := by intro k hk; repeat (first | refine (Below.heap_setCell _ _ _ k hk).trans ?_ | exact rfl)) : Kd.R d e w1 base ok v xs :=
 Kd.R_mono (Kd.R_move (Kd.R_types h hb ht) (fun k hk => hw k hk.2)) (fun _ hk => hk.1)
theorem P2 {w : World} {g : Nat} {t : TypeId} {a0_ a1_ b0_ b1_ : Value} (q : Aside0 (w.heap[g]? = some (.cells #[b0_, b1_] t (0, 0)))) : ((w.setCell ⟨g, 0, none⟩ a0_).setCell ⟨g, 1, none⟩ a1_).heap[g]? = some (.cells #[a0_, a1_] t (0, 0)) := by
 have q0 := q.out
 have q1 := blk_put (cs' := #[a0_, b1_]) q0 0 a0_ rfl
 have q2 := blk_put (cs' := #[a0_, a1_]) q1 1 a1_ rfl
 exact q2
theorem P3 {w : World} {g : Nat} {t : TypeId} {a0_ a1_ a2_ b0_ b1_ b2_ : Value} (q : Aside0 (w.heap[g]? = some (.cells #[b0_, b1_, b2_] t (0, 0)))) : (((w.setCell ⟨g, 0, none⟩ a0_).setCell ⟨g, 1, none⟩ a1_).setCell ⟨g, 2, none⟩ a2_).heap[g]? = some (.cells #[a0_, a1_, a2_] t (0, 0)) := by
 have q0 := q.out
 have q1 := blk_put (cs' := #[a0_, b1_, b2_]) q0 0 a0_ rfl
 have q2 := blk_put (cs' := #[a0_, a1_, b2_]) q1 1 a1_ rfl
 have q3 := blk_put (cs' := #[a0_, a1_, a2_]) q2 2 a2_ rfl
 exact q3
end Go.Proofs.YtmanlcakdcoekaaGreat.PAll
end
section
namespace Go.Proofs.YtmanlcakdcoekaaGreat.Z
open Go Go.RowKit Go.Proofs.YtmanlcakdcoekaaGreatW.PrintWords Go.Proofs.YtmanlcakdcoekaaGreatW.PrintMore
set_option linter.unusedVariables false
set_option linter.unusedSimpArgs false
theorem w64 {n : Int} (h : -9223372036854775808 ≤ n ∧ n ≤ 9223372036854775807) : wrap64 n = n := by unfold wrap64; omega
/-- The number of addresses of a block of so many bits. -/
def sz (m : Int) : Int := 2 ^ (32 - m).toNat
theorem sz_32 : sz 32 = 1 := rfl
theorem sz_half {m : Int} (h1 : m < 32) : sz m = 2 * sz (m + 1) := by
 unfold sz
 have e : (32 - m).toNat = (32 - (m + 1)).toNat + 1 := by omega
 rw [e, Int.pow_succ, Int.mul_comm]
theorem sz_pos (m : Int) : 1 ≤ sz m := by
 unfold sz
 have : (0 : Int) < 2 ^ (32 - m).toNat := Int.pow_pos (by decide)
 omega
theorem sz_dvd {m n : Int} (h : m ≤ n) : sz n ∣ sz m := by
 unfold sz
 obtain ⟨j, e⟩ : ∃ j : Nat, (32 - m).toNat = (32 - n).toNat + j := ⟨(32 - m).toNat - (32 - n).toNat, by omega⟩
 rw [e, Int.pow_add]
 exact Int.dvd_mul_right _ _
theorem sz_le {m n : Int} (h : m ≤ n) : sz n ≤ sz m := Int.le_of_dvd (by have := sz_pos m; omega) (sz_dvd h)
theorem sz_top {m : Int} (h0 : 0 ≤ m) : sz m ≤ 4294967296 := sz_le h0
theorem sz_dvd_top {m : Int} (h0 : 0 ≤ m) : sz m ∣ 4294967296 := sz_dvd h0
/-- A block that is valid. -/
def bok (b m : Int) : Prop := 0 ≤ b ∧ b ≤ 4294967295 ∧ 0 ≤ m ∧ m ≤ 32 ∧ b % sz m = 0
instance (b m : Int) : Decidable (bok b m) := by unfold bok; exact inferInstance
def bokB (b m : Int) : Bool := decide (bok b m)
theorem bokB_true {b m : Int} : bokB b m = true ↔ bok b m := by simp [bokB]
theorem bokB_false {b m : Int} : bokB b m = false ↔ ¬ bok b m := by simp [bokB]
/-- Multiples of a size lie a size apart. -/
theorem mult_apart {s a b : Int} (hs : 0 < s) (ha : s ∣ a) (hb : s ∣ b) (h : a < b) : a + s ≤ b := by
 obtain ⟨x, rfl⟩ := ha
 obtain ⟨y, rfl⟩ := hb
 have hxy : x < y := by
  rcases Int.lt_or_le x y with h' | h'
  ·exact h'
  ·exact absurd (Int.mul_le_mul_of_nonneg_left h' (Int.le_of_lt hs)) (by omega)
 have : s * (x + 1) ≤ s * y := Int.mul_le_mul_of_nonneg_left (by omega) (Int.le_of_lt hs)
 rw [Int.mul_add] at this
 omega
theorem bok.dvd {b m : Int} (h : bok b m) : sz m ∣ b := Int.dvd_of_emod_eq_zero h.2.2.2.2
theorem bok.last {b m : Int} (h : bok b m) : b + sz m ≤ 4294967296 := by
 obtain ⟨h0, h1, h2, h3, h4⟩ := h
 exact mult_apart (by have := sz_pos m; omega) (Int.dvd_of_emod_eq_zero h4) (sz_dvd_top h2) (by omega)
theorem bok.mk' {b m : Int} (h0 : 0 ≤ b) (h1 : b ≤ 4294967295) (h2 : 0 ≤ m) (h3 : m ≤ 32) (h4 : sz m ∣ b) : bok b m := ⟨h0, h1, h2, h3, Int.emod_eq_zero_of_dvd h4⟩
theorem i64_xor_nat (a b : Nat) (ha : a < 9223372036854775808) (hb : b < 9223372036854775808) : bits .xor .i64 (a : Int) (b : Int) = ((a ^^^ b : Nat) : Int) := by
 have hx : a ^^^ b < 2 ^ 63 := Nat.xor_lt_two_pow (by omega) (by omega)
 show IntKind.i64.wrap ((BitVec.ofInt 64 (a : Int) ^^^ BitVec.ofInt 64 (b : Int)).toNat : Int) = _
 rw [BitVec.toNat_xor, ofInt_u64 a (by omega), ofInt_u64 b (by omega), IntKind.wrap_i64]
 omega
theorem i64_xor (a b : Int) (h1 : 0 ≤ a) (h2 : a < 9223372036854775808) (h3 : 0 ≤ b) (h4 : b < 9223372036854775808) : bits .xor .i64 a b = ((a.toNat ^^^ b.toNat : Nat) : Int) := by
 obtain ⟨A, rfl⟩ := Int.eq_ofNat_of_zero_le h1
 obtain ⟨B, rfl⟩ := Int.eq_ofNat_of_zero_le h3
 simpa using i64_xor_nat A B (by omega) (by omega)
theorem shl_one {x : Int} (h0 : 0 ≤ x) (h1 : x ≤ 62) : shl .i64 1 x = 2 ^ x.toNat := by
 have e : min x.toNat IntKind.i64.bits = x.toNat := by
  have : IntKind.i64.bits = 64 := rfl
  omega
 unfold shl
 rw [e, IntKind.wrap_i64, Int.one_mul]
 have hp : (2 : Int) ^ x.toNat ≤ 2 ^ 62 := by
  exact_mod_cast Nat.pow_le_pow_right (n := 2) (by decide) (by omega : x.toNat ≤ 62)
 have hq : (0 : Int) < 2 ^ x.toNat := Int.pow_pos (by decide)
 omega
theorem shl_sz {m : Int} (h0 : 0 ≤ m) (h1 : m ≤ 32) : shl .i64 1 (32 - m) = sz m := by
 rw [shl_one (by omega) (by omega)]; rfl
theorem Ev.all {α : Type} {g : Nat → Option α} {r : α} (h : ∀ k, g k = some r) : Ev g r := ⟨0, fun k _ => h k⟩
/-- What a walk of some number of rounds answers: step by step. -/
theorem evB {α β : Type} {g : Nat → Option α} {h : α → Nat → Option β} {a : α} {r : β} (e : ∃ K, ∀ k, K ≤ k → g k = some a) (f : ∃ K, ∀ k, K ≤ k → h a k = some r) : ∃ K, ∀ k, K ≤ k → ((g k).bind fun x => h x k) = some r := by
 obtain ⟨K1, e⟩ := e
 obtain ⟨K2, f⟩ := f
 exact ⟨K1 + K2, fun k hk => by rw [e k (by omega), Option.bind_some, f k (by omega)]⟩
theorem evS {α β : Type} {g : Option α} {h : α → Nat → Option β} {a : α} {r : β} (e : g = some a) (f : ∃ K, ∀ k, K ≤ k → h a k = some r) : ∃ K, ∀ k, K ≤ k → (g.bind fun x => h x k) = some r := by
 obtain ⟨K2, f⟩ := f
 exact ⟨K2, fun k hk => by rw [e, Option.bind_some, f k (by omega)]⟩
theorem evP {α : Type} {c : Prop} [Decidable c] {g h : Nat → Option α} {r : α} (hc : c) (f : ∃ K, ∀ k, K ≤ k → g k = some r) : ∃ K, ∀ k, K ≤ k → (if c then g k else h k) = some r := by
 obtain ⟨K2, f⟩ := f
 exact ⟨K2, fun k hk => by rw [if_pos hc, f k (by omega)]⟩
theorem evN {α : Type} {c : Prop} [Decidable c] {g h : Nat → Option α} {r : α} (hc : ¬c) (f : ∃ K, ∀ k, K ≤ k → h k = some r) : ∃ K, ∀ k, K ≤ k → (if c then g k else h k) = some r := by
 obtain ⟨K2, f⟩ := f
 exact ⟨K2, fun k hk => by rw [if_neg hc, f k (by omega)]⟩
theorem evI {α : Type} {c : Prop} [Decidable c] {g h : Nat → Option α} {r : α} (f : c → ∃ K, ∀ k, K ≤ k → g k = some r) (f' : ¬c → ∃ K, ∀ k, K ≤ k → h k = some r) : ∃ K, ∀ k, K ≤ k → (if c then g k else h k) = some r := by
 by_cases hc : c
 ·exact evP hc (f hc)
 ·exact evN hc (f' hc)
theorem ev1 {α : Type} {f : Nat → Option α} {r : α} (h : ∃ K, ∀ k, K ≤ k → f (k + 1) = some r) : ∃ K, ∀ k, K ≤ k → f k = some r := by
 obtain ⟨K, h⟩ := h
 exact ⟨K + 1, fun k hk => by obtain ⟨j, rfl⟩ : ∃ j, k = j + 1 := ⟨k - 1, by omega⟩; exact h j (by omega)⟩
theorem evR {α : Type} {r q : α} (h : r = q) : ∃ K : Nat, ∀ k, K ≤ k → some r = some q := ⟨0, fun _ _ => by rw [h]⟩
/-- A walk of some number of rounds answers something of which Q holds. -/
def Dr {α : Type} (g : Nat → Option α) (Q : α → Prop) : Prop := ∃ r, (∃ K, ∀ k, K ≤ k → g k = some r) ∧ Q r
theorem drB {α β : Type} {g : Nat → Option α} {h : α → Nat → Option β} {a : α} {Q : β → Prop} (e : ∃ K, ∀ k, K ≤ k → g k = some a) (f : Dr (h a) Q) : Dr (fun k => (g k).bind fun x => h x k) Q := by
 obtain ⟨r, f, q⟩ := f
 exact ⟨r, evB e f, q⟩
theorem drS {α β : Type} {g : Option α} {h : α → Nat → Option β} {a : α} {Q : β → Prop} (e : g = some a) (f : Dr (h a) Q) : Dr (fun k => g.bind fun x => h x k) Q := by
 obtain ⟨r, f, q⟩ := f
 exact ⟨r, evS e f, q⟩
theorem drP {α : Type} {c : Prop} [Decidable c] {g h : Nat → Option α} {Q : α → Prop} (hc : c) (f : Dr g Q) : Dr (fun k => if c then g k else h k) Q := by
 obtain ⟨r, f, q⟩ := f
 exact ⟨r, evP hc f, q⟩
theorem drN {α : Type} {c : Prop} [Decidable c] {g h : Nat → Option α} {Q : α → Prop} (hc : ¬c) (f : Dr h Q) : Dr (fun k => if c then g k else h k) Q := by
 obtain ⟨r, f, q⟩ := f
 exact ⟨r, evN hc f, q⟩
theorem drI {α : Type} {c : Prop} [Decidable c] {g h : Nat → Option α} {Q : α → Prop} (f : c → Dr g Q) (f' : ¬c → Dr h Q) : Dr (fun k => if c then g k else h k) Q := by
 by_cases hc : c
 ·exact drP hc (f hc)
 ·exact drN hc (f' hc)
theorem dr1 {α : Type} {f : Nat → Option α} {Q : α → Prop} (h : Dr (fun k => f (k + 1)) Q) : Dr f Q := by
 obtain ⟨r, f, q⟩ := h
 exact ⟨r, ev1 f, q⟩
theorem drR {α : Type} {r : α} {Q : α → Prop} (h : Q r) : Dr (fun _ => some r) Q := ⟨r, ⟨0, fun _ _ => rfl⟩, h⟩
theorem Dr.imp {α : Type} {g : Nat → Option α} {P Q : α → Prop} (h : Dr g P) (f : ∀ x, P x → Q x) : Dr g Q := by
 obtain ⟨r, e, q⟩ := h
 exact ⟨r, e, f r q⟩
end Go.Proofs.YtmanlcakdcoekaaGreat.Z
end
