/- Contracts of the functions that the statement reaches. -/
import Derived.Deep.Slices
import Derived.Deep.Fields
import Derived.ChangeSame
import Derived.ChangeArms
import Derived.Laws.BitsAllLaws
import Derived.RowKit
import Derived.Test.YtaehmhbpdpdefaaGreatCFnExactGateLoad0
import Derived.Test.YtaehmhbpdpdefaaGreatCFnExactGateLoad2
import Derived.Test.YtaehmhbpdpdefaaGreatCFnExactGateLoad3
section
namespace Go.Proofs.YtaehmhbpdpdefaaGreat.PAll
open Go.RowKit Go.Proofs.YtaehmhbpdpdefaaGreatW.PrintWords Go.Proofs.YtaehmhbpdpdefaaGreatW.PrintLast Go.Proofs.YtaehmhbpdpdefaaGreatW.PrintMore
attribute [local go_sem] max2_int min2_int max_two min_two max_three min_three max_four min_four
set_option linter.unusedVariables false
set_option linter.unusedSimpArgs false
/-- The place of the first element of which p holds, from i on; -1. -/
def findO {α : Type} (p : α → Option Bool) : List α → Int → Option Int
 | [], _ => some (-1)
 | x :: xs, i => (p x).bind fun b => if b = true then some i else findO p xs (i + 1)
/-- Does p hold of some element? -/
def anyO {α : Type} (p : α → Option Bool) : List α → Option Bool
 | [] => some false
 | x :: xs => (p x).bind fun b => if b = true then some true else anyO p xs
theorem findO_any {α : Type} (p : α → Option Bool) : ∀ (l : List α) (i : Int) (r : Bool), 0 ≤ i → anyO p l = some r → ∃ v, findO p l i = some v ∧ decide (0 ≤ v) = r
 | [], i, r, _, h => by
  simp only [anyO, Option.some.injEq] at h; exact ⟨-1, rfl, by rw [← h]; rfl⟩
 | x :: xs, i, r, hi, h => by
  simp only [anyO, Option.bind_eq_some_iff] at h; obtain ⟨b, hb, h⟩ := h; simp only [findO, hb, Option.bind_some]; cases b with
  | true => exact ⟨i, rfl, by simp at h; rw [h]; simp [hi]⟩
  | false =>
   simp only [Bool.false_eq_true, if_false] at h ⊢; exact findO_any p xs (i + 1) r (by omega) h
/-- A block's fact, a row's fact, what lies below: at a world that has drawn or laid something since. -/
theorem KB {P Q : Prop} (q : Aside0 Q) (h : Q → P := by intro h_; (with_reducible repeat (first | refine blk_drewN ?_ _ | refine blk_drew ?_ | refine blk_alloc ?_ _)); exact h_) : P := h q.out
theorem KR {P Q : Prop} (q : Aside0 Q) (h : Q → P := by intro h_; (with_reducible repeat (first | apply Kd.R_alloc | apply Kd.R_drewN | apply Kd.R_drew)); exact h_) : P := h q.out
theorem KL {P Q : Prop} (q : Aside0 Q) (h : Q → P := by intro h_; repeat (first | (with_reducible first | exact h_ | apply below_alloc | apply pw_below_drewN | apply below_drew1) | exact h_)) : P := h q.out
/-- So many that are on, so many that are not. -/
def tf (a b : Nat) : Array Bool := (List.replicate a true ++ List.replicate b false).toArray
/-- A pure step of a drawn region: what it yields and what is known behind it are found by themselves. -/
theorem pu {P : Program} {ops : Array Oper} {Q : Exit → Act → World → Prop} {md : Region.Mode} {S : World → Prop} {ds : List Nat} {oi : Oper} {v : Value} {fuel : Nat} {l : Array Bool} {a a' : Act} {w : World} (i : Nat) (N : Option Tmp) (l' : Array Bool) (hc : anyB md ops l l' i = true)
  (h : wpAnyLast P md ops Q S ds fuel l' a' w) (hi : ops[i]? = some oi := by rfl) (hN : oi.dst = N := by rfl) (hQ : ∀ c a w, Q (.panic c) (a.put oi.dst v) w → Q (.panic c) a w := by exact fun _ _ _ h => h)
  (hy : Yields P ops oi v a := by exact Or.inl ⟨by rfl, by intro w'; go_simp; with_reducible rfl⟩) (ha : a.put N v = a' := by simp only [Act.put, List.setIfInBounds_toArray, List.set_cons_zero, List.set_cons_succ, i64_w, i32_w]; rfl) : wpAnyLast P md ops Q S ds (fuel + 1) l a w :=
 pure_ (i := i) (N := N) l' hi hN hc hQ hy ha h
theorem K1 {P Q R0 : Prop} (q : Aside0 Q) (r0 : R0) (h : Q → R0 → P := by intro h_ r0_; repeat (first | (with_reducible first | exact h_ | apply below_alloc | apply pw_below_drewN | apply below_drew1 | refine below_set ?_ r0_) | exact h_)) : P := h q.out r0
theorem K2 {P Q R0 R1 : Prop} (q : Aside0 Q) (r0 : R0) (r1 : R1) (h : Q → R0 → R1 → P := by intro h_ r0_ r1_; repeat (first | (with_reducible first | exact h_ | apply below_alloc | apply pw_below_drewN | apply below_drew1 | refine below_set ?_ r0_ | refine below_set ?_ r1_) | exact h_)) : P := h q.out r0 r1
theorem K3 {P Q R0 R1 R2 : Prop} (q : Aside0 Q) (r0 : R0) (r1 : R1) (r2 : R2) (h : Q → R0 → R1 → R2 → P := by intro h_ r0_ r1_ r2_; repeat (first | (with_reducible first | exact h_ | apply below_alloc | apply pw_below_drewN | apply below_drew1 | refine below_set ?_ r0_ | refine below_set ?_ r1_ | refine below_set ?_ r2_) | exact h_)) : P := h q.out r0 r1 r2
theorem K4 {P Q R0 R1 R2 R3 : Prop} (q : Aside0 Q) (r0 : R0) (r1 : R1) (r2 : R2) (r3 : R3) (h : Q → R0 → R1 → R2 → R3 → P := by intro h_ r0_ r1_ r2_ r3_; repeat (first | (with_reducible first | exact h_ | apply below_alloc | apply pw_below_drewN | apply below_drew1 | refine below_set ?_ r0_ | refine below_set ?_ r1_ | refine below_set ?_ r2_ | refine below_set ?_ r3_) | exact h_)) : P := h q.out r0 r1 r2 r3
theorem K5 {P Q R0 R1 R2 R3 R4 : Prop} (q : Aside0 Q) (r0 : R0) (r1 : R1) (r2 : R2) (r3 : R3) (r4 : R4) (h : Q → R0 → R1 → R2 → R3 → R4 → P := by intro h_ r0_ r1_ r2_ r3_ r4_; repeat (first | (with_reducible first | exact h_ | apply below_alloc | apply pw_below_drewN | apply below_drew1 | refine below_set ?_ r0_ | refine below_set ?_ r1_ | refine below_set ?_ r2_ | refine below_set ?_ r3_ | refine below_set ?_ r4_) | exact h_)) : P := h q.out r0 r1 r2 r3 r4
theorem K6 {P Q R0 R1 R2 R3 R4 R5 : Prop} (q : Aside0 Q) (r0 : R0) (r1 : R1) (r2 : R2) (r3 : R3) (r4 : R4) (r5 : R5) (h : Q → R0 → R1 → R2 → R3 → R4 → R5 → P := by intro h_ r0_ r1_ r2_ r3_ r4_ r5_; repeat (first | (with_reducible first | exact h_ | apply below_alloc | apply pw_below_drewN | apply below_drew1 | refine below_set ?_ r0_ | refine below_set ?_ r1_ | refine below_set ?_ r2_ | refine below_set ?_ r3_ | refine below_set ?_ r4_ | refine below_set ?_ r5_) | exact h_)) : P := h q.out r0 r1 r2 r3 r4 r5
theorem KC {P Q : Prop} (q : Q) (h : Q → P := by intro h_; repeat (first | exact h_ | (with_reducible refine Kd.C_alloc ?_ _) | (with_reducible refine Kd.C_drewN ?_ _) | (with_reducible refine Kd.C_drew ?_))) : P := h q
theorem MT {P : Prop} (h : P := by ((try simp only [List.map_toArray, List.map_cons, List.map_nil]); first | done | rfl | (simp only [List.length_drop, List.length_take]; rfl))) : P := h
theorem am {p : Prop} (h : p) : Aside0 p := ⟨h⟩
theorem z0 (w : World) {g : Nat} {x0 : Value} {l : List Value} {t : TypeId} (h : w.heap[g]? = some (.cells (x0 :: l).toArray t (0, 0))) : w.cell? ⟨g, 0, none⟩ = some x0 := by rw [blk_cell h 0]; rfl
theorem z1 (w : World) {g : Nat} {x0 x1 : Value} {l : List Value} {t : TypeId} (h : w.heap[g]? = some (.cells (x0 :: x1 :: l).toArray t (0, 0))) : w.cell? ⟨g, 1, none⟩ = some x1 := by rw [blk_cell h 1]; rfl
theorem z2 (w : World) {g : Nat} {x0 x1 x2 : Value} {l : List Value} {t : TypeId} (h : w.heap[g]? = some (.cells (x0 :: x1 :: x2 :: l).toArray t (0, 0))) : w.cell? ⟨g, 2, none⟩ = some x2 := by rw [blk_cell h 2]; rfl
theorem z3 (w : World) {g : Nat} {x0 x1 x2 x3 : Value} {l : List Value} {t : TypeId} (h : w.heap[g]? = some (.cells (x0 :: x1 :: x2 :: x3 :: l).toArray t (0, 0))) : w.cell? ⟨g, 3, none⟩ = some x3 := by rw [blk_cell h 3]; rfl
theorem z4 (w : World) {g : Nat} {x0 x1 x2 x3 x4 : Value} {l : List Value} {t : TypeId} (h : w.heap[g]? = some (.cells (x0 :: x1 :: x2 :: x3 :: x4 :: l).toArray t (0, 0))) : w.cell? ⟨g, 4, none⟩ = some x4 := by rw [blk_cell h 4]; rfl
theorem z5 (w : World) {g : Nat} {x0 x1 x2 x3 x4 x5 : Value} {l : List Value} {t : TypeId} (h : w.heap[g]? = some (.cells (x0 :: x1 :: x2 :: x3 :: x4 :: x5 :: l).toArray t (0, 0))) : w.cell? ⟨g, 5, none⟩ = some x5 := by rw [blk_cell h 5]; rfl
theorem z6 (w : World) {g : Nat} {x0 x1 x2 x3 x4 x5 x6 : Value} {l : List Value} {t : TypeId} (h : w.heap[g]? = some (.cells (x0 :: x1 :: x2 :: x3 :: x4 :: x5 :: x6 :: l).toArray t (0, 0))) : w.cell? ⟨g, 6, none⟩ = some x6 := by rw [blk_cell h 6]; rfl
theorem z7 (w : World) {g : Nat} {x0 x1 x2 x3 x4 x5 x6 x7 : Value} {l : List Value} {t : TypeId} (h : w.heap[g]? = some (.cells (x0 :: x1 :: x2 :: x3 :: x4 :: x5 :: x6 :: x7 :: l).toArray t (0, 0))) : w.cell? ⟨g, 7, none⟩ = some x7 := by rw [blk_cell h 7]; rfl
theorem z8 (w : World) {g : Nat} {x0 x1 x2 x3 x4 x5 x6 x7 x8 : Value} {l : List Value} {t : TypeId} (h : w.heap[g]? = some (.cells (x0 :: x1 :: x2 :: x3 :: x4 :: x5 :: x6 :: x7 :: x8 :: l).toArray t (0, 0))) : w.cell? ⟨g, 8, none⟩ = some x8 := by rw [blk_cell h 8]; rfl
theorem z9 (w : World) {g : Nat} {x0 x1 x2 x3 x4 x5 x6 x7 x8 x9 : Value} {l : List Value} {t : TypeId} (h : w.heap[g]? = some (.cells (x0 :: x1 :: x2 :: x3 :: x4 :: x5 :: x6 :: x7 :: x8 :: x9 :: l).toArray t (0, 0))) : w.cell? ⟨g, 9, none⟩ = some x9 := by rw [blk_cell h 9]; rfl
theorem z10 (w : World) {g : Nat} {x0 x1 x2 x3 x4 x5 x6 x7 x8 x9 x10 : Value} {l : List Value} {t : TypeId} (h : w.heap[g]? = some (.cells (x0 :: x1 :: x2 :: x3 :: x4 :: x5 :: x6 :: x7 :: x8 :: x9 :: x10 :: l).toArray t (0, 0))) : w.cell? ⟨g, 10, none⟩ = some x10 := by rw [blk_cell h 10]; rfl
theorem tk {P : Program} {ops : Array Oper} {Q : Exit → Act → World → Prop} {md : Region.Mode} {S : World → Prop} {ds : List Nat} {oi : Oper} {v : Value} {fuel : Nat} {l : Array Bool} {a a' : Act} {w : World} (i : Nat) (N : Option Tmp) (l' : Array Bool) (hc : takeB md ops ds l l' i = true) (hS : S w)
  (h : wpAnyLast P md ops Q S ds fuel l' a' w) (hi : ops[i]? = some oi := by rfl) (hN : oi.dst = N := by rfl) (hQ : ∀ c a w, Q (.panic c) (a.put oi.dst v) w → Q (.panic c) a w := by exact fun _ _ _ h => h)
  (hy : YieldsIf P ops S oi v a := by exact Or.inl ⟨by rfl, by intro w' h_; (repeat (obtain ⟨_, h_⟩ := h_)); go_simp; with_reducible rfl⟩) (ha : a.put N v = a' := by simp only [Act.put, List.setIfInBounds_toArray, List.set_cons_zero, List.set_cons_succ, i64_w, i32_w]; rfl) : wpAnyLast P md ops Q S ds (fuel + 1) l a w :=
 take_ (i := i) (N := N) l' hi hN hc hQ hy hS ha h
theorem BB {g : Nat} {o : Obj} {w0 w w1 : World} (q : Aside0 (w0.heap[g]? = some o)) (hb : Below w.heap.size w w1) (h : w0.heap[g]? = some o → w.heap[g]? = some o := by intro h_; (with_reducible repeat (first | refine blk_drewN ?_ _ | refine blk_drew ?_ | refine blk_alloc ?_ _)); exact h_) : w1.heap[g]? = some o := blk_below (h q.out) hb
theorem NL {g b : Nat} {o : Obj} {w0 w : World} (q : Aside0 (w0.heap[g]? = some o)) (hg : b = w.heap.size) (h : w0.heap[g]? = some o → w.heap[g]? = some o := by intro h_; (with_reducible repeat (first | refine blk_drewN ?_ _ | refine blk_drew ?_ | refine blk_alloc ?_ _)); exact h_) : g ≠ b := by rw [hg]; exact Nat.ne_of_lt (blk_lt (h q.out))
theorem NG {g b : Nat} {o : Obj} {w0 w : World} (q : Aside0 (w0.heap[g]? = some o)) (hg : b = w.heap.size) (h : w0.heap[g]? = some o → w.heap[g]? = some o := by intro h_; (with_reducible repeat (first | refine blk_drewN ?_ _ | refine blk_drew ?_ | refine blk_alloc ?_ _)); exact h_) : b ≠ g := fun e => NL q hg h e.symm
theorem BX {P : Prop} (h : P := by first | (go_simp; done) | (go_simp; rfl)) : P := h
theorem R_one {α : Type} {d : Kd α} {e base : Nat} {ok : Nat → Prop} {w : World} {v : Value} {xs : List α} (h : d.R e w base ok v xs) : v.oneCell' = true := by
 obtain ⟨A, c, rfl⟩ := Kd.R_slice h; rfl
theorem goesW_ {P : Program} {ops : Array Oper} {Q : Exit → Act → World → Prop} {oi : Oper} {N : Option Tmp} {a : Act} {w : World} {K : Act → World → Prop} {f : FuncId} {fn : Func} {x : Operand} {xs : Array Operand} {ts : Array TypeId} (hf : P.funcs[f]? = some fn) (hname : (fn.name == "runtime.NumGoroutine") = false) (hb : fn.body.isSome = true) (args : Array Value)
  (hw : Region.wanted oi (yielded ops a.tmps) = true) (hN : oi.dst = N) (hop : oi.op = .call { callee := .value x, args := xs, argTypes := ts }) (hv : a.eval x = .func (.func f) #[] #[]) (hargs : xs.map a.eval = args)
  (h : Calls P f args w fun e w' => ∃ v, e = .returned v ∧ K (a.put N v) w') : if Region.wanted oi (yielded ops a.tmps) = true then Oper.wp P oi a w K Q else K (a.put N undef) w := by
 refine call_ f args hw hN ?_ h; have he := enters_ hf hname hb args w; unfold execOp; simp [hop, resolve, Deferred.ofValue, invoke, hv, hargs, he]
theorem CX {w w1 : World} {a : Addr} {v : Value} (hb : Below w.heap.size w w1) (h : w.cell? a = some v) : w1.cell? a = some v := (hb.cell (World.block_lt_of_cell? w _ h)).trans h
theorem ER {P : Prop} (h : P := by first | rfl | (simp [errW_none, errW_some] <;> rfl) | (simp [*, errW_none, errW_some] <;> rfl)) : P := h
theorem OD {p : Prop} [Decidable p] (h : decide p = true := by first | (with_reducible assumption) | assumption) : p := of_decide_eq_true h
theorem y1 (w : World) {g : Nat} {x0 : Value} {t : TypeId} (h : w.heap[g]? = some (.cells [x0].toArray t (0, 0))) : w.cell? ⟨g, 0, none⟩ = some x0 ∧ ∀ i, w.frozen? ⟨g, i, none⟩ = false := ⟨z0 w h, fun i => blk_frozen h i⟩
theorem y2 (w : World) {g : Nat} {x0 x1 : Value} {t : TypeId} (h : w.heap[g]? = some (.cells [x0, x1].toArray t (0, 0))) : w.cell? ⟨g, 0, none⟩ = some x0 ∧ w.cell? ⟨g, 1, none⟩ = some x1 ∧ ∀ i, w.frozen? ⟨g, i, none⟩ = false := ⟨z0 w h, z1 w h, fun i => blk_frozen h i⟩
theorem y3 (w : World) {g : Nat} {x0 x1 x2 : Value} {t : TypeId} (h : w.heap[g]? = some (.cells [x0, x1, x2].toArray t (0, 0))) : w.cell? ⟨g, 0, none⟩ = some x0 ∧ w.cell? ⟨g, 1, none⟩ = some x1 ∧ w.cell? ⟨g, 2, none⟩ = some x2 ∧ ∀ i, w.frozen? ⟨g, i, none⟩ = false := ⟨z0 w h, z1 w h, z2 w h, fun i => blk_frozen h i⟩
theorem y4 (w : World) {g : Nat} {x0 x1 x2 x3 : Value} {t : TypeId} (h : w.heap[g]? = some (.cells [x0, x1, x2, x3].toArray t (0, 0))) : w.cell? ⟨g, 0, none⟩ = some x0 ∧ w.cell? ⟨g, 1, none⟩ = some x1 ∧ w.cell? ⟨g, 2, none⟩ = some x2 ∧ w.cell? ⟨g, 3, none⟩ = some x3 ∧ ∀ i, w.frozen? ⟨g, i, none⟩ = false := ⟨z0 w h, z1 w h, z2 w h, z3 w h, fun i => blk_frozen h i⟩
theorem y5 (w : World) {g : Nat} {x0 x1 x2 x3 x4 : Value} {t : TypeId} (h : w.heap[g]? = some (.cells [x0, x1, x2, x3, x4].toArray t (0, 0))) : w.cell? ⟨g, 0, none⟩ = some x0 ∧ w.cell? ⟨g, 1, none⟩ = some x1 ∧ w.cell? ⟨g, 2, none⟩ = some x2 ∧ w.cell? ⟨g, 3, none⟩ = some x3 ∧ w.cell? ⟨g, 4, none⟩ = some x4 ∧ ∀ i, w.frozen? ⟨g, i, none⟩ = false := ⟨z0 w h, z1 w h, z2 w h, z3 w h, z4 w h, fun i => blk_frozen h i⟩
theorem y6 (w : World) {g : Nat} {x0 x1 x2 x3 x4 x5 : Value} {t : TypeId} (h : w.heap[g]? = some (.cells [x0, x1, x2, x3, x4, x5].toArray t (0, 0))) : w.cell? ⟨g, 0, none⟩ = some x0 ∧ w.cell? ⟨g, 1, none⟩ = some x1 ∧ w.cell? ⟨g, 2, none⟩ = some x2 ∧ w.cell? ⟨g, 3, none⟩ = some x3 ∧ w.cell? ⟨g, 4, none⟩ = some x4 ∧ w.cell? ⟨g, 5, none⟩ = some x5 ∧ ∀ i, w.frozen? ⟨g, i, none⟩ = false := ⟨z0 w h, z1 w h, z2 w h, z3 w h, z4 w h, z5 w h, fun i => blk_frozen h i⟩
theorem y7 (w : World) {g : Nat} {x0 x1 x2 x3 x4 x5 x6 : Value} {t : TypeId} (h : w.heap[g]? = some (.cells [x0, x1, x2, x3, x4, x5, x6].toArray t (0, 0))) : w.cell? ⟨g, 0, none⟩ = some x0 ∧ w.cell? ⟨g, 1, none⟩ = some x1 ∧ w.cell? ⟨g, 2, none⟩ = some x2 ∧ w.cell? ⟨g, 3, none⟩ = some x3 ∧ w.cell? ⟨g, 4, none⟩ = some x4 ∧ w.cell? ⟨g, 5, none⟩ = some x5 ∧ w.cell? ⟨g, 6, none⟩ = some x6 ∧ ∀ i, w.frozen? ⟨g, i, none⟩ = false := ⟨z0 w h, z1 w h, z2 w h, z3 w h, z4 w h, z5 w h, z6 w h, fun i => blk_frozen h i⟩
theorem y8 (w : World) {g : Nat} {x0 x1 x2 x3 x4 x5 x6 x7 : Value} {t : TypeId} (h : w.heap[g]? = some (.cells [x0, x1, x2, x3, x4, x5, x6, x7].toArray t (0, 0))) : w.cell? ⟨g, 0, none⟩ = some x0 ∧ w.cell? ⟨g, 1, none⟩ = some x1 ∧ w.cell? ⟨g, 2, none⟩ = some x2 ∧ w.cell? ⟨g, 3, none⟩ = some x3 ∧ w.cell? ⟨g, 4, none⟩ = some x4 ∧ w.cell? ⟨g, 5, none⟩ = some x5 ∧ w.cell? ⟨g, 6, none⟩ = some x6 ∧ w.cell? ⟨g, 7, none⟩ = some x7 ∧ ∀ i, w.frozen? ⟨g, i, none⟩ = false := ⟨z0 w h, z1 w h, z2 w h, z3 w h, z4 w h, z5 w h, z6 w h, z7 w h, fun i => blk_frozen h i⟩
theorem y9 (w : World) {g : Nat} {x0 x1 x2 x3 x4 x5 x6 x7 x8 : Value} {t : TypeId} (h : w.heap[g]? = some (.cells [x0, x1, x2, x3, x4, x5, x6, x7, x8].toArray t (0, 0))) : w.cell? ⟨g, 0, none⟩ = some x0 ∧ w.cell? ⟨g, 1, none⟩ = some x1 ∧ w.cell? ⟨g, 2, none⟩ = some x2 ∧ w.cell? ⟨g, 3, none⟩ = some x3 ∧ w.cell? ⟨g, 4, none⟩ = some x4 ∧ w.cell? ⟨g, 5, none⟩ = some x5 ∧ w.cell? ⟨g, 6, none⟩ = some x6 ∧ w.cell? ⟨g, 7, none⟩ = some x7 ∧ w.cell? ⟨g, 8, none⟩ = some x8 ∧ ∀ i, w.frozen? ⟨g, i, none⟩ = false := ⟨z0 w h, z1 w h, z2 w h, z3 w h, z4 w h, z5 w h, z6 w h, z7 w h, z8 w h, fun i => blk_frozen h i⟩
theorem y11 (w : World) {g : Nat} {x0 x1 x2 x3 x4 x5 x6 x7 x8 x9 x10 : Value} {t : TypeId} (h : w.heap[g]? = some (.cells [x0, x1, x2, x3, x4, x5, x6, x7, x8, x9, x10].toArray t (0, 0))) : w.cell? ⟨g, 0, none⟩ = some x0 ∧ w.cell? ⟨g, 1, none⟩ = some x1 ∧ w.cell? ⟨g, 2, none⟩ = some x2 ∧ w.cell? ⟨g, 3, none⟩ = some x3 ∧ w.cell? ⟨g, 4, none⟩ = some x4 ∧ w.cell? ⟨g, 5, none⟩ = some x5 ∧ w.cell? ⟨g, 6, none⟩ = some x6 ∧ w.cell? ⟨g, 7, none⟩ = some x7 ∧ w.cell? ⟨g, 8, none⟩ = some x8 ∧ w.cell? ⟨g, 9, none⟩ = some x9 ∧ w.cell? ⟨g, 10, none⟩ = some x10 ∧ ∀ i, w.frozen? ⟨g, i, none⟩ = false := ⟨z0 w h, z1 w h, z2 w h, z3 w h, z4 w h, z5 w h, z6 w h, z7 w h, z8 w h, z9 w h, z10 w h, fun i => blk_frozen h i⟩
theorem pv {P : Program} {ops : Array Oper} {Q : Exit → Act → World → Prop} {md : Region.Mode} {S : World → Prop} {ds : List Nat} {oi : Oper} {v : Value} {fuel : Nat} {l : Array Bool} {a a' : Act} {w : World} {T : Bool × List (List Nat × List Nat)} (q : Aside0 (rtab md ops = T)) (i : Nat) (N : Nat) (l' : Array Bool)
  (h : wpAnyLast P md ops Q S ds fuel l' a' w) (hc : anyT T l.toList l'.toList i = true := by kernel_rfl) (hi : ops[i]? = some oi := by rfl) (hN : oi.dst = some N := by rfl) (hQ : ∀ c a w, Q (.panic c) (a.put oi.dst v) w → Q (.panic c) a w := by exact fun _ _ _ h => h)
  (hy : Yields P ops oi v a := by exact Or.inl ⟨by rfl, by intro w'; go_simp; with_reducible rfl⟩) (ha : a.put (some N) v = a' := by simp only [Act.put, List.setIfInBounds_toArray, List.set_cons_zero, List.set_cons_succ, i64_w, i32_w]; rfl) : wpAnyLast P md ops Q S ds (fuel + 1) l a w :=
 pure_ (i := i) (N := some N) l' hi hN (any_of q.out hc) hQ hy ha h
theorem pw {P : Program} {ops : Array Oper} {Q : Exit → Act → World → Prop} {md : Region.Mode} {S : World → Prop} {ds : List Nat} {oi : Oper} {fuel : Nat} {l : Array Bool} {a a' : Act} {w : World} {T : Bool × List (List Nat × List Nat)} (q : Aside0 (rtab md ops = T)) (i : Nat) (N : Nat) (l' : Array Bool)
  (h : wpAnyLast P md ops Q S ds fuel l' a' w) (hc : anyT T l.toList l'.toList i = true := by kernel_rfl) (hi : ops[i]? = some oi := by rfl) (hN : oi.dst = some N := by rfl) (hQ : ∀ c a w, Q (.panic c) (a.put oi.dst undef) w → Q (.panic c) a w := by exact fun _ _ _ h => h)
  (hy : Yields P ops oi undef a := by exact Or.inr ⟨by rfl, rfl⟩) (ha : a.put (some N) undef = a' := by simp only [Act.put, List.setIfInBounds_toArray, List.set_cons_zero, List.set_cons_succ, i64_w, i32_w]; rfl) : wpAnyLast P md ops Q S ds (fuel + 1) l a w :=
 pure_ (i := i) (N := some N) (v := undef) l' hi hN (any_of q.out hc) hQ hy ha h
@[reducible] def ce2 (w : World) (g : Nat) (x0 x1 : Value) (p : Prop) : Prop := w.cell? ⟨g, 0, none⟩ = some x0 ∧ w.cell? ⟨g, 1, none⟩ = some x1 ∧ p
@[reducible] def de2 (w : World) (g : Nat) (x0 x1 : Value) : Prop := w.cell? ⟨g, 0, none⟩ = some x0 ∧ w.cell? ⟨g, 1, none⟩ = some x1
@[reducible] def ce3 (w : World) (g : Nat) (x0 x1 x2 : Value) (p : Prop) : Prop := w.cell? ⟨g, 0, none⟩ = some x0 ∧ w.cell? ⟨g, 1, none⟩ = some x1 ∧ w.cell? ⟨g, 2, none⟩ = some x2 ∧ p
@[reducible] def ce4 (w : World) (g : Nat) (x0 x1 x2 x3 : Value) (p : Prop) : Prop := w.cell? ⟨g, 0, none⟩ = some x0 ∧ w.cell? ⟨g, 1, none⟩ = some x1 ∧ w.cell? ⟨g, 2, none⟩ = some x2 ∧ w.cell? ⟨g, 3, none⟩ = some x3 ∧ p
@[reducible] def de4 (w : World) (g : Nat) (x0 x1 x2 x3 : Value) : Prop := w.cell? ⟨g, 0, none⟩ = some x0 ∧ w.cell? ⟨g, 1, none⟩ = some x1 ∧ w.cell? ⟨g, 2, none⟩ = some x2 ∧ w.cell? ⟨g, 3, none⟩ = some x3
@[reducible] def ce6 (w : World) (g : Nat) (x0 x1 x2 x3 x4 x5 : Value) (p : Prop) : Prop := w.cell? ⟨g, 0, none⟩ = some x0 ∧ w.cell? ⟨g, 1, none⟩ = some x1 ∧ w.cell? ⟨g, 2, none⟩ = some x2 ∧ w.cell? ⟨g, 3, none⟩ = some x3 ∧ w.cell? ⟨g, 4, none⟩ = some x4 ∧ w.cell? ⟨g, 5, none⟩ = some x5 ∧ p
@[reducible] def de6 (w : World) (g : Nat) (x0 x1 x2 x3 x4 x5 : Value) : Prop := w.cell? ⟨g, 0, none⟩ = some x0 ∧ w.cell? ⟨g, 1, none⟩ = some x1 ∧ w.cell? ⟨g, 2, none⟩ = some x2 ∧ w.cell? ⟨g, 3, none⟩ = some x3 ∧ w.cell? ⟨g, 4, none⟩ = some x4 ∧ w.cell? ⟨g, 5, none⟩ = some x5
@[reducible] def ce7 (w : World) (g : Nat) (x0 x1 x2 x3 x4 x5 x6 : Value) (p : Prop) : Prop := w.cell? ⟨g, 0, none⟩ = some x0 ∧ w.cell? ⟨g, 1, none⟩ = some x1 ∧ w.cell? ⟨g, 2, none⟩ = some x2 ∧ w.cell? ⟨g, 3, none⟩ = some x3 ∧ w.cell? ⟨g, 4, none⟩ = some x4 ∧ w.cell? ⟨g, 5, none⟩ = some x5 ∧ w.cell? ⟨g, 6, none⟩ = some x6 ∧ p
@[reducible] def de8 (w : World) (g : Nat) (x0 x1 x2 x3 x4 x5 x6 x7 : Value) : Prop := w.cell? ⟨g, 0, none⟩ = some x0 ∧ w.cell? ⟨g, 1, none⟩ = some x1 ∧ w.cell? ⟨g, 2, none⟩ = some x2 ∧ w.cell? ⟨g, 3, none⟩ = some x3 ∧ w.cell? ⟨g, 4, none⟩ = some x4 ∧ w.cell? ⟨g, 5, none⟩ = some x5 ∧ w.cell? ⟨g, 6, none⟩ = some x6 ∧ w.cell? ⟨g, 7, none⟩ = some x7
@[reducible] def ce10 (w : World) (g : Nat) (x0 x1 x2 x3 x4 x5 x6 x7 x8 x9 : Value) (p : Prop) : Prop := w.cell? ⟨g, 0, none⟩ = some x0 ∧ w.cell? ⟨g, 1, none⟩ = some x1 ∧ w.cell? ⟨g, 2, none⟩ = some x2 ∧ w.cell? ⟨g, 3, none⟩ = some x3 ∧ w.cell? ⟨g, 4, none⟩ = some x4 ∧ w.cell? ⟨g, 5, none⟩ = some x5 ∧ w.cell? ⟨g, 6, none⟩ = some x6 ∧ w.cell? ⟨g, 7, none⟩ = some x7 ∧ w.cell? ⟨g, 8, none⟩ = some x8 ∧ w.cell? ⟨g, 9, none⟩ = some x9 ∧ p
@[reducible] def ce11 (w : World) (g : Nat) (x0 x1 x2 x3 x4 x5 x6 x7 x8 x9 x10 : Value) (p : Prop) : Prop := w.cell? ⟨g, 0, none⟩ = some x0 ∧ w.cell? ⟨g, 1, none⟩ = some x1 ∧ w.cell? ⟨g, 2, none⟩ = some x2 ∧ w.cell? ⟨g, 3, none⟩ = some x3 ∧ w.cell? ⟨g, 4, none⟩ = some x4 ∧ w.cell? ⟨g, 5, none⟩ = some x5 ∧ w.cell? ⟨g, 6, none⟩ = some x6 ∧ w.cell? ⟨g, 7, none⟩ = some x7 ∧ w.cell? ⟨g, 8, none⟩ = some x8 ∧ w.cell? ⟨g, 9, none⟩ = some x9 ∧ w.cell? ⟨g, 10, none⟩ = some x10 ∧ p
@[reducible] def de11 (w : World) (g : Nat) (x0 x1 x2 x3 x4 x5 x6 x7 x8 x9 x10 : Value) : Prop := w.cell? ⟨g, 0, none⟩ = some x0 ∧ w.cell? ⟨g, 1, none⟩ = some x1 ∧ w.cell? ⟨g, 2, none⟩ = some x2 ∧ w.cell? ⟨g, 3, none⟩ = some x3 ∧ w.cell? ⟨g, 4, none⟩ = some x4 ∧ w.cell? ⟨g, 5, none⟩ = some x5 ∧ w.cell? ⟨g, 6, none⟩ = some x6 ∧ w.cell? ⟨g, 7, none⟩ = some x7 ∧ w.cell? ⟨g, 8, none⟩ = some x8 ∧ w.cell? ⟨g, 9, none⟩ = some x9 ∧ w.cell? ⟨g, 10, none⟩ = some x10
@[reducible] def ce12 (w : World) (g : Nat) (x0 x1 x2 x3 x4 x5 x6 x7 x8 x9 x10 x11 : Value) (p : Prop) : Prop := w.cell? ⟨g, 0, none⟩ = some x0 ∧ w.cell? ⟨g, 1, none⟩ = some x1 ∧ w.cell? ⟨g, 2, none⟩ = some x2 ∧ w.cell? ⟨g, 3, none⟩ = some x3 ∧ w.cell? ⟨g, 4, none⟩ = some x4 ∧ w.cell? ⟨g, 5, none⟩ = some x5 ∧ w.cell? ⟨g, 6, none⟩ = some x6 ∧ w.cell? ⟨g, 7, none⟩ = some x7 ∧ w.cell? ⟨g, 8, none⟩ = some x8 ∧ w.cell? ⟨g, 9, none⟩ = some x9 ∧ w.cell? ⟨g, 10, none⟩ = some x10 ∧ w.cell? ⟨g, 11, none⟩ = some x11 ∧ p
@[reducible] def ce15 (w : World) (g : Nat) (x0 x1 x2 x3 x4 x5 x6 x7 x8 x9 x10 x11 x12 x13 x14 : Value) (p : Prop) : Prop := w.cell? ⟨g, 0, none⟩ = some x0 ∧ w.cell? ⟨g, 1, none⟩ = some x1 ∧ w.cell? ⟨g, 2, none⟩ = some x2 ∧ w.cell? ⟨g, 3, none⟩ = some x3 ∧ w.cell? ⟨g, 4, none⟩ = some x4 ∧ w.cell? ⟨g, 5, none⟩ = some x5 ∧ w.cell? ⟨g, 6, none⟩ = some x6 ∧ w.cell? ⟨g, 7, none⟩ = some x7 ∧ w.cell? ⟨g, 8, none⟩ = some x8 ∧ w.cell? ⟨g, 9, none⟩ = some x9 ∧ w.cell? ⟨g, 10, none⟩ = some x10 ∧ w.cell? ⟨g, 11, none⟩ = some x11 ∧ w.cell? ⟨g, 12, none⟩ = some x12 ∧ w.cell? ⟨g, 13, none⟩ = some x13 ∧ w.cell? ⟨g, 14, none⟩ = some x14 ∧ p
theorem GH {b : Nat} {w W0 W : World} (q : Aside0 (Below w.heap.size w W0)) (hg : b = W.heap.size) (h : Below w.heap.size w W0 → Below w.heap.size w W := by intro h_; repeat (first | (with_reducible first | exact h_ | apply below_alloc | apply pw_below_drewN | apply below_drew1) | exact h_)) : w.heap.size ≤ b := by rw [hg]; exact below_size (h q.out)
theorem GH1 {b : Nat} {w W0 W : World} {R0 : Prop} (q : Aside0 (Below w.heap.size w W0)) (r0 : R0) (hg : b = W.heap.size) (h : Below w.heap.size w W0 → R0 → Below w.heap.size w W := by intro h_ r0_; repeat (first | (with_reducible first | exact h_ | apply below_alloc | apply pw_below_drewN | apply below_drew1 | refine below_set ?_ r0_) | exact h_)) : w.heap.size ≤ b := by rw [hg]; exact below_size (h q.out r0)
theorem GH2 {b : Nat} {w W0 W : World} {R0 R1 : Prop} (q : Aside0 (Below w.heap.size w W0)) (r0 : R0) (r1 : R1) (hg : b = W.heap.size) (h : Below w.heap.size w W0 → R0 → R1 → Below w.heap.size w W := by intro h_ r0_ r1_; repeat (first | (with_reducible first | exact h_ | apply below_alloc | apply pw_below_drewN | apply below_drew1 | refine below_set ?_ r0_ | refine below_set ?_ r1_) | exact h_)) : w.heap.size ≤ b := by rw [hg]; exact below_size (h q.out r0 r1)
/-- Runs of what is on and what is not. -/
def tr (l : List Nat) : Array Bool := (l.foldl (fun (p : List Bool × Bool) n => (p.1 ++ List.replicate n p.2, !p.2)) ([], true)).1.toArray
@[reducible] def bk (w : World) (g : Nat) (cs : Array Value) (t : TypeId) : Prop := w.heap[g]? = some (.cells cs t (0, 0))
theorem CY {w w1 w2 : World} {a : Addr} {v : Value} (hb : Below w.heap.size w w1) (h : w.cell? a = some v) (e : w1.cell? a = w2.cell? a := by rfl) : w2.cell? a = some v := e ▸ CX hb h
theorem KD {α : Type} {d : Kd α} {w w1 w2 : World} {A : Option Addr} {n : Nat} {xs : List α} (q : Aside0 (d.C w A n xs)) (hb : Aside0 (Below w.heap.size w w1)) (h : d.C w1 A n xs → d.C w2 A n xs := by intro h_; repeat (first | exact h_ | (with_reducible refine Kd.C_alloc ?_ _) | (with_reducible refine Kd.C_drewN ?_ _) | (with_reducible refine Kd.C_drew ?_))) : d.C w2 A n xs := h (Kd.C_below q.out hb.out)
theorem RF {α : Type} {d : Kd α} {e base g t : Nat} {ok : Nat → Prop} {w w1 : World} {v : Value} {xs : List α} {cells : Array Value} (h : Kd.R d e w base ok v xs) (hb : w.heap[g]? = some (.cells cells t (0, 0))) (ht : ∀ q, q ∈ e :: d.E → q ≠ t := by decide)
  (hw : ∀ k, k ≠ g → w1.heap[k]? = w.heap[k]? := by intro k hk; repeat (first | refine (Below.heap_setCell _ _ _ k hk).trans ?_ | exact rfl)) : Kd.R d e w1 base ok v xs :=
 Kd.R_mono (Kd.R_move (Kd.R_types h hb ht) (fun k hk => hw k hk.2)) (fun _ hk => hk.1)
theorem P3 {w : World} {g : Nat} {t : TypeId} {a0_ a1_ a2_ b0_ b1_ b2_ : Value} (q : Aside0 (w.heap[g]? = some (.cells #[b0_, b1_, b2_] t (0, 0)))) : (((w.setCell ⟨g, 0, none⟩ a0_).setCell ⟨g, 1, none⟩ a1_).setCell ⟨g, 2, none⟩ a2_).heap[g]? = some (.cells #[a0_, a1_, a2_] t (0, 0)) := by
 have q0 := q.out; have q1 := blk_put (cs' := #[a0_, b1_, b2_]) q0 0 a0_ rfl; have q2 := blk_put (cs' := #[a0_, a1_, b2_]) q1 1 a1_ rfl; have q3 := blk_put (cs' := #[a0_, a1_, a2_]) q2 2 a2_ rfl; exact q3
theorem P4 {w : World} {g : Nat} {t : TypeId} {a0_ a1_ a2_ a3_ b0_ b1_ b2_ b3_ : Value} (q : Aside0 (w.heap[g]? = some (.cells #[b0_, b1_, b2_, b3_] t (0, 0)))) : ((((w.setCell ⟨g, 0, none⟩ a0_).setCell ⟨g, 1, none⟩ a1_).setCell ⟨g, 2, none⟩ a2_).setCell ⟨g, 3, none⟩ a3_).heap[g]? = some (.cells #[a0_, a1_, a2_, a3_] t (0, 0)) := by
 have q0 := q.out; have q1 := blk_put (cs' := #[a0_, b1_, b2_, b3_]) q0 0 a0_ rfl; have q2 := blk_put (cs' := #[a0_, a1_, b2_, b3_]) q1 1 a1_ rfl; have q3 := blk_put (cs' := #[a0_, a1_, a2_, b3_]) q2 2 a2_ rfl; have q4 := blk_put (cs' := #[a0_, a1_, a2_, a3_]) q3 3 a3_ rfl; exact q4
theorem P8 {w : World} {g : Nat} {t : TypeId} {a0_ a1_ a2_ a3_ a4_ a5_ a6_ a7_ b0_ b1_ b2_ b3_ b4_ b5_ b6_ b7_ : Value} (q : Aside0 (w.heap[g]? = some (.cells #[b0_, b1_, b2_, b3_, b4_, b5_, b6_, b7_] t (0, 0)))) : ((((((((w.setCell ⟨g, 0, none⟩ a0_).setCell ⟨g, 1, none⟩ a1_).setCell ⟨g, 2, none⟩ a2_).setCell ⟨g, 3, none⟩ a3_).setCell ⟨g, 4, none⟩ a4_).setCell ⟨g, 5, none⟩ a5_).setCell ⟨g, 6, none⟩ a6_).setCell ⟨g, 7, none⟩ a7_).heap[g]? = some (.cells #[a0_, a1_, a2_, a3_, a4_, a5_, a6_, a7_] t (0, 0)) := by
 have q0 := q.out; have q1 := blk_put (cs' := #[a0_, b1_, b2_, b3_, b4_, b5_, b6_, b7_]) q0 0 a0_ rfl; have q2 := blk_put (cs' := #[a0_, a1_, b2_, b3_, b4_, b5_, b6_, b7_]) q1 1 a1_ rfl; have q3 := blk_put (cs' := #[a0_, a1_, a2_, b3_, b4_, b5_, b6_, b7_]) q2 2 a2_ rfl; have q4 := blk_put (cs' := #[a0_, a1_, a2_, a3_, b4_, b5_, b6_, b7_]) q3 3 a3_ rfl; have q5 := blk_put (cs' := #[a0_, a1_, a2_, a3_, a4_, b5_, b6_, b7_]) q4 4 a4_ rfl; have q6 := blk_put (cs' := #[a0_, a1_, a2_, a3_, a4_, a5_, b6_, b7_]) q5 5 a5_ rfl; have q7 := blk_put (cs' := #[a0_, a1_, a2_, a3_, a4_, a5_, a6_, b7_]) q6 6 a6_ rfl; have q8 := blk_put (cs' := #[a0_, a1_, a2_, a3_, a4_, a5_, a6_, a7_]) q7 7 a7_ rfl; exact q8
theorem P11 {w : World} {g : Nat} {t : TypeId} {a0_ a1_ a2_ a3_ a4_ a5_ a6_ a7_ a8_ a9_ a10_ b0_ b1_ b2_ b3_ b4_ b5_ b6_ b7_ b8_ b9_ b10_ : Value} (q : Aside0 (w.heap[g]? = some (.cells #[b0_, b1_, b2_, b3_, b4_, b5_, b6_, b7_, b8_, b9_, b10_] t (0, 0)))) : (((((((((((w.setCell ⟨g, 0, none⟩ a0_).setCell ⟨g, 1, none⟩ a1_).setCell ⟨g, 2, none⟩ a2_).setCell ⟨g, 3, none⟩ a3_).setCell ⟨g, 4, none⟩ a4_).setCell ⟨g, 5, none⟩ a5_).setCell ⟨g, 6, none⟩ a6_).setCell ⟨g, 7, none⟩ a7_).setCell ⟨g, 8, none⟩ a8_).setCell ⟨g, 9, none⟩ a9_).setCell ⟨g, 10, none⟩ a10_).heap[g]? = some (.cells #[a0_, a1_, a2_, a3_, a4_, a5_, a6_, a7_, a8_, a9_, a10_] t (0, 0)) := by
 have q0 := q.out; have q1 := blk_put (cs' := #[a0_, b1_, b2_, b3_, b4_, b5_, b6_, b7_, b8_, b9_, b10_]) q0 0 a0_ rfl; have q2 := blk_put (cs' := #[a0_, a1_, b2_, b3_, b4_, b5_, b6_, b7_, b8_, b9_, b10_]) q1 1 a1_ rfl; have q3 := blk_put (cs' := #[a0_, a1_, a2_, b3_, b4_, b5_, b6_, b7_, b8_, b9_, b10_]) q2 2 a2_ rfl; have q4 := blk_put (cs' := #[a0_, a1_, a2_, a3_, b4_, b5_, b6_, b7_, b8_, b9_, b10_]) q3 3 a3_ rfl; have q5 := blk_put (cs' := #[a0_, a1_, a2_, a3_, a4_, b5_, b6_, b7_, b8_, b9_, b10_]) q4 4 a4_ rfl; have q6 := blk_put (cs' := #[a0_, a1_, a2_, a3_, a4_, a5_, b6_, b7_, b8_, b9_, b10_]) q5 5 a5_ rfl; have q7 := blk_put (cs' := #[a0_, a1_, a2_, a3_, a4_, a5_, a6_, b7_, b8_, b9_, b10_]) q6 6 a6_ rfl; have q8 := blk_put (cs' := #[a0_, a1_, a2_, a3_, a4_, a5_, a6_, a7_, b8_, b9_, b10_]) q7 7 a7_ rfl; have q9 := blk_put (cs' := #[a0_, a1_, a2_, a3_, a4_, a5_, a6_, a7_, a8_, b9_, b10_]) q8 8 a8_ rfl; have q10 := blk_put (cs' := #[a0_, a1_, a2_, a3_, a4_, a5_, a6_, a7_, a8_, a9_, b10_]) q9 9 a9_ rfl; have q11 := blk_put (cs' := #[a0_, a1_, a2_, a3_, a4_, a5_, a6_, a7_, a8_, a9_, a10_]) q10 10 a10_ rfl; exact q11
theorem BD {P Q : Prop} (q : P) (h : P → Q := by intro h_; (with_reducible repeat (first | refine blk_drewN ?_ _ | refine blk_drew ?_ | refine blk_alloc ?_ _)); exact h_) : Q := h q
theorem KX {P Q : Prop} (q : P) (h : P → Q := by intro h_; (with_reducible repeat (first | apply Kd.S_alloc | apply Kd.S_drewN | apply Kd.S_drew)); exact h_) : Q := h q
theorem KW {P Q : Prop} (q : P) (h : P → Q := by intro h_; (with_reducible repeat (first | apply Kd.R_alloc | apply Kd.R_drewN | apply Kd.R_drew)); exact h_) : Q := h q
theorem bl {w W w2 : World} (h : Below w.heap.size w W) (k : Below W.heap.size W w2) : Aside0 (Below w.heap.size w w2) := am (below_step h k)
theorem bm {α β : Type} {x : Option α} {f : α → Option β} {b : β} (h : x.bind f = some b) : ∃ a, x = some a ∧ f a = some b := Option.bind_eq_some_iff.mp h
theorem sj {α : Type} {a b : α} (h : some a = some b) : a = b := Option.some.inj h
theorem pf {α : Type} {x y z : Option α} (h : (if true = true then x else y) = z) : x = z := by rwa [if_pos rfl] at h
theorem nf {α : Type} {x y z : Option α} (h : (if false = true then x else y) = z) : y = z := by rwa [if_neg (by decide)] at h
theorem nm {P : Program} {ops : Array Oper} {Q : Exit → Act → World → Prop} {md : Region.Mode} {S : World → Prop} {ds : List Nat} {fuel : Nat} {l : Array Bool} {a a' : Act} {v : Value} {w : World} (N : Option Tmp) (h : wpAnyLast P md ops Q S ds fuel l a' w) (ha : a.put N v = a' := by simp only [Act.put, List.setIfInBounds_toArray, List.set_cons_zero, List.set_cons_succ, i64_w, i32_w]; rfl) : wpAnyLast P md ops Q S ds fuel l (a.put N v) w := norm_ ha h
theorem b1 {α β : Type} {x : Option α} {f : α → Option β} {b : β} (h : x.bind f = some b) : ∃ a, Aside0 (x = some a) ∧ f a = some b := let ⟨a, p, q⟩ := bm h; ⟨a, am p, q⟩
theorem b2 {α β : Type} {y : α} {f : α → Option β} {b : β} (h : (some y).bind f = some b) : ∃ a, Aside0 (a = y) ∧ f a = some b := ⟨y, am rfl, h⟩
theorem b2' {α β : Type} {y a : α} {f : α → Option β} {b : β} (h : (some y).bind f = some b) (e : a = y) : f a = some b := by rw [e]; exact h
theorem b3 {α : Type} {P : Prop} {Q : α → Prop} (y : α) (H : P) (h : P → ∀ a, a = y → Q a := by intro h_ a_ e_; first | (with_reducible exact b2' h_ e_) | (rw [← e_] at h_; exact h_) | exact h_) : ∃ a, Aside0 (a = y) ∧ Q a := ⟨y, am rfl, h H y rfl⟩
theorem RS {P : Prop} (h : P := by first | rfl | (simp; done) | (simp [*]; done)) : P := h
theorem LE {P : Prop} (h : P := by first | omega | exact Nat.le_refl _) : P := h
theorem LK {a b c d : Nat} (q : Aside0 (a ≤ b)) (h : a ≤ b → c ≤ d := by omega) : Aside0 (c ≤ d) := am (h q.out)
theorem VV {P Q : Prop} (q : P) (h : P → Q := by intro h_; (with_reducible repeat (first | apply Kd.V_alloc | apply Kd.V_drewN | apply Kd.V_drew)); exact h_) : Q := h q
theorem s1 {α β : Type} {x : Option α} {f : α → Option β} {b : β} (h : Aside0 (x.bind f = some b)) : ∃ a, x = some a ∧ Aside0 (f a = some b) := let ⟨a, p, q⟩ := bm h.out; ⟨a, p, am q⟩
theorem bxe {P : Program} {ops : Array Oper} {Q : Exit → Act → World → Prop} {rest : List Oper} {o : Oper} {a : Act} {W w0 : World} {cs : Array Value} {t : TypeId} (HB : Below w0.heap.size w0 W) (h : ∀ g w1, Aside0 (w1.heap[g]? = some (.cells cs t (0, 0))) → Aside0 (w0.heap.size ≤ g) → Aside0 (Below w0.heap.size w0 w1) → Below W.heap.size W w1 → g = W.heap.size → wpList P ops Q rest (a.put o.dst (.pointer (some ⟨g, 0, none⟩))) w1) (hgd : o.guard = none := by rfl) (hrun : (execOp a.eval o).run P W = .ok (.value (.pointer (some ⟨W.heap.size, 0, none⟩))) (W.alloc (.cells cs t (0, 0))) := by first | (go_simp; done) | (go_simp; rfl)) : wpList P ops Q (o :: rest) a W :=
 Kd.event_run hgd hrun (h _ _ (am (blk_new W _)) (am HB.size) (am (Below.trans HB ((below_alloc (Below.refl _ _) _).mono HB.size))) (below_alloc (Below.refl _ _) _) rfl)
theorem zd2 {w : World} {g : Nat} {x0 x1 : Value} {t : TypeId} (h : Aside0 (w.heap[g]? = some (.cells [x0, x1].toArray t (0, 0)))) : w.cell? ⟨g, 0, none⟩ = some x0 ∧ w.cell? ⟨g, 1, none⟩ = some x1 := ⟨z0 _ h.out, z1 _ h.out⟩
theorem zc2 {w : World} {g : Nat} {x0 x1 : Value} {t : TypeId} {p : Prop} (h : Aside0 (w.heap[g]? = some (.cells [x0, x1].toArray t (0, 0)))) (q : p) : w.cell? ⟨g, 0, none⟩ = some x0 ∧ w.cell? ⟨g, 1, none⟩ = some x1 ∧ p := ⟨z0 _ h.out, z1 _ h.out, q⟩
theorem zc3 {w : World} {g : Nat} {x0 x1 x2 : Value} {t : TypeId} {p : Prop} (h : Aside0 (w.heap[g]? = some (.cells [x0, x1, x2].toArray t (0, 0)))) (q : p) : w.cell? ⟨g, 0, none⟩ = some x0 ∧ w.cell? ⟨g, 1, none⟩ = some x1 ∧ w.cell? ⟨g, 2, none⟩ = some x2 ∧ p := ⟨z0 _ h.out, z1 _ h.out, z2 _ h.out, q⟩
theorem zd4 {w : World} {g : Nat} {x0 x1 x2 x3 : Value} {t : TypeId} (h : Aside0 (w.heap[g]? = some (.cells [x0, x1, x2, x3].toArray t (0, 0)))) : w.cell? ⟨g, 0, none⟩ = some x0 ∧ w.cell? ⟨g, 1, none⟩ = some x1 ∧ w.cell? ⟨g, 2, none⟩ = some x2 ∧ w.cell? ⟨g, 3, none⟩ = some x3 := ⟨z0 _ h.out, z1 _ h.out, z2 _ h.out, z3 _ h.out⟩
theorem zc4 {w : World} {g : Nat} {x0 x1 x2 x3 : Value} {t : TypeId} {p : Prop} (h : Aside0 (w.heap[g]? = some (.cells [x0, x1, x2, x3].toArray t (0, 0)))) (q : p) : w.cell? ⟨g, 0, none⟩ = some x0 ∧ w.cell? ⟨g, 1, none⟩ = some x1 ∧ w.cell? ⟨g, 2, none⟩ = some x2 ∧ w.cell? ⟨g, 3, none⟩ = some x3 ∧ p := ⟨z0 _ h.out, z1 _ h.out, z2 _ h.out, z3 _ h.out, q⟩
theorem zd6 {w : World} {g : Nat} {x0 x1 x2 x3 x4 x5 : Value} {t : TypeId} (h : Aside0 (w.heap[g]? = some (.cells [x0, x1, x2, x3, x4, x5].toArray t (0, 0)))) : w.cell? ⟨g, 0, none⟩ = some x0 ∧ w.cell? ⟨g, 1, none⟩ = some x1 ∧ w.cell? ⟨g, 2, none⟩ = some x2 ∧ w.cell? ⟨g, 3, none⟩ = some x3 ∧ w.cell? ⟨g, 4, none⟩ = some x4 ∧ w.cell? ⟨g, 5, none⟩ = some x5 := ⟨z0 _ h.out, z1 _ h.out, z2 _ h.out, z3 _ h.out, z4 _ h.out, z5 _ h.out⟩
theorem zc6 {w : World} {g : Nat} {x0 x1 x2 x3 x4 x5 : Value} {t : TypeId} {p : Prop} (h : Aside0 (w.heap[g]? = some (.cells [x0, x1, x2, x3, x4, x5].toArray t (0, 0)))) (q : p) : w.cell? ⟨g, 0, none⟩ = some x0 ∧ w.cell? ⟨g, 1, none⟩ = some x1 ∧ w.cell? ⟨g, 2, none⟩ = some x2 ∧ w.cell? ⟨g, 3, none⟩ = some x3 ∧ w.cell? ⟨g, 4, none⟩ = some x4 ∧ w.cell? ⟨g, 5, none⟩ = some x5 ∧ p := ⟨z0 _ h.out, z1 _ h.out, z2 _ h.out, z3 _ h.out, z4 _ h.out, z5 _ h.out, q⟩
theorem zc7 {w : World} {g : Nat} {x0 x1 x2 x3 x4 x5 x6 : Value} {t : TypeId} {p : Prop} (h : Aside0 (w.heap[g]? = some (.cells [x0, x1, x2, x3, x4, x5, x6].toArray t (0, 0)))) (q : p) : w.cell? ⟨g, 0, none⟩ = some x0 ∧ w.cell? ⟨g, 1, none⟩ = some x1 ∧ w.cell? ⟨g, 2, none⟩ = some x2 ∧ w.cell? ⟨g, 3, none⟩ = some x3 ∧ w.cell? ⟨g, 4, none⟩ = some x4 ∧ w.cell? ⟨g, 5, none⟩ = some x5 ∧ w.cell? ⟨g, 6, none⟩ = some x6 ∧ p := ⟨z0 _ h.out, z1 _ h.out, z2 _ h.out, z3 _ h.out, z4 _ h.out, z5 _ h.out, z6 _ h.out, q⟩
theorem zd8 {w : World} {g : Nat} {x0 x1 x2 x3 x4 x5 x6 x7 : Value} {t : TypeId} (h : Aside0 (w.heap[g]? = some (.cells [x0, x1, x2, x3, x4, x5, x6, x7].toArray t (0, 0)))) : w.cell? ⟨g, 0, none⟩ = some x0 ∧ w.cell? ⟨g, 1, none⟩ = some x1 ∧ w.cell? ⟨g, 2, none⟩ = some x2 ∧ w.cell? ⟨g, 3, none⟩ = some x3 ∧ w.cell? ⟨g, 4, none⟩ = some x4 ∧ w.cell? ⟨g, 5, none⟩ = some x5 ∧ w.cell? ⟨g, 6, none⟩ = some x6 ∧ w.cell? ⟨g, 7, none⟩ = some x7 := ⟨z0 _ h.out, z1 _ h.out, z2 _ h.out, z3 _ h.out, z4 _ h.out, z5 _ h.out, z6 _ h.out, z7 _ h.out⟩
theorem zd11 {w : World} {g : Nat} {x0 x1 x2 x3 x4 x5 x6 x7 x8 x9 x10 : Value} {t : TypeId} (h : Aside0 (w.heap[g]? = some (.cells [x0, x1, x2, x3, x4, x5, x6, x7, x8, x9, x10].toArray t (0, 0)))) : w.cell? ⟨g, 0, none⟩ = some x0 ∧ w.cell? ⟨g, 1, none⟩ = some x1 ∧ w.cell? ⟨g, 2, none⟩ = some x2 ∧ w.cell? ⟨g, 3, none⟩ = some x3 ∧ w.cell? ⟨g, 4, none⟩ = some x4 ∧ w.cell? ⟨g, 5, none⟩ = some x5 ∧ w.cell? ⟨g, 6, none⟩ = some x6 ∧ w.cell? ⟨g, 7, none⟩ = some x7 ∧ w.cell? ⟨g, 8, none⟩ = some x8 ∧ w.cell? ⟨g, 9, none⟩ = some x9 ∧ w.cell? ⟨g, 10, none⟩ = some x10 := ⟨z0 _ h.out, z1 _ h.out, z2 _ h.out, z3 _ h.out, z4 _ h.out, z5 _ h.out, z6 _ h.out, z7 _ h.out, z8 _ h.out, z9 _ h.out, z10 _ h.out⟩
theorem zc11 {w : World} {g : Nat} {x0 x1 x2 x3 x4 x5 x6 x7 x8 x9 x10 : Value} {t : TypeId} {p : Prop} (h : Aside0 (w.heap[g]? = some (.cells [x0, x1, x2, x3, x4, x5, x6, x7, x8, x9, x10].toArray t (0, 0)))) (q : p) : w.cell? ⟨g, 0, none⟩ = some x0 ∧ w.cell? ⟨g, 1, none⟩ = some x1 ∧ w.cell? ⟨g, 2, none⟩ = some x2 ∧ w.cell? ⟨g, 3, none⟩ = some x3 ∧ w.cell? ⟨g, 4, none⟩ = some x4 ∧ w.cell? ⟨g, 5, none⟩ = some x5 ∧ w.cell? ⟨g, 6, none⟩ = some x6 ∧ w.cell? ⟨g, 7, none⟩ = some x7 ∧ w.cell? ⟨g, 8, none⟩ = some x8 ∧ w.cell? ⟨g, 9, none⟩ = some x9 ∧ w.cell? ⟨g, 10, none⟩ = some x10 ∧ p := ⟨z0 _ h.out, z1 _ h.out, z2 _ h.out, z3 _ h.out, z4 _ h.out, z5 _ h.out, z6 _ h.out, z7 _ h.out, z8 _ h.out, z9 _ h.out, z10 _ h.out, q⟩
theorem tw {P : Program} {ops : Array Oper} {Q : Exit → Act → World → Prop} {md : Region.Mode} {S : World → Prop} {ds : List Nat} {oi : Oper} {v : Value} {fuel : Nat} {l : Array Bool} {a a' : Act} {w : World} {T : Bool × List (List Nat × List Nat)} {B : List Nat} (q : Aside0 (rtab md ops = T)) (qB : Aside0 (waitsOk T.2 B = true)) (i N : Nat) (l' : Array Bool) (hS : S w)
  (h : wpAnyLast P md ops Q S ds fuel l' a' w) (hc : takeW T B ds l.toList l'.toList i = true := by kernel_rfl) (hi : ops[i]? = some oi := by rfl) (hN : oi.dst = some N := by rfl) (hQ : ∀ c a w, Q (.panic c) (a.put oi.dst v) w → Q (.panic c) a w := by exact fun _ _ _ h => h)
  (hy : YieldsIf P ops S oi v a := by exact Or.inl ⟨by rfl, by intro w' h_; (repeat (obtain ⟨_, h_⟩ := h_)); go_simp; with_reducible rfl⟩) (ha : a.put (some N) v = a' := by simp only [Act.put, List.setIfInBounds_toArray, List.set_cons_zero, List.set_cons_succ, i64_w, i32_w]; rfl) : wpAnyLast P md ops Q S ds (fuel + 1) l a w :=
 tk i (some N) l' (take_ofW q.out qB.out hc) hS h hi hN hQ hy ha
theorem oW {P : Program} {ops : Array Oper} {Q : Exit → Act → World → Prop} {md : Region.Mode} {S : World → Prop} {ds : List Nat} {oi : Oper} {fuel : Nat} {l : Array Bool} {a : Act} {w : World} {T : Bool × List (List Nat × List Nat)} (q : Aside0 (rtab md ops = T)) (i N : Nat) (l' : Array Bool)
  (h : ∀ K : Act → World → Prop, Shut (∀ a' w', S w' → (S w' → wpAnyLast P md ops Q S ds fuel l' a' w') → K a' w') → if Region.wanted oi (yielded ops a.tmps) = true then Oper.wp P oi a w K Q else K (a.put (some N) undef) w)
  (hi : ops[i]? = some oi := by rfl) (hN : oi.dst = some N := by rfl) (hc : (readyT T.2 l.toList == [i] && l.toList.set i true == l'.toList) = true := by kernel_rfl) (hd : i ∉ ds := by decide) : wpAnyLast P md ops Q S ds (fuel + 1) l a w :=
 one_ (i := i) (N := some N) l' hi hN (one_of q.out hc) hd h
theorem gW {P : Program} {Q : Exit → Act → World → Prop} {ops : Array Oper} {oi : Oper} {N : Option Tmp} {a : Act} {w : World} {K : Act → World → Prop} {f : FuncId} {fn : Func} {xs : Array Operand} {ts : Array TypeId} (hf : P.funcs[f]? = some fn) (args : Array Value)
  (h : Calls P f args w fun e w' => ∃ v, e = .returned v ∧ K (a.put N v) w') (hname : (fn.name == "runtime.NumGoroutine") = false := by kernel_rfl) (hb : fn.body.isSome = true := by rfl)
  (hw : Region.wanted oi (yielded ops a.tmps) = true := by rfl) (hN : oi.dst = N := by rfl) (hop : oi.op = .call { callee := .value (.func f), args := xs, argTypes := ts } := by rfl) (hargs : xs.map a.eval = args := by ((try simp only [List.map_toArray, List.map_cons, List.map_nil]); first | done | rfl | (simp only [List.length_drop, List.length_take]; rfl))) : if Region.wanted oi (yielded ops a.tmps) = true then Oper.wp P oi a w K Q else K (a.put N undef) w := goes_ hf hname hb args hw hN hop hargs h
theorem s0 {α : Type} {a b : α} (h : Aside0 (some a = some b)) : a = b := sj h.out
theorem sI1 {α : Type} {c : Prop} [Decidable c] {x y z : α} (h : (if c then x else y) = z) (e : c := by first | assumption | omega | exact beq_iff_eq.mp (by assumption) | exact bne_eq_false_iff_eq.mp (by assumption)) : x = z := (if_pos e).symm.trans h
theorem sE1 {α : Type} {c : Prop} [Decidable c] {x y z : α} (h : (if c then x else y) = z) (e : ¬ c := by first | assumption | omega | exact beq_eq_false_iff_ne.mp (by assumption) | exact bne_iff_ne.mp (by assumption)) : y = z := (if_neg e).symm.trans h
theorem sy {P Q : Prop} (A : Aside0 P) (h : P → Q := by (intro h_; (repeat (first | (replace h_ := sI1 h_) | (replace h_ := sE1 h_))); exact h_)) : Aside0 Q := am (h A.out)
/-- Whatever reads as a datum of the type is a value of the kind. -/
def Rdr {α : Type} (d : Kd α) (P : Program) (w : World) (t : TypeId) (WF : α → Prop) : Prop :=
 ∀ {H : Type} {enc : TypeId × Value → H} {base : Nat} {spare : Nat → Bool} {held : Bool} {fuel : Nat} {cs : List Value} {x : DataW H × List MemPlace}, DataW.trod enc P w base spare held fuel t cs = some x → ∃ v, d.K w v cs ∧ WF v
theorem Rdr.get {α : Type} {d : Kd α} {P : Program} {w : World} {t : TypeId} {WF : α → Prop} (r : Rdr d P w t WF) {H : Type} {enc : TypeId × Value → H} {base : Nat} {spare : Nat → Bool} {held : Bool} {fuel : Nat} (cs : List Value) {x : DataW H × List MemPlace} (h : DataW.trod enc P w base spare held fuel t cs = some x) : ∃ v, d.K w v cs ∧ WF v := r h
theorem rdr_int {k : IntKind} {P : Program} {w : World} {t : TypeId} (ht : P.underlying t = some (.int k)) : Rdr (Kd.int k) P w t (fun n => (Lit.int k n).wf = true) := by
 intro H enc base spare held fuel cs x h; obtain ⟨n, hc, _, hw⟩ := DataW.trod_int ht h; exact ⟨n, hc, hw⟩
theorem rdr_string {P : Program} {w : World} {t : TypeId} (ht : P.underlying t = some .string) : Rdr Kd.string P w t (fun s => s.size ≤ maxLen) := by
 intro H enc base spare held fuel cs x h; obtain ⟨s, hc, _, hs⟩ := DataW.trod_string ht h; exact ⟨s, hc, hs⟩
theorem rdr_slice {α : Type} {d : Kd α} {P : Program} {w : World} {t e : TypeId} {WF : α → Prop} (z : α) (ht : P.underlying t = some (.slice e)) (hc : P.cellsOf e = d.sz) (he : Rdr d P w e WF) :
  Rdr (Kd.slice e d) P w t (fun xs => xs.length ≤ maxLen ∧ ∀ x ∈ xs, WF x) := by
 intro H enc base spare held fuel cs x h; rcases Go.Deep.open_slice ht h with ⟨rfl, _⟩ | ⟨a, len, cap, m, n, D, Pl, rfl, hb, hl, hm, hmm, _, hi⟩
 ·exact ⟨[], ⟨none, 0, rfl, Nat.le_refl _, Kd.C_nil _ _⟩, by simp, by simp⟩
 ·have hlm : len ≤ m := by rw [hmm]; split <;> omega
  haveI : Inhabited α := ⟨z⟩
  obtain ⟨f, hf⟩ : ∃ f : Nat → α, ∀ i, i < len → WF (f i) ∧ ∃ cs', cs'.length = d.sz ∧ d.K w (f i) cs' ∧ ∀ j u, cs'[j]? = some u → w.cell? (a.add (i * d.sz + j)) = some u := by
   refine Go.Deep.choose_lt (p := fun i x => WF x ∧ ∃ cs', cs'.length = d.sz ∧ d.K w x cs' ∧ ∀ j u, cs'[j]? = some u → w.cell? (a.add (i * d.sz + j)) = some u) ?_; intro i hlt; obtain ⟨cs', hcell, htrod⟩ := hi i (by omega); obtain ⟨v, hk, hw⟩ := he htrod; rw [hc] at hcell; obtain ⟨_, hcl, hat⟩ := World.cells?_some hcell; refine ⟨v, hw, cs', hcl, hk, fun j u hj => ?_⟩; have hjl : j < cs'.length := (List.getElem?_eq_some_iff.1 hj).1; have := hat j (by omega); rw [← Go.Deep.add_add, this, hj]
  have hlen : ((List.range len).map f).length = len := by simp
  refine ⟨(List.range len).map f, ⟨some a, cap, by rw [hlen], by rw [hlen]; exact hl, ?_⟩, by rw [hlen]; omega, ?_⟩
  ·rw [hlen]
   refine ⟨hlen, by unfold maxLen at hm; omega, fun _ => ⟨a, rfl, fun j p hj => ?_⟩⟩; have hjl : j < len := by have := (List.getElem?_eq_some_iff.1 hj).1; omega
   have hp : f j = p := by simpa [List.getElem?_map, List.getElem?_range hjl] using hj
   subst hp; obtain ⟨_, cs', h1, h2, h3⟩ := hf j hjl; exact ⟨cs', h1, h2, h3⟩
  ·intro v hv
   obtain ⟨i, hi', rfl⟩ := List.mem_map.1 hv; exact (hf i (List.mem_range.1 hi')).1
theorem rdr_field {H : Type} {enc : TypeId × Value → H} {P : Program} {w : World} {base : Nat} {spare : Nat → Bool} {held : Bool} {fuel : Nat} {t : TypeId} {cs : List Value} {x : DataW H × List MemPlace} {fs : Array Field} (hu : P.underlying t = some (.struct fs))
  (h : DataW.trod enc P w base spare held fuel t cs = some x) (i : Nat) (f : Field) (hi : fs[i]? = some f) (c : Nat) (hc : P.cellsOf f.type = c) : ∃ n y, DataW.trod enc P w base spare held n f.type ((cs.drop f.offset).take c) = some y := by
 obtain ⟨xs, n, _, _, _, hl, hf⟩ := DataW.trod_struct hu h; have hil : i < xs.length := by rw [hl]; exact (Array.getElem?_eq_some_iff.1 hi).1
 have := hf i f hi; rw [hc, List.getElem?_eq_getElem hil] at this; exact ⟨n, _, this⟩
theorem rdr_cells {H : Type} {enc : TypeId × Value → H} {P : Program} {w : World} {base : Nat} {spare : Nat → Bool} {held : Bool} {fuel : Nat} {t : TypeId} {cs : List Value} {x : DataW H × List MemPlace} {fs : Array Field} (hu : P.underlying t = some (.struct fs))
  (h : DataW.trod enc P w base spare held fuel t cs = some x) (c : Nat) (hc : P.cellsOf t = c) : cs.length = c := by
 obtain ⟨xs, n, _, _, hl, _, _⟩ := DataW.trod_struct hu h; rw [hl, hc]
def wfT61 (v : S61) : Prop := (Lit.int .i64 v.f0).wf = true ∧ (Lit.int .i64 v.f1).wf = true
theorem rdr_T61 (w : World) : Rdr k61 Tryz.prog w 61 wfT61 := by
 intro H enc base spare held fuel cs x h; have hlen := rdr_cells Tryz.underlying61 h 2 (by kernel_rfl)
 match cs, hlen with
 | [c0_, c1_], _ =>
  obtain ⟨n0, y0, h0⟩ := rdr_field Tryz.underlying61 h 0 _ rfl 1 (by kernel_rfl); obtain ⟨v0, k0_, w0⟩ := Rdr.get (rdr_int Tryz.underlying3) [c0_] h0; obtain ⟨n1, y1, h1⟩ := rdr_field Tryz.underlying61 h 1 _ rfl 1 (by kernel_rfl); obtain ⟨v1, k1_, w1⟩ := Rdr.get (rdr_int Tryz.underlying3) [c1_] h1; exact ⟨⟨v0, v1⟩, ⟨[c0_], [c1_], rfl, k0_, k1_⟩, ⟨w0, w1⟩⟩
def wfT63 (v : S63) : Prop := (Lit.int .i64 v.f0).wf = true ∧ (Lit.int .i64 v.f1).wf = true ∧ wfT61 v.f2 ∧ wfT61 v.f3 ∧ (Lit.int .i64 v.f4).wf = true ∧ (Lit.int .i64 v.f5).wf = true
theorem rdr_T63 (w : World) : Rdr k63 Tryz.prog w 63 wfT63 := by
 intro H enc base spare held fuel cs x h; have hlen := rdr_cells Tryz.underlying63 h 8 (by kernel_rfl)
 match cs, hlen with
 | [c0_, c1_, c2_, c3_, c4_, c5_, c6_, c7_], _ =>
  obtain ⟨n0, y0, h0⟩ := rdr_field Tryz.underlying63 h 0 _ rfl 1 (by kernel_rfl); obtain ⟨v0, k0_, w0⟩ := Rdr.get (rdr_int Tryz.underlying3) [c0_] h0; obtain ⟨n1, y1, h1⟩ := rdr_field Tryz.underlying63 h 1 _ rfl 1 (by kernel_rfl); obtain ⟨v1, k1_, w1⟩ := Rdr.get (rdr_int Tryz.underlying3) [c1_] h1; obtain ⟨n2, y2, h2⟩ := rdr_field Tryz.underlying63 h 2 _ rfl 2 (by kernel_rfl); obtain ⟨v2, k2_, w2⟩ := Rdr.get (rdr_T61 w) [c2_, c3_] h2; obtain ⟨n3, y3, h3⟩ := rdr_field Tryz.underlying63 h 3 _ rfl 2 (by kernel_rfl); obtain ⟨v3, k3_, w3⟩ := Rdr.get (rdr_T61 w) [c4_, c5_] h3; obtain ⟨n4, y4, h4⟩ := rdr_field Tryz.underlying63 h 4 _ rfl 1 (by kernel_rfl); obtain ⟨v4, k4_, w4⟩ := Rdr.get (rdr_int Tryz.underlying3) [c6_] h4; obtain ⟨n5, y5, h5⟩ := rdr_field Tryz.underlying63 h 5 _ rfl 1 (by kernel_rfl); obtain ⟨v5, k5_, w5⟩ := Rdr.get (rdr_int Tryz.underlying3) [c7_] h5; exact ⟨⟨v0, v1, v2, v3, v4, v5⟩, ⟨[c0_], [c1_, c2_, c3_, c4_, c5_, c6_, c7_], rfl, k0_, ⟨[c1_], [c2_, c3_, c4_, c5_, c6_, c7_], rfl, k1_, ⟨[c2_, c3_], [c4_, c5_, c6_, c7_], rfl, k2_, ⟨[c4_, c5_], [c6_, c7_], rfl, k3_, ⟨[c6_], [c7_], rfl, k4_, k5_⟩⟩⟩⟩⟩, ⟨w0, w1, w2, w3, w4, w5⟩⟩
def wfT123 (v : S123) : Prop := (Lit.int .i64 v.f0).wf = true ∧ (Lit.int .i64 v.f1).wf = true ∧ (Lit.int .i64 v.f2).wf = true
theorem rdr_T123 (w : World) : Rdr k123 Tryz.prog w 123 wfT123 := by
 intro H enc base spare held fuel cs x h; have hlen := rdr_cells Tryz.underlying123 h 3 (by kernel_rfl)
 match cs, hlen with
 | [c0_, c1_, c2_], _ =>
  obtain ⟨n0, y0, h0⟩ := rdr_field Tryz.underlying123 h 0 _ rfl 1 (by kernel_rfl); obtain ⟨v0, k0_, w0⟩ := Rdr.get (rdr_int Tryz.underlying3) [c0_] h0; obtain ⟨n1, y1, h1⟩ := rdr_field Tryz.underlying123 h 1 _ rfl 1 (by kernel_rfl); obtain ⟨v1, k1_, w1⟩ := Rdr.get (rdr_int Tryz.underlying3) [c1_] h1; obtain ⟨n2, y2, h2⟩ := rdr_field Tryz.underlying123 h 2 _ rfl 1 (by kernel_rfl); obtain ⟨v2, k2_, w2⟩ := Rdr.get (rdr_int Tryz.underlying3) [c2_] h2; exact ⟨⟨v0, v1, v2⟩, ⟨[c0_], [c1_, c2_], rfl, k0_, ⟨[c1_], [c2_], rfl, k1_, k2_⟩⟩, ⟨w0, w1, w2⟩⟩
def wfT125 (v : S125) : Prop := wfT123 v.f0 ∧ (Lit.int .i64 v.f1).wf = true
theorem rdr_T125 (w : World) : Rdr k125 Tryz.prog w 125 wfT125 := by
 intro H enc base spare held fuel cs x h; have hlen := rdr_cells Tryz.underlying125 h 4 (by kernel_rfl)
 match cs, hlen with
 | [c0_, c1_, c2_, c3_], _ =>
  obtain ⟨n0, y0, h0⟩ := rdr_field Tryz.underlying125 h 0 _ rfl 3 (by kernel_rfl); obtain ⟨v0, k0_, w0⟩ := Rdr.get (rdr_T123 w) [c0_, c1_, c2_] h0; obtain ⟨n1, y1, h1⟩ := rdr_field Tryz.underlying125 h 1 _ rfl 1 (by kernel_rfl); obtain ⟨v1, k1_, w1⟩ := Rdr.get (rdr_int Tryz.underlying3) [c3_] h1; exact ⟨⟨v0, v1⟩, ⟨[c0_, c1_, c2_], [c3_], rfl, k0_, k1_⟩, ⟨w0, w1⟩⟩
def wfT25 (v : S25) : Prop := (Lit.int .i64 v.f0).wf = true ∧ (v.f1.length ≤ maxLen ∧ ∀ x_ ∈ v.f1, wfT125 x_)
theorem rdr_T25 (w : World) : Rdr k25 Tryz.prog w 25 wfT25 := by
 intro H enc base spare held fuel cs x h; have hlen := rdr_cells Tryz.underlying25 h 2 (by kernel_rfl)
 match cs, hlen with
 | [c0_, c1_], _ =>
  obtain ⟨n0, y0, h0⟩ := rdr_field Tryz.underlying25 h 0 _ rfl 1 (by kernel_rfl); obtain ⟨v0, k0_, w0⟩ := Rdr.get (rdr_int Tryz.underlying3) [c0_] h0; obtain ⟨n1, y1, h1⟩ := rdr_field Tryz.underlying25 h 1 _ rfl 1 (by kernel_rfl); obtain ⟨v1, k1_, w1⟩ := Rdr.get (rdr_slice (z125 : S125) Tryz.underlying23 (by kernel_rfl) (rdr_T125 w)) [c1_] h1; exact ⟨⟨v0, v1⟩, ⟨[c0_], [c1_], rfl, k0_, k1_⟩, ⟨w0, w1⟩⟩
def wfT75 (v : S75) : Prop := (Lit.int .i64 v.f0).wf = true ∧ (v.f1.length ≤ maxLen ∧ ∀ x_ ∈ v.f1, (Lit.int .i64 x_).wf = true)
theorem rdr_T75 (w : World) : Rdr k75 Tryz.prog w 75 wfT75 := by
 intro H enc base spare held fuel cs x h; have hlen := rdr_cells Tryz.underlying75 h 2 (by kernel_rfl)
 match cs, hlen with
 | [c0_, c1_], _ =>
  obtain ⟨n0, y0, h0⟩ := rdr_field Tryz.underlying75 h 0 _ rfl 1 (by kernel_rfl); obtain ⟨v0, k0_, w0⟩ := Rdr.get (rdr_int Tryz.underlying3) [c0_] h0; obtain ⟨n1, y1, h1⟩ := rdr_field Tryz.underlying75 h 1 _ rfl 1 (by kernel_rfl); obtain ⟨v1, k1_, w1⟩ := Rdr.get (rdr_slice (0 : Int) Tryz.underlying73 (by kernel_rfl) (rdr_int Tryz.underlying3)) [c1_] h1; exact ⟨⟨v0, v1⟩, ⟨[c0_], [c1_], rfl, k0_, k1_⟩, ⟨w0, w1⟩⟩
def wfT77 (v : S77) : Prop := (Lit.int .i64 v.f0).wf = true ∧ (Lit.int .i64 v.f1).wf = true ∧ v.f2.size ≤ maxLen ∧ v.f3.size ≤ maxLen ∧ (Lit.int .i64 v.f4).wf = true ∧ (Lit.int .i64 v.f5).wf = true ∧ (Lit.int .i64 v.f6).wf = true ∧ (Lit.int .i64 v.f7).wf = true ∧ (Lit.int .i64 v.f8).wf = true ∧ wfT75 v.f9
theorem rdr_T77 (w : World) : Rdr k77 Tryz.prog w 77 wfT77 := by
 intro H enc base spare held fuel cs x h; have hlen := rdr_cells Tryz.underlying77 h 11 (by kernel_rfl)
 match cs, hlen with
 | [c0_, c1_, c2_, c3_, c4_, c5_, c6_, c7_, c8_, c9_, c10_], _ =>
  obtain ⟨n0, y0, h0⟩ := rdr_field Tryz.underlying77 h 0 _ rfl 1 (by kernel_rfl); obtain ⟨v0, k0_, w0⟩ := Rdr.get (rdr_int Tryz.underlying3) [c0_] h0; obtain ⟨n1, y1, h1⟩ := rdr_field Tryz.underlying77 h 1 _ rfl 1 (by kernel_rfl); obtain ⟨v1, k1_, w1⟩ := Rdr.get (rdr_int Tryz.underlying3) [c1_] h1; obtain ⟨n2, y2, h2⟩ := rdr_field Tryz.underlying77 h 2 _ rfl 1 (by kernel_rfl); obtain ⟨v2, k2_, w2⟩ := Rdr.get (rdr_string Tryz.underlying9) [c2_] h2; obtain ⟨n3, y3, h3⟩ := rdr_field Tryz.underlying77 h 3 _ rfl 1 (by kernel_rfl); obtain ⟨v3, k3_, w3⟩ := Rdr.get (rdr_string Tryz.underlying9) [c3_] h3; obtain ⟨n4, y4, h4⟩ := rdr_field Tryz.underlying77 h 4 _ rfl 1 (by kernel_rfl); obtain ⟨v4, k4_, w4⟩ := Rdr.get (rdr_int Tryz.underlying3) [c4_] h4; obtain ⟨n5, y5, h5⟩ := rdr_field Tryz.underlying77 h 5 _ rfl 1 (by kernel_rfl); obtain ⟨v5, k5_, w5⟩ := Rdr.get (rdr_int Tryz.underlying3) [c5_] h5; obtain ⟨n6, y6, h6⟩ := rdr_field Tryz.underlying77 h 6 _ rfl 1 (by kernel_rfl); obtain ⟨v6, k6_, w6⟩ := Rdr.get (rdr_int Tryz.underlying3) [c6_] h6; obtain ⟨n7, y7, h7⟩ := rdr_field Tryz.underlying77 h 7 _ rfl 1 (by kernel_rfl); obtain ⟨v7, k7_, w7⟩ := Rdr.get (rdr_int Tryz.underlying3) [c7_] h7; obtain ⟨n8, y8, h8⟩ := rdr_field Tryz.underlying77 h 8 _ rfl 1 (by kernel_rfl); obtain ⟨v8, k8_, w8⟩ := Rdr.get (rdr_int Tryz.underlying3) [c8_] h8; obtain ⟨n9, y9, h9⟩ := rdr_field Tryz.underlying77 h 9 _ rfl 2 (by kernel_rfl); obtain ⟨v9, k9_, w9⟩ := Rdr.get (rdr_T75 w) [c9_, c10_] h9; exact ⟨⟨v0, v1, v2, v3, v4, v5, v6, v7, v8, v9⟩, ⟨[c0_], [c1_, c2_, c3_, c4_, c5_, c6_, c7_, c8_, c9_, c10_], rfl, k0_, ⟨[c1_], [c2_, c3_, c4_, c5_, c6_, c7_, c8_, c9_, c10_], rfl, k1_, ⟨[c2_], [c3_, c4_, c5_, c6_, c7_, c8_, c9_, c10_], rfl, k2_, ⟨[c3_], [c4_, c5_, c6_, c7_, c8_, c9_, c10_], rfl, k3_, ⟨[c4_], [c5_, c6_, c7_, c8_, c9_, c10_], rfl, k4_, ⟨[c5_], [c6_, c7_, c8_, c9_, c10_], rfl, k5_, ⟨[c6_], [c7_, c8_, c9_, c10_], rfl, k6_, ⟨[c7_], [c8_, c9_, c10_], rfl, k7_, ⟨[c8_], [c9_, c10_], rfl, k8_, k9_⟩⟩⟩⟩⟩⟩⟩⟩⟩, ⟨w0, w1, w2, w3, w4, w5, w6, w7, w8, w9⟩⟩
def wfT28 (v : S28) : Prop := (Lit.int .i64 v.f0).wf = true ∧ (v.f1.length ≤ maxLen ∧ ∀ x_ ∈ v.f1, wfT63 x_) ∧ wfT25 v.f2 ∧ (v.f3.length ≤ maxLen ∧ ∀ x_ ∈ v.f3, wfT77 x_) ∧ (v.f4.length ≤ maxLen ∧ ∀ x_ ∈ v.f4, wfT77 x_)
theorem rdr_T28 (w : World) : Rdr k28 Tryz.prog w 28 wfT28 := by
 intro H enc base spare held fuel cs x h; have hlen := rdr_cells Tryz.underlying28 h 6 (by kernel_rfl)
 match cs, hlen with
 | [c0_, c1_, c2_, c3_, c4_, c5_], _ =>
  obtain ⟨n0, y0, h0⟩ := rdr_field Tryz.underlying28 h 0 _ rfl 1 (by kernel_rfl); obtain ⟨v0, k0_, w0⟩ := Rdr.get (rdr_int Tryz.underlying3) [c0_] h0; obtain ⟨n1, y1, h1⟩ := rdr_field Tryz.underlying28 h 1 _ rfl 1 (by kernel_rfl); obtain ⟨v1, k1_, w1⟩ := Rdr.get (rdr_slice (z63 : S63) Tryz.underlying22 (by kernel_rfl) (rdr_T63 w)) [c1_] h1; obtain ⟨n2, y2, h2⟩ := rdr_field Tryz.underlying28 h 2 _ rfl 2 (by kernel_rfl); obtain ⟨v2, k2_, w2⟩ := Rdr.get (rdr_T25 w) [c2_, c3_] h2; obtain ⟨n3, y3, h3⟩ := rdr_field Tryz.underlying28 h 3 _ rfl 1 (by kernel_rfl); obtain ⟨v3, k3_, w3⟩ := Rdr.get (rdr_slice (z77 : S77) Tryz.underlying26 (by kernel_rfl) (rdr_T77 w)) [c4_] h3; obtain ⟨n4, y4, h4⟩ := rdr_field Tryz.underlying28 h 4 _ rfl 1 (by kernel_rfl); obtain ⟨v4, k4_, w4⟩ := Rdr.get (rdr_slice (z77 : S77) Tryz.underlying26 (by kernel_rfl) (rdr_T77 w)) [c5_] h4; exact ⟨⟨v0, v1, v2, v3, v4⟩, ⟨[c0_], [c1_, c2_, c3_, c4_, c5_], rfl, k0_, ⟨[c1_], [c2_, c3_, c4_, c5_], rfl, k1_, ⟨[c2_, c3_], [c4_, c5_], rfl, k2_, ⟨[c4_], [c5_], rfl, k3_, k4_⟩⟩⟩⟩, ⟨w0, w1, w2, w3, w4⟩⟩
end Go.Proofs.YtaehmhbpdpdefaaGreat.PAll
end
section
namespace Go.Proofs.YtaehmhbpdpdefaaGreat.Z
open Go Go.RowKit Go.Proofs.YtaehmhbpdpdefaaGreatW.PrintWords Go.Proofs.YtaehmhbpdpdefaaGreatW.PrintMore
set_option linter.unusedVariables false
set_option linter.unusedSimpArgs false
theorem w64 {n : Int} (h : -9223372036854775808 ≤ n ∧ n ≤ 9223372036854775807) : wrap64 n = n := by unfold wrap64; omega
/-- The number of addresses of a block of so many bits. -/
def sz (m : Int) : Int := 2 ^ (32 - m).toNat
theorem sz_pos (m : Int) : 1 ≤ sz m := by
 unfold sz; have : (0 : Int) < 2 ^ (32 - m).toNat := Int.pow_pos (by decide); omega
theorem sz_dvd {m n : Int} (h : m ≤ n) : sz n ∣ sz m := by
 unfold sz; obtain ⟨j, e⟩ : ∃ j : Nat, (32 - m).toNat = (32 - n).toNat + j := ⟨(32 - m).toNat - (32 - n).toNat, by omega⟩; rw [e, Int.pow_add]; exact Int.dvd_mul_right _ _
theorem sz_le {m n : Int} (h : m ≤ n) : sz n ≤ sz m := Int.le_of_dvd (by have := sz_pos m; omega) (sz_dvd h)
theorem sz_top {m : Int} (h0 : 0 ≤ m) : sz m ≤ 4294967296 := sz_le h0
theorem sz_dvd_top {m : Int} (h0 : 0 ≤ m) : sz m ∣ 4294967296 := sz_dvd h0
/-- A block that is valid. -/
def bok (b m : Int) : Prop := 0 ≤ b ∧ b ≤ 4294967295 ∧ 0 ≤ m ∧ m ≤ 32 ∧ b % sz m = 0
instance (b m : Int) : Decidable (bok b m) := by unfold bok; exact inferInstance
def bokB (b m : Int) : Bool := decide (bok b m)
theorem bokB_true {b m : Int} : bokB b m = true ↔ bok b m := by simp [bokB]
theorem bokB_false {b m : Int} : bokB b m = false ↔ ¬ bok b m := by simp [bokB]
/-- Multiples of a size lie a size apart. -/
theorem mult_apart {s a b : Int} (hs : 0 < s) (ha : s ∣ a) (hb : s ∣ b) (h : a < b) : a + s ≤ b := by
 obtain ⟨x, rfl⟩ := ha; obtain ⟨y, rfl⟩ := hb
 have hxy : x < y := by
  rcases Int.lt_or_le x y with h' | h'
  ·exact h'
  ·exact absurd (Int.mul_le_mul_of_nonneg_left h' (Int.le_of_lt hs)) (by omega)
 have : s * (x + 1) ≤ s * y := Int.mul_le_mul_of_nonneg_left (by omega) (Int.le_of_lt hs); rw [Int.mul_add] at this; omega
theorem bok.last {b m : Int} (h : bok b m) : b + sz m ≤ 4294967296 := by
 obtain ⟨h0, h1, h2, h3, h4⟩ := h; exact mult_apart (by have := sz_pos m; omega) (Int.dvd_of_emod_eq_zero h4) (sz_dvd_top h2) (by omega)
theorem shl_one {x : Int} (h0 : 0 ≤ x) (h1 : x ≤ 62) : shl .i64 1 x = 2 ^ x.toNat := by
 have e : min x.toNat IntKind.i64.bits = x.toNat := by
  have : IntKind.i64.bits = 64 := rfl; omega
 unfold shl; rw [e, IntKind.wrap_i64, Int.one_mul]
 have hp : (2 : Int) ^ x.toNat ≤ 2 ^ 62 := by
  exact_mod_cast Nat.pow_le_pow_right (n := 2) (by decide) (by omega : x.toNat ≤ 62)
 have hq : (0 : Int) < 2 ^ x.toNat := Int.pow_pos (by decide); omega
theorem shl_sz {m : Int} (h0 : 0 ≤ m) (h1 : m ≤ 32) : shl .i64 1 (32 - m) = sz m := by
 rw [shl_one (by omega) (by omega)]; rfl
/-- Some number of rounds is enough for both. -/
theorem Ev.of_eq {α : Type} {g : Nat → Option α} {r r' : α} (h : Ev g r) (e : r = r') : Ev g r' := e ▸ h
theorem Ev.all {α : Type} {g : Nat → Option α} {r : α} (h : ∀ k, g k = some r) : Ev g r := ⟨0, fun k _ => h k⟩
/-- What a walk of some number of rounds answers: step by step. -/
theorem evB {α β : Type} {g : Nat → Option α} {h : α → Nat → Option β} {a : α} {r : β} (e : ∃ K, ∀ k, K ≤ k → g k = some a) (f : ∃ K, ∀ k, K ≤ k → h a k = some r) : ∃ K, ∀ k, K ≤ k → ((g k).bind fun x => h x k) = some r := by
 obtain ⟨K1, e⟩ := e; obtain ⟨K2, f⟩ := f; exact ⟨K1 + K2, fun k hk => by rw [e k (by omega), Option.bind_some, f k (by omega)]⟩
theorem evS {α β : Type} {g : Option α} {h : α → Nat → Option β} {a : α} {r : β} (e : g = some a) (f : ∃ K, ∀ k, K ≤ k → h a k = some r) : ∃ K, ∀ k, K ≤ k → (g.bind fun x => h x k) = some r := by
 obtain ⟨K2, f⟩ := f; exact ⟨K2, fun k hk => by rw [e, Option.bind_some, f k (by omega)]⟩
theorem evP {α : Type} {c : Prop} [Decidable c] {g h : Nat → Option α} {r : α} (hc : c) (f : ∃ K, ∀ k, K ≤ k → g k = some r) : ∃ K, ∀ k, K ≤ k → (if c then g k else h k) = some r := by
 obtain ⟨K2, f⟩ := f; exact ⟨K2, fun k hk => by rw [if_pos hc, f k (by omega)]⟩
theorem evN {α : Type} {c : Prop} [Decidable c] {g h : Nat → Option α} {r : α} (hc : ¬c) (f : ∃ K, ∀ k, K ≤ k → h k = some r) : ∃ K, ∀ k, K ≤ k → (if c then g k else h k) = some r := by
 obtain ⟨K2, f⟩ := f; exact ⟨K2, fun k hk => by rw [if_neg hc, f k (by omega)]⟩
theorem evI {α : Type} {c : Prop} [Decidable c] {g h : Nat → Option α} {r : α} (f : c → ∃ K, ∀ k, K ≤ k → g k = some r) (f' : ¬c → ∃ K, ∀ k, K ≤ k → h k = some r) : ∃ K, ∀ k, K ≤ k → (if c then g k else h k) = some r := by
 by_cases hc : c
 ·exact evP hc (f hc)
 ·exact evN hc (f' hc)
theorem ev1 {α : Type} {f : Nat → Option α} {r : α} (h : ∃ K, ∀ k, K ≤ k → f (k + 1) = some r) : ∃ K, ∀ k, K ≤ k → f k = some r := by
 obtain ⟨K, h⟩ := h; exact ⟨K + 1, fun k hk => by obtain ⟨j, rfl⟩ : ∃ j, k = j + 1 := ⟨k - 1, by omega⟩; exact h j (by omega)⟩
theorem evR {α : Type} {r q : α} (h : r = q) : ∃ K : Nat, ∀ k, K ≤ k → some r = some q := ⟨0, fun _ _ => by rw [h]⟩
/-- A walk of some number of rounds answers something of which Q holds. -/
def Dr {α : Type} (g : Nat → Option α) (Q : α → Prop) : Prop := ∃ r, (∃ K, ∀ k, K ≤ k → g k = some r) ∧ Q r
theorem drB {α β : Type} {g : Nat → Option α} {h : α → Nat → Option β} {a : α} {Q : β → Prop} (e : ∃ K, ∀ k, K ≤ k → g k = some a) (f : Dr (h a) Q) : Dr (fun k => (g k).bind fun x => h x k) Q := by
 obtain ⟨r, f, q⟩ := f; exact ⟨r, evB e f, q⟩
theorem drS {α β : Type} {g : Option α} {h : α → Nat → Option β} {a : α} {Q : β → Prop} (e : g = some a) (f : Dr (h a) Q) : Dr (fun k => g.bind fun x => h x k) Q := by
 obtain ⟨r, f, q⟩ := f; exact ⟨r, evS e f, q⟩
theorem drP {α : Type} {c : Prop} [Decidable c] {g h : Nat → Option α} {Q : α → Prop} (hc : c) (f : Dr g Q) : Dr (fun k => if c then g k else h k) Q := by
 obtain ⟨r, f, q⟩ := f; exact ⟨r, evP hc f, q⟩
theorem drN {α : Type} {c : Prop} [Decidable c] {g h : Nat → Option α} {Q : α → Prop} (hc : ¬c) (f : Dr h Q) : Dr (fun k => if c then g k else h k) Q := by
 obtain ⟨r, f, q⟩ := f; exact ⟨r, evN hc f, q⟩
theorem drI {α : Type} {c : Prop} [Decidable c] {g h : Nat → Option α} {Q : α → Prop} (f : c → Dr g Q) (f' : ¬c → Dr h Q) : Dr (fun k => if c then g k else h k) Q := by
 by_cases hc : c
 ·exact drP hc (f hc)
 ·exact drN hc (f' hc)
theorem dr1 {α : Type} {f : Nat → Option α} {Q : α → Prop} (h : Dr (fun k => f (k + 1)) Q) : Dr f Q := by
 obtain ⟨r, f, q⟩ := h; exact ⟨r, ev1 f, q⟩
theorem drR {α : Type} {r : α} {Q : α → Prop} (h : Q r) : Dr (fun _ => some r) Q := ⟨r, ⟨0, fun _ _ => rfl⟩, h⟩
theorem Dr.imp {α : Type} {g : Nat → Option α} {P Q : α → Prop} (h : Dr g P) (f : ∀ x, P x → Q x) : Dr g Q := by
 obtain ⟨r, e, q⟩ := h; exact ⟨r, e, f r q⟩
end Go.Proofs.YtaehmhbpdpdefaaGreat.Z
end
