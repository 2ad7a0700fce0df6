/- Contracts of the functions that the statement reaches, printed by a program out of the translation and joined with the plain laws. -/
import Derived.WalkKit
import Derived.Shelf.Abstract
import Derived.Deep.LoopGhost
import Derived.Deep.CutBlock
import Derived.Maps.OwnSet
import Derived.Test.YtkgbgaojglcaoaaCFnRulesDead3
import Derived.Test.YtkgbgaojglcaoaaCFnRulesDead4
import Derived.Test.YtkgbgaojglcaoaaCFnRulesDead6
import Derived.Test.YtkgbgaojglcaoaaCFnRulesDead8
import Derived.Test.YtkgbgaojglcaoaaCFnRulesDead10
section
namespace Go.Proofs.Ytkgbgaojglcaoaa.PAll
open Go.RowKit Go.Proofs.YtkgbgaojglcaoaaW.PrintWords Go.Proofs.YtkgbgaojglcaoaaW.PrintLast Go.Proofs.YtkgbgaojglcaoaaW.PrintMore
attribute [local go_sem] max2_int min2_int max_two min_two max_three min_three max_four min_four   -- for this text's walks alone
set_option linter.unusedVariables false
set_option linter.unusedSimpArgs false
open Go.Maps Go.WideMaps Go.ChangeMaps
/-- A map whose elements are true: its keys. -/
def SetAt (P : Program) (k : TypeId) (w : World) (mb : Nat) (keys : List Value) : Prop :=
 ∃ es clock, w.heap[mb]? = some (.map es clock) ∧ (∀ e ∈ es.toList, e.val = .bool true ∧ ∃ l, keyOf P k e.key = some l) ∧ ∀ v, (∃ e ∈ es.toList, e.key = v) ↔ v ∈ keys
theorem SetAt.made {P : Program} {k : TypeId} {w : World} {mb : Nat} (h : w.heap[mb]? = some (.map #[] 0)) : SetAt P k w mb [] := ⟨#[], 0, h, by simp, by simp⟩
theorem SetAt.same {P : Program} {k : TypeId} {w w' : World} {mb : Nat} {keys : List Value} (h : SetAt P k w mb keys) (e : w'.heap[mb]? = w.heap[mb]?) : SetAt P k w' mb keys := by
 obtain ⟨es, c, hb, r⟩ := h
 exact ⟨es, c, e.trans hb, r⟩
theorem SetAt.look {P : Program} {k t e : TypeId} {w : World} {mb : Nat} {keys : List Value} (h : SetAt P k w mb keys) (K : Keyed P k) (ht : P.underlying t = some (.map k e)) (hz : (zeroValue e).run P w = .ok (.bool false) w) {key : Value} {kl : Lit} (hkey : keyOf P k key = some kl)
  (b : Bool) (hb : b = true ↔ key ∈ keys) : (Instr.lookup t (.map (some mb)) key false).run P w = .ok (.bool b) w := by
 obtain ⟨es, c, hh, h1, h2⟩ := h
 rcases K.find w hkey es.toList (fun e he => (h1 e he).2) with ⟨q1, q2⟩ | ⟨j, e0, q1, q2, q3⟩
 ·have : b = false := by
   rw [Bool.eq_false_iff]
   intro hbt
   obtain ⟨e0, he, hk⟩ := (h2 key).2 (hb.1 hbt)
   exact q2 e0 he hk
  subst this
  simp [Instr.lookup, run_underlying ht, MapKept.run_getObj_map hh, K.check w _ hkey, q1, hz, Result.andThen]
 ·have hm := List.mem_of_getElem? q2
  have : b = true := hb.2 ((h2 key).1 ⟨e0, hm, q3⟩)
  subst this
  simp [Instr.lookup, run_underlying ht, MapKept.run_getObj_map hh, K.check w _ hkey, q1, Result.andThen, (h1 e0 hm).1]
theorem SetAt.put {P : Program} {k t e : TypeId} {w : World} {mb : Nat} {keys : List Value} (h : SetAt P k w mb keys) (K : Keyed P k) (ht : P.underlying t = some (.map k e)) {key : Value} {kl : Lit} (hkey : keyOf P k key = some kl) :
  ∃ w', (Instr.mapUpdate t (.map (some mb)) key (.bool true)).run P w = .ok () w' ∧ SetAt P k w' mb (key :: keys) ∧ w.grownBy w' (some mb) := by
 obtain ⟨es, c, hh, h1, h2⟩ := h
 rcases K.find w hkey es.toList (fun e he => (h1 e he).2) with ⟨q1, q2⟩ | ⟨j, e0, q1, q2, q3⟩
 ·refine ⟨setBlock w mb (.map (es.push ⟨key, .bool true, c⟩) (c + 1)), ?_, ⟨_, _, heap_setBlock_same hh _, ?_, ?_⟩, ⟨rfl, rfl, rfl, by simp [setBlock], fun i _ hi => heap_setBlock_other hh _ (fun e => hi (by rw [e]))⟩⟩
  ·simp [Instr.mapUpdate, run_underlying ht, MapKept.run_getObj_map hh, K.check w false hkey, q1, MapKept.run_setObj_map _ hh, Result.andThen, setBlock]
  ·intro x hx
   simp only [Array.toList_push, List.mem_append, List.mem_singleton] at hx
   rcases hx with hx | rfl
   ·exact h1 x hx
   ·exact ⟨rfl, _, hkey⟩
  ·intro v
   rw [List.mem_cons]
   constructor
   ·rintro ⟨x, hx, e⟩
    rcases List.mem_append.1 (by simpa using hx : x ∈ es.toList ++ [⟨key, .bool true, c⟩]) with hx | hx
    ·exact .inr ((h2 v).1 ⟨x, hx, e⟩)
    ·rw [List.mem_singleton.1 hx] at e; exact .inl e.symm
   ·rintro (e | hv)
    ·exact ⟨⟨key, .bool true, c⟩, by simp, e.symm⟩
    ·obtain ⟨x, hx, e⟩ := (h2 v).2 hv
     exact ⟨x, by simp [Array.mem_toList_iff.1 hx], e⟩
 ·have hj : es[j]? = some e0 := by simpa using q2
  have hm := List.mem_of_getElem? q2
  have hset : (es.modify j (fun e' => { e' with key := key, val := .bool true })).toList = es.toList := by
   rw [Array.toList_modify]
   refine List.ext_getElem? fun i => ?_
   rw [List.getElem?_modify]
   by_cases e : j = i
   ·subst e
    rw [q2]
    have := (h1 e0 hm).1
    cases e0
    simp only [] at q3 this
    simp [q3, this]
   ·simp [e]
  refine ⟨setBlock w mb (.map (es.modify j (fun e' => { e' with key := key, val := .bool true })) c), ?_, ⟨_, _, heap_setBlock_same hh _, ?_, ?_⟩, ⟨rfl, rfl, rfl, by simp [setBlock], fun i _ hi => heap_setBlock_other hh _ (fun e => hi (by rw [e]))⟩⟩
  ·simp [Instr.mapUpdate, run_underlying ht, MapKept.run_getObj_map hh, K.check w false hkey, q1, hj, q3, K.stays w hkey, MapKept.run_setObj_map _ hh, Result.andThen, setBlock]
  ·rw [hset]; exact h1
  ·intro v
   rw [hset, h2 v, List.mem_cons]
   constructor
   ·exact .inr
   ·rintro (e | hv)
    ·rw [e]; exact (h2 key).1 ⟨e0, hm, q3⟩
    ·exact hv
theorem mapset_step {P : Program} {ops : Array Oper} {w : World} {o : Oper} {N : Option Tmp} {a : Act} {K : Act → World → Prop} {Q : Exit → Act → World → Prop} (hw : Region.wanted o (yielded ops a.tmps) = true) (hN : o.dst = N) (m x v : Operand) (t : TypeId) (hop : o.op = Op.mapUpdate t m x v)
  {k e : TypeId} (K0 : Keyed P k) (ht : P.underlying t = some (.map k e)) {mb : Nat} {keys : List Value} (hm : a.eval m = .map (some mb)) (h : SetAt P k w mb keys) {key : Value} {kl : Lit} (hx : a.eval x = key) (hv : a.eval v = .bool true) (hkey : keyOf P k key = some kl)
  (hK : ∀ w', SetAt P k w' mb (key :: keys) → w.grownBy w' (some mb) → K (a.put N undef) w') : if Region.wanted o (yielded ops a.tmps) = true then Oper.wp P o a w K Q else K (a.put N undef) w := by
 rw [if_pos hw]
 subst hN
 obtain ⟨w', hrun, r1, r2⟩ := h.put K0 ht hkey
 unfold Oper.wp
 simp [execOp, hop, hm, hx, hv, hrun, Result.andThen]
 exact hK w' r1 r2
set_option maxHeartbeats 8000000 in
set_option maxRecDepth 100000 in
theorem dead.one (l0 : List S71) (A0 : Option Addr) (c0 gl gm mb : Nat) (keys : List Value) (W : World) (i k n a b c v : Int) (hl : W.heap[gl]? = some (.cells #[.slice A0 l0.length c0] 52 (0, 0))) (hm : W.heap[gm]? = some (.cells #[.map (some mb)] 111 (0, 0)))
  (hs : SetAt Try.prog 3 W mb keys) (hr : Kd.C k71 W A0 l0.length l0) (hc0 : l0.length ≤ c0) (hv : impl_first.f l0 a b c = some v) (hw : (Lit.int .i64 v).wf = true) :
  Calls Try.prog 88 #[.int .i64 i, .int .i64 k, .int .i64 n, .agg #[.int .i64 a, .int .i64 b, .int .i64 c], .pointer (some ⟨gm, 0, none⟩), .pointer (some ⟨gl, 0, none⟩)] W fun e w' => e = .returned (.bool true) ∧ SetAt Try.prog 3 w' mb (.int .i64 v :: keys) ∧ W.grownBy w' (some mb) := by
 have hu := Try.underlying60
 have hlm : W.cell? ⟨gm, 0, none⟩ = some (.map (some mb)) := (blk_cell hm 0).trans rfl
 have hll : W.cell? ⟨gl, 0, none⟩ = some (.slice A0 l0.length c0) := (blk_cell hl 0).trans rfl
 have HR := Aside0.mk hr
 have HS := Aside0.mk hs
 have HV := Aside0.mk hv
 have HC := Aside0.mk hc0
 have HW := Aside0.mk hw
 have BM := Aside0.mk hm
 have BL := Aside0.mk hl
 clear hr hs hv hc0 hw hm hl
 go_enter Try.func88, Try.ntmps88
 go_upto_region 1 with (first | ((with_reducible refine gate_dst (N := 9) rfl ?_); refine box_event rfl (N := 9) rfl (cs := #[.int .i64 a, .int .i64 b, .int .i64 c]) (t := 60) BX ?_; intro gb hgb w2 hbox hbw; replace hlm := CX hbw hlm; replace hll := CX hbw hll; have HB := Aside0.mk hbw; have BK := Aside0.mk hbox; obtain ⟨hz0, hz1, hz2, hzf⟩ := y3 w2 hbox; clear hbw hgb hbox))
 have HS2 := am (HS.out.same (HB.out.block mb (by obtain ⟨es, cl, hh, _⟩ := HS.out; exact blk_lt hh)))
 have hml : mb < W.heap.size := by obtain ⟨es, cl, hh, _⟩ := HS.out; exact blk_lt hh
 have HML := Aside0.mk hml
 have hne : ∀ (w1 : World) (g : Nat) (cs : Array Value) (t : TypeId), w1.heap[g]? = some (.cells cs t (0, 0)) → SetAt Try.prog 3 w1 mb keys → g ≠ mb := fun w1 g cs t h1 h2 e => by obtain ⟨es, cl, hh, _⟩ := h2; rw [← e, h1] at hh; cases hh
 have NM1 := am (hne _ _ _ _ BM.out HS.out)
 have NL1 := am (hne _ _ _ _ BL.out HS.out)
 have NB1 := am (hne _ _ _ _ BK.out HS2.out)
 have BM2 := am (blk_below BM.out HB.out)
 have BL2 := am (blk_below BL.out HB.out)
 clear hml hne HS BM BL
 refine start_ (n := 5) (S := fun w' => ce3 w' gb (.int .i64 a) (.int .i64 b) (.int .i64 c) (w'.cell? ⟨gm, 0, none⟩ = some (.map (some mb)) ∧ w'.cell? ⟨gl, 0, none⟩ = some (.slice A0 l0.length c0))) (ds := []) (tf 0 5) (by kernel_rfl) rfl rfl ⟨hz0, hz1, hz2, hlm, hll⟩ (fun hHeld => ?_)
 clear hz0 hz1 hz2 hlm hll hzf
 refine tk 0 (some 11) (tf 1 4) (by kernel_rfl) hHeld ?_
 refine tk 1 (some 12) (tf 2 3) (by kernel_rfl) hHeld ?_
 refine tk 2 (some 13) (tf 3 2) (by kernel_rfl) hHeld ?_
 refine one_ (i := 3) (N := some 14) (tf 4 1) rfl rfl (by kernel_rfl) (by decide) (fun K hK => ?_)
 refine goes_ Try.func89 (by kernel_rfl) rfl #[.slice A0 l0.length c0, .agg #[.int .i64 a, .int .i64 b, .int .i64 c]] (by rfl) rfl rfl MT ?_
 refine (impl_first.calls A0 c0 l0 a b c v _ (Kd.C_below HR.out (below_drew1 HB.out)) HC.out HV.out).mono ?_
 rintro e w4 ⟨rfl, hb⟩
 refine ⟨_, rfl, ?_⟩
 have hb' : Below w2.heap.size w2 w4 := ⟨hb.os, hb.tape, hb.output, hb.size, hb.block⟩
 have BM4 := am (blk_below BM2.out hb')
 have BL4 := am (blk_below BL2.out hb')
 have BK4 := am (blk_below BK.out hb')
 have HS4 := am (HS2.out.same (hb'.block mb (Nat.lt_of_lt_of_le HML.out HB.out.size)))
 have HB4 := am (Below.trans HB.out (hb'.mono HB.out.size))
 clear hb hb'
 refine hK.out _ _ ⟨z0 _ BK4.out, z1 _ BK4.out, z2 _ BK4.out, z0 _ BM4.out, z0 _ BL4.out⟩ (fun hHeld => ?_)
 clear hK K hHeld
 refine norm_ (a' := ?_) ?_ ?_
 rotate_left
 ·show Act.put _ (some 14) _ = _
  simp only [Act.put, List.setIfInBounds_toArray, List.set_cons_zero, List.set_cons_succ, i64_w, i32_w]
  rfl
 refine one_ (i := 4) (N := none) (tf 5 0) rfl rfl (by kernel_rfl) (by decide) (fun K hK => ?_)
 refine mapset_step (by rfl) rfl _ _ _ 111 rfl (int_keyed Try.underlying3) Try.underlying111 rfl HS4.out rfl rfl (keyOf_int_mk Try.underlying3 HW.out) ?_
 intro w5 hset hgr
 have BM5 := (hgr.block gm (blk_lt BM4.out) (fun e => NM1.out (Option.some.inj e))).trans BM4.out
 have BL5 := (hgr.block gl (blk_lt BL4.out) (fun e => NL1.out (Option.some.inj e))).trans BL4.out
 have BK5 := (hgr.block gb (blk_lt BK4.out) (fun e => NB1.out (Option.some.inj e))).trans BK4.out
 refine hK.out _ _ ⟨z0 _ BK5, z1 _ BK5, z2 _ BK5, z0 _ BM5, z0 _ BL5⟩ (fun hHeld => ?_)
 have HS5 := Aside0.mk hset
 have HG5 := Aside0.mk hgr
 clear hK K hHeld BM5 BL5 BK5 hset hgr
 refine done_ (by kernel_rfl) ?_
 go_wp2
 go_ret
 refine ⟨rfl, HS5.out, ?_⟩
 exact ⟨HG5.out.os.trans HB4.out.os, HG5.out.tape.trans HB4.out.tape, HG5.out.output.trans HB4.out.output, Nat.le_trans HB4.out.size HG5.out.size, fun q hq hn => (HG5.out.block q (Nat.lt_of_lt_of_le hq HB4.out.size) hn).trans (HB4.out.block q hq)⟩
theorem map_event {P : Program} {ops : Array Oper} {Q : Exit → Act → World → Prop} {rest : List Oper} {o : Oper} {a : Act} {W : World} (hgd : o.guard = none) {N : Tmp} (_hd : o.dst = some N)
  (hrun : (execOp a.eval o).run P W = .ok (.value (.map (some W.heap.size))) (W.alloc (.map #[] 0)))
  (h : ∀ g, g = W.heap.size → ∀ w1, w1.heap[g]? = some (.map #[] 0) → Below W.heap.size W w1 → wpList P ops Q rest (a.put o.dst (.map (some g))) w1) : wpList P ops Q (o :: rest) a W :=
 Kd.event_run hgd hrun (h _ rfl _ (heap_alloc_new _ _) (below_alloc (Below.refl _ _) _))
def impl_RulesDead.p (l0 : List S71) (s : List Int) (i k n a b c : Int) : Option (List Int × Bool) := (impl_first.f l0 a b c).bind fun v => if (Lit.int .i64 v).wf = true then some (v :: s, true) else none
/-- The places of which a list of numbers has none. -/
def notIn (s : List Int) (n : Nat) : List Int := ((List.range n).map fun i : Nat => (i : Int)).filter fun i => !decide (i ∈ s)
def impl_RulesDead.f (k : Nat) (l0 : List S71) : Option (List Int) := (impl_RulesOk.f k l0).bind fun ok => if ok = true then (if l0.length < 1000000 then ((impl_axesOf.f k l0).bind fun x => if x.1.length < 4611686018427387904 ∧ x.2.1.length < 4611686018427387904 ∧ x.2.2.length < 4611686018427387904 then ((cornX (impl_RulesDead.p l0) x.2.2 x.2.1 x.1 0 []).bind fun r => some (notIn r.1 l0.length)) else none) else none) else some []
theorem notIn_succ (s : List Int) (n : Nat) : notIn s (n + 1) = notIn s n ++ (if (n : Int) ∈ s then [] else [(n : Int)]) := by
 unfold notIn
 rw [List.range_succ, List.map_append, List.filter_append]
 congr 1
 by_cases c : (n : Int) ∈ s <;> simp [c]
theorem notIn_len (s : List Int) (n : Nat) : (notIn s n).length ≤ n := by
 unfold notIn
 exact Nat.le_trans (List.length_filter_le _ _) (by simp)
def deadInv (l0 : List S71) (A0 : Option Addr) (c0 : Nat) (w7 : World) (gl gm mb : Nat) (box : Array Value) (gb : Nat) (s : List Int) (W : World) : Prop :=
 W.heap[gb]? = some (.cells box 113 (0, 0)) ∧ (∀ j, j < w7.heap.size → j ≠ mb → W.heap[j]? = w7.heap[j]?) ∧ (w7.heap.size ≤ W.heap.size ∧ W.os = w7.os ∧ W.tape = w7.tape ∧ W.output = w7.output) ∧ SetAt Try.prog 3 W mb (s.map (Value.int .i64))
theorem dead.h0 {l0 : List S71} {A0 : Option Addr} {c0 gl gm mb : Nat} {w6 w7 : World} {box : Array Value} (hb : Below w6.heap.size w6 w7) (hl : w6.heap[gl]? = some (.cells #[.slice A0 l0.length c0] 52 (0, 0))) (hv : w6.heap[gm]? = some (.cells #[.map (some mb)] 111 (0, 0))) (hm : w6.heap[mb]? = some (.map #[] 0)) :
  ∀ gb W, gb = w7.heap.size → W.heap[gb]? = some (.cells box 113 (0, 0)) → Below w7.heap.size w7 W → deadInv l0 A0 c0 w7 gl gm mb box gb [] W := by
 intro gb W e hg hW
 exact ⟨hg, fun j hj _ => hW.block j hj, ⟨hW.size, hW.os, hW.tape, hW.output⟩, SetAt.made ((hW.block mb (Nat.lt_of_lt_of_le (blk_lt hm) hb.size)).trans ((hb.block mb (blk_lt hm)).trans hm))⟩
theorem dead.row {mb : Nat} {w6 w7 W : World} {ok : Nat → Prop} {A : Option Addr} {c : Nat} {xs : List Int} (hb : Below w6.heap.size w6 w7) (hm : mb < w6.heap.size) (h : Kd.R (Kd.int .i64) 3 w7 w6.heap.size ok (.slice A xs.length c) xs) (hW : ∀ j, j < w7.heap.size → j ≠ mb → W.heap[j]? = w7.heap[j]?) : Kd.C (Kd.int .i64) W A xs.length xs :=
 (Kd.R_reads' (Kd.R_move (Kd.R_bound h) (fun j hj => hW j hj.2.2.1 (fun e => by have := hj.2.1; omega)))).2.2
theorem dead.hI {l0 : List S71} {A0 A1 A2 A3 : Option Addr} {c0 k1 k2 k3 gl gm mb : Nat} {w6 w7 : World} {xs ys zs : List Int} {ok1 ok2 ok3 : Nat → Prop} (hb : Below w6.heap.size w6 w7) (hm : w6.heap[mb]? = some (.map #[] 0)) (h1 : Kd.R (Kd.int .i64) 3 w7 w6.heap.size ok1 (.slice A1 xs.length k1) xs) (h2 : Kd.R (Kd.int .i64) 3 w7 w6.heap.size ok2 (.slice A2 ys.length k2) ys) (h3 : Kd.R (Kd.int .i64) 3 w7 w6.heap.size ok3 (.slice A3 zs.length k3) zs) :
  ∀ gb s W, deadInv l0 A0 c0 w7 gl gm mb #[.slice A1 xs.length k1, .slice A2 ys.length k2, .slice A3 zs.length k3] gb s W → W.heap[gb]? = some (.cells #[.slice A1 xs.length k1, .slice A2 ys.length k2, .slice A3 zs.length k3] 113 (0, 0)) ∧ Kd.C (Kd.int .i64) W A1 xs.length xs ∧ Kd.C (Kd.int .i64) W A2 ys.length ys ∧ Kd.C (Kd.int .i64) W A3 zs.length zs :=
 fun gb s W h => ⟨h.1, dead.row hb (blk_lt hm) h1 h.2.1, dead.row hb (blk_lt hm) h2 h.2.1, dead.row hb (blk_lt hm) h3 h.2.1⟩
theorem dead.hS {l0 : List S71} {A0 : Option Addr} {c0 gl gm mb : Nat} {w w6 w7 : World} {box : Array Value} (hr : Kd.C k71 w A0 l0.length l0) (hc : l0.length ≤ c0) (h6 : Below w.heap.size w w6) (hb : Below w6.heap.size w6 w7) (hl : w6.heap[gl]? = some (.cells #[.slice A0 l0.length c0] 52 (0, 0))) (hv : w6.heap[gm]? = some (.cells #[.map (some mb)] 111 (0, 0))) (hm : w6.heap[mb]? = some (.map #[] 0)) (hwm : w.heap.size ≤ mb) :
  ∀ gb s W i k n a b c q, deadInv l0 A0 c0 w7 gl gm mb box gb s W → impl_RulesDead.p l0 s i k n a b c = some q → Calls Try.prog 88 (#[.int .i64 i, .int .i64 k, .int .i64 n, .agg #[.int .i64 a, .int .i64 b, .int .i64 c]] ++ #[.pointer (some ⟨gm, 0, none⟩), .pointer (some ⟨gl, 0, none⟩)]) W fun e w' => e = .returned (.bool q.2) ∧ deadInv l0 A0 c0 w7 gl gm mb box gb q.1 w' := by
 intro gb s W i k n a b c q hI hp
 obtain ⟨i1, i2, ⟨i3, i4, i5, i6⟩, i7⟩ := hI
 unfold impl_RulesDead.p at hp
 obtain ⟨v, hv1, hp⟩ := Option.bind_eq_some_iff.mp hp
 by_cases cw : (Lit.int .i64 v).wf = true
 ·rw [if_pos cw] at hp
  obtain rfl := Option.some.inj hp
  have n1 : gl ≠ mb := fun e => by rw [e, hm] at hl; cases hl
  have n2 : gm ≠ mb := fun e => by rw [e, hm] at hv; cases hv
  have gW : ∀ j, j < w6.heap.size → j ≠ mb → W.heap[j]? = w6.heap[j]? := fun j hj hn => (i2 j (Nat.lt_of_lt_of_le hj hb.size) hn).trans (hb.block j hj)
  have hbW : Below w.heap.size w W := ⟨i4.trans (hb.os.trans h6.os), i5.trans (hb.tape.trans h6.tape), i6.trans (hb.output.trans h6.output), Nat.le_trans h6.size (Nat.le_trans hb.size i3), fun j hj => (gW j (Nat.lt_of_lt_of_le hj h6.size) (by omega)).trans (h6.block j hj)⟩
  refine (dead.one l0 A0 c0 gl gm mb (s.map (Value.int .i64)) W i k n a b c v ((gW gl (blk_lt hl) n1).trans hl) ((gW gm (blk_lt hv) n2).trans hv) i7 (Kd.C_below hr hbW) hc hv1 cw).mono ?_
  rintro e w' ⟨rfl, hs, hg⟩
  refine ⟨rfl, (hg.block gb (blk_lt i1) (fun e => ?_)).trans i1, fun j hj hn => (hg.block j (Nat.lt_of_lt_of_le hj i3) (fun e => hn (Option.some.inj e))).trans (i2 j hj hn), ⟨Nat.le_trans i3 hg.size, hg.os.trans i4, hg.tape.trans i5, hg.output.trans i6⟩, hs⟩
  have e' := Option.some.inj e
  obtain ⟨es, cl, hh, _⟩ := i7
  rw [e', hh] at i1
  cases i1
 ·rw [if_neg cw] at hp; cases hp
theorem dead.end8 {l0 : List S71} {A0 : Option Addr} {c0 gl gm mb gb : Nat} {w w6 w7 w8 : World} {box : Array Value} {s : List Int} (h6 : Below w.heap.size w w6) (hb : Below w6.heap.size w6 w7) (hl : w6.heap[gl]? = some (.cells #[.slice A0 l0.length c0] 52 (0, 0))) (hv : w6.heap[gm]? = some (.cells #[.map (some mb)] 111 (0, 0))) (hm : w6.heap[mb]? = some (.map #[] 0))
  (hI : deadInv l0 A0 c0 w7 gl gm mb box gb s w8) (hwm : w.heap.size ≤ mb) : w8.heap[gl]? = some (.cells #[.slice A0 l0.length c0] 52 (0, 0)) ∧ w8.heap[gm]? = some (.cells #[.map (some mb)] 111 (0, 0)) ∧ SetAt Try.prog 3 w8 mb (s.map (Value.int .i64)) ∧ Below w.heap.size w w8 := by
 obtain ⟨i1, i2, ⟨i3, i4, i5, i6⟩, i7⟩ := hI
 have n1 : gl ≠ mb := fun e => by rw [e, hm] at hl; cases hl
 have n2 : gm ≠ mb := fun e => by rw [e, hm] at hv; cases hv
 have gW : ∀ j, j < w6.heap.size → j ≠ mb → w8.heap[j]? = w6.heap[j]? := fun j hj hn => (i2 j (Nat.lt_of_lt_of_le hj hb.size) hn).trans (hb.block j hj)
 exact ⟨(gW gl (blk_lt hl) n1).trans hl, (gW gm (blk_lt hv) n2).trans hv, i7, ⟨i4.trans (hb.os.trans h6.os), i5.trans (hb.tape.trans h6.tape), i6.trans (hb.output.trans h6.output), Nat.le_trans h6.size (Nat.le_trans hb.size i3), fun j hj => (gW j (Nat.lt_of_lt_of_le hj h6.size) (by omega)).trans (h6.block j hj)⟩⟩
set_option maxHeartbeats 16000000 in
set_option maxRecDepth 100000 in
theorem impl_RulesDead.calls (k : Nat) (A0 : Option Addr) (c0 : Nat) (l0 : List S71) (r : List Int) (w : World) (hr0 : Kd.C k71 w A0 l0.length l0) (hc0 : l0.length ≤ c0) (h : impl_RulesDead.f k l0 = some r) :
  Calls Try.prog 33 #[.slice A0 l0.length c0] w fun e w' => ∃ v0_ : Value, e = .returned (v0_) ∧ Kd.R (Kd.int .i64) 3 w' w.heap.size (fun _ => True) v0_ r ∧ Below w.heap.size w w' := by
 have hmm := @run_makeMap Try.prog
 have hu := Try.underlying113
 have HR := Aside0.mk hr0
 have HC := Aside0.mk hc0
 unfold impl_RulesDead.f at h
 obtain ⟨ok, hok, h⟩ := Option.bind_eq_some_iff.mp h
 have HOK := Aside0.mk hok
 have HE := Aside0.mk h
 clear hr0 hc0 h hok
 go_enter Try.func33, Try.ntmps33
 go_upto_region 1 with (first | ((with_reducible refine gate_dst (N := 1) rfl ?_); refine box_event rfl (N := 1) rfl (cs := #[.slice A0 l0.length c0]) (t := 52) BX ?_; intro gl hgl w2 hbox hbw; have HB := Aside0.mk hbw; have BL := Aside0.mk hbox; have GL := Aside0.mk hgl; obtain ⟨hz0, hzf⟩ := y1 w2 hbox; clear hbw hgl hbox))
 cases ok with
 | false =>
  go_wp2_with (go_at_call 43; refine (impl_RulesOk.calls k A0 c0 l0 false _ (Kd.C_below HR.out HB.out) HC.out HOK.out).mono ?_; rintro e w3 ⟨rfl, hb⟩)
  go_ret
  have h := HE.out
  rw [if_neg (by simp)] at h
  obtain rfl := Option.some.inj h
  exact ⟨_, rfl, Kd.R_nil _ _ _ _ _, HB.out.trans (hb.mono HB.out.size)⟩
 | true =>
  have h := HE.out
  rw [if_pos rfl] at h
  by_cases c1 : l0.length < 1000000
  ·rw [if_pos c1] at h
   obtain ⟨⟨xs, ys, zs⟩, hax, h⟩ := Option.bind_eq_some_iff.mp h
   simp only [] at h
   by_cases c2 : xs.length < 4611686018427387904 ∧ ys.length < 4611686018427387904 ∧ zs.length < 4611686018427387904
   ·rw [if_pos c2] at h
    obtain ⟨q, hq, h⟩ := Option.bind_eq_some_iff.mp h
    obtain rfl := Option.some.inj h
    have HQ := Aside0.mk hq
    have HX := Aside0.mk hax
    have HL := Aside0.mk c2
    have LN := Aside0.mk c1
    clear HE hq hax c2 c1 h
    go_upto_region 3 with (go_at_call 43; refine (impl_RulesOk.calls k A0 c0 l0 true _ (Kd.C_below HR.out HB.out) HC.out HOK.out).mono ?_; rintro e w3 ⟨rfl, hb⟩; replace BL := am (blk_below BL.out hb); replace HB := am (Below.trans HB.out (hb.mono HB.out.size)); clear hb hz0 hzf)
    go_upto_region 4 with (first | ((with_reducible refine gate_dst (N := 9) rfl ?_); refine map_event rfl (N := 9) rfl BX ?_; intro mb hmb w4 hmap hbw; have BM := am hmap; have GM := am hmb; replace BL := am (blk_below BL.out hbw); have HB4 := am (Below.trans HB.out (hbw.mono HB.out.size)); have SL := am (Nat.lt_of_lt_of_le (blk_lt hmap) (Nat.le_refl _)); clear hbw hmap hmb) | ((with_reducible refine gate_dst (N := 3) rfl ?_); refine box_event rfl (N := 3) rfl (cs := #[.map none]) (t := 111) BX ?_; intro gm hgm w5 hbox hbw; have BV := am hbox; have GV := am hgm; replace BL := am (blk_below BL.out hbw); replace BM := am ((hbw.block mb (blk_lt BM.out)).trans BM.out); have HB5 := am (Below.trans HB4.out (hbw.mono HB4.out.size)); obtain ⟨hy0, hyf⟩ := y1 w5 hbox; clear hbw hgm hbox))
    have NVM : gm ≠ mb := by have := SL.out; have := GV.out; omega
    have NLV : gl ≠ gm := blk_ne BL.out BV.out (by decide)
    have NLM : gl ≠ mb := fun e => by have h1 := BL.out; rw [e, BM.out] at h1; cases h1
    have hgm : w.heap.size ≤ gm := by have := GV.out; have := HB4.out.size; omega
    have BV6 := am (blk_put (cs' := #[.map (some mb)]) BV.out 0 (.map (some mb)) rfl)
    have BL6 := am ((Below.heap_setCell w5 ⟨gm, 0, none⟩ (.map (some mb)) gl NLV).trans BL.out)
    have BM6 := am ((Below.heap_setCell w5 ⟨gm, 0, none⟩ (.map (some mb)) mb (Ne.symm NVM)).trans BM.out)
    have HB6 := am (below_set HB5.out hgm : Below w.heap.size w (w5.setCell ⟨gm, 0, none⟩ (.map (some mb))))
    generalize w5.setCell ⟨gm, 0, none⟩ (.map (some mb)) = w6 at BV6 BL6 BM6 HB6 ⊢
    replace GM := am (show w.heap.size ≤ mb by have := GM.out; have := HB.out.size; omega)
    clear hy0 hyf BV BL BM HB5 GV SL HB4 HB hgm
    obtain ⟨hz0, hzf⟩ := y1 w6 BL6.out
    have eg := enters_of Try.func88 (by kernel_rfl) rfl
    go_upto_region 5 with (first | (go_at_call 86; refine (impl_axesOf.calls k A0 c0 l0 xs ys zs _ (Kd.C_below HR.out HB6.out) HC.out HX.out).mono ?_; rintro e w7 ⟨v0, v1, v2, rfl, ho0, ho1, ho2, hb⟩; obtain ⟨A1, k1, rfl⟩ := Kd.R_slice ho0; obtain ⟨A2, k2, rfl⟩ := Kd.R_slice ho1; obtain ⟨A3, k3, rfl⟩ := Kd.R_slice ho2; have HO0 := am ho0; have HO1 := am ho1; have HO2 := am ho2; have HB7 := am hb; clear ho0 ho1 ho2 hb) |
     (go_at_call 87; refine (corners.gen (impl_RulesDead.p l0) 88 #[.pointer (some ⟨gm, 0, none⟩), .pointer (some ⟨gl, 0, none⟩)] eg (deadInv l0 A0 c0 w7 gl gm mb #[.slice A1 xs.length k1, .slice A2 ys.length k2, .slice A3 zs.length k3]) xs ys zs A1 A2 A3 k1 k2 k3 [] q w7 HL.out ?h0 ?hI ?hS HQ.out).mono ?_; (case h0 => exact dead.h0 HB7.out BL6.out BV6.out BM6.out); (case hI => exact dead.hI HB7.out BM6.out HO0.out HO1.out HO2.out); (case hS => exact dead.hS HR.out HC.out HB6.out HB7.out BL6.out BV6.out BM6.out GM.out); rintro e w8 ⟨rfl, gb, hinv⟩; have HI := am hinv; clear hinv))
    have h8 := dead.end8 HB6.out HB7.out BL6.out BV6.out BM6.out HI.out GM.out
    obtain ⟨h81, h82, h83, h84⟩ := h8
    have BL8 := am h81
    have BV8 := am h82
    have HS8 := am h83
    have HB8 := am h84
    clear BL6 BV6 BM6 HB6 HB7 HI HO0 HO1 HO2 GM h81 h82 h83 h84 hz0 hzf eg HQ HX HL HOK
    obtain ⟨hz0, hzf⟩ := y1 w8 BL8.out
    go_wp2
    clear hz0 hzf
    go_loopg [4, 16] l0.length (fun gg s4 s16 wr => ∃ (kk : Nat), kk ≤ l0.length ∧ Aside0 (l0.length - kk ≤ gg) ∧ s16 = .int .i64 kk ∧ Aside0 (Kd.R (Kd.int .i64) 3 wr w8.heap.size (fun _ => True) s4 (notIn q.1 kk)) ∧ Aside0 (Below w8.heap.size w8 wr))
    case atStart => exact ⟨0, Nat.zero_le _, ⟨by omega⟩, rfl, ⟨Kd.R_nil _ _ _ _ _⟩, ⟨Below.refl _ _⟩⟩
    case round =>
     obtain ⟨kk, hkk, hg, rfl, HO, HB⟩ := hrel
     have hln := LN.out
     by_cases hlt : kk < l0.length
     ·have hltz : (kk : Int) < (l0.length : Int) := by omega
      have BLr := blk_below BL8.out HB.out
      have BVr := blk_below BV8.out HB.out
      have HSr := HS8.out.same (HB.out.block mb (by obtain ⟨es, cl, hh, _⟩ := HS8.out; exact blk_lt hh))
      obtain ⟨hz0, _⟩ := y1 wr BLr
      obtain ⟨hy0, _⟩ := y1 wr BVr
      have hlook := HSr.look (int_keyed Try.underlying3) Try.underlying111 (Try.zeroValue4 wr) (keyOf_int_mk (a := (kk : Int)) Try.underlying3 (WalkArith.wf_i64 (by omega))) (decide ((kk : Int) ∈ q.1)) (by rw [decide_eq_true_eq]; simp)
      have HN := am (notIn_succ q.1 kk)
      obtain ⟨Ao, co, eo⟩ := Kd.R_slice HO.out
      subst eo
      clear BLr BVr HSr
      by_cases cin : (kk : Int) ∈ q.1
      ·rw [decide_eq_true cin] at hlook
       have HN2 := HN.out
       rw [if_pos cin, List.append_nil] at HN2
       have HN3 := am HN2
       clear cin HN HN2
       go_wp2
       go_roundg (l0.length - (kk + 1))
       case measure => have := hg.out; omega
       case rel => exact ⟨kk + 1, by omega, ⟨by omega⟩, by go_num, ⟨by rw [HN3.out]; exact HO.out⟩, HB⟩
      ·rw [decide_eq_false cin] at hlook
       have HN2 := HN.out
       rw [if_neg cin] at HN2
       have HN3 := am HN2
       have HLE := am (notIn_len q.1 kk)
       clear cin HN HN2
       go_wp2_with (first | ((with_reducible refine gate_builtin (b := .append) (xs := #[.tmp 23, .tmp 25]) rfl ?_); at_builtin; refine Kd.R_append (Kd.int .i64) (w0 := w8) w8.heap.size rfl (.tmp 23) (.tmp 25) 50 3 (.int .i64 0) 8 rfl Try.underlying50 info3 rfl (by decide) (by omega) (.slice Ao (notIn q.1 kk).length co) (notIn q.1 kk) kk [.int .i64 kk] (fun _ => True) (fun _ => False) rfl rfl ?aP (fun _ hk => hk.elim) ?aF ?aO ?aB ?aS ?aL ?_; (case aP => exact rfl); (case aB => exact HB.out); (case aF => exact (fun _ _ => trivial)); (case aO => exact HO.out); (case aS => exact HB.out.size); (case aL => have := HLE.out; omega); intro v128 w54 ho hb hgr hat; have HO2 := am ho; have HB2 := am hb; clear ho hb hgr hat))
       go_roundg (l0.length - (kk + 1))
       case measure => have := hg.out; omega
       case rel => exact ⟨kk + 1, by omega, ⟨by omega⟩, by go_num, ⟨by rw [HN3.out]; exact HO2.out⟩, HB2⟩
     ·have hltz : ¬ (kk : Int) < (l0.length : Int) := by omega
      have e : kk = l0.length := by omega
      have HO2 := HO.out
      rw [e] at HO2
      have HO3 := am HO2
      clear HO HO2
      go_wp2
      go_ret
      exact ⟨_, rfl, Kd.R_lower HO3.out HB8.out.size, HB8.out.trans (HB.out.mono HB8.out.size)⟩
   ·rw [if_neg c2] at h; cases h
  ·rw [if_neg c1] at h; cases h
end Go.Proofs.Ytkgbgaojglcaoaa.PAll
end
