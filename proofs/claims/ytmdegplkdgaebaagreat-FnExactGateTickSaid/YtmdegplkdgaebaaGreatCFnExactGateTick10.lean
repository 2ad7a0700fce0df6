/- Contracts of the functions that the statement reaches. -/
import Derived.WalkKit
import Derived.Shelf.Abstract
import Derived.Deep.LoopGhost
import Derived.Deep.MidRow
import Derived.Shelf.RegionOpenPlain
import Derived.Deep.RegionLaw
import Derived.Lib.Walk
import Derived.Lib.SliceRun
import Derived.Laws.IdiomCopy
import Derived.Lib.LazyBuf
import Derived.Test.YtmdegplkdgaebaaGreatCFnExactGateTick3
import Derived.Test.YtmdegplkdgaebaaGreatCFnExactGateTick4
import Derived.Test.YtmdegplkdgaebaaGreatCFnExactGateTick5
import Derived.Test.YtmdegplkdgaebaaGreatCFnExactGateTick6
import Derived.Test.YtmdegplkdgaebaaGreatCFnExactGateTick7
import Derived.Test.YtmdegplkdgaebaaGreatCFnExactGateTick8
import Derived.Test.YtmdegplkdgaebaaGreatCFnExactGateTick9
set_option maxHeartbeats 8000000
set_option maxRecDepth 100000
section
namespace Go.Proofs.YtmdegplkdgaebaaGreat.PAll
open Go.RowKit Go.Proofs.YtmdegplkdgaebaaGreatW.PrintWords Go.Proofs.YtmdegplkdgaebaaGreatW.PrintLast Go.Proofs.YtmdegplkdgaebaaGreatW.PrintMore
attribute [local go_sem] max2_int min2_int max_two min_two max_three min_three max_four min_four
set_option linter.unusedVariables false
set_option linter.unusedSimpArgs false
theorem clear_cells {P : Program} (w : World) (t e ty : TypeId) (z : Value) (ht : P.underlying t = some (.slice e)) (hv : ∀ w, (zeroValue e).run P w = .ok z w) (b o n c : Nat) (hn : 0 < n)
  (h1 : ∀ v ∈ (Builtin.zeroCells z.cells n).toList, v.oneCell' = true)
  (hc : ∀ j, j < (Builtin.zeroCells z.cells n).toList.length → (w.cell? ⟨b, o + j, none⟩).isSome = true) (hf : ∀ j, j < (Builtin.zeroCells z.cells n).toList.length → w.frozen? ⟨b, o + j, none⟩ = false) :
  (Builtin.clear_ #[t] ty #[.slice (some ⟨b, o, none⟩) n c]).run P w = .ok (.tuple #[]) (w.setCells b o (Builtin.zeroCells z.cells n).toList) := by
 have hst := run_storeCells_cells (P := P) b o (Builtin.zeroCells z.cells n).toList 0 w (by simpa using hc) (by simpa using hf) h1
 simp only [Nat.add_zero] at hst
 obtain ⟨m, rfl⟩ : ∃ m, n = m + 1 := ⟨n - 1, by omega⟩
 simp [Builtin.clear_, run_underlying ht, hv, hst]
theorem zeroCells_len (z : Array Value) (n : Nat) : (Builtin.zeroCells z n).toList.length = n * z.size := by
 simp [Builtin.zeroCells, Nat.mul_comm]
theorem blk_some {w : World} {g : Nat} {cur : Array Value} {e : TypeId} (h : w.heap[g]? = some (.cells cur e (0, 0))) (o : Nat) (ho : o < cur.size) : (w.cell? ⟨g, o, none⟩).isSome = true := by
 rw [blk_cell h o]; simp [ho]
theorem zeroCells_one (z : Array Value) (n : Nat) (h : ∀ v ∈ z, v.oneCell' = true) : ∀ v ∈ (Builtin.zeroCells z n).toList, v.oneCell' = true := by
 intro v hv
 simp only [Builtin.zeroCells, Array.toList_map, List.mem_map] at hv
 obtain ⟨i, hi, rfl⟩ := hv
 rw [Array.mem_toList_iff, Array.mem_range] at hi
 have hz : 0 < z.size := by
  rcases Nat.eq_zero_or_pos z.size with h0 | h0
  ·rw [h0] at hi; omega
  ·exact h0
 rw [getElem!_pos z _ (Nat.mod_lt _ hz)]
 exact h _ (Array.getElem_mem _)
theorem run_storeVar_v {P : Program} (w : World) (b o : Nat) (ty : TypeId) (v : Value) (cells : Array Value) (hv : v.cells = cells) (ht : w.there b o cells.size) (hi : (P.info? ty).map (·.size) = some cells.size) (h1 : cells.all (·.oneCell') = true) :
  (storeVar ty ⟨b, o, none⟩ v).run P w = .ok () (w.setCells b o cells.toList) := by
 have := run_storeCells_cells (P := P) b o cells.toList 0 w (fun j hj => by simpa using (ht j (by simpa using hj)).1) (fun j hj => by simpa using (ht j (by simpa using hj)).2)
  (fun v hv => (Array.all_eq_true_iff_forall_mem.1 h1) v (by simpa using hv))
 cases hq : P.info? ty with
 | none => simp [hq] at hi
 | some i =>
  have hs : cells.size = i.size := by simp [hq] at hi; omega
  simp only [Nat.add_zero] at this
  simp [storeVar, sizeOf, typeInfo, hq, hv, hs, this]
/-- A variable that is made and filled at once. -/
theorem mkbox {P : Program} {ops : Array Oper} {rest : List Oper} {o o2 : Oper} {a : Act} {Q : Exit → Act → World → Prop} {W : World} (hgd : o.guard = none) {N : Tmp} (hd : o.dst = some N) {cs : Array Value} {t : TypeId}
  (hrun : (execOp a.eval o).run P W = .ok (.value (.pointer (some ⟨W.heap.size, 0, none⟩))) (W.alloc (.cells cs t (0, 0))))
  (hgd2 : o2.guard = none) (hN2 : o2.dst = none) (x y : Operand) (ho2 : o2.op = .store t x y) (vs : Array Value)
  (hx : ∀ v, (a.put (some N) v).eval x = v) (hy : ∀ v, (a.put (some N) v).eval y = .agg vs) (hs : vs.size = cs.size)
  (hi : (P.info? t).map (·.size) = some vs.size) (h1 : vs.all (·.oneCell') = true)
  (h : ∀ g w1, w1.heap[g]? = some (.cells vs t (0, 0)) → Below W.heap.size W w1 → wpList P ops Q rest (a.put (some N) (.pointer (some ⟨g, 0, none⟩))) w1) :
  wpList P ops Q (o :: o2 :: rest) a W := by
 refine box_event hgd hd hrun ?_
 intro g hg w1 hb1 hB
 rw [hd]
 have hthere : w1.there g 0 vs.size := fun j hj => by
  rw [Nat.zero_add]
  refine ⟨?_, blk_frozen hb1 j⟩
  rw [blk_cell hb1 j, Array.getElem?_eq_getElem (by omega)]
  rfl
 refine wpList_store_mid hgd2 t x y ho2 g 0 vs (hx _) (hy _) hthere hi h1 ?_
 rw [hN2]
 obtain ⟨cur', h3, h4, h5⟩ := setCells_row vs.toList 0 w1 cs hb1 (by simp; omega)
 obtain ⟨s1, s2, s3, s4⟩ := setCells_same g vs.toList 0 w1
 have hc : cur' = vs := by
  apply Array.ext'
  rw [h5]
  have h6 : cs.toList.drop (0 + vs.toList.length) = [] := List.drop_eq_nil_of_le (by simp; omega)
  rw [h6]
  simp
 rw [hc] at h3
 refine h g _ h3 ⟨s1.trans hB.os, s2.trans hB.tape, s3.trans hB.output, by rw [s4]; exact hB.size, fun k hk => ?_⟩
 rw [setCells_far vs.toList 0 k (by omega)]
 exact hB.block k hk
/-- A variable that is read whole. -/
theorem ldbox {P : Program} {ops : Array Oper} {rest : List Oper} {o : Oper} {a : Act} {Q : Exit → Act → World → Prop} {W : World} {t : TypeId} {d : TypeDesc} {g : Nat} (hgd : o.guard = none) (x : Operand) (ho : o.op = .load t x) (hx : a.eval x = .pointer (some ⟨g, 0, none⟩)) (vs : Array Value)
  (hb : W.heap[g]? = some (.cells vs t (0, 0))) (hu : P.underlying t = some d) (hd : d.isRow = true) (hi : (P.info? t).map (·.size) = some vs.toList.length)
  (h : wpList P ops Q rest (a.put o.dst (.agg vs)) W) : wpList P ops Q (o :: rest) a W := by
 refine wpList_load_mid hgd t x ho g 0 hx vs.toList d (fun j v hv => ?_) hu hd hi (by simpa using h)
 rw [Nat.zero_add, blk_cell hb j]
 simpa using hv
def findP {α : Type} (p : α → Bool) : List α → Int → Int
 | [], _ => -1
 | x :: xs, i => if p x = true then i else findP p xs (i + 1)
theorem findP_spec {α : Type} (p : α → Bool) : ∀ (l : List α) (i : Nat), (findP p l i = -1 ∧ l.filter (fun x => !p x) = l) ∨ ∃ k, findP p l i = ((i + k : Nat) : Int) ∧ k < l.length ∧ (l.take (k + 1)).filter (fun x => !p x) = l.take k
 | [], i => .inl ⟨rfl, rfl⟩
 | x :: xs, i => by
  cases hp : p x with
  | true => exact .inr ⟨0, by simp [findP, hp], by simp, by simp [hp]⟩
  | false =>
   rcases findP_spec p xs (i + 1) with ⟨h1, h2⟩ | ⟨k, h1, h2, h3⟩
   ·refine .inl ⟨by simp only [findP, hp, Bool.false_eq_true, if_false]; exact h1, by simp [hp, h2]⟩
   ·refine .inr ⟨k + 1, ?_, by simpa using h2, ?_⟩
    ·simp only [findP, hp, Bool.false_eq_true, if_false]; rw [show ((i : Int) + 1) = ((i + 1 : Nat) : Int) by omega, h1]; congr 1; omega
    ·rw [List.take_succ_cons, List.filter_cons_of_pos (by simp [hp]), h3, List.take_succ_cons]
theorem set_takeP {α : Type} : ∀ (row : List α) (i : Nat) (y : α), i < row.length → (row.set i y).take (i + 1) = row.take i ++ [y]
 | [], i, y, h => by simp at h
 | x :: r, 0, y, h => by simp
 | x :: r, i + 1, y, h => by simp only [List.set_cons_succ, List.take_succ_cons, List.cons_append]; rw [set_takeP r i y (by simpa using h)]
/-- A row as cells: what stands at one place. -/
theorem raw_at {m e base g n cap : Nat} {ok : Nat → Prop} {W : World} {rows : List (List Value)} (h : (Kd.raw m).R e W base ok (.slice (some ⟨g, 0, none⟩) n cap) rows) (i : Nat) (hi : i < n) (q : List Value) (hq : rows[i]? = some q) : q.length = m ∧ (∀ u ∈ q, u.oneCell' = true) ∧ W.rangeAt g (i * m) q := by
 obtain ⟨c, hcl, hM, hcc, _⟩ := Kd.R_elem h [] (i : Int) (by omega) (by omega)
 rw [Int.toNat_natCast, List.getD_eq_getElem?_getD, hq] at hM
 obtain ⟨rfl, h1, h2⟩ := hM
 exact ⟨h1, h2, fun j v hv => by have := hcc j v hv; rwa [Int.toNat_natCast] at this⟩
set_option maxHeartbeats 4000000 in
theorem idxS.gen (p : List Value → Bool) (g0 : Nat) (lb : Array Value) (eg : ∀ args w, (callFunc g0 args).run Tryz.prog w = .ok (.enter g0 args) w) (g c b : Nat) (ok : Nat → Prop) (l : List (List Value)) (w : World) (hm : l.length ≤ 9223372036854775807)
  (hr : (Kd.raw 11).R 50 w b ok (.slice (some ⟨g, 0, none⟩) l.length c) l) (hp : ∀ (W : World) (q : List Value), q ∈ l → Below w.heap.size w W → Calls Tryz.prog g0 (#[.agg q.toArray] ++ lb) W fun e w' => e = .returned (.bool (p q)) ∧ Below W.heap.size W w') :
  Calls Tryz.prog 52 #[.slice (some ⟨g, 0, none⟩) l.length c, .func (.func g0) #[] lb] w fun e w' => e = .returned (.int .i64 (findP p l 0)) ∧ Below w.heap.size w w' := by
 have hu := Tryz.underlying50
 have HM := am hm
 have HR := am hr
 have HP := am hp
 have HB := am (Below.refl w.heap.size w)
 clear hm hr hp
 go_enter Tryz.func52, Tryz.ntmps52
 go_wp2
 go_loopg [5, 8] l.length (fun gg _ s8 wr => ∃ kk : Nat, kk ≤ l.length ∧ Aside0 (l.length - kk ≤ gg) ∧ s8 = .int .i64 kk ∧ Aside0 (Below w.heap.size w wr) ∧ Aside0 (findP p (l.drop kk) kk = findP p l 0))
 case atStart => exact ⟨0, Nat.zero_le _, ⟨by omega⟩, rfl, HB, ⟨rfl⟩⟩
 case round =>
  clear HB
  obtain ⟨kk, hkk, hg, rfl, HB, A0⟩ := hrel
  have hml := HM.out
  by_cases hlt : kk < l.length
  ·have hltz : (kk : Int) < (l.length : Int) := by omega
   have A1 := A0.out
   rw [List.drop_eq_getElem_cons hlt] at A1
   have hat := raw_at (Kd.R_below HR.out HB.out) kk hlt _ (List.getElem?_eq_getElem hlt)
   have hcall := HP.out wr l[kk] (List.getElem_mem hlt) HB.out
   clear A0
   generalize l[kk] = y at hat hcall A1
   have HQ := am hat
   simp only [findP] at A1
   have A2 := Aside0.mk A1
   clear A1 hat
   rcases hb : p y with _ | _
   ·rw [hb] at hcall
    go_wp2_with (first | ((with_reducible refine gate_dst (N := 15) rfl ?_); refine wpList_load_mid rfl 50 (.tmp 14) rfl g (kk * 11) (by rfl) y _ HQ.out.2.2 hu rfl (by rw [HQ.out.1]; kernel_rfl) ?_) | (go_at_fn g0; refine hcall.mono ?_; rintro e w' ⟨rfl, hb1⟩; replace HB := am (below_step HB.out hb1); clear hb1))
    go_roundg (l.length - (kk + 1))
    case measure => have := hg.out; omega
    case rel => exact ⟨kk + 1, by omega, ⟨by omega⟩, by go_num, HB, ⟨by have A1 := A2.out; simp only [hb, Bool.false_eq_true, if_false] at A1; exact A1⟩⟩
   ·rw [hb] at hcall
    go_wp2_with (first | ((with_reducible refine gate_dst (N := 15) rfl ?_); refine wpList_load_mid rfl 50 (.tmp 14) rfl g (kk * 11) (by rfl) y _ HQ.out.2.2 hu rfl (by rw [HQ.out.1]; kernel_rfl) ?_) | (go_at_fn g0; refine hcall.mono ?_; rintro e w' ⟨rfl, hb1⟩; replace HB := am (below_step HB.out hb1); clear hb1))
    go_ret
    have A1 := A2.out
    simp only [hb, if_true] at A1
    exact ⟨by rw [← A1]; rfl, HB.out⟩
  ·have hltz : ¬ (kk : Int) < (l.length : Int) := by omega
   have : kk = l.length := by omega
   have A1 := A0.out
   rw [this, List.drop_length] at A1
   have A2 := Aside0.mk A1
   clear A0 A1
   go_wp2
   go_ret
   have A1 := A2.out
   simp only [findP] at A1
   exact ⟨by rw [← A1]; rfl, HB.out⟩
theorem gr2 {g : Nat} {w W w1 : World} (h : w.grownBy W (some g)) (k : W.grownBy w1 (some g)) : w.grownBy w1 (some g) := ⟨k.os.trans h.os, k.tape.trans h.tape, k.output.trans h.output, Nat.le_trans h.size k.size, fun q hq hn => (k.block q (Nat.lt_of_lt_of_le hq h.size) hn).trans (h.block q hq hn)⟩
/-- A row as cells, one place of which is filled. -/
theorem raw_store {P : Program} {ops : Array Oper} {rest : List Oper} {o : Oper} {a : Act} {Q : Exit → Act → World → Prop} {m e base g n cap t off : Nat} {ok : Nat → Prop} {W : World} {rows : List (List Value)} (hgd : o.guard = none) (hN : o.dst = none) (x y : Operand) (ho : o.op = .store t x y) (i : Nat) (q : List Value)
  (hx : a.eval x = .pointer (some ⟨g, off, none⟩)) (hoff : off = i * m) (hy : a.eval y = .agg q.toArray) (hi : (P.info? t).map (·.size) = some q.length) (hq : q.length = m ∧ ∀ u ∈ q, u.oneCell' = true) (hr : (Kd.raw m).R e W base ok (.slice (some ⟨g, 0, none⟩) n cap) rows) (hin : i < n)
  (h : ∀ w1, (Kd.raw m).R e w1 base ok (.slice (some ⟨g, 0, none⟩) n cap) (rows.set i q) → W.grownBy w1 (some g) → wpList P ops Q rest a w1) : wpList P ops Q (o :: rest) a W := by
 obtain ⟨c, hcl, hM, hcc, hfr⟩ := Kd.R_elem hr [] (i : Int) (by omega) (by omega)
 have hthere : W.there g off q.toArray.size := fun j hj => by
  have hj' : j < c.length := by rw [hcl]; have := hq.1; simp at hj; show j < m; omega
  rw [hoff]
  have h1 := hcc j _ (List.getElem?_eq_getElem hj')
  have h2 := hfr j
  rw [Int.toNat_natCast] at h1 h2
  exact ⟨by rw [show i * m + j = i * (Kd.raw m).sz + j from rfl, h1]; rfl, h2⟩
 have hrun := run_storeVar_v (P := P) W g off t (.agg q.toArray) q.toArray rfl hthere (by simpa using hi) (all_oneCell_toArray hq.2)
 obtain ⟨h2, h3⟩ := Kd.R_seg (j := 0) (seg := q) (x' := q) (okp := fun _ => False) hr (i : Int) (by omega) (by omega) hcl hcc (by have := hq.1; show 0 + q.length ≤ m; omega) (by
  have hd : c.drop (0 + q.length) = [] := List.drop_eq_nil_of_le (by rw [hcl]; have := hq.1; show m ≤ 0 + q.length; omega)
  rw [hd, List.take_zero, List.nil_append, List.append_nil]
  exact ⟨rfl, hq.1, hq.2⟩) (fun _ hk => hk.elim)
 refine wpList_plain hgd fun K hK => ?_
 unfold Oper.wp execOp
 simp only [ho, hx, hy, Instr.storeAt, Instr.sureAddr, Sem.run_bind, Sem.run_pure, Result.andThen_ok, hrun]
 show K (a.put o.dst undef) _
 rw [hN]
 rw [Int.toNat_natCast] at h2 h3
 rw [hoff]
 exact hK _ _ (h _ h2 h3)
/-- A row as cells, cut; what stood behind is written over. -/
theorem raw_clear {m e base g n cap i : Nat} {ok : Nat → Prop} {W : World} {rows : List (List Value)} (h : (Kd.raw m).R e W base ok (.slice (some ⟨g, 0, none⟩) n cap) rows) (hi : i ≤ rows.length) (vs : List Value) (hv : i * m + vs.length ≤ cap * m) :
  (Kd.raw m).R e (W.setCells g (i * m) vs) base ok (.slice (some ⟨g, 0, none⟩) i cap) (rows.take i) ∧ W.grownBy (W.setCells g (i * m) vs) (some g) := by
 obtain ⟨h0, inner, ho, hr⟩ := Kd.R_take h hi
 have hli : (rows.take i).length = i := by rw [List.length_take]; omega
 rw [hli] at ho
 obtain ⟨hil, hcase⟩ := ho
 rcases hcase with ⟨h1, _⟩ | ⟨g', c', cur, he, hgb, hh, hnc, hcm, hcs, htake⟩
 ·cases h1
 ·injection he with e1 e2 e3
  injection e1 with e1
  injection e1 with e1
  subst e1 e3
  obtain ⟨cur2, hc2, hs2, ht2⟩ := setCells_row vs (i * m) W cur hh (by rw [hcs]; exact hv)
  obtain ⟨s1, s2, s3, s4⟩ := setCells_same g vs (i * m) W
  have hk2 : cur2.toList.take (i * m) = inner := by
   rw [ht2, List.append_assoc, List.take_left' (by rw [List.length_take, Array.length_toList, hcs]; exact Nat.min_eq_left (Nat.mul_le_mul_right _ hnc))]
   exact htake
  exact ⟨⟨h0, inner, by rw [hli]; exact ⟨hil, .inr ⟨g, cap, cur2, rfl, hgb, hc2, hnc, hcm, hs2.trans hcs, hk2⟩⟩, hr⟩, ⟨s1, s2, s3, by rw [s4]; exact Nat.le_refl _, fun k _ hk => setCells_far vs (i * m) k (fun e => hk (by rw [e]))⟩⟩
set_option maxHeartbeats 4000000 in
theorem delS.walk (p : List Value → Bool) (n1 : Nat) (lb : Array Value) (eg : ∀ args w, (callFunc n1 args).run Tryz.prog w = .ok (.enter n1 args) w) (g c b : Nat) (ok : Nat → Prop) (l : List (List Value)) (w : World) (hn : l.length ≤ c) (hm : c ≤ 9223372036854775807)
  (hr : (Kd.raw 11).R 50 w b ok (.slice (some ⟨g, 0, none⟩) l.length c) l) (hp : ∀ (W : World) (q : List Value), q ∈ l → w.grownBy W (some g) → Calls Tryz.prog n1 (#[.agg q.toArray] ++ lb) W fun e w' => e = .returned (.bool (p q)) ∧ Below W.heap.size W w') :
  Calls Tryz.prog 22 #[.slice (some ⟨g, 0, none⟩) l.length c, .func (.func n1) #[] lb] w fun e w' => e = .returned (.slice (some ⟨g, 0, none⟩) (l.filter (fun x => !p x)).length c) ∧ (Kd.raw 11).R 50 w' b ok (.slice (some ⟨g, 0, none⟩) (l.filter (fun x => !p x)).length c) (l.filter (fun x => !p x)) ∧ w.grownBy w' (some g) := by
 have hg0 : w.grownBy w (some g) := ⟨rfl, rfl, rfl, Nat.le_refl _, fun _ _ _ => rfl⟩
 have hbg : ∀ W W', w.grownBy W (some g) → Below W.heap.size W W' → w.grownBy W' (some g) := fun W W' h hb => ⟨hb.os.trans h.os, hb.tape.trans h.tape, hb.output.trans h.output, Nat.le_trans h.size hb.size, fun k hk hn => (hb.block k (Nat.lt_of_lt_of_le hk h.size)).trans (h.block k hk hn)⟩
 have hi := idxS.gen p n1 lb eg g c b ok l w (by omega) hr (fun W q hq hb => hp W q hq (hbg w W hg0 hb))
 have hu := Tryz.underlying50
 rcases findP_spec p l 0 with ⟨h1, h2⟩ | ⟨i0, h1, h2, h3⟩
 ·have h1' : findP p l 0 = -1 := h1
  rw [h1'] at hi
  rw [h2]
  have R := am hr
  have G0 := am hg0
  clear hr hp hg0
  go_enter Tryz.func22, Tryz.ntmps22
  go_wp2_with (go_at_call 52; refine hi.mono ?_; rintro e w' ⟨rfl, hb⟩)
  go_ret
  exact ⟨rfl, Kd.R_below R.out hb, hbg _ _ G0.out hb⟩
 ·have h1' : findP p l 0 = ((0 + i0 : Nat) : Int) := h1
  rw [h1', Nat.zero_add] at hi
  have hni : ¬ ((i0 : Int) = -1) := by omega
  have hw1 : wrap64 ((i0 : Int) + 1) = ((i0 + 1 : Nat) : Int) := by unfold wrap64; omega
  have H0 := am hr
  have HP := am hp
  have H3 := am h3
  have G0 := am hg0
  have HBG := am hbg
  clear hr hp h3 h1 h1' hg0 hbg
  go_enter Tryz.func22, Tryz.ntmps22
  go_wp2_with (go_at_call 52; refine hi.mono ?_; rintro e w2 ⟨rfl, hb⟩; replace H0 := am (Kd.R_below H0.out hb); replace G0 := am (HBG.out _ _ G0.out hb); clear hb)
  go_loopg [5, 6] l.length (fun gg v5 v6 wr => ∃ (i j : Nat) (row : List (List Value)), i < j ∧ j ≤ l.length ∧ Aside0 (l.length - j ≤ gg) ∧ v5 = .int .i64 i ∧ v6 = .int .i64 j ∧ row.length = l.length ∧ Aside0 ((Kd.raw 11).R 50 wr b ok (.slice (some ⟨g, 0, none⟩) l.length c) row) ∧
   Aside0 (row.take i = (l.take j).filter (fun x => !p x)) ∧ Aside0 (row.drop j = l.drop j) ∧ Aside0 (w.grownBy wr (some g)))
  case atStart => exact ⟨i0, i0 + 1, l, by omega, by omega, ⟨by omega⟩, rfl, by go_num, rfl, H0, ⟨H3.out.symm⟩, ⟨rfl⟩, G0⟩
  case round =>
   clear H0 H3 hi hw1 hni h2 G0
   obtain ⟨i, j, row, hij, hj, hg, rfl, rfl, hrl, R1, F1, D1, K1⟩ := hrel
   by_cases hlt : j < l.length
   ·have hltz : (j : Int) < (l.length : Int) := by omega
    have hjr : j < row.length := by omega
    have hat := raw_at R1.out j hlt _ (List.getElem?_eq_getElem hjr)
    have hv : row[j] = l[j] := by
     have h := congrArg (fun z => z[0]?) D1.out
     simp only [List.getElem?_drop, Nat.add_zero, List.getElem?_eq_getElem hjr, List.getElem?_eq_getElem hlt, Option.some.injEq] at h
     exact h
    have hyl : row[j] ∈ l := by rw [hv]; exact List.getElem_mem hlt
    have F2 : (l.take (j + 1)).filter (fun x => !p x) = row.take i ++ (if p row[j] then [] else [row[j]]) := by
     rw [List.take_add_one, List.getElem?_eq_getElem hlt, List.filter_append, ← F1.out, ← hv]
     generalize row[j] = q
     cases hq : p q <;> simp [hq]
    have D2 : row.drop (j + 1) = l.drop (j + 1) := by
     rw [← List.tail_drop, D1.out, List.tail_drop]
    generalize row[j] = y at hat hyl F2
    have HQ := am hat
    have HY := am hyl
    have F2' := am F2
    have D2' := am D2
    have ZY := am (show y.toArray.size = 11 by simpa using hat.1)
    clear F2 D2 hv F1 D1 hat hyl
    go_upto_region 8 with (first | ((with_reducible refine gate_dst (N := 25) rfl ?_); refine wpList_load_mid rfl 50 (.tmp 24) rfl g (j * 11) (by rfl) y _ HQ.out.2.2 hu rfl (by rw [HQ.out.1]; kernel_rfl) ?_) | ((with_reducible refine gate_dst (N := 7) rfl ?_); refine mkbox (N := 7) rfl rfl (cs := #[.int .i64 0, .int .i64 0, .string (⟨#[]⟩ : ByteArray), .string (⟨#[]⟩ : ByteArray), .int .i64 0, .int .i64 0, .int .i64 0, .int .i64 0, .int .i64 0, .int .i64 0, .slice none 0 0]) (t := 50) BX rfl rfl (.tmp 7) (.tmp 25) rfl y.toArray (by intro v; rfl) (by intro v; rfl) ZY.out (by rw [ZY.out]; kernel_rfl) (all_oneCell_toArray HQ.out.2.1) ?_; intro gv wq hA hb; have B7 := am hA; replace R1 := am (Kd.R_below R1.out hb); replace K1 := am (HBG.out _ _ K1.out hb); clear hA hb))
    have hcall := HP.out _ y HY.out K1.out
    cases hpy : p y with
    | true =>
     rw [hpy] at hcall
     go_wp2_with (first | ((with_reducible refine gate_dst (N := 27) rfl ?_); refine ldbox (t := 50) rfl (.tmp 7) rfl (by rfl) y.toArray B7.out hu rfl (by rw [Array.length_toList, ZY.out]; kernel_rfl) ?_) | (go_at_fn n1; refine hcall.mono ?_; rintro e w3 ⟨rfl, hb⟩; replace R1 := am (Kd.R_below R1.out hb); replace K1 := am (HBG.out _ _ K1.out hb); clear hb))
     go_roundg (l.length - (j + 1))
     case measure => have := hg.out; omega
     case rel => exact ⟨i, j + 1, row, by omega, by omega, ⟨by omega⟩, rfl, by go_num, hrl, R1, ⟨by rw [F2'.out, hpy]; simp⟩, D2', K1⟩
    | false =>
     rw [hpy] at hcall
     have hir : i < row.length := by omega
     have hi0 : (0 : Int) ≤ (i : Int) := by omega
     have hin : (i : Int) < (l.length : Int) := by omega
     go_wp2_with (first | ((with_reducible refine gate_dst (N := 27) rfl ?_); refine ldbox (t := 50) rfl (.tmp 7) rfl (by rfl) y.toArray B7.out hu rfl (by rw [Array.length_toList, ZY.out]; kernel_rfl) ?_) | ((with_reducible refine gate_dst (N := 32) rfl ?_); refine ldbox (t := 50) rfl (.tmp 7) rfl (by rfl) y.toArray B7.out hu rfl (by rw [Array.length_toList, ZY.out]; kernel_rfl) ?_) | ((with_reducible refine gate_store (t := 50) (p := 33) rfl ?_); refine raw_store rfl rfl (.tmp 33) (.tmp 32) rfl i y (by rfl) rfl (by rfl) (by rw [HQ.out.1]; kernel_rfl) ⟨HQ.out.1, HQ.out.2.1⟩ R1.out (by omega) ?_; intro w5 hR hG; replace R1 := am hR; replace K1 := am (gr2 K1.out hG); clear hR hG) | (go_at_fn n1; refine hcall.mono ?_; rintro e w3 ⟨rfl, hb⟩; replace B7 := am (blk_below B7.out hb); replace R1 := am (Kd.R_below R1.out hb); replace K1 := am (HBG.out _ _ K1.out hb); clear hb))
     go_roundg (l.length - (j + 1))
     case measure => have := hg.out; omega
     case rel =>
      refine ⟨i + 1, j + 1, row.set i y, by omega, by omega, ⟨by omega⟩, by go_num, by go_num, by rw [List.length_set]; exact hrl, R1, ⟨?_⟩, ⟨?_⟩, K1⟩
      ·rw [F2'.out, hpy, set_takeP row i y hir]; rfl
      ·rw [List.drop_set_of_lt (by omega)]; exact D2'.out
   ·have hltz : ¬ (j : Int) < (l.length : Int) := by omega
    have hjl : j = l.length := by omega
    have hil : i < l.length := by omega
    have FF : l.filter (fun x => !p x) = row.take i := by rw [F1.out, hjl, List.take_length]
    have FF2 := am FF
    have hzl : (Builtin.zeroCells (Value.agg #[.int .i64 0, .int .i64 0, .string (⟨#[]⟩ : ByteArray), .string (⟨#[]⟩ : ByteArray), .int .i64 0, .int .i64 0, .int .i64 0, .int .i64 0, .int .i64 0, .int .i64 0, .slice none 0 0]).cells (l.length - i)).toList.length = (l.length - i) * 11 := zeroCells_len _ _
    obtain ⟨hq1, inner, ⟨hq2, hcase⟩, hq3⟩ := R1.out
    rw [hrl] at hcase
    rcases hcase with ⟨hx1, _⟩ | ⟨g', c', cur, he, hgb, hh, hnc, hcm, hcs, htake⟩
    ·cases hx1
    injection he with e1 e2 e3
    injection e1 with e1
    injection e1 with e1
    subst e1 e3
    have hcl : ∀ ty, (Builtin.clear_ #[34] ty #[.slice (some ⟨g, i * 11, none⟩) (l.length - i) (c - i)]).run Tryz.prog wr = .ok (.tuple #[]) (wr.setCells g (i * 11) (Builtin.zeroCells (Value.agg #[.int .i64 0, .int .i64 0, .string (⟨#[]⟩ : ByteArray), .string (⟨#[]⟩ : ByteArray), .int .i64 0, .int .i64 0, .int .i64 0, .int .i64 0, .int .i64 0, .int .i64 0, .slice none 0 0]).cells (l.length - i)).toList) := fun ty =>
     clear_cells wr 34 50 ty _ Tryz.underlying34 Tryz.zeroValue50 g (i * 11) (l.length - i) _ (by omega) (zeroCells_one _ _ (by decide)) (fun t ht => blk_some hh _ (by rw [hzl] at ht; rw [hcs]; show i * 11 + t < c * 11; have : l.length * 11 ≤ c * 11 := Nat.mul_le_mul_right _ hnc; have : (l.length - i) * 11 = l.length * 11 - i * 11 := Nat.sub_mul ..; omega)) (fun t ht => blk_frozen hh _)
    have hci : ¬ c = i := by omega
    have hic : i ≤ c := by omega
    have hiz : (0 : Int) ≤ (i : Int) := by omega
    have hizn : (i : Int) ≤ (l.length : Int) := by omega
    have hF := raw_clear (i := i) R1.out (by omega) (Builtin.zeroCells (Value.agg #[.int .i64 0, .int .i64 0, .string (⟨#[]⟩ : ByteArray), .string (⟨#[]⟩ : ByteArray), .int .i64 0, .int .i64 0, .int .i64 0, .int .i64 0, .int .i64 0, .int .i64 0, .slice none 0 0]).cells (l.length - i)).toList (by rw [hzl]; have : l.length * 11 ≤ c * 11 := Nat.mul_le_mul_right _ hnc; have : (l.length - i) * 11 = l.length * 11 - i * 11 := Nat.sub_mul ..; have : i * 11 ≤ l.length * 11 := Nat.mul_le_mul_right _ (by omega); omega)
    have HF := am hF
    clear FF F1 hF hq1 hq2 hq3 hgb hh hnc hcm hcs htake e2 hzl
    go_wp2
    go_ret
    have hrt : (row.take i).length = i := by rw [List.length_take]; omega
    rw [FF2.out, hrt]
    exact ⟨rfl, HF.out.1, gr2 K1.out HF.out.2⟩
theorem raw_of_S {α : Type} {d : Kd α} {e b : Nat} {w : World} {ok : Nat → Prop} {v : Value} {xs : List α} (h : Kd.S d e w b ok v xs) :
  ∃ (f : Nat → Nat) (rows : List (List Value)), (Kd.raw d.sz).R e w b ok v rows ∧ rows.length = xs.length ∧ ∀ (j : Nat) (x : α) (q : List Value), xs[j]? = some x → rows[j]? = some q → d.M w b (fun k => (ok k ∧ some k ≠ v.ownBlock) ∧ f k = j) x q := by
 obtain ⟨f, h0, inner, ho, hr⟩ := h
 rw [List.length_zipIdx] at ho
 have hl : inner.length = xs.length * d.sz := by have := hr.1; rw [List.length_zipIdx] at this; exact this
 refine ⟨f, (List.range xs.length).map (fun j => (inner.drop (j * d.sz)).take d.sz), ⟨h0, inner, by rw [List.length_map, List.length_range]; exact ho, by rw [List.length_map, List.length_range]; exact hl, fun j q hq => ?_⟩, by rw [List.length_map, List.length_range], fun j x q hx hq => ?_⟩
 ·rw [List.getElem?_map] at hq
  obtain ⟨j', hj, rfl⟩ := Option.map_eq_some_iff.1 hq
  obtain ⟨hj1, hj2⟩ := List.getElem?_eq_some_iff.1 hj
  rw [List.getElem_range] at hj2
  subst hj2
  rw [List.length_range] at hj1
  have hM := hr.2 j _ (Kd.zip_at (List.getElem?_eq_getElem hj1))
  exact ⟨rfl, d.K_len (d.K_of_M hM), d.K_one (d.K_of_M hM)⟩
 ·rw [List.getElem?_map] at hq
  obtain ⟨j', hj, rfl⟩ := Option.map_eq_some_iff.1 hq
  obtain ⟨hj1, hj2⟩ := List.getElem?_eq_some_iff.1 hj
  rw [List.getElem_range] at hj2
  subst hj2
  exact hr.2 j _ (Kd.zip_at hx)
theorem S_of_raw {α : Type} {d : Kd α} {e b : Nat} {w : World} {ok : Nat → Prop} {v : Value} {xs : List α} {rows : List (List Value)} (h : (Kd.raw d.sz).R e w b ok v rows) (hl : rows.length = xs.length) (f : Nat → Nat)
  (hM : ∀ (j : Nat) (x : α) (q : List Value), xs[j]? = some x → rows[j]? = some q → d.M w b (fun k => (ok k ∧ some k ≠ v.ownBlock) ∧ f k = j) x q) : Kd.S d e w b ok v xs := by
 obtain ⟨h0, inner, ho, hr⟩ := h
 refine ⟨f, h0, inner, by rw [List.length_zipIdx, ← hl]; exact ho, by rw [List.length_zipIdx, ← hl]; exact hr.1, fun j p hp => ?_⟩
 rw [List.getElem?_zipIdx, Nat.zero_add] at hp
 obtain ⟨x, hx, rfl⟩ := Option.map_eq_some_iff.1 hp
 have hj : j < rows.length := by rw [hl]; exact (List.getElem?_eq_some_iff.1 hx).1
 have h1 := (hr.2 j _ (List.getElem?_eq_getElem hj)).1
 show d.M w b _ x ((inner.drop (j * d.sz)).take d.sz)
 rw [show (inner.drop (j * d.sz)).take d.sz = rows[j] from h1]
 exact hM j x _ hx (List.getElem?_eq_getElem hj)
/-- Where the elements stood that a filter keeps. -/
theorem filter_places {α β : Type} (p : α → Bool) (q : β → Bool) : ∀ (xs : List α) (ys : List β), xs.length = ys.length → (∀ (j : Nat) (x : α) (y : β), xs[j]? = some x → ys[j]? = some y → p x = q y) →
  ∃ s : Nat → Nat, (∀ i j, i < j → s i < s j) ∧ (xs.filter p).length = (ys.filter q).length ∧ ∀ (j : Nat) (x : α) (y : β), (xs.filter p)[j]? = some x → (ys.filter q)[j]? = some y → xs[s j]? = some x ∧ ys[s j]? = some y
 | [], [], _, _ => ⟨fun j => j, fun _ _ h => h, rfl, fun j x y h => by simp at h⟩
 | [], y :: ys, h, _ => by simp at h
 | x :: xs, [], h, _ => by simp at h
 | x :: xs, y :: ys, hl, hp => by
  obtain ⟨s, h1, h2, h3⟩ := filter_places p q xs ys (by simpa using hl) (fun j a b ha hb => hp (j + 1) a b (by simpa using ha) (by simpa using hb))
  have h0 := hp 0 x y rfl rfl
  cases hx : p x with
  | false =>
   have hy : q y = false := by rw [← h0]; exact hx
   rw [List.filter_cons_of_neg (by simp [hx]), List.filter_cons_of_neg (by simp [hy])]
   exact ⟨fun j => s j + 1, fun i j h => Nat.succ_lt_succ (h1 i j h), h2, fun j a b ha hb => by simpa using h3 j a b ha hb⟩
  | true =>
   have hy : q y = true := by rw [← h0]; exact hx
   rw [List.filter_cons_of_pos hx, List.filter_cons_of_pos hy]
   refine ⟨fun j => match j with | 0 => 0 | j + 1 => s j + 1, fun i j h => ?_, by simp [h2], fun j a b ha hb => ?_⟩
   ·cases j with
    | zero => omega
    | succ j => cases i with
     | zero => exact Nat.succ_pos _
     | succ i => exact Nat.succ_lt_succ (h1 i j (by omega))
   ·cases j with
    | zero => exact ⟨by simpa using ha, by simpa using hb⟩
    | succ j => simpa using h3 j a b (by simpa using ha) (by simpa using hb)
open Classical in
theorem S_filter {α : Type} {d : Kd α} {e b : Nat} {w w' : World} {ok : Nat → Prop} {v v' : Value} {xs : List α} {rows : List (List Value)} (f : Nat → Nat) (p : α → Bool) (q : List Value → Bool) (hl : rows.length = xs.length) (hpq : ∀ (j : Nat) (x : α) (c : List Value), xs[j]? = some x → rows[j]? = some c → p x = q c)
  (hM : ∀ (j : Nat) (x : α) (c : List Value), xs[j]? = some x → rows[j]? = some c → d.M w b (fun k => (ok k ∧ some k ≠ v.ownBlock) ∧ f k = j) x c) (hw : ∀ k, k < w.heap.size → some k ≠ v.ownBlock → w'.heap[k]? = w.heap[k]?) (hv : v'.ownBlock = v.ownBlock)
  (hr : (Kd.raw d.sz).R e w' b ok v' (rows.filter q)) : Kd.S d e w' b ok v' (xs.filter p) := by
 obtain ⟨s, h1, h2, h3⟩ := filter_places p q xs rows hl.symm hpq
 have hinj : ∀ i j, s i = s j → i = j := fun i j h => by
  rcases Nat.lt_trichotomy i j with h0 | h0 | h0
  ·have := h1 i j h0; omega
  ·exact h0
  ·have := h1 j i h0; omega
 refine S_of_raw hr h2.symm (fun k => if h : ∃ j, s j = f k then Classical.choose h else 0) (fun j x c hx hc => ?_)
 obtain ⟨g1, g2⟩ := h3 j x c hx hc
 refine d.M_mono (fun k hk => ?_) (Kd.M_step (hM _ _ _ g1 g2) (fun k hk hlt => hw k hlt hk.1.2))
 have he : ∃ j, s j = f k := ⟨j, hk.2.symm⟩
 refine ⟨⟨hk.1.1, by rw [hv]; exact hk.1.2⟩, ?_⟩
 show (if h : ∃ j, s j = f k then Classical.choose h else 0) = j
 rw [dif_pos he]
 exact hinj _ _ ((Classical.choose_spec he).trans hk.2)
/-- Is the time of the keys in these cells over? -/
def lateC (now : Int) (q : List Value) : Bool := match q[4]?, q[7]? with
 | some (Value.int _ s), some (Value.int _ t) => decide (now ≥ wrap64 (s + wrap64 (2 * t)))
 | _, _ => false
def lateF (now : Int) (x : S50) : Bool := decide (now ≥ wrap64 (x.f4 + wrap64 (2 * x.f7)))
set_option maxHeartbeats 4000000 in
theorem late.one (now : Int) (B : Nat) (gs : Array Value) (W : World) (x : S50) (q : List Value) (hB : W.heap[B]? = some (.cells gs 36 (0, 0))) (hg : gs[0]? = some (.int .i64 now)) (hK : k50.K W x q) :
  Calls Tryz.prog 23 #[.agg q.toArray, .pointer (some ⟨B, 0, none⟩)] W fun e w' => e = .returned (.bool (lateC now q)) ∧ Below W.heap.size W w' := by
 obtain ⟨A10, c10, rfl, hl, hC⟩ := k50_open hK
 have hc0 : W.cell? ⟨B, 0, none⟩ = some (.int .i64 now) := (blk_cell hB 0).trans hg
 have HB := am (Below.refl W.heap.size W)
 have HC := am hC
 have hu50 := Tryz.underlying50
 have hu36 := Tryz.underlying36
 clear hK hC
 show Calls Tryz.prog 23 _ W fun e w' => e = .returned (.bool (decide (now ≥ wrap64 (x.f4 + wrap64 (2 * x.f7))))) ∧ Below W.heap.size W w'
 go_enter Tryz.func23, Tryz.ntmps23
 go_upto_region 1 with (first | ((with_reducible refine gate_dst (N := 2) rfl ?_); refine box_event rfl (N := 2) rfl (cs := #[.int .i64 x.f0, .int .i64 x.f1, .string x.f2, .string x.f3, .int .i64 x.f4, .int .i64 x.f5, .int .i64 x.f6, .int .i64 x.f7, .int .i64 x.f8, .int .i64 x.f9.f0, .slice A10 x.f9.f1.length c10]) (t := 50) BX ?_; intro g2 hg2 wq hA hb; replace hc0 := (show wq.cell? ⟨B, 0, none⟩ = some (.int .i64 now) from (blk_cell (blk_below hB hb) 0).trans hg); have W2 := am hA; replace HB := am (Below.trans HB.out (hb.mono HB.out.size)); clear hg2 hA hb))
 go_wp2_with (first | ((with_reducible refine gate_dst (N := 4) rfl ?_); refine ldbox (t := 50) rfl (.tmp 2) rfl (by rfl) #[.int .i64 x.f0, .int .i64 x.f1, .string x.f2, .string x.f3, .int .i64 x.f4, .int .i64 x.f5, .int .i64 x.f6, .int .i64 x.f7, .int .i64 x.f8, .int .i64 x.f9.f0, .slice A10 x.f9.f1.length c10] W2.out hu50 rfl (by kernel_rfl) ?_) | (go_at_call 24; refine (impl_Sa_late.calls x.f0 x.f1 x.f2 x.f3 x.f4 x.f5 x.f6 x.f7 x.f8 x.f9.f0 A10 c10 x.f9.f1 now (decide (now ≥ wrap64 (x.f4 + wrap64 (2 * x.f7)))) _ (Kd.C_below HC.out HB.out) hl rfl).mono ?_; rintro e wq ⟨rfl, hb⟩; replace HB := am (Below.trans HB.out (hb.mono HB.out.size)); clear hb))
 go_ret
 exact ⟨rfl, HB.out⟩
theorem late_eq (now : Int) (W : World) (x : S50) (q : List Value) (h : k50.K W x q) : lateC now q = lateF now x := by
 obtain ⟨A10, c10, rfl, _, _⟩ := k50_open h
 rfl
set_option maxHeartbeats 4000000 in
theorem delS.nil (c n1 : Nat) (lb : Array Value) (w : World) : Calls Tryz.prog 22 #[.slice none 0 c, .func (.func n1) #[] lb] w fun e w' => e = .returned (.slice none 0 c) ∧ w' = w := by
 have hi : Calls Tryz.prog 52 #[.slice none 0 c, .func (.func n1) #[] lb] w fun e w' => e = .returned (.int .i64 (-1)) ∧ w' = w := by
  go_enter Tryz.func52, Tryz.ntmps52
  go_wp2
  go_loopg [5, 8] 0 (fun gg _ s8 wr => s8 = .int .i64 0 ∧ wr = w)
  case atStart => exact ⟨rfl, rfl⟩
  case round =>
   obtain ⟨rfl, rfl⟩ := hrel
   go_wp2
   go_ret
   exact ⟨rfl, rfl⟩
 go_enter Tryz.func22, Tryz.ntmps22
 go_wp2_with (go_at_call 52; refine hi.mono ?_; rintro e w' ⟨rfl, rfl⟩)
 go_ret
 exact ⟨rfl, rfl⟩
theorem delS.S (now : Int) (B : Nat) (gs : Array Value) (P : Nat → Prop) (v : Value) (xs : List S50) (b : Nat) (w : World) (ho : Kd.S k50 50 w b P v xs) (hb : w.heap[B]? = some (.cells gs 36 (0, 0))) (hg : gs[0]? = some (.int .i64 now)) (hne : some B ≠ v.ownBlock) :
  Calls Tryz.prog 22 #[v, .func (.func 23) #[] #[.pointer (some ⟨B, 0, none⟩)]] w fun e w' => ∃ v', e = .returned v' ∧ Kd.S k50 50 w' b P v' (xs.filter (fun x => !lateF now x)) ∧ w.grownBy w' v.ownBlock ∧ v'.ownBlock = v.ownBlock := by
 obtain ⟨f, rows, hr, hl, hM⟩ := raw_of_S ho
 obtain ⟨h0, inner, ⟨hil, hcase⟩, hrep⟩ := id hr
 rcases hcase with ⟨rfl, hz⟩ | ⟨g, c, cur, rfl, hgb, hh, hnc, hcm, hcs, htake⟩
 ·refine (delS.nil 0 23 #[.pointer (some ⟨B, 0, none⟩)] w).mono ?_
  rintro e w' ⟨rfl, rfl⟩
  have hx : xs = [] := List.eq_nil_of_length_eq_zero (by omega)
  subst hx
  exact ⟨_, rfl, Kd.S_nil _ _ _ _ _, ⟨rfl, rfl, rfl, Nat.le_refl _, fun _ _ _ => rfl⟩, rfl⟩
 ·have eg := enters_of Tryz.func23 (by kernel_rfl) rfl
  have hKW : ∀ (W : World), w.grownBy W (some g) → ∀ (j : Nat) (x : S50) (q : List Value), xs[j]? = some x → rows[j]? = some q → k50.K W x q := fun W hG j x q hx hq =>
   k50.K_of_M (Kd.M_step (hM j x q hx hq) (fun k hk hlt => hG.block k hlt (fun e => hk.1.2 (by rw [e]; rfl))))
  refine (delS.walk (lateC now) 23 #[.pointer (some ⟨B, 0, none⟩)] eg g c b P rows w hnc hcm hr (fun W q hq hG => ?_)).mono ?_
  ·obtain ⟨j, hj⟩ := List.getElem?_of_mem hq
   have hjx : j < xs.length := by rw [← hl]; exact (List.getElem?_eq_some_iff.1 hj).1
   exact late.one now B gs W xs[j] q ((hG.block B (blk_lt hb) (fun e => hne (by rw [e]; rfl))).trans hb) hg (hKW W hG j _ q (List.getElem?_eq_getElem hjx) hj)
  ·rintro e w' ⟨rfl, hR, hG⟩
   have hw0 : w.grownBy w (some g) := ⟨rfl, rfl, rfl, Nat.le_refl _, fun _ _ _ => rfl⟩
   refine ⟨_, rfl, S_filter f (fun x => !lateF now x) (fun q => !lateC now q) hl (fun j x q hx hq => by rw [late_eq now w x q (hKW w hw0 j x q hx hq)]) hM (fun k hk hn => hG.block k hk (fun e => hn (by rw [e]; rfl))) rfl hR, hG, rfl⟩
theorem below_gr {mb : Nat} {w0 W w1 : World} (h : Below w0.heap.size w0 W) (hg : W.grownBy w1 (some mb)) (hB : w0.heap.size ≤ mb) : Below w0.heap.size w0 w1 :=
 ⟨hg.os.trans h.os, hg.tape.trans h.tape, hg.output.trans h.output, Nat.le_trans h.size hg.size, fun q hq => (hg.block q (Nat.lt_of_lt_of_le hq h.size) (fun e => by injection e with e; omega)).trans (h.block q hq)⟩
section
variable {α : Type} {d : Kd α} {e g n cap : Nat} {W : World} {base : Nat} {ok oki : Nat → Prop} {xs : List α} {i : Int} {c : List Value}
/-- A cell of the hole is written. -/
theorem H_put {P : Program} {ops : Array Oper} {rest : List Oper} {o : Oper} {a : Act} {Q : Exit → Act → World → Prop} {t : TypeId} {off j : Nat} (hgd : o.guard = none) (hN : o.dst = none) (x y : Operand) (ho : o.op = .store t x y) (u : Value) (hu : u.cells = #[u]) (h1 : u.oneCell' = true) (hx : a.eval x = .pointer (some ⟨g, off, none⟩)) (hoff : off = i.toNat * d.sz + j)
  (hy : a.eval y = u) (hi : (P.info? t).map (·.size) = some 1) (HO : Kd.H d e W base ok (.slice (some ⟨g, 0, none⟩) n cap) xs i oki c) (h0 : 0 ≤ i) (hin : i < n) (hj : j < d.sz)
  (h : ∀ w1, Kd.H d e w1 base ok (.slice (some ⟨g, 0, none⟩) n cap) xs i oki (c.set j u) → W.grownBy w1 (some g) → wpList P ops Q rest a w1) : wpList P ops Q (o :: rest) a W := by
 obtain ⟨rows, _, hraw, hcl, hco, hcc, _⟩ := Kd.H_raw HO h0 hin
 obtain ⟨h2, h3⟩ := Kd.H_seg (j := j) (seg := [u]) HO h0 hin (by simp; omega) (by simpa using h1)
 obtain ⟨_, _, _, _, hfr⟩ := Kd.R_elem hraw [] i h0 hin
 have hthere : W.there g off #[u].size := fun q hq => by
  have hq0 : q = 0 := by simpa using hq
  subst hq0
  rw [Nat.add_zero, hoff]
  exact ⟨by rw [hcc j _ (List.getElem?_eq_getElem (by omega))]; rfl, hfr j⟩
 have hrun := run_storeVar_v (P := P) W g off t u #[u] hu hthere hi (by simpa using h1)
 refine wpList_plain hgd fun K hK => ?_
 unfold Oper.wp execOp
 simp only [ho, hx, hy, Instr.storeAt, Instr.sureAddr, Sem.run_bind, Sem.run_pure, Result.andThen_ok, hrun]
 show K (a.put o.dst undef) _
 rw [hN]
 rw [hoff]
 refine hK _ _ (h _ ?_ h3)
 have he : c.take j ++ [u] ++ c.drop (j + [u].length) = c.set j u := by
  rw [List.set_eq_take_append_cons_drop, if_pos (by omega)]
  simp
 rw [he] at h2
 exact h2
end
/-- A mark's next. -/
abbrev nx (a : Int) : Int := wrap64 (a + 1)
/-- Keys that are marked, plainly. -/
def mkSaS.f (k : Nat) : List S50 → Int → Option (Int × List S50)
 | [], a => some (a, [])
 | x :: xs, a => (laws_markText.f k (nx (nx a))).bind fun s2 => (laws_markText.f k (nx (nx (nx a)))).bind fun s3 => (laws_markIntS.f k x.f9.f1 (nx (nx (nx (nx (nx (nx (nx (nx (nx (nx a)))))))))) ).bind fun q => (mkSaS.f k xs q.1).bind fun p => some (p.1, ⟨a, nx a, s2, s3, nx (nx (nx (nx a))), nx (nx (nx (nx (nx a)))), nx (nx (nx (nx (nx (nx a))))), nx (nx (nx (nx (nx (nx (nx a)))))), nx (nx (nx (nx (nx (nx (nx (nx a))))))), ⟨nx (nx (nx (nx (nx (nx (nx (nx (nx a)))))))), q.2⟩⟩ :: p.2)
theorem mkSaS.run (k : Nat) (P0_ : Nat → Prop) (u9000_ : Value) (l0 : List S50) (a1 r1 : Int) (r2 : List S50) (w0 w : World) (hB : Below w0.heap.size w0 w) (ho : Kd.S k50 50 w w0.heap.size P0_ u9000_ l0) (h : mkSaS.f k l0 a1 = some (r1, r2)) :
  Calls Tryz.prog 30 #[u9000_, .int .i64 a1] w fun e w' => e = .returned (.int .i64 r1) ∧ Kd.S k50 50 w' w0.heap.size P0_ u9000_ r2 ∧ Below w0.heap.size w0 w' ∧ Kept w w' P0_ := by
 obtain ⟨A, c, rfl⟩ := Kd.S_slice ho
 have HM := am (Kd.S_reads' ho).2.2.2.1
 have HB := am hB
 have HS := am ho
 have HE := am h
 clear hB ho h
 go_enter Tryz.func30, Tryz.ntmps30
 go_wp2
 go_loopg [1, 5] l0.length (fun gg s1 s5 wr => ∃ (dn rs : List S50) (a : Int) (p : List S50), dn.length + rs.length = l0.length ∧ Aside0 (rs.length ≤ gg) ∧ s1 = .int .i64 a ∧ s5 = .int .i64 (dn.length : Int) ∧ Aside0 (Below w0.heap.size w0 wr) ∧ Aside0 (Kept w wr P0_) ∧ Aside0 (Kd.S k50 50 wr w0.heap.size P0_ (.slice A l0.length c) (dn ++ rs)) ∧ Aside0 (mkSaS.f k rs a = some (r1, p)) ∧ Aside0 (dn ++ p = r2))
 case atStart => exact ⟨[], l0, a1, r2, by simp, ⟨Nat.le_refl _⟩, rfl, rfl, HB, am (Kept.refl _ _), HS, HE, am rfl⟩
 case round =>
  clear HE HB HS
  obtain ⟨dn, rs, a, p, hlen, hg, rfl, rfl, HB, KP, HS, HE, HR⟩ := hrel
  have hml := HM.out
  cases rs with
  | nil =>
   have hltz : ¬ (dn.length : Int) < (l0.length : Int) := by simp at hlen; omega
   have E1 := HE.out
   simp only [mkSaS.f, Option.some.injEq, Prod.mk.injEq] at E1
   obtain ⟨rfl, rfl⟩ := E1
   go_wp2
   go_ret
   exact ⟨rfl, by have := HS.out; rw [HR.out] at this; exact this, HB.out, KP.out⟩
  | cons x rs =>
   have hltz : (dn.length : Int) < (l0.length : Int) := by simp at hlen; omega
   have p1 : 0 ≤ (dn.length : Int) := by omega
   have hin : (dn.length : Int) < ((l0.length : Nat) : Int) := hltz
   have E1 := HE.out
   simp only [mkSaS.f] at E1
   obtain ⟨s2, hs2, E1⟩ := Option.bind_eq_some_iff.mp E1
   obtain ⟨s3, hs3, E1⟩ := Option.bind_eq_some_iff.mp E1
   obtain ⟨⟨q1, q2⟩, hq, E1⟩ := Option.bind_eq_some_iff.mp E1
   obtain ⟨⟨p0, p2⟩, hp, E1⟩ := Option.bind_eq_some_iff.mp E1
   simp only [Option.some.injEq, Prod.mk.injEq] at E1
   obtain ⟨rfl, rfl⟩ := E1
   have T2 := am hs2
   have T3 := am hs3
   have TI := am hq
   have TP := am hp
   clear hs2 hs3 hq hp HE
   obtain ⟨g, cap, e, hbase, hlt, cells, hbk⟩ := Kd.S_form HS.out (by simp; omega)
   injection e with e1 e2 e3
   subst e1
   obtain ⟨oki, c0, hcl, hM, hcc, hoki, hH⟩ := Kd.S_lend HS.out z50 (dn.length : Int) p1 hin
   have hx : (dn ++ x :: rs).getD (dn.length : Int).toNat z50 = x := by simp
   rw [hx] at hM
   obtain ⟨v10, rfl, hRI⟩ := k50_openM hM
   have HH := am hH
   have RI := am hRI
   have HK := am hoki
   have GB := am hbase
   have PG := am (show P0_ g from (Kd.S_R HS.out).1 g rfl)
   clear hx hM hcc hcl hH hRI hoki hbase hlt hbk e2 e3 HS
   go_upto_region 10 with (first | (go_at_call 57; refine (laws_markText.calls k (nx (nx a)) s2 _ T2.out).mono ?_; rintro e wq ⟨rfl, hb⟩; replace HH := am (Kd.H_below HH.out hb); replace RI := am (Kd.R_below RI.out hb); replace KP := am (KP.out.below hb); replace HB := am (below_step HB.out hb); clear hb) | ((with_reducible refine gate_store (t := 3) (p := 16) rfl ?_); refine H_put (j := 0) rfl rfl (.tmp 16) (.tmp 14) rfl (.int .i64 a) rfl rfl (by rfl) ?hof (by rfl) (by kernel_rfl) HH.out p1 hin (by decide) ?_; (case hof => first | rfl | (show _ = (dn.length : Int).toNat * 11 + _; rw [Int.toNat_natCast]; first | rfl | omega)); intro wq hA hg1; replace HH := am hA; clear hA; replace RI := am (Kd.R_step RI.out (fun q hq hl => hg1.block q hl (fun e => (HK.out q hq).2 (by injection e)))); replace HB := am (below_gr HB.out hg1 GB.out); replace KP := am (Kept.of_grown hg1 KP.out (fun q hq => .inl (by injection hq with hq; rw [← hq]; exact PG.out))); clear hg1) | ((with_reducible refine gate_store (t := 3) (p := 23) rfl ?_); refine H_put (j := 1) rfl rfl (.tmp 23) (.tmp 21) rfl (.int .i64 (nx a)) rfl rfl (by rfl) ?hof (by rfl) (by kernel_rfl) HH.out p1 hin (by decide) ?_; (case hof => first | rfl | (show _ = (dn.length : Int).toNat * 11 + _; rw [Int.toNat_natCast]; first | rfl | omega)); intro wq hA hg1; replace HH := am hA; clear hA; replace RI := am (Kd.R_step RI.out (fun q hq hl => hg1.block q hl (fun e => (HK.out q hq).2 (by injection e)))); replace HB := am (below_gr HB.out hg1 GB.out); replace KP := am (Kept.of_grown hg1 KP.out (fun q hq => .inl (by injection hq with hq; rw [← hq]; exact PG.out))); clear hg1) | ((with_reducible refine gate_store (t := 9) (p := 31) rfl ?_); refine H_put (j := 2) rfl rfl (.tmp 31) (.tmp 29) rfl (.string s2) rfl rfl (by rfl) ?hof (by rfl) (by kernel_rfl) HH.out p1 hin (by decide) ?_; (case hof => first | rfl | (show _ = (dn.length : Int).toNat * 11 + _; rw [Int.toNat_natCast]; first | rfl | omega)); intro wq hA hg1; replace HH := am hA; clear hA; replace RI := am (Kd.R_step RI.out (fun q hq hl => hg1.block q hl (fun e => (HK.out q hq).2 (by injection e)))); replace HB := am (below_gr HB.out hg1 GB.out); replace KP := am (Kept.of_grown hg1 KP.out (fun q hq => .inl (by injection hq with hq; rw [← hq]; exact PG.out))); clear hg1))
   go_upto_region 12 with (first | (go_at_call 57; refine (laws_markText.calls k (nx (nx (nx a))) s3 _ T3.out).mono ?_; rintro e wq ⟨rfl, hb⟩; replace HH := am (Kd.H_below HH.out hb); replace RI := am (Kd.R_below RI.out hb); replace KP := am (KP.out.below hb); replace HB := am (below_step HB.out hb); clear hb) | ((with_reducible refine gate_store (t := 9) (p := 39) rfl ?_); refine H_put (j := 3) rfl rfl (.tmp 39) (.tmp 37) rfl (.string s3) rfl rfl (by rfl) ?hof (by rfl) (by kernel_rfl) HH.out p1 hin (by decide) ?_; (case hof => first | rfl | (show _ = (dn.length : Int).toNat * 11 + _; rw [Int.toNat_natCast]; first | rfl | omega)); intro wq hA hg1; replace HH := am hA; clear hA; replace RI := am (Kd.R_step RI.out (fun q hq hl => hg1.block q hl (fun e => (HK.out q hq).2 (by injection e)))); replace HB := am (below_gr HB.out hg1 GB.out); replace KP := am (Kept.of_grown hg1 KP.out (fun q hq => .inl (by injection hq with hq; rw [← hq]; exact PG.out))); clear hg1))
   go_upto_region 24 with (first | ((with_reducible refine gate_store (t := 3) (p := 46) rfl ?_); refine H_put (j := 4) rfl rfl (.tmp 46) (.tmp 44) rfl (.int .i64 (nx (nx (nx (nx a))))) rfl rfl (by rfl) ?hof (by rfl) (by kernel_rfl) HH.out p1 hin (by decide) ?_; (case hof => first | rfl | (show _ = (dn.length : Int).toNat * 11 + _; rw [Int.toNat_natCast]; first | rfl | omega)); intro wq hA hg1; replace HH := am hA; clear hA; replace RI := am (Kd.R_step RI.out (fun q hq hl => hg1.block q hl (fun e => (HK.out q hq).2 (by injection e)))); replace HB := am (below_gr HB.out hg1 GB.out); replace KP := am (Kept.of_grown hg1 KP.out (fun q hq => .inl (by injection hq with hq; rw [← hq]; exact PG.out))); clear hg1) | ((with_reducible refine gate_store (t := 3) (p := 53) rfl ?_); refine H_put (j := 5) rfl rfl (.tmp 53) (.tmp 51) rfl (.int .i64 (nx (nx (nx (nx (nx a)))))) rfl rfl (by rfl) ?hof (by rfl) (by kernel_rfl) HH.out p1 hin (by decide) ?_; (case hof => first | rfl | (show _ = (dn.length : Int).toNat * 11 + _; rw [Int.toNat_natCast]; first | rfl | omega)); intro wq hA hg1; replace HH := am hA; clear hA; replace RI := am (Kd.R_step RI.out (fun q hq hl => hg1.block q hl (fun e => (HK.out q hq).2 (by injection e)))); replace HB := am (below_gr HB.out hg1 GB.out); replace KP := am (Kept.of_grown hg1 KP.out (fun q hq => .inl (by injection hq with hq; rw [← hq]; exact PG.out))); clear hg1) | ((with_reducible refine gate_store (t := 3) (p := 60) rfl ?_); refine H_put (j := 6) rfl rfl (.tmp 60) (.tmp 58) rfl (.int .i64 (nx (nx (nx (nx (nx (nx a))))))) rfl rfl (by rfl) ?hof (by rfl) (by kernel_rfl) HH.out p1 hin (by decide) ?_; (case hof => first | rfl | (show _ = (dn.length : Int).toNat * 11 + _; rw [Int.toNat_natCast]; first | rfl | omega)); intro wq hA hg1; replace HH := am hA; clear hA; replace RI := am (Kd.R_step RI.out (fun q hq hl => hg1.block q hl (fun e => (HK.out q hq).2 (by injection e)))); replace HB := am (below_gr HB.out hg1 GB.out); replace KP := am (Kept.of_grown hg1 KP.out (fun q hq => .inl (by injection hq with hq; rw [← hq]; exact PG.out))); clear hg1) | ((with_reducible refine gate_store (t := 3) (p := 67) rfl ?_); refine H_put (j := 7) rfl rfl (.tmp 67) (.tmp 65) rfl (.int .i64 (nx (nx (nx (nx (nx (nx (nx a)))))))) rfl rfl (by rfl) ?hof (by rfl) (by kernel_rfl) HH.out p1 hin (by decide) ?_; (case hof => first | rfl | (show _ = (dn.length : Int).toNat * 11 + _; rw [Int.toNat_natCast]; first | rfl | omega)); intro wq hA hg1; replace HH := am hA; clear hA; replace RI := am (Kd.R_step RI.out (fun q hq hl => hg1.block q hl (fun e => (HK.out q hq).2 (by injection e)))); replace HB := am (below_gr HB.out hg1 GB.out); replace KP := am (Kept.of_grown hg1 KP.out (fun q hq => .inl (by injection hq with hq; rw [← hq]; exact PG.out))); clear hg1) | ((with_reducible refine gate_store (t := 3) (p := 74) rfl ?_); refine H_put (j := 8) rfl rfl (.tmp 74) (.tmp 72) rfl (.int .i64 (nx (nx (nx (nx (nx (nx (nx (nx a))))))))) rfl rfl (by rfl) ?hof (by rfl) (by kernel_rfl) HH.out p1 hin (by decide) ?_; (case hof => first | rfl | (show _ = (dn.length : Int).toNat * 11 + _; rw [Int.toNat_natCast]; first | rfl | omega)); intro wq hA hg1; replace HH := am hA; clear hA; replace RI := am (Kd.R_step RI.out (fun q hq hl => hg1.block q hl (fun e => (HK.out q hq).2 (by injection e)))); replace HB := am (below_gr HB.out hg1 GB.out); replace KP := am (Kept.of_grown hg1 KP.out (fun q hq => .inl (by injection hq with hq; rw [← hq]; exact PG.out))); clear hg1) | ((with_reducible refine gate_store (t := 3) (p := 82) rfl ?_); refine H_put (j := 9) rfl rfl (.tmp 82) (.tmp 79) rfl (.int .i64 (nx (nx (nx (nx (nx (nx (nx (nx (nx a)))))))))) rfl rfl (by rfl) ?hof (by rfl) (by kernel_rfl) HH.out p1 hin (by decide) ?_; (case hof => first | rfl | (show _ = (dn.length : Int).toNat * 11 + _; rw [Int.toNat_natCast]; first | rfl | omega)); intro wq hA hg1; replace HH := am hA; clear hA; replace RI := am (Kd.R_step RI.out (fun q hq hl => hg1.block q hl (fun e => (HK.out q hq).2 (by injection e)))); replace HB := am (below_gr HB.out hg1 GB.out); replace KP := am (Kept.of_grown hg1 KP.out (fun q hq => .inl (by injection hq with hq; rw [← hq]; exact PG.out))); clear hg1))
   obtain ⟨_, _, _, _, _, hcc, _⟩ := Kd.H_raw HH.out p1 hin
   have hc10 : wq.cell? ⟨g, dn.length * 11 + 10, none⟩ = some v10 := by have h0 := hcc 10 v10 rfl; rw [Int.toNat_natCast] at h0; exact h0
   have hc11 : wq.cell? ⟨g, dn.length * 11 + 9 + 1, none⟩ = some v10 := hc10
   go_upto_region 3 with (go_at_call 58; refine (laws_markIntS.calls k oki v10 x.f9.f1 (nx (nx (nx (nx (nx (nx (nx (nx (nx (nx a)))))))))) q1 q2 w0 _ HB.out RI.out TI.out).mono ?_; rintro e wq ⟨rfl, hR, hb, hkp⟩; replace RI := am (show (Kd.int .i64).R 3 wq w0.heap.size oki v10 q2 from Kd.R_reok rfl hR (fun q hq => RI.out.1 q hq)); replace HH := am (Kd.H_step HH.out (fun q _ hno hl => hkp.2 q hl hno)); replace KP := am (Kept.then_ KP.out hkp (fun q hq => .inl (HK.out q hq).1)); replace HB := am hb; clear hR hb hkp)
   have hS := Kd.H_back (okp := oki) (x' := (⟨a, (nx a), s2, s3, (nx (nx (nx (nx a)))), (nx (nx (nx (nx (nx a))))), (nx (nx (nx (nx (nx (nx a)))))), (nx (nx (nx (nx (nx (nx (nx a))))))), (nx (nx (nx (nx (nx (nx (nx (nx a)))))))), ⟨(nx (nx (nx (nx (nx (nx (nx (nx (nx a))))))))), q2⟩⟩ : S50)) HH.out (show k50.M _ _ oki (⟨a, (nx a), s2, s3, (nx (nx (nx (nx a)))), (nx (nx (nx (nx (nx a))))), (nx (nx (nx (nx (nx (nx a)))))), (nx (nx (nx (nx (nx (nx (nx a))))))), (nx (nx (nx (nx (nx (nx (nx (nx a)))))))), ⟨(nx (nx (nx (nx (nx (nx (nx (nx (nx a))))))))), q2⟩⟩ : S50) [.int .i64 a, .int .i64 (nx a), .string s2, .string s3, .int .i64 (nx (nx (nx (nx a)))), .int .i64 (nx (nx (nx (nx (nx a))))), .int .i64 (nx (nx (nx (nx (nx (nx a)))))), .int .i64 (nx (nx (nx (nx (nx (nx (nx a))))))), .int .i64 (nx (nx (nx (nx (nx (nx (nx (nx a)))))))), .int .i64 (nx (nx (nx (nx (nx (nx (nx (nx (nx a))))))))), v10] from k50_mkM _ _ oki (⟨a, (nx a), s2, s3, (nx (nx (nx (nx a)))), (nx (nx (nx (nx (nx a))))), (nx (nx (nx (nx (nx (nx a)))))), (nx (nx (nx (nx (nx (nx (nx a))))))), (nx (nx (nx (nx (nx (nx (nx (nx a)))))))), ⟨(nx (nx (nx (nx (nx (nx (nx (nx (nx a))))))))), q2⟩⟩ : S50) RI.out) (fun _ h => h)
   have hs : (dn ++ x :: rs).set (dn.length : Int).toNat (⟨a, (nx a), s2, s3, (nx (nx (nx (nx a)))), (nx (nx (nx (nx (nx a))))), (nx (nx (nx (nx (nx (nx a)))))), (nx (nx (nx (nx (nx (nx (nx a))))))), (nx (nx (nx (nx (nx (nx (nx (nx a)))))))), ⟨(nx (nx (nx (nx (nx (nx (nx (nx (nx a))))))))), q2⟩⟩ : S50) = (dn ++ [(⟨a, (nx a), s2, s3, (nx (nx (nx (nx a)))), (nx (nx (nx (nx (nx a))))), (nx (nx (nx (nx (nx (nx a)))))), (nx (nx (nx (nx (nx (nx (nx a))))))), (nx (nx (nx (nx (nx (nx (nx (nx a)))))))), ⟨(nx (nx (nx (nx (nx (nx (nx (nx (nx a))))))))), q2⟩⟩ : S50)]) ++ rs := by simp
   rw [hs] at hS
   have HS := am hS
   clear hS hs hc10 hc11 hcc HH RI
   go_wp2
   go_roundg rs.length
   case measure => have := hg.out; simp at this; omega
   case rel => exact ⟨dn ++ [(⟨a, (nx a), s2, s3, (nx (nx (nx (nx a)))), (nx (nx (nx (nx (nx a))))), (nx (nx (nx (nx (nx (nx a)))))), (nx (nx (nx (nx (nx (nx (nx a))))))), (nx (nx (nx (nx (nx (nx (nx (nx a)))))))), ⟨(nx (nx (nx (nx (nx (nx (nx (nx (nx a))))))))), q2⟩⟩ : S50)], rs, q1, p2, by simp at hlen ⊢; omega, ⟨Nat.le_refl _⟩, rfl, by rw [List.length_append]; go_num, HB, KP, HS, TP, am (by rw [← HR.out]; simp)⟩
theorem S_flat {α : Type} {d : Kd α} {e b : Nat} {w : World} {ok : Nat → Prop} {v : Value} {xs : List α} (hE : d.E = []) (h : d.R e w b ok v xs) : Kd.S d e w b ok v xs := by
 obtain ⟨h0, inner, ho, hr⟩ := h
 refine ⟨fun _ => 0, h0, inner, by rw [List.length_zipIdx]; exact ho, by rw [List.length_zipIdx]; exact hr.1, fun j p hp => ?_⟩
 rw [List.getElem?_zipIdx, Nat.zero_add] at hp
 obtain ⟨x, hx, rfl⟩ := Option.map_eq_some_iff.1 hp
 refine d.M_mono (fun k hk => ?_) (d.M_bound (hr.2 j x hx))
 obtain ⟨_, _, _, q, hq, _⟩ := hk
 rw [hE] at hq
 cases hq
def mkRu.f : List S77 → Int → Int × List S77
 | [], a => (a, [])
 | x :: xs, a => ((mkRu.f xs (nx (nx (nx (nx (nx (nx (nx (nx a))))))))).1, (⟨a, (nx a), ⟨(nx (nx a)), (nx (nx (nx a)))⟩, ⟨(nx (nx (nx (nx a)))), (nx (nx (nx (nx (nx a)))))⟩, (nx (nx (nx (nx (nx (nx a)))))), (nx (nx (nx (nx (nx (nx (nx a)))))))⟩ : S77) :: (mkRu.f xs (nx (nx (nx (nx (nx (nx (nx (nx a))))))))).2)
theorem mkRu.run (P0_ : Nat → Prop) (u9000_ : Value) (l0 : List S77) (a1 : Int) (w0 w : World) (hB : Below w0.heap.size w0 w) (ho : Kd.R k77 77 w w0.heap.size P0_ u9000_ l0) :
  Calls Tryz.prog 28 #[u9000_, .int .i64 a1] w fun e w' => e = .returned (.int .i64 (mkRu.f l0 a1).1) ∧ Kd.R k77 77 w' w0.heap.size P0_ u9000_ (mkRu.f l0 a1).2 ∧ Below w0.heap.size w0 w' ∧ Kept w w' P0_ := by
 obtain ⟨A, c, rfl⟩ := Kd.R_slice ho
 have HM := am (Kd.R_reads' ho).2.2.2.1
 have HB := am hB
 have HS := am (S_flat rfl ho)
 clear hB ho
 go_enter Tryz.func28, Tryz.ntmps28
 go_wp2
 go_loopg [1, 5] l0.length (fun gg s1 s5 wr => ∃ (dn rs : List S77) (a : Int), dn.length + rs.length = l0.length ∧ Aside0 (rs.length ≤ gg) ∧ s1 = .int .i64 a ∧ s5 = .int .i64 (dn.length : Int) ∧ Aside0 (Below w0.heap.size w0 wr) ∧ Aside0 (Kept w wr P0_) ∧ Aside0 (Kd.S k77 77 wr w0.heap.size P0_ (.slice A l0.length c) (dn ++ rs)) ∧ Aside0 ((mkRu.f rs a).1 = (mkRu.f l0 a1).1) ∧ Aside0 (dn ++ (mkRu.f rs a).2 = (mkRu.f l0 a1).2))
 case atStart => exact ⟨[], l0, a1, by simp, ⟨Nat.le_refl _⟩, rfl, rfl, HB, am (Kept.refl _ _), HS, am rfl, am rfl⟩
 case round =>
  clear HB HS
  obtain ⟨dn, rs, a, hlen, hg, rfl, rfl, HB, KP, HS, HE, HR⟩ := hrel
  have hml := HM.out
  cases rs with
  | nil =>
   have hltz : ¬ (dn.length : Int) < (l0.length : Int) := by simp at hlen; omega
   have E1 : a = (mkRu.f l0 a1).1 := HE.out
   subst E1
   clear HE
   go_wp2
   go_ret
   exact ⟨rfl, by have h2 : dn ++ [] = _ := HR.out; have := Kd.S_R HS.out; rw [h2] at this; exact this, HB.out, KP.out⟩
  | cons x rs =>
   have hltz : (dn.length : Int) < (l0.length : Int) := by simp at hlen; omega
   have p1 : 0 ≤ (dn.length : Int) := by omega
   have hin : (dn.length : Int) < ((l0.length : Nat) : Int) := hltz
   obtain ⟨g, cap, e, hbase, hlt, cells, hbk⟩ := Kd.S_form HS.out (by simp; omega)
   injection e with e1 e2 e3
   subst e1
   obtain ⟨oki, c0, hcl, hM, hcc, hoki, hH⟩ := Kd.S_lend HS.out z77 (dn.length : Int) p1 hin
   have hx : (dn ++ x :: rs).getD (dn.length : Int).toNat z77 = x := by simp
   rw [hx] at hM
   have hc0 := k77_openM hM
   subst hc0
   have HH := am hH
   have GB := am hbase
   have PG := am (show P0_ g from (Kd.S_R HS.out).1 g rfl)
   clear hx hM hcc hcl hH hoki hbase hlt hbk e2 e3 HS
   go_upto_region 3 with (first | ((with_reducible refine gate_store (t := 3) (p := 16) rfl ?_); refine H_put (j := 0) rfl rfl (.tmp 16) (.tmp 14) rfl (.int .i64 a) rfl rfl (by rfl) ?hof (by rfl) (by kernel_rfl) HH.out p1 hin (by decide) ?_; (case hof => first | rfl | (show _ = (dn.length : Int).toNat * 8 + _; rw [Int.toNat_natCast]; first | rfl | omega)); intro wq hA hg1; replace HH := am hA; clear hA; replace HB := am (below_gr HB.out hg1 GB.out); replace KP := am (Kept.of_grown hg1 KP.out (fun q hq => .inl (by injection hq with hq; rw [← hq]; exact PG.out))); clear hg1) | ((with_reducible refine gate_store (t := 3) (p := 23) rfl ?_); refine H_put (j := 1) rfl rfl (.tmp 23) (.tmp 21) rfl (.int .i64 (nx a)) rfl rfl (by rfl) ?hof (by rfl) (by kernel_rfl) HH.out p1 hin (by decide) ?_; (case hof => first | rfl | (show _ = (dn.length : Int).toNat * 8 + _; rw [Int.toNat_natCast]; first | rfl | omega)); intro wq hA hg1; replace HH := am hA; clear hA; replace HB := am (below_gr HB.out hg1 GB.out); replace KP := am (Kept.of_grown hg1 KP.out (fun q hq => .inl (by injection hq with hq; rw [← hq]; exact PG.out))); clear hg1) | ((with_reducible refine gate_store (t := 3) (p := 31) rfl ?_); refine H_put (j := 2) rfl rfl (.tmp 31) (.tmp 28) rfl (.int .i64 (nx (nx a))) rfl rfl (by rfl) ?hof (by rfl) (by kernel_rfl) HH.out p1 hin (by decide) ?_; (case hof => first | rfl | (show _ = (dn.length : Int).toNat * 8 + _; rw [Int.toNat_natCast]; first | rfl | omega)); intro wq hA hg1; replace HH := am hA; clear hA; replace HB := am (below_gr HB.out hg1 GB.out); replace KP := am (Kept.of_grown hg1 KP.out (fun q hq => .inl (by injection hq with hq; rw [← hq]; exact PG.out))); clear hg1) | ((with_reducible refine gate_store (t := 3) (p := 39) rfl ?_); refine H_put (j := 3) rfl rfl (.tmp 39) (.tmp 36) rfl (.int .i64 (nx (nx (nx a)))) rfl rfl (by rfl) ?hof (by rfl) (by kernel_rfl) HH.out p1 hin (by decide) ?_; (case hof => first | rfl | (show _ = (dn.length : Int).toNat * 8 + _; rw [Int.toNat_natCast]; first | rfl | omega)); intro wq hA hg1; replace HH := am hA; clear hA; replace HB := am (below_gr HB.out hg1 GB.out); replace KP := am (Kept.of_grown hg1 KP.out (fun q hq => .inl (by injection hq with hq; rw [← hq]; exact PG.out))); clear hg1) | ((with_reducible refine gate_store (t := 3) (p := 47) rfl ?_); refine H_put (j := 4) rfl rfl (.tmp 47) (.tmp 44) rfl (.int .i64 (nx (nx (nx (nx a))))) rfl rfl (by rfl) ?hof (by rfl) (by kernel_rfl) HH.out p1 hin (by decide) ?_; (case hof => first | rfl | (show _ = (dn.length : Int).toNat * 8 + _; rw [Int.toNat_natCast]; first | rfl | omega)); intro wq hA hg1; replace HH := am hA; clear hA; replace HB := am (below_gr HB.out hg1 GB.out); replace KP := am (Kept.of_grown hg1 KP.out (fun q hq => .inl (by injection hq with hq; rw [← hq]; exact PG.out))); clear hg1) | ((with_reducible refine gate_store (t := 3) (p := 55) rfl ?_); refine H_put (j := 5) rfl rfl (.tmp 55) (.tmp 52) rfl (.int .i64 (nx (nx (nx (nx (nx a)))))) rfl rfl (by rfl) ?hof (by rfl) (by kernel_rfl) HH.out p1 hin (by decide) ?_; (case hof => first | rfl | (show _ = (dn.length : Int).toNat * 8 + _; rw [Int.toNat_natCast]; first | rfl | omega)); intro wq hA hg1; replace HH := am hA; clear hA; replace HB := am (below_gr HB.out hg1 GB.out); replace KP := am (Kept.of_grown hg1 KP.out (fun q hq => .inl (by injection hq with hq; rw [← hq]; exact PG.out))); clear hg1) | ((with_reducible refine gate_store (t := 3) (p := 62) rfl ?_); refine H_put (j := 6) rfl rfl (.tmp 62) (.tmp 60) rfl (.int .i64 (nx (nx (nx (nx (nx (nx a))))))) rfl rfl (by rfl) ?hof (by rfl) (by kernel_rfl) HH.out p1 hin (by decide) ?_; (case hof => first | rfl | (show _ = (dn.length : Int).toNat * 8 + _; rw [Int.toNat_natCast]; first | rfl | omega)); intro wq hA hg1; replace HH := am hA; clear hA; replace HB := am (below_gr HB.out hg1 GB.out); replace KP := am (Kept.of_grown hg1 KP.out (fun q hq => .inl (by injection hq with hq; rw [← hq]; exact PG.out))); clear hg1) | ((with_reducible refine gate_store (t := 3) (p := 69) rfl ?_); refine H_put (j := 7) rfl rfl (.tmp 69) (.tmp 67) rfl (.int .i64 (nx (nx (nx (nx (nx (nx (nx a)))))))) rfl rfl (by rfl) ?hof (by rfl) (by kernel_rfl) HH.out p1 hin (by decide) ?_; (case hof => first | rfl | (show _ = (dn.length : Int).toNat * 8 + _; rw [Int.toNat_natCast]; first | rfl | omega)); intro wq hA hg1; replace HH := am hA; clear hA; replace HB := am (below_gr HB.out hg1 GB.out); replace KP := am (Kept.of_grown hg1 KP.out (fun q hq => .inl (by injection hq with hq; rw [← hq]; exact PG.out))); clear hg1))
   have hS := Kd.H_back (okp := fun _ => False) (x' := (⟨a, (nx a), ⟨(nx (nx a)), (nx (nx (nx a)))⟩, ⟨(nx (nx (nx (nx a)))), (nx (nx (nx (nx (nx a)))))⟩, (nx (nx (nx (nx (nx (nx a)))))), (nx (nx (nx (nx (nx (nx (nx a)))))))⟩ : S77)) HH.out (show k77.M _ _ (fun _ => False) (⟨a, (nx a), ⟨(nx (nx a)), (nx (nx (nx a)))⟩, ⟨(nx (nx (nx (nx a)))), (nx (nx (nx (nx (nx a)))))⟩, (nx (nx (nx (nx (nx (nx a)))))), (nx (nx (nx (nx (nx (nx (nx a)))))))⟩ : S77) [.int .i64 a, .int .i64 (nx a), .int .i64 (nx (nx a)), .int .i64 (nx (nx (nx a))), .int .i64 (nx (nx (nx (nx a)))), .int .i64 (nx (nx (nx (nx (nx a))))), .int .i64 (nx (nx (nx (nx (nx (nx a)))))), .int .i64 (nx (nx (nx (nx (nx (nx (nx a)))))))] from k77_mkM _ _ _ (⟨a, (nx a), ⟨(nx (nx a)), (nx (nx (nx a)))⟩, ⟨(nx (nx (nx (nx a)))), (nx (nx (nx (nx (nx a)))))⟩, (nx (nx (nx (nx (nx (nx a)))))), (nx (nx (nx (nx (nx (nx (nx a)))))))⟩ : S77)) (fun _ h => h.elim)
   have hs : (dn ++ x :: rs).set (dn.length : Int).toNat (⟨a, (nx a), ⟨(nx (nx a)), (nx (nx (nx a)))⟩, ⟨(nx (nx (nx (nx a)))), (nx (nx (nx (nx (nx a)))))⟩, (nx (nx (nx (nx (nx (nx a)))))), (nx (nx (nx (nx (nx (nx (nx a)))))))⟩ : S77) = (dn ++ [(⟨a, (nx a), ⟨(nx (nx a)), (nx (nx (nx a)))⟩, ⟨(nx (nx (nx (nx a)))), (nx (nx (nx (nx (nx a)))))⟩, (nx (nx (nx (nx (nx (nx a)))))), (nx (nx (nx (nx (nx (nx (nx a)))))))⟩ : S77)]) ++ rs := by simp
   rw [hs] at hS
   have HS := am hS
   clear hS hs HH
   go_wp2
   go_roundg rs.length
   case measure => have := hg.out; simp at this; omega
   case rel => exact ⟨dn ++ [(⟨a, (nx a), ⟨(nx (nx a)), (nx (nx (nx a)))⟩, ⟨(nx (nx (nx (nx a)))), (nx (nx (nx (nx (nx a)))))⟩, (nx (nx (nx (nx (nx (nx a)))))), (nx (nx (nx (nx (nx (nx (nx a)))))))⟩ : S77)], rs, (nx (nx (nx (nx (nx (nx (nx (nx a)))))))), by simp at hlen ⊢; omega, ⟨Nat.le_refl _⟩, rfl, by rw [List.length_append]; go_num, HB, KP, HS, HE, am (by rw [← HR.out]; simp [mkRu.f])⟩
def hdRu : List S77 → Int → Int → Prop
 | [], a, r => a = r
 | x :: xs, a, r => x = (⟨a, (nx a), ⟨(nx (nx a)), (nx (nx (nx a)))⟩, ⟨(nx (nx (nx (nx a)))), (nx (nx (nx (nx (nx a)))))⟩, (nx (nx (nx (nx (nx (nx a)))))), (nx (nx (nx (nx (nx (nx (nx a)))))))⟩ : S77) ∧ hdRu xs (nx (nx (nx (nx (nx (nx (nx (nx a)))))))) r
theorem hdRu.run (A : Option Addr) (c : Nat) (l0 : List S77) (a1 r : Int) (w : World) (hr : Kd.C k77 w A l0.length l0) (h : hdRu l0 a1 r) :
  Calls Tryz.prog 31 #[.slice A l0.length c, .int .i64 a1] w fun e w' => e = .returned (.int .i64 r) ∧ w' = w := by
 have HM := am hr.2.1
 have HR := am hr
 have HE := am h
 clear hr h
 go_enter Tryz.func31, Tryz.ntmps31
 go_wp2
 go_loopg [1, 5] l0.length (fun gg s1 s5 wr => ∃ (jj : Nat) (a : Int), jj ≤ l0.length ∧ Aside0 (l0.length - jj ≤ gg) ∧ s1 = .int .i64 a ∧ s5 = .int .i64 (jj : Int) ∧ wr = w ∧ Aside0 (hdRu (l0.drop jj) a r))
 case atStart => exact ⟨0, a1, Nat.zero_le _, ⟨by omega⟩, rfl, rfl, rfl, HE⟩
 case round =>
  clear HE
  obtain ⟨jj, a, hjj, hg, rfl, rfl, rfl, HE⟩ := hrel
  have hml := HM.out
  by_cases hlt : jj < l0.length
  ·have hltz : (jj : Int) < (l0.length : Int) := by omega
   have p1 : 0 ≤ (jj : Int) := by omega
   obtain ⟨ad, e, h0, h1, h2, h3, h4, h5, h6, h7⟩ := at_T77 HR.out (jj : Int) p1 hltz
   have hxx : rd_T77 l0 (jj : Int) = l0[jj] := by
    unfold rd_T77
    rw [Int.toNat_natCast, List.getD_eq_getElem?_getD, List.getElem?_eq_getElem hlt]
    rfl
   have E1 := HE.out
   rw [List.drop_eq_getElem_cons hlt] at E1
   obtain ⟨hx, hrest⟩ := E1
   rw [hxx, hx] at h0 h1 h2 h3 h4 h5 h6 h7
   have TR := am hrest
   clear hxx hx hrest HE
   subst e
   simp only [Int.toNat_natCast] at h0 h1 h2 h3 h4 h5 h6 h7
   go_wp2
   clear h0 h1 h2 h3 h4 h5 h6 h7
   go_roundg (l0.length - (jj + 1))
   case measure => have := hg.out; omega
   case rel => exact ⟨jj + 1, _, by omega, ⟨by omega⟩, rfl, by go_num, rfl, TR⟩
  ·have hltz : ¬ (jj : Int) < (l0.length : Int) := by omega
   have : jj = l0.length := by omega
   have E1 := HE.out
   rw [this, List.drop_length] at E1
   have E2 : a = r := E1
   subst E2
   clear HE E1
   go_wp2
   go_ret
   exact ⟨rfl, rfl⟩
def mkSe.f : List S91 → Int → Int × List S91
 | [], a => (a, [])
 | x :: xs, a => ((mkSe.f xs (nx (nx (nx (nx a))))).1, (⟨⟨a, (nx a), (nx (nx a))⟩, (nx (nx (nx a)))⟩ : S91) :: (mkSe.f xs (nx (nx (nx (nx a))))).2)
theorem mkSe.run (P0_ : Nat → Prop) (u9000_ : Value) (l0 : List S91) (a1 : Int) (w0 w : World) (hB : Below w0.heap.size w0 w) (ho : Kd.R k91 91 w w0.heap.size P0_ u9000_ l0) :
  Calls Tryz.prog 56 #[u9000_, .int .i64 a1] w fun e w' => e = .returned (.int .i64 (mkSe.f l0 a1).1) ∧ Kd.R k91 91 w' w0.heap.size P0_ u9000_ (mkSe.f l0 a1).2 ∧ Below w0.heap.size w0 w' ∧ Kept w w' P0_ := by
 obtain ⟨A, c, rfl⟩ := Kd.R_slice ho
 have HM := am (Kd.R_reads' ho).2.2.2.1
 have HB := am hB
 have HS := am (S_flat rfl ho)
 clear hB ho
 go_enter Tryz.func56, Tryz.ntmps56
 go_wp2
 go_loopg [1, 5] l0.length (fun gg s1 s5 wr => ∃ (dn rs : List S91) (a : Int), dn.length + rs.length = l0.length ∧ Aside0 (rs.length ≤ gg) ∧ s1 = .int .i64 a ∧ s5 = .int .i64 (dn.length : Int) ∧ Aside0 (Below w0.heap.size w0 wr) ∧ Aside0 (Kept w wr P0_) ∧ Aside0 (Kd.S k91 91 wr w0.heap.size P0_ (.slice A l0.length c) (dn ++ rs)) ∧ Aside0 ((mkSe.f rs a).1 = (mkSe.f l0 a1).1) ∧ Aside0 (dn ++ (mkSe.f rs a).2 = (mkSe.f l0 a1).2))
 case atStart => exact ⟨[], l0, a1, by simp, ⟨Nat.le_refl _⟩, rfl, rfl, HB, am (Kept.refl _ _), HS, am rfl, am rfl⟩
 case round =>
  clear HB HS
  obtain ⟨dn, rs, a, hlen, hg, rfl, rfl, HB, KP, HS, HE, HR⟩ := hrel
  have hml := HM.out
  cases rs with
  | nil =>
   have hltz : ¬ (dn.length : Int) < (l0.length : Int) := by simp at hlen; omega
   have E1 : a = (mkSe.f l0 a1).1 := HE.out
   subst E1
   clear HE
   go_wp2
   go_ret
   exact ⟨rfl, by have h2 : dn ++ [] = _ := HR.out; have := Kd.S_R HS.out; rw [h2] at this; exact this, HB.out, KP.out⟩
  | cons x rs =>
   have hltz : (dn.length : Int) < (l0.length : Int) := by simp at hlen; omega
   have p1 : 0 ≤ (dn.length : Int) := by omega
   have hin : (dn.length : Int) < ((l0.length : Nat) : Int) := hltz
   obtain ⟨g, cap, e, hbase, hlt, cells, hbk⟩ := Kd.S_form HS.out (by simp; omega)
   injection e with e1 e2 e3
   subst e1
   obtain ⟨oki, c0, hcl, hM, hcc, hoki, hH⟩ := Kd.S_lend HS.out z91 (dn.length : Int) p1 hin
   have hx : (dn ++ x :: rs).getD (dn.length : Int).toNat z91 = x := by simp
   rw [hx] at hM
   have hc0 := k91_openM hM
   subst hc0
   have HH := am hH
   have GB := am hbase
   have PG := am (show P0_ g from (Kd.S_R HS.out).1 g rfl)
   clear hx hM hcc hcl hH hoki hbase hlt hbk e2 e3 HS
   go_upto_region 3 with (first | ((with_reducible refine gate_store (t := 3) (p := 17) rfl ?_); refine H_put (j := 0) rfl rfl (.tmp 17) (.tmp 14) rfl (.int .i64 a) rfl rfl (by rfl) ?hof (by rfl) (by kernel_rfl) HH.out p1 hin (by decide) ?_; (case hof => first | rfl | (show _ = (dn.length : Int).toNat * 4 + _; rw [Int.toNat_natCast]; first | rfl | omega)); intro wq hA hg1; replace HH := am hA; clear hA; replace HB := am (below_gr HB.out hg1 GB.out); replace KP := am (Kept.of_grown hg1 KP.out (fun q hq => .inl (by injection hq with hq; rw [← hq]; exact PG.out))); clear hg1) | ((with_reducible refine gate_store (t := 3) (p := 25) rfl ?_); refine H_put (j := 1) rfl rfl (.tmp 25) (.tmp 22) rfl (.int .i64 (nx a)) rfl rfl (by rfl) ?hof (by rfl) (by kernel_rfl) HH.out p1 hin (by decide) ?_; (case hof => first | rfl | (show _ = (dn.length : Int).toNat * 4 + _; rw [Int.toNat_natCast]; first | rfl | omega)); intro wq hA hg1; replace HH := am hA; clear hA; replace HB := am (below_gr HB.out hg1 GB.out); replace KP := am (Kept.of_grown hg1 KP.out (fun q hq => .inl (by injection hq with hq; rw [← hq]; exact PG.out))); clear hg1) | ((with_reducible refine gate_store (t := 3) (p := 33) rfl ?_); refine H_put (j := 2) rfl rfl (.tmp 33) (.tmp 30) rfl (.int .i64 (nx (nx a))) rfl rfl (by rfl) ?hof (by rfl) (by kernel_rfl) HH.out p1 hin (by decide) ?_; (case hof => first | rfl | (show _ = (dn.length : Int).toNat * 4 + _; rw [Int.toNat_natCast]; first | rfl | omega)); intro wq hA hg1; replace HH := am hA; clear hA; replace HB := am (below_gr HB.out hg1 GB.out); replace KP := am (Kept.of_grown hg1 KP.out (fun q hq => .inl (by injection hq with hq; rw [← hq]; exact PG.out))); clear hg1) | ((with_reducible refine gate_store (t := 3) (p := 40) rfl ?_); refine H_put (j := 3) rfl rfl (.tmp 40) (.tmp 38) rfl (.int .i64 (nx (nx (nx a)))) rfl rfl (by rfl) ?hof (by rfl) (by kernel_rfl) HH.out p1 hin (by decide) ?_; (case hof => first | rfl | (show _ = (dn.length : Int).toNat * 4 + _; rw [Int.toNat_natCast]; first | rfl | omega)); intro wq hA hg1; replace HH := am hA; clear hA; replace HB := am (below_gr HB.out hg1 GB.out); replace KP := am (Kept.of_grown hg1 KP.out (fun q hq => .inl (by injection hq with hq; rw [← hq]; exact PG.out))); clear hg1))
   have hS := Kd.H_back (okp := fun _ => False) (x' := (⟨⟨a, (nx a), (nx (nx a))⟩, (nx (nx (nx a)))⟩ : S91)) HH.out (show k91.M _ _ (fun _ => False) (⟨⟨a, (nx a), (nx (nx a))⟩, (nx (nx (nx a)))⟩ : S91) [.int .i64 a, .int .i64 (nx a), .int .i64 (nx (nx a)), .int .i64 (nx (nx (nx a)))] from k91_mkM _ _ _ (⟨⟨a, (nx a), (nx (nx a))⟩, (nx (nx (nx a)))⟩ : S91)) (fun _ h => h.elim)
   have hs : (dn ++ x :: rs).set (dn.length : Int).toNat (⟨⟨a, (nx a), (nx (nx a))⟩, (nx (nx (nx a)))⟩ : S91) = (dn ++ [(⟨⟨a, (nx a), (nx (nx a))⟩, (nx (nx (nx a)))⟩ : S91)]) ++ rs := by simp
   rw [hs] at hS
   have HS := am hS
   clear hS hs HH
   go_wp2
   go_roundg rs.length
   case measure => have := hg.out; simp at this; omega
   case rel => exact ⟨dn ++ [(⟨⟨a, (nx a), (nx (nx a))⟩, (nx (nx (nx a)))⟩ : S91)], rs, (nx (nx (nx (nx a)))), by simp at hlen ⊢; omega, ⟨Nat.le_refl _⟩, rfl, by rw [List.length_append]; go_num, HB, KP, HS, HE, am (by rw [← HR.out]; simp [mkSe.f])⟩
def hdSe : List S91 → Int → Int → Prop
 | [], a, r => a = r
 | x :: xs, a, r => x = (⟨⟨a, (nx a), (nx (nx a))⟩, (nx (nx (nx a)))⟩ : S91) ∧ hdSe xs (nx (nx (nx (nx a)))) r
theorem hdSe.run (A : Option Addr) (c : Nat) (l0 : List S91) (a1 r : Int) (w : World) (hr : Kd.C k91 w A l0.length l0) (h : hdSe l0 a1 r) :
  Calls Tryz.prog 59 #[.slice A l0.length c, .int .i64 a1] w fun e w' => e = .returned (.int .i64 r) ∧ w' = w := by
 have HM := am hr.2.1
 have HR := am hr
 have HE := am h
 clear hr h
 go_enter Tryz.func59, Tryz.ntmps59
 go_wp2
 go_loopg [1, 5] l0.length (fun gg s1 s5 wr => ∃ (jj : Nat) (a : Int), jj ≤ l0.length ∧ Aside0 (l0.length - jj ≤ gg) ∧ s1 = .int .i64 a ∧ s5 = .int .i64 (jj : Int) ∧ wr = w ∧ Aside0 (hdSe (l0.drop jj) a r))
 case atStart => exact ⟨0, a1, Nat.zero_le _, ⟨by omega⟩, rfl, rfl, rfl, HE⟩
 case round =>
  clear HE
  obtain ⟨jj, a, hjj, hg, rfl, rfl, rfl, HE⟩ := hrel
  have hml := HM.out
  by_cases hlt : jj < l0.length
  ·have hltz : (jj : Int) < (l0.length : Int) := by omega
   have p1 : 0 ≤ (jj : Int) := by omega
   obtain ⟨ad, e, h0, h1, h2, h3⟩ := at_T91 HR.out (jj : Int) p1 hltz
   have hxx : rd_T91 l0 (jj : Int) = l0[jj] := by
    unfold rd_T91
    rw [Int.toNat_natCast, List.getD_eq_getElem?_getD, List.getElem?_eq_getElem hlt]
    rfl
   have E1 := HE.out
   rw [List.drop_eq_getElem_cons hlt] at E1
   obtain ⟨hx, hrest⟩ := E1
   rw [hxx, hx] at h0 h1 h2 h3
   have TR := am hrest
   clear hxx hx hrest HE
   subst e
   simp only [Int.toNat_natCast] at h0 h1 h2 h3
   go_wp2
   clear h0 h1 h2 h3
   go_roundg (l0.length - (jj + 1))
   case measure => have := hg.out; omega
   case rel => exact ⟨jj + 1, _, by omega, ⟨by omega⟩, rfl, by go_num, rfl, TR⟩
  ·have hltz : ¬ (jj : Int) < (l0.length : Int) := by omega
   have : jj = l0.length := by omega
   have E1 := HE.out
   rw [this, List.drop_length] at E1
   have E2 : a = r := E1
   subst E2
   clear HE E1
   go_wp2
   go_ret
   exact ⟨rfl, rfl⟩
set_option maxHeartbeats 4000000 in
theorem mkCa.run (x2 : Int) (P0_ : Nat → Prop) (u9000_ : Value) (l0 : List S91) (a1 : Int) (w0 w : World) (hB : Below w0.heap.size w0 w) (ho : Kd.R k91 91 w w0.heap.size P0_ u9000_ l0) :
  Calls Tryz.prog 29 #[.agg #[.int .i64 x2, u9000_], .int .i64 a1] w fun e w' => e = .returned (.int .i64 (mkSe.f l0 a1).1) ∧ Kd.R k91 91 w' w0.heap.size P0_ u9000_ (mkSe.f l0 a1).2 ∧ Below w0.heap.size w0 w' ∧ Kept w w' P0_ := by
 obtain ⟨A, c, rfl⟩ := Kd.R_slice ho
 have HO := am ho
 have HB := am hB
 have hu33 := Tryz.underlying33
 clear hB ho
 go_enter Tryz.func29, Tryz.ntmps29
 go_upto_region 1 with ((with_reducible refine gate_dst (N := 2) rfl ?_); refine box_event rfl (N := 2) rfl (cs := #[.int .i64 x2, .slice A l0.length c]) (t := 33) BX ?_; intro q2 hq2 wq hA hb; have hc := (blk_cell hA 1).trans (show _ = some (.slice A l0.length c) from rfl); replace HO := am (Kd.R_below HO.out hb); replace HB := am (below_step HB.out hb); have HK := am hb; clear hq2 hA hb)
 go_wp2_with (go_at_call 56; refine (mkSe.run P0_ _ l0 a1 w0 _ HB.out HO.out).mono ?_; rintro e w2 ⟨rfl, h1, h2, h3⟩)
 go_ret
 exact ⟨rfl, h1, h2, Kept.then_ (Kept.of_below HK.out P0_) h3 (fun q hq => .inl hq)⟩
set_option maxHeartbeats 4000000 in
theorem hdCa.run (x2 : Int) (A : Option Addr) (c : Nat) (l0 : List S91) (a1 r : Int) (w : World) (hr : Kd.C k91 w A l0.length l0) (h : hdSe l0 a1 r) (h0 : 0 ≤ r) :
  Calls Tryz.prog 32 #[.agg #[.int .i64 x2, .slice A l0.length c], .int .i64 a1] w fun e w' => e = .returned (.int .i64 r) ∧ Below w.heap.size w w' := by
 have HR := am hr
 have HE := am h
 have HB := am (Below.refl w.heap.size w)
 have hd := decide_eq_false (show ¬ r < 0 by omega)
 have hu33 := Tryz.underlying33
 clear hr h h0
 go_enter Tryz.func32, Tryz.ntmps32
 go_upto_region 1 with ((with_reducible refine gate_dst (N := 2) rfl ?_); refine box_event rfl (N := 2) rfl (cs := #[.int .i64 x2, .slice A l0.length c]) (t := 33) BX ?_; intro q2 hq2 wq hA hb; have hc := (blk_cell hA 1).trans (show _ = some (.slice A l0.length c) from rfl); replace HB := am (below_step HB.out hb); clear hq2 hA hb)
 go_wp2_with (go_at_call 59; refine (hdSe.run A c l0 a1 r _ (Kd.C_below HR.out HB.out) HE.out).mono ?_; rintro e w2 ⟨rfl, hw⟩; subst hw)
 go_ret
 exact ⟨rfl, HB.out⟩
theorem eqRu.run (x : S77) (w : World) : Calls Tryz.prog 53 #[.agg #[.int .i64 x.f0, .int .i64 x.f1, .int .i64 x.f2.f0, .int .i64 x.f2.f1, .int .i64 x.f3.f0, .int .i64 x.f3.f1, .int .i64 x.f4, .int .i64 x.f5], .agg #[.int .i64 x.f0, .int .i64 x.f1, .int .i64 x.f2.f0, .int .i64 x.f2.f1, .int .i64 x.f3.f0, .int .i64 x.f3.f1, .int .i64 x.f4, .int .i64 x.f5]] w fun e w' => e = .returned (.bool true) ∧ Below w.heap.size w w' := by
 have HB := am (Below.refl w.heap.size w)
 have hu := Tryz.underlying77
 go_enter Tryz.func53, Tryz.ntmps53
 go_upto_region 1 with (first | ((with_reducible refine gate_dst (N := 2) rfl ?_); refine box_event rfl (N := 2) rfl (cs := #[.int .i64 x.f0, .int .i64 x.f1, .int .i64 x.f2.f0, .int .i64 x.f2.f1, .int .i64 x.f3.f0, .int .i64 x.f3.f1, .int .i64 x.f4, .int .i64 x.f5]) (t := 77) BX ?_; intro q2 hg wq hA hb; have W2 := am hA; replace HB := am (below_step HB.out hb); clear hg hA hb) | ((with_reducible refine gate_dst (N := 3) rfl ?_); refine box_event rfl (N := 3) rfl (cs := #[.int .i64 x.f0, .int .i64 x.f1, .int .i64 x.f2.f0, .int .i64 x.f2.f1, .int .i64 x.f3.f0, .int .i64 x.f3.f1, .int .i64 x.f4, .int .i64 x.f5]) (t := 77) BX ?_; intro q3 hg wq hA hb; replace W2 := am (blk_below W2.out hb); have W3 := am hA; replace HB := am (below_step HB.out hb); clear hg hA hb))
 have ⟨_, _, _, _, _, _, _, _, _⟩ := y8 _ W2.out
 have ⟨_, _, _, _, _, _, _, _, _⟩ := y8 _ W3.out
 go_upto_region 7 with (go_at_call 77; refine (laws_eqBlock.calls x.f2.f0 x.f2.f1 x.f2.f0 x.f2.f1 true _ (by simp [laws_eqBlock.f])).mono ?_; rintro e wq ⟨rfl, hb⟩; replace W2 := am (blk_below W2.out hb); replace W3 := am (blk_below W3.out hb); replace HB := am (below_step HB.out hb); clear hb)
 have ⟨_, _, _, _, _, _, _, _, _⟩ := y8 _ W2.out
 have ⟨_, _, _, _, _, _, _, _, _⟩ := y8 _ W3.out
 go_upto_region 9 with (go_at_call 77; refine (laws_eqBlock.calls x.f3.f0 x.f3.f1 x.f3.f0 x.f3.f1 true _ (by simp [laws_eqBlock.f])).mono ?_; rintro e wq ⟨rfl, hb⟩; replace W2 := am (blk_below W2.out hb); replace W3 := am (blk_below W3.out hb); replace HB := am (below_step HB.out hb); clear hb)
 have ⟨_, _, _, _, _, _, _, _, _⟩ := y8 _ W2.out
 have ⟨_, _, _, _, _, _, _, _, _⟩ := y8 _ W3.out
 go_wp2
 go_ret
 exact ⟨rfl, HB.out⟩
theorem eqSe.run (x : S91) (w : World) : Calls Tryz.prog 78 #[.agg #[.int .i64 x.f0.f0, .int .i64 x.f0.f1, .int .i64 x.f0.f2, .int .i64 x.f1], .agg #[.int .i64 x.f0.f0, .int .i64 x.f0.f1, .int .i64 x.f0.f2, .int .i64 x.f1]] w fun e w' => e = .returned (.bool true) ∧ Below w.heap.size w w' := by
 have HB := am (Below.refl w.heap.size w)
 have hu := Tryz.underlying91
 go_enter Tryz.func78, Tryz.ntmps78
 go_upto_region 1 with (first | ((with_reducible refine gate_dst (N := 2) rfl ?_); refine box_event rfl (N := 2) rfl (cs := #[.int .i64 x.f0.f0, .int .i64 x.f0.f1, .int .i64 x.f0.f2, .int .i64 x.f1]) (t := 91) BX ?_; intro q2 hg wq hA hb; have W2 := am hA; replace HB := am (below_step HB.out hb); clear hg hA hb) | ((with_reducible refine gate_dst (N := 3) rfl ?_); refine box_event rfl (N := 3) rfl (cs := #[.int .i64 x.f0.f0, .int .i64 x.f0.f1, .int .i64 x.f0.f2, .int .i64 x.f1]) (t := 91) BX ?_; intro q3 hg wq hA hb; replace W2 := am (blk_below W2.out hb); have W3 := am hA; replace HB := am (below_step HB.out hb); clear hg hA hb))
 have ⟨_, _, _, _, _⟩ := y4 _ W2.out
 have ⟨_, _, _, _, _⟩ := y4 _ W3.out
 go_upto_region 3 with (go_at_call 97; refine (laws_eqCall.calls x.f0.f0 x.f0.f1 x.f0.f2 x.f0.f0 x.f0.f1 x.f0.f2 true _ (by simp [laws_eqCall.f])).mono ?_; rintro e wq ⟨rfl, hb⟩; replace W2 := am (blk_below W2.out hb); replace W3 := am (blk_below W3.out hb); replace HB := am (below_step HB.out hb); clear hb)
 have ⟨_, _, _, _, _⟩ := y4 _ W2.out
 have ⟨_, _, _, _, _⟩ := y4 _ W3.out
 go_wp2
 go_ret
 exact ⟨rfl, HB.out⟩
theorem eqRuS.run (A B : Option Addr) (c d : Nat) (l0 : List S77) (w : World) (h1 : Kd.C k77 w A l0.length l0) (h2 : Kd.C k77 w B l0.length l0) :
  Calls Tryz.prog 25 #[.slice A l0.length c, .slice B l0.length d] w fun e w' => e = .returned (.bool true) ∧ Below w.heap.size w w' := by
 have HM := am h1.2.1
 have H1 := am h1
 have H2 := am h2
 have HB := am (Below.refl w.heap.size w)
 have hnn : ((l0.length : Int) != (l0.length : Int)) = false := by simp
 clear h1 h2
 go_enter Tryz.func25, Tryz.ntmps25
 go_wp2
 go_loopg [5] l0.length (fun gg s5 wr => ∃ jj : Nat, jj ≤ l0.length ∧ Aside0 (l0.length - jj ≤ gg) ∧ s5 = .int .i64 (jj : Int) ∧ Aside0 (Below w.heap.size w wr))
 case atStart => exact ⟨0, Nat.zero_le _, ⟨by omega⟩, rfl, HB⟩
 case round =>
  clear HB
  obtain ⟨jj, hjj, hg, rfl, HB⟩ := hrel
  have hml := HM.out
  by_cases hlt : jj < l0.length
  ·have hltz : (jj : Int) < (l0.length : Int) := by omega
   have p1 : 0 ≤ (jj : Int) := by omega
   obtain ⟨a1, e1, f0, f1, f2, f3, f4, f5, f6, f7⟩ := at_T77 (Kd.C_below H1.out HB.out) (jj : Int) p1 hltz
   obtain ⟨a2, e2, g0, g1, g2, g3, g4, g5, g6, g7⟩ := at_T77 (Kd.C_below H2.out HB.out) (jj : Int) p1 hltz
   subst e1 e2
   generalize rd_T77 l0 (jj : Int) = x at f0 f1 f2 f3 f4 f5 f6 f7 g0 g1 g2 g3 g4 g5 g6 g7
   simp only [Int.toNat_natCast] at f0 f1 f2 f3 f4 f5 f6 f7 g0 g1 g2 g3 g4 g5 g6 g7
   generalize hwq : wr = wq at *
   clear hwq
   go_upto_region 6 with fail
   have hd := am (below_drew (Below.refl wq.heap.size wq))
   refine start_ (n := 10) (S := fun w' => w'.cell? (a1.add (jj * 8)) = some (.int .i64 x.f0) ∧ w'.cell? ⟨(a1.add (jj * 8)).block, (a1.add (jj * 8)).off + 1, none⟩ = some (.int .i64 x.f1) ∧ w'.cell? ⟨(a1.add (jj * 8)).block, (a1.add (jj * 8)).off + 2, none⟩ = some (.int .i64 x.f2.f0) ∧ w'.cell? ⟨(a1.add (jj * 8)).block, (a1.add (jj * 8)).off + 3, none⟩ = some (.int .i64 x.f2.f1) ∧ w'.cell? ⟨(a1.add (jj * 8)).block, (a1.add (jj * 8)).off + 4, none⟩ = some (.int .i64 x.f3.f0) ∧ w'.cell? ⟨(a1.add (jj * 8)).block, (a1.add (jj * 8)).off + 5, none⟩ = some (.int .i64 x.f3.f1) ∧ w'.cell? ⟨(a1.add (jj * 8)).block, (a1.add (jj * 8)).off + 6, none⟩ = some (.int .i64 x.f4) ∧ w'.cell? ⟨(a1.add (jj * 8)).block, (a1.add (jj * 8)).off + 7, none⟩ = some (.int .i64 x.f5) ∧ w'.cell? (a2.add (jj * 8)) = some (.int .i64 x.f0) ∧ w'.cell? ⟨(a2.add (jj * 8)).block, (a2.add (jj * 8)).off + 1, none⟩ = some (.int .i64 x.f1) ∧ w'.cell? ⟨(a2.add (jj * 8)).block, (a2.add (jj * 8)).off + 2, none⟩ = some (.int .i64 x.f2.f0) ∧ w'.cell? ⟨(a2.add (jj * 8)).block, (a2.add (jj * 8)).off + 3, none⟩ = some (.int .i64 x.f2.f1) ∧ w'.cell? ⟨(a2.add (jj * 8)).block, (a2.add (jj * 8)).off + 4, none⟩ = some (.int .i64 x.f3.f0) ∧ w'.cell? ⟨(a2.add (jj * 8)).block, (a2.add (jj * 8)).off + 5, none⟩ = some (.int .i64 x.f3.f1) ∧ w'.cell? ⟨(a2.add (jj * 8)).block, (a2.add (jj * 8)).off + 6, none⟩ = some (.int .i64 x.f4) ∧ w'.cell? ⟨(a2.add (jj * 8)).block, (a2.add (jj * 8)).off + 7, none⟩ = some (.int .i64 x.f5)) (ds := []) (tf 0 10) (by kernel_rfl) rfl rfl ⟨CX hd.out f0, CX hd.out f1, CX hd.out f2, CX hd.out f3, CX hd.out f4, CX hd.out f5, CX hd.out f6, CX hd.out f7, CX hd.out g0, CX hd.out g1, CX hd.out g2, CX hd.out g3, CX hd.out g4, CX hd.out g5, CX hd.out g6, CX hd.out g7⟩ (fun hHeld => ?_)
   refine tk 0 (some 17) (tf 1 9) (by kernel_rfl) hHeld ?_
   refine tk 1 (some 18) (tf 2 8) (by kernel_rfl) hHeld ?_
   refine tk 2 (some 19) (tf 3 7) (by kernel_rfl) hHeld ?_
   refine tk 3 (some 20) (tf 4 6) (by kernel_rfl) hHeld ?_
   refine tk 4 (some 21) (tf 5 5) (by kernel_rfl) hHeld ?_
   refine tk 5 (some 22) (tf 6 4) (by kernel_rfl) hHeld ?_
   refine tk 6 (some 23) (tf 7 3) (by kernel_rfl) hHeld ?_
   refine tk 7 (some 24) (tf 8 2) (by kernel_rfl) hHeld ?_
   refine one_ (i := 8) (N := some 25) (tf 9 1) rfl rfl (by kernel_rfl) (by decide) (fun K hK => ?_)
   refine goes_ Tryz.func53 (by kernel_rfl) rfl #[.agg #[.int .i64 x.f0, .int .i64 x.f1, .int .i64 x.f2.f0, .int .i64 x.f2.f1, .int .i64 x.f3.f0, .int .i64 x.f3.f1, .int .i64 x.f4, .int .i64 x.f5], .agg #[.int .i64 x.f0, .int .i64 x.f1, .int .i64 x.f2.f0, .int .i64 x.f2.f1, .int .i64 x.f3.f0, .int .i64 x.f3.f1, .int .i64 x.f4, .int .i64 x.f5]] (by rfl) rfl rfl MT ?_
   refine (eqRu.run x _).mono ?_
   rintro e w9 ⟨rfl, hb0⟩
   have hb := hd.out.trans (hb0.mono hd.out.size)
   refine ⟨_, rfl, ?_⟩
   refine hK.out _ _ ⟨CX hb f0, CX hb f1, CX hb f2, CX hb f3, CX hb f4, CX hb f5, CX hb f6, CX hb f7, CX hb g0, CX hb g1, CX hb g2, CX hb g3, CX hb g4, CX hb g5, CX hb g6, CX hb g7⟩ (fun hHeld => ?_)
   replace HB := am (below_step HB.out hb)
   clear hK K hb hb0 hd f0 f1 f2 f3 f4 f5 f6 f7 g0 g1 g2 g3 g4 g5 g6 g7
   refine nm (some 25) ?_
   refine tk 9 (some 26) (tf 10 0) (by kernel_rfl) hHeld ?_
   clear hHeld
   refine done_ (by kernel_rfl) ?_
   go_wp2
   go_roundg (l0.length - (jj + 1))
   case measure => have := hg.out; omega
   case rel => exact ⟨jj + 1, by omega, ⟨by omega⟩, by go_num, HB⟩
  ·have hltz : ¬ (jj : Int) < (l0.length : Int) := by omega
   go_wp2
   go_ret
   exact ⟨rfl, HB.out⟩
theorem eqSeS.run (A B : Option Addr) (c d : Nat) (l0 : List S91) (w : World) (h1 : Kd.C k91 w A l0.length l0) (h2 : Kd.C k91 w B l0.length l0) :
  Calls Tryz.prog 54 #[.slice A l0.length c, .slice B l0.length d] w fun e w' => e = .returned (.bool true) ∧ Below w.heap.size w w' := by
 have HM := am h1.2.1
 have H1 := am h1
 have H2 := am h2
 have HB := am (Below.refl w.heap.size w)
 have hnn : ((l0.length : Int) != (l0.length : Int)) = false := by simp
 clear h1 h2
 go_enter Tryz.func54, Tryz.ntmps54
 go_wp2
 go_loopg [5] l0.length (fun gg s5 wr => ∃ jj : Nat, jj ≤ l0.length ∧ Aside0 (l0.length - jj ≤ gg) ∧ s5 = .int .i64 (jj : Int) ∧ Aside0 (Below w.heap.size w wr))
 case atStart => exact ⟨0, Nat.zero_le _, ⟨by omega⟩, rfl, HB⟩
 case round =>
  clear HB
  obtain ⟨jj, hjj, hg, rfl, HB⟩ := hrel
  have hml := HM.out
  by_cases hlt : jj < l0.length
  ·have hltz : (jj : Int) < (l0.length : Int) := by omega
   have p1 : 0 ≤ (jj : Int) := by omega
   obtain ⟨a1, e1, f0, f1, f2, f3⟩ := at_T91 (Kd.C_below H1.out HB.out) (jj : Int) p1 hltz
   obtain ⟨a2, e2, g0, g1, g2, g3⟩ := at_T91 (Kd.C_below H2.out HB.out) (jj : Int) p1 hltz
   subst e1 e2
   generalize rd_T91 l0 (jj : Int) = x at f0 f1 f2 f3 g0 g1 g2 g3
   simp only [Int.toNat_natCast] at f0 f1 f2 f3 g0 g1 g2 g3
   generalize hwq : wr = wq at *
   clear hwq
   go_upto_region 6 with fail
   have hd := am (below_drew (Below.refl wq.heap.size wq))
   refine start_ (n := 10) (S := fun w' => w'.cell? (a1.add (jj * 4)) = some (.int .i64 x.f0.f0) ∧ w'.cell? ⟨(a1.add (jj * 4)).block, (a1.add (jj * 4)).off + 1, none⟩ = some (.int .i64 x.f0.f1) ∧ w'.cell? ⟨(a1.add (jj * 4)).block, (a1.add (jj * 4)).off + 2, none⟩ = some (.int .i64 x.f0.f2) ∧ w'.cell? ⟨(a1.add (jj * 4)).block, (a1.add (jj * 4)).off + 3, none⟩ = some (.int .i64 x.f1) ∧ w'.cell? (a2.add (jj * 4)) = some (.int .i64 x.f0.f0) ∧ w'.cell? ⟨(a2.add (jj * 4)).block, (a2.add (jj * 4)).off + 1, none⟩ = some (.int .i64 x.f0.f1) ∧ w'.cell? ⟨(a2.add (jj * 4)).block, (a2.add (jj * 4)).off + 2, none⟩ = some (.int .i64 x.f0.f2) ∧ w'.cell? ⟨(a2.add (jj * 4)).block, (a2.add (jj * 4)).off + 3, none⟩ = some (.int .i64 x.f1)) (ds := []) (tf 0 10) (by kernel_rfl) rfl rfl ⟨CX hd.out f0, CX hd.out f1, CX hd.out f2, CX hd.out f3, CX hd.out g0, CX hd.out g1, CX hd.out g2, CX hd.out g3⟩ (fun hHeld => ?_)
   refine tk 0 (some 17) (tf 1 9) (by kernel_rfl) hHeld ?_
   refine tk 1 (some 18) (tf 2 8) (by kernel_rfl) hHeld ?_
   refine tk 2 (some 19) (tf 3 7) (by kernel_rfl) hHeld ?_
   refine tk 3 (some 20) (tf 4 6) (by kernel_rfl) hHeld ?_
   refine tk 4 (some 21) (tf 5 5) (by kernel_rfl) hHeld ?_
   refine tk 5 (some 22) (tf 6 4) (by kernel_rfl) hHeld ?_
   refine tk 6 (some 23) (tf 7 3) (by kernel_rfl) hHeld ?_
   refine tk 7 (some 24) (tf 8 2) (by kernel_rfl) hHeld ?_
   refine one_ (i := 8) (N := some 25) (tf 9 1) rfl rfl (by kernel_rfl) (by decide) (fun K hK => ?_)
   refine goes_ Tryz.func78 (by kernel_rfl) rfl #[.agg #[.int .i64 x.f0.f0, .int .i64 x.f0.f1, .int .i64 x.f0.f2, .int .i64 x.f1], .agg #[.int .i64 x.f0.f0, .int .i64 x.f0.f1, .int .i64 x.f0.f2, .int .i64 x.f1]] (by rfl) rfl rfl MT ?_
   refine (eqSe.run x _).mono ?_
   rintro e w9 ⟨rfl, hb0⟩
   have hb := hd.out.trans (hb0.mono hd.out.size)
   refine ⟨_, rfl, ?_⟩
   refine hK.out _ _ ⟨CX hb f0, CX hb f1, CX hb f2, CX hb f3, CX hb g0, CX hb g1, CX hb g2, CX hb g3⟩ (fun hHeld => ?_)
   replace HB := am (below_step HB.out hb)
   clear hK K hb hb0 hd f0 f1 f2 f3 g0 g1 g2 g3
   refine nm (some 25) ?_
   refine tk 9 (some 26) (tf 10 0) (by kernel_rfl) hHeld ?_
   clear hHeld
   refine done_ (by kernel_rfl) ?_
   go_wp2
   go_roundg (l0.length - (jj + 1))
   case measure => have := hg.out; omega
   case rel => exact ⟨jj + 1, by omega, ⟨by omega⟩, by go_num, HB⟩
  ·have hltz : ¬ (jj : Int) < (l0.length : Int) := by omega
   go_wp2
   go_ret
   exact ⟨rfl, HB.out⟩
theorem eqCa.run (x2 : Int) (A B : Option Addr) (c d : Nat) (l0 : List S91) (w : World) (h1 : Kd.C k91 w A l0.length l0) (h2 : Kd.C k91 w B l0.length l0) :
  Calls Tryz.prog 26 #[.agg #[.int .i64 x2, .slice A l0.length c], .agg #[.int .i64 x2, .slice B l0.length d]] w fun e w' => e = .returned (.bool true) ∧ Below w.heap.size w w' := by
 have H1 := am h1
 have H2 := am h2
 have HB := am (Below.refl w.heap.size w)
 have hu33 := Tryz.underlying33
 clear h1 h2
 go_enter Tryz.func26, Tryz.ntmps26
 go_upto_region 1 with (first | ((with_reducible refine gate_dst (N := 2) rfl ?_); refine box_event rfl (N := 2) rfl (cs := #[.int .i64 x2, .slice A l0.length c]) (t := 33) BX ?_; intro q2 hg wq hA hb; have W2 := am hA; replace HB := am (below_step HB.out hb); clear hg hA hb) | ((with_reducible refine gate_dst (N := 3) rfl ?_); refine box_event rfl (N := 3) rfl (cs := #[.int .i64 x2, .slice B l0.length d]) (t := 33) BX ?_; intro q3 hg wq hA hb; replace W2 := am (blk_below W2.out hb); have W3 := am hA; replace HB := am (below_step HB.out hb); clear hg hA hb))
 have ⟨_, _, _⟩ := y2 _ W2.out
 have ⟨_, _, _⟩ := y2 _ W3.out
 go_wp2_with (go_at_call 54; refine (eqSeS.run A B c d l0 _ (Kd.C_below H1.out HB.out) (Kd.C_below H2.out HB.out)).mono ?_; rintro e wq ⟨rfl, hb⟩; replace HB := am (below_step HB.out hb); clear hb)
 go_ret
 exact ⟨rfl, HB.out⟩
/-- A piece of a variable is filled. -/
theorem stseg {P : Program} {ops : Array Oper} {rest : List Oper} {o : Oper} {a : Act} {Q : Exit → Act → World → Prop} {W w0 : World} {t e : TypeId} {g off : Nat} {cur : Array Value} (hgd : o.guard = none) (hN : o.dst = none) (x y : Operand) (ho : o.op = .store t x y)
  (v : Value) (vs : Array Value) (hv : v.cells = vs) (hx : a.eval x = .pointer (some ⟨g, off, none⟩)) (hy : a.eval y = v) (hb : W.heap[g]? = some (.cells cur e (0, 0))) (hfit : off + vs.size ≤ cur.size) (hi : (P.info? t).map (·.size) = some vs.size) (h1 : vs.all (·.oneCell') = true)
  (new : Array Value) (hnew : new.toList = cur.toList.take off ++ vs.toList ++ cur.toList.drop (off + vs.toList.length)) (HB : Below w0.heap.size w0 W) (hg : w0.heap.size ≤ g)
  (h : ∀ w1, w1.heap[g]? = some (.cells new e (0, 0)) → Below w0.heap.size w0 w1 → (∀ k, k ≠ g → w1.heap[k]? = W.heap[k]?) → wpList P ops Q rest a w1) : wpList P ops Q (o :: rest) a W := by
 have hthere : W.there g off vs.size := fun j hj => by
  refine ⟨?_, blk_frozen hb (off + j)⟩
  rw [blk_cell hb (off + j), Array.getElem?_eq_getElem (by omega)]
  rfl
 have hrun := run_storeVar_v (P := P) W g off t v vs hv hthere hi h1
 refine wpList_plain hgd fun K hK => ?_
 unfold Oper.wp execOp
 simp only [ho, hx, hy, Instr.storeAt, Instr.sureAddr, Sem.run_bind, Sem.run_pure, Result.andThen_ok, hrun]
 obtain ⟨cur', h3, h4, h5⟩ := setCells_row vs.toList off W cur hb (by simp; omega)
 obtain ⟨s1, s2, s3, s4⟩ := setCells_same g vs.toList off W
 have hc : cur' = new := by
  apply Array.ext'
  rw [h5, hnew]
 rw [hc] at h3
 show K (a.put o.dst undef) _
 rw [hN]
 refine hK _ _ (h _ h3 ⟨s1.trans HB.os, s2.trans HB.tape, s3.trans HB.output, by rw [s4]; exact HB.size, fun k hk => ?_⟩ (fun k hk => setCells_far vs.toList off k hk))
 rw [setCells_far vs.toList off k (by omega)]
 exact HB.block k hk
/-- A piece of a variable is read. -/
theorem ldseg {P : Program} {ops : Array Oper} {rest : List Oper} {o : Oper} {a : Act} {Q : Exit → Act → World → Prop} {W : World} {t e : TypeId} {d : TypeDesc} {g off : Nat} {cur : Array Value} (hgd : o.guard = none) (x : Operand) (ho : o.op = .load t x) (hx : a.eval x = .pointer (some ⟨g, off, none⟩)) (q : List Value)
  (hb : W.heap[g]? = some (.cells cur e (0, 0))) (hq : (cur.toList.drop off).take q.length = q) (hu : P.underlying t = some d) (hd : d.isRow = true) (hi : (P.info? t).map (·.size) = some q.length)
  (h : wpList P ops Q rest (a.put o.dst (.agg q.toArray)) W) : wpList P ops Q (o :: rest) a W := by
 refine wpList_load_mid hgd t x ho g off hx q d (fun j v hv => ?_) hu hd hi h
 rw [← hq] at hv
 rw [blk_cell hb, ← Array.getElem?_toList]
 rw [List.getElem?_take] at hv
 split at hv
 ·rwa [List.getElem?_drop] at hv
 ·cases hv
/-- A row that may be read. -/
def RV {α : Type} (d : Kd α) (w : World) (v : Value) (xs : List α) : Prop := ∃ A c, v = .slice A xs.length c ∧ xs.length ≤ c ∧ d.C w A xs.length xs
theorem RV.below {α : Type} {d : Kd α} {w w' : World} {v : Value} {xs : List α} (h : RV d w v xs) (hb : Below w.heap.size w w') : RV d w' v xs := by
 obtain ⟨A, c, e, g, h⟩ := h
 exact ⟨A, c, e, g, Kd.C_below h hb⟩
/-- A gate's cells, that may be read. -/
def GX {R E S : Type} (kr : Kd R) (ke : Kd E) (ks : Kd S) (w : World) (cs : Array Value) (x0 : Int) (x1 : List R) (x2 : Int) (x3 : List E) (x4 x5 : List S) : Prop := ∃ v1 v3 v4 v5, cs = #[.int .i64 x0, v1, .int .i64 x2, v3, v4, v5] ∧ RV kr w v1 x1 ∧ RV ke w v3 x3 ∧ RV ks w v4 x4 ∧ RV ks w v5 x5
theorem GX.below {R E S : Type} {kr : Kd R} {ke : Kd E} {ks : Kd S} {w w' : World} {cs : Array Value} {x0 : Int} {x1 : List R} {x2 : Int} {x3 : List E} {x4 x5 : List S} (h : GX kr ke ks w cs x0 x1 x2 x3 x4 x5) (hb : Below w.heap.size w w') : GX kr ke ks w' cs x0 x1 x2 x3 x4 x5 := by
 obtain ⟨v1, v3, v4, v5, e, h1, h3, h4, h5⟩ := h
 exact ⟨v1, v3, v4, v5, e, h1.below hb, h3.below hb, h4.below hb, h5.below hb⟩
theorem GX.size {R E S : Type} {kr : Kd R} {ke : Kd E} {ks : Kd S} {w : World} {cs : Array Value} {x0 : Int} {x1 : List R} {x2 : Int} {x3 : List E} {x4 x5 : List S} (h : GX kr ke ks w cs x0 x1 x2 x3 x4 x5) : cs.size = 6 ∧ cs.all (·.oneCell') = true := by
 obtain ⟨_, _, _, _, rfl, ⟨A1, c1, rfl, _⟩, ⟨A3, c3, rfl, _⟩, ⟨A4, c4, rfl, _⟩, ⟨A5, c5, rfl, _⟩⟩ := h
 exact ⟨rfl, by kernel_rfl⟩
abbrev LG := GX k81 k109 k69
abbrev IG := GX k77 k91 k50
/-- A gate of one's own, between b and t: outs below N, ins above. -/
def OG (w : World) (b N t : Nat) (cs : Array Value) (x0 : Int) (x1 : List S77) (x2 : Int) (x3 : List S91) (x4 : List S50) (x5 : List S50) : Prop := ∃ v1 v3 v4 v5, cs = #[.int .i64 x0, v1, .int .i64 x2, v3, v4, v5] ∧ Kd.R k77 77 w b (fun k => k < t) v1 x1 ∧ Kd.R k91 91 w b (fun k => k < t) v3 x3 ∧ Kd.S k50 50 w b (fun k => k < N ∧ k < t) v4 x4 ∧ Kd.S k50 50 w b (fun k => N ≤ k ∧ k < t) v5 x5
theorem OG.keep {w w1 : World} {b N t : Nat} {cs : Array Value} {x0 : Int} {x1 : List S77} {x2 : Int} {x3 : List S91} {x4 : List S50} {x5 : List S50} (h : OG w b N t cs x0 x1 x2 x3 x4 x5) (hw : ∀ k, b ≤ k → k < t → k < w.heap.size → w1.heap[k]? = w.heap[k]?) : OG w1 b N t cs x0 x1 x2 x3 x4 x5 := by
 obtain ⟨v1, v3, v4, v5, e, h1, h3, h4, h5⟩ := h
 exact ⟨v1, v3, v4, v5, e, Kd.R_mono (Kd.R_move (Kd.R_bound h1) (fun k hk => hw k hk.2.1 hk.1 hk.2.2.1)) (fun _ h => h.1), Kd.R_mono (Kd.R_move (Kd.R_bound h3) (fun k hk => hw k hk.2.1 hk.1 hk.2.2.1)) (fun _ h => h.1),
  Kd.S_mono (Kd.S_move (Kd.S_bound h4) (fun k hk => hw k hk.2.1 hk.1.2 hk.2.2.1)) (fun _ h => h.1), Kd.S_mono (Kd.S_move (Kd.S_bound h5) (fun k hk => hw k hk.2.1 hk.1.2 hk.2.2.1)) (fun _ h => h.1)⟩
theorem OG.read {w : World} {b N t : Nat} {cs : Array Value} {x0 : Int} {x1 : List S77} {x2 : Int} {x3 : List S91} {x4 : List S50} {x5 : List S50} (h : OG w b N t cs x0 x1 x2 x3 x4 x5) : IG w cs x0 x1 x2 x3 x4 x5 := by
 obtain ⟨v1, v3, v4, v5, e, h1, h3, h4, h5⟩ := h
 exact ⟨v1, v3, v4, v5, e, Kd.R_reads h1, Kd.R_reads h3, Kd.S_reads h4, Kd.S_reads h5⟩
theorem R_past {α : Type} {d : Kd α} {e e' b : Nat} {ok : Nat → Prop} {w w' : World} {u v : Value} {xs : List α} (h : d.R e w b ok u xs) (hty : ∀ k, v.ownBlock = some k → ∃ cells, w.heap[k]? = some (.cells cells e' (0, 0))) (ht : ∀ q, q ∈ e :: d.E → q ≠ e') (hk : Kept w w' (fun k => some k = v.ownBlock)) : d.R e w' b ok u xs :=
 Kd.R_mono (Kd.R_step (Kd.R_apart' h hty ht) (fun k hk' hlt => hk.2 k hlt (fun e => hk'.2 e))) (fun _ h => h.1)
theorem S_past {α : Type} {d : Kd α} {e e' b : Nat} {ok : Nat → Prop} {w w' : World} {u v : Value} {xs : List α} (h : Kd.S d e w b ok u xs) (hty : ∀ k, v.ownBlock = some k → ∃ cells, w.heap[k]? = some (.cells cells e' (0, 0))) (ht : ∀ q, q ∈ e :: d.E → q ≠ e') (hk : Kept w w' (fun k => some k = v.ownBlock)) : Kd.S d e w' b ok u xs :=
 Kd.S_mono (Kd.S_step (Kd.S_apart' h hty ht) (fun k hk' hlt => hk.2 k hlt (fun e => hk'.2 e))) (fun _ h => h.1)
/-- What the keys' rows lead to: blocks of keys and of numbers. -/
def SB (w : World) (ok : Nat → Prop) (b : Nat) (k : Nat) : Prop := ok k ∧ b ≤ k ∧ k < w.heap.size ∧ ∃ q, q ∈ 50 :: k50.E ∧ ∃ cells, w.heap[k]? = some (.cells cells q (0, 0))
theorem R_pastS {α : Type} {d : Kd α} {e b b' : Nat} {ok ok' : Nat → Prop} {w w' : World} {u : Value} {xs : List α} (hE : d.E = []) (ht : ∀ q, q ∈ 50 :: k50.E → q ≠ e) (h : d.R e w b ok u xs) (hk : Kept w w' (SB w ok' b')) : d.R e w' b ok u xs := by
 have hT := Kd.R_typed h
 refine Kd.R_reok hE (Kd.R_step (Kd.R_tight hE h) (fun k hk' hlt => hk.2 k hlt (fun hs => ?_))) h.1
 obtain ⟨_, _, _, q, hq, c1, h1⟩ := hs
 obtain ⟨c2, h2⟩ := hT k hk'.symm
 rw [h1] at h2
 injection h2 with h2
 injection h2 with _ h2
 exact ht q hq h2
theorem S_pastN {α : Type} {d : Kd α} {e b : Nat} {ok P : Nat → Prop} {w w' : World} {u : Value} {xs : List α} (h : Kd.S d e w b ok u xs) (hp : ∀ q, ok q → P q → False) (hk : Kept w w' P) : Kd.S d e w' b ok u xs := Kd.S_step h (fun k h1 h2 => hk.2 k h2 (fun h3 => hp k h1 h3))
def mkGate.f (k : Nat) (x0 : Int) (x1 : List S77) (x2 : Int) (x3 : List S91) (x4 : List S50) (x5 : List S50) (a : Int) : Option (Int × List S77 × List S91 × List S50 × List S50) := (mkSaS.f k x4 (mkSe.f x3 (mkRu.f x1 a).1).1).bind fun r => (mkSaS.f k x5 r.1).bind fun s => some (s.1, (mkRu.f x1 a).2, (mkSe.f x3 (mkRu.f x1 a).1).2, r.2, s.2)
theorem mkG (k : Nat) (cs : Array Value) (x0 : Int) (x1 : List S77) (x2 : Int) (x3 : List S91) (x4 : List S50) (x5 : List S50) (a r : Int) (y1 : List S77) (y3 : List S91) (y4 y5 : List S50) (N t : Nat) (w0 w : World) (hB : Below w0.heap.size w0 w) (htw : t ≤ w.heap.size) (H : OG w w0.heap.size N t cs x0 x1 x2 x3 x4 x5) (h : mkGate.f k x0 x1 x2 x3 x4 x5 a = some (r, y1, y3, y4, y5)) :
  Calls Tryz.prog 9 #[.agg cs, .int .i64 a] w fun e w' => e = .returned (.int .i64 r) ∧ OG w' w0.heap.size N t cs x0 y1 x2 y3 y4 y5 ∧ Below w0.heap.size w0 w' ∧ Kept w w' (fun k => w0.heap.size ≤ k ∧ k < t) := by
 obtain ⟨v1, v3, v4, v5, rfl, h1, h3, h4, h5⟩ := H
 simp only [mkGate.f] at h
 obtain ⟨⟨r1, r2⟩, hr, h⟩ := Option.bind_eq_some_iff.mp h
 obtain ⟨⟨s1, s2⟩, hs, h⟩ := Option.bind_eq_some_iff.mp h
 simp only [Option.some.injEq, Prod.mk.injEq] at h
 obtain ⟨rfl, rfl, rfl, rfl, rfl⟩ := h
 have E4 := am hr
 have E5 := am hs
 have HB := am hB
 have KP := am (Kept.refl w (fun k => w0.heap.size ≤ k ∧ k < t))
 have H1 := am h1
 have H3 := am h3
 have H4 := am h4
 have H5 := am h5
 obtain ⟨A1, c1, rfl⟩ := Kd.R_slice h1
 obtain ⟨A3, c3, rfl⟩ := Kd.R_slice h3
 obtain ⟨A4, c4, rfl⟩ := Kd.S_slice h4
 obtain ⟨A5, c5, rfl⟩ := Kd.S_slice h5
 have hu36 := Tryz.underlying36
 have hu33 := Tryz.underlying33
 clear hB h1 h3 h4 h5 hr hs
 go_enter Tryz.func9, Tryz.ntmps9
 go_upto_region 1 with (first | ((with_reducible refine gate_dst (N := 2) rfl ?_); refine box_event rfl (N := 2) rfl (cs := #[.int .i64 x0, .slice A1 x1.length c1, .int .i64 x2, .slice A3 x3.length c3, .slice A4 x4.length c4, .slice A5 x5.length c5]) (t := 36) BX ?_; intro q2 hq2 wq hA hb; have W2 := am hA; have G2 := am (show t ≤ q2 by omega); replace H1 := am (Kd.R_below H1.out hb); replace H3 := am (Kd.R_below H3.out hb); replace H4 := am (Kd.S_below H4.out hb); replace H5 := am (Kd.S_below H5.out hb); replace HB := am (below_step HB.out hb); replace KP := am (KP.out.below hb); clear hq2 hA hb))
 have hc := (blk_cell W2.out 1).trans (show _ = some (.slice A1 x1.length c1) from rfl)
 go_upto_region 2 with (go_at_call 28; refine (mkRu.run _ _ x1 a w0 _ HB.out (Kd.R_tight rfl H1.out)).mono ?_; rintro e w1 ⟨rfl, hR, hb, hk⟩; replace W2 := am ((hk.2 q2 (blk_lt W2.out) (fun hP => by have := H1.out.1 q2 hP.symm; have := G2.out; omega)).trans W2.out); replace H3 := am (R_past H3.out (Kd.R_typed H1.out) (by decide) hk); replace H4 := am (S_past H4.out (Kd.R_typed H1.out) (by decide) hk); replace H5 := am (S_past H5.out (Kd.R_typed H1.out) (by decide) hk); replace KP := am (Kept.then_ KP.out hk (fun q hq => .inl ⟨Kd.R_base H1.out q hq.symm, H1.out.1 q hq.symm⟩)); replace H1 := am (Kd.R_reok rfl hR H1.out.1); replace HB := am hb; clear hR hb hk)
 clear hc
 go_upto_region 3 with (first | ((with_reducible refine gate_dst (N := 10) rfl ?_); refine ldseg (t := 33) rfl (.tmp 9) rfl (by rfl) [.int .i64 x2, .slice A3 x3.length c3] W2.out (by rfl) hu33 rfl (by kernel_rfl) ?_) | (go_at_call 29; refine (mkCa.run x2 _ _ x3 (mkRu.f x1 a).1 w0 _ HB.out (Kd.R_tight rfl H3.out)).mono ?_; rintro e w1 ⟨rfl, hR, hb, hk⟩; replace W2 := am ((hk.2 q2 (blk_lt W2.out) (fun hP => by have := H3.out.1 q2 hP.symm; have := G2.out; omega)).trans W2.out); replace H1 := am (R_past H1.out (Kd.R_typed H3.out) (by decide) hk); replace H4 := am (S_past H4.out (Kd.R_typed H3.out) (by decide) hk); replace H5 := am (S_past H5.out (Kd.R_typed H3.out) (by decide) hk); replace KP := am (Kept.then_ KP.out hk (fun q hq => .inl ⟨Kd.R_base H3.out q hq.symm, H3.out.1 q hq.symm⟩)); replace H3 := am (Kd.R_reok rfl hR H3.out.1); replace HB := am hb; clear hR hb hk))
 have hc := (blk_cell W2.out 4).trans (show _ = some (.slice A4 x4.length c4) from rfl)
 go_upto_region 4 with (go_at_call 30; refine (mkSaS.run k _ _ x4 (mkSe.f x3 (mkRu.f x1 a).1).1 r1 r2 w0 _ HB.out (Kd.S_bound H4.out) E4.out).mono ?_; rintro e w1 ⟨rfl, hR, hb, hk⟩; replace W2 := am ((hk.2 q2 (blk_lt W2.out) (fun hP => by have := hP.1.2; have := G2.out; omega)).trans W2.out); replace H1 := am (R_pastS rfl (by decide) H1.out hk); replace H3 := am (R_pastS rfl (by decide) H3.out hk); replace H5 := am (S_pastN H5.out (fun q h1 h2 => by have := h1.1; have := h2.1.1; omega) hk); replace KP := am (Kept.then_ KP.out hk (fun q hq => .inl ⟨hq.2.1, hq.1.2⟩)); replace H4 := am (Kd.S_mono hR (fun q hq => hq.1)); replace HB := am hb; clear hR hb hk)
 clear hc
 have hc := (blk_cell W2.out 5).trans (show _ = some (.slice A5 x5.length c5) from rfl)
 go_wp2_with (go_at_call 30; refine (mkSaS.run k _ _ x5 r1 s1 s2 w0 _ HB.out (Kd.S_bound H5.out) E5.out).mono ?_; rintro e w1 ⟨rfl, hR, hb, hk⟩; replace H1 := am (R_pastS rfl (by decide) H1.out hk); replace H3 := am (R_pastS rfl (by decide) H3.out hk); replace H4 := am (S_pastN H4.out (fun q h1 h2 => by have := h1.1; have := h2.1.1; omega) hk); replace KP := am (Kept.then_ KP.out hk (fun q hq => .inl ⟨hq.2.1, hq.1.2⟩)); replace H5 := am (Kd.S_mono hR (fun q hq => hq.1)); replace HB := am hb; clear hR hb hk)
 go_ret
 exact ⟨rfl, ⟨_, _, _, _, rfl, H1.out, H3.out, H4.out, H5.out⟩, HB.out, KP.out⟩
theorem OG.of {w : World} {b N : Nat} {v1 v3 v4 v5 : Value} {x0 : Int} {x1 : List S77} {x2 : Int} {x3 : List S91} {x4 : List S50} {x5 : List S50} (h1 : Kd.R k77 77 w b (fun _ => True) v1 x1) (h3 : Kd.R k91 91 w b (fun _ => True) v3 x3) (h4 : Kd.S k50 50 w b (fun k => k < N) v4 x4) (h5 : Kd.S k50 50 w b (fun k => N ≤ k) v5 x5) : OG w b N w.heap.size #[.int .i64 x0, v1, .int .i64 x2, v3, v4, v5] x0 x1 x2 x3 x4 x5 :=
 ⟨_, _, _, _, rfl, Kd.R_mono (Kd.R_bound h1) (fun k hk => hk.2.2.1), Kd.R_mono (Kd.R_bound h3) (fun k hk => hk.2.2.1), Kd.S_mono (Kd.S_bound h4) (fun k hk => ⟨hk.1, hk.2.2.1⟩), Kd.S_mono (Kd.S_bound h5) (fun k hk => ⟨hk.1, hk.2.2.1⟩)⟩
theorem OG.lower {w : World} {b b' N t : Nat} {cs : Array Value} {x0 : Int} {x1 : List S77} {x2 : Int} {x3 : List S91} {x4 : List S50} {x5 : List S50} (h : OG w b N t cs x0 x1 x2 x3 x4 x5) (hb : b' ≤ b) : OG w b' N t cs x0 x1 x2 x3 x4 x5 := by
 obtain ⟨v1, v3, v4, v5, e, h1, h3, h4, h5⟩ := h
 exact ⟨v1, v3, v4, v5, e, Kd.R_lower h1 hb, Kd.R_lower h3 hb, Kd.S_lower h4 hb, Kd.S_lower h5 hb⟩
theorem OG.nil (w : World) (b N t : Nat) : OG w b N t #[.int .i64 0, .slice none 0 0, .int .i64 0, .slice none 0 0, .slice none 0 0, .slice none 0 0] 0 [] 0 [] [] [] := ⟨_, _, _, _, rfl, Kd.R_nil _ _ _ _ _, Kd.R_nil _ _ _ _ _, Kd.S_nil _ _ _ _ _, Kd.S_nil _ _ _ _ _⟩
def itick.f (k : Nat) (x0 : Int) (x1 : List S77) (x2 : Int) (x3 : List S91) (x4 : List S50) (x5 : List S50) : Option (Int × List S77 × Int × List S91 × List S50 × List S50) := (impl_GateOk.f k x0 x1 x2 x3 x4 x5).bind fun ok => if ok = true then (impl_Gate_copied.f k x0 x1 x2 x3 x4 x5).bind fun g => if g.1 = 1000000 then some g else some (wrap64 (g.1 + 1), g.2.1, g.2.2.1, g.2.2.2.1, g.2.2.2.2.1, g.2.2.2.2.2.filter (fun x => !lateF (wrap64 (g.1 + 1)) x)) else some (0, [], 0, [], [], [])
theorem mkboxg {P : Program} {ops : Array Oper} {rest : List Oper} {o o2 : Oper} {a : Act} {Q : Exit → Act → World → Prop} {W : World} (hgd : o.guard = none) {N : Tmp} (hd : o.dst = some N) {cs : Array Value} {t : TypeId}
  (hrun : (execOp a.eval o).run P W = .ok (.value (.pointer (some ⟨W.heap.size, 0, none⟩))) (W.alloc (.cells cs t (0, 0))))
  (hgd2 : o2.guard = none) (hN2 : o2.dst = none) (x y : Operand) (ho2 : o2.op = .store t x y) (vs : Array Value)
  (hx : ∀ v, (a.put (some N) v).eval x = v) (hy : ∀ v, (a.put (some N) v).eval y = .agg vs) (hs : vs.size = cs.size)
  (hi : (P.info? t).map (·.size) = some vs.size) (h1 : vs.all (·.oneCell') = true)
  (h : ∀ g w1, g = W.heap.size → w1.heap[g]? = some (.cells vs t (0, 0)) → Below W.heap.size W w1 → wpList P ops Q rest (a.put (some N) (.pointer (some ⟨g, 0, none⟩))) w1) :
  wpList P ops Q (o :: o2 :: rest) a W := by
 refine box_event hgd hd hrun ?_
 intro g hg w1 hb1 hB
 rw [hd]
 refine stseg hgd2 hN2 x y ho2 (.agg vs) vs rfl (off := 0) (hx _) (hy _) hb1 (by omega) hi h1 vs ?_ hB (by omega) (fun w2 h2 h3 _ => h g w2 hg h2 h3)
 have h6 : cs.toList.drop (0 + vs.toList.length) = [] := List.drop_eq_nil_of_le (by simp; omega)
 rw [h6]
 simp
theorem imG (k : Nat) (cs : Array Value) (x0 : Int) (x1 : List S77) (x2 : Int) (x3 : List S91) (x4 : List S50) (x5 : List S50) (y0 : Int) (y1 : List S77) (y2 : Int) (y3 : List S91) (y4 : List S50) (y5 : List S50) (w : World) (H : IG w cs x0 x1 x2 x3 x4 x5) (h : itick.f k x0 x1 x2 x3 x4 x5 = some (y0, y1, y2, y3, y4, y5)) :
  Calls Tryz.prog 7 #[.agg cs] w fun e w' => ∃ ds N t, e = .returned (.agg ds) ∧ OG w' w.heap.size N t ds y0 y1 y2 y3 y4 y5 ∧ t ≤ w'.heap.size ∧ Below w.heap.size w w' := by
 obtain ⟨_, _, _, _, rfl, ⟨A1, c1, rfl, l1, h1⟩, ⟨A3, c3, rfl, l3, h3⟩, ⟨A4, c4, rfl, l4, h4⟩, ⟨A5, c5, rfl, l5, h5⟩⟩ := H
 simp only [itick.f] at h
 obtain ⟨ok, hok, h⟩ := Option.bind_eq_some_iff.mp h
 have H1 := am h1
 have H3 := am h3
 have H4 := am h4
 have H5 := am h5
 have EO := am hok
 have EH := am h
 have HB := am (Below.refl w.heap.size w)
 have hu36 := Tryz.underlying36
 have hu34 := Tryz.underlying34
 clear h1 h3 h4 h5 hok h
 go_enter Tryz.func7, Tryz.ntmps7
 go_upto_region 1 with (first | ((with_reducible refine gate_dst (N := 1) rfl ?_); refine box_event rfl (N := 1) rfl (cs := #[.int .i64 x0, .slice A1 x1.length c1, .int .i64 x2, .slice A3 x3.length c3, .slice A4 x4.length c4, .slice A5 x5.length c5]) (t := 36) BX ?_; intro q1 hg wq hA hb; have W1 := am hA; replace HB := am (Below.trans HB.out (hb.mono HB.out.size)); clear hg hA hb) | ((with_reducible refine gate_dst (N := 2) rfl ?_); refine box_event rfl (N := 2) rfl (cs := #[.int .i64 0, .slice none 0 0, .int .i64 0, .slice none 0 0, .slice none 0 0, .slice none 0 0]) (t := 36) BX ?_; intro q2 hg wq hA hb; have G2 := am (show w.heap.size ≤ q2 by rw [hg]; exact HB.out.size); replace W1 := am (blk_below W1.out hb); have W2 := am hA; replace HB := am (Below.trans HB.out (hb.mono HB.out.size)); clear hg hA hb))
 cases ok with
 | false =>
  have h := EH.out
  rw [if_neg (by simp)] at h
  simp only [Option.some.injEq, Prod.mk.injEq] at h
  obtain ⟨rfl, rfl, rfl, rfl, rfl, rfl⟩ := h
  go_wp2_with (first | ((with_reducible refine gate_dst (N := 4) rfl ?_); refine ldbox (t := 36) rfl (.tmp 1) rfl (by rfl) #[.int .i64 x0, .slice A1 x1.length c1, .int .i64 x2, .slice A3 x3.length c3, .slice A4 x4.length c4, .slice A5 x5.length c5] W1.out hu36 rfl (by kernel_rfl) ?_) | (go_at_call 20; refine (impl_GateOk.calls k x0 A1 c1 x1 x2 A3 c3 x3 A4 c4 x4 A5 c5 x5 false _ (Kd.C_below H1.out HB.out) l1 (Kd.C_below H3.out HB.out) l3 (Kd.C_below H4.out HB.out) l4 (Kd.C_below H5.out HB.out) l5 EO.out).mono ?_; rintro e wq ⟨rfl, hb⟩; replace W1 := am (blk_below W1.out hb); replace W2 := am (blk_below W2.out hb); replace HB := am (Below.trans HB.out (hb.mono HB.out.size)); clear hb) | ((with_reducible refine gate_store (t := 36) (p := 2) rfl ?_); refine stseg rfl rfl (.tmp 2) (.tmp 7) rfl (off := 0) (.agg #[.int .i64 0, .slice none 0 0, .int .i64 0, .slice none 0 0, .slice none 0 0, .slice none 0 0]) #[.int .i64 0, .slice none 0 0, .int .i64 0, .slice none 0 0, .slice none 0 0, .slice none 0 0] rfl (by rfl) (by rfl) W2.out (Nat.le_of_ble_eq_true rfl) (by kernel_rfl) (by kernel_rfl) #[.int .i64 0, .slice none 0 0, .int .i64 0, .slice none 0 0, .slice none 0 0, .slice none 0 0] (by rfl) HB.out G2.out ?_; intro wq hA hb hf; replace W2 := am hA; replace HB := am hb; clear hA hb hf))
  refine bodyPost_ret (results_cell_row rfl _ _ q2 36 #[.int .i64 0, .slice none 0 0, .int .i64 0, .slice none 0 0, .slice none 0 0, .slice none 0 0] (0, 0) _ rfl W2.out hu36 rfl (by kernel_rfl)) rfl ?_
  exact ⟨_, 0, 0, rfl, OG.nil _ _ _ _, Nat.zero_le _, HB.out⟩
 | true =>
  have h := EH.out
  rw [if_pos rfl] at h
  obtain ⟨⟨g0, g1, g2, g3, g4, g5⟩, hc, h⟩ := Option.bind_eq_some_iff.mp h
  have EC := am hc
  have EQ := am h
  clear hc h EH
  go_upto_region 3 with (first | ((with_reducible refine gate_dst (N := 4) rfl ?_); refine ldbox (t := 36) rfl (.tmp 1) rfl (by rfl) #[.int .i64 x0, .slice A1 x1.length c1, .int .i64 x2, .slice A3 x3.length c3, .slice A4 x4.length c4, .slice A5 x5.length c5] W1.out hu36 rfl (by kernel_rfl) ?_) | (go_at_call 20; refine (impl_GateOk.calls k x0 A1 c1 x1 x2 A3 c3 x3 A4 c4 x4 A5 c5 x5 true _ (Kd.C_below H1.out HB.out) l1 (Kd.C_below H3.out HB.out) l3 (Kd.C_below H4.out HB.out) l4 (Kd.C_below H5.out HB.out) l5 EO.out).mono ?_; rintro e wq ⟨rfl, hb⟩; replace W1 := am (blk_below W1.out hb); replace W2 := am (blk_below W2.out hb); replace HB := am (Below.trans HB.out (hb.mono HB.out.size)); clear hb))
  have LT2 := am (blk_lt W2.out)
  go_upto_region 4 with (first | ((with_reducible refine gate_dst (N := 8) rfl ?_); refine ldbox (t := 36) rfl (.tmp 1) rfl (by rfl) #[.int .i64 x0, .slice A1 x1.length c1, .int .i64 x2, .slice A3 x3.length c3, .slice A4 x4.length c4, .slice A5 x5.length c5] W1.out hu36 rfl (by kernel_rfl) ?_) | (go_at_call 21; refine (impl_Gate_copied.calls k x0 A1 c1 x1 x2 A3 c3 x3 A4 c4 x4 A5 c5 x5 g0 g1 g2 g3 g4 g5 _ (Kd.C_below H1.out HB.out) l1 (Kd.C_below H3.out HB.out) l3 (Kd.C_below H4.out HB.out) l4 (Kd.C_below H5.out HB.out) l5 EC.out).mono ?_; rintro e wc ⟨v1, v3, v4, v5, rfl, o1, o3, ⟨N, o4, o5⟩, hb⟩; obtain ⟨B1, d1, rfl⟩ := Kd.R_slice o1; obtain ⟨B3, d3, rfl⟩ := Kd.R_slice o3; obtain ⟨B4, d4, rfl⟩ := Kd.S_slice o4; obtain ⟨B5, d5, rfl⟩ := Kd.S_slice o5; have OGF := am (OG.of (x0 := g0) (x2 := g2) o1 o3 o4 o5); have LB := am HB.out.size; have OGB := am hb.size; replace W1 := am (blk_below W1.out hb); replace W2 := am (blk_below W2.out hb); replace HB := am (Below.trans HB.out (hb.mono HB.out.size)); clear hb o1 o3 o4 o5) | ((with_reducible refine gate_dst (N := 3) rfl ?_); refine mkboxg (N := 3) rfl rfl (cs := #[.int .i64 0, .slice none 0 0, .int .i64 0, .slice none 0 0, .slice none 0 0, .slice none 0 0]) (t := 36) BX rfl rfl (.tmp 3) (.tmp 9) rfl #[.int .i64 g0, .slice B1 g1.length d1, .int .i64 g2, .slice B3 g3.length d3, .slice B4 g4.length d4, .slice B5 g5.length d5] (by intro v; rfl) (by intro v; rfl) rfl (by kernel_rfl) (by kernel_rfl) ?_; intro q3 wq hq3 hA hb; have W3 := am hA; have L3 := am hq3; replace OGF := am (OGF.out.keep (fun k _ _ hk => hb.block k hk)); have TB := am (hb.size); replace W1 := am (blk_below W1.out hb); replace W2 := am (blk_below W2.out hb); replace HB := am (Below.trans HB.out (hb.mono HB.out.size)); clear hA hb hq3))
  by_cases ce : g0 = 1000000
  ·have h := EQ.out
   rw [if_pos ce] at h
   simp only [Option.some.injEq, Prod.mk.injEq] at h
   obtain ⟨e0, e1, e2, e3, e4, e5⟩ := h
   subst e0 e1 e2 e3 e4 e5
   have hc := (blk_cell W3.out 0).trans (show _ = some (.int .i64 g0) from rfl)
   have hd := eq_true ce
   go_wp2_with (first | ((with_reducible refine gate_dst (N := 13) rfl ?_); refine ldbox (t := 36) rfl (.tmp 3) rfl (by rfl) #[.int .i64 g0, .slice B1 g1.length d1, .int .i64 g2, .slice B3 g3.length d3, .slice B4 g4.length d4, .slice B5 g5.length d5] W3.out hu36 rfl (by kernel_rfl) ?_) | ((with_reducible refine gate_store (t := 36) (p := 2) rfl ?_); refine stseg rfl rfl (.tmp 2) (.tmp 13) rfl (off := 0) (.agg #[.int .i64 g0, .slice B1 g1.length d1, .int .i64 g2, .slice B3 g3.length d3, .slice B4 g4.length d4, .slice B5 g5.length d5]) #[.int .i64 g0, .slice B1 g1.length d1, .int .i64 g2, .slice B3 g3.length d3, .slice B4 g4.length d4, .slice B5 g5.length d5] rfl (by rfl) (by rfl) W2.out (Nat.le_of_ble_eq_true rfl) (by kernel_rfl) (by kernel_rfl) #[.int .i64 g0, .slice B1 g1.length d1, .int .i64 g2, .slice B3 g3.length d3, .slice B4 g4.length d4, .slice B5 g5.length d5] (by rfl) HB.out G2.out ?_; intro wq hA hb hf; replace W2 := am hA; replace HB := am hb; replace W3 := am ((hf _ (by have := LT2.out; have := L3.out; have := OGB.out; omega)).trans W3.out); replace OGF := am (OGF.out.keep (fun k h1 h2 _ => hf k (by have := LT2.out; omega))); clear hA hb hf))
   refine bodyPost_ret (results_cell_row rfl _ _ q2 36 #[.int .i64 g0, .slice B1 g1.length d1, .int .i64 g2, .slice B3 g3.length d3, .slice B4 g4.length d4, .slice B5 g5.length d5] (0, 0) _ rfl W2.out hu36 rfl (by kernel_rfl)) rfl ?_
   exact ⟨_, N, _, rfl, OGF.out.lower LB.out, by rw [← L3.out]; exact Nat.le_of_lt (blk_lt W3.out), HB.out⟩
  ·have h := EQ.out
   rw [if_neg ce] at h
   simp only [Option.some.injEq, Prod.mk.injEq] at h
   obtain ⟨e0, e1, e2, e3, e4, e5⟩ := h
   subst e0 e1 e2 e3 e4 e5
   have hc := (blk_cell W3.out 0).trans (show _ = some (.int .i64 g0) from rfl)
   have hd := eq_false ce
   have G3 := am (show w.heap.size ≤ q3 by have := LB.out; have := L3.out; have := OGB.out; omega)
   have N23 : q2 ≠ q3 := by have := LT2.out; have := L3.out; have := OGB.out; omega
   go_upto_region 7 with ((with_reducible refine gate_store (t := 3) (p := 17) rfl ?_); refine stseg rfl rfl (.tmp 17) (.tmp 16) rfl (off := 0) (.int .i64 (wrap64 (g0 + 1))) #[.int .i64 (wrap64 (g0 + 1))] rfl (by rfl) (by rfl) W3.out (Nat.le_of_ble_eq_true rfl) (by kernel_rfl) (by kernel_rfl) #[.int .i64 (wrap64 (g0 + 1)), .slice B1 g1.length d1, .int .i64 g2, .slice B3 g3.length d3, .slice B4 g4.length d4, .slice B5 g5.length d5] (by rfl) HB.out G3.out ?_; intro wq hA hb hf; replace W2 := am ((hf _ N23).trans W2.out); replace W3 := am hA; replace HB := am hb; replace OGF := am (OGF.out.keep (fun k h1 h2 _ => hf k (by have := L3.out; omega))); clear hA hb hf)
   obtain ⟨z1, z3, z4, z5, e, hR1, hR3, hS4, hS5⟩ := OGF.out
   have e' := congrArg Array.toList e
   simp only [List.cons.injEq, and_true, true_and] at e'
   obtain ⟨e1, e3, e4, e5⟩ := e'
   subst e1 e3 e4 e5
   have R1 := am hR1
   have R3 := am hR3
   have S4 := am hS4
   have S5 := am hS5
   have hne : some q3 ≠ (Value.slice B5 g5.length d5).ownBlock := fun e => by have h1 := ((Kd.S_R hS5).1 q3 e.symm).2; have := L3.out; omega
   have LO := am (show ∀ q, (Value.slice B5 g5.length d5).ownBlock = some q → N ≤ q ∧ q < wc.heap.size ∧ w.heap.size ≤ q ∧ q2 < q from fun q hq => ⟨((Kd.S_R hS5).1 q hq).1, ((Kd.S_R hS5).1 q hq).2, Nat.le_trans LB.out (Kd.S_base hS5 q hq), Nat.lt_of_lt_of_le LT2.out (Kd.S_base hS5 q hq)⟩)
   clear hR1 hR3 hS4 hS5 e OGF hc
   have hc := (blk_cell W3.out 5).trans (show _ = some (.slice B5 g5.length d5) from rfl)
   go_upto_region 8 with (first | (go_at_call 22; refine (delS.S (wrap64 (g0 + 1)) q3 #[.int .i64 (wrap64 (g0 + 1)), .slice B1 g1.length d1, .int .i64 g2, .slice B3 g3.length d3, .slice B4 g4.length d4, .slice B5 g5.length d5] _ _ g5 _ _ S5.out W3.out rfl hne).mono ?_; rintro e w9 ⟨v9, rfl, hS, hG, hown⟩; replace HB := am (pw_below_grown HB.out _ HB.out.size hG (fun q hq => (LO.out q hq).2.2.1)); replace W2 := am ((hG.block q2 (blk_lt W2.out) (fun e => by have := (LO.out q2 e.symm).2.2.2; omega)).trans W2.out); replace W3 := am ((hG.block q3 (blk_lt W3.out) hne).trans W3.out); replace R1 := am (R_past R1.out (Kd.S_typed S5.out) (by decide) (Kept.of_grown hG (Kept.refl _ _) (fun q hq => .inl hq.symm))); replace R3 := am (R_past R3.out (Kd.S_typed S5.out) (by decide) (Kept.of_grown hG (Kept.refl _ _) (fun q hq => .inl hq.symm))); replace S4 := am (S_pastN S4.out (fun q h1 h2 => by have := (LO.out q h2.symm).1; have := h1.1; omega) (Kept.of_grown hG (Kept.refl _ (fun q => some q = (Value.slice B5 g5.length d5).ownBlock)) (fun q hq => .inl hq.symm))); clear S5; have S5 := am hS; obtain ⟨B6, d6, rfl⟩ := Kd.S_slice hS; clear hS hG hown) | ((with_reducible refine gate_store (t := 34) (p := 22) rfl ?_); refine stseg rfl rfl (.tmp 22) (.tmp 21) rfl (off := 5) (.slice B6 (g5.filter (fun x => !lateF (wrap64 (g0 + 1)) x)).length d6) #[.slice B6 (g5.filter (fun x => !lateF (wrap64 (g0 + 1)) x)).length d6] rfl (by rfl) (by rfl) W3.out (Nat.le_of_ble_eq_true rfl) (by kernel_rfl) (by kernel_rfl) #[.int .i64 (wrap64 (g0 + 1)), .slice B1 g1.length d1, .int .i64 g2, .slice B3 g3.length d3, .slice B4 g4.length d4, .slice B6 (g5.filter (fun x => !lateF (wrap64 (g0 + 1)) x)).length d6] (by rfl) HB.out G3.out ?_; intro wq hA hb hf; replace W2 := am ((hf _ N23).trans W2.out); replace W3 := am hA; replace HB := am hb; have OGF := am ((show OG w9 _ N wc.heap.size #[.int .i64 (wrap64 (g0 + 1)), .slice B1 g1.length d1, .int .i64 g2, .slice B3 g3.length d3, .slice B4 g4.length d4, .slice B6 (g5.filter (fun x => !lateF (wrap64 (g0 + 1)) x)).length d6] (wrap64 (g0 + 1)) g1 g2 g3 g4 (g5.filter (fun x => !lateF (wrap64 (g0 + 1)) x)) from ⟨_, _, _, _, rfl, R1.out, R3.out, S4.out, S5.out⟩).keep (fun k h1 h2 _ => hf k (by have := L3.out; omega))); clear hA hb hf))
   clear hc
   go_wp2_with (first | ((with_reducible refine gate_dst (N := 23) rfl ?_); refine ldbox (t := 36) rfl (.tmp 3) rfl (by rfl) #[.int .i64 (wrap64 (g0 + 1)), .slice B1 g1.length d1, .int .i64 g2, .slice B3 g3.length d3, .slice B4 g4.length d4, .slice B6 (g5.filter (fun x => !lateF (wrap64 (g0 + 1)) x)).length d6] W3.out hu36 rfl (by kernel_rfl) ?_) | ((with_reducible refine gate_store (t := 36) (p := 2) rfl ?_); refine stseg rfl rfl (.tmp 2) (.tmp 23) rfl (off := 0) (.agg #[.int .i64 (wrap64 (g0 + 1)), .slice B1 g1.length d1, .int .i64 g2, .slice B3 g3.length d3, .slice B4 g4.length d4, .slice B6 (g5.filter (fun x => !lateF (wrap64 (g0 + 1)) x)).length d6]) #[.int .i64 (wrap64 (g0 + 1)), .slice B1 g1.length d1, .int .i64 g2, .slice B3 g3.length d3, .slice B4 g4.length d4, .slice B6 (g5.filter (fun x => !lateF (wrap64 (g0 + 1)) x)).length d6] rfl (by rfl) (by rfl) W2.out (Nat.le_of_ble_eq_true rfl) (by kernel_rfl) (by kernel_rfl) #[.int .i64 (wrap64 (g0 + 1)), .slice B1 g1.length d1, .int .i64 g2, .slice B3 g3.length d3, .slice B4 g4.length d4, .slice B6 (g5.filter (fun x => !lateF (wrap64 (g0 + 1)) x)).length d6] (by rfl) HB.out G2.out ?_; intro wq hA hb hf; replace W2 := am hA; replace HB := am hb; replace W3 := am ((hf _ (by have := LT2.out; have := L3.out; have := OGB.out; omega)).trans W3.out); replace OGF := am (OGF.out.keep (fun k h1 h2 _ => hf k (by have := LT2.out; omega))); clear hA hb hf))
   refine bodyPost_ret (results_cell_row rfl _ _ q2 36 #[.int .i64 (wrap64 (g0 + 1)), .slice B1 g1.length d1, .int .i64 g2, .slice B3 g3.length d3, .slice B4 g4.length d4, .slice B6 (g5.filter (fun x => !lateF (wrap64 (g0 + 1)) x)).length d6] (0, 0) _ rfl W2.out hu36 rfl (by kernel_rfl)) rfl ?_
   exact ⟨_, N, _, rfl, OGF.out.lower LB.out, by rw [← L3.out]; exact Nat.le_of_lt (blk_lt W3.out), HB.out⟩
theorem R_kp {α : Type} {d : Kd α} {e b : Nat} {ok : Nat → Prop} {w w1 : World} {v : Value} {xs : List α} (h : d.R e w b ok v xs) (hw : ∀ k, b ≤ k → k < w.heap.size → w1.heap[k]? = w.heap[k]?) : d.R e w1 b ok v xs := Kd.R_mono (Kd.R_move (Kd.R_bound h) (fun k hk => hw k hk.2.1 hk.2.2.1)) (fun _ h => h.1)
theorem S_kp {α : Type} {d : Kd α} {e b : Nat} {ok : Nat → Prop} {w w1 : World} {v : Value} {xs : List α} (h : Kd.S d e w b ok v xs) (hw : ∀ k, b ≤ k → k < w.heap.size → w1.heap[k]? = w.heap[k]?) : Kd.S d e w1 b ok v xs := Kd.S_mono (Kd.S_move (Kd.S_bound h) (fun k hk => hw k hk.2.1 hk.2.2.1)) (fun _ h => h.1)
theorem toG (k : Nat) (cs : Array Value) (x0 : Int) (x1 : List S81) (x2 : Int) (x3 : List S109) (x4 : List S69) (x5 : List S69) (y0 : Int) (y1 : List S77) (y2 : Int) (y3 : List S91) (y4 : List S50) (y5 : List S50) (w : World) (H : LG w cs x0 x1 x2 x3 x4 x5) (h : laws_toGate.f k x0 x1 x2 x3 x4 x5 = some (y0, y1, y2, y3, y4, y5)) :
  Calls Tryz.prog 6 #[.agg cs] w fun e w' => ∃ ds N t, e = .returned (.agg ds) ∧ OG w' w.heap.size N t ds y0 y1 y2 y3 y4 y5 ∧ t ≤ w'.heap.size ∧ Below w.heap.size w w' := by
 obtain ⟨_, _, _, _, rfl, ⟨A1, c1, rfl, l1, h1⟩, ⟨A3, c3, rfl, l3, h3⟩, ⟨A4, c4, rfl, l4, h4⟩, ⟨A5, c5, rfl, l5, h5⟩⟩ := H
 simp only [laws_toGate.f] at h
 obtain ⟨a, hA, h⟩ := Option.bind_eq_some_iff.mp h
 obtain ⟨b, hB, h⟩ := Option.bind_eq_some_iff.mp h
 obtain ⟨c, hC, h⟩ := Option.bind_eq_some_iff.mp h
 obtain ⟨d, hD, h⟩ := Option.bind_eq_some_iff.mp h
 simp only [Option.some.injEq, Prod.mk.injEq] at h
 obtain ⟨e0, e1, e2, e3, e4, e5⟩ := h
 have E1 := am (hA.trans (congrArg some e1))
 have E3 := am (hB.trans (show some b = some (y2, y3) by rw [← e2, ← e3]))
 have E4 := am (hC.trans (congrArg some e4))
 have E5 := am (hD.trans (congrArg some e5))
 subst e0
 have H1 := am h1
 have H3 := am h3
 have H4 := am h4
 have H5 := am h5
 have HB := am (Below.refl w.heap.size w)
 have hu28 := Tryz.underlying28
 have hu36 := Tryz.underlying36
 have hu25 := Tryz.underlying25
 clear e1 e2 e3 e4 e5 hA hB hC hD h1 h3 h4 h5
 go_enter Tryz.func6, Tryz.ntmps6
 go_upto_region 2 with (first | ((with_reducible refine gate_dst (N := 1) rfl ?_); refine box_event rfl (N := 1) rfl (cs := #[.int .i64 x0, .slice A1 x1.length c1, .int .i64 x2, .slice A3 x3.length c3, .slice A4 x4.length c4, .slice A5 x5.length c5]) (t := 28) BX ?_; intro q1 hg wq hA hb; have W1 := am hA; replace HB := am (Below.trans HB.out (hb.mono HB.out.size)); clear hg hA hb) | ((with_reducible refine gate_dst (N := 2) rfl ?_); refine box_event rfl (N := 2) rfl (cs := #[.int .i64 0, .slice none 0 0, .int .i64 0, .slice none 0 0, .slice none 0 0, .slice none 0 0]) (t := 36) BX ?_; intro q2 hg wq hA hb; have G2 := am (show w.heap.size ≤ q2 by rw [hg]; exact HB.out.size); replace W1 := am (blk_below W1.out hb); have W2 := am hA; replace HB := am (Below.trans HB.out (hb.mono HB.out.size)); clear hg hA hb) | ((with_reducible refine gate_dst (N := 3) rfl ?_); refine box_event rfl (N := 3) rfl (cs := #[.int .i64 0, .slice none 0 0, .int .i64 0, .slice none 0 0, .slice none 0 0, .slice none 0 0]) (t := 36) BX ?_; intro q3 hg wq hA hb; have G3 := am (show w.heap.size ≤ q3 by rw [hg]; exact HB.out.size); have N13 := (show q1 ≠ q3 by rw [hg]; exact Nat.ne_of_lt (blk_lt W1.out)); have N23 := (show q2 ≠ q3 by rw [hg]; exact Nat.ne_of_lt (blk_lt W2.out)); have M23 := am (show q2 < q3 by rw [hg]; exact blk_lt W2.out); replace W1 := am (blk_below W1.out hb); replace W2 := am (blk_below W2.out hb); have W3 := am hA; replace HB := am (Below.trans HB.out (hb.mono HB.out.size)); clear hg hA hb))
 have W3s := am (blk_lt W3.out)
 have hc := (blk_cell W1.out 0).trans (show _ = some (.int .i64 x0) from rfl)
 go_upto_region 3 with ((with_reducible refine gate_store (t := 3) (p := 6) rfl ?_); refine stseg rfl rfl (.tmp 6) (.tmp 5) rfl (off := 0) (.int .i64 x0) #[.int .i64 x0] rfl (by rfl) (by rfl) W3.out (Nat.le_of_ble_eq_true rfl) (by kernel_rfl) (by kernel_rfl) #[.int .i64 x0, .slice none 0 0, .int .i64 0, .slice none 0 0, .slice none 0 0, .slice none 0 0] (by rfl) HB.out G3.out ?_; intro wq hA hb hf; replace W1 := am ((hf _ N13).trans W1.out); replace W2 := am ((hf _ N23).trans W2.out); replace W3 := am hA; replace HB := am hb; replace W3s := am (blk_lt hA); clear hA hb hf)
 clear hc
 have hc := (blk_cell W1.out 1).trans (show _ = some (.slice A1 x1.length c1) from rfl)
 go_upto_region 4 with (first | (go_at_call 17; refine (laws_toRuleS.calls k A1 c1 x1 y1 _ (Kd.C_below H1.out HB.out) l1 E1.out).mono ?_; rintro e wq ⟨v1, rfl, o1, hb⟩; obtain ⟨B1, d1, rfl⟩ := Kd.R_slice o1; have LB1 := am HB.out.size; have P1 := am o1; have L1 := am W3s.out; replace W1 := am (blk_below W1.out hb); replace W2 := am (blk_below W2.out hb); replace W3 := am (blk_below W3.out hb); replace HB := am (Below.trans HB.out (hb.mono HB.out.size)); replace W3s := am (Nat.lt_of_lt_of_le W3s.out hb.size); clear o1 hb) | ((with_reducible refine gate_store (t := 30) (p := 10) rfl ?_); refine stseg rfl rfl (.tmp 10) (.tmp 9) rfl (off := 1) (.slice B1 y1.length d1) #[.slice B1 y1.length d1] rfl (by rfl) (by rfl) W3.out (Nat.le_of_ble_eq_true rfl) (by kernel_rfl) (by kernel_rfl) #[.int .i64 x0, .slice B1 y1.length d1, .int .i64 0, .slice none 0 0, .slice none 0 0, .slice none 0 0] (by rfl) HB.out G3.out ?_; intro wq hA hb hf; replace W1 := am ((hf _ N13).trans W1.out); replace W2 := am ((hf _ N23).trans W2.out); replace W3 := am hA; replace HB := am hb; replace P1 := am (R_kp P1.out (fun k hk _ => hf k (by have := L1.out; omega))); replace W3s := am (blk_lt hA); clear hA hb hf))
 clear hc
 go_upto_region 5 with (first | ((with_reducible refine gate_dst (N := 12) rfl ?_); refine ldseg (t := 25) rfl (.tmp 11) rfl (by rfl) [.int .i64 x2, .slice A3 x3.length c3] W1.out (by rfl) hu25 rfl (by kernel_rfl) ?_) | (go_at_call 18; refine (laws_toCache.calls k x2 A3 c3 x3 y2 y3 _ (Kd.C_below H3.out HB.out) l3 E3.out).mono ?_; rintro e wq ⟨v1, rfl, o1, hb⟩; obtain ⟨B3, d3, rfl⟩ := Kd.R_slice o1; have LB3 := am HB.out.size; have P3 := am o1; have L3 := am W3s.out; replace W1 := am (blk_below W1.out hb); replace W2 := am (blk_below W2.out hb); replace W3 := am (blk_below W3.out hb); replace P1 := am (R_kp P1.out (fun k _ hk => hb.block k hk)); replace HB := am (Below.trans HB.out (hb.mono HB.out.size)); replace W3s := am (Nat.lt_of_lt_of_le W3s.out hb.size); clear o1 hb) | ((with_reducible refine gate_store (t := 33) (p := 14) rfl ?_); refine stseg rfl rfl (.tmp 14) (.tmp 13) rfl (off := 2) (.agg #[.int .i64 y2, .slice B3 y3.length d3]) #[.int .i64 y2, .slice B3 y3.length d3] rfl (by rfl) (by rfl) W3.out (Nat.le_of_ble_eq_true rfl) (by kernel_rfl) (by kernel_rfl) #[.int .i64 x0, .slice B1 y1.length d1, .int .i64 y2, .slice B3 y3.length d3, .slice none 0 0, .slice none 0 0] (by rfl) HB.out G3.out ?_; intro wq hA hb hf; replace W1 := am ((hf _ N13).trans W1.out); replace W2 := am ((hf _ N23).trans W2.out); replace W3 := am hA; replace HB := am hb; replace P1 := am (R_kp P1.out (fun k hk _ => hf k (by have := L1.out; omega))); replace P3 := am (R_kp P3.out (fun k hk _ => hf k (by have := L3.out; omega))); replace W3s := am (blk_lt hA); clear hA hb hf))
 have hc := (blk_cell W1.out 4).trans (show _ = some (.slice A4 x4.length c4) from rfl)
 go_upto_region 6 with (first | (go_at_call 19; refine (laws_toSaS.calls k A4 c4 x4 y4 _ (Kd.C_below H4.out HB.out) l4 E4.out).mono ?_; rintro e wq ⟨v1, rfl, o1, hb⟩; obtain ⟨B4, d4, rfl⟩ := Kd.S_slice o1; have LB4 := am HB.out.size; have P4 := am o1; have L4 := am W3s.out; replace W1 := am (blk_below W1.out hb); replace W2 := am (blk_below W2.out hb); replace W3 := am (blk_below W3.out hb); replace P1 := am (R_kp P1.out (fun k _ hk => hb.block k hk)); replace P3 := am (R_kp P3.out (fun k _ hk => hb.block k hk)); replace HB := am (Below.trans HB.out (hb.mono HB.out.size)); replace W3s := am (Nat.lt_of_lt_of_le W3s.out hb.size); clear o1 hb) | ((with_reducible refine gate_store (t := 34) (p := 18) rfl ?_); refine stseg rfl rfl (.tmp 18) (.tmp 17) rfl (off := 4) (.slice B4 y4.length d4) #[.slice B4 y4.length d4] rfl (by rfl) (by rfl) W3.out (Nat.le_of_ble_eq_true rfl) (by kernel_rfl) (by kernel_rfl) #[.int .i64 x0, .slice B1 y1.length d1, .int .i64 y2, .slice B3 y3.length d3, .slice B4 y4.length d4, .slice none 0 0] (by rfl) HB.out G3.out ?_; intro wq hA hb hf; replace W1 := am ((hf _ N13).trans W1.out); replace W2 := am ((hf _ N23).trans W2.out); replace W3 := am hA; replace HB := am hb; replace P1 := am (R_kp P1.out (fun k hk _ => hf k (by have := L1.out; omega))); replace P3 := am (R_kp P3.out (fun k hk _ => hf k (by have := L3.out; omega))); replace P4 := am (S_kp P4.out (fun k hk _ => hf k (by have := L4.out; omega))); replace W3s := am (blk_lt hA); clear hA hb hf))
 clear hc
 have hc := (blk_cell W1.out 5).trans (show _ = some (.slice A5 x5.length c5) from rfl)
 generalize hw5 : wq = w5 at *
 clear hw5
 go_upto_region 7 with (first | (go_at_call 19; refine (laws_toSaS.calls k A5 c5 x5 y5 _ (Kd.C_below H5.out HB.out) l5 E5.out).mono ?_; rintro e wq ⟨v1, rfl, o1, hb⟩; obtain ⟨B5, d5, rfl⟩ := Kd.S_slice o1; have LB5 := am HB.out.size; have P5 := am (show Kd.S k50 50 wq w5.heap.size (fun k => w5.heap.size ≤ k) _ _ from Kd.S_mono (Kd.S_bound o1) (fun _ hk => hk.2.1)); have L5 := am W3s.out; replace P4 := am (show Kd.S k50 50 w5 _ (fun k => k < w5.heap.size) _ _ from Kd.S_mono (Kd.S_bound P4.out) (fun _ hk => hk.2.2.1)); replace W1 := am (blk_below W1.out hb); replace W2 := am (blk_below W2.out hb); replace W3 := am (blk_below W3.out hb); replace P1 := am (R_kp P1.out (fun k _ hk => hb.block k hk)); replace P3 := am (R_kp P3.out (fun k _ hk => hb.block k hk)); replace P4 := am (S_kp P4.out (fun k _ hk => hb.block k hk)); replace HB := am (Below.trans HB.out (hb.mono HB.out.size)); replace W3s := am (Nat.lt_of_lt_of_le W3s.out hb.size); clear o1 hb) | ((with_reducible refine gate_store (t := 34) (p := 22) rfl ?_); refine stseg rfl rfl (.tmp 22) (.tmp 21) rfl (off := 5) (.slice B5 y5.length d5) #[.slice B5 y5.length d5] rfl (by rfl) (by rfl) W3.out (Nat.le_of_ble_eq_true rfl) (by kernel_rfl) (by kernel_rfl) #[.int .i64 x0, .slice B1 y1.length d1, .int .i64 y2, .slice B3 y3.length d3, .slice B4 y4.length d4, .slice B5 y5.length d5] (by rfl) HB.out G3.out ?_; intro wq hA hb hf; replace W1 := am ((hf _ N13).trans W1.out); replace W2 := am ((hf _ N23).trans W2.out); replace W3 := am hA; replace HB := am hb; replace P1 := am (R_kp P1.out (fun k hk _ => hf k (by have := L1.out; omega))); replace P3 := am (R_kp P3.out (fun k hk _ => hf k (by have := L3.out; omega))); replace P4 := am (S_kp P4.out (fun k hk _ => hf k (by have := L4.out; omega))); replace P5 := am (S_kp P5.out (fun k hk _ => hf k (by have := L5.out; omega))); replace W3s := am (blk_lt hA); clear hA hb hf))
 clear hc
 go_wp2_with (first | ((with_reducible refine gate_dst (N := 23) rfl ?_); refine ldbox (t := 36) rfl (.tmp 3) rfl (by rfl) #[.int .i64 x0, .slice B1 y1.length d1, .int .i64 y2, .slice B3 y3.length d3, .slice B4 y4.length d4, .slice B5 y5.length d5] W3.out hu36 rfl (by kernel_rfl) ?_) | ((with_reducible refine gate_store (t := 36) (p := 2) rfl ?_); refine stseg rfl rfl (.tmp 2) (.tmp 23) rfl (off := 0) (.agg #[.int .i64 x0, .slice B1 y1.length d1, .int .i64 y2, .slice B3 y3.length d3, .slice B4 y4.length d4, .slice B5 y5.length d5]) #[.int .i64 x0, .slice B1 y1.length d1, .int .i64 y2, .slice B3 y3.length d3, .slice B4 y4.length d4, .slice B5 y5.length d5] rfl (by rfl) (by rfl) W2.out (Nat.le_of_ble_eq_true rfl) (by kernel_rfl) (by kernel_rfl) #[.int .i64 x0, .slice B1 y1.length d1, .int .i64 y2, .slice B3 y3.length d3, .slice B4 y4.length d4, .slice B5 y5.length d5] (by rfl) HB.out G2.out ?_; intro wq hA hb hf; replace W2 := am hA; replace HB := am hb; replace P1 := am (R_kp P1.out (fun k hk _ => hf k (by have := L1.out; have := M23.out; omega))); replace P3 := am (R_kp P3.out (fun k hk _ => hf k (by have := L3.out; have := M23.out; omega))); replace P4 := am (S_kp P4.out (fun k hk _ => hf k (by have := L4.out; have := M23.out; omega))); replace P5 := am (S_kp P5.out (fun k hk _ => hf k (by have := L5.out; have := M23.out; omega))); clear hA hb hf))
 refine bodyPost_ret (results_cell_row rfl _ _ q2 36 #[.int .i64 x0, .slice B1 y1.length d1, .int .i64 y2, .slice B3 y3.length d3, .slice B4 y4.length d4, .slice B5 y5.length d5] (0, 0) _ rfl W2.out hu36 rfl (by kernel_rfl)) rfl ?_
 exact ⟨_, w5.heap.size, _, rfl, OG.of (Kd.R_lower P1.out LB1.out) (Kd.R_lower P3.out LB3.out) (Kd.S_lower P4.out LB4.out) (Kd.S_lower P5.out LB5.out), Nat.le_refl _, HB.out⟩
/-- Keys that are held, plainly. -/
def heldP (k : Nat) : List S50 → Int → Int → Prop
 | [], a, r => a = r
 | x :: xs, a, r => ∃ s2 s3 sn q, laws_markText.f k (nx (nx a)) = some s2 ∧ laws_markText.f k (nx (nx (nx a))) = some s3 ∧ x = (⟨a, (nx a), s2, s3, (nx (nx (nx (nx a)))), (nx (nx (nx (nx (nx a))))), (nx (nx (nx (nx (nx (nx a)))))), (nx (nx (nx (nx (nx (nx (nx a))))))), (nx (nx (nx (nx (nx (nx (nx (nx a)))))))), ⟨(nx (nx (nx (nx (nx (nx (nx (nx (nx a))))))))), sn⟩⟩ : S50) ∧ laws_heldIntS.f k sn (nx (nx (nx (nx (nx (nx (nx (nx (nx (nx a)))))))))) = some q ∧ 0 ≤ q ∧ heldP k xs q r
theorem hdSaS.run (k : Nat) (A : Option Addr) (c : Nat) (l0 : List S50) (a1 r : Int) (w : World) (hr : Kd.C k50 w A l0.length l0) (h : heldP k l0 a1 r) :
  Calls Tryz.prog 33 #[.slice A l0.length c, .int .i64 a1] w fun e w' => e = .returned (.int .i64 r) ∧ Below w.heap.size w w' := by
 have HM := am hr.2.1
 have HR := am hr
 have HE := am h
 have HB := am (Below.refl w.heap.size w)
 clear hr h
 go_enter Tryz.func33, Tryz.ntmps33
 go_wp2
 go_loopg [1, 5] l0.length (fun gg s1 s5 wr => ∃ (jj : Nat) (a : Int), jj ≤ l0.length ∧ Aside0 (l0.length - jj ≤ gg) ∧ s1 = .int .i64 a ∧ s5 = .int .i64 (jj : Int) ∧ Aside0 (Below w.heap.size w wr) ∧ Aside0 (heldP k (l0.drop jj) a r))
 case atStart => exact ⟨0, a1, Nat.zero_le _, ⟨by omega⟩, rfl, rfl, HB, HE⟩
 case round =>
  clear HE HB
  obtain ⟨jj, a, hjj, hg, rfl, rfl, HB, HE⟩ := hrel
  have hml := HM.out
  by_cases hlt : jj < l0.length
  ·have hltz : (jj : Int) < (l0.length : Int) := by omega
   have p1 : 0 ≤ (jj : Int) := by omega
   obtain ⟨ad, _, _, e, _⟩ := at_T50 (Kd.C_below HR.out HB.out) (jj : Int) p1 hltz
   subst e
   have E1 := HE.out
   rw [List.drop_eq_getElem_cons hlt] at E1
   obtain ⟨s2, s3, sn, q, ht2, ht3, hx, hq, hq0, hrest⟩ := E1
   have T2 := am ht2
   have T3 := am ht3
   have TQ := am hq
   have TR := am hrest
   have HC := am (show ∀ W, Below w.heap.size w W → (W.cell? (ad.add (jj * 11)) = some (.int .i64 a) ∧ W.cell? ⟨(ad.add (jj * 11)).block, (ad.add (jj * 11)).off + 1, none⟩ = some (.int .i64 (nx a)) ∧ W.cell? ⟨(ad.add (jj * 11)).block, (ad.add (jj * 11)).off + 2, none⟩ = some (.string s2) ∧ W.cell? ⟨(ad.add (jj * 11)).block, (ad.add (jj * 11)).off + 3, none⟩ = some (.string s3) ∧ W.cell? ⟨(ad.add (jj * 11)).block, (ad.add (jj * 11)).off + 4, none⟩ = some (.int .i64 (nx (nx (nx (nx a))))) ∧ W.cell? ⟨(ad.add (jj * 11)).block, (ad.add (jj * 11)).off + 5, none⟩ = some (.int .i64 (nx (nx (nx (nx (nx a)))))) ∧ W.cell? ⟨(ad.add (jj * 11)).block, (ad.add (jj * 11)).off + 6, none⟩ = some (.int .i64 (nx (nx (nx (nx (nx (nx a))))))) ∧ W.cell? ⟨(ad.add (jj * 11)).block, (ad.add (jj * 11)).off + 7, none⟩ = some (.int .i64 (nx (nx (nx (nx (nx (nx (nx a)))))))) ∧ W.cell? ⟨(ad.add (jj * 11)).block, (ad.add (jj * 11)).off + 8, none⟩ = some (.int .i64 (nx (nx (nx (nx (nx (nx (nx (nx a))))))))) ∧ W.cell? ⟨(ad.add (jj * 11)).block, (ad.add (jj * 11)).off + 9, none⟩ = some (.int .i64 (nx (nx (nx (nx (nx (nx (nx (nx (nx a)))))))))) ∧ ∃ A10 c10, W.cell? ⟨(ad.add (jj * 11)).block, (ad.add (jj * 11)).off + 10, none⟩ = some (.slice A10 sn.length c10) ∧ sn.length ≤ c10 ∧ (Kd.int .i64).C W A10 sn.length sn) from fun W hb => by
    obtain ⟨ad', A10, c10, e, h0, h1, h2, h3, h4, h5, h6, h7, h8, h9, h10, h11, h12⟩ := at_T50 (Kd.C_below HR.out hb) (jj : Int) p1 hltz
    injection e with e
    subst e
    have hxx : rd_T50 l0 (jj : Int) = l0[jj] := by
     unfold rd_T50
     rw [Int.toNat_natCast, List.getD_eq_getElem?_getD, List.getElem?_eq_getElem hlt]
     rfl
    rw [hxx, hx] at h0 h1 h2 h3 h4 h5 h6 h7 h8 h9 h10 h11 h12
    exact ⟨h0, h1, h2, h3, h4, h5, h6, h7, h8, h9, A10, c10, h10, h11, h12⟩)
   clear hx ht2 ht3 hq hrest HE
   generalize hwq : wr = wq at *
   clear hwq
   obtain ⟨h0, h1, _⟩ := HC.out _ HB.out
   go_upto_region 10 with fail
   clear h0 h1
   have hd10 := am (below_drew (Below.refl wq.heap.size wq))
   refine start_ (n := 8) (S := fun w' => w'.cell? ⟨(ad.add (jj * 11)).block, (ad.add (jj * 11)).off + 2, none⟩ = some (.string s2)) (ds := []) (tf 0 8) (by kernel_rfl) rfl rfl (HC.out _ (below_step HB.out hd10.out)).2.2.1 (fun hHeld => ?_)
   refine tk 0 (some 30) (tf 1 7) (by kernel_rfl) hHeld ?_
   refine tk 1 (some 31) (tf 2 6) (by kernel_rfl) hHeld ?_
   refine tk 2 (some 32) (tf 3 5) (by kernel_rfl) hHeld ?_
   refine tk 3 (some 33) (tf 4 4) (by kernel_rfl) hHeld ?_
   refine tk 4 (some 34) (tf 5 3) (by kernel_rfl) hHeld ?_
   refine tk 5 (some 35) (tf 6 2) (by kernel_rfl) hHeld ?_
   refine one_ (i := 6) (N := some 36) (tf 7 1) rfl rfl (by kernel_rfl) (by decide) (fun K hK => ?_)
   refine goes_ Tryz.func57 (by kernel_rfl) rfl #[.int .i64 (wrap64 ((wrap64 (a + 1)) + 1))] (by rfl) rfl rfl MT ?_
   refine (laws_markText.calls k (wrap64 ((wrap64 (a + 1)) + 1)) s2 _ T2.out).mono ?_
   rintro e wq ⟨rfl, hb0⟩
   replace HB := am (below_step HB.out (hd10.out.trans (hb0.mono hd10.out.size)))
   refine ⟨_, rfl, ?_⟩
   refine hK.out _ _ (HC.out _ HB.out).2.2.1 (fun hHeld => ?_)
   clear hK K hb0 hd10
   refine nm (some 36) ?_
   refine tk 7 (some 37) (tf 8 0) (by kernel_rfl) hHeld ?_
   clear hHeld
   refine done_ (by kernel_rfl) ?_
   go_upto_region 13 with fail
   have hd13 := am (below_drew (Below.refl wq.heap.size wq))
   refine start_ (n := 8) (S := fun w' => w'.cell? ⟨(ad.add (jj * 11)).block, (ad.add (jj * 11)).off + 3, none⟩ = some (.string s3)) (ds := []) (tf 0 8) (by kernel_rfl) rfl rfl (HC.out _ (below_step HB.out hd13.out)).2.2.2.1 (fun hHeld => ?_)
   refine tk 0 (some 40) (tf 1 7) (by kernel_rfl) hHeld ?_
   refine tk 1 (some 41) (tf 2 6) (by kernel_rfl) hHeld ?_
   refine tk 2 (some 42) (tf 3 5) (by kernel_rfl) hHeld ?_
   refine tk 3 (some 43) (tf 4 4) (by kernel_rfl) hHeld ?_
   refine tk 4 (some 44) (tf 5 3) (by kernel_rfl) hHeld ?_
   refine tk 5 (some 45) (tf 6 2) (by kernel_rfl) hHeld ?_
   refine one_ (i := 6) (N := some 46) (tf 7 1) rfl rfl (by kernel_rfl) (by decide) (fun K hK => ?_)
   refine goes_ Tryz.func57 (by kernel_rfl) rfl #[.int .i64 (wrap64 ((wrap64 ((wrap64 (a + 1)) + 1)) + 1))] (by rfl) rfl rfl MT ?_
   refine (laws_markText.calls k (wrap64 ((wrap64 ((wrap64 (a + 1)) + 1)) + 1)) s3 _ T3.out).mono ?_
   rintro e wq ⟨rfl, hb0⟩
   replace HB := am (below_step HB.out (hd13.out.trans (hb0.mono hd13.out.size)))
   refine ⟨_, rfl, ?_⟩
   refine hK.out _ _ (HC.out _ HB.out).2.2.2.1 (fun hHeld => ?_)
   clear hK K hb0 hd13
   refine nm (some 46) ?_
   refine tk 7 (some 47) (tf 8 0) (by kernel_rfl) hHeld ?_
   clear hHeld
   refine done_ (by kernel_rfl) ?_
   obtain ⟨_, _, _, _, h4, h5, h6, h7, h8, h9, A10, c10, h10, h11, h12⟩ := HC.out _ HB.out
   have h10' : wq.cell? ⟨(ad.add (jj * 11)).block, (ad.add (jj * 11)).off + 9 + 1, none⟩ = some (.slice A10 sn.length c10) := h10
   have H12 := am h12
   have hqd := decide_eq_false (show ¬ q < 0 by omega)
   clear h12
   go_upto_region 34 with fail
   clear h4 h5 h6 h7 h8 h9
   go_wp2_with (go_at_call 60; refine (laws_heldIntS.calls k A10 c10 sn (nx (nx (nx (nx (nx (nx (nx (nx (nx (nx a)))))))))) q _ H12.out h11 TQ.out).mono ?_; rintro e wq ⟨rfl, hb⟩; replace HB := am (below_step HB.out hb.below); clear hb h10 h10')
   go_roundg (l0.length - (jj + 1))
   case measure => have := hg.out; omega
   case rel => exact ⟨jj + 1, q, by omega, ⟨by omega⟩, rfl, by go_num, HB, TR⟩
  ·have hltz : ¬ (jj : Int) < (l0.length : Int) := by omega
   have : jj = l0.length := by omega
   have E1 := HE.out
   rw [this, List.drop_length] at E1
   have E2 : a = r := E1
   subst E2
   clear HE E1
   go_wp2
   go_ret
   exact ⟨rfl, HB.out⟩
def heldGP (k : Nat) (x1 : List S77) (x2 : Int) (x3 : List S91) (x4 x5 : List S50) (a r : Int) : Prop := ∃ p q s, hdRu x1 a p ∧ 0 ≤ p ∧ hdSe x3 p q ∧ 0 ≤ q ∧ heldP k x4 q s ∧ 0 ≤ s ∧ heldP k x5 s r ∧ 0 ≤ r
theorem heldG (k : Nat) (cs : Array Value) (x0 : Int) (x1 : List S77) (x2 : Int) (x3 : List S91) (x4 : List S50) (x5 : List S50) (a r : Int) (w : World) (H : IG w cs x0 x1 x2 x3 x4 x5) (h : heldGP k x1 x2 x3 x4 x5 a r) : Calls Tryz.prog 10 #[.agg cs, .int .i64 a] w fun e w' => e = .returned (.int .i64 r) ∧ Below w.heap.size w w' := by
 obtain ⟨_, _, _, _, rfl, ⟨A1, c1, rfl, l1, h1⟩, ⟨A3, c3, rfl, l3, h3⟩, ⟨A4, c4, rfl, l4, h4⟩, ⟨A5, c5, rfl, l5, h5⟩⟩ := H
 obtain ⟨p, q, s, hp, hp0, hq, hq0, hs, hs0, hr, hr0⟩ := h
 have H1 := am h1
 have H3 := am h3
 have H4 := am h4
 have H5 := am h5
 have E1 := am hp
 have E3 := am hq
 have E4 := am hs
 have E5 := am hr
 have Q0 := am hq0
 have HB := am (Below.refl w.heap.size w)
 have dp := decide_eq_false (show ¬ p < 0 by omega)
 have dq := decide_eq_false (show ¬ q < 0 by omega)
 have ds := decide_eq_false (show ¬ s < 0 by omega)
 have dr := decide_eq_false (show ¬ r < 0 by omega)
 have hu36 := Tryz.underlying36
 have hu33 := Tryz.underlying33
 clear h1 h3 h4 h5 hp hq hs hr hp0 hq0 hs0 hr0
 go_enter Tryz.func10, Tryz.ntmps10
 go_upto_region 1 with ((with_reducible refine gate_dst (N := 2) rfl ?_); refine box_event rfl (N := 2) rfl (cs := #[.int .i64 x0, .slice A1 x1.length c1, .int .i64 x2, .slice A3 x3.length c3, .slice A4 x4.length c4, .slice A5 x5.length c5]) (t := 36) BX ?_; intro q2 hq2 wq hA hb; have W2 := am hA; replace HB := am (below_step HB.out hb); clear hq2 hA hb)
 have hc := (blk_cell W2.out 1).trans (show _ = some (.slice A1 x1.length c1) from rfl)
 go_upto_region 4 with (go_at_call 31; refine (hdRu.run A1 c1 x1 a p _ (Kd.C_below H1.out HB.out) E1.out).mono ?_; rintro e w2 ⟨rfl, hw⟩; subst hw)
 clear hc
 go_upto_region 7 with (first | ((with_reducible refine gate_dst (N := 12) rfl ?_); refine ldseg (t := 33) rfl (.tmp 11) rfl (by rfl) [.int .i64 x2, .slice A3 x3.length c3] W2.out (by rfl) hu33 rfl (by kernel_rfl) ?_) | (go_at_call 32; refine (hdCa.run x2 A3 c3 x3 p q _ (Kd.C_below H3.out HB.out) E3.out Q0.out).mono ?_; rintro e wq ⟨rfl, hb⟩; replace W2 := am (blk_below W2.out hb); replace HB := am (below_step HB.out hb); clear hb))
 have hc := (blk_cell W2.out 4).trans (show _ = some (.slice A4 x4.length c4) from rfl)
 go_upto_region 10 with (go_at_call 33; refine (hdSaS.run k A4 c4 x4 q s _ (Kd.C_below H4.out HB.out) E4.out).mono ?_; rintro e wq ⟨rfl, hb⟩; replace W2 := am (blk_below W2.out hb); replace HB := am (below_step HB.out hb); clear hb)
 clear hc
 have hc := (blk_cell W2.out 5).trans (show _ = some (.slice A5 x5.length c5) from rfl)
 go_wp2_with (go_at_call 33; refine (hdSaS.run k A5 c5 x5 s r _ (Kd.C_below H5.out HB.out) E5.out).mono ?_; rintro e wq ⟨rfl, hb⟩; replace W2 := am (blk_below W2.out hb); replace HB := am (below_step HB.out hb); clear hb)
 go_ret
 exact ⟨rfl, HB.out⟩
theorem szG (k : Nat) (cs : Array Value) (x0 : Int) (x1 : List S81) (x2 : Int) (x3 : List S109) (x4 : List S69) (x5 : List S69) (a r : Int) (w : World) (H : LG w cs x0 x1 x2 x3 x4 x5) (h : laws_szGate.f k x0 x1 x2 x3 x4 x5 a = some r) : Calls Tryz.prog 4 #[.agg cs, .int .i64 a] w fun e w' => e = .returned (.int .i64 r) ∧ Below w.heap.size w w' := by
 obtain ⟨_, _, _, _, rfl, ⟨A1, c1, rfl, l1, h1⟩, ⟨A3, c3, rfl, l3, h3⟩, ⟨A4, c4, rfl, l4, h4⟩, ⟨A5, c5, rfl, l5, h5⟩⟩ := H
 exact laws_szGate.calls k x0 A1 c1 x1 x2 A3 c3 x3 A4 c4 x4 A5 c5 x5 a r w h1 l1 h3 l3 h4 l4 h5 l5 h
theorem spG (k : Nat) (cs : Array Value) (x0 : Int) (x1 : List S77) (x2 : Int) (x3 : List S91) (x4 : List S50) (x5 : List S50) (y0 : Int) (y1 : List S77) (y2 : Int) (y3 : List S91) (y4 : List S50) (y5 : List S50) (w : World) (H : IG w cs x0 x1 x2 x3 x4 x5) (h : spec_GateTick.f k x0 x1 x2 x3 x4 x5 = some (y0, y1, y2, y3, y4, y5)) : Calls Tryz.prog 5 #[.agg cs] w fun e w' => ∃ ds, e = .returned (.agg ds) ∧ IG w' ds y0 y1 y2 y3 y4 y5 ∧ Below w.heap.size w w' := by
 obtain ⟨_, _, _, _, rfl, ⟨A1, c1, rfl, l1, h1⟩, ⟨A3, c3, rfl, l3, h3⟩, ⟨A4, c4, rfl, l4, h4⟩, ⟨A5, c5, rfl, l5, h5⟩⟩ := H
 refine (spec_GateTick.calls k x0 A1 c1 x1 x2 A3 c3 x3 A4 c4 x4 A5 c5 x5 y0 y1 y2 y3 y4 y5 w h1 l1 h3 l3 h4 l4 h5 l5 h).mono ?_
 rintro e w' ⟨v1, v3, v4, v5, rfl, o1, o3, o4, o5, hb⟩
 exact ⟨_, rfl, ⟨_, _, _, _, rfl, Kd.R_reads o1, Kd.R_reads o3, Kd.S_reads o4, Kd.S_reads o5⟩, hb⟩
theorem eqGt (k : Nat) (cs ds : Array Value) (x0 : Int) (x1 : List S77) (x2 : Int) (x3 : List S91) (x4 : List S50) (x5 : List S50) (w : World) (H : IG w cs x0 x1 x2 x3 x4 x5) (G : IG w ds x0 x1 x2 x3 x4 x5) (h4' : laws_eqSaS.f k x4 x4 = some true) (h5' : laws_eqSaS.f k x5 x5 = some true) : Calls Tryz.prog 8 #[.agg cs, .agg ds] w fun e w' => e = .returned (.bool true) ∧ Below w.heap.size w w' := by
 obtain ⟨_, _, _, _, rfl, ⟨A1, c1, rfl, l1, h1⟩, ⟨A3, c3, rfl, l3, h3⟩, ⟨A4, c4, rfl, l4, h4⟩, ⟨A5, c5, rfl, l5, h5⟩⟩ := H
 obtain ⟨_, _, _, _, rfl, ⟨B1, d1, rfl, m1, k1⟩, ⟨B3, d3, rfl, m3, k3⟩, ⟨B4, d4, rfl, m4, k4⟩, ⟨B5, d5, rfl, m5, k5⟩⟩ := G
 have H1 := am h1
 have H3 := am h3
 have H4 := am h4
 have H5 := am h5
 have F1 := am k1
 have F3 := am k3
 have F4 := am k4
 have F5 := am k5
 have E4 := am h4'
 have E5 := am h5'
 have HB := am (Below.refl w.heap.size w)
 have hu36 := Tryz.underlying36
 have hu33 := Tryz.underlying33
 clear h1 h3 h4 h5 k1 k3 k4 k5 h4' h5'
 go_enter Tryz.func8, Tryz.ntmps8
 go_upto_region 1 with (first | ((with_reducible refine gate_dst (N := 2) rfl ?_); refine box_event rfl (N := 2) rfl (cs := #[.int .i64 x0, .slice A1 x1.length c1, .int .i64 x2, .slice A3 x3.length c3, .slice A4 x4.length c4, .slice A5 x5.length c5]) (t := 36) BX ?_; intro q2 hg wq hA hb; have W2 := am hA; replace HB := am (below_step HB.out hb); clear hg hA hb) | ((with_reducible refine gate_dst (N := 3) rfl ?_); refine box_event rfl (N := 3) rfl (cs := #[.int .i64 x0, .slice B1 x1.length d1, .int .i64 x2, .slice B3 x3.length d3, .slice B4 x4.length d4, .slice B5 x5.length d5]) (t := 36) BX ?_; intro q3 hg wq hA hb; replace W2 := am (blk_below W2.out hb); have W3 := am hA; replace HB := am (below_step HB.out hb); clear hg hA hb))
 have hc := (blk_cell W2.out 0).trans (show _ = some (.int .i64 x0) from rfl)
 have hd := (blk_cell W3.out 0).trans (show _ = some (.int .i64 x0) from rfl)
 go_upto_region 3 with fail
 clear hc hd
 have hc := (blk_cell W2.out 1).trans (show _ = some (.slice A1 x1.length c1) from rfl)
 have hd := (blk_cell W3.out 1).trans (show _ = some (.slice B1 x1.length d1) from rfl)
 go_upto_region 5 with (go_at_call 25; refine (eqRuS.run A1 B1 c1 d1 x1 _ (Kd.C_below H1.out HB.out) (Kd.C_below F1.out HB.out)).mono ?_; rintro e wq ⟨rfl, hb⟩; replace W2 := am (blk_below W2.out hb); replace W3 := am (blk_below W3.out hb); replace HB := am (below_step HB.out hb); clear hb)
 clear hc hd
 go_upto_region 7 with (first | ((with_reducible refine gate_dst (N := 17) rfl ?_); refine ldseg (t := 33) rfl (.tmp 16) rfl (by rfl) [.int .i64 x2, .slice A3 x3.length c3] W2.out (by rfl) hu33 rfl (by kernel_rfl) ?_) | ((with_reducible refine gate_dst (N := 19) rfl ?_); refine ldseg (t := 33) rfl (.tmp 18) rfl (by rfl) [.int .i64 x2, .slice B3 x3.length d3] W3.out (by rfl) hu33 rfl (by kernel_rfl) ?_) | (go_at_call 26; refine (eqCa.run x2 A3 B3 c3 d3 x3 _ (Kd.C_below H3.out HB.out) (Kd.C_below F3.out HB.out)).mono ?_; rintro e wq ⟨rfl, hb⟩; replace W2 := am (blk_below W2.out hb); replace W3 := am (blk_below W3.out hb); replace HB := am (below_step HB.out hb); clear hb))
 have hc := (blk_cell W2.out 4).trans (show _ = some (.slice A4 x4.length c4) from rfl)
 have hd := (blk_cell W3.out 4).trans (show _ = some (.slice B4 x4.length d4) from rfl)
 go_upto_region 9 with (go_at_call 27; refine (laws_eqSaS.calls k A4 c4 x4 B4 d4 x4 true _ (Kd.C_below H4.out HB.out) l4 (Kd.C_below F4.out HB.out) m4 E4.out).mono ?_; rintro e wq ⟨rfl, hb⟩; replace W2 := am (blk_below W2.out hb); replace W3 := am (blk_below W3.out hb); replace HB := am (below_step HB.out hb); clear hb)
 clear hc hd
 have hc := (blk_cell W2.out 5).trans (show _ = some (.slice A5 x5.length c5) from rfl)
 have hd := (blk_cell W3.out 5).trans (show _ = some (.slice B5 x5.length d5) from rfl)
 go_wp2_with (go_at_call 27; refine (laws_eqSaS.calls k A5 c5 x5 B5 d5 x5 true _ (Kd.C_below H5.out HB.out) l5 (Kd.C_below F5.out HB.out) m5 E5.out).mono ?_; rintro e wq ⟨rfl, hb⟩; replace W2 := am (blk_below W2.out hb); replace W3 := am (blk_below W3.out hb); replace HB := am (below_step HB.out hb); clear hb)
 go_ret
 exact ⟨rfl, HB.out⟩
theorem yld {P : Program} {ops : Array Oper} {S : World → Prop} {o : Oper} {a : Act} {t : TypeId} {d : TypeDesc} {g : Nat} (hw : Region.wanted o (yielded ops a.tmps) = true) (x : Operand) (ho : o.op = .load t x) (hx : a.eval x = .pointer (some ⟨g, 0, none⟩)) (vs : Array Value)
  (hS : ∀ w, S w → w.heap[g]? = some (.cells vs t (0, 0))) (hu : P.underlying t = some d) (hd : d.isRow = true) (hi : (P.info? t).map (·.size) = some vs.toList.length) : YieldsIf P ops S o (.agg vs) a := by
 have := yieldsIf_load_mid (P := P) (ops := ops) (S := S) hw t x ho g 0 hx vs.toList d (fun w h j v hv => by rw [Nat.zero_add, blk_cell (hS w h) j]; simpa using hv) hu hd hi
 simpa using this
/-- A variable that is read whole, behind a guard that holds. -/
theorem ldboxG {P : Program} {ops : Array Oper} {rest : List Oper} {o : Oper} {a : Act} {Q : Exit → Act → World → Prop} {W : World} {t : TypeId} {d : TypeDesc} {g : Nat} (hw : Region.wanted o (yielded ops a.tmps) = true) (x : Operand) (ho : o.op = .load t x) (hx : a.eval x = .pointer (some ⟨g, 0, none⟩)) (vs : Array Value)
  (hb : W.heap[g]? = some (.cells vs t (0, 0))) (hu : P.underlying t = some d) (hd : d.isRow = true) (hi : (P.info? t).map (·.size) = some vs.toList.length)
  (h : wpList P ops Q rest (a.put o.dst (.agg vs)) W) : wpList P ops Q (o :: rest) a W := by
 rw [wpList, if_pos hw]
 exact .inl <| wp_load_mid t x ho g 0 hx vs.toList d (fun j v hv => by rw [Nat.zero_add, blk_cell hb j]; simpa using hv) hu hd hi (by simpa using h)
def GateTickP (k : Nat) (x0 : Int) (x1 : List S81) (x2 : Int) (x3 : List S109) (x4 : List S69) (x5 : List S69) : Prop := ∃ t, laws_szGate.f k x0 x1 x2 x3 x4 x5 1048576 = some t ∧ (t < 0 ∨ ∃ y0 y1 y2 y3 y4 y5 g0 g1 g2 g3 g4 g5 m1 n1 n3 n4 n5 m2 o1 o3 o4 o5, laws_toGate.f k x0 x1 x2 x3 x4 x5 = some (y0, y1, y2, y3, y4, y5) ∧ spec_GateTick.f k y0 y1 y2 y3 y4 y5 = some (g0, g1, g2, g3, g4, g5) ∧ itick.f k y0 y1 y2 y3 y4 y5 = some (g0, g1, g2, g3, g4, g5) ∧ (laws_eqSaS.f k g4 g4 = some true ∧ laws_eqSaS.f k g5 g5 = some true) ∧ (laws_eqSaS.f k y4 y4 = some true ∧ laws_eqSaS.f k y5 y5 = some true) ∧
 mkGate.f k y0 y1 y2 y3 y4 y5 1 = some (m1, n1, n3, n4, n5) ∧ 0 ≤ m1 ∧ mkGate.f k g0 g1 g2 g3 g4 g5 1 = some (m2, o1, o3, o4, o5) ∧ 0 ≤ m2 ∧ heldGP k o1 g2 o3 o4 o5 1 m2)
theorem lawT (k : Nat) (cs : Array Value) (x0 : Int) (x1 : List S81) (x2 : Int) (x3 : List S109) (x4 : List S69) (x5 : List S69) (w : World) (H : LG w cs x0 x1 x2 x3 x4 x5) (h : GateTickP k x0 x1 x2 x3 x4 x5) : Calls Tryz.prog 3 #[.agg cs] w fun e w' => e = .returned (.bool true) ∧ Below w.heap.size w w' := by
 have hbox : ∃ v1 v3 v4 v5, cs = #[.int .i64 x0, v1, .int .i64 x2, v3, v4, v5] := by obtain ⟨v1, v3, v4, v5, e, _⟩ := H; exact ⟨v1, v3, v4, v5, e⟩
 have LL := am H
 have ZL := am H.size
 have HB := am (Below.refl w.heap.size w)
 have hu28 := Tryz.underlying28
 have hu36 := Tryz.underlying36
 obtain ⟨t, ht, h⟩ := h
 have HT := am ht
 have HH := am h
 clear H h ht
 obtain ⟨_, _, _, _, rfl, ⟨A1, c1, rfl, _⟩, ⟨A3, c3, rfl, _⟩, ⟨A4, c4, rfl, _⟩, ⟨A5, c5, rfl, _⟩⟩ := id LL.out
 clear hbox
 go_enter Tryz.func3, Tryz.ntmps3
 go_upto_region 1 with ((with_reducible refine gate_dst (N := 1) rfl ?_); refine box_event rfl (N := 1) rfl (cs := #[.int .i64 x0, .slice A1 x1.length c1, .int .i64 x2, .slice A3 x3.length c3, .slice A4 x4.length c4, .slice A5 x5.length c5]) (t := 28) BX ?_; intro q1 hq1 wq hA hb; have B1 := am hA; replace HB := am (Below.trans HB.out (hb.mono HB.out.size)); replace LL := am (LL.out.below hb); clear hA hb hq1)
 generalize (#[.int .i64 x0, .slice A1 x1.length c1, .int .i64 x2, .slice A3 x3.length c3, .slice A4 x4.length c4, .slice A5 x5.length c5] : Array Value) = cs at LL ZL B1 ⊢
 rcases HH.out with hneg | ⟨y0, y1, y2, y3, y4, y5, g0, g1, g2, g3, g4, g5, m1, n1, n3, n4, n5, m2, o1, o3, o4, o5, e1, e2, e3, e4, e5, e6, e7, e8, e9, e10⟩
 ·have cd := decide_eq_true hneg
  go_wp2_with (first | ((with_reducible refine gate_dst (N := 11) rfl ?_); refine ldbox (t := 28) rfl (.tmp 1) rfl (by rfl) cs B1.out hu28 rfl (by rw [Array.length_toList, ZL.out.1]; kernel_rfl) ?_) | (go_at_call 4; refine (szG k cs x0 x1 x2 x3 x4 x5 _ t _ LL.out HT.out).mono ?_; rintro e wq ⟨rfl, hb⟩; replace B1 := am (blk_below B1.out hb); replace HB := am (Below.trans HB.out (hb.mono HB.out.size)); replace LL := am (LL.out.below hb); clear hb))
  go_ret
  exact ⟨rfl, HB.out⟩
 ·by_cases hneg : t < 0
  ·have cd := decide_eq_true hneg
   go_wp2_with (first | ((with_reducible refine gate_dst (N := 11) rfl ?_); refine ldbox (t := 28) rfl (.tmp 1) rfl (by rfl) cs B1.out hu28 rfl (by rw [Array.length_toList, ZL.out.1]; kernel_rfl) ?_) | (go_at_call 4; refine (szG k cs x0 x1 x2 x3 x4 x5 _ t _ LL.out HT.out).mono ?_; rintro e wq ⟨rfl, hb⟩; replace B1 := am (blk_below B1.out hb); replace HB := am (Below.trans HB.out (hb.mono HB.out.size)); replace LL := am (LL.out.below hb); clear hb))
   go_ret
   exact ⟨rfl, HB.out⟩
  have cd := decide_eq_false hneg
  have T1 := am e1
  have T2 := am e2
  have T3 := am e3
  have T4 := am e4
  have T5 := am e5
  have T6 := am e6
  have T8 := am e8
  have T10 := am e10
  have M1 := am e7
  have M2 := am e9
  clear HH e1 e2 e3 e4 e5 e6 e7 e8 e9 e10
  go_upto_region 5 with (first | ((with_reducible refine gate_dst (N := 11) rfl ?_); refine ldbox (t := 28) rfl (.tmp 1) rfl (by rfl) cs B1.out hu28 rfl (by rw [Array.length_toList, ZL.out.1]; kernel_rfl) ?_) | (go_at_call 4; refine (szG k cs x0 x1 x2 x3 x4 x5 _ t _ LL.out HT.out).mono ?_; rintro e wq ⟨rfl, hb⟩; replace B1 := am (blk_below B1.out hb); replace HB := am (Below.trans HB.out (hb.mono HB.out.size)); replace LL := am (LL.out.below hb); clear hb))
  go_upto_region 6 with (first | ((with_reducible refine gate_dst (N := 16) rfl ?_); refine ldbox (t := 28) rfl (.tmp 1) rfl (by rfl) cs B1.out hu28 rfl (by rw [Array.length_toList, ZL.out.1]; kernel_rfl) ?_) | (go_at_call 6; refine (toG k cs x0 x1 x2 x3 x4 x5 y0 y1 y2 y3 y4 y5 _ LL.out T1.out).mono ?_; rintro e wq ⟨d0, N0, t0, rfl, hO, ht0, hb⟩; have I0 := am hO.read; clear hO ht0; replace B1 := am (blk_below B1.out hb); replace HB := am (Below.trans HB.out (hb.mono HB.out.size)); replace LL := am (LL.out.below hb); clear hb) | (go_at_call 5; refine (spG k _ y0 y1 y2 y3 y4 y5 g0 g1 g2 g3 g4 g5 _ I0.out T2.out).mono ?_; rintro e wq ⟨dw, rfl, hI, hb⟩; have IW := am hI; have ZW := am hI.size; clear hI; replace B1 := am (blk_below B1.out hb); replace HB := am (Below.trans HB.out (hb.mono HB.out.size)); replace LL := am (LL.out.below hb); clear hb) | ((with_reducible refine gate_dst (N := 4) rfl ?_); refine mkboxg (N := 4) rfl rfl (cs := #[.int .i64 0, .slice none 0 0, .int .i64 0, .slice none 0 0, .slice none 0 0, .slice none 0 0]) (t := 36) BX rfl rfl (.tmp 4) (.tmp 18) rfl dw (by intro v; rfl) (by intro v; rfl) ZW.out.1 (by rw [ZW.out.1]; kernel_rfl) ZW.out.2 ?_; intro q4 wq hq hA hb; replace B1 := am (blk_below B1.out hb); replace HB := am (Below.trans HB.out (hb.mono HB.out.size)); replace LL := am (LL.out.below hb); replace IW := am (IW.out.below hb); have B4 := am hA; clear hA hb hq))
  generalize hwx : wq = wx at *
  clear hwx
  have HX := am (Below.refl wx.heap.size wx)
  have LLx := am LL.out
  have IWx := am IW.out
  have HBx := am HB.out
  have Q1 := am (blk_lt B1.out)
  have Q4 := am (blk_lt B4.out)
  go_upto_region 7 with (first | ((with_reducible refine gate_dst (N := 19) rfl ?_); refine ldbox (t := 28) rfl (.tmp 1) rfl (by rfl) cs B1.out hu28 rfl (by rw [Array.length_toList, ZL.out.1]; kernel_rfl) ?_) | (go_at_call 6; refine (toG k cs x0 x1 x2 x3 x4 x5 y0 y1 y2 y3 y4 y5 _ LLx.out T1.out).mono ?_; rintro e wq ⟨dx, Nx, tx, rfl, hO, htx, hb⟩; have OX := am hO; have S0 := am htx; have ZX := am hO.read.size; clear hO htx; replace B1 := am (blk_below B1.out hb); replace HB := am (Below.trans HB.out (hb.mono HB.out.size)); replace HX := am (Below.trans HX.out (hb.mono HX.out.size)); replace B4 := am (blk_below B4.out hb); clear hb) | ((with_reducible refine gate_dst (N := 5) rfl ?_); refine mkboxg (N := 5) rfl rfl (cs := #[.int .i64 0, .slice none 0 0, .int .i64 0, .slice none 0 0, .slice none 0 0, .slice none 0 0]) (t := 36) BX rfl rfl (.tmp 5) (.tmp 20) rfl dx (by intro v; rfl) (by intro v; rfl) ZX.out.1 (by rw [ZX.out.1]; kernel_rfl) ZX.out.2 ?_; intro q5 wq hq hA hb; have Q5 := am (show tx ≤ q5 by rw [hq]; exact S0.out); replace B1 := am (blk_below B1.out hb); replace HB := am (Below.trans HB.out (hb.mono HB.out.size)); replace HX := am (Below.trans HX.out (hb.mono HX.out.size)); replace B4 := am (blk_below B4.out hb); replace OX := am (OX.out.keep (fun k _ _ hk => hb.block k hk)); replace S0 := am (Nat.le_trans S0.out hb.size); have B5 := am hA; clear hA hb hq))
  generalize hwg : wq = wg at *
  clear hwg
  have TG := am S0.out
  have TW := am HX.out.size
  go_upto_region 8 with (first | ((with_reducible refine gate_dst (N := 21) rfl ?_); refine ldbox (t := 36) rfl (.tmp 5) rfl (by rfl) dx B5.out hu36 rfl (by rw [Array.length_toList, ZX.out.1]; kernel_rfl) ?_) | (go_at_call 7; refine (imG k dx y0 y1 y2 y3 y4 y5 g0 g1 g2 g3 g4 g5 _ OX.out.read T3.out).mono ?_; rintro e wq ⟨dg, Ng, tg, rfl, hO, htg, hb⟩; have OG1 := am hO; have S1 := am htg; have ZG := am hO.read.size; clear hO htg; replace B1 := am (blk_below B1.out hb); replace HB := am (Below.trans HB.out (hb.mono HB.out.size)); replace HX := am (Below.trans HX.out (hb.mono HX.out.size)); replace B4 := am (blk_below B4.out hb); replace B5 := am (blk_below B5.out hb); replace OX := am (OX.out.keep (fun k _ _ hk => hb.block k hk)); replace S0 := am (Nat.le_trans S0.out hb.size); clear hb) | ((with_reducible refine gate_dst (N := 6) rfl ?_); refine mkboxg (N := 6) rfl rfl (cs := #[.int .i64 0, .slice none 0 0, .int .i64 0, .slice none 0 0, .slice none 0 0, .slice none 0 0]) (t := 36) BX rfl rfl (.tmp 6) (.tmp 22) rfl dg (by intro v; rfl) (by intro v; rfl) ZG.out.1 (by rw [ZG.out.1]; kernel_rfl) ZG.out.2 ?_; intro q6 wq hq hA hb; have Q6 := am (show tg ≤ q6 ∧ tx ≤ q6 by rw [hq]; exact ⟨S1.out, S0.out⟩); replace B1 := am (blk_below B1.out hb); replace HB := am (Below.trans HB.out (hb.mono HB.out.size)); replace HX := am (Below.trans HX.out (hb.mono HX.out.size)); replace B4 := am (blk_below B4.out hb); replace B5 := am (blk_below B5.out hb); replace OX := am (OX.out.keep (fun k _ _ hk => hb.block k hk)); replace OG1 := am (OG1.out.keep (fun k _ _ hk => hb.block k hk)); replace S1 := am (Nat.le_trans S1.out hb.size); replace S0 := am (Nat.le_trans S0.out hb.size); have B6 := am hA; clear hA hb hq))
  go_upto_region 10 with (first | ((with_reducible refine gate_dst (N := 23) rfl ?_); refine ldbox (t := 36) rfl (.tmp 6) rfl (by rfl) dg B6.out hu36 rfl (by rw [Array.length_toList, ZG.out.1]; kernel_rfl) ?_) | ((with_reducible refine gate_dst (N := 24) rfl ?_); refine ldbox (t := 36) rfl (.tmp 4) rfl (by rfl) dw B4.out hu36 rfl (by rw [Array.length_toList, ZW.out.1]; kernel_rfl) ?_) | (go_at_call 8; refine (eqGt k dg dw g0 g1 g2 g3 g4 g5 _ OG1.out.read (IWx.out.below HX.out) T4.out.1 T4.out.2).mono ?_; rintro e wq ⟨rfl, hb⟩; replace B1 := am (blk_below B1.out hb); replace HB := am (Below.trans HB.out (hb.mono HB.out.size)); replace HX := am (Below.trans HX.out (hb.mono HX.out.size)); replace B4 := am (blk_below B4.out hb); replace B5 := am (blk_below B5.out hb); replace B6 := am (blk_below B6.out hb); replace OX := am (OX.out.keep (fun k _ _ hk => hb.block k hk)); replace OG1 := am (OG1.out.keep (fun k _ _ hk => hb.block k hk)); replace S1 := am (Nat.le_trans S1.out hb.size); replace S0 := am (Nat.le_trans S0.out hb.size); clear hb))
  have hd := am (below_drew (Below.refl wq.heap.size wq))
  refine start_ (n := 5) (S := fun w' => w'.heap[q5]? = some (.cells dx 36 (0, 0)) ∧ w'.heap[q1]? = some (.cells cs 28 (0, 0))) (ds := []) (tf 0 5) (by kernel_rfl) rfl rfl ⟨B5.out, B1.out⟩ (fun hHeld => ?_)
  refine tk 0 (some 27) (tf 1 4) (by kernel_rfl) hHeld ?_ (hy := yld (by rfl) (.tmp 5) rfl (by rfl) dx (fun w h => h.1) hu36 rfl (by rw [Array.length_toList, ZX.out.1]; kernel_rfl))
  refine tk 1 (some 28) (tf 2 3) (by kernel_rfl) hHeld ?_ (hy := yld (by rfl) (.tmp 1) rfl (by rfl) cs (fun w h => h.2) hu28 rfl (by rw [Array.length_toList, ZL.out.1]; kernel_rfl))
  refine one_ (i := 2) (N := some 29) (tf 3 2) rfl rfl (by kernel_rfl) (by decide) (fun K hK => ?_)
  refine goes_ Tryz.func6 (by kernel_rfl) rfl #[.agg cs] (by rfl) rfl rfl MT ?_
  refine (toG k cs x0 x1 x2 x3 x4 x5 y0 y1 y2 y3 y4 y5 _ (LLx.out.below (below_step HX.out hd.out)) T1.out).mono ?_
  rintro e w8 ⟨d3, N3, t3, rfl, hO, _, hb0⟩
  have hb := hd.out.trans (hb0.mono hd.out.size)
  replace B1 := am (blk_below B1.out hb); replace HB := am (Below.trans HB.out (hb.mono HB.out.size)); replace HX := am (Below.trans HX.out (hb.mono HX.out.size)); replace B4 := am (blk_below B4.out hb); replace B5 := am (blk_below B5.out hb); replace B6 := am (blk_below B6.out hb); replace OX := am (OX.out.keep (fun k _ _ hk => hb.block k hk)); replace OG1 := am (OG1.out.keep (fun k _ _ hk => hb.block k hk)); replace S1 := am (Nat.le_trans S1.out hb.size); replace S0 := am (Nat.le_trans S0.out hb.size); clear hb
  have I3 := am hO.read
  refine ⟨_, rfl, ?_⟩
  refine hK.out _ _ ⟨B5.out, B1.out⟩ (fun hHeld => ?_)
  clear hK K hHeld hO hb0 hd
  refine nm (some 29) ?_
  refine one_ (i := 3) (N := some 30) (tf 4 1) rfl rfl (by kernel_rfl) (by decide) (fun K hK => ?_)
  refine goes_ Tryz.func8 (by kernel_rfl) rfl #[.agg dx, .agg d3] (by rfl) rfl rfl MT ?_
  refine (eqGt k dx d3 y0 y1 y2 y3 y4 y5 _ OX.out.read I3.out T5.out.1 T5.out.2).mono ?_
  rintro e wq ⟨rfl, hb⟩
  replace B1 := am (blk_below B1.out hb); replace HB := am (Below.trans HB.out (hb.mono HB.out.size)); replace HX := am (Below.trans HX.out (hb.mono HX.out.size)); replace B4 := am (blk_below B4.out hb); replace B5 := am (blk_below B5.out hb); replace B6 := am (blk_below B6.out hb); replace OX := am (OX.out.keep (fun k _ _ hk => hb.block k hk)); replace OG1 := am (OG1.out.keep (fun k _ _ hk => hb.block k hk)); replace S1 := am (Nat.le_trans S1.out hb.size); replace S0 := am (Nat.le_trans S0.out hb.size); clear hb
  refine ⟨_, rfl, ?_⟩
  refine hK.out _ _ ⟨B5.out, B1.out⟩ (fun hHeld => ?_)
  clear hK K I3
  refine nm (some 30) ?_
  refine tk 4 (some 31) (tf 5 0) (by kernel_rfl) hHeld ?_
  clear hHeld
  refine done_ (by kernel_rfl) ?_
  go_upto_region 13 with fail
  go_upto_region 14 with (first | ((with_reducible refine gate_dst (N := 32) rfl ?_); refine ldbox (t := 36) rfl (.tmp 5) rfl (by rfl) dx B5.out hu36 rfl (by rw [Array.length_toList, ZX.out.1]; kernel_rfl) ?_) | (go_at_call 9; refine (mkG k dx y0 y1 y2 y3 y4 y5 1 m1 n1 n3 n4 n5 Nx tx wx _ HX.out S0.out OX.out T6.out).mono ?_; rintro e wq ⟨rfl, _, hbx, hk⟩; replace OG1 := am (OG1.out.keep (fun k h1 h2 h3 => hk.2 k h3 (fun h => by have := TG.out; omega))); replace B1 := am ((hk.2 q1 (blk_lt B1.out) (fun h => by have := Q1.out; omega)).trans B1.out); replace B4 := am ((hk.2 q4 (blk_lt B4.out) (fun h => by have := Q4.out; omega)).trans B4.out); replace S1 := am (Nat.le_trans S1.out hk.1); replace HX := am hbx; replace HB := am (Below.trans HBx.out (hbx.mono HBx.out.size)); replace B6 := am ((hk.2 q6 (blk_lt B6.out) (fun h => by have := Q6.out.2; omega)).trans B6.out); clear hbx hk))
  have dm := decide_eq_false (show ¬ m1 < 0 by have := M1.out; omega)
  go_upto_region 17 with (first | ((with_reducible refine gate_dst (N := 38) rfl ?_); refine ldboxG (t := 36) (by rfl) (.tmp 6) rfl (by rfl) dg B6.out hu36 rfl (by rw [Array.length_toList, ZG.out.1]; kernel_rfl) ?_) | ((with_reducible refine gate_dst (N := 39) rfl ?_); refine ldboxG (t := 36) (by rfl) (.tmp 4) rfl (by rfl) dw B4.out hu36 rfl (by rw [Array.length_toList, ZW.out.1]; kernel_rfl) ?_) | (go_at_call 8; refine (eqGt k dg dw g0 g1 g2 g3 g4 g5 _ OG1.out.read (IWx.out.below HX.out) T4.out.1 T4.out.2).mono ?_; rintro e wq ⟨rfl, hb⟩; replace B1 := am (blk_below B1.out hb); replace HB := am (Below.trans HB.out (hb.mono HB.out.size)); replace HX := am (Below.trans HX.out (hb.mono HX.out.size)); replace B4 := am (blk_below B4.out hb); replace B6 := am (blk_below B6.out hb); replace OG1 := am (OG1.out.keep (fun k _ _ hk => hb.block k hk)); replace S1 := am (Nat.le_trans S1.out hb.size); clear hb))
  go_upto_region 18 with (first | ((with_reducible refine gate_dst (N := 43) rfl ?_); refine ldbox (t := 36) rfl (.tmp 6) rfl (by rfl) dg B6.out hu36 rfl (by rw [Array.length_toList, ZG.out.1]; kernel_rfl) ?_) | (go_at_call 9; refine (mkG k dg g0 g1 g2 g3 g4 g5 1 m2 o1 o3 o4 o5 Ng tg wx _ HX.out S1.out (OG1.out.lower TW.out) T8.out).mono ?_; rintro e wq ⟨rfl, hO, hbx, hk⟩; clear OG1; have OG1 := am hO; replace B1 := am ((hk.2 q1 (blk_lt B1.out) (fun h => by have := Q1.out; omega)).trans B1.out); replace B4 := am ((hk.2 q4 (blk_lt B4.out) (fun h => by have := Q4.out; omega)).trans B4.out); replace S1 := am (Nat.le_trans S1.out hk.1); replace HX := am hbx; replace HB := am (Below.trans HBx.out (hbx.mono HBx.out.size)); replace B6 := am ((hk.2 q6 (blk_lt B6.out) (fun h => by have := Q6.out.1; omega)).trans B6.out); clear hO hbx hk))
  have dm2 := decide_eq_false (show ¬ m2 < 0 by have := M2.out; omega)
  have mm : (m2 != m2) = false := by simp
  go_upto_region 24 with (first | ((with_reducible refine gate_dst (N := 46) rfl ?_); refine ldbox (t := 36) rfl (.tmp 6) rfl (by rfl) dg B6.out hu36 rfl (by rw [Array.length_toList, ZG.out.1]; kernel_rfl) ?_) | (go_at_call 10; refine (heldG k dg g0 o1 g2 o3 o4 o5 1 m2 _ OG1.out.read T10.out).mono ?_; rintro e wq ⟨rfl, hb⟩; replace B1 := am (blk_below B1.out hb); replace HB := am (Below.trans HB.out (hb.mono HB.out.size)); replace HX := am (Below.trans HX.out (hb.mono HX.out.size)); replace B4 := am (blk_below B4.out hb); replace B6 := am (blk_below B6.out hb); replace OG1 := am (OG1.out.keep (fun k _ _ hk => hb.block k hk)); replace S1 := am (Nat.le_trans S1.out hb.size); clear hb))
  go_upto_region 25 with (first | ((with_reducible refine gate_dst (N := 54) rfl ?_); refine ldbox (t := 28) rfl (.tmp 1) rfl (by rfl) cs B1.out hu28 rfl (by rw [Array.length_toList, ZL.out.1]; kernel_rfl) ?_) | (go_at_call 6; refine (toG k cs x0 x1 x2 x3 x4 x5 y0 y1 y2 y3 y4 y5 _ (LLx.out.below HX.out) T1.out).mono ?_; rintro e wq ⟨d4, N4, t4, rfl, hO, ht0, hb⟩; have I4 := am hO.read; clear hO ht0; replace B1 := am (blk_below B1.out hb); replace HB := am (Below.trans HB.out (hb.mono HB.out.size)); replace HX := am (Below.trans HX.out (hb.mono HX.out.size)); replace B4 := am (blk_below B4.out hb); replace B6 := am (blk_below B6.out hb); replace OG1 := am (OG1.out.keep (fun k _ _ hk => hb.block k hk)); replace S1 := am (Nat.le_trans S1.out hb.size); clear hb) | (go_at_call 7; refine (imG k _ y0 y1 y2 y3 y4 y5 g0 g1 g2 g3 g4 g5 _ I4.out T3.out).mono ?_; rintro e wq ⟨dh, Nh, th, rfl, hO, hth, hb⟩; have IH := am hO.read; have ZH := am hO.read.size; clear hO hth; replace B1 := am (blk_below B1.out hb); replace HB := am (Below.trans HB.out (hb.mono HB.out.size)); replace HX := am (Below.trans HX.out (hb.mono HX.out.size)); replace B4 := am (blk_below B4.out hb); replace B6 := am (blk_below B6.out hb); replace OG1 := am (OG1.out.keep (fun k _ _ hk => hb.block k hk)); replace S1 := am (Nat.le_trans S1.out hb.size); clear hb) | ((with_reducible refine gate_dst (N := 10) rfl ?_); refine mkboxg (N := 10) rfl rfl (cs := #[.int .i64 0, .slice none 0 0, .int .i64 0, .slice none 0 0, .slice none 0 0, .slice none 0 0]) (t := 36) BX rfl rfl (.tmp 10) (.tmp 56) rfl dh (by intro v; rfl) (by intro v; rfl) ZH.out.1 (by rw [ZH.out.1]; kernel_rfl) ZH.out.2 ?_; intro q10 wq hq hA hb; replace B1 := am (blk_below B1.out hb); replace HB := am (Below.trans HB.out (hb.mono HB.out.size)); replace HX := am (Below.trans HX.out (hb.mono HX.out.size)); replace B4 := am (blk_below B4.out hb); replace B6 := am (blk_below B6.out hb); replace OG1 := am (OG1.out.keep (fun k _ _ hk => hb.block k hk)); replace S1 := am (Nat.le_trans S1.out hb.size); replace IH := am (IH.out.below hb); have B10 := am hA; clear hA hb hq))
  go_upto_region 28 with (first | ((with_reducible refine gate_dst (N := 57) rfl ?_); refine ldbox (t := 36) rfl (.tmp 10) rfl (by rfl) dh B10.out hu36 rfl (by rw [Array.length_toList, ZH.out.1]; kernel_rfl) ?_) | ((with_reducible refine gate_dst (N := 58) rfl ?_); refine ldbox (t := 36) rfl (.tmp 4) rfl (by rfl) dw B4.out hu36 rfl (by rw [Array.length_toList, ZW.out.1]; kernel_rfl) ?_) | (go_at_call 8; refine (eqGt k dh dw g0 g1 g2 g3 g4 g5 _ IH.out (IWx.out.below HX.out) T4.out.1 T4.out.2).mono ?_; rintro e wq ⟨rfl, hb⟩; replace B1 := am (blk_below B1.out hb); replace HB := am (Below.trans HB.out (hb.mono HB.out.size)); replace HX := am (Below.trans HX.out (hb.mono HX.out.size)); replace B4 := am (blk_below B4.out hb); replace B6 := am (blk_below B6.out hb); replace OG1 := am (OG1.out.keep (fun k _ _ hk => hb.block k hk)); replace S1 := am (Nat.le_trans S1.out hb.size); clear hb))
  go_wp2_with (first | ((with_reducible refine gate_dst (N := 61) rfl ?_); refine ldbox (t := 36) rfl (.tmp 6) rfl (by rfl) dg B6.out hu36 rfl (by rw [Array.length_toList, ZG.out.1]; kernel_rfl) ?_) | (go_at_call 10; refine (heldG k dg g0 o1 g2 o3 o4 o5 1 m2 _ OG1.out.read T10.out).mono ?_; rintro e wq ⟨rfl, hb⟩; replace B1 := am (blk_below B1.out hb); replace HB := am (Below.trans HB.out (hb.mono HB.out.size)); replace HX := am (Below.trans HX.out (hb.mono HX.out.size)); replace B4 := am (blk_below B4.out hb); replace B6 := am (blk_below B6.out hb); replace OG1 := am (OG1.out.keep (fun k _ _ hk => hb.block k hk)); replace S1 := am (Nat.le_trans S1.out hb.size); clear hb))
  go_ret
  exact ⟨rfl, HB.out⟩
theorem laws_FnExactGateTick.calls (k : Nat) (aE : Int) (aF : Option Addr) (aG : Nat) (aA : List (S81)) (aH : Int) (aI : Option Addr) (aJ : Nat) (aB : List (S109)) (aK : Option Addr) (aL : Nat) (aC : List (S69)) (aM : Option Addr) (aN : Nat) (aD : List (S69)) (r : Bool) (w : World) (aO : Kd.C k81 w aF aA.length aA) (aP : aA.length ≤ aG) (aQ : Kd.C k109 w aI aB.length aB) (aR : aB.length ≤ aJ) (aS : Kd.C k69 w aK aC.length aC) (aT : aC.length ≤ aL) (aU : Kd.C k69 w aM aD.length aD) (aV : aD.length ≤ aN) (aW : r = true) (h : GateTickP k aE aA aH aB aC aD) :
  Calls Tryz.prog 3 #[.agg #[.int .i64 aE, .slice aF aA.length aG, .int .i64 aH, .slice aI aB.length aJ, .slice aK aC.length aL, .slice aM aD.length aN]] w fun e w' => e = .returned (.bool r) ∧ Below w.heap.size w w' := by
 subst aW
 exact lawT k _ aE aA aH aB aC aD w ⟨_, _, _, _, rfl, ⟨aF, aG, rfl, aP, aO⟩, ⟨aI, aJ, rfl, aR, aQ⟩, ⟨aK, aL, rfl, aT, aS⟩, ⟨aM, aN, rfl, aV, aU⟩⟩ h
def laws_FnExactGateTick.Pure : Prop := ∀ (a0_0 : Int) (l0_1 : List (S81)) (a0_2 : Int) (l0_3 : List (S109)) (l0_4 : List (S69)) (l0_5 : List (S69)), ((Lit.int .i64 a0_0).wf = true) → ((l0_1.length ≤ maxLen ∧ ∀ x_ ∈ l0_1, wfT81 x_)) → ((Lit.int .i64 a0_2).wf = true) → ((l0_3.length ≤ maxLen ∧ ∀ x_ ∈ l0_3, wfT109 x_)) → ((l0_4.length ≤ maxLen ∧ ∀ x_ ∈ l0_4, wfT69 x_)) → ((l0_5.length ≤ maxLen ∧ ∀ x_ ∈ l0_5, wfT69 x_)) → ∃ k, GateTickP k a0_0 l0_1 a0_2 l0_3 l0_4 l0_5
theorem laws_FnExactGateTick.walk (P : laws_FnExactGateTick.Pure) (a0_0 : Int) (A0_1 : Option Addr) (c0_1 : Nat) (l0_1 : List (S81)) (a0_2 : Int) (A0_3 : Option Addr) (c0_3 : Nat) (l0_3 : List (S109)) (A0_4 : Option Addr) (c0_4 : Nat) (l0_4 : List (S69)) (A0_5 : Option Addr) (c0_5 : Nat) (l0_5 : List (S69)) (w : World) (hr0_1 : Kd.C k81 w A0_1 l0_1.length l0_1) (hc0_1 : l0_1.length ≤ c0_1) (hr0_3 : Kd.C k109 w A0_3 l0_3.length l0_3) (hc0_3 : l0_3.length ≤ c0_3) (hr0_4 : Kd.C k69 w A0_4 l0_4.length l0_4) (hc0_4 : l0_4.length ≤ c0_4) (hr0_5 : Kd.C k69 w A0_5 l0_5.length l0_5) (hc0_5 : l0_5.length ≤ c0_5) (q0_ : (Lit.int .i64 a0_0).wf = true) (q1_ : (l0_1.length ≤ maxLen ∧ ∀ x_ ∈ l0_1, wfT81 x_)) (q2_ : (Lit.int .i64 a0_2).wf = true) (q3_ : (l0_3.length ≤ maxLen ∧ ∀ x_ ∈ l0_3, wfT109 x_)) (q4_ : (l0_4.length ≤ maxLen ∧ ∀ x_ ∈ l0_4, wfT69 x_)) (q5_ : (l0_5.length ≤ maxLen ∧ ∀ x_ ∈ l0_5, wfT69 x_)) :
  Calls Tryz.prog 3 #[.agg #[.int .i64 a0_0, .slice A0_1 l0_1.length c0_1, .int .i64 a0_2, .slice A0_3 l0_3.length c0_3, .slice A0_4 l0_4.length c0_4, .slice A0_5 l0_5.length c0_5]] w fun e w' => e = .returned (.bool true) ∧ Below w.heap.size w w' := by
 obtain ⟨k, h⟩ := P a0_0 l0_1 a0_2 l0_3 l0_4 l0_5 q0_ q1_ q2_ q3_ q4_ q5_
 refine (laws_FnExactGateTick.calls k a0_0 A0_1 c0_1 l0_1 a0_2 A0_3 c0_3 l0_3 A0_4 c0_4 l0_4 A0_5 c0_5 l0_5 true w hr0_1 hc0_1 hr0_3 hc0_3 hr0_4 hc0_4 hr0_5 hc0_5 rfl h).mono ?_
 rintro e w' ⟨rfl, hd⟩
 exact ⟨rfl, hd⟩
end Go.Proofs.YtmdegplkdgaebaaGreat.PAll
end
