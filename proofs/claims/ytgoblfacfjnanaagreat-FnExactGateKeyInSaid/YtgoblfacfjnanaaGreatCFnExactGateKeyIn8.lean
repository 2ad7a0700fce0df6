/- Contracts of the functions that the statement reaches. -/
import Derived.Shelf.Spec.SlicesInsertGrow
import Derived.WalkKit
import Derived.Shelf.Abstract
import Derived.Deep.LoopGhost
import Derived.Deep.MidRow
import Derived.Shelf.RegionOpenPlain
import Derived.Deep.RegionLaw
import Derived.Lib.Walk
import Derived.Lib.SliceRun
import Derived.Laws.IdiomCopy
import Derived.Lib.LazyBuf
import Derived.Test.YtgoblfacfjnanaaGreatCFnExactGateKeyIn3
import Derived.Test.YtgoblfacfjnanaaGreatCFnExactGateKeyIn4
import Derived.Test.YtgoblfacfjnanaaGreatCFnExactGateKeyIn5
import Derived.Test.YtgoblfacfjnanaaGreatCFnExactGateKeyIn6
import Derived.Test.YtgoblfacfjnanaaGreatCFnExactGateKeyIn7
set_option maxHeartbeats 8000000
set_option maxRecDepth 100000
section
namespace Go.Proofs.YtgoblfacfjnanaaGreat.PAll
open Go.RowKit Go.Proofs.YtgoblfacfjnanaaGreatW.PrintWords Go.Proofs.YtgoblfacfjnanaaGreatW.PrintLast Go.Proofs.YtgoblfacfjnanaaGreatW.PrintMore
attribute [local go_sem] max2_int min2_int max_two min_two max_three min_three max_four min_four
set_option linter.unusedVariables false
set_option linter.unusedSimpArgs false
theorem kpW {w w1 : World} {g : Nat} {o : Obj} (q : Aside0 (w.heap[g]? = some o)) (hb : Below w.heap.size w w1) : Aside0 (w1.heap[g]? = some o) := am (blk_below q.out hb)
theorem kpH {w W W1 : World} (q : Aside0 (Below w.heap.size w W)) (hb : Below W.heap.size W W1) : Aside0 (Below w.heap.size w W1) := am (Below.trans q.out (hb.mono q.out.size))
theorem zeroCells_len (z : Array Value) (n : Nat) : (Builtin.zeroCells z n).toList.length = n * z.size := by
 simp [Builtin.zeroCells, Nat.mul_comm]
theorem blk_some {w : World} {g : Nat} {cur : Array Value} {e : TypeId} (h : w.heap[g]? = some (.cells cur e (0, 0))) (o : Nat) (ho : o < cur.size) : (w.cell? ⟨g, o, none⟩).isSome = true := by
 rw [blk_cell h o]; simp [ho]
theorem run_storeVar_v {P : Program} (w : World) (b o : Nat) (ty : TypeId) (v : Value) (cells : Array Value) (hv : v.cells = cells) (ht : w.there b o cells.size) (hi : (P.info? ty).map (·.size) = some cells.size) (h1 : cells.all (·.oneCell') = true) :
  (storeVar ty ⟨b, o, none⟩ v).run P w = .ok () (w.setCells b o cells.toList) := by
 have := run_storeCells_cells (P := P) b o cells.toList 0 w (fun j hj => by simpa using (ht j (by simpa using hj)).1) (fun j hj => by simpa using (ht j (by simpa using hj)).2)
  (fun v hv => (Array.all_eq_true_iff_forall_mem.1 h1) v (by simpa using hv))
 cases hq : P.info? ty with
 | none => simp [hq] at hi
 | some i =>
  have hs : cells.size = i.size := by simp [hq] at hi; omega
  simp only [Nat.add_zero] at this
  simp [storeVar, sizeOf, typeInfo, hq, hv, hs, this]
/-- A variable that is read whole. -/
theorem ldbox {P : Program} {ops : Array Oper} {rest : List Oper} {o : Oper} {a : Act} {Q : Exit → Act → World → Prop} {W : World} {t : TypeId} {d : TypeDesc} {g : Nat} (hgd : o.guard = none) (x : Operand) (ho : o.op = .load t x) (hx : a.eval x = .pointer (some ⟨g, 0, none⟩)) (vs : Array Value)
  (hb : W.heap[g]? = some (.cells vs t (0, 0))) (hu : P.underlying t = some d) (hd : d.isRow = true) (hi : (P.info? t).map (·.size) = some vs.toList.length)
  (h : wpList P ops Q rest (a.put o.dst (.agg vs)) W) : wpList P ops Q (o :: rest) a W := by
 refine wpList_load_mid hgd t x ho g 0 hx vs.toList d (fun j v hv => ?_) hu hd hi (by simpa using h)
 rw [Nat.zero_add, blk_cell hb j]
 simpa using hv
/-- A row as cells: what stands at one place. -/
theorem raw_at {m e base g n cap : Nat} {ok : Nat → Prop} {W : World} {rows : List (List Value)} (h : (Kd.raw m).R e W base ok (.slice (some ⟨g, 0, none⟩) n cap) rows) (i : Nat) (hi : i < n) (q : List Value) (hq : rows[i]? = some q) : q.length = m ∧ (∀ u ∈ q, u.oneCell' = true) ∧ W.rangeAt g (i * m) q := by
 obtain ⟨c, hcl, hM, hcc, _⟩ := Kd.R_elem h [] (i : Int) (by omega) (by omega)
 rw [Int.toNat_natCast, List.getD_eq_getElem?_getD, hq] at hM
 obtain ⟨rfl, h1, h2⟩ := hM
 exact ⟨h1, h2, fun j v hv => by have := hcc j v hv; rwa [Int.toNat_natCast] at this⟩
theorem raw_of_S {α : Type} {d : Kd α} {e b : Nat} {w : World} {ok : Nat → Prop} {v : Value} {xs : List α} (h : Kd.S d e w b ok v xs) :
  ∃ (f : Nat → Nat) (rows : List (List Value)), (Kd.raw d.sz).R e w b ok v rows ∧ rows.length = xs.length ∧ ∀ (j : Nat) (x : α) (q : List Value), xs[j]? = some x → rows[j]? = some q → d.M w b (fun k => (ok k ∧ some k ≠ v.ownBlock) ∧ f k = j) x q := by
 obtain ⟨f, h0, inner, ho, hr⟩ := h
 rw [List.length_zipIdx] at ho
 have hl : inner.length = xs.length * d.sz := by have := hr.1; rw [List.length_zipIdx] at this; exact this
 refine ⟨f, (List.range xs.length).map (fun j => (inner.drop (j * d.sz)).take d.sz), ⟨h0, inner, by rw [List.length_map, List.length_range]; exact ho, by rw [List.length_map, List.length_range]; exact hl, fun j q hq => ?_⟩, by rw [List.length_map, List.length_range], fun j x q hx hq => ?_⟩
 ·rw [List.getElem?_map] at hq
  obtain ⟨j', hj, rfl⟩ := Option.map_eq_some_iff.1 hq
  obtain ⟨hj1, hj2⟩ := List.getElem?_eq_some_iff.1 hj
  rw [List.getElem_range] at hj2
  subst hj2
  rw [List.length_range] at hj1
  have hM := hr.2 j _ (Kd.zip_at (List.getElem?_eq_getElem hj1))
  exact ⟨rfl, d.K_len (d.K_of_M hM), d.K_one (d.K_of_M hM)⟩
 ·rw [List.getElem?_map] at hq
  obtain ⟨j', hj, rfl⟩ := Option.map_eq_some_iff.1 hq
  obtain ⟨hj1, hj2⟩ := List.getElem?_eq_some_iff.1 hj
  rw [List.getElem_range] at hj2
  subst hj2
  exact hr.2 j _ (Kd.zip_at hx)
theorem S_of_raw {α : Type} {d : Kd α} {e b : Nat} {w : World} {ok : Nat → Prop} {v : Value} {xs : List α} {rows : List (List Value)} (h : (Kd.raw d.sz).R e w b ok v rows) (hl : rows.length = xs.length) (f : Nat → Nat)
  (hM : ∀ (j : Nat) (x : α) (q : List Value), xs[j]? = some x → rows[j]? = some q → d.M w b (fun k => (ok k ∧ some k ≠ v.ownBlock) ∧ f k = j) x q) : Kd.S d e w b ok v xs := by
 obtain ⟨h0, inner, ho, hr⟩ := h
 refine ⟨f, h0, inner, by rw [List.length_zipIdx, ← hl]; exact ho, by rw [List.length_zipIdx, ← hl]; exact hr.1, fun j p hp => ?_⟩
 rw [List.getElem?_zipIdx, Nat.zero_add] at hp
 obtain ⟨x, hx, rfl⟩ := Option.map_eq_some_iff.1 hp
 have hj : j < rows.length := by rw [hl]; exact (List.getElem?_eq_some_iff.1 hx).1
 have h1 := (hr.2 j _ (List.getElem?_eq_getElem hj)).1
 show d.M w b _ x ((inner.drop (j * d.sz)).take d.sz)
 rw [show (inner.drop (j * d.sz)).take d.sz = rows[j] from h1]
 exact hM j x _ hx (List.getElem?_eq_getElem hj)
theorem below_gr {mb : Nat} {w0 W w1 : World} (h : Below w0.heap.size w0 W) (hg : W.grownBy w1 (some mb)) (hB : w0.heap.size ≤ mb) : Below w0.heap.size w0 w1 :=
 ⟨hg.os.trans h.os, hg.tape.trans h.tape, hg.output.trans h.output, Nat.le_trans h.size hg.size, fun q hq => (hg.block q (Nat.lt_of_lt_of_le hq h.size) (fun e => by injection e with e; omega)).trans (h.block q hq)⟩
section
variable {α : Type} {d : Kd α} {e g n cap : Nat} {W : World} {base : Nat} {ok oki : Nat → Prop} {xs : List α} {i : Int} {c : List Value}
/-- A cell of the hole is written. -/
theorem H_put {P : Program} {ops : Array Oper} {rest : List Oper} {o : Oper} {a : Act} {Q : Exit → Act → World → Prop} {t : TypeId} {off j : Nat} (hgd : o.guard = none) (hN : o.dst = none) (x y : Operand) (ho : o.op = .store t x y) (u : Value) (hu : u.cells = #[u]) (h1 : u.oneCell' = true) (hx : a.eval x = .pointer (some ⟨g, off, none⟩)) (hoff : off = i.toNat * d.sz + j)
  (hy : a.eval y = u) (hi : (P.info? t).map (·.size) = some 1) (HO : Kd.H d e W base ok (.slice (some ⟨g, 0, none⟩) n cap) xs i oki c) (h0 : 0 ≤ i) (hin : i < n) (hj : j < d.sz)
  (h : ∀ w1, Kd.H d e w1 base ok (.slice (some ⟨g, 0, none⟩) n cap) xs i oki (c.set j u) → W.grownBy w1 (some g) → wpList P ops Q rest a w1) : wpList P ops Q (o :: rest) a W := by
 obtain ⟨rows, _, hraw, hcl, hco, hcc, _⟩ := Kd.H_raw HO h0 hin
 obtain ⟨h2, h3⟩ := Kd.H_seg (j := j) (seg := [u]) HO h0 hin (by simp; omega) (by simpa using h1)
 obtain ⟨_, _, _, _, hfr⟩ := Kd.R_elem hraw [] i h0 hin
 have hthere : W.there g off #[u].size := fun q hq => by
  have hq0 : q = 0 := by simpa using hq
  subst hq0
  rw [Nat.add_zero, hoff]
  exact ⟨by rw [hcc j _ (List.getElem?_eq_getElem (by omega))]; rfl, hfr j⟩
 have hrun := run_storeVar_v (P := P) W g off t u #[u] hu hthere hi (by simpa using h1)
 refine wpList_plain hgd fun K hK => ?_
 unfold Oper.wp execOp
 simp only [ho, hx, hy, Instr.storeAt, Instr.sureAddr, Sem.run_bind, Sem.run_pure, Result.andThen_ok, hrun]
 show K (a.put o.dst undef) _
 rw [hN]
 rw [hoff]
 refine hK _ _ (h _ ?_ h3)
 have he : c.take j ++ [u] ++ c.drop (j + [u].length) = c.set j u := by
  rw [List.set_eq_take_append_cons_drop, if_pos (by omega)]
  simp
 rw [he] at h2
 exact h2
end
/-- A mark's next. -/
abbrev nx (a : Int) : Int := wrap64 (a + 1)
/-- Keys that are marked, plainly. -/
def mkSaS.f (k : Nat) : List S48 → Int → Option (Int × List S48)
 | [], a => some (a, [])
 | x :: xs, a => (laws_markText.f k (nx (nx a))).bind fun s2 => (laws_markText.f k (nx (nx (nx a)))).bind fun s3 => (laws_markIntS.f k x.f9.f1 (nx (nx (nx (nx (nx (nx (nx (nx (nx (nx a)))))))))) ).bind fun q => (mkSaS.f k xs q.1).bind fun p => some (p.1, ⟨a, nx a, s2, s3, nx (nx (nx (nx a))), nx (nx (nx (nx (nx a)))), nx (nx (nx (nx (nx (nx a))))), nx (nx (nx (nx (nx (nx (nx a)))))), nx (nx (nx (nx (nx (nx (nx (nx a))))))), ⟨nx (nx (nx (nx (nx (nx (nx (nx (nx a)))))))), q.2⟩⟩ :: p.2)
theorem mkSaS.run (k : Nat) (P0_ : Nat → Prop) (u9000_ : Value) (l0 : List S48) (a1 r1 : Int) (r2 : List S48) (w0 w : World) (hB : Below w0.heap.size w0 w) (ho : Kd.S k48 48 w w0.heap.size P0_ u9000_ l0) (h : mkSaS.f k l0 a1 = some (r1, r2)) :
  Calls Tryz.prog 44 #[u9000_, .int .i64 a1] w fun e w' => e = .returned (.int .i64 r1) ∧ Kd.S k48 48 w' w0.heap.size P0_ u9000_ r2 ∧ Below w0.heap.size w0 w' ∧ Kept w w' P0_ := by
 obtain ⟨A, c, rfl⟩ := Kd.S_slice ho
 have HM := am (Kd.S_reads' ho).2.2.2.1
 have HB := am hB
 have HS := am ho
 have HE := am h
 clear hB ho h
 go_enter Tryz.func44, Tryz.ntmps44
 go_wp2
 go_loopg [1, 5] l0.length (fun gg s1 s5 wr => ∃ (dn rs : List S48) (a : Int) (p : List S48), dn.length + rs.length = l0.length ∧ Aside0 (rs.length ≤ gg) ∧ s1 = .int .i64 a ∧ s5 = .int .i64 (dn.length : Int) ∧ Aside0 (Below w0.heap.size w0 wr) ∧ Aside0 (Kept w wr P0_) ∧ Aside0 (Kd.S k48 48 wr w0.heap.size P0_ (.slice A l0.length c) (dn ++ rs)) ∧ Aside0 (mkSaS.f k rs a = some (r1, p)) ∧ Aside0 (dn ++ p = r2))
 case atStart => exact ⟨[], l0, a1, r2, by simp, ⟨Nat.le_refl _⟩, rfl, rfl, HB, am (Kept.refl _ _), HS, HE, am rfl⟩
 case round =>
  clear HE HB HS
  obtain ⟨dn, rs, a, p, hlen, hg, rfl, rfl, HB, KP, HS, HE, HR⟩ := hrel
  have hml := HM.out
  cases rs with
  | nil =>
   have hltz : ¬ (dn.length : Int) < (l0.length : Int) := by simp at hlen; omega
   have E1 := HE.out
   simp only [mkSaS.f, Option.some.injEq, Prod.mk.injEq] at E1
   obtain ⟨rfl, rfl⟩ := E1
   go_wp2
   go_ret
   exact ⟨rfl, by have := HS.out; rw [HR.out] at this; exact this, HB.out, KP.out⟩
  | cons x rs =>
   have hltz : (dn.length : Int) < (l0.length : Int) := by simp at hlen; omega
   have p1 : 0 ≤ (dn.length : Int) := by omega
   have hin : (dn.length : Int) < ((l0.length : Nat) : Int) := hltz
   have E1 := HE.out
   simp only [mkSaS.f] at E1
   obtain ⟨s2, hs2, E1⟩ := Option.bind_eq_some_iff.mp E1
   obtain ⟨s3, hs3, E1⟩ := Option.bind_eq_some_iff.mp E1
   obtain ⟨⟨q1, q2⟩, hq, E1⟩ := Option.bind_eq_some_iff.mp E1
   obtain ⟨⟨p0, p2⟩, hp, E1⟩ := Option.bind_eq_some_iff.mp E1
   simp only [Option.some.injEq, Prod.mk.injEq] at E1
   obtain ⟨rfl, rfl⟩ := E1
   have T2 := am hs2
   have T3 := am hs3
   have TI := am hq
   have TP := am hp
   clear hs2 hs3 hq hp HE
   obtain ⟨g, cap, e, hbase, hlt, cells, hbk⟩ := Kd.S_form HS.out (by simp; omega)
   injection e with e1 e2 e3
   subst e1
   obtain ⟨oki, c0, hcl, hM, hcc, hoki, hH⟩ := Kd.S_lend HS.out z48 (dn.length : Int) p1 hin
   have hx : (dn ++ x :: rs).getD (dn.length : Int).toNat z48 = x := by simp
   rw [hx] at hM
   obtain ⟨v10, rfl, hRI⟩ := k48_openM hM
   have HH := am hH
   have RI := am hRI
   have HK := am hoki
   have GB := am hbase
   have PG := am (show P0_ g from (Kd.S_R HS.out).1 g rfl)
   clear hx hM hcc hcl hH hRI hoki hbase hlt hbk e2 e3 HS
   go_upto_region 10 with (first | (go_at_call 77; refine (laws_markText.calls k (nx (nx a)) s2 _ T2.out).mono ?_; rintro e wq ⟨rfl, hb⟩; replace HH := am (Kd.H_below HH.out hb); replace RI := am (Kd.R_below RI.out hb); replace KP := am (KP.out.below hb); replace HB := kpH HB hb; clear hb) | ((with_reducible refine gate_store (t := 3) (p := 16) rfl ?_); refine H_put (j := 0) rfl rfl (.tmp 16) (.tmp 14) rfl (.int .i64 a) rfl rfl (by rfl) ?hof (by rfl) (by kernel_rfl) HH.out p1 hin (by decide) ?_; (case hof => first | rfl | (show _ = (dn.length : Int).toNat * 11 + _; rw [Int.toNat_natCast]; first | rfl | omega)); intro wq hA hg1; replace HH := am hA; clear hA; replace RI := am (Kd.R_step RI.out (fun q hq hl => hg1.block q hl (fun e => (HK.out q hq).2 (by injection e)))); replace HB := am (below_gr HB.out hg1 GB.out); replace KP := am (Kept.of_grown hg1 KP.out (fun q hq => .inl (by injection hq with hq; rw [← hq]; exact PG.out))); clear hg1) | ((with_reducible refine gate_store (t := 3) (p := 23) rfl ?_); refine H_put (j := 1) rfl rfl (.tmp 23) (.tmp 21) rfl (.int .i64 (nx a)) rfl rfl (by rfl) ?hof (by rfl) (by kernel_rfl) HH.out p1 hin (by decide) ?_; (case hof => first | rfl | (show _ = (dn.length : Int).toNat * 11 + _; rw [Int.toNat_natCast]; first | rfl | omega)); intro wq hA hg1; replace HH := am hA; clear hA; replace RI := am (Kd.R_step RI.out (fun q hq hl => hg1.block q hl (fun e => (HK.out q hq).2 (by injection e)))); replace HB := am (below_gr HB.out hg1 GB.out); replace KP := am (Kept.of_grown hg1 KP.out (fun q hq => .inl (by injection hq with hq; rw [← hq]; exact PG.out))); clear hg1) | ((with_reducible refine gate_store (t := 9) (p := 31) rfl ?_); refine H_put (j := 2) rfl rfl (.tmp 31) (.tmp 29) rfl (.string s2) rfl rfl (by rfl) ?hof (by rfl) (by kernel_rfl) HH.out p1 hin (by decide) ?_; (case hof => first | rfl | (show _ = (dn.length : Int).toNat * 11 + _; rw [Int.toNat_natCast]; first | rfl | omega)); intro wq hA hg1; replace HH := am hA; clear hA; replace RI := am (Kd.R_step RI.out (fun q hq hl => hg1.block q hl (fun e => (HK.out q hq).2 (by injection e)))); replace HB := am (below_gr HB.out hg1 GB.out); replace KP := am (Kept.of_grown hg1 KP.out (fun q hq => .inl (by injection hq with hq; rw [← hq]; exact PG.out))); clear hg1))
   go_upto_region 12 with (first | (go_at_call 77; refine (laws_markText.calls k (nx (nx (nx a))) s3 _ T3.out).mono ?_; rintro e wq ⟨rfl, hb⟩; replace HH := am (Kd.H_below HH.out hb); replace RI := am (Kd.R_below RI.out hb); replace KP := am (KP.out.below hb); replace HB := kpH HB hb; clear hb) | ((with_reducible refine gate_store (t := 9) (p := 39) rfl ?_); refine H_put (j := 3) rfl rfl (.tmp 39) (.tmp 37) rfl (.string s3) rfl rfl (by rfl) ?hof (by rfl) (by kernel_rfl) HH.out p1 hin (by decide) ?_; (case hof => first | rfl | (show _ = (dn.length : Int).toNat * 11 + _; rw [Int.toNat_natCast]; first | rfl | omega)); intro wq hA hg1; replace HH := am hA; clear hA; replace RI := am (Kd.R_step RI.out (fun q hq hl => hg1.block q hl (fun e => (HK.out q hq).2 (by injection e)))); replace HB := am (below_gr HB.out hg1 GB.out); replace KP := am (Kept.of_grown hg1 KP.out (fun q hq => .inl (by injection hq with hq; rw [← hq]; exact PG.out))); clear hg1))
   go_upto_region 24 with (first | ((with_reducible refine gate_store (t := 3) (p := 46) rfl ?_); refine H_put (j := 4) rfl rfl (.tmp 46) (.tmp 44) rfl (.int .i64 (nx (nx (nx (nx a))))) rfl rfl (by rfl) ?hof (by rfl) (by kernel_rfl) HH.out p1 hin (by decide) ?_; (case hof => first | rfl | (show _ = (dn.length : Int).toNat * 11 + _; rw [Int.toNat_natCast]; first | rfl | omega)); intro wq hA hg1; replace HH := am hA; clear hA; replace RI := am (Kd.R_step RI.out (fun q hq hl => hg1.block q hl (fun e => (HK.out q hq).2 (by injection e)))); replace HB := am (below_gr HB.out hg1 GB.out); replace KP := am (Kept.of_grown hg1 KP.out (fun q hq => .inl (by injection hq with hq; rw [← hq]; exact PG.out))); clear hg1) | ((with_reducible refine gate_store (t := 3) (p := 53) rfl ?_); refine H_put (j := 5) rfl rfl (.tmp 53) (.tmp 51) rfl (.int .i64 (nx (nx (nx (nx (nx a)))))) rfl rfl (by rfl) ?hof (by rfl) (by kernel_rfl) HH.out p1 hin (by decide) ?_; (case hof => first | rfl | (show _ = (dn.length : Int).toNat * 11 + _; rw [Int.toNat_natCast]; first | rfl | omega)); intro wq hA hg1; replace HH := am hA; clear hA; replace RI := am (Kd.R_step RI.out (fun q hq hl => hg1.block q hl (fun e => (HK.out q hq).2 (by injection e)))); replace HB := am (below_gr HB.out hg1 GB.out); replace KP := am (Kept.of_grown hg1 KP.out (fun q hq => .inl (by injection hq with hq; rw [← hq]; exact PG.out))); clear hg1) | ((with_reducible refine gate_store (t := 3) (p := 60) rfl ?_); refine H_put (j := 6) rfl rfl (.tmp 60) (.tmp 58) rfl (.int .i64 (nx (nx (nx (nx (nx (nx a))))))) rfl rfl (by rfl) ?hof (by rfl) (by kernel_rfl) HH.out p1 hin (by decide) ?_; (case hof => first | rfl | (show _ = (dn.length : Int).toNat * 11 + _; rw [Int.toNat_natCast]; first | rfl | omega)); intro wq hA hg1; replace HH := am hA; clear hA; replace RI := am (Kd.R_step RI.out (fun q hq hl => hg1.block q hl (fun e => (HK.out q hq).2 (by injection e)))); replace HB := am (below_gr HB.out hg1 GB.out); replace KP := am (Kept.of_grown hg1 KP.out (fun q hq => .inl (by injection hq with hq; rw [← hq]; exact PG.out))); clear hg1) | ((with_reducible refine gate_store (t := 3) (p := 67) rfl ?_); refine H_put (j := 7) rfl rfl (.tmp 67) (.tmp 65) rfl (.int .i64 (nx (nx (nx (nx (nx (nx (nx a)))))))) rfl rfl (by rfl) ?hof (by rfl) (by kernel_rfl) HH.out p1 hin (by decide) ?_; (case hof => first | rfl | (show _ = (dn.length : Int).toNat * 11 + _; rw [Int.toNat_natCast]; first | rfl | omega)); intro wq hA hg1; replace HH := am hA; clear hA; replace RI := am (Kd.R_step RI.out (fun q hq hl => hg1.block q hl (fun e => (HK.out q hq).2 (by injection e)))); replace HB := am (below_gr HB.out hg1 GB.out); replace KP := am (Kept.of_grown hg1 KP.out (fun q hq => .inl (by injection hq with hq; rw [← hq]; exact PG.out))); clear hg1) | ((with_reducible refine gate_store (t := 3) (p := 74) rfl ?_); refine H_put (j := 8) rfl rfl (.tmp 74) (.tmp 72) rfl (.int .i64 (nx (nx (nx (nx (nx (nx (nx (nx a))))))))) rfl rfl (by rfl) ?hof (by rfl) (by kernel_rfl) HH.out p1 hin (by decide) ?_; (case hof => first | rfl | (show _ = (dn.length : Int).toNat * 11 + _; rw [Int.toNat_natCast]; first | rfl | omega)); intro wq hA hg1; replace HH := am hA; clear hA; replace RI := am (Kd.R_step RI.out (fun q hq hl => hg1.block q hl (fun e => (HK.out q hq).2 (by injection e)))); replace HB := am (below_gr HB.out hg1 GB.out); replace KP := am (Kept.of_grown hg1 KP.out (fun q hq => .inl (by injection hq with hq; rw [← hq]; exact PG.out))); clear hg1) | ((with_reducible refine gate_store (t := 3) (p := 82) rfl ?_); refine H_put (j := 9) rfl rfl (.tmp 82) (.tmp 79) rfl (.int .i64 (nx (nx (nx (nx (nx (nx (nx (nx (nx a)))))))))) rfl rfl (by rfl) ?hof (by rfl) (by kernel_rfl) HH.out p1 hin (by decide) ?_; (case hof => first | rfl | (show _ = (dn.length : Int).toNat * 11 + _; rw [Int.toNat_natCast]; first | rfl | omega)); intro wq hA hg1; replace HH := am hA; clear hA; replace RI := am (Kd.R_step RI.out (fun q hq hl => hg1.block q hl (fun e => (HK.out q hq).2 (by injection e)))); replace HB := am (below_gr HB.out hg1 GB.out); replace KP := am (Kept.of_grown hg1 KP.out (fun q hq => .inl (by injection hq with hq; rw [← hq]; exact PG.out))); clear hg1))
   obtain ⟨_, _, _, _, _, hcc, _⟩ := Kd.H_raw HH.out p1 hin
   have hc10 : wq.cell? ⟨g, dn.length * 11 + 10, none⟩ = some v10 := by have h0 := hcc 10 v10 rfl; rw [Int.toNat_natCast] at h0; exact h0
   have hc11 : wq.cell? ⟨g, dn.length * 11 + 9 + 1, none⟩ = some v10 := hc10
   go_upto_region 3 with (go_at_call 78; refine (laws_markIntS.calls k oki v10 x.f9.f1 (nx (nx (nx (nx (nx (nx (nx (nx (nx (nx a)))))))))) q1 q2 w0 _ HB.out RI.out TI.out).mono ?_; rintro e wq ⟨rfl, hR, hb, hkp⟩; replace RI := am (show (Kd.int .i64).R 3 wq w0.heap.size oki v10 q2 from Kd.R_reok rfl hR (fun q hq => RI.out.1 q hq)); replace HH := am (Kd.H_step HH.out (fun q _ hno hl => hkp.2 q hl hno)); replace KP := am (Kept.then_ KP.out hkp (fun q hq => .inl (HK.out q hq).1)); replace HB := am hb; clear hR hb hkp)
   have hS := Kd.H_back (okp := oki) (x' := (⟨a, (nx a), s2, s3, (nx (nx (nx (nx a)))), (nx (nx (nx (nx (nx a))))), (nx (nx (nx (nx (nx (nx a)))))), (nx (nx (nx (nx (nx (nx (nx a))))))), (nx (nx (nx (nx (nx (nx (nx (nx a)))))))), ⟨(nx (nx (nx (nx (nx (nx (nx (nx (nx a))))))))), q2⟩⟩ : S48)) HH.out (show k48.M _ _ oki (⟨a, (nx a), s2, s3, (nx (nx (nx (nx a)))), (nx (nx (nx (nx (nx a))))), (nx (nx (nx (nx (nx (nx a)))))), (nx (nx (nx (nx (nx (nx (nx a))))))), (nx (nx (nx (nx (nx (nx (nx (nx a)))))))), ⟨(nx (nx (nx (nx (nx (nx (nx (nx (nx a))))))))), q2⟩⟩ : S48) [.int .i64 a, .int .i64 (nx a), .string s2, .string s3, .int .i64 (nx (nx (nx (nx a)))), .int .i64 (nx (nx (nx (nx (nx a))))), .int .i64 (nx (nx (nx (nx (nx (nx a)))))), .int .i64 (nx (nx (nx (nx (nx (nx (nx a))))))), .int .i64 (nx (nx (nx (nx (nx (nx (nx (nx a)))))))), .int .i64 (nx (nx (nx (nx (nx (nx (nx (nx (nx a))))))))), v10] from k48_mkM _ _ oki (⟨a, (nx a), s2, s3, (nx (nx (nx (nx a)))), (nx (nx (nx (nx (nx a))))), (nx (nx (nx (nx (nx (nx a)))))), (nx (nx (nx (nx (nx (nx (nx a))))))), (nx (nx (nx (nx (nx (nx (nx (nx a)))))))), ⟨(nx (nx (nx (nx (nx (nx (nx (nx (nx a))))))))), q2⟩⟩ : S48) RI.out) (fun _ h => h)
   have hs : (dn ++ x :: rs).set (dn.length : Int).toNat (⟨a, (nx a), s2, s3, (nx (nx (nx (nx a)))), (nx (nx (nx (nx (nx a))))), (nx (nx (nx (nx (nx (nx a)))))), (nx (nx (nx (nx (nx (nx (nx a))))))), (nx (nx (nx (nx (nx (nx (nx (nx a)))))))), ⟨(nx (nx (nx (nx (nx (nx (nx (nx (nx a))))))))), q2⟩⟩ : S48) = (dn ++ [(⟨a, (nx a), s2, s3, (nx (nx (nx (nx a)))), (nx (nx (nx (nx (nx a))))), (nx (nx (nx (nx (nx (nx a)))))), (nx (nx (nx (nx (nx (nx (nx a))))))), (nx (nx (nx (nx (nx (nx (nx (nx a)))))))), ⟨(nx (nx (nx (nx (nx (nx (nx (nx (nx a))))))))), q2⟩⟩ : S48)]) ++ rs := by simp
   rw [hs] at hS
   have HS := am hS
   clear hS hs hc10 hc11 hcc HH RI
   go_wp2
   go_roundg rs.length
   case measure => have := hg.out; simp at this; omega
   case rel => exact ⟨dn ++ [(⟨a, (nx a), s2, s3, (nx (nx (nx (nx a)))), (nx (nx (nx (nx (nx a))))), (nx (nx (nx (nx (nx (nx a)))))), (nx (nx (nx (nx (nx (nx (nx a))))))), (nx (nx (nx (nx (nx (nx (nx (nx a)))))))), ⟨(nx (nx (nx (nx (nx (nx (nx (nx (nx a))))))))), q2⟩⟩ : S48)], rs, q1, p2, by simp at hlen ⊢; omega, ⟨Nat.le_refl _⟩, rfl, by rw [List.length_append]; go_num, HB, KP, HS, TP, am (by rw [← HR.out]; simp)⟩
theorem S_flat {α : Type} {d : Kd α} {e b : Nat} {w : World} {ok : Nat → Prop} {v : Value} {xs : List α} (hE : d.E = []) (h : d.R e w b ok v xs) : Kd.S d e w b ok v xs := by
 obtain ⟨h0, inner, ho, hr⟩ := h
 refine ⟨fun _ => 0, h0, inner, by rw [List.length_zipIdx]; exact ho, by rw [List.length_zipIdx]; exact hr.1, fun j p hp => ?_⟩
 rw [List.getElem?_zipIdx, Nat.zero_add] at hp
 obtain ⟨x, hx, rfl⟩ := Option.map_eq_some_iff.1 hp
 refine d.M_mono (fun k hk => ?_) (d.M_bound (hr.2 j x hx))
 obtain ⟨_, _, _, q, hq, _⟩ := hk
 rw [hE] at hq
 cases hq
def mkRu.f : List S92 → Int → Int × List S92
 | [], a => (a, [])
 | x :: xs, a => ((mkRu.f xs (nx (nx (nx (nx (nx (nx (nx (nx a))))))))).1, (⟨a, (nx a), ⟨(nx (nx a)), (nx (nx (nx a)))⟩, ⟨(nx (nx (nx (nx a)))), (nx (nx (nx (nx (nx a)))))⟩, (nx (nx (nx (nx (nx (nx a)))))), (nx (nx (nx (nx (nx (nx (nx a)))))))⟩ : S92) :: (mkRu.f xs (nx (nx (nx (nx (nx (nx (nx (nx a))))))))).2)
theorem mkRu.run (P0_ : Nat → Prop) (u9000_ : Value) (l0 : List S92) (a1 : Int) (w0 w : World) (hB : Below w0.heap.size w0 w) (ho : Kd.R k92 92 w w0.heap.size P0_ u9000_ l0) :
  Calls Tryz.prog 42 #[u9000_, .int .i64 a1] w fun e w' => e = .returned (.int .i64 (mkRu.f l0 a1).1) ∧ Kd.R k92 92 w' w0.heap.size P0_ u9000_ (mkRu.f l0 a1).2 ∧ Below w0.heap.size w0 w' ∧ Kept w w' P0_ := by
 obtain ⟨A, c, rfl⟩ := Kd.R_slice ho
 have HM := am (Kd.R_reads' ho).2.2.2.1
 have HB := am hB
 have HS := am (S_flat rfl ho)
 clear hB ho
 go_enter Tryz.func42, Tryz.ntmps42
 go_wp2
 go_loopg [1, 5] l0.length (fun gg s1 s5 wr => ∃ (dn rs : List S92) (a : Int), dn.length + rs.length = l0.length ∧ Aside0 (rs.length ≤ gg) ∧ s1 = .int .i64 a ∧ s5 = .int .i64 (dn.length : Int) ∧ Aside0 (Below w0.heap.size w0 wr) ∧ Aside0 (Kept w wr P0_) ∧ Aside0 (Kd.S k92 92 wr w0.heap.size P0_ (.slice A l0.length c) (dn ++ rs)) ∧ Aside0 ((mkRu.f rs a).1 = (mkRu.f l0 a1).1) ∧ Aside0 (dn ++ (mkRu.f rs a).2 = (mkRu.f l0 a1).2))
 case atStart => exact ⟨[], l0, a1, by simp, ⟨Nat.le_refl _⟩, rfl, rfl, HB, am (Kept.refl _ _), HS, am rfl, am rfl⟩
 case round =>
  clear HB HS
  obtain ⟨dn, rs, a, hlen, hg, rfl, rfl, HB, KP, HS, HE, HR⟩ := hrel
  have hml := HM.out
  cases rs with
  | nil =>
   have hltz : ¬ (dn.length : Int) < (l0.length : Int) := by simp at hlen; omega
   have E1 : a = (mkRu.f l0 a1).1 := HE.out
   subst E1
   clear HE
   go_wp2
   go_ret
   exact ⟨rfl, by have h2 : dn ++ [] = _ := HR.out; have := Kd.S_R HS.out; rw [h2] at this; exact this, HB.out, KP.out⟩
  | cons x rs =>
   have hltz : (dn.length : Int) < (l0.length : Int) := by simp at hlen; omega
   have p1 : 0 ≤ (dn.length : Int) := by omega
   have hin : (dn.length : Int) < ((l0.length : Nat) : Int) := hltz
   obtain ⟨g, cap, e, hbase, hlt, cells, hbk⟩ := Kd.S_form HS.out (by simp; omega)
   injection e with e1 e2 e3
   subst e1
   obtain ⟨oki, c0, hcl, hM, hcc, hoki, hH⟩ := Kd.S_lend HS.out z92 (dn.length : Int) p1 hin
   have hx : (dn ++ x :: rs).getD (dn.length : Int).toNat z92 = x := by simp
   rw [hx] at hM
   have hc0 := k92_openM hM
   subst hc0
   have HH := am hH
   have GB := am hbase
   have PG := am (show P0_ g from (Kd.S_R HS.out).1 g rfl)
   clear hx hM hcc hcl hH hoki hbase hlt hbk e2 e3 HS
   go_upto_region 3 with (first | ((with_reducible refine gate_store (t := 3) (p := 16) rfl ?_); refine H_put (j := 0) rfl rfl (.tmp 16) (.tmp 14) rfl (.int .i64 a) rfl rfl (by rfl) ?hof (by rfl) (by kernel_rfl) HH.out p1 hin (by decide) ?_; (case hof => first | rfl | (show _ = (dn.length : Int).toNat * 8 + _; rw [Int.toNat_natCast]; first | rfl | omega)); intro wq hA hg1; replace HH := am hA; clear hA; replace HB := am (below_gr HB.out hg1 GB.out); replace KP := am (Kept.of_grown hg1 KP.out (fun q hq => .inl (by injection hq with hq; rw [← hq]; exact PG.out))); clear hg1) | ((with_reducible refine gate_store (t := 3) (p := 23) rfl ?_); refine H_put (j := 1) rfl rfl (.tmp 23) (.tmp 21) rfl (.int .i64 (nx a)) rfl rfl (by rfl) ?hof (by rfl) (by kernel_rfl) HH.out p1 hin (by decide) ?_; (case hof => first | rfl | (show _ = (dn.length : Int).toNat * 8 + _; rw [Int.toNat_natCast]; first | rfl | omega)); intro wq hA hg1; replace HH := am hA; clear hA; replace HB := am (below_gr HB.out hg1 GB.out); replace KP := am (Kept.of_grown hg1 KP.out (fun q hq => .inl (by injection hq with hq; rw [← hq]; exact PG.out))); clear hg1) | ((with_reducible refine gate_store (t := 3) (p := 31) rfl ?_); refine H_put (j := 2) rfl rfl (.tmp 31) (.tmp 28) rfl (.int .i64 (nx (nx a))) rfl rfl (by rfl) ?hof (by rfl) (by kernel_rfl) HH.out p1 hin (by decide) ?_; (case hof => first | rfl | (show _ = (dn.length : Int).toNat * 8 + _; rw [Int.toNat_natCast]; first | rfl | omega)); intro wq hA hg1; replace HH := am hA; clear hA; replace HB := am (below_gr HB.out hg1 GB.out); replace KP := am (Kept.of_grown hg1 KP.out (fun q hq => .inl (by injection hq with hq; rw [← hq]; exact PG.out))); clear hg1) | ((with_reducible refine gate_store (t := 3) (p := 39) rfl ?_); refine H_put (j := 3) rfl rfl (.tmp 39) (.tmp 36) rfl (.int .i64 (nx (nx (nx a)))) rfl rfl (by rfl) ?hof (by rfl) (by kernel_rfl) HH.out p1 hin (by decide) ?_; (case hof => first | rfl | (show _ = (dn.length : Int).toNat * 8 + _; rw [Int.toNat_natCast]; first | rfl | omega)); intro wq hA hg1; replace HH := am hA; clear hA; replace HB := am (below_gr HB.out hg1 GB.out); replace KP := am (Kept.of_grown hg1 KP.out (fun q hq => .inl (by injection hq with hq; rw [← hq]; exact PG.out))); clear hg1) | ((with_reducible refine gate_store (t := 3) (p := 47) rfl ?_); refine H_put (j := 4) rfl rfl (.tmp 47) (.tmp 44) rfl (.int .i64 (nx (nx (nx (nx a))))) rfl rfl (by rfl) ?hof (by rfl) (by kernel_rfl) HH.out p1 hin (by decide) ?_; (case hof => first | rfl | (show _ = (dn.length : Int).toNat * 8 + _; rw [Int.toNat_natCast]; first | rfl | omega)); intro wq hA hg1; replace HH := am hA; clear hA; replace HB := am (below_gr HB.out hg1 GB.out); replace KP := am (Kept.of_grown hg1 KP.out (fun q hq => .inl (by injection hq with hq; rw [← hq]; exact PG.out))); clear hg1) | ((with_reducible refine gate_store (t := 3) (p := 55) rfl ?_); refine H_put (j := 5) rfl rfl (.tmp 55) (.tmp 52) rfl (.int .i64 (nx (nx (nx (nx (nx a)))))) rfl rfl (by rfl) ?hof (by rfl) (by kernel_rfl) HH.out p1 hin (by decide) ?_; (case hof => first | rfl | (show _ = (dn.length : Int).toNat * 8 + _; rw [Int.toNat_natCast]; first | rfl | omega)); intro wq hA hg1; replace HH := am hA; clear hA; replace HB := am (below_gr HB.out hg1 GB.out); replace KP := am (Kept.of_grown hg1 KP.out (fun q hq => .inl (by injection hq with hq; rw [← hq]; exact PG.out))); clear hg1) | ((with_reducible refine gate_store (t := 3) (p := 62) rfl ?_); refine H_put (j := 6) rfl rfl (.tmp 62) (.tmp 60) rfl (.int .i64 (nx (nx (nx (nx (nx (nx a))))))) rfl rfl (by rfl) ?hof (by rfl) (by kernel_rfl) HH.out p1 hin (by decide) ?_; (case hof => first | rfl | (show _ = (dn.length : Int).toNat * 8 + _; rw [Int.toNat_natCast]; first | rfl | omega)); intro wq hA hg1; replace HH := am hA; clear hA; replace HB := am (below_gr HB.out hg1 GB.out); replace KP := am (Kept.of_grown hg1 KP.out (fun q hq => .inl (by injection hq with hq; rw [← hq]; exact PG.out))); clear hg1) | ((with_reducible refine gate_store (t := 3) (p := 69) rfl ?_); refine H_put (j := 7) rfl rfl (.tmp 69) (.tmp 67) rfl (.int .i64 (nx (nx (nx (nx (nx (nx (nx a)))))))) rfl rfl (by rfl) ?hof (by rfl) (by kernel_rfl) HH.out p1 hin (by decide) ?_; (case hof => first | rfl | (show _ = (dn.length : Int).toNat * 8 + _; rw [Int.toNat_natCast]; first | rfl | omega)); intro wq hA hg1; replace HH := am hA; clear hA; replace HB := am (below_gr HB.out hg1 GB.out); replace KP := am (Kept.of_grown hg1 KP.out (fun q hq => .inl (by injection hq with hq; rw [← hq]; exact PG.out))); clear hg1))
   have hS := Kd.H_back (okp := fun _ => False) (x' := (⟨a, (nx a), ⟨(nx (nx a)), (nx (nx (nx a)))⟩, ⟨(nx (nx (nx (nx a)))), (nx (nx (nx (nx (nx a)))))⟩, (nx (nx (nx (nx (nx (nx a)))))), (nx (nx (nx (nx (nx (nx (nx a)))))))⟩ : S92)) HH.out (show k92.M _ _ (fun _ => False) (⟨a, (nx a), ⟨(nx (nx a)), (nx (nx (nx a)))⟩, ⟨(nx (nx (nx (nx a)))), (nx (nx (nx (nx (nx a)))))⟩, (nx (nx (nx (nx (nx (nx a)))))), (nx (nx (nx (nx (nx (nx (nx a)))))))⟩ : S92) [.int .i64 a, .int .i64 (nx a), .int .i64 (nx (nx a)), .int .i64 (nx (nx (nx a))), .int .i64 (nx (nx (nx (nx a)))), .int .i64 (nx (nx (nx (nx (nx a))))), .int .i64 (nx (nx (nx (nx (nx (nx a)))))), .int .i64 (nx (nx (nx (nx (nx (nx (nx a)))))))] from k92_mkM _ _ _ (⟨a, (nx a), ⟨(nx (nx a)), (nx (nx (nx a)))⟩, ⟨(nx (nx (nx (nx a)))), (nx (nx (nx (nx (nx a)))))⟩, (nx (nx (nx (nx (nx (nx a)))))), (nx (nx (nx (nx (nx (nx (nx a)))))))⟩ : S92)) (fun _ h => h.elim)
   have hs : (dn ++ x :: rs).set (dn.length : Int).toNat (⟨a, (nx a), ⟨(nx (nx a)), (nx (nx (nx a)))⟩, ⟨(nx (nx (nx (nx a)))), (nx (nx (nx (nx (nx a)))))⟩, (nx (nx (nx (nx (nx (nx a)))))), (nx (nx (nx (nx (nx (nx (nx a)))))))⟩ : S92) = (dn ++ [(⟨a, (nx a), ⟨(nx (nx a)), (nx (nx (nx a)))⟩, ⟨(nx (nx (nx (nx a)))), (nx (nx (nx (nx (nx a)))))⟩, (nx (nx (nx (nx (nx (nx a)))))), (nx (nx (nx (nx (nx (nx (nx a)))))))⟩ : S92)]) ++ rs := by simp
   rw [hs] at hS
   have HS := am hS
   clear hS hs HH
   go_wp2
   go_roundg rs.length
   case measure => have := hg.out; simp at this; omega
   case rel => exact ⟨dn ++ [(⟨a, (nx a), ⟨(nx (nx a)), (nx (nx (nx a)))⟩, ⟨(nx (nx (nx (nx a)))), (nx (nx (nx (nx (nx a)))))⟩, (nx (nx (nx (nx (nx (nx a)))))), (nx (nx (nx (nx (nx (nx (nx a)))))))⟩ : S92)], rs, (nx (nx (nx (nx (nx (nx (nx (nx a)))))))), by simp at hlen ⊢; omega, ⟨Nat.le_refl _⟩, rfl, by rw [List.length_append]; go_num, HB, KP, HS, HE, am (by rw [← HR.out]; simp [mkRu.f])⟩
def hdRu : List S92 → Int → Int → Prop
 | [], a, r => a = r
 | x :: xs, a, r => x = (⟨a, (nx a), ⟨(nx (nx a)), (nx (nx (nx a)))⟩, ⟨(nx (nx (nx (nx a)))), (nx (nx (nx (nx (nx a)))))⟩, (nx (nx (nx (nx (nx (nx a)))))), (nx (nx (nx (nx (nx (nx (nx a)))))))⟩ : S92) ∧ hdRu xs (nx (nx (nx (nx (nx (nx (nx (nx a)))))))) r
theorem hdRu.run (A : Option Addr) (c : Nat) (l0 : List S92) (a1 r : Int) (w : World) (hr : Kd.C k92 w A l0.length l0) (h : hdRu l0 a1 r) :
  Calls Tryz.prog 46 #[.slice A l0.length c, .int .i64 a1] w fun e w' => e = .returned (.int .i64 r) ∧ w' = w := by
 have HM := am hr.2.1
 have HR := am hr
 have HE := am h
 clear hr h
 go_enter Tryz.func46, Tryz.ntmps46
 go_wp2
 go_loopg [1, 5] l0.length (fun gg s1 s5 wr => ∃ (jj : Nat) (a : Int), jj ≤ l0.length ∧ Aside0 (l0.length - jj ≤ gg) ∧ s1 = .int .i64 a ∧ s5 = .int .i64 (jj : Int) ∧ wr = w ∧ Aside0 (hdRu (l0.drop jj) a r))
 case atStart => exact ⟨0, a1, Nat.zero_le _, ⟨by omega⟩, rfl, rfl, rfl, HE⟩
 case round =>
  clear HE
  obtain ⟨jj, a, hjj, hg, rfl, rfl, rfl, HE⟩ := hrel
  have hml := HM.out
  by_cases hlt : jj < l0.length
  ·have hltz : (jj : Int) < (l0.length : Int) := by omega
   have p1 : 0 ≤ (jj : Int) := by omega
   obtain ⟨ad, e, h0, h1, h2, h3, h4, h5, h6, h7⟩ := at_T92 HR.out (jj : Int) p1 hltz
   have hxx : rd_T92 l0 (jj : Int) = l0[jj] := by
    unfold rd_T92
    rw [Int.toNat_natCast, List.getD_eq_getElem?_getD, List.getElem?_eq_getElem hlt]
    rfl
   have E1 := HE.out
   rw [List.drop_eq_getElem_cons hlt] at E1
   obtain ⟨hx, hrest⟩ := E1
   rw [hxx, hx] at h0 h1 h2 h3 h4 h5 h6 h7
   have TR := am hrest
   clear hxx hx hrest HE
   subst e
   simp only [Int.toNat_natCast] at h0 h1 h2 h3 h4 h5 h6 h7
   go_wp2
   clear h0 h1 h2 h3 h4 h5 h6 h7
   go_roundg (l0.length - (jj + 1))
   case measure => have := hg.out; omega
   case rel => exact ⟨jj + 1, _, by omega, ⟨by omega⟩, rfl, by go_num, rfl, TR⟩
  ·have hltz : ¬ (jj : Int) < (l0.length : Int) := by omega
   have : jj = l0.length := by omega
   have E1 := HE.out
   rw [this, List.drop_length] at E1
   have E2 : a = r := E1
   subst E2
   clear HE E1
   go_wp2
   go_ret
   exact ⟨rfl, rfl⟩
def mkSe.f : List S105 → Int → Int × List S105
 | [], a => (a, [])
 | x :: xs, a => ((mkSe.f xs (nx (nx (nx (nx a))))).1, (⟨⟨a, (nx a), (nx (nx a))⟩, (nx (nx (nx a)))⟩ : S105) :: (mkSe.f xs (nx (nx (nx (nx a))))).2)
theorem mkSe.run (P0_ : Nat → Prop) (u9000_ : Value) (l0 : List S105) (a1 : Int) (w0 w : World) (hB : Below w0.heap.size w0 w) (ho : Kd.R k105 105 w w0.heap.size P0_ u9000_ l0) :
  Calls Tryz.prog 76 #[u9000_, .int .i64 a1] w fun e w' => e = .returned (.int .i64 (mkSe.f l0 a1).1) ∧ Kd.R k105 105 w' w0.heap.size P0_ u9000_ (mkSe.f l0 a1).2 ∧ Below w0.heap.size w0 w' ∧ Kept w w' P0_ := by
 obtain ⟨A, c, rfl⟩ := Kd.R_slice ho
 have HM := am (Kd.R_reads' ho).2.2.2.1
 have HB := am hB
 have HS := am (S_flat rfl ho)
 clear hB ho
 go_enter Tryz.func76, Tryz.ntmps76
 go_wp2
 go_loopg [1, 5] l0.length (fun gg s1 s5 wr => ∃ (dn rs : List S105) (a : Int), dn.length + rs.length = l0.length ∧ Aside0 (rs.length ≤ gg) ∧ s1 = .int .i64 a ∧ s5 = .int .i64 (dn.length : Int) ∧ Aside0 (Below w0.heap.size w0 wr) ∧ Aside0 (Kept w wr P0_) ∧ Aside0 (Kd.S k105 105 wr w0.heap.size P0_ (.slice A l0.length c) (dn ++ rs)) ∧ Aside0 ((mkSe.f rs a).1 = (mkSe.f l0 a1).1) ∧ Aside0 (dn ++ (mkSe.f rs a).2 = (mkSe.f l0 a1).2))
 case atStart => exact ⟨[], l0, a1, by simp, ⟨Nat.le_refl _⟩, rfl, rfl, HB, am (Kept.refl _ _), HS, am rfl, am rfl⟩
 case round =>
  clear HB HS
  obtain ⟨dn, rs, a, hlen, hg, rfl, rfl, HB, KP, HS, HE, HR⟩ := hrel
  have hml := HM.out
  cases rs with
  | nil =>
   have hltz : ¬ (dn.length : Int) < (l0.length : Int) := by simp at hlen; omega
   have E1 : a = (mkSe.f l0 a1).1 := HE.out
   subst E1
   clear HE
   go_wp2
   go_ret
   exact ⟨rfl, by have h2 : dn ++ [] = _ := HR.out; have := Kd.S_R HS.out; rw [h2] at this; exact this, HB.out, KP.out⟩
  | cons x rs =>
   have hltz : (dn.length : Int) < (l0.length : Int) := by simp at hlen; omega
   have p1 : 0 ≤ (dn.length : Int) := by omega
   have hin : (dn.length : Int) < ((l0.length : Nat) : Int) := hltz
   obtain ⟨g, cap, e, hbase, hlt, cells, hbk⟩ := Kd.S_form HS.out (by simp; omega)
   injection e with e1 e2 e3
   subst e1
   obtain ⟨oki, c0, hcl, hM, hcc, hoki, hH⟩ := Kd.S_lend HS.out z105 (dn.length : Int) p1 hin
   have hx : (dn ++ x :: rs).getD (dn.length : Int).toNat z105 = x := by simp
   rw [hx] at hM
   have hc0 := k105_openM hM
   subst hc0
   have HH := am hH
   have GB := am hbase
   have PG := am (show P0_ g from (Kd.S_R HS.out).1 g rfl)
   clear hx hM hcc hcl hH hoki hbase hlt hbk e2 e3 HS
   go_upto_region 3 with (first | ((with_reducible refine gate_store (t := 3) (p := 17) rfl ?_); refine H_put (j := 0) rfl rfl (.tmp 17) (.tmp 14) rfl (.int .i64 a) rfl rfl (by rfl) ?hof (by rfl) (by kernel_rfl) HH.out p1 hin (by decide) ?_; (case hof => first | rfl | (show _ = (dn.length : Int).toNat * 4 + _; rw [Int.toNat_natCast]; first | rfl | omega)); intro wq hA hg1; replace HH := am hA; clear hA; replace HB := am (below_gr HB.out hg1 GB.out); replace KP := am (Kept.of_grown hg1 KP.out (fun q hq => .inl (by injection hq with hq; rw [← hq]; exact PG.out))); clear hg1) | ((with_reducible refine gate_store (t := 3) (p := 25) rfl ?_); refine H_put (j := 1) rfl rfl (.tmp 25) (.tmp 22) rfl (.int .i64 (nx a)) rfl rfl (by rfl) ?hof (by rfl) (by kernel_rfl) HH.out p1 hin (by decide) ?_; (case hof => first | rfl | (show _ = (dn.length : Int).toNat * 4 + _; rw [Int.toNat_natCast]; first | rfl | omega)); intro wq hA hg1; replace HH := am hA; clear hA; replace HB := am (below_gr HB.out hg1 GB.out); replace KP := am (Kept.of_grown hg1 KP.out (fun q hq => .inl (by injection hq with hq; rw [← hq]; exact PG.out))); clear hg1) | ((with_reducible refine gate_store (t := 3) (p := 33) rfl ?_); refine H_put (j := 2) rfl rfl (.tmp 33) (.tmp 30) rfl (.int .i64 (nx (nx a))) rfl rfl (by rfl) ?hof (by rfl) (by kernel_rfl) HH.out p1 hin (by decide) ?_; (case hof => first | rfl | (show _ = (dn.length : Int).toNat * 4 + _; rw [Int.toNat_natCast]; first | rfl | omega)); intro wq hA hg1; replace HH := am hA; clear hA; replace HB := am (below_gr HB.out hg1 GB.out); replace KP := am (Kept.of_grown hg1 KP.out (fun q hq => .inl (by injection hq with hq; rw [← hq]; exact PG.out))); clear hg1) | ((with_reducible refine gate_store (t := 3) (p := 40) rfl ?_); refine H_put (j := 3) rfl rfl (.tmp 40) (.tmp 38) rfl (.int .i64 (nx (nx (nx a)))) rfl rfl (by rfl) ?hof (by rfl) (by kernel_rfl) HH.out p1 hin (by decide) ?_; (case hof => first | rfl | (show _ = (dn.length : Int).toNat * 4 + _; rw [Int.toNat_natCast]; first | rfl | omega)); intro wq hA hg1; replace HH := am hA; clear hA; replace HB := am (below_gr HB.out hg1 GB.out); replace KP := am (Kept.of_grown hg1 KP.out (fun q hq => .inl (by injection hq with hq; rw [← hq]; exact PG.out))); clear hg1))
   have hS := Kd.H_back (okp := fun _ => False) (x' := (⟨⟨a, (nx a), (nx (nx a))⟩, (nx (nx (nx a)))⟩ : S105)) HH.out (show k105.M _ _ (fun _ => False) (⟨⟨a, (nx a), (nx (nx a))⟩, (nx (nx (nx a)))⟩ : S105) [.int .i64 a, .int .i64 (nx a), .int .i64 (nx (nx a)), .int .i64 (nx (nx (nx a)))] from k105_mkM _ _ _ (⟨⟨a, (nx a), (nx (nx a))⟩, (nx (nx (nx a)))⟩ : S105)) (fun _ h => h.elim)
   have hs : (dn ++ x :: rs).set (dn.length : Int).toNat (⟨⟨a, (nx a), (nx (nx a))⟩, (nx (nx (nx a)))⟩ : S105) = (dn ++ [(⟨⟨a, (nx a), (nx (nx a))⟩, (nx (nx (nx a)))⟩ : S105)]) ++ rs := by simp
   rw [hs] at hS
   have HS := am hS
   clear hS hs HH
   go_wp2
   go_roundg rs.length
   case measure => have := hg.out; simp at this; omega
   case rel => exact ⟨dn ++ [(⟨⟨a, (nx a), (nx (nx a))⟩, (nx (nx (nx a)))⟩ : S105)], rs, (nx (nx (nx (nx a)))), by simp at hlen ⊢; omega, ⟨Nat.le_refl _⟩, rfl, by rw [List.length_append]; go_num, HB, KP, HS, HE, am (by rw [← HR.out]; simp [mkSe.f])⟩
def hdSe : List S105 → Int → Int → Prop
 | [], a, r => a = r
 | x :: xs, a, r => x = (⟨⟨a, (nx a), (nx (nx a))⟩, (nx (nx (nx a)))⟩ : S105) ∧ hdSe xs (nx (nx (nx (nx a)))) r
theorem hdSe.run (A : Option Addr) (c : Nat) (l0 : List S105) (a1 r : Int) (w : World) (hr : Kd.C k105 w A l0.length l0) (h : hdSe l0 a1 r) :
  Calls Tryz.prog 79 #[.slice A l0.length c, .int .i64 a1] w fun e w' => e = .returned (.int .i64 r) ∧ w' = w := by
 have HM := am hr.2.1
 have HR := am hr
 have HE := am h
 clear hr h
 go_enter Tryz.func79, Tryz.ntmps79
 go_wp2
 go_loopg [1, 5] l0.length (fun gg s1 s5 wr => ∃ (jj : Nat) (a : Int), jj ≤ l0.length ∧ Aside0 (l0.length - jj ≤ gg) ∧ s1 = .int .i64 a ∧ s5 = .int .i64 (jj : Int) ∧ wr = w ∧ Aside0 (hdSe (l0.drop jj) a r))
 case atStart => exact ⟨0, a1, Nat.zero_le _, ⟨by omega⟩, rfl, rfl, rfl, HE⟩
 case round =>
  clear HE
  obtain ⟨jj, a, hjj, hg, rfl, rfl, rfl, HE⟩ := hrel
  have hml := HM.out
  by_cases hlt : jj < l0.length
  ·have hltz : (jj : Int) < (l0.length : Int) := by omega
   have p1 : 0 ≤ (jj : Int) := by omega
   obtain ⟨ad, e, h0, h1, h2, h3⟩ := at_T105 HR.out (jj : Int) p1 hltz
   have hxx : rd_T105 l0 (jj : Int) = l0[jj] := by
    unfold rd_T105
    rw [Int.toNat_natCast, List.getD_eq_getElem?_getD, List.getElem?_eq_getElem hlt]
    rfl
   have E1 := HE.out
   rw [List.drop_eq_getElem_cons hlt] at E1
   obtain ⟨hx, hrest⟩ := E1
   rw [hxx, hx] at h0 h1 h2 h3
   have TR := am hrest
   clear hxx hx hrest HE
   subst e
   simp only [Int.toNat_natCast] at h0 h1 h2 h3
   go_wp2
   clear h0 h1 h2 h3
   go_roundg (l0.length - (jj + 1))
   case measure => have := hg.out; omega
   case rel => exact ⟨jj + 1, _, by omega, ⟨by omega⟩, rfl, by go_num, rfl, TR⟩
  ·have hltz : ¬ (jj : Int) < (l0.length : Int) := by omega
   have : jj = l0.length := by omega
   have E1 := HE.out
   rw [this, List.drop_length] at E1
   have E2 : a = r := E1
   subst E2
   clear HE E1
   go_wp2
   go_ret
   exact ⟨rfl, rfl⟩
set_option maxHeartbeats 4000000 in
theorem mkCa.run (x2 : Int) (P0_ : Nat → Prop) (u9000_ : Value) (l0 : List S105) (a1 : Int) (w0 w : World) (hB : Below w0.heap.size w0 w) (ho : Kd.R k105 105 w w0.heap.size P0_ u9000_ l0) :
  Calls Tryz.prog 43 #[.agg #[.int .i64 x2, u9000_], .int .i64 a1] w fun e w' => e = .returned (.int .i64 (mkSe.f l0 a1).1) ∧ Kd.R k105 105 w' w0.heap.size P0_ u9000_ (mkSe.f l0 a1).2 ∧ Below w0.heap.size w0 w' ∧ Kept w w' P0_ := by
 obtain ⟨A, c, rfl⟩ := Kd.R_slice ho
 have HO := am ho
 have HB := am hB
 have hu39 := Tryz.underlying39
 clear hB ho
 go_enter Tryz.func43, Tryz.ntmps43
 go_upto_region 1 with ((with_reducible refine gate_dst (N := 2) rfl ?_); refine box_event rfl (N := 2) rfl (cs := #[.int .i64 x2, .slice A l0.length c]) (t := 39) BX ?_; intro q2 hq2 wq hA hb; have hc := (blk_cell hA 1).trans (show _ = some (.slice A l0.length c) from rfl); replace HO := am (Kd.R_below HO.out hb); replace HB := kpH HB hb; have HK := am hb; clear hq2 hA hb)
 go_wp2_with (go_at_call 76; refine (mkSe.run P0_ _ l0 a1 w0 _ HB.out HO.out).mono ?_; rintro e w2 ⟨rfl, h1, h2, h3⟩)
 go_ret
 exact ⟨rfl, h1, h2, Kept.then_ (Kept.of_below HK.out P0_) h3 (fun q hq => .inl hq)⟩
set_option maxHeartbeats 4000000 in
theorem hdCa.run (x2 : Int) (A : Option Addr) (c : Nat) (l0 : List S105) (a1 r : Int) (w : World) (hr : Kd.C k105 w A l0.length l0) (h : hdSe l0 a1 r) (h0 : 0 ≤ r) :
  Calls Tryz.prog 47 #[.agg #[.int .i64 x2, .slice A l0.length c], .int .i64 a1] w fun e w' => e = .returned (.int .i64 r) ∧ Below w.heap.size w w' := by
 have HR := am hr
 have HE := am h
 have HB := am (Below.refl w.heap.size w)
 have hd := decide_eq_false (show ¬ r < 0 by omega)
 have hu39 := Tryz.underlying39
 clear hr h h0
 go_enter Tryz.func47, Tryz.ntmps47
 go_upto_region 1 with ((with_reducible refine gate_dst (N := 2) rfl ?_); refine box_event rfl (N := 2) rfl (cs := #[.int .i64 x2, .slice A l0.length c]) (t := 39) BX ?_; intro q2 hq2 wq hA hb; have hc := (blk_cell hA 1).trans (show _ = some (.slice A l0.length c) from rfl); replace HB := kpH HB hb; clear hq2 hA hb)
 go_wp2_with (go_at_call 79; refine (hdSe.run A c l0 a1 r _ (Kd.C_below HR.out HB.out) HE.out).mono ?_; rintro e w2 ⟨rfl, hw⟩; subst hw)
 go_ret
 exact ⟨rfl, HB.out⟩
theorem eqRu.run (x : S92) (w : World) : Calls Tryz.prog 73 #[.agg #[.int .i64 x.f0, .int .i64 x.f1, .int .i64 x.f2.f0, .int .i64 x.f2.f1, .int .i64 x.f3.f0, .int .i64 x.f3.f1, .int .i64 x.f4, .int .i64 x.f5], .agg #[.int .i64 x.f0, .int .i64 x.f1, .int .i64 x.f2.f0, .int .i64 x.f2.f1, .int .i64 x.f3.f0, .int .i64 x.f3.f1, .int .i64 x.f4, .int .i64 x.f5]] w fun e w' => e = .returned (.bool true) ∧ Below w.heap.size w w' := by
 have HB := am (Below.refl w.heap.size w)
 have hu := Tryz.underlying92
 go_enter Tryz.func73, Tryz.ntmps73
 go_upto_region 1 with (first | ((with_reducible refine gate_dst (N := 2) rfl ?_); refine box_event rfl (N := 2) rfl (cs := #[.int .i64 x.f0, .int .i64 x.f1, .int .i64 x.f2.f0, .int .i64 x.f2.f1, .int .i64 x.f3.f0, .int .i64 x.f3.f1, .int .i64 x.f4, .int .i64 x.f5]) (t := 92) BX ?_; intro q2 hg wq hA hb; have W2 := am hA; replace HB := kpH HB hb; clear hg hA hb) | ((with_reducible refine gate_dst (N := 3) rfl ?_); refine box_event rfl (N := 3) rfl (cs := #[.int .i64 x.f0, .int .i64 x.f1, .int .i64 x.f2.f0, .int .i64 x.f2.f1, .int .i64 x.f3.f0, .int .i64 x.f3.f1, .int .i64 x.f4, .int .i64 x.f5]) (t := 92) BX ?_; intro q3 hg wq hA hb; replace W2 := kpW W2 hb; have W3 := am hA; replace HB := kpH HB hb; clear hg hA hb))
 have ⟨_, _, _, _, _, _, _, _, _⟩ := y8 _ W2.out
 have ⟨_, _, _, _, _, _, _, _, _⟩ := y8 _ W3.out
 go_upto_region 7 with (go_at_call 98; refine (laws_eqBlock.calls x.f2.f0 x.f2.f1 x.f2.f0 x.f2.f1 true _ (by simp [laws_eqBlock.f])).mono ?_; rintro e wq ⟨rfl, hb⟩; replace W2 := kpW W2 hb; replace W3 := kpW W3 hb; replace HB := kpH HB hb; clear hb)
 have ⟨_, _, _, _, _, _, _, _, _⟩ := y8 _ W2.out
 have ⟨_, _, _, _, _, _, _, _, _⟩ := y8 _ W3.out
 go_upto_region 9 with (go_at_call 98; refine (laws_eqBlock.calls x.f3.f0 x.f3.f1 x.f3.f0 x.f3.f1 true _ (by simp [laws_eqBlock.f])).mono ?_; rintro e wq ⟨rfl, hb⟩; replace W2 := kpW W2 hb; replace W3 := kpW W3 hb; replace HB := kpH HB hb; clear hb)
 have ⟨_, _, _, _, _, _, _, _, _⟩ := y8 _ W2.out
 have ⟨_, _, _, _, _, _, _, _, _⟩ := y8 _ W3.out
 go_wp2
 go_ret
 exact ⟨rfl, HB.out⟩
theorem eqSe.run (x : S105) (w : World) : Calls Tryz.prog 99 #[.agg #[.int .i64 x.f0.f0, .int .i64 x.f0.f1, .int .i64 x.f0.f2, .int .i64 x.f1], .agg #[.int .i64 x.f0.f0, .int .i64 x.f0.f1, .int .i64 x.f0.f2, .int .i64 x.f1]] w fun e w' => e = .returned (.bool true) ∧ Below w.heap.size w w' := by
 have HB := am (Below.refl w.heap.size w)
 have hu := Tryz.underlying105
 go_enter Tryz.func99, Tryz.ntmps99
 go_upto_region 1 with (first | ((with_reducible refine gate_dst (N := 2) rfl ?_); refine box_event rfl (N := 2) rfl (cs := #[.int .i64 x.f0.f0, .int .i64 x.f0.f1, .int .i64 x.f0.f2, .int .i64 x.f1]) (t := 105) BX ?_; intro q2 hg wq hA hb; have W2 := am hA; replace HB := kpH HB hb; clear hg hA hb) | ((with_reducible refine gate_dst (N := 3) rfl ?_); refine box_event rfl (N := 3) rfl (cs := #[.int .i64 x.f0.f0, .int .i64 x.f0.f1, .int .i64 x.f0.f2, .int .i64 x.f1]) (t := 105) BX ?_; intro q3 hg wq hA hb; replace W2 := kpW W2 hb; have W3 := am hA; replace HB := kpH HB hb; clear hg hA hb))
 have ⟨_, _, _, _, _⟩ := y4 _ W2.out
 have ⟨_, _, _, _, _⟩ := y4 _ W3.out
 go_upto_region 3 with (go_at_call 113; refine (laws_eqCall.calls x.f0.f0 x.f0.f1 x.f0.f2 x.f0.f0 x.f0.f1 x.f0.f2 true _ (by simp [laws_eqCall.f])).mono ?_; rintro e wq ⟨rfl, hb⟩; replace W2 := kpW W2 hb; replace W3 := kpW W3 hb; replace HB := kpH HB hb; clear hb)
 have ⟨_, _, _, _, _⟩ := y4 _ W2.out
 have ⟨_, _, _, _, _⟩ := y4 _ W3.out
 go_wp2
 go_ret
 exact ⟨rfl, HB.out⟩
theorem eqRuS.run (A B : Option Addr) (c d : Nat) (l0 : List S92) (w : World) (h1 : Kd.C k92 w A l0.length l0) (h2 : Kd.C k92 w B l0.length l0) :
  Calls Tryz.prog 38 #[.slice A l0.length c, .slice B l0.length d] w fun e w' => e = .returned (.bool true) ∧ Below w.heap.size w w' := by
 have HM := am h1.2.1
 have H1 := am h1
 have H2 := am h2
 have HB := am (Below.refl w.heap.size w)
 have hnn : ((l0.length : Int) != (l0.length : Int)) = false := by simp
 clear h1 h2
 go_enter Tryz.func38, Tryz.ntmps38
 go_wp2
 go_loopg [5] l0.length (fun gg s5 wr => ∃ jj : Nat, jj ≤ l0.length ∧ Aside0 (l0.length - jj ≤ gg) ∧ s5 = .int .i64 (jj : Int) ∧ Aside0 (Below w.heap.size w wr))
 case atStart => exact ⟨0, Nat.zero_le _, ⟨by omega⟩, rfl, HB⟩
 case round =>
  clear HB
  obtain ⟨jj, hjj, hg, rfl, HB⟩ := hrel
  have hml := HM.out
  by_cases hlt : jj < l0.length
  ·have hltz : (jj : Int) < (l0.length : Int) := by omega
   have p1 : 0 ≤ (jj : Int) := by omega
   obtain ⟨a1, e1, f0, f1, f2, f3, f4, f5, f6, f7⟩ := at_T92 (Kd.C_below H1.out HB.out) (jj : Int) p1 hltz
   obtain ⟨a2, e2, g0, g1, g2, g3, g4, g5, g6, g7⟩ := at_T92 (Kd.C_below H2.out HB.out) (jj : Int) p1 hltz
   subst e1 e2
   generalize rd_T92 l0 (jj : Int) = x at f0 f1 f2 f3 f4 f5 f6 f7 g0 g1 g2 g3 g4 g5 g6 g7
   simp only [Int.toNat_natCast] at f0 f1 f2 f3 f4 f5 f6 f7 g0 g1 g2 g3 g4 g5 g6 g7
   generalize hwq : wr = wq at *
   clear hwq
   go_upto_region 6 with fail
   have hd := am (below_drew (Below.refl wq.heap.size wq))
   refine start_ (n := 10) (S := fun w' => w'.cell? (a1.add (jj * 8)) = some (.int .i64 x.f0) ∧ w'.cell? ⟨(a1.add (jj * 8)).block, (a1.add (jj * 8)).off + 1, none⟩ = some (.int .i64 x.f1) ∧ w'.cell? ⟨(a1.add (jj * 8)).block, (a1.add (jj * 8)).off + 2, none⟩ = some (.int .i64 x.f2.f0) ∧ w'.cell? ⟨(a1.add (jj * 8)).block, (a1.add (jj * 8)).off + 3, none⟩ = some (.int .i64 x.f2.f1) ∧ w'.cell? ⟨(a1.add (jj * 8)).block, (a1.add (jj * 8)).off + 4, none⟩ = some (.int .i64 x.f3.f0) ∧ w'.cell? ⟨(a1.add (jj * 8)).block, (a1.add (jj * 8)).off + 5, none⟩ = some (.int .i64 x.f3.f1) ∧ w'.cell? ⟨(a1.add (jj * 8)).block, (a1.add (jj * 8)).off + 6, none⟩ = some (.int .i64 x.f4) ∧ w'.cell? ⟨(a1.add (jj * 8)).block, (a1.add (jj * 8)).off + 7, none⟩ = some (.int .i64 x.f5) ∧ w'.cell? (a2.add (jj * 8)) = some (.int .i64 x.f0) ∧ w'.cell? ⟨(a2.add (jj * 8)).block, (a2.add (jj * 8)).off + 1, none⟩ = some (.int .i64 x.f1) ∧ w'.cell? ⟨(a2.add (jj * 8)).block, (a2.add (jj * 8)).off + 2, none⟩ = some (.int .i64 x.f2.f0) ∧ w'.cell? ⟨(a2.add (jj * 8)).block, (a2.add (jj * 8)).off + 3, none⟩ = some (.int .i64 x.f2.f1) ∧ w'.cell? ⟨(a2.add (jj * 8)).block, (a2.add (jj * 8)).off + 4, none⟩ = some (.int .i64 x.f3.f0) ∧ w'.cell? ⟨(a2.add (jj * 8)).block, (a2.add (jj * 8)).off + 5, none⟩ = some (.int .i64 x.f3.f1) ∧ w'.cell? ⟨(a2.add (jj * 8)).block, (a2.add (jj * 8)).off + 6, none⟩ = some (.int .i64 x.f4) ∧ w'.cell? ⟨(a2.add (jj * 8)).block, (a2.add (jj * 8)).off + 7, none⟩ = some (.int .i64 x.f5)) (ds := []) (tf 0 10) (by kernel_rfl) rfl rfl ⟨CX hd.out f0, CX hd.out f1, CX hd.out f2, CX hd.out f3, CX hd.out f4, CX hd.out f5, CX hd.out f6, CX hd.out f7, CX hd.out g0, CX hd.out g1, CX hd.out g2, CX hd.out g3, CX hd.out g4, CX hd.out g5, CX hd.out g6, CX hd.out g7⟩ (fun hHeld => ?_)
   refine tk 0 (some 17) (tf 1 9) (by kernel_rfl) hHeld ?_
   refine tk 1 (some 18) (tf 2 8) (by kernel_rfl) hHeld ?_
   refine tk 2 (some 19) (tf 3 7) (by kernel_rfl) hHeld ?_
   refine tk 3 (some 20) (tf 4 6) (by kernel_rfl) hHeld ?_
   refine tk 4 (some 21) (tf 5 5) (by kernel_rfl) hHeld ?_
   refine tk 5 (some 22) (tf 6 4) (by kernel_rfl) hHeld ?_
   refine tk 6 (some 23) (tf 7 3) (by kernel_rfl) hHeld ?_
   refine tk 7 (some 24) (tf 8 2) (by kernel_rfl) hHeld ?_
   refine one_ (i := 8) (N := some 25) (tf 9 1) rfl rfl (by kernel_rfl) (by decide) (fun K hK => ?_)
   refine goes_ Tryz.func73 (by kernel_rfl) rfl #[.agg #[.int .i64 x.f0, .int .i64 x.f1, .int .i64 x.f2.f0, .int .i64 x.f2.f1, .int .i64 x.f3.f0, .int .i64 x.f3.f1, .int .i64 x.f4, .int .i64 x.f5], .agg #[.int .i64 x.f0, .int .i64 x.f1, .int .i64 x.f2.f0, .int .i64 x.f2.f1, .int .i64 x.f3.f0, .int .i64 x.f3.f1, .int .i64 x.f4, .int .i64 x.f5]] (by rfl) rfl rfl MT ?_
   refine (eqRu.run x _).mono ?_
   rintro e w9 ⟨rfl, hb0⟩
   have hb := hd.out.trans (hb0.mono hd.out.size)
   refine ⟨_, rfl, ?_⟩
   refine hK.out _ _ ⟨CX hb f0, CX hb f1, CX hb f2, CX hb f3, CX hb f4, CX hb f5, CX hb f6, CX hb f7, CX hb g0, CX hb g1, CX hb g2, CX hb g3, CX hb g4, CX hb g5, CX hb g6, CX hb g7⟩ (fun hHeld => ?_)
   replace HB := kpH HB hb
   clear hK K hb hb0 hd f0 f1 f2 f3 f4 f5 f6 f7 g0 g1 g2 g3 g4 g5 g6 g7
   refine nm (some 25) ?_
   refine tk 9 (some 26) (tf 10 0) (by kernel_rfl) hHeld ?_
   clear hHeld
   refine done_ (by kernel_rfl) ?_
   go_wp2
   go_roundg (l0.length - (jj + 1))
   case measure => have := hg.out; omega
   case rel => exact ⟨jj + 1, by omega, ⟨by omega⟩, by go_num, HB⟩
  ·have hltz : ¬ (jj : Int) < (l0.length : Int) := by omega
   go_wp2
   go_ret
   exact ⟨rfl, HB.out⟩
theorem eqSeS.run (A B : Option Addr) (c d : Nat) (l0 : List S105) (w : World) (h1 : Kd.C k105 w A l0.length l0) (h2 : Kd.C k105 w B l0.length l0) :
  Calls Tryz.prog 74 #[.slice A l0.length c, .slice B l0.length d] w fun e w' => e = .returned (.bool true) ∧ Below w.heap.size w w' := by
 have HM := am h1.2.1
 have H1 := am h1
 have H2 := am h2
 have HB := am (Below.refl w.heap.size w)
 have hnn : ((l0.length : Int) != (l0.length : Int)) = false := by simp
 clear h1 h2
 go_enter Tryz.func74, Tryz.ntmps74
 go_wp2
 go_loopg [5] l0.length (fun gg s5 wr => ∃ jj : Nat, jj ≤ l0.length ∧ Aside0 (l0.length - jj ≤ gg) ∧ s5 = .int .i64 (jj : Int) ∧ Aside0 (Below w.heap.size w wr))
 case atStart => exact ⟨0, Nat.zero_le _, ⟨by omega⟩, rfl, HB⟩
 case round =>
  clear HB
  obtain ⟨jj, hjj, hg, rfl, HB⟩ := hrel
  have hml := HM.out
  by_cases hlt : jj < l0.length
  ·have hltz : (jj : Int) < (l0.length : Int) := by omega
   have p1 : 0 ≤ (jj : Int) := by omega
   obtain ⟨a1, e1, f0, f1, f2, f3⟩ := at_T105 (Kd.C_below H1.out HB.out) (jj : Int) p1 hltz
   obtain ⟨a2, e2, g0, g1, g2, g3⟩ := at_T105 (Kd.C_below H2.out HB.out) (jj : Int) p1 hltz
   subst e1 e2
   generalize rd_T105 l0 (jj : Int) = x at f0 f1 f2 f3 g0 g1 g2 g3
   simp only [Int.toNat_natCast] at f0 f1 f2 f3 g0 g1 g2 g3
   generalize hwq : wr = wq at *
   clear hwq
   go_upto_region 6 with fail
   have hd := am (below_drew (Below.refl wq.heap.size wq))
   refine start_ (n := 10) (S := fun w' => w'.cell? (a1.add (jj * 4)) = some (.int .i64 x.f0.f0) ∧ w'.cell? ⟨(a1.add (jj * 4)).block, (a1.add (jj * 4)).off + 1, none⟩ = some (.int .i64 x.f0.f1) ∧ w'.cell? ⟨(a1.add (jj * 4)).block, (a1.add (jj * 4)).off + 2, none⟩ = some (.int .i64 x.f0.f2) ∧ w'.cell? ⟨(a1.add (jj * 4)).block, (a1.add (jj * 4)).off + 3, none⟩ = some (.int .i64 x.f1) ∧ w'.cell? (a2.add (jj * 4)) = some (.int .i64 x.f0.f0) ∧ w'.cell? ⟨(a2.add (jj * 4)).block, (a2.add (jj * 4)).off + 1, none⟩ = some (.int .i64 x.f0.f1) ∧ w'.cell? ⟨(a2.add (jj * 4)).block, (a2.add (jj * 4)).off + 2, none⟩ = some (.int .i64 x.f0.f2) ∧ w'.cell? ⟨(a2.add (jj * 4)).block, (a2.add (jj * 4)).off + 3, none⟩ = some (.int .i64 x.f1)) (ds := []) (tf 0 10) (by kernel_rfl) rfl rfl ⟨CX hd.out f0, CX hd.out f1, CX hd.out f2, CX hd.out f3, CX hd.out g0, CX hd.out g1, CX hd.out g2, CX hd.out g3⟩ (fun hHeld => ?_)
   refine tk 0 (some 17) (tf 1 9) (by kernel_rfl) hHeld ?_
   refine tk 1 (some 18) (tf 2 8) (by kernel_rfl) hHeld ?_
   refine tk 2 (some 19) (tf 3 7) (by kernel_rfl) hHeld ?_
   refine tk 3 (some 20) (tf 4 6) (by kernel_rfl) hHeld ?_
   refine tk 4 (some 21) (tf 5 5) (by kernel_rfl) hHeld ?_
   refine tk 5 (some 22) (tf 6 4) (by kernel_rfl) hHeld ?_
   refine tk 6 (some 23) (tf 7 3) (by kernel_rfl) hHeld ?_
   refine tk 7 (some 24) (tf 8 2) (by kernel_rfl) hHeld ?_
   refine one_ (i := 8) (N := some 25) (tf 9 1) rfl rfl (by kernel_rfl) (by decide) (fun K hK => ?_)
   refine goes_ Tryz.func99 (by kernel_rfl) rfl #[.agg #[.int .i64 x.f0.f0, .int .i64 x.f0.f1, .int .i64 x.f0.f2, .int .i64 x.f1], .agg #[.int .i64 x.f0.f0, .int .i64 x.f0.f1, .int .i64 x.f0.f2, .int .i64 x.f1]] (by rfl) rfl rfl MT ?_
   refine (eqSe.run x _).mono ?_
   rintro e w9 ⟨rfl, hb0⟩
   have hb := hd.out.trans (hb0.mono hd.out.size)
   refine ⟨_, rfl, ?_⟩
   refine hK.out _ _ ⟨CX hb f0, CX hb f1, CX hb f2, CX hb f3, CX hb g0, CX hb g1, CX hb g2, CX hb g3⟩ (fun hHeld => ?_)
   replace HB := kpH HB hb
   clear hK K hb hb0 hd f0 f1 f2 f3 g0 g1 g2 g3
   refine nm (some 25) ?_
   refine tk 9 (some 26) (tf 10 0) (by kernel_rfl) hHeld ?_
   clear hHeld
   refine done_ (by kernel_rfl) ?_
   go_wp2
   go_roundg (l0.length - (jj + 1))
   case measure => have := hg.out; omega
   case rel => exact ⟨jj + 1, by omega, ⟨by omega⟩, by go_num, HB⟩
  ·have hltz : ¬ (jj : Int) < (l0.length : Int) := by omega
   go_wp2
   go_ret
   exact ⟨rfl, HB.out⟩
theorem eqCa.run (x2 : Int) (A B : Option Addr) (c d : Nat) (l0 : List S105) (w : World) (h1 : Kd.C k105 w A l0.length l0) (h2 : Kd.C k105 w B l0.length l0) :
  Calls Tryz.prog 39 #[.agg #[.int .i64 x2, .slice A l0.length c], .agg #[.int .i64 x2, .slice B l0.length d]] w fun e w' => e = .returned (.bool true) ∧ Below w.heap.size w w' := by
 have H1 := am h1
 have H2 := am h2
 have HB := am (Below.refl w.heap.size w)
 have hu39 := Tryz.underlying39
 clear h1 h2
 go_enter Tryz.func39, Tryz.ntmps39
 go_upto_region 1 with (first | ((with_reducible refine gate_dst (N := 2) rfl ?_); refine box_event rfl (N := 2) rfl (cs := #[.int .i64 x2, .slice A l0.length c]) (t := 39) BX ?_; intro q2 hg wq hA hb; have W2 := am hA; replace HB := kpH HB hb; clear hg hA hb) | ((with_reducible refine gate_dst (N := 3) rfl ?_); refine box_event rfl (N := 3) rfl (cs := #[.int .i64 x2, .slice B l0.length d]) (t := 39) BX ?_; intro q3 hg wq hA hb; replace W2 := kpW W2 hb; have W3 := am hA; replace HB := kpH HB hb; clear hg hA hb))
 have ⟨_, _, _⟩ := y2 _ W2.out
 have ⟨_, _, _⟩ := y2 _ W3.out
 go_wp2_with (go_at_call 74; refine (eqSeS.run A B c d l0 _ (Kd.C_below H1.out HB.out) (Kd.C_below H2.out HB.out)).mono ?_; rintro e wq ⟨rfl, hb⟩; replace HB := kpH HB hb; clear hb)
 go_ret
 exact ⟨rfl, HB.out⟩
/-- A piece of a variable is filled. -/
theorem stseg {P : Program} {ops : Array Oper} {rest : List Oper} {o : Oper} {a : Act} {Q : Exit → Act → World → Prop} {W w0 : World} {t e : TypeId} {g off : Nat} {cur : Array Value} (hgd : o.guard = none) (hN : o.dst = none) (x y : Operand) (ho : o.op = .store t x y)
  (v : Value) (vs : Array Value) (hv : v.cells = vs) (hx : a.eval x = .pointer (some ⟨g, off, none⟩)) (hy : a.eval y = v) (hb : W.heap[g]? = some (.cells cur e (0, 0))) (hfit : off + vs.size ≤ cur.size) (hi : (P.info? t).map (·.size) = some vs.size) (h1 : vs.all (·.oneCell') = true)
  (new : Array Value) (hnew : new.toList = cur.toList.take off ++ vs.toList ++ cur.toList.drop (off + vs.toList.length)) (HB : Below w0.heap.size w0 W) (hg : w0.heap.size ≤ g)
  (h : ∀ w1, w1.heap[g]? = some (.cells new e (0, 0)) → Below w0.heap.size w0 w1 → (∀ k, k ≠ g → w1.heap[k]? = W.heap[k]?) → wpList P ops Q rest a w1) : wpList P ops Q (o :: rest) a W := by
 have hthere : W.there g off vs.size := fun j hj => by
  refine ⟨?_, blk_frozen hb (off + j)⟩
  rw [blk_cell hb (off + j), Array.getElem?_eq_getElem (by omega)]
  rfl
 have hrun := run_storeVar_v (P := P) W g off t v vs hv hthere hi h1
 refine wpList_plain hgd fun K hK => ?_
 unfold Oper.wp execOp
 simp only [ho, hx, hy, Instr.storeAt, Instr.sureAddr, Sem.run_bind, Sem.run_pure, Result.andThen_ok, hrun]
 obtain ⟨cur', h3, h4, h5⟩ := setCells_row vs.toList off W cur hb (by simp; omega)
 obtain ⟨s1, s2, s3, s4⟩ := setCells_same g vs.toList off W
 have hc : cur' = new := by
  apply Array.ext'
  rw [h5, hnew]
 rw [hc] at h3
 show K (a.put o.dst undef) _
 rw [hN]
 refine hK _ _ (h _ h3 ⟨s1.trans HB.os, s2.trans HB.tape, s3.trans HB.output, by rw [s4]; exact HB.size, fun k hk => ?_⟩ (fun k hk => setCells_far vs.toList off k hk))
 rw [setCells_far vs.toList off k (by omega)]
 exact HB.block k hk
/-- A piece of a variable is read. -/
theorem ldseg {P : Program} {ops : Array Oper} {rest : List Oper} {o : Oper} {a : Act} {Q : Exit → Act → World → Prop} {W : World} {t e : TypeId} {d : TypeDesc} {g off : Nat} {cur : Array Value} (hgd : o.guard = none) (x : Operand) (ho : o.op = .load t x) (hx : a.eval x = .pointer (some ⟨g, off, none⟩)) (q : List Value)
  (hb : W.heap[g]? = some (.cells cur e (0, 0))) (hq : (cur.toList.drop off).take q.length = q) (hu : P.underlying t = some d) (hd : d.isRow = true) (hi : (P.info? t).map (·.size) = some q.length)
  (h : wpList P ops Q rest (a.put o.dst (.agg q.toArray)) W) : wpList P ops Q (o :: rest) a W := by
 refine wpList_load_mid hgd t x ho g off hx q d (fun j v hv => ?_) hu hd hi h
 rw [← hq] at hv
 rw [blk_cell hb, ← Array.getElem?_toList]
 rw [List.getElem?_take] at hv
 split at hv
 ·rwa [List.getElem?_drop] at hv
 ·cases hv
/-- A row that may be read. -/
def RV {α : Type} (d : Kd α) (w : World) (v : Value) (xs : List α) : Prop := ∃ A c, v = .slice A xs.length c ∧ xs.length ≤ c ∧ d.C w A xs.length xs
theorem RV.below {α : Type} {d : Kd α} {w w' : World} {v : Value} {xs : List α} (h : RV d w v xs) (hb : Below w.heap.size w w') : RV d w' v xs := by
 obtain ⟨A, c, e, g, h⟩ := h
 exact ⟨A, c, e, g, Kd.C_below h hb⟩
/-- A gate's cells, that may be read. -/
def GX {R E S : Type} (kr : Kd R) (ke : Kd E) (ks : Kd S) (w : World) (cs : Array Value) (x0 : Int) (x1 : List R) (x2 : Int) (x3 : List E) (x4 x5 : List S) : Prop := ∃ v1 v3 v4 v5, cs = #[.int .i64 x0, v1, .int .i64 x2, v3, v4, v5] ∧ RV kr w v1 x1 ∧ RV ke w v3 x3 ∧ RV ks w v4 x4 ∧ RV ks w v5 x5
theorem GX.below {R E S : Type} {kr : Kd R} {ke : Kd E} {ks : Kd S} {w w' : World} {cs : Array Value} {x0 : Int} {x1 : List R} {x2 : Int} {x3 : List E} {x4 x5 : List S} (h : GX kr ke ks w cs x0 x1 x2 x3 x4 x5) (hb : Below w.heap.size w w') : GX kr ke ks w' cs x0 x1 x2 x3 x4 x5 := by
 obtain ⟨v1, v3, v4, v5, e, h1, h3, h4, h5⟩ := h
 exact ⟨v1, v3, v4, v5, e, h1.below hb, h3.below hb, h4.below hb, h5.below hb⟩
theorem GX.size {R E S : Type} {kr : Kd R} {ke : Kd E} {ks : Kd S} {w : World} {cs : Array Value} {x0 : Int} {x1 : List R} {x2 : Int} {x3 : List E} {x4 x5 : List S} (h : GX kr ke ks w cs x0 x1 x2 x3 x4 x5) : cs.size = 6 ∧ cs.all (·.oneCell') = true := by
 obtain ⟨_, _, _, _, rfl, ⟨A1, c1, rfl, _⟩, ⟨A3, c3, rfl, _⟩, ⟨A4, c4, rfl, _⟩, ⟨A5, c5, rfl, _⟩⟩ := h
 exact ⟨rfl, by kernel_rfl⟩
abbrev LG := GX k96 k124 k33
abbrev IG := GX k92 k105 k48
/-- A gate of one's own, between b and t: outs below N, ins above. -/
def OG (w : World) (b N t : Nat) (cs : Array Value) (x0 : Int) (x1 : List S92) (x2 : Int) (x3 : List S105) (x4 : List S48) (x5 : List S48) : Prop := ∃ v1 v3 v4 v5, cs = #[.int .i64 x0, v1, .int .i64 x2, v3, v4, v5] ∧ Kd.R k92 92 w b (fun k => k < t) v1 x1 ∧ Kd.R k105 105 w b (fun k => k < t) v3 x3 ∧ Kd.S k48 48 w b (fun k => k < N ∧ k < t) v4 x4 ∧ Kd.S k48 48 w b (fun k => N ≤ k ∧ k < t) v5 x5
theorem OG.keep {w w1 : World} {b N t : Nat} {cs : Array Value} {x0 : Int} {x1 : List S92} {x2 : Int} {x3 : List S105} {x4 : List S48} {x5 : List S48} (h : OG w b N t cs x0 x1 x2 x3 x4 x5) (hw : ∀ k, b ≤ k → k < t → k < w.heap.size → w1.heap[k]? = w.heap[k]?) : OG w1 b N t cs x0 x1 x2 x3 x4 x5 := by
 obtain ⟨v1, v3, v4, v5, e, h1, h3, h4, h5⟩ := h
 exact ⟨v1, v3, v4, v5, e, Kd.R_mono (Kd.R_move (Kd.R_bound h1) (fun k hk => hw k hk.2.1 hk.1 hk.2.2.1)) (fun _ h => h.1), Kd.R_mono (Kd.R_move (Kd.R_bound h3) (fun k hk => hw k hk.2.1 hk.1 hk.2.2.1)) (fun _ h => h.1),
  Kd.S_mono (Kd.S_move (Kd.S_bound h4) (fun k hk => hw k hk.2.1 hk.1.2 hk.2.2.1)) (fun _ h => h.1), Kd.S_mono (Kd.S_move (Kd.S_bound h5) (fun k hk => hw k hk.2.1 hk.1.2 hk.2.2.1)) (fun _ h => h.1)⟩
theorem kpO {w w1 : World} {b N t : Nat} {cs : Array Value} {x0 : Int} {x1 : List S92} {x2 : Int} {x3 : List S105} {x4 : List S48} {x5 : List S48} (q : Aside0 (OG w b N t cs x0 x1 x2 x3 x4 x5)) (hb : Below w.heap.size w w1) : Aside0 (OG w1 b N t cs x0 x1 x2 x3 x4 x5) := am (q.out.keep (fun k _ _ hk => hb.block k hk))
theorem OG.read {w : World} {b N t : Nat} {cs : Array Value} {x0 : Int} {x1 : List S92} {x2 : Int} {x3 : List S105} {x4 : List S48} {x5 : List S48} (h : OG w b N t cs x0 x1 x2 x3 x4 x5) : IG w cs x0 x1 x2 x3 x4 x5 := by
 obtain ⟨v1, v3, v4, v5, e, h1, h3, h4, h5⟩ := h
 exact ⟨v1, v3, v4, v5, e, Kd.R_reads h1, Kd.R_reads h3, Kd.S_reads h4, Kd.S_reads h5⟩
theorem R_past {α : Type} {d : Kd α} {e e' b : Nat} {ok : Nat → Prop} {w w' : World} {u v : Value} {xs : List α} (h : d.R e w b ok u xs) (hty : ∀ k, v.ownBlock = some k → ∃ cells, w.heap[k]? = some (.cells cells e' (0, 0))) (ht : ∀ q, q ∈ e :: d.E → q ≠ e') (hk : Kept w w' (fun k => some k = v.ownBlock)) : d.R e w' b ok u xs :=
 Kd.R_mono (Kd.R_step (Kd.R_apart' h hty ht) (fun k hk' hlt => hk.2 k hlt (fun e => hk'.2 e))) (fun _ h => h.1)
theorem S_past {α : Type} {d : Kd α} {e e' b : Nat} {ok : Nat → Prop} {w w' : World} {u v : Value} {xs : List α} (h : Kd.S d e w b ok u xs) (hty : ∀ k, v.ownBlock = some k → ∃ cells, w.heap[k]? = some (.cells cells e' (0, 0))) (ht : ∀ q, q ∈ e :: d.E → q ≠ e') (hk : Kept w w' (fun k => some k = v.ownBlock)) : Kd.S d e w' b ok u xs :=
 Kd.S_mono (Kd.S_step (Kd.S_apart' h hty ht) (fun k hk' hlt => hk.2 k hlt (fun e => hk'.2 e))) (fun _ h => h.1)
/-- What the keys' rows lead to: blocks of keys and of numbers. -/
def SB (w : World) (ok : Nat → Prop) (b : Nat) (k : Nat) : Prop := ok k ∧ b ≤ k ∧ k < w.heap.size ∧ ∃ q, q ∈ 48 :: k48.E ∧ ∃ cells, w.heap[k]? = some (.cells cells q (0, 0))
theorem R_pastS {α : Type} {d : Kd α} {e b b' : Nat} {ok ok' : Nat → Prop} {w w' : World} {u : Value} {xs : List α} (hE : d.E = []) (ht : ∀ q, q ∈ 48 :: k48.E → q ≠ e) (h : d.R e w b ok u xs) (hk : Kept w w' (SB w ok' b')) : d.R e w' b ok u xs := by
 have hT := Kd.R_typed h
 refine Kd.R_reok hE (Kd.R_step (Kd.R_tight hE h) (fun k hk' hlt => hk.2 k hlt (fun hs => ?_))) h.1
 obtain ⟨_, _, _, q, hq, c1, h1⟩ := hs
 obtain ⟨c2, h2⟩ := hT k hk'.symm
 rw [h1] at h2
 injection h2 with h2
 injection h2 with _ h2
 exact ht q hq h2
theorem S_pastN {α : Type} {d : Kd α} {e b : Nat} {ok P : Nat → Prop} {w w' : World} {u : Value} {xs : List α} (h : Kd.S d e w b ok u xs) (hp : ∀ q, ok q → P q → False) (hk : Kept w w' P) : Kd.S d e w' b ok u xs := Kd.S_step h (fun k h1 h2 => hk.2 k h2 (fun h3 => hp k h1 h3))
def mkGate.f (k : Nat) (x0 : Int) (x1 : List S92) (x2 : Int) (x3 : List S105) (x4 : List S48) (x5 : List S48) (a : Int) : Option (Int × List S92 × List S105 × List S48 × List S48) := (mkSaS.f k x4 (mkSe.f x3 (mkRu.f x1 a).1).1).bind fun r => (mkSaS.f k x5 r.1).bind fun s => some (s.1, (mkRu.f x1 a).2, (mkSe.f x3 (mkRu.f x1 a).1).2, r.2, s.2)
theorem mkG (k : Nat) (cs : Array Value) (x0 : Int) (x1 : List S92) (x2 : Int) (x3 : List S105) (x4 : List S48) (x5 : List S48) (a r : Int) (y1 : List S92) (y3 : List S105) (y4 y5 : List S48) (N t : Nat) (w0 w : World) (hB : Below w0.heap.size w0 w) (htw : t ≤ w.heap.size) (H : OG w w0.heap.size N t cs x0 x1 x2 x3 x4 x5) (h : mkGate.f k x0 x1 x2 x3 x4 x5 a = some (r, y1, y3, y4, y5)) :
  Calls Tryz.prog 13 #[.agg cs, .int .i64 a] w fun e w' => e = .returned (.int .i64 r) ∧ OG w' w0.heap.size N t cs x0 y1 x2 y3 y4 y5 ∧ Below w0.heap.size w0 w' ∧ Kept w w' (fun k => w0.heap.size ≤ k ∧ k < t) := by
 obtain ⟨v1, v3, v4, v5, rfl, h1, h3, h4, h5⟩ := H
 simp only [mkGate.f] at h
 obtain ⟨⟨r1, r2⟩, hr, h⟩ := Option.bind_eq_some_iff.mp h
 obtain ⟨⟨s1, s2⟩, hs, h⟩ := Option.bind_eq_some_iff.mp h
 simp only [Option.some.injEq, Prod.mk.injEq] at h
 obtain ⟨rfl, rfl, rfl, rfl, rfl⟩ := h
 have E4 := am hr
 have E5 := am hs
 have HB := am hB
 have KP := am (Kept.refl w (fun k => w0.heap.size ≤ k ∧ k < t))
 have H1 := am h1
 have H3 := am h3
 have H4 := am h4
 have H5 := am h5
 obtain ⟨A1, c1, rfl⟩ := Kd.R_slice h1
 obtain ⟨A3, c3, rfl⟩ := Kd.R_slice h3
 obtain ⟨A4, c4, rfl⟩ := Kd.S_slice h4
 obtain ⟨A5, c5, rfl⟩ := Kd.S_slice h5
 have hu42 := Tryz.underlying42
 have hu39 := Tryz.underlying39
 clear hB h1 h3 h4 h5 hr hs
 go_enter Tryz.func13, Tryz.ntmps13
 go_upto_region 1 with (first | ((with_reducible refine gate_dst (N := 2) rfl ?_); refine box_event rfl (N := 2) rfl (cs := #[.int .i64 x0, .slice A1 x1.length c1, .int .i64 x2, .slice A3 x3.length c3, .slice A4 x4.length c4, .slice A5 x5.length c5]) (t := 42) BX ?_; intro q2 hq2 wq hA hb; have W2 := am hA; have G2 := am (show t ≤ q2 by omega); replace H1 := am (Kd.R_below H1.out hb); replace H3 := am (Kd.R_below H3.out hb); replace H4 := am (Kd.S_below H4.out hb); replace H5 := am (Kd.S_below H5.out hb); replace HB := kpH HB hb; replace KP := am (KP.out.below hb); clear hq2 hA hb))
 have hc := (blk_cell W2.out 1).trans (show _ = some (.slice A1 x1.length c1) from rfl)
 go_upto_region 2 with (go_at_call 42; refine (mkRu.run _ _ x1 a w0 _ HB.out (Kd.R_tight rfl H1.out)).mono ?_; rintro e w1 ⟨rfl, hR, hb, hk⟩; replace W2 := am ((hk.2 q2 (blk_lt W2.out) (fun hP => by have := H1.out.1 q2 hP.symm; have := G2.out; omega)).trans W2.out); replace H3 := am (R_past H3.out (Kd.R_typed H1.out) (by decide) hk); replace H4 := am (S_past H4.out (Kd.R_typed H1.out) (by decide) hk); replace H5 := am (S_past H5.out (Kd.R_typed H1.out) (by decide) hk); replace KP := am (Kept.then_ KP.out hk (fun q hq => .inl ⟨Kd.R_base H1.out q hq.symm, H1.out.1 q hq.symm⟩)); replace H1 := am (Kd.R_reok rfl hR H1.out.1); replace HB := am hb; clear hR hb hk)
 clear hc
 go_upto_region 3 with (first | ((with_reducible refine gate_dst (N := 10) rfl ?_); refine ldseg (t := 39) rfl (.tmp 9) rfl (by rfl) [.int .i64 x2, .slice A3 x3.length c3] W2.out (by rfl) hu39 rfl (by kernel_rfl) ?_) | (go_at_call 43; refine (mkCa.run x2 _ _ x3 (mkRu.f x1 a).1 w0 _ HB.out (Kd.R_tight rfl H3.out)).mono ?_; rintro e w1 ⟨rfl, hR, hb, hk⟩; replace W2 := am ((hk.2 q2 (blk_lt W2.out) (fun hP => by have := H3.out.1 q2 hP.symm; have := G2.out; omega)).trans W2.out); replace H1 := am (R_past H1.out (Kd.R_typed H3.out) (by decide) hk); replace H4 := am (S_past H4.out (Kd.R_typed H3.out) (by decide) hk); replace H5 := am (S_past H5.out (Kd.R_typed H3.out) (by decide) hk); replace KP := am (Kept.then_ KP.out hk (fun q hq => .inl ⟨Kd.R_base H3.out q hq.symm, H3.out.1 q hq.symm⟩)); replace H3 := am (Kd.R_reok rfl hR H3.out.1); replace HB := am hb; clear hR hb hk))
 have hc := (blk_cell W2.out 4).trans (show _ = some (.slice A4 x4.length c4) from rfl)
 go_upto_region 4 with (go_at_call 44; refine (mkSaS.run k _ _ x4 (mkSe.f x3 (mkRu.f x1 a).1).1 r1 r2 w0 _ HB.out (Kd.S_bound H4.out) E4.out).mono ?_; rintro e w1 ⟨rfl, hR, hb, hk⟩; replace W2 := am ((hk.2 q2 (blk_lt W2.out) (fun hP => by have := hP.1.2; have := G2.out; omega)).trans W2.out); replace H1 := am (R_pastS rfl (by decide) H1.out hk); replace H3 := am (R_pastS rfl (by decide) H3.out hk); replace H5 := am (S_pastN H5.out (fun q h1 h2 => by have := h1.1; have := h2.1.1; omega) hk); replace KP := am (Kept.then_ KP.out hk (fun q hq => .inl ⟨hq.2.1, hq.1.2⟩)); replace H4 := am (Kd.S_mono hR (fun q hq => hq.1)); replace HB := am hb; clear hR hb hk)
 clear hc
 have hc := (blk_cell W2.out 5).trans (show _ = some (.slice A5 x5.length c5) from rfl)
 go_wp2_with (go_at_call 44; refine (mkSaS.run k _ _ x5 r1 s1 s2 w0 _ HB.out (Kd.S_bound H5.out) E5.out).mono ?_; rintro e w1 ⟨rfl, hR, hb, hk⟩; replace H1 := am (R_pastS rfl (by decide) H1.out hk); replace H3 := am (R_pastS rfl (by decide) H3.out hk); replace H4 := am (S_pastN H4.out (fun q h1 h2 => by have := h1.1; have := h2.1.1; omega) hk); replace KP := am (Kept.then_ KP.out hk (fun q hq => .inl ⟨hq.2.1, hq.1.2⟩)); replace H5 := am (Kd.S_mono hR (fun q hq => hq.1)); replace HB := am hb; clear hR hb hk)
 go_ret
 exact ⟨rfl, ⟨_, _, _, _, rfl, H1.out, H3.out, H4.out, H5.out⟩, HB.out, KP.out⟩
theorem OG.of {w : World} {b N : Nat} {v1 v3 v4 v5 : Value} {x0 : Int} {x1 : List S92} {x2 : Int} {x3 : List S105} {x4 : List S48} {x5 : List S48} (h1 : Kd.R k92 92 w b (fun _ => True) v1 x1) (h3 : Kd.R k105 105 w b (fun _ => True) v3 x3) (h4 : Kd.S k48 48 w b (fun k => k < N) v4 x4) (h5 : Kd.S k48 48 w b (fun k => N ≤ k) v5 x5) : OG w b N w.heap.size #[.int .i64 x0, v1, .int .i64 x2, v3, v4, v5] x0 x1 x2 x3 x4 x5 :=
 ⟨_, _, _, _, rfl, Kd.R_mono (Kd.R_bound h1) (fun k hk => hk.2.2.1), Kd.R_mono (Kd.R_bound h3) (fun k hk => hk.2.2.1), Kd.S_mono (Kd.S_bound h4) (fun k hk => ⟨hk.1, hk.2.2.1⟩), Kd.S_mono (Kd.S_bound h5) (fun k hk => ⟨hk.1, hk.2.2.1⟩)⟩
theorem OG.lower {w : World} {b b' N t : Nat} {cs : Array Value} {x0 : Int} {x1 : List S92} {x2 : Int} {x3 : List S105} {x4 : List S48} {x5 : List S48} (h : OG w b N t cs x0 x1 x2 x3 x4 x5) (hb : b' ≤ b) : OG w b' N t cs x0 x1 x2 x3 x4 x5 := by
 obtain ⟨v1, v3, v4, v5, e, h1, h3, h4, h5⟩ := h
 exact ⟨v1, v3, v4, v5, e, Kd.R_lower h1 hb, Kd.R_lower h3 hb, Kd.S_lower h4 hb, Kd.S_lower h5 hb⟩
theorem OG.nil (w : World) (b N t : Nat) : OG w b N t #[.int .i64 0, .slice none 0 0, .int .i64 0, .slice none 0 0, .slice none 0 0, .slice none 0 0] 0 [] 0 [] [] [] := ⟨_, _, _, _, rfl, Kd.R_nil _ _ _ _ _, Kd.R_nil _ _ _ _ _, Kd.S_nil _ _ _ _ _, Kd.S_nil _ _ _ _ _⟩
theorem mkboxg {P : Program} {ops : Array Oper} {rest : List Oper} {o o2 : Oper} {a : Act} {Q : Exit → Act → World → Prop} {W : World} (hgd : o.guard = none) {N : Tmp} (hd : o.dst = some N) {cs : Array Value} {t : TypeId}
  (hrun : (execOp a.eval o).run P W = .ok (.value (.pointer (some ⟨W.heap.size, 0, none⟩))) (W.alloc (.cells cs t (0, 0))))
  (hgd2 : o2.guard = none) (hN2 : o2.dst = none) (x y : Operand) (ho2 : o2.op = .store t x y) (vs : Array Value)
  (hx : ∀ v, (a.put (some N) v).eval x = v) (hy : ∀ v, (a.put (some N) v).eval y = .agg vs) (hs : vs.size = cs.size)
  (hi : (P.info? t).map (·.size) = some vs.size) (h1 : vs.all (·.oneCell') = true)
  (h : ∀ g w1, g = W.heap.size → w1.heap[g]? = some (.cells vs t (0, 0)) → Below W.heap.size W w1 → wpList P ops Q rest (a.put (some N) (.pointer (some ⟨g, 0, none⟩))) w1) :
  wpList P ops Q (o :: o2 :: rest) a W := by
 refine box_event hgd hd hrun ?_
 intro g hg w1 hb1 hB
 rw [hd]
 refine stseg hgd2 hN2 x y ho2 (.agg vs) vs rfl (off := 0) (hx _) (hy _) hb1 (by omega) hi h1 vs ?_ hB (by omega) (fun w2 h2 h3 _ => h g w2 hg h2 h3)
 have h6 : cs.toList.drop (0 + vs.toList.length) = [] := List.drop_eq_nil_of_le (by simp; omega)
 rw [h6]
 simp
theorem R_kp {α : Type} {d : Kd α} {e b : Nat} {ok : Nat → Prop} {w w1 : World} {v : Value} {xs : List α} (h : d.R e w b ok v xs) (hw : ∀ k, b ≤ k → k < w.heap.size → w1.heap[k]? = w.heap[k]?) : d.R e w1 b ok v xs := Kd.R_mono (Kd.R_move (Kd.R_bound h) (fun k hk => hw k hk.2.1 hk.2.2.1)) (fun _ h => h.1)
theorem S_kp {α : Type} {d : Kd α} {e b : Nat} {ok : Nat → Prop} {w w1 : World} {v : Value} {xs : List α} (h : Kd.S d e w b ok v xs) (hw : ∀ k, b ≤ k → k < w.heap.size → w1.heap[k]? = w.heap[k]?) : Kd.S d e w1 b ok v xs := Kd.S_mono (Kd.S_move (Kd.S_bound h) (fun k hk => hw k hk.2.1 hk.2.2.1)) (fun _ h => h.1)
theorem toG (k : Nat) (cs : Array Value) (x0 : Int) (x1 : List S96) (x2 : Int) (x3 : List S124) (x4 : List S33) (x5 : List S33) (y0 : Int) (y1 : List S92) (y2 : Int) (y3 : List S105) (y4 : List S48) (y5 : List S48) (w : World) (H : LG w cs x0 x1 x2 x3 x4 x5) (h : laws_toGate.f k x0 x1 x2 x3 x4 x5 = some (y0, y1, y2, y3, y4, y5)) :
  Calls Tryz.prog 8 #[.agg cs] w fun e w' => ∃ ds N t, e = .returned (.agg ds) ∧ OG w' w.heap.size N t ds y0 y1 y2 y3 y4 y5 ∧ t ≤ w'.heap.size ∧ Below w.heap.size w w' := by
 obtain ⟨_, _, _, _, rfl, ⟨A1, c1, rfl, l1, h1⟩, ⟨A3, c3, rfl, l3, h3⟩, ⟨A4, c4, rfl, l4, h4⟩, ⟨A5, c5, rfl, l5, h5⟩⟩ := H
 simp only [laws_toGate.f] at h
 obtain ⟨a, hA, h⟩ := Option.bind_eq_some_iff.mp h
 obtain ⟨b, hB, h⟩ := Option.bind_eq_some_iff.mp h
 obtain ⟨c, hC, h⟩ := Option.bind_eq_some_iff.mp h
 obtain ⟨d, hD, h⟩ := Option.bind_eq_some_iff.mp h
 simp only [Option.some.injEq, Prod.mk.injEq] at h
 obtain ⟨e0, e1, e2, e3, e4, e5⟩ := h
 have E1 := am (hA.trans (congrArg some e1))
 have E3 := am (hB.trans (show some b = some (y2, y3) by rw [← e2, ← e3]))
 have E4 := am (hC.trans (congrArg some e4))
 have E5 := am (hD.trans (congrArg some e5))
 subst e0
 have H1 := am h1
 have H3 := am h3
 have H4 := am h4
 have H5 := am h5
 have HB := am (Below.refl w.heap.size w)
 have hu28 := Tryz.underlying28
 have hu42 := Tryz.underlying42
 have hu25 := Tryz.underlying25
 clear e1 e2 e3 e4 e5 hA hB hC hD h1 h3 h4 h5
 go_enter Tryz.func8, Tryz.ntmps8
 go_upto_region 2 with (first | ((with_reducible refine gate_dst (N := 1) rfl ?_); refine box_event rfl (N := 1) rfl (cs := #[.int .i64 x0, .slice A1 x1.length c1, .int .i64 x2, .slice A3 x3.length c3, .slice A4 x4.length c4, .slice A5 x5.length c5]) (t := 28) BX ?_; intro q1 hg wq hA hb; have W1 := am hA; replace HB := kpH HB hb; clear hg hA hb) | ((with_reducible refine gate_dst (N := 2) rfl ?_); refine box_event rfl (N := 2) rfl (cs := #[.int .i64 0, .slice none 0 0, .int .i64 0, .slice none 0 0, .slice none 0 0, .slice none 0 0]) (t := 42) BX ?_; intro q2 hg wq hA hb; have G2 := am (show w.heap.size ≤ q2 by rw [hg]; exact HB.out.size); replace W1 := kpW W1 hb; have W2 := am hA; replace HB := kpH HB hb; clear hg hA hb) | ((with_reducible refine gate_dst (N := 3) rfl ?_); refine box_event rfl (N := 3) rfl (cs := #[.int .i64 0, .slice none 0 0, .int .i64 0, .slice none 0 0, .slice none 0 0, .slice none 0 0]) (t := 42) BX ?_; intro q3 hg wq hA hb; have G3 := am (show w.heap.size ≤ q3 by rw [hg]; exact HB.out.size); have N13 := (show q1 ≠ q3 by rw [hg]; exact Nat.ne_of_lt (blk_lt W1.out)); have N23 := (show q2 ≠ q3 by rw [hg]; exact Nat.ne_of_lt (blk_lt W2.out)); have M23 := am (show q2 < q3 by rw [hg]; exact blk_lt W2.out); replace W1 := kpW W1 hb; replace W2 := kpW W2 hb; have W3 := am hA; replace HB := kpH HB hb; clear hg hA hb))
 have W3s := am (blk_lt W3.out)
 have hc := (blk_cell W1.out 0).trans (show _ = some (.int .i64 x0) from rfl)
 go_upto_region 3 with ((with_reducible refine gate_store (t := 3) (p := 6) rfl ?_); refine stseg rfl rfl (.tmp 6) (.tmp 5) rfl (off := 0) (.int .i64 x0) #[.int .i64 x0] rfl (by rfl) (by rfl) W3.out (Nat.le_of_ble_eq_true rfl) (by kernel_rfl) (by kernel_rfl) #[.int .i64 x0, .slice none 0 0, .int .i64 0, .slice none 0 0, .slice none 0 0, .slice none 0 0] (by rfl) HB.out G3.out ?_; intro wq hA hb hf; replace W1 := am ((hf _ N13).trans W1.out); replace W2 := am ((hf _ N23).trans W2.out); replace W3 := am hA; replace HB := am hb; replace W3s := am (blk_lt hA); clear hA hb hf)
 clear hc
 have hc := (blk_cell W1.out 1).trans (show _ = some (.slice A1 x1.length c1) from rfl)
 go_upto_region 4 with (first | (go_at_call 27; refine (laws_toRuleS.calls k A1 c1 x1 y1 _ (Kd.C_below H1.out HB.out) l1 E1.out).mono ?_; rintro e wq ⟨v1, rfl, o1, hb⟩; obtain ⟨B1, d1, rfl⟩ := Kd.R_slice o1; have LB1 := am HB.out.size; have P1 := am o1; have L1 := am W3s.out; replace W1 := kpW W1 hb; replace W2 := kpW W2 hb; replace W3 := kpW W3 hb; replace HB := kpH HB hb; replace W3s := am (Nat.lt_of_lt_of_le W3s.out hb.size); clear o1 hb) | ((with_reducible refine gate_store (t := 36) (p := 10) rfl ?_); refine stseg rfl rfl (.tmp 10) (.tmp 9) rfl (off := 1) (.slice B1 y1.length d1) #[.slice B1 y1.length d1] rfl (by rfl) (by rfl) W3.out (Nat.le_of_ble_eq_true rfl) (by kernel_rfl) (by kernel_rfl) #[.int .i64 x0, .slice B1 y1.length d1, .int .i64 0, .slice none 0 0, .slice none 0 0, .slice none 0 0] (by rfl) HB.out G3.out ?_; intro wq hA hb hf; replace W1 := am ((hf _ N13).trans W1.out); replace W2 := am ((hf _ N23).trans W2.out); replace W3 := am hA; replace HB := am hb; replace P1 := am (R_kp P1.out (fun k hk _ => hf k (by have := L1.out; omega))); replace W3s := am (blk_lt hA); clear hA hb hf))
 clear hc
 go_upto_region 5 with (first | ((with_reducible refine gate_dst (N := 12) rfl ?_); refine ldseg (t := 25) rfl (.tmp 11) rfl (by rfl) [.int .i64 x2, .slice A3 x3.length c3] W1.out (by rfl) hu25 rfl (by kernel_rfl) ?_) | (go_at_call 28; refine (laws_toCache.calls k x2 A3 c3 x3 y2 y3 _ (Kd.C_below H3.out HB.out) l3 E3.out).mono ?_; rintro e wq ⟨v1, rfl, o1, hb⟩; obtain ⟨B3, d3, rfl⟩ := Kd.R_slice o1; have LB3 := am HB.out.size; have P3 := am o1; have L3 := am W3s.out; replace W1 := kpW W1 hb; replace W2 := kpW W2 hb; replace W3 := kpW W3 hb; replace P1 := am (R_kp P1.out (fun k _ hk => hb.block k hk)); replace HB := kpH HB hb; replace W3s := am (Nat.lt_of_lt_of_le W3s.out hb.size); clear o1 hb) | ((with_reducible refine gate_store (t := 39) (p := 14) rfl ?_); refine stseg rfl rfl (.tmp 14) (.tmp 13) rfl (off := 2) (.agg #[.int .i64 y2, .slice B3 y3.length d3]) #[.int .i64 y2, .slice B3 y3.length d3] rfl (by rfl) (by rfl) W3.out (Nat.le_of_ble_eq_true rfl) (by kernel_rfl) (by kernel_rfl) #[.int .i64 x0, .slice B1 y1.length d1, .int .i64 y2, .slice B3 y3.length d3, .slice none 0 0, .slice none 0 0] (by rfl) HB.out G3.out ?_; intro wq hA hb hf; replace W1 := am ((hf _ N13).trans W1.out); replace W2 := am ((hf _ N23).trans W2.out); replace W3 := am hA; replace HB := am hb; replace P1 := am (R_kp P1.out (fun k hk _ => hf k (by have := L1.out; omega))); replace P3 := am (R_kp P3.out (fun k hk _ => hf k (by have := L3.out; omega))); replace W3s := am (blk_lt hA); clear hA hb hf))
 have hc := (blk_cell W1.out 4).trans (show _ = some (.slice A4 x4.length c4) from rfl)
 go_upto_region 6 with (first | (go_at_call 29; refine (laws_toSaS.calls k A4 c4 x4 y4 _ (Kd.C_below H4.out HB.out) l4 E4.out).mono ?_; rintro e wq ⟨v1, rfl, o1, hb⟩; obtain ⟨B4, d4, rfl⟩ := Kd.S_slice o1; have LB4 := am HB.out.size; have P4 := am o1; have L4 := am W3s.out; replace W1 := kpW W1 hb; replace W2 := kpW W2 hb; replace W3 := kpW W3 hb; replace P1 := am (R_kp P1.out (fun k _ hk => hb.block k hk)); replace P3 := am (R_kp P3.out (fun k _ hk => hb.block k hk)); replace HB := kpH HB hb; replace W3s := am (Nat.lt_of_lt_of_le W3s.out hb.size); clear o1 hb) | ((with_reducible refine gate_store (t := 40) (p := 18) rfl ?_); refine stseg rfl rfl (.tmp 18) (.tmp 17) rfl (off := 4) (.slice B4 y4.length d4) #[.slice B4 y4.length d4] rfl (by rfl) (by rfl) W3.out (Nat.le_of_ble_eq_true rfl) (by kernel_rfl) (by kernel_rfl) #[.int .i64 x0, .slice B1 y1.length d1, .int .i64 y2, .slice B3 y3.length d3, .slice B4 y4.length d4, .slice none 0 0] (by rfl) HB.out G3.out ?_; intro wq hA hb hf; replace W1 := am ((hf _ N13).trans W1.out); replace W2 := am ((hf _ N23).trans W2.out); replace W3 := am hA; replace HB := am hb; replace P1 := am (R_kp P1.out (fun k hk _ => hf k (by have := L1.out; omega))); replace P3 := am (R_kp P3.out (fun k hk _ => hf k (by have := L3.out; omega))); replace P4 := am (S_kp P4.out (fun k hk _ => hf k (by have := L4.out; omega))); replace W3s := am (blk_lt hA); clear hA hb hf))
 clear hc
 have hc := (blk_cell W1.out 5).trans (show _ = some (.slice A5 x5.length c5) from rfl)
 generalize hw5 : wq = w5 at *
 clear hw5
 go_upto_region 7 with (first | (go_at_call 29; refine (laws_toSaS.calls k A5 c5 x5 y5 _ (Kd.C_below H5.out HB.out) l5 E5.out).mono ?_; rintro e wq ⟨v1, rfl, o1, hb⟩; obtain ⟨B5, d5, rfl⟩ := Kd.S_slice o1; have LB5 := am HB.out.size; have P5 := am (show Kd.S k48 48 wq w5.heap.size (fun k => w5.heap.size ≤ k) _ _ from Kd.S_mono (Kd.S_bound o1) (fun _ hk => hk.2.1)); have L5 := am W3s.out; replace P4 := am (show Kd.S k48 48 w5 _ (fun k => k < w5.heap.size) _ _ from Kd.S_mono (Kd.S_bound P4.out) (fun _ hk => hk.2.2.1)); replace W1 := kpW W1 hb; replace W2 := kpW W2 hb; replace W3 := kpW W3 hb; replace P1 := am (R_kp P1.out (fun k _ hk => hb.block k hk)); replace P3 := am (R_kp P3.out (fun k _ hk => hb.block k hk)); replace P4 := am (S_kp P4.out (fun k _ hk => hb.block k hk)); replace HB := kpH HB hb; replace W3s := am (Nat.lt_of_lt_of_le W3s.out hb.size); clear o1 hb) | ((with_reducible refine gate_store (t := 40) (p := 22) rfl ?_); refine stseg rfl rfl (.tmp 22) (.tmp 21) rfl (off := 5) (.slice B5 y5.length d5) #[.slice B5 y5.length d5] rfl (by rfl) (by rfl) W3.out (Nat.le_of_ble_eq_true rfl) (by kernel_rfl) (by kernel_rfl) #[.int .i64 x0, .slice B1 y1.length d1, .int .i64 y2, .slice B3 y3.length d3, .slice B4 y4.length d4, .slice B5 y5.length d5] (by rfl) HB.out G3.out ?_; intro wq hA hb hf; replace W1 := am ((hf _ N13).trans W1.out); replace W2 := am ((hf _ N23).trans W2.out); replace W3 := am hA; replace HB := am hb; replace P1 := am (R_kp P1.out (fun k hk _ => hf k (by have := L1.out; omega))); replace P3 := am (R_kp P3.out (fun k hk _ => hf k (by have := L3.out; omega))); replace P4 := am (S_kp P4.out (fun k hk _ => hf k (by have := L4.out; omega))); replace P5 := am (S_kp P5.out (fun k hk _ => hf k (by have := L5.out; omega))); replace W3s := am (blk_lt hA); clear hA hb hf))
 clear hc
 go_wp2_with (first | ((with_reducible refine gate_dst (N := 23) rfl ?_); refine ldbox (t := 42) rfl (.tmp 3) rfl (by rfl) #[.int .i64 x0, .slice B1 y1.length d1, .int .i64 y2, .slice B3 y3.length d3, .slice B4 y4.length d4, .slice B5 y5.length d5] W3.out hu42 rfl (by kernel_rfl) ?_) | ((with_reducible refine gate_store (t := 42) (p := 2) rfl ?_); refine stseg rfl rfl (.tmp 2) (.tmp 23) rfl (off := 0) (.agg #[.int .i64 x0, .slice B1 y1.length d1, .int .i64 y2, .slice B3 y3.length d3, .slice B4 y4.length d4, .slice B5 y5.length d5]) #[.int .i64 x0, .slice B1 y1.length d1, .int .i64 y2, .slice B3 y3.length d3, .slice B4 y4.length d4, .slice B5 y5.length d5] rfl (by rfl) (by rfl) W2.out (Nat.le_of_ble_eq_true rfl) (by kernel_rfl) (by kernel_rfl) #[.int .i64 x0, .slice B1 y1.length d1, .int .i64 y2, .slice B3 y3.length d3, .slice B4 y4.length d4, .slice B5 y5.length d5] (by rfl) HB.out G2.out ?_; intro wq hA hb hf; replace W2 := am hA; replace HB := am hb; replace P1 := am (R_kp P1.out (fun k hk _ => hf k (by have := L1.out; have := M23.out; omega))); replace P3 := am (R_kp P3.out (fun k hk _ => hf k (by have := L3.out; have := M23.out; omega))); replace P4 := am (S_kp P4.out (fun k hk _ => hf k (by have := L4.out; have := M23.out; omega))); replace P5 := am (S_kp P5.out (fun k hk _ => hf k (by have := L5.out; have := M23.out; omega))); clear hA hb hf))
 refine bodyPost_ret (results_cell_row rfl _ _ q2 42 #[.int .i64 x0, .slice B1 y1.length d1, .int .i64 y2, .slice B3 y3.length d3, .slice B4 y4.length d4, .slice B5 y5.length d5] (0, 0) _ rfl W2.out hu42 rfl (by kernel_rfl)) rfl ?_
 exact ⟨_, w5.heap.size, _, rfl, OG.of (Kd.R_lower P1.out LB1.out) (Kd.R_lower P3.out LB3.out) (Kd.S_lower P4.out LB4.out) (Kd.S_lower P5.out LB5.out), Nat.le_refl _, HB.out⟩
/-- Keys that are held, plainly. -/
def heldP (k : Nat) : List S48 → Int → Int → Prop
 | [], a, r => a = r
 | x :: xs, a, r => ∃ s2 s3 sn q, laws_markText.f k (nx (nx a)) = some s2 ∧ laws_markText.f k (nx (nx (nx a))) = some s3 ∧ x = (⟨a, (nx a), s2, s3, (nx (nx (nx (nx a)))), (nx (nx (nx (nx (nx a))))), (nx (nx (nx (nx (nx (nx a)))))), (nx (nx (nx (nx (nx (nx (nx a))))))), (nx (nx (nx (nx (nx (nx (nx (nx a)))))))), ⟨(nx (nx (nx (nx (nx (nx (nx (nx (nx a))))))))), sn⟩⟩ : S48) ∧ laws_heldIntS.f k sn (nx (nx (nx (nx (nx (nx (nx (nx (nx (nx a)))))))))) = some q ∧ 0 ≤ q ∧ heldP k xs q r
theorem hdSaS.run (k : Nat) (A : Option Addr) (c : Nat) (l0 : List S48) (a1 r : Int) (w : World) (hr : Kd.C k48 w A l0.length l0) (h : heldP k l0 a1 r) :
  Calls Tryz.prog 48 #[.slice A l0.length c, .int .i64 a1] w fun e w' => e = .returned (.int .i64 r) ∧ Below w.heap.size w w' := by
 have HM := am hr.2.1
 have HR := am hr
 have HE := am h
 have HB := am (Below.refl w.heap.size w)
 clear hr h
 go_enter Tryz.func48, Tryz.ntmps48
 go_wp2
 go_loopg [1, 5] l0.length (fun gg s1 s5 wr => ∃ (jj : Nat) (a : Int), jj ≤ l0.length ∧ Aside0 (l0.length - jj ≤ gg) ∧ s1 = .int .i64 a ∧ s5 = .int .i64 (jj : Int) ∧ Aside0 (Below w.heap.size w wr) ∧ Aside0 (heldP k (l0.drop jj) a r))
 case atStart => exact ⟨0, a1, Nat.zero_le _, ⟨by omega⟩, rfl, rfl, HB, HE⟩
 case round =>
  clear HE HB
  obtain ⟨jj, a, hjj, hg, rfl, rfl, HB, HE⟩ := hrel
  have hml := HM.out
  by_cases hlt : jj < l0.length
  ·have hltz : (jj : Int) < (l0.length : Int) := by omega
   have p1 : 0 ≤ (jj : Int) := by omega
   obtain ⟨ad, _, _, e, _⟩ := at_T48 (Kd.C_below HR.out HB.out) (jj : Int) p1 hltz
   subst e
   have E1 := HE.out
   rw [List.drop_eq_getElem_cons hlt] at E1
   obtain ⟨s2, s3, sn, q, ht2, ht3, hx, hq, hq0, hrest⟩ := E1
   have T2 := am ht2
   have T3 := am ht3
   have TQ := am hq
   have TR := am hrest
   have HC := am (show ∀ W, Below w.heap.size w W → (W.cell? (ad.add (jj * 11)) = some (.int .i64 a) ∧ W.cell? ⟨(ad.add (jj * 11)).block, (ad.add (jj * 11)).off + 1, none⟩ = some (.int .i64 (nx a)) ∧ W.cell? ⟨(ad.add (jj * 11)).block, (ad.add (jj * 11)).off + 2, none⟩ = some (.string s2) ∧ W.cell? ⟨(ad.add (jj * 11)).block, (ad.add (jj * 11)).off + 3, none⟩ = some (.string s3) ∧ W.cell? ⟨(ad.add (jj * 11)).block, (ad.add (jj * 11)).off + 4, none⟩ = some (.int .i64 (nx (nx (nx (nx a))))) ∧ W.cell? ⟨(ad.add (jj * 11)).block, (ad.add (jj * 11)).off + 5, none⟩ = some (.int .i64 (nx (nx (nx (nx (nx a)))))) ∧ W.cell? ⟨(ad.add (jj * 11)).block, (ad.add (jj * 11)).off + 6, none⟩ = some (.int .i64 (nx (nx (nx (nx (nx (nx a))))))) ∧ W.cell? ⟨(ad.add (jj * 11)).block, (ad.add (jj * 11)).off + 7, none⟩ = some (.int .i64 (nx (nx (nx (nx (nx (nx (nx a)))))))) ∧ W.cell? ⟨(ad.add (jj * 11)).block, (ad.add (jj * 11)).off + 8, none⟩ = some (.int .i64 (nx (nx (nx (nx (nx (nx (nx (nx a))))))))) ∧ W.cell? ⟨(ad.add (jj * 11)).block, (ad.add (jj * 11)).off + 9, none⟩ = some (.int .i64 (nx (nx (nx (nx (nx (nx (nx (nx (nx a)))))))))) ∧ ∃ A10 c10, W.cell? ⟨(ad.add (jj * 11)).block, (ad.add (jj * 11)).off + 10, none⟩ = some (.slice A10 sn.length c10) ∧ sn.length ≤ c10 ∧ (Kd.int .i64).C W A10 sn.length sn) from fun W hb => by
    obtain ⟨ad', A10, c10, e, h0, h1, h2, h3, h4, h5, h6, h7, h8, h9, h10, h11, h12⟩ := at_T48 (Kd.C_below HR.out hb) (jj : Int) p1 hltz
    injection e with e
    subst e
    have hxx : rd_T48 l0 (jj : Int) = l0[jj] := by
     unfold rd_T48
     rw [Int.toNat_natCast, List.getD_eq_getElem?_getD, List.getElem?_eq_getElem hlt]
     rfl
    rw [hxx, hx] at h0 h1 h2 h3 h4 h5 h6 h7 h8 h9 h10 h11 h12
    exact ⟨h0, h1, h2, h3, h4, h5, h6, h7, h8, h9, A10, c10, h10, h11, h12⟩)
   clear hx ht2 ht3 hq hrest HE
   generalize hwq : wr = wq at *
   clear hwq
   obtain ⟨h0, h1, _⟩ := HC.out _ HB.out
   go_upto_region 10 with fail
   clear h0 h1
   have hd10 := am (below_drew (Below.refl wq.heap.size wq))
   refine start_ (n := 8) (S := fun w' => w'.cell? ⟨(ad.add (jj * 11)).block, (ad.add (jj * 11)).off + 2, none⟩ = some (.string s2)) (ds := []) (tf 0 8) (by kernel_rfl) rfl rfl (HC.out _ (below_step HB.out hd10.out)).2.2.1 (fun hHeld => ?_)
   refine tk 0 (some 30) (tf 1 7) (by kernel_rfl) hHeld ?_
   refine tk 1 (some 31) (tf 2 6) (by kernel_rfl) hHeld ?_
   refine tk 2 (some 32) (tf 3 5) (by kernel_rfl) hHeld ?_
   refine tk 3 (some 33) (tf 4 4) (by kernel_rfl) hHeld ?_
   refine tk 4 (some 34) (tf 5 3) (by kernel_rfl) hHeld ?_
   refine tk 5 (some 35) (tf 6 2) (by kernel_rfl) hHeld ?_
   refine one_ (i := 6) (N := some 36) (tf 7 1) rfl rfl (by kernel_rfl) (by decide) (fun K hK => ?_)
   refine goes_ Tryz.func77 (by kernel_rfl) rfl #[.int .i64 (wrap64 ((wrap64 (a + 1)) + 1))] (by rfl) rfl rfl MT ?_
   refine (laws_markText.calls k (wrap64 ((wrap64 (a + 1)) + 1)) s2 _ T2.out).mono ?_
   rintro e wq ⟨rfl, hb0⟩
   replace HB := am (below_step HB.out (hd10.out.trans (hb0.mono hd10.out.size)))
   refine ⟨_, rfl, ?_⟩
   refine hK.out _ _ (HC.out _ HB.out).2.2.1 (fun hHeld => ?_)
   clear hK K hb0 hd10
   refine nm (some 36) ?_
   refine tk 7 (some 37) (tf 8 0) (by kernel_rfl) hHeld ?_
   clear hHeld
   refine done_ (by kernel_rfl) ?_
   go_upto_region 13 with fail
   have hd13 := am (below_drew (Below.refl wq.heap.size wq))
   refine start_ (n := 8) (S := fun w' => w'.cell? ⟨(ad.add (jj * 11)).block, (ad.add (jj * 11)).off + 3, none⟩ = some (.string s3)) (ds := []) (tf 0 8) (by kernel_rfl) rfl rfl (HC.out _ (below_step HB.out hd13.out)).2.2.2.1 (fun hHeld => ?_)
   refine tk 0 (some 40) (tf 1 7) (by kernel_rfl) hHeld ?_
   refine tk 1 (some 41) (tf 2 6) (by kernel_rfl) hHeld ?_
   refine tk 2 (some 42) (tf 3 5) (by kernel_rfl) hHeld ?_
   refine tk 3 (some 43) (tf 4 4) (by kernel_rfl) hHeld ?_
   refine tk 4 (some 44) (tf 5 3) (by kernel_rfl) hHeld ?_
   refine tk 5 (some 45) (tf 6 2) (by kernel_rfl) hHeld ?_
   refine one_ (i := 6) (N := some 46) (tf 7 1) rfl rfl (by kernel_rfl) (by decide) (fun K hK => ?_)
   refine goes_ Tryz.func77 (by kernel_rfl) rfl #[.int .i64 (wrap64 ((wrap64 ((wrap64 (a + 1)) + 1)) + 1))] (by rfl) rfl rfl MT ?_
   refine (laws_markText.calls k (wrap64 ((wrap64 ((wrap64 (a + 1)) + 1)) + 1)) s3 _ T3.out).mono ?_
   rintro e wq ⟨rfl, hb0⟩
   replace HB := am (below_step HB.out (hd13.out.trans (hb0.mono hd13.out.size)))
   refine ⟨_, rfl, ?_⟩
   refine hK.out _ _ (HC.out _ HB.out).2.2.2.1 (fun hHeld => ?_)
   clear hK K hb0 hd13
   refine nm (some 46) ?_
   refine tk 7 (some 47) (tf 8 0) (by kernel_rfl) hHeld ?_
   clear hHeld
   refine done_ (by kernel_rfl) ?_
   obtain ⟨_, _, _, _, h4, h5, h6, h7, h8, h9, A10, c10, h10, h11, h12⟩ := HC.out _ HB.out
   have h10' : wq.cell? ⟨(ad.add (jj * 11)).block, (ad.add (jj * 11)).off + 9 + 1, none⟩ = some (.slice A10 sn.length c10) := h10
   have H12 := am h12
   have hqd := decide_eq_false (show ¬ q < 0 by omega)
   clear h12
   go_upto_region 34 with fail
   clear h4 h5 h6 h7 h8 h9
   go_wp2_with (go_at_call 80; refine (laws_heldIntS.calls k A10 c10 sn (nx (nx (nx (nx (nx (nx (nx (nx (nx (nx a)))))))))) q _ H12.out h11 TQ.out).mono ?_; rintro e wq ⟨rfl, hb⟩; replace HB := am (below_step HB.out hb.below); clear hb h10 h10')
   go_roundg (l0.length - (jj + 1))
   case measure => have := hg.out; omega
   case rel => exact ⟨jj + 1, q, by omega, ⟨by omega⟩, rfl, by go_num, HB, TR⟩
  ·have hltz : ¬ (jj : Int) < (l0.length : Int) := by omega
   have : jj = l0.length := by omega
   have E1 := HE.out
   rw [this, List.drop_length] at E1
   have E2 : a = r := E1
   subst E2
   clear HE E1
   go_wp2
   go_ret
   exact ⟨rfl, HB.out⟩
def heldGP (k : Nat) (x1 : List S92) (x2 : Int) (x3 : List S105) (x4 x5 : List S48) (a r : Int) : Prop := ∃ p q s, hdRu x1 a p ∧ 0 ≤ p ∧ hdSe x3 p q ∧ 0 ≤ q ∧ heldP k x4 q s ∧ 0 ≤ s ∧ heldP k x5 s r ∧ 0 ≤ r
theorem heldG (k : Nat) (cs : Array Value) (x0 : Int) (x1 : List S92) (x2 : Int) (x3 : List S105) (x4 : List S48) (x5 : List S48) (a r : Int) (w : World) (H : IG w cs x0 x1 x2 x3 x4 x5) (h : heldGP k x1 x2 x3 x4 x5 a r) : Calls Tryz.prog 15 #[.agg cs, .int .i64 a] w fun e w' => e = .returned (.int .i64 r) ∧ Below w.heap.size w w' := by
 obtain ⟨_, _, _, _, rfl, ⟨A1, c1, rfl, l1, h1⟩, ⟨A3, c3, rfl, l3, h3⟩, ⟨A4, c4, rfl, l4, h4⟩, ⟨A5, c5, rfl, l5, h5⟩⟩ := H
 obtain ⟨p, q, s, hp, hp0, hq, hq0, hs, hs0, hr, hr0⟩ := h
 have H1 := am h1
 have H3 := am h3
 have H4 := am h4
 have H5 := am h5
 have E1 := am hp
 have E3 := am hq
 have E4 := am hs
 have E5 := am hr
 have Q0 := am hq0
 have HB := am (Below.refl w.heap.size w)
 have dp := decide_eq_false (show ¬ p < 0 by omega)
 have dq := decide_eq_false (show ¬ q < 0 by omega)
 have ds := decide_eq_false (show ¬ s < 0 by omega)
 have dr := decide_eq_false (show ¬ r < 0 by omega)
 have hu42 := Tryz.underlying42
 have hu39 := Tryz.underlying39
 clear h1 h3 h4 h5 hp hq hs hr hp0 hq0 hs0 hr0
 go_enter Tryz.func15, Tryz.ntmps15
 go_upto_region 1 with ((with_reducible refine gate_dst (N := 2) rfl ?_); refine box_event rfl (N := 2) rfl (cs := #[.int .i64 x0, .slice A1 x1.length c1, .int .i64 x2, .slice A3 x3.length c3, .slice A4 x4.length c4, .slice A5 x5.length c5]) (t := 42) BX ?_; intro q2 hq2 wq hA hb; have W2 := am hA; replace HB := kpH HB hb; clear hq2 hA hb)
 have hc := (blk_cell W2.out 1).trans (show _ = some (.slice A1 x1.length c1) from rfl)
 go_upto_region 4 with (go_at_call 46; refine (hdRu.run A1 c1 x1 a p _ (Kd.C_below H1.out HB.out) E1.out).mono ?_; rintro e w2 ⟨rfl, hw⟩; subst hw)
 clear hc
 go_upto_region 7 with (first | ((with_reducible refine gate_dst (N := 12) rfl ?_); refine ldseg (t := 39) rfl (.tmp 11) rfl (by rfl) [.int .i64 x2, .slice A3 x3.length c3] W2.out (by rfl) hu39 rfl (by kernel_rfl) ?_) | (go_at_call 47; refine (hdCa.run x2 A3 c3 x3 p q _ (Kd.C_below H3.out HB.out) E3.out Q0.out).mono ?_; rintro e wq ⟨rfl, hb⟩; replace W2 := kpW W2 hb; replace HB := kpH HB hb; clear hb))
 have hc := (blk_cell W2.out 4).trans (show _ = some (.slice A4 x4.length c4) from rfl)
 go_upto_region 10 with (go_at_call 48; refine (hdSaS.run k A4 c4 x4 q s _ (Kd.C_below H4.out HB.out) E4.out).mono ?_; rintro e wq ⟨rfl, hb⟩; replace W2 := kpW W2 hb; replace HB := kpH HB hb; clear hb)
 clear hc
 have hc := (blk_cell W2.out 5).trans (show _ = some (.slice A5 x5.length c5) from rfl)
 go_wp2_with (go_at_call 48; refine (hdSaS.run k A5 c5 x5 s r _ (Kd.C_below H5.out HB.out) E5.out).mono ?_; rintro e wq ⟨rfl, hb⟩; replace W2 := kpW W2 hb; replace HB := kpH HB hb; clear hb)
 go_ret
 exact ⟨rfl, HB.out⟩
theorem szG (k : Nat) (cs : Array Value) (x0 : Int) (x1 : List S96) (x2 : Int) (x3 : List S124) (x4 : List S33) (x5 : List S33) (a r : Int) (w : World) (H : LG w cs x0 x1 x2 x3 x4 x5) (h : laws_szGate.f k x0 x1 x2 x3 x4 x5 a = some r) : Calls Tryz.prog 5 #[.agg cs, .int .i64 a] w fun e w' => e = .returned (.int .i64 r) ∧ Below w.heap.size w w' := by
 obtain ⟨_, _, _, _, rfl, ⟨A1, c1, rfl, l1, h1⟩, ⟨A3, c3, rfl, l3, h3⟩, ⟨A4, c4, rfl, l4, h4⟩, ⟨A5, c5, rfl, l5, h5⟩⟩ := H
 exact laws_szGate.calls k x0 A1 c1 x1 x2 A3 c3 x3 A4 c4 x4 A5 c5 x5 a r w h1 l1 h3 l3 h4 l4 h5 l5 h
/-- Each element's window is found like itself. -/
def eqW (k : Nat) (l : List S48) : Prop := ∀ x ∈ l, laws_eqWindow.f k x.f9.f0 x.f9.f1 x.f9.f0 x.f9.f1 = some true
theorem eqSaE.run (k : Nat) (x : S48) (A B : Option Addr) (c d : Nat) (w : World) (h1 : Kd.C (Kd.int .i64) w A x.f9.f1.length x.f9.f1) (l1 : x.f9.f1.length ≤ c) (h2 : Kd.C (Kd.int .i64) w B x.f9.f1.length x.f9.f1) (l2 : x.f9.f1.length ≤ d) (h : laws_eqWindow.f k x.f9.f0 x.f9.f1 x.f9.f0 x.f9.f1 = some true) :
  Calls Tryz.prog 12 #[.agg #[.int .i64 x.f0, .int .i64 x.f1, .string x.f2, .string x.f3, .int .i64 x.f4, .int .i64 x.f5, .int .i64 x.f6, .int .i64 x.f7, .int .i64 x.f8, .int .i64 x.f9.f0, .slice A x.f9.f1.length c], .agg #[.int .i64 x.f0, .int .i64 x.f1, .string x.f2, .string x.f3, .int .i64 x.f4, .int .i64 x.f5, .int .i64 x.f6, .int .i64 x.f7, .int .i64 x.f8, .int .i64 x.f9.f0, .slice B x.f9.f1.length d]] w fun e w' => e = .returned (.bool true) ∧ Below w.heap.size w w' := by
 have HB := am (Below.refl w.heap.size w)
 have H1 := am h1
 have H2 := am h2
 have HW := am h
 clear h1 h2 h
 go_enter Tryz.func12, Tryz.ntmps12
 go_upto_region 1 with (first | ((with_reducible refine gate_dst (N := 2) rfl ?_); refine box_event rfl (N := 2) rfl (cs := #[.int .i64 x.f0, .int .i64 x.f1, .string x.f2, .string x.f3, .int .i64 x.f4, .int .i64 x.f5, .int .i64 x.f6, .int .i64 x.f7, .int .i64 x.f8, .int .i64 x.f9.f0, .slice A x.f9.f1.length c]) (t := 48) BX ?_; intro q2 hg wq hA hb; have W2 := am hA; replace HB := kpH HB hb; clear hg hA hb) | ((with_reducible refine gate_dst (N := 3) rfl ?_); refine box_event rfl (N := 3) rfl (cs := #[.int .i64 x.f0, .int .i64 x.f1, .string x.f2, .string x.f3, .int .i64 x.f4, .int .i64 x.f5, .int .i64 x.f6, .int .i64 x.f7, .int .i64 x.f8, .int .i64 x.f9.f0, .slice B x.f9.f1.length d]) (t := 48) BX ?_; intro q3 hg wq hA hb; replace W2 := kpW W2 hb; have W3 := am hA; replace HB := kpH HB hb; clear hg hA hb))
 have ⟨_, _, _, _, _, _, _, _, _, _, _, _⟩ := y11 _ W2.out
 have ⟨_, _, _, _, _, _, _, _, _, _, _, _⟩ := y11 _ W3.out
 go_wp2_with (go_at_call 41; refine (laws_eqWindow.calls k x.f9.f0 A c x.f9.f1 x.f9.f0 B d x.f9.f1 true _ (Kd.C_below H1.out HB.out) l1 (Kd.C_below H2.out HB.out) l2 HW.out).mono ?_; rintro e wq ⟨rfl, hb⟩; replace HB := kpH HB hb; clear hb)
 go_ret
 exact ⟨rfl, HB.out⟩
@[reducible] def e48 (w : World) (a : Addr) (x : S48) (v : Value) (p : Prop) : Prop := w.cell? a = some (.int .i64 x.f0) ∧ w.cell? ⟨a.block, a.off + 1, none⟩ = some (.int .i64 x.f1) ∧ w.cell? ⟨a.block, a.off + 2, none⟩ = some (.string x.f2) ∧ w.cell? ⟨a.block, a.off + 3, none⟩ = some (.string x.f3) ∧ w.cell? ⟨a.block, a.off + 4, none⟩ = some (.int .i64 x.f4) ∧ w.cell? ⟨a.block, a.off + 5, none⟩ = some (.int .i64 x.f5) ∧ w.cell? ⟨a.block, a.off + 6, none⟩ = some (.int .i64 x.f6) ∧ w.cell? ⟨a.block, a.off + 7, none⟩ = some (.int .i64 x.f7) ∧ w.cell? ⟨a.block, a.off + 8, none⟩ = some (.int .i64 x.f8) ∧ w.cell? ⟨a.block, a.off + 9, none⟩ = some (.int .i64 x.f9.f0) ∧ w.cell? ⟨a.block, a.off + 10, none⟩ = some v ∧ p
theorem eqSaSE.run (k : Nat) (A B : Option Addr) (c d : Nat) (l0 : List S48) (w : World) (h1 : Kd.C k48 w A l0.length l0) (h2 : Kd.C k48 w B l0.length l0) (h : eqW k l0) :
  Calls Tryz.prog 40 #[.slice A l0.length c, .slice B l0.length d] w fun e w' => e = .returned (.bool true) ∧ Below w.heap.size w w' := by
 have HM := am h1.2.1
 have H1 := am h1
 have H2 := am h2
 have HW := am h
 have HB := am (Below.refl w.heap.size w)
 have hnn : ((l0.length : Int) != (l0.length : Int)) = false := by simp
 clear h1 h2 h
 go_enter Tryz.func40, Tryz.ntmps40
 go_wp2
 go_loopg [5] l0.length (fun gg s5 wr => ∃ jj : Nat, jj ≤ l0.length ∧ Aside0 (l0.length - jj ≤ gg) ∧ s5 = .int .i64 (jj : Int) ∧ Aside0 (Below w.heap.size w wr))
 case atStart => exact ⟨0, Nat.zero_le _, ⟨by omega⟩, rfl, HB⟩
 case round =>
  clear HB
  obtain ⟨jj, hjj, hg, rfl, HB⟩ := hrel
  have hml := HM.out
  by_cases hlt : jj < l0.length
  ·have hltz : (jj : Int) < (l0.length : Int) := by omega
   have p1 : 0 ≤ (jj : Int) := by omega
   obtain ⟨a1, B1, b1, e1, f0, f1, f2, f3, f4, f5, f6, f7, f8, f9, f10, m1, C1⟩ := at_T48 (Kd.C_below H1.out HB.out) (jj : Int) p1 hltz
   obtain ⟨a2, B2, b2, e2, g0, g1, g2, g3, g4, g5, g6, g7, g8, g9, g10, m2, C2⟩ := at_T48 (Kd.C_below H2.out HB.out) (jj : Int) p1 hltz
   subst e1 e2
   have hE := HW.out l0[jj] (List.getElem_mem hlt)
   have hxx : rd_T48 l0 (jj : Int) = l0[jj] := by
    unfold rd_T48
    rw [Int.toNat_natCast, List.getD_eq_getElem?_getD, List.getElem?_eq_getElem hlt]
    rfl
   rw [← hxx] at hE
   clear hxx
   generalize rd_T48 l0 (jj : Int) = x at f0 f1 f2 f3 f4 f5 f6 f7 f8 f9 f10 g0 g1 g2 g3 g4 g5 g6 g7 g8 g9 g10 m1 C1 m2 C2 hE
   simp only [Int.toNat_natCast] at f0 f1 f2 f3 f4 f5 f6 f7 f8 f9 f10 g0 g1 g2 g3 g4 g5 g6 g7 g8 g9 g10
   have M1 := am m1
   have M2 := am m2
   have D1 := am C1
   have D2 := am C2
   have EE := am hE
   clear m1 m2 C1 C2 hE
   generalize hwq : wr = wq at *
   clear hwq
   go_upto_region 6 with fail
   have hd := am (below_drew (Below.refl wq.heap.size wq))
   refine start_ (n := 10) (S := fun w' => e48 w' (a1.add (jj * 11)) x (.slice B1 x.f9.f1.length b1) (e48 w' (a2.add (jj * 11)) x (.slice B2 x.f9.f1.length b2) True)) (ds := []) (tf 0 10) (by kernel_rfl) rfl rfl ⟨f0, f1, f2, f3, f4, f5, f6, f7, f8, f9, f10, g0, g1, g2, g3, g4, g5, g6, g7, g8, g9, g10, trivial⟩ (fun hHeld => ?_)
   refine tk 0 (some 17) (tf 1 9) (by kernel_rfl) hHeld ?_
   refine tk 1 (some 18) (tf 2 8) (by kernel_rfl) hHeld ?_
   refine tk 2 (some 19) (tf 3 7) (by kernel_rfl) hHeld ?_
   refine tk 3 (some 20) (tf 4 6) (by kernel_rfl) hHeld ?_
   refine tk 4 (some 21) (tf 5 5) (by kernel_rfl) hHeld ?_
   refine tk 5 (some 22) (tf 6 4) (by kernel_rfl) hHeld ?_
   refine tk 6 (some 23) (tf 7 3) (by kernel_rfl) hHeld ?_
   refine tk 7 (some 24) (tf 8 2) (by kernel_rfl) hHeld ?_
   refine one_ (i := 8) (N := some 25) (tf 9 1) rfl rfl (by kernel_rfl) (by decide) (fun K hK => ?_)
   refine goes_ Tryz.func12 (by kernel_rfl) rfl #[.agg #[.int .i64 x.f0, .int .i64 x.f1, .string x.f2, .string x.f3, .int .i64 x.f4, .int .i64 x.f5, .int .i64 x.f6, .int .i64 x.f7, .int .i64 x.f8, .int .i64 x.f9.f0, .slice B1 x.f9.f1.length b1], .agg #[.int .i64 x.f0, .int .i64 x.f1, .string x.f2, .string x.f3, .int .i64 x.f4, .int .i64 x.f5, .int .i64 x.f6, .int .i64 x.f7, .int .i64 x.f8, .int .i64 x.f9.f0, .slice B2 x.f9.f1.length b2]] (by rfl) rfl rfl MT ?_
   refine (eqSaE.run k x B1 B2 b1 b2 _ (Kd.C_below D1.out hd.out) M1.out (Kd.C_below D2.out hd.out) M2.out EE.out).mono ?_
   rintro e w9 ⟨rfl, hb0⟩
   have hb := hd.out.trans (hb0.mono hd.out.size)
   refine ⟨_, rfl, ?_⟩
   refine hK.out _ _ ⟨CX hb f0, CX hb f1, CX hb f2, CX hb f3, CX hb f4, CX hb f5, CX hb f6, CX hb f7, CX hb f8, CX hb f9, CX hb f10, CX hb g0, CX hb g1, CX hb g2, CX hb g3, CX hb g4, CX hb g5, CX hb g6, CX hb g7, CX hb g8, CX hb g9, CX hb g10, trivial⟩ (fun hHeld => ?_)
   replace HB := kpH HB hb
   clear hK K hb hb0 hd f0 f1 f2 f3 f4 f5 f6 f7 f8 f9 f10 g0 g1 g2 g3 g4 g5 g6 g7 g8 g9 g10
   refine nm (some 25) ?_
   refine tk 9 (some 26) (tf 10 0) (by kernel_rfl) hHeld ?_
   clear hHeld
   refine done_ (by kernel_rfl) ?_
   go_wp2
   go_roundg (l0.length - (jj + 1))
   case measure => have := hg.out; omega
   case rel => exact ⟨jj + 1, by omega, ⟨by omega⟩, by go_num, HB⟩
  ·have hltz : ¬ (jj : Int) < (l0.length : Int) := by omega
   go_wp2
   go_ret
   exact ⟨rfl, HB.out⟩
theorem eqGt (k : Nat) (cs ds : Array Value) (x0 : Int) (x1 : List S92) (x2 : Int) (x3 : List S105) (x4 : List S48) (x5 : List S48) (w : World) (H : IG w cs x0 x1 x2 x3 x4 x5) (G : IG w ds x0 x1 x2 x3 x4 x5) (h4' : eqW k x4) (h5' : eqW k x5) : Calls Tryz.prog 11 #[.agg cs, .agg ds] w fun e w' => e = .returned (.bool true) ∧ Below w.heap.size w w' := by
 obtain ⟨_, _, _, _, rfl, ⟨A1, c1, rfl, l1, h1⟩, ⟨A3, c3, rfl, l3, h3⟩, ⟨A4, c4, rfl, l4, h4⟩, ⟨A5, c5, rfl, l5, h5⟩⟩ := H
 obtain ⟨_, _, _, _, rfl, ⟨B1, d1, rfl, m1, k1⟩, ⟨B3, d3, rfl, m3, k3⟩, ⟨B4, d4, rfl, m4, k4⟩, ⟨B5, d5, rfl, m5, k5⟩⟩ := G
 have H1 := am h1
 have H3 := am h3
 have H4 := am h4
 have H5 := am h5
 have F1 := am k1
 have F3 := am k3
 have F4 := am k4
 have F5 := am k5
 have E4 := am h4'
 have E5 := am h5'
 have HB := am (Below.refl w.heap.size w)
 have hu42 := Tryz.underlying42
 have hu39 := Tryz.underlying39
 clear h1 h3 h4 h5 k1 k3 k4 k5 h4' h5'
 go_enter Tryz.func11, Tryz.ntmps11
 go_upto_region 1 with (first | ((with_reducible refine gate_dst (N := 2) rfl ?_); refine box_event rfl (N := 2) rfl (cs := #[.int .i64 x0, .slice A1 x1.length c1, .int .i64 x2, .slice A3 x3.length c3, .slice A4 x4.length c4, .slice A5 x5.length c5]) (t := 42) BX ?_; intro q2 hg wq hA hb; have W2 := am hA; replace HB := kpH HB hb; clear hg hA hb) | ((with_reducible refine gate_dst (N := 3) rfl ?_); refine box_event rfl (N := 3) rfl (cs := #[.int .i64 x0, .slice B1 x1.length d1, .int .i64 x2, .slice B3 x3.length d3, .slice B4 x4.length d4, .slice B5 x5.length d5]) (t := 42) BX ?_; intro q3 hg wq hA hb; replace W2 := kpW W2 hb; have W3 := am hA; replace HB := kpH HB hb; clear hg hA hb))
 have hc := (blk_cell W2.out 0).trans (show _ = some (.int .i64 x0) from rfl)
 have hd := (blk_cell W3.out 0).trans (show _ = some (.int .i64 x0) from rfl)
 go_upto_region 3 with fail
 clear hc hd
 have hc := (blk_cell W2.out 1).trans (show _ = some (.slice A1 x1.length c1) from rfl)
 have hd := (blk_cell W3.out 1).trans (show _ = some (.slice B1 x1.length d1) from rfl)
 go_upto_region 5 with (go_at_call 38; refine (eqRuS.run A1 B1 c1 d1 x1 _ (Kd.C_below H1.out HB.out) (Kd.C_below F1.out HB.out)).mono ?_; rintro e wq ⟨rfl, hb⟩; replace W2 := kpW W2 hb; replace W3 := kpW W3 hb; replace HB := kpH HB hb; clear hb)
 clear hc hd
 go_upto_region 7 with (first | ((with_reducible refine gate_dst (N := 17) rfl ?_); refine ldseg (t := 39) rfl (.tmp 16) rfl (by rfl) [.int .i64 x2, .slice A3 x3.length c3] W2.out (by rfl) hu39 rfl (by kernel_rfl) ?_) | ((with_reducible refine gate_dst (N := 19) rfl ?_); refine ldseg (t := 39) rfl (.tmp 18) rfl (by rfl) [.int .i64 x2, .slice B3 x3.length d3] W3.out (by rfl) hu39 rfl (by kernel_rfl) ?_) | (go_at_call 39; refine (eqCa.run x2 A3 B3 c3 d3 x3 _ (Kd.C_below H3.out HB.out) (Kd.C_below F3.out HB.out)).mono ?_; rintro e wq ⟨rfl, hb⟩; replace W2 := kpW W2 hb; replace W3 := kpW W3 hb; replace HB := kpH HB hb; clear hb))
 have hc := (blk_cell W2.out 4).trans (show _ = some (.slice A4 x4.length c4) from rfl)
 have hd := (blk_cell W3.out 4).trans (show _ = some (.slice B4 x4.length d4) from rfl)
 go_upto_region 9 with (go_at_call 40; refine (eqSaSE.run k A4 B4 c4 d4 x4 _ (Kd.C_below H4.out HB.out) (Kd.C_below F4.out HB.out) E4.out).mono ?_; rintro e wq ⟨rfl, hb⟩; replace W2 := kpW W2 hb; replace W3 := kpW W3 hb; replace HB := kpH HB hb; clear hb)
 clear hc hd
 have hc := (blk_cell W2.out 5).trans (show _ = some (.slice A5 x5.length c5) from rfl)
 have hd := (blk_cell W3.out 5).trans (show _ = some (.slice B5 x5.length d5) from rfl)
 go_wp2_with (go_at_call 40; refine (eqSaSE.run k A5 B5 c5 d5 x5 _ (Kd.C_below H5.out HB.out) (Kd.C_below F5.out HB.out) E5.out).mono ?_; rintro e wq ⟨rfl, hb⟩; replace W2 := kpW W2 hb; replace W3 := kpW W3 hb; replace HB := kpH HB hb; clear hb)
 go_ret
 exact ⟨rfl, HB.out⟩
theorem yld {P : Program} {ops : Array Oper} {S : World → Prop} {o : Oper} {a : Act} {t : TypeId} {d : TypeDesc} {g : Nat} (hw : Region.wanted o (yielded ops a.tmps) = true) (x : Operand) (ho : o.op = .load t x) (hx : a.eval x = .pointer (some ⟨g, 0, none⟩)) (vs : Array Value)
  (hS : ∀ w, S w → w.heap[g]? = some (.cells vs t (0, 0))) (hu : P.underlying t = some d) (hd : d.isRow = true) (hi : (P.info? t).map (·.size) = some vs.toList.length) : YieldsIf P ops S o (.agg vs) a := by
 have := yieldsIf_load_mid (P := P) (ops := ops) (S := S) hw t x ho g 0 hx vs.toList d (fun w h j v hv => by rw [Nat.zero_add, blk_cell (hS w h) j]; simpa using hv) hu hd hi
 simpa using this
/-- A variable that is read whole, behind a guard that holds. -/
theorem ldboxG {P : Program} {ops : Array Oper} {rest : List Oper} {o : Oper} {a : Act} {Q : Exit → Act → World → Prop} {W : World} {t : TypeId} {d : TypeDesc} {g : Nat} (hw : Region.wanted o (yielded ops a.tmps) = true) (x : Operand) (ho : o.op = .load t x) (hx : a.eval x = .pointer (some ⟨g, 0, none⟩)) (vs : Array Value)
  (hb : W.heap[g]? = some (.cells vs t (0, 0))) (hu : P.underlying t = some d) (hd : d.isRow = true) (hi : (P.info? t).map (·.size) = some vs.toList.length)
  (h : wpList P ops Q rest (a.put o.dst (.agg vs)) W) : wpList P ops Q (o :: rest) a W := by
 rw [wpList, if_pos hw]
 exact .inl <| wp_load_mid t x ho g 0 hx vs.toList d (fun j v hv => by rw [Nat.zero_add, blk_cell hb j]; simpa using hv) hu hd hi (by simpa using h)
theorem ldW {P : Program} {ops : Array Oper} {rest : List Oper} {op : Oper} {a : Act} {w : World} {Q : Exit → Act → World → Prop} (hw : Region.wanted op (yielded ops a.tmps) = true) (ty : TypeId) (x : Operand) (ho : op.op = .load ty x) (b o : Nat) (hx : a.eval x = .pointer (some ⟨b, o, none⟩)) (cs : List Value) (d : TypeDesc)
  (hc : w.rangeAt b o cs) (hu : P.underlying ty = some d) (hd : d.isRow = true) (hi : (P.info? ty).map (·.size) = some cs.length) (h : wpList P ops Q rest (a.put op.dst (.agg cs.toArray)) w) : wpList P ops Q (op :: rest) a w :=
 wpList_step fun K hK => by rw [if_pos hw]; exact wp_load_mid ty x ho b o hx cs d hc hu hd hi (hK _ _ h)
/-- A row parted at m0: what lies before it comes out below nothing. -/
def PT {α : Type} (l : List α) (cf : α → Int) (m0 : Nat) : Prop := m0 ≤ l.length ∧ ∀ (j : Nat) (q : α), l[j]? = some q → (cf q < 0 ↔ j < m0)
def atZ (cf : List Value → Int) : Option (List Value) → Bool
 | some q => decide (cf q = 0)
 | none => false
set_option maxHeartbeats 4000000 in
theorem bsS.gen (cf : List Value → Int) (g0 : Nat) (lb : Array Value) (n : Int) (eg : ∀ args w, (callFunc g0 args).run Tryz.prog w = .ok (.enter g0 args) w) (g c b : Nat) (ok : Nat → Prop) (l : List (List Value)) (w : World) (hl : l.length ≤ 1048576)
  (hr : (Kd.raw 11).R 48 w b ok (.slice (some ⟨g, 0, none⟩) l.length c) l)
  (hp : ∀ (W : World) (q : List Value), q ∈ l → Below w.heap.size w W → Calls Tryz.prog g0 (#[.agg q.toArray, .int .i64 n] ++ lb) W fun e w' => e = .returned (.int .i64 (cf q)) ∧ Below W.heap.size W w') :
  Calls Tryz.prog 67 #[.slice (some ⟨g, 0, none⟩) l.length c, .int .i64 n, .func (.func g0) #[] lb] w fun e w' => ∃ m : Nat, m ≤ l.length ∧ (∀ m0, PT l cf m0 → m = m0) ∧ e = .returned (.tuple #[.int .i64 (m : Int), .bool (atZ cf l[m]?)]) ∧ Below w.heap.size w w' := by
 have hu := Tryz.underlying48
 have HM := am hl
 have HR := am hr
 have HP := am hp
 have HB := am (Below.refl w.heap.size w)
 clear hl hr hp
 go_enter Tryz.func67, Tryz.ntmps67
 go_wp2
 go_loopg [9, 10] l.length (fun gg s9 s10 wr => ∃ i j : Nat, i ≤ j ∧ j ≤ l.length ∧ Aside0 (∀ m0, PT l cf m0 → i ≤ m0 ∧ m0 ≤ j) ∧ Aside0 (j - i ≤ gg) ∧ s9 = .int .i64 i ∧ s10 = .int .i64 j ∧ Aside0 (Below w.heap.size w wr))
 case atStart => exact ⟨0, l.length, Nat.zero_le _, Nat.le_refl _, ⟨fun m0 h => ⟨Nat.zero_le _, h.1⟩⟩, ⟨by omega⟩, rfl, rfl, HB⟩
 case round =>
  clear HB
  obtain ⟨i, j, hij, hjl, PI, hg, rfl, rfl, HB⟩ := hrel
  have hml := HM.out
  by_cases hlt : i < j
  ·have hltz : (i : Int) < (j : Int) := by omega
   have hb1 : i ≤ (i + j) / 2 := by omega
   have hb2 : (i + j) / 2 < j := by omega
   have hb3 : (i + j) / 2 < l.length := by omega
   have hs : ∀ m0, PT l cf m0 → (cf l[(i + j) / 2] < 0 ↔ (i + j) / 2 < m0) := fun m0 h => h.2 _ _ (List.getElem?_eq_getElem hb3)
   have hat := raw_at (Kd.R_below HR.out HB.out) ((i + j) / 2) hb3 _ (List.getElem?_eq_getElem hb3)
   have hcall := HP.out wr l[(i + j) / 2] (List.getElem_mem hb3) HB.out
   generalize l[(i + j) / 2] = y at hat hcall hs
   have HQ := am hat
   have HSS := am hs
   clear hat hs
   have p1 : (0 : Int) ≤ ((i : Int) + (j : Int)) / 2 := by omega
   have p2 : ((i : Int) + (j : Int)) / 2 < (l.length : Int) := by omega
   by_cases hn : cf y < 0
   ·go_wp2_with (first | ((with_reducible refine gate_dst (N := 28) rfl ?_); refine wpList_load_mid rfl 48 (.tmp 27) rfl g ((i + j) / 2 * 11) (by rfl) y _ HQ.out.2.2 hu rfl (by rw [HQ.out.1]; kernel_rfl) ?_) | (go_at_fn g0; refine hcall.mono ?_; rintro e w' ⟨rfl, hb1⟩; replace HB := kpH HB hb1; clear hb1))
    go_roundg (j - ((i + j) / 2 + 1))
    case measure => have := hg.out; omega
    case rel => exact ⟨(i + j) / 2 + 1, j, by omega, hjl, ⟨fun m0 h => ⟨(HSS.out m0 h).1 hn, (PI.out m0 h).2⟩⟩, ⟨by omega⟩, by go_num, rfl, HB⟩
   ·go_wp2_with (first | ((with_reducible refine gate_dst (N := 28) rfl ?_); refine wpList_load_mid rfl 48 (.tmp 27) rfl g ((i + j) / 2 * 11) (by rfl) y _ HQ.out.2.2 hu rfl (by rw [HQ.out.1]; kernel_rfl) ?_) | (go_at_fn g0; refine hcall.mono ?_; rintro e w' ⟨rfl, hb1⟩; replace HB := kpH HB hb1; clear hb1))
    go_roundg ((i + j) / 2 - i)
    case measure => have := hg.out; omega
    case rel => exact ⟨i, (i + j) / 2, by omega, by omega, ⟨fun m0 h => ⟨(PI.out m0 h).1, Nat.le_of_not_lt (fun x => by have := (HSS.out m0 h).2 x; omega)⟩⟩, ⟨by omega⟩, rfl, by go_num, HB⟩
  ·have hltz : ¬ (i : Int) < (j : Int) := by omega
   have EE := am (show i ≤ l.length ∧ ∀ m0, PT l cf m0 → i = m0 from ⟨by omega, fun m0 h => by have := PI.out m0 h; omega⟩)
   by_cases hlt2 : i < l.length
   ·have hz2 : (i : Int) < (l.length : Int) := by omega
    have hat := raw_at (Kd.R_below HR.out HB.out) i hlt2 _ (List.getElem?_eq_getElem hlt2)
    have hcall := HP.out wr l[i] (List.getElem_mem hlt2) HB.out
    have hget := List.getElem?_eq_getElem hlt2
    generalize l[i] = y at hat hcall hget
    have HQ := am hat
    have HG := am hget
    clear hat hget
    have p1 : (0 : Int) ≤ (i : Int) := by omega
    go_wp2_with (first | ((with_reducible refine gate_dst (N := 44) rfl ?_); refine ldW (by first | rfl | kernel_rfl) 48 (.tmp 43) rfl g (i * 11) (by rfl) y _ HQ.out.2.2 hu rfl (by rw [HQ.out.1]; kernel_rfl) ?_) | (go_at_fn g0; refine hcall.mono ?_; rintro e w' ⟨rfl, hb1⟩; replace HB := kpH HB hb1; clear hb1))
    go_ret2
    exact ⟨i, EE.out.1, EE.out.2, by rw [HG.out]; rfl, HB.out⟩
   ·have hz2 : ¬ (i : Int) < (l.length : Int) := by omega
    have hget : l[i]? = none := List.getElem?_eq_none (by omega)
    have HG := am hget
    clear hget
    go_wp2
    go_ret2
    exact ⟨i, EE.out.1, EE.out.2, by rw [HG.out]; rfl, HB.out⟩
set_option maxHeartbeats 4000000 in
theorem wh.one (fo : Nat) (eo : ∀ args w, (callFunc fo args).run Tryz.prog w = .ok (.enter fo args) w) (n pr : Int) (B : Nat) (W : World) (x : S48) (q : List Value) (hB : W.heap[B]? = some (.cells #[.func (.func fo) #[] #[]] 71 (0, 0))) (hK : k48.K W x q)
  (ho : ∀ W', Below W.heap.size W W' → Calls Tryz.prog fo #[.agg q.toArray] W' fun e w' => e = .returned (.int .i64 pr) ∧ Below W'.heap.size W' w') :
  Calls Tryz.prog 68 #[.agg q.toArray, .int .i64 n, .pointer (some ⟨B, 0, none⟩)] W fun e w' => e = .returned (.int .i64 (wrap64 (pr - n))) ∧ Below W.heap.size W w' := by
 obtain ⟨A10, c10, rfl, hl, hC⟩ := k48_open hK
 have hc0 : W.cell? ⟨B, 0, none⟩ = some (.func (.func fo) #[] #[]) := (blk_cell hB 0).trans rfl
 have HB := am (Below.refl W.heap.size W)
 have HO := am ho
 have hu48 := Tryz.underlying48
 clear hK hC ho
 go_enter Tryz.func68, Tryz.ntmps68
 go_upto_region 1 with (first | ((with_reducible refine gate_dst (N := 3) rfl ?_); refine box_event rfl (N := 3) rfl (cs := #[.int .i64 x.f0, .int .i64 x.f1, .string x.f2, .string x.f3, .int .i64 x.f4, .int .i64 x.f5, .int .i64 x.f6, .int .i64 x.f7, .int .i64 x.f8, .int .i64 x.f9.f0, .slice A10 x.f9.f1.length c10]) (t := 48) BX ?_; intro g2 hg2 wq hA hb; replace hc0 := (show wq.cell? ⟨B, 0, none⟩ = some (.func (.func fo) #[] #[]) from (blk_cell (blk_below hB hb) 0).trans rfl); have W2 := am hA; replace HB := kpH HB hb; clear hg2 hA hb))
 go_wp2_with (first | ((with_reducible refine gate_dst (N := 7) rfl ?_); refine ldbox (t := 48) rfl (.tmp 3) rfl (by rfl) #[.int .i64 x.f0, .int .i64 x.f1, .string x.f2, .string x.f3, .int .i64 x.f4, .int .i64 x.f5, .int .i64 x.f6, .int .i64 x.f7, .int .i64 x.f8, .int .i64 x.f9.f0, .slice A10 x.f9.f1.length c10] W2.out hu48 rfl (by kernel_rfl) ?_) | (go_at_fn fo; refine (HO.out _ HB.out).mono ?_; rintro e wq ⟨rfl, hb⟩; replace HB := kpH HB hb; clear hb))
 go_ret
 exact ⟨rfl, HB.out⟩
def cfI (ix : Nat) (n : Int) (q : List Value) : Int := match q[ix]? with
 | some (.int .i64 v) => wrap64 (v - n)
 | _ => 0
set_option maxHeartbeats 4000000 in
theorem wh.nil (fo : Nat) (c : Nat) (n : Int) (w : World) : Calls Tryz.prog 33 #[.slice none 0 c, .int .i64 n, .func (.func fo) #[] #[]] w fun e w' => e = .returned (.tuple #[.int .i64 0, .bool false]) ∧ Below w.heap.size w w' := by
 have hi : ∀ (lb : Array Value) (W : World), Calls Tryz.prog 67 #[.slice none 0 c, .int .i64 n, .func (.func 68) #[] lb] W fun e w' => e = .returned (.tuple #[.int .i64 0, .bool false]) ∧ w' = W := fun lb W => by
  go_enter Tryz.func67, Tryz.ntmps67
  go_wp2
  go_loopg [9, 10] 0 (fun gg s9 s10 wr => s9 = .int .i64 0 ∧ s10 = .int .i64 0 ∧ wr = W)
  case atStart => exact ⟨rfl, rfl, rfl⟩
  case round =>
   obtain ⟨rfl, rfl, rfl⟩ := hrel
   go_wp2
   go_ret2
   exact ⟨rfl, rfl⟩
 have HB := am (Below.refl w.heap.size w)
 go_enter Tryz.func33, Tryz.ntmps33
 go_wp2_with (first | ((with_reducible refine gate_dst (N := 5) rfl ?_); refine box_event rfl (N := 5) rfl (cs := #[.func (.func fo) #[] #[]]) (t := 71) BX ?_; intro g2 hg2 wq hA hb; replace HB := kpH HB hb; clear hg2 hA hb) | (go_at_call 67; refine (hi _ _).mono ?_; rintro e wq ⟨rfl, rfl⟩))
 go_ret2
 exact ⟨rfl, HB.out⟩
set_option maxHeartbeats 4000000 in
theorem wh.raw (fo ix : Nat) (n : Int) (g c b : Nat) (ok : Nat → Prop) (l : List (List Value)) (w : World) (hl : l.length ≤ 1048576) (hr : (Kd.raw 11).R 48 w b ok (.slice (some ⟨g, 0, none⟩) l.length c) l)
  (hp : ∀ (B : Nat) (W : World) (q : List Value), q ∈ l → Below w.heap.size w W → W.heap[B]? = some (.cells #[.func (.func fo) #[] #[]] 71 (0, 0)) → Calls Tryz.prog 68 #[.agg q.toArray, .int .i64 n, .pointer (some ⟨B, 0, none⟩)] W fun e w' => e = .returned (.int .i64 (cfI ix n q)) ∧ Below W.heap.size W w') :
  Calls Tryz.prog 33 #[.slice (some ⟨g, 0, none⟩) l.length c, .int .i64 n, .func (.func fo) #[] #[]] w fun e w' => ∃ m : Nat, m ≤ l.length ∧ (∀ m0, PT l (cfI ix n) m0 → m = m0) ∧ e = .returned (.tuple #[.int .i64 (m : Int), .bool (atZ (cfI ix n) l[m]?)]) ∧ Below w.heap.size w w' := by
 have eg := enters_of Tryz.func68 (by kernel_rfl) rfl
 have HB := am (Below.refl w.heap.size w)
 have HR := am hr
 have HP := am hp
 clear hr hp
 go_enter Tryz.func33, Tryz.ntmps33
 go_upto_region 1 with (first | ((with_reducible refine gate_dst (N := 5) rfl ?_); refine box_event rfl (N := 5) rfl (cs := #[.func (.func fo) #[] #[]]) (t := 71) BX ?_; intro g2 hg2 wq hA hb; replace HB := kpH HB hb; have W2 := am hA; clear hg2 hA hb))
 have hcall := bsS.gen (cfI ix n) 68 #[.pointer (some ⟨g2, 0, none⟩)] n eg g c b ok l wq hl (Kd.R_below HR.out HB.out) (fun W q hq hW => HP.out g2 W q hq (Below.trans HB.out (hW.mono HB.out.size)) ((hW.block g2 (blk_lt W2.out)).trans W2.out))
 go_wp2_with (go_at_call 67; refine hcall.mono ?_; rintro e wz ⟨m, hm1, hm2, rfl, hb⟩; have HM := am hm1; have HN := am hm2; replace HB := kpH HB hb; clear hb hcall hm1 hm2)
 go_ret2
 exact ⟨m, HM.out, HN.out, rfl, HB.out⟩
def atX (pr : S48 → Int) (n : Int) : Option S48 → Bool
 | some x => decide (wrap64 (pr x - n) = 0)
 | none => false
theorem wh.S (fo ix : Nat) (pr : S48 → Int) (eo : ∀ args w, (callFunc fo args).run Tryz.prog w = .ok (.enter fo args) w) (hpx : ∀ W x q, k48.K W x q → q[ix]? = some (.int .i64 (pr x))) (ho : ∀ x q W, k48.K W x q → Calls Tryz.prog fo #[.agg q.toArray] W fun e w' => e = .returned (.int .i64 (pr x)) ∧ Below W.heap.size W w')
  (n : Int) (P : Nat → Prop) (v : Value) (xs : List S48) (b : Nat) (w : World) (hS : Kd.S k48 48 w b P v xs) (hl : xs.length ≤ 1048576) :
  Calls Tryz.prog 33 #[v, .int .i64 n, .func (.func fo) #[] #[]] w fun e w' => ∃ m : Nat, m ≤ xs.length ∧ (∀ m0, PT xs (fun x => wrap64 (pr x - n)) m0 → m = m0) ∧ e = .returned (.tuple #[.int .i64 (m : Int), .bool (atX pr n xs[m]?)]) ∧ Below w.heap.size w w' := by
 obtain ⟨f, rows, hr, hle, hM⟩ := raw_of_S hS
 obtain ⟨h0, inner, ⟨hil, hcase⟩, hrep⟩ := id hr
 rcases hcase with ⟨rfl, hz⟩ | ⟨g, c, cur, rfl, hgb, hh, hnc, hcm, hcs, htake⟩
 ·have hx : xs = [] := List.eq_nil_of_length_eq_zero (by omega)
  subst hx
  refine (wh.nil fo 0 n w).mono ?_
  rintro e w' ⟨rfl, hb⟩
  exact ⟨0, Nat.le_refl _, fun m0 h => by have := h.1; simp at this; omega, rfl, hb⟩
 ·have hKW : ∀ (W : World), Below w.heap.size w W → ∀ (j : Nat) (x : S48) (q : List Value), xs[j]? = some x → rows[j]? = some q → k48.K W x q := fun W hG j x q hx hq =>
   k48.K_of_M (Kd.M_step (hM j x q hx hq) (fun k hk hlt => hG.block k hlt))
  have hcf : ∀ (j : Nat) (x : S48) (q : List Value), xs[j]? = some x → rows[j]? = some q → cfI ix n q = wrap64 (pr x - n) := fun j x q hx hq => by
   unfold cfI
   rw [hpx w x q (hKW w (Below.refl _ _) j x q hx hq)]
  have hpair : ∀ (j : Nat) (q : List Value), rows[j]? = some q → ∃ x, xs[j]? = some x := fun j q hq => by
   have : j < xs.length := by rw [← hle]; exact (List.getElem?_eq_some_iff.1 hq).1
   exact ⟨_, List.getElem?_eq_getElem this⟩
  refine (wh.raw fo ix n g c b P rows w (by omega) hr (fun B W q hq hW hB => ?_)).mono ?_
  ·obtain ⟨j, hj⟩ := List.getElem?_of_mem hq
   obtain ⟨x, hx⟩ := hpair j q hj
   rw [hcf j x q hx hj]
   exact wh.one fo eo n (pr x) B W x q hB (hKW W hW j x q hx hj) (fun W' hW' => ho x q W' (hKW W' (Below.trans hW (hW'.mono hW.size)) j x q hx hj))
  ·rintro e w' ⟨m, hm1, hm2, rfl, hb⟩
   refine ⟨m, by omega, fun m0 h => hm2 m0 ⟨by have := h.1; omega, fun j q hq => ?_⟩, ?_, hb⟩
   ·obtain ⟨x, hx⟩ := hpair j q hq
    rw [hcf j x q hx hq]
    exact h.2 j x hx
   rcases hq : rows[m]? with _ | q
   ·rw [List.getElem?_eq_none (show xs.length ≤ m by rw [← hle]; exact List.getElem?_eq_none_iff.1 hq)]
    rfl
   ·obtain ⟨x, hx⟩ := hpair m q hq
    rw [hx]
    show Ending.returned (.tuple #[.int .i64 (m : Int), .bool (decide (cfI ix n q = 0))]) = Ending.returned (.tuple #[.int .i64 (m : Int), .bool (decide (wrap64 (pr x - n) = 0))])
    rw [hcf m x q hx hq]
theorem copy_cellsM {P : Program} (w : World) (dT sT ty elem : TypeId) (i : TypeInfo) (size : Nat) (b o dLen dCap : Nat) (a : Addr) (sLen sCap n : Nat) (cs : List Value)
  (hu : P.underlying dT = some (.slice elem)) (hi : P.info? elem = some i) (hsz : i.size = size) (hn : n = Nat.min sLen dLen) (hl : cs.length = n * size)
  (hsrc : ∀ j v, cs[j]? = some v → w.cell? (a.add j) = some v) (hc : ∀ j, j < cs.length → (w.cell? ⟨b, o + j, none⟩).isSome = true) (hf : ∀ j, j < cs.length → w.frozen? ⟨b, o + j, none⟩ = false) (h1 : ∀ v ∈ cs, v.oneCell' = true) :
  (Builtin.copy_ #[dT, sT] ty #[.slice (some ⟨b, o, none⟩) dLen dCap, .slice (some a) sLen sCap]).run P w = .ok (goInt n) (w.setCells b o cs) := by
 have hld := run_loadCells_list (P := P) w a cs hsrc
 have hst := run_storeCells_cells (P := P) b o cs 0 w (by simpa using hc) (by simpa using hf) h1
 rw [hl] at hld
 simp [Builtin.copy_, run_underlying hu, Builtin.lenOf, Builtin.firstCells, sizeOf, typeInfo, hi, hsz, ← hn, hld, hst]
theorem row_get {w : World} {g : Nat} {cur : Array Value} {e : TypeId} {cs : List Value} {m : Nat} (hg : w.heap[g]? = some (.cells cur e (0, 0))) (hcs : cs = cur.toList.take m) : ∀ j v, cs[j]? = some v → w.cell? ⟨g, j, none⟩ = some v := fun j v hj => by
 have hlt := (List.getElem?_eq_some_iff.1 hj).1
 rw [hcs, List.length_take] at hlt
 rw [hcs, List.getElem?_take_of_lt (by omega), Array.getElem?_toList] at hj
 rw [blk_cell hg j]; exact hj
theorem reps_to {α : Type} {d : Kd α} {w w' : World} {base : Nat} {ok ok' : Nat → Prop} {xs : List α} {inner : List Value} (h : Reps (d.M w base ok) d.sz xs inner) (hm : ∀ k, ok k → k < w.heap.size → w'.heap[k]? = w.heap[k]? ∧ ok' k) : Reps (d.M w' base ok') d.sz xs inner :=
 h.imp_ (fun p cs hp => d.M_mono (fun k hk => (hm k hk.1 hk.2.2.1).2) (Kd.M_step (d.M_bound hp) (fun k hk hlt => (hm k hk.1 hlt).1)))
theorem R_mk {α : Type} {d : Kd α} {e base : Nat} {w' : World} {ok : Nat → Prop} {g c n : Nat} {cur : Array Value} {xs : List α} {inner : List Value} (hn : n = xs.length) (hok : ok g) (hb : base ≤ g) (hh : w'.heap[g]? = some (.cells cur e (0, 0))) (hl : n ≤ c) (hc : c ≤ 9223372036854775807) (hs : cur.size = c * d.sz)
  (hi : inner.length = n * d.sz) (ht : cur.toList.take (n * d.sz) = inner) (hr : Reps (d.M w' base (fun k => ok k ∧ some k ≠ some g)) d.sz xs inner) : d.R e w' base ok (.slice (some ⟨g, 0, none⟩) n c) xs := by
 subst hn
 exact ⟨fun k hk => by cases hk; exact hok, inner, ⟨hi, .inr ⟨g, c, cur, rfl, hb, hh, hl, hc, hs, ht⟩⟩, hr⟩
theorem reps_one {α : Type} {d : Kd α} {w : World} {base : Nat} {ok : Nat → Prop} {xs : List α} {inner : List Value} (h : Reps (d.M w base ok) d.sz xs inner) (hs : 0 < d.sz) : ∀ v ∈ inner, v.oneCell' = true := by
 intro v hv
 obtain ⟨q, hq, rfl⟩ := List.getElem_of_mem hv
 have hl := h.1
 have hqm : q / d.sz < xs.length := by rw [hl] at hq; exact Nat.div_lt_of_lt_mul (by rw [Nat.mul_comm]; exact hq)
 have hrr := h.2 (q / d.sz) _ (List.getElem?_eq_getElem hqm)
 refine d.K_one (d.K_of_M hrr) _ (List.mem_of_getElem? (i := q % d.sz) ?_)
 have e : q / d.sz * d.sz + q % d.sz = q := by rw [Nat.mul_comm]; exact Nat.div_add_mod q d.sz
 rw [List.getElem?_take_of_lt (Nat.mod_lt _ hs), List.getElem?_drop, e, List.getElem?_eq_getElem hq]
set_option maxHeartbeats 4000000 in
/-- slices.Insert of one element: there is room, not at the end: in place. -/
theorem insR.shift (g n c i vb vc : Nat) (cur curv : Array Value) (cs vs : List Value) (w : World) (hg : w.heap[g]? = some (.cells cur 48 (0, 0))) (hv : w.heap[vb]? = some (.cells curv 48 (0, 0)))
  (hi : i < n) (hroom : n + 1 ≤ c) (hc63 : c ≤ 9223372036854775807) (hcz : cur.size = c * 11) (hvz : 11 ≤ curv.size) (hvb : vb ≠ g) (hcs : cs = cur.toList.take (n * 11)) (hvs : vs = curv.toList.take 11)
  (h1c : ∀ v ∈ cs, v.oneCell' = true) (h1v : ∀ v ∈ vs, v.oneCell' = true) :
  Calls Tryz.prog 36 #[.slice (some ⟨g, 0, none⟩) n c, .int .i64 i, .slice (some ⟨vb, 0, none⟩) 1 vc] w fun e w' =>
   e = .returned (.slice (some ⟨g, 0, none⟩) (n + 1) c) ∧ w' = (w.drew.setCells g ((i + 1) * 11) (cs.drop (i * 11))).setCells g (i * 11) vs := by
 have u40 := Tryz.underlying40
 have hz2 : ¬ ((i : Int) = (n : Int)) := by omega
 obtain ⟨i0, hi0, hii⟩ : ∃ i0, Tryz.prog.info? 48 = some i0 ∧ i0.size = 11 := by
  have := info48
  cases h : Tryz.prog.info? 48 with
  | none => rw [h] at this; cases this
  | some i0 => rw [h] at this; simp at this; exact ⟨i0, rfl, this.2.1⟩
 have hov : ∀ lb cb, (callFunc 70 #[.slice (some ⟨vb, 0, none⟩) 1 vc, .slice (some ⟨g, (i + 1) * 11, none⟩) lb cb]).run Tryz.prog w = .ok (.value (.bool false)) w := fun lb cb => by
  rw [run_callFunc_extern Tryz.func70 (by kernel_rfl) (by kernel_rfl) (by kernel_rfl) (e := Extern.SlicesOverlaps.overlaps #[40, 40] #[4]) (by kernel_rfl),
   Lib.run_overlaps_apart w 40 4 48 Tryz.underlying40 11 Tryz.sizeOf48 ⟨vb, 0, none⟩ ⟨g, (i + 1) * 11, none⟩ 1 vc lb cb hvb 48 48 curv.size cur.size (by simp [World.shape?, hv]) (by simp [World.shape?, hg]) (by omega) (blk_frozen hv _) (blk_frozen hv _)]
  rfl
 have hcl : cs.length = n * 11 := by rw [hcs, List.length_take, Array.length_toList, hcz]; omega
 have hvl : vs.length = 11 := by rw [hvs, List.length_take, Array.length_toList]; omega
 have hdl : (cs.drop (i * 11)).length = (n - i) * 11 := by rw [List.length_drop, hcl, Nat.sub_mul]
 have hmx : Tryz.prog.follows .mixedOrders = true := by kernel_rfl
 have hw1 : IntKind.i64.wrap ((i : Int) + 1) = (i : Int) + 1 := by rw [IntKind.wrap_i64]; omega
 have hb1 : (0 : Int) ≤ (i : Int) + 1 := by omega
 have hin : i ≤ n := by omega
 have htn : ((i : Int) + 1).toNat = i + 1 := by omega
 have hb2 : ¬ (c = i + 1) := by omega
 have hb3 : (i : Int) ≤ (n : Int) + 1 := by omega
 have hb4 : ¬ (c = i) := by omega
 have hcget : ∀ j v, cs[j]? = some v → w.cell? ⟨g, j, none⟩ = some v := fun j v hj => by
  have hlt := (List.getElem?_eq_some_iff.1 hj).1
  rw [hcl] at hlt
  rw [hcs, List.getElem?_take_of_lt hlt, Array.getElem?_toList] at hj
  rw [blk_cell hg j]; exact hj
 have hvget : ∀ j v, vs[j]? = some v → w.cell? ⟨vb, j, none⟩ = some v := fun j v hj => by
  have hlt := (List.getElem?_eq_some_iff.1 hj).1
  rw [hvl] at hlt
  rw [hvs, List.getElem?_take_of_lt hlt, Array.getElem?_toList] at hj
  rw [blk_cell hv j]; exact hj
 have hcp1 : ∀ ty dc sc, (Builtin.copy_ #[40, 40] ty #[.slice (some ⟨g, (i + 1) * 11, none⟩) (n - i) dc, .slice (some ⟨g, i * 11, none⟩) (n + 1 - i) sc]).run Tryz.prog w.drew = .ok (goInt ((n - i : Nat) : Int)) (w.drew.setCells g ((i + 1) * 11) (cs.drop (i * 11))) := fun ty dc sc =>
  copy_cellsM w.drew _ _ ty 48 i0 11 g ((i + 1) * 11) (n - i) dc ⟨g, i * 11, none⟩ (n + 1 - i) sc (n - i) (cs.drop (i * 11)) Tryz.underlying40 hi0 hii (by simp only [Nat.min_def]; split <;> omega) hdl
   (fun j v hj => by rw [Addr.add_lit]; exact hcget _ v (by rwa [List.getElem?_drop] at hj))
   (fun j hj => blk_some hg _ (by rw [hdl] at hj; omega)) (fun j hj => blk_frozen hg _) (fun v hv => h1c v (List.mem_of_mem_drop hv))
 obtain ⟨W1, hW1⟩ : ∃ W1, W1 = w.drew.setCells g ((i + 1) * 11) (cs.drop (i * 11)) := ⟨_, rfl⟩
 obtain ⟨cur1, hc1, hs1, _⟩ := setCells_row (cs.drop (i * 11)) ((i + 1) * 11) w.drew cur hg (by rw [hdl, hcz]; omega)
 have hv1 : W1.heap[vb]? = some (.cells curv 48 (0, 0)) := by rw [hW1]; exact (setCells_far _ _ vb hvb).trans hv
 rw [← hW1] at hc1
 have hcp2 : ∀ (W : World), (∀ x, W.cell? x = W1.cell? x) → (∀ x, W.frozen? x = W1.frozen? x) → ∀ ty dc, (Builtin.copy_ #[40, 40] ty #[.slice (some ⟨g, i * 11, none⟩) (n + 1 - i) dc, .slice (some ⟨vb, 0, none⟩) 1 vc]).run Tryz.prog W = .ok (goInt ((1 : Nat) : Int)) (W.setCells g (i * 11) vs) := fun W hWc hWf ty dc =>
  copy_cellsM W _ _ ty 48 i0 11 g (i * 11) (n + 1 - i) dc ⟨vb, 0, none⟩ 1 vc 1 vs Tryz.underlying40 hi0 hii (by simp only [Nat.min_def]; split <;> omega) (by rw [hvl])
   (fun j v hj => by
    rw [Addr.add_lit, hWc, Nat.zero_add, hW1, World.cell?_setCells_out g _ _ _ _ (fun h _ => absurd h hvb)]
    exact hvget j v hj)
   (fun j hj => by rw [hWc]; exact blk_some hc1 _ (by rw [hvl] at hj; rw [hs1, hcz]; omega)) (fun j hj => by rw [hWf]; exact blk_frozen hc1 _) h1v
 rw [← hW1] at hcp1
 clear hg hv hc1 hv1 hcget hvget hcs hvs
 go_enter Tryz.func36, Tryz.ntmps36
 go_wp2_with (simp only [hov])
 go_region_law_o (refine step_copy_runI rfl _ _ 40 40 rfl _ _ (by simp [Act.eval, Act.put]) (by simp [Act.eval, Act.put]) (hcp1 _ _ _) ?_)
 go_wp2_with (at_builtin; refine wpList_copy_runI _ rfl _ _ 40 40 rfl _ _ rfl rfl (hcp2 _ (fun _ => rfl) (fun _ => rfl) _ _) ?_)
 go_ret
 first | exact ⟨rfl, rfl⟩ | exact ⟨rfl, by rw [hW1]⟩
theorem insR.info : ∃ i0, Tryz.prog.info? 48 = some i0 ∧ i0.size = 11 ∧ i0.zero = some (Value.agg #[(.int .i64 0), (.int .i64 0), (.string ⟨#[]⟩), (.string ⟨#[]⟩), (.int .i64 0), (.int .i64 0), (.int .i64 0), (.int .i64 0), (.int .i64 0), (.int .i64 0), (.slice none 0 0)]) ∧ i0.bytes = 120 := by
 have := info48
 cases h : Tryz.prog.info? 48 with
 | none => rw [h] at this; cases this
 | some i0 => rw [h] at this; simp at this; exact ⟨i0, rfl, this.2.1, this.1, this.2.2⟩
set_option maxHeartbeats 4000000 in
theorem insR.end_room (g n c vb vc : Nat) (cur curv : Array Value) (vs : List Value) (w : World) (hg : w.heap[g]? = some (.cells cur 48 (0, 0))) (hv : w.heap[vb]? = some (.cells curv 48 (0, 0)))
  (hroom : n + 1 ≤ c) (hc63 : c ≤ 9223372036854775807) (hcz : cur.size = c * 11) (hvz : 11 ≤ curv.size) (hvs : vs = curv.toList.take 11) (h1v : ∀ v ∈ vs, v.oneCell' = true) :
  Calls Tryz.prog 36 #[.slice (some ⟨g, 0, none⟩) n c, .int .i64 n, .slice (some ⟨vb, 0, none⟩) 1 vc] w fun e w' =>
   e = .returned (.slice (some ⟨g, 0, none⟩) (n + 1) c) ∧ w' = w.setCells g (n * 11) vs := by
 have u40 := Tryz.underlying40
 obtain ⟨i0, hi0, hii, hzz, hbb⟩ := insR.info
 have hvl : vs.length = 11 := by rw [hvs, List.length_take, Array.length_toList]; omega
 have hvget := row_get hv hvs
 have hb4 : ¬ (c = n) := by omega
 have hrun : ∀ ty, (Builtin.append_ #[40, 40] ty #[.slice (some ⟨g, 0, none⟩) n c, .slice (some ⟨vb, 0, none⟩) 1 vc]).run Tryz.prog w = .ok (.slice (some ⟨g, 0, none⟩) (n + 1) c) (w.setCells g (n * 11) vs) := fun ty => by
  have h := run_append_room_cells (P := Tryz.prog) w 40 ty 48 i0 Tryz.underlying40 hi0 g 0 n c ⟨vb, 0, none⟩ 1 vc vs (by rw [hvl, hii]) (fun j u hj => by rw [Addr.add_lit, Nat.zero_add]; exact hvget j u hj) h1v hroom
   (fun j hj => blk_some hg _ (by rw [hvl] at hj; rw [hcz, hii]; omega)) (fun j hj => blk_frozen hg _)
  rw [hii, Nat.zero_add] at h
  exact h
 clear hg hv hvget hvs
 go_enter Tryz.func36, Tryz.ntmps36
 go_wp2_with (at_builtin; refine Lib.wpList_append_run _ rfl _ _ _ _ rfl _ _ rfl rfl _ _ (hrun _) ?_)
 go_ret
 exact ⟨rfl, rfl⟩
set_option maxHeartbeats 4000000 in
theorem insR.end_none (vb vc : Nat) (curv : Array Value) (vs : List Value) (w : World) (hv : w.heap[vb]? = some (.cells curv 48 (0, 0)))
  (hvz : 11 ≤ curv.size) (hvs : vs = curv.toList.take 11) (h1v : ∀ v ∈ vs, v.oneCell' = true) :
  Calls Tryz.prog 36 #[.slice none 0 0, .int .i64 0, .slice (some ⟨vb, 0, none⟩) 1 vc] w fun e w' =>
   e = .returned (.slice (some ⟨w.heap.size, 0, none⟩) 1 (grownCap w 1 0 48)) ∧ w' = w.drew.alloc (.cells (vs.toArray ++ Builtin.zeroCells (Value.agg #[(.int .i64 0), (.int .i64 0), (.string ⟨#[]⟩), (.string ⟨#[]⟩), (.int .i64 0), (.int .i64 0), (.int .i64 0), (.int .i64 0), (.int .i64 0), (.int .i64 0), (.slice none 0 0)]).cells (grownCap w 1 0 48 - 1)) 48) := by
 have u40 := Tryz.underlying40
 obtain ⟨i0, hi0, hii, hzz, hbb⟩ := insR.info
 have hvl : vs.length = 11 := by rw [hvs, List.length_take, Array.length_toList]; omega
 have hvget := row_get hv hvs
 have hsrc : Src Tryz.prog i0.size 40 (.slice (some ⟨vb, 0, none⟩) 1 vc) 1 vs w := by
  rw [hii]
  exact Src.ofSlice w Tryz.underlying40 ⟨vb, 0, none⟩ 1 vc vs (by rw [hvl]) (fun j u hj => by rw [Addr.add_lit, Nat.zero_add]; exact hvget j u hj) h1v
 have hrun : ∀ ty, (Builtin.append_ #[40, 40] ty #[.slice none 0 0, .slice (some ⟨vb, 0, none⟩) 1 vc]).run Tryz.prog w = _ := fun ty =>
  run_append_grow_src w 40 40 ty 48 i0 _ Tryz.underlying40 hi0 hzz none 0 0 [] (run_firstCells_none w.drew i0.size 0 0 0) _ 1 vs hsrc (by omega) (by omega) (by rw [hbb]; exact growslice_fits (by omega) (by omega))
 simp only [List.nil_append, Nat.zero_add] at hrun
 clear hv hvget hvs
 go_enter Tryz.func36, Tryz.ntmps36
 go_wp2_with (at_builtin; refine Lib.wpList_append_run _ rfl _ _ _ _ rfl _ _ rfl rfl _ _ (hrun _) ?_)
 go_ret
 exact ⟨rfl, rfl⟩
set_option maxHeartbeats 4000000 in
theorem insR.end_grow (g n vb vc : Nat) (cur curv : Array Value) (cs vs : List Value) (w : World) (hg : w.heap[g]? = some (.cells cur 48 (0, 0))) (hv : w.heap[vb]? = some (.cells curv 48 (0, 0)))
  (hn : n ≤ 9223372036854775806) (hbig : (n + 1) * 120 ≤ 140737488355328) (hcz : cur.size = n * 11) (hvz : 11 ≤ curv.size) (hcs : cs = cur.toList.take (n * 11)) (hvs : vs = curv.toList.take 11) (h1v : ∀ v ∈ vs, v.oneCell' = true) :
  Calls Tryz.prog 36 #[.slice (some ⟨g, 0, none⟩) n n, .int .i64 n, .slice (some ⟨vb, 0, none⟩) 1 vc] w fun e w' =>
   e = .returned (.slice (some ⟨w.heap.size, 0, none⟩) (n + 1) (grownCap w (n + 1) n 48)) ∧ w' = w.drew.alloc (.cells ((cs ++ vs).toArray ++ Builtin.zeroCells (Value.agg #[(.int .i64 0), (.int .i64 0), (.string ⟨#[]⟩), (.string ⟨#[]⟩), (.int .i64 0), (.int .i64 0), (.int .i64 0), (.int .i64 0), (.int .i64 0), (.int .i64 0), (.slice none 0 0)]).cells (grownCap w (n + 1) n 48 - (n + 1))) 48) := by
 have u40 := Tryz.underlying40
 obtain ⟨i0, hi0, hii, hzz, hbb⟩ := insR.info
 have hcl : cs.length = n * 11 := by rw [hcs, List.length_take, Array.length_toList, hcz]; omega
 have hvl : vs.length = 11 := by rw [hvs, List.length_take, Array.length_toList]; omega
 have hcget := row_get hg hcs
 have hvget := row_get hv hvs
 have hsrc : Src Tryz.prog i0.size 40 (.slice (some ⟨vb, 0, none⟩) 1 vc) 1 vs w := by
  rw [hii]
  exact Src.ofSlice w Tryz.underlying40 ⟨vb, 0, none⟩ 1 vc vs (by rw [hvl]) (fun j u hj => by rw [Addr.add_lit, Nat.zero_add]; exact hvget j u hj) h1v
 have hold : (Builtin.firstCells i0.size n (.slice (some ⟨g, 0, none⟩) n n)).run Tryz.prog w.drew = .ok cs.toArray w.drew := by
  rw [hii]
  exact run_firstCells_some w.drew 11 n ⟨g, 0, none⟩ n n cs hcl (fun j v hj => by rw [Addr.add_lit, Nat.zero_add]; exact hcget j v hj)
 have hrun : ∀ ty, (Builtin.append_ #[40, 40] ty #[.slice (some ⟨g, 0, none⟩) n n, .slice (some ⟨vb, 0, none⟩) 1 vc]).run Tryz.prog w = _ := fun ty =>
  run_append_grow_src w 40 40 ty 48 i0 _ Tryz.underlying40 hi0 hzz (some ⟨g, 0, none⟩) n n cs hold _ 1 vs hsrc (by omega) (by omega) (by rw [hbb]; exact growslice_fits (by omega) hbig)
 clear hg hv hvget hcget hvs hcs hold
 go_enter Tryz.func36, Tryz.ntmps36
 go_wp2_with (at_builtin; refine Lib.wpList_append_run _ rfl _ _ _ _ rfl _ _ rfl rfl _ _ (hrun _) ?_)
 all_goals (go_ret; exact ⟨rfl, rfl⟩)
set_option maxHeartbeats 4000000 in
theorem insR.grow (g n i vb vc : Nat) (cur curv : Array Value) (cs vs : List Value) (w : World) (hg : w.heap[g]? = some (.cells cur 48 (0, 0))) (hv : w.heap[vb]? = some (.cells curv 48 (0, 0)))
  (hi : i < n) (hbig : (n + 1) * 120 ≤ 140737488355328) (hcz : cur.size = n * 11) (hvz : 11 ≤ curv.size) (hcs : cs = cur.toList.take (n * 11)) (hvs : vs = curv.toList.take 11) (h1c : ∀ v ∈ cs, v.oneCell' = true) (h1v : ∀ v ∈ vs, v.oneCell' = true) :
  Calls Tryz.prog 36 #[.slice (some ⟨g, 0, none⟩) n n, .int .i64 i, .slice (some ⟨vb, 0, none⟩) 1 vc] w fun e w' =>
   e = .returned (.slice (some ⟨w.heap.size, 0, none⟩) (n + 1) (grownCap w (n + 1) n 48)) ∧
   w' = (((w.alloc (.cells ((cs.take (i * 11)).toArray ++ Builtin.zeroCells (Value.agg #[(.int .i64 0), (.int .i64 0), (.string ⟨#[]⟩), (.string ⟨#[]⟩), (.int .i64 0), (.int .i64 0), (.int .i64 0), (.int .i64 0), (.int .i64 0), (.int .i64 0), (.slice none 0 0)]).cells (n + 1 - i) ++ Builtin.zeroCells (Value.agg #[(.int .i64 0), (.int .i64 0), (.string ⟨#[]⟩), (.string ⟨#[]⟩), (.int .i64 0), (.int .i64 0), (.int .i64 0), (.int .i64 0), (.int .i64 0), (.int .i64 0), (.slice none 0 0)]).cells (grownCap w (n + 1) n 48 - (n + 1))) 48)).drew.setCells w.heap.size (i * 11) vs).drew).setCells w.heap.size ((i + 1) * 11) (cs.drop (i * 11)) := by
 have u40 := Tryz.underlying40
 have u3 := Tryz.underlying3
 have hmx : Tryz.prog.follows .mixedOrders = true := by kernel_rfl
 obtain ⟨i0, hi0, hii, hzz, hbb⟩ := insR.info
 have hcl : cs.length = n * 11 := by rw [hcs, List.length_take, Array.length_toList, hcz]; omega
 have hvl : vs.length = 11 := by rw [hvs, List.length_take, Array.length_toList]; omega
 have hcget := row_get hg hcs
 have hvget := row_get hv hvs
 have hz2 : ¬ ((i : Int) = (n : Int)) := by omega
 have hbw : g < w.heap.size := blk_lt hg
 have hvw : vb < w.heap.size := blk_lt hv
 have hkk : (n : Int) + 1 - (i : Int) = ((n + 1 - i : Nat) : Int) := by omega
 have hik : i + (n + 1 - i) = n + 1 := by omega
 have hold : (Builtin.firstCells i0.size i (.slice (some ⟨g, 0, none⟩) i n)).run Tryz.prog w.drew = .ok (cs.take (i * 11)).toArray w.drew := by
  rw [hii]
  exact run_firstCells_some w.drew 11 i ⟨g, 0, none⟩ i n (cs.take (i * 11)) (by rw [List.length_take, hcl]; omega) (fun j v hj => by
   rw [Addr.add_lit, Nat.zero_add]
   rw [List.getElem?_take] at hj
   split at hj
   ·exact hcget j v hj
   ·cases hj)
 obtain ⟨Z, hZ⟩ : ∃ Z, Z = (Value.agg #[(.int .i64 0), (.int .i64 0), (.string ⟨#[]⟩), (.string ⟨#[]⟩), (.int .i64 0), (.int .i64 0), (.int .i64 0), (.int .i64 0), (.int .i64 0), (.int .i64 0), (.slice none 0 0)]).cells := ⟨_, rfl⟩
 have hZs : Z.size = 11 := by rw [hZ]; rfl
 obtain ⟨G, hG⟩ : ∃ G, G = grownCap w (n + 1) n 48 := ⟨_, rfl⟩
 have hrz : ∀ ty, (Builtin.append_ #[40, 3] ty #[.slice (some ⟨g, 0, none⟩) i n, .int .i64 ((n : Int) + 1 - (i : Int))]).run Tryz.prog w =
   .ok (.slice (some ⟨w.heap.size, 0, none⟩) (n + 1) G) (w.drew.alloc (.cells ((cs.take (i * 11)).toArray ++ Builtin.zeroCells Z (n + 1 - i) ++ Builtin.zeroCells Z (G - (n + 1))) 48)) := fun ty => by
  have h := Lib.run_append_grow_zeros w 40 3 ty 48 i0 _ .i64 .i64 Tryz.underlying40 Tryz.underlying3 hi0 hzz (some ⟨g, 0, none⟩) i n (cs.take (i * 11)) hold (n + 1 - i) (by omega) (by omega) (by omega) (by omega) (by rw [hbb]; omega) (by rw [hbb, hik]; exact growslice_fits (by omega) hbig)
  rw [hik] at h
  rw [hkk, hG, hZ]
  exact h
 rw [← hG, ← hZ]
 obtain ⟨ROW, hROW⟩ : ∃ ROW : Array Value, ROW = (cs.take (i * 11)).toArray ++ Builtin.zeroCells Z (n + 1 - i) ++ Builtin.zeroCells Z (G - (n + 1)) := ⟨_, rfl⟩
 rw [← hROW] at hrz ⊢
 have hRl : (n + 1) * 11 ≤ ROW.size := by
  rw [hROW, Array.size_append, Array.size_append]
  have h1 : (cs.take (i * 11)).toArray.size = i * 11 := by rw [List.size_toArray, List.length_take, hcl]; omega
  have h2 : (Builtin.zeroCells Z (n + 1 - i)).size = (n + 1 - i) * 11 := by have := zeroCells_len Z (n + 1 - i); rw [Array.length_toList, hZs] at this; exact this
  rw [h1, h2]; omega
 obtain ⟨W1, hW1⟩ : ∃ W1, W1 = w.drew.alloc (.cells ROW 48) := ⟨_, rfl⟩
 rw [← hW1] at hrz
 have hNb : W1.heap[w.heap.size]? = some (.cells ROW 48 (0, 0)) := by rw [hW1]; exact blk_new w.drew _
 have hOg : W1.heap[g]? = some (.cells cur 48 (0, 0)) := by rw [hW1]; exact blk_alloc (w := w.drew) hg _
 have hOv : W1.heap[vb]? = some (.cells curv 48 (0, 0)) := by rw [hW1]; exact blk_alloc (w := w.drew) hv _
 have hcpA : ∀ (W : World), (∀ x, W.cell? x = W1.cell? x) → (∀ x, W.frozen? x = W1.frozen? x) → ∀ ty dc, (Builtin.copy_ #[40, 40] ty #[.slice (some ⟨w.heap.size, i * 11, none⟩) (n + 1 - i) dc, .slice (some ⟨vb, 0, none⟩) 1 vc]).run Tryz.prog W = .ok (goInt ((1 : Nat) : Int)) (W.setCells w.heap.size (i * 11) vs) := fun W hWc hWf ty dc =>
  copy_cellsM W _ _ ty 48 i0 11 w.heap.size (i * 11) (n + 1 - i) dc ⟨vb, 0, none⟩ 1 vc 1 vs Tryz.underlying40 hi0 hii (by simp only [Nat.min_def]; split <;> omega) (by rw [hvl])
   (fun j v hj => by rw [Addr.add_lit, hWc, Nat.zero_add]; exact row_get hOv hvs j v hj)
   (fun j hj => by rw [hWc]; exact blk_some hNb _ (by rw [hvl] at hj; omega)) (fun j hj => by rw [hWf]; exact blk_frozen hNb _) h1v
 have hGn : n + 1 ≤ G := by rw [hG]; exact grownCap_ge w _ _ _
 have hG63 : G ≤ 9223372036854775807 := by
  have := grownCap_le_maxLen w (n + 1) n 48 (by unfold maxLen; omega)
  rw [← hG] at this
  unfold maxLen at this
  omega
 have hGi : ¬ (G = i) := by omega
 have hGim : ¬ (G = i + 1) := by omega
 have hci : ¬ (n = i) := by omega
 have hbN : w.heap.size ≠ g := by omega
 have hdl : (cs.drop (i * 11)).length = (n - i) * 11 := by rw [List.length_drop, hcl, Nat.sub_mul]
 obtain ⟨ROW2, hN2, hs2, _⟩ := setCells_row vs (i * 11) W1 ROW hNb (by rw [hvl]; omega)
 have hOg2 : (W1.setCells w.heap.size (i * 11) vs).heap[g]? = some (.cells cur 48 (0, 0)) := (setCells_far _ _ g (fun e => hbN e.symm)).trans hOg
 have hcpB : ∀ (W : World), (∀ x, W.cell? x = (W1.setCells w.heap.size (i * 11) vs).cell? x) → (∀ x, W.frozen? x = (W1.setCells w.heap.size (i * 11) vs).frozen? x) → ∀ ty dc sc, (Builtin.copy_ #[40, 40] ty #[.slice (some ⟨w.heap.size, (i + 1) * 11, none⟩) (n - i) dc, .slice (some ⟨g, i * 11, none⟩) (n - i) sc]).run Tryz.prog W = .ok (goInt ((n - i : Nat) : Int)) (W.setCells w.heap.size ((i + 1) * 11) (cs.drop (i * 11))) := fun W hWc hWf ty dc sc =>
  copy_cellsM W _ _ ty 48 i0 11 w.heap.size ((i + 1) * 11) (n - i) dc ⟨g, i * 11, none⟩ (n - i) sc (n - i) (cs.drop (i * 11)) Tryz.underlying40 hi0 hii (by simp only [Nat.min_def]; split <;> omega) hdl
   (fun j v hj => by
    rw [Addr.add_lit, hWc]
    exact row_get hOg2 hcs _ v (by rwa [List.getElem?_drop] at hj))
   (fun j hj => by rw [hWc]; exact blk_some hN2 _ (by rw [hdl] at hj; rw [hs2]; omega))
   (fun j hj => by rw [hWf]; exact blk_frozen hN2 _) (fun v hv => h1c v (List.mem_of_mem_drop hv))
 clear hNb hOg hOv hN2 hOg2 hg hv
 subst hW1
 have hE1 : ∀ x, ((w.alloc (.cells ROW 48)).drew).cell? x = (w.drew.alloc (.cells ROW 48)).cell? x := fun x => rfl
 have hE2 : ∀ x, ((w.alloc (.cells ROW 48)).drew).frozen? x = (w.drew.alloc (.cells ROW 48)).frozen? x := fun x => rfl
 have hF1 : ∀ x, (((w.alloc (.cells ROW 48)).drew.setCells w.heap.size (i * 11) vs).drew).cell? x = ((w.drew.alloc (.cells ROW 48)).setCells w.heap.size (i * 11) vs).cell? x := fun x => rfl
 have hF2 : ∀ x, (((w.alloc (.cells ROW 48)).drew.setCells w.heap.size (i * 11) vs).drew).frozen? x = ((w.drew.alloc (.cells ROW 48)).setCells w.heap.size (i * 11) vs).frozen? x := fun x => rfl
 have hw1 : IntKind.i64.wrap ((i : Int) + 1) = (i : Int) + 1 := by rw [IntKind.wrap_i64]; omega
 have hb1 : (0 : Int) ≤ (i : Int) + 1 := by omega
 have hin : i ≤ n := by omega
 have htn : ((i : Int) + 1).toNat = i + 1 := by omega
 have hb3 : (i : Int) ≤ (n : Int) := by omega
 clear hkk hik hold hROW hG hRl hcs hvs hcget hvget hs2
 go_enter Tryz.func36, Tryz.ntmps36
 go_wp2_with (first
  | (at_builtin; refine Lib.wpList_append_run _ rfl _ _ _ _ rfl _ _ rfl rfl _ _ (hrz _) ?_)
  | (at_builtin; refine wpList_copy_runI _ rfl _ _ 40 40 rfl _ _ rfl rfl (hcpA _ hE1 hE2 _ _) ?_)
  | (at_builtin; refine wpList_copy_runI _ rfl _ _ 40 40 rfl _ _ rfl rfl (hcpB _ (fun _ => rfl) (fun _ => rfl) _ _ _) ?_))
 go_region_law_o (refine step_copy_runI rfl _ _ 40 40 rfl (.slice (some ⟨w.heap.size, (i + 1) * 11, none⟩) (n - i) (G - (i + 1))) (.slice (some ⟨g, i * 11, none⟩) (n - i) (n - i)) (by simp [Act.eval, Act.put]) (by simp [Act.eval, Act.put]) (hcpB _ hF1 hF2 3 (G - (i + 1)) (n - i)) ?_)
 go_wp2
 go_ret
 exact ⟨rfl, rfl⟩
def insR.f (l0 : List (List Value)) (a1 : Int) (l2 : List (List Value)) : Option (List (List Value)) := if l2.length = 1 then (if 0 ≤ a1 then (if a1 ≤ (l0.length : Int) then (if (l0.length + 1) * 120 ≤ 140737488355328 then some (l0.take a1.toNat ++ (l2 ++ l0.drop a1.toNat)) else none) else none) else none) else none
set_option maxHeartbeats 4000000 in
theorem insR.calls (P0_ : Nat → Prop) (u9000_ : Value) (l0 : List (List Value)) (a1 : Int) (P2_ : Nat → Prop) (u9001_ : Value) (l2 : List (List Value)) (r : List (List Value)) (w0 w : World) (hB : Below w0.heap.size w0 w) (aD : Kd.R (Kd.raw 11) 48 w w0.heap.size P0_ u9000_ l0) (hp0_2 : ∀ k_, P0_ k_ → ¬ P2_ k_) (aE : Kd.R (Kd.raw 11) 48 w w0.heap.size P2_ u9001_ l2) (hp2_0 : ∀ k_, P2_ k_ → ¬ P0_ k_) (h : insR.f l0 a1 l2 = some r) :
  Calls Tryz.prog 36 #[u9000_, .int .i64 a1, u9001_] w fun e w' => ∃ v0_ : Value, e = .returned (v0_) ∧ Kd.R (Kd.raw 11) 48 w' w0.heap.size (fun k_ => ((P0_ k_ ∨ P2_ k_) ∨ w.heap.size ≤ k_)) v0_ r ∧ Below w0.heap.size w0 w' ∧ Kept w w' (fun k_ => P0_ k_ ∨ P2_ k_) := by
 unfold insR.f at h
 by_cases d1 : l2.length = 1
 ·rw [if_pos d1] at h
  by_cases d2 : 0 ≤ a1
  ·rw [if_pos d2] at h
   by_cases d3 : a1 ≤ (l0.length : Int)
   ·rw [if_pos d3] at h
    by_cases d4 : (l0.length + 1) * 120 ≤ 140737488355328
    ·rw [if_pos d4] at h
     obtain rfl := Option.some.inj h
     obtain ⟨i, rfl⟩ : ∃ i : Nat, a1 = i := ⟨a1.toNat, by omega⟩
     simp only [Int.toNat_natCast]
     obtain ⟨hP2, vs, ⟨hvl, hcase2⟩, aB⟩ := aE
     rcases hcase2 with ⟨rfl, h0⟩ | ⟨vb, vc, curv, rfl, hvb0, hhv, hvc, hvm, hvs, hvt⟩
     ·omega
     have hPv := hP2 vb rfl
     rw [d1] at hvt hvl hvc
     have hvl' : vs.length = 11 := hvl
     have hvs' : curv.size = vc * 11 := hvs
     have hvt' : vs = curv.toList.take 11 := hvt.symm
     have hv1 := reps_one aB (show 0 < (Kd.raw 11).sz by decide)
     rw [d1]
     have hS : w0.heap.size ≤ w.heap.size := hB.size
     have hBN : ∀ k, k < w.heap.size → some k ≠ some w.heap.size := fun k hk e => by have := Option.some.inj e; omega
     obtain ⟨hP, inner, ⟨hil, hcase⟩, hr⟩ := aD
     have hil' : inner.length = l0.length * 11 := hil
     have hrl : (l0.take i ++ (l2 ++ l0.drop i)).length = l0.length + 1 := by simp; omega
     have hinl : (inner.take (i * 11) ++ (vs ++ inner.drop (i * 11))).length = (l0.length + 1) * 11 := by simp only [List.length_append, List.length_take, List.length_drop, hil', hvl']; omega
     have hil2 : i ≤ l0.length := by omega
     rcases hcase with ⟨rfl, h0⟩ | ⟨g, c, cur, rfl, hgb, hh, hnc, hcm, hcs, htake⟩
     ·have e0 : l0 = [] := List.length_eq_zero_iff.1 h0
      subst e0
      have ei : i = 0 := by simp at hil2; exact hil2
      subst ei
      have hin : inner = [] := List.length_eq_zero_iff.1 (by rw [hil']; rfl)
      refine (insR.end_none vb vc curv vs w hhv (by rw [hvs']; omega) hvt' hv1).mono ?_
      rintro e w' ⟨rfl, rfl⟩
      have hg1 : 1 ≤ grownCap w 1 0 48 := grownCap_ge w _ _ _
      have hb := blk_new w.drew (.cells (vs.toArray ++ Builtin.zeroCells (Value.agg #[(.int .i64 0), (.int .i64 0), (.string ⟨#[]⟩), (.string ⟨#[]⟩), (.int .i64 0), (.int .i64 0), (.int .i64 0), (.int .i64 0), (.int .i64 0), (.int .i64 0), (.slice none 0 0)]).cells (grownCap w 1 0 48 - 1)) 48)
      have hold : ∀ k, k < w.heap.size → (w.drew.alloc (.cells (vs.toArray ++ Builtin.zeroCells (Value.agg #[(.int .i64 0), (.int .i64 0), (.string ⟨#[]⟩), (.string ⟨#[]⟩), (.int .i64 0), (.int .i64 0), (.int .i64 0), (.int .i64 0), (.int .i64 0), (.int .i64 0), (.slice none 0 0)]).cells (grownCap w 1 0 48 - 1)) 48)).heap[k]? = w.heap[k]? := fun k hk => (below_alloc (Below.refl w.drew.heap.size w.drew) _).block k hk
      refine ⟨_, rfl, R_mk (inner := vs) (by simp [d1]) (.inr (Nat.le_refl _)) hS hb hg1 (grownCap_le_maxLen w 1 0 48 (by unfold maxLen; omega)) ?_ hvl ?_ ?_, below_alloc (below_drew hB) _, ⟨(below_alloc (Below.refl w.drew.heap.size w.drew) _).size, fun k hk _ => hold k hk⟩⟩
      ·have := zeroCells_len (Value.agg #[(.int .i64 0), (.int .i64 0), (.string ⟨#[]⟩), (.string ⟨#[]⟩), (.int .i64 0), (.int .i64 0), (.int .i64 0), (.int .i64 0), (.int .i64 0), (.int .i64 0), (.slice none 0 0)]).cells (grownCap w 1 0 48 - 1)
       rw [Array.length_toList] at this
       rw [Array.size_append, List.size_toArray, hvl', this, show (Kd.raw 11).sz = 11 from rfl, show (Value.agg #[(.int .i64 0), (.int .i64 0), (.string ⟨#[]⟩), (.string ⟨#[]⟩), (.int .i64 0), (.int .i64 0), (.int .i64 0), (.int .i64 0), (.int .i64 0), (.int .i64 0), (.slice none 0 0)]).cells.size = 11 from rfl]
       omega
      ·rw [Array.toList_append, List.take_left' (by rw [hvl', show (Kd.raw 11).sz = 11 from rfl])]
      ·have b := reps_to (w' := w.drew.alloc (.cells (vs.toArray ++ Builtin.zeroCells (Value.agg #[(.int .i64 0), (.int .i64 0), (.string ⟨#[]⟩), (.string ⟨#[]⟩), (.int .i64 0), (.int .i64 0), (.int .i64 0), (.int .i64 0), (.int .i64 0), (.int .i64 0), (.slice none 0 0)]).cells (grownCap w 1 0 48 - 1)) 48)) (ok' := fun k => ((P0_ k ∨ P2_ k) ∨ w.heap.size ≤ k) ∧ some k ≠ some w.heap.size) aB (fun k hk hlt => ⟨hold k hlt, .inl (.inr hk.1), hBN k hlt⟩)
       simpa using b
     have hPg := hP g rfl
     have hcs' : cur.size = c * 11 := hcs
     have htake' : inner = cur.toList.take (l0.length * 11) := htake.symm
     have hone := reps_one hr (show 0 < (Kd.raw 11).sz by decide)
     have hne : vb ≠ g := fun e => hp0_2 g hPg (e ▸ hPv)
     have hcl : cur.toList.length = c * 11 := by rw [Array.length_toList]; exact hcs'
     by_cases hroom : l0.length + 1 ≤ c
     ·-- in place
      have fin : ∀ (w' : World) (cur' : Array Value), w'.heap[g]? = some (.cells cur' 48 (0, 0)) → cur'.size = c * 11 → cur'.toList.take ((l0.length + 1) * 11) = inner.take (i * 11) ++ (vs ++ inner.drop (i * 11)) → (∀ k, k ≠ g → w'.heap[k]? = w.heap[k]?) → Below w0.heap.size w0 w' → w.heap.size ≤ w'.heap.size →
        Kd.R (Kd.raw 11) 48 w' w0.heap.size (fun k_ => ((P0_ k_ ∨ P2_ k_) ∨ w.heap.size ≤ k_)) (.slice (some ⟨g, 0, none⟩) (l0.length + 1) c) (l0.take i ++ (l2 ++ l0.drop i)) ∧ Below w0.heap.size w0 w' ∧ Kept w w' (fun k_ => P0_ k_ ∨ P2_ k_) := fun w' cur' h1 h2 h3 h4 h5 h6 =>
       ⟨R_mk (inner := inner.take (i * 11) ++ (vs ++ inner.drop (i * 11))) hrl.symm (.inl (.inl hPg)) hgb h1 hroom hcm h2 hinl h3
        (by
         have a := reps_to (w' := w') (ok' := fun k => ((P0_ k ∨ P2_ k) ∨ w.heap.size ≤ k) ∧ some k ≠ some g) hr (fun k hk _ => ⟨h4 k (fun e => hk.2 (by rw [e]; rfl)), .inl (.inl hk.1), fun e => hk.2 (by rw [Option.some.inj e]; rfl)⟩)
         have b := reps_to (w' := w') (ok' := fun k => ((P0_ k ∨ P2_ k) ∨ w.heap.size ≤ k) ∧ some k ≠ some g) aB (fun k hk _ => ⟨h4 k (fun e => hp0_2 g hPg (e ▸ hk.1)), .inl (.inr hk.1), fun e => hp0_2 g hPg (Option.some.inj e ▸ hk.1)⟩)
         exact Kd.reps_append (Kd.reps_take a hil2) (Kd.reps_append b (Kd.reps_drop a))),
        h5, ⟨h6, fun k hk hn => h4 k (fun e => hn (.inl (by rw [e]; exact hPg)))⟩⟩
      by_cases hi : i < l0.length
      ·refine (insR.shift g l0.length c i vb vc cur curv inner vs w hh hhv hi hroom hcm hcs' (by rw [hvs']; omega) hne htake' hvt' hone hv1).mono ?_
       rintro e w' ⟨rfl, rfl⟩
       have hdl : (inner.drop (i * 11)).length = (l0.length - i) * 11 := by rw [List.length_drop, hil', Nat.sub_mul]
       obtain ⟨cur1, aA, hs1, ht1⟩ := setCells_row (inner.drop (i * 11)) ((i + 1) * 11) w.drew cur hh (by rw [hdl, hcs']; omega)
       obtain ⟨cur2, aC, hs2, ht2⟩ := setCells_row vs (i * 11) _ cur1 aA (by rw [hvl', hs1, hcs']; omega)
       have hc1l : cur1.toList.length = c * 11 := by rw [Array.length_toList, hs1]; exact hcs'
       refine ⟨_, rfl, fin _ cur2 aC (by rw [hs2, hs1]; exact hcs') ?_ (fun k hk => (setCells_far _ _ k hk).trans (setCells_far _ _ k hk)) (Go.below_setCells hgb _ _ _ (Go.below_setCells hgb _ _ _ (below_drew hB))) (by rw [(setCells_same _ _ _ _).2.2.2, (setCells_same _ _ _ _).2.2.2]; exact Nat.le_refl _)⟩
       have e1 : cur1.toList.take (i * 11) = inner.take (i * 11) := by
        rw [ht1, List.append_assoc, List.take_append_of_le_length (by rw [List.length_take, hcl]; omega), List.take_take, Nat.min_eq_left (by omega), htake', List.take_take, Nat.min_eq_left (by omega)]
       have e2 : (cur1.toList.drop ((i + 1) * 11)).take ((l0.length - i) * 11) = inner.drop (i * 11) := by
        rw [ht1, List.append_assoc, List.drop_left' (by rw [List.length_take, hcl]; omega), List.take_left' hdl]
       rw [ht2, hvl', List.append_assoc, show i * 11 + 11 = (i + 1) * 11 by omega, e1, List.take_append, List.take_append]
       rw [show (inner.take (i * 11)).length = i * 11 by rw [List.length_take, hil']; omega, hvl', show List.take ((l0.length + 1) * 11) (inner.take (i * 11)) = inner.take (i * 11) from List.take_of_length_le (by rw [List.length_take]; omega), show List.take ((l0.length + 1) * 11 - i * 11) vs = vs from List.take_of_length_le (by rw [hvl']; omega), show (l0.length + 1) * 11 - i * 11 - 11 = (l0.length - i) * 11 by omega, e2]
      ·have ei : i = l0.length := by omega
       subst ei
       refine (insR.end_room g l0.length c vb vc cur curv vs w hh hhv hroom hcm hcs' (by rw [hvs']; omega) hvt' hv1).mono ?_
       rintro e w' ⟨rfl, rfl⟩
       obtain ⟨cur1, aA, hs1, ht1⟩ := setCells_row vs (l0.length * 11) w cur hh (by rw [hvl', hcs']; omega)
       refine ⟨_, rfl, fin _ cur1 aA (by rw [hs1]; exact hcs') ?_ (fun k hk => setCells_far _ _ k hk) (Go.below_setCells hgb _ _ _ hB) (by rw [(setCells_same _ _ _ _).2.2.2]; exact Nat.le_refl _)⟩
       rw [ht1, List.take_left' (by rw [List.length_append, List.length_take, hcl, hvl']; omega), ← htake', List.drop_eq_nil_of_le (by rw [hil']; omega), List.append_nil, List.take_of_length_le (by rw [hil']; omega)]
     ·-- a new row
      have ec : c = l0.length := by omega
      subst ec
      have hg1 : l0.length + 1 ≤ grownCap w (l0.length + 1) l0.length 48 := grownCap_ge w _ _ _
      have hgm : grownCap w (l0.length + 1) l0.length 48 ≤ 9223372036854775807 := grownCap_le_maxLen w _ _ _ (by unfold maxLen; omega)
      have fin : ∀ (w' : World) (cur' : Array Value), w'.heap[w.heap.size]? = some (.cells cur' 48 (0, 0)) → cur'.size = grownCap w (l0.length + 1) l0.length 48 * 11 → cur'.toList.take ((l0.length + 1) * 11) = inner.take (i * 11) ++ (vs ++ inner.drop (i * 11)) → (∀ k, k < w.heap.size → w'.heap[k]? = w.heap[k]?) → Below w0.heap.size w0 w' → w.heap.size ≤ w'.heap.size →
        Kd.R (Kd.raw 11) 48 w' w0.heap.size (fun k_ => ((P0_ k_ ∨ P2_ k_) ∨ w.heap.size ≤ k_)) (.slice (some ⟨w.heap.size, 0, none⟩) (l0.length + 1) (grownCap w (l0.length + 1) l0.length 48)) (l0.take i ++ (l2 ++ l0.drop i)) ∧ Below w0.heap.size w0 w' ∧ Kept w w' (fun k_ => P0_ k_ ∨ P2_ k_) := fun w' cur' h1 h2 h3 h4 h5 h6 =>
       ⟨R_mk (inner := inner.take (i * 11) ++ (vs ++ inner.drop (i * 11))) hrl.symm (.inr (Nat.le_refl _)) hS h1 hg1 hgm h2 hinl h3
        (by
         have a := reps_to (w' := w') (ok' := fun k => ((P0_ k ∨ P2_ k) ∨ w.heap.size ≤ k) ∧ some k ≠ some w.heap.size) hr (fun k hk hlt => ⟨h4 k hlt, .inl (.inl hk.1), hBN k hlt⟩)
         have b := reps_to (w' := w') (ok' := fun k => ((P0_ k ∨ P2_ k) ∨ w.heap.size ≤ k) ∧ some k ≠ some w.heap.size) aB (fun k hk hlt => ⟨h4 k hlt, .inl (.inr hk.1), hBN k hlt⟩)
         exact Kd.reps_append (Kd.reps_take a hil2) (Kd.reps_append b (Kd.reps_drop a))),
        h5, ⟨h6, fun k hk _ => h4 k hk⟩⟩
      have hzl := zeroCells_len (Value.agg #[(.int .i64 0), (.int .i64 0), (.string ⟨#[]⟩), (.string ⟨#[]⟩), (.int .i64 0), (.int .i64 0), (.int .i64 0), (.int .i64 0), (.int .i64 0), (.int .i64 0), (.slice none 0 0)]).cells (grownCap w (l0.length + 1) l0.length 48 - (l0.length + 1))
      rw [Array.length_toList, show (Value.agg #[(.int .i64 0), (.int .i64 0), (.string ⟨#[]⟩), (.string ⟨#[]⟩), (.int .i64 0), (.int .i64 0), (.int .i64 0), (.int .i64 0), (.int .i64 0), (.int .i64 0), (.slice none 0 0)]).cells.size = 11 from rfl] at hzl
      by_cases hi : i < l0.length
      ·refine (insR.grow g l0.length i vb vc cur curv inner vs w hh hhv hi d4 hcs' (by rw [hvs']; omega) htake' hvt' hone hv1).mono ?_
       rintro e w' ⟨rfl, rfl⟩
       have hz2 := zeroCells_len (Value.agg #[(.int .i64 0), (.int .i64 0), (.string ⟨#[]⟩), (.string ⟨#[]⟩), (.int .i64 0), (.int .i64 0), (.int .i64 0), (.int .i64 0), (.int .i64 0), (.int .i64 0), (.slice none 0 0)]).cells (l0.length + 1 - i)
       rw [Array.length_toList, show (Value.agg #[(.int .i64 0), (.int .i64 0), (.string ⟨#[]⟩), (.string ⟨#[]⟩), (.int .i64 0), (.int .i64 0), (.int .i64 0), (.int .i64 0), (.int .i64 0), (.int .i64 0), (.slice none 0 0)]).cells.size = 11 from rfl] at hz2
       obtain ⟨ROW, hROW⟩ : ∃ ROW : Array Value, ROW = (inner.take (i * 11)).toArray ++ Builtin.zeroCells (Value.agg #[(.int .i64 0), (.int .i64 0), (.string ⟨#[]⟩), (.string ⟨#[]⟩), (.int .i64 0), (.int .i64 0), (.int .i64 0), (.int .i64 0), (.int .i64 0), (.int .i64 0), (.slice none 0 0)]).cells (l0.length + 1 - i) ++ Builtin.zeroCells (Value.agg #[(.int .i64 0), (.int .i64 0), (.string ⟨#[]⟩), (.string ⟨#[]⟩), (.int .i64 0), (.int .i64 0), (.int .i64 0), (.int .i64 0), (.int .i64 0), (.int .i64 0), (.slice none 0 0)]).cells (grownCap w (l0.length + 1) l0.length 48 - (l0.length + 1)) := ⟨_, rfl⟩
       have hRs : ROW.size = grownCap w (l0.length + 1) l0.length 48 * 11 := by
        rw [hROW, Array.size_append, Array.size_append, hzl, hz2, List.size_toArray, List.length_take, hil']; omega
       have hRt : ROW.toList.take (i * 11) = inner.take (i * 11) := by
        rw [hROW, Array.toList_append, Array.toList_append, List.append_assoc, List.take_left' (by rw [List.length_take, hil']; omega)]
       rw [← hROW]
       have hb := blk_new w (.cells ROW 48)
       have hdl : (inner.drop (i * 11)).length = (l0.length - i) * 11 := by rw [List.length_drop, hil', Nat.sub_mul]
       obtain ⟨cur1, aA, hs1, ht1⟩ := setCells_row vs (i * 11) (w.alloc (.cells ROW 48)).drew ROW hb (by rw [hvl', hRs]; omega)
       obtain ⟨cur2, aC, hs2, ht2⟩ := setCells_row (inner.drop (i * 11)) ((i + 1) * 11) ((w.alloc (.cells ROW 48)).drew.setCells w.heap.size (i * 11) vs).drew cur1 aA (by rw [hdl, hs1, hRs]; omega)
       have hRl : ROW.toList.length = grownCap w (l0.length + 1) l0.length 48 * 11 := by rw [Array.length_toList]; exact hRs
       have hc1l : cur1.toList.length = grownCap w (l0.length + 1) l0.length 48 * 11 := by rw [Array.length_toList, hs1]; exact hRs
       refine ⟨_, rfl, fin _ cur2 aC (by rw [hs2, hs1]; exact hRs) ?_ (fun k hk => (setCells_far _ _ k (by omega)).trans ((setCells_far (w := (w.alloc (.cells ROW 48)).drew) _ _ k (by omega)).trans ((below_alloc (Below.refl w.heap.size w) _).block k hk))) (Go.below_setCells hS _ _ _ (below_drew (Go.below_setCells hS _ _ _ (below_drew (below_alloc hB _))))) ?_⟩
       ·have e1 : cur1.toList.take ((i + 1) * 11) = inner.take (i * 11) ++ vs := by
         rw [ht1, hRt, List.take_left' (by rw [List.length_append, List.length_take, hil', hvl']; omega)]
        rw [ht2, e1, hdl, List.take_left' (by rw [List.length_append, List.length_append, List.length_take, hil', hvl', hdl]; omega), List.append_assoc]
       ·rw [(setCells_same _ _ _ _).2.2.2]
        show w.heap.size ≤ ((w.alloc (.cells ROW 48)).drew.setCells w.heap.size (i * 11) vs).heap.size
        rw [(setCells_same _ _ _ _).2.2.2]
        exact (below_alloc (Below.refl w.heap.size w) _).size
      ·have ei : i = l0.length := by omega
       subst ei
       refine (insR.end_grow g l0.length vb vc cur curv inner vs w hh hhv (by omega) d4 hcs' (by rw [hvs']; omega) htake' hvt' hv1).mono ?_
       rintro e w' ⟨rfl, rfl⟩
       have hb := blk_new w.drew (.cells ((inner ++ vs).toArray ++ Builtin.zeroCells (Value.agg #[(.int .i64 0), (.int .i64 0), (.string ⟨#[]⟩), (.string ⟨#[]⟩), (.int .i64 0), (.int .i64 0), (.int .i64 0), (.int .i64 0), (.int .i64 0), (.int .i64 0), (.slice none 0 0)]).cells (grownCap w (l0.length + 1) l0.length 48 - (l0.length + 1))) 48)
       refine ⟨_, rfl, fin _ _ hb ?_ ?_ (fun k hk => (below_alloc (Below.refl w.drew.heap.size w.drew) _).block k hk) (below_alloc (below_drew hB) _) (below_alloc (Below.refl w.drew.heap.size w.drew) _).size⟩
       ·rw [Array.size_append, hzl, List.size_toArray, List.length_append, hil', hvl']; omega
       ·rw [Array.toList_append, List.take_left' (by rw [List.length_append, hil', hvl']; omega), List.take_of_length_le (l := inner) (by rw [hil']; omega), List.drop_eq_nil_of_le (by rw [hil']; omega), List.append_nil]
    ·rw [if_neg d4] at h; cases h
   ·rw [if_neg d3] at h; cases h
  ·rw [if_neg d2] at h; cases h
 ·rw [if_neg d1] at h; cases h
/-- A list with one element more at a place: each element, where it stood. -/
theorem put_get {α : Type} (xs : List α) (x : α) (i j : Nat) (hi : i ≤ xs.length) : (xs.take i ++ x :: xs.drop i)[j]? = if j < i then xs[j]? else if j = i then some x else xs[j - 1]? := by
 have h1 : (xs.take i).length = i := by rw [List.length_take]; omega
 split
 ·rename_i h
  rw [List.getElem?_append_left (by omega), List.getElem?_take_of_lt h]
 ·rename_i h
  rw [List.getElem?_append_right (by omega), h1]
  split
  ·rename_i h2
   rw [h2, Nat.sub_self]
   rfl
  ·obtain ⟨t, rfl⟩ : ∃ t, j = i + 1 + t := ⟨j - (i + 1), by omega⟩
   rw [show i + 1 + t - i = t + 1 by omega, List.getElem?_cons_succ, List.getElem?_drop, show i + 1 + t - 1 = i + t by omega]
theorem S_insert {α : Type} {d : Kd α} {e b i N : Nat} {w : World} {ok : Nat → Prop} {v : Value} {xs : List α} {rows : List (List Value)} {x : α} {c : List Value} (hi : i ≤ xs.length) (f : Nat → Nat) (hl : rows.length = xs.length)
  (hM : ∀ (j : Nat) (x : α) (q : List Value), xs[j]? = some x → rows[j]? = some q → d.M w b (fun k => (ok k ∧ some k ≠ v.ownBlock) ∧ k < N ∧ f k = j) x q)
  (hx : d.M w b (fun k => (ok k ∧ some k ≠ v.ownBlock) ∧ N ≤ k) x c) (hr : (Kd.raw d.sz).R e w b ok v (rows.take i ++ c :: rows.drop i)) : Kd.S d e w b ok v (xs.take i ++ x :: xs.drop i) := by
 refine S_of_raw hr (by simp only [List.length_append, List.length_take, List.length_cons, List.length_drop]; omega) (fun k => if N ≤ k then i else if f k < i then f k else f k + 1) (fun j y q hy hq => ?_)
 rw [put_get xs x i j hi] at hy
 rw [put_get rows c i j (by omega)] at hq
 by_cases h1 : j < i
 ·rw [if_pos h1] at hy hq
  exact d.M_mono (fun k hk => ⟨hk.1, by rw [if_neg (by omega), if_pos (by omega)]; exact hk.2.2⟩) (hM j y q hy hq)
 ·rw [if_neg h1] at hy hq
  by_cases h2 : j = i
  ·rw [if_pos h2] at hy hq
   cases hy
   cases hq
   exact d.M_mono (fun k hk => ⟨hk.1, by rw [if_pos hk.2]; exact h2.symm⟩) hx
  ·rw [if_neg h2] at hy hq
   exact d.M_mono (fun k hk => ⟨hk.1, by rw [if_neg (by omega), if_neg (by omega)]; omega⟩) (hM (j - 1) y q hy hq)
theorem ins_S {N t T qv b m : Nat} {w1 w2 : World} {v v0 : Value} {xs : List S48} {rows : List (List Value)} {s : S48} {c : List Value} (f : Nat → Nat) (hm : m ≤ xs.length) (hl : rows.length = xs.length) (hN : N ≤ t) (ht : t ≤ T) (hT : T ≤ qv) (hq : qv < w1.heap.size) (hvo : ∀ k, v.ownBlock = some k → N ≤ k ∧ k < t)
  (hM : ∀ (j : Nat) (x : S48) (q : List Value), xs[j]? = some x → rows[j]? = some q → k48.M w1 b (fun k => ((N ≤ k ∧ k < t) ∧ some k ≠ v.ownBlock) ∧ f k = j) x q) (hs : k48.M w1 b (fun k => T ≤ k ∧ k < qv) s c)
  (hk : ∀ k, k < w1.heap.size → some k ≠ v.ownBlock → k ≠ qv → w2.heap[k]? = w1.heap[k]?) (hr : (Kd.raw 11).R 48 w2 b (fun k => (some k = v.ownBlock ∨ k = qv) ∨ w1.heap.size ≤ k) v0 (rows.take m ++ ([c] ++ rows.drop m))) : Kd.S k48 48 w2 b (fun k => N ≤ k) v0 (xs.take m ++ s :: xs.drop m) := by
 have h0 := hr.1
 refine S_insert (N := T) (c := c) hm f hl (fun j x q hx hq' => ?_) ?_ ?_
 ·refine k48.M_mono (fun k h => ?_) (Kd.M_step (hM j x q hx hq') (fun k h hlt => hk k hlt h.1.2 (by have := h.1.1.2; omega)))
  refine ⟨⟨h.1.1.1, fun e => ?_⟩, by have := h.1.1.2; omega, h.2⟩
  have h3 := h.1.1.2
  rcases h0 k e.symm with (h1 | h1) | h1
  ·exact h.1.2 h1
  ·omega
  ·omega
 ·refine k48.M_mono (fun k h => ?_) (Kd.M_step hs (fun k h hlt => hk k hlt (fun e => by have := (hvo k e.symm).2; have := h.1; omega) (by have := h.2; omega)))
  have h3 := h.1
  have h4 := h.2
  refine ⟨⟨by omega, fun e => ?_⟩, h.1⟩
  rcases h0 k e.symm with (h1 | h1) | h1
  ·have := (hvo k h1.symm).2; omega
  ·omega
  ·omega
 ·refine Kd.R_mono hr (fun k h => ?_)
  rcases h with (h1 | h1) | h1
  ·exact (hvo k h1.symm).1
  ·omega
  ·omega
theorem raw_own {m e b : Nat} {ok : Nat → Prop} {w : World} {v : Value} {rows : List (List Value)} (h : (Kd.raw m).R e w b ok v rows) : (Kd.raw m).R e w b (fun k => some k = v.ownBlock) v rows := by
 obtain ⟨_, inner, h1, h2⟩ := h
 exact ⟨fun k hk => hk.symm, inner, h1, h2⟩
theorem raw_one {b q : Nat} {w : World} {c : List Value} (hb : b ≤ q) (hc : c.length = 11) (h1 : ∀ u ∈ c, u.oneCell' = true) (hh : w.heap[q]? = some (.cells c.toArray 48 (0, 0))) : (Kd.raw 11).R 48 w b (fun k => k = q) (.slice (some ⟨q, 0, none⟩) 1 1) [c] := by
 refine ⟨fun k hk => by cases hk; rfl, c, ⟨by show c.length = 1 * 11; omega, .inr ⟨q, 1, c.toArray, rfl, hb, hh, Nat.le_refl _, by decide, by show c.length = 1 * 11; omega, ?_⟩⟩, ⟨by show c.length = 1 * 11; omega, fun j x hx => ?_⟩⟩
 ·exact List.take_of_length_le (by show c.length ≤ 1 * 11; omega)
 ·obtain ⟨hj, rfl⟩ := List.getElem?_eq_some_iff.1 hx
  have : j = 0 := by simpa using hj
  subst this
  have e : List.take (Kd.raw 11).sz (List.drop (0 * (Kd.raw 11).sz) c) = c := by
   rw [Nat.zero_mul, List.drop_zero]
   exact List.take_of_length_le (by show c.length ≤ 11; omega)
  rw [e]
  exact ⟨rfl, hc, h1⟩
def ikeyP (k : Nat) (x0 : Int) (x1 : List S92) (x2 : Int) (x3 : List S105) (x4 : List S48) (x5 : List S48) (s : S48) (y0 : Int) (y1 : List S92) (y2 : Int) (y3 : List S105) (y4 : List S48) (y5 : List S48) (r : Bool) : Prop :=
 (impl_GateOk.f k x0 x1 x2 x3 x4 x5 = some false ∧ y0 = 0 ∧ y1 = [] ∧ y2 = 0 ∧ y3 = [] ∧ y4 = [] ∧ y5 = [] ∧ r = false) ∨
 (impl_GateOk.f k x0 x1 x2 x3 x4 x5 = some true ∧ ∃ g5 fr, impl_Gate_copied.f k x0 x1 x2 x3 x4 x5 = some (y0, y1, y2, y3, y4, g5) ∧ g5.length ≤ 1048576 ∧
  impl_Gate_fresh.f k x0 x1 x2 x3 x4 x5 s.f0 s.f1 s.f2 s.f3 s.f4 s.f5 s.f6 s.f7 s.f8 s.f9.f0 s.f9.f1 = some fr ∧ impl_Sa_copied.f s.f0 s.f1 s.f2 s.f3 s.f4 s.f5 s.f6 s.f7 s.f8 s.f9.f0 s.f9.f1 = some (s.f0, s.f1, s.f2, s.f3, s.f4, s.f5, s.f6, s.f7, s.f8, s.f9.f0, s.f9.f1) ∧
  ((fr = false ∧ y5 = g5 ∧ r = false) ∨ (fr = true ∧ ∃ m, PT g5 (fun x => wrap64 (S48.f0 x - s.f0)) m ∧ (((atX S48.f0 s.f0 g5[m]? = true ∨ (atX S48.f0 s.f0 g5[m]? = false ∧ g5.length = 6)) ∧ y5 = g5 ∧ r = false) ∨ (atX S48.f0 s.f0 g5[m]? = false ∧ g5.length ≠ 6 ∧ y5 = g5.take m ++ s :: g5.drop m ∧ r = true)))))
theorem N_min {w : World} {b : Nat} {v4 v5 : Value} {x4 x5 : List S48} (h : ∃ N, Kd.S k48 48 w b (fun k => k < N) v4 x4 ∧ Kd.S k48 48 w b (fun k => N ≤ k) v5 x5) : ∃ N, N ≤ w.heap.size ∧ Kd.S k48 48 w b (fun k => k < N) v4 x4 ∧ Kd.S k48 48 w b (fun k => N ≤ k) v5 x5 := by
 obtain ⟨N, h4, h5⟩ := h
 exact ⟨min N w.heap.size, Nat.min_le_right _ _, Kd.S_mono (Kd.S_bound h4) (fun k hk => by have h1 := hk.1; have h2 := hk.2.2.1; omega), Kd.S_mono h5 (fun k hk => Nat.le_trans (Nat.min_le_left _ _) hk)⟩
theorem insR.f_one {l0 : List (List Value)} {c : List Value} {m : Nat} (h1 : m ≤ l0.length) (h2 : l0.length ≤ 1048576) : insR.f l0 (m : Int) [c] = some (l0.take m ++ ([c] ++ l0.drop m)) := by
 unfold insR.f
 rw [if_pos (show ([c] : List (List Value)).length = 1 from rfl), if_pos (by omega), if_pos (by omega), if_pos (by omega), Int.toNat_natCast]
theorem sz_of {w w1 : World} {g n : Nat} (hf : ∀ k, k ≠ g → w1.heap[k]? = w.heap[k]?) (hg : g + 1 < n) (hn : n ≤ w.heap.size) : n ≤ w1.heap.size := by
 have h1 := hf (n - 1) (by omega)
 rw [Array.getElem?_eq_getElem (show n - 1 < w.heap.size by omega)] at h1
 have := (Array.getElem?_eq_some_iff.1 h1).1
 omega
theorem OG.past42 {w w1 : World} {b N t g : Nat} {cs cc : Array Value} {x0 : Int} {x1 : List S92} {x2 : Int} {x3 : List S105} {x4 : List S48} {x5 : List S48} (h : OG w b N t cs x0 x1 x2 x3 x4 x5) (hg : w.heap[g]? = some (.cells cc 42 (0, 0))) (hw : ∀ k, k ≠ g → w1.heap[k]? = w.heap[k]?) : OG w1 b N t cs x0 x1 x2 x3 x4 x5 := by
 obtain ⟨v1, v3, v4, v5, e, h1, h3, h4, h5⟩ := h
 exact ⟨v1, v3, v4, v5, e, Kd.R_mono (Kd.R_move (Kd.R_types h1 hg (by decide)) (fun k hk => hw k hk.2)) (fun _ h => h.1), Kd.R_mono (Kd.R_move (Kd.R_types h3 hg (by decide)) (fun k hk => hw k hk.2)) (fun _ h => h.1), Kd.S_mono (Kd.S_move (Kd.S_types h4 hg (by decide)) (fun k hk => hw k hk.2)) (fun _ h => h.1), Kd.S_mono (Kd.S_move (Kd.S_types h5 hg (by decide)) (fun k hk => hw k hk.2)) (fun _ h => h.1)⟩
theorem spi_calls (x : S48) (q : List Value) (W : World) (h : k48.K W x q) : Calls Tryz.prog 34 #[.agg q.toArray] W fun e w' => e = .returned (.int .i64 x.f0) ∧ Below W.heap.size W w' := by
 obtain ⟨A, c, rfl, hl, hC⟩ := k48_open h
 exact impl_spiOf.calls x.f0 x.f1 x.f2 x.f3 x.f4 x.f5 x.f6 x.f7 x.f8 x.f9.f0 A c x.f9.f1 x.f0 W hC hl rfl
theorem at0 (W : World) (x : S48) (q : List Value) (h : k48.K W x q) : q[0]? = some (.int .i64 x.f0) := by
 obtain ⟨A, c, rfl, hl, hC⟩ := k48_open h
 rfl
theorem imK (k : Nat) (cs : Array Value) (x0 : Int) (x1 : List S92) (x2 : Int) (x3 : List S105) (x4 : List S48) (x5 : List S48) (s : S48) (sl : List Value) (y0 : Int) (y1 : List S92) (y2 : Int) (y3 : List S105) (y4 : List S48) (y5 : List S48) (r : Bool) (w : World) (H : IG w cs x0 x1 x2 x3 x4 x5) (HS : k48.K w s sl) (h : ikeyP k x0 x1 x2 x3 x4 x5 s y0 y1 y2 y3 y4 y5 r) :
  Calls Tryz.prog 10 #[.agg cs, .agg sl.toArray] w fun e w' => ∃ ds N t, e = .returned (.tuple #[.agg ds, .bool r]) ∧ OG w' w.heap.size N t ds y0 y1 y2 y3 y4 y5 ∧ t ≤ w'.heap.size ∧ Below w.heap.size w w' := by
 obtain ⟨_, _, _, _, rfl, ⟨A1, c1, rfl, l1, h1⟩, ⟨A3, c3, rfl, l3, h3⟩, ⟨A4, c4, rfl, l4, h4⟩, ⟨A5, c5, rfl, l5, h5⟩⟩ := H
 obtain ⟨A, c, rfl, lS, hC⟩ := k48_open HS
 have H1 := am h1
 have H3 := am h3
 have H4 := am h4
 have H5 := am h5
 have HC := am hC
 have EH := am h
 have HB := am (Below.refl w.heap.size w)
 have hu42 := Tryz.underlying42
 have hu40 := Tryz.underlying40
 have hu48 := Tryz.underlying48
 clear h1 h3 h4 h5 h hC HS
 go_enter Tryz.func10, Tryz.ntmps10
 go_upto_region 1 with (first | ((with_reducible refine gate_dst (N := 2) rfl ?_); refine box_event rfl (N := 2) rfl (cs := #[.int .i64 x0, .slice A1 x1.length c1, .int .i64 x2, .slice A3 x3.length c3, .slice A4 x4.length c4, .slice A5 x5.length c5]) (t := 42) BX ?_; intro q1 hg wq hA hb; have W1 := am hA; replace HB := kpH HB hb; clear hg hA hb) | ((with_reducible refine gate_dst (N := 3) rfl ?_); refine box_event rfl (N := 3) rfl (cs := #[.int .i64 s.f0, .int .i64 s.f1, .string s.f2, .string s.f3, .int .i64 s.f4, .int .i64 s.f5, .int .i64 s.f6, .int .i64 s.f7, .int .i64 s.f8, .int .i64 s.f9.f0, .slice A s.f9.f1.length c]) (t := 48) BX ?_; intro qs hg wq hA hb; replace W1 := kpW W1 hb; have WS := am hA; replace HB := kpH HB hb; clear hg hA hb) | ((with_reducible refine gate_dst (N := 4) rfl ?_); refine box_event rfl (N := 4) rfl (cs := #[.int .i64 0, .slice none 0 0, .int .i64 0, .slice none 0 0, .slice none 0 0, .slice none 0 0]) (t := 42) BX ?_; intro q2 hg wq hA hb; have G2 := am (show w.heap.size ≤ q2 by rw [hg]; exact HB.out.size); replace W1 := kpW W1 hb; replace WS := kpW WS hb; have W2 := am hA; replace HB := kpH HB hb; clear hg hA hb))
 rcases EH.out with ⟨hok, rfl, rfl, rfl, rfl, rfl, rfl, rfl⟩ | ⟨hok, g5, fr, hcp, hl5, hfr, hsc, hcase⟩
 ·have EO := am hok
  clear EH hok
  go_wp2_with (first | ((with_reducible refine gate_dst (N := 9) rfl ?_); refine ldbox (t := 42) rfl (.tmp 2) rfl (by rfl) #[.int .i64 x0, .slice A1 x1.length c1, .int .i64 x2, .slice A3 x3.length c3, .slice A4 x4.length c4, .slice A5 x5.length c5] W1.out hu42 rfl (by kernel_rfl) ?_) | (go_at_call 31; refine (impl_GateOk.calls k x0 A1 c1 x1 x2 A3 c3 x3 A4 c4 x4 A5 c5 x5 false _ (Kd.C_below H1.out HB.out) l1 (Kd.C_below H3.out HB.out) l3 (Kd.C_below H4.out HB.out) l4 (Kd.C_below H5.out HB.out) l5 EO.out).mono ?_; rintro e wq ⟨rfl, hb⟩; replace W1 := kpW W1 hb; replace WS := kpW WS hb; replace W2 := kpW W2 hb; replace HB := kpH HB hb; clear hb) | ((with_reducible refine gate_store (t := 42) (p := 4) rfl ?_); refine stseg rfl rfl (.tmp 4) (.tmp 12) rfl (off := 0) (.agg #[.int .i64 0, .slice none 0 0, .int .i64 0, .slice none 0 0, .slice none 0 0, .slice none 0 0]) #[.int .i64 0, .slice none 0 0, .int .i64 0, .slice none 0 0, .slice none 0 0, .slice none 0 0] rfl (by rfl) (by rfl) W2.out (Nat.le_of_ble_eq_true rfl) (by kernel_rfl) (by kernel_rfl) #[.int .i64 0, .slice none 0 0, .int .i64 0, .slice none 0 0, .slice none 0 0, .slice none 0 0] (by rfl) HB.out G2.out ?_; intro wq hA hb hf; replace W2 := am hA; replace HB := am hb; clear hA hb hf))
  refine bodyPost_ret (results_ct rfl _ _ q2 42 #[.int .i64 0, .slice none 0 0, .int .i64 0, .slice none 0 0, .slice none 0 0, .slice none 0 0] (0, 0) _ rfl W2.out hu42 rfl (by kernel_rfl)) rfl ?_
  exact ⟨_, 0, 0, rfl, OG.nil _ _ _ _, Nat.zero_le _, HB.out⟩
 ·have EO := am hok
  have EC := am hcp
  have EF := am hfr
  have ES := am hsc
  have EQ := am hcase
  clear EH hok hcp hfr hsc hcase
  go_upto_region 3 with (first | ((with_reducible refine gate_dst (N := 9) rfl ?_); refine ldbox (t := 42) rfl (.tmp 2) rfl (by rfl) #[.int .i64 x0, .slice A1 x1.length c1, .int .i64 x2, .slice A3 x3.length c3, .slice A4 x4.length c4, .slice A5 x5.length c5] W1.out hu42 rfl (by kernel_rfl) ?_) | (go_at_call 31; refine (impl_GateOk.calls k x0 A1 c1 x1 x2 A3 c3 x3 A4 c4 x4 A5 c5 x5 true _ (Kd.C_below H1.out HB.out) l1 (Kd.C_below H3.out HB.out) l3 (Kd.C_below H4.out HB.out) l4 (Kd.C_below H5.out HB.out) l5 EO.out).mono ?_; rintro e wq ⟨rfl, hb⟩; replace W1 := kpW W1 hb; replace WS := kpW WS hb; replace W2 := kpW W2 hb; replace HB := kpH HB hb; clear hb))
  have LT2 := am (blk_lt W2.out)
  have LTS := am (blk_lt WS.out)
  go_upto_region 4 with (first | ((with_reducible refine gate_dst (N := 13) rfl ?_); refine ldbox (t := 42) rfl (.tmp 2) rfl (by rfl) #[.int .i64 x0, .slice A1 x1.length c1, .int .i64 x2, .slice A3 x3.length c3, .slice A4 x4.length c4, .slice A5 x5.length c5] W1.out hu42 rfl (by kernel_rfl) ?_) | (go_at_call 32; refine (impl_Gate_copied.calls k x0 A1 c1 x1 x2 A3 c3 x3 A4 c4 x4 A5 c5 x5 y0 y1 y2 y3 y4 g5 _ (Kd.C_below H1.out HB.out) l1 (Kd.C_below H3.out HB.out) l3 (Kd.C_below H4.out HB.out) l4 (Kd.C_below H5.out HB.out) l5 EC.out).mono ?_; rintro e wc ⟨v1, v3, v4, v5, rfl, o1, o3, hN, hb⟩; obtain ⟨N, hNs, o4, o5⟩ := N_min hN; obtain ⟨B1, d1, rfl⟩ := Kd.R_slice o1; obtain ⟨B3, d3, rfl⟩ := Kd.R_slice o3; obtain ⟨B4, d4, rfl⟩ := Kd.S_slice o4; obtain ⟨B5, d5, rfl⟩ := Kd.S_slice o5; have OGF := am (OG.of (x0 := y0) (x2 := y2) o1 o3 o4 o5); have LB := am HB.out.size; have OGB := am hb.size; have NT := am hNs; clear hN hNs; replace W1 := kpW W1 hb; replace WS := kpW WS hb; replace W2 := kpW W2 hb; replace HB := kpH HB hb; clear hb o1 o3 o4 o5) | ((with_reducible refine gate_dst (N := 6) rfl ?_); refine mkboxg (N := 6) rfl rfl (cs := #[.int .i64 0, .slice none 0 0, .int .i64 0, .slice none 0 0, .slice none 0 0, .slice none 0 0]) (t := 42) BX rfl rfl (.tmp 6) (.tmp 14) rfl #[.int .i64 y0, .slice B1 y1.length d1, .int .i64 y2, .slice B3 y3.length d3, .slice B4 y4.length d4, .slice B5 g5.length d5] (by intro v; rfl) (by intro v; rfl) rfl (by kernel_rfl) (by kernel_rfl) ?_; intro q3 wq hq3 hA hb; have W3 := am hA; have L3 := am hq3; replace OGF := kpO OGF hb; have TB := am (hb.size); replace W1 := kpW W1 hb; replace WS := kpW WS hb; replace W2 := kpW W2 hb; replace HB := kpH HB hb; clear hA hb hq3))
  have hci := (blk_cell W3.out 5).trans (show _ = some (.slice B5 g5.length d5) from rfl)
  have hcs := (blk_cell WS.out 0).trans (show _ = some (.int .i64 s.f0) from rfl)
  have e34 := enters_of Tryz.func34 (by kernel_rfl) rfl
  obtain ⟨P5, b5, hS5⟩ : ∃ P b, Kd.S k48 48 wq b P (.slice B5 g5.length d5) g5 := by
   obtain ⟨z1, z3, z4, z5, e, hR1, hR3, hS4, hS5⟩ := OGF.out
   have e' := congrArg Array.toList e
   simp only [List.cons.injEq, and_true, true_and] at e'
   obtain ⟨e1, e3, e4, e5⟩ := e'
   subst e5
   exact ⟨_, _, hS5⟩
  have S5 := am hS5
  clear hS5
  go_upto_region 5 with (go_at_call 33; refine (wh.S 34 0 S48.f0 e34 at0 spi_calls s.f0 _ _ g5 _ _ S5.out hl5).mono ?_; rintro e wq ⟨m, hm, hm0, rfl, hb⟩; have HM0 := am hm0; clear hm0; replace W3 := kpW W3 hb; replace OGF := kpO OGF hb; replace W1 := kpW W1 hb; replace WS := kpW WS hb; replace W2 := kpW W2 hb; replace HB := kpH HB hb; clear hb S5)
  clear hci hcs
  have hci := (blk_cell W3.out 5).trans (show _ = some (.slice B5 g5.length d5) from rfl)
  have hQ : ((fr = false ∨ (fr = true ∧ atX S48.f0 s.f0 g5[m]? = true)) ∨ (fr = true ∧ atX S48.f0 s.f0 g5[m]? = false ∧ g5.length = 6)) ∧ y5 = g5 ∧ r = false ∨ fr = true ∧ atX S48.f0 s.f0 g5[m]? = false ∧ g5.length ≠ 6 ∧ y5 = g5.take m ++ s :: g5.drop m ∧ r = true := by
   rcases EQ.out with ⟨h1, h2⟩ | ⟨h1, m0, h2, h3⟩
   ·exact .inl ⟨.inl (.inl h1), h2⟩
   ·rw [HM0.out m0 h2]
    rcases h3 with ⟨h3 | h3, h4⟩ | h3
    ·exact .inl ⟨.inl (.inr ⟨h1, h3⟩), h4⟩
    ·exact .inl ⟨.inr ⟨h1, h3⟩, h4⟩
    ·exact .inr ⟨h1, h3⟩
  clear EQ HM0
  rcases hQ with ⟨hbr, rfl, rfl⟩ | ⟨rfl, hbt, hbl, rfl, rfl⟩
  ·rcases hbr with (rfl | ⟨rfl, hbt⟩) | ⟨rfl, hbt, hbl⟩
   rotate_left 2
   have hlz : (y5.length : Int) = 6 := by omega
   all_goals
    go_upto_region 6 with (first | ((with_reducible refine gate_dst (N := 23) rfl ?_); refine ldbox (t := 42) rfl (.tmp 2) rfl (by rfl) #[.int .i64 x0, .slice A1 x1.length c1, .int .i64 x2, .slice A3 x3.length c3, .slice A4 x4.length c4, .slice A5 x5.length c5] W1.out hu42 rfl (by kernel_rfl) ?_) | ((with_reducible refine gate_dst (N := 24) rfl ?_); refine ldbox (t := 48) rfl (.tmp 3) rfl (by rfl) #[.int .i64 s.f0, .int .i64 s.f1, .string s.f2, .string s.f3, .int .i64 s.f4, .int .i64 s.f5, .int .i64 s.f6, .int .i64 s.f7, .int .i64 s.f8, .int .i64 s.f9.f0, .slice A s.f9.f1.length c] WS.out hu48 rfl (by kernel_rfl) ?_) | (go_at_call 35; refine (impl_Gate_fresh.calls k x0 A1 c1 x1 x2 A3 c3 x3 A4 c4 x4 A5 c5 x5 s.f0 s.f1 s.f2 s.f3 s.f4 s.f5 s.f6 s.f7 s.f8 s.f9.f0 A c s.f9.f1 _ _ (Kd.C_below H1.out HB.out) l1 (Kd.C_below H3.out HB.out) l3 (Kd.C_below H4.out HB.out) l4 (Kd.C_below H5.out HB.out) l5 (Kd.C_below HC.out HB.out) lS EF.out).mono ?_; rintro e wq ⟨rfl, hb⟩; replace W3 := kpW W3 hb; replace hci := (blk_cell W3.out 5).trans (show _ = some (.slice B5 _ d5) from rfl); replace OGF := kpO OGF hb; replace W1 := kpW W1 hb; replace WS := kpW WS hb; replace W2 := kpW W2 hb; replace HB := kpH HB hb; clear hb))
    go_wp2_with (first | ((with_reducible refine gate_dst (N := 36) rfl ?_); refine ldbox (t := 42) rfl (.tmp 6) rfl (by rfl) #[.int .i64 y0, .slice B1 y1.length d1, .int .i64 y2, .slice B3 y3.length d3, .slice B4 y4.length d4, .slice B5 y5.length d5] W3.out hu42 rfl (by kernel_rfl) ?_) | ((with_reducible refine gate_store (t := 42) (p := 4) rfl ?_); refine stseg rfl rfl (.tmp 4) (.tmp 36) rfl (off := 0) (.agg #[.int .i64 y0, .slice B1 y1.length d1, .int .i64 y2, .slice B3 y3.length d3, .slice B4 y4.length d4, .slice B5 y5.length d5]) #[.int .i64 y0, .slice B1 y1.length d1, .int .i64 y2, .slice B3 y3.length d3, .slice B4 y4.length d4, .slice B5 y5.length d5] rfl (by rfl) (by rfl) W2.out (Nat.le_of_ble_eq_true rfl) (by kernel_rfl) (by kernel_rfl) #[.int .i64 y0, .slice B1 y1.length d1, .int .i64 y2, .slice B3 y3.length d3, .slice B4 y4.length d4, .slice B5 y5.length d5] (by rfl) HB.out G2.out ?_; intro wq hA hb hf; replace W2 := am hA; replace HB := am hb; replace W3 := am ((hf _ (by have := LT2.out; have := L3.out; have := OGB.out; omega)).trans W3.out); replace OGF := am (OGF.out.keep (fun k h1 h2 _ => hf k (by have := LT2.out; omega))); clear hA hb hf))
    refine bodyPost_ret (results_ct rfl _ _ q2 42 #[.int .i64 y0, .slice B1 y1.length d1, .int .i64 y2, .slice B3 y3.length d3, .slice B4 y4.length d4, .slice B5 y5.length d5] (0, 0) _ rfl W2.out hu42 rfl (by kernel_rfl)) rfl ?_
    exact ⟨_, N, _, rfl, OGF.out.lower LB.out, by rw [← L3.out]; exact Nat.le_of_lt (blk_lt W3.out), HB.out⟩
  ·have hlz : ¬ (g5.length : Int) = 6 := by omega
   go_upto_region 7 with (first | ((with_reducible refine gate_dst (N := 23) rfl ?_); refine ldbox (t := 42) rfl (.tmp 2) rfl (by rfl) #[.int .i64 x0, .slice A1 x1.length c1, .int .i64 x2, .slice A3 x3.length c3, .slice A4 x4.length c4, .slice A5 x5.length c5] W1.out hu42 rfl (by kernel_rfl) ?_) | ((with_reducible refine gate_dst (N := 24) rfl ?_); refine ldbox (t := 48) rfl (.tmp 3) rfl (by rfl) #[.int .i64 s.f0, .int .i64 s.f1, .string s.f2, .string s.f3, .int .i64 s.f4, .int .i64 s.f5, .int .i64 s.f6, .int .i64 s.f7, .int .i64 s.f8, .int .i64 s.f9.f0, .slice A s.f9.f1.length c] WS.out hu48 rfl (by kernel_rfl) ?_) | (go_at_call 35; refine (impl_Gate_fresh.calls k x0 A1 c1 x1 x2 A3 c3 x3 A4 c4 x4 A5 c5 x5 s.f0 s.f1 s.f2 s.f3 s.f4 s.f5 s.f6 s.f7 s.f8 s.f9.f0 A c s.f9.f1 _ _ (Kd.C_below H1.out HB.out) l1 (Kd.C_below H3.out HB.out) l3 (Kd.C_below H4.out HB.out) l4 (Kd.C_below H5.out HB.out) l5 (Kd.C_below HC.out HB.out) lS EF.out).mono ?_; rintro e wq ⟨rfl, hb⟩; replace W3 := kpW W3 hb; replace hci := (blk_cell W3.out 5).trans (show _ = some (.slice B5 _ d5) from rfl); replace OGF := kpO OGF hb; replace W1 := kpW W1 hb; replace WS := kpW WS hb; replace W2 := kpW W2 hb; replace HB := kpH HB hb; clear hb))
   have hvb : ∀ k, (Value.slice B5 g5.length d5).ownBlock = some k → q2 < k ∧ qs < k ∧ w.heap.size ≤ k := by
    obtain ⟨z1, z3, z4, z5, e, _, _, _, hS5⟩ := OGF.out
    have e' := congrArg Array.toList e
    simp only [List.cons.injEq, and_true, true_and] at e'
    obtain ⟨e1, e3, e4, e5⟩ := e'
    subst e5
    intro k hk
    have h1 := Kd.S_base hS5 k hk
    have h2 := LT2.out
    have h3 := LTS.out
    have h4 := LB.out
    omega
   have VB := am hvb
   clear hvb
   obtain ⟨z1, z3, z4, z5, e, hR1, hR3, hS4, hS5⟩ := OGF.out.lower LB.out
   have e' := congrArg Array.toList e
   simp only [List.cons.injEq, and_true, true_and] at e'
   obtain ⟨e1, e3, e4, e5⟩ := e'
   subst e1 e3 e4 e5
   have hvo := (Kd.S_R hS5).1
   have R1 := am hR1
   have R3 := am hR3
   have S4 := am hS4
   have S5 := am hS5
   have VO := am hvo
   have NQ := am (show N ≤ wc.heap.size from NT.out)
   clear hR1 hR3 hS4 hS5 hvo e OGF
   refine start_ (n := 9) (S := fun w' => w'.cell? ⟨q3, 5, none⟩ = some (.slice B5 g5.length d5) ∧ w'.heap[qs]? = some (.cells #[.int .i64 s.f0, .int .i64 s.f1, .string s.f2, .string s.f3, .int .i64 s.f4, .int .i64 s.f5, .int .i64 s.f6, .int .i64 s.f7, .int .i64 s.f8, .int .i64 s.f9.f0, .slice A s.f9.f1.length c] 48 (0, 0))) (ds := [8]) (tf 0 9) (by kernel_rfl) rfl rfl ⟨hci, WS.out⟩ (fun hHeld => ?_)
   refine tk 0 (some 37) (tf 1 8) (by kernel_rfl) hHeld ?_
   refine tk 1 (some 38) (tf 2 7) (by kernel_rfl) hHeld ?_
   refine tk 2 (some 39) (tf 3 6) (by kernel_rfl) hHeld ?_
   refine tk 3 (some 40) (tf 4 5) (by kernel_rfl) hHeld ?_ (hy := yld (by rfl) (.tmp 3) rfl (by rfl) #[.int .i64 s.f0, .int .i64 s.f1, .string s.f2, .string s.f3, .int .i64 s.f4, .int .i64 s.f5, .int .i64 s.f6, .int .i64 s.f7, .int .i64 s.f8, .int .i64 s.f9.f0, .slice A s.f9.f1.length c] (fun w h => h.2) hu48 rfl (by kernel_rfl))
   refine one_ (i := 4) (N := some 41) (tf 5 4) rfl rfl (by kernel_rfl) (by decide) (fun K hK => ?_)
   refine goes_ Tryz.func37 (by kernel_rfl) rfl #[.agg #[.int .i64 s.f0, .int .i64 s.f1, .string s.f2, .string s.f3, .int .i64 s.f4, .int .i64 s.f5, .int .i64 s.f6, .int .i64 s.f7, .int .i64 s.f8, .int .i64 s.f9.f0, .slice A s.f9.f1.length c]] (by rfl) rfl rfl MT ?_
   refine (impl_Sa_copied.calls s.f0 s.f1 s.f2 s.f3 s.f4 s.f5 s.f6 s.f7 s.f8 s.f9.f0 A c s.f9.f1 s.f0 s.f1 s.f2 s.f3 s.f4 s.f5 s.f6 s.f7 s.f8 s.f9.f0 s.f9.f1 _ (Kd.C_below HC.out (below_drew HB.out)) lS ES.out).mono ?_
   rintro e w4 ⟨v10, rfl, hv10, hb0⟩
   have hb := below_then (below_drew (Below.refl wq.heap.size wq)) (Nat.le_refl _) hb0
   clear hb0
   refine ⟨_, rfl, ?_⟩
   have LT3 := am (blk_lt W3.out)
   replace R1 := am (R_kp R1.out (fun k _ hk => hb.block k hk))
   replace R3 := am (R_kp R3.out (fun k _ hk => hb.block k hk))
   replace S4 := am (S_kp S4.out (fun k _ hk => hb.block k hk))
   replace S5 := am (S_kp S5.out (fun k _ hk => hb.block k hk))
   replace W2 := kpW W2 hb
   replace WS := kpW WS hb
   replace W3 := kpW W3 hb
   have HT := am HB.out.size
   replace HB := kpH HB hb
   have TS := am hb.size
   have V10 := am hv10
   have hci := (blk_cell W3.out 5).trans (show _ = some (.slice B5 g5.length d5) from rfl)
   clear hb hv10
   refine hK.out _ _ ⟨hci, WS.out⟩ (fun hHeld => ?_)
   clear hK K hHeld
   refine nm (some 41) ?_
   refine one_ (i := 5) (N := some 42) (tf 6 3) rfl rfl (by kernel_rfl) (by decide) (fun K hK => ?_)
   refine value_ (w1 := ?_) (v := ?_) (by rfl) rfl ?_ ?_
   rotate_left 2
   ·go_simp
    constructor
    ·rfl
    ·rfl
   have LT2' := am (blk_lt W2.out)
   have LTS' := am (blk_lt WS.out)
   have hB5 : Below w4.heap.size w4 (w4.alloc (.cells #[.int .i64 s.f0, .int .i64 s.f1, .string s.f2, .string s.f3, .int .i64 s.f4, .int .i64 s.f5, .int .i64 s.f6, .int .i64 s.f7, .int .i64 s.f8, .int .i64 s.f9.f0, v10] 48)) := below_alloc (Below.refl _ _) _
   have hA5 : (w4.alloc (.cells #[.int .i64 s.f0, .int .i64 s.f1, .string s.f2, .string s.f3, .int .i64 s.f4, .int .i64 s.f5, .int .i64 s.f6, .int .i64 s.f7, .int .i64 s.f8, .int .i64 s.f9.f0, v10] 48)).heap[w4.heap.size]? = some (.cells #[.int .i64 s.f0, .int .i64 s.f1, .string s.f2, .string s.f3, .int .i64 s.f4, .int .i64 s.f5, .int .i64 s.f6, .int .i64 s.f7, .int .i64 s.f8, .int .i64 s.f9.f0, v10] 48 (0, 0)) := by
    show (w4.heap.push _)[w4.heap.size]? = _
    exact Array.getElem?_push_size
   generalize (w4.alloc (.cells #[.int .i64 s.f0, .int .i64 s.f1, .string s.f2, .string s.f3, .int .i64 s.f4, .int .i64 s.f5, .int .i64 s.f6, .int .i64 s.f7, .int .i64 s.f8, .int .i64 s.f9.f0, v10] 48)) = w5 at hB5 hA5 ⊢
   replace R1 := am (R_kp R1.out (fun k _ hk => hB5.block k hk))
   replace R3 := am (R_kp R3.out (fun k _ hk => hB5.block k hk))
   replace S4 := am (S_kp S4.out (fun k _ hk => hB5.block k hk))
   replace S5 := am (S_kp S5.out (fun k _ hk => hB5.block k hk))
   replace W2 := kpW W2 hB5
   replace WS := kpW WS hB5
   replace W3 := kpW W3 hB5
   replace HB := kpH HB hB5
   have hM5 : k48.M w5 w.heap.size (fun k => wq.heap.size ≤ k ∧ k < w4.heap.size) s [.int .i64 s.f0, .int .i64 s.f1, .string s.f2, .string s.f3, .int .i64 s.f4, .int .i64 s.f5, .int .i64 s.f6, .int .i64 s.f7, .int .i64 s.f8, .int .i64 s.f9.f0, v10] := k48_mkM w5 _ _ s (Kd.R_mono (Kd.R_lower (R_kp (Kd.R_bound V10.out) (fun k _ hk => hB5.block k hk)) HT.out) (fun k hk => ⟨hk.2.1, hk.2.2.1⟩))
   obtain ⟨f, rows, hr, hle, hM⟩ := raw_of_S S5.out
   have t1 := L3.out
   have t2 := LT3.out
   have t3 := TS.out
   have t4 := HT.out
   have hI := insR.calls (fun k => some k = (Value.slice B5 g5.length d5).ownBlock) (.slice B5 g5.length d5) rows (m : Int) (fun k => k = w4.heap.size) (.slice (some ⟨w4.heap.size, 0, none⟩) 1 1) [[.int .i64 s.f0, .int .i64 s.f1, .string s.f2, .string s.f3, .int .i64 s.f4, .int .i64 s.f5, .int .i64 s.f6, .int .i64 s.f7, .int .i64 s.f8, .int .i64 s.f9.f0, v10]] (rows.take m ++ ([[.int .i64 s.f0, .int .i64 s.f1, .string s.f2, .string s.f3, .int .i64 s.f4, .int .i64 s.f5, .int .i64 s.f6, .int .i64 s.f7, .int .i64 s.f8, .int .i64 s.f9.f0, v10]] ++ rows.drop m)) w w5 HB.out (raw_own hr)
    (fun k h1 h2 => by have := VO.out k h1.symm; omega) (raw_one (by omega) rfl (k48.K_one (k48.K_of_M hM5)) hA5) (fun k h1 h2 => by have := VO.out k h2.symm; omega)
    (insR.f_one (by omega) (by omega))
   have QA := am hA5
   have MM := am hM
   have M5 := am hM5
   have II := am hI
   have LT5 := am (blk_lt hA5)
   clear hB5 hA5 hM5 hM hI hr t1 t2 t3 t4
   have hci := (blk_cell W3.out 5).trans (show _ = some (.slice B5 g5.length d5) from rfl)
   refine hK.out _ _ ⟨hci, WS.out⟩ (fun hHeld => ?_)
   clear hK K hHeld
   refine nm (some 42) ?_
   refine one_ (i := 6) (N := some 43) (tf 7 2) rfl rfl (by kernel_rfl) (by decide) (fun K hK => ?_)
   refine goes_ Tryz.func36 (by kernel_rfl) rfl #[.slice B5 g5.length d5, .int .i64 (m : Int), .slice (some ⟨w4.heap.size, 0, none⟩) 1 1] (by rfl) rfl rfl MT ?_
   refine II.out.mono ?_
   rintro e w6 ⟨v0, rfl, hR6, hB6, hK6⟩
   refine ⟨_, rfl, ?_⟩
   have t1 := L3.out
   have t2 := LT3.out
   have t3 := TS.out
   have t4 := HT.out
   have hS6 := ins_S (N := N) (t := wc.heap.size) (T := wq.heap.size) (qv := w4.heap.size) f hm hle NQ.out (by omega) t3 LT5.out VO.out MM.out M5.out (fun k h1 h2 h3 => hK6.2 k h1 (fun h => h.elim h2 h3)) hR6
   have hty := Kd.S_typed S5.out
   have hR1 : Kd.R k92 92 w6 w.heap.size (fun k => k < w6.heap.size) (.slice B1 y1.length d1) y1 := Kd.R_mono (Kd.R_bound (Kd.R_step (Kd.R_apart' R1.out hty (by decide)) (fun k hk' hlt => hK6.2 k hlt (fun e => e.elim (fun e => hk'.2 e) (fun e => by have := hk'.1; omega))))) (fun _ h => h.2.2.1)
   have hR3 : Kd.R k105 105 w6 w.heap.size (fun k => k < w6.heap.size) (.slice B3 y3.length d3) y3 := Kd.R_mono (Kd.R_bound (Kd.R_step (Kd.R_apart' R3.out hty (by decide)) (fun k hk' hlt => hK6.2 k hlt (fun e => e.elim (fun e => hk'.2 e) (fun e => by have := hk'.1; omega))))) (fun _ h => h.2.2.1)
   have hS4 : Kd.S k48 48 w6 w.heap.size (fun k => k < N ∧ k < w6.heap.size) (.slice B4 y4.length d4) y4 := Kd.S_mono (Kd.S_bound (Kd.S_step S4.out (fun k h1 h2 => hK6.2 k h2 (fun e => e.elim (fun e => by have := VO.out k e.symm; omega) (fun e => by omega))))) (fun _ h => ⟨h.1.1, h.2.2.1⟩)
   have hS5 : Kd.S k48 48 w6 w.heap.size (fun k => N ≤ k ∧ k < w6.heap.size) v0 (g5.take m ++ s :: g5.drop m) := Kd.S_mono (Kd.S_bound hS6) (fun _ h => ⟨h.1, h.2.2.1⟩)
   obtain ⟨B0, d0, LL, rfl⟩ : ∃ A c L, v0 = .slice A L c := by
    obtain ⟨A, c, h⟩ := Kd.S_slice hS5
    exact ⟨A, c, _, h⟩
   have OG6 : Aside0 (OG w6 w.heap.size N w6.heap.size #[.int .i64 y0, .slice B1 y1.length d1, .int .i64 y2, .slice B3 y3.length d3, .slice B4 y4.length d4, .slice B0 LL d0] y0 y1 y2 y3 y4 (g5.take m ++ s :: g5.drop m)) := am ⟨_, _, _, _, rfl, hR1, hR3, hS4, hS5⟩
   replace W2 := am ((hK6.2 q2 (blk_lt W2.out) (fun e => e.elim (fun e => by have := (VB.out q2 e.symm).1; omega) (fun e => by have := LT2'.out; omega))).trans W2.out)
   replace WS := am ((hK6.2 qs (blk_lt WS.out) (fun e => e.elim (fun e => by have := (VB.out qs e.symm).2.1; omega) (fun e => by have := LTS'.out; omega))).trans WS.out)
   replace W3 := am ((hK6.2 q3 (blk_lt W3.out) (fun e => e.elim (fun e => by have := (VO.out q3 e.symm).2; omega) (fun e => by omega))).trans W3.out)
   have S6 := am (show q2 + 1 < w6.heap.size by have := LT2'.out; have := LT5.out; have := hK6.1; omega)
   replace HB := am hB6
   clear hR1 hR3 hS4 hS5 hS6 hty hR6 hB6 hK6 II MM M5 QA t1 t2 t3 t4 R1 R3 S4 S5
   have hci := (blk_cell W3.out 5).trans (show _ = some (.slice B5 g5.length d5) from rfl)
   refine hK.out _ _ ⟨hci, WS.out⟩ (fun hHeld => ?_)
   clear hK K
   refine nm (some 43) ?_
   refine tk 7 (some 44) (tf 8 1) (by kernel_rfl) hHeld ?_
   clear hHeld
   refine last_ (i := 8) (N := none) (tf 9 0) rfl rfl (by kernel_rfl) (by decide) (fun K hK => ?_)
   refine skip_ (w1 := ?_) (by rfl) rfl ?_ ?_
   rotate_left
   ·have hfz := blk_frozen W3.out 5
    go_simp
    rfl
   refine hK.out _ _ ?_
   clear hK K hci
   refine done_ (by kernel_rfl) ?_
   have HQ := am (show w.heap.size ≤ q3 by have := L3.out; have := TB.out; have := LB.out; have := OGB.out; omega)
   replace OG6 := am (OG6.out.past42 W3.out (fun k hk => Below.heap_setCell _ ⟨q3, 5, none⟩ (.slice B0 LL d0) k hk))
   replace W2 := am ((Below.heap_setCell _ ⟨q3, 5, none⟩ (.slice B0 LL d0) q2 (by have := LT2.out; have := L3.out; have := OGB.out; show q2 ≠ q3; omega)).trans W2.out)
   replace W3 := am (blk_put (cs' := #[.int .i64 y0, .slice B1 y1.length d1, .int .i64 y2, .slice B3 y3.length d3, .slice B4 y4.length d4, .slice B0 LL d0]) W3.out 5 (.slice B0 LL d0) rfl)
   replace HB := am (below_set (j := 5) (v := .slice B0 LL d0) HB.out HQ.out)
   have SZ : Aside0 (w6.heap.size ≤ (w6.setCell ⟨q3, 5, none⟩ (.slice B0 LL d0)).heap.size) := am (by simp [World.setCell])
   generalize w6.setCell ⟨q3, 5, none⟩ (.slice B0 LL d0) = w7 at OG6 W2 W3 HB SZ ⊢
   go_wp2_with (first | ((with_reducible refine gate_dst (N := 45) rfl ?_); refine ldbox (t := 42) rfl (.tmp 6) rfl (by rfl) #[.int .i64 y0, .slice B1 y1.length d1, .int .i64 y2, .slice B3 y3.length d3, .slice B4 y4.length d4, .slice B0 LL d0] W3.out hu42 rfl (by kernel_rfl) ?_) | ((with_reducible refine gate_store (t := 42) (p := 4) rfl ?_); refine stseg rfl rfl (.tmp 4) (.tmp 45) rfl (off := 0) (.agg #[.int .i64 y0, .slice B1 y1.length d1, .int .i64 y2, .slice B3 y3.length d3, .slice B4 y4.length d4, .slice B0 LL d0]) #[.int .i64 y0, .slice B1 y1.length d1, .int .i64 y2, .slice B3 y3.length d3, .slice B4 y4.length d4, .slice B0 LL d0] rfl (by rfl) (by rfl) W2.out (Nat.le_of_ble_eq_true rfl) (by kernel_rfl) (by kernel_rfl) #[.int .i64 y0, .slice B1 y1.length d1, .int .i64 y2, .slice B3 y3.length d3, .slice B4 y4.length d4, .slice B0 LL d0] (by rfl) HB.out G2.out ?_; intro wq hA hb hf; have WX := am W2.out; clear W2; have W2 := am hA; replace HB := am hb; replace OG6 := am (OG6.out.past42 WX.out hf); replace SZ := am (sz_of hf S6.out SZ.out); clear hA hb hf))
   refine bodyPost_ret (results_ct rfl _ _ q2 42 #[.int .i64 y0, .slice B1 y1.length d1, .int .i64 y2, .slice B3 y3.length d3, .slice B4 y4.length d4, .slice B0 LL d0] (0, 0) _ rfl W2.out hu42 rfl (by kernel_rfl)) rfl ?_
   exact ⟨_, rfl, N, _, OG6.out, SZ.out, HB.out⟩
end Go.Proofs.YtgoblfacfjnanaaGreat.PAll
end
