/- Contracts of the functions that the statement reaches, printed by a program out of the translation and joined with the plain laws. -/
import Derived.Shelf.RegionOpenPlain
import Derived.WalkKit
import Derived.Deep.LoopGhost
import Derived.Deep.RegionLaw
import Derived.Lib.Walk
import Derived.Lib.SliceRun
import Derived.Laws.IdiomCopy
import Derived.Lib.LazyBuf
import Derived.Shelf.Spec.SlicesInsertGrow
import Derived.Test.YtlpmmmhfceeiaaaCFnWindowSee3
section
namespace Go.Proofs.Ytlpmmmhfceeiaaa.PAll
open Go.RowKit Go.Proofs.YtlpmmmhfceeiaaaW.PrintWords Go.Proofs.YtlpmmmhfceeiaaaW.PrintLast Go.Proofs.YtlpmmmhfceeiaaaW.PrintMore
attribute [local go_sem] max2_int min2_int max_two min_two max_three min_three max_four min_four   -- for this text's walks alone
set_option linter.unusedVariables false
set_option linter.unusedSimpArgs false
theorem clear_cells {P : Program} (w : World) (t e ty : TypeId) (z : Value) (ht : P.underlying t = some (.slice e)) (hv : ∀ w, (zeroValue e).run P w = .ok z w) (b o n c : Nat) (hn : 0 < n)
  (h1 : ∀ v ∈ (Builtin.zeroCells z.cells n).toList, v.oneCell' = true)
  (hc : ∀ j, j < (Builtin.zeroCells z.cells n).toList.length → (w.cell? ⟨b, o + j, none⟩).isSome = true) (hf : ∀ j, j < (Builtin.zeroCells z.cells n).toList.length → w.frozen? ⟨b, o + j, none⟩ = false) :
  (Builtin.clear_ #[t] ty #[.slice (some ⟨b, o, none⟩) n c]).run P w = .ok (.tuple #[]) (w.setCells b o (Builtin.zeroCells z.cells n).toList) := by
 have hst := run_storeCells_cells (P := P) b o (Builtin.zeroCells z.cells n).toList 0 w (by simpa using hc) (by simpa using hf) h1
 simp only [Nat.add_zero] at hst
 obtain ⟨m, rfl⟩ : ∃ m, n = m + 1 := ⟨n - 1, by omega⟩
 simp [Builtin.clear_, run_underlying ht, hv, hst]
theorem zeroCells_len (z : Array Value) (n : Nat) : (Builtin.zeroCells z n).toList.length = n * z.size := by
 simp [Builtin.zeroCells, Nat.mul_comm]
theorem blk_some {w : World} {g : Nat} {cur : Array Value} {e : TypeId} (h : w.heap[g]? = some (.cells cur e (0, 0))) (o : Nat) (ho : o < cur.size) : (w.cell? ⟨g, o, none⟩).isSome = true := by
 rw [blk_cell h o]; simp [ho]
theorem zeroCells_one (z : Array Value) (n : Nat) (h : ∀ v ∈ z, v.oneCell' = true) : ∀ v ∈ (Builtin.zeroCells z n).toList, v.oneCell' = true := by
 intro v hv
 simp only [Builtin.zeroCells, Array.toList_map, List.mem_map] at hv
 obtain ⟨i, hi, rfl⟩ := hv
 rw [Array.mem_toList_iff, Array.mem_range] at hi
 have hz : 0 < z.size := by
  rcases Nat.eq_zero_or_pos z.size with h0 | h0
  ·rw [h0] at hi; omega
  ·exact h0
 rw [getElem!_pos z _ (Nat.mod_lt _ hz)]
 exact h _ (Array.getElem_mem _)
theorem copy_cellsM {P : Program} (w : World) (dT sT ty elem : TypeId) (i : TypeInfo) (size : Nat) (b o dLen dCap : Nat) (a : Addr) (sLen sCap n : Nat) (cs : List Value)
  (hu : P.underlying dT = some (.slice elem)) (hi : P.info? elem = some i) (hsz : i.size = size) (hn : n = Nat.min sLen dLen) (hl : cs.length = n * size)
  (hsrc : ∀ j v, cs[j]? = some v → w.cell? (a.add j) = some v) (hc : ∀ j, j < cs.length → (w.cell? ⟨b, o + j, none⟩).isSome = true) (hf : ∀ j, j < cs.length → w.frozen? ⟨b, o + j, none⟩ = false) (h1 : ∀ v ∈ cs, v.oneCell' = true) :
  (Builtin.copy_ #[dT, sT] ty #[.slice (some ⟨b, o, none⟩) dLen dCap, .slice (some a) sLen sCap]).run P w = .ok (goInt n) (w.setCells b o cs) := by
 have hld := run_loadCells_list (P := P) w a cs hsrc
 have hst := run_storeCells_cells (P := P) b o cs 0 w (by simpa using hc) (by simpa using hf) h1
 rw [hl] at hld
 simp [Builtin.copy_, run_underlying hu, Builtin.lenOf, Builtin.firstCells, sizeOf, typeInfo, hi, hsz, ← hn, hld, hst]
theorem row_get {w : World} {g : Nat} {cur : Array Value} {e : TypeId} {cs : List Value} {m : Nat} (hg : w.heap[g]? = some (.cells cur e (0, 0))) (hcs : cs = cur.toList.take m) : ∀ j v, cs[j]? = some v → w.cell? ⟨g, j, none⟩ = some v := fun j v hj => by
 have hlt := (List.getElem?_eq_some_iff.1 hj).1
 rw [hcs, List.length_take] at hlt
 rw [hcs, List.getElem?_take_of_lt (by omega), Array.getElem?_toList] at hj
 rw [blk_cell hg j]; exact hj
theorem reps_to {α : Type} {d : Kd α} {w w' : World} {base : Nat} {ok ok' : Nat → Prop} {xs : List α} {inner : List Value} (h : Reps (d.M w base ok) d.sz xs inner) (hm : ∀ k, ok k → k < w.heap.size → w'.heap[k]? = w.heap[k]? ∧ ok' k) : Reps (d.M w' base ok') d.sz xs inner :=
 h.imp_ (fun p cs hp => d.M_mono (fun k hk => (hm k hk.1 hk.2.2.1).2) (Kd.M_step (d.M_bound hp) (fun k hk hlt => (hm k hk.1 hlt).1)))
theorem R_mk {α : Type} {d : Kd α} {e base : Nat} {w' : World} {ok : Nat → Prop} {g c n : Nat} {cur : Array Value} {xs : List α} {inner : List Value} (hn : n = xs.length) (hok : ok g) (hb : base ≤ g) (hh : w'.heap[g]? = some (.cells cur e (0, 0))) (hl : n ≤ c) (hc : c ≤ 9223372036854775807) (hs : cur.size = c * d.sz)
  (hi : inner.length = n * d.sz) (ht : cur.toList.take (n * d.sz) = inner) (hr : Reps (d.M w' base (fun k => ok k ∧ some k ≠ some g)) d.sz xs inner) : d.R e w' base ok (.slice (some ⟨g, 0, none⟩) n c) xs := by
 subst hn
 exact ⟨fun k hk => by cases hk; exact hok, inner, ⟨hi, .inr ⟨g, c, cur, rfl, hb, hh, hl, hc, hs, ht⟩⟩, hr⟩
theorem reps_one {α : Type} {d : Kd α} {w : World} {base : Nat} {ok : Nat → Prop} {xs : List α} {inner : List Value} (h : Reps (d.M w base ok) d.sz xs inner) (hs : 0 < d.sz) : ∀ v ∈ inner, v.oneCell' = true := by
 intro v hv
 obtain ⟨q, hq, rfl⟩ := List.getElem_of_mem hv
 have hl := h.1
 have hqm : q / d.sz < xs.length := by rw [hl] at hq; exact Nat.div_lt_of_lt_mul (by rw [Nat.mul_comm]; exact hq)
 have hrr := h.2 (q / d.sz) _ (List.getElem?_eq_getElem hqm)
 refine d.K_one (d.K_of_M hrr) _ (List.mem_of_getElem? (i := q % d.sz) ?_)
 have e : q / d.sz * d.sz + q % d.sz = q := by rw [Nat.mul_comm]; exact Nat.div_add_mod q d.sz
 rw [List.getElem?_take_of_lt (Nat.mod_lt _ hs), List.getElem?_drop, e, List.getElem?_eq_getElem hq]
set_option maxHeartbeats 4000000 in
set_option maxRecDepth 100000 in
/-- slices.Insert of one element: there is room, not at the end: in place. -/
theorem slices_Insert_int.shift (g n c i vb vc : Nat) (cur curv : Array Value) (cs vs : List Value) (w : World) (hg : w.heap[g]? = some (.cells cur 3 (0, 0))) (hv : w.heap[vb]? = some (.cells curv 3 (0, 0)))
  (hi : i < n) (hroom : n + 1 ≤ c) (hc63 : c ≤ 9223372036854775807) (hcz : cur.size = c * 1) (hvz : 1 ≤ curv.size) (hvb : vb ≠ g) (hcs : cs = cur.toList.take (n * 1)) (hvs : vs = curv.toList.take 1)
  (h1c : ∀ v ∈ cs, v.oneCell' = true) (h1v : ∀ v ∈ vs, v.oneCell' = true) :
  Calls Try.prog 51 #[.slice (some ⟨g, 0, none⟩) n c, .int .i64 i, .slice (some ⟨vb, 0, none⟩) 1 vc] w fun e w' =>
   e = .returned (.slice (some ⟨g, 0, none⟩) (n + 1) c) ∧ w' = (w.drew.setCells g ((i + 1) * 1) (cs.drop (i * 1))).setCells g (i * 1) vs := by
 have u22 := Try.underlying22
 have hz2 : ¬ ((i : Int) = (n : Int)) := by omega
 obtain ⟨i0, hi0, hii⟩ : ∃ i0, Try.prog.info? 3 = some i0 ∧ i0.size = 1 := by
  have := info3
  cases h : Try.prog.info? 3 with
  | none => rw [h] at this; cases this
  | some i0 => rw [h] at this; simp at this; exact ⟨i0, rfl, this.2.1⟩
 have hov : ∀ lb cb, (callFunc 95 #[.slice (some ⟨vb, 0, none⟩) 1 vc, .slice (some ⟨g, (i + 1) * 1, none⟩) lb cb]).run Try.prog w = .ok (.value (.bool false)) w := fun lb cb => by
  rw [run_callFunc_extern Try.func95 (by kernel_rfl) (by kernel_rfl) (by kernel_rfl) (e := Extern.SlicesOverlaps.overlaps #[22, 22] #[4]) (by kernel_rfl),
   Lib.run_overlaps_apart w 22 4 3 Try.underlying22 1 Try.sizeOf3 ⟨vb, 0, none⟩ ⟨g, (i + 1) * 1, none⟩ 1 vc lb cb hvb 3 3 curv.size cur.size (by simp [World.shape?, hv]) (by simp [World.shape?, hg]) (by omega) (blk_frozen hv _) (blk_frozen hv _)]
  rfl
 have hcl : cs.length = n * 1 := by rw [hcs, List.length_take, Array.length_toList, hcz]; omega
 have hvl : vs.length = 1 := by rw [hvs, List.length_take, Array.length_toList]; omega
 have hdl : (cs.drop (i * 1)).length = (n - i) * 1 := by rw [List.length_drop, hcl, Nat.sub_mul]
 have hmx : Try.prog.follows .mixedOrders = true := by kernel_rfl
 have hw1 : IntKind.i64.wrap ((i : Int) + 1) = (i : Int) + 1 := by rw [IntKind.wrap_i64]; omega
 have hb1 : (0 : Int) ≤ (i : Int) + 1 := by omega
 have hin : i ≤ n := by omega
 have htn : ((i : Int) + 1).toNat = i + 1 := by omega
 have hb2 : ¬ (c = i + 1) := by omega
 have hb3 : (i : Int) ≤ (n : Int) + 1 := by omega
 have hb4 : ¬ (c = i) := by omega
 have hcget : ∀ j v, cs[j]? = some v → w.cell? ⟨g, j, none⟩ = some v := fun j v hj => by
  have hlt := (List.getElem?_eq_some_iff.1 hj).1
  rw [hcl] at hlt
  rw [hcs, List.getElem?_take_of_lt hlt, Array.getElem?_toList] at hj
  rw [blk_cell hg j]; exact hj
 have hvget : ∀ j v, vs[j]? = some v → w.cell? ⟨vb, j, none⟩ = some v := fun j v hj => by
  have hlt := (List.getElem?_eq_some_iff.1 hj).1
  rw [hvl] at hlt
  rw [hvs, List.getElem?_take_of_lt hlt, Array.getElem?_toList] at hj
  rw [blk_cell hv j]; exact hj
 have hcp1 : ∀ ty dc sc, (Builtin.copy_ #[22, 22] ty #[.slice (some ⟨g, (i + 1) * 1, none⟩) (n - i) dc, .slice (some ⟨g, i * 1, none⟩) (n + 1 - i) sc]).run Try.prog w.drew = .ok (goInt ((n - i : Nat) : Int)) (w.drew.setCells g ((i + 1) * 1) (cs.drop (i * 1))) := fun ty dc sc =>
  copy_cellsM w.drew _ _ ty 3 i0 1 g ((i + 1) * 1) (n - i) dc ⟨g, i * 1, none⟩ (n + 1 - i) sc (n - i) (cs.drop (i * 1)) Try.underlying22 hi0 hii (by simp only [Nat.min_def]; split <;> omega) hdl
   (fun j v hj => by rw [Addr.add_lit]; exact hcget _ v (by rwa [List.getElem?_drop] at hj))
   (fun j hj => blk_some hg _ (by rw [hdl] at hj; omega)) (fun j hj => blk_frozen hg _) (fun v hv => h1c v (List.mem_of_mem_drop hv))
 obtain ⟨W1, hW1⟩ : ∃ W1, W1 = w.drew.setCells g ((i + 1) * 1) (cs.drop (i * 1)) := ⟨_, rfl⟩
 obtain ⟨cur1, hc1, hs1, _⟩ := setCells_row (cs.drop (i * 1)) ((i + 1) * 1) w.drew cur hg (by rw [hdl, hcz]; omega)
 have hv1 : W1.heap[vb]? = some (.cells curv 3 (0, 0)) := by rw [hW1]; exact (setCells_far _ _ vb hvb).trans hv
 rw [← hW1] at hc1
 have hcp2 : ∀ (W : World), (∀ x, W.cell? x = W1.cell? x) → (∀ x, W.frozen? x = W1.frozen? x) → ∀ ty dc, (Builtin.copy_ #[22, 22] ty #[.slice (some ⟨g, i * 1, none⟩) (n + 1 - i) dc, .slice (some ⟨vb, 0, none⟩) 1 vc]).run Try.prog W = .ok (goInt ((1 : Nat) : Int)) (W.setCells g (i * 1) vs) := fun W hWc hWf ty dc =>
  copy_cellsM W _ _ ty 3 i0 1 g (i * 1) (n + 1 - i) dc ⟨vb, 0, none⟩ 1 vc 1 vs Try.underlying22 hi0 hii (by simp only [Nat.min_def]; split <;> omega) (by rw [hvl])
   (fun j v hj => by
    rw [Addr.add_lit, hWc, Nat.zero_add, hW1, World.cell?_setCells_out g _ _ _ _ (fun h _ => absurd h hvb)]
    exact hvget j v hj)
   (fun j hj => by rw [hWc]; exact blk_some hc1 _ (by rw [hvl] at hj; rw [hs1, hcz]; omega)) (fun j hj => by rw [hWf]; exact blk_frozen hc1 _) h1v
 rw [← hW1] at hcp1
 clear hg hv hc1 hv1 hcget hvget hcs hvs
 (try simp only [Nat.mul_one] at *)
 go_enter Try.func51, Try.ntmps51
 go_wp2_with (simp only [hov])
 go_region_law_o (refine step_copy_runI rfl _ _ 22 22 rfl _ _ (by simp [Act.eval, Act.put]) (by simp [Act.eval, Act.put]) (hcp1 _ _ _) ?_)
 go_wp2_with (at_builtin; refine wpList_copy_runI _ rfl _ _ 22 22 rfl _ _ rfl rfl (hcp2 _ (fun _ => rfl) (fun _ => rfl) _ _) ?_)
 go_ret
 first | exact ⟨rfl, rfl⟩ | exact ⟨rfl, by rw [hW1]⟩
theorem slices_Insert_int.info : ∃ i0, Try.prog.info? 3 = some i0 ∧ i0.size = 1 ∧ i0.zero = some (Value.int .i64 0) ∧ i0.bytes = 8 := by
 have := info3
 cases h : Try.prog.info? 3 with
 | none => rw [h] at this; cases this
 | some i0 => rw [h] at this; simp at this; exact ⟨i0, rfl, this.2.1, this.1, this.2.2⟩
set_option maxHeartbeats 4000000 in
set_option maxRecDepth 100000 in
theorem slices_Insert_int.end_room (g n c vb vc : Nat) (cur curv : Array Value) (vs : List Value) (w : World) (hg : w.heap[g]? = some (.cells cur 3 (0, 0))) (hv : w.heap[vb]? = some (.cells curv 3 (0, 0)))
  (hroom : n + 1 ≤ c) (hc63 : c ≤ 9223372036854775807) (hcz : cur.size = c * 1) (hvz : 1 ≤ curv.size) (hvs : vs = curv.toList.take 1) (h1v : ∀ v ∈ vs, v.oneCell' = true) :
  Calls Try.prog 51 #[.slice (some ⟨g, 0, none⟩) n c, .int .i64 n, .slice (some ⟨vb, 0, none⟩) 1 vc] w fun e w' =>
   e = .returned (.slice (some ⟨g, 0, none⟩) (n + 1) c) ∧ w' = w.setCells g (n * 1) vs := by
 have u22 := Try.underlying22
 obtain ⟨i0, hi0, hii, hzz, hbb⟩ := slices_Insert_int.info
 have hvl : vs.length = 1 := by rw [hvs, List.length_take, Array.length_toList]; omega
 have hvget := row_get hv hvs
 have hb4 : ¬ (c = n) := by omega
 have hrun : ∀ ty, (Builtin.append_ #[22, 22] ty #[.slice (some ⟨g, 0, none⟩) n c, .slice (some ⟨vb, 0, none⟩) 1 vc]).run Try.prog w = .ok (.slice (some ⟨g, 0, none⟩) (n + 1) c) (w.setCells g (n * 1) vs) := fun ty => by
  have h := run_append_room_cells (P := Try.prog) w 22 ty 3 i0 Try.underlying22 hi0 g 0 n c ⟨vb, 0, none⟩ 1 vc vs (by rw [hvl, hii]) (fun j u hj => by rw [Addr.add_lit, Nat.zero_add]; exact hvget j u hj) h1v hroom
   (fun j hj => blk_some hg _ (by rw [hvl] at hj; rw [hcz, hii]; omega)) (fun j hj => blk_frozen hg _)
  rw [hii, Nat.zero_add] at h
  exact h
 clear hg hv hvget hvs
 (try simp only [Nat.mul_one] at *)
 go_enter Try.func51, Try.ntmps51
 go_wp2_with (at_builtin; refine Lib.wpList_append_run _ rfl _ _ _ _ rfl _ _ rfl rfl _ _ (hrun _) ?_)
 go_ret
 exact ⟨rfl, rfl⟩
set_option maxHeartbeats 4000000 in
set_option maxRecDepth 100000 in
theorem slices_Insert_int.end_none (vb vc : Nat) (curv : Array Value) (vs : List Value) (w : World) (hv : w.heap[vb]? = some (.cells curv 3 (0, 0)))
  (hvz : 1 ≤ curv.size) (hvs : vs = curv.toList.take 1) (h1v : ∀ v ∈ vs, v.oneCell' = true) :
  Calls Try.prog 51 #[.slice none 0 0, .int .i64 0, .slice (some ⟨vb, 0, none⟩) 1 vc] w fun e w' =>
   e = .returned (.slice (some ⟨w.heap.size, 0, none⟩) 1 (grownCap w 1 0 3)) ∧ w' = w.drew.alloc (.cells (vs.toArray ++ Builtin.zeroCells (Value.int .i64 0).cells (grownCap w 1 0 3 - 1)) 3) := by
 have u22 := Try.underlying22
 obtain ⟨i0, hi0, hii, hzz, hbb⟩ := slices_Insert_int.info
 have hvl : vs.length = 1 := by rw [hvs, List.length_take, Array.length_toList]; omega
 have hvget := row_get hv hvs
 have hsrc : Src Try.prog i0.size 22 (.slice (some ⟨vb, 0, none⟩) 1 vc) 1 vs w := by
  rw [hii]
  exact Src.ofSlice w Try.underlying22 ⟨vb, 0, none⟩ 1 vc vs (by rw [hvl]) (fun j u hj => by rw [Addr.add_lit, Nat.zero_add]; exact hvget j u hj) h1v
 have hrun : ∀ ty, (Builtin.append_ #[22, 22] ty #[.slice none 0 0, .slice (some ⟨vb, 0, none⟩) 1 vc]).run Try.prog w = _ := fun ty =>
  run_append_grow_src w 22 22 ty 3 i0 _ Try.underlying22 hi0 hzz none 0 0 [] (run_firstCells_none w.drew i0.size 0 0 0) _ 1 vs hsrc (by omega) (by omega) (by rw [hbb]; exact growslice_fits (by omega) (by omega))
 simp only [List.nil_append, Nat.zero_add] at hrun
 clear hv hvget hvs
 (try simp only [Nat.mul_one] at *)
 go_enter Try.func51, Try.ntmps51
 go_wp2_with (at_builtin; refine Lib.wpList_append_run _ rfl _ _ _ _ rfl _ _ rfl rfl _ _ (hrun _) ?_)
 go_ret
 exact ⟨rfl, rfl⟩
set_option maxHeartbeats 4000000 in
set_option maxRecDepth 100000 in
theorem slices_Insert_int.end_grow (g n vb vc : Nat) (cur curv : Array Value) (cs vs : List Value) (w : World) (hg : w.heap[g]? = some (.cells cur 3 (0, 0))) (hv : w.heap[vb]? = some (.cells curv 3 (0, 0)))
  (hn : n ≤ 9223372036854775806) (hbig : (n + 1) * 8 ≤ 140737488355328) (hcz : cur.size = n * 1) (hvz : 1 ≤ curv.size) (hcs : cs = cur.toList.take (n * 1)) (hvs : vs = curv.toList.take 1) (h1v : ∀ v ∈ vs, v.oneCell' = true) :
  Calls Try.prog 51 #[.slice (some ⟨g, 0, none⟩) n n, .int .i64 n, .slice (some ⟨vb, 0, none⟩) 1 vc] w fun e w' =>
   e = .returned (.slice (some ⟨w.heap.size, 0, none⟩) (n + 1) (grownCap w (n + 1) n 3)) ∧ w' = w.drew.alloc (.cells ((cs ++ vs).toArray ++ Builtin.zeroCells (Value.int .i64 0).cells (grownCap w (n + 1) n 3 - (n + 1))) 3) := by
 have u22 := Try.underlying22
 obtain ⟨i0, hi0, hii, hzz, hbb⟩ := slices_Insert_int.info
 have hcl : cs.length = n * 1 := by rw [hcs, List.length_take, Array.length_toList, hcz]; omega
 have hvl : vs.length = 1 := by rw [hvs, List.length_take, Array.length_toList]; omega
 have hcget := row_get hg hcs
 have hvget := row_get hv hvs
 have hsrc : Src Try.prog i0.size 22 (.slice (some ⟨vb, 0, none⟩) 1 vc) 1 vs w := by
  rw [hii]
  exact Src.ofSlice w Try.underlying22 ⟨vb, 0, none⟩ 1 vc vs (by rw [hvl]) (fun j u hj => by rw [Addr.add_lit, Nat.zero_add]; exact hvget j u hj) h1v
 have hold : (Builtin.firstCells i0.size n (.slice (some ⟨g, 0, none⟩) n n)).run Try.prog w.drew = .ok cs.toArray w.drew := by
  rw [hii]
  exact run_firstCells_some w.drew 1 n ⟨g, 0, none⟩ n n cs hcl (fun j v hj => by rw [Addr.add_lit, Nat.zero_add]; exact hcget j v hj)
 have hrun : ∀ ty, (Builtin.append_ #[22, 22] ty #[.slice (some ⟨g, 0, none⟩) n n, .slice (some ⟨vb, 0, none⟩) 1 vc]).run Try.prog w = _ := fun ty =>
  run_append_grow_src w 22 22 ty 3 i0 _ Try.underlying22 hi0 hzz (some ⟨g, 0, none⟩) n n cs hold _ 1 vs hsrc (by omega) (by omega) (by rw [hbb]; exact growslice_fits (by omega) hbig)
 clear hg hv hvget hcget hvs hcs hold
 (try simp only [Nat.mul_one] at *)
 go_enter Try.func51, Try.ntmps51
 go_wp2_with (at_builtin; refine Lib.wpList_append_run _ rfl _ _ _ _ rfl _ _ rfl rfl _ _ (hrun _) ?_)
 all_goals (go_ret; exact ⟨rfl, rfl⟩)
set_option maxHeartbeats 4000000 in
set_option maxRecDepth 100000 in
theorem slices_Insert_int.grow (g n i vb vc : Nat) (cur curv : Array Value) (cs vs : List Value) (w : World) (hg : w.heap[g]? = some (.cells cur 3 (0, 0))) (hv : w.heap[vb]? = some (.cells curv 3 (0, 0)))
  (hi : i < n) (hbig : (n + 1) * 8 ≤ 140737488355328) (hcz : cur.size = n * 1) (hvz : 1 ≤ curv.size) (hcs : cs = cur.toList.take (n * 1)) (hvs : vs = curv.toList.take 1) (h1c : ∀ v ∈ cs, v.oneCell' = true) (h1v : ∀ v ∈ vs, v.oneCell' = true) :
  Calls Try.prog 51 #[.slice (some ⟨g, 0, none⟩) n n, .int .i64 i, .slice (some ⟨vb, 0, none⟩) 1 vc] w fun e w' =>
   e = .returned (.slice (some ⟨w.heap.size, 0, none⟩) (n + 1) (grownCap w (n + 1) n 3)) ∧
   w' = (((w.alloc (.cells ((cs.take (i * 1)).toArray ++ Builtin.zeroCells (Value.int .i64 0).cells (n + 1 - i) ++ Builtin.zeroCells (Value.int .i64 0).cells (grownCap w (n + 1) n 3 - (n + 1))) 3)).drew.setCells w.heap.size (i * 1) vs).drew).setCells w.heap.size ((i + 1) * 1) (cs.drop (i * 1)) := by
 have u22 := Try.underlying22
 have u3 := Try.underlying3
 have hmx : Try.prog.follows .mixedOrders = true := by kernel_rfl
 obtain ⟨i0, hi0, hii, hzz, hbb⟩ := slices_Insert_int.info
 have hcl : cs.length = n * 1 := by rw [hcs, List.length_take, Array.length_toList, hcz]; omega
 have hvl : vs.length = 1 := by rw [hvs, List.length_take, Array.length_toList]; omega
 have hcget := row_get hg hcs
 have hvget := row_get hv hvs
 have hz2 : ¬ ((i : Int) = (n : Int)) := by omega
 have hbw : g < w.heap.size := blk_lt hg
 have hvw : vb < w.heap.size := blk_lt hv
 have hkk : (n : Int) + 1 - (i : Int) = ((n + 1 - i : Nat) : Int) := by omega
 have hik : i + (n + 1 - i) = n + 1 := by omega
 have hold : (Builtin.firstCells i0.size i (.slice (some ⟨g, 0, none⟩) i n)).run Try.prog w.drew = .ok (cs.take (i * 1)).toArray w.drew := by
  rw [hii]
  exact run_firstCells_some w.drew 1 i ⟨g, 0, none⟩ i n (cs.take (i * 1)) (by rw [List.length_take, hcl]; omega) (fun j v hj => by
   rw [Addr.add_lit, Nat.zero_add]
   rw [List.getElem?_take] at hj
   split at hj
   ·exact hcget j v hj
   ·cases hj)
 obtain ⟨Z, hZ⟩ : ∃ Z, Z = (Value.int .i64 0).cells := ⟨_, rfl⟩
 have hZs : Z.size = 1 := by rw [hZ]; rfl
 obtain ⟨G, hG⟩ : ∃ G, G = grownCap w (n + 1) n 3 := ⟨_, rfl⟩
 have hrz : ∀ ty, (Builtin.append_ #[22, 3] ty #[.slice (some ⟨g, 0, none⟩) i n, .int .i64 ((n : Int) + 1 - (i : Int))]).run Try.prog w =
   .ok (.slice (some ⟨w.heap.size, 0, none⟩) (n + 1) G) (w.drew.alloc (.cells ((cs.take (i * 1)).toArray ++ Builtin.zeroCells Z (n + 1 - i) ++ Builtin.zeroCells Z (G - (n + 1))) 3)) := fun ty => by
  have h := Lib.run_append_grow_zeros w 22 3 ty 3 i0 _ .i64 .i64 Try.underlying22 Try.underlying3 hi0 hzz (some ⟨g, 0, none⟩) i n (cs.take (i * 1)) hold (n + 1 - i) (by omega) (by omega) (by omega) (by omega) (by rw [hbb]; omega) (by rw [hbb, hik]; exact growslice_fits (by omega) hbig)
  rw [hik] at h
  rw [hkk, hG, hZ]
  exact h
 rw [← hG, ← hZ]
 obtain ⟨ROW, hROW⟩ : ∃ ROW : Array Value, ROW = (cs.take (i * 1)).toArray ++ Builtin.zeroCells Z (n + 1 - i) ++ Builtin.zeroCells Z (G - (n + 1)) := ⟨_, rfl⟩
 rw [← hROW] at hrz ⊢
 have hRl : (n + 1) * 1 ≤ ROW.size := by
  rw [hROW, Array.size_append, Array.size_append]
  have h1 : (cs.take (i * 1)).toArray.size = i * 1 := by rw [List.size_toArray, List.length_take, hcl]; omega
  have h2 : (Builtin.zeroCells Z (n + 1 - i)).size = (n + 1 - i) * 1 := by have := zeroCells_len Z (n + 1 - i); rw [Array.length_toList, hZs] at this; exact this
  rw [h1, h2]; omega
 obtain ⟨W1, hW1⟩ : ∃ W1, W1 = w.drew.alloc (.cells ROW 3) := ⟨_, rfl⟩
 rw [← hW1] at hrz
 have hNb : W1.heap[w.heap.size]? = some (.cells ROW 3 (0, 0)) := by rw [hW1]; exact blk_new w.drew _
 have hOg : W1.heap[g]? = some (.cells cur 3 (0, 0)) := by rw [hW1]; exact blk_alloc (w := w.drew) hg _
 have hOv : W1.heap[vb]? = some (.cells curv 3 (0, 0)) := by rw [hW1]; exact blk_alloc (w := w.drew) hv _
 have hcpA : ∀ (W : World), (∀ x, W.cell? x = W1.cell? x) → (∀ x, W.frozen? x = W1.frozen? x) → ∀ ty dc, (Builtin.copy_ #[22, 22] ty #[.slice (some ⟨w.heap.size, i * 1, none⟩) (n + 1 - i) dc, .slice (some ⟨vb, 0, none⟩) 1 vc]).run Try.prog W = .ok (goInt ((1 : Nat) : Int)) (W.setCells w.heap.size (i * 1) vs) := fun W hWc hWf ty dc =>
  copy_cellsM W _ _ ty 3 i0 1 w.heap.size (i * 1) (n + 1 - i) dc ⟨vb, 0, none⟩ 1 vc 1 vs Try.underlying22 hi0 hii (by simp only [Nat.min_def]; split <;> omega) (by rw [hvl])
   (fun j v hj => by rw [Addr.add_lit, hWc, Nat.zero_add]; exact row_get hOv hvs j v hj)
   (fun j hj => by rw [hWc]; exact blk_some hNb _ (by rw [hvl] at hj; omega)) (fun j hj => by rw [hWf]; exact blk_frozen hNb _) h1v
 have hGn : n + 1 ≤ G := by rw [hG]; exact grownCap_ge w _ _ _
 have hG63 : G ≤ 9223372036854775807 := by
  have := grownCap_le_maxLen w (n + 1) n 3 (by unfold maxLen; omega)
  rw [← hG] at this
  unfold maxLen at this
  omega
 have hGi : ¬ (G = i) := by omega
 have hGim : ¬ (G = i + 1) := by omega
 have hci : ¬ (n = i) := by omega
 have hbN : w.heap.size ≠ g := by omega
 have hdl : (cs.drop (i * 1)).length = (n - i) * 1 := by rw [List.length_drop, hcl, Nat.sub_mul]
 obtain ⟨ROW2, hN2, hs2, _⟩ := setCells_row vs (i * 1) W1 ROW hNb (by rw [hvl]; omega)
 have hOg2 : (W1.setCells w.heap.size (i * 1) vs).heap[g]? = some (.cells cur 3 (0, 0)) := (setCells_far _ _ g (fun e => hbN e.symm)).trans hOg
 have hcpB : ∀ (W : World), (∀ x, W.cell? x = (W1.setCells w.heap.size (i * 1) vs).cell? x) → (∀ x, W.frozen? x = (W1.setCells w.heap.size (i * 1) vs).frozen? x) → ∀ ty dc sc, (Builtin.copy_ #[22, 22] ty #[.slice (some ⟨w.heap.size, (i + 1) * 1, none⟩) (n - i) dc, .slice (some ⟨g, i * 1, none⟩) (n - i) sc]).run Try.prog W = .ok (goInt ((n - i : Nat) : Int)) (W.setCells w.heap.size ((i + 1) * 1) (cs.drop (i * 1))) := fun W hWc hWf ty dc sc =>
  copy_cellsM W _ _ ty 3 i0 1 w.heap.size ((i + 1) * 1) (n - i) dc ⟨g, i * 1, none⟩ (n - i) sc (n - i) (cs.drop (i * 1)) Try.underlying22 hi0 hii (by simp only [Nat.min_def]; split <;> omega) hdl
   (fun j v hj => by
    rw [Addr.add_lit, hWc]
    exact row_get hOg2 hcs _ v (by rwa [List.getElem?_drop] at hj))
   (fun j hj => by rw [hWc]; exact blk_some hN2 _ (by rw [hdl] at hj; rw [hs2]; omega))
   (fun j hj => by rw [hWf]; exact blk_frozen hN2 _) (fun v hv => h1c v (List.mem_of_mem_drop hv))
 clear hNb hOg hOv hN2 hOg2 hg hv
 subst hW1
 have hE1 : ∀ x, ((w.alloc (.cells ROW 3)).drew).cell? x = (w.drew.alloc (.cells ROW 3)).cell? x := fun x => rfl
 have hE2 : ∀ x, ((w.alloc (.cells ROW 3)).drew).frozen? x = (w.drew.alloc (.cells ROW 3)).frozen? x := fun x => rfl
 have hF1 : ∀ x, (((w.alloc (.cells ROW 3)).drew.setCells w.heap.size (i * 1) vs).drew).cell? x = ((w.drew.alloc (.cells ROW 3)).setCells w.heap.size (i * 1) vs).cell? x := fun x => rfl
 have hF2 : ∀ x, (((w.alloc (.cells ROW 3)).drew.setCells w.heap.size (i * 1) vs).drew).frozen? x = ((w.drew.alloc (.cells ROW 3)).setCells w.heap.size (i * 1) vs).frozen? x := fun x => rfl
 have hw1 : IntKind.i64.wrap ((i : Int) + 1) = (i : Int) + 1 := by rw [IntKind.wrap_i64]; omega
 have hb1 : (0 : Int) ≤ (i : Int) + 1 := by omega
 have hin : i ≤ n := by omega
 have htn : ((i : Int) + 1).toNat = i + 1 := by omega
 have hb3 : (i : Int) ≤ (n : Int) := by omega
 clear hkk hik hold hROW hG hRl hcs hvs hcget hvget hs2
 (try simp only [Nat.mul_one] at *)
 go_enter Try.func51, Try.ntmps51
 go_wp2_with (first
  | (at_builtin; refine Lib.wpList_append_run _ rfl _ _ _ _ rfl _ _ rfl rfl _ _ (hrz _) ?_)
  | (at_builtin; refine wpList_copy_runI _ rfl _ _ 22 22 rfl _ _ rfl rfl (hcpA _ hE1 hE2 _ _) ?_)
  | (at_builtin; refine wpList_copy_runI _ rfl _ _ 22 22 rfl _ _ rfl rfl (hcpB _ (fun _ => rfl) (fun _ => rfl) _ _ _) ?_))
 go_region_law_o (refine step_copy_runI rfl _ _ 22 22 rfl (.slice (some ⟨w.heap.size, i + 1, none⟩) (n - i) (G - (i + 1))) (.slice (some ⟨g, i, none⟩) (n - i) (n - i)) (by simp [Act.eval, Act.put]) (by simp [Act.eval, Act.put]) (hcpB _ hF1 hF2 3 (G - (i + 1)) (n - i)) ?_)
 go_wp2
 go_ret
 exact ⟨rfl, rfl⟩
def slices_Insert_int.f (l0 : List Int) (a1 : Int) (l2 : List Int) : Option (List Int) := if l2.length = 1 then (if 0 ≤ a1 then (if a1 ≤ (l0.length : Int) then (if (l0.length + 1) * 8 ≤ 140737488355328 then some (l0.take a1.toNat ++ (l2 ++ l0.drop a1.toNat)) else none) else none) else none) else none
set_option maxHeartbeats 4000000 in
theorem slices_Insert_int.calls (P0_ : Nat → Prop) (u9000_ : Value) (l0 : List Int) (a1 : Int) (P2_ : Nat → Prop) (u9001_ : Value) (l2 : List Int) (r : List Int) (w0 w : World) (hB : Below w0.heap.size w0 w) (ho0 : Kd.R (Kd.int .i64) 3 w w0.heap.size P0_ u9000_ l0) (hp0_2 : ∀ k_, P0_ k_ → ¬ P2_ k_) (ho2 : Kd.R (Kd.int .i64) 3 w w0.heap.size P2_ u9001_ l2) (hp2_0 : ∀ k_, P2_ k_ → ¬ P0_ k_) (h : slices_Insert_int.f l0 a1 l2 = some r) :
  Calls Try.prog 51 #[u9000_, .int .i64 a1, u9001_] w fun e w' => ∃ v0_ : Value, e = .returned (v0_) ∧ Kd.R (Kd.int .i64) 3 w' w0.heap.size (fun k_ => ((P0_ k_ ∨ P2_ k_) ∨ w.heap.size ≤ k_)) v0_ r ∧ Below w0.heap.size w0 w' ∧ Kept w w' (fun k_ => P0_ k_ ∨ P2_ k_) := by
 unfold slices_Insert_int.f at h
 by_cases d1 : l2.length = 1
 ·rw [if_pos d1] at h
  by_cases d2 : 0 ≤ a1
  ·rw [if_pos d2] at h
   by_cases d3 : a1 ≤ (l0.length : Int)
   ·rw [if_pos d3] at h
    by_cases d4 : (l0.length + 1) * 8 ≤ 140737488355328
    ·rw [if_pos d4] at h
     obtain rfl := Option.some.inj h
     obtain ⟨i, rfl⟩ : ∃ i : Nat, a1 = i := ⟨a1.toNat, by omega⟩
     simp only [Int.toNat_natCast]
     obtain ⟨hP2, vs, ⟨hvl, hcase2⟩, hr2⟩ := ho2
     rcases hcase2 with ⟨rfl, h0⟩ | ⟨vb, vc, curv, rfl, hvb0, hhv, hvc, hvm, hvs, hvt⟩
     ·omega
     have hPv := hP2 vb rfl
     rw [d1] at hvt hvl hvc
     have hvl' : vs.length = 1 := hvl
     have hvs' : curv.size = vc * 1 := hvs
     have hvt' : vs = curv.toList.take 1 := hvt.symm
     have hv1 := reps_one hr2 (show 0 < (Kd.int .i64).sz by decide)
     rw [d1]
     have hS : w0.heap.size ≤ w.heap.size := hB.size
     have hBN : ∀ k, k < w.heap.size → some k ≠ some w.heap.size := fun k hk e => by have := Option.some.inj e; omega
     obtain ⟨hP, inner, ⟨hil, hcase⟩, hr⟩ := ho0
     have hil' : inner.length = l0.length * 1 := hil
     have hrl : (l0.take i ++ (l2 ++ l0.drop i)).length = l0.length + 1 := by simp; omega
     have hinl : (inner.take (i * 1) ++ (vs ++ inner.drop (i * 1))).length = (l0.length + 1) * 1 := by simp only [List.length_append, List.length_take, List.length_drop, hil', hvl']; omega
     have hil2 : i ≤ l0.length := by omega
     rcases hcase with ⟨rfl, h0⟩ | ⟨g, c, cur, rfl, hgb, hh, hnc, hcm, hcs, htake⟩
     ·have e0 : l0 = [] := List.length_eq_zero_iff.1 h0
      subst e0
      have ei : i = 0 := by simp at hil2; exact hil2
      subst ei
      have hin : inner = [] := List.length_eq_zero_iff.1 (by rw [hil']; rfl)
      refine (slices_Insert_int.end_none vb vc curv vs w hhv (by rw [hvs']; omega) hvt' hv1).mono ?_
      rintro e w' ⟨rfl, rfl⟩
      have hg1 : 1 ≤ grownCap w 1 0 3 := grownCap_ge w _ _ _
      have hb := blk_new w.drew (.cells (vs.toArray ++ Builtin.zeroCells (Value.int .i64 0).cells (grownCap w 1 0 3 - 1)) 3)
      have hold : ∀ k, k < w.heap.size → (w.drew.alloc (.cells (vs.toArray ++ Builtin.zeroCells (Value.int .i64 0).cells (grownCap w 1 0 3 - 1)) 3)).heap[k]? = w.heap[k]? := fun k hk => (below_alloc (Below.refl w.drew.heap.size w.drew) _).block k hk
      refine ⟨_, rfl, R_mk (inner := vs) (by simp [d1]) (.inr (Nat.le_refl _)) hS hb hg1 (grownCap_le_maxLen w 1 0 3 (by unfold maxLen; omega)) ?_ hvl ?_ ?_, below_alloc (below_drew hB) _, ⟨(below_alloc (Below.refl w.drew.heap.size w.drew) _).size, fun k hk _ => hold k hk⟩⟩
      ·have := zeroCells_len (Value.int .i64 0).cells (grownCap w 1 0 3 - 1)
       rw [Array.length_toList] at this
       rw [Array.size_append, List.size_toArray, hvl', this, show (Kd.int .i64).sz = 1 from rfl, show (Value.int .i64 0).cells.size = 1 from rfl]
       omega
      ·rw [Array.toList_append, List.take_left' (by rw [hvl', show (Kd.int .i64).sz = 1 from rfl])]
      ·have b := reps_to (w' := w.drew.alloc (.cells (vs.toArray ++ Builtin.zeroCells (Value.int .i64 0).cells (grownCap w 1 0 3 - 1)) 3)) (ok' := fun k => ((P0_ k ∨ P2_ k) ∨ w.heap.size ≤ k) ∧ some k ≠ some w.heap.size) hr2 (fun k hk hlt => ⟨hold k hlt, .inl (.inr hk.1), hBN k hlt⟩)
       simpa using b
     have hPg := hP g rfl
     have hcs' : cur.size = c * 1 := hcs
     have htake' : inner = cur.toList.take (l0.length * 1) := htake.symm
     have hone := reps_one hr (show 0 < (Kd.int .i64).sz by decide)
     have hne : vb ≠ g := fun e => hp0_2 g hPg (e ▸ hPv)
     have hcl : cur.toList.length = c * 1 := by rw [Array.length_toList]; exact hcs'
     by_cases hroom : l0.length + 1 ≤ c
     ·-- in place
      have fin : ∀ (w' : World) (cur' : Array Value), w'.heap[g]? = some (.cells cur' 3 (0, 0)) → cur'.size = c * 1 → cur'.toList.take ((l0.length + 1) * 1) = inner.take (i * 1) ++ (vs ++ inner.drop (i * 1)) → (∀ k, k ≠ g → w'.heap[k]? = w.heap[k]?) → Below w0.heap.size w0 w' → w.heap.size ≤ w'.heap.size →
        Kd.R (Kd.int .i64) 3 w' w0.heap.size (fun k_ => ((P0_ k_ ∨ P2_ k_) ∨ w.heap.size ≤ k_)) (.slice (some ⟨g, 0, none⟩) (l0.length + 1) c) (l0.take i ++ (l2 ++ l0.drop i)) ∧ Below w0.heap.size w0 w' ∧ Kept w w' (fun k_ => P0_ k_ ∨ P2_ k_) := fun w' cur' h1 h2 h3 h4 h5 h6 =>
       ⟨R_mk (inner := inner.take (i * 1) ++ (vs ++ inner.drop (i * 1))) hrl.symm (.inl (.inl hPg)) hgb h1 hroom hcm h2 hinl h3
        (by
         have a := reps_to (w' := w') (ok' := fun k => ((P0_ k ∨ P2_ k) ∨ w.heap.size ≤ k) ∧ some k ≠ some g) hr (fun k hk _ => ⟨h4 k (fun e => hk.2 (by rw [e]; rfl)), .inl (.inl hk.1), fun e => hk.2 (by rw [Option.some.inj e]; rfl)⟩)
         have b := reps_to (w' := w') (ok' := fun k => ((P0_ k ∨ P2_ k) ∨ w.heap.size ≤ k) ∧ some k ≠ some g) hr2 (fun k hk _ => ⟨h4 k (fun e => hp0_2 g hPg (e ▸ hk.1)), .inl (.inr hk.1), fun e => hp0_2 g hPg (Option.some.inj e ▸ hk.1)⟩)
         exact Kd.reps_append (Kd.reps_take a hil2) (Kd.reps_append b (Kd.reps_drop a))),
        h5, ⟨h6, fun k hk hn => h4 k (fun e => hn (.inl (by rw [e]; exact hPg)))⟩⟩
      by_cases hi : i < l0.length
      ·refine (slices_Insert_int.shift g l0.length c i vb vc cur curv inner vs w hh hhv hi hroom hcm hcs' (by rw [hvs']; omega) hne htake' hvt' hone hv1).mono ?_
       rintro e w' ⟨rfl, rfl⟩
       have hdl : (inner.drop (i * 1)).length = (l0.length - i) * 1 := by rw [List.length_drop, hil', Nat.sub_mul]
       obtain ⟨cur1, hc1, hs1, ht1⟩ := setCells_row (inner.drop (i * 1)) ((i + 1) * 1) w.drew cur hh (by rw [hdl, hcs']; omega)
       obtain ⟨cur2, hc2, hs2, ht2⟩ := setCells_row vs (i * 1) _ cur1 hc1 (by rw [hvl', hs1, hcs']; omega)
       have hc1l : cur1.toList.length = c * 1 := by rw [Array.length_toList, hs1]; exact hcs'
       refine ⟨_, rfl, fin _ cur2 hc2 (by rw [hs2, hs1]; exact hcs') ?_ (fun k hk => (setCells_far _ _ k hk).trans (setCells_far _ _ k hk)) (Go.below_setCells hgb _ _ _ (Go.below_setCells hgb _ _ _ (below_drew hB))) (by rw [(setCells_same _ _ _ _).2.2.2, (setCells_same _ _ _ _).2.2.2]; exact Nat.le_refl _)⟩
       have e1 : cur1.toList.take (i * 1) = inner.take (i * 1) := by
        rw [ht1, List.append_assoc, List.take_append_of_le_length (by rw [List.length_take, hcl]; omega), List.take_take, Nat.min_eq_left (by omega), htake', List.take_take, Nat.min_eq_left (by omega)]
       have e2 : (cur1.toList.drop ((i + 1) * 1)).take ((l0.length - i) * 1) = inner.drop (i * 1) := by
        rw [ht1, List.append_assoc, List.drop_left' (by rw [List.length_take, hcl]; omega), List.take_left' hdl]
       rw [ht2, hvl', List.append_assoc, show i * 1 + 1 = (i + 1) * 1 by omega, e1, List.take_append, List.take_append]
       rw [show (inner.take (i * 1)).length = i * 1 by rw [List.length_take, hil']; omega, hvl', show List.take ((l0.length + 1) * 1) (inner.take (i * 1)) = inner.take (i * 1) from List.take_of_length_le (by rw [List.length_take]; omega), show List.take ((l0.length + 1) * 1 - i * 1) vs = vs from List.take_of_length_le (by rw [hvl']; omega), show (l0.length + 1) * 1 - i * 1 - 1 = (l0.length - i) * 1 by omega, e2]
      ·have ei : i = l0.length := by omega
       subst ei
       refine (slices_Insert_int.end_room g l0.length c vb vc cur curv vs w hh hhv hroom hcm hcs' (by rw [hvs']; omega) hvt' hv1).mono ?_
       rintro e w' ⟨rfl, rfl⟩
       obtain ⟨cur1, hc1, hs1, ht1⟩ := setCells_row vs (l0.length * 1) w cur hh (by rw [hvl', hcs']; omega)
       refine ⟨_, rfl, fin _ cur1 hc1 (by rw [hs1]; exact hcs') ?_ (fun k hk => setCells_far _ _ k hk) (Go.below_setCells hgb _ _ _ hB) (by rw [(setCells_same _ _ _ _).2.2.2]; exact Nat.le_refl _)⟩
       rw [ht1, List.take_left' (by rw [List.length_append, List.length_take, hcl, hvl']; omega), ← htake', List.drop_eq_nil_of_le (by rw [hil']; omega), List.append_nil, List.take_of_length_le (by rw [hil']; omega)]
     ·-- a new row
      have ec : c = l0.length := by omega
      subst ec
      have hg1 : l0.length + 1 ≤ grownCap w (l0.length + 1) l0.length 3 := grownCap_ge w _ _ _
      have hgm : grownCap w (l0.length + 1) l0.length 3 ≤ 9223372036854775807 := grownCap_le_maxLen w _ _ _ (by unfold maxLen; omega)
      have fin : ∀ (w' : World) (cur' : Array Value), w'.heap[w.heap.size]? = some (.cells cur' 3 (0, 0)) → cur'.size = grownCap w (l0.length + 1) l0.length 3 * 1 → cur'.toList.take ((l0.length + 1) * 1) = inner.take (i * 1) ++ (vs ++ inner.drop (i * 1)) → (∀ k, k < w.heap.size → w'.heap[k]? = w.heap[k]?) → Below w0.heap.size w0 w' → w.heap.size ≤ w'.heap.size →
        Kd.R (Kd.int .i64) 3 w' w0.heap.size (fun k_ => ((P0_ k_ ∨ P2_ k_) ∨ w.heap.size ≤ k_)) (.slice (some ⟨w.heap.size, 0, none⟩) (l0.length + 1) (grownCap w (l0.length + 1) l0.length 3)) (l0.take i ++ (l2 ++ l0.drop i)) ∧ Below w0.heap.size w0 w' ∧ Kept w w' (fun k_ => P0_ k_ ∨ P2_ k_) := fun w' cur' h1 h2 h3 h4 h5 h6 =>
       ⟨R_mk (inner := inner.take (i * 1) ++ (vs ++ inner.drop (i * 1))) hrl.symm (.inr (Nat.le_refl _)) hS h1 hg1 hgm h2 hinl h3
        (by
         have a := reps_to (w' := w') (ok' := fun k => ((P0_ k ∨ P2_ k) ∨ w.heap.size ≤ k) ∧ some k ≠ some w.heap.size) hr (fun k hk hlt => ⟨h4 k hlt, .inl (.inl hk.1), hBN k hlt⟩)
         have b := reps_to (w' := w') (ok' := fun k => ((P0_ k ∨ P2_ k) ∨ w.heap.size ≤ k) ∧ some k ≠ some w.heap.size) hr2 (fun k hk hlt => ⟨h4 k hlt, .inl (.inr hk.1), hBN k hlt⟩)
         exact Kd.reps_append (Kd.reps_take a hil2) (Kd.reps_append b (Kd.reps_drop a))),
        h5, ⟨h6, fun k hk _ => h4 k hk⟩⟩
      have hzl := zeroCells_len (Value.int .i64 0).cells (grownCap w (l0.length + 1) l0.length 3 - (l0.length + 1))
      rw [Array.length_toList, show (Value.int .i64 0).cells.size = 1 from rfl] at hzl
      by_cases hi : i < l0.length
      ·refine (slices_Insert_int.grow g l0.length i vb vc cur curv inner vs w hh hhv hi d4 hcs' (by rw [hvs']; omega) htake' hvt' hone hv1).mono ?_
       rintro e w' ⟨rfl, rfl⟩
       have hz2 := zeroCells_len (Value.int .i64 0).cells (l0.length + 1 - i)
       rw [Array.length_toList, show (Value.int .i64 0).cells.size = 1 from rfl] at hz2
       obtain ⟨ROW, hROW⟩ : ∃ ROW : Array Value, ROW = (inner.take (i * 1)).toArray ++ Builtin.zeroCells (Value.int .i64 0).cells (l0.length + 1 - i) ++ Builtin.zeroCells (Value.int .i64 0).cells (grownCap w (l0.length + 1) l0.length 3 - (l0.length + 1)) := ⟨_, rfl⟩
       have hRs : ROW.size = grownCap w (l0.length + 1) l0.length 3 * 1 := by
        rw [hROW, Array.size_append, Array.size_append, hzl, hz2, List.size_toArray, List.length_take, hil']; omega
       have hRt : ROW.toList.take (i * 1) = inner.take (i * 1) := by
        rw [hROW, Array.toList_append, Array.toList_append, List.append_assoc, List.take_left' (by rw [List.length_take, hil']; omega)]
       rw [← hROW]
       have hb := blk_new w (.cells ROW 3)
       have hdl : (inner.drop (i * 1)).length = (l0.length - i) * 1 := by rw [List.length_drop, hil', Nat.sub_mul]
       obtain ⟨cur1, hc1, hs1, ht1⟩ := setCells_row vs (i * 1) (w.alloc (.cells ROW 3)).drew ROW hb (by rw [hvl', hRs]; omega)
       obtain ⟨cur2, hc2, hs2, ht2⟩ := setCells_row (inner.drop (i * 1)) ((i + 1) * 1) ((w.alloc (.cells ROW 3)).drew.setCells w.heap.size (i * 1) vs).drew cur1 hc1 (by rw [hdl, hs1, hRs]; omega)
       have hRl : ROW.toList.length = grownCap w (l0.length + 1) l0.length 3 * 1 := by rw [Array.length_toList]; exact hRs
       have hc1l : cur1.toList.length = grownCap w (l0.length + 1) l0.length 3 * 1 := by rw [Array.length_toList, hs1]; exact hRs
       refine ⟨_, rfl, fin _ cur2 hc2 (by rw [hs2, hs1]; exact hRs) ?_ (fun k hk => (setCells_far _ _ k (by omega)).trans ((setCells_far (w := (w.alloc (.cells ROW 3)).drew) _ _ k (by omega)).trans ((below_alloc (Below.refl w.heap.size w) _).block k hk))) (Go.below_setCells hS _ _ _ (below_drew (Go.below_setCells hS _ _ _ (below_drew (below_alloc hB _))))) ?_⟩
       ·have e1 : cur1.toList.take ((i + 1) * 1) = inner.take (i * 1) ++ vs := by
         rw [ht1, hRt, List.take_left' (by rw [List.length_append, List.length_take, hil', hvl']; omega)]
        rw [ht2, e1, hdl, List.take_left' (by rw [List.length_append, List.length_append, List.length_take, hil', hvl', hdl]; omega), List.append_assoc]
       ·rw [(setCells_same _ _ _ _).2.2.2]
        show w.heap.size ≤ ((w.alloc (.cells ROW 3)).drew.setCells w.heap.size (i * 1) vs).heap.size
        rw [(setCells_same _ _ _ _).2.2.2]
        exact (below_alloc (Below.refl w.heap.size w) _).size
      ·have ei : i = l0.length := by omega
       subst ei
       refine (slices_Insert_int.end_grow g l0.length vb vc cur curv inner vs w hh hhv (by omega) d4 hcs' (by rw [hvs']; omega) htake' hvt' hv1).mono ?_
       rintro e w' ⟨rfl, rfl⟩
       have hb := blk_new w.drew (.cells ((inner ++ vs).toArray ++ Builtin.zeroCells (Value.int .i64 0).cells (grownCap w (l0.length + 1) l0.length 3 - (l0.length + 1))) 3)
       refine ⟨_, rfl, fin _ _ hb ?_ ?_ (fun k hk => (below_alloc (Below.refl w.drew.heap.size w.drew) _).block k hk) (below_alloc (below_drew hB) _) (below_alloc (Below.refl w.drew.heap.size w.drew) _).size⟩
       ·rw [Array.size_append, hzl, List.size_toArray, List.length_append, hil', hvl']; omega
       ·rw [Array.toList_append, List.take_left' (by rw [List.length_append, hil', hvl']; omega), List.take_of_length_le (l := inner) (by rw [hil']; omega), List.drop_eq_nil_of_le (by rw [hil']; omega), List.append_nil]
    ·rw [if_neg d4] at h; cases h
   ·rw [if_neg d3] at h; cases h
  ·rw [if_neg d2] at h; cases h
 ·rw [if_neg d1] at h; cases h
end Go.Proofs.Ytlpmmmhfceeiaaa.PAll
end
