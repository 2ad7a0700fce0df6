/- Contracts of the functions that the statement reaches, printed by a program out of the translation and joined with the plain laws. -/
import Derived.Shelf.RegionOpenPlain
import Derived.WalkKit
import Derived.Deep.LoopGhost
import Derived.Deep.RegionLaw
import Derived.Lib.Walk
import Derived.Lib.SliceRun
import Derived.Laws.IdiomCopy
import Derived.Lib.LazyBuf
import Derived.Shelf.Spec.SlicesInsertGrow
import Derived.Test.YtioghacieopbdaaCFnWaysPut3
import Derived.Test.YtioghacieopbdaaCFnWaysPut4
import Derived.Test.YtioghacieopbdaaCFnWaysPut5
import Derived.Test.YtioghacieopbdaaCFnWaysPut6
import Derived.Test.YtioghacieopbdaaCFnWaysPut7
section
namespace Go.Proofs.Ytioghacieopbdaa.PAll
open Go.RowKit Go.Proofs.YtioghacieopbdaaW.PrintWords Go.Proofs.YtioghacieopbdaaW.PrintLast Go.Proofs.YtioghacieopbdaaW.PrintMore
attribute [local go_sem] max2_int min2_int max_two min_two max_three min_three max_four min_four   -- for this text's walks alone
set_option linter.unusedVariables false
set_option linter.unusedSimpArgs false
theorem copy_cellsM {P : Program} (w : World) (dT sT ty elem : TypeId) (i : TypeInfo) (size : Nat) (b o dLen dCap : Nat) (a : Addr) (sLen sCap n : Nat) (cs : List Value)
  (hu : P.underlying dT = some (.slice elem)) (hi : P.info? elem = some i) (hsz : i.size = size) (hn : n = Nat.min sLen dLen) (hl : cs.length = n * size)
  (hsrc : ∀ j v, cs[j]? = some v → w.cell? (a.add j) = some v) (hc : ∀ j, j < cs.length → (w.cell? ⟨b, o + j, none⟩).isSome = true) (hf : ∀ j, j < cs.length → w.frozen? ⟨b, o + j, none⟩ = false) (h1 : ∀ v ∈ cs, v.oneCell' = true) :
  (Builtin.copy_ #[dT, sT] ty #[.slice (some ⟨b, o, none⟩) dLen dCap, .slice (some a) sLen sCap]).run P w = .ok (goInt n) (w.setCells b o cs) := by
 have hld := run_loadCells_list (P := P) w a cs hsrc
 have hst := run_storeCells_cells (P := P) b o cs 0 w (by simpa using hc) (by simpa using hf) h1
 rw [hl] at hld
 simp [Builtin.copy_, run_underlying hu, Builtin.lenOf, Builtin.firstCells, sizeOf, typeInfo, hi, hsz, ← hn, hld, hst]
theorem row_get {w : World} {g : Nat} {cur : Array Value} {e : TypeId} {cs : List Value} {m : Nat} (hg : w.heap[g]? = some (.cells cur e (0, 0))) (hcs : cs = cur.toList.take m) : ∀ j v, cs[j]? = some v → w.cell? ⟨g, j, none⟩ = some v := fun j v hj => by
 have hlt := (List.getElem?_eq_some_iff.1 hj).1
 rw [hcs, List.length_take] at hlt
 rw [hcs, List.getElem?_take_of_lt (by omega), Array.getElem?_toList] at hj
 rw [blk_cell hg j]; exact hj
theorem reps_to {α : Type} {d : Kd α} {w w' : World} {base : Nat} {ok ok' : Nat → Prop} {xs : List α} {inner : List Value} (h : Reps (d.M w base ok) d.sz xs inner) (hm : ∀ k, ok k → k < w.heap.size → w'.heap[k]? = w.heap[k]? ∧ ok' k) : Reps (d.M w' base ok') d.sz xs inner :=
 h.imp_ (fun p cs hp => d.M_mono (fun k hk => (hm k hk.1 hk.2.2.1).2) (Kd.M_step (d.M_bound hp) (fun k hk hlt => (hm k hk.1 hlt).1)))
theorem R_mk {α : Type} {d : Kd α} {e base : Nat} {w' : World} {ok : Nat → Prop} {g c n : Nat} {cur : Array Value} {xs : List α} {inner : List Value} (hn : n = xs.length) (hok : ok g) (hb : base ≤ g) (hh : w'.heap[g]? = some (.cells cur e (0, 0))) (hl : n ≤ c) (hc : c ≤ 9223372036854775807) (hs : cur.size = c * d.sz)
  (hi : inner.length = n * d.sz) (ht : cur.toList.take (n * d.sz) = inner) (hr : Reps (d.M w' base (fun k => ok k ∧ some k ≠ some g)) d.sz xs inner) : d.R e w' base ok (.slice (some ⟨g, 0, none⟩) n c) xs := by
 subst hn
 exact ⟨fun k hk => by cases hk; exact hok, inner, ⟨hi, .inr ⟨g, c, cur, rfl, hb, hh, hl, hc, hs, ht⟩⟩, hr⟩
theorem reps_one {α : Type} {d : Kd α} {w : World} {base : Nat} {ok : Nat → Prop} {xs : List α} {inner : List Value} (h : Reps (d.M w base ok) d.sz xs inner) (hs : 0 < d.sz) : ∀ v ∈ inner, v.oneCell' = true := by
 intro v hv
 obtain ⟨q, hq, rfl⟩ := List.getElem_of_mem hv
 have hl := h.1
 have hqm : q / d.sz < xs.length := by rw [hl] at hq; exact Nat.div_lt_of_lt_mul (by rw [Nat.mul_comm]; exact hq)
 have hrr := h.2 (q / d.sz) _ (List.getElem?_eq_getElem hqm)
 refine d.K_one (d.K_of_M hrr) _ (List.mem_of_getElem? (i := q % d.sz) ?_)
 have e : q / d.sz * d.sz + q % d.sz = q := by rw [Nat.mul_comm]; exact Nat.div_add_mod q d.sz
 rw [List.getElem?_take_of_lt (Nat.mod_lt _ hs), List.getElem?_drop, e, List.getElem?_eq_getElem hq]
set_option maxHeartbeats 4000000 in
set_option maxRecDepth 100000 in
/-- slices.Insert of one element: there is room, not at the end: in place. -/
theorem slices_Insert_Way.shift (g n c i vb vc : Nat) (cur curv : Array Value) (cs vs : List Value) (w : World) (hg : w.heap[g]? = some (.cells cur 86 (0, 0))) (hv : w.heap[vb]? = some (.cells curv 86 (0, 0)))
  (hi : i < n) (hroom : n + 1 ≤ c) (hc63 : c ≤ 9223372036854775807) (hcz : cur.size = c * 3) (hvz : 3 ≤ curv.size) (hvb : vb ≠ g) (hcs : cs = cur.toList.take (n * 3)) (hvs : vs = curv.toList.take 3)
  (h1c : ∀ v ∈ cs, v.oneCell' = true) (h1v : ∀ v ∈ vs, v.oneCell' = true) :
  Calls Try.prog 121 #[.slice (some ⟨g, 0, none⟩) n c, .int .i64 i, .slice (some ⟨vb, 0, none⟩) 1 vc] w fun e w' =>
   e = .returned (.slice (some ⟨g, 0, none⟩) (n + 1) c) ∧ w' = (w.drew.setCells g ((i + 1) * 3) (cs.drop (i * 3))).setCells g (i * 3) vs := by
 have u75 := Try.underlying75
 have hz2 : ¬ ((i : Int) = (n : Int)) := by omega
 obtain ⟨i0, hi0, hii⟩ : ∃ i0, Try.prog.info? 86 = some i0 ∧ i0.size = 3 := by
  have := info86
  cases h : Try.prog.info? 86 with
  | none => rw [h] at this; cases this
  | some i0 => rw [h] at this; simp at this; exact ⟨i0, rfl, this.2.1⟩
 have hov : ∀ lb cb, (callFunc 145 #[.slice (some ⟨vb, 0, none⟩) 1 vc, .slice (some ⟨g, (i + 1) * 3, none⟩) lb cb]).run Try.prog w = .ok (.value (.bool false)) w := fun lb cb => by
  rw [run_callFunc_extern Try.func145 (by kernel_rfl) (by kernel_rfl) (by kernel_rfl) (e := Extern.SlicesOverlaps.overlaps #[75, 75] #[4]) (by kernel_rfl),
   Lib.run_overlaps_apart w 75 4 86 Try.underlying75 3 Try.sizeOf86 ⟨vb, 0, none⟩ ⟨g, (i + 1) * 3, none⟩ 1 vc lb cb hvb 86 86 curv.size cur.size (by simp [World.shape?, hv]) (by simp [World.shape?, hg]) (by omega) (blk_frozen hv _) (blk_frozen hv _)]
  rfl
 have hcl : cs.length = n * 3 := by rw [hcs, List.length_take, Array.length_toList, hcz]; omega
 have hvl : vs.length = 3 := by rw [hvs, List.length_take, Array.length_toList]; omega
 have hdl : (cs.drop (i * 3)).length = (n - i) * 3 := by rw [List.length_drop, hcl, Nat.sub_mul]
 have hmx : Try.prog.follows .mixedOrders = true := by kernel_rfl
 have hw1 : IntKind.i64.wrap ((i : Int) + 1) = (i : Int) + 1 := by rw [IntKind.wrap_i64]; omega
 have hb1 : (0 : Int) ≤ (i : Int) + 1 := by omega
 have hin : i ≤ n := by omega
 have htn : ((i : Int) + 1).toNat = i + 1 := by omega
 have hb2 : ¬ (c = i + 1) := by omega
 have hb3 : (i : Int) ≤ (n : Int) + 1 := by omega
 have hb4 : ¬ (c = i) := by omega
 have hcget : ∀ j v, cs[j]? = some v → w.cell? ⟨g, j, none⟩ = some v := fun j v hj => by
  have hlt := (List.getElem?_eq_some_iff.1 hj).1
  rw [hcl] at hlt
  rw [hcs, List.getElem?_take_of_lt hlt, Array.getElem?_toList] at hj
  rw [blk_cell hg j]; exact hj
 have hvget : ∀ j v, vs[j]? = some v → w.cell? ⟨vb, j, none⟩ = some v := fun j v hj => by
  have hlt := (List.getElem?_eq_some_iff.1 hj).1
  rw [hvl] at hlt
  rw [hvs, List.getElem?_take_of_lt hlt, Array.getElem?_toList] at hj
  rw [blk_cell hv j]; exact hj
 have hcp1 : ∀ ty dc sc, (Builtin.copy_ #[75, 75] ty #[.slice (some ⟨g, (i + 1) * 3, none⟩) (n - i) dc, .slice (some ⟨g, i * 3, none⟩) (n + 1 - i) sc]).run Try.prog w.drew = .ok (goInt ((n - i : Nat) : Int)) (w.drew.setCells g ((i + 1) * 3) (cs.drop (i * 3))) := fun ty dc sc =>
  copy_cellsM w.drew _ _ ty 86 i0 3 g ((i + 1) * 3) (n - i) dc ⟨g, i * 3, none⟩ (n + 1 - i) sc (n - i) (cs.drop (i * 3)) Try.underlying75 hi0 hii (by simp only [Nat.min_def]; split <;> omega) hdl
   (fun j v hj => by rw [Addr.add_lit]; exact hcget _ v (by rwa [List.getElem?_drop] at hj))
   (fun j hj => blk_some hg _ (by rw [hdl] at hj; omega)) (fun j hj => blk_frozen hg _) (fun v hv => h1c v (List.mem_of_mem_drop hv))
 obtain ⟨W1, hW1⟩ : ∃ W1, W1 = w.drew.setCells g ((i + 1) * 3) (cs.drop (i * 3)) := ⟨_, rfl⟩
 obtain ⟨cur1, hc1, hs1, _⟩ := setCells_row (cs.drop (i * 3)) ((i + 1) * 3) w.drew cur hg (by rw [hdl, hcz]; omega)
 have hv1 : W1.heap[vb]? = some (.cells curv 86 (0, 0)) := by rw [hW1]; exact (setCells_far _ _ vb hvb).trans hv
 rw [← hW1] at hc1
 have hcp2 : ∀ (W : World), (∀ x, W.cell? x = W1.cell? x) → (∀ x, W.frozen? x = W1.frozen? x) → ∀ ty dc, (Builtin.copy_ #[75, 75] ty #[.slice (some ⟨g, i * 3, none⟩) (n + 1 - i) dc, .slice (some ⟨vb, 0, none⟩) 1 vc]).run Try.prog W = .ok (goInt ((1 : Nat) : Int)) (W.setCells g (i * 3) vs) := fun W hWc hWf ty dc =>
  copy_cellsM W _ _ ty 86 i0 3 g (i * 3) (n + 1 - i) dc ⟨vb, 0, none⟩ 1 vc 1 vs Try.underlying75 hi0 hii (by simp only [Nat.min_def]; split <;> omega) (by rw [hvl])
   (fun j v hj => by
    rw [Addr.add_lit, hWc, Nat.zero_add, hW1, World.cell?_setCells_out g _ _ _ _ (fun h _ => absurd h hvb)]
    exact hvget j v hj)
   (fun j hj => by rw [hWc]; exact blk_some hc1 _ (by rw [hvl] at hj; rw [hs1, hcz]; omega)) (fun j hj => by rw [hWf]; exact blk_frozen hc1 _) h1v
 rw [← hW1] at hcp1
 clear hg hv hc1 hv1 hcget hvget hcs hvs
 go_enter Try.func121, Try.ntmps121
 go_wp2_with (simp only [hov])
 go_region_law_o (refine step_copy_runI rfl _ _ 75 75 rfl _ _ (by simp [Act.eval, Act.put]) (by simp [Act.eval, Act.put]) (hcp1 _ _ _) ?_)
 go_wp2_with (at_builtin; refine wpList_copy_runI _ rfl _ _ 75 75 rfl _ _ rfl rfl (hcp2 _ (fun _ => rfl) (fun _ => rfl) _ _) ?_)
 go_ret
 first | exact ⟨rfl, rfl⟩ | exact ⟨rfl, by rw [hW1]⟩
theorem slices_Insert_Way.info : ∃ i0, Try.prog.info? 86 = some i0 ∧ i0.size = 3 ∧ i0.zero = some (Value.agg #[(.int .i64 0), (.int .i64 0), (.int .i64 0)]) ∧ i0.bytes = 24 := by
 have := info86
 cases h : Try.prog.info? 86 with
 | none => rw [h] at this; cases this
 | some i0 => rw [h] at this; simp at this; exact ⟨i0, rfl, this.2.1, this.1, this.2.2⟩
set_option maxHeartbeats 4000000 in
set_option maxRecDepth 100000 in
theorem slices_Insert_Way.end_room (g n c vb vc : Nat) (cur curv : Array Value) (vs : List Value) (w : World) (hg : w.heap[g]? = some (.cells cur 86 (0, 0))) (hv : w.heap[vb]? = some (.cells curv 86 (0, 0)))
  (hroom : n + 1 ≤ c) (hc63 : c ≤ 9223372036854775807) (hcz : cur.size = c * 3) (hvz : 3 ≤ curv.size) (hvs : vs = curv.toList.take 3) (h1v : ∀ v ∈ vs, v.oneCell' = true) :
  Calls Try.prog 121 #[.slice (some ⟨g, 0, none⟩) n c, .int .i64 n, .slice (some ⟨vb, 0, none⟩) 1 vc] w fun e w' =>
   e = .returned (.slice (some ⟨g, 0, none⟩) (n + 1) c) ∧ w' = w.setCells g (n * 3) vs := by
 have u75 := Try.underlying75
 obtain ⟨i0, hi0, hii, hzz, hbb⟩ := slices_Insert_Way.info
 have hvl : vs.length = 3 := by rw [hvs, List.length_take, Array.length_toList]; omega
 have hvget := row_get hv hvs
 have hb4 : ¬ (c = n) := by omega
 have hrun : ∀ ty, (Builtin.append_ #[75, 75] ty #[.slice (some ⟨g, 0, none⟩) n c, .slice (some ⟨vb, 0, none⟩) 1 vc]).run Try.prog w = .ok (.slice (some ⟨g, 0, none⟩) (n + 1) c) (w.setCells g (n * 3) vs) := fun ty => by
  have h := run_append_room_cells (P := Try.prog) w 75 ty 86 i0 Try.underlying75 hi0 g 0 n c ⟨vb, 0, none⟩ 1 vc vs (by rw [hvl, hii]) (fun j u hj => by rw [Addr.add_lit, Nat.zero_add]; exact hvget j u hj) h1v hroom
   (fun j hj => blk_some hg _ (by rw [hvl] at hj; rw [hcz, hii]; omega)) (fun j hj => blk_frozen hg _)
  rw [hii, Nat.zero_add] at h
  exact h
 clear hg hv hvget hvs
 go_enter Try.func121, Try.ntmps121
 go_wp2_with (at_builtin; refine Lib.wpList_append_run _ rfl _ _ _ _ rfl _ _ rfl rfl _ _ (hrun _) ?_)
 go_ret
 exact ⟨rfl, rfl⟩
set_option maxHeartbeats 4000000 in
set_option maxRecDepth 100000 in
theorem slices_Insert_Way.end_none (vb vc : Nat) (curv : Array Value) (vs : List Value) (w : World) (hv : w.heap[vb]? = some (.cells curv 86 (0, 0)))
  (hvz : 3 ≤ curv.size) (hvs : vs = curv.toList.take 3) (h1v : ∀ v ∈ vs, v.oneCell' = true) :
  Calls Try.prog 121 #[.slice none 0 0, .int .i64 0, .slice (some ⟨vb, 0, none⟩) 1 vc] w fun e w' =>
   e = .returned (.slice (some ⟨w.heap.size, 0, none⟩) 1 (grownCap w 1 0 86)) ∧ w' = w.drew.alloc (.cells (vs.toArray ++ Builtin.zeroCells (Value.agg #[(.int .i64 0), (.int .i64 0), (.int .i64 0)]).cells (grownCap w 1 0 86 - 1)) 86) := by
 have u75 := Try.underlying75
 obtain ⟨i0, hi0, hii, hzz, hbb⟩ := slices_Insert_Way.info
 have hvl : vs.length = 3 := by rw [hvs, List.length_take, Array.length_toList]; omega
 have hvget := row_get hv hvs
 have hsrc : Src Try.prog i0.size 75 (.slice (some ⟨vb, 0, none⟩) 1 vc) 1 vs w := by
  rw [hii]
  exact Src.ofSlice w Try.underlying75 ⟨vb, 0, none⟩ 1 vc vs (by rw [hvl]) (fun j u hj => by rw [Addr.add_lit, Nat.zero_add]; exact hvget j u hj) h1v
 have hrun : ∀ ty, (Builtin.append_ #[75, 75] ty #[.slice none 0 0, .slice (some ⟨vb, 0, none⟩) 1 vc]).run Try.prog w = _ := fun ty =>
  run_append_grow_src w 75 75 ty 86 i0 _ Try.underlying75 hi0 hzz none 0 0 [] (run_firstCells_none w.drew i0.size 0 0 0) _ 1 vs hsrc (by omega) (by omega) (by rw [hbb]; exact growslice_fits (by omega) (by omega))
 simp only [List.nil_append, Nat.zero_add] at hrun
 clear hv hvget hvs
 go_enter Try.func121, Try.ntmps121
 go_wp2_with (at_builtin; refine Lib.wpList_append_run _ rfl _ _ _ _ rfl _ _ rfl rfl _ _ (hrun _) ?_)
 go_ret
 exact ⟨rfl, rfl⟩
set_option maxHeartbeats 4000000 in
set_option maxRecDepth 100000 in
theorem slices_Insert_Way.end_grow (g n vb vc : Nat) (cur curv : Array Value) (cs vs : List Value) (w : World) (hg : w.heap[g]? = some (.cells cur 86 (0, 0))) (hv : w.heap[vb]? = some (.cells curv 86 (0, 0)))
  (hn : n ≤ 9223372036854775806) (hbig : (n + 1) * 24 ≤ 140737488355328) (hcz : cur.size = n * 3) (hvz : 3 ≤ curv.size) (hcs : cs = cur.toList.take (n * 3)) (hvs : vs = curv.toList.take 3) (h1v : ∀ v ∈ vs, v.oneCell' = true) :
  Calls Try.prog 121 #[.slice (some ⟨g, 0, none⟩) n n, .int .i64 n, .slice (some ⟨vb, 0, none⟩) 1 vc] w fun e w' =>
   e = .returned (.slice (some ⟨w.heap.size, 0, none⟩) (n + 1) (grownCap w (n + 1) n 86)) ∧ w' = w.drew.alloc (.cells ((cs ++ vs).toArray ++ Builtin.zeroCells (Value.agg #[(.int .i64 0), (.int .i64 0), (.int .i64 0)]).cells (grownCap w (n + 1) n 86 - (n + 1))) 86) := by
 have u75 := Try.underlying75
 obtain ⟨i0, hi0, hii, hzz, hbb⟩ := slices_Insert_Way.info
 have hcl : cs.length = n * 3 := by rw [hcs, List.length_take, Array.length_toList, hcz]; omega
 have hvl : vs.length = 3 := by rw [hvs, List.length_take, Array.length_toList]; omega
 have hcget := row_get hg hcs
 have hvget := row_get hv hvs
 have hsrc : Src Try.prog i0.size 75 (.slice (some ⟨vb, 0, none⟩) 1 vc) 1 vs w := by
  rw [hii]
  exact Src.ofSlice w Try.underlying75 ⟨vb, 0, none⟩ 1 vc vs (by rw [hvl]) (fun j u hj => by rw [Addr.add_lit, Nat.zero_add]; exact hvget j u hj) h1v
 have hold : (Builtin.firstCells i0.size n (.slice (some ⟨g, 0, none⟩) n n)).run Try.prog w.drew = .ok cs.toArray w.drew := by
  rw [hii]
  exact run_firstCells_some w.drew 3 n ⟨g, 0, none⟩ n n cs hcl (fun j v hj => by rw [Addr.add_lit, Nat.zero_add]; exact hcget j v hj)
 have hrun : ∀ ty, (Builtin.append_ #[75, 75] ty #[.slice (some ⟨g, 0, none⟩) n n, .slice (some ⟨vb, 0, none⟩) 1 vc]).run Try.prog w = _ := fun ty =>
  run_append_grow_src w 75 75 ty 86 i0 _ Try.underlying75 hi0 hzz (some ⟨g, 0, none⟩) n n cs hold _ 1 vs hsrc (by omega) (by omega) (by rw [hbb]; exact growslice_fits (by omega) hbig)
 clear hg hv hvget hcget hvs hcs hold
 go_enter Try.func121, Try.ntmps121
 go_wp2_with (at_builtin; refine Lib.wpList_append_run _ rfl _ _ _ _ rfl _ _ rfl rfl _ _ (hrun _) ?_)
 all_goals (go_ret; exact ⟨rfl, rfl⟩)
set_option maxHeartbeats 4000000 in
set_option maxRecDepth 100000 in
theorem slices_Insert_Way.grow (g n i vb vc : Nat) (cur curv : Array Value) (cs vs : List Value) (w : World) (hg : w.heap[g]? = some (.cells cur 86 (0, 0))) (hv : w.heap[vb]? = some (.cells curv 86 (0, 0)))
  (hi : i < n) (hbig : (n + 1) * 24 ≤ 140737488355328) (hcz : cur.size = n * 3) (hvz : 3 ≤ curv.size) (hcs : cs = cur.toList.take (n * 3)) (hvs : vs = curv.toList.take 3) (h1c : ∀ v ∈ cs, v.oneCell' = true) (h1v : ∀ v ∈ vs, v.oneCell' = true) :
  Calls Try.prog 121 #[.slice (some ⟨g, 0, none⟩) n n, .int .i64 i, .slice (some ⟨vb, 0, none⟩) 1 vc] w fun e w' =>
   e = .returned (.slice (some ⟨w.heap.size, 0, none⟩) (n + 1) (grownCap w (n + 1) n 86)) ∧
   w' = (((w.alloc (.cells ((cs.take (i * 3)).toArray ++ Builtin.zeroCells (Value.agg #[(.int .i64 0), (.int .i64 0), (.int .i64 0)]).cells (n + 1 - i) ++ Builtin.zeroCells (Value.agg #[(.int .i64 0), (.int .i64 0), (.int .i64 0)]).cells (grownCap w (n + 1) n 86 - (n + 1))) 86)).drew.setCells w.heap.size (i * 3) vs).drew).setCells w.heap.size ((i + 1) * 3) (cs.drop (i * 3)) := by
 have u75 := Try.underlying75
 have u3 := Try.underlying3
 have hmx : Try.prog.follows .mixedOrders = true := by kernel_rfl
 obtain ⟨i0, hi0, hii, hzz, hbb⟩ := slices_Insert_Way.info
 have hcl : cs.length = n * 3 := by rw [hcs, List.length_take, Array.length_toList, hcz]; omega
 have hvl : vs.length = 3 := by rw [hvs, List.length_take, Array.length_toList]; omega
 have hcget := row_get hg hcs
 have hvget := row_get hv hvs
 have hz2 : ¬ ((i : Int) = (n : Int)) := by omega
 have hbw : g < w.heap.size := blk_lt hg
 have hvw : vb < w.heap.size := blk_lt hv
 have hkk : (n : Int) + 1 - (i : Int) = ((n + 1 - i : Nat) : Int) := by omega
 have hik : i + (n + 1 - i) = n + 1 := by omega
 have hold : (Builtin.firstCells i0.size i (.slice (some ⟨g, 0, none⟩) i n)).run Try.prog w.drew = .ok (cs.take (i * 3)).toArray w.drew := by
  rw [hii]
  exact run_firstCells_some w.drew 3 i ⟨g, 0, none⟩ i n (cs.take (i * 3)) (by rw [List.length_take, hcl]; omega) (fun j v hj => by
   rw [Addr.add_lit, Nat.zero_add]
   rw [List.getElem?_take] at hj
   split at hj
   ·exact hcget j v hj
   ·cases hj)
 obtain ⟨Z, hZ⟩ : ∃ Z, Z = (Value.agg #[(.int .i64 0), (.int .i64 0), (.int .i64 0)]).cells := ⟨_, rfl⟩
 have hZs : Z.size = 3 := by rw [hZ]; rfl
 obtain ⟨G, hG⟩ : ∃ G, G = grownCap w (n + 1) n 86 := ⟨_, rfl⟩
 have hrz : ∀ ty, (Builtin.append_ #[75, 3] ty #[.slice (some ⟨g, 0, none⟩) i n, .int .i64 ((n : Int) + 1 - (i : Int))]).run Try.prog w =
   .ok (.slice (some ⟨w.heap.size, 0, none⟩) (n + 1) G) (w.drew.alloc (.cells ((cs.take (i * 3)).toArray ++ Builtin.zeroCells Z (n + 1 - i) ++ Builtin.zeroCells Z (G - (n + 1))) 86)) := fun ty => by
  have h := Lib.run_append_grow_zeros w 75 3 ty 86 i0 _ .i64 .i64 Try.underlying75 Try.underlying3 hi0 hzz (some ⟨g, 0, none⟩) i n (cs.take (i * 3)) hold (n + 1 - i) (by omega) (by omega) (by omega) (by omega) (by rw [hbb]; omega) (by rw [hbb, hik]; exact growslice_fits (by omega) hbig)
  rw [hik] at h
  rw [hkk, hG, hZ]
  exact h
 rw [← hG, ← hZ]
 obtain ⟨ROW, hROW⟩ : ∃ ROW : Array Value, ROW = (cs.take (i * 3)).toArray ++ Builtin.zeroCells Z (n + 1 - i) ++ Builtin.zeroCells Z (G - (n + 1)) := ⟨_, rfl⟩
 rw [← hROW] at hrz ⊢
 have hRl : (n + 1) * 3 ≤ ROW.size := by
  rw [hROW, Array.size_append, Array.size_append]
  have h1 : (cs.take (i * 3)).toArray.size = i * 3 := by rw [List.size_toArray, List.length_take, hcl]; omega
  have h2 : (Builtin.zeroCells Z (n + 1 - i)).size = (n + 1 - i) * 3 := by have := zeroCells_len Z (n + 1 - i); rw [Array.length_toList, hZs] at this; exact this
  rw [h1, h2]; omega
 obtain ⟨W1, hW1⟩ : ∃ W1, W1 = w.drew.alloc (.cells ROW 86) := ⟨_, rfl⟩
 rw [← hW1] at hrz
 have hNb : W1.heap[w.heap.size]? = some (.cells ROW 86 (0, 0)) := by rw [hW1]; exact blk_new w.drew _
 have hOg : W1.heap[g]? = some (.cells cur 86 (0, 0)) := by rw [hW1]; exact blk_alloc (w := w.drew) hg _
 have hOv : W1.heap[vb]? = some (.cells curv 86 (0, 0)) := by rw [hW1]; exact blk_alloc (w := w.drew) hv _
 have hcpA : ∀ (W : World), (∀ x, W.cell? x = W1.cell? x) → (∀ x, W.frozen? x = W1.frozen? x) → ∀ ty dc, (Builtin.copy_ #[75, 75] ty #[.slice (some ⟨w.heap.size, i * 3, none⟩) (n + 1 - i) dc, .slice (some ⟨vb, 0, none⟩) 1 vc]).run Try.prog W = .ok (goInt ((1 : Nat) : Int)) (W.setCells w.heap.size (i * 3) vs) := fun W hWc hWf ty dc =>
  copy_cellsM W _ _ ty 86 i0 3 w.heap.size (i * 3) (n + 1 - i) dc ⟨vb, 0, none⟩ 1 vc 1 vs Try.underlying75 hi0 hii (by simp only [Nat.min_def]; split <;> omega) (by rw [hvl])
   (fun j v hj => by rw [Addr.add_lit, hWc, Nat.zero_add]; exact row_get hOv hvs j v hj)
   (fun j hj => by rw [hWc]; exact blk_some hNb _ (by rw [hvl] at hj; omega)) (fun j hj => by rw [hWf]; exact blk_frozen hNb _) h1v
 have hGn : n + 1 ≤ G := by rw [hG]; exact grownCap_ge w _ _ _
 have hG63 : G ≤ 9223372036854775807 := by
  have := grownCap_le_maxLen w (n + 1) n 86 (by unfold maxLen; omega)
  rw [← hG] at this
  unfold maxLen at this
  omega
 have hGi : ¬ (G = i) := by omega
 have hGim : ¬ (G = i + 1) := by omega
 have hci : ¬ (n = i) := by omega
 have hbN : w.heap.size ≠ g := by omega
 have hdl : (cs.drop (i * 3)).length = (n - i) * 3 := by rw [List.length_drop, hcl, Nat.sub_mul]
 obtain ⟨ROW2, hN2, hs2, _⟩ := setCells_row vs (i * 3) W1 ROW hNb (by rw [hvl]; omega)
 have hOg2 : (W1.setCells w.heap.size (i * 3) vs).heap[g]? = some (.cells cur 86 (0, 0)) := (setCells_far _ _ g (fun e => hbN e.symm)).trans hOg
 have hcpB : ∀ (W : World), (∀ x, W.cell? x = (W1.setCells w.heap.size (i * 3) vs).cell? x) → (∀ x, W.frozen? x = (W1.setCells w.heap.size (i * 3) vs).frozen? x) → ∀ ty dc sc, (Builtin.copy_ #[75, 75] ty #[.slice (some ⟨w.heap.size, (i + 1) * 3, none⟩) (n - i) dc, .slice (some ⟨g, i * 3, none⟩) (n - i) sc]).run Try.prog W = .ok (goInt ((n - i : Nat) : Int)) (W.setCells w.heap.size ((i + 1) * 3) (cs.drop (i * 3))) := fun W hWc hWf ty dc sc =>
  copy_cellsM W _ _ ty 86 i0 3 w.heap.size ((i + 1) * 3) (n - i) dc ⟨g, i * 3, none⟩ (n - i) sc (n - i) (cs.drop (i * 3)) Try.underlying75 hi0 hii (by simp only [Nat.min_def]; split <;> omega) hdl
   (fun j v hj => by
    rw [Addr.add_lit, hWc]
    exact row_get hOg2 hcs _ v (by rwa [List.getElem?_drop] at hj))
   (fun j hj => by rw [hWc]; exact blk_some hN2 _ (by rw [hdl] at hj; rw [hs2]; omega))
   (fun j hj => by rw [hWf]; exact blk_frozen hN2 _) (fun v hv => h1c v (List.mem_of_mem_drop hv))
 clear hNb hOg hOv hN2 hOg2 hg hv
 subst hW1
 have hE1 : ∀ x, ((w.alloc (.cells ROW 86)).drew).cell? x = (w.drew.alloc (.cells ROW 86)).cell? x := fun x => rfl
 have hE2 : ∀ x, ((w.alloc (.cells ROW 86)).drew).frozen? x = (w.drew.alloc (.cells ROW 86)).frozen? x := fun x => rfl
 have hF1 : ∀ x, (((w.alloc (.cells ROW 86)).drew.setCells w.heap.size (i * 3) vs).drew).cell? x = ((w.drew.alloc (.cells ROW 86)).setCells w.heap.size (i * 3) vs).cell? x := fun x => rfl
 have hF2 : ∀ x, (((w.alloc (.cells ROW 86)).drew.setCells w.heap.size (i * 3) vs).drew).frozen? x = ((w.drew.alloc (.cells ROW 86)).setCells w.heap.size (i * 3) vs).frozen? x := fun x => rfl
 have hw1 : IntKind.i64.wrap ((i : Int) + 1) = (i : Int) + 1 := by rw [IntKind.wrap_i64]; omega
 have hb1 : (0 : Int) ≤ (i : Int) + 1 := by omega
 have hin : i ≤ n := by omega
 have htn : ((i : Int) + 1).toNat = i + 1 := by omega
 have hb3 : (i : Int) ≤ (n : Int) := by omega
 clear hkk hik hold hROW hG hRl hcs hvs hcget hvget hs2
 go_enter Try.func121, Try.ntmps121
 go_wp2_with (first
  | (at_builtin; refine Lib.wpList_append_run _ rfl _ _ _ _ rfl _ _ rfl rfl _ _ (hrz _) ?_)
  | (at_builtin; refine wpList_copy_runI _ rfl _ _ 75 75 rfl _ _ rfl rfl (hcpA _ hE1 hE2 _ _) ?_)
  | (at_builtin; refine wpList_copy_runI _ rfl _ _ 75 75 rfl _ _ rfl rfl (hcpB _ (fun _ => rfl) (fun _ => rfl) _ _ _) ?_))
 go_region_law_o (refine step_copy_runI rfl _ _ 75 75 rfl (.slice (some ⟨w.heap.size, (i + 1) * 3, none⟩) (n - i) (G - (i + 1))) (.slice (some ⟨g, i * 3, none⟩) (n - i) (n - i)) (by simp [Act.eval, Act.put]) (by simp [Act.eval, Act.put]) (hcpB _ hF1 hF2 3 (G - (i + 1)) (n - i)) ?_)
 go_wp2
 go_ret
 exact ⟨rfl, rfl⟩
def slices_Insert_Way.f (l0 : List S86) (a1 : Int) (l2 : List S86) : Option (List S86) := if l2.length = 1 then (if 0 ≤ a1 then (if a1 ≤ (l0.length : Int) then (if (l0.length + 1) * 24 ≤ 140737488355328 then some (l0.take a1.toNat ++ (l2 ++ l0.drop a1.toNat)) else none) else none) else none) else none
set_option maxHeartbeats 4000000 in
theorem slices_Insert_Way.calls (P0_ : Nat → Prop) (u9000_ : Value) (l0 : List S86) (a1 : Int) (P2_ : Nat → Prop) (u9001_ : Value) (l2 : List S86) (r : List S86) (w0 w : World) (hB : Below w0.heap.size w0 w) (ho0 : Kd.R k86 86 w w0.heap.size P0_ u9000_ l0) (hp0_2 : ∀ k_, P0_ k_ → ¬ P2_ k_) (ho2 : Kd.R k86 86 w w0.heap.size P2_ u9001_ l2) (hp2_0 : ∀ k_, P2_ k_ → ¬ P0_ k_) (h : slices_Insert_Way.f l0 a1 l2 = some r) :
  Calls Try.prog 121 #[u9000_, .int .i64 a1, u9001_] w fun e w' => ∃ v0_ : Value, e = .returned (v0_) ∧ Kd.R k86 86 w' w0.heap.size (fun k_ => ((P0_ k_ ∨ P2_ k_) ∨ w.heap.size ≤ k_)) v0_ r ∧ Below w0.heap.size w0 w' ∧ Kept w w' (fun k_ => P0_ k_ ∨ P2_ k_) := by
 unfold slices_Insert_Way.f at h
 by_cases d1 : l2.length = 1
 ·rw [if_pos d1] at h
  by_cases d2 : 0 ≤ a1
  ·rw [if_pos d2] at h
   by_cases d3 : a1 ≤ (l0.length : Int)
   ·rw [if_pos d3] at h
    by_cases d4 : (l0.length + 1) * 24 ≤ 140737488355328
    ·rw [if_pos d4] at h
     obtain rfl := Option.some.inj h
     obtain ⟨i, rfl⟩ : ∃ i : Nat, a1 = i := ⟨a1.toNat, by omega⟩
     simp only [Int.toNat_natCast]
     obtain ⟨hP2, vs, ⟨hvl, hcase2⟩, hr2⟩ := ho2
     rcases hcase2 with ⟨rfl, h0⟩ | ⟨vb, vc, curv, rfl, hvb0, hhv, hvc, hvm, hvs, hvt⟩
     ·omega
     have hPv := hP2 vb rfl
     rw [d1] at hvt hvl hvc
     have hvl' : vs.length = 3 := hvl
     have hvs' : curv.size = vc * 3 := hvs
     have hvt' : vs = curv.toList.take 3 := hvt.symm
     have hv1 := reps_one hr2 (show 0 < k86.sz by decide)
     rw [d1]
     have hS : w0.heap.size ≤ w.heap.size := hB.size
     have hBN : ∀ k, k < w.heap.size → some k ≠ some w.heap.size := fun k hk e => by have := Option.some.inj e; omega
     obtain ⟨hP, inner, ⟨hil, hcase⟩, hr⟩ := ho0
     have hil' : inner.length = l0.length * 3 := hil
     have hrl : (l0.take i ++ (l2 ++ l0.drop i)).length = l0.length + 1 := by simp; omega
     have hinl : (inner.take (i * 3) ++ (vs ++ inner.drop (i * 3))).length = (l0.length + 1) * 3 := by simp only [List.length_append, List.length_take, List.length_drop, hil', hvl']; omega
     have hil2 : i ≤ l0.length := by omega
     rcases hcase with ⟨rfl, h0⟩ | ⟨g, c, cur, rfl, hgb, hh, hnc, hcm, hcs, htake⟩
     ·have e0 : l0 = [] := List.length_eq_zero_iff.1 h0
      subst e0
      have ei : i = 0 := by simp at hil2; exact hil2
      subst ei
      have hin : inner = [] := List.length_eq_zero_iff.1 (by rw [hil']; rfl)
      refine (slices_Insert_Way.end_none vb vc curv vs w hhv (by rw [hvs']; omega) hvt' hv1).mono ?_
      rintro e w' ⟨rfl, rfl⟩
      have hg1 : 1 ≤ grownCap w 1 0 86 := grownCap_ge w _ _ _
      have hb := blk_new w.drew (.cells (vs.toArray ++ Builtin.zeroCells (Value.agg #[(.int .i64 0), (.int .i64 0), (.int .i64 0)]).cells (grownCap w 1 0 86 - 1)) 86)
      have hold : ∀ k, k < w.heap.size → (w.drew.alloc (.cells (vs.toArray ++ Builtin.zeroCells (Value.agg #[(.int .i64 0), (.int .i64 0), (.int .i64 0)]).cells (grownCap w 1 0 86 - 1)) 86)).heap[k]? = w.heap[k]? := fun k hk => (below_alloc (Below.refl w.drew.heap.size w.drew) _).block k hk
      refine ⟨_, rfl, R_mk (inner := vs) (by simp [d1]) (.inr (Nat.le_refl _)) hS hb hg1 (grownCap_le_maxLen w 1 0 86 (by unfold maxLen; omega)) ?_ hvl ?_ ?_, below_alloc (below_drew hB) _, ⟨(below_alloc (Below.refl w.drew.heap.size w.drew) _).size, fun k hk _ => hold k hk⟩⟩
      ·have := zeroCells_len (Value.agg #[(.int .i64 0), (.int .i64 0), (.int .i64 0)]).cells (grownCap w 1 0 86 - 1)
       rw [Array.length_toList] at this
       rw [Array.size_append, List.size_toArray, hvl', this, show k86.sz = 3 from rfl, show (Value.agg #[(.int .i64 0), (.int .i64 0), (.int .i64 0)]).cells.size = 3 from rfl]
       omega
      ·rw [Array.toList_append, List.take_left' (by rw [hvl', show k86.sz = 3 from rfl])]
      ·have b := reps_to (w' := w.drew.alloc (.cells (vs.toArray ++ Builtin.zeroCells (Value.agg #[(.int .i64 0), (.int .i64 0), (.int .i64 0)]).cells (grownCap w 1 0 86 - 1)) 86)) (ok' := fun k => ((P0_ k ∨ P2_ k) ∨ w.heap.size ≤ k) ∧ some k ≠ some w.heap.size) hr2 (fun k hk hlt => ⟨hold k hlt, .inl (.inr hk.1), hBN k hlt⟩)
       simpa using b
     have hPg := hP g rfl
     have hcs' : cur.size = c * 3 := hcs
     have htake' : inner = cur.toList.take (l0.length * 3) := htake.symm
     have hone := reps_one hr (show 0 < k86.sz by decide)
     have hne : vb ≠ g := fun e => hp0_2 g hPg (e ▸ hPv)
     have hcl : cur.toList.length = c * 3 := by rw [Array.length_toList]; exact hcs'
     by_cases hroom : l0.length + 1 ≤ c
     ·-- in place
      have fin : ∀ (w' : World) (cur' : Array Value), w'.heap[g]? = some (.cells cur' 86 (0, 0)) → cur'.size = c * 3 → cur'.toList.take ((l0.length + 1) * 3) = inner.take (i * 3) ++ (vs ++ inner.drop (i * 3)) → (∀ k, k ≠ g → w'.heap[k]? = w.heap[k]?) → Below w0.heap.size w0 w' → w.heap.size ≤ w'.heap.size →
        Kd.R k86 86 w' w0.heap.size (fun k_ => ((P0_ k_ ∨ P2_ k_) ∨ w.heap.size ≤ k_)) (.slice (some ⟨g, 0, none⟩) (l0.length + 1) c) (l0.take i ++ (l2 ++ l0.drop i)) ∧ Below w0.heap.size w0 w' ∧ Kept w w' (fun k_ => P0_ k_ ∨ P2_ k_) := fun w' cur' h1 h2 h3 h4 h5 h6 =>
       ⟨R_mk (inner := inner.take (i * 3) ++ (vs ++ inner.drop (i * 3))) hrl.symm (.inl (.inl hPg)) hgb h1 hroom hcm h2 hinl h3
        (by
         have a := reps_to (w' := w') (ok' := fun k => ((P0_ k ∨ P2_ k) ∨ w.heap.size ≤ k) ∧ some k ≠ some g) hr (fun k hk _ => ⟨h4 k (fun e => hk.2 (by rw [e]; rfl)), .inl (.inl hk.1), fun e => hk.2 (by rw [Option.some.inj e]; rfl)⟩)
         have b := reps_to (w' := w') (ok' := fun k => ((P0_ k ∨ P2_ k) ∨ w.heap.size ≤ k) ∧ some k ≠ some g) hr2 (fun k hk _ => ⟨h4 k (fun e => hp0_2 g hPg (e ▸ hk.1)), .inl (.inr hk.1), fun e => hp0_2 g hPg (Option.some.inj e ▸ hk.1)⟩)
         exact Kd.reps_append (Kd.reps_take a hil2) (Kd.reps_append b (Kd.reps_drop a))),
        h5, ⟨h6, fun k hk hn => h4 k (fun e => hn (.inl (by rw [e]; exact hPg)))⟩⟩
      by_cases hi : i < l0.length
      ·refine (slices_Insert_Way.shift g l0.length c i vb vc cur curv inner vs w hh hhv hi hroom hcm hcs' (by rw [hvs']; omega) hne htake' hvt' hone hv1).mono ?_
       rintro e w' ⟨rfl, rfl⟩
       have hdl : (inner.drop (i * 3)).length = (l0.length - i) * 3 := by rw [List.length_drop, hil', Nat.sub_mul]
       obtain ⟨cur1, hc1, hs1, ht1⟩ := setCells_row (inner.drop (i * 3)) ((i + 1) * 3) w.drew cur hh (by rw [hdl, hcs']; omega)
       obtain ⟨cur2, hc2, hs2, ht2⟩ := setCells_row vs (i * 3) _ cur1 hc1 (by rw [hvl', hs1, hcs']; omega)
       have hc1l : cur1.toList.length = c * 3 := by rw [Array.length_toList, hs1]; exact hcs'
       refine ⟨_, rfl, fin _ cur2 hc2 (by rw [hs2, hs1]; exact hcs') ?_ (fun k hk => (setCells_far _ _ k hk).trans (setCells_far _ _ k hk)) (Go.below_setCells hgb _ _ _ (Go.below_setCells hgb _ _ _ (below_drew hB))) (by rw [(setCells_same _ _ _ _).2.2.2, (setCells_same _ _ _ _).2.2.2]; exact Nat.le_refl _)⟩
       have e1 : cur1.toList.take (i * 3) = inner.take (i * 3) := by
        rw [ht1, List.append_assoc, List.take_append_of_le_length (by rw [List.length_take, hcl]; omega), List.take_take, Nat.min_eq_left (by omega), htake', List.take_take, Nat.min_eq_left (by omega)]
       have e2 : (cur1.toList.drop ((i + 1) * 3)).take ((l0.length - i) * 3) = inner.drop (i * 3) := by
        rw [ht1, List.append_assoc, List.drop_left' (by rw [List.length_take, hcl]; omega), List.take_left' hdl]
       rw [ht2, hvl', List.append_assoc, show i * 3 + 3 = (i + 1) * 3 by omega, e1, List.take_append, List.take_append]
       rw [show (inner.take (i * 3)).length = i * 3 by rw [List.length_take, hil']; omega, hvl', show List.take ((l0.length + 1) * 3) (inner.take (i * 3)) = inner.take (i * 3) from List.take_of_length_le (by rw [List.length_take]; omega), show List.take ((l0.length + 1) * 3 - i * 3) vs = vs from List.take_of_length_le (by rw [hvl']; omega), show (l0.length + 1) * 3 - i * 3 - 3 = (l0.length - i) * 3 by omega, e2]
      ·have ei : i = l0.length := by omega
       subst ei
       refine (slices_Insert_Way.end_room g l0.length c vb vc cur curv vs w hh hhv hroom hcm hcs' (by rw [hvs']; omega) hvt' hv1).mono ?_
       rintro e w' ⟨rfl, rfl⟩
       obtain ⟨cur1, hc1, hs1, ht1⟩ := setCells_row vs (l0.length * 3) w cur hh (by rw [hvl', hcs']; omega)
       refine ⟨_, rfl, fin _ cur1 hc1 (by rw [hs1]; exact hcs') ?_ (fun k hk => setCells_far _ _ k hk) (Go.below_setCells hgb _ _ _ hB) (by rw [(setCells_same _ _ _ _).2.2.2]; exact Nat.le_refl _)⟩
       rw [ht1, List.take_left' (by rw [List.length_append, List.length_take, hcl, hvl']; omega), ← htake', List.drop_eq_nil_of_le (by rw [hil']; omega), List.append_nil, List.take_of_length_le (by rw [hil']; omega)]
     ·-- a new row
      have ec : c = l0.length := by omega
      subst ec
      have hg1 : l0.length + 1 ≤ grownCap w (l0.length + 1) l0.length 86 := grownCap_ge w _ _ _
      have hgm : grownCap w (l0.length + 1) l0.length 86 ≤ 9223372036854775807 := grownCap_le_maxLen w _ _ _ (by unfold maxLen; omega)
      have fin : ∀ (w' : World) (cur' : Array Value), w'.heap[w.heap.size]? = some (.cells cur' 86 (0, 0)) → cur'.size = grownCap w (l0.length + 1) l0.length 86 * 3 → cur'.toList.take ((l0.length + 1) * 3) = inner.take (i * 3) ++ (vs ++ inner.drop (i * 3)) → (∀ k, k < w.heap.size → w'.heap[k]? = w.heap[k]?) → Below w0.heap.size w0 w' → w.heap.size ≤ w'.heap.size →
        Kd.R k86 86 w' w0.heap.size (fun k_ => ((P0_ k_ ∨ P2_ k_) ∨ w.heap.size ≤ k_)) (.slice (some ⟨w.heap.size, 0, none⟩) (l0.length + 1) (grownCap w (l0.length + 1) l0.length 86)) (l0.take i ++ (l2 ++ l0.drop i)) ∧ Below w0.heap.size w0 w' ∧ Kept w w' (fun k_ => P0_ k_ ∨ P2_ k_) := fun w' cur' h1 h2 h3 h4 h5 h6 =>
       ⟨R_mk (inner := inner.take (i * 3) ++ (vs ++ inner.drop (i * 3))) hrl.symm (.inr (Nat.le_refl _)) hS h1 hg1 hgm h2 hinl h3
        (by
         have a := reps_to (w' := w') (ok' := fun k => ((P0_ k ∨ P2_ k) ∨ w.heap.size ≤ k) ∧ some k ≠ some w.heap.size) hr (fun k hk hlt => ⟨h4 k hlt, .inl (.inl hk.1), hBN k hlt⟩)
         have b := reps_to (w' := w') (ok' := fun k => ((P0_ k ∨ P2_ k) ∨ w.heap.size ≤ k) ∧ some k ≠ some w.heap.size) hr2 (fun k hk hlt => ⟨h4 k hlt, .inl (.inr hk.1), hBN k hlt⟩)
         exact Kd.reps_append (Kd.reps_take a hil2) (Kd.reps_append b (Kd.reps_drop a))),
        h5, ⟨h6, fun k hk _ => h4 k hk⟩⟩
      have hzl := zeroCells_len (Value.agg #[(.int .i64 0), (.int .i64 0), (.int .i64 0)]).cells (grownCap w (l0.length + 1) l0.length 86 - (l0.length + 1))
      rw [Array.length_toList, show (Value.agg #[(.int .i64 0), (.int .i64 0), (.int .i64 0)]).cells.size = 3 from rfl] at hzl
      by_cases hi : i < l0.length
      ·refine (slices_Insert_Way.grow g l0.length i vb vc cur curv inner vs w hh hhv hi d4 hcs' (by rw [hvs']; omega) htake' hvt' hone hv1).mono ?_
       rintro e w' ⟨rfl, rfl⟩
       have hz2 := zeroCells_len (Value.agg #[(.int .i64 0), (.int .i64 0), (.int .i64 0)]).cells (l0.length + 1 - i)
       rw [Array.length_toList, show (Value.agg #[(.int .i64 0), (.int .i64 0), (.int .i64 0)]).cells.size = 3 from rfl] at hz2
       obtain ⟨ROW, hROW⟩ : ∃ ROW : Array Value, ROW = (inner.take (i * 3)).toArray ++ Builtin.zeroCells (Value.agg #[(.int .i64 0), (.int .i64 0), (.int .i64 0)]).cells (l0.length + 1 - i) ++ Builtin.zeroCells (Value.agg #[(.int .i64 0), (.int .i64 0), (.int .i64 0)]).cells (grownCap w (l0.length + 1) l0.length 86 - (l0.length + 1)) := ⟨_, rfl⟩
       have hRs : ROW.size = grownCap w (l0.length + 1) l0.length 86 * 3 := by
        rw [hROW, Array.size_append, Array.size_append, hzl, hz2, List.size_toArray, List.length_take, hil']; omega
       have hRt : ROW.toList.take (i * 3) = inner.take (i * 3) := by
        rw [hROW, Array.toList_append, Array.toList_append, List.append_assoc, List.take_left' (by rw [List.length_take, hil']; omega)]
       rw [← hROW]
       have hb := blk_new w (.cells ROW 86)
       have hdl : (inner.drop (i * 3)).length = (l0.length - i) * 3 := by rw [List.length_drop, hil', Nat.sub_mul]
       obtain ⟨cur1, hc1, hs1, ht1⟩ := setCells_row vs (i * 3) (w.alloc (.cells ROW 86)).drew ROW hb (by rw [hvl', hRs]; omega)
       obtain ⟨cur2, hc2, hs2, ht2⟩ := setCells_row (inner.drop (i * 3)) ((i + 1) * 3) ((w.alloc (.cells ROW 86)).drew.setCells w.heap.size (i * 3) vs).drew cur1 hc1 (by rw [hdl, hs1, hRs]; omega)
       have hRl : ROW.toList.length = grownCap w (l0.length + 1) l0.length 86 * 3 := by rw [Array.length_toList]; exact hRs
       have hc1l : cur1.toList.length = grownCap w (l0.length + 1) l0.length 86 * 3 := by rw [Array.length_toList, hs1]; exact hRs
       refine ⟨_, rfl, fin _ cur2 hc2 (by rw [hs2, hs1]; exact hRs) ?_ (fun k hk => (setCells_far _ _ k (by omega)).trans ((setCells_far (w := (w.alloc (.cells ROW 86)).drew) _ _ k (by omega)).trans ((below_alloc (Below.refl w.heap.size w) _).block k hk))) (Go.below_setCells hS _ _ _ (below_drew (Go.below_setCells hS _ _ _ (below_drew (below_alloc hB _))))) ?_⟩
       ·have e1 : cur1.toList.take ((i + 1) * 3) = inner.take (i * 3) ++ vs := by
         rw [ht1, hRt, List.take_left' (by rw [List.length_append, List.length_take, hil', hvl']; omega)]
        rw [ht2, e1, hdl, List.take_left' (by rw [List.length_append, List.length_append, List.length_take, hil', hvl', hdl]; omega), List.append_assoc]
       ·rw [(setCells_same _ _ _ _).2.2.2]
        show w.heap.size ≤ ((w.alloc (.cells ROW 86)).drew.setCells w.heap.size (i * 3) vs).heap.size
        rw [(setCells_same _ _ _ _).2.2.2]
        exact (below_alloc (Below.refl w.heap.size w) _).size
      ·have ei : i = l0.length := by omega
       subst ei
       refine (slices_Insert_Way.end_grow g l0.length vb vc cur curv inner vs w hh hhv (by omega) d4 hcs' (by rw [hvs']; omega) htake' hvt' hv1).mono ?_
       rintro e w' ⟨rfl, rfl⟩
       have hb := blk_new w.drew (.cells ((inner ++ vs).toArray ++ Builtin.zeroCells (Value.agg #[(.int .i64 0), (.int .i64 0), (.int .i64 0)]).cells (grownCap w (l0.length + 1) l0.length 86 - (l0.length + 1))) 86)
       refine ⟨_, rfl, fin _ _ hb ?_ ?_ (fun k hk => (below_alloc (Below.refl w.drew.heap.size w.drew) _).block k hk) (below_alloc (below_drew hB) _) (below_alloc (Below.refl w.drew.heap.size w.drew) _).size⟩
       ·rw [Array.size_append, hzl, List.size_toArray, List.length_append, hil', hvl']; omega
       ·rw [Array.toList_append, List.take_left' (by rw [List.length_append, hil', hvl']; omega), List.take_of_length_le (l := inner) (by rw [hil']; omega), List.drop_eq_nil_of_le (by rw [hil']; omega), List.append_nil]
    ·rw [if_neg d4] at h; cases h
   ·rw [if_neg d3] at h; cases h
  ·rw [if_neg d2] at h; cases h
 ·rw [if_neg d1] at h; cases h
def impl_WaysPut.j0 : Nat → List (S86) → List (S86) → Option ((List (S86)) × Bool)
 | 0, _, _ => none
 | k + 1, x0, x6 => (impl_WaysOk.f k x6).bind fun t115 => (if t115 = true then (some (x6, true)) else ((slices_Clone_Way.f x0).bind fun t116 => (some (t116, false))))
def impl_WaysPut.f (k : Nat) (l0 : List (S86)) (a1_0 : Int) (a1_1 : Int) (a1_2 : Int) : Option ((List (S86)) × Bool) := (impl_WaysOk.f k l0).bind fun t102 => (if t102 = true then ((slices_Clone_Way.f l0).bind fun t103 => ((impl_find.f k t103 a1_0 a1_1).bind fun bt106 => (if bt106.2 = true then (if 0 ≤ bt106.1 then (if bt106.1 < (t103.length : Int) then (impl_WaysPut.j0 k l0 (t103.set (bt106.1 : Int).toNat (⟨(⟨a1_0, a1_1⟩ : S32), a1_2⟩ : S86))) else (none)) else (none)) else ((slices_Insert_Way.f t103 bt106.1 (([(⟨(⟨a1_0, a1_1⟩ : S32), a1_2⟩ : S86)] : List (S86)))).bind fun t112 => (impl_WaysPut.j0 k l0 t112))))) else (some (([] : List (S86)), false)))
set_option maxHeartbeats 8000000 in
set_option maxRecDepth 100000 in
theorem impl_WaysPut.calls (k : Nat) (A0 : Option Addr) (c0 : Nat) (l0 : List (S86)) (a1_0 : Int) (a1_1 : Int) (a1_2 : Int) (r1 : List (S86)) (r2 : Bool) (w : World) (hr0 : Kd.C k86 w A0 l0.length l0) (hc0 : l0.length ≤ c0) (h : impl_WaysPut.f k l0 a1_0 a1_1 a1_2 = some (r1, r2)) :
  Calls Try.prog 68 #[.slice A0 l0.length c0, .agg #[.int .i64 a1_0, .int .i64 a1_1, .int .i64 a1_2]] w fun e w' => ∃ v0_ : Value, e = .returned (.tuple #[v0_, .bool r2]) ∧ Kd.R k86 86 w' w.heap.size (fun _ => True) v0_ r1 ∧ Below w.heap.size w w' := by
 have hu86 := Try.underlying86
 have hu32 := Try.underlying32
 have HR0 := Aside0.mk hr0
 have HC0 := Aside0.mk hc0
 clear hr0 hc0
 have HB := am (Below.refl w.heap.size w)
 have H : ((impl_WaysOk.f k l0).bind fun t102 => (if t102 = true then ((slices_Clone_Way.f l0).bind fun t103 => ((impl_find.f k t103 a1_0 a1_1).bind fun bt106 => (if bt106.2 = true then (if 0 ≤ bt106.1 then (if bt106.1 < (t103.length : Int) then (impl_WaysPut.j0 k l0 (t103.set (bt106.1 : Int).toNat (⟨(⟨a1_0, a1_1⟩ : S32), a1_2⟩ : S86))) else (none)) else (none)) else ((slices_Insert_Way.f t103 bt106.1 (([(⟨(⟨a1_0, a1_1⟩ : S32), a1_2⟩ : S86)] : List (S86)))).bind fun t112 => (impl_WaysPut.j0 k l0 t112))))) else (some (([] : List (S86)), false)))) = some (r1, r2) := h
 clear h
 replace H := Option.bind_eq_some_iff.mp H
 obtain ⟨t102, A30, H⟩ := H
 replace H : (if t102 = true then ((slices_Clone_Way.f l0).bind fun t103 => ((impl_find.f k t103 a1_0 a1_1).bind fun bt106 => (if bt106.2 = true then (if 0 ≤ bt106.1 then (if bt106.1 < (t103.length : Int) then (impl_WaysPut.j0 k l0 (t103.set (bt106.1 : Int).toNat (⟨(⟨a1_0, a1_1⟩ : S32), a1_2⟩ : S86))) else (none)) else (none)) else ((slices_Insert_Way.f t103 bt106.1 (([(⟨(⟨a1_0, a1_1⟩ : S32), a1_2⟩ : S86)] : List (S86)))).bind fun t112 => (impl_WaysPut.j0 k l0 t112))))) else (some (([] : List (S86)), false))) = some (r1, r2) := H
 have A3 := Aside0.mk A30
 clear A30
 by_cases c4 : t102 = true
 ·subst c4
  have H1 : ((slices_Clone_Way.f l0).bind fun t103 => ((impl_find.f k t103 a1_0 a1_1).bind fun bt106 => (if bt106.2 = true then (if 0 ≤ bt106.1 then (if bt106.1 < (t103.length : Int) then (impl_WaysPut.j0 k l0 (t103.set (bt106.1 : Int).toNat (⟨(⟨a1_0, a1_1⟩ : S32), a1_2⟩ : S86))) else (none)) else (none)) else ((slices_Insert_Way.f t103 bt106.1 (([(⟨(⟨a1_0, a1_1⟩ : S32), a1_2⟩ : S86)] : List (S86)))).bind fun t112 => (impl_WaysPut.j0 k l0 t112))))) = some (r1, r2) := by rw [if_pos rfl] at H; exact H
  clear H
  have H := H1
  clear H1
  replace H := Option.bind_eq_some_iff.mp H
  obtain ⟨t103, A50, H⟩ := H
  replace H : ((impl_find.f k t103 a1_0 a1_1).bind fun bt106 => (if bt106.2 = true then (if 0 ≤ bt106.1 then (if bt106.1 < (t103.length : Int) then (impl_WaysPut.j0 k l0 (t103.set (bt106.1 : Int).toNat (⟨(⟨a1_0, a1_1⟩ : S32), a1_2⟩ : S86))) else (none)) else (none)) else ((slices_Insert_Way.f t103 bt106.1 (([(⟨(⟨a1_0, a1_1⟩ : S32), a1_2⟩ : S86)] : List (S86)))).bind fun t112 => (impl_WaysPut.j0 k l0 t112)))) = some (r1, r2) := H
  have A5 := Aside0.mk A50
  clear A50
  replace H := Option.bind_eq_some_iff.mp H
  obtain ⟨⟨t106, t107⟩, A60, H⟩ := H
  replace H : (if t107 = true then (if 0 ≤ t106 then (if t106 < (t103.length : Int) then (impl_WaysPut.j0 k l0 (t103.set (t106 : Int).toNat (⟨(⟨a1_0, a1_1⟩ : S32), a1_2⟩ : S86))) else (none)) else (none)) else ((slices_Insert_Way.f t103 t106 (([(⟨(⟨a1_0, a1_1⟩ : S32), a1_2⟩ : S86)] : List (S86)))).bind fun t112 => (impl_WaysPut.j0 k l0 t112))) = some (r1, r2) := H
  have A6 := Aside0.mk A60
  clear A60
  have HC7 := Aside0.mk H
  clear H
  go_enter Try.func68, Try.ntmps68
  go_upto_if 21 with (first | ((with_reducible refine gate_dst (N := 3) rfl ?_); refine box_event rfl (N := 3) rfl (cs := #[.int .i64 a1_0, .int .i64 a1_1, .int .i64 a1_2]) (t := 86) BX ?_; intro gb101 hg w8 hbox hb; have BK101 := am (hbox); have GW101 := am (GH HB hg); have GE101 := GW101; replace HB := am (below_step (KL HB) hb); clear hb hbox hg) | ((with_reducible refine gate_callee (f := 63) rfl ?_); refine goesL_ (some 10) rfl rfl Try.func63 (by kernel_rfl) rfl #[.slice A0 l0.length c0] rfl MT ?_; (with_reducible refine (impl_WaysOk.calls k _ _ l0 true _ ?side1 ?side2 A3.out).mono ?_); (case side1 => exact KC (Kd.C_below HR0.out HB.out)); (case side2 => exact HC0.out); rintro e w9 ⟨rfl, hb⟩; refine ⟨_, rfl, ?_⟩; replace BK101 := am (BB BK101 hb); replace HB := am (below_step (K1 HB GE101.out) hb); (try clear hb); (try clear hb2); (try clear hk); (try clear hi)) | ((with_reducible refine gate_callee (f := 115) rfl ?_); refine goesL_ (some 13) rfl rfl Try.func115 (by kernel_rfl) rfl #[.slice A0 l0.length c0] rfl MT ?_; (with_reducible refine (slices_Clone_Way.calls _ _ l0 t103 _ ?side1 ?side2 A5.out).mono ?_); (case side1 => exact KC (Kd.C_below HR0.out HB.out)); (case side2 => exact HC0.out); rintro e w10 ⟨v104, rfl, ho0, hb⟩; refine ⟨_, rfl, ?_⟩; have HO105 := am (Kd.R_lower (Kd.R_newB ho0 (g := gb101) (o := .cells #[.int .i64 a1_0, .int .i64 a1_1, .int .i64 a1_2] 86 (0, 0)) (KB BK101)) (below_size (K1 HB GE101.out))); replace BK101 := am (BB BK101 hb); replace HB := am (below_step (K1 HB GE101.out) hb); (try clear hb); (try clear hb2); (try clear hk); (try clear hi); (try clear ho0); obtain ⟨hcz11_0, hcz11_1, hcz11_2, hfz11_0⟩ := y3 w10 BK101.out; obtain ⟨Ao12, co12, eo12⟩ := Kd.R_slice HO105.out; subst eo12) | ((with_reducible refine gate_callee (f := 116) rfl ?_); refine goesL_ (some 18) rfl rfl Try.func116 (by kernel_rfl) rfl #[.slice Ao12 t103.length co12, .agg #[.int .i64 a1_0, .int .i64 a1_1]] rfl MT ?_; (with_reducible refine (impl_find.calls k _ _ t103 a1_0 a1_1 t106 t107 _ ?side1 ?side2 A6.out).mono ?_); (case side1 => exact KC (Kd.R_reads' HO105.out).2.2); (case side2 => exact (Kd.R_reads' HO105.out).2.1); rintro e w13 ⟨rfl, hb⟩; refine ⟨_, rfl, ?_⟩; replace HO105 := am (Kd.R_below (KR HO105) hb); replace BK101 := am (BB BK101 hb); replace HB := am (below_step (K1 HB GE101.out) hb); (try clear hb); (try clear hb2); (try clear hk); (try clear hi)))
  (try simp only [Act.put, List.setIfInBounds_toArray, List.set_cons_zero, List.set_cons_succ])
  go_cut [6] (fun v6 wc => ∃ (kq : Nat) (x6_6 : List (S86)) (x102000_6 : Int) (x102001_6 : Int) (x102002_6 : Int), Aside0 (impl_WaysPut.j0 kq l0 x6_6 = some (r1, r2)) ∧ Aside0 (kq ≤ k) ∧ Aside0 (Kd.R k86 86 wc w.heap.size (fun k_ => k_ ≠ gb101) v6 x6_6) ∧ Aside0 (wc.heap[gb101]? = some (.cells #[.int .i64 x102000_6, .int .i64 x102001_6, .int .i64 x102002_6] 86 (0, 0))) ∧ Aside0 (Below w.heap.size w wc))
  case first =>
   have H := HC7.out
   clear HC7
   by_cases c14 : t107 = true
   ·subst c14
    have H1 : (if 0 ≤ t106 then (if t106 < (t103.length : Int) then (impl_WaysPut.j0 k l0 (t103.set (t106 : Int).toNat (⟨(⟨a1_0, a1_1⟩ : S32), a1_2⟩ : S86))) else (none)) else (none)) = some (r1, r2) := by rw [if_pos rfl] at H; exact H
    clear H
    have H := H1
    clear H1
    by_cases c15 : 0 ≤ t106
    ·rw [if_pos c15] at H
     have c15b0 : decide (0 ≤ t106) = true := decide_eq_true c15
     clear c15
     (first | rw [c15b0] | (simp only [i64_w, i32_w]; rw [c15b0]) | skip)
     by_cases c16 : t106 < (t103.length : Int)
     ·rw [if_pos c16] at H
      have c16b0 : decide (t106 < (t103.length : Int)) = true := decide_eq_true c16
      clear c16
      obtain ⟨y108, hy108⟩ : ∃ y_ : List (S86), y_ = (t103.set (t106 : Int).toNat (⟨(⟨a1_0, a1_1⟩ : S32), a1_2⟩ : S86)) := ⟨_, rfl⟩
      replace H : (impl_WaysPut.j0 k l0 y108) = some (r1, r2) := by first | (rw [hy108]; with_reducible exact H) | (have H2_ := (Option.bind_some _ _).symm.trans H; rw [hy108]; with_reducible exact H2_) | (have H2_ := (Option.bind_some _ _).symm.trans H; with_reducible exact H2_) | with_reducible exact H | (rw [hy108]; exact H) | exact H
      have Ny108 := Aside0.mk hy108
      clear hy108
      have H' := Aside0.mk H
      clear H
      obtain ⟨hcz18_0, hcz18_1, hcz18_2, hfz18_0⟩ := y3 w13 BK101.out
      have p17 : 0 ≤ (t106 : Int) := OD
      have q17 : (t106 : Int) < ((t103.length : Int) : Int) := OD
      obtain ⟨go17, co17, eo17, gb17, gl17, cl17, HG17⟩ := Kd.R_form HO105.out (by omega)
      (first | cases eo17 | (injection eo17 with ea_ en_ ec_; (first | subst ea_ | (injection ea_ with ea_; subst ea_)); subst ec_; clear en_))
      have GB17 := Aside0.mk gb17
      have GG17 := Aside0.mk HG17
      clear gb17 gl17 HG17
      obtain ⟨ce17, hcl17, hM17, hcc17, hfr17⟩ := Kd.R_elem HO105.out z86 (t106 : Int) p17 q17
      obtain rfl := k86_openM hM17
      have hx17_0 : w13.cell? ⟨go17, (t106 : Int).toNat * 3, none⟩ = some (.int .i64 ((rd_T86 t103 t106).f0.f0)) := hcc17 0 _ rfl
      have hx17_1 : w13.cell? ⟨go17, (t106 : Int).toNat * 3 + 1, none⟩ = some (.int .i64 ((rd_T86 t103 t106).f0.f1)) := hcc17 1 _ rfl
      have hx17_2 : w13.cell? ⟨go17, (t106 : Int).toNat * 3 + 2, none⟩ = some (.int .i64 ((rd_T86 t103 t106).f1)) := hcc17 2 _ rfl
      have hf17_0 : w13.frozen? ⟨go17, (t106 : Int).toNat * 3, none⟩ = false := hfr17 0
      have hf17_1 : w13.frozen? ⟨go17, (t106 : Int).toNat * 3 + 1, none⟩ = false := hfr17 1
      have hf17_2 : w13.frozen? ⟨go17, (t106 : Int).toNat * 3 + 2, none⟩ = false := hfr17 2
      clear hcl17 hcc17 hfr17 hM17
      replace p17 := eq_true p17
      replace q17 := eq_true q17
      have n_ := am (Kd.R_mono (ok' := (fun k_ => k_ ≠ gb101)) HO105.out (fun k_ hk => hk.2))
      clear HO105
      have HO105 := n_
      clear n_
      have HX19 := am (show Kd.R k86 86 w13 w.heap.size (fun k_ => k_ ≠ gb101) (.slice (some ⟨go17, 0, none⟩) t103.length co12) t103 from (KR HO105))
      obtain ⟨ce19, hcl19, hM19, hcc19, hfr19⟩ := Kd.R_elem HX19.out z86 (t106 : Int) (OD) (by have h_ : (t106 : Int) < ((t103.length : Int) : Int) := OD; first | exact h_ | (have e_ := (Kd.R_reads' HO105.out).1; omega) | simpa using h_)
      obtain rfl := k86_openM hM19
      have HP19 := Kd.R_seg HX19.out (t106 : Int) (OD) (by have h_ : (t106 : Int) < ((t103.length : Int) : Int) := OD; first | exact h_ | (have e_ := (Kd.R_reads' HO105.out).1; omega) | simpa using h_) (seg := [.int .i64 a1_0, .int .i64 a1_1, .int .i64 a1_2]) (j := 0) hcl19 hcc19 (show 3 ≤ 3 from by decide) (x' := (⟨(⟨a1_0, a1_1⟩ : S32), a1_2⟩ : S86)) (k86_mkM _ _ _ (⟨(⟨a1_0, a1_1⟩ : S32), a1_2⟩ : S86) ) (fun _ hk => hk)
      have hx19_0 := hcc19 0 _ rfl
      (try simp only [show (k86).sz = 3 from rfl, Nat.mul_one, Nat.add_zero] at hx19_0)
      have hf19_0 := hfr19 0
      (try simp only [show (k86).sz = 3 from rfl, Nat.mul_one, Nat.add_zero] at hf19_0)
      have hx19_1 := hcc19 1 _ rfl
      (try simp only [show (k86).sz = 3 from rfl, Nat.mul_one, Nat.add_zero] at hx19_1)
      have hf19_1 := hfr19 1
      (try simp only [show (k86).sz = 3 from rfl, Nat.mul_one, Nat.add_zero] at hf19_1)
      have hx19_2 := hcc19 2 _ rfl
      (try simp only [show (k86).sz = 3 from rfl, Nat.mul_one, Nat.add_zero] at hx19_2)
      have hf19_2 := hfr19 2
      (try simp only [show (k86).sz = 3 from rfl, Nat.mul_one, Nat.add_zero] at hf19_2)
      clear hcl19 hcc19 hfr19 hM19
      go_wp2_with (first | ((with_reducible refine gate_store (t := 86) (p := 25) rfl ?_); refine store_event (t := 86) (p := 25) (v := ?vo_w20) (w1 := (((w13.setCell ⟨go17, (t106 : Int).toNat * 3, none⟩ (.int .i64 a1_0)).setCell ⟨go17, (t106 : Int).toNat * 3 + 1, none⟩ (.int .i64 a1_1)).setCell ⟨go17, (t106 : Int).toNat * 3 + 2, none⟩ (.int .i64 a1_2))) ?hg ?ho ?hn ?hr ?_; (case ho => rfl); (case hg => rfl); (case hn => rfl); (case hr => first | (go_simp; done) | (go_simp; rfl)); intro w20 hw; have hg : w13.grownBy w20 (some go17) := (by rw [hw]; exact HP19.2); have hp_ : Kd.R k86 86 w20 w.heap.size (fun k_ => k_ ≠ gb101) (.slice (some ⟨go17, 0, none⟩) t103.length co12) y108 := (by rw [hw, Ny108.out]; exact HP19.1); clear HP19; replace BK101 := am (blk_grown (g := gb101) (o := .cells #[.int .i64 a1_0, .int .i64 a1_1, .int .i64 a1_2] 86 (0, 0)) (KB BK101) hg (Kd.R_away HO105.out (fun _ hk => hk))); replace HO105 := am (hp_); replace HB := am ((by rw [hw]; exact below_set (below_set (below_set (HB.out) GB17.out) GB17.out) GB17.out : Below w.heap.size w w20)); clear hg hw hp_))
      go_meet
      case rel => exact ⟨_, (y108), (a1_0), (a1_1), (a1_2), H', ⟨by first | omega | exact Nat.le_refl _⟩, ⟨KR HO105⟩, ⟨KB BK101⟩, ⟨K1 HB GE101.out⟩⟩
     ·rw [if_neg c16] at H
      exact absurd H (by simp)
    ·rw [if_neg c15] at H
     exact absurd H (by simp)
   ·replace c14 := Bool.eq_false_iff.mpr c14
    subst c14
    have H1 : ((slices_Insert_Way.f t103 t106 (([(⟨(⟨a1_0, a1_1⟩ : S32), a1_2⟩ : S86)] : List (S86)))).bind fun t112 => (impl_WaysPut.j0 k l0 t112)) = some (r1, r2) := by rw [if_neg (show ¬ (false = true) by decide)] at H; exact H
    clear H
    have H := H1
    clear H1
    obtain ⟨y109, hy109⟩ : ∃ y_ : List (S86), y_ = (([(⟨(⟨a1_0, a1_1⟩ : S32), a1_2⟩ : S86)] : List (S86))) := ⟨_, rfl⟩
    replace H : ((slices_Insert_Way.f t103 t106 y109).bind fun t112 => (impl_WaysPut.j0 k l0 t112)) = some (r1, r2) := by first | (rw [hy109]; with_reducible exact H) | (have H2_ := (Option.bind_some _ _).symm.trans H; rw [hy109]; with_reducible exact H2_) | (have H2_ := (Option.bind_some _ _).symm.trans H; with_reducible exact H2_) | with_reducible exact H | (rw [hy109]; exact H) | exact H
    have Ny109 := Aside0.mk hy109
    clear hy109
    replace H := Option.bind_eq_some_iff.mp H
    obtain ⟨t112, A210, H⟩ := H
    replace H : (impl_WaysPut.j0 k l0 t112) = some (r1, r2) := H
    have A21 := Aside0.mk A210
    clear A210
    have H' := Aside0.mk H
    clear H
    obtain ⟨hcz22_0, hcz22_1, hcz22_2, hfz22_0⟩ := y3 w13 BK101.out
    go_wp2_with (first | ((with_reducible refine gate_dst (N := 29) rfl ?_); refine Kd.R_lit k86 _ 86 ?hg (N := 29) ?hd (xs := ([(⟨(⟨a1_0, a1_1⟩ : S32), a1_2⟩ : S86)] : List (S86))) (inner := [.int .i64 a1_0, .int .i64 a1_1, .int .i64 a1_2]) (ok := fun _ => True) (okp := fun _ => True) ?hr ?hp (fun _ hk => hk) trivial (Below.refl _ _) (Nat.le_refl _) (by simp) ?_; (case hd => rfl); (case hg => rfl); (case hr => first | (go_simp; done) | (go_simp; rfl)); (case hp => exact (Reps.c3 (show Kd.M k86 _ _ _ (⟨(⟨a1_0, a1_1⟩ : S32), a1_2⟩ : S86) [.int .i64 a1_0, .int .i64 a1_1, .int .i64 a1_2] from (k86_mkM _ _ _ (⟨(⟨a1_0, a1_1⟩ : S32), a1_2⟩ : S86) )) (Reps.none _ _))); intro v110 w23 ho24 hb hg_ hnew_; clear hg_ hnew_; (first | rw [← Ny109.out] at ho24 | (simp only [Int.reduceToNat] at ho24; rw [← Ny109.out] at ho24)); have HO111 := am (Kd.R_lower (Kd.R_newB (Kd.R_new' ho24 (Kd.R_lt (KR HO105))) (g := gb101) (o := .cells #[.int .i64 a1_0, .int .i64 a1_1, .int .i64 a1_2] 86 (0, 0)) (KB BK101)) (below_size (K1 HB GE101.out))); replace HO105 := am (Kd.R_elder' (KR HO105) (Kd.R_base ho24) hb); replace BK101 := am (BB BK101 hb); replace HB := am (below_step (K1 HB GE101.out) hb); clear hb ho24; obtain ⟨Ao25, co25, eo25⟩ := Kd.R_slice HO111.out; subst eo25) | ((with_reducible refine gate_callee (f := 121) rfl ?_); refine goesL_ (some 30) rfl rfl Try.func121 (by kernel_rfl) rfl #[.slice Ao12 t103.length co12, .int .i64 t106, .slice Ao25 y109.length co25] rfl MT ?_; (with_reducible refine (slices_Insert_Way.calls (fun k_ => some k_ = (.slice Ao12 t103.length co12 : Value).ownBlock) (.slice Ao12 t103.length co12) t103 t106 (fun k_ => some k_ = (.slice Ao25 y109.length co25 : Value).ownBlock) (.slice Ao25 y109.length co25) y109 t112 w _ ?side1 ?side2 ?side3 ?side4 ?side5 A21.out).mono ?_); (case side1 => exact K1 HB GE101.out); (case side2 => exact Kd.R_tight rfl HO105.out); (case side3 => exact fun k_ e_ => (HO105.out.1 k_ e_.symm).2); (case side4 => exact Kd.R_tight rfl HO111.out); (case side5 => exact fun k_ e_ => (HO111.out.1 k_ e_.symm).1.2); rintro e w26 ⟨v113, rfl, ho0, hb, hkp⟩; refine ⟨_, rfl, ?_⟩; have HO114 := am (Kd.R_mono (ok' := fun k_ => k_ ≠ gb101) ho0 (fun k_ hk_ => Or.elim hk_ (fun hs_ => Or.elim hs_ (fun hs_ => fun e_ => (Kd.R_away HO105.out (fun _ hk => hk.1.2)) (by rw [← e_]; exact hs_)) (fun hs_ => fun e_ => (Kd.R_away HO111.out (fun _ hk => hk.2)) (by rw [← e_]; exact hs_))) (fun hn_ => (Kd.freshB (g := gb101) (o := .cells #[.int .i64 a1_0, .int .i64 a1_1, .int .i64 a1_2] 86 (0, 0)) (KB BK101) k_ hn_)))); replace BK101 := am (blk_kept (KB BK101) hkp (fun hs_ => Or.elim hs_ (fun e_ => (fun e_ => (Kd.R_away HO105.out (fun _ hk => hk.1.2)) e_) e_) (fun e_ => (fun e_ => (Kd.R_away HO111.out (fun _ hk => hk.2)) e_) e_))); replace HB := am (hb); clear HO105 HO111; (try clear hb); (try clear hkp); (try clear ho0)))
    go_meet
    case rel => exact ⟨_, (t112), (a1_0), (a1_1), (a1_2), H', ⟨by first | omega | exact Nat.le_refl _⟩, ⟨KR HO114⟩, ⟨KB BK101⟩, ⟨K1 HB GE101.out⟩⟩
  case rest =>
   clear HC7
   try clear c1
   try clear p1
   try clear q1
   try clear hx1
   try clear p2
   try clear c3
   try clear c4
   try clear c6
   try clear c11
   try clear c12
   try clear c14
   try clear c15
   try clear c15b0
   try clear c16
   try clear c16b0
   try clear c17
   try clear p17
   try clear q17
   try clear hx17
   try clear hf17
   try clear c19
   try clear hx19
   try clear hf19
   try clear hcz11_0
   try clear hcz11_1
   try clear hcz11_2
   try clear hcz18_0
   try clear hcz18_1
   try clear hcz18_2
   try clear hcz22_0
   try clear hcz22_1
   try clear hcz22_2
   try clear hfz11_0
   try clear hfz18_0
   try clear hfz22_0
   try clear hx17_0
   try clear hx17_1
   try clear hx17_2
   try clear hx19_0
   try clear hx19_1
   try clear hx19_2
   try clear p17
   try clear q17
   obtain ⟨kq, x6_6, x102000_6, x102001_6, x102002_6, HA, HJ6, HO_6, BK101, HB⟩ := hcut
   cases kq with
   | zero => exact absurd HA.out (by simp [impl_WaysPut.j0])
   | succ kj6 =>
    have H := HA.out
    clear HA
    simp only [impl_WaysPut.j0] at H
    replace H := Option.bind_eq_some_iff.mp H
    obtain ⟨t115, A270, H⟩ := H
    replace H : (if t115 = true then (some (x6_6, true)) else ((slices_Clone_Way.f l0).bind fun t116 => (some (t116, false)))) = some (r1, r2) := H
    have A27 := Aside0.mk A270
    clear A270
    by_cases c28 : t115 = true
    ·subst c28
     have H1 : (some (x6_6, true)) = some (r1, r2) := by rw [if_pos rfl] at H; exact H
     clear H
     have H := H1
     clear H1
     simp only [Option.some.injEq, Prod.mk.injEq] at H
     obtain ⟨rfl, rfl⟩ := H
     obtain ⟨Ao29, co29, eo29⟩ := Kd.R_slice HO_6.out
     subst eo29
     go_wp2_with (first | ((with_reducible refine gate_callee (f := 63) rfl ?_); refine goesL_ (some 32) rfl rfl Try.func63 (by kernel_rfl) rfl #[.slice Ao29 x6_6.length co29] rfl MT ?_; (with_reducible refine (impl_WaysOk.calls kj6 _ _ x6_6 true _ ?side1 ?side2 A27.out).mono ?_); (case side1 => exact KC (Kd.R_reads' HO_6.out).2.2); (case side2 => exact (Kd.R_reads' HO_6.out).2.1); rintro e w30 ⟨rfl, hb⟩; refine ⟨_, rfl, ?_⟩; replace HO_6 := am (Kd.R_below (KR HO_6) hb); replace BK101 := am (BB BK101 hb); replace HB := am (below_step (K1 HB GE101.out) hb); (try clear hb); (try clear hb2); (try clear hk); (try clear hi)))
     go_ret2
     exact ⟨_, ER, by (with_reducible repeat (first | apply Kd.R_alloc | apply Kd.R_drewN | apply Kd.R_drew)); exact Kd.R_mono HO_6.out (fun _ hk => trivial), K1 HB GE101.out⟩
    ·replace c28 := Bool.eq_false_iff.mpr c28
     subst c28
     have H1 : ((slices_Clone_Way.f l0).bind fun t116 => (some (t116, false))) = some (r1, r2) := by rw [if_neg (show ¬ (false = true) by decide)] at H; exact H
     clear H
     have H := H1
     clear H1
     replace H := Option.bind_eq_some_iff.mp H
     obtain ⟨t116, A310, H⟩ := H
     replace H : (some (t116, false)) = some (r1, r2) := H
     have A31 := Aside0.mk A310
     clear A310
     simp only [Option.some.injEq, Prod.mk.injEq] at H
     obtain ⟨rfl, rfl⟩ := H
     obtain ⟨Ao32, co32, eo32⟩ := Kd.R_slice HO_6.out
     subst eo32
     go_wp2_with (first | ((with_reducible refine gate_callee (f := 63) rfl ?_); refine goesL_ (some 32) rfl rfl Try.func63 (by kernel_rfl) rfl #[.slice Ao32 x6_6.length co32] rfl MT ?_; (with_reducible refine (impl_WaysOk.calls kj6 _ _ x6_6 false _ ?side1 ?side2 A27.out).mono ?_); (case side1 => exact KC (Kd.R_reads' HO_6.out).2.2); (case side2 => exact (Kd.R_reads' HO_6.out).2.1); rintro e w33 ⟨rfl, hb⟩; refine ⟨_, rfl, ?_⟩; replace HO_6 := am (Kd.R_below (KR HO_6) hb); replace BK101 := am (BB BK101 hb); replace HB := am (below_step (K1 HB GE101.out) hb); (try clear hb); (try clear hb2); (try clear hk); (try clear hi)) | ((with_reducible refine gate_callee (f := 115) rfl ?_); refine goesL_ (some 35) rfl rfl Try.func115 (by kernel_rfl) rfl #[.slice A0 l0.length c0] rfl MT ?_; (with_reducible refine (slices_Clone_Way.calls _ _ l0 t116 _ ?side1 ?side2 A31.out).mono ?_); (case side1 => exact KC (Kd.C_below HR0.out HB.out)); (case side2 => exact HC0.out); rintro e w34 ⟨v117, rfl, ho0, hb⟩; refine ⟨_, rfl, ?_⟩; have HO118 := am (Kd.R_lower (Kd.R_newB (Kd.R_new' ho0 (Kd.R_lt (KR HO_6))) (g := gb101) (o := .cells #[.int .i64 x102000_6, .int .i64 x102001_6, .int .i64 x102002_6] 86 (0, 0)) (KB BK101)) (below_size (K1 HB GE101.out))); replace HO_6 := am (Kd.R_elder' (KR HO_6) (Kd.R_base ho0) hb); replace BK101 := am (BB BK101 hb); replace HB := am (below_step (K1 HB GE101.out) hb); (try clear hb); (try clear hb2); (try clear hk); (try clear hi); (try clear ho0)))
     go_ret2
     exact ⟨_, ER, by (with_reducible repeat (first | apply Kd.R_alloc | apply Kd.R_drewN | apply Kd.R_drew)); exact Kd.R_mono HO118.out (fun _ hk => trivial), K1 HB GE101.out⟩
 ·replace c4 := Bool.eq_false_iff.mpr c4
  subst c4
  have H1 : (some (([] : List (S86)), false)) = some (r1, r2) := by rw [if_neg (show ¬ (false = true) by decide)] at H; exact H
  clear H
  have H := H1
  clear H1
  simp only [Option.some.injEq, Prod.mk.injEq] at H
  obtain ⟨rfl, rfl⟩ := H
  go_enter Try.func68, Try.ntmps68
  go_wp2_with (first | ((with_reducible refine gate_dst (N := 3) rfl ?_); refine box_event rfl (N := 3) rfl (cs := #[.int .i64 a1_0, .int .i64 a1_1, .int .i64 a1_2]) (t := 86) BX ?_; intro gb101 hg w35 hbox hb; have BK101 := am (hbox); have GW101 := am (GH HB hg); have GE101 := GW101; replace HB := am (below_step (KL HB) hb); clear hb hbox hg) | ((with_reducible refine gate_callee (f := 63) rfl ?_); refine goesL_ (some 10) rfl rfl Try.func63 (by kernel_rfl) rfl #[.slice A0 l0.length c0] rfl MT ?_; (with_reducible refine (impl_WaysOk.calls k _ _ l0 false _ ?side1 ?side2 A3.out).mono ?_); (case side1 => exact KC (Kd.C_below HR0.out HB.out)); (case side2 => exact HC0.out); rintro e w36 ⟨rfl, hb⟩; refine ⟨_, rfl, ?_⟩; replace BK101 := am (BB BK101 hb); replace HB := am (below_step (K1 HB GE101.out) hb); (try clear hb); (try clear hb2); (try clear hk); (try clear hi)))
  go_ret2
  exact ⟨_, ER, by first | exact Kd.R_nil _ _ _ _ _ | exact Kd.N_nil _ _ _ _ _ | exact Kd.V_nil _ _ _ _ _ | exact Kd.Q_nil _ _ _ _ _ | exact Kd.S_nil _ _ _ _ _, K1 HB GE101.out⟩
mutual
def laws_FnWaysPut.j0 : Nat → List (S86) → List (S86) → Bool → List (S86) → Bool → Bool → Int → Int → Int → Option (Bool)
 | 0, _, _, _, _, _, _, _, _, _ => none
 | k + 1, x3, x5, x6, x7, x8, x55, x108000, x108001, x108002 => if x55 = true then (if (x6 == x8) = true then ((laws_ovWays.f k x5 x7).bind fun t120 => (if t120 = true then ((impl_WaysOk.f k x3).bind fun t121 => ((spec_WaysOk.f k x3).bind fun t122 => (some (t121 == t122)))) else (some false))) else (some false)) else (if x6 = true then (laws_FnWaysPut.l0 k x3 x5 false 0 x108000 x108001 x108002) else ((laws_ovWays.f k x5 x3).bind fun t123 => (some t123)))
def laws_FnWaysPut.l0 : Nat → List (S86) → List (S86) → Bool → Int → Int → Int → Int → Option (Bool)
 | 0, _, _, _, _, _, _, _ => none
 | k + 1, x3, x5, x9, x10, x108000, x108001, x108002 => if x10 < (x3.length : Int) then (if x9 = true then (laws_FnWaysPut.l0 k x3 x5 true (wrap64 (x10 + 1)) x108000 x108001 x108002) else (if 0 ≤ x10 then (if ((rd_T86 x3 x10).f0.f1) > x108001 then ((impl_BlockHas.f ((rd_T86 x3 x10).f0.f0) ((rd_T86 x3 x10).f0.f1) x108000).bind fun t126 => (laws_FnWaysPut.l0 k x3 x5 t126 (wrap64 (x10 + 1)) x108000 x108001 x108002)) else (laws_FnWaysPut.l0 k x3 x5 false (wrap64 (x10 + 1)) x108000 x108001 x108002)) else (none))) else ((impl_WaysGone.f k x5 x108000 x108001).bind fun bt127 => ((impl_WaysGone.f k x3 x108000 x108001).bind fun bt131 => (if bt131.2 = true then ((impl_WaysOk.f k x5).bind fun t135 => (if t135 = true then (if x9 = true then (if bt127.2 = true then ((laws_ovWays.f k bt127.1 bt131.1).bind fun t136 => (some t136)) else (some false)) else ((impl_WaysLead.f k x5 x108000).bind fun t137 => (if t137 = x108002 then (if bt127.2 = true then ((laws_ovWays.f k bt127.1 bt131.1).bind fun t138 => (some t138)) else (some false)) else (some false)))) else (some false))) else ((impl_WaysOk.f k x5).bind fun t139 => (if t139 = true then (if x9 = true then (if bt127.2 = true then ((laws_ovWays.f k bt127.1 x3).bind fun t140 => (some t140)) else (some false)) else ((impl_WaysLead.f k x5 x108000).bind fun t141 => (if t141 = x108002 then (if bt127.2 = true then ((laws_ovWays.f k bt127.1 x3).bind fun t142 => (some t142)) else (some false)) else (some false)))) else (some false))))))
end
def laws_FnWaysPut.f (k : Nat) (l0 : List Int) : Option (Bool) := if (l0.length : Int) > 1048576 then (some true) else ((spec_DrawWaysPut.f k l0).bind fun bt101 => ((impl_WaysPut.f k bt101.1 bt101.2.1 bt101.2.2.1 bt101.2.2.2).bind fun bt108 => ((spec_WaysPut.f k bt101.1 bt101.2.1 bt101.2.2.1 bt101.2.2.2).bind fun bt112 => (if (bt108.2 != bt112.2) = true then (laws_FnWaysPut.j0 k bt101.1 bt108.1 bt108.2 bt112.1 bt112.2 true bt101.2.1 bt101.2.2.1 bt101.2.2.2) else ((laws_ovWays.f k bt108.1 bt112.1).bind fun t116 => (if t116 = true then ((impl_WaysOk.f k bt101.1).bind fun t117 => ((spec_WaysOk.f k bt101.1).bind fun t118 => (if (t117 != t118) = true then (laws_FnWaysPut.j0 k bt101.1 bt108.1 bt108.2 bt112.1 bt112.2 true bt101.2.1 bt101.2.2.1 bt101.2.2.2) else ((spec_WaysOk.f k bt101.1).bind fun t119 => (laws_FnWaysPut.j0 k bt101.1 bt108.1 bt108.2 bt112.1 bt112.2 (!t119) bt101.2.1 bt101.2.2.1 bt101.2.2.2))))) else (laws_FnWaysPut.j0 k bt101.1 bt108.1 bt108.2 bt112.1 bt112.2 true bt101.2.1 bt101.2.2.1 bt101.2.2.2)))))))
def laws_FnWaysPut.T14 : Bool × List (List Nat × List Nat) := (true, [([], []), ([0], [0]), ([1], [1]), ([1], [1]), ([2, 3, 1], [1, 2, 3]), ([4, 1], [1, 4]), ([5, 1], [1, 5]), ([6, 1], [1, 6]), ([1], [1]), ([8, 1], [1, 8]), ([9, 1], [1, 9]), ([7, 10, 1], [1, 7, 10]), ([11, 1, 1], [1, 11]), ([12], [12]), ([12], [12]), ([13, 14, 12], [12, 13, 14]), ([15, 12], [12, 15]), ([16, 12], [12, 16]), ([12], [12]), ([18, 12], [12, 18]), ([19, 12], [12, 19]), ([17, 20, 12, 12], [12, 17, 20]), ([12, 21, 1], [1, 12, 21]), ([1, 22], [1, 22]), ([23, 21, 0, 1, 2, 3, 4, 5, 6, 7, 8, 9, 10, 11, 12, 13, 14, 15, 16, 17, 18, 19, 20, 21, 22, 23], [0, 23])])
def laws_FnWaysPut.B14 : List Nat := [0, 1, 3, 3, 15, 31, 63, 127, 3, 259, 771, 2047, 4095, 8191, 8191, 32767, 65535, 131071, 8191, 270335, 794623, 2097151, 4194303, 8388607, 16777215]
theorem laws_FnWaysPut.tab14 : rtab .any (opsOf Try.f14 14) = laws_FnWaysPut.T14 := by kernel_rfl
theorem laws_FnWaysPut.bits14 : waitsOk laws_FnWaysPut.T14.2 laws_FnWaysPut.B14 = true := by kernel_rfl
def laws_FnWaysPut.T19 : Bool × List (List Nat × List Nat) := (true, [([], []), ([0], [0]), ([1, 1], [1]), ([2], [2]), ([3, 2, 2], [2, 3]), ([4], [4]), ([4], [4]), ([6, 4], [4, 6]), ([7, 4], [4, 7]), ([5, 8, 4, 4], [4, 5, 8]), ([4], [4]), ([10, 4], [4, 10]), ([9, 11, 4], [4, 9, 11]), ([4, 12, 2], [2, 4, 12]), ([2, 13], [2, 13]), ([14, 9], [14]), ([15], [15]), ([15, 16], [15, 16]), ([17, 15], [17]), ([18], [18]), ([18], [18]), ([19, 20, 18, 18], [18, 19, 20]), ([18, 21], [18, 21]), ([22, 21, 0, 1, 2, 3, 4, 5, 6, 7, 8, 9, 10, 11, 12, 13, 14, 15, 16, 17, 18, 19, 20, 21, 22], [22])])
def laws_FnWaysPut.B19 : List Nat := [0, 1, 3, 7, 15, 31, 31, 95, 223, 511, 31, 1055, 4095, 8191, 16383, 32767, 65535, 131071, 262143, 524287, 524287, 2097151, 4194303, 8388607]
theorem laws_FnWaysPut.tab19 : rtab .any (opsOf Try.f14 19) = laws_FnWaysPut.T19 := by kernel_rfl
theorem laws_FnWaysPut.bits19 : waitsOk laws_FnWaysPut.T19.2 laws_FnWaysPut.B19 = true := by kernel_rfl
set_option maxHeartbeats 8000000 in
set_option maxRecDepth 100000 in
theorem laws_FnWaysPut.calls (k : Nat) (A0 : Option Addr) (c0 : Nat) (l0 : List Int) (r : Bool) (w : World) (hr0 : Kd.C (Kd.int .u8) w A0 l0.length l0) (hc0 : l0.length ≤ c0) (hr0_ : r = true) (h : laws_FnWaysPut.f k l0 = some r) :
  Calls Try.prog 14 #[.slice A0 l0.length c0] w fun e w' => e = .returned (.bool r) ∧ Below w.heap.size w w' := by
 have hu86 := Try.underlying86
 have hu32 := Try.underlying32
 have HR0 := Aside0.mk hr0
 have HC0 := Aside0.mk hc0
 clear hr0 hc0
 have HB := am (Below.refl w.heap.size w)
 have H : (if (l0.length : Int) > 1048576 then (some true) else ((spec_DrawWaysPut.f k l0).bind fun bt101 => ((impl_WaysPut.f k bt101.1 bt101.2.1 bt101.2.2.1 bt101.2.2.2).bind fun bt108 => ((spec_WaysPut.f k bt101.1 bt101.2.1 bt101.2.2.1 bt101.2.2.2).bind fun bt112 => (if (bt108.2 != bt112.2) = true then (laws_FnWaysPut.j0 k bt101.1 bt108.1 bt108.2 bt112.1 bt112.2 true bt101.2.1 bt101.2.2.1 bt101.2.2.2) else ((laws_ovWays.f k bt108.1 bt112.1).bind fun t116 => (if t116 = true then ((impl_WaysOk.f k bt101.1).bind fun t117 => ((spec_WaysOk.f k bt101.1).bind fun t118 => (if (t117 != t118) = true then (laws_FnWaysPut.j0 k bt101.1 bt108.1 bt108.2 bt112.1 bt112.2 true bt101.2.1 bt101.2.2.1 bt101.2.2.2) else ((spec_WaysOk.f k bt101.1).bind fun t119 => (laws_FnWaysPut.j0 k bt101.1 bt108.1 bt108.2 bt112.1 bt112.2 (!t119) bt101.2.1 bt101.2.2.1 bt101.2.2.2))))) else (laws_FnWaysPut.j0 k bt101.1 bt108.1 bt108.2 bt112.1 bt112.2 true bt101.2.1 bt101.2.2.1 bt101.2.2.2)))))))) = some r := h
 clear h
 have HR_ := Aside0.mk hr0_
 clear hr0_
 by_cases c2 : (l0.length : Int) > 1048576
 ·rw [if_pos c2] at H
  have c2b0 : decide (1048576 < (l0.length : Int)) = true := decide_eq_true c2
  have c2b1 : decide (1048576 < l0.length) = true := decide_eq_true (by omega)
  clear c2
  obtain rfl := Option.some.inj H
  go_enter Try.func14, Try.ntmps14
  go_wp2
  go_ret
  exact ⟨ER, KL HB⟩
 ·rw [if_neg c2] at H
  have c2b0 : decide (1048576 < (l0.length : Int)) = false := decide_eq_false c2
  have c2b1 : decide (1048576 < l0.length) = false := decide_eq_false (by omega)
  clear c2
  replace H := Option.bind_eq_some_iff.mp H
  obtain ⟨⟨t101, t104, t105, t106⟩, A30, H⟩ := H
  replace H : ((impl_WaysPut.f k t101 t104 t105 t106).bind fun bt108 => ((spec_WaysPut.f k t101 t104 t105 t106).bind fun bt112 => (if (bt108.2 != bt112.2) = true then (laws_FnWaysPut.j0 k t101 bt108.1 bt108.2 bt112.1 bt112.2 true t104 t105 t106) else ((laws_ovWays.f k bt108.1 bt112.1).bind fun t116 => (if t116 = true then ((impl_WaysOk.f k t101).bind fun t117 => ((spec_WaysOk.f k t101).bind fun t118 => (if (t117 != t118) = true then (laws_FnWaysPut.j0 k t101 bt108.1 bt108.2 bt112.1 bt112.2 true t104 t105 t106) else ((spec_WaysOk.f k t101).bind fun t119 => (laws_FnWaysPut.j0 k t101 bt108.1 bt108.2 bt112.1 bt112.2 (!t119) t104 t105 t106))))) else (laws_FnWaysPut.j0 k t101 bt108.1 bt108.2 bt112.1 bt112.2 true t104 t105 t106)))))) = some r := H
  have A3 := Aside0.mk A30
  clear A30
  replace H := Option.bind_eq_some_iff.mp H
  obtain ⟨⟨t108, t111⟩, A40, H⟩ := H
  replace H : ((spec_WaysPut.f k t101 t104 t105 t106).bind fun bt112 => (if (t111 != bt112.2) = true then (laws_FnWaysPut.j0 k t101 t108 t111 bt112.1 bt112.2 true t104 t105 t106) else ((laws_ovWays.f k t108 bt112.1).bind fun t116 => (if t116 = true then ((impl_WaysOk.f k t101).bind fun t117 => ((spec_WaysOk.f k t101).bind fun t118 => (if (t117 != t118) = true then (laws_FnWaysPut.j0 k t101 t108 t111 bt112.1 bt112.2 true t104 t105 t106) else ((spec_WaysOk.f k t101).bind fun t119 => (laws_FnWaysPut.j0 k t101 t108 t111 bt112.1 bt112.2 (!t119) t104 t105 t106))))) else (laws_FnWaysPut.j0 k t101 t108 t111 bt112.1 bt112.2 true t104 t105 t106))))) = some r := H
  have A4 := Aside0.mk A40
  clear A40
  replace H := Option.bind_eq_some_iff.mp H
  obtain ⟨⟨t112, t115⟩, A50, H⟩ := H
  replace H : (if (t111 != t115) = true then (laws_FnWaysPut.j0 k t101 t108 t111 t112 t115 true t104 t105 t106) else ((laws_ovWays.f k t108 t112).bind fun t116 => (if t116 = true then ((impl_WaysOk.f k t101).bind fun t117 => ((spec_WaysOk.f k t101).bind fun t118 => (if (t117 != t118) = true then (laws_FnWaysPut.j0 k t101 t108 t111 t112 t115 true t104 t105 t106) else ((spec_WaysOk.f k t101).bind fun t119 => (laws_FnWaysPut.j0 k t101 t108 t111 t112 t115 (!t119) t104 t105 t106))))) else (laws_FnWaysPut.j0 k t101 t108 t111 t112 t115 true t104 t105 t106)))) = some r := H
  have A5 := Aside0.mk A50
  clear A50
  have HC6 := Aside0.mk H
  clear H
  go_enter Try.func14, Try.ntmps14
  go_upto_region 6 with (first | ((with_reducible refine gate_callee (f := 67) rfl ?_); refine goesL_ (some 20) rfl rfl Try.func67 (by kernel_rfl) rfl #[.slice A0 l0.length c0] rfl MT ?_; (with_reducible refine (spec_DrawWaysPut.calls k _ _ l0 t101 t104 t105 t106 _ ?side1 ?side2 A3.out).mono ?_); (case side1 => exact KC HR0.out); (case side2 => exact HC0.out); rintro e w7 ⟨v102, rfl, ho0, hb⟩; refine ⟨_, rfl, ?_⟩; have HO103 := am (Kd.R_lower ho0 (below_size (KL HB))); replace HB := am (below_step (KL HB) hb); (try clear hb); (try clear hb2); (try clear hk); (try clear hi); (try clear ho0)) | ((with_reducible refine gate_dst (N := 4) rfl ?_); refine box_event rfl (N := 4) rfl (cs := #[.int .i64 0, .int .i64 0, .int .i64 0]) (t := 86) BX ?_; intro gb107 hg w8 hbox hb; replace HO103 := am (Kd.R_below (Kd.R_elderB (KR HO103) gb107 (Nat.le_of_eq hg.symm)) hb); have BK107 := am (hbox); have GW107 := am (GH HB hg); have GE107 := GW107; replace HB := am (below_step (KL HB) hb); clear hb hbox hg; obtain ⟨hcz9_0, hcz9_1, hcz9_2, hfz9_0⟩ := y3 w8 BK107.out; obtain ⟨Ao10, co10, eo10⟩ := Kd.R_slice HO103.out; subst eo10) | ((with_reducible refine gate_callee (f := 68) rfl ?_); refine goesL_ (some 26) rfl rfl Try.func68 (by kernel_rfl) rfl #[.slice Ao10 t101.length co10, .agg #[.int .i64 t104, .int .i64 t105, .int .i64 t106]] rfl MT ?_; (with_reducible refine (impl_WaysPut.calls k _ _ t101 t104 t105 t106 t108 t111 _ ?side1 ?side2 A4.out).mono ?_); (case side1 => refine (Kd.R_reads' (e := 86) (base := w.heap.size) (ok := fun k_ => (True ∧ k_ ≠ gb107)) (n := t101.length) (c := co10) ?_).2.2; exact (by (with_reducible repeat (first | apply Kd.R_alloc | apply Kd.R_drewN | apply Kd.R_drew)); exact (Kd.R_mono (Kd.R_far (p := ⟨gb107, 2, none⟩) (Kd.R_far (p := ⟨gb107, 1, none⟩) (Kd.R_far (p := ⟨gb107, 0, none⟩) (Kd.R_mono HO103.out (fun k_ hk => (⟨hk, hk.2⟩ : _ ∧ k_ ≠ gb107))) (fun _ hk => hk.2) (.int .i64 t104)) (fun _ hk => hk.2) (.int .i64 t105)) (fun _ hk => hk.2) (.int .i64 t106)) (fun _ h_ => h_.1)))); (case side2 => exact (Kd.R_reads' HO103.out).2.1); rintro e w11 ⟨v109, rfl, ho0, hb⟩; refine ⟨_, rfl, ?_⟩; have HO110 := am (Kd.R_lower (Kd.R_newB (Kd.R_new' ho0 (Kd.R_lt (by (with_reducible repeat (first | apply Kd.R_alloc | apply Kd.R_drewN | apply Kd.R_drew)); exact (Kd.R_mono (Kd.R_far (p := ⟨gb107, 2, none⟩) (Kd.R_far (p := ⟨gb107, 1, none⟩) (Kd.R_far (p := ⟨gb107, 0, none⟩) (Kd.R_mono HO103.out (fun k_ hk => (⟨hk, hk.2⟩ : _ ∧ k_ ≠ gb107))) (fun _ hk => hk.2) (.int .i64 t104)) (fun _ hk => hk.2) (.int .i64 t105)) (fun _ hk => hk.2) (.int .i64 t106)) (fun _ h_ => h_.1))))) (g := gb107) (o := .cells #[.int .i64 t104, .int .i64 t105, .int .i64 t106] 86 (0, 0)) (by (with_reducible repeat (first | refine blk_drewN ?_ _ | refine blk_drew ?_ | refine blk_alloc ?_ _)); refine blk_put (cs := #[.int .i64 t104, .int .i64 t105, .int .i64 0]) ?_ 2 _ rfl; (with_reducible repeat (first | refine blk_drewN ?_ _ | refine blk_drew ?_ | refine blk_alloc ?_ _)); refine blk_put (cs := #[.int .i64 t104, .int .i64 0, .int .i64 0]) ?_ 1 _ rfl; (with_reducible repeat (first | refine blk_drewN ?_ _ | refine blk_drew ?_ | refine blk_alloc ?_ _)); refine blk_put (cs := #[.int .i64 0, .int .i64 0, .int .i64 0]) ?_ 0 _ rfl; (with_reducible repeat (first | refine blk_drewN ?_ _ | refine blk_drew ?_ | refine blk_alloc ?_ _)); exact BK107.out)) (below_size (K1 HB GE107.out))); replace HO103 := am (Kd.R_elder' (by (with_reducible repeat (first | apply Kd.R_alloc | apply Kd.R_drewN | apply Kd.R_drew)); exact (Kd.R_mono (Kd.R_far (p := ⟨gb107, 2, none⟩) (Kd.R_far (p := ⟨gb107, 1, none⟩) (Kd.R_far (p := ⟨gb107, 0, none⟩) (Kd.R_mono HO103.out (fun k_ hk => (⟨hk, hk.2⟩ : _ ∧ k_ ≠ gb107))) (fun _ hk => hk.2) (.int .i64 t104)) (fun _ hk => hk.2) (.int .i64 t105)) (fun _ hk => hk.2) (.int .i64 t106)) (fun _ h_ => h_.1))) (Kd.R_base ho0) hb); replace BK107 := am (blk_below (g := gb107) (o := .cells #[.int .i64 t104, .int .i64 t105, .int .i64 t106] 86 (0, 0)) (by (with_reducible repeat (first | refine blk_drewN ?_ _ | refine blk_drew ?_ | refine blk_alloc ?_ _)); refine blk_put (cs := #[.int .i64 t104, .int .i64 t105, .int .i64 0]) ?_ 2 _ rfl; (with_reducible repeat (first | refine blk_drewN ?_ _ | refine blk_drew ?_ | refine blk_alloc ?_ _)); refine blk_put (cs := #[.int .i64 t104, .int .i64 0, .int .i64 0]) ?_ 1 _ rfl; (with_reducible repeat (first | refine blk_drewN ?_ _ | refine blk_drew ?_ | refine blk_alloc ?_ _)); refine blk_put (cs := #[.int .i64 0, .int .i64 0, .int .i64 0]) ?_ 0 _ rfl; (with_reducible repeat (first | refine blk_drewN ?_ _ | refine blk_drew ?_ | refine blk_alloc ?_ _)); exact BK107.out) hb); replace HB := am (below_step (K1 HB GE107.out) hb); (try clear hb); (try clear hb2); (try clear hk); (try clear hi); (try clear ho0); obtain ⟨hcz12_0, hcz12_1, hcz12_2, hfz12_0⟩ := y3 w11 BK107.out) | ((with_reducible refine gate_callee (f := 69) rfl ?_); refine goesL_ (some 32) rfl rfl Try.func69 (by kernel_rfl) rfl #[.slice Ao10 t101.length co10, .agg #[.int .i64 t104, .int .i64 t105, .int .i64 t106]] rfl MT ?_; (with_reducible refine (spec_WaysPut.calls k _ _ t101 t104 t105 t106 t112 t115 _ ?side1 ?side2 A5.out).mono ?_); (case side1 => exact KC (Kd.R_reads' HO103.out).2.2); (case side2 => exact (Kd.R_reads' HO103.out).2.1); rintro e w13 ⟨v113, rfl, ho0, hb⟩; refine ⟨_, rfl, ?_⟩; have HO114 := am (Kd.R_lower (Kd.R_newB (Kd.R_new' (Kd.R_new' ho0 (Kd.R_lt (KR HO103))) (Kd.R_lt (KR HO110))) (g := gb107) (o := .cells #[.int .i64 t104, .int .i64 t105, .int .i64 t106] 86 (0, 0)) (KB BK107)) (below_size (K1 HB GE107.out))); replace HO103 := am (Kd.R_elder' (KR HO103) (Kd.R_base ho0) hb); replace HO110 := am (Kd.R_elder' (KR HO110) (Kd.R_base ho0) hb); replace BK107 := am (BB BK107 hb); replace HB := am (below_step (K1 HB GE107.out) hb); (try clear hb); (try clear hb2); (try clear hk); (try clear hi); (try clear ho0)))
  (try simp only [Act.put, List.setIfInBounds_toArray, List.set_cons_zero, List.set_cons_succ])
  go_cut [55] (fun v55 wc => ∃ (kq : Nat) (x55_5 : Bool), v55 = .bool x55_5 ∧ Aside0 (laws_FnWaysPut.j0 kq t101 t108 t111 t112 t115 x55_5 t104 t105 t106 = some r) ∧ Aside0 (kq ≤ k) ∧ Aside0 (Kd.R k86 86 wc w.heap.size (fun k_ => some k_ ≠ (v109 : Value).ownBlock ∧ some k_ ≠ (v113 : Value).ownBlock ∧ k_ ≠ gb107) (.slice Ao10 t101.length co10) t101) ∧ Aside0 (Kd.R k86 86 wc w.heap.size (fun k_ => some k_ ≠ ((.slice Ao10 t101.length co10) : Value).ownBlock ∧ some k_ ≠ (v113 : Value).ownBlock ∧ k_ ≠ gb107) v109 t108) ∧ Aside0 (Kd.R k86 86 wc w.heap.size (fun k_ => some k_ ≠ ((.slice Ao10 t101.length co10) : Value).ownBlock ∧ some k_ ≠ (v109 : Value).ownBlock ∧ k_ ≠ gb107) v113 t112) ∧ Aside0 (wc.heap[gb107]? = some (.cells #[.int .i64 t104, .int .i64 t105, .int .i64 t106] 86 (0, 0))) ∧ Aside0 (Below w.heap.size w wc))
  case first =>
   have H := HC6.out
   clear HC6
   by_cases c14 : (t111 != t115) = true
   ·rw [if_pos c14] at H
    have c14b0 : (t111 != t115) = true := c14
    (try (have c14b1 : decide (t111 = t115) = false := by simpa using c14))
    (try (have c14b2 : (t111 == t115) = false := by simpa using c14))
    (try (have c14b3 : ¬ (t111 = t115) := by simpa using c14))
    clear c14
    (first | rw [c14b0] | (simp only [i64_w, i32_w]; rw [c14b0]) | skip)
    have H' := Aside0.mk H
    clear H
    go_wp2
    go_meet
    case rel => exact ⟨_, (true), (by first | rfl | (simp; done) | (simp [*]; done)), H', ⟨by first | omega | exact Nat.le_refl _⟩, ⟨by (with_reducible repeat (first | apply Kd.R_alloc | apply Kd.R_drewN | apply Kd.R_drew)); exact Kd.R_mono HO103.out (fun _ hk => ⟨hk.1.2, ⟨hk.2, hk.1.1.2⟩⟩)⟩, ⟨by (with_reducible repeat (first | apply Kd.R_alloc | apply Kd.R_drewN | apply Kd.R_drew)); exact Kd.R_mono HO110.out (fun _ hk => ⟨hk.1.1.2, ⟨hk.2, hk.1.2⟩⟩)⟩, ⟨by (with_reducible repeat (first | apply Kd.R_alloc | apply Kd.R_drewN | apply Kd.R_drew)); exact Kd.R_mono HO114.out (fun _ hk => ⟨hk.1.1.2, ⟨hk.1.2, hk.2⟩⟩)⟩, ⟨KB BK107⟩, ⟨K1 HB GE107.out⟩⟩
   ·rw [if_neg c14] at H
    have c14b0 : (t111 != t115) = false := by simpa using c14
    (try (have c14b1 : decide (t111 = t115) = true := by simpa using c14))
    (try (have c14b2 : (t111 == t115) = true := by simpa using c14))
    clear c14
    (first | rw [c14b0] | (simp only [i64_w, i32_w]; rw [c14b0]) | skip)
    replace H := Option.bind_eq_some_iff.mp H
    obtain ⟨t116, A150, H⟩ := H
    replace H : (if t116 = true then ((impl_WaysOk.f k t101).bind fun t117 => ((spec_WaysOk.f k t101).bind fun t118 => (if (t117 != t118) = true then (laws_FnWaysPut.j0 k t101 t108 t111 t112 t115 true t104 t105 t106) else ((spec_WaysOk.f k t101).bind fun t119 => (laws_FnWaysPut.j0 k t101 t108 t111 t112 t115 (!t119) t104 t105 t106))))) else (laws_FnWaysPut.j0 k t101 t108 t111 t112 t115 true t104 t105 t106)) = some r := H
    have A15 := Aside0.mk A150
    clear A150
    by_cases c16 : t116 = true
    ·subst c16
     have H1 : ((impl_WaysOk.f k t101).bind fun t117 => ((spec_WaysOk.f k t101).bind fun t118 => (if (t117 != t118) = true then (laws_FnWaysPut.j0 k t101 t108 t111 t112 t115 true t104 t105 t106) else ((spec_WaysOk.f k t101).bind fun t119 => (laws_FnWaysPut.j0 k t101 t108 t111 t112 t115 (!t119) t104 t105 t106))))) = some r := by rw [if_pos rfl] at H; exact H
     clear H
     have H := H1
     clear H1
     replace H := Option.bind_eq_some_iff.mp H
     obtain ⟨t117, A170, H⟩ := H
     replace H : ((spec_WaysOk.f k t101).bind fun t118 => (if (t117 != t118) = true then (laws_FnWaysPut.j0 k t101 t108 t111 t112 t115 true t104 t105 t106) else ((spec_WaysOk.f k t101).bind fun t119 => (laws_FnWaysPut.j0 k t101 t108 t111 t112 t115 (!t119) t104 t105 t106)))) = some r := H
     have A17 := Aside0.mk A170
     clear A170
     replace H := Option.bind_eq_some_iff.mp H
     obtain ⟨t118, A180, H⟩ := H
     replace H : (if (t117 != t118) = true then (laws_FnWaysPut.j0 k t101 t108 t111 t112 t115 true t104 t105 t106) else ((spec_WaysOk.f k t101).bind fun t119 => (laws_FnWaysPut.j0 k t101 t108 t111 t112 t115 (!t119) t104 t105 t106))) = some r := H
     have A18 := Aside0.mk A180
     clear A180
     by_cases c19 : (t117 != t118) = true
     ·rw [if_pos c19] at H
      have c19b0 : (t117 != t118) = true := c19
      (try (have c19b1 : decide (t117 = t118) = false := by simpa using c19))
      (try (have c19b2 : (t117 == t118) = false := by simpa using c19))
      (try (have c19b3 : ¬ (t117 = t118) := by simpa using c19))
      clear c19
      have H' := Aside0.mk H
      clear H
      obtain ⟨Ao20, co20, eo20⟩ := Kd.R_slice HO110.out
      subst eo20
      obtain ⟨Ao21, co21, eo21⟩ := Kd.R_slice HO114.out
      subst eo21
      go_wp2_with (first | (go_at_call 61; (with_reducible refine (laws_ovWays.calls k _ _ t108 _ _ t112 true _ ?side1 ?side2 ?side3 ?side4 A15.out).mono ?_); (case side1 => exact KC (Kd.R_reads' HO110.out).2.2); (case side2 => exact (Kd.R_reads' HO110.out).2.1); (case side3 => exact KC (Kd.R_reads' HO114.out).2.2); (case side4 => exact (Kd.R_reads' HO114.out).2.1); rintro e w' ⟨rfl, ⟨nd, rfl⟩⟩) | (go_at_call 63; (with_reducible refine (impl_WaysOk.calls k _ _ t101 t117 _ ?side1 ?side2 A17.out).mono ?_); (case side1 => exact KC (Kd.R_reads' HO103.out).2.2); (case side2 => exact (Kd.R_reads' HO103.out).2.1); rintro e w22 ⟨rfl, hb⟩; replace HO103 := am (Kd.R_below (KR HO103) hb); replace HO110 := am (Kd.R_below (KR HO110) hb); replace HO114 := am (Kd.R_below (KR HO114) hb); replace BK107 := am (BB BK107 hb); replace HB := am (below_step (K1 HB GE107.out) hb); (try clear hb); (try clear hb2); (try clear hk); (try clear hi)) | (go_at_call 58; (with_reducible refine (spec_WaysOk.calls k _ _ t101 t118 _ ?side1 ?side2 A18.out).mono ?_); (case side1 => exact KC (Kd.R_reads' HO103.out).2.2); (case side2 => exact (Kd.R_reads' HO103.out).2.1); rintro e w23 ⟨rfl, hb⟩; replace HO103 := am (Kd.R_below (KR HO103) hb); replace HO110 := am (Kd.R_below (KR HO110) hb); replace HO114 := am (Kd.R_below (KR HO114) hb); replace BK107 := am (BB BK107 hb); replace HB := am (below_step (K1 HB GE107.out) hb); (try clear hb); (try clear hb2); (try clear hk); (try clear hi)))
      go_meet
      case rel => exact ⟨_, (true), (by first | rfl | (simp; done) | (simp [*]; done)), H', ⟨by first | omega | exact Nat.le_refl _⟩, ⟨by (with_reducible repeat (first | apply Kd.R_alloc | apply Kd.R_drewN | apply Kd.R_drew)); exact Kd.R_mono HO103.out (fun _ hk => ⟨hk.1.2, ⟨hk.2, hk.1.1.2⟩⟩)⟩, ⟨by (with_reducible repeat (first | apply Kd.R_alloc | apply Kd.R_drewN | apply Kd.R_drew)); exact Kd.R_mono HO110.out (fun _ hk => ⟨hk.1.1.2, ⟨hk.2, hk.1.2⟩⟩)⟩, ⟨by (with_reducible repeat (first | apply Kd.R_alloc | apply Kd.R_drewN | apply Kd.R_drew)); exact Kd.R_mono HO114.out (fun _ hk => ⟨hk.1.1.2, ⟨hk.1.2, hk.2⟩⟩)⟩, ⟨KB BK107⟩, ⟨K1 HB GE107.out⟩⟩
     ·rw [if_neg c19] at H
      have c19b0 : (t117 != t118) = false := by simpa using c19
      (try (have c19b1 : decide (t117 = t118) = true := by simpa using c19))
      (try (have c19b2 : (t117 == t118) = true := by simpa using c19))
      clear c19
      replace H := Option.bind_eq_some_iff.mp H
      obtain ⟨t119, A240, H⟩ := H
      replace H : (laws_FnWaysPut.j0 k t101 t108 t111 t112 t115 (!t119) t104 t105 t106) = some r := H
      have A24 := Aside0.mk A240
      clear A240
      have H' := Aside0.mk H
      clear H
      obtain ⟨Ao25, co25, eo25⟩ := Kd.R_slice HO110.out
      subst eo25
      obtain ⟨Ao26, co26, eo26⟩ := Kd.R_slice HO114.out
      subst eo26
      go_wp2_with (first | (go_at_call 61; (with_reducible refine (laws_ovWays.calls k _ _ t108 _ _ t112 true _ ?side1 ?side2 ?side3 ?side4 A15.out).mono ?_); (case side1 => exact KC (Kd.R_reads' HO110.out).2.2); (case side2 => exact (Kd.R_reads' HO110.out).2.1); (case side3 => exact KC (Kd.R_reads' HO114.out).2.2); (case side4 => exact (Kd.R_reads' HO114.out).2.1); rintro e w' ⟨rfl, ⟨nd, rfl⟩⟩) | (go_at_call 63; (with_reducible refine (impl_WaysOk.calls k _ _ t101 t117 _ ?side1 ?side2 A17.out).mono ?_); (case side1 => exact KC (Kd.R_reads' HO103.out).2.2); (case side2 => exact (Kd.R_reads' HO103.out).2.1); rintro e w27 ⟨rfl, hb⟩; replace HO103 := am (Kd.R_below (KR HO103) hb); replace HO110 := am (Kd.R_below (KR HO110) hb); replace HO114 := am (Kd.R_below (KR HO114) hb); replace BK107 := am (BB BK107 hb); replace HB := am (below_step (K1 HB GE107.out) hb); (try clear hb); (try clear hb2); (try clear hk); (try clear hi)) | (go_at_call 58; (with_reducible refine (spec_WaysOk.calls k _ _ t101 t118 _ ?side1 ?side2 A18.out).mono ?_); (case side1 => exact KC (Kd.R_reads' HO103.out).2.2); (case side2 => exact (Kd.R_reads' HO103.out).2.1); clear A18; rintro e w28 ⟨rfl, hb⟩; replace HO103 := am (Kd.R_below (KR HO103) hb); replace HO110 := am (Kd.R_below (KR HO110) hb); replace HO114 := am (Kd.R_below (KR HO114) hb); replace BK107 := am (BB BK107 hb); replace HB := am (below_step (K1 HB GE107.out) hb); (try clear hb); (try clear hb2); (try clear hk); (try clear hi)) | (go_at_call 58; (with_reducible refine (spec_WaysOk.calls k _ _ t101 t119 _ ?side1 ?side2 A24.out).mono ?_); (case side1 => exact KC (Kd.R_reads' HO103.out).2.2); (case side2 => exact (Kd.R_reads' HO103.out).2.1); rintro e w29 ⟨rfl, hb⟩; replace HO103 := am (Kd.R_below (KR HO103) hb); replace HO110 := am (Kd.R_below (KR HO110) hb); replace HO114 := am (Kd.R_below (KR HO114) hb); replace BK107 := am (BB BK107 hb); replace HB := am (below_step (K1 HB GE107.out) hb); (try clear hb); (try clear hb2); (try clear hk); (try clear hi)))
      go_meet
      case rel => exact ⟨_, (!t119), (by first | rfl | (simp; done) | (simp [*]; done)), H', ⟨by first | omega | exact Nat.le_refl _⟩, ⟨by (with_reducible repeat (first | apply Kd.R_alloc | apply Kd.R_drewN | apply Kd.R_drew)); exact Kd.R_mono HO103.out (fun _ hk => ⟨hk.1.2, ⟨hk.2, hk.1.1.2⟩⟩)⟩, ⟨by (with_reducible repeat (first | apply Kd.R_alloc | apply Kd.R_drewN | apply Kd.R_drew)); exact Kd.R_mono HO110.out (fun _ hk => ⟨hk.1.1.2, ⟨hk.2, hk.1.2⟩⟩)⟩, ⟨by (with_reducible repeat (first | apply Kd.R_alloc | apply Kd.R_drewN | apply Kd.R_drew)); exact Kd.R_mono HO114.out (fun _ hk => ⟨hk.1.1.2, ⟨hk.1.2, hk.2⟩⟩)⟩, ⟨KB BK107⟩, ⟨K1 HB GE107.out⟩⟩
    ·replace c16 := Bool.eq_false_iff.mpr c16
     subst c16
     have H1 : (laws_FnWaysPut.j0 k t101 t108 t111 t112 t115 true t104 t105 t106) = some r := by rw [if_neg (show ¬ (false = true) by decide)] at H; exact H
     clear H
     have H := H1
     clear H1
     have H' := Aside0.mk H
     clear H
     obtain ⟨Ao30, co30, eo30⟩ := Kd.R_slice HO110.out
     subst eo30
     obtain ⟨Ao31, co31, eo31⟩ := Kd.R_slice HO114.out
     subst eo31
     go_wp2_with (first | (go_at_call 61; (with_reducible refine (laws_ovWays.calls k _ _ t108 _ _ t112 false _ ?side1 ?side2 ?side3 ?side4 A15.out).mono ?_); (case side1 => exact KC (Kd.R_reads' HO110.out).2.2); (case side2 => exact (Kd.R_reads' HO110.out).2.1); (case side3 => exact KC (Kd.R_reads' HO114.out).2.2); (case side4 => exact (Kd.R_reads' HO114.out).2.1); rintro e w' ⟨rfl, ⟨nd, rfl⟩⟩))
     go_meet
     case rel => exact ⟨_, (true), (by first | rfl | (simp; done) | (simp [*]; done)), H', ⟨by first | omega | exact Nat.le_refl _⟩, ⟨by (with_reducible repeat (first | apply Kd.R_alloc | apply Kd.R_drewN | apply Kd.R_drew)); exact Kd.R_mono HO103.out (fun _ hk => ⟨hk.1.2, ⟨hk.2, hk.1.1.2⟩⟩)⟩, ⟨by (with_reducible repeat (first | apply Kd.R_alloc | apply Kd.R_drewN | apply Kd.R_drew)); exact Kd.R_mono HO110.out (fun _ hk => ⟨hk.1.1.2, ⟨hk.2, hk.1.2⟩⟩)⟩, ⟨by (with_reducible repeat (first | apply Kd.R_alloc | apply Kd.R_drewN | apply Kd.R_drew)); exact Kd.R_mono HO114.out (fun _ hk => ⟨hk.1.1.2, ⟨hk.1.2, hk.2⟩⟩)⟩, ⟨KB BK107⟩, ⟨K1 HB GE107.out⟩⟩
  case rest =>
   clear HC6
   try clear c1
   try clear c2
   try clear c2b0
   try clear c2b1
   try clear p2
   try clear c6
   try clear c14
   try clear c14b0
   try clear c14b1
   try clear c14b2
   try clear c16
   try clear c19
   try clear c19b0
   try clear c19b1
   try clear c19b2
   try clear hcz12_0
   try clear hcz12_1
   try clear hcz12_2
   try clear hcz9_0
   try clear hcz9_1
   try clear hcz9_2
   try clear hfz12_0
   try clear hfz9_0
   obtain ⟨kq, x55_5, rfl, HA, HJ5, HO_3, HO_5, HO_7, BK107, HB⟩ := hcut
   cases kq with
   | zero => exact absurd HA.out (by simp [laws_FnWaysPut.j0])
   | succ kj5 =>
    have H := HA.out
    clear HA
    simp only [laws_FnWaysPut.j0] at H
    by_cases c32 : x55_5 = true
    ·subst c32
     have H1 : (if (t111 == t115) = true then ((laws_ovWays.f kj5 t108 t112).bind fun t120 => (if t120 = true then ((impl_WaysOk.f kj5 t101).bind fun t121 => ((spec_WaysOk.f kj5 t101).bind fun t122 => (some (t121 == t122)))) else (some false))) else (some false)) = some r := by rw [if_pos rfl] at H; exact H
     clear H
     have H := H1
     clear H1
     by_cases c33 : (t111 == t115) = true
     ·rw [if_pos c33] at H
      have c33b0 : (t111 == t115) = true := c33
      (try (have c33b1 : decide (t111 = t115) = true := by simpa using c33))
      (try (have c33b2 : (t111 == t115) = true := by simpa using c33))
      clear c33
      replace H := Option.bind_eq_some_iff.mp H
      obtain ⟨t120, A340, H⟩ := H
      replace H : (if t120 = true then ((impl_WaysOk.f kj5 t101).bind fun t121 => ((spec_WaysOk.f kj5 t101).bind fun t122 => (some (t121 == t122)))) else (some false)) = some r := H
      have A34 := Aside0.mk A340
      clear A340
      by_cases c35 : t120 = true
      ·subst c35
       have H1 : ((impl_WaysOk.f kj5 t101).bind fun t121 => ((spec_WaysOk.f kj5 t101).bind fun t122 => (some (t121 == t122)))) = some r := by rw [if_pos rfl] at H; exact H
       clear H
       have H := H1
       clear H1
       replace H := Option.bind_eq_some_iff.mp H
       obtain ⟨t121, A360, H⟩ := H
       replace H : ((spec_WaysOk.f kj5 t101).bind fun t122 => (some (t121 == t122))) = some r := H
       have A36 := Aside0.mk A360
       clear A360
       replace H := Option.bind_eq_some_iff.mp H
       obtain ⟨t122, A370, H⟩ := H
       replace H : (some (t121 == t122)) = some r := H
       have A37 := Aside0.mk A370
       clear A370
       obtain rfl := Option.some.inj H
       obtain ⟨Ao38, co38, eo38⟩ := Kd.R_slice HO_5.out
       subst eo38
       obtain ⟨Ao39, co39, eo39⟩ := Kd.R_slice HO_7.out
       subst eo39
       go_wp2_with (first | (go_at_call 61; (with_reducible refine (laws_ovWays.calls kj5 _ _ t108 _ _ t112 true _ ?side1 ?side2 ?side3 ?side4 A34.out).mono ?_); (case side1 => exact KC (Kd.R_reads' HO_5.out).2.2); (case side2 => exact (Kd.R_reads' HO_5.out).2.1); (case side3 => exact KC (Kd.R_reads' HO_7.out).2.2); (case side4 => exact (Kd.R_reads' HO_7.out).2.1); rintro e w' ⟨rfl, ⟨nd, rfl⟩⟩) | (go_at_call 63; (with_reducible refine (impl_WaysOk.calls kj5 _ _ t101 t121 _ ?side1 ?side2 A36.out).mono ?_); (case side1 => exact KC (Kd.R_reads' HO_3.out).2.2); (case side2 => exact (Kd.R_reads' HO_3.out).2.1); rintro e w40 ⟨rfl, hb⟩; replace HO_3 := am (Kd.R_below (KR HO_3) hb); replace HO_5 := am (Kd.R_below (KR HO_5) hb); replace HO_7 := am (Kd.R_below (KR HO_7) hb); replace BK107 := am (BB BK107 hb); replace HB := am (below_step (K1 HB GE107.out) hb); (try clear hb); (try clear hb2); (try clear hk); (try clear hi)) | (go_at_call 58; (with_reducible refine (spec_WaysOk.calls kj5 _ _ t101 t122 _ ?side1 ?side2 A37.out).mono ?_); (case side1 => exact KC (Kd.R_reads' HO_3.out).2.2); (case side2 => exact (Kd.R_reads' HO_3.out).2.1); rintro e w41 ⟨rfl, hb⟩; replace HO_3 := am (Kd.R_below (KR HO_3) hb); replace HO_5 := am (Kd.R_below (KR HO_5) hb); replace HO_7 := am (Kd.R_below (KR HO_7) hb); replace BK107 := am (BB BK107 hb); replace HB := am (below_step (K1 HB GE107.out) hb); (try clear hb); (try clear hb2); (try clear hk); (try clear hi)))
       go_ret
       exact ⟨ER, K1 HB GE107.out⟩
      ·replace c35 := Bool.eq_false_iff.mpr c35
       subst c35
       have H1 : (some false) = some r := by rw [if_neg (show ¬ (false = true) by decide)] at H; exact H
       clear H
       have H := H1
       clear H1
       exact absurd ((Option.some.inj H).trans HR_.out) (by decide)
     ·rw [if_neg c33] at H
      have c33b0 : (t111 == t115) = false := by simpa using c33
      (try (have c33b1 : decide (t111 = t115) = false := by simpa using c33))
      (try (have c33b2 : (t111 == t115) = false := by simpa using c33))
      (try (have c33b3 : ¬ (t111 = t115) := by simpa using c33))
      clear c33
      exact absurd ((Option.some.inj H).trans HR_.out) (by decide)
    ·replace c32 := Bool.eq_false_iff.mpr c32
     subst c32
     have H1 : (if t111 = true then (laws_FnWaysPut.l0 kj5 t101 t108 false 0 t104 t105 t106) else ((laws_ovWays.f kj5 t108 t101).bind fun t123 => (some t123))) = some r := by rw [if_neg (show ¬ (false = true) by decide)] at H; exact H
     clear H
     have H := H1
     clear H1
     by_cases c42 : t111 = true
     ·subst c42
      have H1 : (laws_FnWaysPut.l0 kj5 t101 t108 false 0 t104 t105 t106) = some r := by rw [if_pos rfl] at H; exact H
      clear H
      have H := H1
      clear H1
      have H' := Aside0.mk H
      clear H
      go_wp2
      go_loopg [9, 10] kj5 (fun kq v9 v10 w' => ∃ (x9_2 : Bool) (x10_2 : Int), v9 = .bool x9_2 ∧ v10 = .int .i64 x10_2 ∧ Aside0 (laws_FnWaysPut.l0 kq t101 t108 x9_2 x10_2 t104 t105 t106 = some r) ∧ Aside0 (kq ≤ kj5) ∧ Aside0 (Kd.R k86 86 w' w.heap.size (fun k_ => some k_ ≠ (v109 : Value).ownBlock ∧ k_ ≠ gb107) (.slice Ao10 t101.length co10) t101) ∧ Aside0 (Kd.R k86 86 w' w.heap.size (fun k_ => some k_ ≠ ((.slice Ao10 t101.length co10) : Value).ownBlock ∧ k_ ≠ gb107) v109 t108) ∧ Aside0 (w'.heap[gb107]? = some (.cells #[.int .i64 t104, .int .i64 t105, .int .i64 t106] 86 (0, 0))) ∧ Aside0 (Below w.heap.size w w'))
      case atStart => exact ⟨(false), (0), (by first | rfl | (simp; done) | (simp [*]; done)), (by first | rfl | (simp; done) | (simp [*]; done)), H', ⟨Nat.le_refl _⟩, ⟨by (with_reducible repeat (first | apply Kd.R_alloc | apply Kd.R_drewN | apply Kd.R_drew)); exact Kd.R_mono HO_3.out (fun _ hk => ⟨hk.1, hk.2.2⟩)⟩, ⟨by (with_reducible repeat (first | apply Kd.R_alloc | apply Kd.R_drewN | apply Kd.R_drew)); exact Kd.R_mono HO_5.out (fun _ hk => ⟨hk.1, hk.2.2⟩)⟩, ⟨KB BK107⟩, ⟨K1 HB GE107.out⟩⟩
      case round =>
       clear H'
       try clear c1
       try clear c2
       try clear c2b0
       try clear c2b1
       try clear p2
       try clear c3
       try clear c4
       try clear c6
       try clear c14
       try clear c14b0
       try clear c14b1
       try clear c14b2
       try clear c16
       try clear c19
       try clear c19b0
       try clear c19b1
       try clear c19b2
       try clear c32
       try clear c33
       try clear c33b0
       try clear c33b1
       try clear c33b2
       try clear c35
       try clear c42
       try clear hcz12_0
       try clear hcz12_1
       try clear hcz12_2
       try clear hcz9_0
       try clear hcz9_1
       try clear hcz9_2
       try clear hfz12_0
       try clear hfz9_0
       try clear p2
       obtain ⟨x9_2, x10_2, rfl, rfl, HA, HK2, HO_3, HO_5, BK107, HB⟩ := hrel
       cases gk with
       | zero => exact absurd HA.out (by simp [laws_FnWaysPut.l0])
       | succ k2 =>
        have H := HA.out
        clear HA
        simp only [laws_FnWaysPut.l0] at H
        by_cases c43 : x10_2 < (t101.length : Int)
        ·rw [if_pos c43] at H
         have c43b0 : decide (x10_2 < (t101.length : Int)) = true := decide_eq_true c43
         clear c43
         by_cases c44 : x9_2 = true
         ·subst c44
          have H1 : (laws_FnWaysPut.l0 k2 t101 t108 true (wrap64 (x10_2 + 1)) t104 t105 t106) = some r := by rw [if_pos rfl] at H; exact H
          clear H
          have H := H1
          clear H1
          have H' := Aside0.mk H
          clear H
          try go_wp2
          replace HO_3 := am (Kd.R_drew HO_3.out)
          replace HO_5 := am (Kd.R_drew HO_5.out)
          replace BK107 := am (blk_drew BK107.out)
          replace HB := am (below_drew1 HB.out)
          refine start_ (n := 25) (S := fun w' => True) (ds := []) (tf 0 25) (by kernel_rfl) rfl rfl trivial (fun hHeld => ?_); refine with_tabW laws_FnWaysPut.tab14 laws_FnWaysPut.bits14 (fun HT_ HW_ => ?_)
          generalize wr.drew = w45 at HO_3 HO_5 BK107 HB hHeld ⊢
          refine pv HT_ 0 82 (tf 1 24) ?_
          refine pv HT_ 1 83 (tf 2 23) ?_
          refine pw HT_ 2 84 (tf 3 22) ?_
          refine pw HT_ 3 85 (tf 4 21) ?_
          refine pw HT_ 4 86 (tf 5 20) ?_
          refine pw HT_ 5 87 (tf 6 19) ?_
          refine pw HT_ 6 88 (tf 7 18) ?_
          refine pw HT_ 7 89 (tf 8 17) ?_
          refine pw HT_ 8 90 (tf 9 16) ?_
          refine pw HT_ 9 91 (tf 10 15) ?_
          refine pw HT_ 10 92 (tf 11 14) ?_
          refine pw HT_ 11 93 (tf 12 13) ?_
          refine pw HT_ 12 94 (tf 13 12) ?_
          refine pw HT_ 13 95 (tf 14 11) ?_
          refine pw HT_ 14 96 (tf 15 10) ?_
          refine pw HT_ 15 97 (tf 16 9) ?_
          refine pw HT_ 16 98 (tf 17 8) ?_
          refine pw HT_ 17 99 (tf 18 7) ?_
          refine pw HT_ 18 100 (tf 19 6) ?_
          refine pw HT_ 19 101 (tf 20 5) ?_
          refine pw HT_ 20 102 (tf 21 4) ?_
          refine pw HT_ 21 103 (tf 22 3) ?_
          refine pw HT_ 22 104 (tf 23 2) ?_
          refine pv HT_ 23 105 (tf 24 1) ?_
          refine pv HT_ 24 9 (tf 25 0) ?_
          refine done_ (done_of HT_.out (by kernel_rfl)) ?_
          try go_wp2
          go_roundg k2
          case measure => have := HJ5.out; have := HK2.out; omega
          case rel => exact ⟨(true), (wrap64 (x10_2 + 1)), (by first | rfl | (simp; done) | (simp [*]; done)), (by first | rfl | (simp; done) | (simp [*]; done)), H', ⟨by have := HJ5.out; have := HK2.out; omega⟩, ⟨KR HO_3⟩, ⟨KR HO_5⟩, ⟨KB BK107⟩, ⟨K1 HB GE107.out⟩⟩
         ·replace c44 := Bool.eq_false_iff.mpr c44
          subst c44
          have H1 : (if 0 ≤ x10_2 then (if ((rd_T86 t101 x10_2).f0.f1) > t105 then ((impl_BlockHas.f ((rd_T86 t101 x10_2).f0.f0) ((rd_T86 t101 x10_2).f0.f1) t104).bind fun t126 => (laws_FnWaysPut.l0 k2 t101 t108 t126 (wrap64 (x10_2 + 1)) t104 t105 t106)) else (laws_FnWaysPut.l0 k2 t101 t108 false (wrap64 (x10_2 + 1)) t104 t105 t106)) else (none)) = some r := by rw [if_neg (show ¬ (false = true) by decide)] at H; exact H
          clear H
          have H := H1
          clear H1
          by_cases c46 : 0 ≤ x10_2
          ·rw [if_pos c46] at H
           have c46b0 : decide (0 ≤ x10_2) = true := decide_eq_true c46
           clear c46
           by_cases c47 : ((rd_T86 t101 x10_2).f0.f1) > t105
           ·rw [if_pos c47] at H
            have c47b0 : decide (t105 < ((rd_T86 t101 x10_2).f0.f1)) = true := decide_eq_true c47
            clear c47
            replace H := Option.bind_eq_some_iff.mp H
            obtain ⟨t126, A480, H⟩ := H
            replace H : (laws_FnWaysPut.l0 k2 t101 t108 t126 (wrap64 (x10_2 + 1)) t104 t105 t106) = some r := H
            have A48 := Aside0.mk A480
            clear A480
            have H' := Aside0.mk H
            clear H
            try go_wp2
            replace HO_3 := am (Kd.R_drew HO_3.out)
            replace HO_5 := am (Kd.R_drew HO_5.out)
            replace BK107 := am (blk_drew BK107.out)
            replace HB := am (below_drew1 HB.out)
            have p124 : 0 ≤ (x10_2 : Int) := OD
            have q124 : x10_2 < (t101.length : Int) := OD
            obtain ⟨ad124, e124, hx124_0, hx124_1, hx124_2⟩ := at_T86 (Kd.R_reads' HO_3.out).2.2 x10_2 p124 q124
            cases e124
            replace p124 := eq_true p124
            replace q124 := eq_true q124
            have p125 : 0 ≤ (x10_2 : Int) := OD
            have q125 : x10_2 < (t101.length : Int) := OD
            obtain ⟨ad125, e125, hx125_0, hx125_1, hx125_2⟩ := at_T86 (Kd.R_reads' HO_3.out).2.2 x10_2 p125 q125
            obtain rfl : ad124 = ad125 := (by injection e125)
            replace p125 := eq_true p125
            replace q125 := eq_true q125
            refine start_ (n := 25) (S := fun w' => ce3 w' gb107 (.int .i64 t104) (.int .i64 t105) (.int .i64 t106) (w'.cell? (ad124.add ((x10_2).toNat * 3)) = some (.int .i64 ((rd_T86 t101 x10_2).f0.f0)) ∧ w'.cell? ⟨(ad124.add ((x10_2).toNat * 3)).block, (ad124.add ((x10_2).toNat * 3)).off + 1, none⟩ = some (.int .i64 ((rd_T86 t101 x10_2).f0.f1)) ∧ w'.cell? ⟨(ad124.add ((x10_2).toNat * 3)).block, (ad124.add ((x10_2).toNat * 3)).off + 2, none⟩ = some (.int .i64 ((rd_T86 t101 x10_2).f1)) ∧ w'.cell? (ad124.add ((x10_2).toNat * 3)) = some (.int .i64 ((rd_T86 t101 x10_2).f0.f0)) ∧ w'.cell? ⟨(ad124.add ((x10_2).toNat * 3)).block, (ad124.add ((x10_2).toNat * 3)).off + 1, none⟩ = some (.int .i64 ((rd_T86 t101 x10_2).f0.f1)) ∧ w'.cell? ⟨(ad124.add ((x10_2).toNat * 3)).block, (ad124.add ((x10_2).toNat * 3)).off + 2, none⟩ = some (.int .i64 ((rd_T86 t101 x10_2).f1)))) (ds := []) (tf 0 25) (by kernel_rfl) rfl rfl ⟨z0 _ BK107.out, z1 _ BK107.out, z2 _ BK107.out, hx124_0, hx124_1, hx124_2, hx125_0, hx125_1, hx125_2⟩ (fun hHeld => ?_); refine with_tabW laws_FnWaysPut.tab14 laws_FnWaysPut.bits14 (fun HT_ HW_ => ?_)
            generalize wr.drew = w49 at HO_3 HO_5 BK107 HB hx124_0 hx124_1 hx124_2 hx125_0 hx125_1 hx125_2 hHeld ⊢
            refine pv HT_ 0 82 (tf 1 24) ?_
            refine pv HT_ 1 83 (tf 2 23) ?_
            refine pv HT_ 2 84 (tf 3 22) ?_
            refine pv HT_ 3 85 (tf 4 21) ?_
            refine pv HT_ 4 86 (tf 5 20) ?_
            refine pv HT_ 5 87 (tf 6 19) ?_
            refine pv HT_ 6 88 (tf 7 18) ?_
            refine pv HT_ 8 90 (tr [7, 1, 1, 16]) ?_
            refine pv HT_ 9 91 (tr [7, 1, 2, 15]) ?_
            refine tk 7 (some 89) (tf 10 15) (take_ofW HT_.out HW_.out (by kernel_rfl)) hHeld ?_
            refine tk 10 (some 92) (tf 11 14) (take_ofW HT_.out HW_.out (by kernel_rfl)) hHeld ?_
            refine pv HT_ 11 93 (tf 12 13) ?_
            refine pv HT_ 12 94 (tf 13 12) ?_
            refine pv HT_ 13 95 (tf 14 11) ?_
            refine pv HT_ 14 96 (tf 15 10) ?_
            refine pv HT_ 15 97 (tf 16 9) ?_
            refine pv HT_ 16 98 (tf 17 8) ?_
            refine pv HT_ 18 100 (tr [17, 1, 1, 6]) ?_
            refine pv HT_ 19 101 (tr [17, 1, 2, 5]) ?_
            refine tk 17 (some 99) (tf 20 5) (take_ofW HT_.out HW_.out (by kernel_rfl)) hHeld ?_
            refine tk 20 (some 102) (tf 21 4) (take_ofW HT_.out HW_.out (by kernel_rfl)) hHeld ?_
            refine one_ (i := 21) (N := some 103) (tf 22 3) rfl rfl (one_of HT_.out (by kernel_rfl)) (by decide) (fun K hK => ?_)
            refine goes_ Try.func59 (by kernel_rfl) rfl #[.agg #[.int .i64 ((rd_T86 t101 x10_2).f0.f0), .int .i64 ((rd_T86 t101 x10_2).f0.f1)], .int .i64 t104] (by rfl) rfl rfl MT ?_
            with_reducible refine (impl_BlockHas.calls ((rd_T86 t101 x10_2).f0.f0) ((rd_T86 t101 x10_2).f0.f1) t104 t126 _ A48.out).mono ?_
            rintro e w50 ⟨rfl, hb⟩
            have HS3_ := (hb.cell (World.block_lt_of_cell? _ _ (hHeld.2.2.2.1))).trans (hHeld.2.2.2.1)
            have HS4_ := (hb.cell (World.block_lt_of_cell? _ _ (hHeld.2.2.2.2.1))).trans (hHeld.2.2.2.2.1)
            have HS5_ := (hb.cell (World.block_lt_of_cell? _ _ (hHeld.2.2.2.2.2.1))).trans (hHeld.2.2.2.2.2.1)
            have HS6_ := (hb.cell (World.block_lt_of_cell? _ _ (hHeld.2.2.2.2.2.2.1))).trans (hHeld.2.2.2.2.2.2.1)
            have HS7_ := (hb.cell (World.block_lt_of_cell? _ _ (hHeld.2.2.2.2.2.2.2.1))).trans (hHeld.2.2.2.2.2.2.2.1)
            have HS8_ := (hb.cell (World.block_lt_of_cell? _ _ (hHeld.2.2.2.2.2.2.2.2))).trans (hHeld.2.2.2.2.2.2.2.2)
            refine ⟨_, rfl, ?_⟩
            replace HO_3 := am (Kd.R_below (KR HO_3) hb)
            replace HO_5 := am (Kd.R_below (KR HO_5) hb)
            replace BK107 := am (BB BK107 hb)
            replace HB := am (below_step (K1 HB GE107.out) hb)
            (try clear hb)
            (try clear hb2)
            (try clear hk)
            (try clear hi)
            refine hK.out _ _ ⟨z0 _ BK107.out, z1 _ BK107.out, z2 _ BK107.out, HS3_, HS4_, HS5_, HS6_, HS7_, HS8_⟩ (fun hHeld => ?_)
            clear hK K
            refine norm_ (a' := ?_) ?_ ?_
            rotate_left
            ·show Act.put _ (some 103) _ = _
             simp only [Act.put, List.setIfInBounds_toArray, List.set_cons_zero, List.set_cons_succ, i64_w, i32_w]
             rfl
            refine pv HT_ 22 104 (tf 23 2) ?_
            refine pv HT_ 23 105 (tf 24 1) ?_
            refine pv HT_ 24 9 (tf 25 0) ?_
            refine done_ (done_of HT_.out (by kernel_rfl)) ?_
            try go_wp2
            go_roundg k2
            case measure => have := HJ5.out; have := HK2.out; omega
            case rel => exact ⟨(t126), (wrap64 (x10_2 + 1)), (by first | rfl | (simp; done) | (simp [*]; done)), (by first | rfl | (simp; done) | (simp [*]; done)), H', ⟨by have := HJ5.out; have := HK2.out; omega⟩, ⟨KR HO_3⟩, ⟨KR HO_5⟩, ⟨KB BK107⟩, ⟨K1 HB GE107.out⟩⟩
           ·rw [if_neg c47] at H
            have c47b0 : decide (t105 < ((rd_T86 t101 x10_2).f0.f1)) = false := decide_eq_false c47
            clear c47
            have H' := Aside0.mk H
            clear H
            try go_wp2
            replace HO_3 := am (Kd.R_drew HO_3.out)
            replace HO_5 := am (Kd.R_drew HO_5.out)
            replace BK107 := am (blk_drew BK107.out)
            replace HB := am (below_drew1 HB.out)
            have p124 : 0 ≤ (x10_2 : Int) := OD
            have q124 : x10_2 < (t101.length : Int) := OD
            obtain ⟨ad124, e124, hx124_0, hx124_1, hx124_2⟩ := at_T86 (Kd.R_reads' HO_3.out).2.2 x10_2 p124 q124
            cases e124
            replace p124 := eq_true p124
            replace q124 := eq_true q124
            refine start_ (n := 25) (S := fun w' => ce3 w' gb107 (.int .i64 t104) (.int .i64 t105) (.int .i64 t106) (w'.cell? (ad124.add ((x10_2).toNat * 3)) = some (.int .i64 ((rd_T86 t101 x10_2).f0.f0)) ∧ w'.cell? ⟨(ad124.add ((x10_2).toNat * 3)).block, (ad124.add ((x10_2).toNat * 3)).off + 1, none⟩ = some (.int .i64 ((rd_T86 t101 x10_2).f0.f1)) ∧ w'.cell? ⟨(ad124.add ((x10_2).toNat * 3)).block, (ad124.add ((x10_2).toNat * 3)).off + 2, none⟩ = some (.int .i64 ((rd_T86 t101 x10_2).f1)))) (ds := []) (tf 0 25) (by kernel_rfl) rfl rfl ⟨z0 _ BK107.out, z1 _ BK107.out, z2 _ BK107.out, hx124_0, hx124_1, hx124_2⟩ (fun hHeld => ?_); refine with_tabW laws_FnWaysPut.tab14 laws_FnWaysPut.bits14 (fun HT_ HW_ => ?_)
            generalize wr.drew = w51 at HO_3 HO_5 BK107 HB hx124_0 hx124_1 hx124_2 hHeld ⊢
            refine pv HT_ 0 82 (tf 1 24) ?_
            refine pv HT_ 1 83 (tf 2 23) ?_
            refine pv HT_ 2 84 (tf 3 22) ?_
            refine pv HT_ 3 85 (tf 4 21) ?_
            refine pv HT_ 4 86 (tf 5 20) ?_
            refine pv HT_ 5 87 (tf 6 19) ?_
            refine pv HT_ 6 88 (tf 7 18) ?_
            refine pv HT_ 8 90 (tr [7, 1, 1, 16]) ?_
            refine pv HT_ 9 91 (tr [7, 1, 2, 15]) ?_
            refine tk 7 (some 89) (tf 10 15) (take_ofW HT_.out HW_.out (by kernel_rfl)) hHeld ?_
            refine tk 10 (some 92) (tf 11 14) (take_ofW HT_.out HW_.out (by kernel_rfl)) hHeld ?_
            refine pv HT_ 11 93 (tf 12 13) ?_
            refine pv HT_ 12 94 (tf 13 12) ?_
            refine pw HT_ 13 95 (tf 14 11) ?_
            refine pw HT_ 14 96 (tf 15 10) ?_
            refine pw HT_ 15 97 (tf 16 9) ?_
            refine pw HT_ 16 98 (tf 17 8) ?_
            refine pw HT_ 17 99 (tf 18 7) ?_
            refine pw HT_ 18 100 (tf 19 6) ?_
            refine pw HT_ 19 101 (tf 20 5) ?_
            refine pw HT_ 20 102 (tf 21 4) ?_
            refine pw HT_ 21 103 (tf 22 3) ?_
            refine pv HT_ 22 104 (tf 23 2) ?_
            refine pv HT_ 23 105 (tf 24 1) ?_
            refine pv HT_ 24 9 (tf 25 0) ?_
            refine done_ (done_of HT_.out (by kernel_rfl)) ?_
            try go_wp2
            go_roundg k2
            case measure => have := HJ5.out; have := HK2.out; omega
            case rel => exact ⟨(false), (wrap64 (x10_2 + 1)), (by first | rfl | (simp; done) | (simp [*]; done)), (by first | rfl | (simp; done) | (simp [*]; done)), H', ⟨by have := HJ5.out; have := HK2.out; omega⟩, ⟨KR HO_3⟩, ⟨KR HO_5⟩, ⟨KB BK107⟩, ⟨K1 HB GE107.out⟩⟩
          ·rw [if_neg c46] at H
           exact absurd H (by simp)
        ·rw [if_neg c43] at H
         have c43b0 : decide (x10_2 < (t101.length : Int)) = false := decide_eq_false c43
         clear c43
         replace H := Option.bind_eq_some_iff.mp H
         obtain ⟨⟨t127, t130⟩, A520, H⟩ := H
         replace H : ((impl_WaysGone.f k2 t101 t104 t105).bind fun bt131 => (if bt131.2 = true then ((impl_WaysOk.f k2 t108).bind fun t135 => (if t135 = true then (if x9_2 = true then (if t130 = true then ((laws_ovWays.f k2 t127 bt131.1).bind fun t136 => (some t136)) else (some false)) else ((impl_WaysLead.f k2 t108 t104).bind fun t137 => (if t137 = t106 then (if t130 = true then ((laws_ovWays.f k2 t127 bt131.1).bind fun t138 => (some t138)) else (some false)) else (some false)))) else (some false))) else ((impl_WaysOk.f k2 t108).bind fun t139 => (if t139 = true then (if x9_2 = true then (if t130 = true then ((laws_ovWays.f k2 t127 t101).bind fun t140 => (some t140)) else (some false)) else ((impl_WaysLead.f k2 t108 t104).bind fun t141 => (if t141 = t106 then (if t130 = true then ((laws_ovWays.f k2 t127 t101).bind fun t142 => (some t142)) else (some false)) else (some false)))) else (some false))))) = some r := H
         have A52 := Aside0.mk A520
         clear A520
         replace H := Option.bind_eq_some_iff.mp H
         obtain ⟨⟨t131, t134⟩, A530, H⟩ := H
         replace H : (if t134 = true then ((impl_WaysOk.f k2 t108).bind fun t135 => (if t135 = true then (if x9_2 = true then (if t130 = true then ((laws_ovWays.f k2 t127 t131).bind fun t136 => (some t136)) else (some false)) else ((impl_WaysLead.f k2 t108 t104).bind fun t137 => (if t137 = t106 then (if t130 = true then ((laws_ovWays.f k2 t127 t131).bind fun t138 => (some t138)) else (some false)) else (some false)))) else (some false))) else ((impl_WaysOk.f k2 t108).bind fun t139 => (if t139 = true then (if x9_2 = true then (if t130 = true then ((laws_ovWays.f k2 t127 t101).bind fun t140 => (some t140)) else (some false)) else ((impl_WaysLead.f k2 t108 t104).bind fun t141 => (if t141 = t106 then (if t130 = true then ((laws_ovWays.f k2 t127 t101).bind fun t142 => (some t142)) else (some false)) else (some false)))) else (some false)))) = some r := H
         have A53 := Aside0.mk A530
         clear A530
         by_cases c54 : t134 = true
         ·subst c54
          have H1 : ((impl_WaysOk.f k2 t108).bind fun t135 => (if t135 = true then (if x9_2 = true then (if t130 = true then ((laws_ovWays.f k2 t127 t131).bind fun t136 => (some t136)) else (some false)) else ((impl_WaysLead.f k2 t108 t104).bind fun t137 => (if t137 = t106 then (if t130 = true then ((laws_ovWays.f k2 t127 t131).bind fun t138 => (some t138)) else (some false)) else (some false)))) else (some false))) = some r := by rw [if_pos rfl] at H; exact H
          clear H
          have H := H1
          clear H1
          replace H := Option.bind_eq_some_iff.mp H
          obtain ⟨t135, A550, H⟩ := H
          replace H : (if t135 = true then (if x9_2 = true then (if t130 = true then ((laws_ovWays.f k2 t127 t131).bind fun t136 => (some t136)) else (some false)) else ((impl_WaysLead.f k2 t108 t104).bind fun t137 => (if t137 = t106 then (if t130 = true then ((laws_ovWays.f k2 t127 t131).bind fun t138 => (some t138)) else (some false)) else (some false)))) else (some false)) = some r := H
          have A55 := Aside0.mk A550
          clear A550
          by_cases c56 : t135 = true
          ·subst c56
           have H1 : (if x9_2 = true then (if t130 = true then ((laws_ovWays.f k2 t127 t131).bind fun t136 => (some t136)) else (some false)) else ((impl_WaysLead.f k2 t108 t104).bind fun t137 => (if t137 = t106 then (if t130 = true then ((laws_ovWays.f k2 t127 t131).bind fun t138 => (some t138)) else (some false)) else (some false)))) = some r := by rw [if_pos rfl] at H; exact H
           clear H
           have H := H1
           clear H1
           by_cases c57 : x9_2 = true
           ·subst c57
            have H1 : (if t130 = true then ((laws_ovWays.f k2 t127 t131).bind fun t136 => (some t136)) else (some false)) = some r := by rw [if_pos rfl] at H; exact H
            clear H
            have H := H1
            clear H1
            by_cases c58 : t130 = true
            ·subst c58
             have H1 : ((laws_ovWays.f k2 t127 t131).bind fun t136 => (some t136)) = some r := by rw [if_pos rfl] at H; exact H
             clear H
             have H := H1
             clear H1
             replace H := Option.bind_eq_some_iff.mp H
             obtain ⟨t136, A590, H⟩ := H
             replace H : (some t136) = some r := H
             have A59 := Aside0.mk A590
             clear A590
             obtain rfl := Option.some.inj H
             obtain ⟨hcz60_0, hcz60_1, hcz60_2, hfz60_0⟩ := y3 wr BK107.out
             obtain ⟨Ao61, co61, eo61⟩ := Kd.R_slice HO_5.out
             subst eo61
             try go_wp2_with (first | ((with_reducible refine gate_callee (f := 65) rfl ?_); refine goesL_ (some 110) rfl rfl Try.func65 (by kernel_rfl) rfl #[.slice Ao61 t108.length co61, .agg #[.int .i64 t104, .int .i64 t105]] rfl MT ?_; (with_reducible refine (impl_WaysGone.calls k2 _ _ t108 t104 t105 t127 true _ ?side1 ?side2 A52.out).mono ?_); (case side1 => exact KC (Kd.R_reads' HO_5.out).2.2); (case side2 => exact (Kd.R_reads' HO_5.out).2.1); rintro e w62 ⟨v128, rfl, ho0, hb⟩; refine ⟨_, rfl, ?_⟩; have HO129 := am (Kd.R_lower (Kd.R_newB (Kd.R_new' (Kd.R_new' ho0 (Kd.R_lt (KR HO_3))) (Kd.R_lt (KR HO_5))) (g := gb107) (o := .cells #[.int .i64 t104, .int .i64 t105, .int .i64 t106] 86 (0, 0)) (KB BK107)) (below_size (K1 HB GE107.out))); replace HO_3 := am (Kd.R_elder' (KR HO_3) (Kd.R_base ho0) hb); replace HO_5 := am (Kd.R_elder' (KR HO_5) (Kd.R_base ho0) hb); replace BK107 := am (BB BK107 hb); replace HB := am (below_step (K1 HB GE107.out) hb); (try clear hb); (try clear hb2); (try clear hk); (try clear hi); (try clear ho0); obtain ⟨hcz63_0, hcz63_1, hcz63_2, hfz63_0⟩ := y3 w62 BK107.out) | ((with_reducible refine gate_callee (f := 65) rfl ?_); refine goesL_ (some 117) rfl rfl Try.func65 (by kernel_rfl) rfl #[.slice Ao10 t101.length co10, .agg #[.int .i64 t104, .int .i64 t105]] rfl MT ?_; (with_reducible refine (impl_WaysGone.calls k2 _ _ t101 t104 t105 t131 true _ ?side1 ?side2 A53.out).mono ?_); (case side1 => exact KC (Kd.R_reads' HO_3.out).2.2); (case side2 => exact (Kd.R_reads' HO_3.out).2.1); rintro e w64 ⟨v132, rfl, ho0, hb⟩; refine ⟨_, rfl, ?_⟩; have HO133 := am (Kd.R_lower (Kd.R_newB (Kd.R_new' (Kd.R_new' (Kd.R_new' ho0 (Kd.R_lt (KR HO_3))) (Kd.R_lt (KR HO_5))) (Kd.R_lt (KR HO129))) (g := gb107) (o := .cells #[.int .i64 t104, .int .i64 t105, .int .i64 t106] 86 (0, 0)) (KB BK107)) (below_size (K1 HB GE107.out))); replace HO_3 := am (Kd.R_elder' (KR HO_3) (Kd.R_base ho0) hb); replace HO_5 := am (Kd.R_elder' (KR HO_5) (Kd.R_base ho0) hb); replace HO129 := am (Kd.R_elder' (KR HO129) (Kd.R_base ho0) hb); replace BK107 := am (BB BK107 hb); replace HB := am (below_step (K1 HB GE107.out) hb); (try clear hb); (try clear hb2); (try clear hk); (try clear hi); (try clear ho0)))
             replace HO_3 := am (Kd.R_drew HO_3.out)
             replace HO_5 := am (Kd.R_drew HO_5.out)
             replace HO129 := am (Kd.R_drew HO129.out)
             replace HO133 := am (Kd.R_drew HO133.out)
             replace BK107 := am (blk_drew BK107.out)
             replace HB := am (below_drew1 HB.out)
             refine start_ (n := 24) (S := fun w' => True) (ds := []) (tf 0 24) (by kernel_rfl) rfl rfl trivial (fun hHeld => ?_); refine with_tabW laws_FnWaysPut.tab19 laws_FnWaysPut.bits19 (fun HT_ HW_ => ?_)
             generalize w64.drew = w65 at HO_3 HO_5 HO129 HO133 BK107 HB hHeld ⊢
             refine pv HT_ 0 123 (tf 1 23) ?_
             refine one_ (i := 1) (N := some 124) (tf 2 22) rfl rfl (one_of HT_.out (by kernel_rfl)) (by decide) (fun K hK => ?_)
             refine goes_ Try.func63 (by kernel_rfl) rfl #[.slice Ao61 t108.length co61] (by rfl) rfl rfl MT ?_
             with_reducible refine (impl_WaysOk.calls k2 _ _ t108 true _ ?side1 ?side2 A55.out).mono ?_
             (case side1 => exact KC (Kd.R_reads' HO_5.out).2.2)
             (case side2 => exact (Kd.R_reads' HO_5.out).2.1)
             rintro e w66 ⟨rfl, hb⟩
             refine ⟨_, rfl, ?_⟩
             replace HO_3 := am (Kd.R_below (KR HO_3) hb)
             replace HO_5 := am (Kd.R_below (KR HO_5) hb)
             replace HO129 := am (Kd.R_below (KR HO129) hb)
             replace HO133 := am (Kd.R_below (KR HO133) hb)
             replace BK107 := am (BB BK107 hb)
             replace HB := am (below_step (K1 HB GE107.out) hb)
             (try clear hb)
             (try clear hb2)
             (try clear hk)
             (try clear hi)
             obtain ⟨Ao67, co67, eo67⟩ := Kd.R_slice HO129.out
             (first | subst eo67 | (injection eo67 with f1_ f2_ f3_; have f4_ := f1_.symm; have f5_ := f3_.symm; clear f1_ f2_ f3_; subst f4_; subst f5_))
             obtain ⟨Ao68, co68, eo68⟩ := Kd.R_slice HO133.out
             (first | subst eo68 | (injection eo68 with f1_ f2_ f3_; have f4_ := f1_.symm; have f5_ := f3_.symm; clear f1_ f2_ f3_; subst f4_; subst f5_))
             refine hK.out _ _ trivial (fun hHeld => ?_)
             clear hK K
             refine norm_ (a' := ?_) ?_ ?_
             rotate_left
             ·show Act.put _ (some 124) _ = _
              simp only [Act.put, List.setIfInBounds_toArray, List.set_cons_zero, List.set_cons_succ, i64_w, i32_w]
              rfl
             refine pv HT_ 2 125 (tf 3 21) ?_
             refine pv HT_ 3 126 (tf 4 20) ?_
             refine pv HT_ 4 127 (tf 5 19) ?_
             refine pw HT_ 5 128 (tf 6 18) ?_
             refine pw HT_ 6 129 (tf 7 17) ?_
             refine pw HT_ 7 130 (tf 8 16) ?_
             refine pw HT_ 8 131 (tf 9 15) ?_
             refine pw HT_ 9 132 (tf 10 14) ?_
             refine pw HT_ 10 133 (tf 11 13) ?_
             refine pw HT_ 11 134 (tf 12 12) ?_
             refine pw HT_ 12 135 (tf 13 11) ?_
             refine pv HT_ 13 136 (tf 14 10) ?_
             refine pv HT_ 14 137 (tf 15 9) ?_
             refine pv HT_ 15 138 (tf 16 8) ?_
             refine pv HT_ 16 139 (tf 17 7) ?_
             refine pv HT_ 17 140 (tf 18 6) ?_
             refine pv HT_ 18 141 (tf 19 5) ?_
             refine pv HT_ 19 142 (tf 20 4) ?_
             refine pv HT_ 20 143 (tf 21 3) ?_
             refine one_ (i := 21) (N := some 144) (tf 22 2) rfl rfl (one_of HT_.out (by kernel_rfl)) (by decide) (fun K hK => ?_)
             refine goes_ Try.func61 (by kernel_rfl) rfl #[.slice Ao67 t127.length co67, .slice Ao68 t131.length co68] (by rfl) rfl rfl MT ?_
             with_reducible refine (laws_ovWays.calls k2 _ _ t127 _ _ t131 t136 _ ?side1 ?side2 ?side3 ?side4 A59.out).mono ?_
             (case side1 => exact KC (Kd.R_reads' HO129.out).2.2)
             (case side2 => exact (Kd.R_reads' HO129.out).2.1)
             (case side3 => exact KC (Kd.R_reads' HO133.out).2.2)
             (case side4 => exact (Kd.R_reads' HO133.out).2.1)
             rintro e w' ⟨rfl, ⟨nd, rfl⟩⟩
             refine ⟨_, rfl, ?_⟩
             refine hK.out _ _ trivial (fun hHeld => ?_)
             clear hK K
             refine norm_ (a' := ?_) ?_ ?_
             rotate_left
             ·show Act.put _ (some 144) _ = _
              simp only [Act.put, List.setIfInBounds_toArray, List.set_cons_zero, List.set_cons_succ, i64_w, i32_w]
              rfl
             refine pv HT_ 22 145 (tf 23 1) ?_
             refine pv HT_ 23 2 (tf 24 0) ?_
             refine done_ (done_of HT_.out (by kernel_rfl)) ?_
             try go_wp2
             go_ret
             exact ⟨ER, K1 HB GE107.out⟩
            ·replace c58 := Bool.eq_false_iff.mpr c58
             subst c58
             have H1 : (some false) = some r := by rw [if_neg (show ¬ (false = true) by decide)] at H; exact H
             clear H
             have H := H1
             clear H1
             exact absurd ((Option.some.inj H).trans HR_.out) (by decide)
           ·replace c57 := Bool.eq_false_iff.mpr c57
            subst c57
            have H1 : ((impl_WaysLead.f k2 t108 t104).bind fun t137 => (if t137 = t106 then (if t130 = true then ((laws_ovWays.f k2 t127 t131).bind fun t138 => (some t138)) else (some false)) else (some false))) = some r := by rw [if_neg (show ¬ (false = true) by decide)] at H; exact H
            clear H
            have H := H1
            clear H1
            replace H := Option.bind_eq_some_iff.mp H
            obtain ⟨t137, A690, H⟩ := H
            replace H : (if t137 = t106 then (if t130 = true then ((laws_ovWays.f k2 t127 t131).bind fun t138 => (some t138)) else (some false)) else (some false)) = some r := H
            have A69 := Aside0.mk A690
            clear A690
            by_cases c70 : t137 = t106
            ·rw [if_pos c70] at H
             have c70b0 : (t137 == t106) = true := beq_iff_eq.mpr c70
             have c70b1 : (t137 != t106) = false := bne_eq_false_iff_eq.mpr c70
             clear c70
             by_cases c71 : t130 = true
             ·subst c71
              have H1 : ((laws_ovWays.f k2 t127 t131).bind fun t138 => (some t138)) = some r := by rw [if_pos rfl] at H; exact H
              clear H
              have H := H1
              clear H1
              replace H := Option.bind_eq_some_iff.mp H
              obtain ⟨t138, A720, H⟩ := H
              replace H : (some t138) = some r := H
              have A72 := Aside0.mk A720
              clear A720
              obtain rfl := Option.some.inj H
              obtain ⟨hcz73_0, hcz73_1, hcz73_2, hfz73_0⟩ := y3 wr BK107.out
              obtain ⟨Ao74, co74, eo74⟩ := Kd.R_slice HO_5.out
              subst eo74
              try go_wp2_with (first | ((with_reducible refine gate_callee (f := 65) rfl ?_); refine goesL_ (some 110) rfl rfl Try.func65 (by kernel_rfl) rfl #[.slice Ao74 t108.length co74, .agg #[.int .i64 t104, .int .i64 t105]] rfl MT ?_; (with_reducible refine (impl_WaysGone.calls k2 _ _ t108 t104 t105 t127 true _ ?side1 ?side2 A52.out).mono ?_); (case side1 => exact KC (Kd.R_reads' HO_5.out).2.2); (case side2 => exact (Kd.R_reads' HO_5.out).2.1); rintro e w75 ⟨v128, rfl, ho0, hb⟩; refine ⟨_, rfl, ?_⟩; have HO129 := am (Kd.R_lower (Kd.R_newB (Kd.R_new' (Kd.R_new' ho0 (Kd.R_lt (KR HO_3))) (Kd.R_lt (KR HO_5))) (g := gb107) (o := .cells #[.int .i64 t104, .int .i64 t105, .int .i64 t106] 86 (0, 0)) (KB BK107)) (below_size (K1 HB GE107.out))); replace HO_3 := am (Kd.R_elder' (KR HO_3) (Kd.R_base ho0) hb); replace HO_5 := am (Kd.R_elder' (KR HO_5) (Kd.R_base ho0) hb); replace BK107 := am (BB BK107 hb); replace HB := am (below_step (K1 HB GE107.out) hb); (try clear hb); (try clear hb2); (try clear hk); (try clear hi); (try clear ho0); obtain ⟨hcz76_0, hcz76_1, hcz76_2, hfz76_0⟩ := y3 w75 BK107.out) | ((with_reducible refine gate_callee (f := 65) rfl ?_); refine goesL_ (some 117) rfl rfl Try.func65 (by kernel_rfl) rfl #[.slice Ao10 t101.length co10, .agg #[.int .i64 t104, .int .i64 t105]] rfl MT ?_; (with_reducible refine (impl_WaysGone.calls k2 _ _ t101 t104 t105 t131 true _ ?side1 ?side2 A53.out).mono ?_); (case side1 => exact KC (Kd.R_reads' HO_3.out).2.2); (case side2 => exact (Kd.R_reads' HO_3.out).2.1); rintro e w77 ⟨v132, rfl, ho0, hb⟩; refine ⟨_, rfl, ?_⟩; have HO133 := am (Kd.R_lower (Kd.R_newB (Kd.R_new' (Kd.R_new' (Kd.R_new' ho0 (Kd.R_lt (KR HO_3))) (Kd.R_lt (KR HO_5))) (Kd.R_lt (KR HO129))) (g := gb107) (o := .cells #[.int .i64 t104, .int .i64 t105, .int .i64 t106] 86 (0, 0)) (KB BK107)) (below_size (K1 HB GE107.out))); replace HO_3 := am (Kd.R_elder' (KR HO_3) (Kd.R_base ho0) hb); replace HO_5 := am (Kd.R_elder' (KR HO_5) (Kd.R_base ho0) hb); replace HO129 := am (Kd.R_elder' (KR HO129) (Kd.R_base ho0) hb); replace BK107 := am (BB BK107 hb); replace HB := am (below_step (K1 HB GE107.out) hb); (try clear hb); (try clear hb2); (try clear hk); (try clear hi); (try clear ho0)))
              replace HO_3 := am (Kd.R_drew HO_3.out)
              replace HO_5 := am (Kd.R_drew HO_5.out)
              replace HO129 := am (Kd.R_drew HO129.out)
              replace HO133 := am (Kd.R_drew HO133.out)
              replace BK107 := am (blk_drew BK107.out)
              replace HB := am (below_drew1 HB.out)
              refine start_ (n := 24) (S := fun w' => de3 w' gb107 (.int .i64 t104) (.int .i64 t105) (.int .i64 t106)) (ds := []) (tf 0 24) (by kernel_rfl) rfl rfl ⟨z0 _ BK107.out, z1 _ BK107.out, z2 _ BK107.out⟩ (fun hHeld => ?_); refine with_tabW laws_FnWaysPut.tab19 laws_FnWaysPut.bits19 (fun HT_ HW_ => ?_)
              generalize w77.drew = w78 at HO_3 HO_5 HO129 HO133 BK107 HB hHeld ⊢
              refine pv HT_ 0 123 (tf 1 23) ?_
              refine one_ (i := 1) (N := some 124) (tf 2 22) rfl rfl (one_of HT_.out (by kernel_rfl)) (by decide) (fun K hK => ?_)
              refine goes_ Try.func63 (by kernel_rfl) rfl #[.slice Ao74 t108.length co74] (by rfl) rfl rfl MT ?_
              with_reducible refine (impl_WaysOk.calls k2 _ _ t108 true _ ?side1 ?side2 A55.out).mono ?_
              (case side1 => exact KC (Kd.R_reads' HO_5.out).2.2)
              (case side2 => exact (Kd.R_reads' HO_5.out).2.1)
              rintro e w79 ⟨rfl, hb⟩
              refine ⟨_, rfl, ?_⟩
              replace HO_3 := am (Kd.R_below (KR HO_3) hb)
              replace HO_5 := am (Kd.R_below (KR HO_5) hb)
              replace HO129 := am (Kd.R_below (KR HO129) hb)
              replace HO133 := am (Kd.R_below (KR HO133) hb)
              replace BK107 := am (BB BK107 hb)
              replace HB := am (below_step (K1 HB GE107.out) hb)
              (try clear hb)
              (try clear hb2)
              (try clear hk)
              (try clear hi)
              refine hK.out _ _ ⟨z0 _ BK107.out, z1 _ BK107.out, z2 _ BK107.out⟩ (fun hHeld => ?_)
              clear hK K
              refine norm_ (a' := ?_) ?_ ?_
              rotate_left
              ·show Act.put _ (some 124) _ = _
               simp only [Act.put, List.setIfInBounds_toArray, List.set_cons_zero, List.set_cons_succ, i64_w, i32_w]
               rfl
              refine pv HT_ 2 125 (tf 3 21) ?_
              refine pv HT_ 3 126 (tf 4 20) ?_
              refine pv HT_ 4 127 (tf 5 19) ?_
              refine pv HT_ 5 128 (tf 6 18) ?_
              refine pv HT_ 6 129 (tf 7 17) ?_
              refine pv HT_ 7 130 (tf 8 16) ?_
              refine pv HT_ 10 133 (tr [8, 2, 1, 13]) ?_
              refine tk 8 (some 131) (tr [9, 1, 1, 13]) (take_ofW HT_.out HW_.out (by kernel_rfl)) hHeld ?_
              refine tk 11 (some 134) (tr [9, 1, 2, 12]) (take_ofW HT_.out HW_.out (by kernel_rfl)) hHeld ?_
              refine one_ (i := 9) (N := some 132) (tf 12 12) rfl rfl (one_of HT_.out (by kernel_rfl)) (by decide) (fun K hK => ?_)
              refine goes_ Try.func56 (by kernel_rfl) rfl #[.slice Ao74 t108.length co74, .int .i64 t104] (by rfl) rfl rfl MT ?_
              with_reducible refine (impl_WaysLead.calls k2 _ _ t108 t104 t137 _ ?side1 ?side2 A69.out).mono ?_
              (case side1 => exact KC (Kd.R_reads' HO_5.out).2.2)
              (case side2 => exact (Kd.R_reads' HO_5.out).2.1)
              rintro e w80 ⟨rfl, hb⟩
              refine ⟨_, rfl, ?_⟩
              replace HO_3 := am (Kd.R_below (KR HO_3) hb)
              replace HO_5 := am (Kd.R_below (KR HO_5) hb)
              replace HO129 := am (Kd.R_below (KR HO129) hb)
              replace HO133 := am (Kd.R_below (KR HO133) hb)
              replace BK107 := am (BB BK107 hb)
              replace HB := am (below_step (K1 HB GE107.out) hb)
              (try clear hb)
              (try clear hb2)
              (try clear hk)
              (try clear hi)
              obtain ⟨Ao81, co81, eo81⟩ := Kd.R_slice HO129.out
              (first | subst eo81 | (injection eo81 with f1_ f2_ f3_; have f4_ := f1_.symm; have f5_ := f3_.symm; clear f1_ f2_ f3_; subst f4_; subst f5_))
              obtain ⟨Ao82, co82, eo82⟩ := Kd.R_slice HO133.out
              (first | subst eo82 | (injection eo82 with f1_ f2_ f3_; have f4_ := f1_.symm; have f5_ := f3_.symm; clear f1_ f2_ f3_; subst f4_; subst f5_))
              refine hK.out _ _ ⟨z0 _ BK107.out, z1 _ BK107.out, z2 _ BK107.out⟩ (fun hHeld => ?_)
              clear hK K
              refine norm_ (a' := ?_) ?_ ?_
              rotate_left
              ·show Act.put _ (some 132) _ = _
               simp only [Act.put, List.setIfInBounds_toArray, List.set_cons_zero, List.set_cons_succ, i64_w, i32_w]
               rfl
              refine pv HT_ 12 135 (tf 13 11) ?_
              refine pv HT_ 13 136 (tf 14 10) ?_
              refine pv HT_ 14 137 (tf 15 9) ?_
              refine pv HT_ 15 138 (tf 16 8) ?_
              refine pv HT_ 16 139 (tf 17 7) ?_
              refine pv HT_ 17 140 (tf 18 6) ?_
              refine pv HT_ 18 141 (tf 19 5) ?_
              refine pv HT_ 19 142 (tf 20 4) ?_
              refine pv HT_ 20 143 (tf 21 3) ?_
              refine one_ (i := 21) (N := some 144) (tf 22 2) rfl rfl (one_of HT_.out (by kernel_rfl)) (by decide) (fun K hK => ?_)
              refine goes_ Try.func61 (by kernel_rfl) rfl #[.slice Ao81 t127.length co81, .slice Ao82 t131.length co82] (by rfl) rfl rfl MT ?_
              with_reducible refine (laws_ovWays.calls k2 _ _ t127 _ _ t131 t138 _ ?side1 ?side2 ?side3 ?side4 A72.out).mono ?_
              (case side1 => exact KC (Kd.R_reads' HO129.out).2.2)
              (case side2 => exact (Kd.R_reads' HO129.out).2.1)
              (case side3 => exact KC (Kd.R_reads' HO133.out).2.2)
              (case side4 => exact (Kd.R_reads' HO133.out).2.1)
              rintro e w' ⟨rfl, ⟨nd, rfl⟩⟩
              refine ⟨_, rfl, ?_⟩
              refine hK.out _ _ ⟨z0 _ BK107.out, z1 _ BK107.out, z2 _ BK107.out⟩ (fun hHeld => ?_)
              clear hK K
              refine norm_ (a' := ?_) ?_ ?_
              rotate_left
              ·show Act.put _ (some 144) _ = _
               simp only [Act.put, List.setIfInBounds_toArray, List.set_cons_zero, List.set_cons_succ, i64_w, i32_w]
               rfl
              refine pv HT_ 22 145 (tf 23 1) ?_
              refine pv HT_ 23 2 (tf 24 0) ?_
              refine done_ (done_of HT_.out (by kernel_rfl)) ?_
              try go_wp2
              go_ret
              exact ⟨ER, K1 HB GE107.out⟩
             ·replace c71 := Bool.eq_false_iff.mpr c71
              subst c71
              have H1 : (some false) = some r := by rw [if_neg (show ¬ (false = true) by decide)] at H; exact H
              clear H
              have H := H1
              clear H1
              exact absurd ((Option.some.inj H).trans HR_.out) (by decide)
            ·rw [if_neg c70] at H
             have c70b0 : (t137 == t106) = false := beq_eq_false_iff_ne.mpr c70
             have c70b1 : (t137 != t106) = true := bne_iff_ne.mpr c70
             exact absurd ((Option.some.inj H).trans HR_.out) (by decide)
          ·replace c56 := Bool.eq_false_iff.mpr c56
           subst c56
           have H1 : (some false) = some r := by rw [if_neg (show ¬ (false = true) by decide)] at H; exact H
           clear H
           have H := H1
           clear H1
           exact absurd ((Option.some.inj H).trans HR_.out) (by decide)
         ·replace c54 := Bool.eq_false_iff.mpr c54
          subst c54
          have H1 : ((impl_WaysOk.f k2 t108).bind fun t139 => (if t139 = true then (if x9_2 = true then (if t130 = true then ((laws_ovWays.f k2 t127 t101).bind fun t140 => (some t140)) else (some false)) else ((impl_WaysLead.f k2 t108 t104).bind fun t141 => (if t141 = t106 then (if t130 = true then ((laws_ovWays.f k2 t127 t101).bind fun t142 => (some t142)) else (some false)) else (some false)))) else (some false))) = some r := by rw [if_neg (show ¬ (false = true) by decide)] at H; exact H
          clear H
          have H := H1
          clear H1
          replace H := Option.bind_eq_some_iff.mp H
          obtain ⟨t139, A830, H⟩ := H
          replace H : (if t139 = true then (if x9_2 = true then (if t130 = true then ((laws_ovWays.f k2 t127 t101).bind fun t140 => (some t140)) else (some false)) else ((impl_WaysLead.f k2 t108 t104).bind fun t141 => (if t141 = t106 then (if t130 = true then ((laws_ovWays.f k2 t127 t101).bind fun t142 => (some t142)) else (some false)) else (some false)))) else (some false)) = some r := H
          have A83 := Aside0.mk A830
          clear A830
          by_cases c84 : t139 = true
          ·subst c84
           have H1 : (if x9_2 = true then (if t130 = true then ((laws_ovWays.f k2 t127 t101).bind fun t140 => (some t140)) else (some false)) else ((impl_WaysLead.f k2 t108 t104).bind fun t141 => (if t141 = t106 then (if t130 = true then ((laws_ovWays.f k2 t127 t101).bind fun t142 => (some t142)) else (some false)) else (some false)))) = some r := by rw [if_pos rfl] at H; exact H
           clear H
           have H := H1
           clear H1
           by_cases c85 : x9_2 = true
           ·subst c85
            have H1 : (if t130 = true then ((laws_ovWays.f k2 t127 t101).bind fun t140 => (some t140)) else (some false)) = some r := by rw [if_pos rfl] at H; exact H
            clear H
            have H := H1
            clear H1
            by_cases c86 : t130 = true
            ·subst c86
             have H1 : ((laws_ovWays.f k2 t127 t101).bind fun t140 => (some t140)) = some r := by rw [if_pos rfl] at H; exact H
             clear H
             have H := H1
             clear H1
             replace H := Option.bind_eq_some_iff.mp H
             obtain ⟨t140, A870, H⟩ := H
             replace H : (some t140) = some r := H
             have A87 := Aside0.mk A870
             clear A870
             obtain rfl := Option.some.inj H
             obtain ⟨hcz88_0, hcz88_1, hcz88_2, hfz88_0⟩ := y3 wr BK107.out
             obtain ⟨Ao89, co89, eo89⟩ := Kd.R_slice HO_5.out
             subst eo89
             try go_wp2_with (first | ((with_reducible refine gate_callee (f := 65) rfl ?_); refine goesL_ (some 110) rfl rfl Try.func65 (by kernel_rfl) rfl #[.slice Ao89 t108.length co89, .agg #[.int .i64 t104, .int .i64 t105]] rfl MT ?_; (with_reducible refine (impl_WaysGone.calls k2 _ _ t108 t104 t105 t127 true _ ?side1 ?side2 A52.out).mono ?_); (case side1 => exact KC (Kd.R_reads' HO_5.out).2.2); (case side2 => exact (Kd.R_reads' HO_5.out).2.1); rintro e w90 ⟨v128, rfl, ho0, hb⟩; refine ⟨_, rfl, ?_⟩; have HO129 := am (Kd.R_lower (Kd.R_newB (Kd.R_new' (Kd.R_new' ho0 (Kd.R_lt (KR HO_3))) (Kd.R_lt (KR HO_5))) (g := gb107) (o := .cells #[.int .i64 t104, .int .i64 t105, .int .i64 t106] 86 (0, 0)) (KB BK107)) (below_size (K1 HB GE107.out))); replace HO_3 := am (Kd.R_elder' (KR HO_3) (Kd.R_base ho0) hb); replace HO_5 := am (Kd.R_elder' (KR HO_5) (Kd.R_base ho0) hb); replace BK107 := am (BB BK107 hb); replace HB := am (below_step (K1 HB GE107.out) hb); (try clear hb); (try clear hb2); (try clear hk); (try clear hi); (try clear ho0); obtain ⟨hcz91_0, hcz91_1, hcz91_2, hfz91_0⟩ := y3 w90 BK107.out) | ((with_reducible refine gate_callee (f := 65) rfl ?_); refine goesL_ (some 117) rfl rfl Try.func65 (by kernel_rfl) rfl #[.slice Ao10 t101.length co10, .agg #[.int .i64 t104, .int .i64 t105]] rfl MT ?_; (with_reducible refine (impl_WaysGone.calls k2 _ _ t101 t104 t105 t131 false _ ?side1 ?side2 A53.out).mono ?_); (case side1 => exact KC (Kd.R_reads' HO_3.out).2.2); (case side2 => exact (Kd.R_reads' HO_3.out).2.1); rintro e w92 ⟨v132, rfl, ho0, hb⟩; refine ⟨_, rfl, ?_⟩; have HO133 := am (Kd.R_lower (Kd.R_newB (Kd.R_new' (Kd.R_new' (Kd.R_new' ho0 (Kd.R_lt (KR HO_3))) (Kd.R_lt (KR HO_5))) (Kd.R_lt (KR HO129))) (g := gb107) (o := .cells #[.int .i64 t104, .int .i64 t105, .int .i64 t106] 86 (0, 0)) (KB BK107)) (below_size (K1 HB GE107.out))); replace HO_3 := am (Kd.R_elder' (KR HO_3) (Kd.R_base ho0) hb); replace HO_5 := am (Kd.R_elder' (KR HO_5) (Kd.R_base ho0) hb); replace HO129 := am (Kd.R_elder' (KR HO129) (Kd.R_base ho0) hb); replace BK107 := am (BB BK107 hb); replace HB := am (below_step (K1 HB GE107.out) hb); (try clear hb); (try clear hb2); (try clear hk); (try clear hi); (try clear ho0)))
             replace HO_3 := am (Kd.R_drew HO_3.out)
             replace HO_5 := am (Kd.R_drew HO_5.out)
             replace HO129 := am (Kd.R_drew HO129.out)
             replace HO133 := am (Kd.R_drew HO133.out)
             replace BK107 := am (blk_drew BK107.out)
             replace HB := am (below_drew1 HB.out)
             refine start_ (n := 24) (S := fun w' => True) (ds := []) (tf 0 24) (by kernel_rfl) rfl rfl trivial (fun hHeld => ?_); refine with_tabW laws_FnWaysPut.tab19 laws_FnWaysPut.bits19 (fun HT_ HW_ => ?_)
             generalize w92.drew = w93 at HO_3 HO_5 HO129 HO133 BK107 HB hHeld ⊢
             refine pv HT_ 0 123 (tf 1 23) ?_
             refine one_ (i := 1) (N := some 124) (tf 2 22) rfl rfl (one_of HT_.out (by kernel_rfl)) (by decide) (fun K hK => ?_)
             refine goes_ Try.func63 (by kernel_rfl) rfl #[.slice Ao89 t108.length co89] (by rfl) rfl rfl MT ?_
             with_reducible refine (impl_WaysOk.calls k2 _ _ t108 true _ ?side1 ?side2 A83.out).mono ?_
             (case side1 => exact KC (Kd.R_reads' HO_5.out).2.2)
             (case side2 => exact (Kd.R_reads' HO_5.out).2.1)
             rintro e w94 ⟨rfl, hb⟩
             refine ⟨_, rfl, ?_⟩
             replace HO_3 := am (Kd.R_below (KR HO_3) hb)
             replace HO_5 := am (Kd.R_below (KR HO_5) hb)
             replace HO129 := am (Kd.R_below (KR HO129) hb)
             replace HO133 := am (Kd.R_below (KR HO133) hb)
             replace BK107 := am (BB BK107 hb)
             replace HB := am (below_step (K1 HB GE107.out) hb)
             (try clear hb)
             (try clear hb2)
             (try clear hk)
             (try clear hi)
             obtain ⟨Ao95, co95, eo95⟩ := Kd.R_slice HO129.out
             (first | subst eo95 | (injection eo95 with f1_ f2_ f3_; have f4_ := f1_.symm; have f5_ := f3_.symm; clear f1_ f2_ f3_; subst f4_; subst f5_))
             refine hK.out _ _ trivial (fun hHeld => ?_)
             clear hK K
             refine norm_ (a' := ?_) ?_ ?_
             rotate_left
             ·show Act.put _ (some 124) _ = _
              simp only [Act.put, List.setIfInBounds_toArray, List.set_cons_zero, List.set_cons_succ, i64_w, i32_w]
              rfl
             refine pv HT_ 2 125 (tf 3 21) ?_
             refine pv HT_ 3 126 (tf 4 20) ?_
             refine pv HT_ 4 127 (tf 5 19) ?_
             refine pw HT_ 5 128 (tf 6 18) ?_
             refine pw HT_ 6 129 (tf 7 17) ?_
             refine pw HT_ 7 130 (tf 8 16) ?_
             refine pw HT_ 8 131 (tf 9 15) ?_
             refine pw HT_ 9 132 (tf 10 14) ?_
             refine pw HT_ 10 133 (tf 11 13) ?_
             refine pw HT_ 11 134 (tf 12 12) ?_
             refine pw HT_ 12 135 (tf 13 11) ?_
             refine pv HT_ 13 136 (tf 14 10) ?_
             refine pv HT_ 14 137 (tf 15 9) ?_
             refine pv HT_ 15 138 (tf 16 8) ?_
             refine pv HT_ 16 139 (tf 17 7) ?_
             refine pv HT_ 17 140 (tf 18 6) ?_
             refine pv HT_ 18 141 (tf 19 5) ?_
             refine pv HT_ 19 142 (tf 20 4) ?_
             refine pv HT_ 20 143 (tf 21 3) ?_
             refine one_ (i := 21) (N := some 144) (tf 22 2) rfl rfl (one_of HT_.out (by kernel_rfl)) (by decide) (fun K hK => ?_)
             refine goes_ Try.func61 (by kernel_rfl) rfl #[.slice Ao95 t127.length co95, .slice Ao10 t101.length co10] (by rfl) rfl rfl MT ?_
             with_reducible refine (laws_ovWays.calls k2 _ _ t127 _ _ t101 t140 _ ?side1 ?side2 ?side3 ?side4 A87.out).mono ?_
             (case side1 => exact KC (Kd.R_reads' HO129.out).2.2)
             (case side2 => exact (Kd.R_reads' HO129.out).2.1)
             (case side3 => exact KC (Kd.R_reads' HO_3.out).2.2)
             (case side4 => exact (Kd.R_reads' HO_3.out).2.1)
             rintro e w' ⟨rfl, ⟨nd, rfl⟩⟩
             refine ⟨_, rfl, ?_⟩
             refine hK.out _ _ trivial (fun hHeld => ?_)
             clear hK K
             refine norm_ (a' := ?_) ?_ ?_
             rotate_left
             ·show Act.put _ (some 144) _ = _
              simp only [Act.put, List.setIfInBounds_toArray, List.set_cons_zero, List.set_cons_succ, i64_w, i32_w]
              rfl
             refine pv HT_ 22 145 (tf 23 1) ?_
             refine pv HT_ 23 2 (tf 24 0) ?_
             refine done_ (done_of HT_.out (by kernel_rfl)) ?_
             try go_wp2
             go_ret
             exact ⟨ER, K1 HB GE107.out⟩
            ·replace c86 := Bool.eq_false_iff.mpr c86
             subst c86
             have H1 : (some false) = some r := by rw [if_neg (show ¬ (false = true) by decide)] at H; exact H
             clear H
             have H := H1
             clear H1
             exact absurd ((Option.some.inj H).trans HR_.out) (by decide)
           ·replace c85 := Bool.eq_false_iff.mpr c85
            subst c85
            have H1 : ((impl_WaysLead.f k2 t108 t104).bind fun t141 => (if t141 = t106 then (if t130 = true then ((laws_ovWays.f k2 t127 t101).bind fun t142 => (some t142)) else (some false)) else (some false))) = some r := by rw [if_neg (show ¬ (false = true) by decide)] at H; exact H
            clear H
            have H := H1
            clear H1
            replace H := Option.bind_eq_some_iff.mp H
            obtain ⟨t141, A960, H⟩ := H
            replace H : (if t141 = t106 then (if t130 = true then ((laws_ovWays.f k2 t127 t101).bind fun t142 => (some t142)) else (some false)) else (some false)) = some r := H
            have A96 := Aside0.mk A960
            clear A960
            by_cases c97 : t141 = t106
            ·rw [if_pos c97] at H
             have c97b0 : (t141 == t106) = true := beq_iff_eq.mpr c97
             have c97b1 : (t141 != t106) = false := bne_eq_false_iff_eq.mpr c97
             clear c97
             by_cases c98 : t130 = true
             ·subst c98
              have H1 : ((laws_ovWays.f k2 t127 t101).bind fun t142 => (some t142)) = some r := by rw [if_pos rfl] at H; exact H
              clear H
              have H := H1
              clear H1
              replace H := Option.bind_eq_some_iff.mp H
              obtain ⟨t142, A990, H⟩ := H
              replace H : (some t142) = some r := H
              have A99 := Aside0.mk A990
              clear A990
              obtain rfl := Option.some.inj H
              obtain ⟨hcz100_0, hcz100_1, hcz100_2, hfz100_0⟩ := y3 wr BK107.out
              obtain ⟨Ao101, co101, eo101⟩ := Kd.R_slice HO_5.out
              subst eo101
              try go_wp2_with (first | ((with_reducible refine gate_callee (f := 65) rfl ?_); refine goesL_ (some 110) rfl rfl Try.func65 (by kernel_rfl) rfl #[.slice Ao101 t108.length co101, .agg #[.int .i64 t104, .int .i64 t105]] rfl MT ?_; (with_reducible refine (impl_WaysGone.calls k2 _ _ t108 t104 t105 t127 true _ ?side1 ?side2 A52.out).mono ?_); (case side1 => exact KC (Kd.R_reads' HO_5.out).2.2); (case side2 => exact (Kd.R_reads' HO_5.out).2.1); rintro e w102 ⟨v128, rfl, ho0, hb⟩; refine ⟨_, rfl, ?_⟩; have HO129 := am (Kd.R_lower (Kd.R_newB (Kd.R_new' (Kd.R_new' ho0 (Kd.R_lt (KR HO_3))) (Kd.R_lt (KR HO_5))) (g := gb107) (o := .cells #[.int .i64 t104, .int .i64 t105, .int .i64 t106] 86 (0, 0)) (KB BK107)) (below_size (K1 HB GE107.out))); replace HO_3 := am (Kd.R_elder' (KR HO_3) (Kd.R_base ho0) hb); replace HO_5 := am (Kd.R_elder' (KR HO_5) (Kd.R_base ho0) hb); replace BK107 := am (BB BK107 hb); replace HB := am (below_step (K1 HB GE107.out) hb); (try clear hb); (try clear hb2); (try clear hk); (try clear hi); (try clear ho0); obtain ⟨hcz103_0, hcz103_1, hcz103_2, hfz103_0⟩ := y3 w102 BK107.out) | ((with_reducible refine gate_callee (f := 65) rfl ?_); refine goesL_ (some 117) rfl rfl Try.func65 (by kernel_rfl) rfl #[.slice Ao10 t101.length co10, .agg #[.int .i64 t104, .int .i64 t105]] rfl MT ?_; (with_reducible refine (impl_WaysGone.calls k2 _ _ t101 t104 t105 t131 false _ ?side1 ?side2 A53.out).mono ?_); (case side1 => exact KC (Kd.R_reads' HO_3.out).2.2); (case side2 => exact (Kd.R_reads' HO_3.out).2.1); rintro e w104 ⟨v132, rfl, ho0, hb⟩; refine ⟨_, rfl, ?_⟩; have HO133 := am (Kd.R_lower (Kd.R_newB (Kd.R_new' (Kd.R_new' (Kd.R_new' ho0 (Kd.R_lt (KR HO_3))) (Kd.R_lt (KR HO_5))) (Kd.R_lt (KR HO129))) (g := gb107) (o := .cells #[.int .i64 t104, .int .i64 t105, .int .i64 t106] 86 (0, 0)) (KB BK107)) (below_size (K1 HB GE107.out))); replace HO_3 := am (Kd.R_elder' (KR HO_3) (Kd.R_base ho0) hb); replace HO_5 := am (Kd.R_elder' (KR HO_5) (Kd.R_base ho0) hb); replace HO129 := am (Kd.R_elder' (KR HO129) (Kd.R_base ho0) hb); replace BK107 := am (BB BK107 hb); replace HB := am (below_step (K1 HB GE107.out) hb); (try clear hb); (try clear hb2); (try clear hk); (try clear hi); (try clear ho0)))
              replace HO_3 := am (Kd.R_drew HO_3.out)
              replace HO_5 := am (Kd.R_drew HO_5.out)
              replace HO129 := am (Kd.R_drew HO129.out)
              replace HO133 := am (Kd.R_drew HO133.out)
              replace BK107 := am (blk_drew BK107.out)
              replace HB := am (below_drew1 HB.out)
              refine start_ (n := 24) (S := fun w' => de3 w' gb107 (.int .i64 t104) (.int .i64 t105) (.int .i64 t106)) (ds := []) (tf 0 24) (by kernel_rfl) rfl rfl ⟨z0 _ BK107.out, z1 _ BK107.out, z2 _ BK107.out⟩ (fun hHeld => ?_); refine with_tabW laws_FnWaysPut.tab19 laws_FnWaysPut.bits19 (fun HT_ HW_ => ?_)
              generalize w104.drew = w105 at HO_3 HO_5 HO129 HO133 BK107 HB hHeld ⊢
              refine pv HT_ 0 123 (tf 1 23) ?_
              refine one_ (i := 1) (N := some 124) (tf 2 22) rfl rfl (one_of HT_.out (by kernel_rfl)) (by decide) (fun K hK => ?_)
              refine goes_ Try.func63 (by kernel_rfl) rfl #[.slice Ao101 t108.length co101] (by rfl) rfl rfl MT ?_
              with_reducible refine (impl_WaysOk.calls k2 _ _ t108 true _ ?side1 ?side2 A83.out).mono ?_
              (case side1 => exact KC (Kd.R_reads' HO_5.out).2.2)
              (case side2 => exact (Kd.R_reads' HO_5.out).2.1)
              rintro e w106 ⟨rfl, hb⟩
              refine ⟨_, rfl, ?_⟩
              replace HO_3 := am (Kd.R_below (KR HO_3) hb)
              replace HO_5 := am (Kd.R_below (KR HO_5) hb)
              replace HO129 := am (Kd.R_below (KR HO129) hb)
              replace HO133 := am (Kd.R_below (KR HO133) hb)
              replace BK107 := am (BB BK107 hb)
              replace HB := am (below_step (K1 HB GE107.out) hb)
              (try clear hb)
              (try clear hb2)
              (try clear hk)
              (try clear hi)
              refine hK.out _ _ ⟨z0 _ BK107.out, z1 _ BK107.out, z2 _ BK107.out⟩ (fun hHeld => ?_)
              clear hK K
              refine norm_ (a' := ?_) ?_ ?_
              rotate_left
              ·show Act.put _ (some 124) _ = _
               simp only [Act.put, List.setIfInBounds_toArray, List.set_cons_zero, List.set_cons_succ, i64_w, i32_w]
               rfl
              refine pv HT_ 2 125 (tf 3 21) ?_
              refine pv HT_ 3 126 (tf 4 20) ?_
              refine pv HT_ 4 127 (tf 5 19) ?_
              refine pv HT_ 5 128 (tf 6 18) ?_
              refine pv HT_ 6 129 (tf 7 17) ?_
              refine pv HT_ 7 130 (tf 8 16) ?_
              refine pv HT_ 10 133 (tr [8, 2, 1, 13]) ?_
              refine tk 8 (some 131) (tr [9, 1, 1, 13]) (take_ofW HT_.out HW_.out (by kernel_rfl)) hHeld ?_
              refine tk 11 (some 134) (tr [9, 1, 2, 12]) (take_ofW HT_.out HW_.out (by kernel_rfl)) hHeld ?_
              refine one_ (i := 9) (N := some 132) (tf 12 12) rfl rfl (one_of HT_.out (by kernel_rfl)) (by decide) (fun K hK => ?_)
              refine goes_ Try.func56 (by kernel_rfl) rfl #[.slice Ao101 t108.length co101, .int .i64 t104] (by rfl) rfl rfl MT ?_
              with_reducible refine (impl_WaysLead.calls k2 _ _ t108 t104 t141 _ ?side1 ?side2 A96.out).mono ?_
              (case side1 => exact KC (Kd.R_reads' HO_5.out).2.2)
              (case side2 => exact (Kd.R_reads' HO_5.out).2.1)
              rintro e w107 ⟨rfl, hb⟩
              refine ⟨_, rfl, ?_⟩
              replace HO_3 := am (Kd.R_below (KR HO_3) hb)
              replace HO_5 := am (Kd.R_below (KR HO_5) hb)
              replace HO129 := am (Kd.R_below (KR HO129) hb)
              replace HO133 := am (Kd.R_below (KR HO133) hb)
              replace BK107 := am (BB BK107 hb)
              replace HB := am (below_step (K1 HB GE107.out) hb)
              (try clear hb)
              (try clear hb2)
              (try clear hk)
              (try clear hi)
              obtain ⟨Ao108, co108, eo108⟩ := Kd.R_slice HO129.out
              (first | subst eo108 | (injection eo108 with f1_ f2_ f3_; have f4_ := f1_.symm; have f5_ := f3_.symm; clear f1_ f2_ f3_; subst f4_; subst f5_))
              refine hK.out _ _ ⟨z0 _ BK107.out, z1 _ BK107.out, z2 _ BK107.out⟩ (fun hHeld => ?_)
              clear hK K
              refine norm_ (a' := ?_) ?_ ?_
              rotate_left
              ·show Act.put _ (some 132) _ = _
               simp only [Act.put, List.setIfInBounds_toArray, List.set_cons_zero, List.set_cons_succ, i64_w, i32_w]
               rfl
              refine pv HT_ 12 135 (tf 13 11) ?_
              refine pv HT_ 13 136 (tf 14 10) ?_
              refine pv HT_ 14 137 (tf 15 9) ?_
              refine pv HT_ 15 138 (tf 16 8) ?_
              refine pv HT_ 16 139 (tf 17 7) ?_
              refine pv HT_ 17 140 (tf 18 6) ?_
              refine pv HT_ 18 141 (tf 19 5) ?_
              refine pv HT_ 19 142 (tf 20 4) ?_
              refine pv HT_ 20 143 (tf 21 3) ?_
              refine one_ (i := 21) (N := some 144) (tf 22 2) rfl rfl (one_of HT_.out (by kernel_rfl)) (by decide) (fun K hK => ?_)
              refine goes_ Try.func61 (by kernel_rfl) rfl #[.slice Ao108 t127.length co108, .slice Ao10 t101.length co10] (by rfl) rfl rfl MT ?_
              with_reducible refine (laws_ovWays.calls k2 _ _ t127 _ _ t101 t142 _ ?side1 ?side2 ?side3 ?side4 A99.out).mono ?_
              (case side1 => exact KC (Kd.R_reads' HO129.out).2.2)
              (case side2 => exact (Kd.R_reads' HO129.out).2.1)
              (case side3 => exact KC (Kd.R_reads' HO_3.out).2.2)
              (case side4 => exact (Kd.R_reads' HO_3.out).2.1)
              rintro e w' ⟨rfl, ⟨nd, rfl⟩⟩
              refine ⟨_, rfl, ?_⟩
              refine hK.out _ _ ⟨z0 _ BK107.out, z1 _ BK107.out, z2 _ BK107.out⟩ (fun hHeld => ?_)
              clear hK K
              refine norm_ (a' := ?_) ?_ ?_
              rotate_left
              ·show Act.put _ (some 144) _ = _
               simp only [Act.put, List.setIfInBounds_toArray, List.set_cons_zero, List.set_cons_succ, i64_w, i32_w]
               rfl
              refine pv HT_ 22 145 (tf 23 1) ?_
              refine pv HT_ 23 2 (tf 24 0) ?_
              refine done_ (done_of HT_.out (by kernel_rfl)) ?_
              try go_wp2
              go_ret
              exact ⟨ER, K1 HB GE107.out⟩
             ·replace c98 := Bool.eq_false_iff.mpr c98
              subst c98
              have H1 : (some false) = some r := by rw [if_neg (show ¬ (false = true) by decide)] at H; exact H
              clear H
              have H := H1
              clear H1
              exact absurd ((Option.some.inj H).trans HR_.out) (by decide)
            ·rw [if_neg c97] at H
             have c97b0 : (t141 == t106) = false := beq_eq_false_iff_ne.mpr c97
             have c97b1 : (t141 != t106) = true := bne_iff_ne.mpr c97
             exact absurd ((Option.some.inj H).trans HR_.out) (by decide)
          ·replace c84 := Bool.eq_false_iff.mpr c84
           subst c84
           have H1 : (some false) = some r := by rw [if_neg (show ¬ (false = true) by decide)] at H; exact H
           clear H
           have H := H1
           clear H1
           exact absurd ((Option.some.inj H).trans HR_.out) (by decide)
     ·replace c42 := Bool.eq_false_iff.mpr c42
      subst c42
      have H1 : ((laws_ovWays.f kj5 t108 t101).bind fun t123 => (some t123)) = some r := by rw [if_neg (show ¬ (false = true) by decide)] at H; exact H
      clear H
      have H := H1
      clear H1
      replace H := Option.bind_eq_some_iff.mp H
      obtain ⟨t123, A1090, H⟩ := H
      replace H : (some t123) = some r := H
      have A109 := Aside0.mk A1090
      clear A1090
      obtain rfl := Option.some.inj H
      obtain ⟨Ao110, co110, eo110⟩ := Kd.R_slice HO_5.out
      subst eo110
      go_wp2_with (first | ((with_reducible refine gate_callee (f := 61) rfl ?_); refine goesL_ (some 75) rfl rfl Try.func61 (by kernel_rfl) rfl #[.slice Ao110 t108.length co110, .slice Ao10 t101.length co10] rfl MT ?_; (with_reducible refine (laws_ovWays.calls kj5 _ _ t108 _ _ t101 t123 _ ?side1 ?side2 ?side3 ?side4 A109.out).mono ?_); (case side1 => exact KC (Kd.R_reads' HO_5.out).2.2); (case side2 => exact (Kd.R_reads' HO_5.out).2.1); (case side3 => exact KC (Kd.R_reads' HO_3.out).2.2); (case side4 => exact (Kd.R_reads' HO_3.out).2.1); rintro e w' ⟨rfl, ⟨nd, rfl⟩⟩; refine ⟨_, rfl, ?_⟩))
      go_ret
      exact ⟨ER, K1 HB GE107.out⟩
/-- THE ONE PURE STATEMENT of laws_FnWaysPut: yours. -/
def laws_FnWaysPut.Pure : Prop := ∀ (l0 : List Int), l0.length ≤ maxLen → l0.length * 1 ≤ 140737488351232 → (∀ x ∈ l0, (Lit.int .u8 x).wf = true) → ∃ k, laws_FnWaysPut.f k l0 = some true
theorem laws_FnWaysPut.walk (P : laws_FnWaysPut.Pure) (a0 : Option Addr) (len0 cap0 : Nat) (z0 : List Int) (w : World) (w0 : (a0 = none ∧ len0 = 0 ∧ cap0 = 0 ∧ z0 = []) ∨ ∃ x, a0 = some x ∧ len0 ≤ cap0 ∧ cap0 ≤ maxLen ∧ z0.length = cap0 ∧ (∀ i, i < z0.length → w.cell? (x.add i) = some (.int .u8 (z0.getD i 0))) ∧ ∀ n ∈ z0, (Lit.int .u8 n).wf = true) (y0 : len0 * 1 ≤ 140737488351232) :
  Calls Try.prog 14 #[.slice a0 len0 cap0] w fun e w' => e = .returned (.bool true) ∧ Below w.heap.size w w' := by
 obtain ⟨l0, rfl, hr0, hm0, hw0, hc0⟩ := ReadsInt.ofRowC w0
 obtain ⟨k, h⟩ := P l0 hm0 y0 hw0
 refine (laws_FnWaysPut.calls k _ _ l0 true w (Kd.C_of_reads (d := (0 : Int)) (h1 := fun _ => rfl) hr0) hc0 rfl h).mono ?_
 rintro e w' ⟨rfl, hd⟩
 exact ⟨rfl, hd⟩
end Go.Proofs.Ytioghacieopbdaa.PAll
end
