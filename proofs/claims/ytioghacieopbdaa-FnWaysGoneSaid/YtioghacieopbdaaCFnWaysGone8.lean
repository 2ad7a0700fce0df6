/- Contracts of the functions that the statement reaches, printed by a program out of the translation and joined with the plain laws. -/
import Derived.Shelf.RegionOpenPlain
import Derived.WalkKit
import Derived.Deep.LoopGhost
import Derived.Deep.RegionLaw
import Derived.Lib.Walk
import Derived.Lib.SliceRun
import Derived.Laws.IdiomCopy
import Derived.Lib.LazyBuf
import Derived.Test.YtioghacieopbdaaCFnWaysGone3
import Derived.Test.YtioghacieopbdaaCFnWaysGone4
import Derived.Test.YtioghacieopbdaaCFnWaysGone5
import Derived.Test.YtioghacieopbdaaCFnWaysGone6
import Derived.Test.YtioghacieopbdaaCFnWaysGone7
section
namespace Go.Proofs.Ytioghacieopbdaa.PAll
open Go.RowKit Go.Proofs.YtioghacieopbdaaW.PrintWords Go.Proofs.YtioghacieopbdaaW.PrintLast Go.Proofs.YtioghacieopbdaaW.PrintMore
attribute [local go_sem] max2_int min2_int max_two min_two max_three min_three max_four min_four   -- for this text's walks alone
set_option linter.unusedVariables false
set_option linter.unusedSimpArgs false
theorem clear_cells {P : Program} (w : World) (t e ty : TypeId) (z : Value) (ht : P.underlying t = some (.slice e)) (hv : ∀ w, (zeroValue e).run P w = .ok z w) (b o n c : Nat) (hn : 0 < n)
  (h1 : ∀ v ∈ (Builtin.zeroCells z.cells n).toList, v.oneCell' = true)
  (hc : ∀ j, j < (Builtin.zeroCells z.cells n).toList.length → (w.cell? ⟨b, o + j, none⟩).isSome = true) (hf : ∀ j, j < (Builtin.zeroCells z.cells n).toList.length → w.frozen? ⟨b, o + j, none⟩ = false) :
  (Builtin.clear_ #[t] ty #[.slice (some ⟨b, o, none⟩) n c]).run P w = .ok (.tuple #[]) (w.setCells b o (Builtin.zeroCells z.cells n).toList) := by
 have hst := run_storeCells_cells (P := P) b o (Builtin.zeroCells z.cells n).toList 0 w (by simpa using hc) (by simpa using hf) h1
 simp only [Nat.add_zero] at hst
 obtain ⟨m, rfl⟩ : ∃ m, n = m + 1 := ⟨n - 1, by omega⟩
 simp [Builtin.clear_, run_underlying ht, hv, hst]
theorem zeroCells_len (z : Array Value) (n : Nat) : (Builtin.zeroCells z n).toList.length = n * z.size := by
 simp [Builtin.zeroCells, Nat.mul_comm]
theorem blk_some {w : World} {g : Nat} {cur : Array Value} {e : TypeId} (h : w.heap[g]? = some (.cells cur e (0, 0))) (o : Nat) (ho : o < cur.size) : (w.cell? ⟨g, o, none⟩).isSome = true := by
 rw [blk_cell h o]; simp [ho]
theorem zeroCells_one (z : Array Value) (n : Nat) (h : ∀ v ∈ z, v.oneCell' = true) : ∀ v ∈ (Builtin.zeroCells z n).toList, v.oneCell' = true := by
 intro v hv
 simp only [Builtin.zeroCells, Array.toList_map, List.mem_map] at hv
 obtain ⟨i, hi, rfl⟩ := hv
 rw [Array.mem_toList_iff, Array.mem_range] at hi
 have hz : 0 < z.size := by
  rcases Nat.eq_zero_or_pos z.size with h0 | h0
  ·rw [h0] at hi; omega
  ·exact h0
 rw [getElem!_pos z _ (Nat.mod_lt _ hz)]
 exact h _ (Array.getElem_mem _)
set_option maxHeartbeats 4000000 in
set_option maxRecDepth 1000000 in
theorem slices_Delete_Way.walk (g n c i j : Nat) (cur : Array Value) (w : World) (hg : w.heap[g]? = some (.cells cur 86 (0, 0))) (hn : n ≤ c) (hm : c ≤ 9223372036854775807) (hs : cur.size = c * 3) (hij : i < j) (hj : j ≤ n)
  (h1 : ∀ v ∈ (cur.toList.drop (j * 3)).take ((n - j) * 3), v.oneCell' = true) :
  Calls Try.prog 117 #[.slice (some ⟨g, 0, none⟩) n c, .int .i64 i, .int .i64 j] w fun e w' => e = .returned (.slice (some ⟨g, 0, none⟩) (n - (j - i)) c) ∧
   w' = (w.drew.setCells g (i * 3) ((cur.toList.drop (j * 3)).take ((n - j) * 3))).setCells g ((n - (j - i)) * 3) (Builtin.zeroCells (Value.agg #[(.int .i64 0), (.int .i64 0), (.int .i64 0)]).cells (j - i)).toList := by
 obtain ⟨news, hnews⟩ : ∃ news, news = (cur.toList.drop (j * 3)).take ((n - j) * 3) := ⟨_, rfl⟩
 rw [← hnews] at h1 ⊢
 have hlen : news.length = (n - j) * 3 := by rw [hnews]; simp; omega
 have hget : ∀ t, t < (n - j) * 3 → news[t]? = cur[j * 3 + t]? := fun t ht => by rw [hnews, List.getElem?_take_of_lt ht, List.getElem?_drop, Array.getElem?_toList]
 obtain ⟨A, hA, hsrc⟩ : ∃ A : Addr, (if c = j then some (⟨g, 0, none⟩ : Addr) else some ⟨g, j * 3, none⟩) = some A ∧ Hid (∀ t u, news[t]? = some u → w.drew.cell? (A.add t) = some u) := by
  by_cases h : c = j
  ·refine ⟨⟨g, 0, none⟩, by simp [h], fun t u hu => ?_⟩
   have h0 : news.length = 0 := by rw [hlen]; omega
   rw [List.length_eq_zero_iff.1 h0] at hu
   simp at hu
  ·refine ⟨⟨g, j * 3, none⟩, by simp [h], fun t u hu => ?_⟩
   have ht : t < (n - j) * 3 := by
    have := (List.getElem?_eq_some_iff.1 hu).1
    rwa [hlen] at this
   rw [hget t ht] at hu
   rw [Addr.add_lit]
   exact (blk_cell hg (j * 3 + t)).trans hu
 have s1 : Hid (news.length = (n - j) * 3) := hlen
 have s2 : Hid (∀ u ∈ news, u.oneCell' = true) := h1
 have s3 : Hid (∀ t, t < news.length → (w.drew.cell? ⟨g, 0 + i * 3 + t, none⟩).isSome = true ∧ w.drew.frozen? ⟨g, 0 + i * 3 + t, none⟩ = false) := by
  intro t ht
  rw [hlen] at ht
  exact ⟨blk_some hg _ (by omega), blk_frozen hg _⟩
 obtain ⟨W1, hW1⟩ : ∃ W1, W1 = w.drew.setCells g (0 + i * 3) news := ⟨_, rfl⟩
 obtain ⟨cur1, hc1, hsz1, _⟩ := setCells_row news (0 + i * 3) w.drew cur hg (by rw [hlen, hs]; omega)
 rw [← hW1] at hc1
 have hz1 : ∀ v ∈ (Builtin.zeroCells (Value.agg #[(.int .i64 0), (.int .i64 0), (.int .i64 0)]).cells (j - i)).toList, v.oneCell' = true := zeroCells_one _ _ (by decide)
 have hzl : (Builtin.zeroCells (Value.agg #[(.int .i64 0), (.int .i64 0), (.int .i64 0)]).cells (j - i)).toList.length = (j - i) * 3 := zeroCells_len _ _
 have hcl : ∀ ty, (Builtin.clear_ #[75] ty #[.slice (some ⟨g, (i + (n - j)) * 3, none⟩) (n - (i + (n - j))) (c - (i + (n - j)))]).run Try.prog W1 = .ok (.tuple #[]) (W1.setCells g ((i + (n - j)) * 3) (Builtin.zeroCells (Value.agg #[(.int .i64 0), (.int .i64 0), (.int .i64 0)]).cells (j - i)).toList) := fun ty => by
  rw [show n - (i + (n - j)) = j - i by omega]
  exact clear_cells W1 75 86 ty _ Try.underlying75 Try.zeroValue86 g ((i + (n - j)) * 3) (j - i) _ (by omega) hz1 (fun t ht => blk_some hc1 _ (by rw [hzl] at ht; rw [hsz1, hs]; omega)) (fun t ht => blk_frozen hc1 _)
 have hW : Hid (W1 = w.drew.setCells g (0 + i * 3) news) := hW1
 have hic : i ≤ c := by omega
 have hjc : j ≤ c := by omega
 have hu75 := Try.underlying75
 have hmx : Try.prog.follows .mixedOrders = true := by kernel_rfl
 have hij2 : ¬ ((i : Int) = (j : Int)) := by omega
 obtain ⟨i0, hi0, hii⟩ : ∃ i0, Try.prog.info? 86 = some i0 ∧ i0.size = 3 := by
  have := info86
  cases h : Try.prog.info? 86 with
  | none => rw [h] at this; cases this
  | some i0 => rw [h] at this; simp at this; exact ⟨i0, rfl, this.2.1⟩
 clear hW1 hc1 hsz1 hg hget hlen hnews h1 hs
 go_enter Try.func117, Try.ntmps117
 go_wp2_with fail
 go_region_law_o (refine step_append_room rfl (.tmp 22) (.tmp 25) 75 rfl 86 i0 3 Try.underlying75 hi0 hii g 0 i c (by simp [Act.eval, Act.put]) A (n - j) (c - j) news (by simp [Act.eval, Act.put]) s1.out hsrc.out s2.out (by omega) s3.out ?_; rw [← hW.out])
 go_wp2
 go_ret
 refine ⟨by rw [show n - (j - i) = i + (n - j) by omega]; rfl, ?_⟩
 rw [show n - (j - i) = i + (n - j) by omega, hW.out, Nat.zero_add]
 rfl
def slices_Delete_Way.f (l0 : List S86) (a1 a2 : Int) : Option (List S86) := if 0 ≤ a1 then (if a1 < a2 then (if a2 ≤ (l0.length : Int) then some (l0.take a1.toNat ++ l0.drop a2.toNat) else none) else none) else none
set_option maxHeartbeats 4000000 in
theorem slices_Delete_Way.calls (P0_ : Nat → Prop) (u9000_ : Value) (l0 : List S86) (a1 a2 : Int) (r : List S86) (w0 w : World) (hB : Below w0.heap.size w0 w) (ho0 : Kd.R k86 86 w w0.heap.size P0_ u9000_ l0) (h : slices_Delete_Way.f l0 a1 a2 = some r) :
  Calls Try.prog 117 #[u9000_, .int .i64 a1, .int .i64 a2] w fun e w' => ∃ v0_ : Value, e = .returned (v0_) ∧ Kd.R k86 86 w' w0.heap.size (fun k_ => (P0_ k_ ∨ w.heap.size ≤ k_)) v0_ r ∧ Below w0.heap.size w0 w' ∧ Kept w w' (fun k_ => P0_ k_) := by
 unfold slices_Delete_Way.f at h
 by_cases c1 : 0 ≤ a1
 ·rw [if_pos c1] at h
  by_cases c2 : a1 < a2
  ·rw [if_pos c2] at h
   by_cases c3 : a2 ≤ (l0.length : Int)
   ·rw [if_pos c3] at h
    obtain rfl := Option.some.inj h
    obtain ⟨i, rfl⟩ : ∃ i : Nat, a1 = i := ⟨a1.toNat, by omega⟩
    obtain ⟨j, rfl⟩ : ∃ j : Nat, a2 = j := ⟨a2.toNat, by omega⟩
    simp only [Int.toNat_natCast]
    obtain ⟨hP, inner, ⟨hil, hcase⟩, hr⟩ := ho0
    rcases hcase with ⟨rfl, h0⟩ | ⟨g, c, cur, rfl, hgb, hh, hnc, hcm, hcs, htake⟩
    ·omega
    have hP' := hP g rfl
    have hil' : inner.length = l0.length * 3 := hil
    have hcs' : cur.size = c * 3 := hcs
    have htake' : cur.toList.take (l0.length * 3) = inner := htake
    have hone : ∀ v ∈ inner, v.oneCell' = true := by
     intro v hv
     obtain ⟨q, hq, rfl⟩ := List.getElem_of_mem hv
     have hqm : q / 3 < l0.length := by omega
     have hrr := hr.2 (q / 3) _ (List.getElem?_eq_getElem hqm)
     refine k86.K_one (k86.K_of_M hrr) _ (List.mem_of_getElem? (i := q % 3) ?_)
     rw [show k86.sz = 3 from rfl, List.getElem?_take_of_lt (Nat.mod_lt _ (by omega)), List.getElem?_drop, List.getElem?_eq_getElem (by omega)]
     simp only [show q / 3 * 3 + q % 3 = q by omega]
    have hnews : (cur.toList.drop (j * 3)).take ((l0.length - j) * 3) = inner.drop (j * 3) := by
     rw [← htake', List.drop_take, Nat.sub_mul]
    have hnl : (inner.drop (j * 3)).length = (l0.length - j) * 3 := by rw [List.length_drop, hil', Nat.sub_mul]
    have hw := slices_Delete_Way.walk g l0.length c i j cur w hh hnc hcm hcs' (by omega) (by omega) (fun v hv => hone v (by rw [hnews] at hv; exact List.mem_of_mem_drop hv))
    rw [hnews] at hw
    refine hw.mono ?_
    rintro e w' ⟨rfl, rfl⟩
    obtain ⟨cur1, hc1, hs1, ht1⟩ := setCells_row (inner.drop (j * 3)) (i * 3) w.drew cur hh (by rw [hnl, hcs']; omega)
    have hzl : (Builtin.zeroCells (Value.agg #[(.int .i64 0), (.int .i64 0), (.int .i64 0)]).cells (j - i)).toList.length = (j - i) * 3 := zeroCells_len _ _
    obtain ⟨cur2, hc2, hs2, ht2⟩ := setCells_row (Builtin.zeroCells (Value.agg #[(.int .i64 0), (.int .i64 0), (.int .i64 0)]).cells (j - i)).toList ((l0.length - (j - i)) * 3) _ cur1 hc1 (by rw [hzl, hs1, hcs']; omega)
    have hrl : (l0.take i ++ l0.drop j).length = l0.length - (j - i) := by simp; omega
    have hfar : ∀ k, k ≠ g → ((w.drew.setCells g (i * 3) (inner.drop (j * 3))).setCells g ((l0.length - (j - i)) * 3) (Builtin.zeroCells (Value.agg #[(.int .i64 0), (.int .i64 0), (.int .i64 0)]).cells (j - i)).toList).heap[k]? = w.heap[k]? := fun k hk => (setCells_far _ _ k hk).trans (setCells_far _ _ k hk)
    refine ⟨_, rfl, ⟨fun k hk => .inl (hP k hk), inner.take (i * 3) ++ inner.drop (j * 3), ⟨?_, .inr ⟨g, c, cur2, by rw [hrl], hgb, hc2, by omega, hcm, by rw [hs2, hs1]; exact hcs, ?_⟩⟩, ?_⟩, Go.below_setCells hgb _ _ _ (Go.below_setCells hgb _ _ _ (below_drew hB)), ?_, ?_⟩
    ·rw [List.length_append, List.length_take, hnl, hrl, hil', show k86.sz = 3 from rfl]; omega
    ·have e1 : cur1.toList.take (i * 3 + (l0.length - j) * 3) = cur.toList.take (i * 3) ++ inner.drop (j * 3) := by
      rw [ht1]
      refine List.take_left' ?_
      rw [List.length_append, List.length_take, hnl, show cur.toList.length = cur.size from Array.length_toList, hcs']; omega
     rw [ht2, hrl, show k86.sz = 3 from rfl, List.append_assoc]
     rw [List.take_left' (by rw [List.length_take, show cur1.toList.length = cur1.size from Array.length_toList, hs1, hcs']; omega), show (l0.length - (j - i)) * 3 = i * 3 + (l0.length - j) * 3 by omega, e1, ← htake', List.take_take, Nat.min_eq_left (by omega)]
    ·have hr' : Reps (k86.M ((w.drew.setCells g (i * 3) (inner.drop (j * 3))).setCells g ((l0.length - (j - i)) * 3) (Builtin.zeroCells (Value.agg #[(.int .i64 0), (.int .i64 0), (.int .i64 0)]).cells (j - i)).toList) w0.heap.size (fun k => (P0_ k ∨ w.heap.size ≤ k) ∧ some k ≠ (Value.slice (some ⟨g, 0, none⟩) (l0.length - (j - i)) c).ownBlock)) k86.sz l0 inner :=
      hr.imp_ (fun p cs hm => k86.M_mono (fun k hk => ⟨.inl hk.1, hk.2⟩) (Kd.M_step hm (fun k hk _ => hfar k (fun e => hk.2 (by rw [e]; rfl)))))
     exact Kd.reps_append (Kd.reps_take hr' (by omega)) (Kd.reps_drop hr')
    ·rw [(setCells_same _ _ _ _).2.2.2, (setCells_same _ _ _ _).2.2.2]
     exact Nat.le_refl _
    ·exact fun k hk hn => hfar k (fun e => hn (by rw [e]; exact hP'))
   ·rw [if_neg c3] at h; cases h
  ·rw [if_neg c2] at h; cases h
 ·rw [if_neg c1] at h; cases h
def impl_WaysGone.f (k : Nat) (l0 : List (S86)) (a1_0 : Int) (a1_1 : Int) : Option ((List (S86)) × Bool) := (impl_WaysOk.f k l0).bind fun t102 => (if t102 = true then ((slices_Clone_Way.f l0).bind fun t103 => ((impl_find.f k t103 a1_0 a1_1).bind fun bt106 => (if bt106.2 = true then ((slices_Delete_Way.f t103 bt106.1 (wrap64 (bt106.1 + 1))).bind fun t108 => (some (t108, true))) else (some (t103, false))))) else (some (([] : List (S86)), false)))
set_option maxHeartbeats 8000000 in
set_option maxRecDepth 100000 in
theorem impl_WaysGone.calls (k : Nat) (A0 : Option Addr) (c0 : Nat) (l0 : List (S86)) (a1_0 : Int) (a1_1 : Int) (r1 : List (S86)) (r2 : Bool) (w : World) (hr0 : Kd.C k86 w A0 l0.length l0) (hc0 : l0.length ≤ c0) (h : impl_WaysGone.f k l0 a1_0 a1_1 = some (r1, r2)) :
  Calls Try.prog 65 #[.slice A0 l0.length c0, .agg #[.int .i64 a1_0, .int .i64 a1_1]] w fun e w' => ∃ v0_ : Value, e = .returned (.tuple #[v0_, .bool r2]) ∧ Kd.R k86 86 w' w.heap.size (fun _ => True) v0_ r1 ∧ Below w.heap.size w w' := by
 have hu32 := Try.underlying32
 have HR0 := Aside0.mk hr0
 have HC0 := Aside0.mk hc0
 clear hr0 hc0
 have HB := am (Below.refl w.heap.size w)
 have H : ((impl_WaysOk.f k l0).bind fun t102 => (if t102 = true then ((slices_Clone_Way.f l0).bind fun t103 => ((impl_find.f k t103 a1_0 a1_1).bind fun bt106 => (if bt106.2 = true then ((slices_Delete_Way.f t103 bt106.1 (wrap64 (bt106.1 + 1))).bind fun t108 => (some (t108, true))) else (some (t103, false))))) else (some (([] : List (S86)), false)))) = some (r1, r2) := h
 clear h
 replace H := Option.bind_eq_some_iff.mp H
 obtain ⟨t102, A30, H⟩ := H
 replace H : (if t102 = true then ((slices_Clone_Way.f l0).bind fun t103 => ((impl_find.f k t103 a1_0 a1_1).bind fun bt106 => (if bt106.2 = true then ((slices_Delete_Way.f t103 bt106.1 (wrap64 (bt106.1 + 1))).bind fun t108 => (some (t108, true))) else (some (t103, false))))) else (some (([] : List (S86)), false))) = some (r1, r2) := H
 have A3 := Aside0.mk A30
 clear A30
 by_cases c4 : t102 = true
 ·subst c4
  have H1 : ((slices_Clone_Way.f l0).bind fun t103 => ((impl_find.f k t103 a1_0 a1_1).bind fun bt106 => (if bt106.2 = true then ((slices_Delete_Way.f t103 bt106.1 (wrap64 (bt106.1 + 1))).bind fun t108 => (some (t108, true))) else (some (t103, false))))) = some (r1, r2) := by rw [if_pos rfl] at H; exact H
  clear H
  have H := H1
  clear H1
  replace H := Option.bind_eq_some_iff.mp H
  obtain ⟨t103, A50, H⟩ := H
  replace H : ((impl_find.f k t103 a1_0 a1_1).bind fun bt106 => (if bt106.2 = true then ((slices_Delete_Way.f t103 bt106.1 (wrap64 (bt106.1 + 1))).bind fun t108 => (some (t108, true))) else (some (t103, false)))) = some (r1, r2) := H
  have A5 := Aside0.mk A50
  clear A50
  replace H := Option.bind_eq_some_iff.mp H
  obtain ⟨⟨t106, t107⟩, A60, H⟩ := H
  replace H : (if t107 = true then ((slices_Delete_Way.f t103 t106 (wrap64 (t106 + 1))).bind fun t108 => (some (t108, true))) else (some (t103, false))) = some (r1, r2) := H
  have A6 := Aside0.mk A60
  clear A60
  by_cases c7 : t107 = true
  ·subst c7
   have H1 : ((slices_Delete_Way.f t103 t106 (wrap64 (t106 + 1))).bind fun t108 => (some (t108, true))) = some (r1, r2) := by rw [if_pos rfl] at H; exact H
   clear H
   have H := H1
   clear H1
   replace H := Option.bind_eq_some_iff.mp H
   obtain ⟨t108, A80, H⟩ := H
   replace H : (some (t108, true)) = some (r1, r2) := H
   have A8 := Aside0.mk A80
   clear A80
   simp only [Option.some.injEq, Prod.mk.injEq] at H
   obtain ⟨rfl, rfl⟩ := H
   go_enter Try.func65, Try.ntmps65
   go_wp2_with (first | ((with_reducible refine gate_dst (N := 3) rfl ?_); refine box_event rfl (N := 3) rfl (cs := #[.int .i64 a1_0, .int .i64 a1_1]) (t := 32) BX ?_; intro gb101 hg w9 hbox hb; have BK101 := am (hbox); have GW101 := am ((GL hg (below_size (KL HB)) : w.heap.size ≤ gb101)); have GE101 := GW101; replace HB := am (below_step (KL HB) hb); clear hb hbox hg) | ((with_reducible refine gate_callee (f := 63) rfl ?_); refine goesL_ (some 10) rfl rfl Try.func63 (by kernel_rfl) rfl #[.slice A0 l0.length c0] rfl MT ?_; (with_reducible refine (impl_WaysOk.calls k _ _ l0 true _ ?side1 ?side2 A3.out).mono ?_); (case side1 => exact KC (Kd.C_below HR0.out HB.out)); (case side2 => exact HC0.out); rintro e w10 ⟨rfl, hb⟩; refine ⟨_, rfl, ?_⟩; replace BK101 := am (BB BK101 hb); replace HB := am (below_step (K1 HB GE101.out) hb); (try clear hb); (try clear hb2); (try clear hk); (try clear hi)) | ((with_reducible refine gate_callee (f := 115) rfl ?_); refine goesL_ (some 13) rfl rfl Try.func115 (by kernel_rfl) rfl #[.slice A0 l0.length c0] rfl MT ?_; (with_reducible refine (slices_Clone_Way.calls _ _ l0 t103 _ ?side1 ?side2 A5.out).mono ?_); (case side1 => exact KC (Kd.C_below HR0.out HB.out)); (case side2 => exact HC0.out); rintro e w11 ⟨v104, rfl, ho0, hb⟩; refine ⟨_, rfl, ?_⟩; have HO105 := am (Kd.R_lower ho0 (below_size (K1 HB GE101.out))); replace BK101 := am (BB BK101 hb); replace HB := am (below_step (K1 HB GE101.out) hb); (try clear hb); (try clear hb2); (try clear hk); (try clear hi); (try clear ho0); have hcz12_0 := z0 w11 BK101.out; have hcz12_1 := z1 w11 BK101.out; have hfz12_0 := blk_frozen BK101.out 0; have hfz12_1 := blk_frozen BK101.out 1; obtain ⟨Ao13, co13, eo13⟩ := Kd.R_slice HO105.out; subst eo13) | ((with_reducible refine gate_callee (f := 116) rfl ?_); refine goesL_ (some 17) rfl rfl Try.func116 (by kernel_rfl) rfl #[.slice Ao13 t103.length co13, .agg #[.int .i64 a1_0, .int .i64 a1_1]] rfl MT ?_; (with_reducible refine (impl_find.calls k _ _ t103 a1_0 a1_1 t106 true _ ?side1 ?side2 A6.out).mono ?_); (case side1 => exact KC (Kd.R_reads' HO105.out).2.2); (case side2 => exact (Kd.R_reads' HO105.out).2.1); rintro e w14 ⟨rfl, hb⟩; refine ⟨_, rfl, ?_⟩; replace HO105 := am (Kd.R_below (KR HO105) hb); replace BK101 := am (BB BK101 hb); replace HB := am (below_step (K1 HB GE101.out) hb); (try clear hb); (try clear hb2); (try clear hk); (try clear hi)) | ((with_reducible refine gate_callee (f := 117) rfl ?_); refine goesL_ (some 27) rfl rfl Try.func117 (by kernel_rfl) rfl #[.slice Ao13 t103.length co13, .int .i64 t106, .int .i64 (wrap64 (t106 + 1))] rfl MT ?_; (with_reducible refine (slices_Delete_Way.calls (fun k_ => some k_ = (.slice Ao13 t103.length co13 : Value).ownBlock) (.slice Ao13 t103.length co13) t103 t106 (wrap64 (t106 + 1)) t108 w _ ?side1 ?side2 A8.out).mono ?_); (case side1 => exact K1 HB GE101.out); (case side2 => exact Kd.R_tight rfl HO105.out); rintro e w15 ⟨v109, rfl, ho0, hb, hkp⟩; refine ⟨_, rfl, ?_⟩; replace BK101 := am (blk_kept (KB BK101) hkp (fun hs_ => (fun e_ => (Kd.R_ne HO105.out BK101.out (by decide)) e_) hs_)); have HO110 := am (Kd.R_mono (ok' := fun k_ => True) ho0 (fun k_ hk_ => trivial)); replace HB := am (hb); clear HO105; (try clear hb); (try clear hkp); (try clear ho0)))
   go_ret2
   exact ⟨_, by first | rfl | (simp [errW_none, errW_some] <;> rfl) | (simp [*, errW_none, errW_some] <;> rfl), by (with_reducible repeat (first | apply Kd.R_alloc | apply Kd.R_drewN | apply Kd.R_drew)); exact HO110.out, K1 HB GE101.out⟩
  ·replace c7 := Bool.eq_false_iff.mpr c7
   subst c7
   have H1 : (some (t103, false)) = some (r1, r2) := by rw [if_neg (show ¬ (false = true) by decide)] at H; exact H
   clear H
   have H := H1
   clear H1
   simp only [Option.some.injEq, Prod.mk.injEq] at H
   obtain ⟨rfl, rfl⟩ := H
   go_enter Try.func65, Try.ntmps65
   go_wp2_with (first | ((with_reducible refine gate_dst (N := 3) rfl ?_); refine box_event rfl (N := 3) rfl (cs := #[.int .i64 a1_0, .int .i64 a1_1]) (t := 32) BX ?_; intro gb101 hg w16 hbox hb; have BK101 := am (hbox); have GW101 := am ((GL hg (below_size (KL HB)) : w.heap.size ≤ gb101)); have GE101 := GW101; replace HB := am (below_step (KL HB) hb); clear hb hbox hg) | ((with_reducible refine gate_callee (f := 63) rfl ?_); refine goesL_ (some 10) rfl rfl Try.func63 (by kernel_rfl) rfl #[.slice A0 l0.length c0] rfl MT ?_; (with_reducible refine (impl_WaysOk.calls k _ _ l0 true _ ?side1 ?side2 A3.out).mono ?_); (case side1 => exact KC (Kd.C_below HR0.out HB.out)); (case side2 => exact HC0.out); rintro e w17 ⟨rfl, hb⟩; refine ⟨_, rfl, ?_⟩; replace BK101 := am (BB BK101 hb); replace HB := am (below_step (K1 HB GE101.out) hb); (try clear hb); (try clear hb2); (try clear hk); (try clear hi)) | ((with_reducible refine gate_callee (f := 115) rfl ?_); refine goesL_ (some 13) rfl rfl Try.func115 (by kernel_rfl) rfl #[.slice A0 l0.length c0] rfl MT ?_; (with_reducible refine (slices_Clone_Way.calls _ _ l0 t103 _ ?side1 ?side2 A5.out).mono ?_); (case side1 => exact KC (Kd.C_below HR0.out HB.out)); (case side2 => exact HC0.out); rintro e w18 ⟨v104, rfl, ho0, hb⟩; refine ⟨_, rfl, ?_⟩; have HO105 := am (Kd.R_lower ho0 (below_size (K1 HB GE101.out))); replace BK101 := am (BB BK101 hb); replace HB := am (below_step (K1 HB GE101.out) hb); (try clear hb); (try clear hb2); (try clear hk); (try clear hi); (try clear ho0); have hcz19_0 := z0 w18 BK101.out; have hcz19_1 := z1 w18 BK101.out; have hfz19_0 := blk_frozen BK101.out 0; have hfz19_1 := blk_frozen BK101.out 1; obtain ⟨Ao20, co20, eo20⟩ := Kd.R_slice HO105.out; subst eo20) | ((with_reducible refine gate_callee (f := 116) rfl ?_); refine goesL_ (some 17) rfl rfl Try.func116 (by kernel_rfl) rfl #[.slice Ao20 t103.length co20, .agg #[.int .i64 a1_0, .int .i64 a1_1]] rfl MT ?_; (with_reducible refine (impl_find.calls k _ _ t103 a1_0 a1_1 t106 false _ ?side1 ?side2 A6.out).mono ?_); (case side1 => exact KC (Kd.R_reads' HO105.out).2.2); (case side2 => exact (Kd.R_reads' HO105.out).2.1); rintro e w21 ⟨rfl, hb⟩; refine ⟨_, rfl, ?_⟩; replace HO105 := am (Kd.R_below (KR HO105) hb); replace BK101 := am (BB BK101 hb); replace HB := am (below_step (K1 HB GE101.out) hb); (try clear hb); (try clear hb2); (try clear hk); (try clear hi)))
   go_ret2
   exact ⟨_, by first | rfl | (simp [errW_none, errW_some] <;> rfl) | (simp [*, errW_none, errW_some] <;> rfl), by (with_reducible repeat (first | apply Kd.R_alloc | apply Kd.R_drewN | apply Kd.R_drew)); exact HO105.out, K1 HB GE101.out⟩
 ·replace c4 := Bool.eq_false_iff.mpr c4
  subst c4
  have H1 : (some (([] : List (S86)), false)) = some (r1, r2) := by rw [if_neg (show ¬ (false = true) by decide)] at H; exact H
  clear H
  have H := H1
  clear H1
  simp only [Option.some.injEq, Prod.mk.injEq] at H
  obtain ⟨rfl, rfl⟩ := H
  go_enter Try.func65, Try.ntmps65
  go_wp2_with (first | ((with_reducible refine gate_dst (N := 3) rfl ?_); refine box_event rfl (N := 3) rfl (cs := #[.int .i64 a1_0, .int .i64 a1_1]) (t := 32) BX ?_; intro gb101 hg w22 hbox hb; have BK101 := am (hbox); have GW101 := am ((GL hg (below_size (KL HB)) : w.heap.size ≤ gb101)); have GE101 := GW101; replace HB := am (below_step (KL HB) hb); clear hb hbox hg) | ((with_reducible refine gate_callee (f := 63) rfl ?_); refine goesL_ (some 10) rfl rfl Try.func63 (by kernel_rfl) rfl #[.slice A0 l0.length c0] rfl MT ?_; (with_reducible refine (impl_WaysOk.calls k _ _ l0 false _ ?side1 ?side2 A3.out).mono ?_); (case side1 => exact KC (Kd.C_below HR0.out HB.out)); (case side2 => exact HC0.out); rintro e w23 ⟨rfl, hb⟩; refine ⟨_, rfl, ?_⟩; replace BK101 := am (BB BK101 hb); replace HB := am (below_step (K1 HB GE101.out) hb); (try clear hb); (try clear hb2); (try clear hk); (try clear hi)))
  go_ret2
  exact ⟨_, by first | rfl | (simp [errW_none, errW_some] <;> rfl) | (simp [*, errW_none, errW_some] <;> rfl), by first | exact Kd.R_nil _ _ _ _ _ | exact Kd.N_nil _ _ _ _ _ | exact Kd.V_nil _ _ _ _ _ | exact Kd.Q_nil _ _ _ _ _ | exact Kd.S_nil _ _ _ _ _, K1 HB GE101.out⟩
mutual
def laws_FnWaysGone.j0 : Nat → List Int → List Int → Bool → Option (Bool)
 | 0, _, _, _ => none
 | k + 1, x0, x1, x22 => if x22 = true then (some true) else ((spec_DrawWaysGone.f k x0).bind fun bt101 => ((impl_WaysGone.f k bt101.1 bt101.2.1 bt101.2.2).bind fun bt107 => ((spec_WaysGone.f k bt101.1 bt101.2.1 bt101.2.2).bind fun bt111 => (if (bt107.2 != bt111.2) = true then (laws_FnWaysGone.j1 k x1 bt101.1 bt107.1 bt107.2 bt111.1 bt111.2 true bt101.2.1 bt101.2.2) else ((laws_ovWays.f k bt107.1 bt111.1).bind fun t115 => (if t115 = true then (laws_FnWaysGone.j1 k x1 bt101.1 bt107.1 bt107.2 bt111.1 bt111.2 (!bt107.2) bt101.2.1 bt101.2.2) else (laws_FnWaysGone.j1 k x1 bt101.1 bt107.1 bt107.2 bt111.1 bt111.2 true bt101.2.1 bt101.2.2)))))))
def laws_FnWaysGone.j1 : Nat → List Int → List (S86) → List (S86) → Bool → List (S86) → Bool → Bool → Int → Int → Option (Bool)
 | 0, _, _, _, _, _, _, _, _, _ => none
 | k + 1, x1, x5, x7, x8, x9, x10, x52, x107000, x107001 => if x52 = true then (if (x8 == x10) = true then ((laws_ovWays.f k x7 x9).bind fun t116 => (if t116 = true then (if x8 = true then (some true) else ((spec_WaysOk.f k x5).bind fun t117 => (if t117 = true then ((laws_ovWays.f k x7 x5).bind fun t118 => (some t118)) else (some true)))) else (some false))) else (some false)) else ((spec_DrawWaysLead.f k x1).bind fun bt119 => ((impl_WaysGone.f k x7 x107000 x107001).bind fun bt123 => ((impl_WaysOk.f k x7).bind fun t127 => (if t127 = true then (if bt123.2 = true then (some false) else (if (wrap64 ((x7.length : Int) + 1)) = (x5.length : Int) then ((impl_BlockHas.f x107000 x107001 bt119.2).bind fun t128 => (if t128 = true then (some true) else ((impl_WaysLead.f k x7 bt119.2).bind fun t129 => ((impl_WaysLead.f k x5 bt119.2).bind fun t130 => (some (t129 == t130)))))) else (some false))) else (some false)))))
end
def laws_FnWaysGone.f (k : Nat) (l0 : List Int) (l1 : List Int) : Option (Bool) := if (l0.length : Int) > 1048576 then (laws_FnWaysGone.j0 k l0 l1 true) else (laws_FnWaysGone.j0 k l0 l1 (decide ((l1.length : Int) > 1048576)))
set_option maxHeartbeats 8000000 in
set_option maxRecDepth 100000 in
theorem laws_FnWaysGone.calls (k : Nat) (A0 : Option Addr) (c0 : Nat) (l0 : List Int) (A1 : Option Addr) (c1 : Nat) (l1 : List Int) (r : Bool) (w : World) (hr0 : Kd.C (Kd.int .u8) w A0 l0.length l0) (hc0 : l0.length ≤ c0) (hr1 : Kd.C (Kd.int .u8) w A1 l1.length l1) (hc1 : l1.length ≤ c1) (hr0_ : r = true) (h : laws_FnWaysGone.f k l0 l1 = some r) :
  Calls Try.prog 13 #[.slice A0 l0.length c0, .slice A1 l1.length c1] w fun e w' => e = .returned (.bool r) ∧ Below w.heap.size w w' := by
 have hu32 := Try.underlying32
 have HR0 := Aside0.mk hr0
 have HC0 := Aside0.mk hc0
 clear hr0 hc0
 have HR1 := Aside0.mk hr1
 have HC1 := Aside0.mk hc1
 clear hr1 hc1
 have HB := am (Below.refl w.heap.size w)
 have H : (if (l0.length : Int) > 1048576 then (laws_FnWaysGone.j0 k l0 l1 true) else (laws_FnWaysGone.j0 k l0 l1 (decide ((l1.length : Int) > 1048576)))) = some r := h
 clear h
 have HR_ := Aside0.mk hr0_
 clear hr0_
 have HC3 := Aside0.mk H
 clear H
 go_enter Try.func13, Try.ntmps13
 go_upto_region 1 with (fail)
 go_cut [22] (fun v22 wc => ∃ (kq : Nat) (x22_2 : Bool), v22 = .bool x22_2 ∧ Aside0 (laws_FnWaysGone.j0 kq l0 l1 x22_2 = some r) ∧ Aside0 (kq ≤ k) ∧ Aside0 (Below w.heap.size w wc))
 case first =>
  have H := HC3.out
  clear HC3
  by_cases c4 : (l0.length : Int) > 1048576
  ·rw [if_pos c4] at H
   have c4b0 : decide (1048576 < (l0.length : Int)) = true := decide_eq_true c4
   have c4b1 : decide (1048576 < l0.length) = true := decide_eq_true (by omega)
   clear c4
   (first | rw [c4b0] | (simp only [i64_w, i32_w]; rw [c4b0]) | skip)
   have H' := Aside0.mk H
   clear H
   go_wp2
   go_meet
   case rel => exact ⟨_, (true), (by first | rfl | (simp; done) | (simp [*]; done)), H', ⟨by first | omega | exact Nat.le_refl _⟩, ⟨KL HB⟩⟩
  ·rw [if_neg c4] at H
   have c4b0 : decide (1048576 < (l0.length : Int)) = false := decide_eq_false c4
   have c4b1 : decide (1048576 < l0.length) = false := decide_eq_false (by omega)
   clear c4
   (first | rw [c4b0] | (simp only [i64_w, i32_w]; rw [c4b0]) | skip)
   have H' := Aside0.mk H
   clear H
   go_wp2
   go_meet
   case rel => exact ⟨_, (decide ((l1.length : Int) > 1048576)), (by first | rfl | (simp; done) | (simp [*]; done)), H', ⟨by first | omega | exact Nat.le_refl _⟩, ⟨KL HB⟩⟩
 case rest =>
  clear HC3
  try clear c1
  try clear p2
  try clear c4
  try clear c4b0
  try clear c4b1
  obtain ⟨kq, x22_2, rfl, HA, HJ2, HB⟩ := hcut
  cases kq with
  | zero => exact absurd HA.out (by simp [laws_FnWaysGone.j0])
  | succ kj2 =>
   have H := HA.out
   clear HA
   simp only [laws_FnWaysGone.j0] at H
   by_cases c5 : x22_2 = true
   ·subst c5
    have H1 : (some true) = some r := by rw [if_pos rfl] at H; exact H
    clear H
    have H := H1
    clear H1
    obtain rfl := Option.some.inj H
    go_wp2
    go_ret
    exact ⟨by first | rfl | (simp [errW_none, errW_some] <;> rfl) | (simp [*, errW_none, errW_some] <;> rfl), KL HB⟩
   ·replace c5 := Bool.eq_false_iff.mpr c5
    subst c5
    have H1 : ((spec_DrawWaysGone.f kj2 l0).bind fun bt101 => ((impl_WaysGone.f kj2 bt101.1 bt101.2.1 bt101.2.2).bind fun bt107 => ((spec_WaysGone.f kj2 bt101.1 bt101.2.1 bt101.2.2).bind fun bt111 => (if (bt107.2 != bt111.2) = true then (laws_FnWaysGone.j1 kj2 l1 bt101.1 bt107.1 bt107.2 bt111.1 bt111.2 true bt101.2.1 bt101.2.2) else ((laws_ovWays.f kj2 bt107.1 bt111.1).bind fun t115 => (if t115 = true then (laws_FnWaysGone.j1 kj2 l1 bt101.1 bt107.1 bt107.2 bt111.1 bt111.2 (!bt107.2) bt101.2.1 bt101.2.2) else (laws_FnWaysGone.j1 kj2 l1 bt101.1 bt107.1 bt107.2 bt111.1 bt111.2 true bt101.2.1 bt101.2.2))))))) = some r := by rw [if_neg (show ¬ (false = true) by decide)] at H; exact H
    clear H
    have H := H1
    clear H1
    replace H := Option.bind_eq_some_iff.mp H
    obtain ⟨⟨t101, t104, t105⟩, A60, H⟩ := H
    replace H : ((impl_WaysGone.f kj2 t101 t104 t105).bind fun bt107 => ((spec_WaysGone.f kj2 t101 t104 t105).bind fun bt111 => (if (bt107.2 != bt111.2) = true then (laws_FnWaysGone.j1 kj2 l1 t101 bt107.1 bt107.2 bt111.1 bt111.2 true t104 t105) else ((laws_ovWays.f kj2 bt107.1 bt111.1).bind fun t115 => (if t115 = true then (laws_FnWaysGone.j1 kj2 l1 t101 bt107.1 bt107.2 bt111.1 bt111.2 (!bt107.2) t104 t105) else (laws_FnWaysGone.j1 kj2 l1 t101 bt107.1 bt107.2 bt111.1 bt111.2 true t104 t105)))))) = some r := H
    have A6 := Aside0.mk A60
    clear A60
    replace H := Option.bind_eq_some_iff.mp H
    obtain ⟨⟨t107, t110⟩, A70, H⟩ := H
    replace H : ((spec_WaysGone.f kj2 t101 t104 t105).bind fun bt111 => (if (t110 != bt111.2) = true then (laws_FnWaysGone.j1 kj2 l1 t101 t107 t110 bt111.1 bt111.2 true t104 t105) else ((laws_ovWays.f kj2 t107 bt111.1).bind fun t115 => (if t115 = true then (laws_FnWaysGone.j1 kj2 l1 t101 t107 t110 bt111.1 bt111.2 (!t110) t104 t105) else (laws_FnWaysGone.j1 kj2 l1 t101 t107 t110 bt111.1 bt111.2 true t104 t105))))) = some r := H
    have A7 := Aside0.mk A70
    clear A70
    replace H := Option.bind_eq_some_iff.mp H
    obtain ⟨⟨t111, t114⟩, A80, H⟩ := H
    replace H : (if (t110 != t114) = true then (laws_FnWaysGone.j1 kj2 l1 t101 t107 t110 t111 t114 true t104 t105) else ((laws_ovWays.f kj2 t107 t111).bind fun t115 => (if t115 = true then (laws_FnWaysGone.j1 kj2 l1 t101 t107 t110 t111 t114 (!t110) t104 t105) else (laws_FnWaysGone.j1 kj2 l1 t101 t107 t110 t111 t114 true t104 t105)))) = some r := H
    have A8 := Aside0.mk A80
    clear A80
    have HC9 := Aside0.mk H
    clear H
    go_upto_region 6 with (first | ((with_reducible refine gate_callee (f := 64) rfl ?_); refine goesL_ (some 25) rfl rfl Try.func64 (by kernel_rfl) rfl #[.slice A0 l0.length c0] rfl MT ?_; (with_reducible refine (spec_DrawWaysGone.calls kj2 _ _ l0 t101 t104 t105 _ ?side1 ?side2 A6.out).mono ?_); (case side1 => exact KC (Kd.C_below HR0.out HB.out)); (case side2 => exact HC0.out); rintro e w10 ⟨v102, rfl, ho0, hb⟩; refine ⟨_, rfl, ?_⟩; have HO103 := am (Kd.R_lower ho0 (below_size (KL HB))); replace HB := am (below_step (KL HB) hb); (try clear hb); (try clear hb2); (try clear hk); (try clear hi); (try clear ho0)) | ((with_reducible refine gate_dst (N := 6) rfl ?_); (try (refine gate_guard (by rfl) ?_; dsimp only)); refine box_event rfl (N := 6) rfl (cs := #[.int .i64 0, .int .i64 0]) (t := 32) BX ?_; intro gb106 hg w11 hbox hb; replace HO103 := am (Kd.R_below (KR HO103) hb); have BK106 := am (hbox); have GW106 := am ((GL hg (below_size (KL HB)) : w.heap.size ≤ gb106)); have GE106 := GW106; replace HB := am (below_step (KL HB) hb); clear hb hbox hg; have hcz12_0 := z0 w11 BK106.out; have hcz12_1 := z1 w11 BK106.out; have hfz12_0 := blk_frozen BK106.out 0; have hfz12_1 := blk_frozen BK106.out 1; obtain ⟨Ao13, co13, eo13⟩ := Kd.R_slice HO103.out; subst eo13) | ((with_reducible refine gate_callee (f := 65) rfl ?_); refine goesL_ (some 31) rfl rfl Try.func65 (by kernel_rfl) rfl #[.slice Ao13 t101.length co13, .agg #[.int .i64 t104, .int .i64 t105]] rfl MT ?_; (with_reducible refine (impl_WaysGone.calls kj2 _ _ t101 t104 t105 t107 t110 _ ?side1 ?side2 A7.out).mono ?_); (case side1 => refine (Kd.R_reads' (e := 86) (base := w.heap.size) (ok := fun k_ => True) (n := t101.length) (c := co13) ?_).2.2; exact (by (with_reducible repeat (first | apply Kd.R_alloc | apply Kd.R_drewN | apply Kd.R_drew)); exact (Kd.R_mono (Kd.R_far (p := ⟨gb106, 1, none⟩) (Kd.R_far (p := ⟨gb106, 0, none⟩) (Kd.R_types HO103.out BK106.out (by decide)) (fun _ hk => hk.2) (.int .i64 t104)) (fun _ hk => hk.2) (.int .i64 t105)) (fun _ h_ => h_.1)))); (case side2 => exact (Kd.R_reads' HO103.out).2.1); rintro e w14 ⟨v108, rfl, ho0, hb⟩; refine ⟨_, rfl, ?_⟩; have HO109 := am (Kd.R_lower (Kd.R_new' ho0 (Kd.R_lt (by (with_reducible repeat (first | apply Kd.R_alloc | apply Kd.R_drewN | apply Kd.R_drew)); exact (Kd.R_mono (Kd.R_far (p := ⟨gb106, 1, none⟩) (Kd.R_far (p := ⟨gb106, 0, none⟩) (Kd.R_types HO103.out BK106.out (by decide)) (fun _ hk => hk.2) (.int .i64 t104)) (fun _ hk => hk.2) (.int .i64 t105)) (fun _ h_ => h_.1))))) (below_size (K1 HB GE106.out))); replace HO103 := am (Kd.R_elder' (by (with_reducible repeat (first | apply Kd.R_alloc | apply Kd.R_drewN | apply Kd.R_drew)); exact (Kd.R_mono (Kd.R_far (p := ⟨gb106, 1, none⟩) (Kd.R_far (p := ⟨gb106, 0, none⟩) (Kd.R_types HO103.out BK106.out (by decide)) (fun _ hk => hk.2) (.int .i64 t104)) (fun _ hk => hk.2) (.int .i64 t105)) (fun _ h_ => h_.1))) (Kd.R_base ho0) hb); replace BK106 := am (blk_below (g := gb106) (o := .cells #[.int .i64 t104, .int .i64 t105] 32 (0, 0)) (by (with_reducible repeat (first | refine blk_drewN ?_ _ | refine blk_drew ?_ | refine blk_alloc ?_ _)); refine blk_put (cs := #[.int .i64 t104, .int .i64 0]) ?_ 1 _ rfl; (with_reducible repeat (first | refine blk_drewN ?_ _ | refine blk_drew ?_ | refine blk_alloc ?_ _)); refine blk_put (cs := #[.int .i64 0, .int .i64 0]) ?_ 0 _ rfl; (with_reducible repeat (first | refine blk_drewN ?_ _ | refine blk_drew ?_ | refine blk_alloc ?_ _)); exact BK106.out) hb); replace HB := am (below_step (K1 HB GE106.out) hb); (try clear hb); (try clear hb2); (try clear hk); (try clear hi); (try clear ho0); have hcz15_0 := z0 w14 BK106.out; have hcz15_1 := z1 w14 BK106.out; have hfz15_0 := blk_frozen BK106.out 0; have hfz15_1 := blk_frozen BK106.out 1) | ((with_reducible refine gate_callee (f := 66) rfl ?_); refine goesL_ (some 37) rfl rfl Try.func66 (by kernel_rfl) rfl #[.slice Ao13 t101.length co13, .agg #[.int .i64 t104, .int .i64 t105]] rfl MT ?_; (with_reducible refine (spec_WaysGone.calls kj2 _ _ t101 t104 t105 t111 t114 _ ?side1 ?side2 A8.out).mono ?_); (case side1 => exact KC (Kd.R_reads' HO103.out).2.2); (case side2 => exact (Kd.R_reads' HO103.out).2.1); rintro e w16 ⟨v112, rfl, ho0, hb⟩; refine ⟨_, rfl, ?_⟩; have HO113 := am (Kd.R_lower (Kd.R_new' (Kd.R_new' ho0 (Kd.R_lt (KR HO103))) (Kd.R_lt (KR HO109))) (below_size (K1 HB GE106.out))); replace HO103 := am (Kd.R_elder' (KR HO103) (Kd.R_base ho0) hb); replace HO109 := am (Kd.R_elder' (KR HO109) (Kd.R_base ho0) hb); replace BK106 := am (BB BK106 hb); replace HB := am (below_step (K1 HB GE106.out) hb); (try clear hb); (try clear hb2); (try clear hk); (try clear hi); (try clear ho0)))
    (try simp only [Act.put, List.setIfInBounds_toArray, List.set_cons_zero, List.set_cons_succ])
    go_cut [52] (fun v52 wc => ∃ (kq : Nat) (x52_8 : Bool), v52 = .bool x52_8 ∧ Aside0 (laws_FnWaysGone.j1 kq l1 t101 t107 t110 t111 t114 x52_8 t104 t105 = some r) ∧ Aside0 (kq ≤ kj2) ∧ Aside0 (Kd.R k86 86 wc w.heap.size (fun k_ => some k_ ≠ (v108 : Value).ownBlock ∧ some k_ ≠ (v112 : Value).ownBlock) (.slice Ao13 t101.length co13) t101) ∧ Aside0 (Kd.R k86 86 wc w.heap.size (fun k_ => some k_ ≠ ((.slice Ao13 t101.length co13) : Value).ownBlock ∧ some k_ ≠ (v112 : Value).ownBlock) v108 t107) ∧ Aside0 (Kd.R k86 86 wc w.heap.size (fun k_ => some k_ ≠ ((.slice Ao13 t101.length co13) : Value).ownBlock ∧ some k_ ≠ (v108 : Value).ownBlock) v112 t111) ∧ Aside0 (wc.heap[gb106]? = some (.cells #[.int .i64 t104, .int .i64 t105] 32 (0, 0))) ∧ Aside0 (Below w.heap.size w wc))
    case first =>
     have H := HC9.out
     clear HC9
     by_cases c17 : (t110 != t114) = true
     ·rw [if_pos c17] at H
      have c17b0 : (t110 != t114) = true := c17
      (try (have c17b1 : decide (t110 = t114) = false := by simpa using c17))
      (try (have c17b2 : (t110 == t114) = false := by simpa using c17))
      (try (have c17b3 : ¬ (t110 = t114) := by simpa using c17))
      clear c17
      (first | rw [c17b0] | (simp only [i64_w, i32_w]; rw [c17b0]) | skip)
      have H' := Aside0.mk H
      clear H
      go_wp2
      go_meet
      case rel => exact ⟨_, (true), (by first | rfl | (simp; done) | (simp [*]; done)), H', ⟨by have := HJ2.out; first | omega | exact Nat.le_refl _⟩, ⟨by (with_reducible repeat (first | apply Kd.R_alloc | apply Kd.R_drewN | apply Kd.R_drew)); exact Kd.R_mono HO103.out (fun _ hk => ⟨hk.1.2, hk.2⟩)⟩, ⟨by (with_reducible repeat (first | apply Kd.R_alloc | apply Kd.R_drewN | apply Kd.R_drew)); exact Kd.R_mono HO109.out (fun _ hk => ⟨hk.1.2, hk.2⟩)⟩, ⟨by (with_reducible repeat (first | apply Kd.R_alloc | apply Kd.R_drewN | apply Kd.R_drew)); exact Kd.R_mono HO113.out (fun _ hk => ⟨hk.1.2, hk.2⟩)⟩, ⟨KB BK106⟩, ⟨K1 HB GE106.out⟩⟩
     ·rw [if_neg c17] at H
      have c17b0 : (t110 != t114) = false := by simpa using c17
      (try (have c17b1 : decide (t110 = t114) = true := by simpa using c17))
      (try (have c17b2 : (t110 == t114) = true := by simpa using c17))
      clear c17
      (first | rw [c17b0] | (simp only [i64_w, i32_w]; rw [c17b0]) | skip)
      replace H := Option.bind_eq_some_iff.mp H
      obtain ⟨t115, A180, H⟩ := H
      replace H : (if t115 = true then (laws_FnWaysGone.j1 kj2 l1 t101 t107 t110 t111 t114 (!t110) t104 t105) else (laws_FnWaysGone.j1 kj2 l1 t101 t107 t110 t111 t114 true t104 t105)) = some r := H
      have A18 := Aside0.mk A180
      clear A180
      by_cases c19 : t115 = true
      ·subst c19
       have H1 : (laws_FnWaysGone.j1 kj2 l1 t101 t107 t110 t111 t114 (!t110) t104 t105) = some r := by rw [if_pos rfl] at H; exact H
       clear H
       have H := H1
       clear H1
       have H' := Aside0.mk H
       clear H
       obtain ⟨Ao20, co20, eo20⟩ := Kd.R_slice HO109.out
       subst eo20
       obtain ⟨Ao21, co21, eo21⟩ := Kd.R_slice HO113.out
       subst eo21
       go_wp2_with (first | (go_at_call 61; (with_reducible refine (laws_ovWays.calls kj2 _ _ t107 _ _ t111 true _ ?side1 ?side2 ?side3 ?side4 A18.out).mono ?_); (case side1 => exact KC (Kd.R_reads' HO109.out).2.2); (case side2 => exact (Kd.R_reads' HO109.out).2.1); (case side3 => exact KC (Kd.R_reads' HO113.out).2.2); (case side4 => exact (Kd.R_reads' HO113.out).2.1); rintro e w' ⟨rfl, ⟨nd, rfl⟩⟩))
       go_meet
       case rel => exact ⟨_, (!t110), (by first | rfl | (simp; done) | (simp [*]; done)), H', ⟨by have := HJ2.out; first | omega | exact Nat.le_refl _⟩, ⟨by (with_reducible repeat (first | apply Kd.R_alloc | apply Kd.R_drewN | apply Kd.R_drew)); exact Kd.R_mono HO103.out (fun _ hk => ⟨hk.1.2, hk.2⟩)⟩, ⟨by (with_reducible repeat (first | apply Kd.R_alloc | apply Kd.R_drewN | apply Kd.R_drew)); exact Kd.R_mono HO109.out (fun _ hk => ⟨hk.1.2, hk.2⟩)⟩, ⟨by (with_reducible repeat (first | apply Kd.R_alloc | apply Kd.R_drewN | apply Kd.R_drew)); exact Kd.R_mono HO113.out (fun _ hk => ⟨hk.1.2, hk.2⟩)⟩, ⟨KB BK106⟩, ⟨K1 HB GE106.out⟩⟩
      ·replace c19 := Bool.eq_false_iff.mpr c19
       subst c19
       have H1 : (laws_FnWaysGone.j1 kj2 l1 t101 t107 t110 t111 t114 true t104 t105) = some r := by rw [if_neg (show ¬ (false = true) by decide)] at H; exact H
       clear H
       have H := H1
       clear H1
       have H' := Aside0.mk H
       clear H
       obtain ⟨Ao22, co22, eo22⟩ := Kd.R_slice HO109.out
       subst eo22
       obtain ⟨Ao23, co23, eo23⟩ := Kd.R_slice HO113.out
       subst eo23
       go_wp2_with (first | (go_at_call 61; (with_reducible refine (laws_ovWays.calls kj2 _ _ t107 _ _ t111 false _ ?side1 ?side2 ?side3 ?side4 A18.out).mono ?_); (case side1 => exact KC (Kd.R_reads' HO109.out).2.2); (case side2 => exact (Kd.R_reads' HO109.out).2.1); (case side3 => exact KC (Kd.R_reads' HO113.out).2.2); (case side4 => exact (Kd.R_reads' HO113.out).2.1); rintro e w' ⟨rfl, ⟨nd, rfl⟩⟩))
       go_meet
       case rel => exact ⟨_, (true), (by first | rfl | (simp; done) | (simp [*]; done)), H', ⟨by have := HJ2.out; first | omega | exact Nat.le_refl _⟩, ⟨by (with_reducible repeat (first | apply Kd.R_alloc | apply Kd.R_drewN | apply Kd.R_drew)); exact Kd.R_mono HO103.out (fun _ hk => ⟨hk.1.2, hk.2⟩)⟩, ⟨by (with_reducible repeat (first | apply Kd.R_alloc | apply Kd.R_drewN | apply Kd.R_drew)); exact Kd.R_mono HO109.out (fun _ hk => ⟨hk.1.2, hk.2⟩)⟩, ⟨by (with_reducible repeat (first | apply Kd.R_alloc | apply Kd.R_drewN | apply Kd.R_drew)); exact Kd.R_mono HO113.out (fun _ hk => ⟨hk.1.2, hk.2⟩)⟩, ⟨KB BK106⟩, ⟨K1 HB GE106.out⟩⟩
    case rest =>
     clear HC9
     try clear c1
     try clear p2
     try clear c4
     try clear c4b0
     try clear c4b1
     try clear c5
     try clear c6
     try clear c13
     try clear c17
     try clear c17b0
     try clear c17b1
     try clear c17b2
     try clear c19
     try clear hcz12_0
     try clear hcz12_1
     try clear hcz15_0
     try clear hcz15_1
     try clear hfz12_0
     try clear hfz12_1
     try clear hfz15_0
     try clear hfz15_1
     try clear p2
     obtain ⟨kq, x52_8, rfl, HA, HJ8, HO_5, HO_7, HO_9, BK106, HB⟩ := hcut
     cases kq with
     | zero => exact absurd HA.out (by simp [laws_FnWaysGone.j1])
     | succ kj8 =>
      have H := HA.out
      clear HA
      simp only [laws_FnWaysGone.j1] at H
      by_cases c24 : x52_8 = true
      ·subst c24
       have H1 : (if (t110 == t114) = true then ((laws_ovWays.f kj8 t107 t111).bind fun t116 => (if t116 = true then (if t110 = true then (some true) else ((spec_WaysOk.f kj8 t101).bind fun t117 => (if t117 = true then ((laws_ovWays.f kj8 t107 t101).bind fun t118 => (some t118)) else (some true)))) else (some false))) else (some false)) = some r := by rw [if_pos rfl] at H; exact H
       clear H
       have H := H1
       clear H1
       by_cases c25 : (t110 == t114) = true
       ·rw [if_pos c25] at H
        have c25b0 : (t110 == t114) = true := c25
        (try (have c25b1 : decide (t110 = t114) = true := by simpa using c25))
        (try (have c25b2 : (t110 == t114) = true := by simpa using c25))
        clear c25
        replace H := Option.bind_eq_some_iff.mp H
        obtain ⟨t116, A260, H⟩ := H
        replace H : (if t116 = true then (if t110 = true then (some true) else ((spec_WaysOk.f kj8 t101).bind fun t117 => (if t117 = true then ((laws_ovWays.f kj8 t107 t101).bind fun t118 => (some t118)) else (some true)))) else (some false)) = some r := H
        have A26 := Aside0.mk A260
        clear A260
        by_cases c27 : t116 = true
        ·subst c27
         have H1 : (if t110 = true then (some true) else ((spec_WaysOk.f kj8 t101).bind fun t117 => (if t117 = true then ((laws_ovWays.f kj8 t107 t101).bind fun t118 => (some t118)) else (some true)))) = some r := by rw [if_pos rfl] at H; exact H
         clear H
         have H := H1
         clear H1
         by_cases c28 : t110 = true
         ·subst c28
          have H1 : (some true) = some r := by rw [if_pos rfl] at H; exact H
          clear H
          have H := H1
          clear H1
          obtain rfl := Option.some.inj H
          obtain ⟨Ao29, co29, eo29⟩ := Kd.R_slice HO_7.out
          subst eo29
          obtain ⟨Ao30, co30, eo30⟩ := Kd.R_slice HO_9.out
          subst eo30
          go_wp2_with (first | (go_at_call 61; (with_reducible refine (laws_ovWays.calls kj8 _ _ t107 _ _ t111 true _ ?side1 ?side2 ?side3 ?side4 A26.out).mono ?_); (case side1 => exact KC (Kd.R_reads' HO_7.out).2.2); (case side2 => exact (Kd.R_reads' HO_7.out).2.1); (case side3 => exact KC (Kd.R_reads' HO_9.out).2.2); (case side4 => exact (Kd.R_reads' HO_9.out).2.1); rintro e w' ⟨rfl, ⟨nd, rfl⟩⟩))
          go_ret
          exact ⟨by first | rfl | (simp [errW_none, errW_some] <;> rfl) | (simp [*, errW_none, errW_some] <;> rfl), K1 HB GE106.out⟩
         ·replace c28 := Bool.eq_false_iff.mpr c28
          subst c28
          have H1 : ((spec_WaysOk.f kj8 t101).bind fun t117 => (if t117 = true then ((laws_ovWays.f kj8 t107 t101).bind fun t118 => (some t118)) else (some true))) = some r := by rw [if_neg (show ¬ (false = true) by decide)] at H; exact H
          clear H
          have H := H1
          clear H1
          replace H := Option.bind_eq_some_iff.mp H
          obtain ⟨t117, A310, H⟩ := H
          replace H : (if t117 = true then ((laws_ovWays.f kj8 t107 t101).bind fun t118 => (some t118)) else (some true)) = some r := H
          have A31 := Aside0.mk A310
          clear A310
          by_cases c32 : t117 = true
          ·subst c32
           have H1 : ((laws_ovWays.f kj8 t107 t101).bind fun t118 => (some t118)) = some r := by rw [if_pos rfl] at H; exact H
           clear H
           have H := H1
           clear H1
           replace H := Option.bind_eq_some_iff.mp H
           obtain ⟨t118, A330, H⟩ := H
           replace H : (some t118) = some r := H
           have A33 := Aside0.mk A330
           clear A330
           obtain rfl := Option.some.inj H
           obtain ⟨Ao34, co34, eo34⟩ := Kd.R_slice HO_7.out
           subst eo34
           obtain ⟨Ao35, co35, eo35⟩ := Kd.R_slice HO_9.out
           subst eo35
           go_wp2_with (first | (go_at_call 61; (with_reducible refine (laws_ovWays.calls kj8 _ _ t107 _ _ t111 true _ ?side1 ?side2 ?side3 ?side4 A26.out).mono ?_); (case side1 => exact KC (Kd.R_reads' HO_7.out).2.2); (case side2 => exact (Kd.R_reads' HO_7.out).2.1); (case side3 => exact KC (Kd.R_reads' HO_9.out).2.2); (case side4 => exact (Kd.R_reads' HO_9.out).2.1); clear A26; rintro e w' ⟨rfl, ⟨nd, rfl⟩⟩) | (go_at_call 58; (with_reducible refine (spec_WaysOk.calls kj8 _ _ t101 true _ ?side1 ?side2 A31.out).mono ?_); (case side1 => exact KC (Kd.R_reads' HO_5.out).2.2); (case side2 => exact (Kd.R_reads' HO_5.out).2.1); rintro e w36 ⟨rfl, hb⟩; replace HO_5 := am (Kd.R_below (KR HO_5) hb); replace HO_7 := am (Kd.R_below (KR HO_7) hb); replace HO_9 := am (Kd.R_below (KR HO_9) hb); replace BK106 := am (BB BK106 hb); replace HB := am (below_step (K1 HB GE106.out) hb); (try clear hb); (try clear hb2); (try clear hk); (try clear hi)) | (go_at_call 61; (with_reducible refine (laws_ovWays.calls kj8 _ _ t107 _ _ t101 t118 _ ?side1 ?side2 ?side3 ?side4 A33.out).mono ?_); (case side1 => exact KC (Kd.R_reads' HO_7.out).2.2); (case side2 => exact (Kd.R_reads' HO_7.out).2.1); (case side3 => exact KC (Kd.R_reads' HO_5.out).2.2); (case side4 => exact (Kd.R_reads' HO_5.out).2.1); rintro e w' ⟨rfl, ⟨nd, rfl⟩⟩))
           go_ret
           exact ⟨by first | rfl | (simp [errW_none, errW_some] <;> rfl) | (simp [*, errW_none, errW_some] <;> rfl), K1 HB GE106.out⟩
          ·replace c32 := Bool.eq_false_iff.mpr c32
           subst c32
           have H1 : (some true) = some r := by rw [if_neg (show ¬ (false = true) by decide)] at H; exact H
           clear H
           have H := H1
           clear H1
           obtain rfl := Option.some.inj H
           obtain ⟨Ao37, co37, eo37⟩ := Kd.R_slice HO_7.out
           subst eo37
           obtain ⟨Ao38, co38, eo38⟩ := Kd.R_slice HO_9.out
           subst eo38
           go_wp2_with (first | (go_at_call 61; (with_reducible refine (laws_ovWays.calls kj8 _ _ t107 _ _ t111 true _ ?side1 ?side2 ?side3 ?side4 A26.out).mono ?_); (case side1 => exact KC (Kd.R_reads' HO_7.out).2.2); (case side2 => exact (Kd.R_reads' HO_7.out).2.1); (case side3 => exact KC (Kd.R_reads' HO_9.out).2.2); (case side4 => exact (Kd.R_reads' HO_9.out).2.1); rintro e w' ⟨rfl, ⟨nd, rfl⟩⟩) | (go_at_call 58; (with_reducible refine (spec_WaysOk.calls kj8 _ _ t101 false _ ?side1 ?side2 A31.out).mono ?_); (case side1 => exact KC (Kd.R_reads' HO_5.out).2.2); (case side2 => exact (Kd.R_reads' HO_5.out).2.1); rintro e w39 ⟨rfl, hb⟩; replace HO_5 := am (Kd.R_below (KR HO_5) hb); replace HO_7 := am (Kd.R_below (KR HO_7) hb); replace HO_9 := am (Kd.R_below (KR HO_9) hb); replace BK106 := am (BB BK106 hb); replace HB := am (below_step (K1 HB GE106.out) hb); (try clear hb); (try clear hb2); (try clear hk); (try clear hi)))
           go_ret
           exact ⟨by first | rfl | (simp [errW_none, errW_some] <;> rfl) | (simp [*, errW_none, errW_some] <;> rfl), K1 HB GE106.out⟩
        ·replace c27 := Bool.eq_false_iff.mpr c27
         subst c27
         have H1 : (some false) = some r := by rw [if_neg (show ¬ (false = true) by decide)] at H; exact H
         clear H
         have H := H1
         clear H1
         exact absurd ((Option.some.inj H).trans HR_.out) (by decide)
       ·rw [if_neg c25] at H
        have c25b0 : (t110 == t114) = false := by simpa using c25
        (try (have c25b1 : decide (t110 = t114) = false := by simpa using c25))
        (try (have c25b2 : (t110 == t114) = false := by simpa using c25))
        (try (have c25b3 : ¬ (t110 = t114) := by simpa using c25))
        clear c25
        exact absurd ((Option.some.inj H).trans HR_.out) (by decide)
      ·replace c24 := Bool.eq_false_iff.mpr c24
       subst c24
       have H1 : ((spec_DrawWaysLead.f kj8 l1).bind fun bt119 => ((impl_WaysGone.f kj8 t107 t104 t105).bind fun bt123 => ((impl_WaysOk.f kj8 t107).bind fun t127 => (if t127 = true then (if bt123.2 = true then (some false) else (if (wrap64 ((t107.length : Int) + 1)) = (t101.length : Int) then ((impl_BlockHas.f t104 t105 bt119.2).bind fun t128 => (if t128 = true then (some true) else ((impl_WaysLead.f kj8 t107 bt119.2).bind fun t129 => ((impl_WaysLead.f kj8 t101 bt119.2).bind fun t130 => (some (t129 == t130)))))) else (some false))) else (some false))))) = some r := by rw [if_neg (show ¬ (false = true) by decide)] at H; exact H
       clear H
       have H := H1
       clear H1
       replace H := Option.bind_eq_some_iff.mp H
       obtain ⟨⟨t119, t120⟩, A400, H⟩ := H
       replace H : ((impl_WaysGone.f kj8 t107 t104 t105).bind fun bt123 => ((impl_WaysOk.f kj8 t107).bind fun t127 => (if t127 = true then (if bt123.2 = true then (some false) else (if (wrap64 ((t107.length : Int) + 1)) = (t101.length : Int) then ((impl_BlockHas.f t104 t105 t120).bind fun t128 => (if t128 = true then (some true) else ((impl_WaysLead.f kj8 t107 t120).bind fun t129 => ((impl_WaysLead.f kj8 t101 t120).bind fun t130 => (some (t129 == t130)))))) else (some false))) else (some false)))) = some r := H
       have A40 := Aside0.mk A400
       clear A400
       replace H := Option.bind_eq_some_iff.mp H
       obtain ⟨⟨t123, t126⟩, A410, H⟩ := H
       replace H : ((impl_WaysOk.f kj8 t107).bind fun t127 => (if t127 = true then (if t126 = true then (some false) else (if (wrap64 ((t107.length : Int) + 1)) = (t101.length : Int) then ((impl_BlockHas.f t104 t105 t120).bind fun t128 => (if t128 = true then (some true) else ((impl_WaysLead.f kj8 t107 t120).bind fun t129 => ((impl_WaysLead.f kj8 t101 t120).bind fun t130 => (some (t129 == t130)))))) else (some false))) else (some false))) = some r := H
       have A41 := Aside0.mk A410
       clear A410
       replace H := Option.bind_eq_some_iff.mp H
       obtain ⟨t127, A420, H⟩ := H
       replace H : (if t127 = true then (if t126 = true then (some false) else (if (wrap64 ((t107.length : Int) + 1)) = (t101.length : Int) then ((impl_BlockHas.f t104 t105 t120).bind fun t128 => (if t128 = true then (some true) else ((impl_WaysLead.f kj8 t107 t120).bind fun t129 => ((impl_WaysLead.f kj8 t101 t120).bind fun t130 => (some (t129 == t130)))))) else (some false))) else (some false)) = some r := H
       have A42 := Aside0.mk A420
       clear A420
       by_cases c43 : t127 = true
       ·subst c43
        have H1 : (if t126 = true then (some false) else (if (wrap64 ((t107.length : Int) + 1)) = (t101.length : Int) then ((impl_BlockHas.f t104 t105 t120).bind fun t128 => (if t128 = true then (some true) else ((impl_WaysLead.f kj8 t107 t120).bind fun t129 => ((impl_WaysLead.f kj8 t101 t120).bind fun t130 => (some (t129 == t130)))))) else (some false))) = some r := by rw [if_pos rfl] at H; exact H
        clear H
        have H := H1
        clear H1
        by_cases c44 : t126 = true
        ·subst c44
         have H1 : (some false) = some r := by rw [if_pos rfl] at H; exact H
         clear H
         have H := H1
         clear H1
         exact absurd ((Option.some.inj H).trans HR_.out) (by decide)
        ·replace c44 := Bool.eq_false_iff.mpr c44
         subst c44
         have H1 : (if (wrap64 ((t107.length : Int) + 1)) = (t101.length : Int) then ((impl_BlockHas.f t104 t105 t120).bind fun t128 => (if t128 = true then (some true) else ((impl_WaysLead.f kj8 t107 t120).bind fun t129 => ((impl_WaysLead.f kj8 t101 t120).bind fun t130 => (some (t129 == t130)))))) else (some false)) = some r := by rw [if_neg (show ¬ (false = true) by decide)] at H; exact H
         clear H
         have H := H1
         clear H1
         by_cases c45 : (wrap64 ((t107.length : Int) + 1)) = (t101.length : Int)
         ·rw [if_pos c45] at H
          have c45b0 : ((wrap64 ((t107.length : Int) + 1)) == (t101.length : Int)) = true := beq_iff_eq.mpr c45
          have c45b1 : ((wrap64 ((t107.length : Int) + 1)) != (t101.length : Int)) = false := bne_eq_false_iff_eq.mpr c45
          clear c45
          replace H := Option.bind_eq_some_iff.mp H
          obtain ⟨t128, A460, H⟩ := H
          replace H : (if t128 = true then (some true) else ((impl_WaysLead.f kj8 t107 t120).bind fun t129 => ((impl_WaysLead.f kj8 t101 t120).bind fun t130 => (some (t129 == t130))))) = some r := H
          have A46 := Aside0.mk A460
          clear A460
          by_cases c47 : t128 = true
          ·subst c47
           have H1 : (some true) = some r := by rw [if_pos rfl] at H; exact H
           clear H
           have H := H1
           clear H1
           obtain rfl := Option.some.inj H
           go_wp2_with (first | ((with_reducible refine gate_callee (f := 55) rfl ?_); refine goesL_ (some 76) rfl rfl Try.func55 (by kernel_rfl) rfl #[.slice A1 l1.length c1] rfl MT ?_; (with_reducible refine (spec_DrawWaysLead.calls kj8 _ _ l1 t119 t120 _ ?side1 ?side2 A40.out).mono ?_); (case side1 => exact KC (Kd.C_below HR1.out HB.out)); (case side2 => exact HC1.out); rintro e w48 ⟨v121, rfl, ho0, hb⟩; refine ⟨_, rfl, ?_⟩; have HO122 := am (Kd.R_lower (Kd.R_new' (Kd.R_new' (Kd.R_new' ho0 (Kd.R_lt (KR HO_5))) (Kd.R_lt (KR HO_7))) (Kd.R_lt (KR HO_9))) (below_size (K1 HB GE106.out))); replace HO_5 := am (Kd.R_elder' (KR HO_5) (Kd.R_base ho0) hb); replace HO_7 := am (Kd.R_elder' (KR HO_7) (Kd.R_base ho0) hb); replace HO_9 := am (Kd.R_elder' (KR HO_9) (Kd.R_base ho0) hb); replace BK106 := am (BB BK106 hb); replace HB := am (below_step (K1 HB GE106.out) hb); (try clear hb); (try clear hb2); (try clear hk); (try clear hi); (try clear ho0); have hcz49_0 := z0 w48 BK106.out; have hcz49_1 := z1 w48 BK106.out; have hfz49_0 := blk_frozen BK106.out 0; have hfz49_1 := blk_frozen BK106.out 1; obtain ⟨Ao50, co50, eo50⟩ := Kd.R_slice HO_7.out; subst eo50) | ((with_reducible refine gate_callee (f := 65) rfl ?_); refine goesL_ (some 82) rfl rfl Try.func65 (by kernel_rfl) rfl #[.slice Ao50 t107.length co50, .agg #[.int .i64 t104, .int .i64 t105]] rfl MT ?_; (with_reducible refine (impl_WaysGone.calls kj8 _ _ t107 t104 t105 t123 false _ ?side1 ?side2 A41.out).mono ?_); (case side1 => exact KC (Kd.R_reads' HO_7.out).2.2); (case side2 => exact (Kd.R_reads' HO_7.out).2.1); rintro e w51 ⟨v124, rfl, ho0, hb⟩; refine ⟨_, rfl, ?_⟩; have HO125 := am (Kd.R_lower (Kd.R_new' (Kd.R_new' (Kd.R_new' (Kd.R_new' ho0 (Kd.R_lt (KR HO_5))) (Kd.R_lt (KR HO_7))) (Kd.R_lt (KR HO_9))) (Kd.R_lt (KR HO122))) (below_size (K1 HB GE106.out))); replace HO_5 := am (Kd.R_elder' (KR HO_5) (Kd.R_base ho0) hb); replace HO_7 := am (Kd.R_elder' (KR HO_7) (Kd.R_base ho0) hb); replace HO_9 := am (Kd.R_elder' (KR HO_9) (Kd.R_base ho0) hb); replace HO122 := am (Kd.R_elder' (KR HO122) (Kd.R_base ho0) hb); replace BK106 := am (BB BK106 hb); replace HB := am (below_step (K1 HB GE106.out) hb); (try clear hb); (try clear hb2); (try clear hk); (try clear hi); (try clear ho0)) | ((with_reducible refine gate_callee (f := 63) rfl ?_); refine goesL_ (some 86) rfl rfl Try.func63 (by kernel_rfl) rfl #[.slice Ao50 t107.length co50] rfl MT ?_; (with_reducible refine (impl_WaysOk.calls kj8 _ _ t107 true _ ?side1 ?side2 A42.out).mono ?_); (case side1 => exact KC (Kd.R_reads' HO_7.out).2.2); (case side2 => exact (Kd.R_reads' HO_7.out).2.1); rintro e w52 ⟨rfl, hb⟩; refine ⟨_, rfl, ?_⟩; replace HO_5 := am (Kd.R_below (KR HO_5) hb); replace HO_7 := am (Kd.R_below (KR HO_7) hb); replace HO_9 := am (Kd.R_below (KR HO_9) hb); replace HO122 := am (Kd.R_below (KR HO122) hb); replace HO125 := am (Kd.R_below (KR HO125) hb); replace BK106 := am (BB BK106 hb); replace HB := am (below_step (K1 HB GE106.out) hb); (try clear hb); (try clear hb2); (try clear hk); (try clear hi); have hcz53_0 := z0 w52 BK106.out; have hcz53_1 := z1 w52 BK106.out; have hfz53_0 := blk_frozen BK106.out 0; have hfz53_1 := blk_frozen BK106.out 1) | (go_at_call 59; (with_reducible refine (impl_BlockHas.calls t104 t105 t120 true _ A46.out).mono ?_); rintro e w54 ⟨rfl, hb⟩; replace HO_5 := am (Kd.R_below (KR HO_5) hb); replace HO_7 := am (Kd.R_below (KR HO_7) hb); replace HO_9 := am (Kd.R_below (KR HO_9) hb); replace HO122 := am (Kd.R_below (KR HO122) hb); replace HO125 := am (Kd.R_below (KR HO125) hb); replace BK106 := am (BB BK106 hb); replace HB := am (below_step (K1 HB GE106.out) hb); (try clear hb); (try clear hb2); (try clear hk); (try clear hi)))
           go_ret
           exact ⟨by first | rfl | (simp [errW_none, errW_some] <;> rfl) | (simp [*, errW_none, errW_some] <;> rfl), K1 HB GE106.out⟩
          ·replace c47 := Bool.eq_false_iff.mpr c47
           subst c47
           have H1 : ((impl_WaysLead.f kj8 t107 t120).bind fun t129 => ((impl_WaysLead.f kj8 t101 t120).bind fun t130 => (some (t129 == t130)))) = some r := by rw [if_neg (show ¬ (false = true) by decide)] at H; exact H
           clear H
           have H := H1
           clear H1
           replace H := Option.bind_eq_some_iff.mp H
           obtain ⟨t129, A550, H⟩ := H
           replace H : ((impl_WaysLead.f kj8 t101 t120).bind fun t130 => (some (t129 == t130))) = some r := H
           have A55 := Aside0.mk A550
           clear A550
           replace H := Option.bind_eq_some_iff.mp H
           obtain ⟨t130, A560, H⟩ := H
           replace H : (some (t129 == t130)) = some r := H
           have A56 := Aside0.mk A560
           clear A560
           obtain rfl := Option.some.inj H
           go_wp2_with (first | ((with_reducible refine gate_callee (f := 55) rfl ?_); refine goesL_ (some 76) rfl rfl Try.func55 (by kernel_rfl) rfl #[.slice A1 l1.length c1] rfl MT ?_; (with_reducible refine (spec_DrawWaysLead.calls kj8 _ _ l1 t119 t120 _ ?side1 ?side2 A40.out).mono ?_); (case side1 => exact KC (Kd.C_below HR1.out HB.out)); (case side2 => exact HC1.out); rintro e w57 ⟨v121, rfl, ho0, hb⟩; refine ⟨_, rfl, ?_⟩; have HO122 := am (Kd.R_lower (Kd.R_new' (Kd.R_new' (Kd.R_new' ho0 (Kd.R_lt (KR HO_5))) (Kd.R_lt (KR HO_7))) (Kd.R_lt (KR HO_9))) (below_size (K1 HB GE106.out))); replace HO_5 := am (Kd.R_elder' (KR HO_5) (Kd.R_base ho0) hb); replace HO_7 := am (Kd.R_elder' (KR HO_7) (Kd.R_base ho0) hb); replace HO_9 := am (Kd.R_elder' (KR HO_9) (Kd.R_base ho0) hb); replace BK106 := am (BB BK106 hb); replace HB := am (below_step (K1 HB GE106.out) hb); (try clear hb); (try clear hb2); (try clear hk); (try clear hi); (try clear ho0); have hcz58_0 := z0 w57 BK106.out; have hcz58_1 := z1 w57 BK106.out; have hfz58_0 := blk_frozen BK106.out 0; have hfz58_1 := blk_frozen BK106.out 1; obtain ⟨Ao59, co59, eo59⟩ := Kd.R_slice HO_7.out; subst eo59) | ((with_reducible refine gate_callee (f := 65) rfl ?_); refine goesL_ (some 82) rfl rfl Try.func65 (by kernel_rfl) rfl #[.slice Ao59 t107.length co59, .agg #[.int .i64 t104, .int .i64 t105]] rfl MT ?_; (with_reducible refine (impl_WaysGone.calls kj8 _ _ t107 t104 t105 t123 false _ ?side1 ?side2 A41.out).mono ?_); (case side1 => exact KC (Kd.R_reads' HO_7.out).2.2); (case side2 => exact (Kd.R_reads' HO_7.out).2.1); rintro e w60 ⟨v124, rfl, ho0, hb⟩; refine ⟨_, rfl, ?_⟩; have HO125 := am (Kd.R_lower (Kd.R_new' (Kd.R_new' (Kd.R_new' (Kd.R_new' ho0 (Kd.R_lt (KR HO_5))) (Kd.R_lt (KR HO_7))) (Kd.R_lt (KR HO_9))) (Kd.R_lt (KR HO122))) (below_size (K1 HB GE106.out))); replace HO_5 := am (Kd.R_elder' (KR HO_5) (Kd.R_base ho0) hb); replace HO_7 := am (Kd.R_elder' (KR HO_7) (Kd.R_base ho0) hb); replace HO_9 := am (Kd.R_elder' (KR HO_9) (Kd.R_base ho0) hb); replace HO122 := am (Kd.R_elder' (KR HO122) (Kd.R_base ho0) hb); replace BK106 := am (BB BK106 hb); replace HB := am (below_step (K1 HB GE106.out) hb); (try clear hb); (try clear hb2); (try clear hk); (try clear hi); (try clear ho0)) | ((with_reducible refine gate_callee (f := 63) rfl ?_); refine goesL_ (some 86) rfl rfl Try.func63 (by kernel_rfl) rfl #[.slice Ao59 t107.length co59] rfl MT ?_; (with_reducible refine (impl_WaysOk.calls kj8 _ _ t107 true _ ?side1 ?side2 A42.out).mono ?_); (case side1 => exact KC (Kd.R_reads' HO_7.out).2.2); (case side2 => exact (Kd.R_reads' HO_7.out).2.1); rintro e w61 ⟨rfl, hb⟩; refine ⟨_, rfl, ?_⟩; replace HO_5 := am (Kd.R_below (KR HO_5) hb); replace HO_7 := am (Kd.R_below (KR HO_7) hb); replace HO_9 := am (Kd.R_below (KR HO_9) hb); replace HO122 := am (Kd.R_below (KR HO122) hb); replace HO125 := am (Kd.R_below (KR HO125) hb); replace BK106 := am (BB BK106 hb); replace HB := am (below_step (K1 HB GE106.out) hb); (try clear hb); (try clear hb2); (try clear hk); (try clear hi); have hcz62_0 := z0 w61 BK106.out; have hcz62_1 := z1 w61 BK106.out; have hfz62_0 := blk_frozen BK106.out 0; have hfz62_1 := blk_frozen BK106.out 1) | (go_at_call 59; (with_reducible refine (impl_BlockHas.calls t104 t105 t120 false _ A46.out).mono ?_); rintro e w63 ⟨rfl, hb⟩; replace HO_5 := am (Kd.R_below (KR HO_5) hb); replace HO_7 := am (Kd.R_below (KR HO_7) hb); replace HO_9 := am (Kd.R_below (KR HO_9) hb); replace HO122 := am (Kd.R_below (KR HO122) hb); replace HO125 := am (Kd.R_below (KR HO125) hb); replace BK106 := am (BB BK106 hb); replace HB := am (below_step (K1 HB GE106.out) hb); (try clear hb); (try clear hb2); (try clear hk); (try clear hi)) | (go_at_call 56; (with_reducible refine (impl_WaysLead.calls kj8 _ _ t107 t120 t129 _ ?side1 ?side2 A55.out).mono ?_); (case side1 => exact KC (Kd.R_reads' HO_7.out).2.2); (case side2 => exact (Kd.R_reads' HO_7.out).2.1); clear A55; rintro e w64 ⟨rfl, hb⟩; replace HO_5 := am (Kd.R_below (KR HO_5) hb); replace HO_7 := am (Kd.R_below (KR HO_7) hb); replace HO_9 := am (Kd.R_below (KR HO_9) hb); replace HO122 := am (Kd.R_below (KR HO122) hb); replace HO125 := am (Kd.R_below (KR HO125) hb); replace BK106 := am (BB BK106 hb); replace HB := am (below_step (K1 HB GE106.out) hb); (try clear hb); (try clear hb2); (try clear hk); (try clear hi)) | (go_at_call 56; (with_reducible refine (impl_WaysLead.calls kj8 _ _ t101 t120 t130 _ ?side1 ?side2 A56.out).mono ?_); (case side1 => exact KC (Kd.R_reads' HO_5.out).2.2); (case side2 => exact (Kd.R_reads' HO_5.out).2.1); rintro e w65 ⟨rfl, hb⟩; replace HO_5 := am (Kd.R_below (KR HO_5) hb); replace HO_7 := am (Kd.R_below (KR HO_7) hb); replace HO_9 := am (Kd.R_below (KR HO_9) hb); replace HO122 := am (Kd.R_below (KR HO122) hb); replace HO125 := am (Kd.R_below (KR HO125) hb); replace BK106 := am (BB BK106 hb); replace HB := am (below_step (K1 HB GE106.out) hb); (try clear hb); (try clear hb2); (try clear hk); (try clear hi)))
           go_ret
           exact ⟨by first | rfl | (simp [errW_none, errW_some] <;> rfl) | (simp [*, errW_none, errW_some] <;> rfl), K1 HB GE106.out⟩
         ·rw [if_neg c45] at H
          have c45b0 : ((wrap64 ((t107.length : Int) + 1)) == (t101.length : Int)) = false := beq_eq_false_iff_ne.mpr c45
          have c45b1 : ((wrap64 ((t107.length : Int) + 1)) != (t101.length : Int)) = true := bne_iff_ne.mpr c45
          exact absurd ((Option.some.inj H).trans HR_.out) (by decide)
       ·replace c43 := Bool.eq_false_iff.mpr c43
        subst c43
        have H1 : (some false) = some r := by rw [if_neg (show ¬ (false = true) by decide)] at H; exact H
        clear H
        have H := H1
        clear H1
        exact absurd ((Option.some.inj H).trans HR_.out) (by decide)
/-- THE ONE PURE STATEMENT of laws_FnWaysGone: yours. -/
def laws_FnWaysGone.Pure : Prop := ∀ (l0 : List Int) (l1 : List Int), l0.length ≤ maxLen → l0.length * 1 ≤ 140737488351232 → (∀ x ∈ l0, (Lit.int .u8 x).wf = true) → l1.length ≤ maxLen → l1.length * 1 ≤ 140737488351232 → (∀ x ∈ l1, (Lit.int .u8 x).wf = true) → ∃ k, laws_FnWaysGone.f k l0 l1 = some true
theorem laws_FnWaysGone.walk (P : laws_FnWaysGone.Pure) (a0 : Option Addr) (len0 cap0 : Nat) (z0 : List Int) (a1 : Option Addr) (len1 cap1 : Nat) (z1 : List Int) (w : World) (w0 : (a0 = none ∧ len0 = 0 ∧ cap0 = 0 ∧ z0 = []) ∨ ∃ x, a0 = some x ∧ len0 ≤ cap0 ∧ cap0 ≤ maxLen ∧ z0.length = cap0 ∧ (∀ i, i < z0.length → w.cell? (x.add i) = some (.int .u8 (z0.getD i 0))) ∧ ∀ n ∈ z0, (Lit.int .u8 n).wf = true) (y0 : len0 * 1 ≤ 140737488351232) (w1 : (a1 = none ∧ len1 = 0 ∧ cap1 = 0 ∧ z1 = []) ∨ ∃ x, a1 = some x ∧ len1 ≤ cap1 ∧ cap1 ≤ maxLen ∧ z1.length = cap1 ∧ (∀ i, i < z1.length → w.cell? (x.add i) = some (.int .u8 (z1.getD i 0))) ∧ ∀ n ∈ z1, (Lit.int .u8 n).wf = true) (y1 : len1 * 1 ≤ 140737488351232) :
  Calls Try.prog 13 #[.slice a0 len0 cap0, .slice a1 len1 cap1] w fun e w' => e = .returned (.bool true) ∧ Below w.heap.size w w' := by
 obtain ⟨l0, rfl, hr0, hm0, hw0, hc0⟩ := ReadsInt.ofRowC w0
 obtain ⟨l1, rfl, hr1, hm1, hw1, hc1⟩ := ReadsInt.ofRowC w1
 obtain ⟨k, h⟩ := P l0 l1 hm0 y0 hw0 hm1 y1 hw1
 refine (laws_FnWaysGone.calls k _ _ l0 _ _ l1 true w (Kd.C_of_reads (d := (0 : Int)) (h1 := fun _ => rfl) hr0) hc0 (Kd.C_of_reads (d := (0 : Int)) (h1 := fun _ => rfl) hr1) hc1 rfl h).mono ?_
 rintro e w' ⟨rfl, hd⟩
 exact ⟨rfl, hd⟩
end Go.Proofs.Ytioghacieopbdaa.PAll
end
