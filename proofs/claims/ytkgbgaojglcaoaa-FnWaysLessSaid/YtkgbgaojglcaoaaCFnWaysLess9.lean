/- Contracts of the functions that the statement reaches, printed by a program out of the translation and joined with the plain laws. -/
import Derived.Shelf.RegionOpenPlain
import Derived.WalkKit
import Derived.Deep.LoopGhost
import Derived.Deep.RegionLaw
import Derived.Lib.Walk
import Derived.Lib.SliceRun
import Derived.Laws.IdiomCopy
import Derived.Lib.LazyBuf
import Derived.Test.YtkgbgaojglcaoaaCFnWaysLess3
import Derived.Test.YtkgbgaojglcaoaaCFnWaysLess4
import Derived.Test.YtkgbgaojglcaoaaCFnWaysLess5
import Derived.Test.YtkgbgaojglcaoaaCFnWaysLess8
section
namespace Go.Proofs.Ytkgbgaojglcaoaa.PAll
open Go.RowKit Go.Proofs.YtkgbgaojglcaoaaW.PrintWords Go.Proofs.YtkgbgaojglcaoaaW.PrintLast Go.Proofs.YtkgbgaojglcaoaaW.PrintMore
attribute [local go_sem] max2_int min2_int max_two min_two max_three min_three max_four min_four   -- for this text's walks alone
set_option linter.unusedVariables false
set_option linter.unusedSimpArgs false
theorem clear_cells {P : Program} (w : World) (t e ty : TypeId) (z : Value) (ht : P.underlying t = some (.slice e)) (hv : ∀ w, (zeroValue e).run P w = .ok z w) (b o n c : Nat) (hn : 0 < n)
  (h1 : ∀ v ∈ (Builtin.zeroCells z.cells n).toList, v.oneCell' = true)
  (hc : ∀ j, j < (Builtin.zeroCells z.cells n).toList.length → (w.cell? ⟨b, o + j, none⟩).isSome = true) (hf : ∀ j, j < (Builtin.zeroCells z.cells n).toList.length → w.frozen? ⟨b, o + j, none⟩ = false) :
  (Builtin.clear_ #[t] ty #[.slice (some ⟨b, o, none⟩) n c]).run P w = .ok (.tuple #[]) (w.setCells b o (Builtin.zeroCells z.cells n).toList) := by
 have hst := run_storeCells_cells (P := P) b o (Builtin.zeroCells z.cells n).toList 0 w (by simpa using hc) (by simpa using hf) h1
 simp only [Nat.add_zero] at hst
 obtain ⟨m, rfl⟩ : ∃ m, n = m + 1 := ⟨n - 1, by omega⟩
 simp [Builtin.clear_, run_underlying ht, hv, hst]
theorem zeroCells_len (z : Array Value) (n : Nat) : (Builtin.zeroCells z n).toList.length = n * z.size := by
 simp [Builtin.zeroCells, Nat.mul_comm]
theorem blk_some {w : World} {g : Nat} {cur : Array Value} {e : TypeId} (h : w.heap[g]? = some (.cells cur e (0, 0))) (o : Nat) (ho : o < cur.size) : (w.cell? ⟨g, o, none⟩).isSome = true := by
 rw [blk_cell h o]; simp [ho]
theorem zeroCells_one (z : Array Value) (n : Nat) (h : ∀ v ∈ z, v.oneCell' = true) : ∀ v ∈ (Builtin.zeroCells z n).toList, v.oneCell' = true := by
 intro v hv
 simp only [Builtin.zeroCells, Array.toList_map, List.mem_map] at hv
 obtain ⟨i, hi, rfl⟩ := hv
 rw [Array.mem_toList_iff, Array.mem_range] at hi
 have hz : 0 < z.size := by
  rcases Nat.eq_zero_or_pos z.size with h0 | h0
  ·rw [h0] at hi; omega
  ·exact h0
 rw [getElem!_pos z _ (Nat.mod_lt _ hz)]
 exact h _ (Array.getElem_mem _)
set_option maxHeartbeats 4000000 in
set_option maxRecDepth 1000000 in
theorem slices_Delete_Way.walk (g n c i j : Nat) (cur : Array Value) (w : World) (hg : w.heap[g]? = some (.cells cur 45 (0, 0))) (hn : n ≤ c) (hm : c ≤ 9223372036854775807) (hs : cur.size = c * 3) (hij : i < j) (hj : j ≤ n)
  (h1 : ∀ v ∈ (cur.toList.drop (j * 3)).take ((n - j) * 3), v.oneCell' = true) :
  Calls Try.prog 78 #[.slice (some ⟨g, 0, none⟩) n c, .int .i64 i, .int .i64 j] w fun e w' => e = .returned (.slice (some ⟨g, 0, none⟩) (n - (j - i)) c) ∧
   w' = (w.drew.setCells g (i * 3) ((cur.toList.drop (j * 3)).take ((n - j) * 3))).setCells g ((n - (j - i)) * 3) (Builtin.zeroCells (Value.agg #[(.int .i64 0), (.int .i64 0), (.int .i64 0)]).cells (j - i)).toList := by
 obtain ⟨news, hnews⟩ : ∃ news, news = (cur.toList.drop (j * 3)).take ((n - j) * 3) := ⟨_, rfl⟩
 rw [← hnews] at h1 ⊢
 have hlen : news.length = (n - j) * 3 := by rw [hnews]; simp; omega
 have hget : ∀ t, t < (n - j) * 3 → news[t]? = cur[j * 3 + t]? := fun t ht => by rw [hnews, List.getElem?_take_of_lt ht, List.getElem?_drop, Array.getElem?_toList]
 obtain ⟨A, hA, hsrc⟩ : ∃ A : Addr, (if c = j then some (⟨g, 0, none⟩ : Addr) else some ⟨g, j * 3, none⟩) = some A ∧ Hid (∀ t u, news[t]? = some u → w.drew.cell? (A.add t) = some u) := by
  by_cases h : c = j
  ·refine ⟨⟨g, 0, none⟩, by simp [h], fun t u hu => ?_⟩
   have h0 : news.length = 0 := by rw [hlen]; omega
   rw [List.length_eq_zero_iff.1 h0] at hu
   simp at hu
  ·refine ⟨⟨g, j * 3, none⟩, by simp [h], fun t u hu => ?_⟩
   have ht : t < (n - j) * 3 := by
    have := (List.getElem?_eq_some_iff.1 hu).1
    rwa [hlen] at this
   rw [hget t ht] at hu
   rw [Addr.add_lit]
   exact (blk_cell hg (j * 3 + t)).trans hu
 have s1 : Hid (news.length = (n - j) * 3) := hlen
 have s2 : Hid (∀ u ∈ news, u.oneCell' = true) := h1
 have s3 : Hid (∀ t, t < news.length → (w.drew.cell? ⟨g, 0 + i * 3 + t, none⟩).isSome = true ∧ w.drew.frozen? ⟨g, 0 + i * 3 + t, none⟩ = false) := by
  intro t ht
  rw [hlen] at ht
  exact ⟨blk_some hg _ (by omega), blk_frozen hg _⟩
 obtain ⟨W1, hW1⟩ : ∃ W1, W1 = w.drew.setCells g (0 + i * 3) news := ⟨_, rfl⟩
 obtain ⟨cur1, hc1, hsz1, _⟩ := setCells_row news (0 + i * 3) w.drew cur hg (by rw [hlen, hs]; omega)
 rw [← hW1] at hc1
 have hz1 : ∀ v ∈ (Builtin.zeroCells (Value.agg #[(.int .i64 0), (.int .i64 0), (.int .i64 0)]).cells (j - i)).toList, v.oneCell' = true := zeroCells_one _ _ (by decide)
 have hzl : (Builtin.zeroCells (Value.agg #[(.int .i64 0), (.int .i64 0), (.int .i64 0)]).cells (j - i)).toList.length = (j - i) * 3 := zeroCells_len _ _
 have hcl : ∀ ty, (Builtin.clear_ #[26] ty #[.slice (some ⟨g, (i + (n - j)) * 3, none⟩) (n - (i + (n - j))) (c - (i + (n - j)))]).run Try.prog W1 = .ok (.tuple #[]) (W1.setCells g ((i + (n - j)) * 3) (Builtin.zeroCells (Value.agg #[(.int .i64 0), (.int .i64 0), (.int .i64 0)]).cells (j - i)).toList) := fun ty => by
  rw [show n - (i + (n - j)) = j - i by omega]
  exact clear_cells W1 26 45 ty _ Try.underlying26 Try.zeroValue45 g ((i + (n - j)) * 3) (j - i) _ (by omega) hz1 (fun t ht => blk_some hc1 _ (by rw [hzl] at ht; rw [hsz1, hs]; omega)) (fun t ht => blk_frozen hc1 _)
 have hW : Hid (W1 = w.drew.setCells g (0 + i * 3) news) := hW1
 have hic : i ≤ c := by omega
 have hjc : j ≤ c := by omega
 have hu26 := Try.underlying26
 have hmx : Try.prog.follows .mixedOrders = true := by kernel_rfl
 have hij2 : ¬ ((i : Int) = (j : Int)) := by omega
 obtain ⟨i0, hi0, hii⟩ : ∃ i0, Try.prog.info? 45 = some i0 ∧ i0.size = 3 := by
  have := info45
  cases h : Try.prog.info? 45 with
  | none => rw [h] at this; cases this
  | some i0 => rw [h] at this; simp at this; exact ⟨i0, rfl, this.2.1⟩
 clear hW1 hc1 hsz1 hg hget hlen hnews h1 hs
 go_enter Try.func78, Try.ntmps78
 go_wp2_with fail
 go_region_law_o (refine step_append_room rfl (.tmp 22) (.tmp 25) 26 rfl 45 i0 3 Try.underlying26 hi0 hii g 0 i c (by simp [Act.eval, Act.put]) A (n - j) (c - j) news (by simp [Act.eval, Act.put]) s1.out hsrc.out s2.out (by omega) s3.out ?_; rw [← hW.out])
 go_wp2
 go_ret
 refine ⟨by rw [show n - (j - i) = i + (n - j) by omega]; rfl, ?_⟩
 rw [show n - (j - i) = i + (n - j) by omega, hW.out, Nat.zero_add]
 rfl
def slices_Delete_Way.f (l0 : List S45) (a1 a2 : Int) : Option (List S45) := if 0 ≤ a1 then (if a1 < a2 then (if a2 ≤ (l0.length : Int) then some (l0.take a1.toNat ++ l0.drop a2.toNat) else none) else none) else none
set_option maxHeartbeats 4000000 in
theorem slices_Delete_Way.calls (P0_ : Nat → Prop) (u9000_ : Value) (l0 : List S45) (a1 a2 : Int) (r : List S45) (w0 w : World) (hB : Below w0.heap.size w0 w) (ho0 : Kd.R k45 45 w w0.heap.size P0_ u9000_ l0) (h : slices_Delete_Way.f l0 a1 a2 = some r) :
  Calls Try.prog 78 #[u9000_, .int .i64 a1, .int .i64 a2] w fun e w' => ∃ v0_ : Value, e = .returned (v0_) ∧ Kd.R k45 45 w' w0.heap.size (fun k_ => (P0_ k_ ∨ w.heap.size ≤ k_)) v0_ r ∧ Below w0.heap.size w0 w' ∧ Kept w w' (fun k_ => P0_ k_) := by
 unfold slices_Delete_Way.f at h
 by_cases c1 : 0 ≤ a1
 ·rw [if_pos c1] at h
  by_cases c2 : a1 < a2
  ·rw [if_pos c2] at h
   by_cases c3 : a2 ≤ (l0.length : Int)
   ·rw [if_pos c3] at h
    obtain rfl := Option.some.inj h
    obtain ⟨i, rfl⟩ : ∃ i : Nat, a1 = i := ⟨a1.toNat, by omega⟩
    obtain ⟨j, rfl⟩ : ∃ j : Nat, a2 = j := ⟨a2.toNat, by omega⟩
    simp only [Int.toNat_natCast]
    obtain ⟨hP, inner, ⟨hil, hcase⟩, hr⟩ := ho0
    rcases hcase with ⟨rfl, h0⟩ | ⟨g, c, cur, rfl, hgb, hh, hnc, hcm, hcs, htake⟩
    ·omega
    have hP' := hP g rfl
    have hil' : inner.length = l0.length * 3 := hil
    have hcs' : cur.size = c * 3 := hcs
    have htake' : cur.toList.take (l0.length * 3) = inner := htake
    have hone : ∀ v ∈ inner, v.oneCell' = true := by
     intro v hv
     obtain ⟨q, hq, rfl⟩ := List.getElem_of_mem hv
     have hqm : q / 3 < l0.length := by omega
     have hrr := hr.2 (q / 3) _ (List.getElem?_eq_getElem hqm)
     refine k45.K_one (k45.K_of_M hrr) _ (List.mem_of_getElem? (i := q % 3) ?_)
     rw [show k45.sz = 3 from rfl, List.getElem?_take_of_lt (Nat.mod_lt _ (by omega)), List.getElem?_drop, List.getElem?_eq_getElem (by omega)]
     simp only [show q / 3 * 3 + q % 3 = q by omega]
    have hnews : (cur.toList.drop (j * 3)).take ((l0.length - j) * 3) = inner.drop (j * 3) := by
     rw [← htake', List.drop_take, Nat.sub_mul]
    have hnl : (inner.drop (j * 3)).length = (l0.length - j) * 3 := by rw [List.length_drop, hil', Nat.sub_mul]
    have hw := slices_Delete_Way.walk g l0.length c i j cur w hh hnc hcm hcs' (by omega) (by omega) (fun v hv => hone v (by rw [hnews] at hv; exact List.mem_of_mem_drop hv))
    rw [hnews] at hw
    refine hw.mono ?_
    rintro e w' ⟨rfl, rfl⟩
    obtain ⟨cur1, hc1, hs1, ht1⟩ := setCells_row (inner.drop (j * 3)) (i * 3) w.drew cur hh (by rw [hnl, hcs']; omega)
    have hzl : (Builtin.zeroCells (Value.agg #[(.int .i64 0), (.int .i64 0), (.int .i64 0)]).cells (j - i)).toList.length = (j - i) * 3 := zeroCells_len _ _
    obtain ⟨cur2, hc2, hs2, ht2⟩ := setCells_row (Builtin.zeroCells (Value.agg #[(.int .i64 0), (.int .i64 0), (.int .i64 0)]).cells (j - i)).toList ((l0.length - (j - i)) * 3) _ cur1 hc1 (by rw [hzl, hs1, hcs']; omega)
    have hrl : (l0.take i ++ l0.drop j).length = l0.length - (j - i) := by simp; omega
    have hfar : ∀ k, k ≠ g → ((w.drew.setCells g (i * 3) (inner.drop (j * 3))).setCells g ((l0.length - (j - i)) * 3) (Builtin.zeroCells (Value.agg #[(.int .i64 0), (.int .i64 0), (.int .i64 0)]).cells (j - i)).toList).heap[k]? = w.heap[k]? := fun k hk => (setCells_far _ _ k hk).trans (setCells_far _ _ k hk)
    refine ⟨_, rfl, ⟨fun k hk => .inl (hP k hk), inner.take (i * 3) ++ inner.drop (j * 3), ⟨?_, .inr ⟨g, c, cur2, by rw [hrl], hgb, hc2, by omega, hcm, by rw [hs2, hs1]; exact hcs, ?_⟩⟩, ?_⟩, Go.below_setCells hgb _ _ _ (Go.below_setCells hgb _ _ _ (below_drew hB)), ?_, ?_⟩
    ·rw [List.length_append, List.length_take, hnl, hrl, hil', show k45.sz = 3 from rfl]; omega
    ·have e1 : cur1.toList.take (i * 3 + (l0.length - j) * 3) = cur.toList.take (i * 3) ++ inner.drop (j * 3) := by
      rw [ht1]
      refine List.take_left' ?_
      rw [List.length_append, List.length_take, hnl, show cur.toList.length = cur.size from Array.length_toList, hcs']; omega
     rw [ht2, hrl, show k45.sz = 3 from rfl, List.append_assoc]
     rw [List.take_left' (by rw [List.length_take, show cur1.toList.length = cur1.size from Array.length_toList, hs1, hcs']; omega), show (l0.length - (j - i)) * 3 = i * 3 + (l0.length - j) * 3 by omega, e1, ← htake', List.take_take, Nat.min_eq_left (by omega)]
    ·have hr' : Reps (k45.M ((w.drew.setCells g (i * 3) (inner.drop (j * 3))).setCells g ((l0.length - (j - i)) * 3) (Builtin.zeroCells (Value.agg #[(.int .i64 0), (.int .i64 0), (.int .i64 0)]).cells (j - i)).toList) w0.heap.size (fun k => (P0_ k ∨ w.heap.size ≤ k) ∧ some k ≠ (Value.slice (some ⟨g, 0, none⟩) (l0.length - (j - i)) c).ownBlock)) k45.sz l0 inner :=
      hr.imp_ (fun p cs hm => k45.M_mono (fun k hk => ⟨.inl hk.1, hk.2⟩) (Kd.M_step hm (fun k hk _ => hfar k (fun e => hk.2 (by rw [e]; rfl)))))
     exact Kd.reps_append (Kd.reps_take hr' (by omega)) (Kd.reps_drop hr')
    ·rw [(setCells_same _ _ _ _).2.2.2, (setCells_same _ _ _ _).2.2.2]
     exact Nat.le_refl _
    ·exact fun k hk hn => hfar k (fun e => hn (by rw [e]; exact hP'))
   ·rw [if_neg c3] at h; cases h
  ·rw [if_neg c2] at h; cases h
 ·rw [if_neg c1] at h; cases h
def impl_WaysGone.f (k : Nat) (l0 : List (S45)) (a1_0 : Int) (a1_1 : Int) : Option ((List (S45)) × Bool) := (impl_WaysOk.f k l0).bind fun t102 => (if t102 = true then ((slices_Clone_Way.f l0).bind fun t103 => ((impl_find.f k t103 a1_0 a1_1).bind fun bt106 => (if bt106.2 = true then ((slices_Delete_Way.f t103 bt106.1 (wrap64 (bt106.1 + 1))).bind fun t108 => (some (t108, true))) else (some (t103, false))))) else (some (([] : List (S45)), false)))
set_option maxHeartbeats 8000000 in
set_option maxRecDepth 100000 in
theorem impl_WaysGone.calls (k : Nat) (A0 : Option Addr) (c0 : Nat) (l0 : List (S45)) (a1_0 : Int) (a1_1 : Int) (r1 : List (S45)) (r2 : Bool) (w : World) (hr0 : Kd.C k45 w A0 l0.length l0) (hc0 : l0.length ≤ c0) (h : impl_WaysGone.f k l0 a1_0 a1_1 = some (r1, r2)) :
  Calls Try.prog 27 #[.slice A0 l0.length c0, .agg #[.int .i64 a1_0, .int .i64 a1_1]] w fun e w' => ∃ v0_ : Value, e = .returned (.tuple #[v0_, .bool r2]) ∧ Kd.R k45 45 w' w.heap.size (fun _ => True) v0_ r1 ∧ Below w.heap.size w w' := by
 have hu43 := Try.underlying43
 have HR0 := Aside0.mk hr0
 have HC0 := Aside0.mk hc0
 clear hr0 hc0
 have HB := am (Below.refl w.heap.size w)
 have H : ((impl_WaysOk.f k l0).bind fun t102 => (if t102 = true then ((slices_Clone_Way.f l0).bind fun t103 => ((impl_find.f k t103 a1_0 a1_1).bind fun bt106 => (if bt106.2 = true then ((slices_Delete_Way.f t103 bt106.1 (wrap64 (bt106.1 + 1))).bind fun t108 => (some (t108, true))) else (some (t103, false))))) else (some (([] : List (S45)), false)))) = some (r1, r2) := h
 clear h
 replace H := Option.bind_eq_some_iff.mp H
 obtain ⟨t102, A30, H⟩ := H
 replace H : (if t102 = true then ((slices_Clone_Way.f l0).bind fun t103 => ((impl_find.f k t103 a1_0 a1_1).bind fun bt106 => (if bt106.2 = true then ((slices_Delete_Way.f t103 bt106.1 (wrap64 (bt106.1 + 1))).bind fun t108 => (some (t108, true))) else (some (t103, false))))) else (some (([] : List (S45)), false))) = some (r1, r2) := H
 have A3 := Aside0.mk A30
 clear A30
 by_cases c4 : t102 = true
 ·subst c4
  have H1 : ((slices_Clone_Way.f l0).bind fun t103 => ((impl_find.f k t103 a1_0 a1_1).bind fun bt106 => (if bt106.2 = true then ((slices_Delete_Way.f t103 bt106.1 (wrap64 (bt106.1 + 1))).bind fun t108 => (some (t108, true))) else (some (t103, false))))) = some (r1, r2) := by rw [if_pos rfl] at H; exact H
  clear H
  have H := H1
  clear H1
  replace H := Option.bind_eq_some_iff.mp H
  obtain ⟨t103, A50, H⟩ := H
  replace H : ((impl_find.f k t103 a1_0 a1_1).bind fun bt106 => (if bt106.2 = true then ((slices_Delete_Way.f t103 bt106.1 (wrap64 (bt106.1 + 1))).bind fun t108 => (some (t108, true))) else (some (t103, false)))) = some (r1, r2) := H
  have A5 := Aside0.mk A50
  clear A50
  replace H := Option.bind_eq_some_iff.mp H
  obtain ⟨⟨t106, t107⟩, A60, H⟩ := H
  replace H : (if t107 = true then ((slices_Delete_Way.f t103 t106 (wrap64 (t106 + 1))).bind fun t108 => (some (t108, true))) else (some (t103, false))) = some (r1, r2) := H
  have A6 := Aside0.mk A60
  clear A60
  by_cases c7 : t107 = true
  ·subst c7
   have H1 : ((slices_Delete_Way.f t103 t106 (wrap64 (t106 + 1))).bind fun t108 => (some (t108, true))) = some (r1, r2) := by rw [if_pos rfl] at H; exact H
   clear H
   have H := H1
   clear H1
   replace H := Option.bind_eq_some_iff.mp H
   obtain ⟨t108, A80, H⟩ := H
   replace H : (some (t108, true)) = some (r1, r2) := H
   have A8 := Aside0.mk A80
   clear A80
   simp only [Option.some.injEq, Prod.mk.injEq] at H
   obtain ⟨rfl, rfl⟩ := H
   go_enter Try.func27, Try.ntmps27
   go_wp2_with (first | ((with_reducible refine gate_dst (N := 3) rfl ?_); refine box_event rfl (N := 3) rfl (cs := #[.int .i64 a1_0, .int .i64 a1_1]) (t := 43) BX ?_; intro gb101 hg w9 hbox hb; have BK101 := am (hbox); have GW101 := am (GH HB hg); have GE101 := GW101; replace HB := am (below_step (KL HB) hb); clear hb hbox hg) | ((with_reducible refine gate_callee (f := 29) rfl ?_); refine goesL_ (some 10) rfl rfl Try.func29 (by kernel_rfl) rfl #[.slice A0 l0.length c0] rfl MT ?_; (with_reducible refine (impl_WaysOk.calls k _ _ l0 true _ ?side1 ?side2 A3.out).mono ?_); (case side1 => exact KD HR0 HB); (case side2 => exact HC0.out); rintro e w10 ⟨rfl, hb⟩; refine ⟨_, rfl, ?_⟩; replace BK101 := am (BB BK101 hb); replace HB := am (below_step (K1 HB GE101.out) hb); (try clear hb)) | ((with_reducible refine gate_callee (f := 76) rfl ?_); refine goesL_ (some 13) rfl rfl Try.func76 (by kernel_rfl) rfl #[.slice A0 l0.length c0] rfl MT ?_; (with_reducible refine (slices_Clone_Way.calls _ _ l0 t103 _ ?side1 ?side2 A5.out).mono ?_); (case side1 => exact KD HR0 HB); (case side2 => exact HC0.out); rintro e w11 ⟨v104, rfl, ho0, hb⟩; refine ⟨_, rfl, ?_⟩; have HO105 := am (Kd.R_lower ho0 (below_size (K1 HB GE101.out))); replace BK101 := am (BB BK101 hb); replace HB := am (below_step (K1 HB GE101.out) hb); (try clear hb); (try clear ho0); obtain ⟨hcz12_0, hcz12_1, hfz12_0⟩ := y2 w11 BK101.out; obtain ⟨Ao13, co13, eo13⟩ := Kd.R_slice HO105.out; subst eo13) | ((with_reducible refine gate_callee (f := 77) rfl ?_); refine goesL_ (some 17) rfl rfl Try.func77 (by kernel_rfl) rfl #[.slice Ao13 t103.length co13, .agg #[.int .i64 a1_0, .int .i64 a1_1]] rfl MT ?_; (with_reducible refine (impl_find.calls k _ _ t103 a1_0 a1_1 t106 true _ ?side1 ?side2 A6.out).mono ?_); (case side1 => exact KC (Kd.R_reads' HO105.out).2.2); (case side2 => exact (Kd.R_reads' HO105.out).2.1); rintro e w14 ⟨rfl, hb⟩; refine ⟨_, rfl, ?_⟩; replace HO105 := am (Kd.R_below (KR HO105) hb); replace BK101 := am (BB BK101 hb); replace HB := am (below_step (K1 HB GE101.out) hb); (try clear hb)) | ((with_reducible refine gate_callee (f := 78) rfl ?_); refine goesL_ (some 27) rfl rfl Try.func78 (by kernel_rfl) rfl #[.slice Ao13 t103.length co13, .int .i64 t106, .int .i64 (wrap64 (t106 + 1))] rfl MT ?_; (with_reducible refine (slices_Delete_Way.calls (fun k_ => some k_ = (.slice Ao13 t103.length co13 : Value).ownBlock) (.slice Ao13 t103.length co13) t103 t106 (wrap64 (t106 + 1)) t108 w _ ?side1 ?side2 A8.out).mono ?_); (case side1 => exact K1 HB GE101.out); (case side2 => exact Kd.R_tight rfl HO105.out); rintro e w15 ⟨v109, rfl, ho0, hb, hkp⟩; refine ⟨_, rfl, ?_⟩; replace BK101 := am (blk_kept (KB BK101) hkp (fun hs_ => (fun e_ => (Kd.R_ne HO105.out BK101.out (by decide)) e_) hs_)); have HO110 := am (Kd.R_mono (ok' := fun k_ => True) ho0 (fun k_ hk_ => trivial)); replace HB := am (hb); clear HO105; (try clear hb); (try clear hkp); (try clear ho0)))
   go_ret2
   exact ⟨_, ER, by (with_reducible repeat (first | apply Kd.R_alloc | apply Kd.R_drewN | apply Kd.R_drew)); exact HO110.out, K1 HB GE101.out⟩
  ·replace c7 := Bool.eq_false_iff.mpr c7
   subst c7
   have H1 : (some (t103, false)) = some (r1, r2) := by rw [if_neg (show ¬ (false = true) by decide)] at H; exact H
   clear H
   have H := H1
   clear H1
   simp only [Option.some.injEq, Prod.mk.injEq] at H
   obtain ⟨rfl, rfl⟩ := H
   go_enter Try.func27, Try.ntmps27
   go_wp2_with (first | ((with_reducible refine gate_dst (N := 3) rfl ?_); refine box_event rfl (N := 3) rfl (cs := #[.int .i64 a1_0, .int .i64 a1_1]) (t := 43) BX ?_; intro gb101 hg w16 hbox hb; have BK101 := am (hbox); have GW101 := am (GH HB hg); have GE101 := GW101; replace HB := am (below_step (KL HB) hb); clear hb hbox hg) | ((with_reducible refine gate_callee (f := 29) rfl ?_); refine goesL_ (some 10) rfl rfl Try.func29 (by kernel_rfl) rfl #[.slice A0 l0.length c0] rfl MT ?_; (with_reducible refine (impl_WaysOk.calls k _ _ l0 true _ ?side1 ?side2 A3.out).mono ?_); (case side1 => exact KD HR0 HB); (case side2 => exact HC0.out); rintro e w17 ⟨rfl, hb⟩; refine ⟨_, rfl, ?_⟩; replace BK101 := am (BB BK101 hb); replace HB := am (below_step (K1 HB GE101.out) hb); (try clear hb)) | ((with_reducible refine gate_callee (f := 76) rfl ?_); refine goesL_ (some 13) rfl rfl Try.func76 (by kernel_rfl) rfl #[.slice A0 l0.length c0] rfl MT ?_; (with_reducible refine (slices_Clone_Way.calls _ _ l0 t103 _ ?side1 ?side2 A5.out).mono ?_); (case side1 => exact KD HR0 HB); (case side2 => exact HC0.out); rintro e w18 ⟨v104, rfl, ho0, hb⟩; refine ⟨_, rfl, ?_⟩; have HO105 := am (Kd.R_lower ho0 (below_size (K1 HB GE101.out))); replace BK101 := am (BB BK101 hb); replace HB := am (below_step (K1 HB GE101.out) hb); (try clear hb); (try clear ho0); obtain ⟨hcz19_0, hcz19_1, hfz19_0⟩ := y2 w18 BK101.out; obtain ⟨Ao20, co20, eo20⟩ := Kd.R_slice HO105.out; subst eo20) | ((with_reducible refine gate_callee (f := 77) rfl ?_); refine goesL_ (some 17) rfl rfl Try.func77 (by kernel_rfl) rfl #[.slice Ao20 t103.length co20, .agg #[.int .i64 a1_0, .int .i64 a1_1]] rfl MT ?_; (with_reducible refine (impl_find.calls k _ _ t103 a1_0 a1_1 t106 false _ ?side1 ?side2 A6.out).mono ?_); (case side1 => exact KC (Kd.R_reads' HO105.out).2.2); (case side2 => exact (Kd.R_reads' HO105.out).2.1); rintro e w21 ⟨rfl, hb⟩; refine ⟨_, rfl, ?_⟩; replace HO105 := am (Kd.R_below (KR HO105) hb); replace BK101 := am (BB BK101 hb); replace HB := am (below_step (K1 HB GE101.out) hb); (try clear hb)))
   go_ret2
   exact ⟨_, ER, by (with_reducible repeat (first | apply Kd.R_alloc | apply Kd.R_drewN | apply Kd.R_drew)); exact HO105.out, K1 HB GE101.out⟩
 ·replace c4 := Bool.eq_false_iff.mpr c4
  subst c4
  have H1 : (some (([] : List (S45)), false)) = some (r1, r2) := by rw [if_neg (show ¬ (false = true) by decide)] at H; exact H
  clear H
  have H := H1
  clear H1
  simp only [Option.some.injEq, Prod.mk.injEq] at H
  obtain ⟨rfl, rfl⟩ := H
  go_enter Try.func27, Try.ntmps27
  go_wp2_with (first | ((with_reducible refine gate_dst (N := 3) rfl ?_); refine box_event rfl (N := 3) rfl (cs := #[.int .i64 a1_0, .int .i64 a1_1]) (t := 43) BX ?_; intro gb101 hg w22 hbox hb; have BK101 := am (hbox); have GW101 := am (GH HB hg); have GE101 := GW101; replace HB := am (below_step (KL HB) hb); clear hb hbox hg) | ((with_reducible refine gate_callee (f := 29) rfl ?_); refine goesL_ (some 10) rfl rfl Try.func29 (by kernel_rfl) rfl #[.slice A0 l0.length c0] rfl MT ?_; (with_reducible refine (impl_WaysOk.calls k _ _ l0 false _ ?side1 ?side2 A3.out).mono ?_); (case side1 => exact KD HR0 HB); (case side2 => exact HC0.out); rintro e w23 ⟨rfl, hb⟩; refine ⟨_, rfl, ?_⟩; replace BK101 := am (BB BK101 hb); replace HB := am (below_step (K1 HB GE101.out) hb); (try clear hb)))
  go_ret2
  exact ⟨_, ER, by first | exact Kd.R_nil _ _ _ _ _ | exact Kd.N_nil _ _ _ _ _ | exact Kd.V_nil _ _ _ _ _ | exact Kd.Q_nil _ _ _ _ _ | exact Kd.S_nil _ _ _ _ _, K1 HB GE101.out⟩
end Go.Proofs.Ytkgbgaojglcaoaa.PAll
end
