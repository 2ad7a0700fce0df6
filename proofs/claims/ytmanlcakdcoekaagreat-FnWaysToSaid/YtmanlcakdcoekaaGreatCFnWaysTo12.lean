/- Contracts of the functions that the statement reaches, printed by a program out of the translation and joined with the plain laws. -/
import Derived.Shelf.Sort.Plain
import Derived.Shelf.Slices.CompactI
import Derived.Test.YtmanlcakdcoekaaGreatCFnWaysTo3
import Derived.Test.YtmanlcakdcoekaaGreatCFnWaysTo4
import Derived.Test.YtmanlcakdcoekaaGreatCFnWaysTo5
import Derived.Test.YtmanlcakdcoekaaGreatCFnWaysTo7
section
namespace Go.Proofs.YtmanlcakdcoekaaGreat.PAll
open Go.RowKit Go.Proofs.YtmanlcakdcoekaaGreatW.PrintWords Go.Proofs.YtmanlcakdcoekaaGreatW.PrintLast Go.Proofs.YtmanlcakdcoekaaGreatW.PrintMore
attribute [local go_sem] max2_int min2_int max_two min_two max_three min_three max_four min_four   -- for this text's walks alone
set_option linter.unusedVariables false
set_option linter.unusedSimpArgs false
theorem srt.reps {l : List Int} {cs : List Value} {w : World} {b : Nat} {ok : Nat → Prop} (h : Reps ((Kd.int .i64).M w b ok) 1 l cs) : cs = l.map (Value.int .i64) := by
 have hl := h.1
 refine List.ext_getElem? fun k => ?_
 by_cases hk : k < l.length
 ·have h2 : (cs.drop (k * 1)).take 1 = [Value.int .i64 l[k]] := h.2 k _ (List.getElem?_eq_getElem hk)
  have h3 := congrArg (fun z => z[0]?) h2
  simp only [List.getElem?_take_of_lt (Nat.lt_succ_self 0), List.getElem?_drop, Nat.mul_one, Nat.add_zero] at h3
  rw [h3, List.getElem?_map, List.getElem?_eq_getElem hk]; rfl
 ·rw [List.getElem?_eq_none (by omega), List.getElem?_eq_none (by rw [List.length_map]; omega)]
theorem srt.ints (l : List Int) (w : World) (b : Nat) (ok : Nat → Prop) : Reps ((Kd.int .i64).M w b ok) 1 l (l.map (Value.int .i64)) := by
 refine ⟨by simp, fun k x hx => ?_⟩
 show ((l.map (Value.int .i64)).drop (k * 1)).take 1 = [Value.int .i64 x]
 refine List.ext_getElem? fun q => ?_
 rcases q with _ | q
 ·rw [List.getElem?_take_of_lt (Nat.lt_succ_self 0), List.getElem?_drop, Nat.mul_one, Nat.add_zero, List.getElem?_map, hx]; rfl
 ·rw [List.getElem?_eq_none (by rw [List.length_take]; omega), List.getElem?_eq_none (by simp)]
theorem srt.mk {e base : Nat} {w' : World} {ok : Nat → Prop} {g c : Nat} {cur : Array Value} {xs : List Int} (hok : ok g) (hb : base ≤ g) (hh : w'.heap[g]? = some (.cells cur e (0, 0))) (hl : xs.length ≤ c) (hc : c ≤ maxLen) (hs : cur.size = c)
  (ht : cur.toList.take xs.length = xs.map (Value.int .i64)) : Kd.R (Kd.int .i64) e w' base ok (.slice (some ⟨g, 0, none⟩) xs.length c) xs :=
 ⟨fun k hk => by cases hk; exact hok, xs.map (Value.int .i64), ⟨by rw [List.length_map]; exact (Nat.mul_one _).symm, .inr ⟨g, c, cur, rfl, hb, hh, hl, hc, hs.trans (Nat.mul_one c).symm, (congrArg (fun z => cur.toList.take z) (Nat.mul_one _)).trans ht⟩⟩, srt.ints _ _ _ _⟩
theorem srt.cell {w : World} {g e : Nat} {cur : Array Value} {row : List Int} (h : w.heap[g]? = some (.cells cur e (0, 0))) (ht : cur.toList.take row.length = row.map (Value.int .i64)) : Sort.Holds (Value.int .i64) w g 0 row.toArray := by
 intro k hk
 have hk' : k < row.length := by simpa using hk
 refine ⟨?_, blk_frozen h _⟩
 rw [blk_cell h (0 + k), Nat.zero_add, ← Array.getElem?_toList, ← List.getElem?_take_of_lt hk', ht, List.getElem?_map, List.getElem?_eq_getElem hk']
 simp [hk']
/-- A world in which a row has been written, and new blocks lie behind. -/
theorem srt.world {w : World} {g e n : Nat} {cur : Array Value} {ys : List Int} {os : Array Obj} (h : w.heap[g]? = some (.cells cur e (0, 0))) (hl : ys.length ≤ cur.size) :
  ∃ cur', (Sort.grow (Sort.putRow (Value.int .i64) (Sort.ahead w n) g 0 ys.toArray) os).heap[g]? = some (.cells cur' e (0, 0)) ∧ cur'.size = cur.size ∧ cur'.toList.take ys.length = ys.map (Value.int .i64) ∧
   (∀ k, k < w.heap.size → k ≠ g → (Sort.grow (Sort.putRow (Value.int .i64) (Sort.ahead w n) g 0 ys.toArray) os).heap[k]? = w.heap[k]?) ∧ w.heap.size ≤ (Sort.grow (Sort.putRow (Value.int .i64) (Sort.ahead w n) g 0 ys.toArray) os).heap.size := by
 have hg := blk_lt h
 have hsz : (Sort.putRow (Value.int .i64) (Sort.ahead w n) g 0 ys.toArray).heap.size = w.heap.size := by simp [Sort.putRow, Sort.mapBlock, Sort.ahead]
 have hat : ∀ k, k < w.heap.size → (Sort.grow (Sort.putRow (Value.int .i64) (Sort.ahead w n) g 0 ys.toArray) os).heap[k]? = if k = g then some (.cells (Sort.putCells (Value.int .i64) 0 ys.toArray cur) e (0, 0)) else w.heap[k]? := by
  intro k hk
  unfold Sort.grow
  rw [Array.getElem?_append_left (by rw [hsz]; exact hk)]
  unfold Sort.putRow Sort.mapBlock Sort.ahead
  simp only [Array.getElem?_modify]
  by_cases c : g = k
  ·subst c; rw [if_pos rfl, if_pos rfl, h]; rfl
  ·rw [if_neg c, if_neg (Ne.symm c)]
 refine ⟨_, (hat g hg).trans (if_pos rfl), by simp [Sort.putCells], ?_, fun k hk hn => (hat k hk).trans (if_neg hn), ?_⟩
 ·refine List.ext_getElem? fun q => ?_
  by_cases hq : q < ys.length
  ·have hqc : q < cur.size := by omega
   rw [List.getElem?_take_of_lt hq, Array.getElem?_toList, List.getElem?_map, List.getElem?_eq_getElem hq]
   simp [Sort.putCells, hq, hqc]
  ·rw [List.getElem?_eq_none (by rw [List.length_take]; omega), List.getElem?_eq_none (by rw [List.length_map]; omega)]
 ·rw [Sort.size_grow, hsz]; omega
def slices_Sort_int.f (l0 : List Int) : Option (List Int) := if 0 < (l0.length : Int) then (if l0.length < 4611686018427387904 then some (l0.mergeSort fun x y => decide (x ≤ y)) else none) else none
theorem slices_Sort_int.calls (P0_ : Nat → Prop) (u9000_ : Value) (l0 : List Int) (r0 : List Int) (w0 w : World) (hB : Below w0.heap.size w0 w) (ho0 : Kd.R (Kd.int .i64) 3 w w0.heap.size P0_ u9000_ l0) (h : slices_Sort_int.f l0 = some r0) :
  Calls Tryz.prog 43 #[u9000_] w fun e w' => e = .returned (.tuple #[]) ∧ Kd.R (Kd.int .i64) 3 w' w0.heap.size (fun k_ => (P0_ k_ ∨ w.heap.size ≤ k_)) u9000_ r0 ∧ Below w0.heap.size w0 w' ∧ Kept w w' (fun k_ => P0_ k_) := by
 unfold slices_Sort_int.f at h
 by_cases c1 : 0 < (l0.length : Int)
 ·rw [if_pos c1] at h
  by_cases c2 : l0.length < 4611686018427387904
  ·rw [if_pos c2] at h
   obtain rfl := Option.some.inj h
   obtain ⟨hP, inner, ⟨hil, hcase⟩, hr⟩ := ho0
   rcases hcase with ⟨rfl, h0⟩ | ⟨g, c, cur, rfl, hgb, hh, hnc, hcm, hcs, htake⟩
   ·omega
   have hin := srt.reps hr
   subst hin
   have hP' := hP g rfl
   have hcs' : cur.size = c := hcs.trans (Nat.mul_one c)
   have htake' : cur.toList.take l0.length = l0.map (Value.int .i64) := by rw [← htake]; exact congrArg (fun z => cur.toList.take z) (Nat.mul_one _).symm
   refine (Tryz.slices_Sort_int g 0 c l0 w (srt.cell hh htake') (blk_lt hh) c2).mono ?_
   rintro e w' ⟨rfl, n, os, rfl⟩
   have hml : (l0.mergeSort fun x y => decide (x ≤ y)).length = l0.length := List.length_mergeSort _
   obtain ⟨cur', h1, h2, h3, h4, h5⟩ := srt.world (n := n) (os := os) (ys := l0.mergeSort fun x y => decide (x ≤ y)) hh (by rw [hml]; omega)
   refine ⟨rfl, ?_, hB.trans ⟨rfl, rfl, rfl, h5, fun k hk => h4 k (Nat.lt_of_lt_of_le hk hB.size) (by omega)⟩, h5, fun k hk hn => h4 k hk (fun e => hn (by rw [e]; exact hP'))⟩
   have := srt.mk (ok := fun k_ => (P0_ k_ ∨ w.heap.size ≤ k_)) (base := w0.heap.size) (.inl hP') hgb h1 (by rw [hml]; exact hnc) hcm (h2.trans hcs') h3
   rw [hml] at this
   exact this
  ·rw [if_neg c2] at h; cases h
 ·rw [if_neg c1] at h; cases h
def slices_Compact_int.f (l0 : List Int) : Option (List Int) := if 0 < (l0.length : Int) then some (Lib.compact l0) else none
theorem slices_Compact_int.calls (P0_ : Nat → Prop) (u9000_ : Value) (l0 : List Int) (r : List Int) (w0 w : World) (hB : Below w0.heap.size w0 w) (ho0 : Kd.R (Kd.int .i64) 3 w w0.heap.size P0_ u9000_ l0) (h : slices_Compact_int.f l0 = some r) :
  Calls Tryz.prog 44 #[u9000_] w fun e w' => ∃ v0_ : Value, e = .returned (v0_) ∧ Kd.R (Kd.int .i64) 3 w' w0.heap.size (fun k_ => (P0_ k_ ∨ w.heap.size ≤ k_)) v0_ r ∧ Below w0.heap.size w0 w' ∧ Kept w w' (fun k_ => P0_ k_) := by
 unfold slices_Compact_int.f at h
 by_cases c1 : 0 < (l0.length : Int)
 ·rw [if_pos c1] at h
  obtain rfl := Option.some.inj h
  obtain ⟨hP, inner, ⟨hil, hcase⟩, hr⟩ := ho0
  rcases hcase with ⟨rfl, h0⟩ | ⟨g, c, cur, rfl, hgb, hh, hnc, hcm, hcs, htake⟩
  ·omega
  have hin := srt.reps hr
  subst hin
  have hP' := hP g rfl
  have hcs' : cur.size = c := hcs.trans (Nat.mul_one c)
  have htake' : cur.toList.take l0.length = l0.map (Value.int .i64) := by rw [← htake]; exact congrArg (fun z => cur.toList.take z) (Nat.mul_one _).symm
  refine (Tryz.slices_Compact_int g 0 c l0 w (srt.cell hh htake') (by unfold maxLen at hcm; omega) hnc).mono ?_
  rintro e w' ⟨rfl, n, rfl⟩
  have hml : (Lib.compact l0).length ≤ l0.length := by
   unfold Lib.compact Lib.compactUpTo
   rw [List.length_map]
   exact Nat.le_trans (List.length_filter_le _ _) (by simp)
  have hap : (Lib.compact l0 ++ List.replicate (l0.length - (Lib.compact l0).length) 0).length = l0.length := by simp; omega
  obtain ⟨cur', h1, h2, h3, h4, h5⟩ := srt.world (n := n) (os := #[]) (ys := Lib.compact l0 ++ List.replicate (l0.length - (Lib.compact l0).length) 0) hh (by rw [hap]; omega)
  rw [Sort.grow_empty] at h1 h4 h5
  refine ⟨_, rfl, ?_, hB.trans ⟨rfl, rfl, rfl, h5, fun k hk => h4 k (Nat.lt_of_lt_of_le hk hB.size) (by omega)⟩, h5, fun k hk hn => h4 k hk (fun e => hn (by rw [e]; exact hP'))⟩
  refine srt.mk (ok := fun k_ => (P0_ k_ ∨ w.heap.size ≤ k_)) (base := w0.heap.size) (.inl hP') hgb h1 (Nat.le_trans hml hnc) hcm (h2.trans hcs') ?_
  have h6 := congrArg (fun z => z.take (Lib.compact l0).length) h3
  simp only [List.take_take, List.map_append] at h6
  rw [Nat.min_eq_left (by rw [hap]; exact hml), List.take_left' (by simp)] at h6
  exact h6
 ·rw [if_neg c1] at h; cases h
def impl_bounds.l0 : Nat → List Int → List (S32) → Int → Int → Option (List Int)
 | 0, _, _, _, _ => none
 | k + 1, x3, x7, x8, x9 => if x9 < x8 then (if 0 ≤ x9 then (if x9 < (x7.length : Int) then (if x3.length < 17592186044416 then ((some (x3 ++ [(rd_T32 x7 x9).f0] : List Int)).bind fun y110 => ((impl_Block_last.f ((rd_T32 x7 x9).f0) ((rd_T32 x7 x9).f1)).bind fun t113 => (if t113 < 4294967295 then ((impl_Block_last.f ((rd_T32 x7 x9).f0) ((rd_T32 x7 x9).f1)).bind fun t114 => (if y110.length < 17592186044416 then (impl_bounds.l0 k (y110 ++ [wrap64 (t114 + 1)]) x7 x8 (wrap64 (x9 + 1))) else (none))) else (impl_bounds.l0 k y110 x7 x8 (wrap64 (x9 + 1)))))) else (none)) else (none)) else (none)) else ((slices_Sort_int.f x3).bind fun t104 => ((slices_Compact_int.f t104).bind fun t105 => (some t105)))
def impl_bounds.f (k : Nat) (l0 : List (S32)) : Option (List Int) := impl_bounds.l0 k (([0] : List Int)) l0 (l0.length : Int) 0
set_option maxHeartbeats 8000000 in
set_option maxRecDepth 100000 in
theorem impl_bounds.calls (k : Nat) (A0 : Option Addr) (c0 : Nat) (l0 : List (S32)) (r : List Int) (w : World) (hr0 : Kd.C k32 w A0 l0.length l0) (hc0 : l0.length ≤ c0) (h : impl_bounds.f k l0 = some r) :
  Calls Tryz.prog 18 #[.slice A0 l0.length c0] w fun e w' => ∃ v0_ : Value, e = .returned (v0_) ∧ Kd.R (Kd.int .i64) 3 w' w.heap.size (fun _ => True) v0_ r ∧ Below w.heap.size w w' := by
 have hu32 := Tryz.underlying32
 have HR0 := Aside0.mk hr0
 have HC0 := Aside0.mk hc0
 clear hr0 hc0
 have HB := am (Below.refl w.heap.size w)
 have H : (impl_bounds.l0 k (([0] : List Int)) l0 (l0.length : Int) 0) = some r := h
 clear h
 obtain ⟨y101, hy101⟩ : ∃ y_ : List Int, y_ = (([0] : List Int)) := ⟨_, rfl⟩
 replace H : (impl_bounds.l0 k y101 l0 (l0.length : Int) 0) = some r := by first | (rw [hy101]; with_reducible exact H) | (have H2_ := (Option.bind_some _ _).symm.trans H; rw [hy101]; with_reducible exact H2_) | (have H2_ := (Option.bind_some _ _).symm.trans H; with_reducible exact H2_) | with_reducible exact H | (rw [hy101]; exact H) | exact H
 have Ny101 := Aside0.mk hy101
 clear hy101
 have H' := Aside0.mk H
 clear H
 go_enter Tryz.func18, Tryz.ntmps18
 go_wp2_with (first | ((with_reducible refine gate_dst (N := 6) rfl ?_); refine Kd.R_lit (Kd.int .i64) _ 3 ?hg (N := 6) ?hd (xs := ([0] : List Int)) (inner := [.int .i64 0]) (ok := fun _ => True) (okp := fun _ => True) ?hr ?hp (fun _ hk => hk) trivial (Below.refl _ _) (Nat.le_refl _) (by simp) ?_; (case hd => rfl); (case hg => rfl); (case hr => first | (go_simp; done) | (go_simp; rfl)); (case hp => exact (Reps.one (show Kd.M (Kd.int .i64) _ _ _ 0 [.int .i64 0] from rfl) (Reps.none _ _))); intro v102 w2 ho3 hb hg_ hnew_; clear hg_ hnew_; (first | rw [← Ny101.out] at ho3 | (simp only [Int.reduceToNat] at ho3; rw [← Ny101.out] at ho3)); have HO103 := am (Kd.R_lower ho3 (below_size (KL HB))); replace HB := am (below_step (KL HB) hb); clear hb ho3))
 go_loopg [3, 9] k (fun kq v3 v9 w' => ∃ (x3_1 : List Int) (x9_1 : Int), v9 = .int .i64 x9_1 ∧ Aside0 (impl_bounds.l0 kq x3_1 l0 (l0.length : Int) x9_1 = some r) ∧ Aside0 (kq ≤ k) ∧ Aside0 (Kd.R (Kd.int .i64) 3 w' w.heap.size (fun _ => True) v3 x3_1) ∧ Aside0 (Below w.heap.size w w'))
 case atStart => exact ⟨(y101), (0), (by first | rfl | (simp; done) | (simp [*]; done)), H', ⟨Nat.le_refl _⟩, ⟨KR HO103⟩, ⟨KL HB⟩⟩
 case round =>
  clear H'
  try clear c1
  try clear p2
  obtain ⟨x3_1, x9_1, rfl, HA, HK1, HO_3, HB⟩ := hrel
  cases gk with
  | zero => exact absurd HA.out (by simp [impl_bounds.l0])
  | succ k1 =>
   have H := HA.out
   clear HA
   simp only [impl_bounds.l0] at H
   by_cases c4 : x9_1 < (l0.length : Int)
   ·rw [if_pos c4] at H
    have c4b0 : decide (x9_1 < (l0.length : Int)) = true := decide_eq_true c4
    clear c4
    by_cases c5 : 0 ≤ x9_1
    ·rw [if_pos c5] at H
     have c5b0 : decide (0 ≤ x9_1) = true := decide_eq_true c5
     clear c5
     by_cases c6 : x9_1 < (l0.length : Int)
     ·rw [if_pos c6] at H
      have c6b0 : decide (x9_1 < (l0.length : Int)) = true := decide_eq_true c6
      clear c6
      by_cases c7 : x3_1.length < 17592186044416
      ·rw [if_pos c7] at H
       have LMc7 := Aside0.mk c7
       clear c7
       obtain ⟨y110, hy110⟩ : ∃ y_ : List Int, y_ = (x3_1 ++ [(rd_T32 l0 x9_1).f0]) := ⟨_, rfl⟩
       replace H : ((impl_Block_last.f ((rd_T32 l0 x9_1).f0) ((rd_T32 l0 x9_1).f1)).bind fun t113 => (if t113 < 4294967295 then ((impl_Block_last.f ((rd_T32 l0 x9_1).f0) ((rd_T32 l0 x9_1).f1)).bind fun t114 => (if y110.length < 17592186044416 then (impl_bounds.l0 k1 (y110 ++ [wrap64 (t114 + 1)]) l0 (l0.length : Int) (wrap64 (x9_1 + 1))) else (none))) else (impl_bounds.l0 k1 y110 l0 (l0.length : Int) (wrap64 (x9_1 + 1))))) = some r := by first | (rw [hy110]; with_reducible exact H) | (have H2_ := (Option.bind_some _ _).symm.trans H; rw [hy110]; with_reducible exact H2_) | (have H2_ := (Option.bind_some _ _).symm.trans H; with_reducible exact H2_) | with_reducible exact H | (rw [hy110]; exact H) | exact H
       have Ny110 := Aside0.mk hy110
       clear hy110
       replace H := Option.bind_eq_some_iff.mp H
       obtain ⟨t113, A80, H⟩ := H
       replace H : (if t113 < 4294967295 then ((impl_Block_last.f ((rd_T32 l0 x9_1).f0) ((rd_T32 l0 x9_1).f1)).bind fun t114 => (if y110.length < 17592186044416 then (impl_bounds.l0 k1 (y110 ++ [wrap64 (t114 + 1)]) l0 (l0.length : Int) (wrap64 (x9_1 + 1))) else (none))) else (impl_bounds.l0 k1 y110 l0 (l0.length : Int) (wrap64 (x9_1 + 1)))) = some r := H
       have A8 := Aside0.mk A80
       clear A80
       by_cases c9 : t113 < 4294967295
       ·rw [if_pos c9] at H
        have c9b0 : decide (t113 < 4294967295) = true := decide_eq_true c9
        clear c9
        replace H := Option.bind_eq_some_iff.mp H
        obtain ⟨t114, A100, H⟩ := H
        replace H : (if y110.length < 17592186044416 then (impl_bounds.l0 k1 (y110 ++ [wrap64 (t114 + 1)]) l0 (l0.length : Int) (wrap64 (x9_1 + 1))) else (none)) = some r := H
        have A10 := Aside0.mk A100
        clear A100
        by_cases c11 : y110.length < 17592186044416
        ·rw [if_pos c11] at H
         have LMc11 := Aside0.mk c11
         clear c11
         obtain ⟨y115, hy115⟩ : ∃ y_ : List Int, y_ = (y110 ++ [wrap64 (t114 + 1)]) := ⟨_, rfl⟩
         replace H : (impl_bounds.l0 k1 y115 l0 (l0.length : Int) (wrap64 (x9_1 + 1))) = some r := by first | (rw [hy115]; with_reducible exact H) | (have H2_ := (Option.bind_some _ _).symm.trans H; rw [hy115]; with_reducible exact H2_) | (have H2_ := (Option.bind_some _ _).symm.trans H; with_reducible exact H2_) | with_reducible exact H | (rw [hy115]; exact H) | exact H
         have Ny115 := Aside0.mk hy115
         clear hy115
         have H' := Aside0.mk H
         clear H
         have p108 : 0 ≤ (x9_1 : Int) := OD
         have q108 : x9_1 < (l0.length : Int) := OD
         obtain ⟨ad108, e108, hx108_0, hx108_1⟩ := at_T32 HR0.out x9_1 p108 q108
         cases e108
         replace hx108_0 := CX HB.out hx108_0
         replace hx108_1 := CX HB.out hx108_1
         replace p108 := eq_true p108
         replace q108 := eq_true q108
         go_wp2_with (first | ((with_reducible refine gate_dst (N := 5) rfl ?_); refine box_event rfl (N := 5) rfl (cs := #[.int .i64 0, .int .i64 0]) (t := 32) BX ?_; intro gb109 hg w12 hbox hb; replace HO_3 := am (Kd.R_below (KR HO_3) hb); have BK109 := am (hbox); have GW109 := am (GH HB hg); have GE109 := GW109; replace HB := am (below_step (KL HB) hb); clear hb hbox hg; obtain ⟨hcz13_0, hcz13_1, hfz13_0⟩ := y2 w12 BK109.out) | ((with_reducible refine gate_builtin (b := .append) (xs := #[.tmp 13, .tmp 16]) rfl ?_); at_builtin; refine Kd.R_append (Kd.int .i64) (w0 := w) w.heap.size rfl (.tmp 13) (.tmp 16) 43 3 (.int .i64 0) 8 rfl Tryz.underlying43 info3 rfl (by decide) (by omega) u3 x3_1 ((rd_T32 l0 x9_1).f0) [.int .i64 ((rd_T32 l0 x9_1).f0)] (fun _ => True) (fun _ => False) rfl (by first | (go_simp; done) | (go_simp; rfl)) ?aP (fun _ hk => hk.elim) ?aF ?aO ?aB ?aS ?aL ?_; (case aP => exact rfl); (case aB => exact (K1 HB GE109.out)); (case aF => exact (fun _ _ => trivial)); (case aO => exact (by (with_reducible repeat (first | apply Kd.R_alloc | apply Kd.R_drewN | apply Kd.R_drew)); exact Kd.R_mono (Kd.R_far (p := ⟨gb109, 1, none⟩) (Kd.R_far (p := ⟨gb109, 0, none⟩) (Kd.R_types HO_3.out BK109.out (by decide)) (fun _ hk => hk.2) (.int .i64 ((rd_T32 l0 x9_1).f0))) (fun _ hk => hk.2) (.int .i64 ((rd_T32 l0 x9_1).f1))) (fun _ hk => trivial))); (case aS => exact (below_size (K1 HB GE109.out))); (case aL => have := LMc7.out; omega); intro v111 w14 ho hb hg hat; rw [← Ny110.out] at ho; replace BK109 := am (blk_grown (g := gb109) (o := .cells #[.int .i64 ((rd_T32 l0 x9_1).f0), .int .i64 ((rd_T32 l0 x9_1).f1)] 32 (0, 0)) (by (with_reducible repeat (first | refine blk_drewN ?_ _ | refine blk_drew ?_ | refine blk_alloc ?_ _)); refine blk_put (cs := #[.int .i64 ((rd_T32 l0 x9_1).f0), .int .i64 0]) ?_ 1 _ rfl; (with_reducible repeat (first | refine blk_drewN ?_ _ | refine blk_drew ?_ | refine blk_alloc ?_ _)); refine blk_put (cs := #[.int .i64 0, .int .i64 0]) ?_ 0 _ rfl; (with_reducible repeat (first | refine blk_drewN ?_ _ | refine blk_drew ?_ | refine blk_alloc ?_ _)); exact BK109.out) hg (Kd.R_ne HO_3.out BK109.out (by decide))); replace HB := am (hb); have HO112 := am (ho); clear HO_3; clear ho hb hg hat; obtain ⟨hcz15_0, hcz15_1, hfz15_0⟩ := y2 w14 BK109.out) | ((with_reducible refine gate_callee (f := 42) rfl ?_); refine goesL_ (some 19) rfl rfl Tryz.func42 (by kernel_rfl) rfl #[.agg #[.int .i64 ((rd_T32 l0 x9_1).f0), .int .i64 ((rd_T32 l0 x9_1).f1)]] rfl MT ?_; (with_reducible refine (impl_Block_last.calls ((rd_T32 l0 x9_1).f0) ((rd_T32 l0 x9_1).f1) t113 _ A8.out).mono ?_); rintro e w16 ⟨rfl, hb⟩; refine ⟨_, rfl, ?_⟩; replace HO112 := am (Kd.R_below (KR HO112) hb); replace BK109 := am (BB BK109 hb); replace HB := am (below_step (K1 HB GE109.out) hb); (try clear hb); obtain ⟨hcz17_0, hcz17_1, hfz17_0⟩ := y2 w16 BK109.out) | ((with_reducible refine gate_callee (f := 42) rfl ?_); refine goesL_ (some 23) rfl rfl Tryz.func42 (by kernel_rfl) rfl #[.agg #[.int .i64 ((rd_T32 l0 x9_1).f0), .int .i64 ((rd_T32 l0 x9_1).f1)]] rfl MT ?_; (with_reducible refine (impl_Block_last.calls ((rd_T32 l0 x9_1).f0) ((rd_T32 l0 x9_1).f1) t114 _ A10.out).mono ?_); rintro e w18 ⟨rfl, hb⟩; refine ⟨_, rfl, ?_⟩; replace HO112 := am (Kd.R_below (KR HO112) hb); replace BK109 := am (BB BK109 hb); replace HB := am (below_step (K1 HB GE109.out) hb); (try clear hb)) | ((with_reducible refine gate_builtin (b := .append) (xs := #[.tmp 21, .tmp 25]) rfl ?_); at_builtin; refine Kd.R_append (Kd.int .i64) (w0 := w) w.heap.size rfl (.tmp 21) (.tmp 25) 43 3 (.int .i64 0) 8 rfl Tryz.underlying43 info3 rfl (by decide) (by omega) v111 y110 (wrap64 (t114 + 1)) [.int .i64 (wrap64 (t114 + 1))] (fun _ => True) (fun _ => False) rfl rfl ?aP (fun _ hk => hk.elim) ?aF ?aO ?aB ?aS ?aL ?_; (case aP => exact rfl); (case aB => exact (K1 HB GE109.out)); (case aF => exact (fun _ _ => trivial)); (case aO => exact (KR HO112)); (case aS => exact (below_size (K1 HB GE109.out))); (case aL => have := LMc11.out; omega); intro v116 w19 ho hb hg hat; rw [← Ny115.out] at ho; replace BK109 := am (blk_grown (g := gb109) (o := .cells #[.int .i64 ((rd_T32 l0 x9_1).f0), .int .i64 ((rd_T32 l0 x9_1).f1)] 32 (0, 0)) (KB BK109) hg (Kd.R_ne HO112.out BK109.out (by decide))); replace HB := am (hb); have HO117 := am (ho); clear HO112; clear ho hb hg hat))
         go_roundg k1
         case measure => have := HK1.out; omega
         case rel => exact ⟨(y115), (wrap64 (x9_1 + 1)), (by first | rfl | (simp; done) | (simp [*]; done)), H', ⟨by have := HK1.out; omega⟩, ⟨KR HO117⟩, ⟨K1 HB GE109.out⟩⟩
        ·rw [if_neg c11] at H
         exact absurd H (by simp)
       ·rw [if_neg c9] at H
        have c9b0 : decide (t113 < 4294967295) = false := decide_eq_false c9
        clear c9
        have H' := Aside0.mk H
        clear H
        have p108 : 0 ≤ (x9_1 : Int) := OD
        have q108 : x9_1 < (l0.length : Int) := OD
        obtain ⟨ad108, e108, hx108_0, hx108_1⟩ := at_T32 HR0.out x9_1 p108 q108
        cases e108
        replace hx108_0 := CX HB.out hx108_0
        replace hx108_1 := CX HB.out hx108_1
        replace p108 := eq_true p108
        replace q108 := eq_true q108
        go_wp2_with (first | ((with_reducible refine gate_dst (N := 5) rfl ?_); refine box_event rfl (N := 5) rfl (cs := #[.int .i64 0, .int .i64 0]) (t := 32) BX ?_; intro gb109 hg w20 hbox hb; replace HO_3 := am (Kd.R_below (KR HO_3) hb); have BK109 := am (hbox); have GW109 := am (GH HB hg); have GE109 := GW109; replace HB := am (below_step (KL HB) hb); clear hb hbox hg; obtain ⟨hcz21_0, hcz21_1, hfz21_0⟩ := y2 w20 BK109.out) | ((with_reducible refine gate_builtin (b := .append) (xs := #[.tmp 13, .tmp 16]) rfl ?_); at_builtin; refine Kd.R_append (Kd.int .i64) (w0 := w) w.heap.size rfl (.tmp 13) (.tmp 16) 43 3 (.int .i64 0) 8 rfl Tryz.underlying43 info3 rfl (by decide) (by omega) u3 x3_1 ((rd_T32 l0 x9_1).f0) [.int .i64 ((rd_T32 l0 x9_1).f0)] (fun _ => True) (fun _ => False) rfl (by first | (go_simp; done) | (go_simp; rfl)) ?aP (fun _ hk => hk.elim) ?aF ?aO ?aB ?aS ?aL ?_; (case aP => exact rfl); (case aB => exact (K1 HB GE109.out)); (case aF => exact (fun _ _ => trivial)); (case aO => exact (by (with_reducible repeat (first | apply Kd.R_alloc | apply Kd.R_drewN | apply Kd.R_drew)); exact Kd.R_mono (Kd.R_far (p := ⟨gb109, 1, none⟩) (Kd.R_far (p := ⟨gb109, 0, none⟩) (Kd.R_types HO_3.out BK109.out (by decide)) (fun _ hk => hk.2) (.int .i64 ((rd_T32 l0 x9_1).f0))) (fun _ hk => hk.2) (.int .i64 ((rd_T32 l0 x9_1).f1))) (fun _ hk => trivial))); (case aS => exact (below_size (K1 HB GE109.out))); (case aL => have := LMc7.out; omega); intro v111 w22 ho hb hg hat; rw [← Ny110.out] at ho; replace BK109 := am (blk_grown (g := gb109) (o := .cells #[.int .i64 ((rd_T32 l0 x9_1).f0), .int .i64 ((rd_T32 l0 x9_1).f1)] 32 (0, 0)) (by (with_reducible repeat (first | refine blk_drewN ?_ _ | refine blk_drew ?_ | refine blk_alloc ?_ _)); refine blk_put (cs := #[.int .i64 ((rd_T32 l0 x9_1).f0), .int .i64 0]) ?_ 1 _ rfl; (with_reducible repeat (first | refine blk_drewN ?_ _ | refine blk_drew ?_ | refine blk_alloc ?_ _)); refine blk_put (cs := #[.int .i64 0, .int .i64 0]) ?_ 0 _ rfl; (with_reducible repeat (first | refine blk_drewN ?_ _ | refine blk_drew ?_ | refine blk_alloc ?_ _)); exact BK109.out) hg (Kd.R_ne HO_3.out BK109.out (by decide))); replace HB := am (hb); have HO112 := am (ho); clear HO_3; clear ho hb hg hat; obtain ⟨hcz23_0, hcz23_1, hfz23_0⟩ := y2 w22 BK109.out) | ((with_reducible refine gate_callee (f := 42) rfl ?_); refine goesL_ (some 19) rfl rfl Tryz.func42 (by kernel_rfl) rfl #[.agg #[.int .i64 ((rd_T32 l0 x9_1).f0), .int .i64 ((rd_T32 l0 x9_1).f1)]] rfl MT ?_; (with_reducible refine (impl_Block_last.calls ((rd_T32 l0 x9_1).f0) ((rd_T32 l0 x9_1).f1) t113 _ A8.out).mono ?_); rintro e w24 ⟨rfl, hb⟩; refine ⟨_, rfl, ?_⟩; replace HO112 := am (Kd.R_below (KR HO112) hb); replace BK109 := am (BB BK109 hb); replace HB := am (below_step (K1 HB GE109.out) hb); (try clear hb)))
        go_roundg k1
        case measure => have := HK1.out; omega
        case rel => exact ⟨(y110), (wrap64 (x9_1 + 1)), (by first | rfl | (simp; done) | (simp [*]; done)), H', ⟨by have := HK1.out; omega⟩, ⟨KR HO112⟩, ⟨K1 HB GE109.out⟩⟩
      ·rw [if_neg c7] at H
       exact absurd H (by simp)
     ·rw [if_neg c6] at H
      exact absurd H (by simp)
    ·rw [if_neg c5] at H
     exact absurd H (by simp)
   ·rw [if_neg c4] at H
    have c4b0 : decide (x9_1 < (l0.length : Int)) = false := decide_eq_false c4
    clear c4
    replace H := Option.bind_eq_some_iff.mp H
    obtain ⟨t104, A250, H⟩ := H
    replace H : ((slices_Compact_int.f t104).bind fun t105 => (some t105)) = some r := H
    have A25 := Aside0.mk A250
    clear A250
    replace H := Option.bind_eq_some_iff.mp H
    obtain ⟨t105, A260, H⟩ := H
    replace H : (some t105) = some r := H
    have A26 := Aside0.mk A260
    clear A260
    obtain rfl := Option.some.inj H
    obtain ⟨Ao27, co27, eo27⟩ := Kd.R_slice HO_3.out
    subst eo27
    go_wp2_with (first | ((with_reducible refine gate_callee (f := 43) rfl ?_); refine goesL_ (some 29) rfl rfl Tryz.func43 (by kernel_rfl) rfl #[.slice Ao27 x3_1.length co27] rfl MT ?_; (with_reducible refine (slices_Sort_int.calls (fun k_ => some k_ = (.slice Ao27 x3_1.length co27 : Value).ownBlock) (.slice Ao27 x3_1.length co27) x3_1 t104 w _ ?side1 ?side2 A25.out).mono ?_); (case side1 => exact KL HB); (case side2 => exact Kd.R_tight rfl HO_3.out); rintro e w28 ⟨rfl, hy0, hb, hkp⟩; refine ⟨_, rfl, ?_⟩; replace HO_3 := am (Kd.R_reok rfl hy0 (fun k_ e_ => HO_3.out.1 k_ e_)); replace HB := am (hb); (try clear hb); (try clear hkp); (try clear hy0)) | ((with_reducible refine gate_callee (f := 44) rfl ?_); refine goesL_ (some 31) rfl rfl Tryz.func44 (by kernel_rfl) rfl #[.slice Ao27 x3_1.length co27] rfl MT ?_; (with_reducible refine (slices_Compact_int.calls (fun k_ => some k_ = (.slice Ao27 x3_1.length co27 : Value).ownBlock) (.slice Ao27 x3_1.length co27) t104 t105 w _ ?side1 ?side2 A26.out).mono ?_); (case side1 => exact KL HB); (case side2 => exact Kd.R_tight rfl HO_3.out); rintro e w29 ⟨v106, rfl, ho0, hb, hkp⟩; refine ⟨_, rfl, ?_⟩; have HO107 := am (Kd.R_mono (ok' := fun k_ => True) ho0 (fun k_ hk_ => trivial)); replace HB := am (hb); clear HO_3; (try clear hb); (try clear hkp); (try clear ho0)))
    go_ret
    exact ⟨_, ER, by (with_reducible repeat (first | apply Kd.R_alloc | apply Kd.R_drewN | apply Kd.R_drew)); exact HO107.out, KL HB⟩
end Go.Proofs.YtmanlcakdcoekaaGreat.PAll
end
