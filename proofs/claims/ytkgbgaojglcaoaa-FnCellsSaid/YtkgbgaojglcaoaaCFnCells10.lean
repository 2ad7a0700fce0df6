/- Contracts of the functions that the statement reaches, printed by a program out of the translation and joined with the plain laws. -/
import Derived.Shelf.Sort.Plain
import Derived.Shelf.Slices.CompactI
import Derived.Test.YtkgbgaojglcaoaaCFnCells3
import Derived.Test.YtkgbgaojglcaoaaCFnCells4
import Derived.Test.YtkgbgaojglcaoaaCFnCells6
import Derived.Test.YtkgbgaojglcaoaaCFnCells9
section
namespace Go.Proofs.Ytkgbgaojglcaoaa.PAll
open Go.RowKit Go.Proofs.YtkgbgaojglcaoaaW.PrintWords Go.Proofs.YtkgbgaojglcaoaaW.PrintLast Go.Proofs.YtkgbgaojglcaoaaW.PrintMore
attribute [local go_sem] max2_int min2_int max_two min_two max_three min_three max_four min_four   -- for this text's walks alone
set_option linter.unusedVariables false
set_option linter.unusedSimpArgs false
theorem srt.reps {l : List Int} {cs : List Value} {w : World} {b : Nat} {ok : Nat → Prop} (h : Reps ((Kd.int .i64).M w b ok) 1 l cs) : cs = l.map (Value.int .i64) := by
 have hl := h.1
 refine List.ext_getElem? fun k => ?_
 by_cases hk : k < l.length
 ·have h2 : (cs.drop (k * 1)).take 1 = [Value.int .i64 l[k]] := h.2 k _ (List.getElem?_eq_getElem hk)
  have h3 := congrArg (fun z => z[0]?) h2
  simp only [List.getElem?_take_of_lt (Nat.lt_succ_self 0), List.getElem?_drop, Nat.mul_one, Nat.add_zero] at h3
  rw [h3, List.getElem?_map, List.getElem?_eq_getElem hk]; rfl
 ·rw [List.getElem?_eq_none (by omega), List.getElem?_eq_none (by rw [List.length_map]; omega)]
theorem srt.ints (l : List Int) (w : World) (b : Nat) (ok : Nat → Prop) : Reps ((Kd.int .i64).M w b ok) 1 l (l.map (Value.int .i64)) := by
 refine ⟨by simp, fun k x hx => ?_⟩
 show ((l.map (Value.int .i64)).drop (k * 1)).take 1 = [Value.int .i64 x]
 refine List.ext_getElem? fun q => ?_
 rcases q with _ | q
 ·rw [List.getElem?_take_of_lt (Nat.lt_succ_self 0), List.getElem?_drop, Nat.mul_one, Nat.add_zero, List.getElem?_map, hx]; rfl
 ·rw [List.getElem?_eq_none (by rw [List.length_take]; omega), List.getElem?_eq_none (by simp)]
theorem srt.mk {e base : Nat} {w' : World} {ok : Nat → Prop} {g c : Nat} {cur : Array Value} {xs : List Int} (hok : ok g) (hb : base ≤ g) (hh : w'.heap[g]? = some (.cells cur e (0, 0))) (hl : xs.length ≤ c) (hc : c ≤ maxLen) (hs : cur.size = c)
  (ht : cur.toList.take xs.length = xs.map (Value.int .i64)) : Kd.R (Kd.int .i64) e w' base ok (.slice (some ⟨g, 0, none⟩) xs.length c) xs :=
 ⟨fun k hk => by cases hk; exact hok, xs.map (Value.int .i64), ⟨by rw [List.length_map]; exact (Nat.mul_one _).symm, .inr ⟨g, c, cur, rfl, hb, hh, hl, hc, hs.trans (Nat.mul_one c).symm, (congrArg (fun z => cur.toList.take z) (Nat.mul_one _)).trans ht⟩⟩, srt.ints _ _ _ _⟩
theorem srt.cell {w : World} {g e : Nat} {cur : Array Value} {row : List Int} (h : w.heap[g]? = some (.cells cur e (0, 0))) (ht : cur.toList.take row.length = row.map (Value.int .i64)) : Sort.Holds (Value.int .i64) w g 0 row.toArray := by
 intro k hk
 have hk' : k < row.length := by simpa using hk
 refine ⟨?_, blk_frozen h _⟩
 rw [blk_cell h (0 + k), Nat.zero_add, ← Array.getElem?_toList, ← List.getElem?_take_of_lt hk', ht, List.getElem?_map, List.getElem?_eq_getElem hk']
 simp [hk']
/-- A world in which a row has been written, and new blocks lie behind. -/
theorem srt.world {w : World} {g e n : Nat} {cur : Array Value} {ys : List Int} {os : Array Obj} (h : w.heap[g]? = some (.cells cur e (0, 0))) (hl : ys.length ≤ cur.size) :
  ∃ cur', (Sort.grow (Sort.putRow (Value.int .i64) (Sort.ahead w n) g 0 ys.toArray) os).heap[g]? = some (.cells cur' e (0, 0)) ∧ cur'.size = cur.size ∧ cur'.toList.take ys.length = ys.map (Value.int .i64) ∧
   (∀ k, k < w.heap.size → k ≠ g → (Sort.grow (Sort.putRow (Value.int .i64) (Sort.ahead w n) g 0 ys.toArray) os).heap[k]? = w.heap[k]?) ∧ w.heap.size ≤ (Sort.grow (Sort.putRow (Value.int .i64) (Sort.ahead w n) g 0 ys.toArray) os).heap.size := by
 have hg := blk_lt h
 have hsz : (Sort.putRow (Value.int .i64) (Sort.ahead w n) g 0 ys.toArray).heap.size = w.heap.size := by simp [Sort.putRow, Sort.mapBlock, Sort.ahead]
 have hat : ∀ k, k < w.heap.size → (Sort.grow (Sort.putRow (Value.int .i64) (Sort.ahead w n) g 0 ys.toArray) os).heap[k]? = if k = g then some (.cells (Sort.putCells (Value.int .i64) 0 ys.toArray cur) e (0, 0)) else w.heap[k]? := by
  intro k hk
  unfold Sort.grow
  rw [Array.getElem?_append_left (by rw [hsz]; exact hk)]
  unfold Sort.putRow Sort.mapBlock Sort.ahead
  simp only [Array.getElem?_modify]
  by_cases c : g = k
  ·subst c; rw [if_pos rfl, if_pos rfl, h]; rfl
  ·rw [if_neg c, if_neg (Ne.symm c)]
 refine ⟨_, (hat g hg).trans (if_pos rfl), by simp [Sort.putCells], ?_, fun k hk hn => (hat k hk).trans (if_neg hn), ?_⟩
 ·refine List.ext_getElem? fun q => ?_
  by_cases hq : q < ys.length
  ·have hqc : q < cur.size := by omega
   rw [List.getElem?_take_of_lt hq, Array.getElem?_toList, List.getElem?_map, List.getElem?_eq_getElem hq]
   simp [Sort.putCells, hq, hqc]
  ·rw [List.getElem?_eq_none (by rw [List.length_take]; omega), List.getElem?_eq_none (by rw [List.length_map]; omega)]
 ·rw [Sort.size_grow, hsz]; omega
def slices_Sort_int.f (l0 : List Int) : Option (List Int) := if 0 < (l0.length : Int) then (if l0.length < 4611686018427387904 then some (l0.mergeSort fun x y => decide (x ≤ y)) else none) else none
theorem slices_Sort_int.calls (P0_ : Nat → Prop) (u9000_ : Value) (l0 : List Int) (r0 : List Int) (w0 w : World) (hB : Below w0.heap.size w0 w) (ho0 : Kd.R (Kd.int .i64) 3 w w0.heap.size P0_ u9000_ l0) (h : slices_Sort_int.f l0 = some r0) :
  Calls Try.prog 111 #[u9000_] w fun e w' => e = .returned (.tuple #[]) ∧ Kd.R (Kd.int .i64) 3 w' w0.heap.size (fun k_ => (P0_ k_ ∨ w.heap.size ≤ k_)) u9000_ r0 ∧ Below w0.heap.size w0 w' ∧ Kept w w' (fun k_ => P0_ k_) := by
 unfold slices_Sort_int.f at h
 by_cases c1 : 0 < (l0.length : Int)
 ·rw [if_pos c1] at h
  by_cases c2 : l0.length < 4611686018427387904
  ·rw [if_pos c2] at h
   obtain rfl := Option.some.inj h
   obtain ⟨hP, inner, ⟨hil, hcase⟩, hr⟩ := ho0
   rcases hcase with ⟨rfl, h0⟩ | ⟨g, c, cur, rfl, hgb, hh, hnc, hcm, hcs, htake⟩
   ·omega
   have hin := srt.reps hr
   subst hin
   have hP' := hP g rfl
   have hcs' : cur.size = c := hcs.trans (Nat.mul_one c)
   have htake' : cur.toList.take l0.length = l0.map (Value.int .i64) := by rw [← htake]; exact congrArg (fun z => cur.toList.take z) (Nat.mul_one _).symm
   refine (Try.slices_Sort_int g 0 c l0 w (srt.cell hh htake') (blk_lt hh) c2).mono ?_
   rintro e w' ⟨rfl, n, os, rfl⟩
   have hml : (l0.mergeSort fun x y => decide (x ≤ y)).length = l0.length := List.length_mergeSort _
   obtain ⟨cur', h1, h2, h3, h4, h5⟩ := srt.world (n := n) (os := os) (ys := l0.mergeSort fun x y => decide (x ≤ y)) hh (by rw [hml]; omega)
   refine ⟨rfl, ?_, hB.trans ⟨rfl, rfl, rfl, h5, fun k hk => h4 k (Nat.lt_of_lt_of_le hk hB.size) (by omega)⟩, h5, fun k hk hn => h4 k hk (fun e => hn (by rw [e]; exact hP'))⟩
   have := srt.mk (ok := fun k_ => (P0_ k_ ∨ w.heap.size ≤ k_)) (base := w0.heap.size) (.inl hP') hgb h1 (by rw [hml]; exact hnc) hcm (h2.trans hcs') h3
   rw [hml] at this
   exact this
  ·rw [if_neg c2] at h; cases h
 ·rw [if_neg c1] at h; cases h
def slices_Compact_int.f (l0 : List Int) : Option (List Int) := if 0 < (l0.length : Int) then some (Lib.compact l0) else none
theorem slices_Compact_int.calls (P0_ : Nat → Prop) (u9000_ : Value) (l0 : List Int) (r : List Int) (w0 w : World) (hB : Below w0.heap.size w0 w) (ho0 : Kd.R (Kd.int .i64) 3 w w0.heap.size P0_ u9000_ l0) (h : slices_Compact_int.f l0 = some r) :
  Calls Try.prog 112 #[u9000_] w fun e w' => ∃ v0_ : Value, e = .returned (v0_) ∧ Kd.R (Kd.int .i64) 3 w' w0.heap.size (fun k_ => (P0_ k_ ∨ w.heap.size ≤ k_)) v0_ r ∧ Below w0.heap.size w0 w' ∧ Kept w w' (fun k_ => P0_ k_) := by
 unfold slices_Compact_int.f at h
 by_cases c1 : 0 < (l0.length : Int)
 ·rw [if_pos c1] at h
  obtain rfl := Option.some.inj h
  obtain ⟨hP, inner, ⟨hil, hcase⟩, hr⟩ := ho0
  rcases hcase with ⟨rfl, h0⟩ | ⟨g, c, cur, rfl, hgb, hh, hnc, hcm, hcs, htake⟩
  ·omega
  have hin := srt.reps hr
  subst hin
  have hP' := hP g rfl
  have hcs' : cur.size = c := hcs.trans (Nat.mul_one c)
  have htake' : cur.toList.take l0.length = l0.map (Value.int .i64) := by rw [← htake]; exact congrArg (fun z => cur.toList.take z) (Nat.mul_one _).symm
  refine (Try.slices_Compact_int g 0 c l0 w (srt.cell hh htake') (by unfold maxLen at hcm; omega) hnc).mono ?_
  rintro e w' ⟨rfl, n, rfl⟩
  have hml : (Lib.compact l0).length ≤ l0.length := by
   unfold Lib.compact Lib.compactUpTo
   rw [List.length_map]
   exact Nat.le_trans (List.length_filter_le _ _) (by simp)
  have hap : (Lib.compact l0 ++ List.replicate (l0.length - (Lib.compact l0).length) 0).length = l0.length := by simp; omega
  obtain ⟨cur', h1, h2, h3, h4, h5⟩ := srt.world (n := n) (os := #[]) (ys := Lib.compact l0 ++ List.replicate (l0.length - (Lib.compact l0).length) 0) hh (by rw [hap]; omega)
  rw [Sort.grow_empty] at h1 h4 h5
  refine ⟨_, rfl, ?_, hB.trans ⟨rfl, rfl, rfl, h5, fun k hk => h4 k (Nat.lt_of_lt_of_le hk hB.size) (by omega)⟩, h5, fun k hk hn => h4 k hk (fun e => hn (by rw [e]; exact hP'))⟩
  refine srt.mk (ok := fun k_ => (P0_ k_ ∨ w.heap.size ≤ k_)) (base := w0.heap.size) (.inl hP') hgb h1 (Nat.le_trans hml hnc) hcm (h2.trans hcs') ?_
  have h6 := congrArg (fun z => z.take (Lib.compact l0).length) h3
  simp only [List.take_take, List.map_append] at h6
  rw [Nat.min_eq_left (by rw [hap]; exact hml), List.take_left' (by simp)] at h6
  exact h6
 ·rw [if_neg c1] at h; cases h
def impl_bounds.l0 : Nat → List Int → List (S43) → Int → Int → Option (List Int)
 | 0, _, _, _, _ => none
 | k + 1, x3, x7, x8, x9 => if x9 < x8 then (if 0 ≤ x9 then (if x9 < (x7.length : Int) then (if x3.length < 17592186044416 then ((some (x3 ++ [(rd_T43 x7 x9).f0] : List Int)).bind fun y110 => ((impl_Block_last.f ((rd_T43 x7 x9).f0) ((rd_T43 x7 x9).f1)).bind fun t113 => (if t113 < 4294967295 then ((impl_Block_last.f ((rd_T43 x7 x9).f0) ((rd_T43 x7 x9).f1)).bind fun t114 => (if y110.length < 17592186044416 then (impl_bounds.l0 k (y110 ++ [wrap64 (t114 + 1)]) x7 x8 (wrap64 (x9 + 1))) else (none))) else (impl_bounds.l0 k y110 x7 x8 (wrap64 (x9 + 1)))))) else (none)) else (none)) else (none)) else ((slices_Sort_int.f x3).bind fun t104 => ((slices_Compact_int.f t104).bind fun t105 => (some t105)))
def impl_bounds.f (k : Nat) (l0 : List (S43)) : Option (List Int) := impl_bounds.l0 k (([0] : List Int)) l0 (l0.length : Int) 0
set_option maxHeartbeats 8000000 in
set_option maxRecDepth 100000 in
theorem impl_bounds.calls (k : Nat) (A0 : Option Addr) (c0 : Nat) (l0 : List (S43)) (r : List Int) (w : World) (hr0 : Kd.C k43 w A0 l0.length l0) (hc0 : l0.length ≤ c0) (h : impl_bounds.f k l0 = some r) :
  Calls Try.prog 63 #[.slice A0 l0.length c0] w fun e w' => ∃ v0_ : Value, e = .returned (v0_) ∧ Kd.R (Kd.int .i64) 3 w' w.heap.size (fun _ => True) v0_ r ∧ Below w.heap.size w w' := by
 have hu43 := Try.underlying43
 have HR0 := Aside0.mk hr0
 have HC0 := Aside0.mk hc0
 clear hr0 hc0
 have HB := am (Below.refl w.heap.size w)
 have H : (impl_bounds.l0 k (([0] : List Int)) l0 (l0.length : Int) 0) = some r := h
 clear h
 obtain ⟨y101, hy101⟩ : ∃ y_ : List Int, y_ = (([0] : List Int)) := ⟨_, rfl⟩
 replace H : (impl_bounds.l0 k y101 l0 (l0.length : Int) 0) = some r := by first | (rw [hy101]; with_reducible exact H) | (have H2_ := (Option.bind_some _ _).symm.trans H; rw [hy101]; with_reducible exact H2_) | (have H2_ := (Option.bind_some _ _).symm.trans H; with_reducible exact H2_) | with_reducible exact H | (rw [hy101]; exact H) | exact H
 have Ny101 := Aside0.mk hy101
 clear hy101
 have H' := Aside0.mk H
 clear H
 go_enter Try.func63, Try.ntmps63
 go_wp2_with (first | ((with_reducible refine gate_dst (N := 6) rfl ?_); refine Kd.R_lit (Kd.int .i64) _ 3 ?hg (N := 6) ?hd (xs := ([0] : List Int)) (inner := [.int .i64 0]) (ok := fun _ => True) (okp := fun _ => True) ?hr ?hp (fun _ hk => hk) trivial (Below.refl _ _) (Nat.le_refl _) (by simp) ?_; (case hd => rfl); (case hg => rfl); (case hr => first | (go_simp; done) | (go_simp; rfl)); (case hp => exact (Reps.one (show Kd.M (Kd.int .i64) _ _ _ 0 [.int .i64 0] from rfl) (Reps.none _ _))); intro v102 w2 ho3 hb hg_ hnew_; clear hg_ hnew_; (first | rw [← Ny101.out] at ho3 | (simp only [Int.reduceToNat] at ho3; rw [← Ny101.out] at ho3)); have HO103 := am (Kd.R_lower ho3 (below_size (KL HB))); replace HB := am (below_step (KL HB) hb); clear hb ho3))
 go_loopg [3, 9] k (fun kq v3 v9 w' => ∃ (x3_1 : List Int) (x9_1 : Int), v9 = .int .i64 x9_1 ∧ Aside0 (impl_bounds.l0 kq x3_1 l0 (l0.length : Int) x9_1 = some r) ∧ Aside0 (kq ≤ k) ∧ Aside0 (Kd.R (Kd.int .i64) 3 w' w.heap.size (fun _ => True) v3 x3_1) ∧ Aside0 (Below w.heap.size w w'))
 case atStart => exact ⟨(y101), (0), (by first | rfl | (simp; done) | (simp [*]; done)), H', ⟨Nat.le_refl _⟩, ⟨KR HO103⟩, ⟨KL HB⟩⟩
 case round =>
  clear H'
  try clear p2
  obtain ⟨x3_1, x9_1, rfl, HA, HK1, HO_3, HB⟩ := hrel
  cases gk with
  | zero => exact absurd HA.out (by simp [impl_bounds.l0])
  | succ k1 =>
   have H := HA.out
   clear HA
   simp only [impl_bounds.l0] at H
   by_cases c4 : x9_1 < (l0.length : Int)
   ·rw [if_pos c4] at H
    have c4b0 : decide (x9_1 < (l0.length : Int)) = true := decide_eq_true c4
    clear c4
    by_cases c5 : 0 ≤ x9_1
    ·rw [if_pos c5] at H
     have c5b0 : decide (0 ≤ x9_1) = true := decide_eq_true c5
     clear c5
     by_cases c6 : x9_1 < (l0.length : Int)
     ·rw [if_pos c6] at H
      have c6b0 : decide (x9_1 < (l0.length : Int)) = true := decide_eq_true c6
      clear c6
      by_cases c7 : x3_1.length < 17592186044416
      ·rw [if_pos c7] at H
       have LMc7 := Aside0.mk c7
       clear c7
       obtain ⟨y110, hy110⟩ : ∃ y_ : List Int, y_ = (x3_1 ++ [(rd_T43 l0 x9_1).f0]) := ⟨_, rfl⟩
       replace H : ((impl_Block_last.f ((rd_T43 l0 x9_1).f0) ((rd_T43 l0 x9_1).f1)).bind fun t113 => (if t113 < 4294967295 then ((impl_Block_last.f ((rd_T43 l0 x9_1).f0) ((rd_T43 l0 x9_1).f1)).bind fun t114 => (if y110.length < 17592186044416 then (impl_bounds.l0 k1 (y110 ++ [wrap64 (t114 + 1)]) l0 (l0.length : Int) (wrap64 (x9_1 + 1))) else (none))) else (impl_bounds.l0 k1 y110 l0 (l0.length : Int) (wrap64 (x9_1 + 1))))) = some r := by first | (rw [hy110]; with_reducible exact H) | (have H2_ := (Option.bind_some _ _).symm.trans H; rw [hy110]; with_reducible exact H2_) | (have H2_ := (Option.bind_some _ _).symm.trans H; with_reducible exact H2_) | with_reducible exact H | (rw [hy110]; exact H) | exact H
       have Ny110 := Aside0.mk hy110
       clear hy110
       replace H := Option.bind_eq_some_iff.mp H
       obtain ⟨t113, A80, H⟩ := H
       replace H : (if t113 < 4294967295 then ((impl_Block_last.f ((rd_T43 l0 x9_1).f0) ((rd_T43 l0 x9_1).f1)).bind fun t114 => (if y110.length < 17592186044416 then (impl_bounds.l0 k1 (y110 ++ [wrap64 (t114 + 1)]) l0 (l0.length : Int) (wrap64 (x9_1 + 1))) else (none))) else (impl_bounds.l0 k1 y110 l0 (l0.length : Int) (wrap64 (x9_1 + 1)))) = some r := H
       have A8 := Aside0.mk A80
       clear A80
       by_cases c9 : t113 < 4294967295
       ·rw [if_pos c9] at H
        have c9b0 : decide (t113 < 4294967295) = true := decide_eq_true c9
        clear c9
        replace H := Option.bind_eq_some_iff.mp H
        obtain ⟨t114, A100, H⟩ := H
        replace H : (if y110.length < 17592186044416 then (impl_bounds.l0 k1 (y110 ++ [wrap64 (t114 + 1)]) l0 (l0.length : Int) (wrap64 (x9_1 + 1))) else (none)) = some r := H
        have A10 := Aside0.mk A100
        clear A100
        by_cases c11 : y110.length < 17592186044416
        ·rw [if_pos c11] at H
         have LMc11 := Aside0.mk c11
         clear c11
         obtain ⟨y115, hy115⟩ : ∃ y_ : List Int, y_ = (y110 ++ [wrap64 (t114 + 1)]) := ⟨_, rfl⟩
         replace H : (impl_bounds.l0 k1 y115 l0 (l0.length : Int) (wrap64 (x9_1 + 1))) = some r := by first | (rw [hy115]; with_reducible exact H) | (have H2_ := (Option.bind_some _ _).symm.trans H; rw [hy115]; with_reducible exact H2_) | (have H2_ := (Option.bind_some _ _).symm.trans H; with_reducible exact H2_) | with_reducible exact H | (rw [hy115]; exact H) | exact H
         have Ny115 := Aside0.mk hy115
         clear hy115
         have H' := Aside0.mk H
         clear H
         have p108 : 0 ≤ (x9_1 : Int) := OD
         have q108 : x9_1 < (l0.length : Int) := OD
         obtain ⟨ad108, e108, hx108_0, hx108_1⟩ := at_T43 HR0.out x9_1 p108 q108
         cases e108
         replace hx108_0 := CX HB.out hx108_0
         replace hx108_1 := CX HB.out hx108_1
         replace p108 := eq_true p108
         replace q108 := eq_true q108
         go_wp2_with (first | ((with_reducible refine gate_dst (N := 5) rfl ?_); refine box_event rfl (N := 5) rfl (cs := #[.int .i64 0, .int .i64 0]) (t := 43) BX ?_; intro gb109 hg w12 hbox hb; replace HO_3 := am (Kd.R_below (KR HO_3) hb); have BK109 := am (hbox); have GW109 := am (GH HB hg); have GE109 := GW109; replace HB := am (below_step (KL HB) hb); clear hb hbox hg; obtain ⟨hcz13_0, hcz13_1, hfz13_0⟩ := y2 w12 BK109.out) | ((with_reducible refine gate_builtin (b := .append) (xs := #[.tmp 13, .tmp 16]) rfl ?_); at_builtin; refine Kd.R_append (Kd.int .i64) (w0 := w) w.heap.size rfl (.tmp 13) (.tmp 16) 50 3 (.int .i64 0) 8 rfl Try.underlying50 info3 rfl (by decide) (by omega) u3 x3_1 ((rd_T43 l0 x9_1).f0) [.int .i64 ((rd_T43 l0 x9_1).f0)] (fun _ => True) (fun _ => False) rfl (by first | (go_simp; done) | (go_simp; rfl)) ?aP (fun _ hk => hk.elim) ?aF ?aO ?aB ?aS ?aL ?_; (case aP => exact rfl); (case aB => exact (K1 HB GE109.out)); (case aF => exact (fun _ _ => trivial)); (case aO => exact (by (with_reducible repeat (first | apply Kd.R_alloc | apply Kd.R_drewN | apply Kd.R_drew)); exact Kd.R_mono (Kd.R_far (p := ⟨gb109, 1, none⟩) (Kd.R_far (p := ⟨gb109, 0, none⟩) (Kd.R_types HO_3.out BK109.out (by decide)) (fun _ hk => hk.2) (.int .i64 ((rd_T43 l0 x9_1).f0))) (fun _ hk => hk.2) (.int .i64 ((rd_T43 l0 x9_1).f1))) (fun _ hk => trivial))); (case aS => exact (below_size (K1 HB GE109.out))); (case aL => have := LMc7.out; omega); intro v111 w14 ho hb hg hat; rw [← Ny110.out] at ho; replace BK109 := am (blk_grown (g := gb109) (o := .cells #[.int .i64 ((rd_T43 l0 x9_1).f0), .int .i64 ((rd_T43 l0 x9_1).f1)] 43 (0, 0)) (by (with_reducible repeat (first | refine blk_drewN ?_ _ | refine blk_drew ?_ | refine blk_alloc ?_ _)); refine blk_put (cs := #[.int .i64 ((rd_T43 l0 x9_1).f0), .int .i64 0]) ?_ 1 _ rfl; (with_reducible repeat (first | refine blk_drewN ?_ _ | refine blk_drew ?_ | refine blk_alloc ?_ _)); refine blk_put (cs := #[.int .i64 0, .int .i64 0]) ?_ 0 _ rfl; (with_reducible repeat (first | refine blk_drewN ?_ _ | refine blk_drew ?_ | refine blk_alloc ?_ _)); exact BK109.out) hg (Kd.R_ne HO_3.out BK109.out (by decide))); replace HB := am (hb); have HO112 := am (ho); clear HO_3; clear ho hb hg hat; obtain ⟨hcz15_0, hcz15_1, hfz15_0⟩ := y2 w14 BK109.out) | ((with_reducible refine gate_callee (f := 110) rfl ?_); refine goesL_ (some 19) rfl rfl Try.func110 (by kernel_rfl) rfl #[.agg #[.int .i64 ((rd_T43 l0 x9_1).f0), .int .i64 ((rd_T43 l0 x9_1).f1)]] rfl MT ?_; (with_reducible refine (impl_Block_last.calls ((rd_T43 l0 x9_1).f0) ((rd_T43 l0 x9_1).f1) t113 _ A8.out).mono ?_); rintro e w16 ⟨rfl, hb⟩; refine ⟨_, rfl, ?_⟩; replace HO112 := am (Kd.R_below (KR HO112) hb); replace BK109 := am (BB BK109 hb); replace HB := am (below_step (K1 HB GE109.out) hb); (try clear hb); obtain ⟨hcz17_0, hcz17_1, hfz17_0⟩ := y2 w16 BK109.out) | ((with_reducible refine gate_callee (f := 110) rfl ?_); refine goesL_ (some 23) rfl rfl Try.func110 (by kernel_rfl) rfl #[.agg #[.int .i64 ((rd_T43 l0 x9_1).f0), .int .i64 ((rd_T43 l0 x9_1).f1)]] rfl MT ?_; (with_reducible refine (impl_Block_last.calls ((rd_T43 l0 x9_1).f0) ((rd_T43 l0 x9_1).f1) t114 _ A10.out).mono ?_); rintro e w18 ⟨rfl, hb⟩; refine ⟨_, rfl, ?_⟩; replace HO112 := am (Kd.R_below (KR HO112) hb); replace BK109 := am (BB BK109 hb); replace HB := am (below_step (K1 HB GE109.out) hb); (try clear hb)) | ((with_reducible refine gate_builtin (b := .append) (xs := #[.tmp 21, .tmp 25]) rfl ?_); at_builtin; refine Kd.R_append (Kd.int .i64) (w0 := w) w.heap.size rfl (.tmp 21) (.tmp 25) 50 3 (.int .i64 0) 8 rfl Try.underlying50 info3 rfl (by decide) (by omega) v111 y110 (wrap64 (t114 + 1)) [.int .i64 (wrap64 (t114 + 1))] (fun _ => True) (fun _ => False) rfl rfl ?aP (fun _ hk => hk.elim) ?aF ?aO ?aB ?aS ?aL ?_; (case aP => exact rfl); (case aB => exact (K1 HB GE109.out)); (case aF => exact (fun _ _ => trivial)); (case aO => exact (KR HO112)); (case aS => exact (below_size (K1 HB GE109.out))); (case aL => have := LMc11.out; omega); intro v116 w19 ho hb hg hat; rw [← Ny115.out] at ho; replace BK109 := am (blk_grown (g := gb109) (o := .cells #[.int .i64 ((rd_T43 l0 x9_1).f0), .int .i64 ((rd_T43 l0 x9_1).f1)] 43 (0, 0)) (KB BK109) hg (Kd.R_ne HO112.out BK109.out (by decide))); replace HB := am (hb); have HO117 := am (ho); clear HO112; clear ho hb hg hat))
         go_roundg k1
         case measure => have := HK1.out; omega
         case rel => exact ⟨(y115), (wrap64 (x9_1 + 1)), (by first | rfl | (simp; done) | (simp [*]; done)), H', ⟨by have := HK1.out; omega⟩, ⟨KR HO117⟩, ⟨K1 HB GE109.out⟩⟩
        ·rw [if_neg c11] at H
         exact absurd H (by simp)
       ·rw [if_neg c9] at H
        have c9b0 : decide (t113 < 4294967295) = false := decide_eq_false c9
        clear c9
        have H' := Aside0.mk H
        clear H
        have p108 : 0 ≤ (x9_1 : Int) := OD
        have q108 : x9_1 < (l0.length : Int) := OD
        obtain ⟨ad108, e108, hx108_0, hx108_1⟩ := at_T43 HR0.out x9_1 p108 q108
        cases e108
        replace hx108_0 := CX HB.out hx108_0
        replace hx108_1 := CX HB.out hx108_1
        replace p108 := eq_true p108
        replace q108 := eq_true q108
        go_wp2_with (first | ((with_reducible refine gate_dst (N := 5) rfl ?_); refine box_event rfl (N := 5) rfl (cs := #[.int .i64 0, .int .i64 0]) (t := 43) BX ?_; intro gb109 hg w20 hbox hb; replace HO_3 := am (Kd.R_below (KR HO_3) hb); have BK109 := am (hbox); have GW109 := am (GH HB hg); have GE109 := GW109; replace HB := am (below_step (KL HB) hb); clear hb hbox hg; obtain ⟨hcz21_0, hcz21_1, hfz21_0⟩ := y2 w20 BK109.out) | ((with_reducible refine gate_builtin (b := .append) (xs := #[.tmp 13, .tmp 16]) rfl ?_); at_builtin; refine Kd.R_append (Kd.int .i64) (w0 := w) w.heap.size rfl (.tmp 13) (.tmp 16) 50 3 (.int .i64 0) 8 rfl Try.underlying50 info3 rfl (by decide) (by omega) u3 x3_1 ((rd_T43 l0 x9_1).f0) [.int .i64 ((rd_T43 l0 x9_1).f0)] (fun _ => True) (fun _ => False) rfl (by first | (go_simp; done) | (go_simp; rfl)) ?aP (fun _ hk => hk.elim) ?aF ?aO ?aB ?aS ?aL ?_; (case aP => exact rfl); (case aB => exact (K1 HB GE109.out)); (case aF => exact (fun _ _ => trivial)); (case aO => exact (by (with_reducible repeat (first | apply Kd.R_alloc | apply Kd.R_drewN | apply Kd.R_drew)); exact Kd.R_mono (Kd.R_far (p := ⟨gb109, 1, none⟩) (Kd.R_far (p := ⟨gb109, 0, none⟩) (Kd.R_types HO_3.out BK109.out (by decide)) (fun _ hk => hk.2) (.int .i64 ((rd_T43 l0 x9_1).f0))) (fun _ hk => hk.2) (.int .i64 ((rd_T43 l0 x9_1).f1))) (fun _ hk => trivial))); (case aS => exact (below_size (K1 HB GE109.out))); (case aL => have := LMc7.out; omega); intro v111 w22 ho hb hg hat; rw [← Ny110.out] at ho; replace BK109 := am (blk_grown (g := gb109) (o := .cells #[.int .i64 ((rd_T43 l0 x9_1).f0), .int .i64 ((rd_T43 l0 x9_1).f1)] 43 (0, 0)) (by (with_reducible repeat (first | refine blk_drewN ?_ _ | refine blk_drew ?_ | refine blk_alloc ?_ _)); refine blk_put (cs := #[.int .i64 ((rd_T43 l0 x9_1).f0), .int .i64 0]) ?_ 1 _ rfl; (with_reducible repeat (first | refine blk_drewN ?_ _ | refine blk_drew ?_ | refine blk_alloc ?_ _)); refine blk_put (cs := #[.int .i64 0, .int .i64 0]) ?_ 0 _ rfl; (with_reducible repeat (first | refine blk_drewN ?_ _ | refine blk_drew ?_ | refine blk_alloc ?_ _)); exact BK109.out) hg (Kd.R_ne HO_3.out BK109.out (by decide))); replace HB := am (hb); have HO112 := am (ho); clear HO_3; clear ho hb hg hat; obtain ⟨hcz23_0, hcz23_1, hfz23_0⟩ := y2 w22 BK109.out) | ((with_reducible refine gate_callee (f := 110) rfl ?_); refine goesL_ (some 19) rfl rfl Try.func110 (by kernel_rfl) rfl #[.agg #[.int .i64 ((rd_T43 l0 x9_1).f0), .int .i64 ((rd_T43 l0 x9_1).f1)]] rfl MT ?_; (with_reducible refine (impl_Block_last.calls ((rd_T43 l0 x9_1).f0) ((rd_T43 l0 x9_1).f1) t113 _ A8.out).mono ?_); rintro e w24 ⟨rfl, hb⟩; refine ⟨_, rfl, ?_⟩; replace HO112 := am (Kd.R_below (KR HO112) hb); replace BK109 := am (BB BK109 hb); replace HB := am (below_step (K1 HB GE109.out) hb); (try clear hb)))
        go_roundg k1
        case measure => have := HK1.out; omega
        case rel => exact ⟨(y110), (wrap64 (x9_1 + 1)), (by first | rfl | (simp; done) | (simp [*]; done)), H', ⟨by have := HK1.out; omega⟩, ⟨KR HO112⟩, ⟨K1 HB GE109.out⟩⟩
      ·rw [if_neg c7] at H
       exact absurd H (by simp)
     ·rw [if_neg c6] at H
      exact absurd H (by simp)
    ·rw [if_neg c5] at H
     exact absurd H (by simp)
   ·rw [if_neg c4] at H
    have c4b0 : decide (x9_1 < (l0.length : Int)) = false := decide_eq_false c4
    clear c4
    replace H := Option.bind_eq_some_iff.mp H
    obtain ⟨t104, A250, H⟩ := H
    replace H : ((slices_Compact_int.f t104).bind fun t105 => (some t105)) = some r := H
    have A25 := Aside0.mk A250
    clear A250
    replace H := Option.bind_eq_some_iff.mp H
    obtain ⟨t105, A260, H⟩ := H
    replace H : (some t105) = some r := H
    have A26 := Aside0.mk A260
    clear A260
    obtain rfl := Option.some.inj H
    obtain ⟨Ao27, co27, eo27⟩ := Kd.R_slice HO_3.out
    subst eo27
    go_wp2_with (first | ((with_reducible refine gate_callee (f := 111) rfl ?_); refine goesL_ (some 29) rfl rfl Try.func111 (by kernel_rfl) rfl #[.slice Ao27 x3_1.length co27] rfl MT ?_; (with_reducible refine (slices_Sort_int.calls (fun k_ => some k_ = (.slice Ao27 x3_1.length co27 : Value).ownBlock) (.slice Ao27 x3_1.length co27) x3_1 t104 w _ ?side1 ?side2 A25.out).mono ?_); (case side1 => exact KL HB); (case side2 => exact Kd.R_tight rfl HO_3.out); rintro e w28 ⟨rfl, hy0, hb, hkp⟩; refine ⟨_, rfl, ?_⟩; replace HO_3 := am (Kd.R_reok rfl hy0 (fun k_ e_ => HO_3.out.1 k_ e_)); replace HB := am (hb); (try clear hb); (try clear hkp); (try clear hy0)) | ((with_reducible refine gate_callee (f := 112) rfl ?_); refine goesL_ (some 31) rfl rfl Try.func112 (by kernel_rfl) rfl #[.slice Ao27 x3_1.length co27] rfl MT ?_; (with_reducible refine (slices_Compact_int.calls (fun k_ => some k_ = (.slice Ao27 x3_1.length co27 : Value).ownBlock) (.slice Ao27 x3_1.length co27) t104 t105 w _ ?side1 ?side2 A26.out).mono ?_); (case side1 => exact KL HB); (case side2 => exact Kd.R_tight rfl HO_3.out); rintro e w29 ⟨v106, rfl, ho0, hb, hkp⟩; refine ⟨_, rfl, ?_⟩; have HO107 := am (Kd.R_mono (ok' := fun k_ => True) ho0 (fun k_ hk_ => trivial)); replace HB := am (hb); clear HO_3; (try clear hb); (try clear hkp); (try clear ho0)))
    go_ret
    exact ⟨_, ER, by (with_reducible repeat (first | apply Kd.R_alloc | apply Kd.R_drewN | apply Kd.R_drew)); exact HO107.out, KL HB⟩
def impl_axesOf.l0 : Nat → List (S43) → List (S43) → List Int → List (S71) → Int → Int → Option (List Int × List Int × List Int)
 | 0, _, _, _, _, _, _ => none
 | k + 1, x3, x4, x5, x9, x10, x11 => if x11 < x10 then (if 0 ≤ x11 then (if x11 < (x9.length : Int) then ((some (([(⟨(rd_T71 x9 x11).f2.f0, (rd_T71 x9 x11).f2.f1⟩ : S43)] : List (S43)) : List (S43))).bind fun y107 => (if x3.length + y107.length < 8796093022208 then ((some (x3 ++ y107 : List (S43))).bind fun y110 => ((some (([(⟨(rd_T71 x9 x11).f3.f0, (rd_T71 x9 x11).f3.f1⟩ : S43)] : List (S43)) : List (S43))).bind fun y113 => (if x4.length + y113.length < 8796093022208 then ((some (x4 ++ y113 : List (S43))).bind fun y116 => ((some (([(rd_T71 x9 x11).f4] : List Int) : List Int)).bind fun y119 => (if x5.length + y119.length < 17592186044416 then ((some (x5 ++ y119 : List Int)).bind fun y122 => (if ((rd_T71 x9 x11).f5) < 65535 then ((some (([wrap64 (((rd_T71 x9 x11).f5) + 1)] : List Int) : List Int)).bind fun y125 => (if y122.length + y125.length < 17592186044416 then (impl_axesOf.l0 k y110 y116 (y122 ++ y125) x9 x10 (wrap64 (x11 + 1))) else (none))) else (impl_axesOf.l0 k y110 y116 y122 x9 x10 (wrap64 (x11 + 1))))) else (none)))) else (none)))) else (none))) else (none)) else (none)) else ((slices_Sort_int.f x5).bind fun t131 => ((impl_bounds.f k x3).bind fun t132 => ((impl_bounds.f k x4).bind fun t135 => ((slices_Compact_int.f t131).bind fun t138 => (some (t132, t135, t138))))))
def impl_axesOf.f (k : Nat) (l0 : List (S71)) : Option (List Int × List Int × List Int) := impl_axesOf.l0 k ([] : List (S43)) ([] : List (S43)) (([0] : List Int)) l0 (l0.length : Int) 0
def impl_axesOf.T6 : Bool × List (List Nat × List Nat) := (true, [([], []), ([], []), ([1], [1]), ([2], [2]), ([0, 3], [0, 3]), ([], []), ([], []), ([6], [6]), ([7], [7]), ([5, 8, 4], [5, 8]), ([4, 9, 0, 1, 2, 3, 4], [0, 4]), ([9, 10, 0, 1, 2, 3, 4, 5, 6, 7, 8, 9, 10], [5, 9])])
def impl_axesOf.B6 : List Nat := [0, 0, 2, 6, 15, 0, 0, 64, 192, 511, 1023, 2047]
theorem impl_axesOf.tab6 : rtab .any (opsOf Try.f86 6) = impl_axesOf.T6 := by kernel_rfl
theorem impl_axesOf.bits6 : waitsOk impl_axesOf.T6.2 impl_axesOf.B6 = true := by kernel_rfl
set_option maxHeartbeats 8000000 in
set_option maxRecDepth 100000 in
theorem impl_axesOf.calls (k : Nat) (A0 : Option Addr) (c0 : Nat) (l0 : List (S71)) (r1 : List Int) (r2 : List Int) (r3 : List Int) (w : World) (hr0 : Kd.C k71 w A0 l0.length l0) (hc0 : l0.length ≤ c0) (h : impl_axesOf.f k l0 = some (r1, r2, r3)) :
  Calls Try.prog 86 #[.slice A0 l0.length c0] w fun e w' => ∃ v0_ v1_ v2_ : Value, e = .returned (.agg #[v0_, v1_, v2_]) ∧ Kd.R (Kd.int .i64) 3 w' w.heap.size (fun k_ => some k_ ≠ (v1_ : Value).ownBlock ∧ some k_ ≠ (v2_ : Value).ownBlock) v0_ r1 ∧ Kd.R (Kd.int .i64) 3 w' w.heap.size (fun k_ => some k_ ≠ (v0_ : Value).ownBlock ∧ some k_ ≠ (v2_ : Value).ownBlock) v1_ r2 ∧ Kd.R (Kd.int .i64) 3 w' w.heap.size (fun k_ => some k_ ≠ (v0_ : Value).ownBlock ∧ some k_ ≠ (v1_ : Value).ownBlock) v2_ r3 ∧ Below w.heap.size w w' := by
 have hu113 := Try.underlying113
 have hu71 := Try.underlying71
 have hu43 := Try.underlying43
 have HR0 := Aside0.mk hr0
 have HC0 := Aside0.mk hc0
 clear hr0 hc0
 have HB := am (Below.refl w.heap.size w)
 have H : (impl_axesOf.l0 k ([] : List (S43)) ([] : List (S43)) (([0] : List Int)) l0 (l0.length : Int) 0) = some (r1, r2, r3) := h
 clear h
 obtain ⟨y102, hy102⟩ : ∃ y_ : List Int, y_ = (([0] : List Int)) := ⟨_, rfl⟩
 replace H : (impl_axesOf.l0 k ([] : List (S43)) ([] : List (S43)) y102 l0 (l0.length : Int) 0) = some (r1, r2, r3) := by first | (rw [hy102]; with_reducible exact H) | (have H2_ := (Option.bind_some _ _).symm.trans H; rw [hy102]; with_reducible exact H2_) | (have H2_ := (Option.bind_some _ _).symm.trans H; with_reducible exact H2_) | with_reducible exact H | (rw [hy102]; exact H) | exact H
 have Ny102 := Aside0.mk hy102
 clear hy102
 have H' := Aside0.mk H
 clear H
 go_enter Try.func86, Try.ntmps86
 go_wp2_with (first | ((with_reducible refine gate_dst (N := 2) rfl ?_); refine box_event rfl (N := 2) rfl (cs := #[.slice none 0 0, .slice none 0 0, .slice none 0 0]) (t := 113) BX ?_; intro gb101 hg w2 hbox hb; have BK101 := am (hbox); have GW101 := am (GH HB hg); have GE101 := GW101; replace HB := am (below_step (KL HB) hb); clear hb hbox hg) | ((with_reducible refine gate_dst (N := 8) rfl ?_); refine Kd.R_lit (Kd.int .i64) _ 3 ?hg (N := 8) ?hd (xs := ([0] : List Int)) (inner := [.int .i64 0]) (ok := fun _ => True) (okp := fun _ => True) ?hr ?hp (fun _ hk => hk) trivial (Below.refl _ _) (Nat.le_refl _) (by simp) ?_; (case hd => rfl); (case hg => rfl); (case hr => first | (go_simp; done) | (go_simp; rfl)); (case hp => exact (Reps.one (show Kd.M (Kd.int .i64) _ _ _ 0 [.int .i64 0] from rfl) (Reps.none _ _))); intro v103 w3 ho4 hb hg_ hnew_; clear hg_ hnew_; (first | rw [← Ny102.out] at ho4 | (simp only [Int.reduceToNat] at ho4; rw [← Ny102.out] at ho4)); have HO104 := am (Kd.R_lower ho4 (below_size (K1 HB GE101.out))); replace BK101 := am (BB BK101 hb); replace HB := am (below_step (K1 HB GE101.out) hb); clear hb ho4))
 go_loopg [3, 4, 5, 11] k (fun kq v3 v4 v5 v11 w' => ∃ (x3_1 : List (S43)) (x4_1 : List (S43)) (x5_1 : List Int) (x11_1 : Int), v11 = .int .i64 x11_1 ∧ Aside0 (impl_axesOf.l0 kq x3_1 x4_1 x5_1 l0 (l0.length : Int) x11_1 = some (r1, r2, r3)) ∧ Aside0 (kq ≤ k) ∧ Aside0 (Kd.R k43 43 w' w.heap.size (fun k_ => some k_ ≠ (v4 : Value).ownBlock) v3 x3_1) ∧ Aside0 (Kd.R k43 43 w' w.heap.size (fun k_ => some k_ ≠ (v3 : Value).ownBlock) v4 x4_1) ∧ Aside0 (Kd.R (Kd.int .i64) 3 w' w.heap.size (fun _ => True) v5 x5_1) ∧ Aside0 (w'.heap[gb101]? = some (.cells #[(.slice none 0 0), (.slice none 0 0), (.slice none 0 0)] 113 (0, 0))) ∧ Aside0 (Below w.heap.size w w'))
 case atStart => exact ⟨(([] : List (S43))), (([] : List (S43))), (y102), (0), (by first | rfl | (simp; done) | (simp [*]; done)), H', ⟨Nat.le_refl _⟩, ⟨by first | exact Kd.R_nil _ _ _ _ _ | exact Kd.N_nil _ _ _ _ _ | exact Kd.V_nil _ _ _ _ _ | exact Kd.Q_nil _ _ _ _ _ | exact Kd.S_nil _ _ _ _ _⟩, ⟨by first | exact Kd.R_nil _ _ _ _ _ | exact Kd.N_nil _ _ _ _ _ | exact Kd.V_nil _ _ _ _ _ | exact Kd.Q_nil _ _ _ _ _ | exact Kd.S_nil _ _ _ _ _⟩, ⟨KR HO104⟩, ⟨KB BK101⟩, ⟨K1 HB GE101.out⟩⟩
 case round =>
  clear H'
  try clear p2
  obtain ⟨x3_1, x4_1, x5_1, x11_1, rfl, HA, HK1, HO_3, HO_4, HO_5, BK101, HB⟩ := hrel
  cases gk with
  | zero => exact absurd HA.out (by simp [impl_axesOf.l0])
  | succ k1 =>
   have H := HA.out
   clear HA
   simp only [impl_axesOf.l0] at H
   by_cases c5 : x11_1 < (l0.length : Int)
   ·rw [if_pos c5] at H
    have c5b0 : decide (x11_1 < (l0.length : Int)) = true := decide_eq_true c5
    clear c5
    by_cases c6 : 0 ≤ x11_1
    ·rw [if_pos c6] at H
     have c6b0 : decide (0 ≤ x11_1) = true := decide_eq_true c6
     clear c6
     by_cases c7 : x11_1 < (l0.length : Int)
     ·rw [if_pos c7] at H
      have c7b0 : decide (x11_1 < (l0.length : Int)) = true := decide_eq_true c7
      clear c7
      obtain ⟨y107, hy107⟩ : ∃ y_ : List (S43), y_ = (([(⟨(rd_T71 l0 x11_1).f2.f0, (rd_T71 l0 x11_1).f2.f1⟩ : S43)] : List (S43))) := ⟨_, rfl⟩
      replace H : (if x3_1.length + y107.length < 8796093022208 then ((some (x3_1 ++ y107 : List (S43))).bind fun y110 => ((some (([(⟨(rd_T71 l0 x11_1).f3.f0, (rd_T71 l0 x11_1).f3.f1⟩ : S43)] : List (S43)) : List (S43))).bind fun y113 => (if x4_1.length + y113.length < 8796093022208 then ((some (x4_1 ++ y113 : List (S43))).bind fun y116 => ((some (([(rd_T71 l0 x11_1).f4] : List Int) : List Int)).bind fun y119 => (if x5_1.length + y119.length < 17592186044416 then ((some (x5_1 ++ y119 : List Int)).bind fun y122 => (if ((rd_T71 l0 x11_1).f5) < 65535 then ((some (([wrap64 (((rd_T71 l0 x11_1).f5) + 1)] : List Int) : List Int)).bind fun y125 => (if y122.length + y125.length < 17592186044416 then (impl_axesOf.l0 k1 y110 y116 (y122 ++ y125) l0 (l0.length : Int) (wrap64 (x11_1 + 1))) else (none))) else (impl_axesOf.l0 k1 y110 y116 y122 l0 (l0.length : Int) (wrap64 (x11_1 + 1))))) else (none)))) else (none)))) else (none)) = some (r1, r2, r3) := by first | (rw [hy107]; with_reducible exact H) | (have H2_ := (Option.bind_some _ _).symm.trans H; rw [hy107]; with_reducible exact H2_) | (have H2_ := (Option.bind_some _ _).symm.trans H; with_reducible exact H2_) | with_reducible exact H | (rw [hy107]; exact H) | exact H
      have Ny107 := Aside0.mk hy107
      clear hy107
      by_cases c8 : x3_1.length + y107.length < 8796093022208
      ·rw [if_pos c8] at H
       have LMc8 := Aside0.mk c8
       clear c8
       obtain ⟨y110, hy110⟩ : ∃ y_ : List (S43), y_ = (x3_1 ++ y107) := ⟨_, rfl⟩
       replace H : ((some (([(⟨(rd_T71 l0 x11_1).f3.f0, (rd_T71 l0 x11_1).f3.f1⟩ : S43)] : List (S43)) : List (S43))).bind fun y113 => (if x4_1.length + y113.length < 8796093022208 then ((some (x4_1 ++ y113 : List (S43))).bind fun y116 => ((some (([(rd_T71 l0 x11_1).f4] : List Int) : List Int)).bind fun y119 => (if x5_1.length + y119.length < 17592186044416 then ((some (x5_1 ++ y119 : List Int)).bind fun y122 => (if ((rd_T71 l0 x11_1).f5) < 65535 then ((some (([wrap64 (((rd_T71 l0 x11_1).f5) + 1)] : List Int) : List Int)).bind fun y125 => (if y122.length + y125.length < 17592186044416 then (impl_axesOf.l0 k1 y110 y116 (y122 ++ y125) l0 (l0.length : Int) (wrap64 (x11_1 + 1))) else (none))) else (impl_axesOf.l0 k1 y110 y116 y122 l0 (l0.length : Int) (wrap64 (x11_1 + 1))))) else (none)))) else (none))) = some (r1, r2, r3) := by first | (rw [hy110]; with_reducible exact H) | (have H2_ := (Option.bind_some _ _).symm.trans H; rw [hy110]; with_reducible exact H2_) | (have H2_ := (Option.bind_some _ _).symm.trans H; with_reducible exact H2_) | with_reducible exact H | (rw [hy110]; exact H) | exact H
       have Ny110 := Aside0.mk hy110
       clear hy110
       obtain ⟨y113, hy113⟩ : ∃ y_ : List (S43), y_ = (([(⟨(rd_T71 l0 x11_1).f3.f0, (rd_T71 l0 x11_1).f3.f1⟩ : S43)] : List (S43))) := ⟨_, rfl⟩
       replace H : (if x4_1.length + y113.length < 8796093022208 then ((some (x4_1 ++ y113 : List (S43))).bind fun y116 => ((some (([(rd_T71 l0 x11_1).f4] : List Int) : List Int)).bind fun y119 => (if x5_1.length + y119.length < 17592186044416 then ((some (x5_1 ++ y119 : List Int)).bind fun y122 => (if ((rd_T71 l0 x11_1).f5) < 65535 then ((some (([wrap64 (((rd_T71 l0 x11_1).f5) + 1)] : List Int) : List Int)).bind fun y125 => (if y122.length + y125.length < 17592186044416 then (impl_axesOf.l0 k1 y110 y116 (y122 ++ y125) l0 (l0.length : Int) (wrap64 (x11_1 + 1))) else (none))) else (impl_axesOf.l0 k1 y110 y116 y122 l0 (l0.length : Int) (wrap64 (x11_1 + 1))))) else (none)))) else (none)) = some (r1, r2, r3) := by first | (rw [hy113]; with_reducible exact H) | (have H2_ := (Option.bind_some _ _).symm.trans H; rw [hy113]; with_reducible exact H2_) | (have H2_ := (Option.bind_some _ _).symm.trans H; with_reducible exact H2_) | with_reducible exact H | (rw [hy113]; exact H) | exact H
       have Ny113 := Aside0.mk hy113
       clear hy113
       by_cases c9 : x4_1.length + y113.length < 8796093022208
       ·rw [if_pos c9] at H
        have LMc9 := Aside0.mk c9
        clear c9
        obtain ⟨y116, hy116⟩ : ∃ y_ : List (S43), y_ = (x4_1 ++ y113) := ⟨_, rfl⟩
        replace H : ((some (([(rd_T71 l0 x11_1).f4] : List Int) : List Int)).bind fun y119 => (if x5_1.length + y119.length < 17592186044416 then ((some (x5_1 ++ y119 : List Int)).bind fun y122 => (if ((rd_T71 l0 x11_1).f5) < 65535 then ((some (([wrap64 (((rd_T71 l0 x11_1).f5) + 1)] : List Int) : List Int)).bind fun y125 => (if y122.length + y125.length < 17592186044416 then (impl_axesOf.l0 k1 y110 y116 (y122 ++ y125) l0 (l0.length : Int) (wrap64 (x11_1 + 1))) else (none))) else (impl_axesOf.l0 k1 y110 y116 y122 l0 (l0.length : Int) (wrap64 (x11_1 + 1))))) else (none))) = some (r1, r2, r3) := by first | (rw [hy116]; with_reducible exact H) | (have H2_ := (Option.bind_some _ _).symm.trans H; rw [hy116]; with_reducible exact H2_) | (have H2_ := (Option.bind_some _ _).symm.trans H; with_reducible exact H2_) | with_reducible exact H | (rw [hy116]; exact H) | exact H
        have Ny116 := Aside0.mk hy116
        clear hy116
        obtain ⟨y119, hy119⟩ : ∃ y_ : List Int, y_ = (([(rd_T71 l0 x11_1).f4] : List Int)) := ⟨_, rfl⟩
        replace H : (if x5_1.length + y119.length < 17592186044416 then ((some (x5_1 ++ y119 : List Int)).bind fun y122 => (if ((rd_T71 l0 x11_1).f5) < 65535 then ((some (([wrap64 (((rd_T71 l0 x11_1).f5) + 1)] : List Int) : List Int)).bind fun y125 => (if y122.length + y125.length < 17592186044416 then (impl_axesOf.l0 k1 y110 y116 (y122 ++ y125) l0 (l0.length : Int) (wrap64 (x11_1 + 1))) else (none))) else (impl_axesOf.l0 k1 y110 y116 y122 l0 (l0.length : Int) (wrap64 (x11_1 + 1))))) else (none)) = some (r1, r2, r3) := by first | (rw [hy119]; with_reducible exact H) | (have H2_ := (Option.bind_some _ _).symm.trans H; rw [hy119]; with_reducible exact H2_) | (have H2_ := (Option.bind_some _ _).symm.trans H; with_reducible exact H2_) | with_reducible exact H | (rw [hy119]; exact H) | exact H
        have Ny119 := Aside0.mk hy119
        clear hy119
        by_cases c10 : x5_1.length + y119.length < 17592186044416
        ·rw [if_pos c10] at H
         have LMc10 := Aside0.mk c10
         clear c10
         obtain ⟨y122, hy122⟩ : ∃ y_ : List Int, y_ = (x5_1 ++ y119) := ⟨_, rfl⟩
         replace H : (if ((rd_T71 l0 x11_1).f5) < 65535 then ((some (([wrap64 (((rd_T71 l0 x11_1).f5) + 1)] : List Int) : List Int)).bind fun y125 => (if y122.length + y125.length < 17592186044416 then (impl_axesOf.l0 k1 y110 y116 (y122 ++ y125) l0 (l0.length : Int) (wrap64 (x11_1 + 1))) else (none))) else (impl_axesOf.l0 k1 y110 y116 y122 l0 (l0.length : Int) (wrap64 (x11_1 + 1)))) = some (r1, r2, r3) := by first | (rw [hy122]; with_reducible exact H) | (have H2_ := (Option.bind_some _ _).symm.trans H; rw [hy122]; with_reducible exact H2_) | (have H2_ := (Option.bind_some _ _).symm.trans H; with_reducible exact H2_) | with_reducible exact H | (rw [hy122]; exact H) | exact H
         have Ny122 := Aside0.mk hy122
         clear hy122
         by_cases c11 : ((rd_T71 l0 x11_1).f5) < 65535
         ·rw [if_pos c11] at H
          have c11b0 : decide (((rd_T71 l0 x11_1).f5) < 65535) = true := decide_eq_true c11
          clear c11
          obtain ⟨y125, hy125⟩ : ∃ y_ : List Int, y_ = (([wrap64 (((rd_T71 l0 x11_1).f5) + 1)] : List Int)) := ⟨_, rfl⟩
          replace H : (if y122.length + y125.length < 17592186044416 then (impl_axesOf.l0 k1 y110 y116 (y122 ++ y125) l0 (l0.length : Int) (wrap64 (x11_1 + 1))) else (none)) = some (r1, r2, r3) := by first | (rw [hy125]; with_reducible exact H) | (have H2_ := (Option.bind_some _ _).symm.trans H; rw [hy125]; with_reducible exact H2_) | (have H2_ := (Option.bind_some _ _).symm.trans H; with_reducible exact H2_) | with_reducible exact H | (rw [hy125]; exact H) | exact H
          have Ny125 := Aside0.mk hy125
          clear hy125
          by_cases c12 : y122.length + y125.length < 17592186044416
          ·rw [if_pos c12] at H
           have LMc12 := Aside0.mk c12
           clear c12
           obtain ⟨y128, hy128⟩ : ∃ y_ : List Int, y_ = (y122 ++ y125) := ⟨_, rfl⟩
           replace H : (impl_axesOf.l0 k1 y110 y116 y128 l0 (l0.length : Int) (wrap64 (x11_1 + 1))) = some (r1, r2, r3) := by first | (rw [hy128]; with_reducible exact H) | (have H2_ := (Option.bind_some _ _).symm.trans H; rw [hy128]; with_reducible exact H2_) | (have H2_ := (Option.bind_some _ _).symm.trans H; with_reducible exact H2_) | with_reducible exact H | (rw [hy128]; exact H) | exact H
           have Ny128 := Aside0.mk hy128
           clear hy128
           have H' := Aside0.mk H
           clear H
           have p105 : 0 ≤ (x11_1 : Int) := OD
           have q105 : x11_1 < (l0.length : Int) := OD
           obtain ⟨ad105, e105, hx105_0, hx105_1, hx105_2, hx105_3, hx105_4, hx105_5, hx105_6, hx105_7⟩ := at_T71 HR0.out x11_1 p105 q105
           cases e105
           replace hx105_0 := CX HB.out hx105_0
           replace hx105_1 := CX HB.out hx105_1
           replace hx105_2 := CX HB.out hx105_2
           replace hx105_3 := CX HB.out hx105_3
           replace hx105_4 := CX HB.out hx105_4
           replace hx105_5 := CX HB.out hx105_5
           replace hx105_6 := CX HB.out hx105_6
           replace hx105_7 := CX HB.out hx105_7
           replace p105 := eq_true p105
           replace q105 := eq_true q105
           try go_wp2_with (first | ((with_reducible refine gate_dst (N := 7) rfl ?_); refine box_event rfl (N := 7) rfl (cs := #[.int .i64 0, .int .i64 0, .int .i64 0, .int .i64 0, .int .i64 0, .int .i64 0, .int .i64 0, .int .i64 0]) (t := 71) BX ?_; intro gb106 hg w13 hbox hb; replace HO_3 := am (Kd.R_below (KR HO_3) hb); replace HO_4 := am (Kd.R_below (KR HO_4) hb); replace HO_5 := am (Kd.R_below (KR HO_5) hb); have BK106 := am (hbox); have GW106 := am (GH1 HB GE101.out hg); have GE106 := GW106; replace HB := am (below_step (K1 HB GE101.out) hb); have NB101_106 := am (NL BK101 hg); have NB106_101 := am (NG BK101 hg); replace BK101 := am (BB BK101 hb); clear hb hbox hg; have hnb14 := NB106_101.out; have hnc14 := NB101_106.out; obtain ⟨hcz15_0, hcz15_1, hcz15_2, hcz15_3, hcz15_4, hcz15_5, hcz15_6, hcz15_7, hfz15_0⟩ := y8 w13 BK106.out; obtain ⟨Ao16, co16, eo16⟩ := Kd.R_slice HO_3.out; subst eo16; obtain ⟨Ao17, co17, eo17⟩ := Kd.R_slice HO_4.out; subst eo17))
           generalize hq_ : ((((((((w13.setCell ⟨gb106, 0, none⟩ (.int .i64 ((rd_T71 l0 x11_1).f0))).setCell ⟨gb106, 1, none⟩ (.int .i64 ((rd_T71 l0 x11_1).f1))).setCell ⟨gb106, 2, none⟩ (.int .i64 ((rd_T71 l0 x11_1).f2.f0))).setCell ⟨gb106, 3, none⟩ (.int .i64 ((rd_T71 l0 x11_1).f2.f1))).setCell ⟨gb106, 4, none⟩ (.int .i64 ((rd_T71 l0 x11_1).f3.f0))).setCell ⟨gb106, 5, none⟩ (.int .i64 ((rd_T71 l0 x11_1).f3.f1))).setCell ⟨gb106, 6, none⟩ (.int .i64 ((rd_T71 l0 x11_1).f4))).setCell ⟨gb106, 7, none⟩ (.int .i64 ((rd_T71 l0 x11_1).f5))) = w18
           have n0_ : Aside0 (Kd.R k43 43 w18 w.heap.size (fun k_ => some k_ ≠ (.slice Ao17 x4_1.length co17 : Value).ownBlock) (.slice Ao16 x3_1.length co16) x3_1) := ⟨by rw [← hq_]; (with_reducible repeat (first | apply Kd.R_alloc | apply Kd.R_drewN | apply Kd.R_drew)); exact RF HO_3.out BK106.out⟩
           have n1_ : Aside0 (Kd.R k43 43 w18 w.heap.size (fun k_ => some k_ ≠ (.slice Ao16 x3_1.length co16 : Value).ownBlock) (.slice Ao17 x4_1.length co17) x4_1) := ⟨by rw [← hq_]; (with_reducible repeat (first | apply Kd.R_alloc | apply Kd.R_drewN | apply Kd.R_drew)); exact RF HO_4.out BK106.out⟩
           have n2_ : Aside0 (Kd.R (Kd.int .i64) 3 w18 w.heap.size (fun _ => True) u5 x5_1) := ⟨by rw [← hq_]; (with_reducible repeat (first | apply Kd.R_alloc | apply Kd.R_drewN | apply Kd.R_drew)); exact Kd.R_mono (Kd.R_far (p := ⟨gb106, 7, none⟩) (Kd.R_far (p := ⟨gb106, 6, none⟩) (Kd.R_far (p := ⟨gb106, 5, none⟩) (Kd.R_far (p := ⟨gb106, 4, none⟩) (Kd.R_far (p := ⟨gb106, 3, none⟩) (Kd.R_far (p := ⟨gb106, 2, none⟩) (Kd.R_far (p := ⟨gb106, 1, none⟩) (Kd.R_far (p := ⟨gb106, 0, none⟩) (Kd.R_types HO_5.out BK106.out (by decide)) (fun _ hk => hk.2) (.int .i64 ((rd_T71 l0 x11_1).f0))) (fun _ hk => hk.2) (.int .i64 ((rd_T71 l0 x11_1).f1))) (fun _ hk => hk.2) (.int .i64 ((rd_T71 l0 x11_1).f2.f0))) (fun _ hk => hk.2) (.int .i64 ((rd_T71 l0 x11_1).f2.f1))) (fun _ hk => hk.2) (.int .i64 ((rd_T71 l0 x11_1).f3.f0))) (fun _ hk => hk.2) (.int .i64 ((rd_T71 l0 x11_1).f3.f1))) (fun _ hk => hk.2) (.int .i64 ((rd_T71 l0 x11_1).f4))) (fun _ hk => hk.2) (.int .i64 ((rd_T71 l0 x11_1).f5))) (fun _ hk => trivial)⟩
           have n3_ : Aside0 (w18.heap[gb101]? = some (.cells #[.slice none 0 0, .slice none 0 0, .slice none 0 0] 113 (0, 0))) := ⟨by rw [← hq_]; (with_reducible repeat (first | refine blk_drewN ?_ _ | refine blk_drew ?_ | refine blk_alloc ?_ _)); refine blk_far ?_ NB101_106.out _; (with_reducible repeat (first | refine blk_drewN ?_ _ | refine blk_drew ?_ | refine blk_alloc ?_ _)); refine blk_far ?_ NB101_106.out _; (with_reducible repeat (first | refine blk_drewN ?_ _ | refine blk_drew ?_ | refine blk_alloc ?_ _)); refine blk_far ?_ NB101_106.out _; (with_reducible repeat (first | refine blk_drewN ?_ _ | refine blk_drew ?_ | refine blk_alloc ?_ _)); refine blk_far ?_ NB101_106.out _; (with_reducible repeat (first | refine blk_drewN ?_ _ | refine blk_drew ?_ | refine blk_alloc ?_ _)); refine blk_far ?_ NB101_106.out _; (with_reducible repeat (first | refine blk_drewN ?_ _ | refine blk_drew ?_ | refine blk_alloc ?_ _)); refine blk_far ?_ NB101_106.out _; (with_reducible repeat (first | refine blk_drewN ?_ _ | refine blk_drew ?_ | refine blk_alloc ?_ _)); refine blk_far ?_ NB101_106.out _; (with_reducible repeat (first | refine blk_drewN ?_ _ | refine blk_drew ?_ | refine blk_alloc ?_ _)); refine blk_far ?_ NB101_106.out _; (with_reducible repeat (first | refine blk_drewN ?_ _ | refine blk_drew ?_ | refine blk_alloc ?_ _)); exact BK101.out⟩
           have n4_ : Aside0 (w18.heap[gb106]? = some (.cells #[.int .i64 ((rd_T71 l0 x11_1).f0), .int .i64 ((rd_T71 l0 x11_1).f1), .int .i64 ((rd_T71 l0 x11_1).f2.f0), .int .i64 ((rd_T71 l0 x11_1).f2.f1), .int .i64 ((rd_T71 l0 x11_1).f3.f0), .int .i64 ((rd_T71 l0 x11_1).f3.f1), .int .i64 ((rd_T71 l0 x11_1).f4), .int .i64 ((rd_T71 l0 x11_1).f5)] 71 (0, 0))) := ⟨by rw [← hq_]; exact P8 BK106⟩
           have n5_ : Aside0 (Below w.heap.size w w18) := ⟨by rw [← hq_]; exact K2 HB GE101.out GE106.out⟩
           clear hq_
           (try clear HO_3)
           (try clear HO_4)
           (try clear HO_5)
           (try clear BK101)
           (try clear BK106)
           (try clear HB)
           have HO_3 := n0_
           have HO_4 := n1_
           have HO_5 := n2_
           have BK101 := n3_
           have BK106 := n4_
           have HB := n5_
           clear n0_ n1_ n2_ n3_ n4_ n5_
           replace HO_3 := am (Kd.R_drew HO_3.out)
           replace HO_4 := am (Kd.R_drew HO_4.out)
           replace HO_5 := am (Kd.R_drew HO_5.out)
           replace BK101 := am (blk_drew BK101.out)
           replace BK106 := am (blk_drew BK106.out)
           replace HB := am (below_drew1 HB.out)
           refine start_ (n := 12) (S := fun w' => de8 w' gb106 (.int .i64 ((rd_T71 l0 x11_1).f0)) (.int .i64 ((rd_T71 l0 x11_1).f1)) (.int .i64 ((rd_T71 l0 x11_1).f2.f0)) (.int .i64 ((rd_T71 l0 x11_1).f2.f1)) (.int .i64 ((rd_T71 l0 x11_1).f3.f0)) (.int .i64 ((rd_T71 l0 x11_1).f3.f1)) (.int .i64 ((rd_T71 l0 x11_1).f4)) (.int .i64 ((rd_T71 l0 x11_1).f5))) (ds := []) (tf 0 12) (by kernel_rfl) rfl rfl ⟨z0 _ BK106.out, z1 _ BK106.out, z2 _ BK106.out, z3 _ BK106.out, z4 _ BK106.out, z5 _ BK106.out, z6 _ BK106.out, z7 _ BK106.out⟩ (fun hHeld => ?_); refine with_tabW impl_axesOf.tab6 impl_axesOf.bits6 (fun HT_ HW_ => ?_)
           generalize w18.drew = w19 at HO_3 HO_4 HO_5 BK101 BK106 HB hHeld ⊢
           refine pv HT_ 0 15 (tf 1 11) ?_
           refine pv HT_ 1 16 (tf 2 10) ?_
           refine pv HT_ 5 20 (tr [2, 3, 1, 6]) ?_
           refine pv HT_ 6 21 (tr [2, 3, 2, 5]) ?_
           refine tk 2 (some 17) (tr [3, 2, 2, 5]) (take_ofW HT_.out HW_.out (by kernel_rfl)) hHeld ?_
           refine tk 7 (some 22) (tr [3, 2, 3, 4]) (take_ofW HT_.out HW_.out (by kernel_rfl)) hHeld ?_
           refine join_ (σ := Value × Value × Value) 3 (tf 9 3) (fun s_ => [(18, s_.1), (19, s_.2.1), (23, s_.2.2)]) (fun s_ w' => (w'.cell? ⟨gb106, 0, none⟩ = some (.int .i64 ((rd_T71 l0 x11_1).f0)) ∧ w'.cell? ⟨gb106, 1, none⟩ = some (.int .i64 ((rd_T71 l0 x11_1).f1)) ∧ w'.cell? ⟨gb106, 2, none⟩ = some (.int .i64 ((rd_T71 l0 x11_1).f2.f0)) ∧ w'.cell? ⟨gb106, 3, none⟩ = some (.int .i64 ((rd_T71 l0 x11_1).f2.f1)) ∧ w'.cell? ⟨gb106, 4, none⟩ = some (.int .i64 ((rd_T71 l0 x11_1).f3.f0)) ∧ w'.cell? ⟨gb106, 5, none⟩ = some (.int .i64 ((rd_T71 l0 x11_1).f3.f1)) ∧ w'.cell? ⟨gb106, 6, none⟩ = some (.int .i64 ((rd_T71 l0 x11_1).f4)) ∧ w'.cell? ⟨gb106, 7, none⟩ = some (.int .i64 ((rd_T71 l0 x11_1).f5))) ∧ (Kd.R k43 43 w' w.heap.size (fun k_ => some k_ ≠ (s_.2.1 : Value).ownBlock ∧ some k_ ≠ (s_.2.2 : Value).ownBlock ∧ some k_ ≠ (.slice Ao17 x4_1.length co17 : Value).ownBlock) s_.1 y107) ∧ (Kd.R k43 43 w' w.heap.size (fun k_ => some k_ ≠ (s_.1 : Value).ownBlock ∧ some k_ ≠ (s_.2.2 : Value).ownBlock ∧ some k_ ≠ (.slice Ao17 x4_1.length co17 : Value).ownBlock) s_.2.1 y110) ∧ (Kd.R k43 43 w' w.heap.size (fun k_ => some k_ ≠ (s_.1 : Value).ownBlock ∧ some k_ ≠ (s_.2.1 : Value).ownBlock ∧ some k_ ≠ (.slice Ao17 x4_1.length co17 : Value).ownBlock) s_.2.2 y113) ∧ (Kd.R k43 43 w' w.heap.size (fun k_ => some k_ ≠ (s_.1 : Value).ownBlock ∧ some k_ ≠ (s_.2.1 : Value).ownBlock ∧ some k_ ≠ (s_.2.2 : Value).ownBlock) (.slice Ao17 x4_1.length co17) x4_1) ∧ (Kd.R (Kd.int .i64) 3 w' w.heap.size (fun _ => True) u5 x5_1) ∧ (w'.heap[gb101]? = some (.cells #[.slice none 0 0, .slice none 0 0, .slice none 0 0] 113 (0, 0))) ∧ (w'.heap[gb106]? = some (.cells #[.int .i64 ((rd_T71 l0 x11_1).f0), .int .i64 ((rd_T71 l0 x11_1).f1), .int .i64 ((rd_T71 l0 x11_1).f2.f0), .int .i64 ((rd_T71 l0 x11_1).f2.f1), .int .i64 ((rd_T71 l0 x11_1).f3.f0), .int .i64 ((rd_T71 l0 x11_1).f3.f1), .int .i64 ((rd_T71 l0 x11_1).f4), .int .i64 ((rd_T71 l0 x11_1).f5)] 71 (0, 0))) ∧ (Below w.heap.size w w')) ?_ ?_
           rotate_left
           ·intro hCont
            refine two_ (i := 3) (j := 8) (Ni := some 18) (Nj := some 23) (tr [4, 1, 3, 4]) (tr [3, 2, 4, 3]) rfl rfl rfl rfl (two_of HT_.out (by kernel_rfl)) (by decide) (by decide) (fun K hK => ?_) (fun K hK => ?_)
            ·skip
             refine Kd.R_lit_step k43 _ 43 ?hg (N := 18) ?hd (xs := ([(⟨(rd_T71 l0 x11_1).f2.f0, (rd_T71 l0 x11_1).f2.f1⟩ : S43)] : List (S43))) (inner := [.int .i64 ((rd_T71 l0 x11_1).f2.f0), .int .i64 ((rd_T71 l0 x11_1).f2.f1)]) (ok := fun _ => True) (okp := fun _ => True) ?hr ?hp (fun _ hk => hk) trivial (Below.refl _ _) (Nat.le_refl _) (by simp) ?_; (case hd => rfl); (case hg => rfl); (case hr => first | (go_simp; done) | (go_simp; rfl)); (case hp => exact (Reps.c2 (show Kd.M k43 _ _ _ (⟨(rd_T71 l0 x11_1).f2.f0, (rd_T71 l0 x11_1).f2.f1⟩ : S43) [.int .i64 ((rd_T71 l0 x11_1).f2.f0), .int .i64 ((rd_T71 l0 x11_1).f2.f1)] from (k43_mkM _ _ _ (⟨(rd_T71 l0 x11_1).f2.f0, (rd_T71 l0 x11_1).f2.f1⟩ : S43) )) (Reps.none _ _)))
             intro v108 w20 ho21 hb hg_ hnew_
             clear hg_ hnew_
             (first | rw [← Ny107.out] at ho21 | (simp only [Int.reduceToNat] at ho21; rw [← Ny107.out] at ho21))
             replace HO_5 := am (Kd.R_below (KR HO_5) hb)
             have HO109 := am (Kd.R_lower (Kd.R_new' (Kd.R_new' ho21 (Kd.R_lt (KR HO_3))) (Kd.R_lt (KR HO_4))) (below_size (K2 HB GE101.out GE106.out)))
             replace HO_3 := am (Kd.R_elder' (KR HO_3) (Kd.R_base ho21) hb)
             replace HO_4 := am (Kd.R_elder' (KR HO_4) (Kd.R_base ho21) hb)
             replace BK101 := am (BB BK101 hb)
             replace BK106 := am (BB BK106 hb)
             replace HB := am (below_step (K2 HB GE101.out GE106.out) hb)
             clear hb ho21
             obtain ⟨Ao23, co23, eo23⟩ := Kd.R_slice HO109.out
             (first | subst eo23 | (injection eo23 with f1_ f2_ f3_; have f4_ := f1_.symm; have f5_ := f3_.symm; clear f1_ f2_ f3_; subst f4_; subst f5_))
             refine hK.out _ _ ⟨z0 _ BK106.out, z1 _ BK106.out, z2 _ BK106.out, z3 _ BK106.out, z4 _ BK106.out, z5 _ BK106.out, z6 _ BK106.out, z7 _ BK106.out⟩ (fun hHeld => ?_)
             clear hK K
             refine norm_ (a' := ?_) ?_ ?_
             rotate_left
             ·show Act.put _ (some 18) _ = _
              simp only [Act.put, List.setIfInBounds_toArray, List.set_cons_zero, List.set_cons_succ, i64_w, i32_w]
              rfl
             refine two_ (i := 4) (j := 8) (Ni := some 19) (Nj := some 23) (tf 8 4) (tr [4, 1, 4, 3]) rfl rfl rfl rfl (two_of HT_.out (by kernel_rfl)) (by decide) (by decide) (fun K hK => ?_) (fun K hK => ?_)
             ·skip
              refine Kd.R_append_rows_step k43 (w0 := w) w.heap.size (by rfl) (.tmp 15) (.tmp 18) 89 43 (.agg #[(.int .i64 0), (.int .i64 0)]) 16 rfl Try.underlying89 info43 rfl (by decide) (by omega) (.slice Ao16 x3_1.length co16) x3_1 y107 _ _ _ (fun k_ => some k_ ≠ (.slice Ao17 x4_1.length co17 : Value).ownBlock ∧ some k_ ≠ (.slice Ao23 y107.length co23 : Value).ownBlock) (fun _ => False) rfl rfl ?aO ?aR (fun _ _ h => h) (fun _ h => h.elim) ?aF ?aB ?aS ?aL ?_
              (case aR => exact KC (Kd.R_reads' HO109.out).2.2)
              (case aB => exact (K2 HB GE101.out GE106.out))
              (case aF => exact (fun k_ hk => ⟨Kd.fresh' (Kd.R_lt (KR HO_4)) k_ hk, Kd.fresh' (Kd.R_lt (KR HO109)) k_ hk⟩))
              (case aO => exact (KR HO_3))
              (case aS => exact (below_size (K2 HB GE101.out GE106.out)))
              (case aL => have := LMc8.out; omega)
              intro v111 w22 ho hb hg hat
              rw [← Ny110.out] at ho
              replace HO_4 := am (Kd.R_after (ok := (fun k_ => some k_ ≠ (.slice Ao23 y107.length co23 : Value).ownBlock)) (by (with_reducible repeat (first | apply Kd.R_alloc | apply Kd.R_drewN | apply Kd.R_drew)); exact Kd.R_mono HO_4.out (fun _ hk => ⟨hk.2, hk.1⟩)) hg hat)
              replace HO_5 := am (Kd.R_over' (KR HO_5) (Kd.R_typed (KR HO_3)) (by decide) hg)
              replace BK101 := am (blk_grown (g := gb101) (o := .cells #[.slice none 0 0, .slice none 0 0, .slice none 0 0] 113 (0, 0)) (KB BK101) hg (Kd.R_ne HO_3.out BK101.out (by decide)))
              replace BK106 := am (blk_grown (g := gb106) (o := .cells #[.int .i64 ((rd_T71 l0 x11_1).f0), .int .i64 ((rd_T71 l0 x11_1).f1), .int .i64 ((rd_T71 l0 x11_1).f2.f0), .int .i64 ((rd_T71 l0 x11_1).f2.f1), .int .i64 ((rd_T71 l0 x11_1).f3.f0), .int .i64 ((rd_T71 l0 x11_1).f3.f1), .int .i64 ((rd_T71 l0 x11_1).f4), .int .i64 ((rd_T71 l0 x11_1).f5)] 71 (0, 0)) (KB BK106) hg (Kd.R_ne HO_3.out BK106.out (by decide)))
              replace HO109 := am (Kd.R_after (ok := (fun k_ => some k_ ≠ (.slice Ao17 x4_1.length co17 : Value).ownBlock)) (by (with_reducible repeat (first | apply Kd.R_alloc | apply Kd.R_drewN | apply Kd.R_drew)); exact Kd.R_mono HO109.out (fun _ hk => ⟨hk.2, hk.1.2⟩)) hg hat)
              replace HB := am (hb)
              have HO112 := am (ho)
              clear HO_3
              clear ho hb hg hat
              refine hK.out _ _ ⟨z0 _ BK106.out, z1 _ BK106.out, z2 _ BK106.out, z3 _ BK106.out, z4 _ BK106.out, z5 _ BK106.out, z6 _ BK106.out, z7 _ BK106.out⟩ (fun hHeld => ?_)
              clear hK K
              refine norm_ (a' := ?_) ?_ ?_
              rotate_left
              ·show Act.put _ (some 19) _ = _
               simp only [Act.put, List.setIfInBounds_toArray, List.set_cons_zero, List.set_cons_succ, i64_w, i32_w]
               rfl
              refine one_ (i := 8) (N := some 23) (tf 9 3) rfl rfl (one_of HT_.out (by kernel_rfl)) (by decide) (fun K hK => ?_)
              refine Kd.R_lit_step k43 _ 43 ?hg (N := 23) ?hd (xs := ([(⟨(rd_T71 l0 x11_1).f3.f0, (rd_T71 l0 x11_1).f3.f1⟩ : S43)] : List (S43))) (inner := [.int .i64 ((rd_T71 l0 x11_1).f3.f0), .int .i64 ((rd_T71 l0 x11_1).f3.f1)]) (ok := fun _ => True) (okp := fun _ => True) ?hr ?hp (fun _ hk => hk) trivial (Below.refl _ _) (Nat.le_refl _) (by simp) ?_; (case hd => rfl); (case hg => rfl); (case hr => first | (go_simp; done) | (go_simp; rfl)); (case hp => exact (Reps.c2 (show Kd.M k43 _ _ _ (⟨(rd_T71 l0 x11_1).f3.f0, (rd_T71 l0 x11_1).f3.f1⟩ : S43) [.int .i64 ((rd_T71 l0 x11_1).f3.f0), .int .i64 ((rd_T71 l0 x11_1).f3.f1)] from (k43_mkM _ _ _ (⟨(rd_T71 l0 x11_1).f3.f0, (rd_T71 l0 x11_1).f3.f1⟩ : S43) )) (Reps.none _ _)))
              intro v114 w24 ho25 hb hg_ hnew_
              clear hg_ hnew_
              (first | rw [← Ny113.out] at ho25 | (simp only [Int.reduceToNat] at ho25; rw [← Ny113.out] at ho25))
              replace HO_5 := am (Kd.R_below (KR HO_5) hb)
              have HO115 := am (Kd.R_lower (Kd.R_new' (Kd.R_new' (Kd.R_new' ho25 (Kd.R_lt (KR HO_4))) (Kd.R_lt (KR HO109))) (Kd.R_lt (KR HO112))) (below_size (K2 HB GE101.out GE106.out)))
              replace HO_4 := am (Kd.R_elder' (KR HO_4) (Kd.R_base ho25) hb)
              replace HO109 := am (Kd.R_elder' (KR HO109) (Kd.R_base ho25) hb)
              replace HO112 := am (Kd.R_elder' (KR HO112) (Kd.R_base ho25) hb)
              replace BK101 := am (BB BK101 hb)
              replace BK106 := am (BB BK106 hb)
              replace HB := am (below_step (K2 HB GE101.out GE106.out) hb)
              clear hb ho25
              refine hK.out _ _ ⟨z0 _ BK106.out, z1 _ BK106.out, z2 _ BK106.out, z3 _ BK106.out, z4 _ BK106.out, z5 _ BK106.out, z6 _ BK106.out, z7 _ BK106.out⟩ (fun hHeld => ?_)
              clear hK K
              refine norm_ (a' := ?_) ?_ ?_
              rotate_left
              ·show Act.put _ (some 23) _ = _
               simp only [Act.put, List.setIfInBounds_toArray, List.set_cons_zero, List.set_cons_succ, i64_w, i32_w]
               rfl
              exact norm_ (by simp only [putAll, Act.put, List.setIfInBounds_toArray, List.set_cons_zero, List.set_cons_succ]) (hCont (.slice Ao23 y107.length co23, v111, v114) _ ⟨hHeld, (by (with_reducible repeat (first | apply Kd.R_alloc | apply Kd.R_drewN | apply Kd.R_drew)); exact Kd.R_mono HO109.out (fun _ hk => ⟨hk.1.2, ⟨hk.2, hk.1.1⟩⟩)), (by (with_reducible repeat (first | apply Kd.R_alloc | apply Kd.R_drewN | apply Kd.R_drew)); exact Kd.R_mono HO112.out (fun _ hk => ⟨hk.1.2, ⟨hk.2, hk.1.1⟩⟩)), (by (with_reducible repeat (first | apply Kd.R_alloc | apply Kd.R_drewN | apply Kd.R_drew)); exact Kd.R_mono HO115.out (fun _ hk => ⟨hk.1.2, ⟨hk.2, hk.1.1.2⟩⟩)), (by (with_reducible repeat (first | apply Kd.R_alloc | apply Kd.R_drewN | apply Kd.R_drew)); exact Kd.R_mono HO_4.out (fun _ hk => ⟨hk.1.1, ⟨hk.1.2, hk.2⟩⟩)), (KR HO_5), (KB BK101), (KB BK106), (K2 HB GE101.out GE106.out)⟩)
             ·skip
              refine Kd.R_lit_step k43 _ 43 ?hg (N := 23) ?hd (xs := ([(⟨(rd_T71 l0 x11_1).f3.f0, (rd_T71 l0 x11_1).f3.f1⟩ : S43)] : List (S43))) (inner := [.int .i64 ((rd_T71 l0 x11_1).f3.f0), .int .i64 ((rd_T71 l0 x11_1).f3.f1)]) (ok := fun _ => True) (okp := fun _ => True) ?hr ?hp (fun _ hk => hk) trivial (Below.refl _ _) (Nat.le_refl _) (by simp) ?_; (case hd => rfl); (case hg => rfl); (case hr => first | (go_simp; done) | (go_simp; rfl)); (case hp => exact (Reps.c2 (show Kd.M k43 _ _ _ (⟨(rd_T71 l0 x11_1).f3.f0, (rd_T71 l0 x11_1).f3.f1⟩ : S43) [.int .i64 ((rd_T71 l0 x11_1).f3.f0), .int .i64 ((rd_T71 l0 x11_1).f3.f1)] from (k43_mkM _ _ _ (⟨(rd_T71 l0 x11_1).f3.f0, (rd_T71 l0 x11_1).f3.f1⟩ : S43) )) (Reps.none _ _)))
              intro v114 w22 ho23 hb hg_ hnew_
              clear hg_ hnew_
              (first | rw [← Ny113.out] at ho23 | (simp only [Int.reduceToNat] at ho23; rw [← Ny113.out] at ho23))
              replace HO_5 := am (Kd.R_below (KR HO_5) hb)
              have HO115 := am (Kd.R_lower (Kd.R_new' (Kd.R_new' (Kd.R_new' ho23 (Kd.R_lt (KR HO_3))) (Kd.R_lt (KR HO_4))) (Kd.R_lt (KR HO109))) (below_size (K2 HB GE101.out GE106.out)))
              replace HO_3 := am (Kd.R_elder' (KR HO_3) (Kd.R_base ho23) hb)
              replace HO_4 := am (Kd.R_elder' (KR HO_4) (Kd.R_base ho23) hb)
              replace HO109 := am (Kd.R_elder' (KR HO109) (Kd.R_base ho23) hb)
              replace BK101 := am (BB BK101 hb)
              replace BK106 := am (BB BK106 hb)
              replace HB := am (below_step (K2 HB GE101.out GE106.out) hb)
              clear hb ho23
              obtain ⟨Ao25, co25, eo25⟩ := Kd.R_slice HO109.out
              (first | subst eo25 | (injection eo25 with f1_ f2_ f3_; have f4_ := f1_.symm; have f5_ := f3_.symm; clear f1_ f2_ f3_; subst f4_; subst f5_))
              refine hK.out _ _ ⟨z0 _ BK106.out, z1 _ BK106.out, z2 _ BK106.out, z3 _ BK106.out, z4 _ BK106.out, z5 _ BK106.out, z6 _ BK106.out, z7 _ BK106.out⟩ (fun hHeld => ?_)
              clear hK K
              refine norm_ (a' := ?_) ?_ ?_
              rotate_left
              ·show Act.put _ (some 23) _ = _
               simp only [Act.put, List.setIfInBounds_toArray, List.set_cons_zero, List.set_cons_succ, i64_w, i32_w]
               rfl
              refine one_ (i := 4) (N := some 19) (tf 9 3) rfl rfl (one_of HT_.out (by kernel_rfl)) (by decide) (fun K hK => ?_)
              refine Kd.R_append_rows_step k43 (w0 := w) w.heap.size (by rfl) (.tmp 15) (.tmp 18) 89 43 (.agg #[(.int .i64 0), (.int .i64 0)]) 16 rfl Try.underlying89 info43 rfl (by decide) (by omega) (.slice Ao16 x3_1.length co16) x3_1 y107 _ _ _ (fun k_ => some k_ ≠ (.slice Ao17 x4_1.length co17 : Value).ownBlock ∧ some k_ ≠ (.slice Ao25 y107.length co25 : Value).ownBlock ∧ some k_ ≠ (v114 : Value).ownBlock) (fun _ => False) rfl rfl ?aO ?aR (fun _ _ h => h) (fun _ h => h.elim) ?aF ?aB ?aS ?aL ?_
              (case aR => exact KC (Kd.R_reads' HO109.out).2.2)
              (case aB => exact (K2 HB GE101.out GE106.out))
              (case aF => exact (fun k_ hk => ⟨Kd.fresh' (Kd.R_lt (KR HO_4)) k_ hk, Kd.fresh' (Kd.R_lt (KR HO109)) k_ hk, Kd.fresh' (Kd.R_lt (KR HO115)) k_ hk⟩))
              (case aO => exact (by (with_reducible repeat (first | apply Kd.R_alloc | apply Kd.R_drewN | apply Kd.R_drew)); exact Kd.R_mono HO_3.out (fun _ hk => ⟨hk.1.1, ⟨hk.1.2, hk.2⟩⟩)))
              (case aS => exact (below_size (K2 HB GE101.out GE106.out)))
              (case aL => have := LMc8.out; omega)
              intro v111 w24 ho hb hg hat
              rw [← Ny110.out] at ho
              replace HO_4 := am (Kd.R_after (ok := (fun k_ => some k_ ≠ (.slice Ao25 y107.length co25 : Value).ownBlock ∧ some k_ ≠ (v114 : Value).ownBlock)) (by (with_reducible repeat (first | apply Kd.R_alloc | apply Kd.R_drewN | apply Kd.R_drew)); exact Kd.R_mono HO_4.out (fun _ hk => ⟨⟨hk.1.2, hk.2⟩, hk.1.1⟩)) hg hat)
              replace HO_5 := am (Kd.R_over' (KR HO_5) (Kd.R_typed (KR HO_3)) (by decide) hg)
              replace BK101 := am (blk_grown (g := gb101) (o := .cells #[.slice none 0 0, .slice none 0 0, .slice none 0 0] 113 (0, 0)) (KB BK101) hg (Kd.R_ne HO_3.out BK101.out (by decide)))
              replace BK106 := am (blk_grown (g := gb106) (o := .cells #[.int .i64 ((rd_T71 l0 x11_1).f0), .int .i64 ((rd_T71 l0 x11_1).f1), .int .i64 ((rd_T71 l0 x11_1).f2.f0), .int .i64 ((rd_T71 l0 x11_1).f2.f1), .int .i64 ((rd_T71 l0 x11_1).f3.f0), .int .i64 ((rd_T71 l0 x11_1).f3.f1), .int .i64 ((rd_T71 l0 x11_1).f4), .int .i64 ((rd_T71 l0 x11_1).f5)] 71 (0, 0)) (KB BK106) hg (Kd.R_ne HO_3.out BK106.out (by decide)))
              replace HO109 := am (Kd.R_after (ok := (fun k_ => some k_ ≠ (.slice Ao17 x4_1.length co17 : Value).ownBlock ∧ some k_ ≠ (v114 : Value).ownBlock)) (by (with_reducible repeat (first | apply Kd.R_alloc | apply Kd.R_drewN | apply Kd.R_drew)); exact Kd.R_mono HO109.out (fun _ hk => ⟨⟨hk.1.2, hk.2⟩, hk.1.1.2⟩)) hg hat)
              replace HO115 := am (Kd.R_after (ok := (fun k_ => some k_ ≠ (.slice Ao17 x4_1.length co17 : Value).ownBlock ∧ some k_ ≠ (.slice Ao25 y107.length co25 : Value).ownBlock)) (by (with_reducible repeat (first | apply Kd.R_alloc | apply Kd.R_drewN | apply Kd.R_drew)); exact Kd.R_mono HO115.out (fun _ hk => ⟨⟨hk.1.2, hk.2⟩, hk.1.1.2⟩)) hg hat)
              replace HB := am (hb)
              have HO112 := am (ho)
              clear HO_3
              clear ho hb hg hat
              refine hK.out _ _ ⟨z0 _ BK106.out, z1 _ BK106.out, z2 _ BK106.out, z3 _ BK106.out, z4 _ BK106.out, z5 _ BK106.out, z6 _ BK106.out, z7 _ BK106.out⟩ (fun hHeld => ?_)
              clear hK K
              refine norm_ (a' := ?_) ?_ ?_
              rotate_left
              ·show Act.put _ (some 19) _ = _
               simp only [Act.put, List.setIfInBounds_toArray, List.set_cons_zero, List.set_cons_succ, i64_w, i32_w]
               rfl
              exact norm_ (by simp only [putAll, Act.put, List.setIfInBounds_toArray, List.set_cons_zero, List.set_cons_succ]) (hCont (.slice Ao25 y107.length co25, v111, v114) _ ⟨hHeld, (by (with_reducible repeat (first | apply Kd.R_alloc | apply Kd.R_drewN | apply Kd.R_drew)); exact Kd.R_mono HO109.out (fun _ hk => ⟨hk.2, ⟨hk.1.2, hk.1.1⟩⟩)), (by (with_reducible repeat (first | apply Kd.R_alloc | apply Kd.R_drewN | apply Kd.R_drew)); exact Kd.R_mono HO112.out (fun _ hk => ⟨hk.2.1, ⟨hk.2.2, hk.1⟩⟩)), (by (with_reducible repeat (first | apply Kd.R_alloc | apply Kd.R_drewN | apply Kd.R_drew)); exact Kd.R_mono HO115.out (fun _ hk => ⟨hk.1.2, ⟨hk.2, hk.1.1⟩⟩)), (by (with_reducible repeat (first | apply Kd.R_alloc | apply Kd.R_drewN | apply Kd.R_drew)); exact Kd.R_mono HO_4.out (fun _ hk => ⟨hk.1.1, ⟨hk.2, hk.1.2⟩⟩)), (KR HO_5), (KB BK101), (KB BK106), (K2 HB GE101.out GE106.out)⟩)
            ·skip
             refine Kd.R_lit_step k43 _ 43 ?hg (N := 23) ?hd (xs := ([(⟨(rd_T71 l0 x11_1).f3.f0, (rd_T71 l0 x11_1).f3.f1⟩ : S43)] : List (S43))) (inner := [.int .i64 ((rd_T71 l0 x11_1).f3.f0), .int .i64 ((rd_T71 l0 x11_1).f3.f1)]) (ok := fun _ => True) (okp := fun _ => True) ?hr ?hp (fun _ hk => hk) trivial (Below.refl _ _) (Nat.le_refl _) (by simp) ?_; (case hd => rfl); (case hg => rfl); (case hr => first | (go_simp; done) | (go_simp; rfl)); (case hp => exact (Reps.c2 (show Kd.M k43 _ _ _ (⟨(rd_T71 l0 x11_1).f3.f0, (rd_T71 l0 x11_1).f3.f1⟩ : S43) [.int .i64 ((rd_T71 l0 x11_1).f3.f0), .int .i64 ((rd_T71 l0 x11_1).f3.f1)] from (k43_mkM _ _ _ (⟨(rd_T71 l0 x11_1).f3.f0, (rd_T71 l0 x11_1).f3.f1⟩ : S43) )) (Reps.none _ _)))
             intro v114 w20 ho21 hb hg_ hnew_
             clear hg_ hnew_
             (first | rw [← Ny113.out] at ho21 | (simp only [Int.reduceToNat] at ho21; rw [← Ny113.out] at ho21))
             replace HO_5 := am (Kd.R_below (KR HO_5) hb)
             have HO115 := am (Kd.R_lower (Kd.R_new' (Kd.R_new' ho21 (Kd.R_lt (KR HO_3))) (Kd.R_lt (KR HO_4))) (below_size (K2 HB GE101.out GE106.out)))
             replace HO_3 := am (Kd.R_elder' (KR HO_3) (Kd.R_base ho21) hb)
             replace HO_4 := am (Kd.R_elder' (KR HO_4) (Kd.R_base ho21) hb)
             replace BK101 := am (BB BK101 hb)
             replace BK106 := am (BB BK106 hb)
             replace HB := am (below_step (K2 HB GE101.out GE106.out) hb)
             clear hb ho21
             refine hK.out _ _ ⟨z0 _ BK106.out, z1 _ BK106.out, z2 _ BK106.out, z3 _ BK106.out, z4 _ BK106.out, z5 _ BK106.out, z6 _ BK106.out, z7 _ BK106.out⟩ (fun hHeld => ?_)
             clear hK K
             refine norm_ (a' := ?_) ?_ ?_
             rotate_left
             ·show Act.put _ (some 23) _ = _
              simp only [Act.put, List.setIfInBounds_toArray, List.set_cons_zero, List.set_cons_succ, i64_w, i32_w]
              rfl
             refine one_ (i := 3) (N := some 18) (tr [4, 1, 4, 3]) rfl rfl (one_of HT_.out (by kernel_rfl)) (by decide) (fun K hK => ?_)
             refine Kd.R_lit_step k43 _ 43 ?hg (N := 18) ?hd (xs := ([(⟨(rd_T71 l0 x11_1).f2.f0, (rd_T71 l0 x11_1).f2.f1⟩ : S43)] : List (S43))) (inner := [.int .i64 ((rd_T71 l0 x11_1).f2.f0), .int .i64 ((rd_T71 l0 x11_1).f2.f1)]) (ok := fun _ => True) (okp := fun _ => True) ?hr ?hp (fun _ hk => hk) trivial (Below.refl _ _) (Nat.le_refl _) (by simp) ?_; (case hd => rfl); (case hg => rfl); (case hr => first | (go_simp; done) | (go_simp; rfl)); (case hp => exact (Reps.c2 (show Kd.M k43 _ _ _ (⟨(rd_T71 l0 x11_1).f2.f0, (rd_T71 l0 x11_1).f2.f1⟩ : S43) [.int .i64 ((rd_T71 l0 x11_1).f2.f0), .int .i64 ((rd_T71 l0 x11_1).f2.f1)] from (k43_mkM _ _ _ (⟨(rd_T71 l0 x11_1).f2.f0, (rd_T71 l0 x11_1).f2.f1⟩ : S43) )) (Reps.none _ _)))
             intro v108 w22 ho23 hb hg_ hnew_
             clear hg_ hnew_
             (first | rw [← Ny107.out] at ho23 | (simp only [Int.reduceToNat] at ho23; rw [← Ny107.out] at ho23))
             replace HO_5 := am (Kd.R_below (KR HO_5) hb)
             have HO109 := am (Kd.R_lower (Kd.R_new' (Kd.R_new' (Kd.R_new' ho23 (Kd.R_lt (KR HO_3))) (Kd.R_lt (KR HO_4))) (Kd.R_lt (KR HO115))) (below_size (K2 HB GE101.out GE106.out)))
             replace HO_3 := am (Kd.R_elder' (KR HO_3) (Kd.R_base ho23) hb)
             replace HO_4 := am (Kd.R_elder' (KR HO_4) (Kd.R_base ho23) hb)
             replace HO115 := am (Kd.R_elder' (KR HO115) (Kd.R_base ho23) hb)
             replace BK101 := am (BB BK101 hb)
             replace BK106 := am (BB BK106 hb)
             replace HB := am (below_step (K2 HB GE101.out GE106.out) hb)
             clear hb ho23
             obtain ⟨Ao25, co25, eo25⟩ := Kd.R_slice HO109.out
             (first | subst eo25 | (injection eo25 with f1_ f2_ f3_; have f4_ := f1_.symm; have f5_ := f3_.symm; clear f1_ f2_ f3_; subst f4_; subst f5_))
             refine hK.out _ _ ⟨z0 _ BK106.out, z1 _ BK106.out, z2 _ BK106.out, z3 _ BK106.out, z4 _ BK106.out, z5 _ BK106.out, z6 _ BK106.out, z7 _ BK106.out⟩ (fun hHeld => ?_)
             clear hK K
             refine norm_ (a' := ?_) ?_ ?_
             rotate_left
             ·show Act.put _ (some 18) _ = _
              simp only [Act.put, List.setIfInBounds_toArray, List.set_cons_zero, List.set_cons_succ, i64_w, i32_w]
              rfl
             refine one_ (i := 4) (N := some 19) (tf 9 3) rfl rfl (one_of HT_.out (by kernel_rfl)) (by decide) (fun K hK => ?_)
             refine Kd.R_append_rows_step k43 (w0 := w) w.heap.size (by rfl) (.tmp 15) (.tmp 18) 89 43 (.agg #[(.int .i64 0), (.int .i64 0)]) 16 rfl Try.underlying89 info43 rfl (by decide) (by omega) (.slice Ao16 x3_1.length co16) x3_1 y107 _ _ _ (fun k_ => some k_ ≠ (.slice Ao17 x4_1.length co17 : Value).ownBlock ∧ some k_ ≠ (v114 : Value).ownBlock ∧ some k_ ≠ (.slice Ao25 y107.length co25 : Value).ownBlock) (fun _ => False) rfl rfl ?aO ?aR (fun _ _ h => h) (fun _ h => h.elim) ?aF ?aB ?aS ?aL ?_
             (case aR => exact KC (Kd.R_reads' HO109.out).2.2)
             (case aB => exact (K2 HB GE101.out GE106.out))
             (case aF => exact (fun k_ hk => ⟨Kd.fresh' (Kd.R_lt (KR HO_4)) k_ hk, Kd.fresh' (Kd.R_lt (KR HO115)) k_ hk, Kd.fresh' (Kd.R_lt (KR HO109)) k_ hk⟩))
             (case aO => exact (by (with_reducible repeat (first | apply Kd.R_alloc | apply Kd.R_drewN | apply Kd.R_drew)); exact Kd.R_mono HO_3.out (fun _ hk => ⟨hk.1.1, ⟨hk.1.2, hk.2⟩⟩)))
             (case aS => exact (below_size (K2 HB GE101.out GE106.out)))
             (case aL => have := LMc8.out; omega)
             intro v111 w24 ho hb hg hat
             rw [← Ny110.out] at ho
             replace HO_4 := am (Kd.R_after (ok := (fun k_ => some k_ ≠ (v114 : Value).ownBlock ∧ some k_ ≠ (.slice Ao25 y107.length co25 : Value).ownBlock)) (by (with_reducible repeat (first | apply Kd.R_alloc | apply Kd.R_drewN | apply Kd.R_drew)); exact Kd.R_mono HO_4.out (fun _ hk => ⟨⟨hk.1.2, hk.2⟩, hk.1.1⟩)) hg hat)
             replace HO_5 := am (Kd.R_over' (KR HO_5) (Kd.R_typed (KR HO_3)) (by decide) hg)
             replace BK101 := am (blk_grown (g := gb101) (o := .cells #[.slice none 0 0, .slice none 0 0, .slice none 0 0] 113 (0, 0)) (KB BK101) hg (Kd.R_ne HO_3.out BK101.out (by decide)))
             replace BK106 := am (blk_grown (g := gb106) (o := .cells #[.int .i64 ((rd_T71 l0 x11_1).f0), .int .i64 ((rd_T71 l0 x11_1).f1), .int .i64 ((rd_T71 l0 x11_1).f2.f0), .int .i64 ((rd_T71 l0 x11_1).f2.f1), .int .i64 ((rd_T71 l0 x11_1).f3.f0), .int .i64 ((rd_T71 l0 x11_1).f3.f1), .int .i64 ((rd_T71 l0 x11_1).f4), .int .i64 ((rd_T71 l0 x11_1).f5)] 71 (0, 0)) (KB BK106) hg (Kd.R_ne HO_3.out BK106.out (by decide)))
             replace HO115 := am (Kd.R_after (ok := (fun k_ => some k_ ≠ (.slice Ao17 x4_1.length co17 : Value).ownBlock ∧ some k_ ≠ (.slice Ao25 y107.length co25 : Value).ownBlock)) (by (with_reducible repeat (first | apply Kd.R_alloc | apply Kd.R_drewN | apply Kd.R_drew)); exact Kd.R_mono HO115.out (fun _ hk => ⟨⟨hk.1.2, hk.2⟩, hk.1.1.2⟩)) hg hat)
             replace HO109 := am (Kd.R_after (ok := (fun k_ => some k_ ≠ (.slice Ao17 x4_1.length co17 : Value).ownBlock ∧ some k_ ≠ (v114 : Value).ownBlock)) (by (with_reducible repeat (first | apply Kd.R_alloc | apply Kd.R_drewN | apply Kd.R_drew)); exact Kd.R_mono HO109.out (fun _ hk => ⟨⟨hk.1.2, hk.2⟩, hk.1.1.2⟩)) hg hat)
             replace HB := am (hb)
             have HO112 := am (ho)
             clear HO_3
             clear ho hb hg hat
             refine hK.out _ _ ⟨z0 _ BK106.out, z1 _ BK106.out, z2 _ BK106.out, z3 _ BK106.out, z4 _ BK106.out, z5 _ BK106.out, z6 _ BK106.out, z7 _ BK106.out⟩ (fun hHeld => ?_)
             clear hK K
             refine norm_ (a' := ?_) ?_ ?_
             rotate_left
             ·show Act.put _ (some 19) _ = _
              simp only [Act.put, List.setIfInBounds_toArray, List.set_cons_zero, List.set_cons_succ, i64_w, i32_w]
              rfl
             exact norm_ (by simp only [putAll, Act.put, List.setIfInBounds_toArray, List.set_cons_zero, List.set_cons_succ]) (hCont (.slice Ao25 y107.length co25, v111, v114) _ ⟨hHeld, (by (with_reducible repeat (first | apply Kd.R_alloc | apply Kd.R_drewN | apply Kd.R_drew)); exact Kd.R_mono HO109.out (fun _ hk => ⟨hk.2, ⟨hk.1.2, hk.1.1⟩⟩)), (by (with_reducible repeat (first | apply Kd.R_alloc | apply Kd.R_drewN | apply Kd.R_drew)); exact Kd.R_mono HO112.out (fun _ hk => ⟨hk.2.2, ⟨hk.2.1, hk.1⟩⟩)), (by (with_reducible repeat (first | apply Kd.R_alloc | apply Kd.R_drewN | apply Kd.R_drew)); exact Kd.R_mono HO115.out (fun _ hk => ⟨hk.1.2, ⟨hk.2, hk.1.1⟩⟩)), (by (with_reducible repeat (first | apply Kd.R_alloc | apply Kd.R_drewN | apply Kd.R_drew)); exact Kd.R_mono HO_4.out (fun _ hk => ⟨hk.1.2, ⟨hk.2, hk.1.1⟩⟩)), (KR HO_5), (KB BK101), (KB BK106), (K2 HB GE101.out GE106.out)⟩)
           rintro ⟨v108, v111, v114⟩ w26 ⟨hS_, h0_, h1_, h2_, h3_, h4_, h5_, h6_, h7_⟩
           have HO109 : Aside0 (Kd.R k43 43 w26 w.heap.size (fun k_ => some k_ ≠ (v111 : Value).ownBlock ∧ some k_ ≠ (v114 : Value).ownBlock ∧ some k_ ≠ (.slice Ao17 x4_1.length co17 : Value).ownBlock) v108 y107) := ⟨h0_⟩
           have HO112 : Aside0 (Kd.R k43 43 w26 w.heap.size (fun k_ => some k_ ≠ (v108 : Value).ownBlock ∧ some k_ ≠ (v114 : Value).ownBlock ∧ some k_ ≠ (.slice Ao17 x4_1.length co17 : Value).ownBlock) v111 y110) := ⟨h1_⟩
           have HO115 : Aside0 (Kd.R k43 43 w26 w.heap.size (fun k_ => some k_ ≠ (v108 : Value).ownBlock ∧ some k_ ≠ (v111 : Value).ownBlock ∧ some k_ ≠ (.slice Ao17 x4_1.length co17 : Value).ownBlock) v114 y113) := ⟨h2_⟩
           replace HO_4 : Aside0 (Kd.R k43 43 w26 w.heap.size (fun k_ => some k_ ≠ (v108 : Value).ownBlock ∧ some k_ ≠ (v111 : Value).ownBlock ∧ some k_ ≠ (v114 : Value).ownBlock) (.slice Ao17 x4_1.length co17) x4_1) := ⟨h3_⟩
           replace HO_5 : Aside0 (Kd.R (Kd.int .i64) 3 w26 w.heap.size (fun _ => True) u5 x5_1) := ⟨h4_⟩
           replace BK101 : Aside0 (bk w26 gb101 #[.slice none 0 0, .slice none 0 0, .slice none 0 0] 113) := ⟨h5_⟩
           replace BK106 : Aside0 (bk w26 gb106 #[.int .i64 ((rd_T71 l0 x11_1).f0), .int .i64 ((rd_T71 l0 x11_1).f1), .int .i64 ((rd_T71 l0 x11_1).f2.f0), .int .i64 ((rd_T71 l0 x11_1).f2.f1), .int .i64 ((rd_T71 l0 x11_1).f3.f0), .int .i64 ((rd_T71 l0 x11_1).f3.f1), .int .i64 ((rd_T71 l0 x11_1).f4), .int .i64 ((rd_T71 l0 x11_1).f5)] 71) := ⟨h6_⟩
           replace HB : Aside0 (Below w.heap.size w w26) := ⟨h7_⟩
           clear HO_3 h0_ h1_ h2_ h3_ h4_ h5_ h6_ h7_
           have hHeld : de8 w26 gb106 (.int .i64 ((rd_T71 l0 x11_1).f0)) (.int .i64 ((rd_T71 l0 x11_1).f1)) (.int .i64 ((rd_T71 l0 x11_1).f2.f0)) (.int .i64 ((rd_T71 l0 x11_1).f2.f1)) (.int .i64 ((rd_T71 l0 x11_1).f3.f0)) (.int .i64 ((rd_T71 l0 x11_1).f3.f1)) (.int .i64 ((rd_T71 l0 x11_1).f4)) (.int .i64 ((rd_T71 l0 x11_1).f5)) := hS_
           obtain ⟨Ao28, co28, eo28⟩ := Kd.R_slice HO115.out
           (first | subst eo28 | (injection eo28 with f1_ f2_ f3_; have f4_ := f1_.symm; have f5_ := f3_.symm; clear f1_ f2_ f3_; subst f4_; subst f5_))
           refine norm_ (a' := ?_) ?_ ?_
           rotate_left
           ·simp only [putAll, Act.put, List.setIfInBounds_toArray, List.set_cons_zero, List.set_cons_succ]
            rfl
           refine one_ (i := 9) (N := some 24) (tf 10 2) rfl rfl (one_of HT_.out (by kernel_rfl)) (by decide) (fun K hK => ?_)
           refine Kd.R_append_rows_step k43 (w0 := w) w.heap.size (by rfl) (.tmp 20) (.tmp 23) 89 43 (.agg #[(.int .i64 0), (.int .i64 0)]) 16 rfl Try.underlying89 info43 rfl (by decide) (by omega) (.slice Ao17 x4_1.length co17) x4_1 y113 _ _ _ (fun k_ => some k_ ≠ (v108 : Value).ownBlock ∧ some k_ ≠ (v111 : Value).ownBlock ∧ some k_ ≠ (.slice Ao28 y113.length co28 : Value).ownBlock) (fun _ => False) rfl rfl ?aO ?aR (fun _ _ h => h) (fun _ h => h.elim) ?aF ?aB ?aS ?aL ?_
           (case aR => exact KC (Kd.R_reads' HO115.out).2.2)
           (case aB => exact (K2 HB GE101.out GE106.out))
           (case aF => exact (fun k_ hk => ⟨Kd.fresh' (Kd.R_lt (KR HO109)) k_ hk, Kd.fresh' (Kd.R_lt (KR HO112)) k_ hk, Kd.fresh' (Kd.R_lt (KR HO115)) k_ hk⟩))
           (case aO => exact (KR HO_4))
           (case aS => exact (below_size (K2 HB GE101.out GE106.out)))
           (case aL => have := LMc9.out; omega)
           intro v117 w27 ho hb hg hat
           rw [← Ny116.out] at ho
           replace HO_5 := am (Kd.R_over' (KR HO_5) (Kd.R_typed (KR HO_4)) (by decide) hg)
           replace BK101 := am (blk_grown (g := gb101) (o := .cells #[.slice none 0 0, .slice none 0 0, .slice none 0 0] 113 (0, 0)) (KB BK101) hg (Kd.R_ne HO_4.out BK101.out (by decide)))
           replace BK106 := am (blk_grown (g := gb106) (o := .cells #[.int .i64 ((rd_T71 l0 x11_1).f0), .int .i64 ((rd_T71 l0 x11_1).f1), .int .i64 ((rd_T71 l0 x11_1).f2.f0), .int .i64 ((rd_T71 l0 x11_1).f2.f1), .int .i64 ((rd_T71 l0 x11_1).f3.f0), .int .i64 ((rd_T71 l0 x11_1).f3.f1), .int .i64 ((rd_T71 l0 x11_1).f4), .int .i64 ((rd_T71 l0 x11_1).f5)] 71 (0, 0)) (KB BK106) hg (Kd.R_ne HO_4.out BK106.out (by decide)))
           replace HO109 := am (Kd.R_after (ok := (fun k_ => some k_ ≠ (v111 : Value).ownBlock ∧ some k_ ≠ (.slice Ao28 y113.length co28 : Value).ownBlock)) (by (with_reducible repeat (first | apply Kd.R_alloc | apply Kd.R_drewN | apply Kd.R_drew)); exact Kd.R_mono HO109.out (fun _ hk => ⟨⟨hk.1, hk.2.1⟩, hk.2.2⟩)) hg hat)
           replace HO112 := am (Kd.R_after (ok := (fun k_ => some k_ ≠ (v108 : Value).ownBlock ∧ some k_ ≠ (.slice Ao28 y113.length co28 : Value).ownBlock)) (by (with_reducible repeat (first | apply Kd.R_alloc | apply Kd.R_drewN | apply Kd.R_drew)); exact Kd.R_mono HO112.out (fun _ hk => ⟨⟨hk.1, hk.2.1⟩, hk.2.2⟩)) hg hat)
           replace HO115 := am (Kd.R_after (ok := (fun k_ => some k_ ≠ (v108 : Value).ownBlock ∧ some k_ ≠ (v111 : Value).ownBlock)) (by (with_reducible repeat (first | apply Kd.R_alloc | apply Kd.R_drewN | apply Kd.R_drew)); exact Kd.R_mono HO115.out (fun _ hk => ⟨⟨hk.1, hk.2.1⟩, hk.2.2⟩)) hg hat)
           replace HB := am (hb)
           have HO118 := am (ho)
           clear HO_4
           clear ho hb hg hat
           refine hK.out _ _ ⟨z0 _ BK106.out, z1 _ BK106.out, z2 _ BK106.out, z3 _ BK106.out, z4 _ BK106.out, z5 _ BK106.out, z6 _ BK106.out, z7 _ BK106.out⟩ (fun hHeld => ?_)
           clear hK K
           refine norm_ (a' := ?_) ?_ ?_
           rotate_left
           ·show Act.put _ (some 24) _ = _
            simp only [Act.put, List.setIfInBounds_toArray, List.set_cons_zero, List.set_cons_succ, i64_w, i32_w]
            rfl
           refine pv HT_ 10 3 (tf 11 1) ?_
           refine pv HT_ 11 4 (tf 12 0) ?_
           refine done_ (done_of HT_.out (by kernel_rfl)) ?_
           obtain ⟨hcz29_0, hcz29_1, hcz29_2, hcz29_3, hcz29_4, hcz29_5, hcz29_6, hcz29_7, hfz29_0⟩ := y8 w27 BK106.out
           try go_wp2_with (first | ((with_reducible refine gate_dst (N := 28) rfl ?_); refine Kd.R_lit (Kd.int .i64) _ 3 ?hg (N := 28) ?hd (xs := ([(rd_T71 l0 x11_1).f4] : List Int)) (inner := [.int .i64 ((rd_T71 l0 x11_1).f4)]) (ok := fun _ => True) (okp := fun _ => True) ?hr ?hp (fun _ hk => hk) trivial (Below.refl _ _) (Nat.le_refl _) (by simp) ?_; (case hd => rfl); (case hg => rfl); (case hr => first | (go_simp; done) | (go_simp; rfl)); (case hp => exact (Reps.one (show Kd.M (Kd.int .i64) _ _ _ ((rd_T71 l0 x11_1).f4) [.int .i64 ((rd_T71 l0 x11_1).f4)] from rfl) (Reps.none _ _))); intro v120 w30 ho31 hb hg_ hnew_; clear hg_ hnew_; (first | rw [← Ny119.out] at ho31 | (simp only [Int.reduceToNat] at ho31; rw [← Ny119.out] at ho31)); replace HO109 := am (Kd.R_below (KR HO109) hb); replace HO112 := am (Kd.R_below (KR HO112) hb); replace HO115 := am (Kd.R_below (KR HO115) hb); replace HO118 := am (Kd.R_below (KR HO118) hb); have HO121 := am (Kd.R_lower (Kd.R_new' ho31 (Kd.R_lt (KR HO_5))) (below_size (K2 HB GE101.out GE106.out))); replace HO_5 := am (Kd.R_elder' (KR HO_5) (Kd.R_base ho31) hb); replace BK101 := am (BB BK101 hb); replace BK106 := am (BB BK106 hb); replace HB := am (below_step (K2 HB GE101.out GE106.out) hb); clear hb ho31; obtain ⟨Ao33, co33, eo33⟩ := Kd.R_slice HO121.out; subst eo33) | ((with_reducible refine gate_builtin (b := .append) (xs := #[.tmp 25, .tmp 28]) rfl ?_); at_builtin; refine Kd.R_append_rows (Kd.int .i64) (w0 := w) w.heap.size rfl (.tmp 25) (.tmp 28) 50 3 (.int .i64 0) 8 rfl Try.underlying50 info3 rfl (by decide) (by omega) u5 x5_1 y119 _ _ _ (fun k_ => some k_ ≠ (.slice Ao33 y119.length co33 : Value).ownBlock) (fun _ => False) rfl rfl ?aO ?aR (fun _ _ h => h) (fun _ h => h.elim) ?aF ?aB ?aS ?aL ?_; (case aR => exact KC (Kd.R_reads' HO121.out).2.2); (case aB => exact (K2 HB GE101.out GE106.out)); (case aF => exact (fun k_ hk => Kd.fresh' (Kd.R_lt (KR HO121)) k_ hk)); (case aO => exact (by (with_reducible repeat (first | apply Kd.R_alloc | apply Kd.R_drewN | apply Kd.R_drew)); exact Kd.R_mono HO_5.out (fun _ hk => hk.2))); (case aS => exact (below_size (K2 HB GE101.out GE106.out))); (case aL => have := LMc10.out; omega); intro v123 w32 ho hb hg hat; rw [← Ny122.out] at ho; replace BK101 := am (blk_grown (g := gb101) (o := .cells #[.slice none 0 0, .slice none 0 0, .slice none 0 0] 113 (0, 0)) (KB BK101) hg (Kd.R_ne HO_5.out BK101.out (by decide))); replace BK106 := am (blk_grown (g := gb106) (o := .cells #[.int .i64 ((rd_T71 l0 x11_1).f0), .int .i64 ((rd_T71 l0 x11_1).f1), .int .i64 ((rd_T71 l0 x11_1).f2.f0), .int .i64 ((rd_T71 l0 x11_1).f2.f1), .int .i64 ((rd_T71 l0 x11_1).f3.f0), .int .i64 ((rd_T71 l0 x11_1).f3.f1), .int .i64 ((rd_T71 l0 x11_1).f4), .int .i64 ((rd_T71 l0 x11_1).f5)] 71 (0, 0)) (KB BK106) hg (Kd.R_ne HO_5.out BK106.out (by decide))); replace HO109 := am (Kd.R_over' (KR HO109) (Kd.R_typed (KR HO_5)) (by decide) hg); replace HO112 := am (Kd.R_over' (KR HO112) (Kd.R_typed (KR HO_5)) (by decide) hg); replace HO115 := am (Kd.R_over' (KR HO115) (Kd.R_typed (KR HO_5)) (by decide) hg); replace HO118 := am (Kd.R_over' (KR HO118) (Kd.R_typed (KR HO_5)) (by decide) hg); replace HO121 := am (Kd.R_after (ok := (fun _ => True)) (KR HO121) hg hat); replace HB := am (hb); have HO124 := am (ho); clear HO_5; clear ho hb hg hat; obtain ⟨hcz34_0, hcz34_1, hcz34_2, hcz34_3, hcz34_4, hcz34_5, hcz34_6, hcz34_7, hfz34_0⟩ := y8 w32 BK106.out) | ((with_reducible refine gate_dst (N := 37) rfl ?_); refine Kd.R_lit (Kd.int .i64) _ 3 ?hg (N := 37) ?hd (xs := ([wrap64 (((rd_T71 l0 x11_1).f5) + 1)] : List Int)) (inner := [.int .i64 (wrap64 (((rd_T71 l0 x11_1).f5) + 1))]) (ok := fun _ => True) (okp := fun _ => True) ?hr ?hp (fun _ hk => hk) trivial (Below.refl _ _) (Nat.le_refl _) (by simp) ?_; (case hd => rfl); (case hg => rfl); (case hr => first | (go_simp; done) | (go_simp; rfl)); (case hp => exact (Reps.one (show Kd.M (Kd.int .i64) _ _ _ (wrap64 (((rd_T71 l0 x11_1).f5) + 1)) [.int .i64 (wrap64 (((rd_T71 l0 x11_1).f5) + 1))] from rfl) (Reps.none _ _))); intro v126 w35 ho36 hb hg_ hnew_; clear hg_ hnew_; (first | rw [← Ny125.out] at ho36 | (simp only [Int.reduceToNat] at ho36; rw [← Ny125.out] at ho36)); replace HO109 := am (Kd.R_below (KR HO109) hb); replace HO112 := am (Kd.R_below (KR HO112) hb); replace HO115 := am (Kd.R_below (KR HO115) hb); replace HO118 := am (Kd.R_below (KR HO118) hb); have HO127 := am (Kd.R_lower (Kd.R_new' (Kd.R_new' ho36 (Kd.R_lt (KR HO121))) (Kd.R_lt (KR HO124))) (below_size (K2 HB GE101.out GE106.out))); replace HO121 := am (Kd.R_elder' (KR HO121) (Kd.R_base ho36) hb); replace HO124 := am (Kd.R_elder' (KR HO124) (Kd.R_base ho36) hb); replace BK101 := am (BB BK101 hb); replace BK106 := am (BB BK106 hb); replace HB := am (below_step (K2 HB GE101.out GE106.out) hb); clear hb ho36; obtain ⟨Ao38, co38, eo38⟩ := Kd.R_slice HO127.out; subst eo38) | ((with_reducible refine gate_builtin (b := .append) (xs := #[.tmp 33, .tmp 37]) rfl ?_); at_builtin; refine Kd.R_append_rows (Kd.int .i64) (w0 := w) w.heap.size rfl (.tmp 33) (.tmp 37) 50 3 (.int .i64 0) 8 rfl Try.underlying50 info3 rfl (by decide) (by omega) v123 y122 y125 _ _ _ (fun k_ => some k_ ≠ (.slice Ao33 y119.length co33 : Value).ownBlock ∧ some k_ ≠ (.slice Ao38 y125.length co38 : Value).ownBlock) (fun _ => False) rfl rfl ?aO ?aR (fun _ _ h => h) (fun _ h => h.elim) ?aF ?aB ?aS ?aL ?_; (case aR => exact KC (Kd.R_reads' HO127.out).2.2); (case aB => exact (K2 HB GE101.out GE106.out)); (case aF => exact (fun k_ hk => ⟨Kd.fresh' (Kd.R_lt (KR HO121)) k_ hk, Kd.fresh' (Kd.R_lt (KR HO127)) k_ hk⟩)); (case aO => exact (KR HO124)); (case aS => exact (below_size (K2 HB GE101.out GE106.out))); (case aL => have := LMc12.out; omega); intro v129 w37 ho hb hg hat; rw [← Ny128.out] at ho; replace BK101 := am (blk_grown (g := gb101) (o := .cells #[.slice none 0 0, .slice none 0 0, .slice none 0 0] 113 (0, 0)) (KB BK101) hg (Kd.R_ne HO124.out BK101.out (by decide))); replace BK106 := am (blk_grown (g := gb106) (o := .cells #[.int .i64 ((rd_T71 l0 x11_1).f0), .int .i64 ((rd_T71 l0 x11_1).f1), .int .i64 ((rd_T71 l0 x11_1).f2.f0), .int .i64 ((rd_T71 l0 x11_1).f2.f1), .int .i64 ((rd_T71 l0 x11_1).f3.f0), .int .i64 ((rd_T71 l0 x11_1).f3.f1), .int .i64 ((rd_T71 l0 x11_1).f4), .int .i64 ((rd_T71 l0 x11_1).f5)] 71 (0, 0)) (KB BK106) hg (Kd.R_ne HO124.out BK106.out (by decide))); replace HO109 := am (Kd.R_over' (KR HO109) (Kd.R_typed (KR HO124)) (by decide) hg); replace HO112 := am (Kd.R_over' (KR HO112) (Kd.R_typed (KR HO124)) (by decide) hg); replace HO115 := am (Kd.R_over' (KR HO115) (Kd.R_typed (KR HO124)) (by decide) hg); replace HO118 := am (Kd.R_over' (KR HO118) (Kd.R_typed (KR HO124)) (by decide) hg); replace HO121 := am (Kd.R_after (ok := (fun k_ => some k_ ≠ (.slice Ao38 y125.length co38 : Value).ownBlock)) (by (with_reducible repeat (first | apply Kd.R_alloc | apply Kd.R_drewN | apply Kd.R_drew)); exact Kd.R_mono HO121.out (fun _ hk => ⟨hk.2, hk.1.2⟩)) hg hat); replace HO127 := am (Kd.R_after (ok := (fun k_ => some k_ ≠ (.slice Ao33 y119.length co33 : Value).ownBlock)) (by (with_reducible repeat (first | apply Kd.R_alloc | apply Kd.R_drewN | apply Kd.R_drew)); exact Kd.R_mono HO127.out (fun _ hk => ⟨hk.1.2, hk.2⟩)) hg hat); replace HB := am (hb); have HO130 := am (ho); clear HO124; clear ho hb hg hat))
           go_roundg k1
           case measure => have := HK1.out; omega
           case rel => exact ⟨(y110), (y116), (y128), (wrap64 (x11_1 + 1)), (by first | rfl | (simp; done) | (simp [*]; done)), H', ⟨by have := HK1.out; omega⟩, ⟨by (with_reducible repeat (first | apply Kd.R_alloc | apply Kd.R_drewN | apply Kd.R_drew)); exact Kd.R_mono HO112.out (fun _ hk => hk.2)⟩, ⟨by (with_reducible repeat (first | apply Kd.R_alloc | apply Kd.R_drewN | apply Kd.R_drew)); exact Kd.R_mono HO118.out (fun _ hk => hk.2.1)⟩, ⟨by (with_reducible repeat (first | apply Kd.R_alloc | apply Kd.R_drewN | apply Kd.R_drew)); exact Kd.R_mono HO130.out (fun _ hk => trivial)⟩, ⟨KB BK101⟩, ⟨K2 HB GE101.out GE106.out⟩⟩
          ·rw [if_neg c12] at H
           exact absurd H (by simp)
         ·rw [if_neg c11] at H
          have c11b0 : decide (((rd_T71 l0 x11_1).f5) < 65535) = false := decide_eq_false c11
          clear c11
          have H' := Aside0.mk H
          clear H
          have p105 : 0 ≤ (x11_1 : Int) := OD
          have q105 : x11_1 < (l0.length : Int) := OD
          obtain ⟨ad105, e105, hx105_0, hx105_1, hx105_2, hx105_3, hx105_4, hx105_5, hx105_6, hx105_7⟩ := at_T71 HR0.out x11_1 p105 q105
          cases e105
          replace hx105_0 := CX HB.out hx105_0
          replace hx105_1 := CX HB.out hx105_1
          replace hx105_2 := CX HB.out hx105_2
          replace hx105_3 := CX HB.out hx105_3
          replace hx105_4 := CX HB.out hx105_4
          replace hx105_5 := CX HB.out hx105_5
          replace hx105_6 := CX HB.out hx105_6
          replace hx105_7 := CX HB.out hx105_7
          replace p105 := eq_true p105
          replace q105 := eq_true q105
          try go_wp2_with (first | ((with_reducible refine gate_dst (N := 7) rfl ?_); refine box_event rfl (N := 7) rfl (cs := #[.int .i64 0, .int .i64 0, .int .i64 0, .int .i64 0, .int .i64 0, .int .i64 0, .int .i64 0, .int .i64 0]) (t := 71) BX ?_; intro gb106 hg w39 hbox hb; replace HO_3 := am (Kd.R_below (KR HO_3) hb); replace HO_4 := am (Kd.R_below (KR HO_4) hb); replace HO_5 := am (Kd.R_below (KR HO_5) hb); have BK106 := am (hbox); have GW106 := am (GH1 HB GE101.out hg); have GE106 := GW106; replace HB := am (below_step (K1 HB GE101.out) hb); have NB101_106 := am (NL BK101 hg); have NB106_101 := am (NG BK101 hg); replace BK101 := am (BB BK101 hb); clear hb hbox hg; have hnb40 := NB106_101.out; have hnc40 := NB101_106.out; obtain ⟨hcz41_0, hcz41_1, hcz41_2, hcz41_3, hcz41_4, hcz41_5, hcz41_6, hcz41_7, hfz41_0⟩ := y8 w39 BK106.out; obtain ⟨Ao42, co42, eo42⟩ := Kd.R_slice HO_3.out; subst eo42; obtain ⟨Ao43, co43, eo43⟩ := Kd.R_slice HO_4.out; subst eo43))
          generalize hq_ : ((((((((w39.setCell ⟨gb106, 0, none⟩ (.int .i64 ((rd_T71 l0 x11_1).f0))).setCell ⟨gb106, 1, none⟩ (.int .i64 ((rd_T71 l0 x11_1).f1))).setCell ⟨gb106, 2, none⟩ (.int .i64 ((rd_T71 l0 x11_1).f2.f0))).setCell ⟨gb106, 3, none⟩ (.int .i64 ((rd_T71 l0 x11_1).f2.f1))).setCell ⟨gb106, 4, none⟩ (.int .i64 ((rd_T71 l0 x11_1).f3.f0))).setCell ⟨gb106, 5, none⟩ (.int .i64 ((rd_T71 l0 x11_1).f3.f1))).setCell ⟨gb106, 6, none⟩ (.int .i64 ((rd_T71 l0 x11_1).f4))).setCell ⟨gb106, 7, none⟩ (.int .i64 ((rd_T71 l0 x11_1).f5))) = w44
          have n0_ : Aside0 (Kd.R k43 43 w44 w.heap.size (fun k_ => some k_ ≠ (.slice Ao43 x4_1.length co43 : Value).ownBlock) (.slice Ao42 x3_1.length co42) x3_1) := ⟨by rw [← hq_]; (with_reducible repeat (first | apply Kd.R_alloc | apply Kd.R_drewN | apply Kd.R_drew)); exact RF HO_3.out BK106.out⟩
          have n1_ : Aside0 (Kd.R k43 43 w44 w.heap.size (fun k_ => some k_ ≠ (.slice Ao42 x3_1.length co42 : Value).ownBlock) (.slice Ao43 x4_1.length co43) x4_1) := ⟨by rw [← hq_]; (with_reducible repeat (first | apply Kd.R_alloc | apply Kd.R_drewN | apply Kd.R_drew)); exact RF HO_4.out BK106.out⟩
          have n2_ : Aside0 (Kd.R (Kd.int .i64) 3 w44 w.heap.size (fun _ => True) u5 x5_1) := ⟨by rw [← hq_]; (with_reducible repeat (first | apply Kd.R_alloc | apply Kd.R_drewN | apply Kd.R_drew)); exact Kd.R_mono (Kd.R_far (p := ⟨gb106, 7, none⟩) (Kd.R_far (p := ⟨gb106, 6, none⟩) (Kd.R_far (p := ⟨gb106, 5, none⟩) (Kd.R_far (p := ⟨gb106, 4, none⟩) (Kd.R_far (p := ⟨gb106, 3, none⟩) (Kd.R_far (p := ⟨gb106, 2, none⟩) (Kd.R_far (p := ⟨gb106, 1, none⟩) (Kd.R_far (p := ⟨gb106, 0, none⟩) (Kd.R_types HO_5.out BK106.out (by decide)) (fun _ hk => hk.2) (.int .i64 ((rd_T71 l0 x11_1).f0))) (fun _ hk => hk.2) (.int .i64 ((rd_T71 l0 x11_1).f1))) (fun _ hk => hk.2) (.int .i64 ((rd_T71 l0 x11_1).f2.f0))) (fun _ hk => hk.2) (.int .i64 ((rd_T71 l0 x11_1).f2.f1))) (fun _ hk => hk.2) (.int .i64 ((rd_T71 l0 x11_1).f3.f0))) (fun _ hk => hk.2) (.int .i64 ((rd_T71 l0 x11_1).f3.f1))) (fun _ hk => hk.2) (.int .i64 ((rd_T71 l0 x11_1).f4))) (fun _ hk => hk.2) (.int .i64 ((rd_T71 l0 x11_1).f5))) (fun _ hk => trivial)⟩
          have n3_ : Aside0 (w44.heap[gb101]? = some (.cells #[.slice none 0 0, .slice none 0 0, .slice none 0 0] 113 (0, 0))) := ⟨by rw [← hq_]; (with_reducible repeat (first | refine blk_drewN ?_ _ | refine blk_drew ?_ | refine blk_alloc ?_ _)); refine blk_far ?_ NB101_106.out _; (with_reducible repeat (first | refine blk_drewN ?_ _ | refine blk_drew ?_ | refine blk_alloc ?_ _)); refine blk_far ?_ NB101_106.out _; (with_reducible repeat (first | refine blk_drewN ?_ _ | refine blk_drew ?_ | refine blk_alloc ?_ _)); refine blk_far ?_ NB101_106.out _; (with_reducible repeat (first | refine blk_drewN ?_ _ | refine blk_drew ?_ | refine blk_alloc ?_ _)); refine blk_far ?_ NB101_106.out _; (with_reducible repeat (first | refine blk_drewN ?_ _ | refine blk_drew ?_ | refine blk_alloc ?_ _)); refine blk_far ?_ NB101_106.out _; (with_reducible repeat (first | refine blk_drewN ?_ _ | refine blk_drew ?_ | refine blk_alloc ?_ _)); refine blk_far ?_ NB101_106.out _; (with_reducible repeat (first | refine blk_drewN ?_ _ | refine blk_drew ?_ | refine blk_alloc ?_ _)); refine blk_far ?_ NB101_106.out _; (with_reducible repeat (first | refine blk_drewN ?_ _ | refine blk_drew ?_ | refine blk_alloc ?_ _)); refine blk_far ?_ NB101_106.out _; (with_reducible repeat (first | refine blk_drewN ?_ _ | refine blk_drew ?_ | refine blk_alloc ?_ _)); exact BK101.out⟩
          have n4_ : Aside0 (w44.heap[gb106]? = some (.cells #[.int .i64 ((rd_T71 l0 x11_1).f0), .int .i64 ((rd_T71 l0 x11_1).f1), .int .i64 ((rd_T71 l0 x11_1).f2.f0), .int .i64 ((rd_T71 l0 x11_1).f2.f1), .int .i64 ((rd_T71 l0 x11_1).f3.f0), .int .i64 ((rd_T71 l0 x11_1).f3.f1), .int .i64 ((rd_T71 l0 x11_1).f4), .int .i64 ((rd_T71 l0 x11_1).f5)] 71 (0, 0))) := ⟨by rw [← hq_]; exact P8 BK106⟩
          have n5_ : Aside0 (Below w.heap.size w w44) := ⟨by rw [← hq_]; exact K2 HB GE101.out GE106.out⟩
          clear hq_
          (try clear HO_3)
          (try clear HO_4)
          (try clear HO_5)
          (try clear BK101)
          (try clear BK106)
          (try clear HB)
          have HO_3 := n0_
          have HO_4 := n1_
          have HO_5 := n2_
          have BK101 := n3_
          have BK106 := n4_
          have HB := n5_
          clear n0_ n1_ n2_ n3_ n4_ n5_
          replace HO_3 := am (Kd.R_drew HO_3.out)
          replace HO_4 := am (Kd.R_drew HO_4.out)
          replace HO_5 := am (Kd.R_drew HO_5.out)
          replace BK101 := am (blk_drew BK101.out)
          replace BK106 := am (blk_drew BK106.out)
          replace HB := am (below_drew1 HB.out)
          refine start_ (n := 12) (S := fun w' => de8 w' gb106 (.int .i64 ((rd_T71 l0 x11_1).f0)) (.int .i64 ((rd_T71 l0 x11_1).f1)) (.int .i64 ((rd_T71 l0 x11_1).f2.f0)) (.int .i64 ((rd_T71 l0 x11_1).f2.f1)) (.int .i64 ((rd_T71 l0 x11_1).f3.f0)) (.int .i64 ((rd_T71 l0 x11_1).f3.f1)) (.int .i64 ((rd_T71 l0 x11_1).f4)) (.int .i64 ((rd_T71 l0 x11_1).f5))) (ds := []) (tf 0 12) (by kernel_rfl) rfl rfl ⟨z0 _ BK106.out, z1 _ BK106.out, z2 _ BK106.out, z3 _ BK106.out, z4 _ BK106.out, z5 _ BK106.out, z6 _ BK106.out, z7 _ BK106.out⟩ (fun hHeld => ?_); refine with_tabW impl_axesOf.tab6 impl_axesOf.bits6 (fun HT_ HW_ => ?_)
          generalize w44.drew = w45 at HO_3 HO_4 HO_5 BK101 BK106 HB hHeld ⊢
          refine pv HT_ 0 15 (tf 1 11) ?_
          refine pv HT_ 1 16 (tf 2 10) ?_
          refine pv HT_ 5 20 (tr [2, 3, 1, 6]) ?_
          refine pv HT_ 6 21 (tr [2, 3, 2, 5]) ?_
          refine tk 2 (some 17) (tr [3, 2, 2, 5]) (take_ofW HT_.out HW_.out (by kernel_rfl)) hHeld ?_
          refine tk 7 (some 22) (tr [3, 2, 3, 4]) (take_ofW HT_.out HW_.out (by kernel_rfl)) hHeld ?_
          refine join_ (σ := Value × Value × Value) 3 (tf 9 3) (fun s_ => [(18, s_.1), (19, s_.2.1), (23, s_.2.2)]) (fun s_ w' => (w'.cell? ⟨gb106, 0, none⟩ = some (.int .i64 ((rd_T71 l0 x11_1).f0)) ∧ w'.cell? ⟨gb106, 1, none⟩ = some (.int .i64 ((rd_T71 l0 x11_1).f1)) ∧ w'.cell? ⟨gb106, 2, none⟩ = some (.int .i64 ((rd_T71 l0 x11_1).f2.f0)) ∧ w'.cell? ⟨gb106, 3, none⟩ = some (.int .i64 ((rd_T71 l0 x11_1).f2.f1)) ∧ w'.cell? ⟨gb106, 4, none⟩ = some (.int .i64 ((rd_T71 l0 x11_1).f3.f0)) ∧ w'.cell? ⟨gb106, 5, none⟩ = some (.int .i64 ((rd_T71 l0 x11_1).f3.f1)) ∧ w'.cell? ⟨gb106, 6, none⟩ = some (.int .i64 ((rd_T71 l0 x11_1).f4)) ∧ w'.cell? ⟨gb106, 7, none⟩ = some (.int .i64 ((rd_T71 l0 x11_1).f5))) ∧ (Kd.R k43 43 w' w.heap.size (fun k_ => some k_ ≠ (s_.2.1 : Value).ownBlock ∧ some k_ ≠ (s_.2.2 : Value).ownBlock ∧ some k_ ≠ (.slice Ao43 x4_1.length co43 : Value).ownBlock) s_.1 y107) ∧ (Kd.R k43 43 w' w.heap.size (fun k_ => some k_ ≠ (s_.1 : Value).ownBlock ∧ some k_ ≠ (s_.2.2 : Value).ownBlock ∧ some k_ ≠ (.slice Ao43 x4_1.length co43 : Value).ownBlock) s_.2.1 y110) ∧ (Kd.R k43 43 w' w.heap.size (fun k_ => some k_ ≠ (s_.1 : Value).ownBlock ∧ some k_ ≠ (s_.2.1 : Value).ownBlock ∧ some k_ ≠ (.slice Ao43 x4_1.length co43 : Value).ownBlock) s_.2.2 y113) ∧ (Kd.R k43 43 w' w.heap.size (fun k_ => some k_ ≠ (s_.1 : Value).ownBlock ∧ some k_ ≠ (s_.2.1 : Value).ownBlock ∧ some k_ ≠ (s_.2.2 : Value).ownBlock) (.slice Ao43 x4_1.length co43) x4_1) ∧ (Kd.R (Kd.int .i64) 3 w' w.heap.size (fun _ => True) u5 x5_1) ∧ (w'.heap[gb101]? = some (.cells #[.slice none 0 0, .slice none 0 0, .slice none 0 0] 113 (0, 0))) ∧ (w'.heap[gb106]? = some (.cells #[.int .i64 ((rd_T71 l0 x11_1).f0), .int .i64 ((rd_T71 l0 x11_1).f1), .int .i64 ((rd_T71 l0 x11_1).f2.f0), .int .i64 ((rd_T71 l0 x11_1).f2.f1), .int .i64 ((rd_T71 l0 x11_1).f3.f0), .int .i64 ((rd_T71 l0 x11_1).f3.f1), .int .i64 ((rd_T71 l0 x11_1).f4), .int .i64 ((rd_T71 l0 x11_1).f5)] 71 (0, 0))) ∧ (Below w.heap.size w w')) ?_ ?_
          rotate_left
          ·intro hCont
           refine two_ (i := 3) (j := 8) (Ni := some 18) (Nj := some 23) (tr [4, 1, 3, 4]) (tr [3, 2, 4, 3]) rfl rfl rfl rfl (two_of HT_.out (by kernel_rfl)) (by decide) (by decide) (fun K hK => ?_) (fun K hK => ?_)
           ·skip
            refine Kd.R_lit_step k43 _ 43 ?hg (N := 18) ?hd (xs := ([(⟨(rd_T71 l0 x11_1).f2.f0, (rd_T71 l0 x11_1).f2.f1⟩ : S43)] : List (S43))) (inner := [.int .i64 ((rd_T71 l0 x11_1).f2.f0), .int .i64 ((rd_T71 l0 x11_1).f2.f1)]) (ok := fun _ => True) (okp := fun _ => True) ?hr ?hp (fun _ hk => hk) trivial (Below.refl _ _) (Nat.le_refl _) (by simp) ?_; (case hd => rfl); (case hg => rfl); (case hr => first | (go_simp; done) | (go_simp; rfl)); (case hp => exact (Reps.c2 (show Kd.M k43 _ _ _ (⟨(rd_T71 l0 x11_1).f2.f0, (rd_T71 l0 x11_1).f2.f1⟩ : S43) [.int .i64 ((rd_T71 l0 x11_1).f2.f0), .int .i64 ((rd_T71 l0 x11_1).f2.f1)] from (k43_mkM _ _ _ (⟨(rd_T71 l0 x11_1).f2.f0, (rd_T71 l0 x11_1).f2.f1⟩ : S43) )) (Reps.none _ _)))
            intro v108 w46 ho47 hb hg_ hnew_
            clear hg_ hnew_
            (first | rw [← Ny107.out] at ho47 | (simp only [Int.reduceToNat] at ho47; rw [← Ny107.out] at ho47))
            replace HO_5 := am (Kd.R_below (KR HO_5) hb)
            have HO109 := am (Kd.R_lower (Kd.R_new' (Kd.R_new' ho47 (Kd.R_lt (KR HO_3))) (Kd.R_lt (KR HO_4))) (below_size (K2 HB GE101.out GE106.out)))
            replace HO_3 := am (Kd.R_elder' (KR HO_3) (Kd.R_base ho47) hb)
            replace HO_4 := am (Kd.R_elder' (KR HO_4) (Kd.R_base ho47) hb)
            replace BK101 := am (BB BK101 hb)
            replace BK106 := am (BB BK106 hb)
            replace HB := am (below_step (K2 HB GE101.out GE106.out) hb)
            clear hb ho47
            obtain ⟨Ao49, co49, eo49⟩ := Kd.R_slice HO109.out
            (first | subst eo49 | (injection eo49 with f1_ f2_ f3_; have f4_ := f1_.symm; have f5_ := f3_.symm; clear f1_ f2_ f3_; subst f4_; subst f5_))
            refine hK.out _ _ ⟨z0 _ BK106.out, z1 _ BK106.out, z2 _ BK106.out, z3 _ BK106.out, z4 _ BK106.out, z5 _ BK106.out, z6 _ BK106.out, z7 _ BK106.out⟩ (fun hHeld => ?_)
            clear hK K
            refine norm_ (a' := ?_) ?_ ?_
            rotate_left
            ·show Act.put _ (some 18) _ = _
             simp only [Act.put, List.setIfInBounds_toArray, List.set_cons_zero, List.set_cons_succ, i64_w, i32_w]
             rfl
            refine two_ (i := 4) (j := 8) (Ni := some 19) (Nj := some 23) (tf 8 4) (tr [4, 1, 4, 3]) rfl rfl rfl rfl (two_of HT_.out (by kernel_rfl)) (by decide) (by decide) (fun K hK => ?_) (fun K hK => ?_)
            ·skip
             refine Kd.R_append_rows_step k43 (w0 := w) w.heap.size (by rfl) (.tmp 15) (.tmp 18) 89 43 (.agg #[(.int .i64 0), (.int .i64 0)]) 16 rfl Try.underlying89 info43 rfl (by decide) (by omega) (.slice Ao42 x3_1.length co42) x3_1 y107 _ _ _ (fun k_ => some k_ ≠ (.slice Ao43 x4_1.length co43 : Value).ownBlock ∧ some k_ ≠ (.slice Ao49 y107.length co49 : Value).ownBlock) (fun _ => False) rfl rfl ?aO ?aR (fun _ _ h => h) (fun _ h => h.elim) ?aF ?aB ?aS ?aL ?_
             (case aR => exact KC (Kd.R_reads' HO109.out).2.2)
             (case aB => exact (K2 HB GE101.out GE106.out))
             (case aF => exact (fun k_ hk => ⟨Kd.fresh' (Kd.R_lt (KR HO_4)) k_ hk, Kd.fresh' (Kd.R_lt (KR HO109)) k_ hk⟩))
             (case aO => exact (KR HO_3))
             (case aS => exact (below_size (K2 HB GE101.out GE106.out)))
             (case aL => have := LMc8.out; omega)
             intro v111 w48 ho hb hg hat
             rw [← Ny110.out] at ho
             replace HO_4 := am (Kd.R_after (ok := (fun k_ => some k_ ≠ (.slice Ao49 y107.length co49 : Value).ownBlock)) (by (with_reducible repeat (first | apply Kd.R_alloc | apply Kd.R_drewN | apply Kd.R_drew)); exact Kd.R_mono HO_4.out (fun _ hk => ⟨hk.2, hk.1⟩)) hg hat)
             replace HO_5 := am (Kd.R_over' (KR HO_5) (Kd.R_typed (KR HO_3)) (by decide) hg)
             replace BK101 := am (blk_grown (g := gb101) (o := .cells #[.slice none 0 0, .slice none 0 0, .slice none 0 0] 113 (0, 0)) (KB BK101) hg (Kd.R_ne HO_3.out BK101.out (by decide)))
             replace BK106 := am (blk_grown (g := gb106) (o := .cells #[.int .i64 ((rd_T71 l0 x11_1).f0), .int .i64 ((rd_T71 l0 x11_1).f1), .int .i64 ((rd_T71 l0 x11_1).f2.f0), .int .i64 ((rd_T71 l0 x11_1).f2.f1), .int .i64 ((rd_T71 l0 x11_1).f3.f0), .int .i64 ((rd_T71 l0 x11_1).f3.f1), .int .i64 ((rd_T71 l0 x11_1).f4), .int .i64 ((rd_T71 l0 x11_1).f5)] 71 (0, 0)) (KB BK106) hg (Kd.R_ne HO_3.out BK106.out (by decide)))
             replace HO109 := am (Kd.R_after (ok := (fun k_ => some k_ ≠ (.slice Ao43 x4_1.length co43 : Value).ownBlock)) (by (with_reducible repeat (first | apply Kd.R_alloc | apply Kd.R_drewN | apply Kd.R_drew)); exact Kd.R_mono HO109.out (fun _ hk => ⟨hk.2, hk.1.2⟩)) hg hat)
             replace HB := am (hb)
             have HO112 := am (ho)
             clear HO_3
             clear ho hb hg hat
             refine hK.out _ _ ⟨z0 _ BK106.out, z1 _ BK106.out, z2 _ BK106.out, z3 _ BK106.out, z4 _ BK106.out, z5 _ BK106.out, z6 _ BK106.out, z7 _ BK106.out⟩ (fun hHeld => ?_)
             clear hK K
             refine norm_ (a' := ?_) ?_ ?_
             rotate_left
             ·show Act.put _ (some 19) _ = _
              simp only [Act.put, List.setIfInBounds_toArray, List.set_cons_zero, List.set_cons_succ, i64_w, i32_w]
              rfl
             refine one_ (i := 8) (N := some 23) (tf 9 3) rfl rfl (one_of HT_.out (by kernel_rfl)) (by decide) (fun K hK => ?_)
             refine Kd.R_lit_step k43 _ 43 ?hg (N := 23) ?hd (xs := ([(⟨(rd_T71 l0 x11_1).f3.f0, (rd_T71 l0 x11_1).f3.f1⟩ : S43)] : List (S43))) (inner := [.int .i64 ((rd_T71 l0 x11_1).f3.f0), .int .i64 ((rd_T71 l0 x11_1).f3.f1)]) (ok := fun _ => True) (okp := fun _ => True) ?hr ?hp (fun _ hk => hk) trivial (Below.refl _ _) (Nat.le_refl _) (by simp) ?_; (case hd => rfl); (case hg => rfl); (case hr => first | (go_simp; done) | (go_simp; rfl)); (case hp => exact (Reps.c2 (show Kd.M k43 _ _ _ (⟨(rd_T71 l0 x11_1).f3.f0, (rd_T71 l0 x11_1).f3.f1⟩ : S43) [.int .i64 ((rd_T71 l0 x11_1).f3.f0), .int .i64 ((rd_T71 l0 x11_1).f3.f1)] from (k43_mkM _ _ _ (⟨(rd_T71 l0 x11_1).f3.f0, (rd_T71 l0 x11_1).f3.f1⟩ : S43) )) (Reps.none _ _)))
             intro v114 w50 ho51 hb hg_ hnew_
             clear hg_ hnew_
             (first | rw [← Ny113.out] at ho51 | (simp only [Int.reduceToNat] at ho51; rw [← Ny113.out] at ho51))
             replace HO_5 := am (Kd.R_below (KR HO_5) hb)
             have HO115 := am (Kd.R_lower (Kd.R_new' (Kd.R_new' (Kd.R_new' ho51 (Kd.R_lt (KR HO_4))) (Kd.R_lt (KR HO109))) (Kd.R_lt (KR HO112))) (below_size (K2 HB GE101.out GE106.out)))
             replace HO_4 := am (Kd.R_elder' (KR HO_4) (Kd.R_base ho51) hb)
             replace HO109 := am (Kd.R_elder' (KR HO109) (Kd.R_base ho51) hb)
             replace HO112 := am (Kd.R_elder' (KR HO112) (Kd.R_base ho51) hb)
             replace BK101 := am (BB BK101 hb)
             replace BK106 := am (BB BK106 hb)
             replace HB := am (below_step (K2 HB GE101.out GE106.out) hb)
             clear hb ho51
             refine hK.out _ _ ⟨z0 _ BK106.out, z1 _ BK106.out, z2 _ BK106.out, z3 _ BK106.out, z4 _ BK106.out, z5 _ BK106.out, z6 _ BK106.out, z7 _ BK106.out⟩ (fun hHeld => ?_)
             clear hK K
             refine norm_ (a' := ?_) ?_ ?_
             rotate_left
             ·show Act.put _ (some 23) _ = _
              simp only [Act.put, List.setIfInBounds_toArray, List.set_cons_zero, List.set_cons_succ, i64_w, i32_w]
              rfl
             exact norm_ (by simp only [putAll, Act.put, List.setIfInBounds_toArray, List.set_cons_zero, List.set_cons_succ]) (hCont (.slice Ao49 y107.length co49, v111, v114) _ ⟨hHeld, (by (with_reducible repeat (first | apply Kd.R_alloc | apply Kd.R_drewN | apply Kd.R_drew)); exact Kd.R_mono HO109.out (fun _ hk => ⟨hk.1.2, ⟨hk.2, hk.1.1⟩⟩)), (by (with_reducible repeat (first | apply Kd.R_alloc | apply Kd.R_drewN | apply Kd.R_drew)); exact Kd.R_mono HO112.out (fun _ hk => ⟨hk.1.2, ⟨hk.2, hk.1.1⟩⟩)), (by (with_reducible repeat (first | apply Kd.R_alloc | apply Kd.R_drewN | apply Kd.R_drew)); exact Kd.R_mono HO115.out (fun _ hk => ⟨hk.1.2, ⟨hk.2, hk.1.1.2⟩⟩)), (by (with_reducible repeat (first | apply Kd.R_alloc | apply Kd.R_drewN | apply Kd.R_drew)); exact Kd.R_mono HO_4.out (fun _ hk => ⟨hk.1.1, ⟨hk.1.2, hk.2⟩⟩)), (KR HO_5), (KB BK101), (KB BK106), (K2 HB GE101.out GE106.out)⟩)
            ·skip
             refine Kd.R_lit_step k43 _ 43 ?hg (N := 23) ?hd (xs := ([(⟨(rd_T71 l0 x11_1).f3.f0, (rd_T71 l0 x11_1).f3.f1⟩ : S43)] : List (S43))) (inner := [.int .i64 ((rd_T71 l0 x11_1).f3.f0), .int .i64 ((rd_T71 l0 x11_1).f3.f1)]) (ok := fun _ => True) (okp := fun _ => True) ?hr ?hp (fun _ hk => hk) trivial (Below.refl _ _) (Nat.le_refl _) (by simp) ?_; (case hd => rfl); (case hg => rfl); (case hr => first | (go_simp; done) | (go_simp; rfl)); (case hp => exact (Reps.c2 (show Kd.M k43 _ _ _ (⟨(rd_T71 l0 x11_1).f3.f0, (rd_T71 l0 x11_1).f3.f1⟩ : S43) [.int .i64 ((rd_T71 l0 x11_1).f3.f0), .int .i64 ((rd_T71 l0 x11_1).f3.f1)] from (k43_mkM _ _ _ (⟨(rd_T71 l0 x11_1).f3.f0, (rd_T71 l0 x11_1).f3.f1⟩ : S43) )) (Reps.none _ _)))
             intro v114 w48 ho49 hb hg_ hnew_
             clear hg_ hnew_
             (first | rw [← Ny113.out] at ho49 | (simp only [Int.reduceToNat] at ho49; rw [← Ny113.out] at ho49))
             replace HO_5 := am (Kd.R_below (KR HO_5) hb)
             have HO115 := am (Kd.R_lower (Kd.R_new' (Kd.R_new' (Kd.R_new' ho49 (Kd.R_lt (KR HO_3))) (Kd.R_lt (KR HO_4))) (Kd.R_lt (KR HO109))) (below_size (K2 HB GE101.out GE106.out)))
             replace HO_3 := am (Kd.R_elder' (KR HO_3) (Kd.R_base ho49) hb)
             replace HO_4 := am (Kd.R_elder' (KR HO_4) (Kd.R_base ho49) hb)
             replace HO109 := am (Kd.R_elder' (KR HO109) (Kd.R_base ho49) hb)
             replace BK101 := am (BB BK101 hb)
             replace BK106 := am (BB BK106 hb)
             replace HB := am (below_step (K2 HB GE101.out GE106.out) hb)
             clear hb ho49
             obtain ⟨Ao51, co51, eo51⟩ := Kd.R_slice HO109.out
             (first | subst eo51 | (injection eo51 with f1_ f2_ f3_; have f4_ := f1_.symm; have f5_ := f3_.symm; clear f1_ f2_ f3_; subst f4_; subst f5_))
             refine hK.out _ _ ⟨z0 _ BK106.out, z1 _ BK106.out, z2 _ BK106.out, z3 _ BK106.out, z4 _ BK106.out, z5 _ BK106.out, z6 _ BK106.out, z7 _ BK106.out⟩ (fun hHeld => ?_)
             clear hK K
             refine norm_ (a' := ?_) ?_ ?_
             rotate_left
             ·show Act.put _ (some 23) _ = _
              simp only [Act.put, List.setIfInBounds_toArray, List.set_cons_zero, List.set_cons_succ, i64_w, i32_w]
              rfl
             refine one_ (i := 4) (N := some 19) (tf 9 3) rfl rfl (one_of HT_.out (by kernel_rfl)) (by decide) (fun K hK => ?_)
             refine Kd.R_append_rows_step k43 (w0 := w) w.heap.size (by rfl) (.tmp 15) (.tmp 18) 89 43 (.agg #[(.int .i64 0), (.int .i64 0)]) 16 rfl Try.underlying89 info43 rfl (by decide) (by omega) (.slice Ao42 x3_1.length co42) x3_1 y107 _ _ _ (fun k_ => some k_ ≠ (.slice Ao43 x4_1.length co43 : Value).ownBlock ∧ some k_ ≠ (.slice Ao51 y107.length co51 : Value).ownBlock ∧ some k_ ≠ (v114 : Value).ownBlock) (fun _ => False) rfl rfl ?aO ?aR (fun _ _ h => h) (fun _ h => h.elim) ?aF ?aB ?aS ?aL ?_
             (case aR => exact KC (Kd.R_reads' HO109.out).2.2)
             (case aB => exact (K2 HB GE101.out GE106.out))
             (case aF => exact (fun k_ hk => ⟨Kd.fresh' (Kd.R_lt (KR HO_4)) k_ hk, Kd.fresh' (Kd.R_lt (KR HO109)) k_ hk, Kd.fresh' (Kd.R_lt (KR HO115)) k_ hk⟩))
             (case aO => exact (by (with_reducible repeat (first | apply Kd.R_alloc | apply Kd.R_drewN | apply Kd.R_drew)); exact Kd.R_mono HO_3.out (fun _ hk => ⟨hk.1.1, ⟨hk.1.2, hk.2⟩⟩)))
             (case aS => exact (below_size (K2 HB GE101.out GE106.out)))
             (case aL => have := LMc8.out; omega)
             intro v111 w50 ho hb hg hat
             rw [← Ny110.out] at ho
             replace HO_4 := am (Kd.R_after (ok := (fun k_ => some k_ ≠ (.slice Ao51 y107.length co51 : Value).ownBlock ∧ some k_ ≠ (v114 : Value).ownBlock)) (by (with_reducible repeat (first | apply Kd.R_alloc | apply Kd.R_drewN | apply Kd.R_drew)); exact Kd.R_mono HO_4.out (fun _ hk => ⟨⟨hk.1.2, hk.2⟩, hk.1.1⟩)) hg hat)
             replace HO_5 := am (Kd.R_over' (KR HO_5) (Kd.R_typed (KR HO_3)) (by decide) hg)
             replace BK101 := am (blk_grown (g := gb101) (o := .cells #[.slice none 0 0, .slice none 0 0, .slice none 0 0] 113 (0, 0)) (KB BK101) hg (Kd.R_ne HO_3.out BK101.out (by decide)))
             replace BK106 := am (blk_grown (g := gb106) (o := .cells #[.int .i64 ((rd_T71 l0 x11_1).f0), .int .i64 ((rd_T71 l0 x11_1).f1), .int .i64 ((rd_T71 l0 x11_1).f2.f0), .int .i64 ((rd_T71 l0 x11_1).f2.f1), .int .i64 ((rd_T71 l0 x11_1).f3.f0), .int .i64 ((rd_T71 l0 x11_1).f3.f1), .int .i64 ((rd_T71 l0 x11_1).f4), .int .i64 ((rd_T71 l0 x11_1).f5)] 71 (0, 0)) (KB BK106) hg (Kd.R_ne HO_3.out BK106.out (by decide)))
             replace HO109 := am (Kd.R_after (ok := (fun k_ => some k_ ≠ (.slice Ao43 x4_1.length co43 : Value).ownBlock ∧ some k_ ≠ (v114 : Value).ownBlock)) (by (with_reducible repeat (first | apply Kd.R_alloc | apply Kd.R_drewN | apply Kd.R_drew)); exact Kd.R_mono HO109.out (fun _ hk => ⟨⟨hk.1.2, hk.2⟩, hk.1.1.2⟩)) hg hat)
             replace HO115 := am (Kd.R_after (ok := (fun k_ => some k_ ≠ (.slice Ao43 x4_1.length co43 : Value).ownBlock ∧ some k_ ≠ (.slice Ao51 y107.length co51 : Value).ownBlock)) (by (with_reducible repeat (first | apply Kd.R_alloc | apply Kd.R_drewN | apply Kd.R_drew)); exact Kd.R_mono HO115.out (fun _ hk => ⟨⟨hk.1.2, hk.2⟩, hk.1.1.2⟩)) hg hat)
             replace HB := am (hb)
             have HO112 := am (ho)
             clear HO_3
             clear ho hb hg hat
             refine hK.out _ _ ⟨z0 _ BK106.out, z1 _ BK106.out, z2 _ BK106.out, z3 _ BK106.out, z4 _ BK106.out, z5 _ BK106.out, z6 _ BK106.out, z7 _ BK106.out⟩ (fun hHeld => ?_)
             clear hK K
             refine norm_ (a' := ?_) ?_ ?_
             rotate_left
             ·show Act.put _ (some 19) _ = _
              simp only [Act.put, List.setIfInBounds_toArray, List.set_cons_zero, List.set_cons_succ, i64_w, i32_w]
              rfl
             exact norm_ (by simp only [putAll, Act.put, List.setIfInBounds_toArray, List.set_cons_zero, List.set_cons_succ]) (hCont (.slice Ao51 y107.length co51, v111, v114) _ ⟨hHeld, (by (with_reducible repeat (first | apply Kd.R_alloc | apply Kd.R_drewN | apply Kd.R_drew)); exact Kd.R_mono HO109.out (fun _ hk => ⟨hk.2, ⟨hk.1.2, hk.1.1⟩⟩)), (by (with_reducible repeat (first | apply Kd.R_alloc | apply Kd.R_drewN | apply Kd.R_drew)); exact Kd.R_mono HO112.out (fun _ hk => ⟨hk.2.1, ⟨hk.2.2, hk.1⟩⟩)), (by (with_reducible repeat (first | apply Kd.R_alloc | apply Kd.R_drewN | apply Kd.R_drew)); exact Kd.R_mono HO115.out (fun _ hk => ⟨hk.1.2, ⟨hk.2, hk.1.1⟩⟩)), (by (with_reducible repeat (first | apply Kd.R_alloc | apply Kd.R_drewN | apply Kd.R_drew)); exact Kd.R_mono HO_4.out (fun _ hk => ⟨hk.1.1, ⟨hk.2, hk.1.2⟩⟩)), (KR HO_5), (KB BK101), (KB BK106), (K2 HB GE101.out GE106.out)⟩)
           ·skip
            refine Kd.R_lit_step k43 _ 43 ?hg (N := 23) ?hd (xs := ([(⟨(rd_T71 l0 x11_1).f3.f0, (rd_T71 l0 x11_1).f3.f1⟩ : S43)] : List (S43))) (inner := [.int .i64 ((rd_T71 l0 x11_1).f3.f0), .int .i64 ((rd_T71 l0 x11_1).f3.f1)]) (ok := fun _ => True) (okp := fun _ => True) ?hr ?hp (fun _ hk => hk) trivial (Below.refl _ _) (Nat.le_refl _) (by simp) ?_; (case hd => rfl); (case hg => rfl); (case hr => first | (go_simp; done) | (go_simp; rfl)); (case hp => exact (Reps.c2 (show Kd.M k43 _ _ _ (⟨(rd_T71 l0 x11_1).f3.f0, (rd_T71 l0 x11_1).f3.f1⟩ : S43) [.int .i64 ((rd_T71 l0 x11_1).f3.f0), .int .i64 ((rd_T71 l0 x11_1).f3.f1)] from (k43_mkM _ _ _ (⟨(rd_T71 l0 x11_1).f3.f0, (rd_T71 l0 x11_1).f3.f1⟩ : S43) )) (Reps.none _ _)))
            intro v114 w46 ho47 hb hg_ hnew_
            clear hg_ hnew_
            (first | rw [← Ny113.out] at ho47 | (simp only [Int.reduceToNat] at ho47; rw [← Ny113.out] at ho47))
            replace HO_5 := am (Kd.R_below (KR HO_5) hb)
            have HO115 := am (Kd.R_lower (Kd.R_new' (Kd.R_new' ho47 (Kd.R_lt (KR HO_3))) (Kd.R_lt (KR HO_4))) (below_size (K2 HB GE101.out GE106.out)))
            replace HO_3 := am (Kd.R_elder' (KR HO_3) (Kd.R_base ho47) hb)
            replace HO_4 := am (Kd.R_elder' (KR HO_4) (Kd.R_base ho47) hb)
            replace BK101 := am (BB BK101 hb)
            replace BK106 := am (BB BK106 hb)
            replace HB := am (below_step (K2 HB GE101.out GE106.out) hb)
            clear hb ho47
            refine hK.out _ _ ⟨z0 _ BK106.out, z1 _ BK106.out, z2 _ BK106.out, z3 _ BK106.out, z4 _ BK106.out, z5 _ BK106.out, z6 _ BK106.out, z7 _ BK106.out⟩ (fun hHeld => ?_)
            clear hK K
            refine norm_ (a' := ?_) ?_ ?_
            rotate_left
            ·show Act.put _ (some 23) _ = _
             simp only [Act.put, List.setIfInBounds_toArray, List.set_cons_zero, List.set_cons_succ, i64_w, i32_w]
             rfl
            refine one_ (i := 3) (N := some 18) (tr [4, 1, 4, 3]) rfl rfl (one_of HT_.out (by kernel_rfl)) (by decide) (fun K hK => ?_)
            refine Kd.R_lit_step k43 _ 43 ?hg (N := 18) ?hd (xs := ([(⟨(rd_T71 l0 x11_1).f2.f0, (rd_T71 l0 x11_1).f2.f1⟩ : S43)] : List (S43))) (inner := [.int .i64 ((rd_T71 l0 x11_1).f2.f0), .int .i64 ((rd_T71 l0 x11_1).f2.f1)]) (ok := fun _ => True) (okp := fun _ => True) ?hr ?hp (fun _ hk => hk) trivial (Below.refl _ _) (Nat.le_refl _) (by simp) ?_; (case hd => rfl); (case hg => rfl); (case hr => first | (go_simp; done) | (go_simp; rfl)); (case hp => exact (Reps.c2 (show Kd.M k43 _ _ _ (⟨(rd_T71 l0 x11_1).f2.f0, (rd_T71 l0 x11_1).f2.f1⟩ : S43) [.int .i64 ((rd_T71 l0 x11_1).f2.f0), .int .i64 ((rd_T71 l0 x11_1).f2.f1)] from (k43_mkM _ _ _ (⟨(rd_T71 l0 x11_1).f2.f0, (rd_T71 l0 x11_1).f2.f1⟩ : S43) )) (Reps.none _ _)))
            intro v108 w48 ho49 hb hg_ hnew_
            clear hg_ hnew_
            (first | rw [← Ny107.out] at ho49 | (simp only [Int.reduceToNat] at ho49; rw [← Ny107.out] at ho49))
            replace HO_5 := am (Kd.R_below (KR HO_5) hb)
            have HO109 := am (Kd.R_lower (Kd.R_new' (Kd.R_new' (Kd.R_new' ho49 (Kd.R_lt (KR HO_3))) (Kd.R_lt (KR HO_4))) (Kd.R_lt (KR HO115))) (below_size (K2 HB GE101.out GE106.out)))
            replace HO_3 := am (Kd.R_elder' (KR HO_3) (Kd.R_base ho49) hb)
            replace HO_4 := am (Kd.R_elder' (KR HO_4) (Kd.R_base ho49) hb)
            replace HO115 := am (Kd.R_elder' (KR HO115) (Kd.R_base ho49) hb)
            replace BK101 := am (BB BK101 hb)
            replace BK106 := am (BB BK106 hb)
            replace HB := am (below_step (K2 HB GE101.out GE106.out) hb)
            clear hb ho49
            obtain ⟨Ao51, co51, eo51⟩ := Kd.R_slice HO109.out
            (first | subst eo51 | (injection eo51 with f1_ f2_ f3_; have f4_ := f1_.symm; have f5_ := f3_.symm; clear f1_ f2_ f3_; subst f4_; subst f5_))
            refine hK.out _ _ ⟨z0 _ BK106.out, z1 _ BK106.out, z2 _ BK106.out, z3 _ BK106.out, z4 _ BK106.out, z5 _ BK106.out, z6 _ BK106.out, z7 _ BK106.out⟩ (fun hHeld => ?_)
            clear hK K
            refine norm_ (a' := ?_) ?_ ?_
            rotate_left
            ·show Act.put _ (some 18) _ = _
             simp only [Act.put, List.setIfInBounds_toArray, List.set_cons_zero, List.set_cons_succ, i64_w, i32_w]
             rfl
            refine one_ (i := 4) (N := some 19) (tf 9 3) rfl rfl (one_of HT_.out (by kernel_rfl)) (by decide) (fun K hK => ?_)
            refine Kd.R_append_rows_step k43 (w0 := w) w.heap.size (by rfl) (.tmp 15) (.tmp 18) 89 43 (.agg #[(.int .i64 0), (.int .i64 0)]) 16 rfl Try.underlying89 info43 rfl (by decide) (by omega) (.slice Ao42 x3_1.length co42) x3_1 y107 _ _ _ (fun k_ => some k_ ≠ (.slice Ao43 x4_1.length co43 : Value).ownBlock ∧ some k_ ≠ (v114 : Value).ownBlock ∧ some k_ ≠ (.slice Ao51 y107.length co51 : Value).ownBlock) (fun _ => False) rfl rfl ?aO ?aR (fun _ _ h => h) (fun _ h => h.elim) ?aF ?aB ?aS ?aL ?_
            (case aR => exact KC (Kd.R_reads' HO109.out).2.2)
            (case aB => exact (K2 HB GE101.out GE106.out))
            (case aF => exact (fun k_ hk => ⟨Kd.fresh' (Kd.R_lt (KR HO_4)) k_ hk, Kd.fresh' (Kd.R_lt (KR HO115)) k_ hk, Kd.fresh' (Kd.R_lt (KR HO109)) k_ hk⟩))
            (case aO => exact (by (with_reducible repeat (first | apply Kd.R_alloc | apply Kd.R_drewN | apply Kd.R_drew)); exact Kd.R_mono HO_3.out (fun _ hk => ⟨hk.1.1, ⟨hk.1.2, hk.2⟩⟩)))
            (case aS => exact (below_size (K2 HB GE101.out GE106.out)))
            (case aL => have := LMc8.out; omega)
            intro v111 w50 ho hb hg hat
            rw [← Ny110.out] at ho
            replace HO_4 := am (Kd.R_after (ok := (fun k_ => some k_ ≠ (v114 : Value).ownBlock ∧ some k_ ≠ (.slice Ao51 y107.length co51 : Value).ownBlock)) (by (with_reducible repeat (first | apply Kd.R_alloc | apply Kd.R_drewN | apply Kd.R_drew)); exact Kd.R_mono HO_4.out (fun _ hk => ⟨⟨hk.1.2, hk.2⟩, hk.1.1⟩)) hg hat)
            replace HO_5 := am (Kd.R_over' (KR HO_5) (Kd.R_typed (KR HO_3)) (by decide) hg)
            replace BK101 := am (blk_grown (g := gb101) (o := .cells #[.slice none 0 0, .slice none 0 0, .slice none 0 0] 113 (0, 0)) (KB BK101) hg (Kd.R_ne HO_3.out BK101.out (by decide)))
            replace BK106 := am (blk_grown (g := gb106) (o := .cells #[.int .i64 ((rd_T71 l0 x11_1).f0), .int .i64 ((rd_T71 l0 x11_1).f1), .int .i64 ((rd_T71 l0 x11_1).f2.f0), .int .i64 ((rd_T71 l0 x11_1).f2.f1), .int .i64 ((rd_T71 l0 x11_1).f3.f0), .int .i64 ((rd_T71 l0 x11_1).f3.f1), .int .i64 ((rd_T71 l0 x11_1).f4), .int .i64 ((rd_T71 l0 x11_1).f5)] 71 (0, 0)) (KB BK106) hg (Kd.R_ne HO_3.out BK106.out (by decide)))
            replace HO115 := am (Kd.R_after (ok := (fun k_ => some k_ ≠ (.slice Ao43 x4_1.length co43 : Value).ownBlock ∧ some k_ ≠ (.slice Ao51 y107.length co51 : Value).ownBlock)) (by (with_reducible repeat (first | apply Kd.R_alloc | apply Kd.R_drewN | apply Kd.R_drew)); exact Kd.R_mono HO115.out (fun _ hk => ⟨⟨hk.1.2, hk.2⟩, hk.1.1.2⟩)) hg hat)
            replace HO109 := am (Kd.R_after (ok := (fun k_ => some k_ ≠ (.slice Ao43 x4_1.length co43 : Value).ownBlock ∧ some k_ ≠ (v114 : Value).ownBlock)) (by (with_reducible repeat (first | apply Kd.R_alloc | apply Kd.R_drewN | apply Kd.R_drew)); exact Kd.R_mono HO109.out (fun _ hk => ⟨⟨hk.1.2, hk.2⟩, hk.1.1.2⟩)) hg hat)
            replace HB := am (hb)
            have HO112 := am (ho)
            clear HO_3
            clear ho hb hg hat
            refine hK.out _ _ ⟨z0 _ BK106.out, z1 _ BK106.out, z2 _ BK106.out, z3 _ BK106.out, z4 _ BK106.out, z5 _ BK106.out, z6 _ BK106.out, z7 _ BK106.out⟩ (fun hHeld => ?_)
            clear hK K
            refine norm_ (a' := ?_) ?_ ?_
            rotate_left
            ·show Act.put _ (some 19) _ = _
             simp only [Act.put, List.setIfInBounds_toArray, List.set_cons_zero, List.set_cons_succ, i64_w, i32_w]
             rfl
            exact norm_ (by simp only [putAll, Act.put, List.setIfInBounds_toArray, List.set_cons_zero, List.set_cons_succ]) (hCont (.slice Ao51 y107.length co51, v111, v114) _ ⟨hHeld, (by (with_reducible repeat (first | apply Kd.R_alloc | apply Kd.R_drewN | apply Kd.R_drew)); exact Kd.R_mono HO109.out (fun _ hk => ⟨hk.2, ⟨hk.1.2, hk.1.1⟩⟩)), (by (with_reducible repeat (first | apply Kd.R_alloc | apply Kd.R_drewN | apply Kd.R_drew)); exact Kd.R_mono HO112.out (fun _ hk => ⟨hk.2.2, ⟨hk.2.1, hk.1⟩⟩)), (by (with_reducible repeat (first | apply Kd.R_alloc | apply Kd.R_drewN | apply Kd.R_drew)); exact Kd.R_mono HO115.out (fun _ hk => ⟨hk.1.2, ⟨hk.2, hk.1.1⟩⟩)), (by (with_reducible repeat (first | apply Kd.R_alloc | apply Kd.R_drewN | apply Kd.R_drew)); exact Kd.R_mono HO_4.out (fun _ hk => ⟨hk.1.2, ⟨hk.2, hk.1.1⟩⟩)), (KR HO_5), (KB BK101), (KB BK106), (K2 HB GE101.out GE106.out)⟩)
          rintro ⟨v108, v111, v114⟩ w52 ⟨hS_, h0_, h1_, h2_, h3_, h4_, h5_, h6_, h7_⟩
          have HO109 : Aside0 (Kd.R k43 43 w52 w.heap.size (fun k_ => some k_ ≠ (v111 : Value).ownBlock ∧ some k_ ≠ (v114 : Value).ownBlock ∧ some k_ ≠ (.slice Ao43 x4_1.length co43 : Value).ownBlock) v108 y107) := ⟨h0_⟩
          have HO112 : Aside0 (Kd.R k43 43 w52 w.heap.size (fun k_ => some k_ ≠ (v108 : Value).ownBlock ∧ some k_ ≠ (v114 : Value).ownBlock ∧ some k_ ≠ (.slice Ao43 x4_1.length co43 : Value).ownBlock) v111 y110) := ⟨h1_⟩
          have HO115 : Aside0 (Kd.R k43 43 w52 w.heap.size (fun k_ => some k_ ≠ (v108 : Value).ownBlock ∧ some k_ ≠ (v111 : Value).ownBlock ∧ some k_ ≠ (.slice Ao43 x4_1.length co43 : Value).ownBlock) v114 y113) := ⟨h2_⟩
          replace HO_4 : Aside0 (Kd.R k43 43 w52 w.heap.size (fun k_ => some k_ ≠ (v108 : Value).ownBlock ∧ some k_ ≠ (v111 : Value).ownBlock ∧ some k_ ≠ (v114 : Value).ownBlock) (.slice Ao43 x4_1.length co43) x4_1) := ⟨h3_⟩
          replace HO_5 : Aside0 (Kd.R (Kd.int .i64) 3 w52 w.heap.size (fun _ => True) u5 x5_1) := ⟨h4_⟩
          replace BK101 : Aside0 (bk w52 gb101 #[.slice none 0 0, .slice none 0 0, .slice none 0 0] 113) := ⟨h5_⟩
          replace BK106 : Aside0 (bk w52 gb106 #[.int .i64 ((rd_T71 l0 x11_1).f0), .int .i64 ((rd_T71 l0 x11_1).f1), .int .i64 ((rd_T71 l0 x11_1).f2.f0), .int .i64 ((rd_T71 l0 x11_1).f2.f1), .int .i64 ((rd_T71 l0 x11_1).f3.f0), .int .i64 ((rd_T71 l0 x11_1).f3.f1), .int .i64 ((rd_T71 l0 x11_1).f4), .int .i64 ((rd_T71 l0 x11_1).f5)] 71) := ⟨h6_⟩
          replace HB : Aside0 (Below w.heap.size w w52) := ⟨h7_⟩
          clear HO_3 h0_ h1_ h2_ h3_ h4_ h5_ h6_ h7_
          have hHeld : de8 w52 gb106 (.int .i64 ((rd_T71 l0 x11_1).f0)) (.int .i64 ((rd_T71 l0 x11_1).f1)) (.int .i64 ((rd_T71 l0 x11_1).f2.f0)) (.int .i64 ((rd_T71 l0 x11_1).f2.f1)) (.int .i64 ((rd_T71 l0 x11_1).f3.f0)) (.int .i64 ((rd_T71 l0 x11_1).f3.f1)) (.int .i64 ((rd_T71 l0 x11_1).f4)) (.int .i64 ((rd_T71 l0 x11_1).f5)) := hS_
          obtain ⟨Ao54, co54, eo54⟩ := Kd.R_slice HO115.out
          (first | subst eo54 | (injection eo54 with f1_ f2_ f3_; have f4_ := f1_.symm; have f5_ := f3_.symm; clear f1_ f2_ f3_; subst f4_; subst f5_))
          refine norm_ (a' := ?_) ?_ ?_
          rotate_left
          ·simp only [putAll, Act.put, List.setIfInBounds_toArray, List.set_cons_zero, List.set_cons_succ]
           rfl
          refine one_ (i := 9) (N := some 24) (tf 10 2) rfl rfl (one_of HT_.out (by kernel_rfl)) (by decide) (fun K hK => ?_)
          refine Kd.R_append_rows_step k43 (w0 := w) w.heap.size (by rfl) (.tmp 20) (.tmp 23) 89 43 (.agg #[(.int .i64 0), (.int .i64 0)]) 16 rfl Try.underlying89 info43 rfl (by decide) (by omega) (.slice Ao43 x4_1.length co43) x4_1 y113 _ _ _ (fun k_ => some k_ ≠ (v108 : Value).ownBlock ∧ some k_ ≠ (v111 : Value).ownBlock ∧ some k_ ≠ (.slice Ao54 y113.length co54 : Value).ownBlock) (fun _ => False) rfl rfl ?aO ?aR (fun _ _ h => h) (fun _ h => h.elim) ?aF ?aB ?aS ?aL ?_
          (case aR => exact KC (Kd.R_reads' HO115.out).2.2)
          (case aB => exact (K2 HB GE101.out GE106.out))
          (case aF => exact (fun k_ hk => ⟨Kd.fresh' (Kd.R_lt (KR HO109)) k_ hk, Kd.fresh' (Kd.R_lt (KR HO112)) k_ hk, Kd.fresh' (Kd.R_lt (KR HO115)) k_ hk⟩))
          (case aO => exact (KR HO_4))
          (case aS => exact (below_size (K2 HB GE101.out GE106.out)))
          (case aL => have := LMc9.out; omega)
          intro v117 w53 ho hb hg hat
          rw [← Ny116.out] at ho
          replace HO_5 := am (Kd.R_over' (KR HO_5) (Kd.R_typed (KR HO_4)) (by decide) hg)
          replace BK101 := am (blk_grown (g := gb101) (o := .cells #[.slice none 0 0, .slice none 0 0, .slice none 0 0] 113 (0, 0)) (KB BK101) hg (Kd.R_ne HO_4.out BK101.out (by decide)))
          replace BK106 := am (blk_grown (g := gb106) (o := .cells #[.int .i64 ((rd_T71 l0 x11_1).f0), .int .i64 ((rd_T71 l0 x11_1).f1), .int .i64 ((rd_T71 l0 x11_1).f2.f0), .int .i64 ((rd_T71 l0 x11_1).f2.f1), .int .i64 ((rd_T71 l0 x11_1).f3.f0), .int .i64 ((rd_T71 l0 x11_1).f3.f1), .int .i64 ((rd_T71 l0 x11_1).f4), .int .i64 ((rd_T71 l0 x11_1).f5)] 71 (0, 0)) (KB BK106) hg (Kd.R_ne HO_4.out BK106.out (by decide)))
          replace HO109 := am (Kd.R_after (ok := (fun k_ => some k_ ≠ (v111 : Value).ownBlock ∧ some k_ ≠ (.slice Ao54 y113.length co54 : Value).ownBlock)) (by (with_reducible repeat (first | apply Kd.R_alloc | apply Kd.R_drewN | apply Kd.R_drew)); exact Kd.R_mono HO109.out (fun _ hk => ⟨⟨hk.1, hk.2.1⟩, hk.2.2⟩)) hg hat)
          replace HO112 := am (Kd.R_after (ok := (fun k_ => some k_ ≠ (v108 : Value).ownBlock ∧ some k_ ≠ (.slice Ao54 y113.length co54 : Value).ownBlock)) (by (with_reducible repeat (first | apply Kd.R_alloc | apply Kd.R_drewN | apply Kd.R_drew)); exact Kd.R_mono HO112.out (fun _ hk => ⟨⟨hk.1, hk.2.1⟩, hk.2.2⟩)) hg hat)
          replace HO115 := am (Kd.R_after (ok := (fun k_ => some k_ ≠ (v108 : Value).ownBlock ∧ some k_ ≠ (v111 : Value).ownBlock)) (by (with_reducible repeat (first | apply Kd.R_alloc | apply Kd.R_drewN | apply Kd.R_drew)); exact Kd.R_mono HO115.out (fun _ hk => ⟨⟨hk.1, hk.2.1⟩, hk.2.2⟩)) hg hat)
          replace HB := am (hb)
          have HO118 := am (ho)
          clear HO_4
          clear ho hb hg hat
          refine hK.out _ _ ⟨z0 _ BK106.out, z1 _ BK106.out, z2 _ BK106.out, z3 _ BK106.out, z4 _ BK106.out, z5 _ BK106.out, z6 _ BK106.out, z7 _ BK106.out⟩ (fun hHeld => ?_)
          clear hK K
          refine norm_ (a' := ?_) ?_ ?_
          rotate_left
          ·show Act.put _ (some 24) _ = _
           simp only [Act.put, List.setIfInBounds_toArray, List.set_cons_zero, List.set_cons_succ, i64_w, i32_w]
           rfl
          refine pv HT_ 10 3 (tf 11 1) ?_
          refine pv HT_ 11 4 (tf 12 0) ?_
          refine done_ (done_of HT_.out (by kernel_rfl)) ?_
          obtain ⟨hcz55_0, hcz55_1, hcz55_2, hcz55_3, hcz55_4, hcz55_5, hcz55_6, hcz55_7, hfz55_0⟩ := y8 w53 BK106.out
          try go_wp2_with (first | ((with_reducible refine gate_dst (N := 28) rfl ?_); refine Kd.R_lit (Kd.int .i64) _ 3 ?hg (N := 28) ?hd (xs := ([(rd_T71 l0 x11_1).f4] : List Int)) (inner := [.int .i64 ((rd_T71 l0 x11_1).f4)]) (ok := fun _ => True) (okp := fun _ => True) ?hr ?hp (fun _ hk => hk) trivial (Below.refl _ _) (Nat.le_refl _) (by simp) ?_; (case hd => rfl); (case hg => rfl); (case hr => first | (go_simp; done) | (go_simp; rfl)); (case hp => exact (Reps.one (show Kd.M (Kd.int .i64) _ _ _ ((rd_T71 l0 x11_1).f4) [.int .i64 ((rd_T71 l0 x11_1).f4)] from rfl) (Reps.none _ _))); intro v120 w56 ho57 hb hg_ hnew_; clear hg_ hnew_; (first | rw [← Ny119.out] at ho57 | (simp only [Int.reduceToNat] at ho57; rw [← Ny119.out] at ho57)); replace HO109 := am (Kd.R_below (KR HO109) hb); replace HO112 := am (Kd.R_below (KR HO112) hb); replace HO115 := am (Kd.R_below (KR HO115) hb); replace HO118 := am (Kd.R_below (KR HO118) hb); have HO121 := am (Kd.R_lower (Kd.R_new' ho57 (Kd.R_lt (KR HO_5))) (below_size (K2 HB GE101.out GE106.out))); replace HO_5 := am (Kd.R_elder' (KR HO_5) (Kd.R_base ho57) hb); replace BK101 := am (BB BK101 hb); replace BK106 := am (BB BK106 hb); replace HB := am (below_step (K2 HB GE101.out GE106.out) hb); clear hb ho57; obtain ⟨Ao59, co59, eo59⟩ := Kd.R_slice HO121.out; subst eo59) | ((with_reducible refine gate_builtin (b := .append) (xs := #[.tmp 25, .tmp 28]) rfl ?_); at_builtin; refine Kd.R_append_rows (Kd.int .i64) (w0 := w) w.heap.size rfl (.tmp 25) (.tmp 28) 50 3 (.int .i64 0) 8 rfl Try.underlying50 info3 rfl (by decide) (by omega) u5 x5_1 y119 _ _ _ (fun k_ => some k_ ≠ (.slice Ao59 y119.length co59 : Value).ownBlock) (fun _ => False) rfl rfl ?aO ?aR (fun _ _ h => h) (fun _ h => h.elim) ?aF ?aB ?aS ?aL ?_; (case aR => exact KC (Kd.R_reads' HO121.out).2.2); (case aB => exact (K2 HB GE101.out GE106.out)); (case aF => exact (fun k_ hk => Kd.fresh' (Kd.R_lt (KR HO121)) k_ hk)); (case aO => exact (by (with_reducible repeat (first | apply Kd.R_alloc | apply Kd.R_drewN | apply Kd.R_drew)); exact Kd.R_mono HO_5.out (fun _ hk => hk.2))); (case aS => exact (below_size (K2 HB GE101.out GE106.out))); (case aL => have := LMc10.out; omega); intro v123 w58 ho hb hg hat; rw [← Ny122.out] at ho; replace BK101 := am (blk_grown (g := gb101) (o := .cells #[.slice none 0 0, .slice none 0 0, .slice none 0 0] 113 (0, 0)) (KB BK101) hg (Kd.R_ne HO_5.out BK101.out (by decide))); replace BK106 := am (blk_grown (g := gb106) (o := .cells #[.int .i64 ((rd_T71 l0 x11_1).f0), .int .i64 ((rd_T71 l0 x11_1).f1), .int .i64 ((rd_T71 l0 x11_1).f2.f0), .int .i64 ((rd_T71 l0 x11_1).f2.f1), .int .i64 ((rd_T71 l0 x11_1).f3.f0), .int .i64 ((rd_T71 l0 x11_1).f3.f1), .int .i64 ((rd_T71 l0 x11_1).f4), .int .i64 ((rd_T71 l0 x11_1).f5)] 71 (0, 0)) (KB BK106) hg (Kd.R_ne HO_5.out BK106.out (by decide))); replace HO109 := am (Kd.R_over' (KR HO109) (Kd.R_typed (KR HO_5)) (by decide) hg); replace HO112 := am (Kd.R_over' (KR HO112) (Kd.R_typed (KR HO_5)) (by decide) hg); replace HO115 := am (Kd.R_over' (KR HO115) (Kd.R_typed (KR HO_5)) (by decide) hg); replace HO118 := am (Kd.R_over' (KR HO118) (Kd.R_typed (KR HO_5)) (by decide) hg); replace HO121 := am (Kd.R_after (ok := (fun _ => True)) (KR HO121) hg hat); replace HB := am (hb); have HO124 := am (ho); clear HO_5; clear ho hb hg hat; obtain ⟨hcz60_0, hcz60_1, hcz60_2, hcz60_3, hcz60_4, hcz60_5, hcz60_6, hcz60_7, hfz60_0⟩ := y8 w58 BK106.out))
          go_roundg k1
          case measure => have := HK1.out; omega
          case rel => exact ⟨(y110), (y116), (y122), (wrap64 (x11_1 + 1)), (by first | rfl | (simp; done) | (simp [*]; done)), H', ⟨by have := HK1.out; omega⟩, ⟨by (with_reducible repeat (first | apply Kd.R_alloc | apply Kd.R_drewN | apply Kd.R_drew)); exact Kd.R_mono HO112.out (fun _ hk => hk.2)⟩, ⟨by (with_reducible repeat (first | apply Kd.R_alloc | apply Kd.R_drewN | apply Kd.R_drew)); exact Kd.R_mono HO118.out (fun _ hk => hk.2.1)⟩, ⟨by (with_reducible repeat (first | apply Kd.R_alloc | apply Kd.R_drewN | apply Kd.R_drew)); exact Kd.R_mono HO124.out (fun _ hk => trivial)⟩, ⟨KB BK101⟩, ⟨K2 HB GE101.out GE106.out⟩⟩
        ·rw [if_neg c10] at H
         exact absurd H (by simp)
       ·rw [if_neg c9] at H
        exact absurd H (by simp)
      ·rw [if_neg c8] at H
       exact absurd H (by simp)
     ·rw [if_neg c7] at H
      exact absurd H (by simp)
    ·rw [if_neg c6] at H
     exact absurd H (by simp)
   ·rw [if_neg c5] at H
    have c5b0 : decide (x11_1 < (l0.length : Int)) = false := decide_eq_false c5
    clear c5
    replace H := Option.bind_eq_some_iff.mp H
    obtain ⟨t131, A610, H⟩ := H
    replace H : ((impl_bounds.f k1 x3_1).bind fun t132 => ((impl_bounds.f k1 x4_1).bind fun t135 => ((slices_Compact_int.f t131).bind fun t138 => (some (t132, t135, t138))))) = some (r1, r2, r3) := H
    have A61 := Aside0.mk A610
    clear A610
    replace H := Option.bind_eq_some_iff.mp H
    obtain ⟨t132, A620, H⟩ := H
    replace H : ((impl_bounds.f k1 x4_1).bind fun t135 => ((slices_Compact_int.f t131).bind fun t138 => (some (t132, t135, t138)))) = some (r1, r2, r3) := H
    have A62 := Aside0.mk A620
    clear A620
    replace H := Option.bind_eq_some_iff.mp H
    obtain ⟨t135, A630, H⟩ := H
    replace H : ((slices_Compact_int.f t131).bind fun t138 => (some (t132, t135, t138))) = some (r1, r2, r3) := H
    have A63 := Aside0.mk A630
    clear A630
    replace H := Option.bind_eq_some_iff.mp H
    obtain ⟨t138, A640, H⟩ := H
    replace H : (some (t132, t135, t138)) = some (r1, r2, r3) := H
    have A64 := Aside0.mk A640
    clear A640
    simp only [Option.some.injEq, Prod.mk.injEq] at H
    obtain ⟨rfl, rfl, rfl⟩ := H
    obtain ⟨Ao65, co65, eo65⟩ := Kd.R_slice HO_5.out
    subst eo65
    go_wp2_with (first | ((with_reducible refine gate_callee (f := 111) rfl ?_); refine goesL_ (some 41) rfl rfl Try.func111 (by kernel_rfl) rfl #[.slice Ao65 x5_1.length co65] rfl MT ?_; (with_reducible refine (slices_Sort_int.calls (fun k_ => some k_ = (.slice Ao65 x5_1.length co65 : Value).ownBlock) (.slice Ao65 x5_1.length co65) x5_1 t131 w _ ?side1 ?side2 A61.out).mono ?_); (case side1 => exact K1 HB GE101.out); (case side2 => exact Kd.R_tight rfl HO_5.out); rintro e w66 ⟨rfl, hy0, hb, hkp⟩; refine ⟨_, rfl, ?_⟩; replace HO_3 := am (Kd.R_mono (ok' := fun k_ => some k_ ≠ (u4 : Value).ownBlock) (Kd.R_keptB ((Kd.R_apart' HO_3.out (Kd.R_typed HO_5.out) (by decide))) hkp (fun k_ hk_ hs_ => (hk_.2) hs_)) (fun k_ hk_ => hk_.1.1)); replace HO_4 := am (Kd.R_mono (ok' := fun k_ => some k_ ≠ (u3 : Value).ownBlock) (Kd.R_keptB ((Kd.R_apart' HO_4.out (Kd.R_typed HO_5.out) (by decide))) hkp (fun k_ hk_ hs_ => (hk_.2) hs_)) (fun k_ hk_ => hk_.1.1)); replace BK101 := am (blk_kept (KB BK101) hkp (fun hs_ => (fun e_ => (Kd.R_ne HO_5.out BK101.out (by decide)) e_) hs_)); replace HO_5 := am (Kd.R_reok rfl hy0 (fun k_ e_ => HO_5.out.1 k_ e_)); replace HB := am (hb); (try clear hb); (try clear hkp); (try clear hy0); obtain ⟨Ao67, co67, eo67⟩ := Kd.R_slice HO_3.out; subst eo67) | ((with_reducible refine gate_callee (f := 63) rfl ?_); refine goesL_ (some 43) rfl rfl Try.func63 (by kernel_rfl) rfl #[.slice Ao67 x3_1.length co67] rfl MT ?_; (with_reducible refine (impl_bounds.calls k1 _ _ x3_1 t132 _ ?side1 ?side2 A62.out).mono ?_); (case side1 => exact KC (Kd.R_reads' HO_3.out).2.2); (case side2 => exact (Kd.R_reads' HO_3.out).2.1); rintro e w68 ⟨v133, rfl, ho0, hb⟩; refine ⟨_, rfl, ?_⟩; replace HO_3 := am (Kd.R_below (KR HO_3) hb); replace HO_4 := am (Kd.R_below (KR HO_4) hb); have HO134 := am (Kd.R_lower (Kd.R_new' ho0 (Kd.R_lt (KR HO_5))) (below_size (K1 HB GE101.out))); replace HO_5 := am (Kd.R_elder' (KR HO_5) (Kd.R_base ho0) hb); replace BK101 := am (BB BK101 hb); replace HB := am (below_step (K1 HB GE101.out) hb); (try clear hb); (try clear ho0); obtain ⟨Ao69, co69, eo69⟩ := Kd.R_slice HO_4.out; subst eo69) | ((with_reducible refine gate_callee (f := 63) rfl ?_); refine goesL_ (some 45) rfl rfl Try.func63 (by kernel_rfl) rfl #[.slice Ao69 x4_1.length co69] rfl MT ?_; (with_reducible refine (impl_bounds.calls k1 _ _ x4_1 t135 _ ?side1 ?side2 A63.out).mono ?_); (case side1 => exact KC (Kd.R_reads' HO_4.out).2.2); (case side2 => exact (Kd.R_reads' HO_4.out).2.1); rintro e w70 ⟨v136, rfl, ho0, hb⟩; refine ⟨_, rfl, ?_⟩; replace HO_3 := am (Kd.R_below (KR HO_3) hb); replace HO_4 := am (Kd.R_below (KR HO_4) hb); have HO137 := am (Kd.R_lower (Kd.R_new' (Kd.R_new' ho0 (Kd.R_lt (KR HO_5))) (Kd.R_lt (KR HO134))) (below_size (K1 HB GE101.out))); replace HO_5 := am (Kd.R_elder' (KR HO_5) (Kd.R_base ho0) hb); replace HO134 := am (Kd.R_elder' (KR HO134) (Kd.R_base ho0) hb); replace BK101 := am (BB BK101 hb); replace HB := am (below_step (K1 HB GE101.out) hb); (try clear hb); (try clear ho0)) | ((with_reducible refine gate_callee (f := 112) rfl ?_); refine goesL_ (some 47) rfl rfl Try.func112 (by kernel_rfl) rfl #[.slice Ao65 x5_1.length co65] rfl MT ?_; (with_reducible refine (slices_Compact_int.calls (fun k_ => some k_ = (.slice Ao65 x5_1.length co65 : Value).ownBlock) (.slice Ao65 x5_1.length co65) t131 t138 w _ ?side1 ?side2 A64.out).mono ?_); (case side1 => exact K1 HB GE101.out); (case side2 => exact Kd.R_tight rfl HO_5.out); rintro e w71 ⟨v139, rfl, ho0, hb, hkp⟩; refine ⟨_, rfl, ?_⟩; replace HO_3 := am (Kd.R_mono (ok' := fun k_ => some k_ ≠ (.slice Ao69 x4_1.length co69 : Value).ownBlock) (Kd.R_keptB ((Kd.R_apart' HO_3.out (Kd.R_typed HO_5.out) (by decide))) hkp (fun k_ hk_ hs_ => (hk_.2) hs_)) (fun k_ hk_ => hk_.1.1)); replace HO_4 := am (Kd.R_mono (ok' := fun k_ => some k_ ≠ (.slice Ao67 x3_1.length co67 : Value).ownBlock) (Kd.R_keptB ((Kd.R_apart' HO_4.out (Kd.R_typed HO_5.out) (by decide))) hkp (fun k_ hk_ hs_ => (hk_.2) hs_)) (fun k_ hk_ => hk_.1.1)); replace BK101 := am (blk_kept (KB BK101) hkp (fun hs_ => (fun e_ => (Kd.R_ne HO_5.out BK101.out (by decide)) e_) hs_)); have HO140 := am (Kd.R_mono (ok' := fun k_ => some k_ ≠ (v133 : Value).ownBlock ∧ some k_ ≠ (v136 : Value).ownBlock) ho0 (fun k_ hk_ => ⟨Or.elim hk_ (fun hs_ => fun e_ => (((HO134.out).1 k_ e_.symm).1.2) hs_) (fun hn_ => (Kd.fresh' (Kd.R_lt (KR HO134)) k_ hn_)), Or.elim hk_ (fun hs_ => fun e_ => (((HO137.out).1 k_ e_.symm).1.2) hs_) (fun hn_ => (Kd.fresh' (Kd.R_lt (KR HO137)) k_ hn_))⟩)); replace HO134 := am (Kd.R_mono (ok' := fun k_ => some k_ ≠ (v136 : Value).ownBlock ∧ some k_ ≠ (v139 : Value).ownBlock) (Kd.R_keptB (HO134.out) hkp (fun k_ hk_ hs_ => (hk_.1.2) hs_)) (fun k_ hk_ => ⟨hk_.1.2, fun e_ => Or.elim (ho0.1 k_ e_.symm) (fun hs_ => hk_.2.1 hs_) (fun hn_ => Nat.not_le.2 hk_.2.2 hn_)⟩)); replace HO137 := am (Kd.R_mono (ok' := fun k_ => some k_ ≠ (v133 : Value).ownBlock ∧ some k_ ≠ (v139 : Value).ownBlock) (Kd.R_keptB (HO137.out) hkp (fun k_ hk_ hs_ => (hk_.1.2) hs_)) (fun k_ hk_ => ⟨hk_.1.2, fun e_ => Or.elim (ho0.1 k_ e_.symm) (fun hs_ => hk_.2.1 hs_) (fun hn_ => Nat.not_le.2 hk_.2.2 hn_)⟩)); replace HB := am (hb); clear HO_5; (try clear hb); (try clear hkp); (try clear ho0); obtain ⟨Ao72, co72, eo72⟩ := Kd.R_slice HO140.out; subst eo72; obtain ⟨Ao73, co73, eo73⟩ := Kd.R_slice HO137.out; subst eo73; obtain ⟨Ao74, co74, eo74⟩ := Kd.R_slice HO134.out; subst eo74; obtain ⟨hcz75_0, hcz75_1, hcz75_2, hfz75_0⟩ := y3 w71 BK101.out))
    refine bodyPost_ret (results_cell_row rfl _ _ gb101 113 #[.slice Ao74 t132.length co74, .slice Ao73 t135.length co73, .slice Ao72 t138.length co72] (0, 0) _ rfl (by (with_reducible repeat (first | refine blk_drewN ?_ _ | refine blk_drew ?_ | refine blk_alloc ?_ _)); refine blk_put (cs := #[.slice Ao74 t132.length co74, .slice Ao73 t135.length co73, .slice none 0 0]) ?_ 2 _ rfl; (with_reducible repeat (first | refine blk_drewN ?_ _ | refine blk_drew ?_ | refine blk_alloc ?_ _)); refine blk_put (cs := #[.slice Ao74 t132.length co74, .slice none 0 0, .slice none 0 0]) ?_ 1 _ rfl; (with_reducible repeat (first | refine blk_drewN ?_ _ | refine blk_drew ?_ | refine blk_alloc ?_ _)); refine blk_put (cs := #[.slice none 0 0, .slice none 0 0, .slice none 0 0]) ?_ 0 _ rfl; (with_reducible repeat (first | refine blk_drewN ?_ _ | refine blk_drew ?_ | refine blk_alloc ?_ _)); exact BK101.out) Try.underlying113 rfl (by kernel_rfl)) rfl ?_
    exact ⟨_, _, _, ER, by (with_reducible repeat (first | apply Kd.R_alloc | apply Kd.R_drewN | apply Kd.R_drew)); exact Kd.R_mono (Kd.R_far (p := ⟨gb101, 2, none⟩) (Kd.R_far (p := ⟨gb101, 1, none⟩) (Kd.R_far (p := ⟨gb101, 0, none⟩) (Kd.R_types HO134.out BK101.out (by decide)) (fun _ hk => hk.2) (.slice Ao74 t132.length co74)) (fun _ hk => hk.2) (.slice Ao73 t135.length co73)) (fun _ hk => hk.2) (.slice Ao72 t138.length co72)) (fun _ hk => ⟨hk.1.1, hk.1.2⟩), by (with_reducible repeat (first | apply Kd.R_alloc | apply Kd.R_drewN | apply Kd.R_drew)); exact Kd.R_mono (Kd.R_far (p := ⟨gb101, 2, none⟩) (Kd.R_far (p := ⟨gb101, 1, none⟩) (Kd.R_far (p := ⟨gb101, 0, none⟩) (Kd.R_types HO137.out BK101.out (by decide)) (fun _ hk => hk.2) (.slice Ao74 t132.length co74)) (fun _ hk => hk.2) (.slice Ao73 t135.length co73)) (fun _ hk => hk.2) (.slice Ao72 t138.length co72)) (fun _ hk => ⟨hk.1.1, hk.1.2⟩), by (with_reducible repeat (first | apply Kd.R_alloc | apply Kd.R_drewN | apply Kd.R_drew)); exact Kd.R_mono (Kd.R_far (p := ⟨gb101, 2, none⟩) (Kd.R_far (p := ⟨gb101, 1, none⟩) (Kd.R_far (p := ⟨gb101, 0, none⟩) (Kd.R_types HO140.out BK101.out (by decide)) (fun _ hk => hk.2) (.slice Ao74 t132.length co74)) (fun _ hk => hk.2) (.slice Ao73 t135.length co73)) (fun _ hk => hk.2) (.slice Ao72 t138.length co72)) (fun _ hk => ⟨hk.1.1, hk.1.2⟩), K1 HB GE101.out⟩
end Go.Proofs.Ytkgbgaojglcaoaa.PAll
end
