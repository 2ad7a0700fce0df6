/- Contracts of the functions that the statement reaches, printed by a program out of the translation and joined with the plain laws. -/
import Derived.Shelf.RegionOpenPlain
import Derived.Shelf.Abstract
import Derived.WalkKit
import Derived.Deep.LoopGhost
import Derived.Deep.RegionLaw
import Derived.Lib.Walk
import Derived.Lib.SliceRun
import Derived.Laws.IdiomCopy
import Derived.Lib.LazyBuf
import Derived.Shelf.Spec.SlicesInsertGrow
import Derived.Test.YtlpmmmhfceeiaaaCFnWindowSee3
import Derived.Test.YtlpmmmhfceeiaaaCFnWindowSee4
import Derived.Test.YtlpmmmhfceeiaaaCFnWindowSee5
import Derived.Test.YtlpmmmhfceeiaaaCFnWindowSee6
import Derived.Test.YtlpmmmhfceeiaaaCFnWindowSee7
section
namespace Go.Proofs.Ytlpmmmhfceeiaaa.PAll
open Go.RowKit Go.Proofs.YtlpmmmhfceeiaaaW.PrintWords Go.Proofs.YtlpmmmhfceeiaaaW.PrintLast Go.Proofs.YtlpmmmhfceeiaaaW.PrintMore
attribute [local go_sem] max2_int min2_int max_two min_two max_three min_three max_four min_four   -- for this text's walks alone
set_option linter.unusedVariables false
set_option linter.unusedSimpArgs false
def findI (p : Int → Bool) : List Int → Int → Int
 | [], _ => -1
 | x :: xs, i => if p x = true then i else findI p xs (i + 1)
set_option maxHeartbeats 4000000 in
set_option maxRecDepth 100000 in
theorem wins.one (top : Int) (B : Nat) (W : World) (x : Int) (hB : W.heap[B]? = some (.cells #[.int .i64 top] 3 (0, 0))) :
  Calls Try.prog 54 #[.int .i64 x, .pointer (some ⟨B, 0, none⟩)] W fun e w' => e = .returned (.bool (decide (x ≤ wrap64 (top - 16)))) ∧ w' = W := by
 have hc0 : W.cell? ⟨B, 0, none⟩ = some (.int .i64 top) := (blk_cell hB 0).trans rfl
 clear hB
 go_enter Try.func54, Try.ntmps54
 go_wp2
 go_ret
 exact ⟨rfl, rfl⟩
set_option maxHeartbeats 4000000 in
set_option maxRecDepth 100000 in
theorem idx.gen (p : Int → Bool) (g0 : Nat) (lb : Array Value) (eg : ∀ args w, (callFunc g0 args).run Try.prog w = .ok (.enter g0 args) w) (g c : Nat) (l : List Int) (w : World) (hm : l.length ≤ 9223372036854775807)
  (hc : ∀ k (h : k < l.length), w.cell? ⟨g, k, none⟩ = some (.int .i64 l[k])) (hp : ∀ x, Calls Try.prog g0 (#[.int .i64 x] ++ lb) w fun e w' => e = .returned (.bool (p x)) ∧ w' = w) :
  Calls Try.prog 97 #[.slice (some ⟨g, 0, none⟩) l.length c, .func (.func g0) #[] lb] w fun e w' => e = .returned (.int .i64 (findI p l 0)) ∧ w' = w := by
 have hu := Try.underlying22
 have HM := Aside0.mk hm
 have HC := Aside0.mk hc
 have HP := Aside0.mk hp
 clear hm hc hp
 go_enter Try.func97, Try.ntmps97
 go_wp2
 go_loopg [5, 8] l.length (fun gg _ s8 wr => ∃ kk : Nat, kk ≤ l.length ∧ Aside0 (l.length - kk ≤ gg) ∧ s8 = .int .i64 kk ∧ wr = w ∧ Aside0 (findI p (l.drop kk) kk = findI p l 0))
 case atStart => exact ⟨0, Nat.zero_le _, ⟨by omega⟩, rfl, rfl, ⟨rfl⟩⟩
 case round =>
  obtain ⟨kk, hkk, hg, rfl, rfl, A0⟩ := hrel
  have hml := HM.out
  by_cases hlt : kk < l.length
  ·have hltz : (kk : Int) < (l.length : Int) := by omega
   have hcell := HC.out kk hlt
   have A1 := A0.out
   rw [List.drop_eq_getElem_cons hlt] at A1
   clear A0
   generalize l[kk] = y at hcell A1
   have hcall := HP.out y
   simp only [findI] at A1
   have A2 := Aside0.mk A1
   clear A1
   rcases hb : p y with _ | _
   ·rw [hb] at hcall
    go_wp2_with (go_at_fn g0; refine hcall.mono ?_; rintro e w' ⟨rfl, rfl⟩)
    go_roundg (l.length - (kk + 1))
    case measure => have := hg.out; omega
    case rel => exact ⟨kk + 1, by omega, ⟨by omega⟩, by go_num, rfl, ⟨by have A1 := A2.out; simp only [hb, Bool.false_eq_true, if_false] at A1; exact A1⟩⟩
   ·rw [hb] at hcall
    go_wp2_with (go_at_fn g0; refine hcall.mono ?_; rintro e w' ⟨rfl, rfl⟩)
    go_ret
    have A1 := A2.out
    simp only [hb, if_true] at A1
    exact ⟨by rw [← A1]; rfl, rfl⟩
  ·have hltz : ¬ (kk : Int) < (l.length : Int) := by omega
   have : kk = l.length := by omega
   have A1 := A0.out
   rw [this, List.drop_length] at A1
   have A2 := Aside0.mk A1
   clear A0 A1
   go_wp2
   go_ret
   have A1 := A2.out
   simp only [findI] at A1
   exact ⟨by rw [← A1]; rfl, rfl⟩
theorem findI_spec (p : Int → Bool) : ∀ (l : List Int) (i : Nat), (findI p l i = -1 ∧ l.filter (fun x => !p x) = l) ∨ ∃ k, findI p l i = ((i + k : Nat) : Int) ∧ k < l.length ∧ (l.take (k + 1)).filter (fun x => !p x) = l.take k
 | [], i => .inl ⟨rfl, rfl⟩
 | x :: xs, i => by
  cases hp : p x with
  | true => exact .inr ⟨0, by simp [findI, hp], by simp, by simp [hp]⟩
  | false =>
   rcases findI_spec p xs (i + 1) with ⟨h1, h2⟩ | ⟨k, h1, h2, h3⟩
   ·refine .inl ⟨by simp only [findI, hp, Bool.false_eq_true, if_false]; exact h1, by simp [hp, h2]⟩
   ·refine .inr ⟨k + 1, ?_, by simpa using h2, ?_⟩
    ·simp only [findI, hp, Bool.false_eq_true, if_false]; rw [show ((i : Int) + 1) = ((i + 1 : Nat) : Int) by omega, h1]; congr 1; omega
    ·rw [List.take_succ_cons, List.filter_cons_of_pos (by simp [hp]), h3, List.take_succ_cons]
theorem delf.set_take : ∀ (row : List Int) (i : Nat) (y : Int), i < row.length → (row.set i y).take (i + 1) = row.take i ++ [y]
 | [], i, y, h => by simp at h
 | x :: r, 0, y, h => by simp
 | x :: r, i + 1, y, h => by simp only [List.set_cons_succ, List.take_succ_cons, List.cons_append]; rw [delf.set_take r i y (by simpa using h)]
theorem delf.cell {w : World} {g : Nat} {cur : Array Value} {row : List Int} (h : w.heap[g]? = some (.cells cur 3 (0, 0))) (ht : cur.toList.take row.length = row.map (Value.int .i64)) (k : Nat) (hk : k < row.length) : w.cell? ⟨g, k, none⟩ = some (.int .i64 row[k]) := by
 rw [blk_cell h k, ← Array.getElem?_toList, ← List.getElem?_take_of_lt hk, ht, List.getElem?_map, List.getElem?_eq_getElem hk]; rfl
set_option maxHeartbeats 4000000 in
set_option maxRecDepth 100000 in
theorem delf.walk (top : Int) (B g c : Nat) (l : List Int) (cur : Array Value) (w : World) (hg : w.heap[g]? = some (.cells cur 3 (0, 0))) (hB : w.heap[B]? = some (.cells #[.int .i64 top] 3 (0, 0))) (hne : B ≠ g) (hn : l.length ≤ c) (hm : c ≤ 9223372036854775807) (hs : cur.size = c)
  (ht : cur.toList.take l.length = l.map (Value.int .i64)) :
  Calls Try.prog 53 #[.slice (some ⟨g, 0, none⟩) l.length c, .func (.func 54) #[] #[.pointer (some ⟨B, 0, none⟩)]] w fun e w' => e = .returned (.slice (some ⟨g, 0, none⟩) (l.filter (fun x => !decide (x ≤ wrap64 (top - 16)))).length c) ∧
   (∃ cur', w'.heap[g]? = some (.cells cur' 3 (0, 0)) ∧ cur'.size = c ∧ cur'.toList.take (l.filter (fun x => !decide (x ≤ wrap64 (top - 16)))).length = (l.filter (fun x => !decide (x ≤ wrap64 (top - 16)))).map (Value.int .i64)) ∧
   (∀ k, k ≠ g → w'.heap[k]? = w.heap[k]?) ∧ w'.heap.size = w.heap.size ∧ w'.os = w.os ∧ w'.tape = w.tape ∧ w'.output = w.output := by
 have eg := enters_of Try.func54 (by kernel_rfl) rfl
 have hi := idx.gen (fun x => decide (x ≤ wrap64 (top - 16))) 54 #[.pointer (some ⟨B, 0, none⟩)] eg g c l w (by omega) (delf.cell hg ht) (fun x => wins.one top B w x hB)
 generalize hp : (fun x : Int => decide (x ≤ wrap64 (top - 16))) = p at hi
 have hfp : (fun x : Int => !decide (x ≤ wrap64 (top - 16))) = (fun x => !p x) := by rw [← hp]
 rw [hfp]
 have hone : ∀ (W : World) (x : Int), W.heap[B]? = some (.cells #[.int .i64 top] 3 (0, 0)) → Calls Try.prog 54 #[.int .i64 x, .pointer (some ⟨B, 0, none⟩)] W fun e w' => e = .returned (.bool (p x)) ∧ w' = W := fun W x h => by rw [← hp]; exact wins.one top B W x h
 rcases findI_spec p l 0 with ⟨h1, h2⟩ | ⟨i0, h1, h2, h3⟩
 ·have h1' : findI p l 0 = -1 := h1
  rw [h1'] at hi
  rw [h2]
  have R := am (show (∃ cur', w.heap[g]? = some (.cells cur' 3 (0, 0)) ∧ cur'.size = c ∧ cur'.toList.take l.length = l.map (Value.int .i64)) from ⟨cur, hg, hs, ht⟩)
  clear hg hB hs ht
  go_enter Try.func53, Try.ntmps53
  go_wp2_with (go_at_call 97; refine hi.mono ?_; rintro e w' ⟨rfl, rfl⟩)
  go_ret
  exact ⟨rfl, R.out, fun _ _ => rfl, rfl, rfl, rfl, rfl⟩
 ·have h1' : findI p l 0 = ((0 + i0 : Nat) : Int) := h1
  rw [h1', Nat.zero_add] at hi
  have hni : ¬ ((i0 : Int) = -1) := by omega
  have hw1 : wrap64 ((i0 : Int) + 1) = ((i0 + 1 : Nat) : Int) := by unfold wrap64; omega
  have H0 := Aside0.mk hg
  have HB0 := Aside0.mk hB
  have HS := Aside0.mk hs
  have HT := Aside0.mk ht
  have HP := Aside0.mk hone
  have H3 := Aside0.mk h3
  clear hg hB hs ht hone h3 hp hfp h1 h1'
  go_enter Try.func53, Try.ntmps53
  go_wp2_with (go_at_call 97; refine hi.mono ?_; rintro e w' ⟨rfl, hw'⟩; obtain rfl := hw'.symm; clear hw')
  go_loopg [5, 6] l.length (fun gg v5 v6 wr => ∃ (i j : Nat) (cur1 : Array Value) (row : List Int), i < j ∧ j ≤ l.length ∧ Aside0 (l.length - j ≤ gg) ∧ v5 = .int .i64 i ∧ v6 = .int .i64 j ∧ Aside0 (wr.heap[g]? = some (.cells cur1 3 (0, 0))) ∧ Aside0 (cur1.size = c) ∧ row.length = l.length ∧
   Aside0 (cur1.toList.take row.length = row.map (Value.int .i64)) ∧ Aside0 (row.take i = (l.take j).filter (fun x => !p x)) ∧ Aside0 (row.drop j = l.drop j) ∧ Aside0 (wr.heap[B]? = some (.cells #[.int .i64 top] 3 (0, 0))) ∧ Aside0 ((∀ k, k ≠ g → wr.heap[k]? = w.heap[k]?) ∧ wr.heap.size = w.heap.size ∧ wr.os = w.os ∧ wr.tape = w.tape ∧ wr.output = w.output))
  case atStart => exact ⟨i0, i0 + 1, cur, l, by omega, by omega, ⟨by omega⟩, rfl, by go_num, H0, HS, rfl, HT, ⟨H3.out.symm⟩, ⟨rfl⟩, HB0, ⟨fun _ _ => rfl, rfl, rfl, rfl, rfl⟩⟩
  case round =>
   clear H0 HS HT H3 HB0 hi hw1 hni h2
   obtain ⟨i, j, cur1, row, hij, hj, hg, rfl, rfl, G1, S1, hrl, T1, F1, D1, B1, K1⟩ := hrel
   by_cases hlt : j < l.length
   ·have hltz : (j : Int) < (l.length : Int) := by omega
    have hjr : j < row.length := by omega
    have hcell := delf.cell G1.out T1.out j hjr
    have hv : row[j] = l[j] := by
     have h := congrArg (fun z => z[0]?) D1.out
     simp only [List.getElem?_drop, Nat.add_zero, List.getElem?_eq_getElem hjr, List.getElem?_eq_getElem hlt, Option.some.injEq] at h
     exact h
    have hcall := HP.out _ row[j] B1.out
    have F2 : (l.take (j + 1)).filter (fun x => !p x) = row.take i ++ (if p row[j] then [] else [row[j]]) := by
     rw [List.take_add_one, List.getElem?_eq_getElem hlt, List.filter_append, ← F1.out, ← hv]
     generalize row[j] = q
     cases hq : p q <;> simp [hq]
    have D2 : row.drop (j + 1) = l.drop (j + 1) := by
     rw [← List.tail_drop, D1.out, List.tail_drop]
    generalize row[j] = y at hcell hcall F2
    have F2' := Aside0.mk F2
    have D2' := Aside0.mk D2
    clear F2 D2 hv F1 D1
    cases hpy : p y with
    | true =>
     rw [hpy] at hcall
     go_wp2_with (go_at_fn 54)
     refine hcall.mono ?_
     rintro e w' ⟨rfl, rfl⟩
     go_wp2
     go_roundg (l.length - (j + 1))
     case measure => have := hg.out; omega
     case rel => exact ⟨i, j + 1, cur1, row, by omega, by omega, ⟨by omega⟩, rfl, by go_num, G1, S1, hrl, T1, ⟨by rw [F2'.out, hpy]; simp⟩, D2', B1, K1⟩
    | false =>
     rw [hpy] at hcall
     have hir : i < row.length := by omega
     have hi0 : (0 : Int) ≤ (i : Int) := by omega
     have hin : (i : Int) < (l.length : Int) := by omega
     have hcw := delf.cell G1.out T1.out i hir
     have hfr := blk_frozen G1.out i
     generalize row[i] = z at hcw
     go_wp2_with (go_at_fn 54)
     refine hcall.mono ?_
     rintro e w' ⟨rfl, rfl⟩
     go_wp2
     go_roundg (l.length - (j + 1))
     case measure => have := hg.out; omega
     case rel =>
      refine ⟨i + 1, j + 1, cur1.setIfInBounds i (.int .i64 y), row.set i y, by omega, by omega, ⟨by omega⟩, by go_num, by go_num, ⟨blk_set G1.out i _⟩, ⟨by rw [Array.size_setIfInBounds]; exact S1.out⟩, by rw [List.length_set]; exact hrl, ⟨?_⟩, ⟨?_⟩, ⟨?_⟩, ⟨blk_far B1.out (p := ⟨g, i, none⟩) hne _⟩, ⟨?_, ?_⟩⟩
      ·rw [Array.toList_setIfInBounds, List.length_set, List.take_set, T1.out, List.map_set]
      ·rw [F2'.out, hpy, delf.set_take row i y hir]; rfl
      ·rw [List.drop_set_of_lt (by omega)]; exact D2'.out
      ·exact fun k hk => (Below.heap_setCell _ ⟨g, i, none⟩ _ k hk).trans (K1.out.1 k hk)
      ·obtain ⟨_, h2, h3, h4, h5⟩ := K1.out
       exact ⟨by simpa [World.setCell] using h2, h3, h4, h5⟩
   ·have hltz : ¬ (j : Int) < (l.length : Int) := by omega
    have hjl : j = l.length := by omega
    have hil : i < l.length := by omega
    have hzl : (Builtin.zeroCells (Value.int .i64 0).cells (l.length - i)).toList.length = l.length - i := (zeroCells_len _ _).trans (Nat.mul_one _)
    have hcl : ∀ ty, (Builtin.clear_ #[22] ty #[.slice (some ⟨g, i, none⟩) (l.length - i) (c - i)]).run Try.prog wr = .ok (.tuple #[]) (wr.setCells g i (Builtin.zeroCells (Value.int .i64 0).cells (l.length - i)).toList) := fun ty =>
     clear_cells wr 22 3 ty (.int .i64 0) Try.underlying22 Try.zeroValue3 g i (l.length - i) _ (by omega) (zeroCells_one _ _ (by decide)) (fun t ht => blk_some G1.out _ (by rw [hzl] at ht; rw [S1.out]; omega)) (fun t ht => blk_frozen G1.out _)
    have FF : l.filter (fun x => !p x) = row.take i := by rw [F1.out, hjl, List.take_length]
    have FF2 := Aside0.mk FF
    have hci : ¬ c = i := by omega
    have hic : i ≤ c := by omega
    have hiz : (0 : Int) ≤ (i : Int) := by omega
    have hizn : (i : Int) ≤ (l.length : Int) := by omega
    clear FF F1
    go_wp2
    go_ret
    have hrt : (row.take i).length = i := by rw [List.length_take]; omega
    rw [FF2.out, hrt]
    obtain ⟨cur2, hc2, hs2, ht2⟩ := setCells_row (Builtin.zeroCells (Value.int .i64 0).cells (l.length - i)).toList i _ cur1 G1.out (by rw [hzl, S1.out]; omega)
    obtain ⟨k1, k2, k3, k4, k5⟩ := K1.out
    obtain ⟨s1, s2, s3, s4⟩ := setCells_same g (Builtin.zeroCells (Value.int .i64 0).cells (l.length - i)).toList i wr
    refine ⟨rfl, ⟨cur2, hc2, by rw [hs2]; exact S1.out, ?_⟩, fun k hk => (setCells_far _ _ k hk).trans (k1 k hk), s4.trans k2, s1.trans k3, s2.trans k4, s3.trans k5⟩
    have hl1 : (cur1.toList.take i).length = i := by rw [List.length_take, Array.length_toList, S1.out]; omega
    rw [ht2, List.append_assoc, List.take_left' hl1, List.map_take, ← T1.out, List.take_take, Nat.min_eq_left (by omega)]
theorem reps_ints {l : List Int} {cs : List Value} {w : World} {b : Nat} {ok : Nat → Prop} (h : Reps ((Kd.int .i64).M w b ok) 1 l cs) : cs = l.map (Value.int .i64) := by
 have hl := h.1
 refine List.ext_getElem? fun k => ?_
 by_cases hk : k < l.length
 ·have h2 : (cs.drop (k * 1)).take 1 = [Value.int .i64 l[k]] := h.2 k _ (List.getElem?_eq_getElem hk)
  have h3 := congrArg (fun z => z[0]?) h2
  simp only [List.getElem?_take_of_lt (Nat.lt_succ_self 0), List.getElem?_drop, Nat.mul_one, Nat.add_zero] at h3
  rw [h3, List.getElem?_map, List.getElem?_eq_getElem hk]; rfl
 ·rw [List.getElem?_eq_none (by omega), List.getElem?_eq_none (by rw [List.length_map]; omega)]
theorem ints_reps (l : List Int) (w : World) (b : Nat) (ok : Nat → Prop) : Reps ((Kd.int .i64).M w b ok) 1 l (l.map (Value.int .i64)) := by
 refine ⟨by simp, fun k x hx => ?_⟩
 show ((l.map (Value.int .i64)).drop (k * 1)).take 1 = [Value.int .i64 x]
 refine List.ext_getElem? fun q => ?_
 rcases q with _ | q
 ·rw [List.getElem?_take_of_lt (Nat.lt_succ_self 0), List.getElem?_drop, Nat.mul_one, Nat.add_zero, List.getElem?_map, hx]; rfl
 ·rw [List.getElem?_eq_none (by rw [List.length_take]; omega), List.getElem?_eq_none (by simp)]
def slices_DeleteFunc_int.f (l0 : List Int) (a1_0 : Int) : Option (List Int) := if 0 < (l0.length : Int) then some (l0.filter (fun x => !decide (x ≤ wrap64 (a1_0 - 16)))) else none
set_option maxHeartbeats 4000000 in
theorem slices_DeleteFunc_int.calls (P0_ : Nat → Prop) (u9000_ : Value) (l0 : List Int) (a1_0 : Int) (B : Nat) (r : List Int) (w0 w : World) (hB : Below w0.heap.size w0 w) (ho0 : Kd.R (Kd.int .i64) 3 w w0.heap.size P0_ u9000_ l0)
  (hb : w.heap[B]? = some (.cells #[.int .i64 a1_0] 3 (0, 0))) (hnb : some B ≠ u9000_.ownBlock) (h : slices_DeleteFunc_int.f l0 a1_0 = some r) :
  Calls Try.prog 53 #[u9000_, .func (.func 54) #[] #[.pointer (some ⟨B, 0, none⟩)]] w fun e w' => ∃ v0_ : Value, e = .returned (v0_) ∧ Kd.R (Kd.int .i64) 3 w' w0.heap.size (fun k_ => (P0_ k_ ∨ w.heap.size ≤ k_)) v0_ r ∧ Below w0.heap.size w0 w' ∧ Kept w w' (fun k_ => P0_ k_) := by
 unfold slices_DeleteFunc_int.f at h
 by_cases c1 : 0 < (l0.length : Int)
 ·rw [if_pos c1] at h
  obtain rfl := Option.some.inj h
  obtain ⟨hP, inner, ⟨hil, hcase⟩, hr⟩ := ho0
  rcases hcase with ⟨rfl, h0⟩ | ⟨g, c, cur, rfl, hgb, hh, hnc, hcm, hcs, htake⟩
  ·omega
  have hin := reps_ints hr
  subst hin
  have hP' := hP g rfl
  have hcs' : cur.size = c := hcs.trans (Nat.mul_one c)
  have htake' : cur.toList.take l0.length = l0.map (Value.int .i64) := by rw [← htake]; exact congrArg (fun z => cur.toList.take z) (Nat.mul_one _).symm
  have hle := List.length_filter_le (fun x : Int => !decide (x ≤ wrap64 (a1_0 - 16))) l0
  refine (delf.walk a1_0 B g c l0 cur w hh hb (fun e => hnb (by rw [e]; rfl)) hnc hcm hcs' htake').mono ?_
  rintro e w' ⟨rfl, ⟨cur2, h1, h2, h3⟩, h4, h5, h6, h7, h8⟩
  have hst : Below w0.heap.size w w' := ⟨h6, h7, h8, by omega, fun k hk => h4 k (by omega)⟩
  refine ⟨_, rfl, R_mk rfl (.inl hP') hgb h1 (by omega) hcm (h2.trans (Nat.mul_one c).symm) (by rw [List.length_map]; exact (Nat.mul_one _).symm) ((congrArg (fun z => cur2.toList.take z) (Nat.mul_one _)).trans h3) (ints_reps _ _ _ _), hB.trans hst, ?_⟩
  exact ⟨by omega, fun k hk hn => h4 k (fun e => hn (by rw [e]; exact hP'))⟩
 ·rw [if_neg c1] at h; cases h
def impl_WindowSee.f (k : Nat) (a0_0 : Int) (l0_1 : List Int) (a1 : Int) : Option (Int × List Int × Int) := (impl_WindowOk.f k a0_0 l0_1).bind fun t103 => (if t103 = true then ((slices_BinarySearch_int_int.f k l0_1 a1).bind fun bt104 => ((impl_in.f a1 1 1000000).bind fun t106 => (if t106 = true then (if a1 ≤ (wrap64 (a0_0 - 16)) then ((impl_Window_copied.f a0_0 l0_1).bind fun bt107 => (some (bt107.1, bt107.2, 2))) else (if bt104.2 = true then ((impl_Window_copied.f a0_0 l0_1).bind fun bt111 => (some (bt111.1, bt111.2, 3))) else ((slices_Clone_int.f l0_1).bind fun t116 => ((slices_Insert_int.f t116 bt104.1 (([a1] : List Int))).bind fun t122 => ((slices_DeleteFunc_int.f t122 (mx a0_0 a1)).bind fun t125 => (some (mx a0_0 a1, t125, 0))))))) else ((impl_Window_copied.f a0_0 l0_1).bind fun bt128 => (some (bt128.1, bt128.2, 1)))))) else (some (0, ([] : List Int), 1)))
set_option maxHeartbeats 8000000 in
set_option maxRecDepth 100000 in
theorem impl_WindowSee.calls (k : Nat) (a0_0 : Int) (A0_1 : Option Addr) (c0_1 : Nat) (l0_1 : List Int) (a1 : Int) (r1 : Int) (r2 : List Int) (r3 : Int) (w : World) (hr0_1 : Kd.C (Kd.int .i64) w A0_1 l0_1.length l0_1) (hc0_1 : l0_1.length ≤ c0_1) (h : impl_WindowSee.f k a0_0 l0_1 a1 = some (r1, r2, r3)) :
  Calls Try.prog 19 #[.agg #[.int .i64 a0_0, .slice A0_1 l0_1.length c0_1], .int .i64 a1] w fun e w' => ∃ v1_ : Value, e = .returned (.tuple #[.agg #[.int .i64 r1, v1_], .int .i64 r3]) ∧ Kd.R (Kd.int .i64) 3 w' w.heap.size (fun _ => True) v1_ r2 ∧ Below w.heap.size w w' := by
 have hu31 := Try.underlying31
 have HR0_1 := Aside0.mk hr0_1
 have HC0_1 := Aside0.mk hc0_1
 clear hr0_1 hc0_1
 have HB := am (Below.refl w.heap.size w)
 have H : ((impl_WindowOk.f k a0_0 l0_1).bind fun t103 => (if t103 = true then ((slices_BinarySearch_int_int.f k l0_1 a1).bind fun bt104 => ((impl_in.f a1 1 1000000).bind fun t106 => (if t106 = true then (if a1 ≤ (wrap64 (a0_0 - 16)) then ((impl_Window_copied.f a0_0 l0_1).bind fun bt107 => (some (bt107.1, bt107.2, 2))) else (if bt104.2 = true then ((impl_Window_copied.f a0_0 l0_1).bind fun bt111 => (some (bt111.1, bt111.2, 3))) else ((slices_Clone_int.f l0_1).bind fun t116 => ((slices_Insert_int.f t116 bt104.1 (([a1] : List Int))).bind fun t122 => ((slices_DeleteFunc_int.f t122 (mx a0_0 a1)).bind fun t125 => (some (mx a0_0 a1, t125, 0))))))) else ((impl_Window_copied.f a0_0 l0_1).bind fun bt128 => (some (bt128.1, bt128.2, 1)))))) else (some (0, ([] : List Int), 1)))) = some (r1, r2, r3) := h
 clear h
 replace H := Option.bind_eq_some_iff.mp H
 obtain ⟨t103, A30, H⟩ := H
 replace H : (if t103 = true then ((slices_BinarySearch_int_int.f k l0_1 a1).bind fun bt104 => ((impl_in.f a1 1 1000000).bind fun t106 => (if t106 = true then (if a1 ≤ (wrap64 (a0_0 - 16)) then ((impl_Window_copied.f a0_0 l0_1).bind fun bt107 => (some (bt107.1, bt107.2, 2))) else (if bt104.2 = true then ((impl_Window_copied.f a0_0 l0_1).bind fun bt111 => (some (bt111.1, bt111.2, 3))) else ((slices_Clone_int.f l0_1).bind fun t116 => ((slices_Insert_int.f t116 bt104.1 (([a1] : List Int))).bind fun t122 => ((slices_DeleteFunc_int.f t122 (mx a0_0 a1)).bind fun t125 => (some (mx a0_0 a1, t125, 0))))))) else ((impl_Window_copied.f a0_0 l0_1).bind fun bt128 => (some (bt128.1, bt128.2, 1)))))) else (some (0, ([] : List Int), 1))) = some (r1, r2, r3) := H
 have A3 := Aside0.mk A30
 clear A30
 by_cases c4 : t103 = true
 ·subst c4
  have H1 : ((slices_BinarySearch_int_int.f k l0_1 a1).bind fun bt104 => ((impl_in.f a1 1 1000000).bind fun t106 => (if t106 = true then (if a1 ≤ (wrap64 (a0_0 - 16)) then ((impl_Window_copied.f a0_0 l0_1).bind fun bt107 => (some (bt107.1, bt107.2, 2))) else (if bt104.2 = true then ((impl_Window_copied.f a0_0 l0_1).bind fun bt111 => (some (bt111.1, bt111.2, 3))) else ((slices_Clone_int.f l0_1).bind fun t116 => ((slices_Insert_int.f t116 bt104.1 (([a1] : List Int))).bind fun t122 => ((slices_DeleteFunc_int.f t122 (mx a0_0 a1)).bind fun t125 => (some (mx a0_0 a1, t125, 0))))))) else ((impl_Window_copied.f a0_0 l0_1).bind fun bt128 => (some (bt128.1, bt128.2, 1)))))) = some (r1, r2, r3) := by rw [if_pos rfl] at H; exact H
  clear H
  have H := H1
  clear H1
  replace H := Option.bind_eq_some_iff.mp H
  obtain ⟨⟨t104, t105⟩, A50, H⟩ := H
  replace H : ((impl_in.f a1 1 1000000).bind fun t106 => (if t106 = true then (if a1 ≤ (wrap64 (a0_0 - 16)) then ((impl_Window_copied.f a0_0 l0_1).bind fun bt107 => (some (bt107.1, bt107.2, 2))) else (if t105 = true then ((impl_Window_copied.f a0_0 l0_1).bind fun bt111 => (some (bt111.1, bt111.2, 3))) else ((slices_Clone_int.f l0_1).bind fun t116 => ((slices_Insert_int.f t116 t104 (([a1] : List Int))).bind fun t122 => ((slices_DeleteFunc_int.f t122 (mx a0_0 a1)).bind fun t125 => (some (mx a0_0 a1, t125, 0))))))) else ((impl_Window_copied.f a0_0 l0_1).bind fun bt128 => (some (bt128.1, bt128.2, 1))))) = some (r1, r2, r3) := H
  have A5 := Aside0.mk A50
  clear A50
  replace H := Option.bind_eq_some_iff.mp H
  obtain ⟨t106, A60, H⟩ := H
  replace H : (if t106 = true then (if a1 ≤ (wrap64 (a0_0 - 16)) then ((impl_Window_copied.f a0_0 l0_1).bind fun bt107 => (some (bt107.1, bt107.2, 2))) else (if t105 = true then ((impl_Window_copied.f a0_0 l0_1).bind fun bt111 => (some (bt111.1, bt111.2, 3))) else ((slices_Clone_int.f l0_1).bind fun t116 => ((slices_Insert_int.f t116 t104 (([a1] : List Int))).bind fun t122 => ((slices_DeleteFunc_int.f t122 (mx a0_0 a1)).bind fun t125 => (some (mx a0_0 a1, t125, 0))))))) else ((impl_Window_copied.f a0_0 l0_1).bind fun bt128 => (some (bt128.1, bt128.2, 1)))) = some (r1, r2, r3) := H
  have A6 := Aside0.mk A60
  clear A60
  by_cases c7 : t106 = true
  ·subst c7
   have H1 : (if a1 ≤ (wrap64 (a0_0 - 16)) then ((impl_Window_copied.f a0_0 l0_1).bind fun bt107 => (some (bt107.1, bt107.2, 2))) else (if t105 = true then ((impl_Window_copied.f a0_0 l0_1).bind fun bt111 => (some (bt111.1, bt111.2, 3))) else ((slices_Clone_int.f l0_1).bind fun t116 => ((slices_Insert_int.f t116 t104 (([a1] : List Int))).bind fun t122 => ((slices_DeleteFunc_int.f t122 (mx a0_0 a1)).bind fun t125 => (some (mx a0_0 a1, t125, 0))))))) = some (r1, r2, r3) := by rw [if_pos rfl] at H; exact H
   clear H
   have H := H1
   clear H1
   by_cases c8 : a1 ≤ (wrap64 (a0_0 - 16))
   ·rw [if_pos c8] at H
    have c8b0 : decide (a1 ≤ (wrap64 (a0_0 - 16))) = true := decide_eq_true c8
    clear c8
    replace H := Option.bind_eq_some_iff.mp H
    obtain ⟨⟨t107, t108⟩, A90, H⟩ := H
    replace H : (some (t107, t108, 2)) = some (r1, r2, r3) := H
    have A9 := Aside0.mk A90
    clear A90
    simp only [Option.some.injEq, Prod.mk.injEq] at H
    obtain ⟨rfl, rfl, rfl⟩ := H
    go_enter Try.func19, Try.ntmps19
    go_wp2_with (first | ((with_reducible refine gate_dst (N := 2) rfl ?_); refine box_event rfl (N := 2) rfl (cs := #[.int .i64 a0_0, .slice A0_1 l0_1.length c0_1]) (t := 31) BX ?_; intro gb101 hg w10 hbox hb; have BK101 := am (hbox); have GW101 := am (GH HB hg); have GE101 := GW101; replace HB := am (below_step (KL HB) hb); clear hb hbox hg) | ((with_reducible refine gate_dst (N := 4) rfl ?_); refine box_event rfl (N := 4) rfl (cs := #[.int .i64 0, .slice none 0 0]) (t := 31) BX ?_; intro gb102 hg w11 hbox hb; have BK102 := am (hbox); have GW102 := am (GH1 HB GE101.out hg); have GE102 := GW102; replace HB := am (below_step (K1 HB GE101.out) hb); have NB101_102 := am (NL BK101 hg); have NB102_101 := am (NG BK101 hg); replace BK101 := am (BB BK101 hb); clear hb hbox hg; have hnb12 := NB101_102.out; have hnc12 := NB102_101.out; obtain ⟨hcz13_0, hcz13_1, hfz13_0⟩ := y2 w11 BK101.out) | ((with_reducible refine gate_callee (f := 22) rfl ?_); refine goesL_ (some 11) rfl rfl Try.func22 (by kernel_rfl) rfl #[.agg #[.int .i64 a0_0, .slice A0_1 l0_1.length c0_1]] rfl MT ?_; (with_reducible refine (impl_WindowOk.calls k a0_0 _ _ l0_1 true _ ?side1 ?side2 A3.out).mono ?_); (case side1 => exact KD HR0_1 HB); (case side2 => exact HC0_1.out); rintro e w14 ⟨rfl, hb⟩; refine ⟨_, rfl, ?_⟩; replace BK101 := am (BB BK101 hb); replace BK102 := am (BB BK102 hb); replace HB := am (below_step (K2 HB GE101.out GE102.out) hb); (try clear hb); obtain ⟨hcz15_0, hcz15_1, hfz15_0⟩ := y2 w14 BK101.out) | ((with_reducible refine gate_callee (f := 48) rfl ?_); refine goesL_ (some 18) rfl rfl Try.func48 (by kernel_rfl) rfl #[.slice A0_1 l0_1.length c0_1, .int .i64 a1] rfl MT ?_; (with_reducible refine (slices_BinarySearch_int_int.calls k _ _ l0_1 a1 t104 t105 _ ?side1 ?side2 A5.out).mono ?_); (case side1 => exact KD HR0_1 HB); (case side2 => exact HC0_1.out); rintro e w' ⟨rfl, ⟨nd, rfl⟩⟩; refine ⟨_, rfl, ?_⟩; (try (rw [drewN_self w14]; generalize hq_ : World.drewN w14 _ = w14; replace BK101 : Aside0 (w14.heap[gb101]? = some (.cells #[.int .i64 a0_0, .slice A0_1 l0_1.length c0_1] 31 (0, 0))) := ⟨by rw [← hq_]; exact (KB BK101)⟩; replace BK102 : Aside0 (w14.heap[gb102]? = some (.cells #[.int .i64 0, .slice none 0 0] 31 (0, 0))) := ⟨by rw [← hq_]; exact (KB BK102)⟩; replace HB : Aside0 (Below w.heap.size w w14) := ⟨by rw [← hq_]; exact (K2 HB GE101.out GE102.out)⟩; clear hq_; (try obtain ⟨hcz15_0, hcz15_1, hfz15_0⟩ := y2 w14 BK101.out)))) | ((with_reducible refine gate_callee (f := 49) rfl ?_); refine goesL_ (some 23) rfl rfl Try.func49 (by kernel_rfl) rfl #[.int .i64 a1, .int .i64 1, .int .i64 1000000] rfl MT ?_; (with_reducible refine (impl_in.calls a1 1 1000000 true _ A6.out).mono ?_); rintro e w' ⟨rfl, ⟨nd, rfl⟩⟩; refine ⟨_, rfl, ?_⟩; (try (rw [drewN_self w14]; generalize hq_ : World.drewN w14 _ = w14; replace BK101 : Aside0 (w14.heap[gb101]? = some (.cells #[.int .i64 a0_0, .slice A0_1 l0_1.length c0_1] 31 (0, 0))) := ⟨by rw [← hq_]; exact (KB BK101)⟩; replace BK102 : Aside0 (w14.heap[gb102]? = some (.cells #[.int .i64 0, .slice none 0 0] 31 (0, 0))) := ⟨by rw [← hq_]; exact (KB BK102)⟩; replace HB : Aside0 (Below w.heap.size w w14) := ⟨by rw [← hq_]; exact (K2 HB GE101.out GE102.out)⟩; clear hq_; (try obtain ⟨hcz15_0, hcz15_1, hfz15_0⟩ := y2 w14 BK101.out)))) | ((with_reducible refine gate_callee (f := 50) rfl ?_); refine goesL_ (some 34) rfl rfl Try.func50 (by kernel_rfl) rfl #[.agg #[.int .i64 a0_0, .slice A0_1 l0_1.length c0_1]] rfl MT ?_; (with_reducible refine (impl_Window_copied.calls a0_0 _ _ l0_1 t107 t108 _ ?side1 ?side2 A9.out).mono ?_); (case side1 => exact KD HR0_1 HB); (case side2 => exact HC0_1.out); rintro e w16 ⟨v109, rfl, ho0, hb⟩; refine ⟨_, rfl, ?_⟩; have HO110 := am (Kd.R_lower ho0 (below_size (K2 HB GE101.out GE102.out))); replace BK101 := am (BB BK101 hb); replace BK102 := am (BB BK102 hb); replace HB := am (below_step (K2 HB GE101.out GE102.out) hb); (try clear hb); (try clear ho0); obtain ⟨hcz17_0, hcz17_1, hfz17_0⟩ := y2 w16 BK102.out; obtain ⟨Ao18, co18, eo18⟩ := Kd.R_slice HO110.out; subst eo18))
    refine bodyPost_ret (results_ct rfl _ _ gb102 31 #[.int .i64 t107, .slice Ao18 t108.length co18] (0, 0) _ rfl (by (with_reducible repeat (first | refine blk_drewN ?_ _ | refine blk_drew ?_ | refine blk_alloc ?_ _)); refine blk_put (cs := #[.int .i64 t107, .slice none 0 0]) ?_ 1 _ rfl; (with_reducible repeat (first | refine blk_drewN ?_ _ | refine blk_drew ?_ | refine blk_alloc ?_ _)); refine blk_put (cs := #[.int .i64 0, .slice none 0 0]) ?_ 0 _ rfl; (with_reducible repeat (first | refine blk_drewN ?_ _ | refine blk_drew ?_ | refine blk_alloc ?_ _)); exact BK102.out) Try.underlying31 rfl (by kernel_rfl)) rfl ?_
    exact ⟨_, ER, by (with_reducible repeat (first | apply Kd.R_alloc | apply Kd.R_drewN | apply Kd.R_drew)); exact Kd.R_mono (Kd.R_far (p := ⟨gb102, 1, none⟩) (Kd.R_far (p := ⟨gb102, 0, none⟩) (Kd.R_types HO110.out BK102.out (by decide)) (fun _ hk => hk.2) (.int .i64 t107)) (fun _ hk => hk.2) (.slice Ao18 t108.length co18)) (fun _ hk => trivial), K2 HB GE101.out GE102.out⟩
   ·rw [if_neg c8] at H
    have c8b0 : decide (a1 ≤ (wrap64 (a0_0 - 16))) = false := decide_eq_false c8
    clear c8
    by_cases c19 : t105 = true
    ·subst c19
     have H1 : ((impl_Window_copied.f a0_0 l0_1).bind fun bt111 => (some (bt111.1, bt111.2, 3))) = some (r1, r2, r3) := by rw [if_pos rfl] at H; exact H
     clear H
     have H := H1
     clear H1
     replace H := Option.bind_eq_some_iff.mp H
     obtain ⟨⟨t111, t112⟩, A200, H⟩ := H
     replace H : (some (t111, t112, 3)) = some (r1, r2, r3) := H
     have A20 := Aside0.mk A200
     clear A200
     simp only [Option.some.injEq, Prod.mk.injEq] at H
     obtain ⟨rfl, rfl, rfl⟩ := H
     go_enter Try.func19, Try.ntmps19
     go_wp2_with (first | ((with_reducible refine gate_dst (N := 2) rfl ?_); refine box_event rfl (N := 2) rfl (cs := #[.int .i64 a0_0, .slice A0_1 l0_1.length c0_1]) (t := 31) BX ?_; intro gb101 hg w21 hbox hb; have BK101 := am (hbox); have GW101 := am (GH HB hg); have GE101 := GW101; replace HB := am (below_step (KL HB) hb); clear hb hbox hg) | ((with_reducible refine gate_dst (N := 4) rfl ?_); refine box_event rfl (N := 4) rfl (cs := #[.int .i64 0, .slice none 0 0]) (t := 31) BX ?_; intro gb102 hg w22 hbox hb; have BK102 := am (hbox); have GW102 := am (GH1 HB GE101.out hg); have GE102 := GW102; replace HB := am (below_step (K1 HB GE101.out) hb); have NB101_102 := am (NL BK101 hg); have NB102_101 := am (NG BK101 hg); replace BK101 := am (BB BK101 hb); clear hb hbox hg; have hnb23 := NB101_102.out; have hnc23 := NB102_101.out; obtain ⟨hcz24_0, hcz24_1, hfz24_0⟩ := y2 w22 BK101.out) | ((with_reducible refine gate_callee (f := 22) rfl ?_); refine goesL_ (some 11) rfl rfl Try.func22 (by kernel_rfl) rfl #[.agg #[.int .i64 a0_0, .slice A0_1 l0_1.length c0_1]] rfl MT ?_; (with_reducible refine (impl_WindowOk.calls k a0_0 _ _ l0_1 true _ ?side1 ?side2 A3.out).mono ?_); (case side1 => exact KD HR0_1 HB); (case side2 => exact HC0_1.out); rintro e w25 ⟨rfl, hb⟩; refine ⟨_, rfl, ?_⟩; replace BK101 := am (BB BK101 hb); replace BK102 := am (BB BK102 hb); replace HB := am (below_step (K2 HB GE101.out GE102.out) hb); (try clear hb); obtain ⟨hcz26_0, hcz26_1, hfz26_0⟩ := y2 w25 BK101.out) | ((with_reducible refine gate_callee (f := 48) rfl ?_); refine goesL_ (some 18) rfl rfl Try.func48 (by kernel_rfl) rfl #[.slice A0_1 l0_1.length c0_1, .int .i64 a1] rfl MT ?_; (with_reducible refine (slices_BinarySearch_int_int.calls k _ _ l0_1 a1 t104 true _ ?side1 ?side2 A5.out).mono ?_); (case side1 => exact KD HR0_1 HB); (case side2 => exact HC0_1.out); rintro e w' ⟨rfl, ⟨nd, rfl⟩⟩; refine ⟨_, rfl, ?_⟩; (try (rw [drewN_self w25]; generalize hq_ : World.drewN w25 _ = w25; replace BK101 : Aside0 (w25.heap[gb101]? = some (.cells #[.int .i64 a0_0, .slice A0_1 l0_1.length c0_1] 31 (0, 0))) := ⟨by rw [← hq_]; exact (KB BK101)⟩; replace BK102 : Aside0 (w25.heap[gb102]? = some (.cells #[.int .i64 0, .slice none 0 0] 31 (0, 0))) := ⟨by rw [← hq_]; exact (KB BK102)⟩; replace HB : Aside0 (Below w.heap.size w w25) := ⟨by rw [← hq_]; exact (K2 HB GE101.out GE102.out)⟩; clear hq_; (try obtain ⟨hcz26_0, hcz26_1, hfz26_0⟩ := y2 w25 BK101.out)))) | ((with_reducible refine gate_callee (f := 49) rfl ?_); refine goesL_ (some 23) rfl rfl Try.func49 (by kernel_rfl) rfl #[.int .i64 a1, .int .i64 1, .int .i64 1000000] rfl MT ?_; (with_reducible refine (impl_in.calls a1 1 1000000 true _ A6.out).mono ?_); rintro e w' ⟨rfl, ⟨nd, rfl⟩⟩; refine ⟨_, rfl, ?_⟩; (try (rw [drewN_self w25]; generalize hq_ : World.drewN w25 _ = w25; replace BK101 : Aside0 (w25.heap[gb101]? = some (.cells #[.int .i64 a0_0, .slice A0_1 l0_1.length c0_1] 31 (0, 0))) := ⟨by rw [← hq_]; exact (KB BK101)⟩; replace BK102 : Aside0 (w25.heap[gb102]? = some (.cells #[.int .i64 0, .slice none 0 0] 31 (0, 0))) := ⟨by rw [← hq_]; exact (KB BK102)⟩; replace HB : Aside0 (Below w.heap.size w w25) := ⟨by rw [← hq_]; exact (K2 HB GE101.out GE102.out)⟩; clear hq_; (try obtain ⟨hcz26_0, hcz26_1, hfz26_0⟩ := y2 w25 BK101.out)))) | ((with_reducible refine gate_callee (f := 50) rfl ?_); refine goesL_ (some 38) rfl rfl Try.func50 (by kernel_rfl) rfl #[.agg #[.int .i64 a0_0, .slice A0_1 l0_1.length c0_1]] rfl MT ?_; (with_reducible refine (impl_Window_copied.calls a0_0 _ _ l0_1 t111 t112 _ ?side1 ?side2 A20.out).mono ?_); (case side1 => exact KD HR0_1 HB); (case side2 => exact HC0_1.out); rintro e w27 ⟨v113, rfl, ho0, hb⟩; refine ⟨_, rfl, ?_⟩; have HO114 := am (Kd.R_lower ho0 (below_size (K2 HB GE101.out GE102.out))); replace BK101 := am (BB BK101 hb); replace BK102 := am (BB BK102 hb); replace HB := am (below_step (K2 HB GE101.out GE102.out) hb); (try clear hb); (try clear ho0); obtain ⟨hcz28_0, hcz28_1, hfz28_0⟩ := y2 w27 BK102.out; obtain ⟨Ao29, co29, eo29⟩ := Kd.R_slice HO114.out; subst eo29))
     refine bodyPost_ret (results_ct rfl _ _ gb102 31 #[.int .i64 t111, .slice Ao29 t112.length co29] (0, 0) _ rfl (by (with_reducible repeat (first | refine blk_drewN ?_ _ | refine blk_drew ?_ | refine blk_alloc ?_ _)); refine blk_put (cs := #[.int .i64 t111, .slice none 0 0]) ?_ 1 _ rfl; (with_reducible repeat (first | refine blk_drewN ?_ _ | refine blk_drew ?_ | refine blk_alloc ?_ _)); refine blk_put (cs := #[.int .i64 0, .slice none 0 0]) ?_ 0 _ rfl; (with_reducible repeat (first | refine blk_drewN ?_ _ | refine blk_drew ?_ | refine blk_alloc ?_ _)); exact BK102.out) Try.underlying31 rfl (by kernel_rfl)) rfl ?_
     exact ⟨_, ER, by (with_reducible repeat (first | apply Kd.R_alloc | apply Kd.R_drewN | apply Kd.R_drew)); exact Kd.R_mono (Kd.R_far (p := ⟨gb102, 1, none⟩) (Kd.R_far (p := ⟨gb102, 0, none⟩) (Kd.R_types HO114.out BK102.out (by decide)) (fun _ hk => hk.2) (.int .i64 t111)) (fun _ hk => hk.2) (.slice Ao29 t112.length co29)) (fun _ hk => trivial), K2 HB GE101.out GE102.out⟩
    ·replace c19 := Bool.eq_false_iff.mpr c19
     subst c19
     have H1 : ((slices_Clone_int.f l0_1).bind fun t116 => ((slices_Insert_int.f t116 t104 (([a1] : List Int))).bind fun t122 => ((slices_DeleteFunc_int.f t122 (mx a0_0 a1)).bind fun t125 => (some (mx a0_0 a1, t125, 0))))) = some (r1, r2, r3) := by rw [if_neg (show ¬ (false = true) by decide)] at H; exact H
     clear H
     have H := H1
     clear H1
     obtain ⟨ji30, hji30⟩ : ∃ j_ : Int, (mx a0_0 a1) = j_ := ⟨_, rfl⟩
     replace H : ((slices_Clone_int.f l0_1).bind fun t116 => ((slices_Insert_int.f t116 t104 (([a1] : List Int))).bind fun t122 => ((slices_DeleteFunc_int.f t122 (ji30)).bind fun t125 => (some (ji30, t125, 0))))) = some (r1, r2, r3) := by first | (rw [hji30] at H; exact H) | (simp only [hji30] at H ⊢; exact H)
     (try rw [hji30] at A3)
     (try rw [hji30] at A5)
     (try rw [hji30] at A6)
     have hji30_ : (if a0_0 < a1 then a1 else a0_0) = ji30 := hji30
     replace H := Option.bind_eq_some_iff.mp H
     obtain ⟨t116, A310, H⟩ := H
     replace H : ((slices_Insert_int.f t116 t104 (([a1] : List Int))).bind fun t122 => ((slices_DeleteFunc_int.f t122 (ji30)).bind fun t125 => (some (ji30, t125, 0)))) = some (r1, r2, r3) := H
     have A31 := Aside0.mk A310
     clear A310
     obtain ⟨y119, hy119⟩ : ∃ y_ : List Int, y_ = (([a1] : List Int)) := ⟨_, rfl⟩
     replace H : ((slices_Insert_int.f t116 t104 y119).bind fun t122 => ((slices_DeleteFunc_int.f t122 (ji30)).bind fun t125 => (some (ji30, t125, 0)))) = some (r1, r2, r3) := by first | (rw [hy119]; with_reducible exact H) | (have H2_ := (Option.bind_some _ _).symm.trans H; rw [hy119]; with_reducible exact H2_) | (have H2_ := (Option.bind_some _ _).symm.trans H; with_reducible exact H2_) | with_reducible exact H | (rw [hy119]; exact H) | exact H
     have Ny119 := Aside0.mk hy119
     clear hy119
     replace H := Option.bind_eq_some_iff.mp H
     obtain ⟨t122, A320, H⟩ := H
     replace H : ((slices_DeleteFunc_int.f t122 (ji30)).bind fun t125 => (some (ji30, t125, 0))) = some (r1, r2, r3) := H
     have A32 := Aside0.mk A320
     clear A320
     replace H := Option.bind_eq_some_iff.mp H
     obtain ⟨t125, A330, H⟩ := H
     replace H : (some (ji30, t125, 0)) = some (r1, r2, r3) := H
     have A33 := Aside0.mk A330
     clear A330
     simp only [Option.some.injEq, Prod.mk.injEq] at H
     obtain ⟨rfl, rfl, rfl⟩ := H
     go_enter Try.func19, Try.ntmps19
     try go_wp2_with (first | ((with_reducible refine gate_dst (N := 2) rfl ?_); refine box_event rfl (N := 2) rfl (cs := #[.int .i64 a0_0, .slice A0_1 l0_1.length c0_1]) (t := 31) BX ?_; intro gb101 hg w34 hbox hb; have BK101 := am (hbox); have GW101 := am (GH HB hg); have GE101 := GW101; replace HB := am (below_step (KL HB) hb); clear hb hbox hg) | ((with_reducible refine gate_dst (N := 4) rfl ?_); refine box_event rfl (N := 4) rfl (cs := #[.int .i64 0, .slice none 0 0]) (t := 31) BX ?_; intro gb102 hg w35 hbox hb; have BK102 := am (hbox); have GW102 := am (GH1 HB GE101.out hg); have GE102 := GW102; replace HB := am (below_step (K1 HB GE101.out) hb); have NB101_102 := am (NL BK101 hg); have NB102_101 := am (NG BK101 hg); replace BK101 := am (BB BK101 hb); clear hb hbox hg; have hnb36 := NB101_102.out; have hnc36 := NB102_101.out; obtain ⟨hcz37_0, hcz37_1, hfz37_0⟩ := y2 w35 BK101.out) | ((with_reducible refine gate_callee (f := 22) rfl ?_); refine goesL_ (some 11) rfl rfl Try.func22 (by kernel_rfl) rfl #[.agg #[.int .i64 a0_0, .slice A0_1 l0_1.length c0_1]] rfl MT ?_; (with_reducible refine (impl_WindowOk.calls k a0_0 _ _ l0_1 true _ ?side1 ?side2 A3.out).mono ?_); (case side1 => exact KD HR0_1 HB); (case side2 => exact HC0_1.out); rintro e w38 ⟨rfl, hb⟩; refine ⟨_, rfl, ?_⟩; replace BK101 := am (BB BK101 hb); replace BK102 := am (BB BK102 hb); replace HB := am (below_step (K2 HB GE101.out GE102.out) hb); (try clear hb); obtain ⟨hcz39_0, hcz39_1, hfz39_0⟩ := y2 w38 BK101.out) | ((with_reducible refine gate_callee (f := 48) rfl ?_); refine goesL_ (some 18) rfl rfl Try.func48 (by kernel_rfl) rfl #[.slice A0_1 l0_1.length c0_1, .int .i64 a1] rfl MT ?_; (with_reducible refine (slices_BinarySearch_int_int.calls k _ _ l0_1 a1 t104 false _ ?side1 ?side2 A5.out).mono ?_); (case side1 => exact KD HR0_1 HB); (case side2 => exact HC0_1.out); rintro e w' ⟨rfl, ⟨nd, rfl⟩⟩; refine ⟨_, rfl, ?_⟩; (try (rw [drewN_self w38]; generalize hq_ : World.drewN w38 _ = w38; replace BK101 : Aside0 (w38.heap[gb101]? = some (.cells #[.int .i64 a0_0, .slice A0_1 l0_1.length c0_1] 31 (0, 0))) := ⟨by rw [← hq_]; exact (KB BK101)⟩; replace BK102 : Aside0 (w38.heap[gb102]? = some (.cells #[.int .i64 0, .slice none 0 0] 31 (0, 0))) := ⟨by rw [← hq_]; exact (KB BK102)⟩; replace HB : Aside0 (Below w.heap.size w w38) := ⟨by rw [← hq_]; exact (K2 HB GE101.out GE102.out)⟩; clear hq_; (try obtain ⟨hcz39_0, hcz39_1, hfz39_0⟩ := y2 w38 BK101.out)))) | ((with_reducible refine gate_callee (f := 49) rfl ?_); refine goesL_ (some 23) rfl rfl Try.func49 (by kernel_rfl) rfl #[.int .i64 a1, .int .i64 1, .int .i64 1000000] rfl MT ?_; (with_reducible refine (impl_in.calls a1 1 1000000 true _ A6.out).mono ?_); rintro e w' ⟨rfl, ⟨nd, rfl⟩⟩; refine ⟨_, rfl, ?_⟩; (try (rw [drewN_self w38]; generalize hq_ : World.drewN w38 _ = w38; replace BK101 : Aside0 (w38.heap[gb101]? = some (.cells #[.int .i64 a0_0, .slice A0_1 l0_1.length c0_1] 31 (0, 0))) := ⟨by rw [← hq_]; exact (KB BK101)⟩; replace BK102 : Aside0 (w38.heap[gb102]? = some (.cells #[.int .i64 0, .slice none 0 0] 31 (0, 0))) := ⟨by rw [← hq_]; exact (KB BK102)⟩; replace HB : Aside0 (Below w.heap.size w w38) := ⟨by rw [← hq_]; exact (K2 HB GE101.out GE102.out)⟩; clear hq_; (try obtain ⟨hcz39_0, hcz39_1, hfz39_0⟩ := y2 w38 BK101.out)))) | ((with_reducible refine gate_dst (N := 8) rfl ?_); refine box_event rfl (N := 8) rfl (cs := #[.int .i64 0]) (t := 3) BX ?_; intro gb115 hg w40 hbox hb; have BK115 := am (hbox); have GW115 := am (GH2 HB GE101.out GE102.out hg); have GE115 := GW115; replace HB := am (below_step (K2 HB GE101.out GE102.out) hb); have NB101_115 := am (NL BK101 hg); have NB115_101 := am (NG BK101 hg); replace BK101 := am (BB BK101 hb); have NB102_115 := am (NL BK102 hg); have NB115_102 := am (NG BK102 hg); replace BK102 := am (BB BK102 hb); clear hb hbox hg; have hnb41 := NB115_101.out; have hnc41 := NB101_115.out; have hnb42 := NB115_102.out; have hnc42 := NB102_115.out; obtain ⟨hcz43_0, hfz43_0⟩ := y1 w40 BK115.out; obtain ⟨hcz44_0, hcz44_1, hfz44_0⟩ := y2 w40 BK101.out) | ((with_reducible refine gate_callee (f := 52) rfl ?_); refine goesL_ (some 45) rfl rfl Try.func52 (by kernel_rfl) rfl #[.slice A0_1 l0_1.length c0_1] rfl MT ?_; (with_reducible refine (slices_Clone_int.calls _ _ l0_1 t116 _ ?side1 ?side2 A31.out).mono ?_); (case side1 => exact Kd.C_below HR0_1.out (K3 HB GE101.out GE102.out GE115.out)); (case side2 => exact HC0_1.out); rintro e w45 ⟨v117, rfl, ho0, hb⟩; refine ⟨_, rfl, ?_⟩; have HO118 := am (Kd.R_lower (Kd.R_newB ho0 (g := gb115) (o := .cells #[.int .i64 ji30] 3 (0, 0)) (by (with_reducible repeat (first | refine blk_drewN ?_ _ | refine blk_drew ?_ | refine blk_alloc ?_ _)); refine blk_put (cs := #[.int .i64 0]) ?_ 0 _ rfl; (with_reducible repeat (first | refine blk_drewN ?_ _ | refine blk_drew ?_ | refine blk_alloc ?_ _)); exact BK115.out)) (below_size (K3 HB GE101.out GE102.out GE115.out))); replace BK101 := am (blk_below (g := gb101) (o := .cells #[.int .i64 a0_0, .slice A0_1 l0_1.length c0_1] 31 (0, 0)) (by (with_reducible repeat (first | refine blk_drewN ?_ _ | refine blk_drew ?_ | refine blk_alloc ?_ _)); refine blk_far ?_ NB101_115.out _; (with_reducible repeat (first | refine blk_drewN ?_ _ | refine blk_drew ?_ | refine blk_alloc ?_ _)); exact BK101.out) hb); replace BK102 := am (blk_below (g := gb102) (o := .cells #[.int .i64 0, .slice none 0 0] 31 (0, 0)) (by (with_reducible repeat (first | refine blk_drewN ?_ _ | refine blk_drew ?_ | refine blk_alloc ?_ _)); refine blk_far ?_ NB102_115.out _; (with_reducible repeat (first | refine blk_drewN ?_ _ | refine blk_drew ?_ | refine blk_alloc ?_ _)); exact BK102.out) hb); replace BK115 := am (blk_below (g := gb115) (o := .cells #[.int .i64 ji30] 3 (0, 0)) (by (with_reducible repeat (first | refine blk_drewN ?_ _ | refine blk_drew ?_ | refine blk_alloc ?_ _)); refine blk_put (cs := #[.int .i64 0]) ?_ 0 _ rfl; (with_reducible repeat (first | refine blk_drewN ?_ _ | refine blk_drew ?_ | refine blk_alloc ?_ _)); exact BK115.out) hb); replace HB := am (below_step (K3 HB GE101.out GE102.out GE115.out) hb); (try clear hb); (try clear hb2); (try clear hk); (try clear hi); (try clear ho0)) | ((with_reducible refine gate_dst (N := 48) rfl ?_); refine Kd.R_lit (Kd.int .i64) _ 3 ?hg (N := 48) ?hd (xs := ([a1] : List Int)) (inner := [.int .i64 a1]) (ok := fun _ => True) (okp := fun _ => True) ?hr ?hp (fun _ hk => hk) trivial (Below.refl _ _) (Nat.le_refl _) (by simp) ?_; (case hd => rfl); (case hg => rfl); (case hr => first | (go_simp; done) | (go_simp; rfl)); (case hp => exact (Reps.one (show Kd.M (Kd.int .i64) _ _ _ a1 [.int .i64 a1] from rfl) (Reps.none _ _))); intro v120 w46 ho47 hb hg_ hnew_; clear hg_ hnew_; (first | rw [← Ny119.out] at ho47 | (simp only [Int.reduceToNat] at ho47; rw [← Ny119.out] at ho47)); have HO121 := am (Kd.R_lower (Kd.R_newB (Kd.R_new' ho47 (Kd.R_lt (KR HO118))) (g := gb115) (o := .cells #[.int .i64 ji30] 3 (0, 0)) (KB BK115)) (below_size (K3 HB GE101.out GE102.out GE115.out))); replace HO118 := am (Kd.R_elder' (KR HO118) (Kd.R_base ho47) hb); replace BK101 := am (BB BK101 hb); replace BK102 := am (BB BK102 hb); replace BK115 := am (BB BK115 hb); replace HB := am (below_step (K3 HB GE101.out GE102.out GE115.out) hb); clear hb ho47; obtain ⟨Ao48, co48, eo48⟩ := Kd.R_slice HO118.out; subst eo48; obtain ⟨Ao49, co49, eo49⟩ := Kd.R_slice HO121.out; subst eo49) | ((with_reducible refine gate_callee (f := 51) rfl ?_); refine goesL_ (some 49) rfl rfl Try.func51 (by kernel_rfl) rfl #[.slice Ao48 t116.length co48, .int .i64 t104, .slice Ao49 y119.length co49] rfl MT ?_; (with_reducible refine (slices_Insert_int.calls (fun k_ => some k_ = (.slice Ao48 t116.length co48 : Value).ownBlock) (.slice Ao48 t116.length co48) t116 t104 (fun k_ => some k_ = (.slice Ao49 y119.length co49 : Value).ownBlock) (.slice Ao49 y119.length co49) y119 t122 w _ ?side1 ?side2 ?side3 ?side4 ?side5 A32.out).mono ?_); (case side1 => exact K3 HB GE101.out GE102.out GE115.out); (case side2 => exact Kd.R_tight rfl HO118.out); (case side3 => exact fun k_ e_ => (HO118.out.1 k_ e_.symm).2); (case side4 => exact Kd.R_tight rfl HO121.out); (case side5 => exact fun k_ e_ => (HO121.out.1 k_ e_.symm).1.2); rintro e w50 ⟨v123, rfl, ho0, hb, hkp⟩; refine ⟨_, rfl, ?_⟩; replace BK101 := am (blk_kept (KB BK101) hkp (fun hs_ => Or.elim hs_ (fun e_ => (fun e_ => (Kd.R_ne HO118.out BK101.out (by decide)) e_) e_) (fun e_ => (fun e_ => (Kd.R_ne HO121.out BK101.out (by decide)) e_) e_))); replace BK102 := am (blk_kept (KB BK102) hkp (fun hs_ => Or.elim hs_ (fun e_ => (fun e_ => (Kd.R_ne HO118.out BK102.out (by decide)) e_) e_) (fun e_ => (fun e_ => (Kd.R_ne HO121.out BK102.out (by decide)) e_) e_))); have HO124 := am (Kd.R_mono (ok' := fun k_ => k_ ≠ gb115) ho0 (fun k_ hk_ => Or.elim hk_ (fun hs_ => Or.elim hs_ (fun hs_ => fun e_ => (Kd.R_away HO118.out (fun _ hk => hk.1.2)) (by rw [← e_]; exact hs_)) (fun hs_ => fun e_ => (Kd.R_away HO121.out (fun _ hk => hk.2)) (by rw [← e_]; exact hs_))) (fun hn_ => (Kd.freshB (g := gb115) (o := .cells #[.int .i64 ji30] 3 (0, 0)) (KB BK115) k_ hn_)))); replace BK115 := am (blk_kept (KB BK115) hkp (fun hs_ => Or.elim hs_ (fun e_ => (fun e_ => (Kd.R_away HO118.out (fun _ hk => hk.1.2)) e_) e_) (fun e_ => (fun e_ => (Kd.R_away HO121.out (fun _ hk => hk.2)) e_) e_))); replace HB := am (hb); clear HO118 HO121; (try clear hb); (try clear hkp); (try clear ho0)))
     replace HO124 := am (Kd.R_drew HO124.out)
     replace BK101 := am (blk_drew BK101.out)
     replace BK102 := am (blk_drew BK102.out)
     replace BK115 := am (blk_drew BK115.out)
     replace HB := am (below_drew1 HB.out)
     obtain ⟨Ao52, co52, eo52⟩ := Kd.R_slice HO124.out
     (first | subst eo52 | (injection eo52 with f1_ f2_ f3_; have f4_ := f1_.symm; have f5_ := f3_.symm; clear f1_ f2_ f3_; subst f4_; subst f5_))
     refine start_ (n := 7) (S := fun w' => w'.cell? ⟨gb115, 0, none⟩ = some (.int .i64 ji30)) (ds := []) (tf 0 7) (by kernel_rfl) rfl rfl (z0 _ BK115.out) (fun hHeld => ?_)
     generalize w50.drew = w51 at HO124 BK101 BK102 BK115 HB hHeld ⊢
     refine pure_ (i := 1) (N := some 51) (v := ?_) (a' := ?_) (tr [0, 1, 1, 5]) rfl rfl (by kernel_rfl) (fun _ _ _ h => h) (Or.inl ⟨by rfl, ?_⟩) ?_ ?_; rotate_left; (· intro w'; go_simp; with_reducible rfl); rotate_left; (· simp only [Act.put, List.setIfInBounds_toArray, List.set_cons_zero, List.set_cons_succ, i64_w, i32_w]; rfl)
     refine pure_ (i := 2) (N := some 52) (v := ?_) (a' := ?_) (tr [0, 1, 2, 4]) rfl rfl (by kernel_rfl) (fun _ _ _ h => h) (Or.inl ⟨by rfl, ?_⟩) ?_ ?_; rotate_left; (· intro w'; go_simp; with_reducible rfl); rotate_left; (· simp only [Act.put, List.setIfInBounds_toArray, List.set_cons_zero, List.set_cons_succ, i64_w, i32_w]; rfl)
     refine take_ (i := 0) (N := some 50) (v := ?_) (a' := ?_) (tf 3 4) rfl rfl (by kernel_rfl) (fun _ _ _ h => h) (Or.inl ⟨by rfl, ?_⟩) hHeld ?_ ?_
     rotate_left
     ·intro w' s0
      go_simp
      with_reducible rfl
     rotate_left
     ·simp only [Act.put, List.setIfInBounds_toArray, List.set_cons_zero, List.set_cons_succ, i64_w, i32_w]
      rfl
     refine one_ (i := 3) (N := some 53) (tf 4 3) rfl rfl (by kernel_rfl) (by decide) (fun K hK => ?_)
     refine goes_ Try.func53 (by kernel_rfl) rfl #[.slice Ao52 t122.length co52, .func (.func 54) #[] #[.pointer (some ⟨gb115, 0, none⟩)]] (by rfl) rfl rfl MT ?_
     with_reducible refine (slices_DeleteFunc_int.calls (fun k_ => some k_ = (.slice Ao52 t122.length co52 : Value).ownBlock) (.slice Ao52 t122.length co52) t122 ji30 gb115 t125 w _ ?side1 ?side2 ?side3 ?side4 A33.out).mono ?_
     (case side1 => exact K3 HB GE101.out GE102.out GE115.out)
     (case side2 => exact Kd.R_tight rfl HO124.out)
     (case side3 => exact (KB BK115))
     (case side4 => exact Kd.R_away (HO124.out) (fun _ hk => hk))
     rintro e w53 ⟨v126, rfl, ho0, hb, hkp⟩
     refine ⟨_, rfl, ?_⟩
     replace BK101 := am (blk_kept (KB BK101) hkp (fun hs_ => (fun e_ => (Kd.R_ne HO124.out BK101.out (by decide)) e_) hs_))
     replace BK102 := am (blk_kept (KB BK102) hkp (fun hs_ => (fun e_ => (Kd.R_ne HO124.out BK102.out (by decide)) e_) hs_))
     have HO127 := am (Kd.R_mono (ok' := fun k_ => k_ ≠ gb115) ho0 (fun k_ hk_ => Or.elim hk_ (fun hs_ => fun e_ => (Kd.R_away HO124.out (fun _ hk => hk)) (by rw [← e_]; exact hs_)) (fun hn_ => (Kd.freshB (g := gb115) (o := .cells #[.int .i64 ji30] 3 (0, 0)) (KB BK115) k_ hn_))))
     replace BK115 := am (blk_kept (KB BK115) hkp (fun hs_ => (fun e_ => (Kd.R_away HO124.out (fun _ hk => hk)) e_) hs_))
     replace HB := am (hb)
     clear HO124
     (try clear hb)
     (try clear hkp)
     (try clear ho0)
     obtain ⟨Ao54, co54, eo54⟩ := Kd.R_slice HO127.out
     (first | subst eo54 | (injection eo54 with f1_ f2_ f3_; have f4_ := f1_.symm; have f5_ := f3_.symm; clear f1_ f2_ f3_; subst f4_; subst f5_))
     refine hK.out _ _ (z0 _ BK115.out) (fun hHeld => ?_)
     clear hK K
     refine norm_ (a' := ?_) ?_ ?_
     rotate_left
     ·show Act.put _ (some 53) _ = _
      simp only [Act.put, List.setIfInBounds_toArray, List.set_cons_zero, List.set_cons_succ, i64_w, i32_w]
      rfl
     refine pure_ (i := 4) (N := some 54) (v := ?_) (a' := ?_) (tf 5 2) rfl rfl (by kernel_rfl) (fun _ _ _ h => h) (Or.inl ⟨by rfl, ?_⟩) ?_ ?_; rotate_left; (· intro w'; go_simp; with_reducible rfl); rotate_left; (· simp only [Act.put, List.setIfInBounds_toArray, List.set_cons_zero, List.set_cons_succ, i64_w, i32_w]; rfl)
     refine one_ (i := 5) (N := none) (tf 6 1) rfl rfl (by kernel_rfl) (by decide) (fun K hK => ?_)
     have hs55 : w53.cell? ⟨gb102, 0, none⟩ = some (.int .i64 0) := z0 _ BK102.out
     have hfs55 := blk_frozen BK102.out 0
     have hns55_0 := NB101_102.out
     have hns55_2 := NB115_102.out
     have hms55_0 := NB102_101.out
     have hms55_2 := NB102_115.out
     have hs56 : w53.cell? ⟨gb102, 1, none⟩ = some (.slice none 0 0) := z1 _ BK102.out
     have hfs56 := blk_frozen BK102.out 1
     have hns56_0 := NB101_102.out
     have hns56_2 := NB115_102.out
     have hms56_0 := NB102_101.out
     have hms56_2 := NB102_115.out
     refine skip_ (w1 := ?_) (by rfl) rfl ?_ ?_
     rotate_left
     ·go_simp
      rfl
     refine hK.out _ _ (((cell_far (p := ⟨gb102, _, none⟩) NB115_102.out _).trans (((cell_far (p := ⟨gb102, _, none⟩) NB115_102.out _).trans (hHeld))))) (fun hHeld => ?_)
     clear hK K
     refine pure_ (i := 6) (N := some 5) (v := ?_) (a' := ?_) (tf 7 0) rfl rfl (by kernel_rfl) (fun _ _ _ h => h) (Or.inl ⟨by rfl, ?_⟩) ?_ ?_; rotate_left; (· intro w'; go_simp; with_reducible rfl); rotate_left; (· simp only [Act.put, List.setIfInBounds_toArray, List.set_cons_zero, List.set_cons_succ, i64_w, i32_w]; rfl)
     refine done_ (by kernel_rfl) ?_
     try go_wp2
     refine bodyPost_ret (results_ct rfl _ _ gb102 31 #[.int .i64 ji30, .slice Ao54 t125.length co54] (0, 0) _ rfl (by (with_reducible repeat (first | refine blk_drewN ?_ _ | refine blk_drew ?_ | refine blk_alloc ?_ _)); refine blk_put (cs := #[.int .i64 ji30, .slice none 0 0]) ?_ 1 _ rfl; (with_reducible repeat (first | refine blk_drewN ?_ _ | refine blk_drew ?_ | refine blk_alloc ?_ _)); refine blk_put (cs := #[.int .i64 0, .slice none 0 0]) ?_ 0 _ rfl; (with_reducible repeat (first | refine blk_drewN ?_ _ | refine blk_drew ?_ | refine blk_alloc ?_ _)); exact BK102.out) Try.underlying31 rfl (by kernel_rfl)) rfl ?_
     exact ⟨_, by first | rfl | (simp [errW_none, errW_some] <;> rfl) | (simp only [← hji30]; first | rfl | (simp [errW_none, errW_some] <;> rfl)) | (simp [*, errW_none, errW_some] <;> rfl), by (with_reducible repeat (first | apply Kd.R_alloc | apply Kd.R_drewN | apply Kd.R_drew)); exact Kd.R_mono (Kd.R_far (p := ⟨gb102, 1, none⟩) (Kd.R_far (p := ⟨gb102, 0, none⟩) (Kd.R_types HO127.out BK102.out (by decide)) (fun _ hk => hk.2) (.int .i64 ji30)) (fun _ hk => hk.2) (.slice Ao54 t125.length co54)) (fun _ hk => trivial), K3 HB GE101.out GE102.out GE115.out⟩
  ·replace c7 := Bool.eq_false_iff.mpr c7
   subst c7
   have H1 : ((impl_Window_copied.f a0_0 l0_1).bind fun bt128 => (some (bt128.1, bt128.2, 1))) = some (r1, r2, r3) := by rw [if_neg (show ¬ (false = true) by decide)] at H; exact H
   clear H
   have H := H1
   clear H1
   replace H := Option.bind_eq_some_iff.mp H
   obtain ⟨⟨t128, t129⟩, A570, H⟩ := H
   replace H : (some (t128, t129, 1)) = some (r1, r2, r3) := H
   have A57 := Aside0.mk A570
   clear A570
   simp only [Option.some.injEq, Prod.mk.injEq] at H
   obtain ⟨rfl, rfl, rfl⟩ := H
   go_enter Try.func19, Try.ntmps19
   go_wp2_with (first | ((with_reducible refine gate_dst (N := 2) rfl ?_); refine box_event rfl (N := 2) rfl (cs := #[.int .i64 a0_0, .slice A0_1 l0_1.length c0_1]) (t := 31) BX ?_; intro gb101 hg w58 hbox hb; have BK101 := am (hbox); have GW101 := am (GH HB hg); have GE101 := GW101; replace HB := am (below_step (KL HB) hb); clear hb hbox hg) | ((with_reducible refine gate_dst (N := 4) rfl ?_); refine box_event rfl (N := 4) rfl (cs := #[.int .i64 0, .slice none 0 0]) (t := 31) BX ?_; intro gb102 hg w59 hbox hb; have BK102 := am (hbox); have GW102 := am (GH1 HB GE101.out hg); have GE102 := GW102; replace HB := am (below_step (K1 HB GE101.out) hb); have NB101_102 := am (NL BK101 hg); have NB102_101 := am (NG BK101 hg); replace BK101 := am (BB BK101 hb); clear hb hbox hg; have hnb60 := NB101_102.out; have hnc60 := NB102_101.out; obtain ⟨hcz61_0, hcz61_1, hfz61_0⟩ := y2 w59 BK101.out) | ((with_reducible refine gate_callee (f := 22) rfl ?_); refine goesL_ (some 11) rfl rfl Try.func22 (by kernel_rfl) rfl #[.agg #[.int .i64 a0_0, .slice A0_1 l0_1.length c0_1]] rfl MT ?_; (with_reducible refine (impl_WindowOk.calls k a0_0 _ _ l0_1 true _ ?side1 ?side2 A3.out).mono ?_); (case side1 => exact KD HR0_1 HB); (case side2 => exact HC0_1.out); rintro e w62 ⟨rfl, hb⟩; refine ⟨_, rfl, ?_⟩; replace BK101 := am (BB BK101 hb); replace BK102 := am (BB BK102 hb); replace HB := am (below_step (K2 HB GE101.out GE102.out) hb); (try clear hb); obtain ⟨hcz63_0, hcz63_1, hfz63_0⟩ := y2 w62 BK101.out) | ((with_reducible refine gate_callee (f := 48) rfl ?_); refine goesL_ (some 18) rfl rfl Try.func48 (by kernel_rfl) rfl #[.slice A0_1 l0_1.length c0_1, .int .i64 a1] rfl MT ?_; (with_reducible refine (slices_BinarySearch_int_int.calls k _ _ l0_1 a1 t104 t105 _ ?side1 ?side2 A5.out).mono ?_); (case side1 => exact KD HR0_1 HB); (case side2 => exact HC0_1.out); rintro e w' ⟨rfl, ⟨nd, rfl⟩⟩; refine ⟨_, rfl, ?_⟩; (try (rw [drewN_self w62]; generalize hq_ : World.drewN w62 _ = w62; replace BK101 : Aside0 (w62.heap[gb101]? = some (.cells #[.int .i64 a0_0, .slice A0_1 l0_1.length c0_1] 31 (0, 0))) := ⟨by rw [← hq_]; exact (KB BK101)⟩; replace BK102 : Aside0 (w62.heap[gb102]? = some (.cells #[.int .i64 0, .slice none 0 0] 31 (0, 0))) := ⟨by rw [← hq_]; exact (KB BK102)⟩; replace HB : Aside0 (Below w.heap.size w w62) := ⟨by rw [← hq_]; exact (K2 HB GE101.out GE102.out)⟩; clear hq_; (try obtain ⟨hcz63_0, hcz63_1, hfz63_0⟩ := y2 w62 BK101.out)))) | ((with_reducible refine gate_callee (f := 49) rfl ?_); refine goesL_ (some 23) rfl rfl Try.func49 (by kernel_rfl) rfl #[.int .i64 a1, .int .i64 1, .int .i64 1000000] rfl MT ?_; (with_reducible refine (impl_in.calls a1 1 1000000 false _ A6.out).mono ?_); rintro e w' ⟨rfl, ⟨nd, rfl⟩⟩; refine ⟨_, rfl, ?_⟩; (try (rw [drewN_self w62]; generalize hq_ : World.drewN w62 _ = w62; replace BK101 : Aside0 (w62.heap[gb101]? = some (.cells #[.int .i64 a0_0, .slice A0_1 l0_1.length c0_1] 31 (0, 0))) := ⟨by rw [← hq_]; exact (KB BK101)⟩; replace BK102 : Aside0 (w62.heap[gb102]? = some (.cells #[.int .i64 0, .slice none 0 0] 31 (0, 0))) := ⟨by rw [← hq_]; exact (KB BK102)⟩; replace HB : Aside0 (Below w.heap.size w w62) := ⟨by rw [← hq_]; exact (K2 HB GE101.out GE102.out)⟩; clear hq_; (try obtain ⟨hcz63_0, hcz63_1, hfz63_0⟩ := y2 w62 BK101.out)))) | ((with_reducible refine gate_callee (f := 50) rfl ?_); refine goesL_ (some 26) rfl rfl Try.func50 (by kernel_rfl) rfl #[.agg #[.int .i64 a0_0, .slice A0_1 l0_1.length c0_1]] rfl MT ?_; (with_reducible refine (impl_Window_copied.calls a0_0 _ _ l0_1 t128 t129 _ ?side1 ?side2 A57.out).mono ?_); (case side1 => exact KD HR0_1 HB); (case side2 => exact HC0_1.out); rintro e w64 ⟨v130, rfl, ho0, hb⟩; refine ⟨_, rfl, ?_⟩; have HO131 := am (Kd.R_lower ho0 (below_size (K2 HB GE101.out GE102.out))); replace BK101 := am (BB BK101 hb); replace BK102 := am (BB BK102 hb); replace HB := am (below_step (K2 HB GE101.out GE102.out) hb); (try clear hb); (try clear ho0); obtain ⟨hcz65_0, hcz65_1, hfz65_0⟩ := y2 w64 BK102.out; obtain ⟨Ao66, co66, eo66⟩ := Kd.R_slice HO131.out; subst eo66))
   refine bodyPost_ret (results_ct rfl _ _ gb102 31 #[.int .i64 t128, .slice Ao66 t129.length co66] (0, 0) _ rfl (by (with_reducible repeat (first | refine blk_drewN ?_ _ | refine blk_drew ?_ | refine blk_alloc ?_ _)); refine blk_put (cs := #[.int .i64 t128, .slice none 0 0]) ?_ 1 _ rfl; (with_reducible repeat (first | refine blk_drewN ?_ _ | refine blk_drew ?_ | refine blk_alloc ?_ _)); refine blk_put (cs := #[.int .i64 0, .slice none 0 0]) ?_ 0 _ rfl; (with_reducible repeat (first | refine blk_drewN ?_ _ | refine blk_drew ?_ | refine blk_alloc ?_ _)); exact BK102.out) Try.underlying31 rfl (by kernel_rfl)) rfl ?_
   exact ⟨_, ER, by (with_reducible repeat (first | apply Kd.R_alloc | apply Kd.R_drewN | apply Kd.R_drew)); exact Kd.R_mono (Kd.R_far (p := ⟨gb102, 1, none⟩) (Kd.R_far (p := ⟨gb102, 0, none⟩) (Kd.R_types HO131.out BK102.out (by decide)) (fun _ hk => hk.2) (.int .i64 t128)) (fun _ hk => hk.2) (.slice Ao66 t129.length co66)) (fun _ hk => trivial), K2 HB GE101.out GE102.out⟩
 ·replace c4 := Bool.eq_false_iff.mpr c4
  subst c4
  have H1 : (some (0, ([] : List Int), 1)) = some (r1, r2, r3) := by rw [if_neg (show ¬ (false = true) by decide)] at H; exact H
  clear H
  have H := H1
  clear H1
  simp only [Option.some.injEq, Prod.mk.injEq] at H
  obtain ⟨rfl, rfl, rfl⟩ := H
  go_enter Try.func19, Try.ntmps19
  go_wp2_with (first | ((with_reducible refine gate_dst (N := 2) rfl ?_); refine box_event rfl (N := 2) rfl (cs := #[.int .i64 a0_0, .slice A0_1 l0_1.length c0_1]) (t := 31) BX ?_; intro gb101 hg w67 hbox hb; have BK101 := am (hbox); have GW101 := am (GH HB hg); have GE101 := GW101; replace HB := am (below_step (KL HB) hb); clear hb hbox hg) | ((with_reducible refine gate_dst (N := 4) rfl ?_); refine box_event rfl (N := 4) rfl (cs := #[.int .i64 0, .slice none 0 0]) (t := 31) BX ?_; intro gb102 hg w68 hbox hb; have BK102 := am (hbox); have GW102 := am (GH1 HB GE101.out hg); have GE102 := GW102; replace HB := am (below_step (K1 HB GE101.out) hb); have NB101_102 := am (NL BK101 hg); have NB102_101 := am (NG BK101 hg); replace BK101 := am (BB BK101 hb); clear hb hbox hg; have hnb69 := NB101_102.out; have hnc69 := NB102_101.out; obtain ⟨hcz70_0, hcz70_1, hfz70_0⟩ := y2 w68 BK101.out) | ((with_reducible refine gate_callee (f := 22) rfl ?_); refine goesL_ (some 11) rfl rfl Try.func22 (by kernel_rfl) rfl #[.agg #[.int .i64 a0_0, .slice A0_1 l0_1.length c0_1]] rfl MT ?_; (with_reducible refine (impl_WindowOk.calls k a0_0 _ _ l0_1 false _ ?side1 ?side2 A3.out).mono ?_); (case side1 => exact KD HR0_1 HB); (case side2 => exact HC0_1.out); rintro e w71 ⟨rfl, hb⟩; refine ⟨_, rfl, ?_⟩; replace BK101 := am (BB BK101 hb); replace BK102 := am (BB BK102 hb); replace HB := am (below_step (K2 HB GE101.out GE102.out) hb); (try clear hb); obtain ⟨hcz72_0, hcz72_1, hfz72_0⟩ := y2 w71 BK102.out))
  refine bodyPost_ret (results_ct rfl _ _ gb102 31 #[.int .i64 0, .slice none 0 0] (0, 0) _ rfl (by (with_reducible repeat (first | refine blk_drewN ?_ _ | refine blk_drew ?_ | refine blk_alloc ?_ _)); refine blk_put (cs := #[.int .i64 0, .slice none 0 0]) ?_ 1 _ rfl; (with_reducible repeat (first | refine blk_drewN ?_ _ | refine blk_drew ?_ | refine blk_alloc ?_ _)); refine blk_put (cs := #[.int .i64 0, .slice none 0 0]) ?_ 0 _ rfl; (with_reducible repeat (first | refine blk_drewN ?_ _ | refine blk_drew ?_ | refine blk_alloc ?_ _)); exact BK102.out) Try.underlying31 rfl (by kernel_rfl)) rfl ?_
  exact ⟨_, ER, by first | exact Kd.R_nil _ _ _ _ _ | exact Kd.N_nil _ _ _ _ _ | exact Kd.V_nil _ _ _ _ _ | exact Kd.Q_nil _ _ _ _ _ | exact Kd.S_nil _ _ _ _ _, K2 HB GE101.out GE102.out⟩
mutual
def laws_FnWindowSee.j0 : Nat → Int → Int → Int → Bool → Int → List Int → Int → List Int → Int → List Int → Option (Bool)
 | 0, _, _, _, _, _, _, _, _, _, _ => none
 | k + 1, x4, x6, x8, x53, x107000, x107001, x113000, x113001, x119000, x119001 => if x53 = true then (if x6 = x8 then ((laws_ovWindow.f k x113000 x113001 x119000 x119001).bind fun t123 => (if t123 = true then ((impl_WindowOk.f k x107000 x107001).bind fun t124 => ((spec_WindowOk.f k x107000 x107001).bind fun t125 => (some (t124 == t125)))) else (some false))) else (some false)) else (laws_FnWindowSee.l0 k x4 x6 false 0 x107000 x107001 x113000 x113001)
def laws_FnWindowSee.l0 : Nat → Int → Int → Bool → Int → Int → List Int → Int → List Int → Option (Bool)
 | 0, _, _, _, _, _, _, _, _ => none
 | k + 1, x4, x6, x9, x10, x107000, x107001, x113000, x113001 => if x10 < (x107001.length : Int) then (if x9 = true then (laws_FnWindowSee.l0 k x4 x6 true (wrap64 (x10 + 1)) x107000 x107001 x113000 x113001) else (if 0 ≤ x10 then (laws_FnWindowSee.l0 k x4 x6 ((rd x107001 x10) == x4) (wrap64 (x10 + 1)) x107000 x107001 x113000 x113001) else (none))) else (if x4 ≥ 1 then (if x4 ≤ 1000000 then (if x4 > (wrap64 (x107000 - 16)) then (if ((x6 == 0) != (!x9)) = true then (laws_FnWindowSee.j2 k x4 x6 true x107000 x107001 x113000 x113001) else (if x6 = 0 then (laws_FnWindowSee.j2 k x4 x6 false x107000 x107001 x113000 x113001) else ((laws_ovWindow.f k x113000 x113001 x107000 x107001).bind fun t127 => (laws_FnWindowSee.j2 k x4 x6 (!t127) x107000 x107001 x113000 x113001)))) else (if ((x6 == 0) != false) = true then (laws_FnWindowSee.j2 k x4 x6 true x107000 x107001 x113000 x113001) else (if x6 = 0 then (laws_FnWindowSee.j2 k x4 x6 false x107000 x107001 x113000 x113001) else ((laws_ovWindow.f k x113000 x113001 x107000 x107001).bind fun t128 => (laws_FnWindowSee.j2 k x4 x6 (!t128) x107000 x107001 x113000 x113001))))) else (if ((x6 == 0) != false) = true then (laws_FnWindowSee.j2 k x4 x6 true x107000 x107001 x113000 x113001) else (if x6 = 0 then (laws_FnWindowSee.j2 k x4 x6 false x107000 x107001 x113000 x113001) else ((laws_ovWindow.f k x113000 x113001 x107000 x107001).bind fun t129 => (laws_FnWindowSee.j2 k x4 x6 (!t129) x107000 x107001 x113000 x113001))))) else (if ((x6 == 0) != false) = true then (laws_FnWindowSee.j2 k x4 x6 true x107000 x107001 x113000 x113001) else (if x6 = 0 then (laws_FnWindowSee.j2 k x4 x6 false x107000 x107001 x113000 x113001) else ((laws_ovWindow.f k x113000 x113001 x107000 x107001).bind fun t130 => (laws_FnWindowSee.j2 k x4 x6 (!t130) x107000 x107001 x113000 x113001)))))
def laws_FnWindowSee.j2 : Nat → Int → Int → Bool → Int → List Int → Int → List Int → Option (Bool)
 | 0, _, _, _, _, _, _, _ => none
 | k + 1, x4, x6, x115, x107000, x107001, x113000, x113001 => if x115 = true then (some false) else ((impl_WindowSee.f k x113000 x113001 x4).bind fun bt131 => ((impl_WindowOk.f k x113000 x113001).bind fun t137 => (if t137 = true then (if x113000 ≥ x107000 then (if x6 = 0 then (some (bt131.2.2 == 3)) else (some true)) else (some false)) else (some false))))
end
def laws_FnWindowSee.f (k : Nat) (l0 : List Int) : Option (Bool) := if (l0.length : Int) > 1048576 then (some true) else ((spec_DrawWindowSee.f k l0).bind fun bt101 => ((impl_WindowSee.f k bt101.1 bt101.2.1 bt101.2.2).bind fun bt107 => ((spec_WindowSee.f k bt101.1 bt101.2.1 bt101.2.2).bind fun bt113 => (if bt107.2.2 = bt113.2.2 then ((laws_ovWindow.f k bt107.1 bt107.2.1 bt113.1 bt113.2.1).bind fun t119 => (if t119 = true then ((impl_WindowOk.f k bt101.1 bt101.2.1).bind fun t120 => ((spec_WindowOk.f k bt101.1 bt101.2.1).bind fun t121 => (if (t120 != t121) = true then (laws_FnWindowSee.j0 k bt101.2.2 bt107.2.2 bt113.2.2 true bt101.1 bt101.2.1 bt107.1 bt107.2.1 bt113.1 bt113.2.1) else ((spec_WindowOk.f k bt101.1 bt101.2.1).bind fun t122 => (laws_FnWindowSee.j0 k bt101.2.2 bt107.2.2 bt113.2.2 (!t122) bt101.1 bt101.2.1 bt107.1 bt107.2.1 bt113.1 bt113.2.1))))) else (laws_FnWindowSee.j0 k bt101.2.2 bt107.2.2 bt113.2.2 true bt101.1 bt101.2.1 bt107.1 bt107.2.1 bt113.1 bt113.2.1))) else (laws_FnWindowSee.j0 k bt101.2.2 bt107.2.2 bt113.2.2 true bt101.1 bt101.2.1 bt107.1 bt107.2.1 bt113.1 bt113.2.1)))))
def laws_FnWindowSee.T6 : Bool × List (List Nat × List Nat) := (true, [([], []), ([], []), ([0, 1], [0, 1]), ([2], [2]), ([3], [3]), ([3], [3]), ([4, 5, 3, 3], [3, 4, 5]), ([6, 3], [3, 6]), ([3, 7], [3, 7]), ([8, 6], [8]), ([9], [9]), ([10, 9, 9], [9, 10]), ([9], [9]), ([12, 11, 9], [9, 12]), ([11, 13, 9], [9, 11, 13]), ([9, 14], [9, 14]), ([15, 13], [15]), ([16], [16]), ([17, 16, 16], [16, 17]), ([18, 16], [16, 18]), ([16, 19], [16, 19])])
def laws_FnWindowSee.B6 : List Nat := [0, 0, 3, 7, 15, 15, 63, 127, 255, 511, 1023, 2047, 1023, 8191, 16383, 32767, 65535, 131071, 262143, 524287, 1048575]
theorem laws_FnWindowSee.tab6 : rtab .any (opsOf Try.f5 6) = laws_FnWindowSee.T6 := by kernel_rfl
theorem laws_FnWindowSee.bits6 : waitsOk laws_FnWindowSee.T6.2 laws_FnWindowSee.B6 = true := by kernel_rfl
def laws_FnWindowSee.T7 : Bool × List (List Nat × List Nat) := (true, [([], []), ([], []), ([0, 1], [0, 1]), ([2], [2]), ([3], [3]), ([3], [3]), ([4, 5, 3, 3], [3, 4, 5]), ([3, 6], [3, 6]), ([7, 6], [7]), ([8], [8]), ([9, 8, 8], [8, 9]), ([8], [8]), ([11, 10, 8], [8, 11]), ([10, 12, 8], [8, 10, 12]), ([8, 13], [8, 13]), ([14, 12, 0, 1, 2, 3, 4, 5, 6, 7, 8, 9, 10, 11, 12, 13, 14], [14])])
def laws_FnWindowSee.B7 : List Nat := [0, 0, 3, 7, 15, 15, 63, 127, 255, 511, 1023, 511, 4095, 8191, 16383, 32767]
theorem laws_FnWindowSee.tab7 : rtab .any (opsOf Try.f5 7) = laws_FnWindowSee.T7 := by kernel_rfl
theorem laws_FnWindowSee.bits7 : waitsOk laws_FnWindowSee.T7.2 laws_FnWindowSee.B7 = true := by kernel_rfl
set_option maxHeartbeats 8000000 in
set_option maxRecDepth 100000 in
theorem laws_FnWindowSee.calls (k : Nat) (A0 : Option Addr) (c0 : Nat) (l0 : List Int) (r : Bool) (w : World) (hr0 : Kd.C (Kd.int .u8) w A0 l0.length l0) (hc0 : l0.length ≤ c0) (hr0_ : r = true) (h : laws_FnWindowSee.f k l0 = some r) :
  Calls Try.prog 5 #[.slice A0 l0.length c0] w fun e w' => e = .returned (.bool r) ∧ Below w.heap.size w w' := by
 have hu31 := Try.underlying31
 have HR0 := Aside0.mk hr0
 have HC0 := Aside0.mk hc0
 clear hr0 hc0
 have HB := am (Below.refl w.heap.size w)
 have H : (if (l0.length : Int) > 1048576 then (some true) else ((spec_DrawWindowSee.f k l0).bind fun bt101 => ((impl_WindowSee.f k bt101.1 bt101.2.1 bt101.2.2).bind fun bt107 => ((spec_WindowSee.f k bt101.1 bt101.2.1 bt101.2.2).bind fun bt113 => (if bt107.2.2 = bt113.2.2 then ((laws_ovWindow.f k bt107.1 bt107.2.1 bt113.1 bt113.2.1).bind fun t119 => (if t119 = true then ((impl_WindowOk.f k bt101.1 bt101.2.1).bind fun t120 => ((spec_WindowOk.f k bt101.1 bt101.2.1).bind fun t121 => (if (t120 != t121) = true then (laws_FnWindowSee.j0 k bt101.2.2 bt107.2.2 bt113.2.2 true bt101.1 bt101.2.1 bt107.1 bt107.2.1 bt113.1 bt113.2.1) else ((spec_WindowOk.f k bt101.1 bt101.2.1).bind fun t122 => (laws_FnWindowSee.j0 k bt101.2.2 bt107.2.2 bt113.2.2 (!t122) bt101.1 bt101.2.1 bt107.1 bt107.2.1 bt113.1 bt113.2.1))))) else (laws_FnWindowSee.j0 k bt101.2.2 bt107.2.2 bt113.2.2 true bt101.1 bt101.2.1 bt107.1 bt107.2.1 bt113.1 bt113.2.1))) else (laws_FnWindowSee.j0 k bt101.2.2 bt107.2.2 bt113.2.2 true bt101.1 bt101.2.1 bt107.1 bt107.2.1 bt113.1 bt113.2.1)))))) = some r := h
 clear h
 have HR_ := Aside0.mk hr0_
 clear hr0_
 by_cases c2 : (l0.length : Int) > 1048576
 ·rw [if_pos c2] at H
  have c2b0 : decide (1048576 < (l0.length : Int)) = true := decide_eq_true c2
  have c2b1 : decide (1048576 < l0.length) = true := decide_eq_true (by omega)
  clear c2
  obtain rfl := Option.some.inj H
  go_enter Try.func5, Try.ntmps5
  go_wp2
  go_ret
  exact ⟨ER, KL HB⟩
 ·rw [if_neg c2] at H
  have c2b0 : decide (1048576 < (l0.length : Int)) = false := decide_eq_false c2
  have c2b1 : decide (1048576 < l0.length) = false := decide_eq_false (by omega)
  clear c2
  replace H := Option.bind_eq_some_iff.mp H
  obtain ⟨⟨t101, t102, t105⟩, A30, H⟩ := H
  replace H : ((impl_WindowSee.f k t101 t102 t105).bind fun bt107 => ((spec_WindowSee.f k t101 t102 t105).bind fun bt113 => (if bt107.2.2 = bt113.2.2 then ((laws_ovWindow.f k bt107.1 bt107.2.1 bt113.1 bt113.2.1).bind fun t119 => (if t119 = true then ((impl_WindowOk.f k t101 t102).bind fun t120 => ((spec_WindowOk.f k t101 t102).bind fun t121 => (if (t120 != t121) = true then (laws_FnWindowSee.j0 k t105 bt107.2.2 bt113.2.2 true t101 t102 bt107.1 bt107.2.1 bt113.1 bt113.2.1) else ((spec_WindowOk.f k t101 t102).bind fun t122 => (laws_FnWindowSee.j0 k t105 bt107.2.2 bt113.2.2 (!t122) t101 t102 bt107.1 bt107.2.1 bt113.1 bt113.2.1))))) else (laws_FnWindowSee.j0 k t105 bt107.2.2 bt113.2.2 true t101 t102 bt107.1 bt107.2.1 bt113.1 bt113.2.1))) else (laws_FnWindowSee.j0 k t105 bt107.2.2 bt113.2.2 true t101 t102 bt107.1 bt107.2.1 bt113.1 bt113.2.1)))) = some r := H
  have A3 := Aside0.mk A30
  clear A30
  replace H := Option.bind_eq_some_iff.mp H
  obtain ⟨⟨t107, t108, t111⟩, A40, H⟩ := H
  replace H : ((spec_WindowSee.f k t101 t102 t105).bind fun bt113 => (if t111 = bt113.2.2 then ((laws_ovWindow.f k t107 t108 bt113.1 bt113.2.1).bind fun t119 => (if t119 = true then ((impl_WindowOk.f k t101 t102).bind fun t120 => ((spec_WindowOk.f k t101 t102).bind fun t121 => (if (t120 != t121) = true then (laws_FnWindowSee.j0 k t105 t111 bt113.2.2 true t101 t102 t107 t108 bt113.1 bt113.2.1) else ((spec_WindowOk.f k t101 t102).bind fun t122 => (laws_FnWindowSee.j0 k t105 t111 bt113.2.2 (!t122) t101 t102 t107 t108 bt113.1 bt113.2.1))))) else (laws_FnWindowSee.j0 k t105 t111 bt113.2.2 true t101 t102 t107 t108 bt113.1 bt113.2.1))) else (laws_FnWindowSee.j0 k t105 t111 bt113.2.2 true t101 t102 t107 t108 bt113.1 bt113.2.1))) = some r := H
  have A4 := Aside0.mk A40
  clear A40
  replace H := Option.bind_eq_some_iff.mp H
  obtain ⟨⟨t113, t114, t117⟩, A50, H⟩ := H
  replace H : (if t111 = t117 then ((laws_ovWindow.f k t107 t108 t113 t114).bind fun t119 => (if t119 = true then ((impl_WindowOk.f k t101 t102).bind fun t120 => ((spec_WindowOk.f k t101 t102).bind fun t121 => (if (t120 != t121) = true then (laws_FnWindowSee.j0 k t105 t111 t117 true t101 t102 t107 t108 t113 t114) else ((spec_WindowOk.f k t101 t102).bind fun t122 => (laws_FnWindowSee.j0 k t105 t111 t117 (!t122) t101 t102 t107 t108 t113 t114))))) else (laws_FnWindowSee.j0 k t105 t111 t117 true t101 t102 t107 t108 t113 t114))) else (laws_FnWindowSee.j0 k t105 t111 t117 true t101 t102 t107 t108 t113 t114)) = some r := H
  have A5 := Aside0.mk A50
  clear A50
  have HC6 := Aside0.mk H
  clear H
  go_enter Try.func5, Try.ntmps5
  go_upto_region 6 with (first | ((with_reducible refine gate_callee (f := 18) rfl ?_); refine goesL_ (some 18) rfl rfl Try.func18 (by kernel_rfl) rfl #[.slice A0 l0.length c0] rfl MT ?_; (with_reducible refine (spec_DrawWindowSee.calls k _ _ l0 t101 t102 t105 _ ?side1 ?side2 A3.out).mono ?_); (case side1 => exact KC HR0.out); (case side2 => exact HC0.out); rintro e w7 ⟨v103, rfl, ho0, hb⟩; refine ⟨_, rfl, ?_⟩; have HO104 := am (Kd.R_lower ho0 (below_size (KL HB))); replace HB := am (below_step (KL HB) hb); (try clear hb); (try clear ho0)) | ((with_reducible refine gate_dst (N := 3) rfl ?_); refine box_event rfl (N := 3) rfl (cs := #[.int .i64 0, .slice none 0 0]) (t := 31) BX ?_; intro gb106 hg w8 hbox hb; replace HO104 := am (Kd.R_below (KR HO104) hb); have BK106 := am (hbox); have GW106 := am (GH HB hg); have GE106 := GW106; replace HB := am (below_step (KL HB) hb); clear hb hbox hg; obtain ⟨hcz9_0, hcz9_1, hfz9_0⟩ := y2 w8 BK106.out; obtain ⟨Ao10, co10, eo10⟩ := Kd.R_slice HO104.out; subst eo10) | ((with_reducible refine gate_callee (f := 19) rfl ?_); refine goesL_ (some 24) rfl rfl Try.func19 (by kernel_rfl) rfl #[.agg #[.int .i64 t101, .slice Ao10 t102.length co10], .int .i64 t105] rfl MT ?_; (with_reducible refine (impl_WindowSee.calls k t101 _ _ t102 t105 t107 t108 t111 _ ?side1 ?side2 A4.out).mono ?_); (case side1 => refine (Kd.R_reads' (e := 3) (base := w.heap.size) (ok := fun k_ => True) (n := t102.length) (c := co10) ?_).2.2; exact (by (with_reducible repeat (first | apply Kd.R_alloc | apply Kd.R_drewN | apply Kd.R_drew)); exact (RF HO104.out BK106.out))); (case side2 => exact (Kd.R_reads' HO104.out).2.1); rintro e w11 ⟨v109, rfl, ho0, hb⟩; refine ⟨_, rfl, ?_⟩; have HO110 := am (Kd.R_lower (Kd.R_new' ho0 (Kd.R_lt (by (with_reducible repeat (first | apply Kd.R_alloc | apply Kd.R_drewN | apply Kd.R_drew)); exact (RF HO104.out BK106.out)))) (below_size (K1 HB GE106.out))); replace HO104 := am (Kd.R_elder' (by (with_reducible repeat (first | apply Kd.R_alloc | apply Kd.R_drewN | apply Kd.R_drew)); exact (RF HO104.out BK106.out)) (Kd.R_base ho0) hb); replace BK106 := am (blk_below (g := gb106) (o := .cells #[.int .i64 t101, .slice Ao10 t102.length co10] 31 (0, 0)) (by (with_reducible repeat (first | refine blk_drewN ?_ _ | refine blk_drew ?_ | refine blk_alloc ?_ _)); refine blk_put (cs := #[.int .i64 t101, .slice none 0 0]) ?_ 1 _ rfl; (with_reducible repeat (first | refine blk_drewN ?_ _ | refine blk_drew ?_ | refine blk_alloc ?_ _)); refine blk_put (cs := #[.int .i64 0, .slice none 0 0]) ?_ 0 _ rfl; (with_reducible repeat (first | refine blk_drewN ?_ _ | refine blk_drew ?_ | refine blk_alloc ?_ _)); exact BK106.out) hb); replace HB := am (below_step (K1 HB GE106.out) hb); (try clear hb); (try clear hb2); (try clear hk); (try clear hi); (try clear ho0)) | ((with_reducible refine gate_dst (N := 5) rfl ?_); refine box_event rfl (N := 5) rfl (cs := #[.int .i64 0, .slice none 0 0]) (t := 31) BX ?_; intro gb112 hg w12 hbox hb; replace HO104 := am (Kd.R_below (KR HO104) hb); replace HO110 := am (Kd.R_below (KR HO110) hb); have BK112 := am (hbox); have GW112 := am (GH1 HB GE106.out hg); have GE112 := GW112; replace HB := am (below_step (K1 HB GE106.out) hb); have NB106_112 := am (NL BK106 hg); have NB112_106 := am (NG BK106 hg); replace BK106 := am (BB BK106 hb); clear hb hbox hg; have hnb13 := NB112_106.out; have hnc13 := NB106_112.out; obtain ⟨hcz14_0, hcz14_1, hfz14_0⟩ := y2 w12 BK112.out; obtain ⟨Ao15, co15, eo15⟩ := Kd.R_slice HO110.out; subst eo15; obtain ⟨hcz16_0, hcz16_1, hfz16_0⟩ := y2 w12 BK106.out) | ((with_reducible refine gate_callee (f := 20) rfl ?_); refine goesL_ (some 30) rfl rfl Try.func20 (by kernel_rfl) rfl #[.agg #[.int .i64 t101, .slice Ao10 t102.length co10], .int .i64 t105] rfl MT ?_; (with_reducible refine (spec_WindowSee.calls k t101 _ _ t102 t105 t113 t114 t117 _ ?side1 ?side2 A5.out).mono ?_); (case side1 => refine (Kd.R_reads' (e := 3) (base := w.heap.size) (ok := fun k_ => (True ∧ some k_ ≠ (.slice Ao15 t108.length co15 : Value).ownBlock)) (n := t102.length) (c := co10) ?_).2.2; exact (by (with_reducible repeat (first | apply Kd.R_alloc | apply Kd.R_drewN | apply Kd.R_drew)); exact (RF HO104.out BK112.out))); (case side2 => exact (Kd.R_reads' HO104.out).2.1); rintro e w17 ⟨v115, rfl, ho0, hb⟩; refine ⟨_, rfl, ?_⟩; have HO116 := am (Kd.R_lower (Kd.R_new' (Kd.R_new' ho0 (Kd.R_lt (by (with_reducible repeat (first | apply Kd.R_alloc | apply Kd.R_drewN | apply Kd.R_drew)); exact (RF HO104.out BK112.out)))) (Kd.R_lt (by (with_reducible repeat (first | apply Kd.R_alloc | apply Kd.R_drewN | apply Kd.R_drew)); exact (RF HO110.out BK112.out)))) (below_size (K2 HB GE106.out GE112.out))); replace HO104 := am (Kd.R_elder' (by (with_reducible repeat (first | apply Kd.R_alloc | apply Kd.R_drewN | apply Kd.R_drew)); exact (RF HO104.out BK112.out)) (Kd.R_base ho0) hb); replace HO110 := am (Kd.R_elder' (by (with_reducible repeat (first | apply Kd.R_alloc | apply Kd.R_drewN | apply Kd.R_drew)); exact (RF HO110.out BK112.out)) (Kd.R_base ho0) hb); replace BK106 := am (blk_below (g := gb106) (o := .cells #[.int .i64 t101, .slice Ao10 t102.length co10] 31 (0, 0)) (by (with_reducible repeat (first | refine blk_drewN ?_ _ | refine blk_drew ?_ | refine blk_alloc ?_ _)); refine blk_far ?_ NB106_112.out _; (with_reducible repeat (first | refine blk_drewN ?_ _ | refine blk_drew ?_ | refine blk_alloc ?_ _)); refine blk_far ?_ NB106_112.out _; (with_reducible repeat (first | refine blk_drewN ?_ _ | refine blk_drew ?_ | refine blk_alloc ?_ _)); exact BK106.out) hb); replace BK112 := am (blk_below (g := gb112) (o := .cells #[.int .i64 t107, .slice Ao15 t108.length co15] 31 (0, 0)) (by (with_reducible repeat (first | refine blk_drewN ?_ _ | refine blk_drew ?_ | refine blk_alloc ?_ _)); refine blk_put (cs := #[.int .i64 t107, .slice none 0 0]) ?_ 1 _ rfl; (with_reducible repeat (first | refine blk_drewN ?_ _ | refine blk_drew ?_ | refine blk_alloc ?_ _)); refine blk_put (cs := #[.int .i64 0, .slice none 0 0]) ?_ 0 _ rfl; (with_reducible repeat (first | refine blk_drewN ?_ _ | refine blk_drew ?_ | refine blk_alloc ?_ _)); exact BK112.out) hb); replace HB := am (below_step (K2 HB GE106.out GE112.out) hb); (try clear hb); (try clear hb2); (try clear hk); (try clear hi); (try clear ho0)) | ((with_reducible refine gate_dst (N := 7) rfl ?_); refine box_event rfl (N := 7) rfl (cs := #[.int .i64 0, .slice none 0 0]) (t := 31) BX ?_; intro gb118 hg w18 hbox hb; replace HO104 := am (Kd.R_below (KR HO104) hb); replace HO110 := am (Kd.R_below (KR HO110) hb); replace HO116 := am (Kd.R_below (KR HO116) hb); have BK118 := am (hbox); have GW118 := am (GH2 HB GE106.out GE112.out hg); have GE118 := GW118; replace HB := am (below_step (K2 HB GE106.out GE112.out) hb); have NB106_118 := am (NL BK106 hg); have NB118_106 := am (NG BK106 hg); replace BK106 := am (BB BK106 hb); have NB112_118 := am (NL BK112 hg); have NB118_112 := am (NG BK112 hg); replace BK112 := am (BB BK112 hb); clear hb hbox hg; have hnb19 := NB118_106.out; have hnc19 := NB106_118.out; have hnb20 := NB118_112.out; have hnc20 := NB112_118.out; obtain ⟨hcz21_0, hcz21_1, hfz21_0⟩ := y2 w18 BK118.out; obtain ⟨Ao22, co22, eo22⟩ := Kd.R_slice HO116.out; subst eo22))
  (try simp only [Act.put, List.setIfInBounds_toArray, List.set_cons_zero, List.set_cons_succ])
  go_cut [53] (fun v53 wc => ∃ (kq : Nat) (x53_5 : Bool), v53 = .bool x53_5 ∧ Aside0 (laws_FnWindowSee.j0 kq t105 t111 t117 x53_5 t101 t102 t107 t108 t113 t114 = some r) ∧ Aside0 (kq ≤ k) ∧ Aside0 (Kd.R (Kd.int .i64) 3 wc w.heap.size (fun k_ => some k_ ≠ ((.slice Ao15 t108.length co15) : Value).ownBlock ∧ some k_ ≠ ((.slice Ao22 t114.length co22) : Value).ownBlock) (.slice Ao10 t102.length co10) t102) ∧ Aside0 (Kd.R (Kd.int .i64) 3 wc w.heap.size (fun k_ => some k_ ≠ ((.slice Ao10 t102.length co10) : Value).ownBlock ∧ some k_ ≠ ((.slice Ao22 t114.length co22) : Value).ownBlock) (.slice Ao15 t108.length co15) t108) ∧ Aside0 (Kd.R (Kd.int .i64) 3 wc w.heap.size (fun k_ => some k_ ≠ ((.slice Ao10 t102.length co10) : Value).ownBlock ∧ some k_ ≠ ((.slice Ao15 t108.length co15) : Value).ownBlock) (.slice Ao22 t114.length co22) t114) ∧ Aside0 (wc.heap[gb106]? = some (.cells #[.int .i64 t101, (.slice Ao10 t102.length co10)] 31 (0, 0))) ∧ Aside0 (wc.heap[gb112]? = some (.cells #[.int .i64 t107, (.slice Ao15 t108.length co15)] 31 (0, 0))) ∧ Aside0 (wc.heap[gb118]? = some (.cells #[.int .i64 t113, (.slice Ao22 t114.length co22)] 31 (0, 0))) ∧ Aside0 (Below w.heap.size w wc))
  case first =>
   have H := HC6.out
   clear HC6
   by_cases c23 : t111 = t117
   ·rw [if_pos c23] at H
    have c23b0 : (t111 == t117) = true := beq_iff_eq.mpr c23
    have c23b1 : (t111 != t117) = false := bne_eq_false_iff_eq.mpr c23
    clear c23
    (first | rw [c23b0] | (simp only [i64_w, i32_w]; rw [c23b0]) | skip)
    replace H := Option.bind_eq_some_iff.mp H
    obtain ⟨t119, A240, H⟩ := H
    replace H : (if t119 = true then ((impl_WindowOk.f k t101 t102).bind fun t120 => ((spec_WindowOk.f k t101 t102).bind fun t121 => (if (t120 != t121) = true then (laws_FnWindowSee.j0 k t105 t111 t117 true t101 t102 t107 t108 t113 t114) else ((spec_WindowOk.f k t101 t102).bind fun t122 => (laws_FnWindowSee.j0 k t105 t111 t117 (!t122) t101 t102 t107 t108 t113 t114))))) else (laws_FnWindowSee.j0 k t105 t111 t117 true t101 t102 t107 t108 t113 t114)) = some r := H
    have A24 := Aside0.mk A240
    clear A240
    by_cases c25 : t119 = true
    ·subst c25
     have H1 : ((impl_WindowOk.f k t101 t102).bind fun t120 => ((spec_WindowOk.f k t101 t102).bind fun t121 => (if (t120 != t121) = true then (laws_FnWindowSee.j0 k t105 t111 t117 true t101 t102 t107 t108 t113 t114) else ((spec_WindowOk.f k t101 t102).bind fun t122 => (laws_FnWindowSee.j0 k t105 t111 t117 (!t122) t101 t102 t107 t108 t113 t114))))) = some r := by rw [if_pos rfl] at H; exact H
     clear H
     have H := H1
     clear H1
     replace H := Option.bind_eq_some_iff.mp H
     obtain ⟨t120, A260, H⟩ := H
     replace H : ((spec_WindowOk.f k t101 t102).bind fun t121 => (if (t120 != t121) = true then (laws_FnWindowSee.j0 k t105 t111 t117 true t101 t102 t107 t108 t113 t114) else ((spec_WindowOk.f k t101 t102).bind fun t122 => (laws_FnWindowSee.j0 k t105 t111 t117 (!t122) t101 t102 t107 t108 t113 t114)))) = some r := H
     have A26 := Aside0.mk A260
     clear A260
     replace H := Option.bind_eq_some_iff.mp H
     obtain ⟨t121, A270, H⟩ := H
     replace H : (if (t120 != t121) = true then (laws_FnWindowSee.j0 k t105 t111 t117 true t101 t102 t107 t108 t113 t114) else ((spec_WindowOk.f k t101 t102).bind fun t122 => (laws_FnWindowSee.j0 k t105 t111 t117 (!t122) t101 t102 t107 t108 t113 t114))) = some r := H
     have A27 := Aside0.mk A270
     clear A270
     by_cases c28 : (t120 != t121) = true
     ·rw [if_pos c28] at H
      have c28b0 : (t120 != t121) = true := c28
      (try (have c28b1 : decide (t120 = t121) = false := by simpa using c28))
      (try (have c28b2 : (t120 == t121) = false := by simpa using c28))
      (try (have c28b3 : ¬ (t120 = t121) := by simpa using c28))
      clear c28
      have H' := Aside0.mk H
      clear H
      try go_wp2
      generalize hq_ : ((w18.setCell ⟨gb118, 0, none⟩ (.int .i64 t113)).setCell ⟨gb118, 1, none⟩ (.slice Ao22 t114.length co22)) = w29
      have n0_ : Aside0 (Kd.R (Kd.int .i64) 3 w29 w.heap.size (fun k_ => some k_ ≠ (.slice Ao15 t108.length co15 : Value).ownBlock ∧ some k_ ≠ (.slice Ao22 t114.length co22 : Value).ownBlock) (.slice Ao10 t102.length co10) t102) := ⟨by rw [← hq_]; (with_reducible repeat (first | apply Kd.R_alloc | apply Kd.R_drewN | apply Kd.R_drew)); exact Kd.R_mono (Kd.R_far (p := ⟨gb118, 1, none⟩) (Kd.R_far (p := ⟨gb118, 0, none⟩) (Kd.R_types HO104.out BK118.out (by decide)) (fun _ hk => hk.2) (.int .i64 t113)) (fun _ hk => hk.2) (.slice Ao22 t114.length co22)) (fun _ hk => ⟨hk.1.1.2, hk.1.2⟩)⟩
      have n1_ : Aside0 (Kd.R (Kd.int .i64) 3 w29 w.heap.size (fun k_ => some k_ ≠ (.slice Ao10 t102.length co10 : Value).ownBlock ∧ some k_ ≠ (.slice Ao22 t114.length co22 : Value).ownBlock) (.slice Ao15 t108.length co15) t108) := ⟨by rw [← hq_]; (with_reducible repeat (first | apply Kd.R_alloc | apply Kd.R_drewN | apply Kd.R_drew)); exact Kd.R_mono (Kd.R_far (p := ⟨gb118, 1, none⟩) (Kd.R_far (p := ⟨gb118, 0, none⟩) (Kd.R_types HO110.out BK118.out (by decide)) (fun _ hk => hk.2) (.int .i64 t113)) (fun _ hk => hk.2) (.slice Ao22 t114.length co22)) (fun _ hk => ⟨hk.1.1.2, hk.1.2⟩)⟩
      have n2_ : Aside0 (Kd.R (Kd.int .i64) 3 w29 w.heap.size (fun k_ => some k_ ≠ (.slice Ao10 t102.length co10 : Value).ownBlock ∧ some k_ ≠ (.slice Ao15 t108.length co15 : Value).ownBlock) (.slice Ao22 t114.length co22) t114) := ⟨by rw [← hq_]; (with_reducible repeat (first | apply Kd.R_alloc | apply Kd.R_drewN | apply Kd.R_drew)); exact Kd.R_mono (Kd.R_far (p := ⟨gb118, 1, none⟩) (Kd.R_far (p := ⟨gb118, 0, none⟩) (Kd.R_types HO116.out BK118.out (by decide)) (fun _ hk => hk.2) (.int .i64 t113)) (fun _ hk => hk.2) (.slice Ao22 t114.length co22)) (fun _ hk => ⟨hk.1.1.2, hk.1.2⟩)⟩
      have n3_ : Aside0 (w29.heap[gb106]? = some (.cells #[.int .i64 t101, .slice Ao10 t102.length co10] 31 (0, 0))) := ⟨by rw [← hq_]; (with_reducible repeat (first | refine blk_drewN ?_ _ | refine blk_drew ?_ | refine blk_alloc ?_ _)); refine blk_far ?_ NB106_118.out _; (with_reducible repeat (first | refine blk_drewN ?_ _ | refine blk_drew ?_ | refine blk_alloc ?_ _)); refine blk_far ?_ NB106_118.out _; (with_reducible repeat (first | refine blk_drewN ?_ _ | refine blk_drew ?_ | refine blk_alloc ?_ _)); exact BK106.out⟩
      have n4_ : Aside0 (w29.heap[gb112]? = some (.cells #[.int .i64 t107, .slice Ao15 t108.length co15] 31 (0, 0))) := ⟨by rw [← hq_]; (with_reducible repeat (first | refine blk_drewN ?_ _ | refine blk_drew ?_ | refine blk_alloc ?_ _)); refine blk_far ?_ NB112_118.out _; (with_reducible repeat (first | refine blk_drewN ?_ _ | refine blk_drew ?_ | refine blk_alloc ?_ _)); refine blk_far ?_ NB112_118.out _; (with_reducible repeat (first | refine blk_drewN ?_ _ | refine blk_drew ?_ | refine blk_alloc ?_ _)); exact BK112.out⟩
      have n5_ : Aside0 (w29.heap[gb118]? = some (.cells #[.int .i64 t113, .slice Ao22 t114.length co22] 31 (0, 0))) := ⟨by rw [← hq_]; exact P2 BK118⟩
      have n6_ : Aside0 (Below w.heap.size w w29) := ⟨by rw [← hq_]; exact K3 HB GE106.out GE112.out GE118.out⟩
      clear hq_
      (try clear HO104)
      (try clear HO110)
      (try clear HO116)
      (try clear BK106)
      (try clear BK112)
      (try clear BK118)
      (try clear HB)
      have HO104 := n0_
      have HO110 := n1_
      have HO116 := n2_
      have BK106 := n3_
      have BK112 := n4_
      have BK118 := n5_
      have HB := n6_
      clear n0_ n1_ n2_ n3_ n4_ n5_ n6_
      replace HO104 := am (Kd.R_drew HO104.out)
      replace HO110 := am (Kd.R_drew HO110.out)
      replace HO116 := am (Kd.R_drew HO116.out)
      replace BK106 := am (blk_drew BK106.out)
      replace BK112 := am (blk_drew BK112.out)
      replace BK118 := am (blk_drew BK118.out)
      replace HB := am (below_drew1 HB.out)
      refine start_ (n := 21) (S := fun w' => ce2 w' gb112 (.int .i64 t107) (.slice Ao15 t108.length co15) (ce2 w' gb118 (.int .i64 t113) (.slice Ao22 t114.length co22) (de2 w' gb106 (.int .i64 t101) (.slice Ao10 t102.length co10)))) (ds := []) (tf 0 21) (by kernel_rfl) rfl rfl ⟨z0 _ BK112.out, z1 _ BK112.out, z0 _ BK118.out, z1 _ BK118.out, z0 _ BK106.out, z1 _ BK106.out⟩ (fun hHeld => ?_); refine with_tabW laws_FnWindowSee.tab6 laws_FnWindowSee.bits6 (fun HT_ HW_ => ?_)
      generalize w29.drew = w30 at HO104 HO110 HO116 BK106 BK112 BK118 HB hHeld ⊢
      refine pv HT_ 0 33 (tf 1 20) ?_
      refine pv HT_ 1 34 (tf 2 19) ?_
      refine pv HT_ 2 35 (tf 3 18) ?_
      refine pv HT_ 3 36 (tf 4 17) ?_
      refine tk 4 (some 37) (tf 5 16) (take_ofW HT_.out HW_.out (by kernel_rfl)) hHeld ?_
      refine tk 5 (some 38) (tf 6 15) (take_ofW HT_.out HW_.out (by kernel_rfl)) hHeld ?_
      refine one_ (i := 6) (N := some 39) (tf 7 14) rfl rfl (one_of HT_.out (by kernel_rfl)) (by decide) (fun K hK => ?_)
      refine goes_ Try.func21 (by kernel_rfl) rfl #[.agg #[.int .i64 t107, .slice Ao15 t108.length co15], .agg #[.int .i64 t113, .slice Ao22 t114.length co22]] (by rfl) rfl rfl MT ?_
      with_reducible refine (laws_ovWindow.calls k t107 _ _ t108 t113 _ _ t114 true _ ?side1 ?side2 ?side3 ?side4 A24.out).mono ?_
      (case side1 => exact KC (Kd.R_reads' HO110.out).2.2)
      (case side2 => exact (Kd.R_reads' HO110.out).2.1)
      (case side3 => exact KC (Kd.R_reads' HO116.out).2.2)
      (case side4 => exact (Kd.R_reads' HO116.out).2.1)
      rintro e w31 ⟨rfl, hb⟩
      refine ⟨_, rfl, ?_⟩
      replace HO104 := am (Kd.R_below (KR HO104) hb)
      replace HO110 := am (Kd.R_below (KR HO110) hb)
      replace HO116 := am (Kd.R_below (KR HO116) hb)
      replace BK106 := am (BB BK106 hb)
      replace BK112 := am (BB BK112 hb)
      replace BK118 := am (BB BK118 hb)
      replace HB := am (below_step (K3 HB GE106.out GE112.out GE118.out) hb)
      (try clear hb)
      (try clear hb2)
      (try clear hk)
      (try clear hi)
      refine hK.out _ _ ⟨z0 _ BK112.out, z1 _ BK112.out, z0 _ BK118.out, z1 _ BK118.out, z0 _ BK106.out, z1 _ BK106.out⟩ (fun hHeld => ?_)
      clear hK K
      refine norm_ (a' := ?_) ?_ ?_
      rotate_left
      ·show Act.put _ (some 39) _ = _
       simp only [Act.put, List.setIfInBounds_toArray, List.set_cons_zero, List.set_cons_succ, i64_w, i32_w]
       rfl
      refine pv HT_ 7 40 (tf 8 13) ?_
      refine pv HT_ 8 41 (tf 9 12) ?_
      refine pv HT_ 9 42 (tf 10 11) ?_
      refine tk 10 (some 43) (tf 11 10) (take_ofW HT_.out HW_.out (by kernel_rfl)) hHeld ?_
      refine tk 12 (some 45) (tr [11, 1, 1, 8]) (take_ofW HT_.out HW_.out (by kernel_rfl)) hHeld ?_
      refine one_ (i := 11) (N := some 44) (tf 13 8) rfl rfl (one_of HT_.out (by kernel_rfl)) (by decide) (fun K hK => ?_)
      refine goes_ Try.func22 (by kernel_rfl) rfl #[.agg #[.int .i64 t101, .slice Ao10 t102.length co10]] (by rfl) rfl rfl MT ?_
      with_reducible refine (impl_WindowOk.calls k t101 _ _ t102 t120 _ ?side1 ?side2 A26.out).mono ?_
      (case side1 => exact KC (Kd.R_reads' HO104.out).2.2)
      (case side2 => exact (Kd.R_reads' HO104.out).2.1)
      rintro e w32 ⟨rfl, hb⟩
      refine ⟨_, rfl, ?_⟩
      replace HO104 := am (Kd.R_below (KR HO104) hb)
      replace HO110 := am (Kd.R_below (KR HO110) hb)
      replace HO116 := am (Kd.R_below (KR HO116) hb)
      replace BK106 := am (BB BK106 hb)
      replace BK112 := am (BB BK112 hb)
      replace BK118 := am (BB BK118 hb)
      replace HB := am (below_step (K3 HB GE106.out GE112.out GE118.out) hb)
      (try clear hb)
      (try clear hb2)
      (try clear hk)
      (try clear hi)
      refine hK.out _ _ ⟨z0 _ BK112.out, z1 _ BK112.out, z0 _ BK118.out, z1 _ BK118.out, z0 _ BK106.out, z1 _ BK106.out⟩ (fun hHeld => ?_)
      clear hK K
      refine norm_ (a' := ?_) ?_ ?_
      rotate_left
      ·show Act.put _ (some 44) _ = _
       simp only [Act.put, List.setIfInBounds_toArray, List.set_cons_zero, List.set_cons_succ, i64_w, i32_w]
       rfl
      refine one_ (i := 13) (N := some 46) (tf 14 7) rfl rfl (one_of HT_.out (by kernel_rfl)) (by decide) (fun K hK => ?_)
      refine goes_ Try.func23 (by kernel_rfl) rfl #[.agg #[.int .i64 t101, .slice Ao10 t102.length co10]] (by rfl) rfl rfl MT ?_
      with_reducible refine (spec_WindowOk.calls k t101 _ _ t102 t121 _ ?side1 ?side2 A27.out).mono ?_
      (case side1 => exact KC (Kd.R_reads' HO104.out).2.2)
      (case side2 => exact (Kd.R_reads' HO104.out).2.1)
      rintro e w33 ⟨rfl, hb⟩
      refine ⟨_, rfl, ?_⟩
      replace HO104 := am (Kd.R_below (KR HO104) hb)
      replace HO110 := am (Kd.R_below (KR HO110) hb)
      replace HO116 := am (Kd.R_below (KR HO116) hb)
      replace BK106 := am (BB BK106 hb)
      replace BK112 := am (BB BK112 hb)
      replace BK118 := am (BB BK118 hb)
      replace HB := am (below_step (K3 HB GE106.out GE112.out GE118.out) hb)
      (try clear hb)
      (try clear hb2)
      (try clear hk)
      (try clear hi)
      refine hK.out _ _ ⟨z0 _ BK112.out, z1 _ BK112.out, z0 _ BK118.out, z1 _ BK118.out, z0 _ BK106.out, z1 _ BK106.out⟩ (fun hHeld => ?_)
      clear hK K
      refine norm_ (a' := ?_) ?_ ?_
      rotate_left
      ·show Act.put _ (some 46) _ = _
       simp only [Act.put, List.setIfInBounds_toArray, List.set_cons_zero, List.set_cons_succ, i64_w, i32_w]
       rfl
      refine pv HT_ 14 47 (tf 15 6) ?_
      refine pv HT_ 15 48 (tf 16 5) ?_
      refine pv HT_ 16 49 (tf 17 4) ?_
      refine pw HT_ 17 50 (tf 18 3) ?_
      refine pw HT_ 18 51 (tf 19 2) ?_
      refine pw HT_ 19 52 (tf 20 1) ?_
      refine pv HT_ 20 53 (tf 21 0) ?_
      refine done_ (done_of HT_.out (by kernel_rfl)) ?_
      try go_wp2
      go_meet
      case rel => exact ⟨_, (true), (by first | rfl | (simp; done) | (simp [*]; done)), H', ⟨by first | omega | exact Nat.le_refl _⟩, ⟨KR HO104⟩, ⟨KR HO110⟩, ⟨KR HO116⟩, ⟨KB BK106⟩, ⟨KB BK112⟩, ⟨KB BK118⟩, ⟨K3 HB GE106.out GE112.out GE118.out⟩⟩
     ·rw [if_neg c28] at H
      have c28b0 : (t120 != t121) = false := by simpa using c28
      (try (have c28b1 : decide (t120 = t121) = true := by simpa using c28))
      (try (have c28b2 : (t120 == t121) = true := by simpa using c28))
      clear c28
      replace H := Option.bind_eq_some_iff.mp H
      obtain ⟨t122, A340, H⟩ := H
      replace H : (laws_FnWindowSee.j0 k t105 t111 t117 (!t122) t101 t102 t107 t108 t113 t114) = some r := H
      have A34 := Aside0.mk A340
      clear A340
      have H' := Aside0.mk H
      clear H
      try go_wp2
      generalize hq_ : ((w18.setCell ⟨gb118, 0, none⟩ (.int .i64 t113)).setCell ⟨gb118, 1, none⟩ (.slice Ao22 t114.length co22)) = w35
      have n0_ : Aside0 (Kd.R (Kd.int .i64) 3 w35 w.heap.size (fun k_ => some k_ ≠ (.slice Ao15 t108.length co15 : Value).ownBlock ∧ some k_ ≠ (.slice Ao22 t114.length co22 : Value).ownBlock) (.slice Ao10 t102.length co10) t102) := ⟨by rw [← hq_]; (with_reducible repeat (first | apply Kd.R_alloc | apply Kd.R_drewN | apply Kd.R_drew)); exact Kd.R_mono (Kd.R_far (p := ⟨gb118, 1, none⟩) (Kd.R_far (p := ⟨gb118, 0, none⟩) (Kd.R_types HO104.out BK118.out (by decide)) (fun _ hk => hk.2) (.int .i64 t113)) (fun _ hk => hk.2) (.slice Ao22 t114.length co22)) (fun _ hk => ⟨hk.1.1.2, hk.1.2⟩)⟩
      have n1_ : Aside0 (Kd.R (Kd.int .i64) 3 w35 w.heap.size (fun k_ => some k_ ≠ (.slice Ao10 t102.length co10 : Value).ownBlock ∧ some k_ ≠ (.slice Ao22 t114.length co22 : Value).ownBlock) (.slice Ao15 t108.length co15) t108) := ⟨by rw [← hq_]; (with_reducible repeat (first | apply Kd.R_alloc | apply Kd.R_drewN | apply Kd.R_drew)); exact Kd.R_mono (Kd.R_far (p := ⟨gb118, 1, none⟩) (Kd.R_far (p := ⟨gb118, 0, none⟩) (Kd.R_types HO110.out BK118.out (by decide)) (fun _ hk => hk.2) (.int .i64 t113)) (fun _ hk => hk.2) (.slice Ao22 t114.length co22)) (fun _ hk => ⟨hk.1.1.2, hk.1.2⟩)⟩
      have n2_ : Aside0 (Kd.R (Kd.int .i64) 3 w35 w.heap.size (fun k_ => some k_ ≠ (.slice Ao10 t102.length co10 : Value).ownBlock ∧ some k_ ≠ (.slice Ao15 t108.length co15 : Value).ownBlock) (.slice Ao22 t114.length co22) t114) := ⟨by rw [← hq_]; (with_reducible repeat (first | apply Kd.R_alloc | apply Kd.R_drewN | apply Kd.R_drew)); exact Kd.R_mono (Kd.R_far (p := ⟨gb118, 1, none⟩) (Kd.R_far (p := ⟨gb118, 0, none⟩) (Kd.R_types HO116.out BK118.out (by decide)) (fun _ hk => hk.2) (.int .i64 t113)) (fun _ hk => hk.2) (.slice Ao22 t114.length co22)) (fun _ hk => ⟨hk.1.1.2, hk.1.2⟩)⟩
      have n3_ : Aside0 (w35.heap[gb106]? = some (.cells #[.int .i64 t101, .slice Ao10 t102.length co10] 31 (0, 0))) := ⟨by rw [← hq_]; (with_reducible repeat (first | refine blk_drewN ?_ _ | refine blk_drew ?_ | refine blk_alloc ?_ _)); refine blk_far ?_ NB106_118.out _; (with_reducible repeat (first | refine blk_drewN ?_ _ | refine blk_drew ?_ | refine blk_alloc ?_ _)); refine blk_far ?_ NB106_118.out _; (with_reducible repeat (first | refine blk_drewN ?_ _ | refine blk_drew ?_ | refine blk_alloc ?_ _)); exact BK106.out⟩
      have n4_ : Aside0 (w35.heap[gb112]? = some (.cells #[.int .i64 t107, .slice Ao15 t108.length co15] 31 (0, 0))) := ⟨by rw [← hq_]; (with_reducible repeat (first | refine blk_drewN ?_ _ | refine blk_drew ?_ | refine blk_alloc ?_ _)); refine blk_far ?_ NB112_118.out _; (with_reducible repeat (first | refine blk_drewN ?_ _ | refine blk_drew ?_ | refine blk_alloc ?_ _)); refine blk_far ?_ NB112_118.out _; (with_reducible repeat (first | refine blk_drewN ?_ _ | refine blk_drew ?_ | refine blk_alloc ?_ _)); exact BK112.out⟩
      have n5_ : Aside0 (w35.heap[gb118]? = some (.cells #[.int .i64 t113, .slice Ao22 t114.length co22] 31 (0, 0))) := ⟨by rw [← hq_]; exact P2 BK118⟩
      have n6_ : Aside0 (Below w.heap.size w w35) := ⟨by rw [← hq_]; exact K3 HB GE106.out GE112.out GE118.out⟩
      clear hq_
      (try clear HO104)
      (try clear HO110)
      (try clear HO116)
      (try clear BK106)
      (try clear BK112)
      (try clear BK118)
      (try clear HB)
      have HO104 := n0_
      have HO110 := n1_
      have HO116 := n2_
      have BK106 := n3_
      have BK112 := n4_
      have BK118 := n5_
      have HB := n6_
      clear n0_ n1_ n2_ n3_ n4_ n5_ n6_
      replace HO104 := am (Kd.R_drew HO104.out)
      replace HO110 := am (Kd.R_drew HO110.out)
      replace HO116 := am (Kd.R_drew HO116.out)
      replace BK106 := am (blk_drew BK106.out)
      replace BK112 := am (blk_drew BK112.out)
      replace BK118 := am (blk_drew BK118.out)
      replace HB := am (below_drew1 HB.out)
      refine start_ (n := 21) (S := fun w' => ce2 w' gb112 (.int .i64 t107) (.slice Ao15 t108.length co15) (ce2 w' gb118 (.int .i64 t113) (.slice Ao22 t114.length co22) (de2 w' gb106 (.int .i64 t101) (.slice Ao10 t102.length co10)))) (ds := []) (tf 0 21) (by kernel_rfl) rfl rfl ⟨z0 _ BK112.out, z1 _ BK112.out, z0 _ BK118.out, z1 _ BK118.out, z0 _ BK106.out, z1 _ BK106.out⟩ (fun hHeld => ?_); refine with_tabW laws_FnWindowSee.tab6 laws_FnWindowSee.bits6 (fun HT_ HW_ => ?_)
      generalize w35.drew = w36 at HO104 HO110 HO116 BK106 BK112 BK118 HB hHeld ⊢
      refine pv HT_ 0 33 (tf 1 20) ?_
      refine pv HT_ 1 34 (tf 2 19) ?_
      refine pv HT_ 2 35 (tf 3 18) ?_
      refine pv HT_ 3 36 (tf 4 17) ?_
      refine tk 4 (some 37) (tf 5 16) (take_ofW HT_.out HW_.out (by kernel_rfl)) hHeld ?_
      refine tk 5 (some 38) (tf 6 15) (take_ofW HT_.out HW_.out (by kernel_rfl)) hHeld ?_
      refine one_ (i := 6) (N := some 39) (tf 7 14) rfl rfl (one_of HT_.out (by kernel_rfl)) (by decide) (fun K hK => ?_)
      refine goes_ Try.func21 (by kernel_rfl) rfl #[.agg #[.int .i64 t107, .slice Ao15 t108.length co15], .agg #[.int .i64 t113, .slice Ao22 t114.length co22]] (by rfl) rfl rfl MT ?_
      with_reducible refine (laws_ovWindow.calls k t107 _ _ t108 t113 _ _ t114 true _ ?side1 ?side2 ?side3 ?side4 A24.out).mono ?_
      (case side1 => exact KC (Kd.R_reads' HO110.out).2.2)
      (case side2 => exact (Kd.R_reads' HO110.out).2.1)
      (case side3 => exact KC (Kd.R_reads' HO116.out).2.2)
      (case side4 => exact (Kd.R_reads' HO116.out).2.1)
      rintro e w37 ⟨rfl, hb⟩
      refine ⟨_, rfl, ?_⟩
      replace HO104 := am (Kd.R_below (KR HO104) hb)
      replace HO110 := am (Kd.R_below (KR HO110) hb)
      replace HO116 := am (Kd.R_below (KR HO116) hb)
      replace BK106 := am (BB BK106 hb)
      replace BK112 := am (BB BK112 hb)
      replace BK118 := am (BB BK118 hb)
      replace HB := am (below_step (K3 HB GE106.out GE112.out GE118.out) hb)
      (try clear hb)
      (try clear hb2)
      (try clear hk)
      (try clear hi)
      refine hK.out _ _ ⟨z0 _ BK112.out, z1 _ BK112.out, z0 _ BK118.out, z1 _ BK118.out, z0 _ BK106.out, z1 _ BK106.out⟩ (fun hHeld => ?_)
      clear hK K
      refine norm_ (a' := ?_) ?_ ?_
      rotate_left
      ·show Act.put _ (some 39) _ = _
       simp only [Act.put, List.setIfInBounds_toArray, List.set_cons_zero, List.set_cons_succ, i64_w, i32_w]
       rfl
      refine pv HT_ 7 40 (tf 8 13) ?_
      refine pv HT_ 8 41 (tf 9 12) ?_
      refine pv HT_ 9 42 (tf 10 11) ?_
      refine tk 10 (some 43) (tf 11 10) (take_ofW HT_.out HW_.out (by kernel_rfl)) hHeld ?_
      refine tk 12 (some 45) (tr [11, 1, 1, 8]) (take_ofW HT_.out HW_.out (by kernel_rfl)) hHeld ?_
      refine one_ (i := 11) (N := some 44) (tf 13 8) rfl rfl (one_of HT_.out (by kernel_rfl)) (by decide) (fun K hK => ?_)
      refine goes_ Try.func22 (by kernel_rfl) rfl #[.agg #[.int .i64 t101, .slice Ao10 t102.length co10]] (by rfl) rfl rfl MT ?_
      with_reducible refine (impl_WindowOk.calls k t101 _ _ t102 t120 _ ?side1 ?side2 A26.out).mono ?_
      (case side1 => exact KC (Kd.R_reads' HO104.out).2.2)
      (case side2 => exact (Kd.R_reads' HO104.out).2.1)
      rintro e w38 ⟨rfl, hb⟩
      refine ⟨_, rfl, ?_⟩
      replace HO104 := am (Kd.R_below (KR HO104) hb)
      replace HO110 := am (Kd.R_below (KR HO110) hb)
      replace HO116 := am (Kd.R_below (KR HO116) hb)
      replace BK106 := am (BB BK106 hb)
      replace BK112 := am (BB BK112 hb)
      replace BK118 := am (BB BK118 hb)
      replace HB := am (below_step (K3 HB GE106.out GE112.out GE118.out) hb)
      (try clear hb)
      (try clear hb2)
      (try clear hk)
      (try clear hi)
      refine hK.out _ _ ⟨z0 _ BK112.out, z1 _ BK112.out, z0 _ BK118.out, z1 _ BK118.out, z0 _ BK106.out, z1 _ BK106.out⟩ (fun hHeld => ?_)
      clear hK K
      refine norm_ (a' := ?_) ?_ ?_
      rotate_left
      ·show Act.put _ (some 44) _ = _
       simp only [Act.put, List.setIfInBounds_toArray, List.set_cons_zero, List.set_cons_succ, i64_w, i32_w]
       rfl
      refine one_ (i := 13) (N := some 46) (tf 14 7) rfl rfl (one_of HT_.out (by kernel_rfl)) (by decide) (fun K hK => ?_)
      refine goes_ Try.func23 (by kernel_rfl) rfl #[.agg #[.int .i64 t101, .slice Ao10 t102.length co10]] (by rfl) rfl rfl MT ?_
      with_reducible refine (spec_WindowOk.calls k t101 _ _ t102 t121 _ ?side1 ?side2 A27.out).mono ?_
      (case side1 => exact KC (Kd.R_reads' HO104.out).2.2)
      (case side2 => exact (Kd.R_reads' HO104.out).2.1)
      rintro e w39 ⟨rfl, hb⟩
      refine ⟨_, rfl, ?_⟩
      replace HO104 := am (Kd.R_below (KR HO104) hb)
      replace HO110 := am (Kd.R_below (KR HO110) hb)
      replace HO116 := am (Kd.R_below (KR HO116) hb)
      replace BK106 := am (BB BK106 hb)
      replace BK112 := am (BB BK112 hb)
      replace BK118 := am (BB BK118 hb)
      replace HB := am (below_step (K3 HB GE106.out GE112.out GE118.out) hb)
      (try clear hb)
      (try clear hb2)
      (try clear hk)
      (try clear hi)
      refine hK.out _ _ ⟨z0 _ BK112.out, z1 _ BK112.out, z0 _ BK118.out, z1 _ BK118.out, z0 _ BK106.out, z1 _ BK106.out⟩ (fun hHeld => ?_)
      clear hK K
      refine norm_ (a' := ?_) ?_ ?_
      rotate_left
      ·show Act.put _ (some 46) _ = _
       simp only [Act.put, List.setIfInBounds_toArray, List.set_cons_zero, List.set_cons_succ, i64_w, i32_w]
       rfl
      refine pv HT_ 14 47 (tf 15 6) ?_
      refine pv HT_ 15 48 (tf 16 5) ?_
      refine pv HT_ 16 49 (tf 17 4) ?_
      refine tk 17 (some 50) (tf 18 3) (take_ofW HT_.out HW_.out (by kernel_rfl)) hHeld ?_
      refine one_ (i := 18) (N := some 51) (tf 19 2) rfl rfl (one_of HT_.out (by kernel_rfl)) (by decide) (fun K hK => ?_)
      refine goes_ Try.func23 (by kernel_rfl) rfl #[.agg #[.int .i64 t101, .slice Ao10 t102.length co10]] (by rfl) rfl rfl MT ?_
      with_reducible refine (spec_WindowOk.calls k t101 _ _ t102 t122 _ ?side1 ?side2 A34.out).mono ?_
      (case side1 => exact KC (Kd.R_reads' HO104.out).2.2)
      (case side2 => exact (Kd.R_reads' HO104.out).2.1)
      rintro e w40 ⟨rfl, hb⟩
      refine ⟨_, rfl, ?_⟩
      replace HO104 := am (Kd.R_below (KR HO104) hb)
      replace HO110 := am (Kd.R_below (KR HO110) hb)
      replace HO116 := am (Kd.R_below (KR HO116) hb)
      replace BK106 := am (BB BK106 hb)
      replace BK112 := am (BB BK112 hb)
      replace BK118 := am (BB BK118 hb)
      replace HB := am (below_step (K3 HB GE106.out GE112.out GE118.out) hb)
      (try clear hb)
      (try clear hb2)
      (try clear hk)
      (try clear hi)
      refine hK.out _ _ ⟨z0 _ BK112.out, z1 _ BK112.out, z0 _ BK118.out, z1 _ BK118.out, z0 _ BK106.out, z1 _ BK106.out⟩ (fun hHeld => ?_)
      clear hK K
      refine norm_ (a' := ?_) ?_ ?_
      rotate_left
      ·show Act.put _ (some 51) _ = _
       simp only [Act.put, List.setIfInBounds_toArray, List.set_cons_zero, List.set_cons_succ, i64_w, i32_w]
       rfl
      refine pv HT_ 19 52 (tf 20 1) ?_
      refine pv HT_ 20 53 (tf 21 0) ?_
      refine done_ (done_of HT_.out (by kernel_rfl)) ?_
      try go_wp2
      go_meet
      case rel => exact ⟨_, (!t122), (by first | rfl | (simp; done) | (simp [*]; done)), H', ⟨by first | omega | exact Nat.le_refl _⟩, ⟨KR HO104⟩, ⟨KR HO110⟩, ⟨KR HO116⟩, ⟨KB BK106⟩, ⟨KB BK112⟩, ⟨KB BK118⟩, ⟨K3 HB GE106.out GE112.out GE118.out⟩⟩
    ·replace c25 := Bool.eq_false_iff.mpr c25
     subst c25
     have H1 : (laws_FnWindowSee.j0 k t105 t111 t117 true t101 t102 t107 t108 t113 t114) = some r := by rw [if_neg (show ¬ (false = true) by decide)] at H; exact H
     clear H
     have H := H1
     clear H1
     have H' := Aside0.mk H
     clear H
     try go_wp2
     generalize hq_ : ((w18.setCell ⟨gb118, 0, none⟩ (.int .i64 t113)).setCell ⟨gb118, 1, none⟩ (.slice Ao22 t114.length co22)) = w41
     have n0_ : Aside0 (Kd.R (Kd.int .i64) 3 w41 w.heap.size (fun k_ => some k_ ≠ (.slice Ao15 t108.length co15 : Value).ownBlock ∧ some k_ ≠ (.slice Ao22 t114.length co22 : Value).ownBlock) (.slice Ao10 t102.length co10) t102) := ⟨by rw [← hq_]; (with_reducible repeat (first | apply Kd.R_alloc | apply Kd.R_drewN | apply Kd.R_drew)); exact Kd.R_mono (Kd.R_far (p := ⟨gb118, 1, none⟩) (Kd.R_far (p := ⟨gb118, 0, none⟩) (Kd.R_types HO104.out BK118.out (by decide)) (fun _ hk => hk.2) (.int .i64 t113)) (fun _ hk => hk.2) (.slice Ao22 t114.length co22)) (fun _ hk => ⟨hk.1.1.2, hk.1.2⟩)⟩
     have n1_ : Aside0 (Kd.R (Kd.int .i64) 3 w41 w.heap.size (fun k_ => some k_ ≠ (.slice Ao10 t102.length co10 : Value).ownBlock ∧ some k_ ≠ (.slice Ao22 t114.length co22 : Value).ownBlock) (.slice Ao15 t108.length co15) t108) := ⟨by rw [← hq_]; (with_reducible repeat (first | apply Kd.R_alloc | apply Kd.R_drewN | apply Kd.R_drew)); exact Kd.R_mono (Kd.R_far (p := ⟨gb118, 1, none⟩) (Kd.R_far (p := ⟨gb118, 0, none⟩) (Kd.R_types HO110.out BK118.out (by decide)) (fun _ hk => hk.2) (.int .i64 t113)) (fun _ hk => hk.2) (.slice Ao22 t114.length co22)) (fun _ hk => ⟨hk.1.1.2, hk.1.2⟩)⟩
     have n2_ : Aside0 (Kd.R (Kd.int .i64) 3 w41 w.heap.size (fun k_ => some k_ ≠ (.slice Ao10 t102.length co10 : Value).ownBlock ∧ some k_ ≠ (.slice Ao15 t108.length co15 : Value).ownBlock) (.slice Ao22 t114.length co22) t114) := ⟨by rw [← hq_]; (with_reducible repeat (first | apply Kd.R_alloc | apply Kd.R_drewN | apply Kd.R_drew)); exact Kd.R_mono (Kd.R_far (p := ⟨gb118, 1, none⟩) (Kd.R_far (p := ⟨gb118, 0, none⟩) (Kd.R_types HO116.out BK118.out (by decide)) (fun _ hk => hk.2) (.int .i64 t113)) (fun _ hk => hk.2) (.slice Ao22 t114.length co22)) (fun _ hk => ⟨hk.1.1.2, hk.1.2⟩)⟩
     have n3_ : Aside0 (w41.heap[gb106]? = some (.cells #[.int .i64 t101, .slice Ao10 t102.length co10] 31 (0, 0))) := ⟨by rw [← hq_]; (with_reducible repeat (first | refine blk_drewN ?_ _ | refine blk_drew ?_ | refine blk_alloc ?_ _)); refine blk_far ?_ NB106_118.out _; (with_reducible repeat (first | refine blk_drewN ?_ _ | refine blk_drew ?_ | refine blk_alloc ?_ _)); refine blk_far ?_ NB106_118.out _; (with_reducible repeat (first | refine blk_drewN ?_ _ | refine blk_drew ?_ | refine blk_alloc ?_ _)); exact BK106.out⟩
     have n4_ : Aside0 (w41.heap[gb112]? = some (.cells #[.int .i64 t107, .slice Ao15 t108.length co15] 31 (0, 0))) := ⟨by rw [← hq_]; (with_reducible repeat (first | refine blk_drewN ?_ _ | refine blk_drew ?_ | refine blk_alloc ?_ _)); refine blk_far ?_ NB112_118.out _; (with_reducible repeat (first | refine blk_drewN ?_ _ | refine blk_drew ?_ | refine blk_alloc ?_ _)); refine blk_far ?_ NB112_118.out _; (with_reducible repeat (first | refine blk_drewN ?_ _ | refine blk_drew ?_ | refine blk_alloc ?_ _)); exact BK112.out⟩
     have n5_ : Aside0 (w41.heap[gb118]? = some (.cells #[.int .i64 t113, .slice Ao22 t114.length co22] 31 (0, 0))) := ⟨by rw [← hq_]; exact P2 BK118⟩
     have n6_ : Aside0 (Below w.heap.size w w41) := ⟨by rw [← hq_]; exact K3 HB GE106.out GE112.out GE118.out⟩
     clear hq_
     (try clear HO104)
     (try clear HO110)
     (try clear HO116)
     (try clear BK106)
     (try clear BK112)
     (try clear BK118)
     (try clear HB)
     have HO104 := n0_
     have HO110 := n1_
     have HO116 := n2_
     have BK106 := n3_
     have BK112 := n4_
     have BK118 := n5_
     have HB := n6_
     clear n0_ n1_ n2_ n3_ n4_ n5_ n6_
     replace HO104 := am (Kd.R_drew HO104.out)
     replace HO110 := am (Kd.R_drew HO110.out)
     replace HO116 := am (Kd.R_drew HO116.out)
     replace BK106 := am (blk_drew BK106.out)
     replace BK112 := am (blk_drew BK112.out)
     replace BK118 := am (blk_drew BK118.out)
     replace HB := am (below_drew1 HB.out)
     refine start_ (n := 21) (S := fun w' => ce2 w' gb112 (.int .i64 t107) (.slice Ao15 t108.length co15) (de2 w' gb118 (.int .i64 t113) (.slice Ao22 t114.length co22))) (ds := []) (tf 0 21) (by kernel_rfl) rfl rfl ⟨z0 _ BK112.out, z1 _ BK112.out, z0 _ BK118.out, z1 _ BK118.out⟩ (fun hHeld => ?_); refine with_tabW laws_FnWindowSee.tab6 laws_FnWindowSee.bits6 (fun HT_ HW_ => ?_)
     generalize w41.drew = w42 at HO104 HO110 HO116 BK106 BK112 BK118 HB hHeld ⊢
     refine pv HT_ 0 33 (tf 1 20) ?_
     refine pv HT_ 1 34 (tf 2 19) ?_
     refine pv HT_ 2 35 (tf 3 18) ?_
     refine pv HT_ 3 36 (tf 4 17) ?_
     refine tk 4 (some 37) (tf 5 16) (take_ofW HT_.out HW_.out (by kernel_rfl)) hHeld ?_
     refine tk 5 (some 38) (tf 6 15) (take_ofW HT_.out HW_.out (by kernel_rfl)) hHeld ?_
     refine one_ (i := 6) (N := some 39) (tf 7 14) rfl rfl (one_of HT_.out (by kernel_rfl)) (by decide) (fun K hK => ?_)
     refine goes_ Try.func21 (by kernel_rfl) rfl #[.agg #[.int .i64 t107, .slice Ao15 t108.length co15], .agg #[.int .i64 t113, .slice Ao22 t114.length co22]] (by rfl) rfl rfl MT ?_
     with_reducible refine (laws_ovWindow.calls k t107 _ _ t108 t113 _ _ t114 false _ ?side1 ?side2 ?side3 ?side4 A24.out).mono ?_
     (case side1 => exact KC (Kd.R_reads' HO110.out).2.2)
     (case side2 => exact (Kd.R_reads' HO110.out).2.1)
     (case side3 => exact KC (Kd.R_reads' HO116.out).2.2)
     (case side4 => exact (Kd.R_reads' HO116.out).2.1)
     rintro e w43 ⟨rfl, hb⟩
     refine ⟨_, rfl, ?_⟩
     replace HO104 := am (Kd.R_below (KR HO104) hb)
     replace HO110 := am (Kd.R_below (KR HO110) hb)
     replace HO116 := am (Kd.R_below (KR HO116) hb)
     replace BK106 := am (BB BK106 hb)
     replace BK112 := am (BB BK112 hb)
     replace BK118 := am (BB BK118 hb)
     replace HB := am (below_step (K3 HB GE106.out GE112.out GE118.out) hb)
     (try clear hb)
     (try clear hb2)
     (try clear hk)
     (try clear hi)
     refine hK.out _ _ ⟨z0 _ BK112.out, z1 _ BK112.out, z0 _ BK118.out, z1 _ BK118.out⟩ (fun hHeld => ?_)
     clear hK K
     refine norm_ (a' := ?_) ?_ ?_
     rotate_left
     ·show Act.put _ (some 39) _ = _
      simp only [Act.put, List.setIfInBounds_toArray, List.set_cons_zero, List.set_cons_succ, i64_w, i32_w]
      rfl
     refine pv HT_ 7 40 (tf 8 13) ?_
     refine pv HT_ 8 41 (tf 9 12) ?_
     refine pv HT_ 9 42 (tf 10 11) ?_
     refine pw HT_ 10 43 (tf 11 10) ?_
     refine pw HT_ 11 44 (tf 12 9) ?_
     refine pw HT_ 12 45 (tf 13 8) ?_
     refine pw HT_ 13 46 (tf 14 7) ?_
     refine pw HT_ 14 47 (tf 15 6) ?_
     refine pv HT_ 15 48 (tf 16 5) ?_
     refine pv HT_ 16 49 (tf 17 4) ?_
     refine pw HT_ 17 50 (tf 18 3) ?_
     refine pw HT_ 18 51 (tf 19 2) ?_
     refine pw HT_ 19 52 (tf 20 1) ?_
     refine pv HT_ 20 53 (tf 21 0) ?_
     refine done_ (done_of HT_.out (by kernel_rfl)) ?_
     try go_wp2
     go_meet
     case rel => exact ⟨_, (true), (by first | rfl | (simp; done) | (simp [*]; done)), H', ⟨by first | omega | exact Nat.le_refl _⟩, ⟨KR HO104⟩, ⟨KR HO110⟩, ⟨KR HO116⟩, ⟨KB BK106⟩, ⟨KB BK112⟩, ⟨KB BK118⟩, ⟨K3 HB GE106.out GE112.out GE118.out⟩⟩
   ·rw [if_neg c23] at H
    have c23b0 : (t111 == t117) = false := beq_eq_false_iff_ne.mpr c23
    have c23b1 : (t111 != t117) = true := bne_iff_ne.mpr c23
    (first | rw [c23b0] | (simp only [i64_w, i32_w]; rw [c23b0]) | skip)
    have H' := Aside0.mk H
    clear H
    try go_wp2
    generalize hq_ : ((w18.setCell ⟨gb118, 0, none⟩ (.int .i64 t113)).setCell ⟨gb118, 1, none⟩ (.slice Ao22 t114.length co22)) = w44
    have n0_ : Aside0 (Kd.R (Kd.int .i64) 3 w44 w.heap.size (fun k_ => some k_ ≠ (.slice Ao15 t108.length co15 : Value).ownBlock ∧ some k_ ≠ (.slice Ao22 t114.length co22 : Value).ownBlock) (.slice Ao10 t102.length co10) t102) := ⟨by rw [← hq_]; (with_reducible repeat (first | apply Kd.R_alloc | apply Kd.R_drewN | apply Kd.R_drew)); exact Kd.R_mono (Kd.R_far (p := ⟨gb118, 1, none⟩) (Kd.R_far (p := ⟨gb118, 0, none⟩) (Kd.R_types HO104.out BK118.out (by decide)) (fun _ hk => hk.2) (.int .i64 t113)) (fun _ hk => hk.2) (.slice Ao22 t114.length co22)) (fun _ hk => ⟨hk.1.1.2, hk.1.2⟩)⟩
    have n1_ : Aside0 (Kd.R (Kd.int .i64) 3 w44 w.heap.size (fun k_ => some k_ ≠ (.slice Ao10 t102.length co10 : Value).ownBlock ∧ some k_ ≠ (.slice Ao22 t114.length co22 : Value).ownBlock) (.slice Ao15 t108.length co15) t108) := ⟨by rw [← hq_]; (with_reducible repeat (first | apply Kd.R_alloc | apply Kd.R_drewN | apply Kd.R_drew)); exact Kd.R_mono (Kd.R_far (p := ⟨gb118, 1, none⟩) (Kd.R_far (p := ⟨gb118, 0, none⟩) (Kd.R_types HO110.out BK118.out (by decide)) (fun _ hk => hk.2) (.int .i64 t113)) (fun _ hk => hk.2) (.slice Ao22 t114.length co22)) (fun _ hk => ⟨hk.1.1.2, hk.1.2⟩)⟩
    have n2_ : Aside0 (Kd.R (Kd.int .i64) 3 w44 w.heap.size (fun k_ => some k_ ≠ (.slice Ao10 t102.length co10 : Value).ownBlock ∧ some k_ ≠ (.slice Ao15 t108.length co15 : Value).ownBlock) (.slice Ao22 t114.length co22) t114) := ⟨by rw [← hq_]; (with_reducible repeat (first | apply Kd.R_alloc | apply Kd.R_drewN | apply Kd.R_drew)); exact Kd.R_mono (Kd.R_far (p := ⟨gb118, 1, none⟩) (Kd.R_far (p := ⟨gb118, 0, none⟩) (Kd.R_types HO116.out BK118.out (by decide)) (fun _ hk => hk.2) (.int .i64 t113)) (fun _ hk => hk.2) (.slice Ao22 t114.length co22)) (fun _ hk => ⟨hk.1.1.2, hk.1.2⟩)⟩
    have n3_ : Aside0 (w44.heap[gb106]? = some (.cells #[.int .i64 t101, .slice Ao10 t102.length co10] 31 (0, 0))) := ⟨by rw [← hq_]; (with_reducible repeat (first | refine blk_drewN ?_ _ | refine blk_drew ?_ | refine blk_alloc ?_ _)); refine blk_far ?_ NB106_118.out _; (with_reducible repeat (first | refine blk_drewN ?_ _ | refine blk_drew ?_ | refine blk_alloc ?_ _)); refine blk_far ?_ NB106_118.out _; (with_reducible repeat (first | refine blk_drewN ?_ _ | refine blk_drew ?_ | refine blk_alloc ?_ _)); exact BK106.out⟩
    have n4_ : Aside0 (w44.heap[gb112]? = some (.cells #[.int .i64 t107, .slice Ao15 t108.length co15] 31 (0, 0))) := ⟨by rw [← hq_]; (with_reducible repeat (first | refine blk_drewN ?_ _ | refine blk_drew ?_ | refine blk_alloc ?_ _)); refine blk_far ?_ NB112_118.out _; (with_reducible repeat (first | refine blk_drewN ?_ _ | refine blk_drew ?_ | refine blk_alloc ?_ _)); refine blk_far ?_ NB112_118.out _; (with_reducible repeat (first | refine blk_drewN ?_ _ | refine blk_drew ?_ | refine blk_alloc ?_ _)); exact BK112.out⟩
    have n5_ : Aside0 (w44.heap[gb118]? = some (.cells #[.int .i64 t113, .slice Ao22 t114.length co22] 31 (0, 0))) := ⟨by rw [← hq_]; exact P2 BK118⟩
    have n6_ : Aside0 (Below w.heap.size w w44) := ⟨by rw [← hq_]; exact K3 HB GE106.out GE112.out GE118.out⟩
    clear hq_
    (try clear HO104)
    (try clear HO110)
    (try clear HO116)
    (try clear BK106)
    (try clear BK112)
    (try clear BK118)
    (try clear HB)
    have HO104 := n0_
    have HO110 := n1_
    have HO116 := n2_
    have BK106 := n3_
    have BK112 := n4_
    have BK118 := n5_
    have HB := n6_
    clear n0_ n1_ n2_ n3_ n4_ n5_ n6_
    replace HO104 := am (Kd.R_drew HO104.out)
    replace HO110 := am (Kd.R_drew HO110.out)
    replace HO116 := am (Kd.R_drew HO116.out)
    replace BK106 := am (blk_drew BK106.out)
    replace BK112 := am (blk_drew BK112.out)
    replace BK118 := am (blk_drew BK118.out)
    replace HB := am (below_drew1 HB.out)
    refine start_ (n := 21) (S := fun w' => True) (ds := []) (tf 0 21) (by kernel_rfl) rfl rfl trivial (fun hHeld => ?_); refine with_tabW laws_FnWindowSee.tab6 laws_FnWindowSee.bits6 (fun HT_ HW_ => ?_)
    generalize w44.drew = w45 at HO104 HO110 HO116 BK106 BK112 BK118 HB hHeld ⊢
    refine pv HT_ 0 33 (tf 1 20) ?_
    refine pv HT_ 1 34 (tf 2 19) ?_
    refine pv HT_ 2 35 (tf 3 18) ?_
    refine pv HT_ 3 36 (tf 4 17) ?_
    refine pw HT_ 4 37 (tf 5 16) ?_
    refine pw HT_ 5 38 (tf 6 15) ?_
    refine pw HT_ 6 39 (tf 7 14) ?_
    refine pw HT_ 7 40 (tf 8 13) ?_
    refine pv HT_ 8 41 (tf 9 12) ?_
    refine pv HT_ 9 42 (tf 10 11) ?_
    refine pw HT_ 10 43 (tf 11 10) ?_
    refine pw HT_ 11 44 (tf 12 9) ?_
    refine pw HT_ 12 45 (tf 13 8) ?_
    refine pw HT_ 13 46 (tf 14 7) ?_
    refine pw HT_ 14 47 (tf 15 6) ?_
    refine pv HT_ 15 48 (tf 16 5) ?_
    refine pv HT_ 16 49 (tf 17 4) ?_
    refine pw HT_ 17 50 (tf 18 3) ?_
    refine pw HT_ 18 51 (tf 19 2) ?_
    refine pw HT_ 19 52 (tf 20 1) ?_
    refine pv HT_ 20 53 (tf 21 0) ?_
    refine done_ (done_of HT_.out (by kernel_rfl)) ?_
    try go_wp2
    go_meet
    case rel => exact ⟨_, (true), (by first | rfl | (simp; done) | (simp [*]; done)), H', ⟨by first | omega | exact Nat.le_refl _⟩, ⟨KR HO104⟩, ⟨KR HO110⟩, ⟨KR HO116⟩, ⟨KB BK106⟩, ⟨KB BK112⟩, ⟨KB BK118⟩, ⟨K3 HB GE106.out GE112.out GE118.out⟩⟩
  case rest =>
   clear HC6
   try clear c2
   try clear p2
   try clear c21
   try clear c22
   try clear c23
   try clear c23b0
   try clear c23b1
   try clear c25
   obtain ⟨kq, x53_5, rfl, HA, HJ5, HO_107001, HO_113001, HO_119001, BK106, BK112, BK118, HB⟩ := hcut
   cases kq with
   | zero => exact absurd HA.out (by simp [laws_FnWindowSee.j0])
   | succ kj5 =>
    have H := HA.out
    clear HA
    simp only [laws_FnWindowSee.j0] at H
    by_cases c46 : x53_5 = true
    ·subst c46
     have H1 : (if t111 = t117 then ((laws_ovWindow.f kj5 t107 t108 t113 t114).bind fun t123 => (if t123 = true then ((impl_WindowOk.f kj5 t101 t102).bind fun t124 => ((spec_WindowOk.f kj5 t101 t102).bind fun t125 => (some (t124 == t125)))) else (some false))) else (some false)) = some r := by rw [if_pos rfl] at H; exact H
     clear H
     have H := H1
     clear H1
     by_cases c47 : t111 = t117
     ·rw [if_pos c47] at H
      have c47b0 : (t111 == t117) = true := beq_iff_eq.mpr c47
      have c47b1 : (t111 != t117) = false := bne_eq_false_iff_eq.mpr c47
      clear c47
      replace H := Option.bind_eq_some_iff.mp H
      obtain ⟨t123, A480, H⟩ := H
      replace H : (if t123 = true then ((impl_WindowOk.f kj5 t101 t102).bind fun t124 => ((spec_WindowOk.f kj5 t101 t102).bind fun t125 => (some (t124 == t125)))) else (some false)) = some r := H
      have A48 := Aside0.mk A480
      clear A480
      by_cases c49 : t123 = true
      ·subst c49
       have H1 : ((impl_WindowOk.f kj5 t101 t102).bind fun t124 => ((spec_WindowOk.f kj5 t101 t102).bind fun t125 => (some (t124 == t125)))) = some r := by rw [if_pos rfl] at H; exact H
       clear H
       have H := H1
       clear H1
       replace H := Option.bind_eq_some_iff.mp H
       obtain ⟨t124, A500, H⟩ := H
       replace H : ((spec_WindowOk.f kj5 t101 t102).bind fun t125 => (some (t124 == t125))) = some r := H
       have A50 := Aside0.mk A500
       clear A500
       replace H := Option.bind_eq_some_iff.mp H
       obtain ⟨t125, A510, H⟩ := H
       replace H : (some (t124 == t125)) = some r := H
       have A51 := Aside0.mk A510
       clear A510
       obtain rfl := Option.some.inj H
       try go_wp2
       replace HO_107001 := am (Kd.R_drew HO_107001.out)
       replace HO_113001 := am (Kd.R_drew HO_113001.out)
       replace HO_119001 := am (Kd.R_drew HO_119001.out)
       replace BK106 := am (blk_drew BK106.out)
       replace BK112 := am (blk_drew BK112.out)
       replace BK118 := am (blk_drew BK118.out)
       replace HB := am (below_drew1 HB.out)
       refine start_ (n := 16) (S := fun w' => ce2 w' gb112 (.int .i64 t107) (.slice Ao15 t108.length co15) (ce2 w' gb118 (.int .i64 t113) (.slice Ao22 t114.length co22) (de2 w' gb106 (.int .i64 t101) (.slice Ao10 t102.length co10)))) (ds := []) (tf 0 16) (by kernel_rfl) rfl rfl ⟨z0 _ BK112.out, z1 _ BK112.out, z0 _ BK118.out, z1 _ BK118.out, z0 _ BK106.out, z1 _ BK106.out⟩ (fun hHeld => ?_); refine with_tabW laws_FnWindowSee.tab7 laws_FnWindowSee.bits7 (fun HT_ HW_ => ?_)
       generalize wc.drew = w52 at HO_107001 HO_113001 HO_119001 BK106 BK112 BK118 HB hHeld ⊢
       refine pv HT_ 0 54 (tf 1 15) ?_
       refine pv HT_ 1 55 (tf 2 14) ?_
       refine pv HT_ 2 56 (tf 3 13) ?_
       refine pv HT_ 3 57 (tf 4 12) ?_
       refine tk 4 (some 58) (tf 5 11) (take_ofW HT_.out HW_.out (by kernel_rfl)) hHeld ?_
       refine tk 5 (some 59) (tf 6 10) (take_ofW HT_.out HW_.out (by kernel_rfl)) hHeld ?_
       refine one_ (i := 6) (N := some 60) (tf 7 9) rfl rfl (one_of HT_.out (by kernel_rfl)) (by decide) (fun K hK => ?_)
       refine goes_ Try.func21 (by kernel_rfl) rfl #[.agg #[.int .i64 t107, .slice Ao15 t108.length co15], .agg #[.int .i64 t113, .slice Ao22 t114.length co22]] (by rfl) rfl rfl MT ?_
       with_reducible refine (laws_ovWindow.calls kj5 t107 _ _ t108 t113 _ _ t114 true _ ?side1 ?side2 ?side3 ?side4 A48.out).mono ?_
       (case side1 => exact KC (Kd.R_reads' HO_113001.out).2.2)
       (case side2 => exact (Kd.R_reads' HO_113001.out).2.1)
       (case side3 => exact KC (Kd.R_reads' HO_119001.out).2.2)
       (case side4 => exact (Kd.R_reads' HO_119001.out).2.1)
       rintro e w53 ⟨rfl, hb⟩
       refine ⟨_, rfl, ?_⟩
       replace HO_107001 := am (Kd.R_below (KR HO_107001) hb)
       replace HO_113001 := am (Kd.R_below (KR HO_113001) hb)
       replace HO_119001 := am (Kd.R_below (KR HO_119001) hb)
       replace BK106 := am (BB BK106 hb)
       replace BK112 := am (BB BK112 hb)
       replace BK118 := am (BB BK118 hb)
       replace HB := am (below_step (K3 HB GE106.out GE112.out GE118.out) hb)
       (try clear hb)
       (try clear hb2)
       (try clear hk)
       (try clear hi)
       refine hK.out _ _ ⟨z0 _ BK112.out, z1 _ BK112.out, z0 _ BK118.out, z1 _ BK118.out, z0 _ BK106.out, z1 _ BK106.out⟩ (fun hHeld => ?_)
       clear hK K
       refine norm_ (a' := ?_) ?_ ?_
       rotate_left
       ·show Act.put _ (some 60) _ = _
        simp only [Act.put, List.setIfInBounds_toArray, List.set_cons_zero, List.set_cons_succ, i64_w, i32_w]
        rfl
       refine pv HT_ 7 61 (tf 8 8) ?_
       refine pv HT_ 8 62 (tf 9 7) ?_
       refine tk 9 (some 63) (tf 10 6) (take_ofW HT_.out HW_.out (by kernel_rfl)) hHeld ?_
       refine tk 11 (some 65) (tr [10, 1, 1, 4]) (take_ofW HT_.out HW_.out (by kernel_rfl)) hHeld ?_
       refine one_ (i := 10) (N := some 64) (tf 12 4) rfl rfl (one_of HT_.out (by kernel_rfl)) (by decide) (fun K hK => ?_)
       refine goes_ Try.func22 (by kernel_rfl) rfl #[.agg #[.int .i64 t101, .slice Ao10 t102.length co10]] (by rfl) rfl rfl MT ?_
       with_reducible refine (impl_WindowOk.calls kj5 t101 _ _ t102 t124 _ ?side1 ?side2 A50.out).mono ?_
       (case side1 => exact KC (Kd.R_reads' HO_107001.out).2.2)
       (case side2 => exact (Kd.R_reads' HO_107001.out).2.1)
       rintro e w54 ⟨rfl, hb⟩
       refine ⟨_, rfl, ?_⟩
       replace HO_107001 := am (Kd.R_below (KR HO_107001) hb)
       replace HO_113001 := am (Kd.R_below (KR HO_113001) hb)
       replace HO_119001 := am (Kd.R_below (KR HO_119001) hb)
       replace BK106 := am (BB BK106 hb)
       replace BK112 := am (BB BK112 hb)
       replace BK118 := am (BB BK118 hb)
       replace HB := am (below_step (K3 HB GE106.out GE112.out GE118.out) hb)
       (try clear hb)
       (try clear hb2)
       (try clear hk)
       (try clear hi)
       refine hK.out _ _ ⟨z0 _ BK112.out, z1 _ BK112.out, z0 _ BK118.out, z1 _ BK118.out, z0 _ BK106.out, z1 _ BK106.out⟩ (fun hHeld => ?_)
       clear hK K
       refine norm_ (a' := ?_) ?_ ?_
       rotate_left
       ·show Act.put _ (some 64) _ = _
        simp only [Act.put, List.setIfInBounds_toArray, List.set_cons_zero, List.set_cons_succ, i64_w, i32_w]
        rfl
       refine one_ (i := 12) (N := some 66) (tf 13 3) rfl rfl (one_of HT_.out (by kernel_rfl)) (by decide) (fun K hK => ?_)
       refine goes_ Try.func23 (by kernel_rfl) rfl #[.agg #[.int .i64 t101, .slice Ao10 t102.length co10]] (by rfl) rfl rfl MT ?_
       with_reducible refine (spec_WindowOk.calls kj5 t101 _ _ t102 t125 _ ?side1 ?side2 A51.out).mono ?_
       (case side1 => exact KC (Kd.R_reads' HO_107001.out).2.2)
       (case side2 => exact (Kd.R_reads' HO_107001.out).2.1)
       rintro e w55 ⟨rfl, hb⟩
       refine ⟨_, rfl, ?_⟩
       replace HO_107001 := am (Kd.R_below (KR HO_107001) hb)
       replace HO_113001 := am (Kd.R_below (KR HO_113001) hb)
       replace HO_119001 := am (Kd.R_below (KR HO_119001) hb)
       replace BK106 := am (BB BK106 hb)
       replace BK112 := am (BB BK112 hb)
       replace BK118 := am (BB BK118 hb)
       replace HB := am (below_step (K3 HB GE106.out GE112.out GE118.out) hb)
       (try clear hb)
       (try clear hb2)
       (try clear hk)
       (try clear hi)
       refine hK.out _ _ ⟨z0 _ BK112.out, z1 _ BK112.out, z0 _ BK118.out, z1 _ BK118.out, z0 _ BK106.out, z1 _ BK106.out⟩ (fun hHeld => ?_)
       clear hK K
       refine norm_ (a' := ?_) ?_ ?_
       rotate_left
       ·show Act.put _ (some 66) _ = _
        simp only [Act.put, List.setIfInBounds_toArray, List.set_cons_zero, List.set_cons_succ, i64_w, i32_w]
        rfl
       refine pv HT_ 13 67 (tf 14 2) ?_
       refine pv HT_ 14 68 (tf 15 1) ?_
       refine pv HT_ 15 2 (tf 16 0) ?_
       refine done_ (done_of HT_.out (by kernel_rfl)) ?_
       try go_wp2
       go_ret
       exact ⟨ER, K3 HB GE106.out GE112.out GE118.out⟩
      ·replace c49 := Bool.eq_false_iff.mpr c49
       subst c49
       have H1 : (some false) = some r := by rw [if_neg (show ¬ (false = true) by decide)] at H; exact H
       clear H
       have H := H1
       clear H1
       exact absurd ((Option.some.inj H).trans HR_.out) (by decide)
     ·rw [if_neg c47] at H
      have c47b0 : (t111 == t117) = false := beq_eq_false_iff_ne.mpr c47
      have c47b1 : (t111 != t117) = true := bne_iff_ne.mpr c47
      exact absurd ((Option.some.inj H).trans HR_.out) (by decide)
    ·replace c46 := Bool.eq_false_iff.mpr c46
     subst c46
     have H1 : (laws_FnWindowSee.l0 kj5 t105 t111 false 0 t101 t102 t107 t108) = some r := by rw [if_neg (show ¬ (false = true) by decide)] at H; exact H
     clear H
     have H := H1
     clear H1
     have H' := Aside0.mk H
     clear H
     go_wp2
     go_loopg [9, 10] kj5 (fun kq v9 v10 w' => ∃ (x9_2 : Bool) (x10_2 : Int), v9 = .bool x9_2 ∧ v10 = .int .i64 x10_2 ∧ Aside0 (laws_FnWindowSee.l0 kq t105 t111 x9_2 x10_2 t101 t102 t107 t108 = some r) ∧ Aside0 (kq ≤ kj5) ∧ Aside0 (Kd.R (Kd.int .i64) 3 w' w.heap.size (fun k_ => some k_ ≠ ((.slice Ao15 t108.length co15) : Value).ownBlock ∧ some k_ ≠ ((.slice Ao22 t114.length co22) : Value).ownBlock) (.slice Ao10 t102.length co10) t102) ∧ Aside0 (Kd.R (Kd.int .i64) 3 w' w.heap.size (fun k_ => some k_ ≠ ((.slice Ao10 t102.length co10) : Value).ownBlock ∧ some k_ ≠ ((.slice Ao22 t114.length co22) : Value).ownBlock) (.slice Ao15 t108.length co15) t108) ∧ Aside0 (Kd.R (Kd.int .i64) 3 w' w.heap.size (fun k_ => some k_ ≠ ((.slice Ao10 t102.length co10) : Value).ownBlock ∧ some k_ ≠ ((.slice Ao15 t108.length co15) : Value).ownBlock) (.slice Ao22 t114.length co22) t114) ∧ Aside0 (w'.heap[gb106]? = some (.cells #[.int .i64 t101, (.slice Ao10 t102.length co10)] 31 (0, 0))) ∧ Aside0 (w'.heap[gb112]? = some (.cells #[.int .i64 t107, (.slice Ao15 t108.length co15)] 31 (0, 0))) ∧ Aside0 (w'.heap[gb118]? = some (.cells #[.int .i64 t113, (.slice Ao22 t114.length co22)] 31 (0, 0))) ∧ Aside0 (Below w.heap.size w w'))
     case atStart => exact ⟨(false), (0), (by first | rfl | (simp; done) | (simp [*]; done)), (by first | rfl | (simp; done) | (simp [*]; done)), H', ⟨Nat.le_refl _⟩, ⟨KR HO_107001⟩, ⟨KR HO_113001⟩, ⟨KR HO_119001⟩, ⟨KB BK106⟩, ⟨KB BK112⟩, ⟨KB BK118⟩, ⟨K3 HB GE106.out GE112.out GE118.out⟩⟩
     case round =>
      clear H'
      try clear c2
      try clear p2
      try clear c4
      try clear c21
      try clear c22
      try clear c23
      try clear c23b0
      try clear c23b1
      try clear c25
      try clear c46
      try clear c47
      try clear c47b0
      try clear c47b1
      try clear c49
      try clear p2
      obtain ⟨x9_2, x10_2, rfl, rfl, HA, HK2, HO_107001, HO_113001, HO_119001, BK106, BK112, BK118, HB⟩ := hrel
      cases gk with
      | zero => exact absurd HA.out (by simp [laws_FnWindowSee.l0])
      | succ k2 =>
       have H := HA.out
       clear HA
       simp only [laws_FnWindowSee.l0] at H
       by_cases c56 : x10_2 < (t102.length : Int)
       ·rw [if_pos c56] at H
        have c56b0 : decide (x10_2 < (t102.length : Int)) = true := decide_eq_true c56
        clear c56
        by_cases c57 : x9_2 = true
        ·subst c57
         have H1 : (laws_FnWindowSee.l0 k2 t105 t111 true (wrap64 (x10_2 + 1)) t101 t102 t107 t108) = some r := by rw [if_pos rfl] at H; exact H
         clear H
         have H := H1
         clear H1
         have H' := Aside0.mk H
         clear H
         have hnb58 := NB106_112.out
         have hnc58 := NB112_106.out
         have hnb59 := NB106_118.out
         have hnc59 := NB118_106.out
         obtain ⟨hcz60_0, hcz60_1, hfz60_0⟩ := y2 wr BK106.out
         go_wp2
         go_roundg k2
         case measure => have := HJ5.out; have := HK2.out; omega
         case rel => exact ⟨(true), (wrap64 (x10_2 + 1)), (by first | rfl | (simp; done) | (simp [*]; done)), (by first | rfl | (simp; done) | (simp [*]; done)), H', ⟨by have := HJ5.out; have := HK2.out; omega⟩, ⟨KR HO_107001⟩, ⟨KR HO_113001⟩, ⟨KR HO_119001⟩, ⟨KB BK106⟩, ⟨KB BK112⟩, ⟨KB BK118⟩, ⟨K3 HB GE106.out GE112.out GE118.out⟩⟩
        ·replace c57 := Bool.eq_false_iff.mpr c57
         subst c57
         have H1 : (if 0 ≤ x10_2 then (laws_FnWindowSee.l0 k2 t105 t111 ((rd t102 x10_2) == t105) (wrap64 (x10_2 + 1)) t101 t102 t107 t108) else (none)) = some r := by rw [if_neg (show ¬ (false = true) by decide)] at H; exact H
         clear H
         have H := H1
         clear H1
         by_cases c61 : 0 ≤ x10_2
         ·rw [if_pos c61] at H
          have c61b0 : decide (0 ≤ x10_2) = true := decide_eq_true c61
          clear c61
          have H' := Aside0.mk H
          clear H
          have hnb62 := NB106_112.out
          have hnc62 := NB112_106.out
          have hnb63 := NB106_118.out
          have hnc63 := NB118_106.out
          obtain ⟨hcz64_0, hcz64_1, hfz64_0⟩ := y2 wr BK106.out
          have p126 : 0 ≤ (x10_2 : Int) := OD
          have q126 : x10_2 < (t102.length : Int) := OD
          obtain ⟨ad126, e126, hx126_0⟩ := Kd.at_int (Kd.R_reads' HO_107001.out).2.2 x10_2 p126 q126
          cases e126
          replace p126 := eq_true p126
          replace q126 := eq_true q126
          go_wp2
          go_roundg k2
          case measure => have := HJ5.out; have := HK2.out; omega
          case rel => exact ⟨(((rd t102 x10_2) == t105)), (wrap64 (x10_2 + 1)), (by first | rfl | (simp; done) | (simp [*]; done)), (by first | rfl | (simp; done) | (simp [*]; done)), H', ⟨by have := HJ5.out; have := HK2.out; omega⟩, ⟨KR HO_107001⟩, ⟨KR HO_113001⟩, ⟨KR HO_119001⟩, ⟨KB BK106⟩, ⟨KB BK112⟩, ⟨KB BK118⟩, ⟨K3 HB GE106.out GE112.out GE118.out⟩⟩
         ·rw [if_neg c61] at H
          exact absurd H (by simp)
       ·rw [if_neg c56] at H
        have c56b0 : decide (x10_2 < (t102.length : Int)) = false := decide_eq_false c56
        clear c56
        have HC65 := Aside0.mk H
        clear H
        have hnb66 := NB106_112.out
        have hnc66 := NB112_106.out
        have hnb67 := NB106_118.out
        have hnc67 := NB118_106.out
        obtain ⟨hcz68_0, hcz68_1, hfz68_0⟩ := y2 wr BK106.out
        go_upto_region 13 with (fail)
        go_cut [115] (fun v115 wc => ∃ (kq : Nat) (x115_64 : Bool), v115 = .bool x115_64 ∧ Aside0 (laws_FnWindowSee.j2 kq t105 t111 x115_64 t101 t102 t107 t108 = some r) ∧ Aside0 (kq ≤ k2) ∧ Aside0 (Kd.R (Kd.int .i64) 3 wc w.heap.size (fun k_ => some k_ ≠ ((.slice Ao15 t108.length co15) : Value).ownBlock ∧ some k_ ≠ ((.slice Ao22 t114.length co22) : Value).ownBlock) (.slice Ao10 t102.length co10) t102) ∧ Aside0 (Kd.R (Kd.int .i64) 3 wc w.heap.size (fun k_ => some k_ ≠ ((.slice Ao10 t102.length co10) : Value).ownBlock ∧ some k_ ≠ ((.slice Ao22 t114.length co22) : Value).ownBlock) (.slice Ao15 t108.length co15) t108) ∧ Aside0 (Kd.R (Kd.int .i64) 3 wc w.heap.size (fun k_ => some k_ ≠ ((.slice Ao10 t102.length co10) : Value).ownBlock ∧ some k_ ≠ ((.slice Ao15 t108.length co15) : Value).ownBlock) (.slice Ao22 t114.length co22) t114) ∧ Aside0 (wc.heap[gb106]? = some (.cells #[.int .i64 t101, (.slice Ao10 t102.length co10)] 31 (0, 0))) ∧ Aside0 (wc.heap[gb112]? = some (.cells #[.int .i64 t107, (.slice Ao15 t108.length co15)] 31 (0, 0))) ∧ Aside0 (wc.heap[gb118]? = some (.cells #[.int .i64 t113, (.slice Ao22 t114.length co22)] 31 (0, 0))) ∧ Aside0 (Below w.heap.size w wc))
        case first =>
         have H := HC65.out
         clear HC65
         by_cases c69 : t105 ≥ 1
         ·rw [if_pos c69] at H
          have c69b0 : decide (1 ≤ t105) = true := decide_eq_true c69
          clear c69
          (first | rw [c69b0] | (simp only [i64_w, i32_w]; rw [c69b0]) | skip)
          by_cases c70 : t105 ≤ 1000000
          ·rw [if_pos c70] at H
           have c70b0 : decide (t105 ≤ 1000000) = true := decide_eq_true c70
           clear c70
           by_cases c71 : t105 > (wrap64 (t101 - 16))
           ·rw [if_pos c71] at H
            have c71b0 : decide ((wrap64 (t101 - 16)) < t105) = true := decide_eq_true c71
            clear c71
            by_cases c72 : ((t111 == 0) != (!x9_2)) = true
            ·rw [if_pos c72] at H
             have c72b0 : ((t111 == 0) != (!x9_2)) = true := c72
             (try (have c72b1 : decide ((t111 == 0) = (!x9_2)) = false := by simpa using c72))
             (try (have c72b2 : ((t111 == 0) == (!x9_2)) = false := by simpa using c72))
             (try (have c72b3 : ¬ ((t111 == 0) = (!x9_2)) := by simpa using c72))
             clear c72
             have H' := Aside0.mk H
             clear H
             have hnb73 := NB106_112.out
             have hnc73 := NB112_106.out
             have hnb74 := NB106_118.out
             have hnc74 := NB118_106.out
             obtain ⟨hcz75_0, hcz75_1, hfz75_0⟩ := y2 wr BK106.out
             go_wp2
             go_meet
             case rel => exact ⟨_, (true), (by first | rfl | (simp; done) | (simp [*]; done)), H', ⟨by have := HJ5.out; have := HK2.out; first | omega | exact Nat.le_refl _⟩, ⟨KR HO_107001⟩, ⟨KR HO_113001⟩, ⟨KR HO_119001⟩, ⟨KB BK106⟩, ⟨KB BK112⟩, ⟨KB BK118⟩, ⟨K3 HB GE106.out GE112.out GE118.out⟩⟩
            ·rw [if_neg c72] at H
             have c72b0 : ((t111 == 0) != (!x9_2)) = false := by simpa using c72
             (try (have c72b1 : decide ((t111 == 0) = (!x9_2)) = true := by simpa using c72))
             (try (have c72b2 : ((t111 == 0) == (!x9_2)) = true := by simpa using c72))
             clear c72
             by_cases c76 : t111 = 0
             ·rw [if_pos c76] at H
              have c76b0 : (t111 == 0) = true := beq_iff_eq.mpr c76
              have e_ : x9_2 = false := by simpa [c76b0] using c72b0
              subst e_
              have c76b1 : (t111 != 0) = false := bne_eq_false_iff_eq.mpr c76
              clear c76
              have H' := Aside0.mk H
              clear H
              have hnb77 := NB106_112.out
              have hnc77 := NB112_106.out
              have hnb78 := NB106_118.out
              have hnc78 := NB118_106.out
              obtain ⟨hcz79_0, hcz79_1, hfz79_0⟩ := y2 wr BK106.out
              go_wp2
              go_meet
              case rel => exact ⟨_, (false), (by first | rfl | (simp; done) | (simp [*]; done)), H', ⟨by have := HJ5.out; have := HK2.out; first | omega | exact Nat.le_refl _⟩, ⟨KR HO_107001⟩, ⟨KR HO_113001⟩, ⟨KR HO_119001⟩, ⟨KB BK106⟩, ⟨KB BK112⟩, ⟨KB BK118⟩, ⟨K3 HB GE106.out GE112.out GE118.out⟩⟩
             ·rw [if_neg c76] at H
              have c76b0 : (t111 == 0) = false := beq_eq_false_iff_ne.mpr c76
              have e_ : x9_2 = true := by simpa [c76b0] using c72b0
              subst e_
              have c76b1 : (t111 != 0) = true := bne_iff_ne.mpr c76
              replace H := Option.bind_eq_some_iff.mp H
              obtain ⟨t127, A800, H⟩ := H
              replace H : (laws_FnWindowSee.j2 k2 t105 t111 (!t127) t101 t102 t107 t108) = some r := H
              have A80 := Aside0.mk A800
              clear A800
              have H' := Aside0.mk H
              clear H
              have hnb81 := NB106_112.out
              have hnc81 := NB112_106.out
              have hnb82 := NB106_118.out
              have hnc82 := NB118_106.out
              obtain ⟨hcz83_0, hcz83_1, hfz83_0⟩ := y2 wr BK106.out
              have hnb84 := NB112_118.out
              have hnc84 := NB118_112.out
              obtain ⟨hcz85_0, hcz85_1, hfz85_0⟩ := y2 wr BK112.out
              go_wp2_with (first | (go_at_call 21; (with_reducible refine (laws_ovWindow.calls k2 t107 _ _ t108 t101 _ _ t102 t127 _ ?side1 ?side2 ?side3 ?side4 A80.out).mono ?_); (case side1 => exact KC (Kd.R_reads' HO_113001.out).2.2); (case side2 => exact (Kd.R_reads' HO_113001.out).2.1); (case side3 => exact KC (Kd.R_reads' HO_107001.out).2.2); (case side4 => exact (Kd.R_reads' HO_107001.out).2.1); rintro e w86 ⟨rfl, hb⟩; replace HO_107001 := am (Kd.R_below (KR HO_107001) hb); replace HO_113001 := am (Kd.R_below (KR HO_113001) hb); replace HO_119001 := am (Kd.R_below (KR HO_119001) hb); replace BK106 := am (BB BK106 hb); replace BK112 := am (BB BK112 hb); replace BK118 := am (BB BK118 hb); replace HB := am (below_step (K3 HB GE106.out GE112.out GE118.out) hb); (try clear hb)))
              go_meet
              case rel => exact ⟨_, (!t127), (by first | rfl | (simp; done) | (simp [*]; done)), H', ⟨by have := HJ5.out; have := HK2.out; first | omega | exact Nat.le_refl _⟩, ⟨KR HO_107001⟩, ⟨KR HO_113001⟩, ⟨KR HO_119001⟩, ⟨KB BK106⟩, ⟨KB BK112⟩, ⟨KB BK118⟩, ⟨K3 HB GE106.out GE112.out GE118.out⟩⟩
           ·rw [if_neg c71] at H
            have c71b0 : decide ((wrap64 (t101 - 16)) < t105) = false := decide_eq_false c71
            clear c71
            by_cases c87 : ((t111 == 0) != false) = true
            ·rw [if_pos c87] at H
             have c87b0 : ((t111 == 0) != false) = true := c87
             (try (have c87b1 : decide ((t111 == 0) = false) = false := by simpa using c87))
             (try (have c87b2 : ((t111 == 0) == false) = false := by simpa using c87))
             (try (have c87b3 : ¬ ((t111 == 0) = false) := by simpa using c87))
             clear c87
             have H' := Aside0.mk H
             clear H
             have hnb88 := NB106_112.out
             have hnc88 := NB112_106.out
             have hnb89 := NB106_118.out
             have hnc89 := NB118_106.out
             obtain ⟨hcz90_0, hcz90_1, hfz90_0⟩ := y2 wr BK106.out
             go_wp2
             go_meet
             case rel => exact ⟨_, (true), (by first | rfl | (simp; done) | (simp [*]; done)), H', ⟨by have := HJ5.out; have := HK2.out; first | omega | exact Nat.le_refl _⟩, ⟨KR HO_107001⟩, ⟨KR HO_113001⟩, ⟨KR HO_119001⟩, ⟨KB BK106⟩, ⟨KB BK112⟩, ⟨KB BK118⟩, ⟨K3 HB GE106.out GE112.out GE118.out⟩⟩
            ·rw [if_neg c87] at H
             have c87b0 : ((t111 == 0) != false) = false := by simpa using c87
             (try (have c87b1 : decide ((t111 == 0) = false) = true := by simpa using c87))
             (try (have c87b2 : ((t111 == 0) == false) = true := by simpa using c87))
             clear c87
             by_cases c91 : t111 = 0
             ·exact absurd c91 (by simpa using c87b0)
             ·rw [if_neg c91] at H
              have c91b0 : (t111 == 0) = false := beq_eq_false_iff_ne.mpr c91
              have c91b1 : (t111 != 0) = true := bne_iff_ne.mpr c91
              replace H := Option.bind_eq_some_iff.mp H
              obtain ⟨t128, A950, H⟩ := H
              replace H : (laws_FnWindowSee.j2 k2 t105 t111 (!t128) t101 t102 t107 t108) = some r := H
              have A95 := Aside0.mk A950
              clear A950
              have H' := Aside0.mk H
              clear H
              have hnb96 := NB106_112.out
              have hnc96 := NB112_106.out
              have hnb97 := NB106_118.out
              have hnc97 := NB118_106.out
              obtain ⟨hcz98_0, hcz98_1, hfz98_0⟩ := y2 wr BK106.out
              have hnb99 := NB112_118.out
              have hnc99 := NB118_112.out
              obtain ⟨hcz100_0, hcz100_1, hfz100_0⟩ := y2 wr BK112.out
              go_wp2_with (first | (go_at_call 21; (with_reducible refine (laws_ovWindow.calls k2 t107 _ _ t108 t101 _ _ t102 t128 _ ?side1 ?side2 ?side3 ?side4 A95.out).mono ?_); (case side1 => exact KC (Kd.R_reads' HO_113001.out).2.2); (case side2 => exact (Kd.R_reads' HO_113001.out).2.1); (case side3 => exact KC (Kd.R_reads' HO_107001.out).2.2); (case side4 => exact (Kd.R_reads' HO_107001.out).2.1); rintro e w101 ⟨rfl, hb⟩; replace HO_107001 := am (Kd.R_below (KR HO_107001) hb); replace HO_113001 := am (Kd.R_below (KR HO_113001) hb); replace HO_119001 := am (Kd.R_below (KR HO_119001) hb); replace BK106 := am (BB BK106 hb); replace BK112 := am (BB BK112 hb); replace BK118 := am (BB BK118 hb); replace HB := am (below_step (K3 HB GE106.out GE112.out GE118.out) hb); (try clear hb)))
              go_meet
              case rel => exact ⟨_, (!t128), (by first | rfl | (simp; done) | (simp [*]; done)), H', ⟨by have := HJ5.out; have := HK2.out; first | omega | exact Nat.le_refl _⟩, ⟨KR HO_107001⟩, ⟨KR HO_113001⟩, ⟨KR HO_119001⟩, ⟨KB BK106⟩, ⟨KB BK112⟩, ⟨KB BK118⟩, ⟨K3 HB GE106.out GE112.out GE118.out⟩⟩
          ·rw [if_neg c70] at H
           have c70b0 : decide (t105 ≤ 1000000) = false := decide_eq_false c70
           clear c70
           by_cases c102 : ((t111 == 0) != false) = true
           ·rw [if_pos c102] at H
            have c102b0 : ((t111 == 0) != false) = true := c102
            (try (have c102b1 : decide ((t111 == 0) = false) = false := by simpa using c102))
            (try (have c102b2 : ((t111 == 0) == false) = false := by simpa using c102))
            (try (have c102b3 : ¬ ((t111 == 0) = false) := by simpa using c102))
            clear c102
            have H' := Aside0.mk H
            clear H
            go_wp2
            go_meet
            case rel => exact ⟨_, (true), (by first | rfl | (simp; done) | (simp [*]; done)), H', ⟨by have := HJ5.out; have := HK2.out; first | omega | exact Nat.le_refl _⟩, ⟨KR HO_107001⟩, ⟨KR HO_113001⟩, ⟨KR HO_119001⟩, ⟨KB BK106⟩, ⟨KB BK112⟩, ⟨KB BK118⟩, ⟨K3 HB GE106.out GE112.out GE118.out⟩⟩
           ·rw [if_neg c102] at H
            have c102b0 : ((t111 == 0) != false) = false := by simpa using c102
            (try (have c102b1 : decide ((t111 == 0) = false) = true := by simpa using c102))
            (try (have c102b2 : ((t111 == 0) == false) = true := by simpa using c102))
            clear c102
            by_cases c103 : t111 = 0
            ·exact absurd c103 (by simpa using c102b0)
            ·rw [if_neg c103] at H
             have c103b0 : (t111 == 0) = false := beq_eq_false_iff_ne.mpr c103
             have c103b1 : (t111 != 0) = true := bne_iff_ne.mpr c103
             replace H := Option.bind_eq_some_iff.mp H
             obtain ⟨t129, A1040, H⟩ := H
             replace H : (laws_FnWindowSee.j2 k2 t105 t111 (!t129) t101 t102 t107 t108) = some r := H
             have A104 := Aside0.mk A1040
             clear A1040
             have H' := Aside0.mk H
             clear H
             have hnb105 := NB112_106.out
             have hnc105 := NB106_112.out
             have hnb106 := NB112_118.out
             have hnc106 := NB118_112.out
             obtain ⟨hcz107_0, hcz107_1, hfz107_0⟩ := y2 wr BK112.out
             have hnb108 := NB106_118.out
             have hnc108 := NB118_106.out
             obtain ⟨hcz109_0, hcz109_1, hfz109_0⟩ := y2 wr BK106.out
             go_wp2_with (first | (go_at_call 21; (with_reducible refine (laws_ovWindow.calls k2 t107 _ _ t108 t101 _ _ t102 t129 _ ?side1 ?side2 ?side3 ?side4 A104.out).mono ?_); (case side1 => exact KC (Kd.R_reads' HO_113001.out).2.2); (case side2 => exact (Kd.R_reads' HO_113001.out).2.1); (case side3 => exact KC (Kd.R_reads' HO_107001.out).2.2); (case side4 => exact (Kd.R_reads' HO_107001.out).2.1); rintro e w110 ⟨rfl, hb⟩; replace HO_107001 := am (Kd.R_below (KR HO_107001) hb); replace HO_113001 := am (Kd.R_below (KR HO_113001) hb); replace HO_119001 := am (Kd.R_below (KR HO_119001) hb); replace BK106 := am (BB BK106 hb); replace BK112 := am (BB BK112 hb); replace BK118 := am (BB BK118 hb); replace HB := am (below_step (K3 HB GE106.out GE112.out GE118.out) hb); (try clear hb)))
             go_meet
             case rel => exact ⟨_, (!t129), (by first | rfl | (simp; done) | (simp [*]; done)), H', ⟨by have := HJ5.out; have := HK2.out; first | omega | exact Nat.le_refl _⟩, ⟨KR HO_107001⟩, ⟨KR HO_113001⟩, ⟨KR HO_119001⟩, ⟨KB BK106⟩, ⟨KB BK112⟩, ⟨KB BK118⟩, ⟨K3 HB GE106.out GE112.out GE118.out⟩⟩
         ·rw [if_neg c69] at H
          have c69b0 : decide (1 ≤ t105) = false := decide_eq_false c69
          clear c69
          (first | rw [c69b0] | (simp only [i64_w, i32_w]; rw [c69b0]) | skip)
          by_cases c111 : ((t111 == 0) != false) = true
          ·rw [if_pos c111] at H
           have c111b0 : ((t111 == 0) != false) = true := c111
           (try (have c111b1 : decide ((t111 == 0) = false) = false := by simpa using c111))
           (try (have c111b2 : ((t111 == 0) == false) = false := by simpa using c111))
           (try (have c111b3 : ¬ ((t111 == 0) = false) := by simpa using c111))
           clear c111
           have H' := Aside0.mk H
           clear H
           go_wp2
           go_meet
           case rel => exact ⟨_, (true), (by first | rfl | (simp; done) | (simp [*]; done)), H', ⟨by have := HJ5.out; have := HK2.out; first | omega | exact Nat.le_refl _⟩, ⟨KR HO_107001⟩, ⟨KR HO_113001⟩, ⟨KR HO_119001⟩, ⟨KB BK106⟩, ⟨KB BK112⟩, ⟨KB BK118⟩, ⟨K3 HB GE106.out GE112.out GE118.out⟩⟩
          ·rw [if_neg c111] at H
           have c111b0 : ((t111 == 0) != false) = false := by simpa using c111
           (try (have c111b1 : decide ((t111 == 0) = false) = true := by simpa using c111))
           (try (have c111b2 : ((t111 == 0) == false) = true := by simpa using c111))
           clear c111
           by_cases c112 : t111 = 0
           ·exact absurd c112 (by simpa using c111b0)
           ·rw [if_neg c112] at H
            have c112b0 : (t111 == 0) = false := beq_eq_false_iff_ne.mpr c112
            have c112b1 : (t111 != 0) = true := bne_iff_ne.mpr c112
            replace H := Option.bind_eq_some_iff.mp H
            obtain ⟨t130, A1130, H⟩ := H
            replace H : (laws_FnWindowSee.j2 k2 t105 t111 (!t130) t101 t102 t107 t108) = some r := H
            have A113 := Aside0.mk A1130
            clear A1130
            have H' := Aside0.mk H
            clear H
            have hnb114 := NB112_106.out
            have hnc114 := NB106_112.out
            have hnb115 := NB112_118.out
            have hnc115 := NB118_112.out
            obtain ⟨hcz116_0, hcz116_1, hfz116_0⟩ := y2 wr BK112.out
            have hnb117 := NB106_118.out
            have hnc117 := NB118_106.out
            obtain ⟨hcz118_0, hcz118_1, hfz118_0⟩ := y2 wr BK106.out
            go_wp2_with (first | (go_at_call 21; (with_reducible refine (laws_ovWindow.calls k2 t107 _ _ t108 t101 _ _ t102 t130 _ ?side1 ?side2 ?side3 ?side4 A113.out).mono ?_); (case side1 => exact KC (Kd.R_reads' HO_113001.out).2.2); (case side2 => exact (Kd.R_reads' HO_113001.out).2.1); (case side3 => exact KC (Kd.R_reads' HO_107001.out).2.2); (case side4 => exact (Kd.R_reads' HO_107001.out).2.1); rintro e w119 ⟨rfl, hb⟩; replace HO_107001 := am (Kd.R_below (KR HO_107001) hb); replace HO_113001 := am (Kd.R_below (KR HO_113001) hb); replace HO_119001 := am (Kd.R_below (KR HO_119001) hb); replace BK106 := am (BB BK106 hb); replace BK112 := am (BB BK112 hb); replace BK118 := am (BB BK118 hb); replace HB := am (below_step (K3 HB GE106.out GE112.out GE118.out) hb); (try clear hb)))
            go_meet
            case rel => exact ⟨_, (!t130), (by first | rfl | (simp; done) | (simp [*]; done)), H', ⟨by have := HJ5.out; have := HK2.out; first | omega | exact Nat.le_refl _⟩, ⟨KR HO_107001⟩, ⟨KR HO_113001⟩, ⟨KR HO_119001⟩, ⟨KB BK106⟩, ⟨KB BK112⟩, ⟨KB BK118⟩, ⟨K3 HB GE106.out GE112.out GE118.out⟩⟩
        case rest =>
         clear HC65
         try clear c1
         try clear p1
         try clear q1
         try clear hx1
         try clear c2
         try clear p2
         try clear c4
         try clear c5
         try clear c6
         try clear p6
         try clear c7
         try clear c8
         try clear c9
         try clear c10
         try clear c11
         try clear p12
         try clear q12
         try clear hx12
         try clear c21
         try clear c22
         try clear c23
         try clear c23b0
         try clear c23b1
         try clear c25
         try clear c46
         try clear c47
         try clear c47b0
         try clear c47b1
         try clear c49
         try clear c56
         try clear c56b0
         try clear c57
         try clear c58
         try clear c59
         try clear c61
         try clear c61b0
         try clear c62
         try clear c63
         try clear p64
         try clear c66
         try clear c67
         try clear c69
         try clear c69b0
         try clear c70
         try clear c70b0
         try clear c71
         try clear c71b0
         try clear c72
         try clear c72b0
         try clear c72b1
         try clear c72b2
         try clear c73
         try clear c74
         try clear c76
         try clear c76b0
         try clear c76b1
         try clear c77
         try clear c78
         try clear c81
         try clear c82
         try clear c84
         try clear c87
         try clear c87b0
         try clear c87b1
         try clear c87b2
         try clear c88
         try clear c89
         try clear c91
         try clear c91b0
         try clear c91b1
         try clear c92
         try clear c93
         try clear c96
         try clear c97
         try clear c99
         try clear c102
         try clear c102b0
         try clear c102b1
         try clear c102b2
         try clear c103
         try clear c103b0
         try clear c103b1
         try clear c105
         try clear c106
         try clear c108
         try clear c111
         try clear c111b0
         try clear c111b1
         try clear c111b2
         try clear c112
         try clear c112b0
         try clear c112b1
         try clear c114
         try clear c115
         try clear c117
         try clear hcz100_0 hcz100_1 hfz100_0
         try clear hcz107_0 hcz107_1 hfz107_0
         try clear hcz109_0 hcz109_1 hfz109_0
         try clear hcz116_0 hcz116_1 hfz116_0
         try clear hcz118_0 hcz118_1 hfz118_0
         try clear hcz60_0 hcz60_1 hfz60_0
         try clear hcz64_0 hcz64_1 hfz64_0
         try clear hcz68_0 hcz68_1 hfz68_0
         try clear hcz75_0 hcz75_1 hfz75_0
         try clear hcz79_0 hcz79_1 hfz79_0
         try clear hcz83_0 hcz83_1 hfz83_0
         try clear hcz85_0 hcz85_1 hfz85_0
         try clear hcz90_0 hcz90_1 hfz90_0
         try clear hcz94_0 hcz94_1 hfz94_0
         try clear hcz98_0 hcz98_1 hfz98_0
         try clear hx126_0
         try clear p126
         try clear p2
         try clear q126
         obtain ⟨kq, x115_64, rfl, HA, HJ64, HO_107001, HO_113001, HO_119001, BK106, BK112, BK118, HB⟩ := hcut
         cases kq with
         | zero => exact absurd HA.out (by simp [laws_FnWindowSee.j2])
         | succ kj64 =>
          have H := HA.out
          clear HA
          simp only [laws_FnWindowSee.j2] at H
          by_cases c120 : x115_64 = true
          ·subst c120
           have H1 : (some false) = some r := by rw [if_pos rfl] at H; exact H
           clear H
           have H := H1
           clear H1
           exact absurd ((Option.some.inj H).trans HR_.out) (by decide)
          ·replace c120 := Bool.eq_false_iff.mpr c120
           subst c120
           have H1 : ((impl_WindowSee.f kj64 t107 t108 t105).bind fun bt131 => ((impl_WindowOk.f kj64 t107 t108).bind fun t137 => (if t137 = true then (if t107 ≥ t101 then (if t111 = 0 then (some (bt131.2.2 == 3)) else (some true)) else (some false)) else (some false)))) = some r := by rw [if_neg (show ¬ (false = true) by decide)] at H; exact H
           clear H
           have H := H1
           clear H1
           replace H := Option.bind_eq_some_iff.mp H
           obtain ⟨⟨t131, t132, t135⟩, A1210, H⟩ := H
           replace H : ((impl_WindowOk.f kj64 t107 t108).bind fun t137 => (if t137 = true then (if t107 ≥ t101 then (if t111 = 0 then (some (t135 == 3)) else (some true)) else (some false)) else (some false))) = some r := H
           have A121 := Aside0.mk A1210
           clear A1210
           replace H := Option.bind_eq_some_iff.mp H
           obtain ⟨t137, A1220, H⟩ := H
           replace H : (if t137 = true then (if t107 ≥ t101 then (if t111 = 0 then (some (t135 == 3)) else (some true)) else (some false)) else (some false)) = some r := H
           have A122 := Aside0.mk A1220
           clear A1220
           by_cases c123 : t137 = true
           ·subst c123
            have H1 : (if t107 ≥ t101 then (if t111 = 0 then (some (t135 == 3)) else (some true)) else (some false)) = some r := by rw [if_pos rfl] at H; exact H
            clear H
            have H := H1
            clear H1
            by_cases c124 : t107 ≥ t101
            ·rw [if_pos c124] at H
             have c124b0 : decide (t101 ≤ t107) = true := decide_eq_true c124
             clear c124
             by_cases c125 : t111 = 0
             ·rw [if_pos c125] at H
              have c125b0 : (t111 == 0) = true := beq_iff_eq.mpr c125
              have c125b1 : (t111 != 0) = false := bne_eq_false_iff_eq.mpr c125
              clear c125
              obtain rfl := Option.some.inj H
              have hnb126 := NB112_106.out
              have hnc126 := NB106_112.out
              have hnb127 := NB112_118.out
              have hnc127 := NB118_112.out
              obtain ⟨hcz128_0, hcz128_1, hfz128_0⟩ := y2 wc BK112.out
              go_wp2_with (first | ((with_reducible refine gate_callee (f := 19) rfl ?_); refine goesL_ (some 119) rfl rfl Try.func19 (by kernel_rfl) rfl #[.agg #[.int .i64 t107, .slice Ao15 t108.length co15], .int .i64 t105] rfl MT ?_; (with_reducible refine (impl_WindowSee.calls kj64 t107 _ _ t108 t105 t131 t132 t135 _ ?side1 ?side2 A121.out).mono ?_); (case side1 => exact KC (Kd.R_reads' HO_113001.out).2.2); (case side2 => exact (Kd.R_reads' HO_113001.out).2.1); rintro e w129 ⟨v133, rfl, ho0, hb⟩; refine ⟨_, rfl, ?_⟩; have HO134 := am (Kd.R_lower (Kd.R_new' (Kd.R_new' (Kd.R_new' ho0 (Kd.R_lt (KR HO_107001))) (Kd.R_lt (KR HO_113001))) (Kd.R_lt (KR HO_119001))) (below_size (K3 HB GE106.out GE112.out GE118.out))); replace HO_107001 := am (Kd.R_elder' (KR HO_107001) (Kd.R_base ho0) hb); replace HO_113001 := am (Kd.R_elder' (KR HO_113001) (Kd.R_base ho0) hb); replace HO_119001 := am (Kd.R_elder' (KR HO_119001) (Kd.R_base ho0) hb); replace BK106 := am (BB BK106 hb); replace BK112 := am (BB BK112 hb); replace BK118 := am (BB BK118 hb); replace HB := am (below_step (K3 HB GE106.out GE112.out GE118.out) hb); (try clear hb); (try clear ho0)) | ((with_reducible refine gate_dst (N := 11) rfl ?_); refine box_event rfl (N := 11) rfl (cs := #[.int .i64 0, .slice none 0 0]) (t := 31) BX ?_; intro gb136 hg w130 hbox hb; replace HO_107001 := am (Kd.R_below (KR HO_107001) hb); replace HO_113001 := am (Kd.R_below (KR HO_113001) hb); replace HO_119001 := am (Kd.R_below (KR HO_119001) hb); replace HO134 := am (Kd.R_below (KR HO134) hb); have BK136 := am (hbox); have GW136 := am (GH3 HB GE106.out GE112.out GE118.out hg); have GE136 := GW136; replace HB := am (below_step (K3 HB GE106.out GE112.out GE118.out) hb); have NB106_136 := am (NL BK106 hg); have NB136_106 := am (NG BK106 hg); replace BK106 := am (BB BK106 hb); have NB112_136 := am (NL BK112 hg); have NB136_112 := am (NG BK112 hg); replace BK112 := am (BB BK112 hb); have NB118_136 := am (NL BK118 hg); have NB136_118 := am (NG BK118 hg); replace BK118 := am (BB BK118 hb); clear hb hbox hg; have hnb131 := NB136_106.out; have hnc131 := NB106_136.out; have hnb132 := NB136_112.out; have hnc132 := NB112_136.out; have hnb133 := NB136_118.out; have hnc133 := NB118_136.out; obtain ⟨hcz134_0, hcz134_1, hfz134_0⟩ := y2 w130 BK136.out; obtain ⟨Ao135, co135, eo135⟩ := Kd.R_slice HO134.out; subst eo135; obtain ⟨hcz136_0, hcz136_1, hfz136_0⟩ := y2 w130 BK112.out) | ((with_reducible refine gate_callee (f := 22) rfl ?_); refine goesL_ (some 123) rfl rfl Try.func22 (by kernel_rfl) rfl #[.agg #[.int .i64 t107, .slice Ao15 t108.length co15]] rfl MT ?_; (with_reducible refine (impl_WindowOk.calls kj64 t107 _ _ t108 true _ ?side1 ?side2 A122.out).mono ?_); (case side1 => refine (Kd.R_reads' (e := 3) (base := w.heap.size) (ok := fun k_ => ((some k_ ≠ (.slice Ao10 t102.length co10 : Value).ownBlock ∧ some k_ ≠ (.slice Ao22 t114.length co22 : Value).ownBlock) ∧ some k_ ≠ (.slice Ao135 t132.length co135 : Value).ownBlock)) (n := t108.length) (c := co15) ?_).2.2; exact (by (with_reducible repeat (first | apply Kd.R_alloc | apply Kd.R_drewN | apply Kd.R_drew)); exact (RF HO_113001.out BK136.out))); (case side2 => exact (Kd.R_reads' HO_113001.out).2.1); rintro e w137 ⟨rfl, hb⟩; refine ⟨_, rfl, ?_⟩; replace HO_107001 := am (Kd.R_below (by (with_reducible repeat (first | apply Kd.R_alloc | apply Kd.R_drewN | apply Kd.R_drew)); exact (RF HO_107001.out BK136.out)) hb); replace HO_113001 := am (Kd.R_below (by (with_reducible repeat (first | apply Kd.R_alloc | apply Kd.R_drewN | apply Kd.R_drew)); exact (RF HO_113001.out BK136.out)) hb); replace HO_119001 := am (Kd.R_below (by (with_reducible repeat (first | apply Kd.R_alloc | apply Kd.R_drewN | apply Kd.R_drew)); exact (RF HO_119001.out BK136.out)) hb); replace HO134 := am (Kd.R_below (by (with_reducible repeat (first | apply Kd.R_alloc | apply Kd.R_drewN | apply Kd.R_drew)); exact (RF HO134.out BK136.out)) hb); replace BK106 := am (blk_below (g := gb106) (o := .cells #[.int .i64 t101, .slice Ao10 t102.length co10] 31 (0, 0)) (by (with_reducible repeat (first | refine blk_drewN ?_ _ | refine blk_drew ?_ | refine blk_alloc ?_ _)); refine blk_far ?_ NB106_136.out _; (with_reducible repeat (first | refine blk_drewN ?_ _ | refine blk_drew ?_ | refine blk_alloc ?_ _)); refine blk_far ?_ NB106_136.out _; (with_reducible repeat (first | refine blk_drewN ?_ _ | refine blk_drew ?_ | refine blk_alloc ?_ _)); exact BK106.out) hb); replace BK112 := am (blk_below (g := gb112) (o := .cells #[.int .i64 t107, .slice Ao15 t108.length co15] 31 (0, 0)) (by (with_reducible repeat (first | refine blk_drewN ?_ _ | refine blk_drew ?_ | refine blk_alloc ?_ _)); refine blk_far ?_ NB112_136.out _; (with_reducible repeat (first | refine blk_drewN ?_ _ | refine blk_drew ?_ | refine blk_alloc ?_ _)); refine blk_far ?_ NB112_136.out _; (with_reducible repeat (first | refine blk_drewN ?_ _ | refine blk_drew ?_ | refine blk_alloc ?_ _)); exact BK112.out) hb); replace BK118 := am (blk_below (g := gb118) (o := .cells #[.int .i64 t113, .slice Ao22 t114.length co22] 31 (0, 0)) (by (with_reducible repeat (first | refine blk_drewN ?_ _ | refine blk_drew ?_ | refine blk_alloc ?_ _)); refine blk_far ?_ NB118_136.out _; (with_reducible repeat (first | refine blk_drewN ?_ _ | refine blk_drew ?_ | refine blk_alloc ?_ _)); refine blk_far ?_ NB118_136.out _; (with_reducible repeat (first | refine blk_drewN ?_ _ | refine blk_drew ?_ | refine blk_alloc ?_ _)); exact BK118.out) hb); replace BK136 := am (blk_below (g := gb136) (o := .cells #[.int .i64 t131, .slice Ao135 t132.length co135] 31 (0, 0)) (by (with_reducible repeat (first | refine blk_drewN ?_ _ | refine blk_drew ?_ | refine blk_alloc ?_ _)); refine blk_put (cs := #[.int .i64 t131, .slice none 0 0]) ?_ 1 _ rfl; (with_reducible repeat (first | refine blk_drewN ?_ _ | refine blk_drew ?_ | refine blk_alloc ?_ _)); refine blk_put (cs := #[.int .i64 0, .slice none 0 0]) ?_ 0 _ rfl; (with_reducible repeat (first | refine blk_drewN ?_ _ | refine blk_drew ?_ | refine blk_alloc ?_ _)); exact BK136.out) hb); replace HB := am (below_step (K4 HB GE106.out GE112.out GE118.out GE136.out) hb); (try clear hb); (try clear hb2); (try clear hk); (try clear hi); obtain ⟨hcz138_0, hcz138_1, hfz138_0⟩ := y2 w137 BK112.out; have hnb139 := NB106_118.out; have hnc139 := NB118_106.out; obtain ⟨hcz140_0, hcz140_1, hfz140_0⟩ := y2 w137 BK106.out))
              go_ret
              exact ⟨ER, K4 HB GE106.out GE112.out GE118.out GE136.out⟩
             ·rw [if_neg c125] at H
              have c125b0 : (t111 == 0) = false := beq_eq_false_iff_ne.mpr c125
              have c125b1 : (t111 != 0) = true := bne_iff_ne.mpr c125
              obtain rfl := Option.some.inj H
              have hnb141 := NB112_106.out
              have hnc141 := NB106_112.out
              have hnb142 := NB112_118.out
              have hnc142 := NB118_112.out
              obtain ⟨hcz143_0, hcz143_1, hfz143_0⟩ := y2 wc BK112.out
              go_wp2_with (first | ((with_reducible refine gate_callee (f := 19) rfl ?_); refine goesL_ (some 119) rfl rfl Try.func19 (by kernel_rfl) rfl #[.agg #[.int .i64 t107, .slice Ao15 t108.length co15], .int .i64 t105] rfl MT ?_; (with_reducible refine (impl_WindowSee.calls kj64 t107 _ _ t108 t105 t131 t132 t135 _ ?side1 ?side2 A121.out).mono ?_); (case side1 => exact KC (Kd.R_reads' HO_113001.out).2.2); (case side2 => exact (Kd.R_reads' HO_113001.out).2.1); rintro e w144 ⟨v133, rfl, ho0, hb⟩; refine ⟨_, rfl, ?_⟩; have HO134 := am (Kd.R_lower (Kd.R_new' (Kd.R_new' (Kd.R_new' ho0 (Kd.R_lt (KR HO_107001))) (Kd.R_lt (KR HO_113001))) (Kd.R_lt (KR HO_119001))) (below_size (K3 HB GE106.out GE112.out GE118.out))); replace HO_107001 := am (Kd.R_elder' (KR HO_107001) (Kd.R_base ho0) hb); replace HO_113001 := am (Kd.R_elder' (KR HO_113001) (Kd.R_base ho0) hb); replace HO_119001 := am (Kd.R_elder' (KR HO_119001) (Kd.R_base ho0) hb); replace BK106 := am (BB BK106 hb); replace BK112 := am (BB BK112 hb); replace BK118 := am (BB BK118 hb); replace HB := am (below_step (K3 HB GE106.out GE112.out GE118.out) hb); (try clear hb); (try clear ho0)) | ((with_reducible refine gate_dst (N := 11) rfl ?_); refine box_event rfl (N := 11) rfl (cs := #[.int .i64 0, .slice none 0 0]) (t := 31) BX ?_; intro gb136 hg w145 hbox hb; replace HO_107001 := am (Kd.R_below (KR HO_107001) hb); replace HO_113001 := am (Kd.R_below (KR HO_113001) hb); replace HO_119001 := am (Kd.R_below (KR HO_119001) hb); replace HO134 := am (Kd.R_below (KR HO134) hb); have BK136 := am (hbox); have GW136 := am (GH3 HB GE106.out GE112.out GE118.out hg); have GE136 := GW136; replace HB := am (below_step (K3 HB GE106.out GE112.out GE118.out) hb); have NB106_136 := am (NL BK106 hg); have NB136_106 := am (NG BK106 hg); replace BK106 := am (BB BK106 hb); have NB112_136 := am (NL BK112 hg); have NB136_112 := am (NG BK112 hg); replace BK112 := am (BB BK112 hb); have NB118_136 := am (NL BK118 hg); have NB136_118 := am (NG BK118 hg); replace BK118 := am (BB BK118 hb); clear hb hbox hg; have hnb146 := NB136_106.out; have hnc146 := NB106_136.out; have hnb147 := NB136_112.out; have hnc147 := NB112_136.out; have hnb148 := NB136_118.out; have hnc148 := NB118_136.out; obtain ⟨hcz149_0, hcz149_1, hfz149_0⟩ := y2 w145 BK136.out; obtain ⟨Ao150, co150, eo150⟩ := Kd.R_slice HO134.out; subst eo150; obtain ⟨hcz151_0, hcz151_1, hfz151_0⟩ := y2 w145 BK112.out) | ((with_reducible refine gate_callee (f := 22) rfl ?_); refine goesL_ (some 123) rfl rfl Try.func22 (by kernel_rfl) rfl #[.agg #[.int .i64 t107, .slice Ao15 t108.length co15]] rfl MT ?_; (with_reducible refine (impl_WindowOk.calls kj64 t107 _ _ t108 true _ ?side1 ?side2 A122.out).mono ?_); (case side1 => refine (Kd.R_reads' (e := 3) (base := w.heap.size) (ok := fun k_ => ((some k_ ≠ (.slice Ao10 t102.length co10 : Value).ownBlock ∧ some k_ ≠ (.slice Ao22 t114.length co22 : Value).ownBlock) ∧ some k_ ≠ (.slice Ao150 t132.length co150 : Value).ownBlock)) (n := t108.length) (c := co15) ?_).2.2; exact (by (with_reducible repeat (first | apply Kd.R_alloc | apply Kd.R_drewN | apply Kd.R_drew)); exact (RF HO_113001.out BK136.out))); (case side2 => exact (Kd.R_reads' HO_113001.out).2.1); rintro e w152 ⟨rfl, hb⟩; refine ⟨_, rfl, ?_⟩; replace HO_107001 := am (Kd.R_below (by (with_reducible repeat (first | apply Kd.R_alloc | apply Kd.R_drewN | apply Kd.R_drew)); exact (RF HO_107001.out BK136.out)) hb); replace HO_113001 := am (Kd.R_below (by (with_reducible repeat (first | apply Kd.R_alloc | apply Kd.R_drewN | apply Kd.R_drew)); exact (RF HO_113001.out BK136.out)) hb); replace HO_119001 := am (Kd.R_below (by (with_reducible repeat (first | apply Kd.R_alloc | apply Kd.R_drewN | apply Kd.R_drew)); exact (RF HO_119001.out BK136.out)) hb); replace HO134 := am (Kd.R_below (by (with_reducible repeat (first | apply Kd.R_alloc | apply Kd.R_drewN | apply Kd.R_drew)); exact (RF HO134.out BK136.out)) hb); replace BK106 := am (blk_below (g := gb106) (o := .cells #[.int .i64 t101, .slice Ao10 t102.length co10] 31 (0, 0)) (by (with_reducible repeat (first | refine blk_drewN ?_ _ | refine blk_drew ?_ | refine blk_alloc ?_ _)); refine blk_far ?_ NB106_136.out _; (with_reducible repeat (first | refine blk_drewN ?_ _ | refine blk_drew ?_ | refine blk_alloc ?_ _)); refine blk_far ?_ NB106_136.out _; (with_reducible repeat (first | refine blk_drewN ?_ _ | refine blk_drew ?_ | refine blk_alloc ?_ _)); exact BK106.out) hb); replace BK112 := am (blk_below (g := gb112) (o := .cells #[.int .i64 t107, .slice Ao15 t108.length co15] 31 (0, 0)) (by (with_reducible repeat (first | refine blk_drewN ?_ _ | refine blk_drew ?_ | refine blk_alloc ?_ _)); refine blk_far ?_ NB112_136.out _; (with_reducible repeat (first | refine blk_drewN ?_ _ | refine blk_drew ?_ | refine blk_alloc ?_ _)); refine blk_far ?_ NB112_136.out _; (with_reducible repeat (first | refine blk_drewN ?_ _ | refine blk_drew ?_ | refine blk_alloc ?_ _)); exact BK112.out) hb); replace BK118 := am (blk_below (g := gb118) (o := .cells #[.int .i64 t113, .slice Ao22 t114.length co22] 31 (0, 0)) (by (with_reducible repeat (first | refine blk_drewN ?_ _ | refine blk_drew ?_ | refine blk_alloc ?_ _)); refine blk_far ?_ NB118_136.out _; (with_reducible repeat (first | refine blk_drewN ?_ _ | refine blk_drew ?_ | refine blk_alloc ?_ _)); refine blk_far ?_ NB118_136.out _; (with_reducible repeat (first | refine blk_drewN ?_ _ | refine blk_drew ?_ | refine blk_alloc ?_ _)); exact BK118.out) hb); replace BK136 := am (blk_below (g := gb136) (o := .cells #[.int .i64 t131, .slice Ao150 t132.length co150] 31 (0, 0)) (by (with_reducible repeat (first | refine blk_drewN ?_ _ | refine blk_drew ?_ | refine blk_alloc ?_ _)); refine blk_put (cs := #[.int .i64 t131, .slice none 0 0]) ?_ 1 _ rfl; (with_reducible repeat (first | refine blk_drewN ?_ _ | refine blk_drew ?_ | refine blk_alloc ?_ _)); refine blk_put (cs := #[.int .i64 0, .slice none 0 0]) ?_ 0 _ rfl; (with_reducible repeat (first | refine blk_drewN ?_ _ | refine blk_drew ?_ | refine blk_alloc ?_ _)); exact BK136.out) hb); replace HB := am (below_step (K4 HB GE106.out GE112.out GE118.out GE136.out) hb); (try clear hb); (try clear hb2); (try clear hk); (try clear hi); obtain ⟨hcz153_0, hcz153_1, hfz153_0⟩ := y2 w152 BK112.out; have hnb154 := NB106_118.out; have hnc154 := NB118_106.out; obtain ⟨hcz155_0, hcz155_1, hfz155_0⟩ := y2 w152 BK106.out))
              go_ret
              exact ⟨ER, K4 HB GE106.out GE112.out GE118.out GE136.out⟩
            ·rw [if_neg c124] at H
             have c124b0 : decide (t101 ≤ t107) = false := decide_eq_false c124
             clear c124
             exact absurd ((Option.some.inj H).trans HR_.out) (by decide)
           ·replace c123 := Bool.eq_false_iff.mpr c123
            subst c123
            have H1 : (some false) = some r := by rw [if_neg (show ¬ (false = true) by decide)] at H; exact H
            clear H
            have H := H1
            clear H1
            exact absurd ((Option.some.inj H).trans HR_.out) (by decide)
/-- THE ONE PURE STATEMENT of laws_FnWindowSee: yours. -/
def laws_FnWindowSee.Pure : Prop := ∀ (l0 : List Int), l0.length ≤ maxLen → l0.length * 1 ≤ 140737488351232 → (∀ x ∈ l0, (Lit.int .u8 x).wf = true) → ∃ k, laws_FnWindowSee.f k l0 = some true
theorem laws_FnWindowSee.walk (P : laws_FnWindowSee.Pure) (a0 : Option Addr) (len0 cap0 : Nat) (z0 : List Int) (w : World) (w0 : (a0 = none ∧ len0 = 0 ∧ cap0 = 0 ∧ z0 = []) ∨ ∃ x, a0 = some x ∧ len0 ≤ cap0 ∧ cap0 ≤ maxLen ∧ z0.length = cap0 ∧ (∀ i, i < z0.length → w.cell? (x.add i) = some (.int .u8 (z0.getD i 0))) ∧ ∀ n ∈ z0, (Lit.int .u8 n).wf = true) (y0 : len0 * 1 ≤ 140737488351232) :
  Calls Try.prog 5 #[.slice a0 len0 cap0] w fun e w' => e = .returned (.bool true) ∧ Below w.heap.size w w' := by
 obtain ⟨l0, rfl, hr0, hm0, hw0, hc0⟩ := ReadsInt.ofRowC w0
 obtain ⟨k, h⟩ := P l0 hm0 y0 hw0
 refine (laws_FnWindowSee.calls k _ _ l0 true w (Kd.C_of_reads (d := (0 : Int)) (h1 := fun _ => rfl) hr0) hc0 rfl h).mono ?_
 rintro e w' ⟨rfl, hd⟩
 exact ⟨rfl, hd⟩
end Go.Proofs.Ytlpmmmhfceeiaaa.PAll
end
