/- Contracts of the functions that the statement reaches, printed by a program out of the translation and joined with the plain laws. -/
import Derived.Shelf.RegionOpenPlain
import Derived.Shelf.Abstract
import Derived.WalkKit
import Derived.Deep.LoopGhost
import Derived.Deep.RegionLaw
import Derived.Lib.Walk
import Derived.Lib.SliceRun
import Derived.Laws.IdiomCopy
import Derived.Lib.LazyBuf
import Derived.Shelf.Spec.SlicesInsertGrow
import Derived.Test.YtlpmmmhfceeiaaaCFnExactWindowSee3
import Derived.Test.YtlpmmmhfceeiaaaCFnExactWindowSee4
import Derived.Test.YtlpmmmhfceeiaaaCFnExactWindowSee5
import Derived.Test.YtlpmmmhfceeiaaaCFnExactWindowSee6
section
namespace Go.Proofs.Ytlpmmmhfceeiaaa.PAll
open Go.RowKit Go.Proofs.YtlpmmmhfceeiaaaW.PrintWords Go.Proofs.YtlpmmmhfceeiaaaW.PrintLast Go.Proofs.YtlpmmmhfceeiaaaW.PrintMore
attribute [local go_sem] max2_int min2_int max_two min_two max_three min_three max_four min_four   -- for this text's walks alone
set_option linter.unusedVariables false
set_option linter.unusedSimpArgs false
def findI (p : Int → Bool) : List Int → Int → Int
 | [], _ => -1
 | x :: xs, i => if p x = true then i else findI p xs (i + 1)
set_option maxHeartbeats 4000000 in
set_option maxRecDepth 100000 in
theorem wins.one (top : Int) (B : Nat) (W : World) (x : Int) (hB : W.heap[B]? = some (.cells #[.int .i64 top] 3 (0, 0))) :
  Calls Try.prog 54 #[.int .i64 x, .pointer (some ⟨B, 0, none⟩)] W fun e w' => e = .returned (.bool (decide (x ≤ wrap64 (top - 16)))) ∧ w' = W := by
 have hc0 : W.cell? ⟨B, 0, none⟩ = some (.int .i64 top) := (blk_cell hB 0).trans rfl
 clear hB
 go_enter Try.func54, Try.ntmps54
 go_wp2
 go_ret
 exact ⟨rfl, rfl⟩
set_option maxHeartbeats 4000000 in
set_option maxRecDepth 100000 in
theorem idx.gen (p : Int → Bool) (g0 : Nat) (lb : Array Value) (eg : ∀ args w, (callFunc g0 args).run Try.prog w = .ok (.enter g0 args) w) (g c : Nat) (l : List Int) (w : World) (hm : l.length ≤ 9223372036854775807)
  (hc : ∀ k (h : k < l.length), w.cell? ⟨g, k, none⟩ = some (.int .i64 l[k])) (hp : ∀ x, Calls Try.prog g0 (#[.int .i64 x] ++ lb) w fun e w' => e = .returned (.bool (p x)) ∧ w' = w) :
  Calls Try.prog 97 #[.slice (some ⟨g, 0, none⟩) l.length c, .func (.func g0) #[] lb] w fun e w' => e = .returned (.int .i64 (findI p l 0)) ∧ w' = w := by
 have hu := Try.underlying22
 have HM := Aside0.mk hm
 have HC := Aside0.mk hc
 have HP := Aside0.mk hp
 clear hm hc hp
 go_enter Try.func97, Try.ntmps97
 go_wp2
 go_loopg [5, 8] l.length (fun gg _ s8 wr => ∃ kk : Nat, kk ≤ l.length ∧ Aside0 (l.length - kk ≤ gg) ∧ s8 = .int .i64 kk ∧ wr = w ∧ Aside0 (findI p (l.drop kk) kk = findI p l 0))
 case atStart => exact ⟨0, Nat.zero_le _, ⟨by omega⟩, rfl, rfl, ⟨rfl⟩⟩
 case round =>
  obtain ⟨kk, hkk, hg, rfl, rfl, A0⟩ := hrel
  have hml := HM.out
  by_cases hlt : kk < l.length
  ·have hltz : (kk : Int) < (l.length : Int) := by omega
   have hcell := HC.out kk hlt
   have A1 := A0.out
   rw [List.drop_eq_getElem_cons hlt] at A1
   clear A0
   generalize l[kk] = y at hcell A1
   have hcall := HP.out y
   simp only [findI] at A1
   have A2 := Aside0.mk A1
   clear A1
   rcases hb : p y with _ | _
   ·rw [hb] at hcall
    go_wp2_with (go_at_fn g0; refine hcall.mono ?_; rintro e w' ⟨rfl, rfl⟩)
    go_roundg (l.length - (kk + 1))
    case measure => have := hg.out; omega
    case rel => exact ⟨kk + 1, by omega, ⟨by omega⟩, by go_num, rfl, ⟨by have A1 := A2.out; simp only [hb, Bool.false_eq_true, if_false] at A1; exact A1⟩⟩
   ·rw [hb] at hcall
    go_wp2_with (go_at_fn g0; refine hcall.mono ?_; rintro e w' ⟨rfl, rfl⟩)
    go_ret
    have A1 := A2.out
    simp only [hb, if_true] at A1
    exact ⟨by rw [← A1]; rfl, rfl⟩
  ·have hltz : ¬ (kk : Int) < (l.length : Int) := by omega
   have : kk = l.length := by omega
   have A1 := A0.out
   rw [this, List.drop_length] at A1
   have A2 := Aside0.mk A1
   clear A0 A1
   go_wp2
   go_ret
   have A1 := A2.out
   simp only [findI] at A1
   exact ⟨by rw [← A1]; rfl, rfl⟩
theorem findI_spec (p : Int → Bool) : ∀ (l : List Int) (i : Nat), (findI p l i = -1 ∧ l.filter (fun x => !p x) = l) ∨ ∃ k, findI p l i = ((i + k : Nat) : Int) ∧ k < l.length ∧ (l.take (k + 1)).filter (fun x => !p x) = l.take k
 | [], i => .inl ⟨rfl, rfl⟩
 | x :: xs, i => by
  cases hp : p x with
  | true => exact .inr ⟨0, by simp [findI, hp], by simp, by simp [hp]⟩
  | false =>
   rcases findI_spec p xs (i + 1) with ⟨h1, h2⟩ | ⟨k, h1, h2, h3⟩
   ·refine .inl ⟨by simp only [findI, hp, Bool.false_eq_true, if_false]; exact h1, by simp [hp, h2]⟩
   ·refine .inr ⟨k + 1, ?_, by simpa using h2, ?_⟩
    ·simp only [findI, hp, Bool.false_eq_true, if_false]; rw [show ((i : Int) + 1) = ((i + 1 : Nat) : Int) by omega, h1]; congr 1; omega
    ·rw [List.take_succ_cons, List.filter_cons_of_pos (by simp [hp]), h3, List.take_succ_cons]
theorem delf.set_take : ∀ (row : List Int) (i : Nat) (y : Int), i < row.length → (row.set i y).take (i + 1) = row.take i ++ [y]
 | [], i, y, h => by simp at h
 | x :: r, 0, y, h => by simp
 | x :: r, i + 1, y, h => by simp only [List.set_cons_succ, List.take_succ_cons, List.cons_append]; rw [delf.set_take r i y (by simpa using h)]
theorem delf.cell {w : World} {g : Nat} {cur : Array Value} {row : List Int} (h : w.heap[g]? = some (.cells cur 3 (0, 0))) (ht : cur.toList.take row.length = row.map (Value.int .i64)) (k : Nat) (hk : k < row.length) : w.cell? ⟨g, k, none⟩ = some (.int .i64 row[k]) := by
 rw [blk_cell h k, ← Array.getElem?_toList, ← List.getElem?_take_of_lt hk, ht, List.getElem?_map, List.getElem?_eq_getElem hk]; rfl
set_option maxHeartbeats 4000000 in
set_option maxRecDepth 100000 in
theorem delf.walk (top : Int) (B g c : Nat) (l : List Int) (cur : Array Value) (w : World) (hg : w.heap[g]? = some (.cells cur 3 (0, 0))) (hB : w.heap[B]? = some (.cells #[.int .i64 top] 3 (0, 0))) (hne : B ≠ g) (hn : l.length ≤ c) (hm : c ≤ 9223372036854775807) (hs : cur.size = c)
  (ht : cur.toList.take l.length = l.map (Value.int .i64)) :
  Calls Try.prog 53 #[.slice (some ⟨g, 0, none⟩) l.length c, .func (.func 54) #[] #[.pointer (some ⟨B, 0, none⟩)]] w fun e w' => e = .returned (.slice (some ⟨g, 0, none⟩) (l.filter (fun x => !decide (x ≤ wrap64 (top - 16)))).length c) ∧
   (∃ cur', w'.heap[g]? = some (.cells cur' 3 (0, 0)) ∧ cur'.size = c ∧ cur'.toList.take (l.filter (fun x => !decide (x ≤ wrap64 (top - 16)))).length = (l.filter (fun x => !decide (x ≤ wrap64 (top - 16)))).map (Value.int .i64)) ∧
   (∀ k, k ≠ g → w'.heap[k]? = w.heap[k]?) ∧ w'.heap.size = w.heap.size ∧ w'.os = w.os ∧ w'.tape = w.tape ∧ w'.output = w.output := by
 have eg := enters_of Try.func54 (by kernel_rfl) rfl
 have hi := idx.gen (fun x => decide (x ≤ wrap64 (top - 16))) 54 #[.pointer (some ⟨B, 0, none⟩)] eg g c l w (by omega) (delf.cell hg ht) (fun x => wins.one top B w x hB)
 generalize hp : (fun x : Int => decide (x ≤ wrap64 (top - 16))) = p at hi
 have hfp : (fun x : Int => !decide (x ≤ wrap64 (top - 16))) = (fun x => !p x) := by rw [← hp]
 rw [hfp]
 have hone : ∀ (W : World) (x : Int), W.heap[B]? = some (.cells #[.int .i64 top] 3 (0, 0)) → Calls Try.prog 54 #[.int .i64 x, .pointer (some ⟨B, 0, none⟩)] W fun e w' => e = .returned (.bool (p x)) ∧ w' = W := fun W x h => by rw [← hp]; exact wins.one top B W x h
 rcases findI_spec p l 0 with ⟨h1, h2⟩ | ⟨i0, h1, h2, h3⟩
 ·have h1' : findI p l 0 = -1 := h1
  rw [h1'] at hi
  rw [h2]
  have R := am (show (∃ cur', w.heap[g]? = some (.cells cur' 3 (0, 0)) ∧ cur'.size = c ∧ cur'.toList.take l.length = l.map (Value.int .i64)) from ⟨cur, hg, hs, ht⟩)
  clear hg hB hs ht
  go_enter Try.func53, Try.ntmps53
  go_wp2_with (go_at_call 97; refine hi.mono ?_; rintro e w' ⟨rfl, rfl⟩)
  go_ret
  exact ⟨rfl, R.out, fun _ _ => rfl, rfl, rfl, rfl, rfl⟩
 ·have h1' : findI p l 0 = ((0 + i0 : Nat) : Int) := h1
  rw [h1', Nat.zero_add] at hi
  have hni : ¬ ((i0 : Int) = -1) := by omega
  have hw1 : wrap64 ((i0 : Int) + 1) = ((i0 + 1 : Nat) : Int) := by unfold wrap64; omega
  have H0 := Aside0.mk hg
  have HB0 := Aside0.mk hB
  have HS := Aside0.mk hs
  have HT := Aside0.mk ht
  have HP := Aside0.mk hone
  have H3 := Aside0.mk h3
  clear hg hB hs ht hone h3 hp hfp h1 h1'
  go_enter Try.func53, Try.ntmps53
  go_wp2_with (go_at_call 97; refine hi.mono ?_; rintro e w' ⟨rfl, hw'⟩; obtain rfl := hw'.symm; clear hw')
  go_loopg [5, 6] l.length (fun gg v5 v6 wr => ∃ (i j : Nat) (cur1 : Array Value) (row : List Int), i < j ∧ j ≤ l.length ∧ Aside0 (l.length - j ≤ gg) ∧ v5 = .int .i64 i ∧ v6 = .int .i64 j ∧ Aside0 (wr.heap[g]? = some (.cells cur1 3 (0, 0))) ∧ Aside0 (cur1.size = c) ∧ row.length = l.length ∧
   Aside0 (cur1.toList.take row.length = row.map (Value.int .i64)) ∧ Aside0 (row.take i = (l.take j).filter (fun x => !p x)) ∧ Aside0 (row.drop j = l.drop j) ∧ Aside0 (wr.heap[B]? = some (.cells #[.int .i64 top] 3 (0, 0))) ∧ Aside0 ((∀ k, k ≠ g → wr.heap[k]? = w.heap[k]?) ∧ wr.heap.size = w.heap.size ∧ wr.os = w.os ∧ wr.tape = w.tape ∧ wr.output = w.output))
  case atStart => exact ⟨i0, i0 + 1, cur, l, by omega, by omega, ⟨by omega⟩, rfl, by go_num, H0, HS, rfl, HT, ⟨H3.out.symm⟩, ⟨rfl⟩, HB0, ⟨fun _ _ => rfl, rfl, rfl, rfl, rfl⟩⟩
  case round =>
   clear H0 HS HT H3 HB0 hi hw1 hni h2
   obtain ⟨i, j, cur1, row, hij, hj, hg, rfl, rfl, G1, S1, hrl, T1, F1, D1, B1, K1⟩ := hrel
   by_cases hlt : j < l.length
   ·have hltz : (j : Int) < (l.length : Int) := by omega
    have hjr : j < row.length := by omega
    have hcell := delf.cell G1.out T1.out j hjr
    have hv : row[j] = l[j] := by
     have h := congrArg (fun z => z[0]?) D1.out
     simp only [List.getElem?_drop, Nat.add_zero, List.getElem?_eq_getElem hjr, List.getElem?_eq_getElem hlt, Option.some.injEq] at h
     exact h
    have hcall := HP.out _ row[j] B1.out
    have F2 : (l.take (j + 1)).filter (fun x => !p x) = row.take i ++ (if p row[j] then [] else [row[j]]) := by
     rw [List.take_add_one, List.getElem?_eq_getElem hlt, List.filter_append, ← F1.out, ← hv]
     generalize row[j] = q
     cases hq : p q <;> simp [hq]
    have D2 : row.drop (j + 1) = l.drop (j + 1) := by
     rw [← List.tail_drop, D1.out, List.tail_drop]
    generalize row[j] = y at hcell hcall F2
    have F2' := Aside0.mk F2
    have D2' := Aside0.mk D2
    clear F2 D2 hv F1 D1
    cases hpy : p y with
    | true =>
     rw [hpy] at hcall
     go_wp2_with (go_at_fn 54)
     refine hcall.mono ?_
     rintro e w' ⟨rfl, rfl⟩
     go_wp2
     go_roundg (l.length - (j + 1))
     case measure => have := hg.out; omega
     case rel => exact ⟨i, j + 1, cur1, row, by omega, by omega, ⟨by omega⟩, rfl, by go_num, G1, S1, hrl, T1, ⟨by rw [F2'.out, hpy]; simp⟩, D2', B1, K1⟩
    | false =>
     rw [hpy] at hcall
     have hir : i < row.length := by omega
     have hi0 : (0 : Int) ≤ (i : Int) := by omega
     have hin : (i : Int) < (l.length : Int) := by omega
     have hcw := delf.cell G1.out T1.out i hir
     have hfr := blk_frozen G1.out i
     generalize row[i] = z at hcw
     go_wp2_with (go_at_fn 54)
     refine hcall.mono ?_
     rintro e w' ⟨rfl, rfl⟩
     go_wp2
     go_roundg (l.length - (j + 1))
     case measure => have := hg.out; omega
     case rel =>
      refine ⟨i + 1, j + 1, cur1.setIfInBounds i (.int .i64 y), row.set i y, by omega, by omega, ⟨by omega⟩, by go_num, by go_num, ⟨blk_set G1.out i _⟩, ⟨by rw [Array.size_setIfInBounds]; exact S1.out⟩, by rw [List.length_set]; exact hrl, ⟨?_⟩, ⟨?_⟩, ⟨?_⟩, ⟨blk_far B1.out (p := ⟨g, i, none⟩) hne _⟩, ⟨?_, ?_⟩⟩
      ·rw [Array.toList_setIfInBounds, List.length_set, List.take_set, T1.out, List.map_set]
      ·rw [F2'.out, hpy, delf.set_take row i y hir]; rfl
      ·rw [List.drop_set_of_lt (by omega)]; exact D2'.out
      ·exact fun k hk => (Below.heap_setCell _ ⟨g, i, none⟩ _ k hk).trans (K1.out.1 k hk)
      ·obtain ⟨_, h2, h3, h4, h5⟩ := K1.out
       exact ⟨by simpa [World.setCell] using h2, h3, h4, h5⟩
   ·have hltz : ¬ (j : Int) < (l.length : Int) := by omega
    have hjl : j = l.length := by omega
    have hil : i < l.length := by omega
    have hzl : (Builtin.zeroCells (Value.int .i64 0).cells (l.length - i)).toList.length = l.length - i := (zeroCells_len _ _).trans (Nat.mul_one _)
    have hcl : ∀ ty, (Builtin.clear_ #[22] ty #[.slice (some ⟨g, i, none⟩) (l.length - i) (c - i)]).run Try.prog wr = .ok (.tuple #[]) (wr.setCells g i (Builtin.zeroCells (Value.int .i64 0).cells (l.length - i)).toList) := fun ty =>
     clear_cells wr 22 3 ty (.int .i64 0) Try.underlying22 Try.zeroValue3 g i (l.length - i) _ (by omega) (zeroCells_one _ _ (by decide)) (fun t ht => blk_some G1.out _ (by rw [hzl] at ht; rw [S1.out]; omega)) (fun t ht => blk_frozen G1.out _)
    have FF : l.filter (fun x => !p x) = row.take i := by rw [F1.out, hjl, List.take_length]
    have FF2 := Aside0.mk FF
    have hci : ¬ c = i := by omega
    have hic : i ≤ c := by omega
    have hiz : (0 : Int) ≤ (i : Int) := by omega
    have hizn : (i : Int) ≤ (l.length : Int) := by omega
    clear FF F1
    go_wp2
    go_ret
    have hrt : (row.take i).length = i := by rw [List.length_take]; omega
    rw [FF2.out, hrt]
    obtain ⟨cur2, hc2, hs2, ht2⟩ := setCells_row (Builtin.zeroCells (Value.int .i64 0).cells (l.length - i)).toList i _ cur1 G1.out (by rw [hzl, S1.out]; omega)
    obtain ⟨k1, k2, k3, k4, k5⟩ := K1.out
    obtain ⟨s1, s2, s3, s4⟩ := setCells_same g (Builtin.zeroCells (Value.int .i64 0).cells (l.length - i)).toList i wr
    refine ⟨rfl, ⟨cur2, hc2, by rw [hs2]; exact S1.out, ?_⟩, fun k hk => (setCells_far _ _ k hk).trans (k1 k hk), s4.trans k2, s1.trans k3, s2.trans k4, s3.trans k5⟩
    have hl1 : (cur1.toList.take i).length = i := by rw [List.length_take, Array.length_toList, S1.out]; omega
    rw [ht2, List.append_assoc, List.take_left' hl1, List.map_take, ← T1.out, List.take_take, Nat.min_eq_left (by omega)]
theorem reps_ints {l : List Int} {cs : List Value} {w : World} {b : Nat} {ok : Nat → Prop} (h : Reps ((Kd.int .i64).M w b ok) 1 l cs) : cs = l.map (Value.int .i64) := by
 have hl := h.1
 refine List.ext_getElem? fun k => ?_
 by_cases hk : k < l.length
 ·have h2 : (cs.drop (k * 1)).take 1 = [Value.int .i64 l[k]] := h.2 k _ (List.getElem?_eq_getElem hk)
  have h3 := congrArg (fun z => z[0]?) h2
  simp only [List.getElem?_take_of_lt (Nat.lt_succ_self 0), List.getElem?_drop, Nat.mul_one, Nat.add_zero] at h3
  rw [h3, List.getElem?_map, List.getElem?_eq_getElem hk]; rfl
 ·rw [List.getElem?_eq_none (by omega), List.getElem?_eq_none (by rw [List.length_map]; omega)]
theorem ints_reps (l : List Int) (w : World) (b : Nat) (ok : Nat → Prop) : Reps ((Kd.int .i64).M w b ok) 1 l (l.map (Value.int .i64)) := by
 refine ⟨by simp, fun k x hx => ?_⟩
 show ((l.map (Value.int .i64)).drop (k * 1)).take 1 = [Value.int .i64 x]
 refine List.ext_getElem? fun q => ?_
 rcases q with _ | q
 ·rw [List.getElem?_take_of_lt (Nat.lt_succ_self 0), List.getElem?_drop, Nat.mul_one, Nat.add_zero, List.getElem?_map, hx]; rfl
 ·rw [List.getElem?_eq_none (by rw [List.length_take]; omega), List.getElem?_eq_none (by simp)]
def slices_DeleteFunc_int.f (l0 : List Int) (a1_0 : Int) : Option (List Int) := if 0 < (l0.length : Int) then some (l0.filter (fun x => !decide (x ≤ wrap64 (a1_0 - 16)))) else none
set_option maxHeartbeats 4000000 in
theorem slices_DeleteFunc_int.calls (P0_ : Nat → Prop) (u9000_ : Value) (l0 : List Int) (a1_0 : Int) (B : Nat) (r : List Int) (w0 w : World) (hB : Below w0.heap.size w0 w) (ho0 : Kd.R (Kd.int .i64) 3 w w0.heap.size P0_ u9000_ l0)
  (hb : w.heap[B]? = some (.cells #[.int .i64 a1_0] 3 (0, 0))) (hnb : some B ≠ u9000_.ownBlock) (h : slices_DeleteFunc_int.f l0 a1_0 = some r) :
  Calls Try.prog 53 #[u9000_, .func (.func 54) #[] #[.pointer (some ⟨B, 0, none⟩)]] w fun e w' => ∃ v0_ : Value, e = .returned (v0_) ∧ Kd.R (Kd.int .i64) 3 w' w0.heap.size (fun k_ => (P0_ k_ ∨ w.heap.size ≤ k_)) v0_ r ∧ Below w0.heap.size w0 w' ∧ Kept w w' (fun k_ => P0_ k_) := by
 unfold slices_DeleteFunc_int.f at h
 by_cases c1 : 0 < (l0.length : Int)
 ·rw [if_pos c1] at h
  obtain rfl := Option.some.inj h
  obtain ⟨hP, inner, ⟨hil, hcase⟩, hr⟩ := ho0
  rcases hcase with ⟨rfl, h0⟩ | ⟨g, c, cur, rfl, hgb, hh, hnc, hcm, hcs, htake⟩
  ·omega
  have hin := reps_ints hr
  subst hin
  have hP' := hP g rfl
  have hcs' : cur.size = c := hcs.trans (Nat.mul_one c)
  have htake' : cur.toList.take l0.length = l0.map (Value.int .i64) := by rw [← htake]; exact congrArg (fun z => cur.toList.take z) (Nat.mul_one _).symm
  have hle := List.length_filter_le (fun x : Int => !decide (x ≤ wrap64 (a1_0 - 16))) l0
  refine (delf.walk a1_0 B g c l0 cur w hh hb (fun e => hnb (by rw [e]; rfl)) hnc hcm hcs' htake').mono ?_
  rintro e w' ⟨rfl, ⟨cur2, h1, h2, h3⟩, h4, h5, h6, h7, h8⟩
  have hst : Below w0.heap.size w w' := ⟨h6, h7, h8, by omega, fun k hk => h4 k (by omega)⟩
  refine ⟨_, rfl, R_mk rfl (.inl hP') hgb h1 (by omega) hcm (h2.trans (Nat.mul_one c).symm) (by rw [List.length_map]; exact (Nat.mul_one _).symm) ((congrArg (fun z => cur2.toList.take z) (Nat.mul_one _)).trans h3) (ints_reps _ _ _ _), hB.trans hst, ?_⟩
  exact ⟨by omega, fun k hk hn => h4 k (fun e => hn (by rw [e]; exact hP'))⟩
 ·rw [if_neg c1] at h; cases h
def impl_WindowSee.f (k : Nat) (a0_0 : Int) (l0_1 : List Int) (a1 : Int) : Option (Int × List Int × Int) := (impl_WindowOk.f k a0_0 l0_1).bind fun t103 => (if t103 = true then ((slices_BinarySearch_int_int.f k l0_1 a1).bind fun bt104 => ((impl_in.f a1 1 1000000).bind fun t106 => (if t106 = true then (if a1 ≤ (wrap64 (a0_0 - 16)) then ((impl_Window_copied.f a0_0 l0_1).bind fun bt107 => (some (bt107.1, bt107.2, 2))) else (if bt104.2 = true then ((impl_Window_copied.f a0_0 l0_1).bind fun bt111 => (some (bt111.1, bt111.2, 3))) else ((slices_Clone_int.f l0_1).bind fun t116 => ((slices_Insert_int.f t116 bt104.1 (([a1] : List Int))).bind fun t122 => ((slices_DeleteFunc_int.f t122 (mx a0_0 a1)).bind fun t125 => (some (mx a0_0 a1, t125, 0))))))) else ((impl_Window_copied.f a0_0 l0_1).bind fun bt128 => (some (bt128.1, bt128.2, 1)))))) else (some (0, ([] : List Int), 1)))
set_option maxHeartbeats 8000000 in
set_option maxRecDepth 100000 in
theorem impl_WindowSee.calls (k : Nat) (a0_0 : Int) (A0_1 : Option Addr) (c0_1 : Nat) (l0_1 : List Int) (a1 : Int) (r1 : Int) (r2 : List Int) (r3 : Int) (w : World) (hr0_1 : Kd.C (Kd.int .i64) w A0_1 l0_1.length l0_1) (hc0_1 : l0_1.length ≤ c0_1) (h : impl_WindowSee.f k a0_0 l0_1 a1 = some (r1, r2, r3)) :
  Calls Try.prog 19 #[.agg #[.int .i64 a0_0, .slice A0_1 l0_1.length c0_1], .int .i64 a1] w fun e w' => ∃ v1_ : Value, e = .returned (.tuple #[.agg #[.int .i64 r1, v1_], .int .i64 r3]) ∧ Kd.R (Kd.int .i64) 3 w' w.heap.size (fun _ => True) v1_ r2 ∧ Below w.heap.size w w' := by
 have hu31 := Try.underlying31
 have HR0_1 := Aside0.mk hr0_1
 have HC0_1 := Aside0.mk hc0_1
 clear hr0_1 hc0_1
 have HB := am (Below.refl w.heap.size w)
 have H : ((impl_WindowOk.f k a0_0 l0_1).bind fun t103 => (if t103 = true then ((slices_BinarySearch_int_int.f k l0_1 a1).bind fun bt104 => ((impl_in.f a1 1 1000000).bind fun t106 => (if t106 = true then (if a1 ≤ (wrap64 (a0_0 - 16)) then ((impl_Window_copied.f a0_0 l0_1).bind fun bt107 => (some (bt107.1, bt107.2, 2))) else (if bt104.2 = true then ((impl_Window_copied.f a0_0 l0_1).bind fun bt111 => (some (bt111.1, bt111.2, 3))) else ((slices_Clone_int.f l0_1).bind fun t116 => ((slices_Insert_int.f t116 bt104.1 (([a1] : List Int))).bind fun t122 => ((slices_DeleteFunc_int.f t122 (mx a0_0 a1)).bind fun t125 => (some (mx a0_0 a1, t125, 0))))))) else ((impl_Window_copied.f a0_0 l0_1).bind fun bt128 => (some (bt128.1, bt128.2, 1)))))) else (some (0, ([] : List Int), 1)))) = some (r1, r2, r3) := h
 clear h
 replace H := Option.bind_eq_some_iff.mp H
 obtain ⟨t103, A30, H⟩ := H
 replace H : (if t103 = true then ((slices_BinarySearch_int_int.f k l0_1 a1).bind fun bt104 => ((impl_in.f a1 1 1000000).bind fun t106 => (if t106 = true then (if a1 ≤ (wrap64 (a0_0 - 16)) then ((impl_Window_copied.f a0_0 l0_1).bind fun bt107 => (some (bt107.1, bt107.2, 2))) else (if bt104.2 = true then ((impl_Window_copied.f a0_0 l0_1).bind fun bt111 => (some (bt111.1, bt111.2, 3))) else ((slices_Clone_int.f l0_1).bind fun t116 => ((slices_Insert_int.f t116 bt104.1 (([a1] : List Int))).bind fun t122 => ((slices_DeleteFunc_int.f t122 (mx a0_0 a1)).bind fun t125 => (some (mx a0_0 a1, t125, 0))))))) else ((impl_Window_copied.f a0_0 l0_1).bind fun bt128 => (some (bt128.1, bt128.2, 1)))))) else (some (0, ([] : List Int), 1))) = some (r1, r2, r3) := H
 have A3 := Aside0.mk A30
 clear A30
 by_cases c4 : t103 = true
 ·subst c4
  have H1 : ((slices_BinarySearch_int_int.f k l0_1 a1).bind fun bt104 => ((impl_in.f a1 1 1000000).bind fun t106 => (if t106 = true then (if a1 ≤ (wrap64 (a0_0 - 16)) then ((impl_Window_copied.f a0_0 l0_1).bind fun bt107 => (some (bt107.1, bt107.2, 2))) else (if bt104.2 = true then ((impl_Window_copied.f a0_0 l0_1).bind fun bt111 => (some (bt111.1, bt111.2, 3))) else ((slices_Clone_int.f l0_1).bind fun t116 => ((slices_Insert_int.f t116 bt104.1 (([a1] : List Int))).bind fun t122 => ((slices_DeleteFunc_int.f t122 (mx a0_0 a1)).bind fun t125 => (some (mx a0_0 a1, t125, 0))))))) else ((impl_Window_copied.f a0_0 l0_1).bind fun bt128 => (some (bt128.1, bt128.2, 1)))))) = some (r1, r2, r3) := by rw [if_pos rfl] at H; exact H
  clear H
  have H := H1
  clear H1
  replace H := Option.bind_eq_some_iff.mp H
  obtain ⟨⟨t104, t105⟩, A50, H⟩ := H
  replace H : ((impl_in.f a1 1 1000000).bind fun t106 => (if t106 = true then (if a1 ≤ (wrap64 (a0_0 - 16)) then ((impl_Window_copied.f a0_0 l0_1).bind fun bt107 => (some (bt107.1, bt107.2, 2))) else (if t105 = true then ((impl_Window_copied.f a0_0 l0_1).bind fun bt111 => (some (bt111.1, bt111.2, 3))) else ((slices_Clone_int.f l0_1).bind fun t116 => ((slices_Insert_int.f t116 t104 (([a1] : List Int))).bind fun t122 => ((slices_DeleteFunc_int.f t122 (mx a0_0 a1)).bind fun t125 => (some (mx a0_0 a1, t125, 0))))))) else ((impl_Window_copied.f a0_0 l0_1).bind fun bt128 => (some (bt128.1, bt128.2, 1))))) = some (r1, r2, r3) := H
  have A5 := Aside0.mk A50
  clear A50
  replace H := Option.bind_eq_some_iff.mp H
  obtain ⟨t106, A60, H⟩ := H
  replace H : (if t106 = true then (if a1 ≤ (wrap64 (a0_0 - 16)) then ((impl_Window_copied.f a0_0 l0_1).bind fun bt107 => (some (bt107.1, bt107.2, 2))) else (if t105 = true then ((impl_Window_copied.f a0_0 l0_1).bind fun bt111 => (some (bt111.1, bt111.2, 3))) else ((slices_Clone_int.f l0_1).bind fun t116 => ((slices_Insert_int.f t116 t104 (([a1] : List Int))).bind fun t122 => ((slices_DeleteFunc_int.f t122 (mx a0_0 a1)).bind fun t125 => (some (mx a0_0 a1, t125, 0))))))) else ((impl_Window_copied.f a0_0 l0_1).bind fun bt128 => (some (bt128.1, bt128.2, 1)))) = some (r1, r2, r3) := H
  have A6 := Aside0.mk A60
  clear A60
  by_cases c7 : t106 = true
  ·subst c7
   have H1 : (if a1 ≤ (wrap64 (a0_0 - 16)) then ((impl_Window_copied.f a0_0 l0_1).bind fun bt107 => (some (bt107.1, bt107.2, 2))) else (if t105 = true then ((impl_Window_copied.f a0_0 l0_1).bind fun bt111 => (some (bt111.1, bt111.2, 3))) else ((slices_Clone_int.f l0_1).bind fun t116 => ((slices_Insert_int.f t116 t104 (([a1] : List Int))).bind fun t122 => ((slices_DeleteFunc_int.f t122 (mx a0_0 a1)).bind fun t125 => (some (mx a0_0 a1, t125, 0))))))) = some (r1, r2, r3) := by rw [if_pos rfl] at H; exact H
   clear H
   have H := H1
   clear H1
   by_cases c8 : a1 ≤ (wrap64 (a0_0 - 16))
   ·rw [if_pos c8] at H
    have c8b0 : decide (a1 ≤ (wrap64 (a0_0 - 16))) = true := decide_eq_true c8
    clear c8
    replace H := Option.bind_eq_some_iff.mp H
    obtain ⟨⟨t107, t108⟩, A90, H⟩ := H
    replace H : (some (t107, t108, 2)) = some (r1, r2, r3) := H
    have A9 := Aside0.mk A90
    clear A90
    simp only [Option.some.injEq, Prod.mk.injEq] at H
    obtain ⟨rfl, rfl, rfl⟩ := H
    go_enter Try.func19, Try.ntmps19
    go_wp2_with (first | ((with_reducible refine gate_dst (N := 2) rfl ?_); refine box_event rfl (N := 2) rfl (cs := #[.int .i64 a0_0, .slice A0_1 l0_1.length c0_1]) (t := 31) BX ?_; intro gb101 hg w10 hbox hb; have BK101 := am (hbox); have GW101 := am (GH HB hg); have GE101 := GW101; replace HB := am (below_step (KL HB) hb); clear hb hbox hg) | ((with_reducible refine gate_dst (N := 4) rfl ?_); refine box_event rfl (N := 4) rfl (cs := #[.int .i64 0, .slice none 0 0]) (t := 31) BX ?_; intro gb102 hg w11 hbox hb; have BK102 := am (hbox); have GW102 := am (GH1 HB GE101.out hg); have GE102 := GW102; replace HB := am (below_step (K1 HB GE101.out) hb); have NB101_102 := am (NL BK101 hg); have NB102_101 := am (NG BK101 hg); replace BK101 := am (BB BK101 hb); clear hb hbox hg; have hnb12 := NB101_102.out; have hnc12 := NB102_101.out; obtain ⟨hcz13_0, hcz13_1, hfz13_0⟩ := y2 w11 BK101.out) | ((with_reducible refine gate_callee (f := 22) rfl ?_); refine goesL_ (some 11) rfl rfl Try.func22 (by kernel_rfl) rfl #[.agg #[.int .i64 a0_0, .slice A0_1 l0_1.length c0_1]] rfl MT ?_; (with_reducible refine (impl_WindowOk.calls k a0_0 _ _ l0_1 true _ ?side1 ?side2 A3.out).mono ?_); (case side1 => exact KD HR0_1 HB); (case side2 => exact HC0_1.out); rintro e w14 ⟨rfl, hb⟩; refine ⟨_, rfl, ?_⟩; replace BK101 := am (BB BK101 hb); replace BK102 := am (BB BK102 hb); replace HB := am (below_step (K2 HB GE101.out GE102.out) hb); (try clear hb); (try clear hb2); (try clear hk); (try clear hi); obtain ⟨hcz15_0, hcz15_1, hfz15_0⟩ := y2 w14 BK101.out) | ((with_reducible refine gate_callee (f := 48) rfl ?_); refine goesL_ (some 18) rfl rfl Try.func48 (by kernel_rfl) rfl #[.slice A0_1 l0_1.length c0_1, .int .i64 a1] rfl MT ?_; (with_reducible refine (slices_BinarySearch_int_int.calls k _ _ l0_1 a1 t104 t105 _ ?side1 ?side2 A5.out).mono ?_); (case side1 => exact KD HR0_1 HB); (case side2 => exact HC0_1.out); rintro e w' ⟨rfl, ⟨nd, rfl⟩⟩; refine ⟨_, rfl, ?_⟩; (try (rw [drewN_self w14]; generalize hq_ : World.drewN w14 _ = w14; replace BK101 : Aside0 (w14.heap[gb101]? = some (.cells #[.int .i64 a0_0, .slice A0_1 l0_1.length c0_1] 31 (0, 0))) := ⟨by rw [← hq_]; exact (KB BK101)⟩; replace BK102 : Aside0 (w14.heap[gb102]? = some (.cells #[.int .i64 0, .slice none 0 0] 31 (0, 0))) := ⟨by rw [← hq_]; exact (KB BK102)⟩; replace HB : Aside0 (Below w.heap.size w w14) := ⟨by rw [← hq_]; exact (K2 HB GE101.out GE102.out)⟩; clear hq_; (try obtain ⟨hcz15_0, hcz15_1, hfz15_0⟩ := y2 w14 BK101.out)))) | ((with_reducible refine gate_callee (f := 49) rfl ?_); refine goesL_ (some 23) rfl rfl Try.func49 (by kernel_rfl) rfl #[.int .i64 a1, .int .i64 1, .int .i64 1000000] rfl MT ?_; (with_reducible refine (impl_in.calls a1 1 1000000 true _ A6.out).mono ?_); rintro e w' ⟨rfl, ⟨nd, rfl⟩⟩; refine ⟨_, rfl, ?_⟩; (try (rw [drewN_self w14]; generalize hq_ : World.drewN w14 _ = w14; replace BK101 : Aside0 (w14.heap[gb101]? = some (.cells #[.int .i64 a0_0, .slice A0_1 l0_1.length c0_1] 31 (0, 0))) := ⟨by rw [← hq_]; exact (KB BK101)⟩; replace BK102 : Aside0 (w14.heap[gb102]? = some (.cells #[.int .i64 0, .slice none 0 0] 31 (0, 0))) := ⟨by rw [← hq_]; exact (KB BK102)⟩; replace HB : Aside0 (Below w.heap.size w w14) := ⟨by rw [← hq_]; exact (K2 HB GE101.out GE102.out)⟩; clear hq_; (try obtain ⟨hcz15_0, hcz15_1, hfz15_0⟩ := y2 w14 BK101.out)))) | ((with_reducible refine gate_callee (f := 50) rfl ?_); refine goesL_ (some 34) rfl rfl Try.func50 (by kernel_rfl) rfl #[.agg #[.int .i64 a0_0, .slice A0_1 l0_1.length c0_1]] rfl MT ?_; (with_reducible refine (impl_Window_copied.calls a0_0 _ _ l0_1 t107 t108 _ ?side1 ?side2 A9.out).mono ?_); (case side1 => exact KD HR0_1 HB); (case side2 => exact HC0_1.out); rintro e w16 ⟨v109, rfl, ho0, hb⟩; refine ⟨_, rfl, ?_⟩; have HO110 := am (Kd.R_lower ho0 (below_size (K2 HB GE101.out GE102.out))); replace BK101 := am (BB BK101 hb); replace BK102 := am (BB BK102 hb); replace HB := am (below_step (K2 HB GE101.out GE102.out) hb); (try clear hb); (try clear hb2); (try clear hk); (try clear hi); (try clear ho0); obtain ⟨hcz17_0, hcz17_1, hfz17_0⟩ := y2 w16 BK102.out; obtain ⟨Ao18, co18, eo18⟩ := Kd.R_slice HO110.out; subst eo18))
    refine bodyPost_ret (results_ct rfl _ _ gb102 31 #[.int .i64 t107, .slice Ao18 t108.length co18] (0, 0) _ rfl (by (with_reducible repeat (first | refine blk_drewN ?_ _ | refine blk_drew ?_ | refine blk_alloc ?_ _)); refine blk_put (cs := #[.int .i64 t107, .slice none 0 0]) ?_ 1 _ rfl; (with_reducible repeat (first | refine blk_drewN ?_ _ | refine blk_drew ?_ | refine blk_alloc ?_ _)); refine blk_put (cs := #[.int .i64 0, .slice none 0 0]) ?_ 0 _ rfl; (with_reducible repeat (first | refine blk_drewN ?_ _ | refine blk_drew ?_ | refine blk_alloc ?_ _)); exact BK102.out) Try.underlying31 rfl (by kernel_rfl)) rfl ?_
    exact ⟨_, ER, by (with_reducible repeat (first | apply Kd.R_alloc | apply Kd.R_drewN | apply Kd.R_drew)); exact Kd.R_mono (Kd.R_far (p := ⟨gb102, 1, none⟩) (Kd.R_far (p := ⟨gb102, 0, none⟩) (Kd.R_types HO110.out BK102.out (by decide)) (fun _ hk => hk.2) (.int .i64 t107)) (fun _ hk => hk.2) (.slice Ao18 t108.length co18)) (fun _ hk => trivial), K2 HB GE101.out GE102.out⟩
   ·rw [if_neg c8] at H
    have c8b0 : decide (a1 ≤ (wrap64 (a0_0 - 16))) = false := decide_eq_false c8
    clear c8
    by_cases c19 : t105 = true
    ·subst c19
     have H1 : ((impl_Window_copied.f a0_0 l0_1).bind fun bt111 => (some (bt111.1, bt111.2, 3))) = some (r1, r2, r3) := by rw [if_pos rfl] at H; exact H
     clear H
     have H := H1
     clear H1
     replace H := Option.bind_eq_some_iff.mp H
     obtain ⟨⟨t111, t112⟩, A200, H⟩ := H
     replace H : (some (t111, t112, 3)) = some (r1, r2, r3) := H
     have A20 := Aside0.mk A200
     clear A200
     simp only [Option.some.injEq, Prod.mk.injEq] at H
     obtain ⟨rfl, rfl, rfl⟩ := H
     go_enter Try.func19, Try.ntmps19
     go_wp2_with (first | ((with_reducible refine gate_dst (N := 2) rfl ?_); refine box_event rfl (N := 2) rfl (cs := #[.int .i64 a0_0, .slice A0_1 l0_1.length c0_1]) (t := 31) BX ?_; intro gb101 hg w21 hbox hb; have BK101 := am (hbox); have GW101 := am (GH HB hg); have GE101 := GW101; replace HB := am (below_step (KL HB) hb); clear hb hbox hg) | ((with_reducible refine gate_dst (N := 4) rfl ?_); refine box_event rfl (N := 4) rfl (cs := #[.int .i64 0, .slice none 0 0]) (t := 31) BX ?_; intro gb102 hg w22 hbox hb; have BK102 := am (hbox); have GW102 := am (GH1 HB GE101.out hg); have GE102 := GW102; replace HB := am (below_step (K1 HB GE101.out) hb); have NB101_102 := am (NL BK101 hg); have NB102_101 := am (NG BK101 hg); replace BK101 := am (BB BK101 hb); clear hb hbox hg; have hnb23 := NB101_102.out; have hnc23 := NB102_101.out; obtain ⟨hcz24_0, hcz24_1, hfz24_0⟩ := y2 w22 BK101.out) | ((with_reducible refine gate_callee (f := 22) rfl ?_); refine goesL_ (some 11) rfl rfl Try.func22 (by kernel_rfl) rfl #[.agg #[.int .i64 a0_0, .slice A0_1 l0_1.length c0_1]] rfl MT ?_; (with_reducible refine (impl_WindowOk.calls k a0_0 _ _ l0_1 true _ ?side1 ?side2 A3.out).mono ?_); (case side1 => exact KD HR0_1 HB); (case side2 => exact HC0_1.out); rintro e w25 ⟨rfl, hb⟩; refine ⟨_, rfl, ?_⟩; replace BK101 := am (BB BK101 hb); replace BK102 := am (BB BK102 hb); replace HB := am (below_step (K2 HB GE101.out GE102.out) hb); (try clear hb); (try clear hb2); (try clear hk); (try clear hi); obtain ⟨hcz26_0, hcz26_1, hfz26_0⟩ := y2 w25 BK101.out) | ((with_reducible refine gate_callee (f := 48) rfl ?_); refine goesL_ (some 18) rfl rfl Try.func48 (by kernel_rfl) rfl #[.slice A0_1 l0_1.length c0_1, .int .i64 a1] rfl MT ?_; (with_reducible refine (slices_BinarySearch_int_int.calls k _ _ l0_1 a1 t104 true _ ?side1 ?side2 A5.out).mono ?_); (case side1 => exact KD HR0_1 HB); (case side2 => exact HC0_1.out); rintro e w' ⟨rfl, ⟨nd, rfl⟩⟩; refine ⟨_, rfl, ?_⟩; (try (rw [drewN_self w25]; generalize hq_ : World.drewN w25 _ = w25; replace BK101 : Aside0 (w25.heap[gb101]? = some (.cells #[.int .i64 a0_0, .slice A0_1 l0_1.length c0_1] 31 (0, 0))) := ⟨by rw [← hq_]; exact (KB BK101)⟩; replace BK102 : Aside0 (w25.heap[gb102]? = some (.cells #[.int .i64 0, .slice none 0 0] 31 (0, 0))) := ⟨by rw [← hq_]; exact (KB BK102)⟩; replace HB : Aside0 (Below w.heap.size w w25) := ⟨by rw [← hq_]; exact (K2 HB GE101.out GE102.out)⟩; clear hq_; (try obtain ⟨hcz26_0, hcz26_1, hfz26_0⟩ := y2 w25 BK101.out)))) | ((with_reducible refine gate_callee (f := 49) rfl ?_); refine goesL_ (some 23) rfl rfl Try.func49 (by kernel_rfl) rfl #[.int .i64 a1, .int .i64 1, .int .i64 1000000] rfl MT ?_; (with_reducible refine (impl_in.calls a1 1 1000000 true _ A6.out).mono ?_); rintro e w' ⟨rfl, ⟨nd, rfl⟩⟩; refine ⟨_, rfl, ?_⟩; (try (rw [drewN_self w25]; generalize hq_ : World.drewN w25 _ = w25; replace BK101 : Aside0 (w25.heap[gb101]? = some (.cells #[.int .i64 a0_0, .slice A0_1 l0_1.length c0_1] 31 (0, 0))) := ⟨by rw [← hq_]; exact (KB BK101)⟩; replace BK102 : Aside0 (w25.heap[gb102]? = some (.cells #[.int .i64 0, .slice none 0 0] 31 (0, 0))) := ⟨by rw [← hq_]; exact (KB BK102)⟩; replace HB : Aside0 (Below w.heap.size w w25) := ⟨by rw [← hq_]; exact (K2 HB GE101.out GE102.out)⟩; clear hq_; (try obtain ⟨hcz26_0, hcz26_1, hfz26_0⟩ := y2 w25 BK101.out)))) | ((with_reducible refine gate_callee (f := 50) rfl ?_); refine goesL_ (some 38) rfl rfl Try.func50 (by kernel_rfl) rfl #[.agg #[.int .i64 a0_0, .slice A0_1 l0_1.length c0_1]] rfl MT ?_; (with_reducible refine (impl_Window_copied.calls a0_0 _ _ l0_1 t111 t112 _ ?side1 ?side2 A20.out).mono ?_); (case side1 => exact KD HR0_1 HB); (case side2 => exact HC0_1.out); rintro e w27 ⟨v113, rfl, ho0, hb⟩; refine ⟨_, rfl, ?_⟩; have HO114 := am (Kd.R_lower ho0 (below_size (K2 HB GE101.out GE102.out))); replace BK101 := am (BB BK101 hb); replace BK102 := am (BB BK102 hb); replace HB := am (below_step (K2 HB GE101.out GE102.out) hb); (try clear hb); (try clear hb2); (try clear hk); (try clear hi); (try clear ho0); obtain ⟨hcz28_0, hcz28_1, hfz28_0⟩ := y2 w27 BK102.out; obtain ⟨Ao29, co29, eo29⟩ := Kd.R_slice HO114.out; subst eo29))
     refine bodyPost_ret (results_ct rfl _ _ gb102 31 #[.int .i64 t111, .slice Ao29 t112.length co29] (0, 0) _ rfl (by (with_reducible repeat (first | refine blk_drewN ?_ _ | refine blk_drew ?_ | refine blk_alloc ?_ _)); refine blk_put (cs := #[.int .i64 t111, .slice none 0 0]) ?_ 1 _ rfl; (with_reducible repeat (first | refine blk_drewN ?_ _ | refine blk_drew ?_ | refine blk_alloc ?_ _)); refine blk_put (cs := #[.int .i64 0, .slice none 0 0]) ?_ 0 _ rfl; (with_reducible repeat (first | refine blk_drewN ?_ _ | refine blk_drew ?_ | refine blk_alloc ?_ _)); exact BK102.out) Try.underlying31 rfl (by kernel_rfl)) rfl ?_
     exact ⟨_, ER, by (with_reducible repeat (first | apply Kd.R_alloc | apply Kd.R_drewN | apply Kd.R_drew)); exact Kd.R_mono (Kd.R_far (p := ⟨gb102, 1, none⟩) (Kd.R_far (p := ⟨gb102, 0, none⟩) (Kd.R_types HO114.out BK102.out (by decide)) (fun _ hk => hk.2) (.int .i64 t111)) (fun _ hk => hk.2) (.slice Ao29 t112.length co29)) (fun _ hk => trivial), K2 HB GE101.out GE102.out⟩
    ·replace c19 := Bool.eq_false_iff.mpr c19
     subst c19
     have H1 : ((slices_Clone_int.f l0_1).bind fun t116 => ((slices_Insert_int.f t116 t104 (([a1] : List Int))).bind fun t122 => ((slices_DeleteFunc_int.f t122 (mx a0_0 a1)).bind fun t125 => (some (mx a0_0 a1, t125, 0))))) = some (r1, r2, r3) := by rw [if_neg (show ¬ (false = true) by decide)] at H; exact H
     clear H
     have H := H1
     clear H1
     obtain ⟨ji30, hji30⟩ : ∃ j_ : Int, (mx a0_0 a1) = j_ := ⟨_, rfl⟩
     replace H : ((slices_Clone_int.f l0_1).bind fun t116 => ((slices_Insert_int.f t116 t104 (([a1] : List Int))).bind fun t122 => ((slices_DeleteFunc_int.f t122 (ji30)).bind fun t125 => (some (ji30, t125, 0))))) = some (r1, r2, r3) := by first | (rw [hji30] at H; exact H) | (simp only [hji30] at H ⊢; exact H)
     (try rw [hji30] at A3)
     (try rw [hji30] at A5)
     (try rw [hji30] at A6)
     have hji30_ : (if a0_0 < a1 then a1 else a0_0) = ji30 := hji30
     replace H := Option.bind_eq_some_iff.mp H
     obtain ⟨t116, A310, H⟩ := H
     replace H : ((slices_Insert_int.f t116 t104 (([a1] : List Int))).bind fun t122 => ((slices_DeleteFunc_int.f t122 (ji30)).bind fun t125 => (some (ji30, t125, 0)))) = some (r1, r2, r3) := H
     have A31 := Aside0.mk A310
     clear A310
     obtain ⟨y119, hy119⟩ : ∃ y_ : List Int, y_ = (([a1] : List Int)) := ⟨_, rfl⟩
     replace H : ((slices_Insert_int.f t116 t104 y119).bind fun t122 => ((slices_DeleteFunc_int.f t122 (ji30)).bind fun t125 => (some (ji30, t125, 0)))) = some (r1, r2, r3) := by first | (rw [hy119]; with_reducible exact H) | (have H2_ := (Option.bind_some _ _).symm.trans H; rw [hy119]; with_reducible exact H2_) | (have H2_ := (Option.bind_some _ _).symm.trans H; with_reducible exact H2_) | with_reducible exact H | (rw [hy119]; exact H) | exact H
     have Ny119 := Aside0.mk hy119
     clear hy119
     replace H := Option.bind_eq_some_iff.mp H
     obtain ⟨t122, A320, H⟩ := H
     replace H : ((slices_DeleteFunc_int.f t122 (ji30)).bind fun t125 => (some (ji30, t125, 0))) = some (r1, r2, r3) := H
     have A32 := Aside0.mk A320
     clear A320
     replace H := Option.bind_eq_some_iff.mp H
     obtain ⟨t125, A330, H⟩ := H
     replace H : (some (ji30, t125, 0)) = some (r1, r2, r3) := H
     have A33 := Aside0.mk A330
     clear A330
     simp only [Option.some.injEq, Prod.mk.injEq] at H
     obtain ⟨rfl, rfl, rfl⟩ := H
     go_enter Try.func19, Try.ntmps19
     try go_wp2_with (first | ((with_reducible refine gate_dst (N := 2) rfl ?_); refine box_event rfl (N := 2) rfl (cs := #[.int .i64 a0_0, .slice A0_1 l0_1.length c0_1]) (t := 31) BX ?_; intro gb101 hg w34 hbox hb; have BK101 := am (hbox); have GW101 := am (GH HB hg); have GE101 := GW101; replace HB := am (below_step (KL HB) hb); clear hb hbox hg) | ((with_reducible refine gate_dst (N := 4) rfl ?_); refine box_event rfl (N := 4) rfl (cs := #[.int .i64 0, .slice none 0 0]) (t := 31) BX ?_; intro gb102 hg w35 hbox hb; have BK102 := am (hbox); have GW102 := am (GH1 HB GE101.out hg); have GE102 := GW102; replace HB := am (below_step (K1 HB GE101.out) hb); have NB101_102 := am (NL BK101 hg); have NB102_101 := am (NG BK101 hg); replace BK101 := am (BB BK101 hb); clear hb hbox hg; have hnb36 := NB101_102.out; have hnc36 := NB102_101.out; obtain ⟨hcz37_0, hcz37_1, hfz37_0⟩ := y2 w35 BK101.out) | ((with_reducible refine gate_callee (f := 22) rfl ?_); refine goesL_ (some 11) rfl rfl Try.func22 (by kernel_rfl) rfl #[.agg #[.int .i64 a0_0, .slice A0_1 l0_1.length c0_1]] rfl MT ?_; (with_reducible refine (impl_WindowOk.calls k a0_0 _ _ l0_1 true _ ?side1 ?side2 A3.out).mono ?_); (case side1 => exact KD HR0_1 HB); (case side2 => exact HC0_1.out); rintro e w38 ⟨rfl, hb⟩; refine ⟨_, rfl, ?_⟩; replace BK101 := am (BB BK101 hb); replace BK102 := am (BB BK102 hb); replace HB := am (below_step (K2 HB GE101.out GE102.out) hb); (try clear hb); (try clear hb2); (try clear hk); (try clear hi); obtain ⟨hcz39_0, hcz39_1, hfz39_0⟩ := y2 w38 BK101.out) | ((with_reducible refine gate_callee (f := 48) rfl ?_); refine goesL_ (some 18) rfl rfl Try.func48 (by kernel_rfl) rfl #[.slice A0_1 l0_1.length c0_1, .int .i64 a1] rfl MT ?_; (with_reducible refine (slices_BinarySearch_int_int.calls k _ _ l0_1 a1 t104 false _ ?side1 ?side2 A5.out).mono ?_); (case side1 => exact KD HR0_1 HB); (case side2 => exact HC0_1.out); rintro e w' ⟨rfl, ⟨nd, rfl⟩⟩; refine ⟨_, rfl, ?_⟩; (try (rw [drewN_self w38]; generalize hq_ : World.drewN w38 _ = w38; replace BK101 : Aside0 (w38.heap[gb101]? = some (.cells #[.int .i64 a0_0, .slice A0_1 l0_1.length c0_1] 31 (0, 0))) := ⟨by rw [← hq_]; exact (KB BK101)⟩; replace BK102 : Aside0 (w38.heap[gb102]? = some (.cells #[.int .i64 0, .slice none 0 0] 31 (0, 0))) := ⟨by rw [← hq_]; exact (KB BK102)⟩; replace HB : Aside0 (Below w.heap.size w w38) := ⟨by rw [← hq_]; exact (K2 HB GE101.out GE102.out)⟩; clear hq_; (try obtain ⟨hcz39_0, hcz39_1, hfz39_0⟩ := y2 w38 BK101.out)))) | ((with_reducible refine gate_callee (f := 49) rfl ?_); refine goesL_ (some 23) rfl rfl Try.func49 (by kernel_rfl) rfl #[.int .i64 a1, .int .i64 1, .int .i64 1000000] rfl MT ?_; (with_reducible refine (impl_in.calls a1 1 1000000 true _ A6.out).mono ?_); rintro e w' ⟨rfl, ⟨nd, rfl⟩⟩; refine ⟨_, rfl, ?_⟩; (try (rw [drewN_self w38]; generalize hq_ : World.drewN w38 _ = w38; replace BK101 : Aside0 (w38.heap[gb101]? = some (.cells #[.int .i64 a0_0, .slice A0_1 l0_1.length c0_1] 31 (0, 0))) := ⟨by rw [← hq_]; exact (KB BK101)⟩; replace BK102 : Aside0 (w38.heap[gb102]? = some (.cells #[.int .i64 0, .slice none 0 0] 31 (0, 0))) := ⟨by rw [← hq_]; exact (KB BK102)⟩; replace HB : Aside0 (Below w.heap.size w w38) := ⟨by rw [← hq_]; exact (K2 HB GE101.out GE102.out)⟩; clear hq_; (try obtain ⟨hcz39_0, hcz39_1, hfz39_0⟩ := y2 w38 BK101.out)))) | ((with_reducible refine gate_dst (N := 8) rfl ?_); refine box_event rfl (N := 8) rfl (cs := #[.int .i64 0]) (t := 3) BX ?_; intro gb115 hg w40 hbox hb; have BK115 := am (hbox); have GW115 := am (GH2 HB GE101.out GE102.out hg); have GE115 := GW115; replace HB := am (below_step (K2 HB GE101.out GE102.out) hb); have NB101_115 := am (NL BK101 hg); have NB115_101 := am (NG BK101 hg); replace BK101 := am (BB BK101 hb); have NB102_115 := am (NL BK102 hg); have NB115_102 := am (NG BK102 hg); replace BK102 := am (BB BK102 hb); clear hb hbox hg; have hnb41 := NB115_101.out; have hnc41 := NB101_115.out; have hnb42 := NB115_102.out; have hnc42 := NB102_115.out; obtain ⟨hcz43_0, hfz43_0⟩ := y1 w40 BK115.out; obtain ⟨hcz44_0, hcz44_1, hfz44_0⟩ := y2 w40 BK101.out) | ((with_reducible refine gate_callee (f := 52) rfl ?_); refine goesL_ (some 45) rfl rfl Try.func52 (by kernel_rfl) rfl #[.slice A0_1 l0_1.length c0_1] rfl MT ?_; (with_reducible refine (slices_Clone_int.calls _ _ l0_1 t116 _ ?side1 ?side2 A31.out).mono ?_); (case side1 => exact Kd.C_below HR0_1.out (K3 HB GE101.out GE102.out GE115.out)); (case side2 => exact HC0_1.out); rintro e w45 ⟨v117, rfl, ho0, hb⟩; refine ⟨_, rfl, ?_⟩; have HO118 := am (Kd.R_lower (Kd.R_newB ho0 (g := gb115) (o := .cells #[.int .i64 ji30] 3 (0, 0)) (by (with_reducible repeat (first | refine blk_drewN ?_ _ | refine blk_drew ?_ | refine blk_alloc ?_ _)); refine blk_put (cs := #[.int .i64 0]) ?_ 0 _ rfl; (with_reducible repeat (first | refine blk_drewN ?_ _ | refine blk_drew ?_ | refine blk_alloc ?_ _)); exact BK115.out)) (below_size (K3 HB GE101.out GE102.out GE115.out))); replace BK101 := am (blk_below (g := gb101) (o := .cells #[.int .i64 a0_0, .slice A0_1 l0_1.length c0_1] 31 (0, 0)) (by (with_reducible repeat (first | refine blk_drewN ?_ _ | refine blk_drew ?_ | refine blk_alloc ?_ _)); refine blk_far ?_ NB101_115.out _; (with_reducible repeat (first | refine blk_drewN ?_ _ | refine blk_drew ?_ | refine blk_alloc ?_ _)); exact BK101.out) hb); replace BK102 := am (blk_below (g := gb102) (o := .cells #[.int .i64 0, .slice none 0 0] 31 (0, 0)) (by (with_reducible repeat (first | refine blk_drewN ?_ _ | refine blk_drew ?_ | refine blk_alloc ?_ _)); refine blk_far ?_ NB102_115.out _; (with_reducible repeat (first | refine blk_drewN ?_ _ | refine blk_drew ?_ | refine blk_alloc ?_ _)); exact BK102.out) hb); replace BK115 := am (blk_below (g := gb115) (o := .cells #[.int .i64 ji30] 3 (0, 0)) (by (with_reducible repeat (first | refine blk_drewN ?_ _ | refine blk_drew ?_ | refine blk_alloc ?_ _)); refine blk_put (cs := #[.int .i64 0]) ?_ 0 _ rfl; (with_reducible repeat (first | refine blk_drewN ?_ _ | refine blk_drew ?_ | refine blk_alloc ?_ _)); exact BK115.out) hb); replace HB := am (below_step (K3 HB GE101.out GE102.out GE115.out) hb); (try clear hb); (try clear hb2); (try clear hk); (try clear hi); (try clear ho0)) | ((with_reducible refine gate_dst (N := 48) rfl ?_); refine Kd.R_lit (Kd.int .i64) _ 3 ?hg (N := 48) ?hd (xs := ([a1] : List Int)) (inner := [.int .i64 a1]) (ok := fun _ => True) (okp := fun _ => True) ?hr ?hp (fun _ hk => hk) trivial (Below.refl _ _) (Nat.le_refl _) (by simp) ?_; (case hd => rfl); (case hg => rfl); (case hr => first | (go_simp; done) | (go_simp; rfl)); (case hp => exact (Reps.one (show Kd.M (Kd.int .i64) _ _ _ a1 [.int .i64 a1] from rfl) (Reps.none _ _))); intro v120 w46 ho47 hb hg_ hnew_; clear hg_ hnew_; (first | rw [← Ny119.out] at ho47 | (simp only [Int.reduceToNat] at ho47; rw [← Ny119.out] at ho47)); have HO121 := am (Kd.R_lower (Kd.R_newB (Kd.R_new' ho47 (Kd.R_lt (KR HO118))) (g := gb115) (o := .cells #[.int .i64 ji30] 3 (0, 0)) (KB BK115)) (below_size (K3 HB GE101.out GE102.out GE115.out))); replace HO118 := am (Kd.R_elder' (KR HO118) (Kd.R_base ho47) hb); replace BK101 := am (BB BK101 hb); replace BK102 := am (BB BK102 hb); replace BK115 := am (BB BK115 hb); replace HB := am (below_step (K3 HB GE101.out GE102.out GE115.out) hb); clear hb ho47; obtain ⟨Ao48, co48, eo48⟩ := Kd.R_slice HO118.out; subst eo48; obtain ⟨Ao49, co49, eo49⟩ := Kd.R_slice HO121.out; subst eo49) | ((with_reducible refine gate_callee (f := 51) rfl ?_); refine goesL_ (some 49) rfl rfl Try.func51 (by kernel_rfl) rfl #[.slice Ao48 t116.length co48, .int .i64 t104, .slice Ao49 y119.length co49] rfl MT ?_; (with_reducible refine (slices_Insert_int.calls (fun k_ => some k_ = (.slice Ao48 t116.length co48 : Value).ownBlock) (.slice Ao48 t116.length co48) t116 t104 (fun k_ => some k_ = (.slice Ao49 y119.length co49 : Value).ownBlock) (.slice Ao49 y119.length co49) y119 t122 w _ ?side1 ?side2 ?side3 ?side4 ?side5 A32.out).mono ?_); (case side1 => exact K3 HB GE101.out GE102.out GE115.out); (case side2 => exact Kd.R_tight rfl HO118.out); (case side3 => exact fun k_ e_ => (HO118.out.1 k_ e_.symm).2); (case side4 => exact Kd.R_tight rfl HO121.out); (case side5 => exact fun k_ e_ => (HO121.out.1 k_ e_.symm).1.2); rintro e w50 ⟨v123, rfl, ho0, hb, hkp⟩; refine ⟨_, rfl, ?_⟩; replace BK101 := am (blk_kept (KB BK101) hkp (fun hs_ => Or.elim hs_ (fun e_ => (fun e_ => (Kd.R_ne HO118.out BK101.out (by decide)) e_) e_) (fun e_ => (fun e_ => (Kd.R_ne HO121.out BK101.out (by decide)) e_) e_))); replace BK102 := am (blk_kept (KB BK102) hkp (fun hs_ => Or.elim hs_ (fun e_ => (fun e_ => (Kd.R_ne HO118.out BK102.out (by decide)) e_) e_) (fun e_ => (fun e_ => (Kd.R_ne HO121.out BK102.out (by decide)) e_) e_))); have HO124 := am (Kd.R_mono (ok' := fun k_ => k_ ≠ gb115) ho0 (fun k_ hk_ => Or.elim hk_ (fun hs_ => Or.elim hs_ (fun hs_ => fun e_ => (Kd.R_away HO118.out (fun _ hk => hk.1.2)) (by rw [← e_]; exact hs_)) (fun hs_ => fun e_ => (Kd.R_away HO121.out (fun _ hk => hk.2)) (by rw [← e_]; exact hs_))) (fun hn_ => (Kd.freshB (g := gb115) (o := .cells #[.int .i64 ji30] 3 (0, 0)) (KB BK115) k_ hn_)))); replace BK115 := am (blk_kept (KB BK115) hkp (fun hs_ => Or.elim hs_ (fun e_ => (fun e_ => (Kd.R_away HO118.out (fun _ hk => hk.1.2)) e_) e_) (fun e_ => (fun e_ => (Kd.R_away HO121.out (fun _ hk => hk.2)) e_) e_))); replace HB := am (hb); clear HO118 HO121; (try clear hb); (try clear hkp); (try clear ho0)))
     replace HO124 := am (Kd.R_drew HO124.out)
     replace BK101 := am (blk_drew BK101.out)
     replace BK102 := am (blk_drew BK102.out)
     replace BK115 := am (blk_drew BK115.out)
     replace HB := am (below_drew1 HB.out)
     obtain ⟨Ao52, co52, eo52⟩ := Kd.R_slice HO124.out
     (first | subst eo52 | (injection eo52 with f1_ f2_ f3_; have f4_ := f1_.symm; have f5_ := f3_.symm; clear f1_ f2_ f3_; subst f4_; subst f5_))
     refine start_ (n := 7) (S := fun w' => w'.cell? ⟨gb115, 0, none⟩ = some (.int .i64 ji30)) (ds := []) (tf 0 7) (by kernel_rfl) rfl rfl (z0 _ BK115.out) (fun hHeld => ?_)
     generalize w50.drew = w51 at HO124 BK101 BK102 BK115 HB hHeld ⊢
     refine pure_ (i := 1) (N := some 51) (v := ?_) (a' := ?_) (tr [0, 1, 1, 5]) rfl rfl (by kernel_rfl) (fun _ _ _ h => h) (Or.inl ⟨by rfl, ?_⟩) ?_ ?_; rotate_left; (· intro w'; go_simp; with_reducible rfl); rotate_left; (· simp only [Act.put, List.setIfInBounds_toArray, List.set_cons_zero, List.set_cons_succ, i64_w, i32_w]; rfl)
     refine pure_ (i := 2) (N := some 52) (v := ?_) (a' := ?_) (tr [0, 1, 2, 4]) rfl rfl (by kernel_rfl) (fun _ _ _ h => h) (Or.inl ⟨by rfl, ?_⟩) ?_ ?_; rotate_left; (· intro w'; go_simp; with_reducible rfl); rotate_left; (· simp only [Act.put, List.setIfInBounds_toArray, List.set_cons_zero, List.set_cons_succ, i64_w, i32_w]; rfl)
     refine take_ (i := 0) (N := some 50) (v := ?_) (a' := ?_) (tf 3 4) rfl rfl (by kernel_rfl) (fun _ _ _ h => h) (Or.inl ⟨by rfl, ?_⟩) hHeld ?_ ?_
     rotate_left
     ·intro w' s0
      go_simp
      with_reducible rfl
     rotate_left
     ·simp only [Act.put, List.setIfInBounds_toArray, List.set_cons_zero, List.set_cons_succ, i64_w, i32_w]
      rfl
     refine one_ (i := 3) (N := some 53) (tf 4 3) rfl rfl (by kernel_rfl) (by decide) (fun K hK => ?_)
     refine goes_ Try.func53 (by kernel_rfl) rfl #[.slice Ao52 t122.length co52, .func (.func 54) #[] #[.pointer (some ⟨gb115, 0, none⟩)]] (by rfl) rfl rfl MT ?_
     with_reducible refine (slices_DeleteFunc_int.calls (fun k_ => some k_ = (.slice Ao52 t122.length co52 : Value).ownBlock) (.slice Ao52 t122.length co52) t122 ji30 gb115 t125 w _ ?side1 ?side2 ?side3 ?side4 A33.out).mono ?_
     (case side1 => exact K3 HB GE101.out GE102.out GE115.out)
     (case side2 => exact Kd.R_tight rfl HO124.out)
     (case side3 => exact (KB BK115))
     (case side4 => exact Kd.R_away (HO124.out) (fun _ hk => hk))
     rintro e w53 ⟨v126, rfl, ho0, hb, hkp⟩
     refine ⟨_, rfl, ?_⟩
     replace BK101 := am (blk_kept (KB BK101) hkp (fun hs_ => (fun e_ => (Kd.R_ne HO124.out BK101.out (by decide)) e_) hs_))
     replace BK102 := am (blk_kept (KB BK102) hkp (fun hs_ => (fun e_ => (Kd.R_ne HO124.out BK102.out (by decide)) e_) hs_))
     have HO127 := am (Kd.R_mono (ok' := fun k_ => k_ ≠ gb115) ho0 (fun k_ hk_ => Or.elim hk_ (fun hs_ => fun e_ => (Kd.R_away HO124.out (fun _ hk => hk)) (by rw [← e_]; exact hs_)) (fun hn_ => (Kd.freshB (g := gb115) (o := .cells #[.int .i64 ji30] 3 (0, 0)) (KB BK115) k_ hn_))))
     replace BK115 := am (blk_kept (KB BK115) hkp (fun hs_ => (fun e_ => (Kd.R_away HO124.out (fun _ hk => hk)) e_) hs_))
     replace HB := am (hb)
     clear HO124
     (try clear hb)
     (try clear hkp)
     (try clear ho0)
     obtain ⟨Ao54, co54, eo54⟩ := Kd.R_slice HO127.out
     (first | subst eo54 | (injection eo54 with f1_ f2_ f3_; have f4_ := f1_.symm; have f5_ := f3_.symm; clear f1_ f2_ f3_; subst f4_; subst f5_))
     refine hK.out _ _ (z0 _ BK115.out) (fun hHeld => ?_)
     clear hK K
     refine norm_ (a' := ?_) ?_ ?_
     rotate_left
     ·show Act.put _ (some 53) _ = _
      simp only [Act.put, List.setIfInBounds_toArray, List.set_cons_zero, List.set_cons_succ, i64_w, i32_w]
      rfl
     refine pure_ (i := 4) (N := some 54) (v := ?_) (a' := ?_) (tf 5 2) rfl rfl (by kernel_rfl) (fun _ _ _ h => h) (Or.inl ⟨by rfl, ?_⟩) ?_ ?_; rotate_left; (· intro w'; go_simp; with_reducible rfl); rotate_left; (· simp only [Act.put, List.setIfInBounds_toArray, List.set_cons_zero, List.set_cons_succ, i64_w, i32_w]; rfl)
     refine one_ (i := 5) (N := none) (tf 6 1) rfl rfl (by kernel_rfl) (by decide) (fun K hK => ?_)
     have hs55 : w53.cell? ⟨gb102, 0, none⟩ = some (.int .i64 0) := z0 _ BK102.out
     have hfs55 := blk_frozen BK102.out 0
     have hns55_0 := NB101_102.out
     have hns55_2 := NB115_102.out
     have hms55_0 := NB102_101.out
     have hms55_2 := NB102_115.out
     have hs56 : w53.cell? ⟨gb102, 1, none⟩ = some (.slice none 0 0) := z1 _ BK102.out
     have hfs56 := blk_frozen BK102.out 1
     have hns56_0 := NB101_102.out
     have hns56_2 := NB115_102.out
     have hms56_0 := NB102_101.out
     have hms56_2 := NB102_115.out
     refine skip_ (w1 := ?_) (by rfl) rfl ?_ ?_
     rotate_left
     ·go_simp
      rfl
     refine hK.out _ _ (((cell_far (p := ⟨gb102, _, none⟩) NB115_102.out _).trans (((cell_far (p := ⟨gb102, _, none⟩) NB115_102.out _).trans (hHeld))))) (fun hHeld => ?_)
     clear hK K
     refine pure_ (i := 6) (N := some 5) (v := ?_) (a' := ?_) (tf 7 0) rfl rfl (by kernel_rfl) (fun _ _ _ h => h) (Or.inl ⟨by rfl, ?_⟩) ?_ ?_; rotate_left; (· intro w'; go_simp; with_reducible rfl); rotate_left; (· simp only [Act.put, List.setIfInBounds_toArray, List.set_cons_zero, List.set_cons_succ, i64_w, i32_w]; rfl)
     refine done_ (by kernel_rfl) ?_
     try go_wp2
     refine bodyPost_ret (results_ct rfl _ _ gb102 31 #[.int .i64 ji30, .slice Ao54 t125.length co54] (0, 0) _ rfl (by (with_reducible repeat (first | refine blk_drewN ?_ _ | refine blk_drew ?_ | refine blk_alloc ?_ _)); refine blk_put (cs := #[.int .i64 ji30, .slice none 0 0]) ?_ 1 _ rfl; (with_reducible repeat (first | refine blk_drewN ?_ _ | refine blk_drew ?_ | refine blk_alloc ?_ _)); refine blk_put (cs := #[.int .i64 0, .slice none 0 0]) ?_ 0 _ rfl; (with_reducible repeat (first | refine blk_drewN ?_ _ | refine blk_drew ?_ | refine blk_alloc ?_ _)); exact BK102.out) Try.underlying31 rfl (by kernel_rfl)) rfl ?_
     exact ⟨_, by first | rfl | (simp [errW_none, errW_some] <;> rfl) | (simp only [← hji30]; first | rfl | (simp [errW_none, errW_some] <;> rfl)) | (simp [*, errW_none, errW_some] <;> rfl), by (with_reducible repeat (first | apply Kd.R_alloc | apply Kd.R_drewN | apply Kd.R_drew)); exact Kd.R_mono (Kd.R_far (p := ⟨gb102, 1, none⟩) (Kd.R_far (p := ⟨gb102, 0, none⟩) (Kd.R_types HO127.out BK102.out (by decide)) (fun _ hk => hk.2) (.int .i64 ji30)) (fun _ hk => hk.2) (.slice Ao54 t125.length co54)) (fun _ hk => trivial), K3 HB GE101.out GE102.out GE115.out⟩
  ·replace c7 := Bool.eq_false_iff.mpr c7
   subst c7
   have H1 : ((impl_Window_copied.f a0_0 l0_1).bind fun bt128 => (some (bt128.1, bt128.2, 1))) = some (r1, r2, r3) := by rw [if_neg (show ¬ (false = true) by decide)] at H; exact H
   clear H
   have H := H1
   clear H1
   replace H := Option.bind_eq_some_iff.mp H
   obtain ⟨⟨t128, t129⟩, A570, H⟩ := H
   replace H : (some (t128, t129, 1)) = some (r1, r2, r3) := H
   have A57 := Aside0.mk A570
   clear A570
   simp only [Option.some.injEq, Prod.mk.injEq] at H
   obtain ⟨rfl, rfl, rfl⟩ := H
   go_enter Try.func19, Try.ntmps19
   go_wp2_with (first | ((with_reducible refine gate_dst (N := 2) rfl ?_); refine box_event rfl (N := 2) rfl (cs := #[.int .i64 a0_0, .slice A0_1 l0_1.length c0_1]) (t := 31) BX ?_; intro gb101 hg w58 hbox hb; have BK101 := am (hbox); have GW101 := am (GH HB hg); have GE101 := GW101; replace HB := am (below_step (KL HB) hb); clear hb hbox hg) | ((with_reducible refine gate_dst (N := 4) rfl ?_); refine box_event rfl (N := 4) rfl (cs := #[.int .i64 0, .slice none 0 0]) (t := 31) BX ?_; intro gb102 hg w59 hbox hb; have BK102 := am (hbox); have GW102 := am (GH1 HB GE101.out hg); have GE102 := GW102; replace HB := am (below_step (K1 HB GE101.out) hb); have NB101_102 := am (NL BK101 hg); have NB102_101 := am (NG BK101 hg); replace BK101 := am (BB BK101 hb); clear hb hbox hg; have hnb60 := NB101_102.out; have hnc60 := NB102_101.out; obtain ⟨hcz61_0, hcz61_1, hfz61_0⟩ := y2 w59 BK101.out) | ((with_reducible refine gate_callee (f := 22) rfl ?_); refine goesL_ (some 11) rfl rfl Try.func22 (by kernel_rfl) rfl #[.agg #[.int .i64 a0_0, .slice A0_1 l0_1.length c0_1]] rfl MT ?_; (with_reducible refine (impl_WindowOk.calls k a0_0 _ _ l0_1 true _ ?side1 ?side2 A3.out).mono ?_); (case side1 => exact KD HR0_1 HB); (case side2 => exact HC0_1.out); rintro e w62 ⟨rfl, hb⟩; refine ⟨_, rfl, ?_⟩; replace BK101 := am (BB BK101 hb); replace BK102 := am (BB BK102 hb); replace HB := am (below_step (K2 HB GE101.out GE102.out) hb); (try clear hb); (try clear hb2); (try clear hk); (try clear hi); obtain ⟨hcz63_0, hcz63_1, hfz63_0⟩ := y2 w62 BK101.out) | ((with_reducible refine gate_callee (f := 48) rfl ?_); refine goesL_ (some 18) rfl rfl Try.func48 (by kernel_rfl) rfl #[.slice A0_1 l0_1.length c0_1, .int .i64 a1] rfl MT ?_; (with_reducible refine (slices_BinarySearch_int_int.calls k _ _ l0_1 a1 t104 t105 _ ?side1 ?side2 A5.out).mono ?_); (case side1 => exact KD HR0_1 HB); (case side2 => exact HC0_1.out); rintro e w' ⟨rfl, ⟨nd, rfl⟩⟩; refine ⟨_, rfl, ?_⟩; (try (rw [drewN_self w62]; generalize hq_ : World.drewN w62 _ = w62; replace BK101 : Aside0 (w62.heap[gb101]? = some (.cells #[.int .i64 a0_0, .slice A0_1 l0_1.length c0_1] 31 (0, 0))) := ⟨by rw [← hq_]; exact (KB BK101)⟩; replace BK102 : Aside0 (w62.heap[gb102]? = some (.cells #[.int .i64 0, .slice none 0 0] 31 (0, 0))) := ⟨by rw [← hq_]; exact (KB BK102)⟩; replace HB : Aside0 (Below w.heap.size w w62) := ⟨by rw [← hq_]; exact (K2 HB GE101.out GE102.out)⟩; clear hq_; (try obtain ⟨hcz63_0, hcz63_1, hfz63_0⟩ := y2 w62 BK101.out)))) | ((with_reducible refine gate_callee (f := 49) rfl ?_); refine goesL_ (some 23) rfl rfl Try.func49 (by kernel_rfl) rfl #[.int .i64 a1, .int .i64 1, .int .i64 1000000] rfl MT ?_; (with_reducible refine (impl_in.calls a1 1 1000000 false _ A6.out).mono ?_); rintro e w' ⟨rfl, ⟨nd, rfl⟩⟩; refine ⟨_, rfl, ?_⟩; (try (rw [drewN_self w62]; generalize hq_ : World.drewN w62 _ = w62; replace BK101 : Aside0 (w62.heap[gb101]? = some (.cells #[.int .i64 a0_0, .slice A0_1 l0_1.length c0_1] 31 (0, 0))) := ⟨by rw [← hq_]; exact (KB BK101)⟩; replace BK102 : Aside0 (w62.heap[gb102]? = some (.cells #[.int .i64 0, .slice none 0 0] 31 (0, 0))) := ⟨by rw [← hq_]; exact (KB BK102)⟩; replace HB : Aside0 (Below w.heap.size w w62) := ⟨by rw [← hq_]; exact (K2 HB GE101.out GE102.out)⟩; clear hq_; (try obtain ⟨hcz63_0, hcz63_1, hfz63_0⟩ := y2 w62 BK101.out)))) | ((with_reducible refine gate_callee (f := 50) rfl ?_); refine goesL_ (some 26) rfl rfl Try.func50 (by kernel_rfl) rfl #[.agg #[.int .i64 a0_0, .slice A0_1 l0_1.length c0_1]] rfl MT ?_; (with_reducible refine (impl_Window_copied.calls a0_0 _ _ l0_1 t128 t129 _ ?side1 ?side2 A57.out).mono ?_); (case side1 => exact KD HR0_1 HB); (case side2 => exact HC0_1.out); rintro e w64 ⟨v130, rfl, ho0, hb⟩; refine ⟨_, rfl, ?_⟩; have HO131 := am (Kd.R_lower ho0 (below_size (K2 HB GE101.out GE102.out))); replace BK101 := am (BB BK101 hb); replace BK102 := am (BB BK102 hb); replace HB := am (below_step (K2 HB GE101.out GE102.out) hb); (try clear hb); (try clear hb2); (try clear hk); (try clear hi); (try clear ho0); obtain ⟨hcz65_0, hcz65_1, hfz65_0⟩ := y2 w64 BK102.out; obtain ⟨Ao66, co66, eo66⟩ := Kd.R_slice HO131.out; subst eo66))
   refine bodyPost_ret (results_ct rfl _ _ gb102 31 #[.int .i64 t128, .slice Ao66 t129.length co66] (0, 0) _ rfl (by (with_reducible repeat (first | refine blk_drewN ?_ _ | refine blk_drew ?_ | refine blk_alloc ?_ _)); refine blk_put (cs := #[.int .i64 t128, .slice none 0 0]) ?_ 1 _ rfl; (with_reducible repeat (first | refine blk_drewN ?_ _ | refine blk_drew ?_ | refine blk_alloc ?_ _)); refine blk_put (cs := #[.int .i64 0, .slice none 0 0]) ?_ 0 _ rfl; (with_reducible repeat (first | refine blk_drewN ?_ _ | refine blk_drew ?_ | refine blk_alloc ?_ _)); exact BK102.out) Try.underlying31 rfl (by kernel_rfl)) rfl ?_
   exact ⟨_, ER, by (with_reducible repeat (first | apply Kd.R_alloc | apply Kd.R_drewN | apply Kd.R_drew)); exact Kd.R_mono (Kd.R_far (p := ⟨gb102, 1, none⟩) (Kd.R_far (p := ⟨gb102, 0, none⟩) (Kd.R_types HO131.out BK102.out (by decide)) (fun _ hk => hk.2) (.int .i64 t128)) (fun _ hk => hk.2) (.slice Ao66 t129.length co66)) (fun _ hk => trivial), K2 HB GE101.out GE102.out⟩
 ·replace c4 := Bool.eq_false_iff.mpr c4
  subst c4
  have H1 : (some (0, ([] : List Int), 1)) = some (r1, r2, r3) := by rw [if_neg (show ¬ (false = true) by decide)] at H; exact H
  clear H
  have H := H1
  clear H1
  simp only [Option.some.injEq, Prod.mk.injEq] at H
  obtain ⟨rfl, rfl, rfl⟩ := H
  go_enter Try.func19, Try.ntmps19
  go_wp2_with (first | ((with_reducible refine gate_dst (N := 2) rfl ?_); refine box_event rfl (N := 2) rfl (cs := #[.int .i64 a0_0, .slice A0_1 l0_1.length c0_1]) (t := 31) BX ?_; intro gb101 hg w67 hbox hb; have BK101 := am (hbox); have GW101 := am (GH HB hg); have GE101 := GW101; replace HB := am (below_step (KL HB) hb); clear hb hbox hg) | ((with_reducible refine gate_dst (N := 4) rfl ?_); refine box_event rfl (N := 4) rfl (cs := #[.int .i64 0, .slice none 0 0]) (t := 31) BX ?_; intro gb102 hg w68 hbox hb; have BK102 := am (hbox); have GW102 := am (GH1 HB GE101.out hg); have GE102 := GW102; replace HB := am (below_step (K1 HB GE101.out) hb); have NB101_102 := am (NL BK101 hg); have NB102_101 := am (NG BK101 hg); replace BK101 := am (BB BK101 hb); clear hb hbox hg; have hnb69 := NB101_102.out; have hnc69 := NB102_101.out; obtain ⟨hcz70_0, hcz70_1, hfz70_0⟩ := y2 w68 BK101.out) | ((with_reducible refine gate_callee (f := 22) rfl ?_); refine goesL_ (some 11) rfl rfl Try.func22 (by kernel_rfl) rfl #[.agg #[.int .i64 a0_0, .slice A0_1 l0_1.length c0_1]] rfl MT ?_; (with_reducible refine (impl_WindowOk.calls k a0_0 _ _ l0_1 false _ ?side1 ?side2 A3.out).mono ?_); (case side1 => exact KD HR0_1 HB); (case side2 => exact HC0_1.out); rintro e w71 ⟨rfl, hb⟩; refine ⟨_, rfl, ?_⟩; replace BK101 := am (BB BK101 hb); replace BK102 := am (BB BK102 hb); replace HB := am (below_step (K2 HB GE101.out GE102.out) hb); (try clear hb); (try clear hb2); (try clear hk); (try clear hi); obtain ⟨hcz72_0, hcz72_1, hfz72_0⟩ := y2 w71 BK102.out))
  refine bodyPost_ret (results_ct rfl _ _ gb102 31 #[.int .i64 0, .slice none 0 0] (0, 0) _ rfl (by (with_reducible repeat (first | refine blk_drewN ?_ _ | refine blk_drew ?_ | refine blk_alloc ?_ _)); refine blk_put (cs := #[.int .i64 0, .slice none 0 0]) ?_ 1 _ rfl; (with_reducible repeat (first | refine blk_drewN ?_ _ | refine blk_drew ?_ | refine blk_alloc ?_ _)); refine blk_put (cs := #[.int .i64 0, .slice none 0 0]) ?_ 0 _ rfl; (with_reducible repeat (first | refine blk_drewN ?_ _ | refine blk_drew ?_ | refine blk_alloc ?_ _)); exact BK102.out) Try.underlying31 rfl (by kernel_rfl)) rfl ?_
  exact ⟨_, ER, by first | exact Kd.R_nil _ _ _ _ _ | exact Kd.N_nil _ _ _ _ _ | exact Kd.V_nil _ _ _ _ _ | exact Kd.Q_nil _ _ _ _ _ | exact Kd.S_nil _ _ _ _ _, K2 HB GE101.out GE102.out⟩
mutual
def laws_FnExactWindowSee.j0 : Nat → Int → Int → Int → Bool → Int → List Int → Int → List Int → Int → List Int → Int → List Int → Option (Bool)
 | 0, _, _, _, _, _, _, _, _, _, _, _, _ => none
 | k + 1, x1, x7, x10, x44, x102000, x102001, x113000, x113001, x118000, x118001, x124000, x124001 => if x44 = true then (some false) else ((laws_toWindow.f k x102000 x102001).bind fun bt125 => ((laws_eqWindow.f k x118000 x118001 bt125.1 bt125.2).bind fun t129 => (if t129 = true then ((laws_markWindow.f k x118000 x118001 1).bind fun bt130 => (if bt130.1 < 0 then (laws_FnExactWindowSee.j1 k x1 x7 true x102000 x102001 x113000 x113001 x124000 x124001) else ((laws_eqWindow.f k x124000 x124001 x113000 x113001).bind fun t132 => (if t132 = true then (laws_FnExactWindowSee.j1 k x1 x7 (x10 != x7) x102000 x102001 x113000 x113001 x124000 x124001) else (laws_FnExactWindowSee.j1 k x1 x7 true x102000 x102001 x113000 x113001 x124000 x124001))))) else (some false))))
def laws_FnExactWindowSee.j1 : Nat → Int → Int → Bool → Int → List Int → Int → List Int → Int → List Int → Option (Bool)
 | 0, _, _, _, _, _, _, _, _, _ => none
 | k + 1, x1, x7, x65, x102000, x102001, x113000, x113001, x124000, x124001 => if x65 = true then (some false) else ((laws_markWindow.f k x124000 x124001 1).bind fun bt133 => ((laws_heldWindow.f k x124000 bt133.2 1).bind fun t135 => (if t135 < 0 then (some false) else (if t135 = bt133.1 then ((laws_toWindow.f k x102000 x102001).bind fun bt136 => ((impl_WindowSee.f k bt136.1 bt136.2 x1).bind fun bt140 => ((laws_eqWindow.f k bt140.1 bt140.2.1 x113000 x113001).bind fun t146 => (if t146 = true then (laws_FnExactWindowSee.j2 k bt133.1 (bt140.2.2 != x7) x124000 bt133.2) else (laws_FnExactWindowSee.j2 k bt133.1 true x124000 bt133.2))))) else (some false)))))
def laws_FnExactWindowSee.j2 : Nat → Int → Bool → Int → List Int → Option (Bool)
 | 0, _, _, _, _ => none
 | k + 1, x12, x92, x124000, x124001 => if x92 = true then (some false) else ((laws_heldWindow.f k x124000 x124001 1).bind fun t147 => (if t147 < 0 then (some false) else (if t147 = x12 then (some true) else (some false))))
end
def laws_FnExactWindowSee.f (k : Nat) (a0_0 : Int) (l0_1 : List Int) (a1 : Int) : Option (Bool) := (laws_szWindow.f a0_0 l0_1 1048576).bind fun t102 => (if t102 < 0 then (some true) else ((laws_toWindow.f k a0_0 l0_1).bind fun bt103 => ((spec_WindowSee.f k bt103.1 bt103.2 a1).bind fun bt107 => ((laws_toWindow.f k a0_0 l0_1).bind fun bt113 => ((impl_WindowSee.f k bt113.1 bt113.2 a1).bind fun bt118 => ((laws_eqWindow.f k bt118.1 bt118.2.1 bt107.1 bt107.2.1).bind fun t124 => (if t124 = true then (laws_FnExactWindowSee.j0 k a1 bt107.2.2 bt118.2.2 (bt118.2.2 != bt107.2.2) a0_0 l0_1 bt107.1 bt107.2.1 bt113.1 bt113.2 bt118.1 bt118.2.1) else (laws_FnExactWindowSee.j0 k a1 bt107.2.2 bt118.2.2 true a0_0 l0_1 bt107.1 bt107.2.1 bt113.1 bt113.2 bt118.1 bt118.2.1))))))))
set_option maxHeartbeats 8000000 in
set_option maxRecDepth 100000 in
theorem laws_FnExactWindowSee.calls (k : Nat) (a0_0 : Int) (A0_1 : Option Addr) (c0_1 : Nat) (l0_1 : List Int) (a1 : Int) (r : Bool) (w : World) (hr0_1 : Kd.C (Kd.int .i64) w A0_1 l0_1.length l0_1) (hc0_1 : l0_1.length ≤ c0_1) (hr0_ : r = true) (h : laws_FnExactWindowSee.f k a0_0 l0_1 a1 = some r) :
  Calls Try.prog 6 #[.agg #[.int .i64 a0_0, .slice A0_1 l0_1.length c0_1], .int .i64 a1] w fun e w' => e = .returned (.bool r) ∧ Below w.heap.size w w' := by
 have hu37 := Try.underlying37
 have hu31 := Try.underlying31
 have HR0_1 := Aside0.mk hr0_1
 have HC0_1 := Aside0.mk hc0_1
 clear hr0_1 hc0_1
 have HB := am (Below.refl w.heap.size w)
 have H : ((laws_szWindow.f a0_0 l0_1 1048576).bind fun t102 => (if t102 < 0 then (some true) else ((laws_toWindow.f k a0_0 l0_1).bind fun bt103 => ((spec_WindowSee.f k bt103.1 bt103.2 a1).bind fun bt107 => ((laws_toWindow.f k a0_0 l0_1).bind fun bt113 => ((impl_WindowSee.f k bt113.1 bt113.2 a1).bind fun bt118 => ((laws_eqWindow.f k bt118.1 bt118.2.1 bt107.1 bt107.2.1).bind fun t124 => (if t124 = true then (laws_FnExactWindowSee.j0 k a1 bt107.2.2 bt118.2.2 (bt118.2.2 != bt107.2.2) a0_0 l0_1 bt107.1 bt107.2.1 bt113.1 bt113.2 bt118.1 bt118.2.1) else (laws_FnExactWindowSee.j0 k a1 bt107.2.2 bt118.2.2 true a0_0 l0_1 bt107.1 bt107.2.1 bt113.1 bt113.2 bt118.1 bt118.2.1))))))))) = some r := h
 clear h
 have HR_ := Aside0.mk hr0_
 clear hr0_
 replace H := Option.bind_eq_some_iff.mp H
 obtain ⟨t102, A30, H⟩ := H
 replace H : (if t102 < 0 then (some true) else ((laws_toWindow.f k a0_0 l0_1).bind fun bt103 => ((spec_WindowSee.f k bt103.1 bt103.2 a1).bind fun bt107 => ((laws_toWindow.f k a0_0 l0_1).bind fun bt113 => ((impl_WindowSee.f k bt113.1 bt113.2 a1).bind fun bt118 => ((laws_eqWindow.f k bt118.1 bt118.2.1 bt107.1 bt107.2.1).bind fun t124 => (if t124 = true then (laws_FnExactWindowSee.j0 k a1 bt107.2.2 bt118.2.2 (bt118.2.2 != bt107.2.2) a0_0 l0_1 bt107.1 bt107.2.1 bt113.1 bt113.2 bt118.1 bt118.2.1) else (laws_FnExactWindowSee.j0 k a1 bt107.2.2 bt118.2.2 true a0_0 l0_1 bt107.1 bt107.2.1 bt113.1 bt113.2 bt118.1 bt118.2.1)))))))) = some r := H
 have A3 := Aside0.mk A30
 clear A30
 by_cases c4 : t102 < 0
 ·rw [if_pos c4] at H
  have c4b0 : decide (t102 < 0) = true := decide_eq_true c4
  clear c4
  obtain rfl := Option.some.inj H
  go_enter Try.func6, Try.ntmps6
  go_wp2_with (first | ((with_reducible refine gate_dst (N := 2) rfl ?_); refine box_event rfl (N := 2) rfl (cs := #[.int .i64 a0_0, .slice A0_1 l0_1.length c0_1]) (t := 37) BX ?_; intro gb101 hg w5 hbox hb; have BK101 := am (hbox); have GW101 := am (GH HB hg); have GE101 := GW101; replace HB := am (below_step (KL HB) hb); clear hb hbox hg; obtain ⟨hcz6_0, hcz6_1, hfz6_0⟩ := y2 w5 BK101.out) | ((with_reducible refine gate_callee (f := 24) rfl ?_); refine goesL_ (some 18) rfl rfl Try.func24 (by kernel_rfl) rfl #[.agg #[.int .i64 a0_0, .slice A0_1 l0_1.length c0_1], .int .i64 1048576] rfl MT ?_; (with_reducible refine (laws_szWindow.calls a0_0 _ _ l0_1 1048576 t102 _ ?side1 ?side2 A3.out).mono ?_); (case side1 => exact KD HR0_1 HB); (case side2 => exact HC0_1.out); rintro e w7 ⟨rfl, hb⟩; refine ⟨_, rfl, ?_⟩; replace BK101 := am (BB BK101 hb); replace HB := am (below_step (K1 HB GE101.out) hb); (try clear hb); (try clear hb2); (try clear hk); (try clear hi)))
  go_ret
  exact ⟨ER, K1 HB GE101.out⟩
 ·rw [if_neg c4] at H
  have c4b0 : decide (t102 < 0) = false := decide_eq_false c4
  clear c4
  replace H := Option.bind_eq_some_iff.mp H
  obtain ⟨⟨t103, t104⟩, A80, H⟩ := H
  replace H : ((spec_WindowSee.f k t103 t104 a1).bind fun bt107 => ((laws_toWindow.f k a0_0 l0_1).bind fun bt113 => ((impl_WindowSee.f k bt113.1 bt113.2 a1).bind fun bt118 => ((laws_eqWindow.f k bt118.1 bt118.2.1 bt107.1 bt107.2.1).bind fun t124 => (if t124 = true then (laws_FnExactWindowSee.j0 k a1 bt107.2.2 bt118.2.2 (bt118.2.2 != bt107.2.2) a0_0 l0_1 bt107.1 bt107.2.1 bt113.1 bt113.2 bt118.1 bt118.2.1) else (laws_FnExactWindowSee.j0 k a1 bt107.2.2 bt118.2.2 true a0_0 l0_1 bt107.1 bt107.2.1 bt113.1 bt113.2 bt118.1 bt118.2.1)))))) = some r := H
  have A8 := Aside0.mk A80
  clear A80
  replace H := Option.bind_eq_some_iff.mp H
  obtain ⟨⟨t107, t108, t111⟩, A90, H⟩ := H
  replace H : ((laws_toWindow.f k a0_0 l0_1).bind fun bt113 => ((impl_WindowSee.f k bt113.1 bt113.2 a1).bind fun bt118 => ((laws_eqWindow.f k bt118.1 bt118.2.1 t107 t108).bind fun t124 => (if t124 = true then (laws_FnExactWindowSee.j0 k a1 t111 bt118.2.2 (bt118.2.2 != t111) a0_0 l0_1 t107 t108 bt113.1 bt113.2 bt118.1 bt118.2.1) else (laws_FnExactWindowSee.j0 k a1 t111 bt118.2.2 true a0_0 l0_1 t107 t108 bt113.1 bt113.2 bt118.1 bt118.2.1))))) = some r := H
  have A9 := Aside0.mk A90
  clear A90
  replace H := Option.bind_eq_some_iff.mp H
  obtain ⟨⟨t113, t114⟩, A100, H⟩ := H
  replace H : ((impl_WindowSee.f k t113 t114 a1).bind fun bt118 => ((laws_eqWindow.f k bt118.1 bt118.2.1 t107 t108).bind fun t124 => (if t124 = true then (laws_FnExactWindowSee.j0 k a1 t111 bt118.2.2 (bt118.2.2 != t111) a0_0 l0_1 t107 t108 t113 t114 bt118.1 bt118.2.1) else (laws_FnExactWindowSee.j0 k a1 t111 bt118.2.2 true a0_0 l0_1 t107 t108 t113 t114 bt118.1 bt118.2.1)))) = some r := H
  have A10 := Aside0.mk A100
  clear A100
  replace H := Option.bind_eq_some_iff.mp H
  obtain ⟨⟨t118, t119, t122⟩, A110, H⟩ := H
  replace H : ((laws_eqWindow.f k t118 t119 t107 t108).bind fun t124 => (if t124 = true then (laws_FnExactWindowSee.j0 k a1 t111 t122 (t122 != t111) a0_0 l0_1 t107 t108 t113 t114 t118 t119) else (laws_FnExactWindowSee.j0 k a1 t111 t122 true a0_0 l0_1 t107 t108 t113 t114 t118 t119))) = some r := H
  have A11 := Aside0.mk A110
  clear A110
  have HC12 := Aside0.mk H
  clear H
  go_enter Try.func6, Try.ntmps6
  go_upto_region 8 with (first | ((with_reducible refine gate_dst (N := 2) rfl ?_); refine box_event rfl (N := 2) rfl (cs := #[.int .i64 a0_0, .slice A0_1 l0_1.length c0_1]) (t := 37) BX ?_; intro gb101 hg w13 hbox hb; have BK101 := am (hbox); have GW101 := am (GH HB hg); have GE101 := GW101; replace HB := am (below_step (KL HB) hb); clear hb hbox hg; obtain ⟨hcz14_0, hcz14_1, hfz14_0⟩ := y2 w13 BK101.out) | ((with_reducible refine gate_callee (f := 24) rfl ?_); refine goesL_ (some 18) rfl rfl Try.func24 (by kernel_rfl) rfl #[.agg #[.int .i64 a0_0, .slice A0_1 l0_1.length c0_1], .int .i64 1048576] rfl MT ?_; (with_reducible refine (laws_szWindow.calls a0_0 _ _ l0_1 1048576 t102 _ ?side1 ?side2 A3.out).mono ?_); (case side1 => exact KD HR0_1 HB); (case side2 => exact HC0_1.out); rintro e w15 ⟨rfl, hb⟩; refine ⟨_, rfl, ?_⟩; replace BK101 := am (BB BK101 hb); replace HB := am (below_step (K1 HB GE101.out) hb); (try clear hb); (try clear hb2); (try clear hk); (try clear hi); obtain ⟨hcz16_0, hcz16_1, hfz16_0⟩ := y2 w15 BK101.out) | ((with_reducible refine gate_callee (f := 25) rfl ?_); refine goesL_ (some 23) rfl rfl Try.func25 (by kernel_rfl) rfl #[.agg #[.int .i64 a0_0, .slice A0_1 l0_1.length c0_1]] rfl MT ?_; (with_reducible refine (laws_toWindow.calls k a0_0 _ _ l0_1 t103 t104 _ ?side1 ?side2 A8.out).mono ?_); (case side1 => exact KD HR0_1 HB); (case side2 => exact HC0_1.out); rintro e w17 ⟨v105, rfl, ho0, hb⟩; refine ⟨_, rfl, ?_⟩; have HO106 := am (Kd.R_lower ho0 (below_size (K1 HB GE101.out))); replace BK101 := am (BB BK101 hb); replace HB := am (below_step (K1 HB GE101.out) hb); (try clear hb); (try clear hb2); (try clear hk); (try clear hi); (try clear ho0); obtain ⟨Ao18, co18, eo18⟩ := Kd.R_slice HO106.out; subst eo18) | ((with_reducible refine gate_callee (f := 20) rfl ?_); refine goesL_ (some 25) rfl rfl Try.func20 (by kernel_rfl) rfl #[.agg #[.int .i64 t103, .slice Ao18 t104.length co18], .int .i64 a1] rfl MT ?_; (with_reducible refine (spec_WindowSee.calls k t103 _ _ t104 a1 t107 t108 t111 _ ?side1 ?side2 A9.out).mono ?_); (case side1 => exact KC (Kd.R_reads' HO106.out).2.2); (case side2 => exact (Kd.R_reads' HO106.out).2.1); rintro e w19 ⟨v109, rfl, ho0, hb⟩; refine ⟨_, rfl, ?_⟩; have HO110 := am (Kd.R_lower (Kd.R_new' ho0 (Kd.R_lt (KR HO106))) (below_size (K1 HB GE101.out))); replace HO106 := am (Kd.R_elder' (KR HO106) (Kd.R_base ho0) hb); replace BK101 := am (BB BK101 hb); replace HB := am (below_step (K1 HB GE101.out) hb); (try clear hb); (try clear hb2); (try clear hk); (try clear hi); (try clear ho0)) | ((with_reducible refine gate_dst (N := 6) rfl ?_); refine box_event rfl (N := 6) rfl (cs := #[.int .i64 0, .slice none 0 0]) (t := 31) BX ?_; intro gb112 hg w20 hbox hb; replace HO106 := am (Kd.R_below (KR HO106) hb); replace HO110 := am (Kd.R_below (KR HO110) hb); have BK112 := am (hbox); have GW112 := am (GH1 HB GE101.out hg); have GE112 := GW112; replace HB := am (below_step (K1 HB GE101.out) hb); have NB101_112 := am (NL BK101 hg); have NB112_101 := am (NG BK101 hg); replace BK101 := am (BB BK101 hb); clear hb hbox hg; have hnb21 := NB112_101.out; have hnc21 := NB101_112.out; obtain ⟨hcz22_0, hcz22_1, hfz22_0⟩ := y2 w20 BK112.out; obtain ⟨Ao23, co23, eo23⟩ := Kd.R_slice HO110.out; subst eo23; obtain ⟨hcz24_0, hcz24_1, hfz24_0⟩ := y2 w20 BK101.out) | ((with_reducible refine gate_callee (f := 25) rfl ?_); refine goesL_ (some 29) rfl rfl Try.func25 (by kernel_rfl) rfl #[.agg #[.int .i64 a0_0, .slice A0_1 l0_1.length c0_1]] rfl MT ?_; (with_reducible refine (laws_toWindow.calls k a0_0 _ _ l0_1 t113 t114 _ ?side1 ?side2 A10.out).mono ?_); (case side1 => exact Kd.C_below HR0_1.out (K2 HB GE101.out GE112.out)); (case side2 => exact HC0_1.out); rintro e w25 ⟨v115, rfl, ho0, hb⟩; refine ⟨_, rfl, ?_⟩; have HO116 := am (Kd.R_lower (Kd.R_new' (Kd.R_new' ho0 (Kd.R_lt (by (with_reducible repeat (first | apply Kd.R_alloc | apply Kd.R_drewN | apply Kd.R_drew)); exact (RF HO106.out BK112.out)))) (Kd.R_lt (by (with_reducible repeat (first | apply Kd.R_alloc | apply Kd.R_drewN | apply Kd.R_drew)); exact (RF HO110.out BK112.out)))) (below_size (K2 HB GE101.out GE112.out))); replace HO106 := am (Kd.R_elder' (by (with_reducible repeat (first | apply Kd.R_alloc | apply Kd.R_drewN | apply Kd.R_drew)); exact (RF HO106.out BK112.out)) (Kd.R_base ho0) hb); replace HO110 := am (Kd.R_elder' (by (with_reducible repeat (first | apply Kd.R_alloc | apply Kd.R_drewN | apply Kd.R_drew)); exact (RF HO110.out BK112.out)) (Kd.R_base ho0) hb); replace BK101 := am (blk_below (g := gb101) (o := .cells #[.int .i64 a0_0, .slice A0_1 l0_1.length c0_1] 37 (0, 0)) (by (with_reducible repeat (first | refine blk_drewN ?_ _ | refine blk_drew ?_ | refine blk_alloc ?_ _)); refine blk_far ?_ NB101_112.out _; (with_reducible repeat (first | refine blk_drewN ?_ _ | refine blk_drew ?_ | refine blk_alloc ?_ _)); refine blk_far ?_ NB101_112.out _; (with_reducible repeat (first | refine blk_drewN ?_ _ | refine blk_drew ?_ | refine blk_alloc ?_ _)); exact BK101.out) hb); replace BK112 := am (blk_below (g := gb112) (o := .cells #[.int .i64 t107, .slice Ao23 t108.length co23] 31 (0, 0)) (by (with_reducible repeat (first | refine blk_drewN ?_ _ | refine blk_drew ?_ | refine blk_alloc ?_ _)); refine blk_put (cs := #[.int .i64 t107, .slice none 0 0]) ?_ 1 _ rfl; (with_reducible repeat (first | refine blk_drewN ?_ _ | refine blk_drew ?_ | refine blk_alloc ?_ _)); refine blk_put (cs := #[.int .i64 0, .slice none 0 0]) ?_ 0 _ rfl; (with_reducible repeat (first | refine blk_drewN ?_ _ | refine blk_drew ?_ | refine blk_alloc ?_ _)); exact BK112.out) hb); replace HB := am (below_step (K2 HB GE101.out GE112.out) hb); (try clear hb); (try clear hb2); (try clear hk); (try clear hi); (try clear ho0)) | ((with_reducible refine gate_dst (N := 8) rfl ?_); refine box_event rfl (N := 8) rfl (cs := #[.int .i64 0, .slice none 0 0]) (t := 31) BX ?_; intro gb117 hg w26 hbox hb; replace HO106 := am (Kd.R_below (KR HO106) hb); replace HO110 := am (Kd.R_below (KR HO110) hb); replace HO116 := am (Kd.R_below (KR HO116) hb); have BK117 := am (hbox); have GW117 := am (GH2 HB GE101.out GE112.out hg); have GE117 := GW117; replace HB := am (below_step (K2 HB GE101.out GE112.out) hb); have NB101_117 := am (NL BK101 hg); have NB117_101 := am (NG BK101 hg); replace BK101 := am (BB BK101 hb); have NB112_117 := am (NL BK112 hg); have NB117_112 := am (NG BK112 hg); replace BK112 := am (BB BK112 hb); clear hb hbox hg; have hnb27 := NB117_101.out; have hnc27 := NB101_117.out; have hnb28 := NB117_112.out; have hnc28 := NB112_117.out; obtain ⟨hcz29_0, hcz29_1, hfz29_0⟩ := y2 w26 BK117.out; obtain ⟨Ao30, co30, eo30⟩ := Kd.R_slice HO116.out; subst eo30) | ((with_reducible refine gate_callee (f := 19) rfl ?_); refine goesL_ (some 33) rfl rfl Try.func19 (by kernel_rfl) rfl #[.agg #[.int .i64 t113, .slice Ao30 t114.length co30], .int .i64 a1] rfl MT ?_; (with_reducible refine (impl_WindowSee.calls k t113 _ _ t114 a1 t118 t119 t122 _ ?side1 ?side2 A11.out).mono ?_); (case side1 => refine (Kd.R_reads' (e := 3) (base := w.heap.size) (ok := fun k_ => ((True ∧ some k_ ≠ (.slice Ao18 t104.length co18 : Value).ownBlock) ∧ some k_ ≠ (.slice Ao23 t108.length co23 : Value).ownBlock)) (n := t114.length) (c := co30) ?_).2.2; exact (by (with_reducible repeat (first | apply Kd.R_alloc | apply Kd.R_drewN | apply Kd.R_drew)); exact (RF HO116.out BK117.out))); (case side2 => exact (Kd.R_reads' HO116.out).2.1); rintro e w31 ⟨v120, rfl, ho0, hb⟩; refine ⟨_, rfl, ?_⟩; have HO121 := am (Kd.R_lower (Kd.R_new' (Kd.R_new' (Kd.R_new' ho0 (Kd.R_lt (by (with_reducible repeat (first | apply Kd.R_alloc | apply Kd.R_drewN | apply Kd.R_drew)); exact (RF HO106.out BK117.out)))) (Kd.R_lt (by (with_reducible repeat (first | apply Kd.R_alloc | apply Kd.R_drewN | apply Kd.R_drew)); exact (RF HO110.out BK117.out)))) (Kd.R_lt (by (with_reducible repeat (first | apply Kd.R_alloc | apply Kd.R_drewN | apply Kd.R_drew)); exact (RF HO116.out BK117.out)))) (below_size (K3 HB GE101.out GE112.out GE117.out))); replace HO106 := am (Kd.R_elder' (by (with_reducible repeat (first | apply Kd.R_alloc | apply Kd.R_drewN | apply Kd.R_drew)); exact (RF HO106.out BK117.out)) (Kd.R_base ho0) hb); replace HO110 := am (Kd.R_elder' (by (with_reducible repeat (first | apply Kd.R_alloc | apply Kd.R_drewN | apply Kd.R_drew)); exact (RF HO110.out BK117.out)) (Kd.R_base ho0) hb); replace HO116 := am (Kd.R_elder' (by (with_reducible repeat (first | apply Kd.R_alloc | apply Kd.R_drewN | apply Kd.R_drew)); exact (RF HO116.out BK117.out)) (Kd.R_base ho0) hb); replace BK101 := am (blk_below (g := gb101) (o := .cells #[.int .i64 a0_0, .slice A0_1 l0_1.length c0_1] 37 (0, 0)) (by (with_reducible repeat (first | refine blk_drewN ?_ _ | refine blk_drew ?_ | refine blk_alloc ?_ _)); refine blk_far ?_ NB101_117.out _; (with_reducible repeat (first | refine blk_drewN ?_ _ | refine blk_drew ?_ | refine blk_alloc ?_ _)); refine blk_far ?_ NB101_117.out _; (with_reducible repeat (first | refine blk_drewN ?_ _ | refine blk_drew ?_ | refine blk_alloc ?_ _)); exact BK101.out) hb); replace BK112 := am (blk_below (g := gb112) (o := .cells #[.int .i64 t107, .slice Ao23 t108.length co23] 31 (0, 0)) (by (with_reducible repeat (first | refine blk_drewN ?_ _ | refine blk_drew ?_ | refine blk_alloc ?_ _)); refine blk_far ?_ NB112_117.out _; (with_reducible repeat (first | refine blk_drewN ?_ _ | refine blk_drew ?_ | refine blk_alloc ?_ _)); refine blk_far ?_ NB112_117.out _; (with_reducible repeat (first | refine blk_drewN ?_ _ | refine blk_drew ?_ | refine blk_alloc ?_ _)); exact BK112.out) hb); replace BK117 := am (blk_below (g := gb117) (o := .cells #[.int .i64 t113, .slice Ao30 t114.length co30] 31 (0, 0)) (by (with_reducible repeat (first | refine blk_drewN ?_ _ | refine blk_drew ?_ | refine blk_alloc ?_ _)); refine blk_put (cs := #[.int .i64 t113, .slice none 0 0]) ?_ 1 _ rfl; (with_reducible repeat (first | refine blk_drewN ?_ _ | refine blk_drew ?_ | refine blk_alloc ?_ _)); refine blk_put (cs := #[.int .i64 0, .slice none 0 0]) ?_ 0 _ rfl; (with_reducible repeat (first | refine blk_drewN ?_ _ | refine blk_drew ?_ | refine blk_alloc ?_ _)); exact BK117.out) hb); replace HB := am (below_step (K3 HB GE101.out GE112.out GE117.out) hb); (try clear hb); (try clear hb2); (try clear hk); (try clear hi); (try clear ho0)) | ((with_reducible refine gate_dst (N := 9) rfl ?_); refine box_event rfl (N := 9) rfl (cs := #[.int .i64 0, .slice none 0 0]) (t := 31) BX ?_; intro gb123 hg w32 hbox hb; replace HO106 := am (Kd.R_below (KR HO106) hb); replace HO110 := am (Kd.R_below (KR HO110) hb); replace HO116 := am (Kd.R_below (KR HO116) hb); replace HO121 := am (Kd.R_below (KR HO121) hb); have BK123 := am (hbox); have GW123 := am (GH3 HB GE101.out GE112.out GE117.out hg); have GE123 := GW123; replace HB := am (below_step (K3 HB GE101.out GE112.out GE117.out) hb); have NB101_123 := am (NL BK101 hg); have NB123_101 := am (NG BK101 hg); replace BK101 := am (BB BK101 hb); have NB112_123 := am (NL BK112 hg); have NB123_112 := am (NG BK112 hg); replace BK112 := am (BB BK112 hb); have NB117_123 := am (NL BK117 hg); have NB123_117 := am (NG BK117 hg); replace BK117 := am (BB BK117 hb); clear hb hbox hg; have hnb33 := NB123_101.out; have hnc33 := NB101_123.out; have hnb34 := NB123_112.out; have hnc34 := NB112_123.out; have hnb35 := NB123_117.out; have hnc35 := NB117_123.out; obtain ⟨hcz36_0, hcz36_1, hfz36_0⟩ := y2 w32 BK123.out; obtain ⟨Ao37, co37, eo37⟩ := Kd.R_slice HO121.out; subst eo37))
  (try simp only [Act.put, List.setIfInBounds_toArray, List.set_cons_zero, List.set_cons_succ])
  go_cut [44] (fun v44 wc => ∃ (kq : Nat) (x44_11 : Bool), v44 = .bool x44_11 ∧ Aside0 (laws_FnExactWindowSee.j0 kq a1 t111 t122 x44_11 a0_0 l0_1 t107 t108 t113 t114 t118 t119 = some r) ∧ Aside0 (kq ≤ k) ∧ Aside0 (Kd.R (Kd.int .i64) 3 wc w.heap.size (fun k_ => some k_ ≠ ((.slice Ao30 t114.length co30) : Value).ownBlock ∧ some k_ ≠ ((.slice Ao37 t119.length co37) : Value).ownBlock) (.slice Ao23 t108.length co23) t108) ∧ Aside0 (Kd.R (Kd.int .i64) 3 wc w.heap.size (fun k_ => some k_ ≠ ((.slice Ao23 t108.length co23) : Value).ownBlock ∧ some k_ ≠ ((.slice Ao37 t119.length co37) : Value).ownBlock) (.slice Ao30 t114.length co30) t114) ∧ Aside0 (Kd.R (Kd.int .i64) 3 wc w.heap.size (fun k_ => some k_ ≠ ((.slice Ao23 t108.length co23) : Value).ownBlock ∧ some k_ ≠ ((.slice Ao30 t114.length co30) : Value).ownBlock) (.slice Ao37 t119.length co37) t119) ∧ Aside0 (wc.heap[gb101]? = some (.cells #[.int .i64 a0_0, (.slice A0_1 l0_1.length c0_1)] 37 (0, 0))) ∧ Aside0 (wc.heap[gb112]? = some (.cells #[.int .i64 t107, (.slice Ao23 t108.length co23)] 31 (0, 0))) ∧ Aside0 (wc.heap[gb117]? = some (.cells #[.int .i64 t113, (.slice Ao30 t114.length co30)] 31 (0, 0))) ∧ Aside0 (wc.heap[gb123]? = some (.cells #[.int .i64 t118, (.slice Ao37 t119.length co37)] 31 (0, 0))) ∧ Aside0 (Below w.heap.size w wc))
  case first =>
   have H := HC12.out
   clear HC12
   replace H := Option.bind_eq_some_iff.mp H
   obtain ⟨t124, A380, H⟩ := H
   replace H : (if t124 = true then (laws_FnExactWindowSee.j0 k a1 t111 t122 (t122 != t111) a0_0 l0_1 t107 t108 t113 t114 t118 t119) else (laws_FnExactWindowSee.j0 k a1 t111 t122 true a0_0 l0_1 t107 t108 t113 t114 t118 t119)) = some r := H
   have A38 := Aside0.mk A380
   clear A380
   by_cases c39 : t124 = true
   ·subst c39
    have H1 : (laws_FnExactWindowSee.j0 k a1 t111 t122 (t122 != t111) a0_0 l0_1 t107 t108 t113 t114 t118 t119) = some r := by rw [if_pos rfl] at H; exact H
    clear H
    have H := H1
    clear H1
    have H' := Aside0.mk H
    clear H
    have hnb40 := NB123_101.out
    have hnc40 := NB101_123.out
    have hnb41 := NB123_112.out
    have hnc41 := NB112_123.out
    have hnb42 := NB123_117.out
    have hnc42 := NB117_123.out
    obtain ⟨hcz43_0, hcz43_1, hfz43_0⟩ := y2 w32 BK123.out
    have hnb44 := NB112_101.out
    have hnc44 := NB101_112.out
    have hnb45 := NB112_117.out
    have hnc45 := NB117_112.out
    obtain ⟨hcz46_0, hcz46_1, hfz46_0⟩ := y2 w32 BK112.out
    go_wp2_with (first | ((with_reducible refine gate_callee (f := 26) rfl ?_); refine goesL_ (some 38) rfl rfl Try.func26 (by kernel_rfl) rfl #[.agg #[.int .i64 t118, .slice Ao37 t119.length co37], .agg #[.int .i64 t107, .slice Ao23 t108.length co23]] rfl MT ?_; (with_reducible refine (laws_eqWindow.calls k t118 _ _ t119 t107 _ _ t108 true _ ?side1 ?side2 ?side3 ?side4 A38.out).mono ?_); (case side1 => refine (Kd.R_reads' (e := 3) (base := w.heap.size) (ok := fun k_ => (((True ∧ some k_ ≠ (.slice Ao18 t104.length co18 : Value).ownBlock) ∧ some k_ ≠ (.slice Ao23 t108.length co23 : Value).ownBlock) ∧ some k_ ≠ (.slice Ao30 t114.length co30 : Value).ownBlock)) (n := t119.length) (c := co37) ?_).2.2; exact (by (with_reducible repeat (first | apply Kd.R_alloc | apply Kd.R_drewN | apply Kd.R_drew)); exact (RF HO121.out BK123.out))); (case side2 => exact (Kd.R_reads' HO121.out).2.1); (case side3 => refine (Kd.R_reads' (e := 3) (base := w.heap.size) (ok := fun k_ => (((True ∧ some k_ ≠ (.slice Ao18 t104.length co18 : Value).ownBlock) ∧ some k_ ≠ (.slice Ao30 t114.length co30 : Value).ownBlock) ∧ some k_ ≠ (.slice Ao37 t119.length co37 : Value).ownBlock)) (n := t108.length) (c := co23) ?_).2.2; exact (by (with_reducible repeat (first | apply Kd.R_alloc | apply Kd.R_drewN | apply Kd.R_drew)); exact (RF HO110.out BK123.out))); (case side4 => exact (Kd.R_reads' HO110.out).2.1); rintro e w47 ⟨rfl, hb⟩; refine ⟨_, rfl, ?_⟩; replace HO106 := am (Kd.R_below (by (with_reducible repeat (first | apply Kd.R_alloc | apply Kd.R_drewN | apply Kd.R_drew)); exact (RF HO106.out BK123.out)) hb); replace HO110 := am (Kd.R_below (by (with_reducible repeat (first | apply Kd.R_alloc | apply Kd.R_drewN | apply Kd.R_drew)); exact (RF HO110.out BK123.out)) hb); replace HO116 := am (Kd.R_below (by (with_reducible repeat (first | apply Kd.R_alloc | apply Kd.R_drewN | apply Kd.R_drew)); exact (RF HO116.out BK123.out)) hb); replace HO121 := am (Kd.R_below (by (with_reducible repeat (first | apply Kd.R_alloc | apply Kd.R_drewN | apply Kd.R_drew)); exact (RF HO121.out BK123.out)) hb); replace BK101 := am (blk_below (g := gb101) (o := .cells #[.int .i64 a0_0, .slice A0_1 l0_1.length c0_1] 37 (0, 0)) (by (with_reducible repeat (first | refine blk_drewN ?_ _ | refine blk_drew ?_ | refine blk_alloc ?_ _)); refine blk_far ?_ NB101_123.out _; (with_reducible repeat (first | refine blk_drewN ?_ _ | refine blk_drew ?_ | refine blk_alloc ?_ _)); refine blk_far ?_ NB101_123.out _; (with_reducible repeat (first | refine blk_drewN ?_ _ | refine blk_drew ?_ | refine blk_alloc ?_ _)); exact BK101.out) hb); replace BK112 := am (blk_below (g := gb112) (o := .cells #[.int .i64 t107, .slice Ao23 t108.length co23] 31 (0, 0)) (by (with_reducible repeat (first | refine blk_drewN ?_ _ | refine blk_drew ?_ | refine blk_alloc ?_ _)); refine blk_far ?_ NB112_123.out _; (with_reducible repeat (first | refine blk_drewN ?_ _ | refine blk_drew ?_ | refine blk_alloc ?_ _)); refine blk_far ?_ NB112_123.out _; (with_reducible repeat (first | refine blk_drewN ?_ _ | refine blk_drew ?_ | refine blk_alloc ?_ _)); exact BK112.out) hb); replace BK117 := am (blk_below (g := gb117) (o := .cells #[.int .i64 t113, .slice Ao30 t114.length co30] 31 (0, 0)) (by (with_reducible repeat (first | refine blk_drewN ?_ _ | refine blk_drew ?_ | refine blk_alloc ?_ _)); refine blk_far ?_ NB117_123.out _; (with_reducible repeat (first | refine blk_drewN ?_ _ | refine blk_drew ?_ | refine blk_alloc ?_ _)); refine blk_far ?_ NB117_123.out _; (with_reducible repeat (first | refine blk_drewN ?_ _ | refine blk_drew ?_ | refine blk_alloc ?_ _)); exact BK117.out) hb); replace BK123 := am (blk_below (g := gb123) (o := .cells #[.int .i64 t118, .slice Ao37 t119.length co37] 31 (0, 0)) (by (with_reducible repeat (first | refine blk_drewN ?_ _ | refine blk_drew ?_ | refine blk_alloc ?_ _)); refine blk_put (cs := #[.int .i64 t118, .slice none 0 0]) ?_ 1 _ rfl; (with_reducible repeat (first | refine blk_drewN ?_ _ | refine blk_drew ?_ | refine blk_alloc ?_ _)); refine blk_put (cs := #[.int .i64 0, .slice none 0 0]) ?_ 0 _ rfl; (with_reducible repeat (first | refine blk_drewN ?_ _ | refine blk_drew ?_ | refine blk_alloc ?_ _)); exact BK123.out) hb); replace HB := am (below_step (K4 HB GE101.out GE112.out GE117.out GE123.out) hb); (try clear hb); (try clear hb2); (try clear hk); (try clear hi)))
    go_meet
    case rel => exact ⟨_, ((t122 != t111)), (by first | rfl | (simp; done) | (simp [*]; done)), H', ⟨by first | omega | exact Nat.le_refl _⟩, ⟨by (with_reducible repeat (first | apply Kd.R_alloc | apply Kd.R_drewN | apply Kd.R_drew)); exact Kd.R_mono HO110.out (fun _ hk => ⟨hk.1.2, hk.2⟩)⟩, ⟨by (with_reducible repeat (first | apply Kd.R_alloc | apply Kd.R_drewN | apply Kd.R_drew)); exact Kd.R_mono HO116.out (fun _ hk => ⟨hk.1.2, hk.2⟩)⟩, ⟨by (with_reducible repeat (first | apply Kd.R_alloc | apply Kd.R_drewN | apply Kd.R_drew)); exact Kd.R_mono HO121.out (fun _ hk => ⟨hk.1.2, hk.2⟩)⟩, ⟨KB BK101⟩, ⟨KB BK112⟩, ⟨KB BK117⟩, ⟨KB BK123⟩, ⟨K4 HB GE101.out GE112.out GE117.out GE123.out⟩⟩
   ·replace c39 := Bool.eq_false_iff.mpr c39
    subst c39
    have H1 : (laws_FnExactWindowSee.j0 k a1 t111 t122 true a0_0 l0_1 t107 t108 t113 t114 t118 t119) = some r := by rw [if_neg (show ¬ (false = true) by decide)] at H; exact H
    clear H
    have H := H1
    clear H1
    have H' := Aside0.mk H
    clear H
    have hnb48 := NB123_101.out
    have hnc48 := NB101_123.out
    have hnb49 := NB123_112.out
    have hnc49 := NB112_123.out
    have hnb50 := NB123_117.out
    have hnc50 := NB117_123.out
    obtain ⟨hcz51_0, hcz51_1, hfz51_0⟩ := y2 w32 BK123.out
    have hnb52 := NB112_101.out
    have hnc52 := NB101_112.out
    have hnb53 := NB112_117.out
    have hnc53 := NB117_112.out
    obtain ⟨hcz54_0, hcz54_1, hfz54_0⟩ := y2 w32 BK112.out
    go_wp2_with (first | ((with_reducible refine gate_callee (f := 26) rfl ?_); refine goesL_ (some 38) rfl rfl Try.func26 (by kernel_rfl) rfl #[.agg #[.int .i64 t118, .slice Ao37 t119.length co37], .agg #[.int .i64 t107, .slice Ao23 t108.length co23]] rfl MT ?_; (with_reducible refine (laws_eqWindow.calls k t118 _ _ t119 t107 _ _ t108 false _ ?side1 ?side2 ?side3 ?side4 A38.out).mono ?_); (case side1 => refine (Kd.R_reads' (e := 3) (base := w.heap.size) (ok := fun k_ => (((True ∧ some k_ ≠ (.slice Ao18 t104.length co18 : Value).ownBlock) ∧ some k_ ≠ (.slice Ao23 t108.length co23 : Value).ownBlock) ∧ some k_ ≠ (.slice Ao30 t114.length co30 : Value).ownBlock)) (n := t119.length) (c := co37) ?_).2.2; exact (by (with_reducible repeat (first | apply Kd.R_alloc | apply Kd.R_drewN | apply Kd.R_drew)); exact (RF HO121.out BK123.out))); (case side2 => exact (Kd.R_reads' HO121.out).2.1); (case side3 => refine (Kd.R_reads' (e := 3) (base := w.heap.size) (ok := fun k_ => (((True ∧ some k_ ≠ (.slice Ao18 t104.length co18 : Value).ownBlock) ∧ some k_ ≠ (.slice Ao30 t114.length co30 : Value).ownBlock) ∧ some k_ ≠ (.slice Ao37 t119.length co37 : Value).ownBlock)) (n := t108.length) (c := co23) ?_).2.2; exact (by (with_reducible repeat (first | apply Kd.R_alloc | apply Kd.R_drewN | apply Kd.R_drew)); exact (RF HO110.out BK123.out))); (case side4 => exact (Kd.R_reads' HO110.out).2.1); rintro e w55 ⟨rfl, hb⟩; refine ⟨_, rfl, ?_⟩; replace HO106 := am (Kd.R_below (by (with_reducible repeat (first | apply Kd.R_alloc | apply Kd.R_drewN | apply Kd.R_drew)); exact (RF HO106.out BK123.out)) hb); replace HO110 := am (Kd.R_below (by (with_reducible repeat (first | apply Kd.R_alloc | apply Kd.R_drewN | apply Kd.R_drew)); exact (RF HO110.out BK123.out)) hb); replace HO116 := am (Kd.R_below (by (with_reducible repeat (first | apply Kd.R_alloc | apply Kd.R_drewN | apply Kd.R_drew)); exact (RF HO116.out BK123.out)) hb); replace HO121 := am (Kd.R_below (by (with_reducible repeat (first | apply Kd.R_alloc | apply Kd.R_drewN | apply Kd.R_drew)); exact (RF HO121.out BK123.out)) hb); replace BK101 := am (blk_below (g := gb101) (o := .cells #[.int .i64 a0_0, .slice A0_1 l0_1.length c0_1] 37 (0, 0)) (by (with_reducible repeat (first | refine blk_drewN ?_ _ | refine blk_drew ?_ | refine blk_alloc ?_ _)); refine blk_far ?_ NB101_123.out _; (with_reducible repeat (first | refine blk_drewN ?_ _ | refine blk_drew ?_ | refine blk_alloc ?_ _)); refine blk_far ?_ NB101_123.out _; (with_reducible repeat (first | refine blk_drewN ?_ _ | refine blk_drew ?_ | refine blk_alloc ?_ _)); exact BK101.out) hb); replace BK112 := am (blk_below (g := gb112) (o := .cells #[.int .i64 t107, .slice Ao23 t108.length co23] 31 (0, 0)) (by (with_reducible repeat (first | refine blk_drewN ?_ _ | refine blk_drew ?_ | refine blk_alloc ?_ _)); refine blk_far ?_ NB112_123.out _; (with_reducible repeat (first | refine blk_drewN ?_ _ | refine blk_drew ?_ | refine blk_alloc ?_ _)); refine blk_far ?_ NB112_123.out _; (with_reducible repeat (first | refine blk_drewN ?_ _ | refine blk_drew ?_ | refine blk_alloc ?_ _)); exact BK112.out) hb); replace BK117 := am (blk_below (g := gb117) (o := .cells #[.int .i64 t113, .slice Ao30 t114.length co30] 31 (0, 0)) (by (with_reducible repeat (first | refine blk_drewN ?_ _ | refine blk_drew ?_ | refine blk_alloc ?_ _)); refine blk_far ?_ NB117_123.out _; (with_reducible repeat (first | refine blk_drewN ?_ _ | refine blk_drew ?_ | refine blk_alloc ?_ _)); refine blk_far ?_ NB117_123.out _; (with_reducible repeat (first | refine blk_drewN ?_ _ | refine blk_drew ?_ | refine blk_alloc ?_ _)); exact BK117.out) hb); replace BK123 := am (blk_below (g := gb123) (o := .cells #[.int .i64 t118, .slice Ao37 t119.length co37] 31 (0, 0)) (by (with_reducible repeat (first | refine blk_drewN ?_ _ | refine blk_drew ?_ | refine blk_alloc ?_ _)); refine blk_put (cs := #[.int .i64 t118, .slice none 0 0]) ?_ 1 _ rfl; (with_reducible repeat (first | refine blk_drewN ?_ _ | refine blk_drew ?_ | refine blk_alloc ?_ _)); refine blk_put (cs := #[.int .i64 0, .slice none 0 0]) ?_ 0 _ rfl; (with_reducible repeat (first | refine blk_drewN ?_ _ | refine blk_drew ?_ | refine blk_alloc ?_ _)); exact BK123.out) hb); replace HB := am (below_step (K4 HB GE101.out GE112.out GE117.out GE123.out) hb); (try clear hb); (try clear hb2); (try clear hk); (try clear hi)))
    go_meet
    case rel => exact ⟨_, (true), (by first | rfl | (simp; done) | (simp [*]; done)), H', ⟨by first | omega | exact Nat.le_refl _⟩, ⟨by (with_reducible repeat (first | apply Kd.R_alloc | apply Kd.R_drewN | apply Kd.R_drew)); exact Kd.R_mono HO110.out (fun _ hk => ⟨hk.1.2, hk.2⟩)⟩, ⟨by (with_reducible repeat (first | apply Kd.R_alloc | apply Kd.R_drewN | apply Kd.R_drew)); exact Kd.R_mono HO116.out (fun _ hk => ⟨hk.1.2, hk.2⟩)⟩, ⟨by (with_reducible repeat (first | apply Kd.R_alloc | apply Kd.R_drewN | apply Kd.R_drew)); exact Kd.R_mono HO121.out (fun _ hk => ⟨hk.1.2, hk.2⟩)⟩, ⟨KB BK101⟩, ⟨KB BK112⟩, ⟨KB BK117⟩, ⟨KB BK123⟩, ⟨K4 HB GE101.out GE112.out GE117.out GE123.out⟩⟩
  case rest =>
   clear HC12
   try clear c1
   try clear c2
   try clear p2
   try clear c3
   try clear c4
   try clear c4b0
   try clear c5
   try clear c6
   try clear c19
   try clear c20
   try clear c21
   try clear c24
   try clear c25
   try clear c26
   try clear c27
   try clear c28
   try clear c33
   try clear c34
   try clear c35
   try clear c39
   try clear c40
   try clear c41
   try clear c42
   try clear c44
   try clear c45
   try clear c48
   try clear c49
   try clear c50
   try clear c52
   try clear c53
   try clear hcz14_0 hcz14_1 hfz14_0
   try clear hcz16_0 hcz16_1 hfz16_0
   try clear hcz22_0 hcz22_1 hfz22_0
   try clear hcz24_0 hcz24_1 hfz24_0
   try clear hcz29_0 hcz29_1 hfz29_0
   try clear hcz36_0 hcz36_1 hfz36_0
   try clear hcz43_0 hcz43_1 hfz43_0
   try clear hcz46_0 hcz46_1 hfz46_0
   try clear hcz51_0 hcz51_1 hfz51_0
   try clear hcz54_0 hcz54_1 hfz54_0
   try clear hcz6_0 hcz6_1 hfz6_0
   obtain ⟨kq, x44_11, rfl, HA, HJ11, HO_113001, HO_118001, HO_124001, BK101, BK112, BK117, BK123, HB⟩ := hcut
   cases kq with
   | zero => exact absurd HA.out (by simp [laws_FnExactWindowSee.j0])
   | succ kj11 =>
    have H := HA.out
    clear HA
    simp only [laws_FnExactWindowSee.j0] at H
    by_cases c56 : x44_11 = true
    ·subst c56
     have H1 : (some false) = some r := by rw [if_pos rfl] at H; exact H
     clear H
     have H := H1
     clear H1
     exact absurd ((Option.some.inj H).trans HR_.out) (by decide)
    ·replace c56 := Bool.eq_false_iff.mpr c56
     subst c56
     have H1 : ((laws_toWindow.f kj11 a0_0 l0_1).bind fun bt125 => ((laws_eqWindow.f kj11 t113 t114 bt125.1 bt125.2).bind fun t129 => (if t129 = true then ((laws_markWindow.f kj11 t113 t114 1).bind fun bt130 => (if bt130.1 < 0 then (laws_FnExactWindowSee.j1 kj11 a1 t111 true a0_0 l0_1 t107 t108 t118 t119) else ((laws_eqWindow.f kj11 t118 t119 t107 t108).bind fun t132 => (if t132 = true then (laws_FnExactWindowSee.j1 kj11 a1 t111 (t122 != t111) a0_0 l0_1 t107 t108 t118 t119) else (laws_FnExactWindowSee.j1 kj11 a1 t111 true a0_0 l0_1 t107 t108 t118 t119))))) else (some false)))) = some r := by rw [if_neg (show ¬ (false = true) by decide)] at H; exact H
     clear H
     have H := H1
     clear H1
     replace H := Option.bind_eq_some_iff.mp H
     obtain ⟨⟨t125, t126⟩, A570, H⟩ := H
     replace H : ((laws_eqWindow.f kj11 t113 t114 t125 t126).bind fun t129 => (if t129 = true then ((laws_markWindow.f kj11 t113 t114 1).bind fun bt130 => (if bt130.1 < 0 then (laws_FnExactWindowSee.j1 kj11 a1 t111 true a0_0 l0_1 t107 t108 t118 t119) else ((laws_eqWindow.f kj11 t118 t119 t107 t108).bind fun t132 => (if t132 = true then (laws_FnExactWindowSee.j1 kj11 a1 t111 (t122 != t111) a0_0 l0_1 t107 t108 t118 t119) else (laws_FnExactWindowSee.j1 kj11 a1 t111 true a0_0 l0_1 t107 t108 t118 t119))))) else (some false))) = some r := H
     have A57 := Aside0.mk A570
     clear A570
     replace H := Option.bind_eq_some_iff.mp H
     obtain ⟨t129, A580, H⟩ := H
     replace H : (if t129 = true then ((laws_markWindow.f kj11 t113 t114 1).bind fun bt130 => (if bt130.1 < 0 then (laws_FnExactWindowSee.j1 kj11 a1 t111 true a0_0 l0_1 t107 t108 t118 t119) else ((laws_eqWindow.f kj11 t118 t119 t107 t108).bind fun t132 => (if t132 = true then (laws_FnExactWindowSee.j1 kj11 a1 t111 (t122 != t111) a0_0 l0_1 t107 t108 t118 t119) else (laws_FnExactWindowSee.j1 kj11 a1 t111 true a0_0 l0_1 t107 t108 t118 t119))))) else (some false)) = some r := H
     have A58 := Aside0.mk A580
     clear A580
     by_cases c59 : t129 = true
     ·subst c59
      have H1 : ((laws_markWindow.f kj11 t113 t114 1).bind fun bt130 => (if bt130.1 < 0 then (laws_FnExactWindowSee.j1 kj11 a1 t111 true a0_0 l0_1 t107 t108 t118 t119) else ((laws_eqWindow.f kj11 t118 t119 t107 t108).bind fun t132 => (if t132 = true then (laws_FnExactWindowSee.j1 kj11 a1 t111 (t122 != t111) a0_0 l0_1 t107 t108 t118 t119) else (laws_FnExactWindowSee.j1 kj11 a1 t111 true a0_0 l0_1 t107 t108 t118 t119))))) = some r := by rw [if_pos rfl] at H; exact H
      clear H
      have H := H1
      clear H1
      replace H := Option.bind_eq_some_iff.mp H
      obtain ⟨⟨t130, t131⟩, A600, H⟩ := H
      replace H : (if t130 < 0 then (laws_FnExactWindowSee.j1 kj11 a1 t111 true a0_0 l0_1 t107 t108 t118 t119) else ((laws_eqWindow.f kj11 t118 t119 t107 t108).bind fun t132 => (if t132 = true then (laws_FnExactWindowSee.j1 kj11 a1 t111 (t122 != t111) a0_0 l0_1 t107 t108 t118 t119) else (laws_FnExactWindowSee.j1 kj11 a1 t111 true a0_0 l0_1 t107 t108 t118 t119)))) = some r := H
      have A60 := Aside0.mk A600
      clear A600
      have HC61 := Aside0.mk H
      clear H
      try go_wp2
      replace HO_113001 := am (Kd.R_drew HO_113001.out)
      replace HO_118001 := am (Kd.R_drew HO_118001.out)
      replace HO_124001 := am (Kd.R_drew HO_124001.out)
      replace BK101 := am (blk_drew BK101.out)
      replace BK112 := am (blk_drew BK112.out)
      replace BK117 := am (blk_drew BK117.out)
      replace BK123 := am (blk_drew BK123.out)
      replace HB := am (below_drew1 HB.out)
      refine start_ (n := 5) (S := fun w' => ce2 w' gb117 (.int .i64 t113) (.slice Ao30 t114.length co30) (de2 w' gb101 (.int .i64 a0_0) (.slice A0_1 l0_1.length c0_1))) (ds := []) (tf 0 5) (by kernel_rfl) rfl rfl ⟨z0 _ BK117.out, z1 _ BK117.out, z0 _ BK101.out, z1 _ BK101.out⟩ (fun hHeld => ?_)
      generalize wc.drew = w62 at HO_113001 HO_118001 HO_124001 BK101 BK112 BK117 BK123 HB hHeld ⊢
      refine take_ (i := 0) (N := some 45) (v := ?_) (a' := ?_) (tf 1 4) rfl rfl (by kernel_rfl) (fun _ _ _ h => h) (Or.inl ⟨by rfl, ?_⟩) hHeld ?_ ?_
      rotate_left
      ·rintro w' ⟨s0, s1, s2, s3⟩
       go_simp
       with_reducible rfl
      rotate_left
      ·simp only [Act.put, List.setIfInBounds_toArray, List.set_cons_zero, List.set_cons_succ, i64_w, i32_w]
       rfl
      refine take_ (i := 1) (N := some 46) (v := ?_) (a' := ?_) (tf 2 3) rfl rfl (by kernel_rfl) (fun _ _ _ h => h) (Or.inl ⟨by rfl, ?_⟩) hHeld ?_ ?_
      rotate_left
      ·rintro w' ⟨s0, s1, s2, s3⟩
       go_simp
       with_reducible rfl
      rotate_left
      ·simp only [Act.put, List.setIfInBounds_toArray, List.set_cons_zero, List.set_cons_succ, i64_w, i32_w]
       rfl
      refine one_ (i := 2) (N := some 47) (tf 3 2) rfl rfl (by kernel_rfl) (by decide) (fun K hK => ?_)
      refine goes_ Try.func25 (by kernel_rfl) rfl #[.agg #[.int .i64 a0_0, .slice A0_1 l0_1.length c0_1]] (by rfl) rfl rfl MT ?_
      with_reducible refine (laws_toWindow.calls kj11 a0_0 _ _ l0_1 t125 t126 _ ?side1 ?side2 A57.out).mono ?_
      (case side1 => exact KD HR0_1 HB)
      (case side2 => exact HC0_1.out)
      rintro e w63 ⟨v127, rfl, ho0, hb⟩
      refine ⟨_, rfl, ?_⟩
      have HO128 := am (Kd.R_lower (Kd.R_new' (Kd.R_new' (Kd.R_new' ho0 (Kd.R_lt (KR HO_113001))) (Kd.R_lt (KR HO_118001))) (Kd.R_lt (KR HO_124001))) (below_size (K4 HB GE101.out GE112.out GE117.out GE123.out)))
      replace HO_113001 := am (Kd.R_elder' (KR HO_113001) (Kd.R_base ho0) hb)
      replace HO_118001 := am (Kd.R_elder' (KR HO_118001) (Kd.R_base ho0) hb)
      replace HO_124001 := am (Kd.R_elder' (KR HO_124001) (Kd.R_base ho0) hb)
      replace BK101 := am (BB BK101 hb)
      replace BK112 := am (BB BK112 hb)
      replace BK117 := am (BB BK117 hb)
      replace BK123 := am (BB BK123 hb)
      replace HB := am (below_step (K4 HB GE101.out GE112.out GE117.out GE123.out) hb)
      (try clear hb)
      (try clear hb2)
      (try clear hk)
      (try clear hi)
      (try clear ho0)
      obtain ⟨Ao64, co64, eo64⟩ := Kd.R_slice HO128.out
      (first | subst eo64 | (injection eo64 with f1_ f2_ f3_; have f4_ := f1_.symm; have f5_ := f3_.symm; clear f1_ f2_ f3_; subst f4_; subst f5_))
      refine hK.out _ _ ⟨z0 _ BK117.out, z1 _ BK117.out, z0 _ BK101.out, z1 _ BK101.out⟩ (fun hHeld => ?_)
      clear hK K
      refine norm_ (a' := ?_) ?_ ?_
      rotate_left
      ·show Act.put _ (some 47) _ = _
       simp only [Act.put, List.setIfInBounds_toArray, List.set_cons_zero, List.set_cons_succ, i64_w, i32_w]
       rfl
      refine one_ (i := 3) (N := some 48) (tf 4 1) rfl rfl (by kernel_rfl) (by decide) (fun K hK => ?_)
      refine goes_ Try.func26 (by kernel_rfl) rfl #[.agg #[.int .i64 t113, .slice Ao30 t114.length co30], .agg #[.int .i64 t125, .slice Ao64 t126.length co64]] (by rfl) rfl rfl MT ?_
      with_reducible refine (laws_eqWindow.calls kj11 t113 _ _ t114 t125 _ _ t126 true _ ?side1 ?side2 ?side3 ?side4 A58.out).mono ?_
      (case side1 => exact KC (Kd.R_reads' HO_118001.out).2.2)
      (case side2 => exact (Kd.R_reads' HO_118001.out).2.1)
      (case side3 => exact KC (Kd.R_reads' HO128.out).2.2)
      (case side4 => exact (Kd.R_reads' HO128.out).2.1)
      rintro e w65 ⟨rfl, hb⟩
      refine ⟨_, rfl, ?_⟩
      replace HO_113001 := am (Kd.R_below (KR HO_113001) hb)
      replace HO_118001 := am (Kd.R_below (KR HO_118001) hb)
      replace HO_124001 := am (Kd.R_below (KR HO_124001) hb)
      replace HO128 := am (Kd.R_below (KR HO128) hb)
      replace BK101 := am (BB BK101 hb)
      replace BK112 := am (BB BK112 hb)
      replace BK117 := am (BB BK117 hb)
      replace BK123 := am (BB BK123 hb)
      replace HB := am (below_step (K4 HB GE101.out GE112.out GE117.out GE123.out) hb)
      (try clear hb)
      (try clear hb2)
      (try clear hk)
      (try clear hi)
      refine hK.out _ _ ⟨z0 _ BK117.out, z1 _ BK117.out, z0 _ BK101.out, z1 _ BK101.out⟩ (fun hHeld => ?_)
      clear hK K
      refine norm_ (a' := ?_) ?_ ?_
      rotate_left
      ·show Act.put _ (some 48) _ = _
       simp only [Act.put, List.setIfInBounds_toArray, List.set_cons_zero, List.set_cons_succ, i64_w, i32_w]
       rfl
      refine pure_ (i := 4) (N := some 49) (v := ?_) (a' := ?_) (tf 5 0) rfl rfl (by kernel_rfl) (fun _ _ _ h => h) (Or.inl ⟨by rfl, ?_⟩) ?_ ?_; rotate_left; (· intro w'; go_simp; with_reducible rfl); rotate_left; (· simp only [Act.put, List.setIfInBounds_toArray, List.set_cons_zero, List.set_cons_succ, i64_w, i32_w]; rfl)
      refine done_ (by kernel_rfl) ?_
      have hnb66 := NB117_101.out
      have hnc66 := NB101_117.out
      have hnb67 := NB117_112.out
      have hnc67 := NB112_117.out
      have hnb68 := NB117_123.out
      have hnc68 := NB123_117.out
      obtain ⟨hcz69_0, hcz69_1, hfz69_0⟩ := y2 w65 BK117.out
      go_upto_region 14 with (first | ((with_reducible refine gate_callee (f := 27) rfl ?_); refine goesL_ (some 52) rfl rfl Try.func27 (by kernel_rfl) rfl #[.agg #[.int .i64 t113, .slice Ao30 t114.length co30], .int .i64 1] rfl MT ?_; (with_reducible refine (laws_markWindow.calls kj11 t113 (fun k_ => some k_ = (.slice Ao30 t114.length co30 : Value).ownBlock) (.slice Ao30 t114.length co30) t114 1 t130 t131 w _ ?side1 ?side2 A60.out).mono ?_); (case side1 => exact K4 HB GE101.out GE112.out GE117.out GE123.out); (case side2 => exact Kd.R_tight rfl HO_118001.out); rintro e w70 ⟨rfl, hy0, hb, hkp⟩; refine ⟨_, rfl, ?_⟩; replace HO_113001 := am (Kd.R_mono (ok' := fun k_ => some k_ ≠ (.slice Ao30 t114.length co30 : Value).ownBlock ∧ some k_ ≠ (.slice Ao37 t119.length co37 : Value).ownBlock ∧ some k_ ≠ (.slice Ao64 t126.length co64 : Value).ownBlock) (Kd.R_keptB (HO_113001.out) hkp (fun k_ hk_ hs_ => (hk_.1.1) hs_)) (fun k_ hk_ => ⟨hk_.1.1.1, hk_.1.1.2, hk_.1.2⟩)); replace HO_124001 := am (Kd.R_mono (ok' := fun k_ => some k_ ≠ (.slice Ao23 t108.length co23 : Value).ownBlock ∧ some k_ ≠ (.slice Ao30 t114.length co30 : Value).ownBlock ∧ some k_ ≠ (.slice Ao64 t126.length co64 : Value).ownBlock) (Kd.R_keptB (HO_124001.out) hkp (fun k_ hk_ hs_ => (hk_.1.2) hs_)) (fun k_ hk_ => ⟨hk_.1.1.1, hk_.1.1.2, hk_.1.2⟩)); replace BK101 := am (blk_kept (KB BK101) hkp (fun hs_ => (fun e_ => (Kd.R_ne HO_118001.out BK101.out (by decide)) e_) hs_)); replace BK112 := am (blk_kept (KB BK112) hkp (fun hs_ => (fun e_ => (Kd.R_ne HO_118001.out BK112.out (by decide)) e_) hs_)); replace BK117 := am (blk_kept (KB BK117) hkp (fun hs_ => (fun e_ => (Kd.R_ne HO_118001.out BK117.out (by decide)) e_) hs_)); replace BK123 := am (blk_kept (KB BK123) hkp (fun hs_ => (fun e_ => (Kd.R_ne HO_118001.out BK123.out (by decide)) e_) hs_)); replace HO_118001 := am (Kd.R_reok rfl hy0 (fun k_ e_ => HO_118001.out.1 k_ e_)); replace HO128 := am (Kd.R_mono (ok' := fun k_ => some k_ ≠ (.slice Ao23 t108.length co23 : Value).ownBlock ∧ some k_ ≠ (.slice Ao30 t114.length co30 : Value).ownBlock ∧ some k_ ≠ (.slice Ao37 t119.length co37 : Value).ownBlock) (Kd.R_keptB (HO128.out) hkp (fun k_ hk_ hs_ => (hk_.1.2) hs_)) (fun k_ hk_ => ⟨hk_.1.1.1.2, hk_.1.1.2, hk_.1.2⟩)); replace HB := am (hb); (try clear hb); (try clear hkp); (try clear hy0)))
      (try simp only [Act.put, List.setIfInBounds_toArray, List.set_cons_zero, List.set_cons_succ])
      go_cut [65] (fun v65 wc => ∃ (kq : Nat) (x65_60 : Bool), v65 = .bool x65_60 ∧ Aside0 (laws_FnExactWindowSee.j1 kq a1 t111 x65_60 a0_0 l0_1 t107 t108 t118 t119 = some r) ∧ Aside0 (kq ≤ kj11) ∧ Aside0 (Kd.R (Kd.int .i64) 3 wc w.heap.size (fun k_ => some k_ ≠ ((.slice Ao30 t114.length co30) : Value).ownBlock ∧ some k_ ≠ ((.slice Ao37 t119.length co37) : Value).ownBlock) (.slice Ao23 t108.length co23) t108) ∧ Aside0 (Kd.R (Kd.int .i64) 3 wc w.heap.size (fun k_ => some k_ ≠ ((.slice Ao23 t108.length co23) : Value).ownBlock ∧ some k_ ≠ ((.slice Ao37 t119.length co37) : Value).ownBlock) (.slice Ao30 t114.length co30) t131) ∧ Aside0 (Kd.R (Kd.int .i64) 3 wc w.heap.size (fun k_ => some k_ ≠ ((.slice Ao23 t108.length co23) : Value).ownBlock ∧ some k_ ≠ ((.slice Ao30 t114.length co30) : Value).ownBlock) (.slice Ao37 t119.length co37) t119) ∧ Aside0 (wc.heap[gb101]? = some (.cells #[.int .i64 a0_0, (.slice A0_1 l0_1.length c0_1)] 37 (0, 0))) ∧ Aside0 (wc.heap[gb112]? = some (.cells #[.int .i64 t107, (.slice Ao23 t108.length co23)] 31 (0, 0))) ∧ Aside0 (wc.heap[gb117]? = some (.cells #[.int .i64 t113, (.slice Ao30 t114.length co30)] 31 (0, 0))) ∧ Aside0 (wc.heap[gb123]? = some (.cells #[.int .i64 t118, (.slice Ao37 t119.length co37)] 31 (0, 0))) ∧ Aside0 (Below w.heap.size w wc))
      case first =>
       have H := HC61.out
       clear HC61
       by_cases c71 : t130 < 0
       ·rw [if_pos c71] at H
        have c71b0 : decide (t130 < 0) = true := decide_eq_true c71
        clear c71
        (first | rw [c71b0] | (simp only [i64_w, i32_w]; rw [c71b0]) | skip)
        have H' := Aside0.mk H
        clear H
        go_wp2
        go_meet
        case rel => exact ⟨_, (true), (by first | rfl | (simp; done) | (simp [*]; done)), H', ⟨by have := HJ11.out; first | omega | exact Nat.le_refl _⟩, ⟨by (with_reducible repeat (first | apply Kd.R_alloc | apply Kd.R_drewN | apply Kd.R_drew)); exact Kd.R_mono HO_113001.out (fun _ hk => ⟨hk.1, hk.2.1⟩)⟩, ⟨by (with_reducible repeat (first | apply Kd.R_alloc | apply Kd.R_drewN | apply Kd.R_drew)); exact Kd.R_mono HO_118001.out (fun _ hk => ⟨hk.1.1, hk.1.2⟩)⟩, ⟨by (with_reducible repeat (first | apply Kd.R_alloc | apply Kd.R_drewN | apply Kd.R_drew)); exact Kd.R_mono HO_124001.out (fun _ hk => ⟨hk.1, hk.2.1⟩)⟩, ⟨KB BK101⟩, ⟨KB BK112⟩, ⟨KB BK117⟩, ⟨KB BK123⟩, ⟨K4 HB GE101.out GE112.out GE117.out GE123.out⟩⟩
       ·rw [if_neg c71] at H
        have c71b0 : decide (t130 < 0) = false := decide_eq_false c71
        clear c71
        (first | rw [c71b0] | (simp only [i64_w, i32_w]; rw [c71b0]) | skip)
        replace H := Option.bind_eq_some_iff.mp H
        obtain ⟨t132, A720, H⟩ := H
        replace H : (if t132 = true then (laws_FnExactWindowSee.j1 kj11 a1 t111 (t122 != t111) a0_0 l0_1 t107 t108 t118 t119) else (laws_FnExactWindowSee.j1 kj11 a1 t111 true a0_0 l0_1 t107 t108 t118 t119)) = some r := H
        have A72 := Aside0.mk A720
        clear A720
        by_cases c73 : t132 = true
        ·subst c73
         have H1 : (laws_FnExactWindowSee.j1 kj11 a1 t111 (t122 != t111) a0_0 l0_1 t107 t108 t118 t119) = some r := by rw [if_pos rfl] at H; exact H
         clear H
         have H := H1
         clear H1
         have H' := Aside0.mk H
         clear H
         have hnb74 := NB123_101.out
         have hnc74 := NB101_123.out
         have hnb75 := NB123_112.out
         have hnc75 := NB112_123.out
         have hnb76 := NB123_117.out
         have hnc76 := NB117_123.out
         obtain ⟨hcz77_0, hcz77_1, hfz77_0⟩ := y2 w70 BK123.out
         have hnb78 := NB112_101.out
         have hnc78 := NB101_112.out
         have hnb79 := NB112_117.out
         have hnc79 := NB117_112.out
         obtain ⟨hcz80_0, hcz80_1, hfz80_0⟩ := y2 w70 BK112.out
         go_wp2_with (first | (go_at_call 26; (with_reducible refine (laws_eqWindow.calls kj11 t118 _ _ t119 t107 _ _ t108 true _ ?side1 ?side2 ?side3 ?side4 A72.out).mono ?_); (case side1 => exact KC (Kd.R_reads' HO_124001.out).2.2); (case side2 => exact (Kd.R_reads' HO_124001.out).2.1); (case side3 => exact KC (Kd.R_reads' HO_113001.out).2.2); (case side4 => exact (Kd.R_reads' HO_113001.out).2.1); rintro e w81 ⟨rfl, hb⟩; replace HO_113001 := am (Kd.R_below (KR HO_113001) hb); replace HO_118001 := am (Kd.R_below (KR HO_118001) hb); replace HO_124001 := am (Kd.R_below (KR HO_124001) hb); replace HO128 := am (Kd.R_below (KR HO128) hb); replace BK101 := am (BB BK101 hb); replace BK112 := am (BB BK112 hb); replace BK117 := am (BB BK117 hb); replace BK123 := am (BB BK123 hb); replace HB := am (below_step (K4 HB GE101.out GE112.out GE117.out GE123.out) hb); (try clear hb); (try clear hb2); (try clear hk); (try clear hi)))
         go_meet
         case rel => exact ⟨_, ((t122 != t111)), (by first | rfl | (simp; done) | (simp [*]; done)), H', ⟨by have := HJ11.out; first | omega | exact Nat.le_refl _⟩, ⟨by (with_reducible repeat (first | apply Kd.R_alloc | apply Kd.R_drewN | apply Kd.R_drew)); exact Kd.R_mono HO_113001.out (fun _ hk => ⟨hk.1, hk.2.1⟩)⟩, ⟨by (with_reducible repeat (first | apply Kd.R_alloc | apply Kd.R_drewN | apply Kd.R_drew)); exact Kd.R_mono HO_118001.out (fun _ hk => ⟨hk.1.1, hk.1.2⟩)⟩, ⟨by (with_reducible repeat (first | apply Kd.R_alloc | apply Kd.R_drewN | apply Kd.R_drew)); exact Kd.R_mono HO_124001.out (fun _ hk => ⟨hk.1, hk.2.1⟩)⟩, ⟨KB BK101⟩, ⟨KB BK112⟩, ⟨KB BK117⟩, ⟨KB BK123⟩, ⟨K4 HB GE101.out GE112.out GE117.out GE123.out⟩⟩
        ·replace c73 := Bool.eq_false_iff.mpr c73
         subst c73
         have H1 : (laws_FnExactWindowSee.j1 kj11 a1 t111 true a0_0 l0_1 t107 t108 t118 t119) = some r := by rw [if_neg (show ¬ (false = true) by decide)] at H; exact H
         clear H
         have H := H1
         clear H1
         have H' := Aside0.mk H
         clear H
         have hnb82 := NB123_101.out
         have hnc82 := NB101_123.out
         have hnb83 := NB123_112.out
         have hnc83 := NB112_123.out
         have hnb84 := NB123_117.out
         have hnc84 := NB117_123.out
         obtain ⟨hcz85_0, hcz85_1, hfz85_0⟩ := y2 w70 BK123.out
         have hnb86 := NB112_101.out
         have hnc86 := NB101_112.out
         have hnb87 := NB112_117.out
         have hnc87 := NB117_112.out
         obtain ⟨hcz88_0, hcz88_1, hfz88_0⟩ := y2 w70 BK112.out
         go_wp2_with (first | (go_at_call 26; (with_reducible refine (laws_eqWindow.calls kj11 t118 _ _ t119 t107 _ _ t108 false _ ?side1 ?side2 ?side3 ?side4 A72.out).mono ?_); (case side1 => exact KC (Kd.R_reads' HO_124001.out).2.2); (case side2 => exact (Kd.R_reads' HO_124001.out).2.1); (case side3 => exact KC (Kd.R_reads' HO_113001.out).2.2); (case side4 => exact (Kd.R_reads' HO_113001.out).2.1); rintro e w89 ⟨rfl, hb⟩; replace HO_113001 := am (Kd.R_below (KR HO_113001) hb); replace HO_118001 := am (Kd.R_below (KR HO_118001) hb); replace HO_124001 := am (Kd.R_below (KR HO_124001) hb); replace HO128 := am (Kd.R_below (KR HO128) hb); replace BK101 := am (BB BK101 hb); replace BK112 := am (BB BK112 hb); replace BK117 := am (BB BK117 hb); replace BK123 := am (BB BK123 hb); replace HB := am (below_step (K4 HB GE101.out GE112.out GE117.out GE123.out) hb); (try clear hb); (try clear hb2); (try clear hk); (try clear hi)))
         go_meet
         case rel => exact ⟨_, (true), (by first | rfl | (simp; done) | (simp [*]; done)), H', ⟨by have := HJ11.out; first | omega | exact Nat.le_refl _⟩, ⟨by (with_reducible repeat (first | apply Kd.R_alloc | apply Kd.R_drewN | apply Kd.R_drew)); exact Kd.R_mono HO_113001.out (fun _ hk => ⟨hk.1, hk.2.1⟩)⟩, ⟨by (with_reducible repeat (first | apply Kd.R_alloc | apply Kd.R_drewN | apply Kd.R_drew)); exact Kd.R_mono HO_118001.out (fun _ hk => ⟨hk.1.1, hk.1.2⟩)⟩, ⟨by (with_reducible repeat (first | apply Kd.R_alloc | apply Kd.R_drewN | apply Kd.R_drew)); exact Kd.R_mono HO_124001.out (fun _ hk => ⟨hk.1, hk.2.1⟩)⟩, ⟨KB BK101⟩, ⟨KB BK112⟩, ⟨KB BK117⟩, ⟨KB BK123⟩, ⟨K4 HB GE101.out GE112.out GE117.out GE123.out⟩⟩
      case rest =>
       clear HC61
       try clear c1
       try clear c2
       try clear p2
       try clear c3
       try clear c4
       try clear c4b0
       try clear c5
       try clear c6
       try clear c7
       try clear c8
       try clear c19
       try clear c20
       try clear c21
       try clear c24
       try clear c25
       try clear c26
       try clear c27
       try clear c28
       try clear c33
       try clear c34
       try clear c35
       try clear c39
       try clear c40
       try clear c41
       try clear c42
       try clear c44
       try clear c45
       try clear c48
       try clear c49
       try clear c50
       try clear c52
       try clear c53
       try clear c56
       try clear c59
       try clear c66
       try clear c67
       try clear c68
       try clear c71
       try clear c71b0
       try clear c73
       try clear c74
       try clear c75
       try clear c76
       try clear c78
       try clear c79
       try clear c82
       try clear c83
       try clear c84
       try clear c86
       try clear c87
       try clear hcz14_0 hcz14_1 hfz14_0
       try clear hcz16_0 hcz16_1 hfz16_0
       try clear hcz22_0 hcz22_1 hfz22_0
       try clear hcz24_0 hcz24_1 hfz24_0
       try clear hcz29_0 hcz29_1 hfz29_0
       try clear hcz36_0 hcz36_1 hfz36_0
       try clear hcz43_0 hcz43_1 hfz43_0
       try clear hcz46_0 hcz46_1 hfz46_0
       try clear hcz51_0 hcz51_1 hfz51_0
       try clear hcz54_0 hcz54_1 hfz54_0
       try clear hcz69_0 hcz69_1 hfz69_0
       try clear hcz6_0 hcz6_1 hfz6_0
       try clear hcz77_0 hcz77_1 hfz77_0
       try clear hcz80_0 hcz80_1 hfz80_0
       try clear hcz85_0 hcz85_1 hfz85_0
       try clear hcz88_0 hcz88_1 hfz88_0
       try clear p2
       obtain ⟨kq, x65_60, rfl, HA, HJ60, HO_113001, HO_118001, HO_124001, BK101, BK112, BK117, BK123, HB⟩ := hcut
       have hl118001_60 := (Kd.R_reads' HO_118001.out).1
       rw [hl118001_60] at HO_118001
       (try simp only [hl118001_60])
       (try simp only [hl118001_60] at BK101)
       (try simp only [hl118001_60] at BK112)
       (try simp only [hl118001_60] at BK117)
       (try simp only [hl118001_60] at BK123)
       (try simp only [hl118001_60] at HO_113001)
       (try simp only [hl118001_60] at HO_124001)
       cases kq with
       | zero => exact absurd HA.out (by simp [laws_FnExactWindowSee.j1])
       | succ kj60 =>
        have H := HA.out
        clear HA
        simp only [laws_FnExactWindowSee.j1] at H
        by_cases c90 : x65_60 = true
        ·subst c90
         have H1 : (some false) = some r := by rw [if_pos rfl] at H; exact H
         clear H
         have H := H1
         clear H1
         exact absurd ((Option.some.inj H).trans HR_.out) (by decide)
        ·replace c90 := Bool.eq_false_iff.mpr c90
         subst c90
         have H1 : ((laws_markWindow.f kj60 t118 t119 1).bind fun bt133 => ((laws_heldWindow.f kj60 t118 bt133.2 1).bind fun t135 => (if t135 < 0 then (some false) else (if t135 = bt133.1 then ((laws_toWindow.f kj60 a0_0 l0_1).bind fun bt136 => ((impl_WindowSee.f kj60 bt136.1 bt136.2 a1).bind fun bt140 => ((laws_eqWindow.f kj60 bt140.1 bt140.2.1 t107 t108).bind fun t146 => (if t146 = true then (laws_FnExactWindowSee.j2 kj60 bt133.1 (bt140.2.2 != t111) t118 bt133.2) else (laws_FnExactWindowSee.j2 kj60 bt133.1 true t118 bt133.2))))) else (some false))))) = some r := by rw [if_neg (show ¬ (false = true) by decide)] at H; exact H
         clear H
         have H := H1
         clear H1
         replace H := Option.bind_eq_some_iff.mp H
         obtain ⟨⟨t133, t134⟩, A910, H⟩ := H
         replace H : ((laws_heldWindow.f kj60 t118 t134 1).bind fun t135 => (if t135 < 0 then (some false) else (if t135 = t133 then ((laws_toWindow.f kj60 a0_0 l0_1).bind fun bt136 => ((impl_WindowSee.f kj60 bt136.1 bt136.2 a1).bind fun bt140 => ((laws_eqWindow.f kj60 bt140.1 bt140.2.1 t107 t108).bind fun t146 => (if t146 = true then (laws_FnExactWindowSee.j2 kj60 t133 (bt140.2.2 != t111) t118 t134) else (laws_FnExactWindowSee.j2 kj60 t133 true t118 t134))))) else (some false)))) = some r := H
         have A91 := Aside0.mk A910
         clear A910
         replace H := Option.bind_eq_some_iff.mp H
         obtain ⟨t135, A920, H⟩ := H
         replace H : (if t135 < 0 then (some false) else (if t135 = t133 then ((laws_toWindow.f kj60 a0_0 l0_1).bind fun bt136 => ((impl_WindowSee.f kj60 bt136.1 bt136.2 a1).bind fun bt140 => ((laws_eqWindow.f kj60 bt140.1 bt140.2.1 t107 t108).bind fun t146 => (if t146 = true then (laws_FnExactWindowSee.j2 kj60 t133 (bt140.2.2 != t111) t118 t134) else (laws_FnExactWindowSee.j2 kj60 t133 true t118 t134))))) else (some false))) = some r := H
         have A92 := Aside0.mk A920
         clear A920
         by_cases c93 : t135 < 0
         ·rw [if_pos c93] at H
          have c93b0 : decide (t135 < 0) = true := decide_eq_true c93
          clear c93
          exact absurd ((Option.some.inj H).trans HR_.out) (by decide)
         ·rw [if_neg c93] at H
          have c93b0 : decide (t135 < 0) = false := decide_eq_false c93
          clear c93
          by_cases c94 : t135 = t133
          ·rw [if_pos c94] at H
           have c94b0 : (t135 == t133) = true := beq_iff_eq.mpr c94
           have c94b1 : (t135 != t133) = false := bne_eq_false_iff_eq.mpr c94
           clear c94
           replace H := Option.bind_eq_some_iff.mp H
           obtain ⟨⟨t136, t137⟩, A950, H⟩ := H
           replace H : ((impl_WindowSee.f kj60 t136 t137 a1).bind fun bt140 => ((laws_eqWindow.f kj60 bt140.1 bt140.2.1 t107 t108).bind fun t146 => (if t146 = true then (laws_FnExactWindowSee.j2 kj60 t133 (bt140.2.2 != t111) t118 t134) else (laws_FnExactWindowSee.j2 kj60 t133 true t118 t134)))) = some r := H
           have A95 := Aside0.mk A950
           clear A950
           replace H := Option.bind_eq_some_iff.mp H
           obtain ⟨⟨t140, t141, t144⟩, A960, H⟩ := H
           replace H : ((laws_eqWindow.f kj60 t140 t141 t107 t108).bind fun t146 => (if t146 = true then (laws_FnExactWindowSee.j2 kj60 t133 (t144 != t111) t118 t134) else (laws_FnExactWindowSee.j2 kj60 t133 true t118 t134))) = some r := H
           have A96 := Aside0.mk A960
           clear A960
           have HC97 := Aside0.mk H
           clear H
           have hnb98 := NB123_101.out
           have hnc98 := NB101_123.out
           have hnb99 := NB123_112.out
           have hnc99 := NB112_123.out
           have hnb100 := NB123_117.out
           have hnc100 := NB117_123.out
           obtain ⟨hcz101_0, hcz101_1, hfz101_0⟩ := y2 wc BK123.out
           go_upto_region 25 with (first | ((with_reducible refine gate_callee (f := 27) rfl ?_); refine goesL_ (some 68) rfl rfl Try.func27 (by kernel_rfl) rfl #[.agg #[.int .i64 t118, .slice Ao37 t119.length co37], .int .i64 1] rfl MT ?_; (with_reducible refine (laws_markWindow.calls kj60 t118 (fun k_ => some k_ = (.slice Ao37 t119.length co37 : Value).ownBlock) (.slice Ao37 t119.length co37) t119 1 t133 t134 w _ ?side1 ?side2 A91.out).mono ?_); (case side1 => exact K4 HB GE101.out GE112.out GE117.out GE123.out); (case side2 => exact Kd.R_tight rfl HO_124001.out); rintro e w102 ⟨rfl, hy0, hb, hkp⟩; refine ⟨_, rfl, ?_⟩; replace HO_113001 := am (Kd.R_mono (ok' := fun k_ => some k_ ≠ (.slice Ao30 t131.length co30 : Value).ownBlock ∧ some k_ ≠ (.slice Ao37 t119.length co37 : Value).ownBlock) (Kd.R_keptB (HO_113001.out) hkp (fun k_ hk_ hs_ => (hk_.2) hs_)) (fun k_ hk_ => ⟨hk_.1.1, hk_.1.2⟩)); replace HO_118001 := am (Kd.R_mono (ok' := fun k_ => some k_ ≠ (.slice Ao23 t108.length co23 : Value).ownBlock ∧ some k_ ≠ (.slice Ao37 t119.length co37 : Value).ownBlock) (Kd.R_keptB (HO_118001.out) hkp (fun k_ hk_ hs_ => (hk_.2) hs_)) (fun k_ hk_ => ⟨hk_.1.1, hk_.1.2⟩)); replace BK101 := am (blk_kept (KB BK101) hkp (fun hs_ => (fun e_ => (Kd.R_ne HO_124001.out BK101.out (by decide)) e_) hs_)); replace BK112 := am (blk_kept (KB BK112) hkp (fun hs_ => (fun e_ => (Kd.R_ne HO_124001.out BK112.out (by decide)) e_) hs_)); replace BK117 := am (blk_kept (KB BK117) hkp (fun hs_ => (fun e_ => (Kd.R_ne HO_124001.out BK117.out (by decide)) e_) hs_)); replace BK123 := am (blk_kept (KB BK123) hkp (fun hs_ => (fun e_ => (Kd.R_ne HO_124001.out BK123.out (by decide)) e_) hs_)); replace HO_124001 := am (Kd.R_reok rfl hy0 (fun k_ e_ => HO_124001.out.1 k_ e_)); replace HB := am (hb); (try clear hb); (try clear hkp); (try clear hy0); obtain ⟨hcz103_0, hcz103_1, hfz103_0⟩ := y2 w102 BK123.out) | ((with_reducible refine gate_callee (f := 28) rfl ?_); refine goesL_ (some 71) rfl rfl Try.func28 (by kernel_rfl) rfl #[.agg #[.int .i64 t118, .slice Ao37 t134.length co37], .int .i64 1] rfl (by (try simp only [List.map_toArray, List.map_cons, List.map_nil]); first | done | (rw [show t134.length = t119.length from (Kd.R_reads' HO_124001.out).1.symm] <;> rfl) | rfl | (simp only [List.length_drop, List.length_take]; rfl)) ?_; (with_reducible refine (laws_heldWindow.calls kj60 t118 _ _ t134 1 t135 _ ?side1 ?side2 A92.out).mono ?_); (case side1 => exact KC (Kd.R_reads' HO_124001.out).2.2); (case side2 => rw [show t134.length = t119.length from (Kd.R_reads' HO_124001.out).1.symm]; exact (Kd.R_reads' HO_124001.out).2.1); rintro e w104 ⟨rfl, hb⟩; refine ⟨_, rfl, ?_⟩; replace HO_113001 := am (Kd.R_below (KR HO_113001) hb); replace HO_118001 := am (Kd.R_below (KR HO_118001) hb); replace HO_124001 := am (Kd.R_below (KR HO_124001) hb); replace BK101 := am (BB BK101 hb); replace BK112 := am (BB BK112 hb); replace BK117 := am (BB BK117 hb); replace BK123 := am (BB BK123 hb); replace HB := am (below_step (K4 HB GE101.out GE112.out GE117.out GE123.out) hb); (try clear hb); (try clear hb2); (try clear hk); (try clear hi); have hnb105 := NB101_112.out; have hnc105 := NB112_101.out; have hnb106 := NB101_117.out; have hnc106 := NB117_101.out; obtain ⟨hcz107_0, hcz107_1, hfz107_0⟩ := y2 w104 BK101.out) | ((with_reducible refine gate_callee (f := 25) rfl ?_); refine goesL_ (some 79) rfl rfl Try.func25 (by kernel_rfl) rfl #[.agg #[.int .i64 a0_0, .slice A0_1 l0_1.length c0_1]] rfl MT ?_; (with_reducible refine (laws_toWindow.calls kj60 a0_0 _ _ l0_1 t136 t137 _ ?side1 ?side2 A95.out).mono ?_); (case side1 => exact KD HR0_1 HB); (case side2 => exact HC0_1.out); rintro e w108 ⟨v138, rfl, ho0, hb⟩; refine ⟨_, rfl, ?_⟩; have HO139 := am (Kd.R_lower (Kd.R_new' (Kd.R_new' (Kd.R_new' ho0 (Kd.R_lt (KR HO_113001))) (Kd.R_lt (KR HO_118001))) (Kd.R_lt (KR HO_124001))) (below_size (K4 HB GE101.out GE112.out GE117.out GE123.out))); replace HO_113001 := am (Kd.R_elder' (KR HO_113001) (Kd.R_base ho0) hb); replace HO_118001 := am (Kd.R_elder' (KR HO_118001) (Kd.R_base ho0) hb); replace HO_124001 := am (Kd.R_elder' (KR HO_124001) (Kd.R_base ho0) hb); replace BK101 := am (BB BK101 hb); replace BK112 := am (BB BK112 hb); replace BK117 := am (BB BK117 hb); replace BK123 := am (BB BK123 hb); replace HB := am (below_step (K4 HB GE101.out GE112.out GE117.out GE123.out) hb); (try clear hb); (try clear hb2); (try clear hk); (try clear hi); (try clear ho0); obtain ⟨Ao109, co109, eo109⟩ := Kd.R_slice HO139.out; subst eo109) | ((with_reducible refine gate_callee (f := 19) rfl ?_); refine goesL_ (some 81) rfl rfl Try.func19 (by kernel_rfl) rfl #[.agg #[.int .i64 t136, .slice Ao109 t137.length co109], .int .i64 a1] rfl MT ?_; (with_reducible refine (impl_WindowSee.calls kj60 t136 _ _ t137 a1 t140 t141 t144 _ ?side1 ?side2 A96.out).mono ?_); (case side1 => exact KC (Kd.R_reads' HO139.out).2.2); (case side2 => exact (Kd.R_reads' HO139.out).2.1); rintro e w110 ⟨v142, rfl, ho0, hb⟩; refine ⟨_, rfl, ?_⟩; have HO143 := am (Kd.R_lower (Kd.R_new' (Kd.R_new' (Kd.R_new' (Kd.R_new' ho0 (Kd.R_lt (KR HO_113001))) (Kd.R_lt (KR HO_118001))) (Kd.R_lt (KR HO_124001))) (Kd.R_lt (KR HO139))) (below_size (K4 HB GE101.out GE112.out GE117.out GE123.out))); replace HO_113001 := am (Kd.R_elder' (KR HO_113001) (Kd.R_base ho0) hb); replace HO_118001 := am (Kd.R_elder' (KR HO_118001) (Kd.R_base ho0) hb); replace HO_124001 := am (Kd.R_elder' (KR HO_124001) (Kd.R_base ho0) hb); replace HO139 := am (Kd.R_elder' (KR HO139) (Kd.R_base ho0) hb); replace BK101 := am (BB BK101 hb); replace BK112 := am (BB BK112 hb); replace BK117 := am (BB BK117 hb); replace BK123 := am (BB BK123 hb); replace HB := am (below_step (K4 HB GE101.out GE112.out GE117.out GE123.out) hb); (try clear hb); (try clear hb2); (try clear hk); (try clear hi); (try clear ho0)) | ((with_reducible refine gate_dst (N := 14) rfl ?_); refine box_event rfl (N := 14) rfl (cs := #[.int .i64 0, .slice none 0 0]) (t := 31) BX ?_; intro gb145 hg w111 hbox hb; replace HO_113001 := am (Kd.R_below (KR HO_113001) hb); replace HO_118001 := am (Kd.R_below (KR HO_118001) hb); replace HO_124001 := am (Kd.R_below (KR HO_124001) hb); replace HO139 := am (Kd.R_below (KR HO139) hb); replace HO143 := am (Kd.R_below (KR HO143) hb); have BK145 := am (hbox); have GW145 := am (GH4 HB GE101.out GE112.out GE117.out GE123.out hg); have GE145 := GW145; replace HB := am (below_step (K4 HB GE101.out GE112.out GE117.out GE123.out) hb); have NB101_145 := am (NL BK101 hg); have NB145_101 := am (NG BK101 hg); replace BK101 := am (BB BK101 hb); have NB112_145 := am (NL BK112 hg); have NB145_112 := am (NG BK112 hg); replace BK112 := am (BB BK112 hb); have NB117_145 := am (NL BK117 hg); have NB145_117 := am (NG BK117 hg); replace BK117 := am (BB BK117 hb); have NB123_145 := am (NL BK123 hg); have NB145_123 := am (NG BK123 hg); replace BK123 := am (BB BK123 hb); clear hb hbox hg; have hnb112 := NB145_101.out; have hnc112 := NB101_145.out; have hnb113 := NB145_112.out; have hnc113 := NB112_145.out; have hnb114 := NB145_117.out; have hnc114 := NB117_145.out; have hnb115 := NB145_123.out; have hnc115 := NB123_145.out; obtain ⟨hcz116_0, hcz116_1, hfz116_0⟩ := y2 w111 BK145.out; obtain ⟨Ao117, co117, eo117⟩ := Kd.R_slice HO143.out; subst eo117))
           (try simp only [Act.put, List.setIfInBounds_toArray, List.set_cons_zero, List.set_cons_succ])
           go_cut [92] (fun v92 wc => ∃ (kq : Nat) (x92_96 : Bool), v92 = .bool x92_96 ∧ Aside0 (laws_FnExactWindowSee.j2 kq t133 x92_96 t118 t134 = some r) ∧ Aside0 (kq ≤ kj60) ∧ Aside0 (Kd.R (Kd.int .i64) 3 wc w.heap.size (fun k_ => some k_ ≠ ((.slice Ao30 t131.length co30) : Value).ownBlock ∧ some k_ ≠ ((.slice Ao37 t119.length co37) : Value).ownBlock ∧ some k_ ≠ ((.slice Ao117 t141.length co117) : Value).ownBlock) (.slice Ao23 t108.length co23) t108) ∧ Aside0 (Kd.R (Kd.int .i64) 3 wc w.heap.size (fun k_ => some k_ ≠ ((.slice Ao23 t108.length co23) : Value).ownBlock ∧ some k_ ≠ ((.slice Ao37 t119.length co37) : Value).ownBlock ∧ some k_ ≠ ((.slice Ao117 t141.length co117) : Value).ownBlock) (.slice Ao30 t131.length co30) t131) ∧ Aside0 (Kd.R (Kd.int .i64) 3 wc w.heap.size (fun k_ => some k_ ≠ ((.slice Ao23 t108.length co23) : Value).ownBlock ∧ some k_ ≠ ((.slice Ao30 t131.length co30) : Value).ownBlock ∧ some k_ ≠ ((.slice Ao117 t141.length co117) : Value).ownBlock) (.slice Ao37 t119.length co37) t134) ∧ Aside0 (Kd.R (Kd.int .i64) 3 wc w.heap.size (fun k_ => some k_ ≠ ((.slice Ao23 t108.length co23) : Value).ownBlock ∧ some k_ ≠ ((.slice Ao30 t131.length co30) : Value).ownBlock ∧ some k_ ≠ ((.slice Ao37 t119.length co37) : Value).ownBlock) (.slice Ao117 t141.length co117) t141) ∧ Aside0 (wc.heap[gb101]? = some (.cells #[.int .i64 a0_0, (.slice A0_1 l0_1.length c0_1)] 37 (0, 0))) ∧ Aside0 (wc.heap[gb112]? = some (.cells #[.int .i64 t107, (.slice Ao23 t108.length co23)] 31 (0, 0))) ∧ Aside0 (wc.heap[gb117]? = some (.cells #[.int .i64 t113, (.slice Ao30 t131.length co30)] 31 (0, 0))) ∧ Aside0 (wc.heap[gb123]? = some (.cells #[.int .i64 t118, (.slice Ao37 t119.length co37)] 31 (0, 0))) ∧ Aside0 (wc.heap[gb145]? = some (.cells #[.int .i64 t140, (.slice Ao117 t141.length co117)] 31 (0, 0))) ∧ Aside0 (Below w.heap.size w wc))
           case first =>
            have H := HC97.out
            clear HC97
            replace H := Option.bind_eq_some_iff.mp H
            obtain ⟨t146, A1180, H⟩ := H
            replace H : (if t146 = true then (laws_FnExactWindowSee.j2 kj60 t133 (t144 != t111) t118 t134) else (laws_FnExactWindowSee.j2 kj60 t133 true t118 t134)) = some r := H
            have A118 := Aside0.mk A1180
            clear A1180
            by_cases c119 : t146 = true
            ·subst c119
             have H1 : (laws_FnExactWindowSee.j2 kj60 t133 (t144 != t111) t118 t134) = some r := by rw [if_pos rfl] at H; exact H
             clear H
             have H := H1
             clear H1
             have H' := Aside0.mk H
             clear H
             have hnb120 := NB145_101.out
             have hnc120 := NB101_145.out
             have hnb121 := NB145_112.out
             have hnc121 := NB112_145.out
             have hnb122 := NB145_117.out
             have hnc122 := NB117_145.out
             have hnb123 := NB145_123.out
             have hnc123 := NB123_145.out
             obtain ⟨hcz124_0, hcz124_1, hfz124_0⟩ := y2 w111 BK145.out
             have hnb125 := NB112_101.out
             have hnc125 := NB101_112.out
             have hnb126 := NB112_117.out
             have hnc126 := NB117_112.out
             have hnb127 := NB112_123.out
             have hnc127 := NB123_112.out
             obtain ⟨hcz128_0, hcz128_1, hfz128_0⟩ := y2 w111 BK112.out
             go_wp2_with (first | ((with_reducible refine gate_callee (f := 26) rfl ?_); refine goesL_ (some 86) rfl rfl Try.func26 (by kernel_rfl) rfl #[.agg #[.int .i64 t140, .slice Ao117 t141.length co117], .agg #[.int .i64 t107, .slice Ao23 t108.length co23]] rfl MT ?_; (with_reducible refine (laws_eqWindow.calls kj60 t140 _ _ t141 t107 _ _ t108 true _ ?side1 ?side2 ?side3 ?side4 A118.out).mono ?_); (case side1 => refine (Kd.R_reads' (e := 3) (base := w.heap.size) (ok := fun k_ => ((((True ∧ some k_ ≠ (.slice Ao23 t108.length co23 : Value).ownBlock) ∧ some k_ ≠ (.slice Ao30 t131.length co30 : Value).ownBlock) ∧ some k_ ≠ (.slice Ao37 t119.length co37 : Value).ownBlock) ∧ some k_ ≠ (.slice Ao109 t137.length co109 : Value).ownBlock)) (n := t141.length) (c := co117) ?_).2.2; exact (by (with_reducible repeat (first | apply Kd.R_alloc | apply Kd.R_drewN | apply Kd.R_drew)); exact (RF HO143.out BK145.out))); (case side2 => exact (Kd.R_reads' HO143.out).2.1); (case side3 => refine (Kd.R_reads' (e := 3) (base := w.heap.size) (ok := fun k_ => (((some k_ ≠ (.slice Ao30 t131.length co30 : Value).ownBlock ∧ some k_ ≠ (.slice Ao37 t119.length co37 : Value).ownBlock) ∧ some k_ ≠ (.slice Ao109 t137.length co109 : Value).ownBlock) ∧ some k_ ≠ (.slice Ao117 t141.length co117 : Value).ownBlock)) (n := t108.length) (c := co23) ?_).2.2; exact (by (with_reducible repeat (first | apply Kd.R_alloc | apply Kd.R_drewN | apply Kd.R_drew)); exact (RF HO_113001.out BK145.out))); (case side4 => exact (Kd.R_reads' HO_113001.out).2.1); rintro e w129 ⟨rfl, hb⟩; refine ⟨_, rfl, ?_⟩; replace HO_113001 := am (Kd.R_below (by (with_reducible repeat (first | apply Kd.R_alloc | apply Kd.R_drewN | apply Kd.R_drew)); exact (RF HO_113001.out BK145.out)) hb); replace HO_118001 := am (Kd.R_below (by (with_reducible repeat (first | apply Kd.R_alloc | apply Kd.R_drewN | apply Kd.R_drew)); exact (RF HO_118001.out BK145.out)) hb); replace HO_124001 := am (Kd.R_below (by (with_reducible repeat (first | apply Kd.R_alloc | apply Kd.R_drewN | apply Kd.R_drew)); exact (RF HO_124001.out BK145.out)) hb); replace HO139 := am (Kd.R_below (by (with_reducible repeat (first | apply Kd.R_alloc | apply Kd.R_drewN | apply Kd.R_drew)); exact (RF HO139.out BK145.out)) hb); replace HO143 := am (Kd.R_below (by (with_reducible repeat (first | apply Kd.R_alloc | apply Kd.R_drewN | apply Kd.R_drew)); exact (RF HO143.out BK145.out)) hb); replace BK101 := am (blk_below (g := gb101) (o := .cells #[.int .i64 a0_0, .slice A0_1 l0_1.length c0_1] 37 (0, 0)) (by (with_reducible repeat (first | refine blk_drewN ?_ _ | refine blk_drew ?_ | refine blk_alloc ?_ _)); refine blk_far ?_ NB101_145.out _; (with_reducible repeat (first | refine blk_drewN ?_ _ | refine blk_drew ?_ | refine blk_alloc ?_ _)); refine blk_far ?_ NB101_145.out _; (with_reducible repeat (first | refine blk_drewN ?_ _ | refine blk_drew ?_ | refine blk_alloc ?_ _)); exact BK101.out) hb); replace BK112 := am (blk_below (g := gb112) (o := .cells #[.int .i64 t107, .slice Ao23 t108.length co23] 31 (0, 0)) (by (with_reducible repeat (first | refine blk_drewN ?_ _ | refine blk_drew ?_ | refine blk_alloc ?_ _)); refine blk_far ?_ NB112_145.out _; (with_reducible repeat (first | refine blk_drewN ?_ _ | refine blk_drew ?_ | refine blk_alloc ?_ _)); refine blk_far ?_ NB112_145.out _; (with_reducible repeat (first | refine blk_drewN ?_ _ | refine blk_drew ?_ | refine blk_alloc ?_ _)); exact BK112.out) hb); replace BK117 := am (blk_below (g := gb117) (o := .cells #[.int .i64 t113, .slice Ao30 t131.length co30] 31 (0, 0)) (by (with_reducible repeat (first | refine blk_drewN ?_ _ | refine blk_drew ?_ | refine blk_alloc ?_ _)); refine blk_far ?_ NB117_145.out _; (with_reducible repeat (first | refine blk_drewN ?_ _ | refine blk_drew ?_ | refine blk_alloc ?_ _)); refine blk_far ?_ NB117_145.out _; (with_reducible repeat (first | refine blk_drewN ?_ _ | refine blk_drew ?_ | refine blk_alloc ?_ _)); exact BK117.out) hb); replace BK123 := am (blk_below (g := gb123) (o := .cells #[.int .i64 t118, .slice Ao37 t119.length co37] 31 (0, 0)) (by (with_reducible repeat (first | refine blk_drewN ?_ _ | refine blk_drew ?_ | refine blk_alloc ?_ _)); refine blk_far ?_ NB123_145.out _; (with_reducible repeat (first | refine blk_drewN ?_ _ | refine blk_drew ?_ | refine blk_alloc ?_ _)); refine blk_far ?_ NB123_145.out _; (with_reducible repeat (first | refine blk_drewN ?_ _ | refine blk_drew ?_ | refine blk_alloc ?_ _)); exact BK123.out) hb); replace BK145 := am (blk_below (g := gb145) (o := .cells #[.int .i64 t140, .slice Ao117 t141.length co117] 31 (0, 0)) (by (with_reducible repeat (first | refine blk_drewN ?_ _ | refine blk_drew ?_ | refine blk_alloc ?_ _)); refine blk_put (cs := #[.int .i64 t140, .slice none 0 0]) ?_ 1 _ rfl; (with_reducible repeat (first | refine blk_drewN ?_ _ | refine blk_drew ?_ | refine blk_alloc ?_ _)); refine blk_put (cs := #[.int .i64 0, .slice none 0 0]) ?_ 0 _ rfl; (with_reducible repeat (first | refine blk_drewN ?_ _ | refine blk_drew ?_ | refine blk_alloc ?_ _)); exact BK145.out) hb); replace HB := am (below_step (K5 HB GE101.out GE112.out GE117.out GE123.out GE145.out) hb); (try clear hb); (try clear hb2); (try clear hk); (try clear hi)))
             go_meet
             case rel => exact ⟨_, ((t144 != t111)), (by first | rfl | (simp; done) | (simp [*]; done)), H', ⟨by have := HJ11.out; have := HJ60.out; first | omega | exact Nat.le_refl _⟩, ⟨by (try simp only [hl118001_60]); (with_reducible repeat (first | apply Kd.R_alloc | apply Kd.R_drewN | apply Kd.R_drew)); exact Kd.R_mono HO_113001.out (fun _ hk => ⟨hk.1.1.1, ⟨hk.1.1.2, hk.2⟩⟩)⟩, ⟨by (try simp only [hl118001_60]); (with_reducible repeat (first | apply Kd.R_alloc | apply Kd.R_drewN | apply Kd.R_drew)); exact Kd.R_mono HO_118001.out (fun _ hk => ⟨hk.1.1.1, ⟨hk.1.1.2, hk.2⟩⟩)⟩, ⟨by (try simp only [hl118001_60]); (with_reducible repeat (first | apply Kd.R_alloc | apply Kd.R_drewN | apply Kd.R_drew)); exact Kd.R_mono HO_124001.out (fun _ hk => ⟨hk.1.1.1, ⟨hk.1.1.2, hk.2⟩⟩)⟩, ⟨by (try simp only [hl118001_60]); (with_reducible repeat (first | apply Kd.R_alloc | apply Kd.R_drewN | apply Kd.R_drew)); exact Kd.R_mono HO143.out (fun _ hk => ⟨hk.1.1.1.2, ⟨hk.1.1.2, hk.1.2⟩⟩)⟩, ⟨by (try simp only [hl118001_60]); (with_reducible repeat (first | refine blk_drewN ?_ _ | refine blk_drew ?_ | refine blk_alloc ?_ _)); exact BK101.out⟩, ⟨by (try simp only [hl118001_60]); (with_reducible repeat (first | refine blk_drewN ?_ _ | refine blk_drew ?_ | refine blk_alloc ?_ _)); exact BK112.out⟩, ⟨by (try simp only [hl118001_60]); (with_reducible repeat (first | refine blk_drewN ?_ _ | refine blk_drew ?_ | refine blk_alloc ?_ _)); exact BK117.out⟩, ⟨by (try simp only [hl118001_60]); (with_reducible repeat (first | refine blk_drewN ?_ _ | refine blk_drew ?_ | refine blk_alloc ?_ _)); exact BK123.out⟩, ⟨by (try simp only [hl118001_60]); (with_reducible repeat (first | refine blk_drewN ?_ _ | refine blk_drew ?_ | refine blk_alloc ?_ _)); exact BK145.out⟩, ⟨K5 HB GE101.out GE112.out GE117.out GE123.out GE145.out⟩⟩
            ·replace c119 := Bool.eq_false_iff.mpr c119
             subst c119
             have H1 : (laws_FnExactWindowSee.j2 kj60 t133 true t118 t134) = some r := by rw [if_neg (show ¬ (false = true) by decide)] at H; exact H
             clear H
             have H := H1
             clear H1
             have H' := Aside0.mk H
             clear H
             have hnb130 := NB145_101.out
             have hnc130 := NB101_145.out
             have hnb131 := NB145_112.out
             have hnc131 := NB112_145.out
             have hnb132 := NB145_117.out
             have hnc132 := NB117_145.out
             have hnb133 := NB145_123.out
             have hnc133 := NB123_145.out
             obtain ⟨hcz134_0, hcz134_1, hfz134_0⟩ := y2 w111 BK145.out
             have hnb135 := NB112_101.out
             have hnc135 := NB101_112.out
             have hnb136 := NB112_117.out
             have hnc136 := NB117_112.out
             have hnb137 := NB112_123.out
             have hnc137 := NB123_112.out
             obtain ⟨hcz138_0, hcz138_1, hfz138_0⟩ := y2 w111 BK112.out
             go_wp2_with (first | ((with_reducible refine gate_callee (f := 26) rfl ?_); refine goesL_ (some 86) rfl rfl Try.func26 (by kernel_rfl) rfl #[.agg #[.int .i64 t140, .slice Ao117 t141.length co117], .agg #[.int .i64 t107, .slice Ao23 t108.length co23]] rfl MT ?_; (with_reducible refine (laws_eqWindow.calls kj60 t140 _ _ t141 t107 _ _ t108 false _ ?side1 ?side2 ?side3 ?side4 A118.out).mono ?_); (case side1 => refine (Kd.R_reads' (e := 3) (base := w.heap.size) (ok := fun k_ => ((((True ∧ some k_ ≠ (.slice Ao23 t108.length co23 : Value).ownBlock) ∧ some k_ ≠ (.slice Ao30 t131.length co30 : Value).ownBlock) ∧ some k_ ≠ (.slice Ao37 t119.length co37 : Value).ownBlock) ∧ some k_ ≠ (.slice Ao109 t137.length co109 : Value).ownBlock)) (n := t141.length) (c := co117) ?_).2.2; exact (by (with_reducible repeat (first | apply Kd.R_alloc | apply Kd.R_drewN | apply Kd.R_drew)); exact (RF HO143.out BK145.out))); (case side2 => exact (Kd.R_reads' HO143.out).2.1); (case side3 => refine (Kd.R_reads' (e := 3) (base := w.heap.size) (ok := fun k_ => (((some k_ ≠ (.slice Ao30 t131.length co30 : Value).ownBlock ∧ some k_ ≠ (.slice Ao37 t119.length co37 : Value).ownBlock) ∧ some k_ ≠ (.slice Ao109 t137.length co109 : Value).ownBlock) ∧ some k_ ≠ (.slice Ao117 t141.length co117 : Value).ownBlock)) (n := t108.length) (c := co23) ?_).2.2; exact (by (with_reducible repeat (first | apply Kd.R_alloc | apply Kd.R_drewN | apply Kd.R_drew)); exact (RF HO_113001.out BK145.out))); (case side4 => exact (Kd.R_reads' HO_113001.out).2.1); rintro e w139 ⟨rfl, hb⟩; refine ⟨_, rfl, ?_⟩; replace HO_113001 := am (Kd.R_below (by (with_reducible repeat (first | apply Kd.R_alloc | apply Kd.R_drewN | apply Kd.R_drew)); exact (RF HO_113001.out BK145.out)) hb); replace HO_118001 := am (Kd.R_below (by (with_reducible repeat (first | apply Kd.R_alloc | apply Kd.R_drewN | apply Kd.R_drew)); exact (RF HO_118001.out BK145.out)) hb); replace HO_124001 := am (Kd.R_below (by (with_reducible repeat (first | apply Kd.R_alloc | apply Kd.R_drewN | apply Kd.R_drew)); exact (RF HO_124001.out BK145.out)) hb); replace HO139 := am (Kd.R_below (by (with_reducible repeat (first | apply Kd.R_alloc | apply Kd.R_drewN | apply Kd.R_drew)); exact (RF HO139.out BK145.out)) hb); replace HO143 := am (Kd.R_below (by (with_reducible repeat (first | apply Kd.R_alloc | apply Kd.R_drewN | apply Kd.R_drew)); exact (RF HO143.out BK145.out)) hb); replace BK101 := am (blk_below (g := gb101) (o := .cells #[.int .i64 a0_0, .slice A0_1 l0_1.length c0_1] 37 (0, 0)) (by (with_reducible repeat (first | refine blk_drewN ?_ _ | refine blk_drew ?_ | refine blk_alloc ?_ _)); refine blk_far ?_ NB101_145.out _; (with_reducible repeat (first | refine blk_drewN ?_ _ | refine blk_drew ?_ | refine blk_alloc ?_ _)); refine blk_far ?_ NB101_145.out _; (with_reducible repeat (first | refine blk_drewN ?_ _ | refine blk_drew ?_ | refine blk_alloc ?_ _)); exact BK101.out) hb); replace BK112 := am (blk_below (g := gb112) (o := .cells #[.int .i64 t107, .slice Ao23 t108.length co23] 31 (0, 0)) (by (with_reducible repeat (first | refine blk_drewN ?_ _ | refine blk_drew ?_ | refine blk_alloc ?_ _)); refine blk_far ?_ NB112_145.out _; (with_reducible repeat (first | refine blk_drewN ?_ _ | refine blk_drew ?_ | refine blk_alloc ?_ _)); refine blk_far ?_ NB112_145.out _; (with_reducible repeat (first | refine blk_drewN ?_ _ | refine blk_drew ?_ | refine blk_alloc ?_ _)); exact BK112.out) hb); replace BK117 := am (blk_below (g := gb117) (o := .cells #[.int .i64 t113, .slice Ao30 t131.length co30] 31 (0, 0)) (by (with_reducible repeat (first | refine blk_drewN ?_ _ | refine blk_drew ?_ | refine blk_alloc ?_ _)); refine blk_far ?_ NB117_145.out _; (with_reducible repeat (first | refine blk_drewN ?_ _ | refine blk_drew ?_ | refine blk_alloc ?_ _)); refine blk_far ?_ NB117_145.out _; (with_reducible repeat (first | refine blk_drewN ?_ _ | refine blk_drew ?_ | refine blk_alloc ?_ _)); exact BK117.out) hb); replace BK123 := am (blk_below (g := gb123) (o := .cells #[.int .i64 t118, .slice Ao37 t119.length co37] 31 (0, 0)) (by (with_reducible repeat (first | refine blk_drewN ?_ _ | refine blk_drew ?_ | refine blk_alloc ?_ _)); refine blk_far ?_ NB123_145.out _; (with_reducible repeat (first | refine blk_drewN ?_ _ | refine blk_drew ?_ | refine blk_alloc ?_ _)); refine blk_far ?_ NB123_145.out _; (with_reducible repeat (first | refine blk_drewN ?_ _ | refine blk_drew ?_ | refine blk_alloc ?_ _)); exact BK123.out) hb); replace BK145 := am (blk_below (g := gb145) (o := .cells #[.int .i64 t140, .slice Ao117 t141.length co117] 31 (0, 0)) (by (with_reducible repeat (first | refine blk_drewN ?_ _ | refine blk_drew ?_ | refine blk_alloc ?_ _)); refine blk_put (cs := #[.int .i64 t140, .slice none 0 0]) ?_ 1 _ rfl; (with_reducible repeat (first | refine blk_drewN ?_ _ | refine blk_drew ?_ | refine blk_alloc ?_ _)); refine blk_put (cs := #[.int .i64 0, .slice none 0 0]) ?_ 0 _ rfl; (with_reducible repeat (first | refine blk_drewN ?_ _ | refine blk_drew ?_ | refine blk_alloc ?_ _)); exact BK145.out) hb); replace HB := am (below_step (K5 HB GE101.out GE112.out GE117.out GE123.out GE145.out) hb); (try clear hb); (try clear hb2); (try clear hk); (try clear hi)))
             go_meet
             case rel => exact ⟨_, (true), (by first | rfl | (simp; done) | (simp [*]; done)), H', ⟨by have := HJ11.out; have := HJ60.out; first | omega | exact Nat.le_refl _⟩, ⟨by (try simp only [hl118001_60]); (with_reducible repeat (first | apply Kd.R_alloc | apply Kd.R_drewN | apply Kd.R_drew)); exact Kd.R_mono HO_113001.out (fun _ hk => ⟨hk.1.1.1, ⟨hk.1.1.2, hk.2⟩⟩)⟩, ⟨by (try simp only [hl118001_60]); (with_reducible repeat (first | apply Kd.R_alloc | apply Kd.R_drewN | apply Kd.R_drew)); exact Kd.R_mono HO_118001.out (fun _ hk => ⟨hk.1.1.1, ⟨hk.1.1.2, hk.2⟩⟩)⟩, ⟨by (try simp only [hl118001_60]); (with_reducible repeat (first | apply Kd.R_alloc | apply Kd.R_drewN | apply Kd.R_drew)); exact Kd.R_mono HO_124001.out (fun _ hk => ⟨hk.1.1.1, ⟨hk.1.1.2, hk.2⟩⟩)⟩, ⟨by (try simp only [hl118001_60]); (with_reducible repeat (first | apply Kd.R_alloc | apply Kd.R_drewN | apply Kd.R_drew)); exact Kd.R_mono HO143.out (fun _ hk => ⟨hk.1.1.1.2, ⟨hk.1.1.2, hk.1.2⟩⟩)⟩, ⟨by (try simp only [hl118001_60]); (with_reducible repeat (first | refine blk_drewN ?_ _ | refine blk_drew ?_ | refine blk_alloc ?_ _)); exact BK101.out⟩, ⟨by (try simp only [hl118001_60]); (with_reducible repeat (first | refine blk_drewN ?_ _ | refine blk_drew ?_ | refine blk_alloc ?_ _)); exact BK112.out⟩, ⟨by (try simp only [hl118001_60]); (with_reducible repeat (first | refine blk_drewN ?_ _ | refine blk_drew ?_ | refine blk_alloc ?_ _)); exact BK117.out⟩, ⟨by (try simp only [hl118001_60]); (with_reducible repeat (first | refine blk_drewN ?_ _ | refine blk_drew ?_ | refine blk_alloc ?_ _)); exact BK123.out⟩, ⟨by (try simp only [hl118001_60]); (with_reducible repeat (first | refine blk_drewN ?_ _ | refine blk_drew ?_ | refine blk_alloc ?_ _)); exact BK145.out⟩, ⟨K5 HB GE101.out GE112.out GE117.out GE123.out GE145.out⟩⟩
           case rest =>
            clear HC97
            try clear c1
            try clear c2
            try clear p2
            try clear c3
            try clear c4
            try clear c4b0
            try clear c5
            try clear c6
            try clear c7
            try clear c8
            try clear c9
            try clear c10
            try clear c11
            try clear c12
            try clear c13
            try clear c19
            try clear c20
            try clear c21
            try clear c24
            try clear c25
            try clear c26
            try clear c27
            try clear c28
            try clear c33
            try clear c34
            try clear c35
            try clear c39
            try clear c40
            try clear c41
            try clear c42
            try clear c44
            try clear c45
            try clear c48
            try clear c49
            try clear c50
            try clear c52
            try clear c53
            try clear c56
            try clear c59
            try clear c66
            try clear c67
            try clear c68
            try clear c71
            try clear c71b0
            try clear c73
            try clear c74
            try clear c75
            try clear c76
            try clear c78
            try clear c79
            try clear c82
            try clear c83
            try clear c84
            try clear c86
            try clear c87
            try clear c90
            try clear c93
            try clear c93b0
            try clear c94
            try clear c94b0
            try clear c94b1
            try clear c98
            try clear c99
            try clear c100
            try clear c105
            try clear c106
            try clear c112
            try clear c113
            try clear c114
            try clear c115
            try clear c119
            try clear c120
            try clear c121
            try clear c122
            try clear c123
            try clear c125
            try clear c126
            try clear c127
            try clear c130
            try clear c131
            try clear c132
            try clear c133
            try clear c135
            try clear c136
            try clear c137
            try clear hcz101_0 hcz101_1 hfz101_0
            try clear hcz103_0 hcz103_1 hfz103_0
            try clear hcz107_0 hcz107_1 hfz107_0
            try clear hcz116_0 hcz116_1 hfz116_0
            try clear hcz124_0 hcz124_1 hfz124_0
            try clear hcz128_0 hcz128_1 hfz128_0
            try clear hcz134_0 hcz134_1 hfz134_0
            try clear hcz138_0 hcz138_1 hfz138_0
            try clear hcz14_0 hcz14_1 hfz14_0
            try clear hcz16_0 hcz16_1 hfz16_0
            try clear hcz22_0 hcz22_1 hfz22_0
            try clear hcz24_0 hcz24_1 hfz24_0
            try clear hcz29_0 hcz29_1 hfz29_0
            try clear hcz36_0 hcz36_1 hfz36_0
            try clear hcz43_0 hcz43_1 hfz43_0
            try clear hcz46_0 hcz46_1 hfz46_0
            try clear hcz51_0 hcz51_1 hfz51_0
            try clear hcz54_0 hcz54_1 hfz54_0
            try clear hcz69_0 hcz69_1 hfz69_0
            try clear hcz6_0 hcz6_1 hfz6_0
            try clear hcz77_0 hcz77_1 hfz77_0
            try clear hcz80_0 hcz80_1 hfz80_0
            try clear hcz85_0 hcz85_1 hfz85_0
            try clear hcz88_0 hcz88_1 hfz88_0
            try clear p2
            obtain ⟨kq, x92_96, rfl, HA, HJ96, HO_113001, HO_118001, HO_124001, HO_146001, BK101, BK112, BK117, BK123, BK145, HB⟩ := hcut
            have hl124001_96 := (Kd.R_reads' HO_124001.out).1
            rw [hl124001_96] at HO_124001
            (try simp only [hl124001_96])
            (try simp only [hl124001_96] at BK101)
            (try simp only [hl124001_96] at BK112)
            (try simp only [hl124001_96] at BK117)
            (try simp only [hl124001_96] at BK123)
            (try simp only [hl124001_96] at BK145)
            (try simp only [hl124001_96] at HO_113001)
            (try simp only [hl124001_96] at HO_118001)
            (try simp only [hl124001_96] at HO_146001)
            cases kq with
            | zero => exact absurd HA.out (by simp [laws_FnExactWindowSee.j2])
            | succ kj96 =>
             have H := HA.out
             clear HA
             simp only [laws_FnExactWindowSee.j2] at H
             by_cases c140 : x92_96 = true
             ·subst c140
              have H1 : (some false) = some r := by rw [if_pos rfl] at H; exact H
              clear H
              have H := H1
              clear H1
              exact absurd ((Option.some.inj H).trans HR_.out) (by decide)
             ·replace c140 := Bool.eq_false_iff.mpr c140
              subst c140
              have H1 : ((laws_heldWindow.f kj96 t118 t134 1).bind fun t147 => (if t147 < 0 then (some false) else (if t147 = t133 then (some true) else (some false)))) = some r := by rw [if_neg (show ¬ (false = true) by decide)] at H; exact H
              clear H
              have H := H1
              clear H1
              replace H := Option.bind_eq_some_iff.mp H
              obtain ⟨t147, A1410, H⟩ := H
              replace H : (if t147 < 0 then (some false) else (if t147 = t133 then (some true) else (some false))) = some r := H
              have A141 := Aside0.mk A1410
              clear A1410
              by_cases c142 : t147 < 0
              ·rw [if_pos c142] at H
               have c142b0 : decide (t147 < 0) = true := decide_eq_true c142
               clear c142
               exact absurd ((Option.some.inj H).trans HR_.out) (by decide)
              ·rw [if_neg c142] at H
               have c142b0 : decide (t147 < 0) = false := decide_eq_false c142
               clear c142
               by_cases c143 : t147 = t133
               ·rw [if_pos c143] at H
                have c143b0 : (t147 == t133) = true := beq_iff_eq.mpr c143
                have c143b1 : (t147 != t133) = false := bne_eq_false_iff_eq.mpr c143
                clear c143
                obtain rfl := Option.some.inj H
                have hnb144 := NB123_101.out
                have hnc144 := NB101_123.out
                have hnb145 := NB123_112.out
                have hnc145 := NB112_123.out
                have hnb146 := NB123_117.out
                have hnc146 := NB117_123.out
                have hnb147 := NB123_145.out
                have hnc147 := NB145_123.out
                obtain ⟨hcz148_0, hcz148_1, hfz148_0⟩ := y2 wc BK123.out
                go_wp2_with (first | ((with_reducible refine gate_callee (f := 28) rfl ?_); refine goesL_ (some 95) rfl rfl Try.func28 (by kernel_rfl) rfl #[.agg #[.int .i64 t118, .slice Ao37 t134.length co37], .int .i64 1] rfl MT ?_; (with_reducible refine (laws_heldWindow.calls kj96 t118 _ _ t134 1 t147 _ ?side1 ?side2 A141.out).mono ?_); (case side1 => exact KC (Kd.R_reads' HO_124001.out).2.2); (case side2 => exact (Kd.R_reads' HO_124001.out).2.1); rintro e w149 ⟨rfl, hb⟩; refine ⟨_, rfl, ?_⟩; replace HO_113001 := am (Kd.R_below (KR HO_113001) hb); replace HO_118001 := am (Kd.R_below (KR HO_118001) hb); replace HO_124001 := am (Kd.R_below (KR HO_124001) hb); replace HO_146001 := am (Kd.R_below (KR HO_146001) hb); replace BK101 := am (BB BK101 hb); replace BK112 := am (BB BK112 hb); replace BK117 := am (BB BK117 hb); replace BK123 := am (BB BK123 hb); replace BK145 := am (BB BK145 hb); replace HB := am (below_step (K5 HB GE101.out GE112.out GE117.out GE123.out GE145.out) hb); (try clear hb); (try clear hb2); (try clear hk); (try clear hi)))
                go_ret
                exact ⟨ER, K5 HB GE101.out GE112.out GE117.out GE123.out GE145.out⟩
               ·rw [if_neg c143] at H
                have c143b0 : (t147 == t133) = false := beq_eq_false_iff_ne.mpr c143
                have c143b1 : (t147 != t133) = true := bne_iff_ne.mpr c143
                exact absurd ((Option.some.inj H).trans HR_.out) (by decide)
          ·rw [if_neg c94] at H
           have c94b0 : (t135 == t133) = false := beq_eq_false_iff_ne.mpr c94
           have c94b1 : (t135 != t133) = true := bne_iff_ne.mpr c94
           exact absurd ((Option.some.inj H).trans HR_.out) (by decide)
     ·replace c59 := Bool.eq_false_iff.mpr c59
      subst c59
      have H1 : (some false) = some r := by rw [if_neg (show ¬ (false = true) by decide)] at H; exact H
      clear H
      have H := H1
      clear H1
      exact absurd ((Option.some.inj H).trans HR_.out) (by decide)
def laws_FnExactWindowSee.Pure : Prop := ∀ (a0_0 : Int) (l0_1 : List Int) (a1 : Int), ((Lit.int .i64 a0_0).wf = true) → ((l0_1.length ≤ maxLen ∧ ∀ x_ ∈ l0_1, (Lit.int .i64 x_).wf = true)) → ((Lit.int .i64 a1).wf = true) → ∃ k, laws_FnExactWindowSee.f k a0_0 l0_1 a1 = some true
theorem laws_FnExactWindowSee.walk (P : laws_FnExactWindowSee.Pure) (a0_0 : Int) (A0_1 : Option Addr) (c0_1 : Nat) (l0_1 : List Int) (a1 : Int) (w : World) (hr0_1 : Kd.C (Kd.int .i64) w A0_1 l0_1.length l0_1) (hc0_1 : l0_1.length ≤ c0_1) (q0_ : (Lit.int .i64 a0_0).wf = true) (q1_ : (l0_1.length ≤ maxLen ∧ ∀ x_ ∈ l0_1, (Lit.int .i64 x_).wf = true)) (q2_ : (Lit.int .i64 a1).wf = true) :
  Calls Try.prog 6 #[.agg #[.int .i64 a0_0, .slice A0_1 l0_1.length c0_1], .int .i64 a1] w fun e w' => e = .returned (.bool true) ∧ Below w.heap.size w w' := by
 obtain ⟨k, h⟩ := P a0_0 l0_1 a1 q0_ q1_ q2_
 refine (laws_FnExactWindowSee.calls k a0_0 A0_1 c0_1 l0_1 a1 true w hr0_1 hc0_1 rfl h).mono ?_
 rintro e w' ⟨rfl, hd⟩
 exact ⟨rfl, hd⟩
end Go.Proofs.Ytlpmmmhfceeiaaa.PAll
end
