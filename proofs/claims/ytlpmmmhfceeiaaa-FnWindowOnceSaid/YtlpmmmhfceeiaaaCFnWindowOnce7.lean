/- Contracts of the functions that the statement reaches, printed by a program out of the translation and joined with the plain laws. -/
import Derived.Shelf.RegionOpenPlain
import Derived.Shelf.Abstract
import Derived.WalkKit
import Derived.Deep.LoopGhost
import Derived.Deep.RegionLaw
import Derived.Lib.Walk
import Derived.Lib.SliceRun
import Derived.Laws.IdiomCopy
import Derived.Lib.LazyBuf
import Derived.Shelf.Spec.SlicesInsertGrow
import Derived.Test.YtlpmmmhfceeiaaaCFnWindowOnce3
import Derived.Test.YtlpmmmhfceeiaaaCFnWindowOnce4
import Derived.Test.YtlpmmmhfceeiaaaCFnWindowOnce5
import Derived.Test.YtlpmmmhfceeiaaaCFnWindowOnce6
section
namespace Go.Proofs.Ytlpmmmhfceeiaaa.PAll
open Go.RowKit Go.Proofs.YtlpmmmhfceeiaaaW.PrintWords Go.Proofs.YtlpmmmhfceeiaaaW.PrintLast Go.Proofs.YtlpmmmhfceeiaaaW.PrintMore
attribute [local go_sem] max2_int min2_int max_two min_two max_three min_three max_four min_four   -- for this text's walks alone
set_option linter.unusedVariables false
set_option linter.unusedSimpArgs false
def findI (p : Int → Bool) : List Int → Int → Int
 | [], _ => -1
 | x :: xs, i => if p x = true then i else findI p xs (i + 1)
set_option maxHeartbeats 4000000 in
set_option maxRecDepth 100000 in
theorem wins.one (top : Int) (B : Nat) (W : World) (x : Int) (hB : W.heap[B]? = some (.cells #[.int .i64 top] 3 (0, 0))) :
  Calls Try.prog 54 #[.int .i64 x, .pointer (some ⟨B, 0, none⟩)] W fun e w' => e = .returned (.bool (decide (x ≤ wrap64 (top - 16)))) ∧ w' = W := by
 have hc0 : W.cell? ⟨B, 0, none⟩ = some (.int .i64 top) := (blk_cell hB 0).trans rfl
 clear hB
 go_enter Try.func54, Try.ntmps54
 go_wp2
 go_ret
 exact ⟨rfl, rfl⟩
set_option maxHeartbeats 4000000 in
set_option maxRecDepth 100000 in
theorem idx.gen (p : Int → Bool) (g0 : Nat) (lb : Array Value) (eg : ∀ args w, (callFunc g0 args).run Try.prog w = .ok (.enter g0 args) w) (g c : Nat) (l : List Int) (w : World) (hm : l.length ≤ 9223372036854775807)
  (hc : ∀ k (h : k < l.length), w.cell? ⟨g, k, none⟩ = some (.int .i64 l[k])) (hp : ∀ x, Calls Try.prog g0 (#[.int .i64 x] ++ lb) w fun e w' => e = .returned (.bool (p x)) ∧ w' = w) :
  Calls Try.prog 97 #[.slice (some ⟨g, 0, none⟩) l.length c, .func (.func g0) #[] lb] w fun e w' => e = .returned (.int .i64 (findI p l 0)) ∧ w' = w := by
 have hu := Try.underlying22
 have HM := Aside0.mk hm
 have HC := Aside0.mk hc
 have HP := Aside0.mk hp
 clear hm hc hp
 go_enter Try.func97, Try.ntmps97
 go_wp2
 go_loopg [5, 8] l.length (fun gg _ s8 wr => ∃ kk : Nat, kk ≤ l.length ∧ Aside0 (l.length - kk ≤ gg) ∧ s8 = .int .i64 kk ∧ wr = w ∧ Aside0 (findI p (l.drop kk) kk = findI p l 0))
 case atStart => exact ⟨0, Nat.zero_le _, ⟨by omega⟩, rfl, rfl, ⟨rfl⟩⟩
 case round =>
  obtain ⟨kk, hkk, hg, rfl, rfl, A0⟩ := hrel
  have hml := HM.out
  by_cases hlt : kk < l.length
  ·have hltz : (kk : Int) < (l.length : Int) := by omega
   have hcell := HC.out kk hlt
   have A1 := A0.out
   rw [List.drop_eq_getElem_cons hlt] at A1
   clear A0
   generalize l[kk] = y at hcell A1
   have hcall := HP.out y
   simp only [findI] at A1
   have A2 := Aside0.mk A1
   clear A1
   rcases hb : p y with _ | _
   ·rw [hb] at hcall
    go_wp2_with (go_at_fn g0; refine hcall.mono ?_; rintro e w' ⟨rfl, rfl⟩)
    go_roundg (l.length - (kk + 1))
    case measure => have := hg.out; omega
    case rel => exact ⟨kk + 1, by omega, ⟨by omega⟩, by go_num, rfl, ⟨by have A1 := A2.out; simp only [hb, Bool.false_eq_true, if_false] at A1; exact A1⟩⟩
   ·rw [hb] at hcall
    go_wp2_with (go_at_fn g0; refine hcall.mono ?_; rintro e w' ⟨rfl, rfl⟩)
    go_ret
    have A1 := A2.out
    simp only [hb, if_true] at A1
    exact ⟨by rw [← A1]; rfl, rfl⟩
  ·have hltz : ¬ (kk : Int) < (l.length : Int) := by omega
   have : kk = l.length := by omega
   have A1 := A0.out
   rw [this, List.drop_length] at A1
   have A2 := Aside0.mk A1
   clear A0 A1
   go_wp2
   go_ret
   have A1 := A2.out
   simp only [findI] at A1
   exact ⟨by rw [← A1]; rfl, rfl⟩
theorem findI_spec (p : Int → Bool) : ∀ (l : List Int) (i : Nat), (findI p l i = -1 ∧ l.filter (fun x => !p x) = l) ∨ ∃ k, findI p l i = ((i + k : Nat) : Int) ∧ k < l.length ∧ (l.take (k + 1)).filter (fun x => !p x) = l.take k
 | [], i => .inl ⟨rfl, rfl⟩
 | x :: xs, i => by
  cases hp : p x with
  | true => exact .inr ⟨0, by simp [findI, hp], by simp, by simp [hp]⟩
  | false =>
   rcases findI_spec p xs (i + 1) with ⟨h1, h2⟩ | ⟨k, h1, h2, h3⟩
   ·refine .inl ⟨by simp only [findI, hp, Bool.false_eq_true, if_false]; exact h1, by simp [hp, h2]⟩
   ·refine .inr ⟨k + 1, ?_, by simpa using h2, ?_⟩
    ·simp only [findI, hp, Bool.false_eq_true, if_false]; rw [show ((i : Int) + 1) = ((i + 1 : Nat) : Int) by omega, h1]; congr 1; omega
    ·rw [List.take_succ_cons, List.filter_cons_of_pos (by simp [hp]), h3, List.take_succ_cons]
theorem delf.set_take : ∀ (row : List Int) (i : Nat) (y : Int), i < row.length → (row.set i y).take (i + 1) = row.take i ++ [y]
 | [], i, y, h => by simp at h
 | x :: r, 0, y, h => by simp
 | x :: r, i + 1, y, h => by simp only [List.set_cons_succ, List.take_succ_cons, List.cons_append]; rw [delf.set_take r i y (by simpa using h)]
theorem delf.cell {w : World} {g : Nat} {cur : Array Value} {row : List Int} (h : w.heap[g]? = some (.cells cur 3 (0, 0))) (ht : cur.toList.take row.length = row.map (Value.int .i64)) (k : Nat) (hk : k < row.length) : w.cell? ⟨g, k, none⟩ = some (.int .i64 row[k]) := by
 rw [blk_cell h k, ← Array.getElem?_toList, ← List.getElem?_take_of_lt hk, ht, List.getElem?_map, List.getElem?_eq_getElem hk]; rfl
set_option maxHeartbeats 4000000 in
set_option maxRecDepth 100000 in
theorem delf.walk (top : Int) (B g c : Nat) (l : List Int) (cur : Array Value) (w : World) (hg : w.heap[g]? = some (.cells cur 3 (0, 0))) (hB : w.heap[B]? = some (.cells #[.int .i64 top] 3 (0, 0))) (hne : B ≠ g) (hn : l.length ≤ c) (hm : c ≤ 9223372036854775807) (hs : cur.size = c)
  (ht : cur.toList.take l.length = l.map (Value.int .i64)) :
  Calls Try.prog 53 #[.slice (some ⟨g, 0, none⟩) l.length c, .func (.func 54) #[] #[.pointer (some ⟨B, 0, none⟩)]] w fun e w' => e = .returned (.slice (some ⟨g, 0, none⟩) (l.filter (fun x => !decide (x ≤ wrap64 (top - 16)))).length c) ∧
   (∃ cur', w'.heap[g]? = some (.cells cur' 3 (0, 0)) ∧ cur'.size = c ∧ cur'.toList.take (l.filter (fun x => !decide (x ≤ wrap64 (top - 16)))).length = (l.filter (fun x => !decide (x ≤ wrap64 (top - 16)))).map (Value.int .i64)) ∧
   (∀ k, k ≠ g → w'.heap[k]? = w.heap[k]?) ∧ w'.heap.size = w.heap.size ∧ w'.os = w.os ∧ w'.tape = w.tape ∧ w'.output = w.output := by
 have eg := enters_of Try.func54 (by kernel_rfl) rfl
 have hi := idx.gen (fun x => decide (x ≤ wrap64 (top - 16))) 54 #[.pointer (some ⟨B, 0, none⟩)] eg g c l w (by omega) (delf.cell hg ht) (fun x => wins.one top B w x hB)
 generalize hp : (fun x : Int => decide (x ≤ wrap64 (top - 16))) = p at hi
 have hfp : (fun x : Int => !decide (x ≤ wrap64 (top - 16))) = (fun x => !p x) := by rw [← hp]
 rw [hfp]
 have hone : ∀ (W : World) (x : Int), W.heap[B]? = some (.cells #[.int .i64 top] 3 (0, 0)) → Calls Try.prog 54 #[.int .i64 x, .pointer (some ⟨B, 0, none⟩)] W fun e w' => e = .returned (.bool (p x)) ∧ w' = W := fun W x h => by rw [← hp]; exact wins.one top B W x h
 rcases findI_spec p l 0 with ⟨h1, h2⟩ | ⟨i0, h1, h2, h3⟩
 ·have h1' : findI p l 0 = -1 := h1
  rw [h1'] at hi
  rw [h2]
  have R := am (show (∃ cur', w.heap[g]? = some (.cells cur' 3 (0, 0)) ∧ cur'.size = c ∧ cur'.toList.take l.length = l.map (Value.int .i64)) from ⟨cur, hg, hs, ht⟩)
  clear hg hB hs ht
  go_enter Try.func53, Try.ntmps53
  go_wp2_with (go_at_call 97; refine hi.mono ?_; rintro e w' ⟨rfl, rfl⟩)
  go_ret
  exact ⟨rfl, R.out, fun _ _ => rfl, rfl, rfl, rfl, rfl⟩
 ·have h1' : findI p l 0 = ((0 + i0 : Nat) : Int) := h1
  rw [h1', Nat.zero_add] at hi
  have hni : ¬ ((i0 : Int) = -1) := by omega
  have hw1 : wrap64 ((i0 : Int) + 1) = ((i0 + 1 : Nat) : Int) := by unfold wrap64; omega
  have H0 := Aside0.mk hg
  have HB0 := Aside0.mk hB
  have HS := Aside0.mk hs
  have HT := Aside0.mk ht
  have HP := Aside0.mk hone
  have H3 := Aside0.mk h3
  clear hg hB hs ht hone h3 hp hfp h1 h1'
  go_enter Try.func53, Try.ntmps53
  go_wp2_with (go_at_call 97; refine hi.mono ?_; rintro e w' ⟨rfl, hw'⟩; obtain rfl := hw'.symm; clear hw')
  go_loopg [5, 6] l.length (fun gg v5 v6 wr => ∃ (i j : Nat) (cur1 : Array Value) (row : List Int), i < j ∧ j ≤ l.length ∧ Aside0 (l.length - j ≤ gg) ∧ v5 = .int .i64 i ∧ v6 = .int .i64 j ∧ Aside0 (wr.heap[g]? = some (.cells cur1 3 (0, 0))) ∧ Aside0 (cur1.size = c) ∧ row.length = l.length ∧
   Aside0 (cur1.toList.take row.length = row.map (Value.int .i64)) ∧ Aside0 (row.take i = (l.take j).filter (fun x => !p x)) ∧ Aside0 (row.drop j = l.drop j) ∧ Aside0 (wr.heap[B]? = some (.cells #[.int .i64 top] 3 (0, 0))) ∧ Aside0 ((∀ k, k ≠ g → wr.heap[k]? = w.heap[k]?) ∧ wr.heap.size = w.heap.size ∧ wr.os = w.os ∧ wr.tape = w.tape ∧ wr.output = w.output))
  case atStart => exact ⟨i0, i0 + 1, cur, l, by omega, by omega, ⟨by omega⟩, rfl, by go_num, H0, HS, rfl, HT, ⟨H3.out.symm⟩, ⟨rfl⟩, HB0, ⟨fun _ _ => rfl, rfl, rfl, rfl, rfl⟩⟩
  case round =>
   clear H0 HS HT H3 HB0 hi hw1 hni h2
   obtain ⟨i, j, cur1, row, hij, hj, hg, rfl, rfl, G1, S1, hrl, T1, F1, D1, B1, K1⟩ := hrel
   by_cases hlt : j < l.length
   ·have hltz : (j : Int) < (l.length : Int) := by omega
    have hjr : j < row.length := by omega
    have hcell := delf.cell G1.out T1.out j hjr
    have hv : row[j] = l[j] := by
     have h := congrArg (fun z => z[0]?) D1.out
     simp only [List.getElem?_drop, Nat.add_zero, List.getElem?_eq_getElem hjr, List.getElem?_eq_getElem hlt, Option.some.injEq] at h
     exact h
    have hcall := HP.out _ row[j] B1.out
    have F2 : (l.take (j + 1)).filter (fun x => !p x) = row.take i ++ (if p row[j] then [] else [row[j]]) := by
     rw [List.take_add_one, List.getElem?_eq_getElem hlt, List.filter_append, ← F1.out, ← hv]
     generalize row[j] = q
     cases hq : p q <;> simp [hq]
    have D2 : row.drop (j + 1) = l.drop (j + 1) := by
     rw [← List.tail_drop, D1.out, List.tail_drop]
    generalize row[j] = y at hcell hcall F2
    have F2' := Aside0.mk F2
    have D2' := Aside0.mk D2
    clear F2 D2 hv F1 D1
    cases hpy : p y with
    | true =>
     rw [hpy] at hcall
     go_wp2_with (go_at_fn 54)
     refine hcall.mono ?_
     rintro e w' ⟨rfl, rfl⟩
     go_wp2
     go_roundg (l.length - (j + 1))
     case measure => have := hg.out; omega
     case rel => exact ⟨i, j + 1, cur1, row, by omega, by omega, ⟨by omega⟩, rfl, by go_num, G1, S1, hrl, T1, ⟨by rw [F2'.out, hpy]; simp⟩, D2', B1, K1⟩
    | false =>
     rw [hpy] at hcall
     have hir : i < row.length := by omega
     have hi0 : (0 : Int) ≤ (i : Int) := by omega
     have hin : (i : Int) < (l.length : Int) := by omega
     have hcw := delf.cell G1.out T1.out i hir
     have hfr := blk_frozen G1.out i
     generalize row[i] = z at hcw
     go_wp2_with (go_at_fn 54)
     refine hcall.mono ?_
     rintro e w' ⟨rfl, rfl⟩
     go_wp2
     go_roundg (l.length - (j + 1))
     case measure => have := hg.out; omega
     case rel =>
      refine ⟨i + 1, j + 1, cur1.setIfInBounds i (.int .i64 y), row.set i y, by omega, by omega, ⟨by omega⟩, by go_num, by go_num, ⟨blk_set G1.out i _⟩, ⟨by rw [Array.size_setIfInBounds]; exact S1.out⟩, by rw [List.length_set]; exact hrl, ⟨?_⟩, ⟨?_⟩, ⟨?_⟩, ⟨blk_far B1.out (p := ⟨g, i, none⟩) hne _⟩, ⟨?_, ?_⟩⟩
      ·rw [Array.toList_setIfInBounds, List.length_set, List.take_set, T1.out, List.map_set]
      ·rw [F2'.out, hpy, delf.set_take row i y hir]; rfl
      ·rw [List.drop_set_of_lt (by omega)]; exact D2'.out
      ·exact fun k hk => (Below.heap_setCell _ ⟨g, i, none⟩ _ k hk).trans (K1.out.1 k hk)
      ·obtain ⟨_, h2, h3, h4, h5⟩ := K1.out
       exact ⟨by simpa [World.setCell] using h2, h3, h4, h5⟩
   ·have hltz : ¬ (j : Int) < (l.length : Int) := by omega
    have hjl : j = l.length := by omega
    have hil : i < l.length := by omega
    have hzl : (Builtin.zeroCells (Value.int .i64 0).cells (l.length - i)).toList.length = l.length - i := (zeroCells_len _ _).trans (Nat.mul_one _)
    have hcl : ∀ ty, (Builtin.clear_ #[22] ty #[.slice (some ⟨g, i, none⟩) (l.length - i) (c - i)]).run Try.prog wr = .ok (.tuple #[]) (wr.setCells g i (Builtin.zeroCells (Value.int .i64 0).cells (l.length - i)).toList) := fun ty =>
     clear_cells wr 22 3 ty (.int .i64 0) Try.underlying22 Try.zeroValue3 g i (l.length - i) _ (by omega) (zeroCells_one _ _ (by decide)) (fun t ht => blk_some G1.out _ (by rw [hzl] at ht; rw [S1.out]; omega)) (fun t ht => blk_frozen G1.out _)
    have FF : l.filter (fun x => !p x) = row.take i := by rw [F1.out, hjl, List.take_length]
    have FF2 := Aside0.mk FF
    have hci : ¬ c = i := by omega
    have hic : i ≤ c := by omega
    have hiz : (0 : Int) ≤ (i : Int) := by omega
    have hizn : (i : Int) ≤ (l.length : Int) := by omega
    clear FF F1
    go_wp2
    go_ret
    have hrt : (row.take i).length = i := by rw [List.length_take]; omega
    rw [FF2.out, hrt]
    obtain ⟨cur2, hc2, hs2, ht2⟩ := setCells_row (Builtin.zeroCells (Value.int .i64 0).cells (l.length - i)).toList i _ cur1 G1.out (by rw [hzl, S1.out]; omega)
    obtain ⟨k1, k2, k3, k4, k5⟩ := K1.out
    obtain ⟨s1, s2, s3, s4⟩ := setCells_same g (Builtin.zeroCells (Value.int .i64 0).cells (l.length - i)).toList i wr
    refine ⟨rfl, ⟨cur2, hc2, by rw [hs2]; exact S1.out, ?_⟩, fun k hk => (setCells_far _ _ k hk).trans (k1 k hk), s4.trans k2, s1.trans k3, s2.trans k4, s3.trans k5⟩
    have hl1 : (cur1.toList.take i).length = i := by rw [List.length_take, Array.length_toList, S1.out]; omega
    rw [ht2, List.append_assoc, List.take_left' hl1, List.map_take, ← T1.out, List.take_take, Nat.min_eq_left (by omega)]
theorem reps_ints {l : List Int} {cs : List Value} {w : World} {b : Nat} {ok : Nat → Prop} (h : Reps ((Kd.int .i64).M w b ok) 1 l cs) : cs = l.map (Value.int .i64) := by
 have hl := h.1
 refine List.ext_getElem? fun k => ?_
 by_cases hk : k < l.length
 ·have h2 : (cs.drop (k * 1)).take 1 = [Value.int .i64 l[k]] := h.2 k _ (List.getElem?_eq_getElem hk)
  have h3 := congrArg (fun z => z[0]?) h2
  simp only [List.getElem?_take_of_lt (Nat.lt_succ_self 0), List.getElem?_drop, Nat.mul_one, Nat.add_zero] at h3
  rw [h3, List.getElem?_map, List.getElem?_eq_getElem hk]; rfl
 ·rw [List.getElem?_eq_none (by omega), List.getElem?_eq_none (by rw [List.length_map]; omega)]
theorem ints_reps (l : List Int) (w : World) (b : Nat) (ok : Nat → Prop) : Reps ((Kd.int .i64).M w b ok) 1 l (l.map (Value.int .i64)) := by
 refine ⟨by simp, fun k x hx => ?_⟩
 show ((l.map (Value.int .i64)).drop (k * 1)).take 1 = [Value.int .i64 x]
 refine List.ext_getElem? fun q => ?_
 rcases q with _ | q
 ·rw [List.getElem?_take_of_lt (Nat.lt_succ_self 0), List.getElem?_drop, Nat.mul_one, Nat.add_zero, List.getElem?_map, hx]; rfl
 ·rw [List.getElem?_eq_none (by rw [List.length_take]; omega), List.getElem?_eq_none (by simp)]
def slices_DeleteFunc_int.f (l0 : List Int) (a1_0 : Int) : Option (List Int) := if 0 < (l0.length : Int) then some (l0.filter (fun x => !decide (x ≤ wrap64 (a1_0 - 16)))) else none
set_option maxHeartbeats 4000000 in
theorem slices_DeleteFunc_int.calls (P0_ : Nat → Prop) (u9000_ : Value) (l0 : List Int) (a1_0 : Int) (B : Nat) (r : List Int) (w0 w : World) (hB : Below w0.heap.size w0 w) (ho0 : Kd.R (Kd.int .i64) 3 w w0.heap.size P0_ u9000_ l0)
  (hb : w.heap[B]? = some (.cells #[.int .i64 a1_0] 3 (0, 0))) (hnb : some B ≠ u9000_.ownBlock) (h : slices_DeleteFunc_int.f l0 a1_0 = some r) :
  Calls Try.prog 53 #[u9000_, .func (.func 54) #[] #[.pointer (some ⟨B, 0, none⟩)]] w fun e w' => ∃ v0_ : Value, e = .returned (v0_) ∧ Kd.R (Kd.int .i64) 3 w' w0.heap.size (fun k_ => (P0_ k_ ∨ w.heap.size ≤ k_)) v0_ r ∧ Below w0.heap.size w0 w' ∧ Kept w w' (fun k_ => P0_ k_) := by
 unfold slices_DeleteFunc_int.f at h
 by_cases c1 : 0 < (l0.length : Int)
 ·rw [if_pos c1] at h
  obtain rfl := Option.some.inj h
  obtain ⟨hP, inner, ⟨hil, hcase⟩, hr⟩ := ho0
  rcases hcase with ⟨rfl, h0⟩ | ⟨g, c, cur, rfl, hgb, hh, hnc, hcm, hcs, htake⟩
  ·omega
  have hin := reps_ints hr
  subst hin
  have hP' := hP g rfl
  have hcs' : cur.size = c := hcs.trans (Nat.mul_one c)
  have htake' : cur.toList.take l0.length = l0.map (Value.int .i64) := by rw [← htake]; exact congrArg (fun z => cur.toList.take z) (Nat.mul_one _).symm
  have hle := List.length_filter_le (fun x : Int => !decide (x ≤ wrap64 (a1_0 - 16))) l0
  refine (delf.walk a1_0 B g c l0 cur w hh hb (fun e => hnb (by rw [e]; rfl)) hnc hcm hcs' htake').mono ?_
  rintro e w' ⟨rfl, ⟨cur2, h1, h2, h3⟩, h4, h5, h6, h7, h8⟩
  have hst : Below w0.heap.size w w' := ⟨h6, h7, h8, by omega, fun k hk => h4 k (by omega)⟩
  refine ⟨_, rfl, R_mk rfl (.inl hP') hgb h1 (by omega) hcm (h2.trans (Nat.mul_one c).symm) (by rw [List.length_map]; exact (Nat.mul_one _).symm) ((congrArg (fun z => cur2.toList.take z) (Nat.mul_one _)).trans h3) (ints_reps _ _ _ _), hB.trans hst, ?_⟩
  exact ⟨by omega, fun k hk hn => h4 k (fun e => hn (by rw [e]; exact hP'))⟩
 ·rw [if_neg c1] at h; cases h
def impl_WindowSee.f (k : Nat) (a0_0 : Int) (l0_1 : List Int) (a1 : Int) : Option (Int × List Int × Int) := (impl_WindowOk.f k a0_0 l0_1).bind fun t103 => (if t103 = true then ((slices_BinarySearch_int_int.f k l0_1 a1).bind fun bt104 => ((impl_in.f a1 1 1000000).bind fun t106 => (if t106 = true then (if a1 ≤ (wrap64 (a0_0 - 16)) then ((impl_Window_copied.f a0_0 l0_1).bind fun bt107 => (some (bt107.1, bt107.2, 2))) else (if bt104.2 = true then ((impl_Window_copied.f a0_0 l0_1).bind fun bt111 => (some (bt111.1, bt111.2, 3))) else ((slices_Clone_int.f l0_1).bind fun t116 => ((slices_Insert_int.f t116 bt104.1 (([a1] : List Int))).bind fun t122 => ((slices_DeleteFunc_int.f t122 (mx a0_0 a1)).bind fun t125 => (some (mx a0_0 a1, t125, 0))))))) else ((impl_Window_copied.f a0_0 l0_1).bind fun bt128 => (some (bt128.1, bt128.2, 1)))))) else (some (0, ([] : List Int), 1)))
set_option maxHeartbeats 8000000 in
set_option maxRecDepth 100000 in
theorem impl_WindowSee.calls (k : Nat) (a0_0 : Int) (A0_1 : Option Addr) (c0_1 : Nat) (l0_1 : List Int) (a1 : Int) (r1 : Int) (r2 : List Int) (r3 : Int) (w : World) (hr0_1 : Kd.C (Kd.int .i64) w A0_1 l0_1.length l0_1) (hc0_1 : l0_1.length ≤ c0_1) (h : impl_WindowSee.f k a0_0 l0_1 a1 = some (r1, r2, r3)) :
  Calls Try.prog 19 #[.agg #[.int .i64 a0_0, .slice A0_1 l0_1.length c0_1], .int .i64 a1] w fun e w' => ∃ v1_ : Value, e = .returned (.tuple #[.agg #[.int .i64 r1, v1_], .int .i64 r3]) ∧ Kd.R (Kd.int .i64) 3 w' w.heap.size (fun _ => True) v1_ r2 ∧ Below w.heap.size w w' := by
 have hu31 := Try.underlying31
 have HR0_1 := Aside0.mk hr0_1
 have HC0_1 := Aside0.mk hc0_1
 clear hr0_1 hc0_1
 have HB := am (Below.refl w.heap.size w)
 have H : ((impl_WindowOk.f k a0_0 l0_1).bind fun t103 => (if t103 = true then ((slices_BinarySearch_int_int.f k l0_1 a1).bind fun bt104 => ((impl_in.f a1 1 1000000).bind fun t106 => (if t106 = true then (if a1 ≤ (wrap64 (a0_0 - 16)) then ((impl_Window_copied.f a0_0 l0_1).bind fun bt107 => (some (bt107.1, bt107.2, 2))) else (if bt104.2 = true then ((impl_Window_copied.f a0_0 l0_1).bind fun bt111 => (some (bt111.1, bt111.2, 3))) else ((slices_Clone_int.f l0_1).bind fun t116 => ((slices_Insert_int.f t116 bt104.1 (([a1] : List Int))).bind fun t122 => ((slices_DeleteFunc_int.f t122 (mx a0_0 a1)).bind fun t125 => (some (mx a0_0 a1, t125, 0))))))) else ((impl_Window_copied.f a0_0 l0_1).bind fun bt128 => (some (bt128.1, bt128.2, 1)))))) else (some (0, ([] : List Int), 1)))) = some (r1, r2, r3) := h
 clear h
 replace H := Option.bind_eq_some_iff.mp H
 obtain ⟨t103, A30, H⟩ := H
 replace H : (if t103 = true then ((slices_BinarySearch_int_int.f k l0_1 a1).bind fun bt104 => ((impl_in.f a1 1 1000000).bind fun t106 => (if t106 = true then (if a1 ≤ (wrap64 (a0_0 - 16)) then ((impl_Window_copied.f a0_0 l0_1).bind fun bt107 => (some (bt107.1, bt107.2, 2))) else (if bt104.2 = true then ((impl_Window_copied.f a0_0 l0_1).bind fun bt111 => (some (bt111.1, bt111.2, 3))) else ((slices_Clone_int.f l0_1).bind fun t116 => ((slices_Insert_int.f t116 bt104.1 (([a1] : List Int))).bind fun t122 => ((slices_DeleteFunc_int.f t122 (mx a0_0 a1)).bind fun t125 => (some (mx a0_0 a1, t125, 0))))))) else ((impl_Window_copied.f a0_0 l0_1).bind fun bt128 => (some (bt128.1, bt128.2, 1)))))) else (some (0, ([] : List Int), 1))) = some (r1, r2, r3) := H
 have A3 := Aside0.mk A30
 clear A30
 by_cases c4 : t103 = true
 ·subst c4
  have H1 : ((slices_BinarySearch_int_int.f k l0_1 a1).bind fun bt104 => ((impl_in.f a1 1 1000000).bind fun t106 => (if t106 = true then (if a1 ≤ (wrap64 (a0_0 - 16)) then ((impl_Window_copied.f a0_0 l0_1).bind fun bt107 => (some (bt107.1, bt107.2, 2))) else (if bt104.2 = true then ((impl_Window_copied.f a0_0 l0_1).bind fun bt111 => (some (bt111.1, bt111.2, 3))) else ((slices_Clone_int.f l0_1).bind fun t116 => ((slices_Insert_int.f t116 bt104.1 (([a1] : List Int))).bind fun t122 => ((slices_DeleteFunc_int.f t122 (mx a0_0 a1)).bind fun t125 => (some (mx a0_0 a1, t125, 0))))))) else ((impl_Window_copied.f a0_0 l0_1).bind fun bt128 => (some (bt128.1, bt128.2, 1)))))) = some (r1, r2, r3) := by rw [if_pos rfl] at H; exact H
  clear H
  have H := H1
  clear H1
  replace H := Option.bind_eq_some_iff.mp H
  obtain ⟨⟨t104, t105⟩, A50, H⟩ := H
  replace H : ((impl_in.f a1 1 1000000).bind fun t106 => (if t106 = true then (if a1 ≤ (wrap64 (a0_0 - 16)) then ((impl_Window_copied.f a0_0 l0_1).bind fun bt107 => (some (bt107.1, bt107.2, 2))) else (if t105 = true then ((impl_Window_copied.f a0_0 l0_1).bind fun bt111 => (some (bt111.1, bt111.2, 3))) else ((slices_Clone_int.f l0_1).bind fun t116 => ((slices_Insert_int.f t116 t104 (([a1] : List Int))).bind fun t122 => ((slices_DeleteFunc_int.f t122 (mx a0_0 a1)).bind fun t125 => (some (mx a0_0 a1, t125, 0))))))) else ((impl_Window_copied.f a0_0 l0_1).bind fun bt128 => (some (bt128.1, bt128.2, 1))))) = some (r1, r2, r3) := H
  have A5 := Aside0.mk A50
  clear A50
  replace H := Option.bind_eq_some_iff.mp H
  obtain ⟨t106, A60, H⟩ := H
  replace H : (if t106 = true then (if a1 ≤ (wrap64 (a0_0 - 16)) then ((impl_Window_copied.f a0_0 l0_1).bind fun bt107 => (some (bt107.1, bt107.2, 2))) else (if t105 = true then ((impl_Window_copied.f a0_0 l0_1).bind fun bt111 => (some (bt111.1, bt111.2, 3))) else ((slices_Clone_int.f l0_1).bind fun t116 => ((slices_Insert_int.f t116 t104 (([a1] : List Int))).bind fun t122 => ((slices_DeleteFunc_int.f t122 (mx a0_0 a1)).bind fun t125 => (some (mx a0_0 a1, t125, 0))))))) else ((impl_Window_copied.f a0_0 l0_1).bind fun bt128 => (some (bt128.1, bt128.2, 1)))) = some (r1, r2, r3) := H
  have A6 := Aside0.mk A60
  clear A60
  by_cases c7 : t106 = true
  ·subst c7
   have H1 : (if a1 ≤ (wrap64 (a0_0 - 16)) then ((impl_Window_copied.f a0_0 l0_1).bind fun bt107 => (some (bt107.1, bt107.2, 2))) else (if t105 = true then ((impl_Window_copied.f a0_0 l0_1).bind fun bt111 => (some (bt111.1, bt111.2, 3))) else ((slices_Clone_int.f l0_1).bind fun t116 => ((slices_Insert_int.f t116 t104 (([a1] : List Int))).bind fun t122 => ((slices_DeleteFunc_int.f t122 (mx a0_0 a1)).bind fun t125 => (some (mx a0_0 a1, t125, 0))))))) = some (r1, r2, r3) := by rw [if_pos rfl] at H; exact H
   clear H
   have H := H1
   clear H1
   by_cases c8 : a1 ≤ (wrap64 (a0_0 - 16))
   ·rw [if_pos c8] at H
    have c8b0 : decide (a1 ≤ (wrap64 (a0_0 - 16))) = true := decide_eq_true c8
    clear c8
    replace H := Option.bind_eq_some_iff.mp H
    obtain ⟨⟨t107, t108⟩, A90, H⟩ := H
    replace H : (some (t107, t108, 2)) = some (r1, r2, r3) := H
    have A9 := Aside0.mk A90
    clear A90
    simp only [Option.some.injEq, Prod.mk.injEq] at H
    obtain ⟨rfl, rfl, rfl⟩ := H
    go_enter Try.func19, Try.ntmps19
    go_wp2_with (first | ((with_reducible refine gate_dst (N := 2) rfl ?_); refine box_event rfl (N := 2) rfl (cs := #[.int .i64 a0_0, .slice A0_1 l0_1.length c0_1]) (t := 31) BX ?_; intro gb101 hg w10 hbox hb; have BK101 := am (hbox); have GW101 := am (GH HB hg); have GE101 := GW101; replace HB := am (below_step (KL HB) hb); clear hb hbox hg) | ((with_reducible refine gate_dst (N := 4) rfl ?_); refine box_event rfl (N := 4) rfl (cs := #[.int .i64 0, .slice none 0 0]) (t := 31) BX ?_; intro gb102 hg w11 hbox hb; have BK102 := am (hbox); have GW102 := am (GH1 HB GE101.out hg); have GE102 := GW102; replace HB := am (below_step (K1 HB GE101.out) hb); have NB101_102 := am (NL BK101 hg); have NB102_101 := am (NG BK101 hg); replace BK101 := am (BB BK101 hb); clear hb hbox hg; have hnb12 := NB101_102.out; have hnc12 := NB102_101.out; obtain ⟨hcz13_0, hcz13_1, hfz13_0⟩ := y2 w11 BK101.out) | ((with_reducible refine gate_callee (f := 22) rfl ?_); refine goesL_ (some 11) rfl rfl Try.func22 (by kernel_rfl) rfl #[.agg #[.int .i64 a0_0, .slice A0_1 l0_1.length c0_1]] rfl MT ?_; (with_reducible refine (impl_WindowOk.calls k a0_0 _ _ l0_1 true _ ?side1 ?side2 A3.out).mono ?_); (case side1 => exact KD HR0_1 HB); (case side2 => exact HC0_1.out); rintro e w14 ⟨rfl, hb⟩; refine ⟨_, rfl, ?_⟩; replace BK101 := am (BB BK101 hb); replace BK102 := am (BB BK102 hb); replace HB := am (below_step (K2 HB GE101.out GE102.out) hb); (try clear hb); obtain ⟨hcz15_0, hcz15_1, hfz15_0⟩ := y2 w14 BK101.out) | ((with_reducible refine gate_callee (f := 48) rfl ?_); refine goesL_ (some 18) rfl rfl Try.func48 (by kernel_rfl) rfl #[.slice A0_1 l0_1.length c0_1, .int .i64 a1] rfl MT ?_; (with_reducible refine (slices_BinarySearch_int_int.calls k _ _ l0_1 a1 t104 t105 _ ?side1 ?side2 A5.out).mono ?_); (case side1 => exact KD HR0_1 HB); (case side2 => exact HC0_1.out); rintro e w' ⟨rfl, ⟨nd, rfl⟩⟩; refine ⟨_, rfl, ?_⟩; (try (rw [drewN_self w14]; generalize hq_ : World.drewN w14 _ = w14; replace BK101 : Aside0 (w14.heap[gb101]? = some (.cells #[.int .i64 a0_0, .slice A0_1 l0_1.length c0_1] 31 (0, 0))) := ⟨by rw [← hq_]; exact (KB BK101)⟩; replace BK102 : Aside0 (w14.heap[gb102]? = some (.cells #[.int .i64 0, .slice none 0 0] 31 (0, 0))) := ⟨by rw [← hq_]; exact (KB BK102)⟩; replace HB : Aside0 (Below w.heap.size w w14) := ⟨by rw [← hq_]; exact (K2 HB GE101.out GE102.out)⟩; clear hq_; (try obtain ⟨hcz15_0, hcz15_1, hfz15_0⟩ := y2 w14 BK101.out)))) | ((with_reducible refine gate_callee (f := 49) rfl ?_); refine goesL_ (some 23) rfl rfl Try.func49 (by kernel_rfl) rfl #[.int .i64 a1, .int .i64 1, .int .i64 1000000] rfl MT ?_; (with_reducible refine (impl_in.calls a1 1 1000000 true _ A6.out).mono ?_); rintro e w' ⟨rfl, ⟨nd, rfl⟩⟩; refine ⟨_, rfl, ?_⟩; (try (rw [drewN_self w14]; generalize hq_ : World.drewN w14 _ = w14; replace BK101 : Aside0 (w14.heap[gb101]? = some (.cells #[.int .i64 a0_0, .slice A0_1 l0_1.length c0_1] 31 (0, 0))) := ⟨by rw [← hq_]; exact (KB BK101)⟩; replace BK102 : Aside0 (w14.heap[gb102]? = some (.cells #[.int .i64 0, .slice none 0 0] 31 (0, 0))) := ⟨by rw [← hq_]; exact (KB BK102)⟩; replace HB : Aside0 (Below w.heap.size w w14) := ⟨by rw [← hq_]; exact (K2 HB GE101.out GE102.out)⟩; clear hq_; (try obtain ⟨hcz15_0, hcz15_1, hfz15_0⟩ := y2 w14 BK101.out)))) | ((with_reducible refine gate_callee (f := 50) rfl ?_); refine goesL_ (some 34) rfl rfl Try.func50 (by kernel_rfl) rfl #[.agg #[.int .i64 a0_0, .slice A0_1 l0_1.length c0_1]] rfl MT ?_; (with_reducible refine (impl_Window_copied.calls a0_0 _ _ l0_1 t107 t108 _ ?side1 ?side2 A9.out).mono ?_); (case side1 => exact KD HR0_1 HB); (case side2 => exact HC0_1.out); rintro e w16 ⟨v109, rfl, ho0, hb⟩; refine ⟨_, rfl, ?_⟩; have HO110 := am (Kd.R_lower ho0 (below_size (K2 HB GE101.out GE102.out))); replace BK101 := am (BB BK101 hb); replace BK102 := am (BB BK102 hb); replace HB := am (below_step (K2 HB GE101.out GE102.out) hb); (try clear hb); (try clear ho0); obtain ⟨hcz17_0, hcz17_1, hfz17_0⟩ := y2 w16 BK102.out; obtain ⟨Ao18, co18, eo18⟩ := Kd.R_slice HO110.out; subst eo18))
    refine bodyPost_ret (results_ct rfl _ _ gb102 31 #[.int .i64 t107, .slice Ao18 t108.length co18] (0, 0) _ rfl (by (with_reducible repeat (first | refine blk_drewN ?_ _ | refine blk_drew ?_ | refine blk_alloc ?_ _)); refine blk_put (cs := #[.int .i64 t107, .slice none 0 0]) ?_ 1 _ rfl; (with_reducible repeat (first | refine blk_drewN ?_ _ | refine blk_drew ?_ | refine blk_alloc ?_ _)); refine blk_put (cs := #[.int .i64 0, .slice none 0 0]) ?_ 0 _ rfl; (with_reducible repeat (first | refine blk_drewN ?_ _ | refine blk_drew ?_ | refine blk_alloc ?_ _)); exact BK102.out) Try.underlying31 rfl (by kernel_rfl)) rfl ?_
    exact ⟨_, ER, by (with_reducible repeat (first | apply Kd.R_alloc | apply Kd.R_drewN | apply Kd.R_drew)); exact Kd.R_mono (Kd.R_far (p := ⟨gb102, 1, none⟩) (Kd.R_far (p := ⟨gb102, 0, none⟩) (Kd.R_types HO110.out BK102.out (by decide)) (fun _ hk => hk.2) (.int .i64 t107)) (fun _ hk => hk.2) (.slice Ao18 t108.length co18)) (fun _ hk => trivial), K2 HB GE101.out GE102.out⟩
   ·rw [if_neg c8] at H
    have c8b0 : decide (a1 ≤ (wrap64 (a0_0 - 16))) = false := decide_eq_false c8
    clear c8
    by_cases c19 : t105 = true
    ·subst c19
     have H1 : ((impl_Window_copied.f a0_0 l0_1).bind fun bt111 => (some (bt111.1, bt111.2, 3))) = some (r1, r2, r3) := by rw [if_pos rfl] at H; exact H
     clear H
     have H := H1
     clear H1
     replace H := Option.bind_eq_some_iff.mp H
     obtain ⟨⟨t111, t112⟩, A200, H⟩ := H
     replace H : (some (t111, t112, 3)) = some (r1, r2, r3) := H
     have A20 := Aside0.mk A200
     clear A200
     simp only [Option.some.injEq, Prod.mk.injEq] at H
     obtain ⟨rfl, rfl, rfl⟩ := H
     go_enter Try.func19, Try.ntmps19
     go_wp2_with (first | ((with_reducible refine gate_dst (N := 2) rfl ?_); refine box_event rfl (N := 2) rfl (cs := #[.int .i64 a0_0, .slice A0_1 l0_1.length c0_1]) (t := 31) BX ?_; intro gb101 hg w21 hbox hb; have BK101 := am (hbox); have GW101 := am (GH HB hg); have GE101 := GW101; replace HB := am (below_step (KL HB) hb); clear hb hbox hg) | ((with_reducible refine gate_dst (N := 4) rfl ?_); refine box_event rfl (N := 4) rfl (cs := #[.int .i64 0, .slice none 0 0]) (t := 31) BX ?_; intro gb102 hg w22 hbox hb; have BK102 := am (hbox); have GW102 := am (GH1 HB GE101.out hg); have GE102 := GW102; replace HB := am (below_step (K1 HB GE101.out) hb); have NB101_102 := am (NL BK101 hg); have NB102_101 := am (NG BK101 hg); replace BK101 := am (BB BK101 hb); clear hb hbox hg; have hnb23 := NB101_102.out; have hnc23 := NB102_101.out; obtain ⟨hcz24_0, hcz24_1, hfz24_0⟩ := y2 w22 BK101.out) | ((with_reducible refine gate_callee (f := 22) rfl ?_); refine goesL_ (some 11) rfl rfl Try.func22 (by kernel_rfl) rfl #[.agg #[.int .i64 a0_0, .slice A0_1 l0_1.length c0_1]] rfl MT ?_; (with_reducible refine (impl_WindowOk.calls k a0_0 _ _ l0_1 true _ ?side1 ?side2 A3.out).mono ?_); (case side1 => exact KD HR0_1 HB); (case side2 => exact HC0_1.out); rintro e w25 ⟨rfl, hb⟩; refine ⟨_, rfl, ?_⟩; replace BK101 := am (BB BK101 hb); replace BK102 := am (BB BK102 hb); replace HB := am (below_step (K2 HB GE101.out GE102.out) hb); (try clear hb); obtain ⟨hcz26_0, hcz26_1, hfz26_0⟩ := y2 w25 BK101.out) | ((with_reducible refine gate_callee (f := 48) rfl ?_); refine goesL_ (some 18) rfl rfl Try.func48 (by kernel_rfl) rfl #[.slice A0_1 l0_1.length c0_1, .int .i64 a1] rfl MT ?_; (with_reducible refine (slices_BinarySearch_int_int.calls k _ _ l0_1 a1 t104 true _ ?side1 ?side2 A5.out).mono ?_); (case side1 => exact KD HR0_1 HB); (case side2 => exact HC0_1.out); rintro e w' ⟨rfl, ⟨nd, rfl⟩⟩; refine ⟨_, rfl, ?_⟩; (try (rw [drewN_self w25]; generalize hq_ : World.drewN w25 _ = w25; replace BK101 : Aside0 (w25.heap[gb101]? = some (.cells #[.int .i64 a0_0, .slice A0_1 l0_1.length c0_1] 31 (0, 0))) := ⟨by rw [← hq_]; exact (KB BK101)⟩; replace BK102 : Aside0 (w25.heap[gb102]? = some (.cells #[.int .i64 0, .slice none 0 0] 31 (0, 0))) := ⟨by rw [← hq_]; exact (KB BK102)⟩; replace HB : Aside0 (Below w.heap.size w w25) := ⟨by rw [← hq_]; exact (K2 HB GE101.out GE102.out)⟩; clear hq_; (try obtain ⟨hcz26_0, hcz26_1, hfz26_0⟩ := y2 w25 BK101.out)))) | ((with_reducible refine gate_callee (f := 49) rfl ?_); refine goesL_ (some 23) rfl rfl Try.func49 (by kernel_rfl) rfl #[.int .i64 a1, .int .i64 1, .int .i64 1000000] rfl MT ?_; (with_reducible refine (impl_in.calls a1 1 1000000 true _ A6.out).mono ?_); rintro e w' ⟨rfl, ⟨nd, rfl⟩⟩; refine ⟨_, rfl, ?_⟩; (try (rw [drewN_self w25]; generalize hq_ : World.drewN w25 _ = w25; replace BK101 : Aside0 (w25.heap[gb101]? = some (.cells #[.int .i64 a0_0, .slice A0_1 l0_1.length c0_1] 31 (0, 0))) := ⟨by rw [← hq_]; exact (KB BK101)⟩; replace BK102 : Aside0 (w25.heap[gb102]? = some (.cells #[.int .i64 0, .slice none 0 0] 31 (0, 0))) := ⟨by rw [← hq_]; exact (KB BK102)⟩; replace HB : Aside0 (Below w.heap.size w w25) := ⟨by rw [← hq_]; exact (K2 HB GE101.out GE102.out)⟩; clear hq_; (try obtain ⟨hcz26_0, hcz26_1, hfz26_0⟩ := y2 w25 BK101.out)))) | ((with_reducible refine gate_callee (f := 50) rfl ?_); refine goesL_ (some 38) rfl rfl Try.func50 (by kernel_rfl) rfl #[.agg #[.int .i64 a0_0, .slice A0_1 l0_1.length c0_1]] rfl MT ?_; (with_reducible refine (impl_Window_copied.calls a0_0 _ _ l0_1 t111 t112 _ ?side1 ?side2 A20.out).mono ?_); (case side1 => exact KD HR0_1 HB); (case side2 => exact HC0_1.out); rintro e w27 ⟨v113, rfl, ho0, hb⟩; refine ⟨_, rfl, ?_⟩; have HO114 := am (Kd.R_lower ho0 (below_size (K2 HB GE101.out GE102.out))); replace BK101 := am (BB BK101 hb); replace BK102 := am (BB BK102 hb); replace HB := am (below_step (K2 HB GE101.out GE102.out) hb); (try clear hb); (try clear ho0); obtain ⟨hcz28_0, hcz28_1, hfz28_0⟩ := y2 w27 BK102.out; obtain ⟨Ao29, co29, eo29⟩ := Kd.R_slice HO114.out; subst eo29))
     refine bodyPost_ret (results_ct rfl _ _ gb102 31 #[.int .i64 t111, .slice Ao29 t112.length co29] (0, 0) _ rfl (by (with_reducible repeat (first | refine blk_drewN ?_ _ | refine blk_drew ?_ | refine blk_alloc ?_ _)); refine blk_put (cs := #[.int .i64 t111, .slice none 0 0]) ?_ 1 _ rfl; (with_reducible repeat (first | refine blk_drewN ?_ _ | refine blk_drew ?_ | refine blk_alloc ?_ _)); refine blk_put (cs := #[.int .i64 0, .slice none 0 0]) ?_ 0 _ rfl; (with_reducible repeat (first | refine blk_drewN ?_ _ | refine blk_drew ?_ | refine blk_alloc ?_ _)); exact BK102.out) Try.underlying31 rfl (by kernel_rfl)) rfl ?_
     exact ⟨_, ER, by (with_reducible repeat (first | apply Kd.R_alloc | apply Kd.R_drewN | apply Kd.R_drew)); exact Kd.R_mono (Kd.R_far (p := ⟨gb102, 1, none⟩) (Kd.R_far (p := ⟨gb102, 0, none⟩) (Kd.R_types HO114.out BK102.out (by decide)) (fun _ hk => hk.2) (.int .i64 t111)) (fun _ hk => hk.2) (.slice Ao29 t112.length co29)) (fun _ hk => trivial), K2 HB GE101.out GE102.out⟩
    ·replace c19 := Bool.eq_false_iff.mpr c19
     subst c19
     have H1 : ((slices_Clone_int.f l0_1).bind fun t116 => ((slices_Insert_int.f t116 t104 (([a1] : List Int))).bind fun t122 => ((slices_DeleteFunc_int.f t122 (mx a0_0 a1)).bind fun t125 => (some (mx a0_0 a1, t125, 0))))) = some (r1, r2, r3) := by rw [if_neg (show ¬ (false = true) by decide)] at H; exact H
     clear H
     have H := H1
     clear H1
     obtain ⟨ji30, hji30⟩ : ∃ j_ : Int, (mx a0_0 a1) = j_ := ⟨_, rfl⟩
     replace H : ((slices_Clone_int.f l0_1).bind fun t116 => ((slices_Insert_int.f t116 t104 (([a1] : List Int))).bind fun t122 => ((slices_DeleteFunc_int.f t122 (ji30)).bind fun t125 => (some (ji30, t125, 0))))) = some (r1, r2, r3) := by first | (rw [hji30] at H; exact H) | (simp only [hji30] at H ⊢; exact H)
     (try rw [hji30] at A3)
     (try rw [hji30] at A5)
     (try rw [hji30] at A6)
     have hji30_ : (if a0_0 < a1 then a1 else a0_0) = ji30 := hji30
     replace H := Option.bind_eq_some_iff.mp H
     obtain ⟨t116, A310, H⟩ := H
     replace H : ((slices_Insert_int.f t116 t104 (([a1] : List Int))).bind fun t122 => ((slices_DeleteFunc_int.f t122 (ji30)).bind fun t125 => (some (ji30, t125, 0)))) = some (r1, r2, r3) := H
     have A31 := Aside0.mk A310
     clear A310
     obtain ⟨y119, hy119⟩ : ∃ y_ : List Int, y_ = (([a1] : List Int)) := ⟨_, rfl⟩
     replace H : ((slices_Insert_int.f t116 t104 y119).bind fun t122 => ((slices_DeleteFunc_int.f t122 (ji30)).bind fun t125 => (some (ji30, t125, 0)))) = some (r1, r2, r3) := by first | (rw [hy119]; with_reducible exact H) | (have H2_ := (Option.bind_some _ _).symm.trans H; rw [hy119]; with_reducible exact H2_) | (have H2_ := (Option.bind_some _ _).symm.trans H; with_reducible exact H2_) | with_reducible exact H | (rw [hy119]; exact H) | exact H
     have Ny119 := Aside0.mk hy119
     clear hy119
     replace H := Option.bind_eq_some_iff.mp H
     obtain ⟨t122, A320, H⟩ := H
     replace H : ((slices_DeleteFunc_int.f t122 (ji30)).bind fun t125 => (some (ji30, t125, 0))) = some (r1, r2, r3) := H
     have A32 := Aside0.mk A320
     clear A320
     replace H := Option.bind_eq_some_iff.mp H
     obtain ⟨t125, A330, H⟩ := H
     replace H : (some (ji30, t125, 0)) = some (r1, r2, r3) := H
     have A33 := Aside0.mk A330
     clear A330
     simp only [Option.some.injEq, Prod.mk.injEq] at H
     obtain ⟨rfl, rfl, rfl⟩ := H
     go_enter Try.func19, Try.ntmps19
     try go_wp2_with (first | ((with_reducible refine gate_dst (N := 2) rfl ?_); refine box_event rfl (N := 2) rfl (cs := #[.int .i64 a0_0, .slice A0_1 l0_1.length c0_1]) (t := 31) BX ?_; intro gb101 hg w34 hbox hb; have BK101 := am (hbox); have GW101 := am (GH HB hg); have GE101 := GW101; replace HB := am (below_step (KL HB) hb); clear hb hbox hg) | ((with_reducible refine gate_dst (N := 4) rfl ?_); refine box_event rfl (N := 4) rfl (cs := #[.int .i64 0, .slice none 0 0]) (t := 31) BX ?_; intro gb102 hg w35 hbox hb; have BK102 := am (hbox); have GW102 := am (GH1 HB GE101.out hg); have GE102 := GW102; replace HB := am (below_step (K1 HB GE101.out) hb); have NB101_102 := am (NL BK101 hg); have NB102_101 := am (NG BK101 hg); replace BK101 := am (BB BK101 hb); clear hb hbox hg; have hnb36 := NB101_102.out; have hnc36 := NB102_101.out; obtain ⟨hcz37_0, hcz37_1, hfz37_0⟩ := y2 w35 BK101.out) | ((with_reducible refine gate_callee (f := 22) rfl ?_); refine goesL_ (some 11) rfl rfl Try.func22 (by kernel_rfl) rfl #[.agg #[.int .i64 a0_0, .slice A0_1 l0_1.length c0_1]] rfl MT ?_; (with_reducible refine (impl_WindowOk.calls k a0_0 _ _ l0_1 true _ ?side1 ?side2 A3.out).mono ?_); (case side1 => exact KD HR0_1 HB); (case side2 => exact HC0_1.out); rintro e w38 ⟨rfl, hb⟩; refine ⟨_, rfl, ?_⟩; replace BK101 := am (BB BK101 hb); replace BK102 := am (BB BK102 hb); replace HB := am (below_step (K2 HB GE101.out GE102.out) hb); (try clear hb); obtain ⟨hcz39_0, hcz39_1, hfz39_0⟩ := y2 w38 BK101.out) | ((with_reducible refine gate_callee (f := 48) rfl ?_); refine goesL_ (some 18) rfl rfl Try.func48 (by kernel_rfl) rfl #[.slice A0_1 l0_1.length c0_1, .int .i64 a1] rfl MT ?_; (with_reducible refine (slices_BinarySearch_int_int.calls k _ _ l0_1 a1 t104 false _ ?side1 ?side2 A5.out).mono ?_); (case side1 => exact KD HR0_1 HB); (case side2 => exact HC0_1.out); rintro e w' ⟨rfl, ⟨nd, rfl⟩⟩; refine ⟨_, rfl, ?_⟩; (try (rw [drewN_self w38]; generalize hq_ : World.drewN w38 _ = w38; replace BK101 : Aside0 (w38.heap[gb101]? = some (.cells #[.int .i64 a0_0, .slice A0_1 l0_1.length c0_1] 31 (0, 0))) := ⟨by rw [← hq_]; exact (KB BK101)⟩; replace BK102 : Aside0 (w38.heap[gb102]? = some (.cells #[.int .i64 0, .slice none 0 0] 31 (0, 0))) := ⟨by rw [← hq_]; exact (KB BK102)⟩; replace HB : Aside0 (Below w.heap.size w w38) := ⟨by rw [← hq_]; exact (K2 HB GE101.out GE102.out)⟩; clear hq_; (try obtain ⟨hcz39_0, hcz39_1, hfz39_0⟩ := y2 w38 BK101.out)))) | ((with_reducible refine gate_callee (f := 49) rfl ?_); refine goesL_ (some 23) rfl rfl Try.func49 (by kernel_rfl) rfl #[.int .i64 a1, .int .i64 1, .int .i64 1000000] rfl MT ?_; (with_reducible refine (impl_in.calls a1 1 1000000 true _ A6.out).mono ?_); rintro e w' ⟨rfl, ⟨nd, rfl⟩⟩; refine ⟨_, rfl, ?_⟩; (try (rw [drewN_self w38]; generalize hq_ : World.drewN w38 _ = w38; replace BK101 : Aside0 (w38.heap[gb101]? = some (.cells #[.int .i64 a0_0, .slice A0_1 l0_1.length c0_1] 31 (0, 0))) := ⟨by rw [← hq_]; exact (KB BK101)⟩; replace BK102 : Aside0 (w38.heap[gb102]? = some (.cells #[.int .i64 0, .slice none 0 0] 31 (0, 0))) := ⟨by rw [← hq_]; exact (KB BK102)⟩; replace HB : Aside0 (Below w.heap.size w w38) := ⟨by rw [← hq_]; exact (K2 HB GE101.out GE102.out)⟩; clear hq_; (try obtain ⟨hcz39_0, hcz39_1, hfz39_0⟩ := y2 w38 BK101.out)))) | ((with_reducible refine gate_dst (N := 8) rfl ?_); refine box_event rfl (N := 8) rfl (cs := #[.int .i64 0]) (t := 3) BX ?_; intro gb115 hg w40 hbox hb; have BK115 := am (hbox); have GW115 := am (GH2 HB GE101.out GE102.out hg); have GE115 := GW115; replace HB := am (below_step (K2 HB GE101.out GE102.out) hb); have NB101_115 := am (NL BK101 hg); have NB115_101 := am (NG BK101 hg); replace BK101 := am (BB BK101 hb); have NB102_115 := am (NL BK102 hg); have NB115_102 := am (NG BK102 hg); replace BK102 := am (BB BK102 hb); clear hb hbox hg; have hnb41 := NB115_101.out; have hnc41 := NB101_115.out; have hnb42 := NB115_102.out; have hnc42 := NB102_115.out; obtain ⟨hcz43_0, hfz43_0⟩ := y1 w40 BK115.out; obtain ⟨hcz44_0, hcz44_1, hfz44_0⟩ := y2 w40 BK101.out) | ((with_reducible refine gate_callee (f := 52) rfl ?_); refine goesL_ (some 45) rfl rfl Try.func52 (by kernel_rfl) rfl #[.slice A0_1 l0_1.length c0_1] rfl MT ?_; (with_reducible refine (slices_Clone_int.calls _ _ l0_1 t116 _ ?side1 ?side2 A31.out).mono ?_); (case side1 => exact Kd.C_below HR0_1.out (K3 HB GE101.out GE102.out GE115.out)); (case side2 => exact HC0_1.out); rintro e w45 ⟨v117, rfl, ho0, hb⟩; refine ⟨_, rfl, ?_⟩; have HO118 := am (Kd.R_lower (Kd.R_newB ho0 (g := gb115) (o := .cells #[.int .i64 ji30] 3 (0, 0)) (by (with_reducible repeat (first | refine blk_drewN ?_ _ | refine blk_drew ?_ | refine blk_alloc ?_ _)); refine blk_put (cs := #[.int .i64 0]) ?_ 0 _ rfl; (with_reducible repeat (first | refine blk_drewN ?_ _ | refine blk_drew ?_ | refine blk_alloc ?_ _)); exact BK115.out)) (below_size (K3 HB GE101.out GE102.out GE115.out))); replace BK101 := am (blk_below (g := gb101) (o := .cells #[.int .i64 a0_0, .slice A0_1 l0_1.length c0_1] 31 (0, 0)) (by (with_reducible repeat (first | refine blk_drewN ?_ _ | refine blk_drew ?_ | refine blk_alloc ?_ _)); refine blk_far ?_ NB101_115.out _; (with_reducible repeat (first | refine blk_drewN ?_ _ | refine blk_drew ?_ | refine blk_alloc ?_ _)); exact BK101.out) hb); replace BK102 := am (blk_below (g := gb102) (o := .cells #[.int .i64 0, .slice none 0 0] 31 (0, 0)) (by (with_reducible repeat (first | refine blk_drewN ?_ _ | refine blk_drew ?_ | refine blk_alloc ?_ _)); refine blk_far ?_ NB102_115.out _; (with_reducible repeat (first | refine blk_drewN ?_ _ | refine blk_drew ?_ | refine blk_alloc ?_ _)); exact BK102.out) hb); replace BK115 := am (blk_below (g := gb115) (o := .cells #[.int .i64 ji30] 3 (0, 0)) (by (with_reducible repeat (first | refine blk_drewN ?_ _ | refine blk_drew ?_ | refine blk_alloc ?_ _)); refine blk_put (cs := #[.int .i64 0]) ?_ 0 _ rfl; (with_reducible repeat (first | refine blk_drewN ?_ _ | refine blk_drew ?_ | refine blk_alloc ?_ _)); exact BK115.out) hb); replace HB := am (below_step (K3 HB GE101.out GE102.out GE115.out) hb); (try clear hb); (try clear hb2); (try clear hk); (try clear hi); (try clear ho0)) | ((with_reducible refine gate_dst (N := 48) rfl ?_); refine Kd.R_lit (Kd.int .i64) _ 3 ?hg (N := 48) ?hd (xs := ([a1] : List Int)) (inner := [.int .i64 a1]) (ok := fun _ => True) (okp := fun _ => True) ?hr ?hp (fun _ hk => hk) trivial (Below.refl _ _) (Nat.le_refl _) (by simp) ?_; (case hd => rfl); (case hg => rfl); (case hr => first | (go_simp; done) | (go_simp; rfl)); (case hp => exact (Reps.one (show Kd.M (Kd.int .i64) _ _ _ a1 [.int .i64 a1] from rfl) (Reps.none _ _))); intro v120 w46 ho47 hb hg_ hnew_; clear hg_ hnew_; (first | rw [← Ny119.out] at ho47 | (simp only [Int.reduceToNat] at ho47; rw [← Ny119.out] at ho47)); have HO121 := am (Kd.R_lower (Kd.R_newB (Kd.R_new' ho47 (Kd.R_lt (KR HO118))) (g := gb115) (o := .cells #[.int .i64 ji30] 3 (0, 0)) (KB BK115)) (below_size (K3 HB GE101.out GE102.out GE115.out))); replace HO118 := am (Kd.R_elder' (KR HO118) (Kd.R_base ho47) hb); replace BK101 := am (BB BK101 hb); replace BK102 := am (BB BK102 hb); replace BK115 := am (BB BK115 hb); replace HB := am (below_step (K3 HB GE101.out GE102.out GE115.out) hb); clear hb ho47; obtain ⟨Ao48, co48, eo48⟩ := Kd.R_slice HO118.out; subst eo48; obtain ⟨Ao49, co49, eo49⟩ := Kd.R_slice HO121.out; subst eo49) | ((with_reducible refine gate_callee (f := 51) rfl ?_); refine goesL_ (some 49) rfl rfl Try.func51 (by kernel_rfl) rfl #[.slice Ao48 t116.length co48, .int .i64 t104, .slice Ao49 y119.length co49] rfl MT ?_; (with_reducible refine (slices_Insert_int.calls (fun k_ => some k_ = (.slice Ao48 t116.length co48 : Value).ownBlock) (.slice Ao48 t116.length co48) t116 t104 (fun k_ => some k_ = (.slice Ao49 y119.length co49 : Value).ownBlock) (.slice Ao49 y119.length co49) y119 t122 w _ ?side1 ?side2 ?side3 ?side4 ?side5 A32.out).mono ?_); (case side1 => exact K3 HB GE101.out GE102.out GE115.out); (case side2 => exact Kd.R_tight rfl HO118.out); (case side3 => exact fun k_ e_ => (HO118.out.1 k_ e_.symm).2); (case side4 => exact Kd.R_tight rfl HO121.out); (case side5 => exact fun k_ e_ => (HO121.out.1 k_ e_.symm).1.2); rintro e w50 ⟨v123, rfl, ho0, hb, hkp⟩; refine ⟨_, rfl, ?_⟩; replace BK101 := am (blk_kept (KB BK101) hkp (fun hs_ => Or.elim hs_ (fun e_ => (fun e_ => (Kd.R_ne HO118.out BK101.out (by decide)) e_) e_) (fun e_ => (fun e_ => (Kd.R_ne HO121.out BK101.out (by decide)) e_) e_))); replace BK102 := am (blk_kept (KB BK102) hkp (fun hs_ => Or.elim hs_ (fun e_ => (fun e_ => (Kd.R_ne HO118.out BK102.out (by decide)) e_) e_) (fun e_ => (fun e_ => (Kd.R_ne HO121.out BK102.out (by decide)) e_) e_))); have HO124 := am (Kd.R_mono (ok' := fun k_ => k_ ≠ gb115) ho0 (fun k_ hk_ => Or.elim hk_ (fun hs_ => Or.elim hs_ (fun hs_ => fun e_ => (Kd.R_away HO118.out (fun _ hk => hk.1.2)) (by rw [← e_]; exact hs_)) (fun hs_ => fun e_ => (Kd.R_away HO121.out (fun _ hk => hk.2)) (by rw [← e_]; exact hs_))) (fun hn_ => (Kd.freshB (g := gb115) (o := .cells #[.int .i64 ji30] 3 (0, 0)) (KB BK115) k_ hn_)))); replace BK115 := am (blk_kept (KB BK115) hkp (fun hs_ => Or.elim hs_ (fun e_ => (fun e_ => (Kd.R_away HO118.out (fun _ hk => hk.1.2)) e_) e_) (fun e_ => (fun e_ => (Kd.R_away HO121.out (fun _ hk => hk.2)) e_) e_))); replace HB := am (hb); clear HO118 HO121; (try clear hb); (try clear hkp); (try clear ho0)))
     replace HO124 := am (Kd.R_drew HO124.out)
     replace BK101 := am (blk_drew BK101.out)
     replace BK102 := am (blk_drew BK102.out)
     replace BK115 := am (blk_drew BK115.out)
     replace HB := am (below_drew1 HB.out)
     obtain ⟨Ao52, co52, eo52⟩ := Kd.R_slice HO124.out
     (first | subst eo52 | (injection eo52 with f1_ f2_ f3_; have f4_ := f1_.symm; have f5_ := f3_.symm; clear f1_ f2_ f3_; subst f4_; subst f5_))
     refine start_ (n := 7) (S := fun w' => w'.cell? ⟨gb115, 0, none⟩ = some (.int .i64 ji30)) (ds := []) (tf 0 7) (by kernel_rfl) rfl rfl (z0 _ BK115.out) (fun hHeld => ?_)
     generalize w50.drew = w51 at HO124 BK101 BK102 BK115 HB hHeld ⊢
     refine pure_ (i := 1) (N := some 51) (v := ?_) (a' := ?_) (tr [0, 1, 1, 5]) rfl rfl (by kernel_rfl) (fun _ _ _ h => h) (Or.inl ⟨by rfl, ?_⟩) ?_ ?_; rotate_left; (· intro w'; go_simp; with_reducible rfl); rotate_left; (· simp only [Act.put, List.setIfInBounds_toArray, List.set_cons_zero, List.set_cons_succ, i64_w, i32_w]; rfl)
     refine pure_ (i := 2) (N := some 52) (v := ?_) (a' := ?_) (tr [0, 1, 2, 4]) rfl rfl (by kernel_rfl) (fun _ _ _ h => h) (Or.inl ⟨by rfl, ?_⟩) ?_ ?_; rotate_left; (· intro w'; go_simp; with_reducible rfl); rotate_left; (· simp only [Act.put, List.setIfInBounds_toArray, List.set_cons_zero, List.set_cons_succ, i64_w, i32_w]; rfl)
     refine take_ (i := 0) (N := some 50) (v := ?_) (a' := ?_) (tf 3 4) rfl rfl (by kernel_rfl) (fun _ _ _ h => h) (Or.inl ⟨by rfl, ?_⟩) hHeld ?_ ?_
     rotate_left
     ·intro w' s0
      go_simp
      with_reducible rfl
     rotate_left
     ·simp only [Act.put, List.setIfInBounds_toArray, List.set_cons_zero, List.set_cons_succ, i64_w, i32_w]
      rfl
     refine one_ (i := 3) (N := some 53) (tf 4 3) rfl rfl (by kernel_rfl) (by decide) (fun K hK => ?_)
     refine goes_ Try.func53 (by kernel_rfl) rfl #[.slice Ao52 t122.length co52, .func (.func 54) #[] #[.pointer (some ⟨gb115, 0, none⟩)]] (by rfl) rfl rfl MT ?_
     with_reducible refine (slices_DeleteFunc_int.calls (fun k_ => some k_ = (.slice Ao52 t122.length co52 : Value).ownBlock) (.slice Ao52 t122.length co52) t122 ji30 gb115 t125 w _ ?side1 ?side2 ?side3 ?side4 A33.out).mono ?_
     (case side1 => exact K3 HB GE101.out GE102.out GE115.out)
     (case side2 => exact Kd.R_tight rfl HO124.out)
     (case side3 => exact (KB BK115))
     (case side4 => exact Kd.R_away (HO124.out) (fun _ hk => hk))
     rintro e w53 ⟨v126, rfl, ho0, hb, hkp⟩
     refine ⟨_, rfl, ?_⟩
     replace BK101 := am (blk_kept (KB BK101) hkp (fun hs_ => (fun e_ => (Kd.R_ne HO124.out BK101.out (by decide)) e_) hs_))
     replace BK102 := am (blk_kept (KB BK102) hkp (fun hs_ => (fun e_ => (Kd.R_ne HO124.out BK102.out (by decide)) e_) hs_))
     have HO127 := am (Kd.R_mono (ok' := fun k_ => k_ ≠ gb115) ho0 (fun k_ hk_ => Or.elim hk_ (fun hs_ => fun e_ => (Kd.R_away HO124.out (fun _ hk => hk)) (by rw [← e_]; exact hs_)) (fun hn_ => (Kd.freshB (g := gb115) (o := .cells #[.int .i64 ji30] 3 (0, 0)) (KB BK115) k_ hn_))))
     replace BK115 := am (blk_kept (KB BK115) hkp (fun hs_ => (fun e_ => (Kd.R_away HO124.out (fun _ hk => hk)) e_) hs_))
     replace HB := am (hb)
     clear HO124
     (try clear hb)
     (try clear hkp)
     (try clear ho0)
     obtain ⟨Ao54, co54, eo54⟩ := Kd.R_slice HO127.out
     (first | subst eo54 | (injection eo54 with f1_ f2_ f3_; have f4_ := f1_.symm; have f5_ := f3_.symm; clear f1_ f2_ f3_; subst f4_; subst f5_))
     refine hK.out _ _ (z0 _ BK115.out) (fun hHeld => ?_)
     clear hK K
     refine norm_ (a' := ?_) ?_ ?_
     rotate_left
     ·show Act.put _ (some 53) _ = _
      simp only [Act.put, List.setIfInBounds_toArray, List.set_cons_zero, List.set_cons_succ, i64_w, i32_w]
      rfl
     refine pure_ (i := 4) (N := some 54) (v := ?_) (a' := ?_) (tf 5 2) rfl rfl (by kernel_rfl) (fun _ _ _ h => h) (Or.inl ⟨by rfl, ?_⟩) ?_ ?_; rotate_left; (· intro w'; go_simp; with_reducible rfl); rotate_left; (· simp only [Act.put, List.setIfInBounds_toArray, List.set_cons_zero, List.set_cons_succ, i64_w, i32_w]; rfl)
     refine one_ (i := 5) (N := none) (tf 6 1) rfl rfl (by kernel_rfl) (by decide) (fun K hK => ?_)
     have hs55 : w53.cell? ⟨gb102, 0, none⟩ = some (.int .i64 0) := z0 _ BK102.out
     have hfs55 := blk_frozen BK102.out 0
     have hns55_0 := NB101_102.out
     have hns55_2 := NB115_102.out
     have hms55_0 := NB102_101.out
     have hms55_2 := NB102_115.out
     have hs56 : w53.cell? ⟨gb102, 1, none⟩ = some (.slice none 0 0) := z1 _ BK102.out
     have hfs56 := blk_frozen BK102.out 1
     have hns56_0 := NB101_102.out
     have hns56_2 := NB115_102.out
     have hms56_0 := NB102_101.out
     have hms56_2 := NB102_115.out
     refine skip_ (w1 := ?_) (by rfl) rfl ?_ ?_
     rotate_left
     ·go_simp
      rfl
     refine hK.out _ _ (((cell_far (p := ⟨gb102, _, none⟩) NB115_102.out _).trans (((cell_far (p := ⟨gb102, _, none⟩) NB115_102.out _).trans (hHeld))))) (fun hHeld => ?_)
     clear hK K
     refine pure_ (i := 6) (N := some 5) (v := ?_) (a' := ?_) (tf 7 0) rfl rfl (by kernel_rfl) (fun _ _ _ h => h) (Or.inl ⟨by rfl, ?_⟩) ?_ ?_; rotate_left; (· intro w'; go_simp; with_reducible rfl); rotate_left; (· simp only [Act.put, List.setIfInBounds_toArray, List.set_cons_zero, List.set_cons_succ, i64_w, i32_w]; rfl)
     refine done_ (by kernel_rfl) ?_
     try go_wp2
     refine bodyPost_ret (results_ct rfl _ _ gb102 31 #[.int .i64 ji30, .slice Ao54 t125.length co54] (0, 0) _ rfl (by (with_reducible repeat (first | refine blk_drewN ?_ _ | refine blk_drew ?_ | refine blk_alloc ?_ _)); refine blk_put (cs := #[.int .i64 ji30, .slice none 0 0]) ?_ 1 _ rfl; (with_reducible repeat (first | refine blk_drewN ?_ _ | refine blk_drew ?_ | refine blk_alloc ?_ _)); refine blk_put (cs := #[.int .i64 0, .slice none 0 0]) ?_ 0 _ rfl; (with_reducible repeat (first | refine blk_drewN ?_ _ | refine blk_drew ?_ | refine blk_alloc ?_ _)); exact BK102.out) Try.underlying31 rfl (by kernel_rfl)) rfl ?_
     exact ⟨_, by first | rfl | (simp [errW_none, errW_some] <;> rfl) | (simp only [← hji30]; first | rfl | (simp [errW_none, errW_some] <;> rfl)) | (simp [*, errW_none, errW_some] <;> rfl), by (with_reducible repeat (first | apply Kd.R_alloc | apply Kd.R_drewN | apply Kd.R_drew)); exact Kd.R_mono (Kd.R_far (p := ⟨gb102, 1, none⟩) (Kd.R_far (p := ⟨gb102, 0, none⟩) (Kd.R_types HO127.out BK102.out (by decide)) (fun _ hk => hk.2) (.int .i64 ji30)) (fun _ hk => hk.2) (.slice Ao54 t125.length co54)) (fun _ hk => trivial), K3 HB GE101.out GE102.out GE115.out⟩
  ·replace c7 := Bool.eq_false_iff.mpr c7
   subst c7
   have H1 : ((impl_Window_copied.f a0_0 l0_1).bind fun bt128 => (some (bt128.1, bt128.2, 1))) = some (r1, r2, r3) := by rw [if_neg (show ¬ (false = true) by decide)] at H; exact H
   clear H
   have H := H1
   clear H1
   replace H := Option.bind_eq_some_iff.mp H
   obtain ⟨⟨t128, t129⟩, A570, H⟩ := H
   replace H : (some (t128, t129, 1)) = some (r1, r2, r3) := H
   have A57 := Aside0.mk A570
   clear A570
   simp only [Option.some.injEq, Prod.mk.injEq] at H
   obtain ⟨rfl, rfl, rfl⟩ := H
   go_enter Try.func19, Try.ntmps19
   go_wp2_with (first | ((with_reducible refine gate_dst (N := 2) rfl ?_); refine box_event rfl (N := 2) rfl (cs := #[.int .i64 a0_0, .slice A0_1 l0_1.length c0_1]) (t := 31) BX ?_; intro gb101 hg w58 hbox hb; have BK101 := am (hbox); have GW101 := am (GH HB hg); have GE101 := GW101; replace HB := am (below_step (KL HB) hb); clear hb hbox hg) | ((with_reducible refine gate_dst (N := 4) rfl ?_); refine box_event rfl (N := 4) rfl (cs := #[.int .i64 0, .slice none 0 0]) (t := 31) BX ?_; intro gb102 hg w59 hbox hb; have BK102 := am (hbox); have GW102 := am (GH1 HB GE101.out hg); have GE102 := GW102; replace HB := am (below_step (K1 HB GE101.out) hb); have NB101_102 := am (NL BK101 hg); have NB102_101 := am (NG BK101 hg); replace BK101 := am (BB BK101 hb); clear hb hbox hg; have hnb60 := NB101_102.out; have hnc60 := NB102_101.out; obtain ⟨hcz61_0, hcz61_1, hfz61_0⟩ := y2 w59 BK101.out) | ((with_reducible refine gate_callee (f := 22) rfl ?_); refine goesL_ (some 11) rfl rfl Try.func22 (by kernel_rfl) rfl #[.agg #[.int .i64 a0_0, .slice A0_1 l0_1.length c0_1]] rfl MT ?_; (with_reducible refine (impl_WindowOk.calls k a0_0 _ _ l0_1 true _ ?side1 ?side2 A3.out).mono ?_); (case side1 => exact KD HR0_1 HB); (case side2 => exact HC0_1.out); rintro e w62 ⟨rfl, hb⟩; refine ⟨_, rfl, ?_⟩; replace BK101 := am (BB BK101 hb); replace BK102 := am (BB BK102 hb); replace HB := am (below_step (K2 HB GE101.out GE102.out) hb); (try clear hb); obtain ⟨hcz63_0, hcz63_1, hfz63_0⟩ := y2 w62 BK101.out) | ((with_reducible refine gate_callee (f := 48) rfl ?_); refine goesL_ (some 18) rfl rfl Try.func48 (by kernel_rfl) rfl #[.slice A0_1 l0_1.length c0_1, .int .i64 a1] rfl MT ?_; (with_reducible refine (slices_BinarySearch_int_int.calls k _ _ l0_1 a1 t104 t105 _ ?side1 ?side2 A5.out).mono ?_); (case side1 => exact KD HR0_1 HB); (case side2 => exact HC0_1.out); rintro e w' ⟨rfl, ⟨nd, rfl⟩⟩; refine ⟨_, rfl, ?_⟩; (try (rw [drewN_self w62]; generalize hq_ : World.drewN w62 _ = w62; replace BK101 : Aside0 (w62.heap[gb101]? = some (.cells #[.int .i64 a0_0, .slice A0_1 l0_1.length c0_1] 31 (0, 0))) := ⟨by rw [← hq_]; exact (KB BK101)⟩; replace BK102 : Aside0 (w62.heap[gb102]? = some (.cells #[.int .i64 0, .slice none 0 0] 31 (0, 0))) := ⟨by rw [← hq_]; exact (KB BK102)⟩; replace HB : Aside0 (Below w.heap.size w w62) := ⟨by rw [← hq_]; exact (K2 HB GE101.out GE102.out)⟩; clear hq_; (try obtain ⟨hcz63_0, hcz63_1, hfz63_0⟩ := y2 w62 BK101.out)))) | ((with_reducible refine gate_callee (f := 49) rfl ?_); refine goesL_ (some 23) rfl rfl Try.func49 (by kernel_rfl) rfl #[.int .i64 a1, .int .i64 1, .int .i64 1000000] rfl MT ?_; (with_reducible refine (impl_in.calls a1 1 1000000 false _ A6.out).mono ?_); rintro e w' ⟨rfl, ⟨nd, rfl⟩⟩; refine ⟨_, rfl, ?_⟩; (try (rw [drewN_self w62]; generalize hq_ : World.drewN w62 _ = w62; replace BK101 : Aside0 (w62.heap[gb101]? = some (.cells #[.int .i64 a0_0, .slice A0_1 l0_1.length c0_1] 31 (0, 0))) := ⟨by rw [← hq_]; exact (KB BK101)⟩; replace BK102 : Aside0 (w62.heap[gb102]? = some (.cells #[.int .i64 0, .slice none 0 0] 31 (0, 0))) := ⟨by rw [← hq_]; exact (KB BK102)⟩; replace HB : Aside0 (Below w.heap.size w w62) := ⟨by rw [← hq_]; exact (K2 HB GE101.out GE102.out)⟩; clear hq_; (try obtain ⟨hcz63_0, hcz63_1, hfz63_0⟩ := y2 w62 BK101.out)))) | ((with_reducible refine gate_callee (f := 50) rfl ?_); refine goesL_ (some 26) rfl rfl Try.func50 (by kernel_rfl) rfl #[.agg #[.int .i64 a0_0, .slice A0_1 l0_1.length c0_1]] rfl MT ?_; (with_reducible refine (impl_Window_copied.calls a0_0 _ _ l0_1 t128 t129 _ ?side1 ?side2 A57.out).mono ?_); (case side1 => exact KD HR0_1 HB); (case side2 => exact HC0_1.out); rintro e w64 ⟨v130, rfl, ho0, hb⟩; refine ⟨_, rfl, ?_⟩; have HO131 := am (Kd.R_lower ho0 (below_size (K2 HB GE101.out GE102.out))); replace BK101 := am (BB BK101 hb); replace BK102 := am (BB BK102 hb); replace HB := am (below_step (K2 HB GE101.out GE102.out) hb); (try clear hb); (try clear ho0); obtain ⟨hcz65_0, hcz65_1, hfz65_0⟩ := y2 w64 BK102.out; obtain ⟨Ao66, co66, eo66⟩ := Kd.R_slice HO131.out; subst eo66))
   refine bodyPost_ret (results_ct rfl _ _ gb102 31 #[.int .i64 t128, .slice Ao66 t129.length co66] (0, 0) _ rfl (by (with_reducible repeat (first | refine blk_drewN ?_ _ | refine blk_drew ?_ | refine blk_alloc ?_ _)); refine blk_put (cs := #[.int .i64 t128, .slice none 0 0]) ?_ 1 _ rfl; (with_reducible repeat (first | refine blk_drewN ?_ _ | refine blk_drew ?_ | refine blk_alloc ?_ _)); refine blk_put (cs := #[.int .i64 0, .slice none 0 0]) ?_ 0 _ rfl; (with_reducible repeat (first | refine blk_drewN ?_ _ | refine blk_drew ?_ | refine blk_alloc ?_ _)); exact BK102.out) Try.underlying31 rfl (by kernel_rfl)) rfl ?_
   exact ⟨_, ER, by (with_reducible repeat (first | apply Kd.R_alloc | apply Kd.R_drewN | apply Kd.R_drew)); exact Kd.R_mono (Kd.R_far (p := ⟨gb102, 1, none⟩) (Kd.R_far (p := ⟨gb102, 0, none⟩) (Kd.R_types HO131.out BK102.out (by decide)) (fun _ hk => hk.2) (.int .i64 t128)) (fun _ hk => hk.2) (.slice Ao66 t129.length co66)) (fun _ hk => trivial), K2 HB GE101.out GE102.out⟩
 ·replace c4 := Bool.eq_false_iff.mpr c4
  subst c4
  have H1 : (some (0, ([] : List Int), 1)) = some (r1, r2, r3) := by rw [if_neg (show ¬ (false = true) by decide)] at H; exact H
  clear H
  have H := H1
  clear H1
  simp only [Option.some.injEq, Prod.mk.injEq] at H
  obtain ⟨rfl, rfl, rfl⟩ := H
  go_enter Try.func19, Try.ntmps19
  go_wp2_with (first | ((with_reducible refine gate_dst (N := 2) rfl ?_); refine box_event rfl (N := 2) rfl (cs := #[.int .i64 a0_0, .slice A0_1 l0_1.length c0_1]) (t := 31) BX ?_; intro gb101 hg w67 hbox hb; have BK101 := am (hbox); have GW101 := am (GH HB hg); have GE101 := GW101; replace HB := am (below_step (KL HB) hb); clear hb hbox hg) | ((with_reducible refine gate_dst (N := 4) rfl ?_); refine box_event rfl (N := 4) rfl (cs := #[.int .i64 0, .slice none 0 0]) (t := 31) BX ?_; intro gb102 hg w68 hbox hb; have BK102 := am (hbox); have GW102 := am (GH1 HB GE101.out hg); have GE102 := GW102; replace HB := am (below_step (K1 HB GE101.out) hb); have NB101_102 := am (NL BK101 hg); have NB102_101 := am (NG BK101 hg); replace BK101 := am (BB BK101 hb); clear hb hbox hg; have hnb69 := NB101_102.out; have hnc69 := NB102_101.out; obtain ⟨hcz70_0, hcz70_1, hfz70_0⟩ := y2 w68 BK101.out) | ((with_reducible refine gate_callee (f := 22) rfl ?_); refine goesL_ (some 11) rfl rfl Try.func22 (by kernel_rfl) rfl #[.agg #[.int .i64 a0_0, .slice A0_1 l0_1.length c0_1]] rfl MT ?_; (with_reducible refine (impl_WindowOk.calls k a0_0 _ _ l0_1 false _ ?side1 ?side2 A3.out).mono ?_); (case side1 => exact KD HR0_1 HB); (case side2 => exact HC0_1.out); rintro e w71 ⟨rfl, hb⟩; refine ⟨_, rfl, ?_⟩; replace BK101 := am (BB BK101 hb); replace BK102 := am (BB BK102 hb); replace HB := am (below_step (K2 HB GE101.out GE102.out) hb); (try clear hb); obtain ⟨hcz72_0, hcz72_1, hfz72_0⟩ := y2 w71 BK102.out))
  refine bodyPost_ret (results_ct rfl _ _ gb102 31 #[.int .i64 0, .slice none 0 0] (0, 0) _ rfl (by (with_reducible repeat (first | refine blk_drewN ?_ _ | refine blk_drew ?_ | refine blk_alloc ?_ _)); refine blk_put (cs := #[.int .i64 0, .slice none 0 0]) ?_ 1 _ rfl; (with_reducible repeat (first | refine blk_drewN ?_ _ | refine blk_drew ?_ | refine blk_alloc ?_ _)); refine blk_put (cs := #[.int .i64 0, .slice none 0 0]) ?_ 0 _ rfl; (with_reducible repeat (first | refine blk_drewN ?_ _ | refine blk_drew ?_ | refine blk_alloc ?_ _)); exact BK102.out) Try.underlying31 rfl (by kernel_rfl)) rfl ?_
  exact ⟨_, ER, by first | exact Kd.R_nil _ _ _ _ _ | exact Kd.N_nil _ _ _ _ _ | exact Kd.V_nil _ _ _ _ _ | exact Kd.Q_nil _ _ _ _ _ | exact Kd.S_nil _ _ _ _ _, K2 HB GE101.out GE102.out⟩
def impl_WindowRun.l0 : Nat → List Int → List Int → Int → Int → Int → List Int → Option (List Int)
 | 0, _, _, _, _, _, _ => none
 | k + 1, x4, x12, x13, x14, x102000, x102001 => if x14 < x13 then (if 0 ≤ x14 then (if x14 < (x12.length : Int) then ((impl_WindowSee.f k x102000 x102001 (rd x12 x14)).bind fun bt103 => (if x4.length < 17592186044416 then (impl_WindowRun.l0 k (x4 ++ [bt103.2.2]) x12 x13 (wrap64 (x14 + 1)) bt103.1 bt103.2.1) else (none))) else (none)) else (none)) else (some x4)
def impl_WindowRun.f (k : Nat) (l0 : List Int) : Option (List Int) := if (l0.length : Int) > 60 then (some ([] : List Int)) else (impl_WindowRun.l0 k ([] : List Int) l0 (l0.length : Int) 0 0 ([] : List Int))
set_option maxHeartbeats 8000000 in
set_option maxRecDepth 100000 in
theorem impl_WindowRun.calls (k : Nat) (A0 : Option Addr) (c0 : Nat) (l0 : List Int) (r : List Int) (w : World) (hr0 : Kd.C (Kd.int .i64) w A0 l0.length l0) (hc0 : l0.length ≤ c0) (h : impl_WindowRun.f k l0 = some r) :
  Calls Try.prog 12 #[.slice A0 l0.length c0] w fun e w' => ∃ v0_ : Value, e = .returned (v0_) ∧ Kd.R (Kd.int .i64) 3 w' w.heap.size (fun _ => True) v0_ r ∧ Below w.heap.size w w' := by
 have hu31 := Try.underlying31
 have HR0 := Aside0.mk hr0
 have HC0 := Aside0.mk hc0
 clear hr0 hc0
 have HB := am (Below.refl w.heap.size w)
 have H : (if (l0.length : Int) > 60 then (some ([] : List Int)) else (impl_WindowRun.l0 k ([] : List Int) l0 (l0.length : Int) 0 0 ([] : List Int))) = some r := h
 clear h
 by_cases c2 : (l0.length : Int) > 60
 ·rw [if_pos c2] at H
  have c2b0 : decide (60 < (l0.length : Int)) = true := decide_eq_true c2
  have c2b1 : decide (60 < l0.length) = true := decide_eq_true (by omega)
  clear c2
  obtain rfl := Option.some.inj H
  go_enter Try.func12, Try.ntmps12
  go_wp2
  go_ret
  exact ⟨_, ER, by first | exact Kd.R_nil _ _ _ _ _ | exact Kd.N_nil _ _ _ _ _ | exact Kd.V_nil _ _ _ _ _ | exact Kd.Q_nil _ _ _ _ _ | exact Kd.S_nil _ _ _ _ _, KL HB⟩
 ·rw [if_neg c2] at H
  have c2b0 : decide (60 < (l0.length : Int)) = false := decide_eq_false c2
  have c2b1 : decide (60 < l0.length) = false := decide_eq_false (by omega)
  clear c2
  have H' := Aside0.mk H
  clear H
  go_enter Try.func12, Try.ntmps12
  go_wp2_with (first | ((with_reducible refine gate_dst (N := 3) rfl ?_); refine box_event rfl (N := 3) rfl (cs := #[.int .i64 0, .slice none 0 0]) (t := 31) BX ?_; intro gb101 hg w3 hbox hb; have BK101 := am (hbox); have GW101 := am (GH HB hg); have GE101 := GW101; replace HB := am (below_step (KL HB) hb); clear hb hbox hg))
  go_loopg [4, 14] k (fun kq v4 v14 w' => ∃ (x4_1 : List Int) (x14_1 : Int) (x102000_1 : Int) (x102001_1 : List Int) (u102001 : Value), v14 = .int .i64 x14_1 ∧ Aside0 (impl_WindowRun.l0 kq x4_1 l0 (l0.length : Int) x14_1 x102000_1 x102001_1 = some r) ∧ Aside0 (kq ≤ k) ∧ Aside0 (Kd.R (Kd.int .i64) 3 w' w.heap.size (fun k_ => some k_ ≠ (u102001 : Value).ownBlock) v4 x4_1) ∧ Aside0 (Kd.R (Kd.int .i64) 3 w' w.heap.size (fun k_ => some k_ ≠ (v4 : Value).ownBlock) u102001 x102001_1) ∧ Aside0 (w'.heap[gb101]? = some (.cells #[.int .i64 x102000_1, u102001] 31 (0, 0))) ∧ Aside0 (Below w.heap.size w w'))
  case atStart => exact ⟨(([] : List Int)), (0), (0), (([] : List Int)), (.slice none 0 0), (by first | rfl | (simp; done) | (simp [*]; done)), H', ⟨Nat.le_refl _⟩, ⟨by first | exact Kd.R_nil _ _ _ _ _ | exact Kd.N_nil _ _ _ _ _ | exact Kd.V_nil _ _ _ _ _ | exact Kd.Q_nil _ _ _ _ _ | exact Kd.S_nil _ _ _ _ _⟩, ⟨by first | exact Kd.R_nil _ _ _ _ _ | exact Kd.N_nil _ _ _ _ _ | exact Kd.V_nil _ _ _ _ _ | exact Kd.Q_nil _ _ _ _ _ | exact Kd.S_nil _ _ _ _ _⟩, ⟨KB BK101⟩, ⟨K1 HB GE101.out⟩⟩
  case round =>
   clear H'
   try clear c1
   try clear c2
   try clear c2b0
   try clear c2b1
   try clear p2
   obtain ⟨x4_1, x14_1, x102000_1, x102001_1, u102001, rfl, HA, HK1, HO_4, HO_102001, BK101, HB⟩ := hrel
   cases gk with
   | zero => exact absurd HA.out (by simp [impl_WindowRun.l0])
   | succ k1 =>
    have H := HA.out
    clear HA
    simp only [impl_WindowRun.l0] at H
    by_cases c4 : x14_1 < (l0.length : Int)
    ·rw [if_pos c4] at H
     have c4b0 : decide (x14_1 < (l0.length : Int)) = true := decide_eq_true c4
     clear c4
     by_cases c5 : 0 ≤ x14_1
     ·rw [if_pos c5] at H
      have c5b0 : decide (0 ≤ x14_1) = true := decide_eq_true c5
      clear c5
      by_cases c6 : x14_1 < (l0.length : Int)
      ·rw [if_pos c6] at H
       have c6b0 : decide (x14_1 < (l0.length : Int)) = true := decide_eq_true c6
       clear c6
       replace H := Option.bind_eq_some_iff.mp H
       obtain ⟨⟨t103, t104, t107⟩, A70, H⟩ := H
       replace H : (if x4_1.length < 17592186044416 then (impl_WindowRun.l0 k1 (x4_1 ++ [t107]) l0 (l0.length : Int) (wrap64 (x14_1 + 1)) t103 t104) else (none)) = some r := H
       have A7 := Aside0.mk A70
       clear A70
       by_cases c8 : x4_1.length < 17592186044416
       ·rw [if_pos c8] at H
        have LMc8 := Aside0.mk c8
        clear c8
        obtain ⟨y109, hy109⟩ : ∃ y_ : List Int, y_ = (x4_1 ++ [t107]) := ⟨_, rfl⟩
        replace H : (impl_WindowRun.l0 k1 y109 l0 (l0.length : Int) (wrap64 (x14_1 + 1)) t103 t104) = some r := by first | (rw [hy109]; with_reducible exact H) | (have H2_ := (Option.bind_some _ _).symm.trans H; rw [hy109]; with_reducible exact H2_) | (have H2_ := (Option.bind_some _ _).symm.trans H; with_reducible exact H2_) | with_reducible exact H | (rw [hy109]; exact H) | exact H
        have Ny109 := Aside0.mk hy109
        clear hy109
        have H' := Aside0.mk H
        clear H
        have p102 : 0 ≤ (x14_1 : Int) := OD
        have q102 : x14_1 < (l0.length : Int) := OD
        obtain ⟨ad102, e102, hx102_0⟩ := Kd.at_int HR0.out x14_1 p102 q102
        cases e102
        replace hx102_0 := CX HB.out hx102_0
        replace p102 := eq_true p102
        replace q102 := eq_true q102
        obtain ⟨hcz9_0, hcz9_1, hfz9_0⟩ := y2 wr BK101.out
        obtain ⟨Ao10, co10, eo10⟩ := Kd.R_slice HO_102001.out
        subst eo10
        go_wp2_with (first | ((with_reducible refine gate_callee (f := 19) rfl ?_); refine goesL_ (some 21) rfl rfl Try.func19 (by kernel_rfl) rfl #[.agg #[.int .i64 x102000_1, .slice Ao10 x102001_1.length co10], .int .i64 (rd l0 x14_1)] rfl MT ?_; (with_reducible refine (impl_WindowSee.calls k1 x102000_1 _ _ x102001_1 (rd l0 x14_1) t103 t104 t107 _ ?side1 ?side2 A7.out).mono ?_); (case side1 => exact KC (Kd.R_reads' HO_102001.out).2.2); (case side2 => exact (Kd.R_reads' HO_102001.out).2.1); rintro e w11 ⟨v105, rfl, ho0, hb⟩; refine ⟨_, rfl, ?_⟩; have HO106 := am (Kd.R_lower (Kd.R_new' (Kd.R_new' ho0 (Kd.R_lt (KR HO_4))) (Kd.R_lt (KR HO_102001))) (below_size (K1 HB GE101.out))); replace HO_4 := am (Kd.R_elder' (KR HO_4) (Kd.R_base ho0) hb); replace HO_102001 := am (Kd.R_elder' (KR HO_102001) (Kd.R_base ho0) hb); replace BK101 := am (BB BK101 hb); replace HB := am (below_step (K1 HB GE101.out) hb); (try clear hb); (try clear ho0)) | ((with_reducible refine gate_dst (N := 7) rfl ?_); refine box_event rfl (N := 7) rfl (cs := #[.int .i64 0, .slice none 0 0]) (t := 31) BX ?_; intro gb108 hg w12 hbox hb; replace HO_4 := am (Kd.R_below (KR HO_4) hb); replace HO_102001 := am (Kd.R_below (KR HO_102001) hb); replace HO106 := am (Kd.R_below (KR HO106) hb); have BK108 := am (hbox); have GW108 := am (GH1 HB GE101.out hg); have GE108 := GW108; replace HB := am (below_step (K1 HB GE101.out) hb); have NB101_108 := am (NL BK101 hg); have NB108_101 := am (NG BK101 hg); replace BK101 := am (BB BK101 hb); clear hb hbox hg; have hnb13 := NB108_101.out; have hnc13 := NB101_108.out; obtain ⟨hcz14_0, hcz14_1, hfz14_0⟩ := y2 w12 BK108.out; obtain ⟨Ao15, co15, eo15⟩ := Kd.R_slice HO106.out; subst eo15; obtain ⟨hcz16_0, hcz16_1, hfz16_0⟩ := y2 w12 BK101.out) | ((with_reducible refine gate_builtin (b := .append) (xs := #[.tmp 25, .tmp 27]) rfl ?_); at_builtin; refine Kd.R_append (Kd.int .i64) (w0 := w) w.heap.size rfl (.tmp 25) (.tmp 27) 22 3 (.int .i64 0) 8 rfl Try.underlying22 info3 rfl (by decide) (by omega) u4 x4_1 t107 [.int .i64 t107] (fun k_ => some k_ ≠ (.slice Ao10 x102001_1.length co10 : Value).ownBlock ∧ some k_ ≠ (.slice Ao15 t104.length co15 : Value).ownBlock) (fun _ => False) rfl (by first | (go_simp; done) | (go_simp; rfl)) ?aP (fun _ hk => hk.elim) ?aF ?aO ?aB ?aS ?aL ?_; (case aP => exact rfl); (case aB => exact (K2 HB GE101.out GE108.out)); (case aF => exact (fun k_ hk => ⟨Kd.fresh' (Kd.R_lt (by (with_reducible repeat (first | apply Kd.R_alloc | apply Kd.R_drewN | apply Kd.R_drew)); exact (Kd.R_mono (Kd.R_mono (Kd.R_far (p := ⟨gb101, 1, none⟩) (Kd.R_far (p := ⟨gb101, 0, none⟩) (Kd.R_far (p := ⟨gb108, 1, none⟩) (Kd.R_far (p := ⟨gb108, 0, none⟩) (Kd.R_types (Kd.R_types HO_102001.out BK108.out (by decide)) BK101.out (by decide)) (fun _ hk => hk.1.2) (.int .i64 t103)) (fun _ hk => hk.1.2) (.slice Ao15 t104.length co15)) (fun _ hk => hk.2) (.int .i64 t103)) (fun _ hk => hk.2) (.slice Ao15 t104.length co15)) (fun _ h_ => h_.1)) (fun _ h_ => h_.1)))) k_ hk, Kd.fresh' (Kd.R_lt (by (with_reducible repeat (first | apply Kd.R_alloc | apply Kd.R_drewN | apply Kd.R_drew)); exact (Kd.R_mono (Kd.R_mono (Kd.R_far (p := ⟨gb101, 1, none⟩) (Kd.R_far (p := ⟨gb101, 0, none⟩) (Kd.R_far (p := ⟨gb108, 1, none⟩) (Kd.R_far (p := ⟨gb108, 0, none⟩) (Kd.R_types (Kd.R_types HO106.out BK108.out (by decide)) BK101.out (by decide)) (fun _ hk => hk.1.2) (.int .i64 t103)) (fun _ hk => hk.1.2) (.slice Ao15 t104.length co15)) (fun _ hk => hk.2) (.int .i64 t103)) (fun _ hk => hk.2) (.slice Ao15 t104.length co15)) (fun _ h_ => h_.1)) (fun _ h_ => h_.1)))) k_ hk⟩)); (case aO => exact (by (with_reducible repeat (first | apply Kd.R_alloc | apply Kd.R_drewN | apply Kd.R_drew)); exact Kd.R_mono (Kd.R_far (p := ⟨gb101, 1, none⟩) (Kd.R_far (p := ⟨gb101, 0, none⟩) (Kd.R_far (p := ⟨gb108, 1, none⟩) (Kd.R_far (p := ⟨gb108, 0, none⟩) (Kd.R_types (Kd.R_types HO_4.out BK108.out (by decide)) BK101.out (by decide)) (fun _ hk => hk.1.2) (.int .i64 t103)) (fun _ hk => hk.1.2) (.slice Ao15 t104.length co15)) (fun _ hk => hk.2) (.int .i64 t103)) (fun _ hk => hk.2) (.slice Ao15 t104.length co15)) (fun _ hk => ⟨hk.1.1.1, hk.1.1.2⟩))); (case aS => exact (below_size (K2 HB GE101.out GE108.out))); (case aL => have := LMc8.out; omega); intro v110 w17 ho hb hg hat; rw [← Ny109.out] at ho; replace HO_102001 := am (Kd.R_after (ok := (fun k_ => some k_ ≠ (.slice Ao15 t104.length co15 : Value).ownBlock)) (by (with_reducible repeat (first | apply Kd.R_alloc | apply Kd.R_drewN | apply Kd.R_drew)); exact Kd.R_mono (Kd.R_far (p := ⟨gb101, 1, none⟩) (Kd.R_far (p := ⟨gb101, 0, none⟩) (Kd.R_far (p := ⟨gb108, 1, none⟩) (Kd.R_far (p := ⟨gb108, 0, none⟩) (Kd.R_types (Kd.R_types HO_102001.out BK108.out (by decide)) BK101.out (by decide)) (fun _ hk => hk.1.2) (.int .i64 t103)) (fun _ hk => hk.1.2) (.slice Ao15 t104.length co15)) (fun _ hk => hk.2) (.int .i64 t103)) (fun _ hk => hk.2) (.slice Ao15 t104.length co15)) (fun _ hk => ⟨hk.1.1.2, hk.1.1.1⟩)) hg hat); replace HO106 := am (Kd.R_after (ok := (fun k_ => some k_ ≠ (.slice Ao10 x102001_1.length co10 : Value).ownBlock)) (by (with_reducible repeat (first | apply Kd.R_alloc | apply Kd.R_drewN | apply Kd.R_drew)); exact Kd.R_mono (Kd.R_far (p := ⟨gb101, 1, none⟩) (Kd.R_far (p := ⟨gb101, 0, none⟩) (Kd.R_far (p := ⟨gb108, 1, none⟩) (Kd.R_far (p := ⟨gb108, 0, none⟩) (Kd.R_types (Kd.R_types HO106.out BK108.out (by decide)) BK101.out (by decide)) (fun _ hk => hk.1.2) (.int .i64 t103)) (fun _ hk => hk.1.2) (.slice Ao15 t104.length co15)) (fun _ hk => hk.2) (.int .i64 t103)) (fun _ hk => hk.2) (.slice Ao15 t104.length co15)) (fun _ hk => ⟨hk.1.1.2, hk.1.1.1.2⟩)) hg hat); replace BK101 := am (blk_grown (g := gb101) (o := .cells #[.int .i64 t103, .slice Ao15 t104.length co15] 31 (0, 0)) (by (with_reducible repeat (first | refine blk_drewN ?_ _ | refine blk_drew ?_ | refine blk_alloc ?_ _)); refine blk_put (cs := #[.int .i64 t103, .slice Ao10 x102001_1.length co10]) ?_ 1 _ rfl; (with_reducible repeat (first | refine blk_drewN ?_ _ | refine blk_drew ?_ | refine blk_alloc ?_ _)); refine blk_put (cs := #[.int .i64 x102000_1, .slice Ao10 x102001_1.length co10]) ?_ 0 _ rfl; (with_reducible repeat (first | refine blk_drewN ?_ _ | refine blk_drew ?_ | refine blk_alloc ?_ _)); refine blk_far ?_ NB101_108.out _; (with_reducible repeat (first | refine blk_drewN ?_ _ | refine blk_drew ?_ | refine blk_alloc ?_ _)); refine blk_far ?_ NB101_108.out _; (with_reducible repeat (first | refine blk_drewN ?_ _ | refine blk_drew ?_ | refine blk_alloc ?_ _)); exact BK101.out) hg (Kd.R_ne HO_4.out BK101.out (by decide))); replace BK108 := am (blk_grown (g := gb108) (o := .cells #[.int .i64 t103, .slice Ao15 t104.length co15] 31 (0, 0)) (by (with_reducible repeat (first | refine blk_drewN ?_ _ | refine blk_drew ?_ | refine blk_alloc ?_ _)); refine blk_far ?_ NB108_101.out _; (with_reducible repeat (first | refine blk_drewN ?_ _ | refine blk_drew ?_ | refine blk_alloc ?_ _)); refine blk_far ?_ NB108_101.out _; (with_reducible repeat (first | refine blk_drewN ?_ _ | refine blk_drew ?_ | refine blk_alloc ?_ _)); refine blk_put (cs := #[.int .i64 t103, .slice none 0 0]) ?_ 1 _ rfl; (with_reducible repeat (first | refine blk_drewN ?_ _ | refine blk_drew ?_ | refine blk_alloc ?_ _)); refine blk_put (cs := #[.int .i64 0, .slice none 0 0]) ?_ 0 _ rfl; (with_reducible repeat (first | refine blk_drewN ?_ _ | refine blk_drew ?_ | refine blk_alloc ?_ _)); exact BK108.out) hg (Kd.R_ne HO_4.out BK108.out (by decide))); replace HB := am (hb); have HO111 := am (ho); clear HO_4; clear ho hb hg hat))
        go_roundg k1
        case measure => have := HK1.out; omega
        case rel => exact ⟨(y109), (wrap64 (x14_1 + 1)), (t103), (t104), (.slice Ao15 t104.length co15), (by first | rfl | (simp; done) | (simp [*]; done)), H', ⟨by have := HK1.out; omega⟩, ⟨by (with_reducible repeat (first | apply Kd.R_alloc | apply Kd.R_drewN | apply Kd.R_drew)); exact Kd.R_mono HO111.out (fun _ hk => hk.2)⟩, ⟨by (with_reducible repeat (first | apply Kd.R_alloc | apply Kd.R_drewN | apply Kd.R_drew)); exact Kd.R_mono HO106.out (fun _ hk => hk.2)⟩, ⟨KB BK101⟩, ⟨K2 HB GE101.out GE108.out⟩⟩
       ·rw [if_neg c8] at H
        exact absurd H (by simp)
      ·rw [if_neg c6] at H
       exact absurd H (by simp)
     ·rw [if_neg c5] at H
      exact absurd H (by simp)
    ·rw [if_neg c4] at H
     have c4b0 : decide (x14_1 < (l0.length : Int)) = false := decide_eq_false c4
     clear c4
     obtain rfl := Option.some.inj H
     go_wp2
     go_ret
     exact ⟨_, ER, by (with_reducible repeat (first | apply Kd.R_alloc | apply Kd.R_drewN | apply Kd.R_drew)); exact Kd.R_mono HO_4.out (fun _ hk => trivial), K1 HB GE101.out⟩
mutual
def laws_FnWindowOnce.j0 : Nat → List Int → List Int → Bool → Option (Bool)
 | 0, _, _, _ => none
 | k + 1, x3, x4, x25 => if x25 = true then ((spec_WindowRun.f k x3).bind fun t111 => ((laws_ovInts.f k x4 t111).bind fun t114 => (some t114))) else (laws_FnWindowOnce.l0 k x3 x4 0 0)
def laws_FnWindowOnce.l0 : Nat → List Int → List Int → Int → Int → Option (Bool)
 | 0, _, _, _, _ => none
 | k + 1, x3, x4, x5, x6 => if x6 < (x3.length : Int) then (laws_FnWindowOnce.l1 k x3 x4 x5 x6 false 0) else (some ((x4.length : Int) == (x3.length : Int)))
def laws_FnWindowOnce.l1 : Nat → List Int → List Int → Int → Int → Bool → Int → Option (Bool)
 | 0, _, _, _, _, _, _ => none
 | k + 1, x3, x4, x5, x6, x7, x8 => if x8 < x6 then (if x7 = true then (laws_FnWindowOnce.l1 k x3 x4 x5 x6 true (wrap64 (x8 + 1))) else (if 0 ≤ x8 then (if x8 < (x4.length : Int) then (if (rd x4 x8) = 0 then (if x8 < (x3.length : Int) then (if 0 ≤ x6 then (if x6 < (x3.length : Int) then (laws_FnWindowOnce.l1 k x3 x4 x5 x6 ((rd x3 x8) == (rd x3 x6)) (wrap64 (x8 + 1))) else (none)) else (none)) else (none)) else (laws_FnWindowOnce.l1 k x3 x4 x5 x6 false (wrap64 (x8 + 1)))) else (none)) else (none))) else (if 0 ≤ x6 then (if x6 < (x4.length : Int) then (if (rd x4 x6) = 0 then (if x7 = true then (laws_FnWindowOnce.j3 k x3 x4 x5 x6 true) else (if (rd x4 x6) = 3 then (laws_FnWindowOnce.j3 k x3 x4 x5 x6 true) else (if x6 < (x3.length : Int) then (if (rd x3 x6) > x5 then (if (rd x3 x6) ≤ 1000000 then (if (rd x4 x6) = 2 then (laws_FnWindowOnce.j3 k x3 x4 x5 x6 (decide ((rd x3 x6) > (wrap64 (x5 - 16))))) else (laws_FnWindowOnce.j3 k x3 x4 x5 x6 false)) else (if (rd x4 x6) = 2 then (laws_FnWindowOnce.j3 k x3 x4 x5 x6 (decide ((rd x3 x6) > (wrap64 (x5 - 16))))) else (laws_FnWindowOnce.j3 k x3 x4 x5 x6 false))) else (if (rd x4 x6) = 2 then (laws_FnWindowOnce.j3 k x3 x4 x5 x6 (decide ((rd x3 x6) > (wrap64 (x5 - 16))))) else (laws_FnWindowOnce.j3 k x3 x4 x5 x6 false))) else (none)))) else (if (rd x4 x6) = 3 then (if x7 = true then (if x6 < (x3.length : Int) then (if (rd x3 x6) > x5 then (if (rd x3 x6) ≤ 1000000 then (laws_FnWindowOnce.j3 k x3 x4 x5 x6 true) else (if (rd x4 x6) = 2 then (laws_FnWindowOnce.j3 k x3 x4 x5 x6 (decide ((rd x3 x6) > (wrap64 (x5 - 16))))) else (laws_FnWindowOnce.j3 k x3 x4 x5 x6 false))) else (if (rd x4 x6) = 2 then (laws_FnWindowOnce.j3 k x3 x4 x5 x6 (decide ((rd x3 x6) > (wrap64 (x5 - 16))))) else (laws_FnWindowOnce.j3 k x3 x4 x5 x6 false))) else (none)) else (laws_FnWindowOnce.j3 k x3 x4 x5 x6 true)) else (if x6 < (x3.length : Int) then (if (rd x3 x6) > x5 then (if (rd x3 x6) ≤ 1000000 then (laws_FnWindowOnce.j3 k x3 x4 x5 x6 true) else (if (rd x4 x6) = 2 then (laws_FnWindowOnce.j3 k x3 x4 x5 x6 (decide ((rd x3 x6) > (wrap64 (x5 - 16))))) else (laws_FnWindowOnce.j3 k x3 x4 x5 x6 false))) else (if (rd x4 x6) = 2 then (laws_FnWindowOnce.j3 k x3 x4 x5 x6 (decide ((rd x3 x6) > (wrap64 (x5 - 16))))) else (laws_FnWindowOnce.j3 k x3 x4 x5 x6 false))) else (none)))) else (none)) else (none))
def laws_FnWindowOnce.j3 : Nat → List Int → List Int → Int → Int → Bool → Option (Bool)
 | 0, _, _, _, _, _ => none
 | k + 1, x3, x4, x5, x6, x116 => if x116 = true then (some false) else (if 0 ≤ x6 then (if x6 < (x4.length : Int) then (if (rd x4 x6) = 0 then (if x6 < (x3.length : Int) then (if (rd x3 x6) > x5 then (laws_FnWindowOnce.l0 k x3 x4 (rd x3 x6) (wrap64 (x6 + 1))) else (laws_FnWindowOnce.l0 k x3 x4 x5 (wrap64 (x6 + 1)))) else (none)) else (laws_FnWindowOnce.l0 k x3 x4 x5 (wrap64 (x6 + 1)))) else (none)) else (none))
end
def laws_FnWindowOnce.f (k : Nat) (l0 : List Int) : Option (Bool) := if (l0.length : Int) > 1048576 then (some true) else ((spec_DrawWindowRun.f k l0).bind fun t101 => ((impl_WindowRun.f k t101).bind fun t104 => ((spec_WindowRun.f k t101).bind fun t107 => ((laws_ovInts.f k t104 t107).bind fun t110 => (if t110 = true then (laws_FnWindowOnce.j0 k t101 t104 (decide ((t101.length : Int) > 60))) else (laws_FnWindowOnce.j0 k t101 t104 true))))))
set_option maxHeartbeats 8000000 in
set_option maxRecDepth 100000 in
theorem laws_FnWindowOnce.calls (k : Nat) (A0 : Option Addr) (c0 : Nat) (l0 : List Int) (r : Bool) (w : World) (hr0 : Kd.C (Kd.int .u8) w A0 l0.length l0) (hc0 : l0.length ≤ c0) (hr0_ : r = true) (h : laws_FnWindowOnce.f k l0 = some r) :
  Calls Try.prog 4 #[.slice A0 l0.length c0] w fun e w' => e = .returned (.bool r) ∧ Below w.heap.size w w' := by
 have HR0 := Aside0.mk hr0
 have HC0 := Aside0.mk hc0
 clear hr0 hc0
 have HB := am (Below.refl w.heap.size w)
 have H : (if (l0.length : Int) > 1048576 then (some true) else ((spec_DrawWindowRun.f k l0).bind fun t101 => ((impl_WindowRun.f k t101).bind fun t104 => ((spec_WindowRun.f k t101).bind fun t107 => ((laws_ovInts.f k t104 t107).bind fun t110 => (if t110 = true then (laws_FnWindowOnce.j0 k t101 t104 (decide ((t101.length : Int) > 60))) else (laws_FnWindowOnce.j0 k t101 t104 true))))))) = some r := h
 clear h
 have HR_ := Aside0.mk hr0_
 clear hr0_
 by_cases c2 : (l0.length : Int) > 1048576
 ·rw [if_pos c2] at H
  have c2b0 : decide (1048576 < (l0.length : Int)) = true := decide_eq_true c2
  have c2b1 : decide (1048576 < l0.length) = true := decide_eq_true (by omega)
  clear c2
  obtain rfl := Option.some.inj H
  go_enter Try.func4, Try.ntmps4
  go_wp2
  repeat (go_quiet (fail); try go_wp2)
  go_ret
  exact ⟨ER, KL HB⟩
 ·rw [if_neg c2] at H
  have c2b0 : decide (1048576 < (l0.length : Int)) = false := decide_eq_false c2
  have c2b1 : decide (1048576 < l0.length) = false := decide_eq_false (by omega)
  clear c2
  replace H := Option.bind_eq_some_iff.mp H
  obtain ⟨t101, A30, H⟩ := H
  replace H : ((impl_WindowRun.f k t101).bind fun t104 => ((spec_WindowRun.f k t101).bind fun t107 => ((laws_ovInts.f k t104 t107).bind fun t110 => (if t110 = true then (laws_FnWindowOnce.j0 k t101 t104 (decide ((t101.length : Int) > 60))) else (laws_FnWindowOnce.j0 k t101 t104 true))))) = some r := H
  have A3 := Aside0.mk A30
  clear A30
  replace H := Option.bind_eq_some_iff.mp H
  obtain ⟨t104, A40, H⟩ := H
  replace H : ((spec_WindowRun.f k t101).bind fun t107 => ((laws_ovInts.f k t104 t107).bind fun t110 => (if t110 = true then (laws_FnWindowOnce.j0 k t101 t104 (decide ((t101.length : Int) > 60))) else (laws_FnWindowOnce.j0 k t101 t104 true)))) = some r := H
  have A4 := Aside0.mk A40
  clear A40
  have HC5 := Aside0.mk H
  clear H
  go_enter Try.func4, Try.ntmps4
  go_upto_region 5 with (first | (go_at_call 16; (with_reducible refine (spec_DrawWindowRun.calls k _ _ l0 t101 _ ?side1 ?side2 A3.out).mono ?_); (case side1 => exact KC HR0.out); (case side2 => exact HC0.out); rintro e w6 ⟨v102, rfl, ho0, hb⟩; have HO103 := am (Kd.R_lower ho0 (below_size (KL HB))); replace HB := am (below_step (KL HB) hb); (try clear hb); (try clear ho0); obtain ⟨Ao7, co7, eo7⟩ := Kd.R_slice HO103.out; subst eo7) | (go_at_call 12; (with_reducible refine (impl_WindowRun.calls k _ _ t101 t104 _ ?side1 ?side2 A4.out).mono ?_); (case side1 => exact KC (Kd.R_reads' HO103.out).2.2); (case side2 => exact (Kd.R_reads' HO103.out).2.1); rintro e w8 ⟨v105, rfl, ho0, hb⟩; have HO106 := am (Kd.R_lower (Kd.R_new' ho0 (Kd.R_lt (KR HO103))) (below_size (KL HB))); replace HO103 := am (Kd.R_elder' (KR HO103) (Kd.R_base ho0) hb); replace HB := am (below_step (KL HB) hb); (try clear hb); (try clear ho0)))
  repeat (go_quiet (first | (go_at_call 16; (with_reducible refine (spec_DrawWindowRun.calls k _ _ l0 t101 _ ?side1 ?side2 A3.out).mono ?_); (case side1 => exact KC HR0.out); (case side2 => exact HC0.out); clear A3; rintro e w6 ⟨v102, rfl, ho0, hb⟩; have HO103 := am (Kd.R_lower ho0 (below_size (KL HB))); replace HB := am (below_step (KL HB) hb); (try clear hb); (try clear ho0); obtain ⟨Ao7, co7, eo7⟩ := Kd.R_slice HO103.out; subst eo7) | (go_at_call 12; (with_reducible refine (impl_WindowRun.calls k _ _ t101 t104 _ ?side1 ?side2 A4.out).mono ?_); (case side1 => exact KC (Kd.R_reads' HO103.out).2.2); (case side2 => exact (Kd.R_reads' HO103.out).2.1); clear A4; rintro e w8 ⟨v105, rfl, ho0, hb⟩; have HO106 := am (Kd.R_lower (Kd.R_new' ho0 (Kd.R_lt (KR HO103))) (below_size (KL HB))); replace HO103 := am (Kd.R_elder' (KR HO103) (Kd.R_base ho0) hb); replace HB := am (below_step (KL HB) hb); (try clear hb); (try clear ho0))); go_upto_region 5 with (first | (go_at_call 16; (with_reducible refine (spec_DrawWindowRun.calls k _ _ l0 t101 _ ?side1 ?side2 A3.out).mono ?_); (case side1 => exact KC HR0.out); (case side2 => exact HC0.out); rintro e w6 ⟨v102, rfl, ho0, hb⟩; have HO103 := am (Kd.R_lower ho0 (below_size (KL HB))); replace HB := am (below_step (KL HB) hb); (try clear hb); (try clear ho0); obtain ⟨Ao7, co7, eo7⟩ := Kd.R_slice HO103.out; subst eo7) | (go_at_call 12; (with_reducible refine (impl_WindowRun.calls k _ _ t101 t104 _ ?side1 ?side2 A4.out).mono ?_); (case side1 => exact KC (Kd.R_reads' HO103.out).2.2); (case side2 => exact (Kd.R_reads' HO103.out).2.1); rintro e w8 ⟨v105, rfl, ho0, hb⟩; have HO106 := am (Kd.R_lower (Kd.R_new' ho0 (Kd.R_lt (KR HO103))) (below_size (KL HB))); replace HO103 := am (Kd.R_elder' (KR HO103) (Kd.R_base ho0) hb); replace HB := am (below_step (KL HB) hb); (try clear hb); (try clear ho0))))
  (try simp only [Act.put, List.setIfInBounds_toArray, List.set_cons_zero, List.set_cons_succ])
  go_cut [25] (fun v25 wc => ∃ (kq : Nat) (x25_4 : Bool), v25 = .bool x25_4 ∧ Aside0 (laws_FnWindowOnce.j0 kq t101 t104 x25_4 = some r) ∧ Aside0 (kq ≤ k) ∧ Aside0 (Kd.R (Kd.int .i64) 3 wc w.heap.size (fun k_ => some k_ ≠ (v105 : Value).ownBlock) (.slice Ao7 t101.length co7) t101) ∧ Aside0 (Kd.R (Kd.int .i64) 3 wc w.heap.size (fun k_ => some k_ ≠ ((.slice Ao7 t101.length co7) : Value).ownBlock) v105 t104) ∧ Aside0 (Below w.heap.size w wc))
  case first =>
   have H := HC5.out
   clear HC5
   replace H := Option.bind_eq_some_iff.mp H
   obtain ⟨t107, A90, H⟩ := H
   replace H : ((laws_ovInts.f k t104 t107).bind fun t110 => (if t110 = true then (laws_FnWindowOnce.j0 k t101 t104 (decide ((t101.length : Int) > 60))) else (laws_FnWindowOnce.j0 k t101 t104 true))) = some r := H
   have A9 := Aside0.mk A90
   clear A90
   replace H := Option.bind_eq_some_iff.mp H
   obtain ⟨t110, A100, H⟩ := H
   replace H : (if t110 = true then (laws_FnWindowOnce.j0 k t101 t104 (decide ((t101.length : Int) > 60))) else (laws_FnWindowOnce.j0 k t101 t104 true)) = some r := H
   have A10 := Aside0.mk A100
   clear A100
   by_cases c11 : t110 = true
   ·subst c11
    have H1 : (laws_FnWindowOnce.j0 k t101 t104 (decide ((t101.length : Int) > 60))) = some r := by rw [if_pos rfl] at H; exact H
    clear H
    have H := H1
    clear H1
    have H' := Aside0.mk H
    clear H
    go_wp2_with (first | (go_at_call 10; (with_reducible refine (spec_WindowRun.calls k _ _ t101 t107 _ ?side1 ?side2 A9.out).mono ?_); (case side1 => exact KC (Kd.R_reads' HO103.out).2.2); (case side2 => exact (Kd.R_reads' HO103.out).2.1); rintro e w12 ⟨v108, rfl, ho0, hb⟩; have HO109 := am (Kd.R_lower (Kd.R_new' (Kd.R_new' ho0 (Kd.R_lt (KR HO103))) (Kd.R_lt (KR HO106))) (below_size (KL HB))); replace HO103 := am (Kd.R_elder' (KR HO103) (Kd.R_base ho0) hb); replace HO106 := am (Kd.R_elder' (KR HO106) (Kd.R_base ho0) hb); replace HB := am (below_step (KL HB) hb); (try clear hb); (try clear ho0); obtain ⟨Ao13, co13, eo13⟩ := Kd.R_slice HO106.out; subst eo13; obtain ⟨Ao14, co14, eo14⟩ := Kd.R_slice HO109.out; subst eo14) | (go_at_call 17; (with_reducible refine (laws_ovInts.calls k _ _ t104 _ _ t107 true _ ?side1 ?side2 ?side3 ?side4 A10.out).mono ?_); (case side1 => exact KC (Kd.R_reads' HO106.out).2.2); (case side2 => exact (Kd.R_reads' HO106.out).2.1); (case side3 => exact KC (Kd.R_reads' HO109.out).2.2); (case side4 => exact (Kd.R_reads' HO109.out).2.1); rintro e w' ⟨rfl, ⟨nd, rfl⟩⟩; (try first | exact ⟨rfl, _, World.drewN_drewN _ _ _⟩ | exact ⟨rfl, _, Eq.trans (World.drewN_drewN _ _ _) (congrArg (World.drewN _) (Nat.add_assoc _ _ _))⟩)))
    repeat (go_quiet (first | (go_at_call 10; (with_reducible refine (spec_WindowRun.calls k _ _ t101 t107 _ ?side1 ?side2 A9.out).mono ?_); (case side1 => exact KC (Kd.R_reads' HO103.out).2.2); (case side2 => exact (Kd.R_reads' HO103.out).2.1); clear A9; rintro e w12 ⟨v108, rfl, ho0, hb⟩; have HO109 := am (Kd.R_lower (Kd.R_new' (Kd.R_new' ho0 (Kd.R_lt (KR HO103))) (Kd.R_lt (KR HO106))) (below_size (KL HB))); replace HO103 := am (Kd.R_elder' (KR HO103) (Kd.R_base ho0) hb); replace HO106 := am (Kd.R_elder' (KR HO106) (Kd.R_base ho0) hb); replace HB := am (below_step (KL HB) hb); (try clear hb); (try clear ho0); obtain ⟨Ao13, co13, eo13⟩ := Kd.R_slice HO106.out; subst eo13; obtain ⟨Ao14, co14, eo14⟩ := Kd.R_slice HO109.out; subst eo14) | (go_at_call 17; (with_reducible refine (laws_ovInts.calls k _ _ t104 _ _ t107 true _ ?side1 ?side2 ?side3 ?side4 A10.out).mono ?_); (case side1 => exact KC (Kd.R_reads' HO106.out).2.2); (case side2 => exact (Kd.R_reads' HO106.out).2.1); (case side3 => exact KC (Kd.R_reads' HO109.out).2.2); (case side4 => exact (Kd.R_reads' HO109.out).2.1); clear A10; rintro e w' ⟨rfl, ⟨nd, rfl⟩⟩; (try first | exact ⟨rfl, _, World.drewN_drewN _ _ _⟩ | exact ⟨rfl, _, Eq.trans (World.drewN_drewN _ _ _) (congrArg (World.drewN _) (Nat.add_assoc _ _ _))⟩))); try go_wp2_with (first | (go_at_call 10; (with_reducible refine (spec_WindowRun.calls k _ _ t101 t107 _ ?side1 ?side2 A9.out).mono ?_); (case side1 => exact KC (Kd.R_reads' HO103.out).2.2); (case side2 => exact (Kd.R_reads' HO103.out).2.1); rintro e w12 ⟨v108, rfl, ho0, hb⟩; have HO109 := am (Kd.R_lower (Kd.R_new' (Kd.R_new' ho0 (Kd.R_lt (KR HO103))) (Kd.R_lt (KR HO106))) (below_size (KL HB))); replace HO103 := am (Kd.R_elder' (KR HO103) (Kd.R_base ho0) hb); replace HO106 := am (Kd.R_elder' (KR HO106) (Kd.R_base ho0) hb); replace HB := am (below_step (KL HB) hb); (try clear hb); (try clear ho0); obtain ⟨Ao13, co13, eo13⟩ := Kd.R_slice HO106.out; subst eo13; obtain ⟨Ao14, co14, eo14⟩ := Kd.R_slice HO109.out; subst eo14) | (go_at_call 17; (with_reducible refine (laws_ovInts.calls k _ _ t104 _ _ t107 true _ ?side1 ?side2 ?side3 ?side4 A10.out).mono ?_); (case side1 => exact KC (Kd.R_reads' HO106.out).2.2); (case side2 => exact (Kd.R_reads' HO106.out).2.1); (case side3 => exact KC (Kd.R_reads' HO109.out).2.2); (case side4 => exact (Kd.R_reads' HO109.out).2.1); rintro e w' ⟨rfl, ⟨nd, rfl⟩⟩; (try first | exact ⟨rfl, _, World.drewN_drewN _ _ _⟩ | exact ⟨rfl, _, Eq.trans (World.drewN_drewN _ _ _) (congrArg (World.drewN _) (Nat.add_assoc _ _ _))⟩))))
    go_meet
    case rel => exact ⟨_, (decide ((t101.length : Int) > 60)), (by first | rfl | (simp; done) | (simp [*]; done)), H', ⟨by first | omega | exact Nat.le_refl _⟩, ⟨by (with_reducible repeat (first | apply Kd.R_alloc | apply Kd.R_drewN | apply Kd.R_drew)); exact Kd.R_mono HO103.out (fun _ hk => hk.1.2)⟩, ⟨by (with_reducible repeat (first | apply Kd.R_alloc | apply Kd.R_drewN | apply Kd.R_drew)); exact Kd.R_mono HO106.out (fun _ hk => hk.1.2)⟩, ⟨KL HB⟩⟩
   ·replace c11 := Bool.eq_false_iff.mpr c11
    subst c11
    have H1 : (laws_FnWindowOnce.j0 k t101 t104 true) = some r := by rw [if_neg (show ¬ (false = true) by decide)] at H; exact H
    clear H
    have H := H1
    clear H1
    have H' := Aside0.mk H
    clear H
    go_wp2_with (first | (go_at_call 10; (with_reducible refine (spec_WindowRun.calls k _ _ t101 t107 _ ?side1 ?side2 A9.out).mono ?_); (case side1 => exact KC (Kd.R_reads' HO103.out).2.2); (case side2 => exact (Kd.R_reads' HO103.out).2.1); rintro e w15 ⟨v108, rfl, ho0, hb⟩; have HO109 := am (Kd.R_lower (Kd.R_new' (Kd.R_new' ho0 (Kd.R_lt (KR HO103))) (Kd.R_lt (KR HO106))) (below_size (KL HB))); replace HO103 := am (Kd.R_elder' (KR HO103) (Kd.R_base ho0) hb); replace HO106 := am (Kd.R_elder' (KR HO106) (Kd.R_base ho0) hb); replace HB := am (below_step (KL HB) hb); (try clear hb); (try clear ho0); obtain ⟨Ao16, co16, eo16⟩ := Kd.R_slice HO106.out; subst eo16; obtain ⟨Ao17, co17, eo17⟩ := Kd.R_slice HO109.out; subst eo17) | (go_at_call 17; (with_reducible refine (laws_ovInts.calls k _ _ t104 _ _ t107 false _ ?side1 ?side2 ?side3 ?side4 A10.out).mono ?_); (case side1 => exact KC (Kd.R_reads' HO106.out).2.2); (case side2 => exact (Kd.R_reads' HO106.out).2.1); (case side3 => exact KC (Kd.R_reads' HO109.out).2.2); (case side4 => exact (Kd.R_reads' HO109.out).2.1); rintro e w' ⟨rfl, ⟨nd, rfl⟩⟩; (try first | exact ⟨rfl, _, World.drewN_drewN _ _ _⟩ | exact ⟨rfl, _, Eq.trans (World.drewN_drewN _ _ _) (congrArg (World.drewN _) (Nat.add_assoc _ _ _))⟩)))
    repeat (go_quiet (first | (go_at_call 10; (with_reducible refine (spec_WindowRun.calls k _ _ t101 t107 _ ?side1 ?side2 A9.out).mono ?_); (case side1 => exact KC (Kd.R_reads' HO103.out).2.2); (case side2 => exact (Kd.R_reads' HO103.out).2.1); clear A9; rintro e w15 ⟨v108, rfl, ho0, hb⟩; have HO109 := am (Kd.R_lower (Kd.R_new' (Kd.R_new' ho0 (Kd.R_lt (KR HO103))) (Kd.R_lt (KR HO106))) (below_size (KL HB))); replace HO103 := am (Kd.R_elder' (KR HO103) (Kd.R_base ho0) hb); replace HO106 := am (Kd.R_elder' (KR HO106) (Kd.R_base ho0) hb); replace HB := am (below_step (KL HB) hb); (try clear hb); (try clear ho0); obtain ⟨Ao16, co16, eo16⟩ := Kd.R_slice HO106.out; subst eo16; obtain ⟨Ao17, co17, eo17⟩ := Kd.R_slice HO109.out; subst eo17) | (go_at_call 17; (with_reducible refine (laws_ovInts.calls k _ _ t104 _ _ t107 false _ ?side1 ?side2 ?side3 ?side4 A10.out).mono ?_); (case side1 => exact KC (Kd.R_reads' HO106.out).2.2); (case side2 => exact (Kd.R_reads' HO106.out).2.1); (case side3 => exact KC (Kd.R_reads' HO109.out).2.2); (case side4 => exact (Kd.R_reads' HO109.out).2.1); clear A10; rintro e w' ⟨rfl, ⟨nd, rfl⟩⟩; (try first | exact ⟨rfl, _, World.drewN_drewN _ _ _⟩ | exact ⟨rfl, _, Eq.trans (World.drewN_drewN _ _ _) (congrArg (World.drewN _) (Nat.add_assoc _ _ _))⟩))); try go_wp2_with (first | (go_at_call 10; (with_reducible refine (spec_WindowRun.calls k _ _ t101 t107 _ ?side1 ?side2 A9.out).mono ?_); (case side1 => exact KC (Kd.R_reads' HO103.out).2.2); (case side2 => exact (Kd.R_reads' HO103.out).2.1); rintro e w15 ⟨v108, rfl, ho0, hb⟩; have HO109 := am (Kd.R_lower (Kd.R_new' (Kd.R_new' ho0 (Kd.R_lt (KR HO103))) (Kd.R_lt (KR HO106))) (below_size (KL HB))); replace HO103 := am (Kd.R_elder' (KR HO103) (Kd.R_base ho0) hb); replace HO106 := am (Kd.R_elder' (KR HO106) (Kd.R_base ho0) hb); replace HB := am (below_step (KL HB) hb); (try clear hb); (try clear ho0); obtain ⟨Ao16, co16, eo16⟩ := Kd.R_slice HO106.out; subst eo16; obtain ⟨Ao17, co17, eo17⟩ := Kd.R_slice HO109.out; subst eo17) | (go_at_call 17; (with_reducible refine (laws_ovInts.calls k _ _ t104 _ _ t107 false _ ?side1 ?side2 ?side3 ?side4 A10.out).mono ?_); (case side1 => exact KC (Kd.R_reads' HO106.out).2.2); (case side2 => exact (Kd.R_reads' HO106.out).2.1); (case side3 => exact KC (Kd.R_reads' HO109.out).2.2); (case side4 => exact (Kd.R_reads' HO109.out).2.1); rintro e w' ⟨rfl, ⟨nd, rfl⟩⟩; (try first | exact ⟨rfl, _, World.drewN_drewN _ _ _⟩ | exact ⟨rfl, _, Eq.trans (World.drewN_drewN _ _ _) (congrArg (World.drewN _) (Nat.add_assoc _ _ _))⟩))))
    go_meet
    case rel => exact ⟨_, (true), (by first | rfl | (simp; done) | (simp [*]; done)), H', ⟨by first | omega | exact Nat.le_refl _⟩, ⟨by (with_reducible repeat (first | apply Kd.R_alloc | apply Kd.R_drewN | apply Kd.R_drew)); exact Kd.R_mono HO103.out (fun _ hk => hk.1.2)⟩, ⟨by (with_reducible repeat (first | apply Kd.R_alloc | apply Kd.R_drewN | apply Kd.R_drew)); exact Kd.R_mono HO106.out (fun _ hk => hk.1.2)⟩, ⟨KL HB⟩⟩
  case rest =>
   clear HC5
   try clear c1
   try clear c2
   try clear c2b0
   try clear c2b1
   try clear p2
   try clear c4
   try clear c11
   obtain ⟨kq, x25_4, rfl, HA, HJ4, HO_3, HO_4, HB⟩ := hcut
   cases kq with
   | zero => exact absurd HA.out (by simp [laws_FnWindowOnce.j0])
   | succ kj4 =>
    have H := HA.out
    clear HA
    simp only [laws_FnWindowOnce.j0] at H
    by_cases c18 : x25_4 = true
    ·subst c18
     have H1 : ((spec_WindowRun.f kj4 t101).bind fun t111 => ((laws_ovInts.f kj4 t104 t111).bind fun t114 => (some t114))) = some r := by rw [if_pos rfl] at H; exact H
     clear H
     have H := H1
     clear H1
     replace H := Option.bind_eq_some_iff.mp H
     obtain ⟨t111, A190, H⟩ := H
     replace H : ((laws_ovInts.f kj4 t104 t111).bind fun t114 => (some t114)) = some r := H
     have A19 := Aside0.mk A190
     clear A190
     replace H := Option.bind_eq_some_iff.mp H
     obtain ⟨t114, A200, H⟩ := H
     replace H : (some t114) = some r := H
     have A20 := Aside0.mk A200
     clear A200
     obtain rfl := Option.some.inj H
     go_wp2_with (first | (go_at_call 10; (with_reducible refine (spec_WindowRun.calls kj4 _ _ t101 t111 _ ?side1 ?side2 A19.out).mono ?_); (case side1 => exact KC (Kd.R_reads' HO_3.out).2.2); (case side2 => exact (Kd.R_reads' HO_3.out).2.1); rintro e w21 ⟨v112, rfl, ho0, hb⟩; have HO113 := am (Kd.R_lower (Kd.R_new' (Kd.R_new' ho0 (Kd.R_lt (KR HO_3))) (Kd.R_lt (KR HO_4))) (below_size (KL HB))); replace HO_3 := am (Kd.R_elder' (KR HO_3) (Kd.R_base ho0) hb); replace HO_4 := am (Kd.R_elder' (KR HO_4) (Kd.R_base ho0) hb); replace HB := am (below_step (KL HB) hb); (try clear hb); (try clear ho0); obtain ⟨Ao22, co22, eo22⟩ := Kd.R_slice HO_4.out; subst eo22; obtain ⟨Ao23, co23, eo23⟩ := Kd.R_slice HO113.out; subst eo23) | (go_at_call 17; (with_reducible refine (laws_ovInts.calls kj4 _ _ t104 _ _ t111 t114 _ ?side1 ?side2 ?side3 ?side4 A20.out).mono ?_); (case side1 => exact KC (Kd.R_reads' HO_4.out).2.2); (case side2 => exact (Kd.R_reads' HO_4.out).2.1); (case side3 => exact KC (Kd.R_reads' HO113.out).2.2); (case side4 => exact (Kd.R_reads' HO113.out).2.1); rintro e w' ⟨rfl, ⟨nd, rfl⟩⟩; (try first | exact ⟨rfl, _, World.drewN_drewN _ _ _⟩ | exact ⟨rfl, _, Eq.trans (World.drewN_drewN _ _ _) (congrArg (World.drewN _) (Nat.add_assoc _ _ _))⟩)))
     repeat (go_quiet (first | (go_at_call 10; (with_reducible refine (spec_WindowRun.calls kj4 _ _ t101 t111 _ ?side1 ?side2 A19.out).mono ?_); (case side1 => exact KC (Kd.R_reads' HO_3.out).2.2); (case side2 => exact (Kd.R_reads' HO_3.out).2.1); clear A19; rintro e w21 ⟨v112, rfl, ho0, hb⟩; have HO113 := am (Kd.R_lower (Kd.R_new' (Kd.R_new' ho0 (Kd.R_lt (KR HO_3))) (Kd.R_lt (KR HO_4))) (below_size (KL HB))); replace HO_3 := am (Kd.R_elder' (KR HO_3) (Kd.R_base ho0) hb); replace HO_4 := am (Kd.R_elder' (KR HO_4) (Kd.R_base ho0) hb); replace HB := am (below_step (KL HB) hb); (try clear hb); (try clear ho0); obtain ⟨Ao22, co22, eo22⟩ := Kd.R_slice HO_4.out; subst eo22; obtain ⟨Ao23, co23, eo23⟩ := Kd.R_slice HO113.out; subst eo23) | (go_at_call 17; (with_reducible refine (laws_ovInts.calls kj4 _ _ t104 _ _ t111 t114 _ ?side1 ?side2 ?side3 ?side4 A20.out).mono ?_); (case side1 => exact KC (Kd.R_reads' HO_4.out).2.2); (case side2 => exact (Kd.R_reads' HO_4.out).2.1); (case side3 => exact KC (Kd.R_reads' HO113.out).2.2); (case side4 => exact (Kd.R_reads' HO113.out).2.1); clear A20; rintro e w' ⟨rfl, ⟨nd, rfl⟩⟩; (try first | exact ⟨rfl, _, World.drewN_drewN _ _ _⟩ | exact ⟨rfl, _, Eq.trans (World.drewN_drewN _ _ _) (congrArg (World.drewN _) (Nat.add_assoc _ _ _))⟩))); try go_wp2_with (first | (go_at_call 10; (with_reducible refine (spec_WindowRun.calls kj4 _ _ t101 t111 _ ?side1 ?side2 A19.out).mono ?_); (case side1 => exact KC (Kd.R_reads' HO_3.out).2.2); (case side2 => exact (Kd.R_reads' HO_3.out).2.1); rintro e w21 ⟨v112, rfl, ho0, hb⟩; have HO113 := am (Kd.R_lower (Kd.R_new' (Kd.R_new' ho0 (Kd.R_lt (KR HO_3))) (Kd.R_lt (KR HO_4))) (below_size (KL HB))); replace HO_3 := am (Kd.R_elder' (KR HO_3) (Kd.R_base ho0) hb); replace HO_4 := am (Kd.R_elder' (KR HO_4) (Kd.R_base ho0) hb); replace HB := am (below_step (KL HB) hb); (try clear hb); (try clear ho0); obtain ⟨Ao22, co22, eo22⟩ := Kd.R_slice HO_4.out; subst eo22; obtain ⟨Ao23, co23, eo23⟩ := Kd.R_slice HO113.out; subst eo23) | (go_at_call 17; (with_reducible refine (laws_ovInts.calls kj4 _ _ t104 _ _ t111 t114 _ ?side1 ?side2 ?side3 ?side4 A20.out).mono ?_); (case side1 => exact KC (Kd.R_reads' HO_4.out).2.2); (case side2 => exact (Kd.R_reads' HO_4.out).2.1); (case side3 => exact KC (Kd.R_reads' HO113.out).2.2); (case side4 => exact (Kd.R_reads' HO113.out).2.1); rintro e w' ⟨rfl, ⟨nd, rfl⟩⟩; (try first | exact ⟨rfl, _, World.drewN_drewN _ _ _⟩ | exact ⟨rfl, _, Eq.trans (World.drewN_drewN _ _ _) (congrArg (World.drewN _) (Nat.add_assoc _ _ _))⟩))))
     go_ret
     exact ⟨ER, KL HB⟩
    ·replace c18 := Bool.eq_false_iff.mpr c18
     subst c18
     have H1 : (laws_FnWindowOnce.l0 kj4 t101 t104 0 0) = some r := by rw [if_neg (show ¬ (false = true) by decide)] at H; exact H
     clear H
     have H := H1
     clear H1
     have H' := Aside0.mk H
     clear H
     go_wp2
     repeat (go_quiet (fail); try go_wp2)
     go_loopg [5, 6] kj4 (fun kq v5 v6 w' => ∃ (x5_2 : Int) (x6_2 : Int), v5 = .int .i64 x5_2 ∧ v6 = .int .i64 x6_2 ∧ Aside0 (laws_FnWindowOnce.l0 kq t101 t104 x5_2 x6_2 = some r) ∧ Aside0 (kq ≤ kj4) ∧ Aside0 (Kd.R (Kd.int .i64) 3 w' w.heap.size (fun k_ => some k_ ≠ (v105 : Value).ownBlock) (.slice Ao7 t101.length co7) t101) ∧ Aside0 (Kd.R (Kd.int .i64) 3 w' w.heap.size (fun k_ => some k_ ≠ ((.slice Ao7 t101.length co7) : Value).ownBlock) v105 t104) ∧ Aside0 (Below w.heap.size w w'))
     case atStart => exact ⟨(0), (0), (by first | rfl | (simp; done) | (simp [*]; done)), (by first | rfl | (simp; done) | (simp [*]; done)), H', ⟨Nat.le_refl _⟩, ⟨KR HO_3⟩, ⟨KR HO_4⟩, ⟨KL HB⟩⟩
     case round =>
      clear H'
      try clear c1
      try clear c2
      try clear c2b0
      try clear c2b1
      try clear p2
      try clear c4
      try clear c11
      try clear c18
      try clear p2
      obtain ⟨x5_2, x6_2, rfl, rfl, HA, HK2, HO_3, HO_4, HB⟩ := hrel
      cases gk with
      | zero => exact absurd HA.out (by simp [laws_FnWindowOnce.l0])
      | succ k2 =>
       have H := HA.out
       clear HA
       simp only [laws_FnWindowOnce.l0] at H
       by_cases c24 : x6_2 < (t101.length : Int)
       ·rw [if_pos c24] at H
        have c24b0 : decide (x6_2 < (t101.length : Int)) = true := decide_eq_true c24
        clear c24
        have H' := Aside0.mk H
        clear H
        go_wp2
        repeat (go_quiet (fail); try go_wp2)
        go_loopg [7, 8] k2 (fun kq v7 v8 w' => ∃ (x7_3 : Bool) (x8_3 : Int), v7 = .bool x7_3 ∧ v8 = .int .i64 x8_3 ∧ Aside0 (laws_FnWindowOnce.l1 kq t101 t104 x5_2 x6_2 x7_3 x8_3 = some r) ∧ Aside0 (kq ≤ k2) ∧ Aside0 (Kd.R (Kd.int .i64) 3 w' w.heap.size (fun k_ => some k_ ≠ (v105 : Value).ownBlock) (.slice Ao7 t101.length co7) t101) ∧ Aside0 (Kd.R (Kd.int .i64) 3 w' w.heap.size (fun k_ => some k_ ≠ ((.slice Ao7 t101.length co7) : Value).ownBlock) v105 t104) ∧ Aside0 (Below w.heap.size w w'))
        case atStart => exact ⟨(false), (0), (by first | rfl | (simp; done) | (simp [*]; done)), (by first | rfl | (simp; done) | (simp [*]; done)), H', ⟨Nat.le_refl _⟩, ⟨KR HO_3⟩, ⟨KR HO_4⟩, ⟨KL HB⟩⟩
        case round =>
         clear H'
         try clear c1
         try clear c2
         try clear c2b0
         try clear c2b1
         try clear p2
         try clear c4
         try clear c11
         try clear c18
         try clear c24
         try clear c24b0
         try clear p2
         obtain ⟨x7_3, x8_3, rfl, rfl, HA, HK3, HO_3, HO_4, HB⟩ := hrel
         cases gk with
         | zero => exact absurd HA.out (by simp [laws_FnWindowOnce.l1])
         | succ k3 =>
          have H := HA.out
          clear HA
          simp only [laws_FnWindowOnce.l1] at H
          by_cases c25 : x8_3 < x6_2
          ·rw [if_pos c25] at H
           have c25b0 : decide (x8_3 < x6_2) = true := decide_eq_true c25
           clear c25
           by_cases c26 : x7_3 = true
           ·subst c26
            have H1 : (laws_FnWindowOnce.l1 k3 t101 t104 x5_2 x6_2 true (wrap64 (x8_3 + 1))) = some r := by rw [if_pos rfl] at H; exact H
            clear H
            have H := H1
            clear H1
            have H' := Aside0.mk H
            clear H
            go_wp2
            repeat (go_quiet (fail); try go_wp2)
            go_roundg k3
            case measure => have := HJ4.out; have := HK2.out; have := HK3.out; omega
            case rel => exact ⟨(true), (wrap64 (x8_3 + 1)), (by first | rfl | (simp; done) | (simp [*]; done)), (by first | rfl | (simp; done) | (simp [*]; done)), H', ⟨by have := HJ4.out; have := HK2.out; have := HK3.out; omega⟩, ⟨KR HO_3⟩, ⟨KR HO_4⟩, ⟨KL HB⟩⟩
           ·replace c26 := Bool.eq_false_iff.mpr c26
            subst c26
            have H1 : (if 0 ≤ x8_3 then (if x8_3 < (t104.length : Int) then (if (rd t104 x8_3) = 0 then (if x8_3 < (t101.length : Int) then (if 0 ≤ x6_2 then (if x6_2 < (t101.length : Int) then (laws_FnWindowOnce.l1 k3 t101 t104 x5_2 x6_2 ((rd t101 x8_3) == (rd t101 x6_2)) (wrap64 (x8_3 + 1))) else (none)) else (none)) else (none)) else (laws_FnWindowOnce.l1 k3 t101 t104 x5_2 x6_2 false (wrap64 (x8_3 + 1)))) else (none)) else (none)) = some r := by rw [if_neg (show ¬ (false = true) by decide)] at H; exact H
            clear H
            have H := H1
            clear H1
            by_cases c27 : 0 ≤ x8_3
            ·rw [if_pos c27] at H
             have c27b0 : decide (0 ≤ x8_3) = true := decide_eq_true c27
             clear c27
             by_cases c28 : x8_3 < (t104.length : Int)
             ·rw [if_pos c28] at H
              have c28b0 : decide (x8_3 < (t104.length : Int)) = true := decide_eq_true c28
              clear c28
              by_cases c29 : (rd t104 x8_3) = 0
              ·rw [if_pos c29] at H
               have c29b0 : ((rd t104 x8_3) == 0) = true := beq_iff_eq.mpr c29
               have c29b1 : ((rd t104 x8_3) != 0) = false := bne_eq_false_iff_eq.mpr c29
               clear c29
               by_cases c30 : x8_3 < (t101.length : Int)
               ·rw [if_pos c30] at H
                have c30b0 : decide (x8_3 < (t101.length : Int)) = true := decide_eq_true c30
                clear c30
                by_cases c31 : 0 ≤ x6_2
                ·rw [if_pos c31] at H
                 have c31b0 : decide (0 ≤ x6_2) = true := decide_eq_true c31
                 clear c31
                 by_cases c32 : x6_2 < (t101.length : Int)
                 ·rw [if_pos c32] at H
                  have c32b0 : decide (x6_2 < (t101.length : Int)) = true := decide_eq_true c32
                  clear c32
                  have H' := Aside0.mk H
                  clear H
                  obtain ⟨Ao33, co33, eo33⟩ := Kd.R_slice HO_4.out
                  subst eo33
                  have p115 : 0 ≤ (x8_3 : Int) := OD
                  have q115 : x8_3 < (t104.length : Int) := OD
                  obtain ⟨ad115, e115, hx115_0⟩ := Kd.at_int (Kd.R_reads' HO_4.out).2.2 x8_3 p115 q115
                  cases e115
                  replace p115 := eq_true p115
                  replace q115 := eq_true q115
                  have p116 : 0 ≤ (x8_3 : Int) := OD
                  have q116 : x8_3 < (t101.length : Int) := OD
                  obtain ⟨ad116, e116, hx116_0⟩ := Kd.at_int (Kd.R_reads' HO_3.out).2.2 x8_3 p116 q116
                  cases e116
                  replace p116 := eq_true p116
                  replace q116 := eq_true q116
                  have p117 : 0 ≤ (x6_2 : Int) := OD
                  have q117 : x6_2 < (t101.length : Int) := OD
                  obtain ⟨ad117, e117, hx117_0⟩ := Kd.at_int (Kd.R_reads' HO_3.out).2.2 x6_2 p117 q117
                  obtain rfl : ad116 = ad117 := (by injection e117)
                  replace p117 := eq_true p117
                  replace q117 := eq_true q117
                  go_wp2
                  repeat (go_quiet (fail); try go_wp2)
                  go_roundg k3
                  case measure => have := HJ4.out; have := HK2.out; have := HK3.out; omega
                  case rel => exact ⟨(((rd t101 x8_3) == (rd t101 x6_2))), (wrap64 (x8_3 + 1)), (by first | rfl | (simp; done) | (simp [*]; done)), (by first | rfl | (simp; done) | (simp [*]; done)), H', ⟨by have := HJ4.out; have := HK2.out; have := HK3.out; omega⟩, ⟨KR HO_3⟩, ⟨KR HO_4⟩, ⟨KL HB⟩⟩
                 ·rw [if_neg c32] at H
                  exact absurd H (by simp)
                ·rw [if_neg c31] at H
                 exact absurd H (by simp)
               ·rw [if_neg c30] at H
                exact absurd H (by simp)
              ·rw [if_neg c29] at H
               have c29b0 : ((rd t104 x8_3) == 0) = false := beq_eq_false_iff_ne.mpr c29
               have c29b1 : ((rd t104 x8_3) != 0) = true := bne_iff_ne.mpr c29
               have H' := Aside0.mk H
               clear H
               obtain ⟨Ao34, co34, eo34⟩ := Kd.R_slice HO_4.out
               subst eo34
               have p115 : 0 ≤ (x8_3 : Int) := OD
               have q115 : x8_3 < (t104.length : Int) := OD
               obtain ⟨ad115, e115, hx115_0⟩ := Kd.at_int (Kd.R_reads' HO_4.out).2.2 x8_3 p115 q115
               cases e115
               replace p115 := eq_true p115
               replace q115 := eq_true q115
               go_wp2
               repeat (go_quiet (fail); try go_wp2)
               go_roundg k3
               case measure => have := HJ4.out; have := HK2.out; have := HK3.out; omega
               case rel => exact ⟨(false), (wrap64 (x8_3 + 1)), (by first | rfl | (simp; done) | (simp [*]; done)), (by first | rfl | (simp; done) | (simp [*]; done)), H', ⟨by have := HJ4.out; have := HK2.out; have := HK3.out; omega⟩, ⟨KR HO_3⟩, ⟨KR HO_4⟩, ⟨KL HB⟩⟩
             ·rw [if_neg c28] at H
              exact absurd H (by simp)
            ·rw [if_neg c27] at H
             exact absurd H (by simp)
          ·rw [if_neg c25] at H
           have c25b0 : decide (x8_3 < x6_2) = false := decide_eq_false c25
           clear c25
           have HC35 := Aside0.mk H
           clear H
           go_upto_region 16 with (fail)
           repeat (go_quiet (fail); go_upto_region 16 with (fail))
           go_cut [116] (fun v116 wc => ∃ (kq : Nat) (x116_34 : Bool), v116 = .bool x116_34 ∧ Aside0 (laws_FnWindowOnce.j3 kq t101 t104 x5_2 x6_2 x116_34 = some r) ∧ Aside0 (kq ≤ k3) ∧ Aside0 (Kd.R (Kd.int .i64) 3 wc w.heap.size (fun k_ => some k_ ≠ (v105 : Value).ownBlock) (.slice Ao7 t101.length co7) t101) ∧ Aside0 (Kd.R (Kd.int .i64) 3 wc w.heap.size (fun k_ => some k_ ≠ ((.slice Ao7 t101.length co7) : Value).ownBlock) v105 t104) ∧ Aside0 (Below w.heap.size w wc))
           case first =>
            have H := HC35.out
            clear HC35
            by_cases c36 : 0 ≤ x6_2
            ·rw [if_pos c36] at H
             have c36b0 : decide (0 ≤ x6_2) = true := decide_eq_true c36
             clear c36
             (first | rw [c36b0] | (simp only [i64_w, i32_w]; rw [c36b0]) | skip)
             by_cases c37 : x6_2 < (t104.length : Int)
             ·rw [if_pos c37] at H
              have c37b0 : decide (x6_2 < (t104.length : Int)) = true := decide_eq_true c37
              clear c37
              by_cases c38 : (rd t104 x6_2) = 0
              ·rw [if_pos c38] at H
               have c38b0 : ((rd t104 x6_2) == 0) = true := beq_iff_eq.mpr c38
               have c38b1 : ((rd t104 x6_2) != 0) = false := bne_eq_false_iff_eq.mpr c38
               clear c38
               by_cases c39 : x7_3 = true
               ·subst c39
                have H1 : (laws_FnWindowOnce.j3 k3 t101 t104 x5_2 x6_2 true) = some r := by rw [if_pos rfl] at H; exact H
                clear H
                have H := H1
                clear H1
                have H' := Aside0.mk H
                clear H
                obtain ⟨Ao40, co40, eo40⟩ := Kd.R_slice HO_4.out
                subst eo40
                have p118 : 0 ≤ (x6_2 : Int) := OD
                have q118 : x6_2 < (t104.length : Int) := OD
                obtain ⟨ad118, e118, hx118_0⟩ := Kd.at_int (Kd.R_reads' HO_4.out).2.2 x6_2 p118 q118
                cases e118
                replace p118 := eq_true p118
                replace q118 := eq_true q118
                go_wp2
                repeat (go_quiet (fail); try go_wp2)
                go_meet
                case rel => exact ⟨_, (true), (by first | rfl | (simp; done) | (simp [*]; done)), H', ⟨by have := HJ4.out; have := HK2.out; have := HK3.out; first | omega | exact Nat.le_refl _⟩, ⟨KR HO_3⟩, ⟨KR HO_4⟩, ⟨KL HB⟩⟩
               ·replace c39 := Bool.eq_false_iff.mpr c39
                subst c39
                have H1 : (if (rd t104 x6_2) = 3 then (laws_FnWindowOnce.j3 k3 t101 t104 x5_2 x6_2 true) else (if x6_2 < (t101.length : Int) then (if (rd t101 x6_2) > x5_2 then (if (rd t101 x6_2) ≤ 1000000 then (if (rd t104 x6_2) = 2 then (laws_FnWindowOnce.j3 k3 t101 t104 x5_2 x6_2 (decide ((rd t101 x6_2) > (wrap64 (x5_2 - 16))))) else (laws_FnWindowOnce.j3 k3 t101 t104 x5_2 x6_2 false)) else (if (rd t104 x6_2) = 2 then (laws_FnWindowOnce.j3 k3 t101 t104 x5_2 x6_2 (decide ((rd t101 x6_2) > (wrap64 (x5_2 - 16))))) else (laws_FnWindowOnce.j3 k3 t101 t104 x5_2 x6_2 false))) else (if (rd t104 x6_2) = 2 then (laws_FnWindowOnce.j3 k3 t101 t104 x5_2 x6_2 (decide ((rd t101 x6_2) > (wrap64 (x5_2 - 16))))) else (laws_FnWindowOnce.j3 k3 t101 t104 x5_2 x6_2 false))) else (none))) = some r := by rw [if_neg (show ¬ (false = true) by decide)] at H; exact H
                clear H
                have H := H1
                clear H1
                by_cases c41 : (rd t104 x6_2) = 3
                ·rw [if_pos c41] at H
                 have c41b0 : ((rd t104 x6_2) == 3) = true := beq_iff_eq.mpr c41
                 have c41b1 : ((rd t104 x6_2) != 3) = false := bne_eq_false_iff_eq.mpr c41
                 clear c41
                 have H' := Aside0.mk H
                 clear H
                 obtain ⟨Ao42, co42, eo42⟩ := Kd.R_slice HO_4.out
                 subst eo42
                 have p118 : 0 ≤ (x6_2 : Int) := OD
                 have q118 : x6_2 < (t104.length : Int) := OD
                 obtain ⟨ad118, e118, hx118_0⟩ := Kd.at_int (Kd.R_reads' HO_4.out).2.2 x6_2 p118 q118
                 cases e118
                 replace p118 := eq_true p118
                 replace q118 := eq_true q118
                 have p119 : 0 ≤ (x6_2 : Int) := OD
                 have q119 : x6_2 < (t104.length : Int) := OD
                 obtain ⟨ad119, e119, hx119_0⟩ := Kd.at_int (Kd.R_reads' HO_4.out).2.2 x6_2 p119 q119
                 obtain rfl : ad118 = ad119 := (by injection e119)
                 replace p119 := eq_true p119
                 replace q119 := eq_true q119
                 go_wp2
                 repeat (go_quiet (fail); try go_wp2)
                 go_meet
                 case rel => exact ⟨_, (true), (by first | rfl | (simp; done) | (simp [*]; done)), H', ⟨by have := HJ4.out; have := HK2.out; have := HK3.out; first | omega | exact Nat.le_refl _⟩, ⟨KR HO_3⟩, ⟨KR HO_4⟩, ⟨KL HB⟩⟩
                ·rw [if_neg c41] at H
                 have c41b0 : ((rd t104 x6_2) == 3) = false := beq_eq_false_iff_ne.mpr c41
                 have c41b1 : ((rd t104 x6_2) != 3) = true := bne_iff_ne.mpr c41
                 by_cases c43 : x6_2 < (t101.length : Int)
                 ·rw [if_pos c43] at H
                  have c43b0 : decide (x6_2 < (t101.length : Int)) = true := decide_eq_true c43
                  clear c43
                  by_cases c44 : (rd t101 x6_2) > x5_2
                  ·rw [if_pos c44] at H
                   have c44b0 : decide (x5_2 < (rd t101 x6_2)) = true := decide_eq_true c44
                   clear c44
                   by_cases c45 : (rd t101 x6_2) ≤ 1000000
                   ·rw [if_pos c45] at H
                    have c45b0 : decide ((rd t101 x6_2) ≤ 1000000) = true := decide_eq_true c45
                    clear c45
                    by_cases c46 : (rd t104 x6_2) = 2
                    ·rw [if_pos c46] at H
                     have c46b0 : ((rd t104 x6_2) == 2) = true := beq_iff_eq.mpr c46
                     have c46b1 : ((rd t104 x6_2) != 2) = false := bne_eq_false_iff_eq.mpr c46
                     clear c46
                     have H' := Aside0.mk H
                     clear H
                     obtain ⟨Ao47, co47, eo47⟩ := Kd.R_slice HO_4.out
                     subst eo47
                     have p118 : 0 ≤ (x6_2 : Int) := OD
                     have q118 : x6_2 < (t104.length : Int) := OD
                     obtain ⟨ad118, e118, hx118_0⟩ := Kd.at_int (Kd.R_reads' HO_4.out).2.2 x6_2 p118 q118
                     cases e118
                     replace p118 := eq_true p118
                     replace q118 := eq_true q118
                     have p119 : 0 ≤ (x6_2 : Int) := OD
                     have q119 : x6_2 < (t104.length : Int) := OD
                     obtain ⟨ad119, e119, hx119_0⟩ := Kd.at_int (Kd.R_reads' HO_4.out).2.2 x6_2 p119 q119
                     obtain rfl : ad118 = ad119 := (by injection e119)
                     replace p119 := eq_true p119
                     replace q119 := eq_true q119
                     have p120 : 0 ≤ (x6_2 : Int) := OD
                     have q120 : x6_2 < (t101.length : Int) := OD
                     obtain ⟨ad120, e120, hx120_0⟩ := Kd.at_int (Kd.R_reads' HO_3.out).2.2 x6_2 p120 q120
                     cases e120
                     replace p120 := eq_true p120
                     replace q120 := eq_true q120
                     have p121 : 0 ≤ (x6_2 : Int) := OD
                     have q121 : x6_2 < (t101.length : Int) := OD
                     obtain ⟨ad121, e121, hx121_0⟩ := Kd.at_int (Kd.R_reads' HO_3.out).2.2 x6_2 p121 q121
                     obtain rfl : ad120 = ad121 := (by injection e121)
                     replace p121 := eq_true p121
                     replace q121 := eq_true q121
                     have p122 : 0 ≤ (x6_2 : Int) := OD
                     have q122 : x6_2 < (t104.length : Int) := OD
                     obtain ⟨ad122, e122, hx122_0⟩ := Kd.at_int (Kd.R_reads' HO_4.out).2.2 x6_2 p122 q122
                     obtain rfl : ad118 = ad122 := (by injection e122)
                     replace p122 := eq_true p122
                     replace q122 := eq_true q122
                     have p123 : 0 ≤ (x6_2 : Int) := OD
                     have q123 : x6_2 < (t104.length : Int) := OD
                     obtain ⟨ad123, e123, hx123_0⟩ := Kd.at_int (Kd.R_reads' HO_4.out).2.2 x6_2 p123 q123
                     obtain rfl : ad118 = ad123 := (by injection e123)
                     replace p123 := eq_true p123
                     replace q123 := eq_true q123
                     have p124 : 0 ≤ (x6_2 : Int) := OD
                     have q124 : x6_2 < (t101.length : Int) := OD
                     obtain ⟨ad124, e124, hx124_0⟩ := Kd.at_int (Kd.R_reads' HO_3.out).2.2 x6_2 p124 q124
                     obtain rfl : ad120 = ad124 := (by injection e124)
                     replace p124 := eq_true p124
                     replace q124 := eq_true q124
                     go_wp2
                     repeat (go_quiet (fail); try go_wp2)
                     go_meet
                     case rel => exact ⟨_, (decide ((rd t101 x6_2) > (wrap64 (x5_2 - 16)))), (by first | rfl | (simp; done) | (simp [*]; done)), H', ⟨by have := HJ4.out; have := HK2.out; have := HK3.out; first | omega | exact Nat.le_refl _⟩, ⟨KR HO_3⟩, ⟨KR HO_4⟩, ⟨KL HB⟩⟩
                    ·rw [if_neg c46] at H
                     have c46b0 : ((rd t104 x6_2) == 2) = false := beq_eq_false_iff_ne.mpr c46
                     have c46b1 : ((rd t104 x6_2) != 2) = true := bne_iff_ne.mpr c46
                     have H' := Aside0.mk H
                     clear H
                     obtain ⟨Ao48, co48, eo48⟩ := Kd.R_slice HO_4.out
                     subst eo48
                     have p118 : 0 ≤ (x6_2 : Int) := OD
                     have q118 : x6_2 < (t104.length : Int) := OD
                     obtain ⟨ad118, e118, hx118_0⟩ := Kd.at_int (Kd.R_reads' HO_4.out).2.2 x6_2 p118 q118
                     cases e118
                     replace p118 := eq_true p118
                     replace q118 := eq_true q118
                     have p119 : 0 ≤ (x6_2 : Int) := OD
                     have q119 : x6_2 < (t104.length : Int) := OD
                     obtain ⟨ad119, e119, hx119_0⟩ := Kd.at_int (Kd.R_reads' HO_4.out).2.2 x6_2 p119 q119
                     obtain rfl : ad118 = ad119 := (by injection e119)
                     replace p119 := eq_true p119
                     replace q119 := eq_true q119
                     have p120 : 0 ≤ (x6_2 : Int) := OD
                     have q120 : x6_2 < (t101.length : Int) := OD
                     obtain ⟨ad120, e120, hx120_0⟩ := Kd.at_int (Kd.R_reads' HO_3.out).2.2 x6_2 p120 q120
                     cases e120
                     replace p120 := eq_true p120
                     replace q120 := eq_true q120
                     have p121 : 0 ≤ (x6_2 : Int) := OD
                     have q121 : x6_2 < (t101.length : Int) := OD
                     obtain ⟨ad121, e121, hx121_0⟩ := Kd.at_int (Kd.R_reads' HO_3.out).2.2 x6_2 p121 q121
                     obtain rfl : ad120 = ad121 := (by injection e121)
                     replace p121 := eq_true p121
                     replace q121 := eq_true q121
                     have p122 : 0 ≤ (x6_2 : Int) := OD
                     have q122 : x6_2 < (t104.length : Int) := OD
                     obtain ⟨ad122, e122, hx122_0⟩ := Kd.at_int (Kd.R_reads' HO_4.out).2.2 x6_2 p122 q122
                     obtain rfl : ad118 = ad122 := (by injection e122)
                     replace p122 := eq_true p122
                     replace q122 := eq_true q122
                     have p123 : 0 ≤ (x6_2 : Int) := OD
                     have q123 : x6_2 < (t104.length : Int) := OD
                     obtain ⟨ad123, e123, hx123_0⟩ := Kd.at_int (Kd.R_reads' HO_4.out).2.2 x6_2 p123 q123
                     obtain rfl : ad118 = ad123 := (by injection e123)
                     replace p123 := eq_true p123
                     replace q123 := eq_true q123
                     go_wp2
                     repeat (go_quiet (fail); try go_wp2)
                     go_meet
                     case rel => exact ⟨_, (false), (by first | rfl | (simp; done) | (simp [*]; done)), H', ⟨by have := HJ4.out; have := HK2.out; have := HK3.out; first | omega | exact Nat.le_refl _⟩, ⟨KR HO_3⟩, ⟨KR HO_4⟩, ⟨KL HB⟩⟩
                   ·rw [if_neg c45] at H
                    have c45b0 : decide ((rd t101 x6_2) ≤ 1000000) = false := decide_eq_false c45
                    clear c45
                    by_cases c49 : (rd t104 x6_2) = 2
                    ·rw [if_pos c49] at H
                     have c49b0 : ((rd t104 x6_2) == 2) = true := beq_iff_eq.mpr c49
                     have c49b1 : ((rd t104 x6_2) != 2) = false := bne_eq_false_iff_eq.mpr c49
                     clear c49
                     have H' := Aside0.mk H
                     clear H
                     obtain ⟨Ao50, co50, eo50⟩ := Kd.R_slice HO_4.out
                     subst eo50
                     have p118 : 0 ≤ (x6_2 : Int) := OD
                     have q118 : x6_2 < (t104.length : Int) := OD
                     obtain ⟨ad118, e118, hx118_0⟩ := Kd.at_int (Kd.R_reads' HO_4.out).2.2 x6_2 p118 q118
                     cases e118
                     replace p118 := eq_true p118
                     replace q118 := eq_true q118
                     have p119 : 0 ≤ (x6_2 : Int) := OD
                     have q119 : x6_2 < (t104.length : Int) := OD
                     obtain ⟨ad119, e119, hx119_0⟩ := Kd.at_int (Kd.R_reads' HO_4.out).2.2 x6_2 p119 q119
                     obtain rfl : ad118 = ad119 := (by injection e119)
                     replace p119 := eq_true p119
                     replace q119 := eq_true q119
                     have p120 : 0 ≤ (x6_2 : Int) := OD
                     have q120 : x6_2 < (t101.length : Int) := OD
                     obtain ⟨ad120, e120, hx120_0⟩ := Kd.at_int (Kd.R_reads' HO_3.out).2.2 x6_2 p120 q120
                     cases e120
                     replace p120 := eq_true p120
                     replace q120 := eq_true q120
                     have p121 : 0 ≤ (x6_2 : Int) := OD
                     have q121 : x6_2 < (t101.length : Int) := OD
                     obtain ⟨ad121, e121, hx121_0⟩ := Kd.at_int (Kd.R_reads' HO_3.out).2.2 x6_2 p121 q121
                     obtain rfl : ad120 = ad121 := (by injection e121)
                     replace p121 := eq_true p121
                     replace q121 := eq_true q121
                     have p125 : 0 ≤ (x6_2 : Int) := OD
                     have q125 : x6_2 < (t104.length : Int) := OD
                     obtain ⟨ad125, e125, hx125_0⟩ := Kd.at_int (Kd.R_reads' HO_4.out).2.2 x6_2 p125 q125
                     obtain rfl : ad118 = ad125 := (by injection e125)
                     replace p125 := eq_true p125
                     replace q125 := eq_true q125
                     have p126 : 0 ≤ (x6_2 : Int) := OD
                     have q126 : x6_2 < (t101.length : Int) := OD
                     obtain ⟨ad126, e126, hx126_0⟩ := Kd.at_int (Kd.R_reads' HO_3.out).2.2 x6_2 p126 q126
                     obtain rfl : ad120 = ad126 := (by injection e126)
                     replace p126 := eq_true p126
                     replace q126 := eq_true q126
                     go_wp2
                     repeat (go_quiet (fail); try go_wp2)
                     go_meet
                     case rel => exact ⟨_, (decide ((rd t101 x6_2) > (wrap64 (x5_2 - 16)))), (by first | rfl | (simp; done) | (simp [*]; done)), H', ⟨by have := HJ4.out; have := HK2.out; have := HK3.out; first | omega | exact Nat.le_refl _⟩, ⟨KR HO_3⟩, ⟨KR HO_4⟩, ⟨KL HB⟩⟩
                    ·rw [if_neg c49] at H
                     have c49b0 : ((rd t104 x6_2) == 2) = false := beq_eq_false_iff_ne.mpr c49
                     have c49b1 : ((rd t104 x6_2) != 2) = true := bne_iff_ne.mpr c49
                     have H' := Aside0.mk H
                     clear H
                     obtain ⟨Ao51, co51, eo51⟩ := Kd.R_slice HO_4.out
                     subst eo51
                     have p118 : 0 ≤ (x6_2 : Int) := OD
                     have q118 : x6_2 < (t104.length : Int) := OD
                     obtain ⟨ad118, e118, hx118_0⟩ := Kd.at_int (Kd.R_reads' HO_4.out).2.2 x6_2 p118 q118
                     cases e118
                     replace p118 := eq_true p118
                     replace q118 := eq_true q118
                     have p119 : 0 ≤ (x6_2 : Int) := OD
                     have q119 : x6_2 < (t104.length : Int) := OD
                     obtain ⟨ad119, e119, hx119_0⟩ := Kd.at_int (Kd.R_reads' HO_4.out).2.2 x6_2 p119 q119
                     obtain rfl : ad118 = ad119 := (by injection e119)
                     replace p119 := eq_true p119
                     replace q119 := eq_true q119
                     have p120 : 0 ≤ (x6_2 : Int) := OD
                     have q120 : x6_2 < (t101.length : Int) := OD
                     obtain ⟨ad120, e120, hx120_0⟩ := Kd.at_int (Kd.R_reads' HO_3.out).2.2 x6_2 p120 q120
                     cases e120
                     replace p120 := eq_true p120
                     replace q120 := eq_true q120
                     have p121 : 0 ≤ (x6_2 : Int) := OD
                     have q121 : x6_2 < (t101.length : Int) := OD
                     obtain ⟨ad121, e121, hx121_0⟩ := Kd.at_int (Kd.R_reads' HO_3.out).2.2 x6_2 p121 q121
                     obtain rfl : ad120 = ad121 := (by injection e121)
                     replace p121 := eq_true p121
                     replace q121 := eq_true q121
                     have p125 : 0 ≤ (x6_2 : Int) := OD
                     have q125 : x6_2 < (t104.length : Int) := OD
                     obtain ⟨ad125, e125, hx125_0⟩ := Kd.at_int (Kd.R_reads' HO_4.out).2.2 x6_2 p125 q125
                     obtain rfl : ad118 = ad125 := (by injection e125)
                     replace p125 := eq_true p125
                     replace q125 := eq_true q125
                     go_wp2
                     repeat (go_quiet (fail); try go_wp2)
                     go_meet
                     case rel => exact ⟨_, (false), (by first | rfl | (simp; done) | (simp [*]; done)), H', ⟨by have := HJ4.out; have := HK2.out; have := HK3.out; first | omega | exact Nat.le_refl _⟩, ⟨KR HO_3⟩, ⟨KR HO_4⟩, ⟨KL HB⟩⟩
                  ·rw [if_neg c44] at H
                   have c44b0 : decide (x5_2 < (rd t101 x6_2)) = false := decide_eq_false c44
                   clear c44
                   by_cases c52 : (rd t104 x6_2) = 2
                   ·rw [if_pos c52] at H
                    have c52b0 : ((rd t104 x6_2) == 2) = true := beq_iff_eq.mpr c52
                    have c52b1 : ((rd t104 x6_2) != 2) = false := bne_eq_false_iff_eq.mpr c52
                    clear c52
                    have H' := Aside0.mk H
                    clear H
                    obtain ⟨Ao53, co53, eo53⟩ := Kd.R_slice HO_4.out
                    subst eo53
                    have p118 : 0 ≤ (x6_2 : Int) := OD
                    have q118 : x6_2 < (t104.length : Int) := OD
                    obtain ⟨ad118, e118, hx118_0⟩ := Kd.at_int (Kd.R_reads' HO_4.out).2.2 x6_2 p118 q118
                    cases e118
                    replace p118 := eq_true p118
                    replace q118 := eq_true q118
                    have p119 : 0 ≤ (x6_2 : Int) := OD
                    have q119 : x6_2 < (t104.length : Int) := OD
                    obtain ⟨ad119, e119, hx119_0⟩ := Kd.at_int (Kd.R_reads' HO_4.out).2.2 x6_2 p119 q119
                    obtain rfl : ad118 = ad119 := (by injection e119)
                    replace p119 := eq_true p119
                    replace q119 := eq_true q119
                    have p120 : 0 ≤ (x6_2 : Int) := OD
                    have q120 : x6_2 < (t101.length : Int) := OD
                    obtain ⟨ad120, e120, hx120_0⟩ := Kd.at_int (Kd.R_reads' HO_3.out).2.2 x6_2 p120 q120
                    cases e120
                    replace p120 := eq_true p120
                    replace q120 := eq_true q120
                    have p127 : 0 ≤ (x6_2 : Int) := OD
                    have q127 : x6_2 < (t104.length : Int) := OD
                    obtain ⟨ad127, e127, hx127_0⟩ := Kd.at_int (Kd.R_reads' HO_4.out).2.2 x6_2 p127 q127
                    obtain rfl : ad118 = ad127 := (by injection e127)
                    replace p127 := eq_true p127
                    replace q127 := eq_true q127
                    have p128 : 0 ≤ (x6_2 : Int) := OD
                    have q128 : x6_2 < (t101.length : Int) := OD
                    obtain ⟨ad128, e128, hx128_0⟩ := Kd.at_int (Kd.R_reads' HO_3.out).2.2 x6_2 p128 q128
                    obtain rfl : ad120 = ad128 := (by injection e128)
                    replace p128 := eq_true p128
                    replace q128 := eq_true q128
                    go_wp2
                    repeat (go_quiet (fail); try go_wp2)
                    go_meet
                    case rel => exact ⟨_, (decide ((rd t101 x6_2) > (wrap64 (x5_2 - 16)))), (by first | rfl | (simp; done) | (simp [*]; done)), H', ⟨by have := HJ4.out; have := HK2.out; have := HK3.out; first | omega | exact Nat.le_refl _⟩, ⟨KR HO_3⟩, ⟨KR HO_4⟩, ⟨KL HB⟩⟩
                   ·rw [if_neg c52] at H
                    have c52b0 : ((rd t104 x6_2) == 2) = false := beq_eq_false_iff_ne.mpr c52
                    have c52b1 : ((rd t104 x6_2) != 2) = true := bne_iff_ne.mpr c52
                    have H' := Aside0.mk H
                    clear H
                    obtain ⟨Ao54, co54, eo54⟩ := Kd.R_slice HO_4.out
                    subst eo54
                    have p118 : 0 ≤ (x6_2 : Int) := OD
                    have q118 : x6_2 < (t104.length : Int) := OD
                    obtain ⟨ad118, e118, hx118_0⟩ := Kd.at_int (Kd.R_reads' HO_4.out).2.2 x6_2 p118 q118
                    cases e118
                    replace p118 := eq_true p118
                    replace q118 := eq_true q118
                    have p119 : 0 ≤ (x6_2 : Int) := OD
                    have q119 : x6_2 < (t104.length : Int) := OD
                    obtain ⟨ad119, e119, hx119_0⟩ := Kd.at_int (Kd.R_reads' HO_4.out).2.2 x6_2 p119 q119
                    obtain rfl : ad118 = ad119 := (by injection e119)
                    replace p119 := eq_true p119
                    replace q119 := eq_true q119
                    have p120 : 0 ≤ (x6_2 : Int) := OD
                    have q120 : x6_2 < (t101.length : Int) := OD
                    obtain ⟨ad120, e120, hx120_0⟩ := Kd.at_int (Kd.R_reads' HO_3.out).2.2 x6_2 p120 q120
                    cases e120
                    replace p120 := eq_true p120
                    replace q120 := eq_true q120
                    have p127 : 0 ≤ (x6_2 : Int) := OD
                    have q127 : x6_2 < (t104.length : Int) := OD
                    obtain ⟨ad127, e127, hx127_0⟩ := Kd.at_int (Kd.R_reads' HO_4.out).2.2 x6_2 p127 q127
                    obtain rfl : ad118 = ad127 := (by injection e127)
                    replace p127 := eq_true p127
                    replace q127 := eq_true q127
                    go_wp2
                    repeat (go_quiet (fail); try go_wp2)
                    go_meet
                    case rel => exact ⟨_, (false), (by first | rfl | (simp; done) | (simp [*]; done)), H', ⟨by have := HJ4.out; have := HK2.out; have := HK3.out; first | omega | exact Nat.le_refl _⟩, ⟨KR HO_3⟩, ⟨KR HO_4⟩, ⟨KL HB⟩⟩
                 ·rw [if_neg c43] at H
                  exact absurd H (by simp)
              ·rw [if_neg c38] at H
               have c38b0 : ((rd t104 x6_2) == 0) = false := beq_eq_false_iff_ne.mpr c38
               have c38b1 : ((rd t104 x6_2) != 0) = true := bne_iff_ne.mpr c38
               by_cases c55 : (rd t104 x6_2) = 3
               ·rw [if_pos c55] at H
                have c55b0 : ((rd t104 x6_2) == 3) = true := beq_iff_eq.mpr c55
                have c55b1 : ((rd t104 x6_2) != 3) = false := bne_eq_false_iff_eq.mpr c55
                clear c55
                by_cases c56 : x7_3 = true
                ·subst c56
                 have H1 : (if x6_2 < (t101.length : Int) then (if (rd t101 x6_2) > x5_2 then (if (rd t101 x6_2) ≤ 1000000 then (laws_FnWindowOnce.j3 k3 t101 t104 x5_2 x6_2 true) else (if (rd t104 x6_2) = 2 then (laws_FnWindowOnce.j3 k3 t101 t104 x5_2 x6_2 (decide ((rd t101 x6_2) > (wrap64 (x5_2 - 16))))) else (laws_FnWindowOnce.j3 k3 t101 t104 x5_2 x6_2 false))) else (if (rd t104 x6_2) = 2 then (laws_FnWindowOnce.j3 k3 t101 t104 x5_2 x6_2 (decide ((rd t101 x6_2) > (wrap64 (x5_2 - 16))))) else (laws_FnWindowOnce.j3 k3 t101 t104 x5_2 x6_2 false))) else (none)) = some r := by rw [if_pos rfl] at H; exact H
                 clear H
                 have H := H1
                 clear H1
                 by_cases c57 : x6_2 < (t101.length : Int)
                 ·rw [if_pos c57] at H
                  have c57b0 : decide (x6_2 < (t101.length : Int)) = true := decide_eq_true c57
                  clear c57
                  by_cases c58 : (rd t101 x6_2) > x5_2
                  ·rw [if_pos c58] at H
                   have c58b0 : decide (x5_2 < (rd t101 x6_2)) = true := decide_eq_true c58
                   clear c58
                   by_cases c59 : (rd t101 x6_2) ≤ 1000000
                   ·rw [if_pos c59] at H
                    have c59b0 : decide ((rd t101 x6_2) ≤ 1000000) = true := decide_eq_true c59
                    clear c59
                    have H' := Aside0.mk H
                    clear H
                    obtain ⟨Ao60, co60, eo60⟩ := Kd.R_slice HO_4.out
                    subst eo60
                    have p118 : 0 ≤ (x6_2 : Int) := OD
                    have q118 : x6_2 < (t104.length : Int) := OD
                    obtain ⟨ad118, e118, hx118_0⟩ := Kd.at_int (Kd.R_reads' HO_4.out).2.2 x6_2 p118 q118
                    cases e118
                    replace p118 := eq_true p118
                    replace q118 := eq_true q118
                    have p129 : 0 ≤ (x6_2 : Int) := OD
                    have q129 : x6_2 < (t104.length : Int) := OD
                    obtain ⟨ad129, e129, hx129_0⟩ := Kd.at_int (Kd.R_reads' HO_4.out).2.2 x6_2 p129 q129
                    obtain rfl : ad118 = ad129 := (by injection e129)
                    replace p129 := eq_true p129
                    replace q129 := eq_true q129
                    have p130 : 0 ≤ (x6_2 : Int) := OD
                    have q130 : x6_2 < (t101.length : Int) := OD
                    obtain ⟨ad130, e130, hx130_0⟩ := Kd.at_int (Kd.R_reads' HO_3.out).2.2 x6_2 p130 q130
                    cases e130
                    replace p130 := eq_true p130
                    replace q130 := eq_true q130
                    have p131 : 0 ≤ (x6_2 : Int) := OD
                    have q131 : x6_2 < (t101.length : Int) := OD
                    obtain ⟨ad131, e131, hx131_0⟩ := Kd.at_int (Kd.R_reads' HO_3.out).2.2 x6_2 p131 q131
                    obtain rfl : ad130 = ad131 := (by injection e131)
                    replace p131 := eq_true p131
                    replace q131 := eq_true q131
                    have p132 : 0 ≤ (x6_2 : Int) := OD
                    have q132 : x6_2 < (t104.length : Int) := OD
                    obtain ⟨ad132, e132, hx132_0⟩ := Kd.at_int (Kd.R_reads' HO_4.out).2.2 x6_2 p132 q132
                    obtain rfl : ad118 = ad132 := (by injection e132)
                    replace p132 := eq_true p132
                    replace q132 := eq_true q132
                    go_wp2
                    repeat (go_quiet (fail); try go_wp2)
                    go_meet
                    case rel => exact ⟨_, (true), (by first | rfl | (simp; done) | (simp [*]; done)), H', ⟨by have := HJ4.out; have := HK2.out; have := HK3.out; first | omega | exact Nat.le_refl _⟩, ⟨KR HO_3⟩, ⟨KR HO_4⟩, ⟨KL HB⟩⟩
                   ·rw [if_neg c59] at H
                    have c59b0 : decide ((rd t101 x6_2) ≤ 1000000) = false := decide_eq_false c59
                    clear c59
                    by_cases c61 : (rd t104 x6_2) = 2
                    ·rw [if_pos c61] at H
                     have c61b0 : ((rd t104 x6_2) == 2) = true := beq_iff_eq.mpr c61
                     have c61b1 : ((rd t104 x6_2) != 2) = false := bne_eq_false_iff_eq.mpr c61
                     clear c61
                     have H' := Aside0.mk H
                     clear H
                     obtain ⟨Ao62, co62, eo62⟩ := Kd.R_slice HO_4.out
                     subst eo62
                     have p118 : 0 ≤ (x6_2 : Int) := OD
                     have q118 : x6_2 < (t104.length : Int) := OD
                     obtain ⟨ad118, e118, hx118_0⟩ := Kd.at_int (Kd.R_reads' HO_4.out).2.2 x6_2 p118 q118
                     cases e118
                     replace p118 := eq_true p118
                     replace q118 := eq_true q118
                     have p129 : 0 ≤ (x6_2 : Int) := OD
                     have q129 : x6_2 < (t104.length : Int) := OD
                     obtain ⟨ad129, e129, hx129_0⟩ := Kd.at_int (Kd.R_reads' HO_4.out).2.2 x6_2 p129 q129
                     obtain rfl : ad118 = ad129 := (by injection e129)
                     replace p129 := eq_true p129
                     replace q129 := eq_true q129
                     have p130 : 0 ≤ (x6_2 : Int) := OD
                     have q130 : x6_2 < (t101.length : Int) := OD
                     obtain ⟨ad130, e130, hx130_0⟩ := Kd.at_int (Kd.R_reads' HO_3.out).2.2 x6_2 p130 q130
                     cases e130
                     replace p130 := eq_true p130
                     replace q130 := eq_true q130
                     have p131 : 0 ≤ (x6_2 : Int) := OD
                     have q131 : x6_2 < (t101.length : Int) := OD
                     obtain ⟨ad131, e131, hx131_0⟩ := Kd.at_int (Kd.R_reads' HO_3.out).2.2 x6_2 p131 q131
                     obtain rfl : ad130 = ad131 := (by injection e131)
                     replace p131 := eq_true p131
                     replace q131 := eq_true q131
                     have p133 : 0 ≤ (x6_2 : Int) := OD
                     have q133 : x6_2 < (t104.length : Int) := OD
                     obtain ⟨ad133, e133, hx133_0⟩ := Kd.at_int (Kd.R_reads' HO_4.out).2.2 x6_2 p133 q133
                     obtain rfl : ad118 = ad133 := (by injection e133)
                     replace p133 := eq_true p133
                     replace q133 := eq_true q133
                     have p134 : 0 ≤ (x6_2 : Int) := OD
                     have q134 : x6_2 < (t101.length : Int) := OD
                     obtain ⟨ad134, e134, hx134_0⟩ := Kd.at_int (Kd.R_reads' HO_3.out).2.2 x6_2 p134 q134
                     obtain rfl : ad130 = ad134 := (by injection e134)
                     replace p134 := eq_true p134
                     replace q134 := eq_true q134
                     go_wp2
                     repeat (go_quiet (fail); try go_wp2)
                     go_meet
                     case rel => exact ⟨_, (decide ((rd t101 x6_2) > (wrap64 (x5_2 - 16)))), (by first | rfl | (simp; done) | (simp [*]; done)), H', ⟨by have := HJ4.out; have := HK2.out; have := HK3.out; first | omega | exact Nat.le_refl _⟩, ⟨KR HO_3⟩, ⟨KR HO_4⟩, ⟨KL HB⟩⟩
                    ·rw [if_neg c61] at H
                     have c61b0 : ((rd t104 x6_2) == 2) = false := beq_eq_false_iff_ne.mpr c61
                     have c61b1 : ((rd t104 x6_2) != 2) = true := bne_iff_ne.mpr c61
                     have H' := Aside0.mk H
                     clear H
                     obtain ⟨Ao63, co63, eo63⟩ := Kd.R_slice HO_4.out
                     subst eo63
                     have p118 : 0 ≤ (x6_2 : Int) := OD
                     have q118 : x6_2 < (t104.length : Int) := OD
                     obtain ⟨ad118, e118, hx118_0⟩ := Kd.at_int (Kd.R_reads' HO_4.out).2.2 x6_2 p118 q118
                     cases e118
                     replace p118 := eq_true p118
                     replace q118 := eq_true q118
                     have p129 : 0 ≤ (x6_2 : Int) := OD
                     have q129 : x6_2 < (t104.length : Int) := OD
                     obtain ⟨ad129, e129, hx129_0⟩ := Kd.at_int (Kd.R_reads' HO_4.out).2.2 x6_2 p129 q129
                     obtain rfl : ad118 = ad129 := (by injection e129)
                     replace p129 := eq_true p129
                     replace q129 := eq_true q129
                     have p130 : 0 ≤ (x6_2 : Int) := OD
                     have q130 : x6_2 < (t101.length : Int) := OD
                     obtain ⟨ad130, e130, hx130_0⟩ := Kd.at_int (Kd.R_reads' HO_3.out).2.2 x6_2 p130 q130
                     cases e130
                     replace p130 := eq_true p130
                     replace q130 := eq_true q130
                     have p131 : 0 ≤ (x6_2 : Int) := OD
                     have q131 : x6_2 < (t101.length : Int) := OD
                     obtain ⟨ad131, e131, hx131_0⟩ := Kd.at_int (Kd.R_reads' HO_3.out).2.2 x6_2 p131 q131
                     obtain rfl : ad130 = ad131 := (by injection e131)
                     replace p131 := eq_true p131
                     replace q131 := eq_true q131
                     have p133 : 0 ≤ (x6_2 : Int) := OD
                     have q133 : x6_2 < (t104.length : Int) := OD
                     obtain ⟨ad133, e133, hx133_0⟩ := Kd.at_int (Kd.R_reads' HO_4.out).2.2 x6_2 p133 q133
                     obtain rfl : ad118 = ad133 := (by injection e133)
                     replace p133 := eq_true p133
                     replace q133 := eq_true q133
                     go_wp2
                     repeat (go_quiet (fail); try go_wp2)
                     go_meet
                     case rel => exact ⟨_, (false), (by first | rfl | (simp; done) | (simp [*]; done)), H', ⟨by have := HJ4.out; have := HK2.out; have := HK3.out; first | omega | exact Nat.le_refl _⟩, ⟨KR HO_3⟩, ⟨KR HO_4⟩, ⟨KL HB⟩⟩
                  ·rw [if_neg c58] at H
                   have c58b0 : decide (x5_2 < (rd t101 x6_2)) = false := decide_eq_false c58
                   clear c58
                   by_cases c64 : (rd t104 x6_2) = 2
                   ·rw [if_pos c64] at H
                    have c64b0 : ((rd t104 x6_2) == 2) = true := beq_iff_eq.mpr c64
                    have c64b1 : ((rd t104 x6_2) != 2) = false := bne_eq_false_iff_eq.mpr c64
                    clear c64
                    have H' := Aside0.mk H
                    clear H
                    obtain ⟨Ao65, co65, eo65⟩ := Kd.R_slice HO_4.out
                    subst eo65
                    have p118 : 0 ≤ (x6_2 : Int) := OD
                    have q118 : x6_2 < (t104.length : Int) := OD
                    obtain ⟨ad118, e118, hx118_0⟩ := Kd.at_int (Kd.R_reads' HO_4.out).2.2 x6_2 p118 q118
                    cases e118
                    replace p118 := eq_true p118
                    replace q118 := eq_true q118
                    have p129 : 0 ≤ (x6_2 : Int) := OD
                    have q129 : x6_2 < (t104.length : Int) := OD
                    obtain ⟨ad129, e129, hx129_0⟩ := Kd.at_int (Kd.R_reads' HO_4.out).2.2 x6_2 p129 q129
                    obtain rfl : ad118 = ad129 := (by injection e129)
                    replace p129 := eq_true p129
                    replace q129 := eq_true q129
                    have p130 : 0 ≤ (x6_2 : Int) := OD
                    have q130 : x6_2 < (t101.length : Int) := OD
                    obtain ⟨ad130, e130, hx130_0⟩ := Kd.at_int (Kd.R_reads' HO_3.out).2.2 x6_2 p130 q130
                    cases e130
                    replace p130 := eq_true p130
                    replace q130 := eq_true q130
                    have p135 : 0 ≤ (x6_2 : Int) := OD
                    have q135 : x6_2 < (t104.length : Int) := OD
                    obtain ⟨ad135, e135, hx135_0⟩ := Kd.at_int (Kd.R_reads' HO_4.out).2.2 x6_2 p135 q135
                    obtain rfl : ad118 = ad135 := (by injection e135)
                    replace p135 := eq_true p135
                    replace q135 := eq_true q135
                    have p136 : 0 ≤ (x6_2 : Int) := OD
                    have q136 : x6_2 < (t101.length : Int) := OD
                    obtain ⟨ad136, e136, hx136_0⟩ := Kd.at_int (Kd.R_reads' HO_3.out).2.2 x6_2 p136 q136
                    obtain rfl : ad130 = ad136 := (by injection e136)
                    replace p136 := eq_true p136
                    replace q136 := eq_true q136
                    go_wp2
                    repeat (go_quiet (fail); try go_wp2)
                    go_meet
                    case rel => exact ⟨_, (decide ((rd t101 x6_2) > (wrap64 (x5_2 - 16)))), (by first | rfl | (simp; done) | (simp [*]; done)), H', ⟨by have := HJ4.out; have := HK2.out; have := HK3.out; first | omega | exact Nat.le_refl _⟩, ⟨KR HO_3⟩, ⟨KR HO_4⟩, ⟨KL HB⟩⟩
                   ·rw [if_neg c64] at H
                    have c64b0 : ((rd t104 x6_2) == 2) = false := beq_eq_false_iff_ne.mpr c64
                    have c64b1 : ((rd t104 x6_2) != 2) = true := bne_iff_ne.mpr c64
                    have H' := Aside0.mk H
                    clear H
                    obtain ⟨Ao66, co66, eo66⟩ := Kd.R_slice HO_4.out
                    subst eo66
                    have p118 : 0 ≤ (x6_2 : Int) := OD
                    have q118 : x6_2 < (t104.length : Int) := OD
                    obtain ⟨ad118, e118, hx118_0⟩ := Kd.at_int (Kd.R_reads' HO_4.out).2.2 x6_2 p118 q118
                    cases e118
                    replace p118 := eq_true p118
                    replace q118 := eq_true q118
                    have p129 : 0 ≤ (x6_2 : Int) := OD
                    have q129 : x6_2 < (t104.length : Int) := OD
                    obtain ⟨ad129, e129, hx129_0⟩ := Kd.at_int (Kd.R_reads' HO_4.out).2.2 x6_2 p129 q129
                    obtain rfl : ad118 = ad129 := (by injection e129)
                    replace p129 := eq_true p129
                    replace q129 := eq_true q129
                    have p130 : 0 ≤ (x6_2 : Int) := OD
                    have q130 : x6_2 < (t101.length : Int) := OD
                    obtain ⟨ad130, e130, hx130_0⟩ := Kd.at_int (Kd.R_reads' HO_3.out).2.2 x6_2 p130 q130
                    cases e130
                    replace p130 := eq_true p130
                    replace q130 := eq_true q130
                    have p135 : 0 ≤ (x6_2 : Int) := OD
                    have q135 : x6_2 < (t104.length : Int) := OD
                    obtain ⟨ad135, e135, hx135_0⟩ := Kd.at_int (Kd.R_reads' HO_4.out).2.2 x6_2 p135 q135
                    obtain rfl : ad118 = ad135 := (by injection e135)
                    replace p135 := eq_true p135
                    replace q135 := eq_true q135
                    go_wp2
                    repeat (go_quiet (fail); try go_wp2)
                    go_meet
                    case rel => exact ⟨_, (false), (by first | rfl | (simp; done) | (simp [*]; done)), H', ⟨by have := HJ4.out; have := HK2.out; have := HK3.out; first | omega | exact Nat.le_refl _⟩, ⟨KR HO_3⟩, ⟨KR HO_4⟩, ⟨KL HB⟩⟩
                 ·rw [if_neg c57] at H
                  exact absurd H (by simp)
                ·replace c56 := Bool.eq_false_iff.mpr c56
                 subst c56
                 have H1 : (laws_FnWindowOnce.j3 k3 t101 t104 x5_2 x6_2 true) = some r := by rw [if_neg (show ¬ (false = true) by decide)] at H; exact H
                 clear H
                 have H := H1
                 clear H1
                 have H' := Aside0.mk H
                 clear H
                 obtain ⟨Ao67, co67, eo67⟩ := Kd.R_slice HO_4.out
                 subst eo67
                 have p118 : 0 ≤ (x6_2 : Int) := OD
                 have q118 : x6_2 < (t104.length : Int) := OD
                 obtain ⟨ad118, e118, hx118_0⟩ := Kd.at_int (Kd.R_reads' HO_4.out).2.2 x6_2 p118 q118
                 cases e118
                 replace p118 := eq_true p118
                 replace q118 := eq_true q118
                 have p129 : 0 ≤ (x6_2 : Int) := OD
                 have q129 : x6_2 < (t104.length : Int) := OD
                 obtain ⟨ad129, e129, hx129_0⟩ := Kd.at_int (Kd.R_reads' HO_4.out).2.2 x6_2 p129 q129
                 obtain rfl : ad118 = ad129 := (by injection e129)
                 replace p129 := eq_true p129
                 replace q129 := eq_true q129
                 go_wp2
                 repeat (go_quiet (fail); try go_wp2)
                 go_meet
                 case rel => exact ⟨_, (true), (by first | rfl | (simp; done) | (simp [*]; done)), H', ⟨by have := HJ4.out; have := HK2.out; have := HK3.out; first | omega | exact Nat.le_refl _⟩, ⟨KR HO_3⟩, ⟨KR HO_4⟩, ⟨KL HB⟩⟩
               ·rw [if_neg c55] at H
                have c55b0 : ((rd t104 x6_2) == 3) = false := beq_eq_false_iff_ne.mpr c55
                have c55b1 : ((rd t104 x6_2) != 3) = true := bne_iff_ne.mpr c55
                by_cases c68 : x6_2 < (t101.length : Int)
                ·rw [if_pos c68] at H
                 have c68b0 : decide (x6_2 < (t101.length : Int)) = true := decide_eq_true c68
                 clear c68
                 by_cases c69 : (rd t101 x6_2) > x5_2
                 ·rw [if_pos c69] at H
                  have c69b0 : decide (x5_2 < (rd t101 x6_2)) = true := decide_eq_true c69
                  clear c69
                  by_cases c70 : (rd t101 x6_2) ≤ 1000000
                  ·rw [if_pos c70] at H
                   have c70b0 : decide ((rd t101 x6_2) ≤ 1000000) = true := decide_eq_true c70
                   clear c70
                   have H' := Aside0.mk H
                   clear H
                   obtain ⟨Ao71, co71, eo71⟩ := Kd.R_slice HO_4.out
                   subst eo71
                   have p118 : 0 ≤ (x6_2 : Int) := OD
                   have q118 : x6_2 < (t104.length : Int) := OD
                   obtain ⟨ad118, e118, hx118_0⟩ := Kd.at_int (Kd.R_reads' HO_4.out).2.2 x6_2 p118 q118
                   cases e118
                   replace p118 := eq_true p118
                   replace q118 := eq_true q118
                   have p129 : 0 ≤ (x6_2 : Int) := OD
                   have q129 : x6_2 < (t104.length : Int) := OD
                   obtain ⟨ad129, e129, hx129_0⟩ := Kd.at_int (Kd.R_reads' HO_4.out).2.2 x6_2 p129 q129
                   obtain rfl : ad118 = ad129 := (by injection e129)
                   replace p129 := eq_true p129
                   replace q129 := eq_true q129
                   have p137 : 0 ≤ (x6_2 : Int) := OD
                   have q137 : x6_2 < (t101.length : Int) := OD
                   obtain ⟨ad137, e137, hx137_0⟩ := Kd.at_int (Kd.R_reads' HO_3.out).2.2 x6_2 p137 q137
                   cases e137
                   replace p137 := eq_true p137
                   replace q137 := eq_true q137
                   have p138 : 0 ≤ (x6_2 : Int) := OD
                   have q138 : x6_2 < (t101.length : Int) := OD
                   obtain ⟨ad138, e138, hx138_0⟩ := Kd.at_int (Kd.R_reads' HO_3.out).2.2 x6_2 p138 q138
                   obtain rfl : ad137 = ad138 := (by injection e138)
                   replace p138 := eq_true p138
                   replace q138 := eq_true q138
                   have p139 : 0 ≤ (x6_2 : Int) := OD
                   have q139 : x6_2 < (t104.length : Int) := OD
                   obtain ⟨ad139, e139, hx139_0⟩ := Kd.at_int (Kd.R_reads' HO_4.out).2.2 x6_2 p139 q139
                   obtain rfl : ad118 = ad139 := (by injection e139)
                   replace p139 := eq_true p139
                   replace q139 := eq_true q139
                   go_wp2
                   repeat (go_quiet (fail); try go_wp2)
                   go_meet
                   case rel => exact ⟨_, (true), (by first | rfl | (simp; done) | (simp [*]; done)), H', ⟨by have := HJ4.out; have := HK2.out; have := HK3.out; first | omega | exact Nat.le_refl _⟩, ⟨KR HO_3⟩, ⟨KR HO_4⟩, ⟨KL HB⟩⟩
                  ·rw [if_neg c70] at H
                   have c70b0 : decide ((rd t101 x6_2) ≤ 1000000) = false := decide_eq_false c70
                   clear c70
                   by_cases c72 : (rd t104 x6_2) = 2
                   ·rw [if_pos c72] at H
                    have c72b0 : ((rd t104 x6_2) == 2) = true := beq_iff_eq.mpr c72
                    have c72b1 : ((rd t104 x6_2) != 2) = false := bne_eq_false_iff_eq.mpr c72
                    clear c72
                    have H' := Aside0.mk H
                    clear H
                    obtain ⟨Ao73, co73, eo73⟩ := Kd.R_slice HO_4.out
                    subst eo73
                    have p118 : 0 ≤ (x6_2 : Int) := OD
                    have q118 : x6_2 < (t104.length : Int) := OD
                    obtain ⟨ad118, e118, hx118_0⟩ := Kd.at_int (Kd.R_reads' HO_4.out).2.2 x6_2 p118 q118
                    cases e118
                    replace p118 := eq_true p118
                    replace q118 := eq_true q118
                    have p129 : 0 ≤ (x6_2 : Int) := OD
                    have q129 : x6_2 < (t104.length : Int) := OD
                    obtain ⟨ad129, e129, hx129_0⟩ := Kd.at_int (Kd.R_reads' HO_4.out).2.2 x6_2 p129 q129
                    obtain rfl : ad118 = ad129 := (by injection e129)
                    replace p129 := eq_true p129
                    replace q129 := eq_true q129
                    have p137 : 0 ≤ (x6_2 : Int) := OD
                    have q137 : x6_2 < (t101.length : Int) := OD
                    obtain ⟨ad137, e137, hx137_0⟩ := Kd.at_int (Kd.R_reads' HO_3.out).2.2 x6_2 p137 q137
                    cases e137
                    replace p137 := eq_true p137
                    replace q137 := eq_true q137
                    have p138 : 0 ≤ (x6_2 : Int) := OD
                    have q138 : x6_2 < (t101.length : Int) := OD
                    obtain ⟨ad138, e138, hx138_0⟩ := Kd.at_int (Kd.R_reads' HO_3.out).2.2 x6_2 p138 q138
                    obtain rfl : ad137 = ad138 := (by injection e138)
                    replace p138 := eq_true p138
                    replace q138 := eq_true q138
                    have p140 : 0 ≤ (x6_2 : Int) := OD
                    have q140 : x6_2 < (t104.length : Int) := OD
                    obtain ⟨ad140, e140, hx140_0⟩ := Kd.at_int (Kd.R_reads' HO_4.out).2.2 x6_2 p140 q140
                    obtain rfl : ad118 = ad140 := (by injection e140)
                    replace p140 := eq_true p140
                    replace q140 := eq_true q140
                    have p141 : 0 ≤ (x6_2 : Int) := OD
                    have q141 : x6_2 < (t101.length : Int) := OD
                    obtain ⟨ad141, e141, hx141_0⟩ := Kd.at_int (Kd.R_reads' HO_3.out).2.2 x6_2 p141 q141
                    obtain rfl : ad137 = ad141 := (by injection e141)
                    replace p141 := eq_true p141
                    replace q141 := eq_true q141
                    go_wp2
                    repeat (go_quiet (fail); try go_wp2)
                    go_meet
                    case rel => exact ⟨_, (decide ((rd t101 x6_2) > (wrap64 (x5_2 - 16)))), (by first | rfl | (simp; done) | (simp [*]; done)), H', ⟨by have := HJ4.out; have := HK2.out; have := HK3.out; first | omega | exact Nat.le_refl _⟩, ⟨KR HO_3⟩, ⟨KR HO_4⟩, ⟨KL HB⟩⟩
                   ·rw [if_neg c72] at H
                    have c72b0 : ((rd t104 x6_2) == 2) = false := beq_eq_false_iff_ne.mpr c72
                    have c72b1 : ((rd t104 x6_2) != 2) = true := bne_iff_ne.mpr c72
                    have H' := Aside0.mk H
                    clear H
                    obtain ⟨Ao74, co74, eo74⟩ := Kd.R_slice HO_4.out
                    subst eo74
                    have p118 : 0 ≤ (x6_2 : Int) := OD
                    have q118 : x6_2 < (t104.length : Int) := OD
                    obtain ⟨ad118, e118, hx118_0⟩ := Kd.at_int (Kd.R_reads' HO_4.out).2.2 x6_2 p118 q118
                    cases e118
                    replace p118 := eq_true p118
                    replace q118 := eq_true q118
                    have p129 : 0 ≤ (x6_2 : Int) := OD
                    have q129 : x6_2 < (t104.length : Int) := OD
                    obtain ⟨ad129, e129, hx129_0⟩ := Kd.at_int (Kd.R_reads' HO_4.out).2.2 x6_2 p129 q129
                    obtain rfl : ad118 = ad129 := (by injection e129)
                    replace p129 := eq_true p129
                    replace q129 := eq_true q129
                    have p137 : 0 ≤ (x6_2 : Int) := OD
                    have q137 : x6_2 < (t101.length : Int) := OD
                    obtain ⟨ad137, e137, hx137_0⟩ := Kd.at_int (Kd.R_reads' HO_3.out).2.2 x6_2 p137 q137
                    cases e137
                    replace p137 := eq_true p137
                    replace q137 := eq_true q137
                    have p138 : 0 ≤ (x6_2 : Int) := OD
                    have q138 : x6_2 < (t101.length : Int) := OD
                    obtain ⟨ad138, e138, hx138_0⟩ := Kd.at_int (Kd.R_reads' HO_3.out).2.2 x6_2 p138 q138
                    obtain rfl : ad137 = ad138 := (by injection e138)
                    replace p138 := eq_true p138
                    replace q138 := eq_true q138
                    have p140 : 0 ≤ (x6_2 : Int) := OD
                    have q140 : x6_2 < (t104.length : Int) := OD
                    obtain ⟨ad140, e140, hx140_0⟩ := Kd.at_int (Kd.R_reads' HO_4.out).2.2 x6_2 p140 q140
                    obtain rfl : ad118 = ad140 := (by injection e140)
                    replace p140 := eq_true p140
                    replace q140 := eq_true q140
                    go_wp2
                    repeat (go_quiet (fail); try go_wp2)
                    go_meet
                    case rel => exact ⟨_, (false), (by first | rfl | (simp; done) | (simp [*]; done)), H', ⟨by have := HJ4.out; have := HK2.out; have := HK3.out; first | omega | exact Nat.le_refl _⟩, ⟨KR HO_3⟩, ⟨KR HO_4⟩, ⟨KL HB⟩⟩
                 ·rw [if_neg c69] at H
                  have c69b0 : decide (x5_2 < (rd t101 x6_2)) = false := decide_eq_false c69
                  clear c69
                  by_cases c75 : (rd t104 x6_2) = 2
                  ·rw [if_pos c75] at H
                   have c75b0 : ((rd t104 x6_2) == 2) = true := beq_iff_eq.mpr c75
                   have c75b1 : ((rd t104 x6_2) != 2) = false := bne_eq_false_iff_eq.mpr c75
                   clear c75
                   have H' := Aside0.mk H
                   clear H
                   obtain ⟨Ao76, co76, eo76⟩ := Kd.R_slice HO_4.out
                   subst eo76
                   have p118 : 0 ≤ (x6_2 : Int) := OD
                   have q118 : x6_2 < (t104.length : Int) := OD
                   obtain ⟨ad118, e118, hx118_0⟩ := Kd.at_int (Kd.R_reads' HO_4.out).2.2 x6_2 p118 q118
                   cases e118
                   replace p118 := eq_true p118
                   replace q118 := eq_true q118
                   have p129 : 0 ≤ (x6_2 : Int) := OD
                   have q129 : x6_2 < (t104.length : Int) := OD
                   obtain ⟨ad129, e129, hx129_0⟩ := Kd.at_int (Kd.R_reads' HO_4.out).2.2 x6_2 p129 q129
                   obtain rfl : ad118 = ad129 := (by injection e129)
                   replace p129 := eq_true p129
                   replace q129 := eq_true q129
                   have p137 : 0 ≤ (x6_2 : Int) := OD
                   have q137 : x6_2 < (t101.length : Int) := OD
                   obtain ⟨ad137, e137, hx137_0⟩ := Kd.at_int (Kd.R_reads' HO_3.out).2.2 x6_2 p137 q137
                   cases e137
                   replace p137 := eq_true p137
                   replace q137 := eq_true q137
                   have p142 : 0 ≤ (x6_2 : Int) := OD
                   have q142 : x6_2 < (t104.length : Int) := OD
                   obtain ⟨ad142, e142, hx142_0⟩ := Kd.at_int (Kd.R_reads' HO_4.out).2.2 x6_2 p142 q142
                   obtain rfl : ad118 = ad142 := (by injection e142)
                   replace p142 := eq_true p142
                   replace q142 := eq_true q142
                   have p143 : 0 ≤ (x6_2 : Int) := OD
                   have q143 : x6_2 < (t101.length : Int) := OD
                   obtain ⟨ad143, e143, hx143_0⟩ := Kd.at_int (Kd.R_reads' HO_3.out).2.2 x6_2 p143 q143
                   obtain rfl : ad137 = ad143 := (by injection e143)
                   replace p143 := eq_true p143
                   replace q143 := eq_true q143
                   go_wp2
                   repeat (go_quiet (fail); try go_wp2)
                   go_meet
                   case rel => exact ⟨_, (decide ((rd t101 x6_2) > (wrap64 (x5_2 - 16)))), (by first | rfl | (simp; done) | (simp [*]; done)), H', ⟨by have := HJ4.out; have := HK2.out; have := HK3.out; first | omega | exact Nat.le_refl _⟩, ⟨KR HO_3⟩, ⟨KR HO_4⟩, ⟨KL HB⟩⟩
                  ·rw [if_neg c75] at H
                   have c75b0 : ((rd t104 x6_2) == 2) = false := beq_eq_false_iff_ne.mpr c75
                   have c75b1 : ((rd t104 x6_2) != 2) = true := bne_iff_ne.mpr c75
                   have H' := Aside0.mk H
                   clear H
                   obtain ⟨Ao77, co77, eo77⟩ := Kd.R_slice HO_4.out
                   subst eo77
                   have p118 : 0 ≤ (x6_2 : Int) := OD
                   have q118 : x6_2 < (t104.length : Int) := OD
                   obtain ⟨ad118, e118, hx118_0⟩ := Kd.at_int (Kd.R_reads' HO_4.out).2.2 x6_2 p118 q118
                   cases e118
                   replace p118 := eq_true p118
                   replace q118 := eq_true q118
                   have p129 : 0 ≤ (x6_2 : Int) := OD
                   have q129 : x6_2 < (t104.length : Int) := OD
                   obtain ⟨ad129, e129, hx129_0⟩ := Kd.at_int (Kd.R_reads' HO_4.out).2.2 x6_2 p129 q129
                   obtain rfl : ad118 = ad129 := (by injection e129)
                   replace p129 := eq_true p129
                   replace q129 := eq_true q129
                   have p137 : 0 ≤ (x6_2 : Int) := OD
                   have q137 : x6_2 < (t101.length : Int) := OD
                   obtain ⟨ad137, e137, hx137_0⟩ := Kd.at_int (Kd.R_reads' HO_3.out).2.2 x6_2 p137 q137
                   cases e137
                   replace p137 := eq_true p137
                   replace q137 := eq_true q137
                   have p142 : 0 ≤ (x6_2 : Int) := OD
                   have q142 : x6_2 < (t104.length : Int) := OD
                   obtain ⟨ad142, e142, hx142_0⟩ := Kd.at_int (Kd.R_reads' HO_4.out).2.2 x6_2 p142 q142
                   obtain rfl : ad118 = ad142 := (by injection e142)
                   replace p142 := eq_true p142
                   replace q142 := eq_true q142
                   go_wp2
                   repeat (go_quiet (fail); try go_wp2)
                   go_meet
                   case rel => exact ⟨_, (false), (by first | rfl | (simp; done) | (simp [*]; done)), H', ⟨by have := HJ4.out; have := HK2.out; have := HK3.out; first | omega | exact Nat.le_refl _⟩, ⟨KR HO_3⟩, ⟨KR HO_4⟩, ⟨KL HB⟩⟩
                ·rw [if_neg c68] at H
                 exact absurd H (by simp)
             ·rw [if_neg c37] at H
              exact absurd H (by simp)
            ·rw [if_neg c36] at H
             exact absurd H (by simp)
           case rest =>
            clear HC35
            try clear p1
            try clear q1
            try clear hx1
            try clear p2
            try clear c3
            try clear c4
            try clear c5
            try clear c6
            try clear p6
            try clear c7
            try clear p11
            try clear q11
            try clear hx11
            try clear p12
            try clear q12
            try clear hx12
            try clear p13
            try clear q13
            try clear hx13
            try clear p14
            try clear q14
            try clear hx14
            try clear c36
            try clear c37
            try clear c38
            try clear c38b0
            try clear c38b1
            try clear c43
            try clear c44
            try clear c44b0
            try clear c52
            try clear c52b0
            try clear c52b1
            try clear c55
            try clear c55b0
            try clear c55b1
            try clear c56
            try clear c57
            try clear c57b0
            try clear c58
            try clear c58b0
            try clear c59
            try clear c59b0
            try clear c61
            try clear c61b0
            try clear c61b1
            try clear c64
            try clear c64b0
            try clear c64b1
            try clear p64
            try clear c68
            try clear c68b0
            try clear c69
            try clear c69b0
            try clear c70
            try clear c70b0
            try clear c72
            try clear c72b0
            try clear c72b1
            try clear c75
            try clear c75b0
            try clear c75b1
            try clear hx118_0
            try clear hx119_0
            try clear hx120_0
            try clear hx121_0
            try clear hx125_0
            try clear hx127_0
            try clear hx128_0
            try clear hx129_0
            try clear hx130_0
            try clear hx131_0
            try clear hx132_0
            try clear hx133_0
            try clear hx134_0
            try clear hx135_0
            try clear hx136_0
            try clear hx137_0
            try clear hx138_0
            try clear hx139_0
            try clear hx140_0
            try clear hx141_0
            try clear hx142_0
            try clear hx143_0
            try clear p118
            try clear p119
            try clear p120
            try clear p121
            try clear p125
            try clear p127
            try clear p128
            try clear p129
            try clear p130
            try clear p131
            try clear p132
            try clear p133
            try clear p134
            try clear p135
            try clear p136
            try clear p137
            try clear p138
            try clear p139
            try clear p140
            try clear p141
            try clear p142
            try clear p143
            try clear q118
            try clear q119
            try clear q120
            try clear q121
            try clear q125
            try clear q127
            try clear q128
            try clear q129
            try clear q130
            try clear q131
            try clear q132
            try clear q133
            try clear q134
            try clear q135
            try clear q136
            try clear q137
            try clear q138
            try clear q139
            try clear q140
            try clear q141
            try clear q142
            try clear q143
            obtain ⟨kq, x116_34, rfl, HA, HJ34, HO_3, HO_4, HB⟩ := hcut
            cases kq with
            | zero => exact absurd HA.out (by simp [laws_FnWindowOnce.j3])
            | succ kj34 =>
             have H := HA.out
             clear HA
             simp only [laws_FnWindowOnce.j3] at H
             by_cases c78 : x116_34 = true
             ·subst c78
              have H1 : (some false) = some r := by rw [if_pos rfl] at H; exact H
              clear H
              have H := H1
              clear H1
              exact absurd ((Option.some.inj H).trans HR_.out) (by decide)
             ·replace c78 := Bool.eq_false_iff.mpr c78
              subst c78
              have H1 : (if 0 ≤ x6_2 then (if x6_2 < (t104.length : Int) then (if (rd t104 x6_2) = 0 then (if x6_2 < (t101.length : Int) then (if (rd t101 x6_2) > x5_2 then (laws_FnWindowOnce.l0 kj34 t101 t104 (rd t101 x6_2) (wrap64 (x6_2 + 1))) else (laws_FnWindowOnce.l0 kj34 t101 t104 x5_2 (wrap64 (x6_2 + 1)))) else (none)) else (laws_FnWindowOnce.l0 kj34 t101 t104 x5_2 (wrap64 (x6_2 + 1)))) else (none)) else (none)) = some r := by rw [if_neg (show ¬ (false = true) by decide)] at H; exact H
              clear H
              have H := H1
              clear H1
              by_cases c79 : 0 ≤ x6_2
              ·rw [if_pos c79] at H
               have c79b0 : decide (0 ≤ x6_2) = true := decide_eq_true c79
               clear c79
               by_cases c80 : x6_2 < (t104.length : Int)
               ·rw [if_pos c80] at H
                have c80b0 : decide (x6_2 < (t104.length : Int)) = true := decide_eq_true c80
                clear c80
                by_cases c81 : (rd t104 x6_2) = 0
                ·rw [if_pos c81] at H
                 have c81b0 : ((rd t104 x6_2) == 0) = true := beq_iff_eq.mpr c81
                 have c81b1 : ((rd t104 x6_2) != 0) = false := bne_eq_false_iff_eq.mpr c81
                 clear c81
                 by_cases c82 : x6_2 < (t101.length : Int)
                 ·rw [if_pos c82] at H
                  have c82b0 : decide (x6_2 < (t101.length : Int)) = true := decide_eq_true c82
                  clear c82
                  by_cases c83 : (rd t101 x6_2) > x5_2
                  ·rw [if_pos c83] at H
                   have c83b0 : decide (x5_2 < (rd t101 x6_2)) = true := decide_eq_true c83
                   clear c83
                   have H' := Aside0.mk H
                   clear H
                   obtain ⟨Ao84, co84, eo84⟩ := Kd.R_slice HO_4.out
                   subst eo84
                   have p144 : 0 ≤ (x6_2 : Int) := OD
                   have q144 : x6_2 < (t104.length : Int) := OD
                   obtain ⟨ad144, e144, hx144_0⟩ := Kd.at_int (Kd.R_reads' HO_4.out).2.2 x6_2 p144 q144
                   cases e144
                   replace p144 := eq_true p144
                   replace q144 := eq_true q144
                   have p145 : 0 ≤ (x6_2 : Int) := OD
                   have q145 : x6_2 < (t101.length : Int) := OD
                   obtain ⟨ad145, e145, hx145_0⟩ := Kd.at_int (Kd.R_reads' HO_3.out).2.2 x6_2 p145 q145
                   cases e145
                   replace p145 := eq_true p145
                   replace q145 := eq_true q145
                   have p146 : 0 ≤ (x6_2 : Int) := OD
                   have q146 : x6_2 < (t101.length : Int) := OD
                   obtain ⟨ad146, e146, hx146_0⟩ := Kd.at_int (Kd.R_reads' HO_3.out).2.2 x6_2 p146 q146
                   obtain rfl : ad145 = ad146 := (by injection e146)
                   replace p146 := eq_true p146
                   replace q146 := eq_true q146
                   go_wp2
                   repeat (go_quiet (fail); try go_wp2)
                   go_roundg kj34
                   case measure => have := HJ4.out; have := HK2.out; have := HK3.out; have := HJ34.out; omega
                   case rel => exact ⟨(rd t101 x6_2), (wrap64 (x6_2 + 1)), (by first | rfl | (simp; done) | (simp [*]; done)), (by first | rfl | (simp; done) | (simp [*]; done)), H', ⟨by have := HJ4.out; have := HK2.out; have := HK3.out; have := HJ34.out; omega⟩, ⟨KR HO_3⟩, ⟨KR HO_4⟩, ⟨KL HB⟩⟩
                  ·rw [if_neg c83] at H
                   have c83b0 : decide (x5_2 < (rd t101 x6_2)) = false := decide_eq_false c83
                   clear c83
                   have H' := Aside0.mk H
                   clear H
                   obtain ⟨Ao85, co85, eo85⟩ := Kd.R_slice HO_4.out
                   subst eo85
                   have p144 : 0 ≤ (x6_2 : Int) := OD
                   have q144 : x6_2 < (t104.length : Int) := OD
                   obtain ⟨ad144, e144, hx144_0⟩ := Kd.at_int (Kd.R_reads' HO_4.out).2.2 x6_2 p144 q144
                   cases e144
                   replace p144 := eq_true p144
                   replace q144 := eq_true q144
                   have p145 : 0 ≤ (x6_2 : Int) := OD
                   have q145 : x6_2 < (t101.length : Int) := OD
                   obtain ⟨ad145, e145, hx145_0⟩ := Kd.at_int (Kd.R_reads' HO_3.out).2.2 x6_2 p145 q145
                   cases e145
                   replace p145 := eq_true p145
                   replace q145 := eq_true q145
                   go_wp2
                   repeat (go_quiet (fail); try go_wp2)
                   go_roundg kj34
                   case measure => have := HJ4.out; have := HK2.out; have := HK3.out; have := HJ34.out; omega
                   case rel => exact ⟨(x5_2), (wrap64 (x6_2 + 1)), (by first | rfl | (simp; done) | (simp [*]; done)), (by first | rfl | (simp; done) | (simp [*]; done)), H', ⟨by have := HJ4.out; have := HK2.out; have := HK3.out; have := HJ34.out; omega⟩, ⟨KR HO_3⟩, ⟨KR HO_4⟩, ⟨KL HB⟩⟩
                 ·rw [if_neg c82] at H
                  exact absurd H (by simp)
                ·rw [if_neg c81] at H
                 have c81b0 : ((rd t104 x6_2) == 0) = false := beq_eq_false_iff_ne.mpr c81
                 have c81b1 : ((rd t104 x6_2) != 0) = true := bne_iff_ne.mpr c81
                 have H' := Aside0.mk H
                 clear H
                 obtain ⟨Ao86, co86, eo86⟩ := Kd.R_slice HO_4.out
                 subst eo86
                 have p144 : 0 ≤ (x6_2 : Int) := OD
                 have q144 : x6_2 < (t104.length : Int) := OD
                 obtain ⟨ad144, e144, hx144_0⟩ := Kd.at_int (Kd.R_reads' HO_4.out).2.2 x6_2 p144 q144
                 cases e144
                 replace p144 := eq_true p144
                 replace q144 := eq_true q144
                 go_wp2
                 repeat (go_quiet (fail); try go_wp2)
                 go_roundg kj34
                 case measure => have := HJ4.out; have := HK2.out; have := HK3.out; have := HJ34.out; omega
                 case rel => exact ⟨(x5_2), (wrap64 (x6_2 + 1)), (by first | rfl | (simp; done) | (simp [*]; done)), (by first | rfl | (simp; done) | (simp [*]; done)), H', ⟨by have := HJ4.out; have := HK2.out; have := HK3.out; have := HJ34.out; omega⟩, ⟨KR HO_3⟩, ⟨KR HO_4⟩, ⟨KL HB⟩⟩
               ·rw [if_neg c80] at H
                exact absurd H (by simp)
              ·rw [if_neg c79] at H
               exact absurd H (by simp)
       ·rw [if_neg c24] at H
        have c24b0 : decide (x6_2 < (t101.length : Int)) = false := decide_eq_false c24
        clear c24
        obtain rfl := Option.some.inj H
        obtain ⟨Ao87, co87, eo87⟩ := Kd.R_slice HO_4.out
        subst eo87
        go_wp2
        repeat (go_quiet (fail); try go_wp2)
        go_ret
        exact ⟨ER, KL HB⟩
/-- THE ONE PURE STATEMENT of laws_FnWindowOnce: yours. -/
def laws_FnWindowOnce.Pure : Prop := ∀ (l0 : List Int), l0.length ≤ maxLen → l0.length * 1 ≤ 140737488351232 → (∀ x ∈ l0, (Lit.int .u8 x).wf = true) → ∃ k, laws_FnWindowOnce.f k l0 = some true
theorem laws_FnWindowOnce.walk (P : laws_FnWindowOnce.Pure) (a0 : Option Addr) (len0 cap0 : Nat) (z0 : List Int) (w : World) (w0 : (a0 = none ∧ len0 = 0 ∧ cap0 = 0 ∧ z0 = []) ∨ ∃ x, a0 = some x ∧ len0 ≤ cap0 ∧ cap0 ≤ maxLen ∧ z0.length = cap0 ∧ (∀ i, i < z0.length → w.cell? (x.add i) = some (.int .u8 (z0.getD i 0))) ∧ ∀ n ∈ z0, (Lit.int .u8 n).wf = true) (y0 : len0 * 1 ≤ 140737488351232) :
  Calls Try.prog 4 #[.slice a0 len0 cap0] w fun e w' => e = .returned (.bool true) ∧ Below w.heap.size w w' := by
 obtain ⟨l0, rfl, hr0, hm0, hw0, hc0⟩ := ReadsInt.ofRowC w0
 obtain ⟨k, h⟩ := P l0 hm0 y0 hw0
 refine (laws_FnWindowOnce.calls k _ _ l0 true w (Kd.C_of_reads (d := (0 : Int)) (h1 := fun _ => rfl) hr0) hc0 rfl h).mono ?_
 rintro e w' ⟨rfl, hd⟩
 exact ⟨rfl, hd⟩
end Go.Proofs.Ytlpmmmhfceeiaaa.PAll
end
