/- Contracts of the functions that the statement reaches, printed by a program out of the translation and joined with the plain laws. -/
import Derived.Lib.SlicesCompact
import Derived.Test.YtkgbgaojglcaoaaCFnExactWaysDiffer3
import Derived.Test.YtkgbgaojglcaoaaCFnExactWaysDiffer4
import Derived.Test.YtkgbgaojglcaoaaCFnExactWaysDiffer5
import Derived.Test.YtkgbgaojglcaoaaCFnExactWaysDiffer6
import Derived.Test.YtkgbgaojglcaoaaCFnExactWaysDiffer8
section
namespace Go.Proofs.Ytkgbgaojglcaoaa.Z
open Go Go.RowKit Go.Proofs.Ytkgbgaojglcaoaa.PAll Go.Proofs.YtkgbgaojglcaoaaW.PrintWords Go.Proofs.YtkgbgaojglcaoaaW.PrintLast Go.Proofs.YtkgbgaojglcaoaaW.PrintMore
set_option linter.unusedVariables false
set_option linter.unusedSimpArgs false
theorem spec_in (a l h : Int) : spec_l1In.f a l h = some (decide (l ≤ a ∧ a ≤ h)) := by
 unfold spec_l1In.f
 by_cases c : a ≥ l
 ·rw [if_pos c]; simp [c]
 ·rw [if_neg c]
  have : ¬ l ≤ a := by omega
  simp [this]
theorem impl_in (a l h : Int) : impl_in.f a l h = some (decide (l ≤ a ∧ a ≤ h)) := by
 unfold impl_in.f
 by_cases c : a ≥ l
 ·rw [if_pos c]; simp [c]
 ·rw [if_neg c]
  have : ¬ l ≤ a := by omega
  simp [this]
theorem spec_addr (a : Int) : spec_l1Addr.f a = some (decide (0 ≤ a ∧ a ≤ 4294967295)) := by simp only [spec_l1Addr.f, spec_in, Option.bind_some]
theorem impl_addr (a : Int) : impl_isAddr.f a = some (decide (0 ≤ a ∧ a ≤ 4294967295)) := by simp only [impl_isAddr.f, impl_in, Option.bind_some]
theorem two_loop (n : Nat) : ∀ (k : Nat) (c : Int), n ≤ 62 → n < k → 1 ≤ c → c * 2 ^ n ≤ 4611686018427387904 → spec_l1Two.l0 k (n : Int) c = some (c * 2 ^ n) := by
 induction n with
 | zero =>
  intro k c _ hk _ _
  obtain ⟨k, rfl⟩ : ∃ m, k = m + 1 := ⟨k - 1, by omega⟩
  simp only [spec_l1Two.l0]
  rw [if_neg (by omega)]
  simp
 | succ n ih =>
  intro k c hn hk hc hb
  obtain ⟨k, rfl⟩ : ∃ m, k = m + 1 := ⟨k - 1, by omega⟩
  have e : c * 2 ^ (n + 1) = c * 2 * 2 ^ n := by rw [Int.pow_succ, Int.mul_comm ((2 : Int) ^ n) 2, Int.mul_assoc]
  have hp : (1 : Int) ≤ 2 ^ n := by
   have : (0 : Int) < 2 ^ n := Int.pow_pos (by decide)
   omega
  have hc2 : c * 2 ≤ c * 2 * 2 ^ n := by
   have := Int.mul_le_mul_of_nonneg_left hp (by omega : (0 : Int) ≤ c * 2)
   omega
  simp only [spec_l1Two.l0]
  rw [e] at hb ⊢
  rw [if_pos (by omega), w64 (by omega), w64 (by omega)]
  have : ((n + 1 : Nat) : Int) - 1 = (n : Int) := by omega
  rw [this]
  exact ih k (c * 2) (by omega) (by omega) (by omega) hb
theorem spec_two {n : Int} (h0 : 0 ≤ n) (h1 : n ≤ 62) : (∃ K_, ∀ k, K_ ≤ k → spec_l1Two.f k n = some (2 ^ n.toNat)) := by
 refine ⟨n.toNat + 1, fun k hk => ?_⟩
 have e : (n.toNat : Int) = n := by omega
 have hp : (2 : Int) ^ n.toNat ≤ 2 ^ 62 := by
  exact_mod_cast Nat.pow_le_pow_right (n := 2) (by decide) (by omega : n.toNat ≤ 62)
 have := two_loop n.toNat k 1 (by omega) (by omega) (by omega) (by omega)
 rw [e, Int.one_mul] at this
 exact this
theorem spec_size {m : Int} (h0 : 0 ≤ m) (h1 : m ≤ 32) : (∃ K_, ∀ k, K_ ≤ k → spec_l1Size.f k m = some (sz m)) := by
 obtain ⟨K, h⟩ := spec_two (n := 32 - m) (by omega) (by omega)
 refine ⟨K, fun k hk => ?_⟩
 simp only [spec_l1Size.f]
 rw [w64 (by omega), h k hk]
 rfl
theorem impl_size {b m : Int} (h0 : 0 ≤ m) (h1 : m ≤ 32) : impl_Block_size.f b m = some (sz m) := by
 unfold impl_Block_size.f
 rw [w64 (by omega), if_pos (by omega), shl_sz h0 h1]
theorem tmod_beq {b s : Int} (hb : 0 ≤ b) : (Int.tmod b s == 0) = decide (b % s = 0) := by
 rw [Int.tmod_eq_emod_of_nonneg hb]
 rfl
theorem impl_ok (b m : Int) : impl_BlockOk.f b m = some (bokB b m) := by
 unfold impl_BlockOk.f
 rw [impl_addr, Option.bind_some]
 by_cases c : 0 ≤ b ∧ b ≤ 4294967295
 ·rw [if_pos (by simpa using c), impl_in, Option.bind_some]
  by_cases d : 0 ≤ m ∧ m ≤ 32
  ·rw [if_pos (by simpa using d), impl_size d.1 d.2, Option.bind_some, if_neg (by have := sz_pos m; omega), tmod_beq c.1]
   simp [bokB, bok, c, d]
  ·rw [if_neg (by simpa using d)]
   exact congrArg some (bokB_false.2 (fun h => d ⟨h.2.2.1, h.2.2.2.1⟩)).symm
 ·rw [if_neg (by simpa using c)]
  exact congrArg some (bokB_false.2 (fun h => c ⟨h.1, h.2.1⟩)).symm
theorem spec_ok (b m : Int) : (∃ K_, ∀ k, K_ ≤ k → spec_BlockOk.f k b m = some (bokB b m)) := by
 by_cases c : 0 ≤ b ∧ b ≤ 4294967295
 ·by_cases d : 0 ≤ m ∧ m ≤ 32
  ·obtain ⟨K, h⟩ := spec_size d.1 d.2
   refine ⟨K, fun k hk => ?_⟩
   simp only [spec_BlockOk.f]
   rw [spec_addr, Option.bind_some, if_pos (by simpa using c), spec_in, Option.bind_some, if_pos (by simpa using d), h k hk, Option.bind_some, if_neg (by have := sz_pos m; omega), tmod_beq c.1]
   simp [bokB, bok, c, d]
  ·refine ⟨0, fun k _ => ?_⟩
   simp only [spec_BlockOk.f]
   rw [spec_addr, Option.bind_some, if_pos (by simpa using c), spec_in, Option.bind_some, if_neg (by simpa using d)]
   exact congrArg some (bokB_false.2 (fun h => d ⟨h.2.2.1, h.2.2.2.1⟩)).symm
 ·refine ⟨0, fun k _ => ?_⟩
  simp only [spec_BlockOk.f]
  rw [spec_addr, Option.bind_some, if_neg (by simpa using c)]
  exact congrArg some (bokB_false.2 (fun h => c ⟨h.1, h.2.1⟩)).symm
theorem sz_bd {m : Int} (h0 : 0 ≤ m) : 1 ≤ sz m ∧ sz m ≤ 4294967296 := ⟨sz_pos m, sz_top h0⟩
theorem impl_last {b m : Int} (hb0 : 0 ≤ b) (hb1 : b ≤ 4611686018427387904) (h0 : 0 ≤ m) (h1 : m ≤ 32) : impl_Block_last.f b m = some (b + sz m - 1) := by
 have := sz_bd h0
 unfold impl_Block_last.f
 rw [impl_size h0 h1, Option.bind_some, w64 (n := b + sz m) (by omega), w64 (by omega)]
theorem spec_last {b m : Int} (hb0 : -1 ≤ b) (hb1 : b ≤ 4611686018427387904) (h0 : 0 ≤ m) (h1 : m ≤ 32) : (∃ K_, ∀ k, K_ ≤ k → spec_l1Last.f k b m = some (b + sz m - 1)) := by
 have := sz_bd h0
 obtain ⟨K, h⟩ := spec_size h0 h1
 refine ⟨K, fun k hk => ?_⟩
 simp only [spec_l1Last.f]
 rw [h k hk, Option.bind_some, w64 (n := b + sz m) (by omega), w64 (by omega)]
/-- Is an address in a block? -/
def hasB (b m a : Int) : Bool := decide (b ≤ a ∧ a ≤ b + sz m - 1)
theorem hasB_iff {b m a : Int} : hasB b m a = true ↔ b ≤ a ∧ a < b + sz m := by simp only [hasB, decide_eq_true_eq]; omega
theorem impl_has {b m : Int} (a : Int) (hb0 : 0 ≤ b) (hb1 : b ≤ 4611686018427387904) (h0 : 0 ≤ m) (h1 : m ≤ 32) : impl_Block_has.f b m a = some (hasB b m a) := by
 unfold impl_Block_has.f
 rw [impl_last hb0 hb1 h0 h1, Option.bind_some, impl_in, Option.bind_some]
 rfl
/-- Strictly rising. -/
def Rise (l : List Int) : Prop := l.Pairwise (fun a b => a < b)
theorem rise_ext : ∀ {l m : List Int}, Rise l → Rise m → (∀ x, x ∈ l ↔ x ∈ m) → l = m
 | [], [], _, _, _ => rfl
 | [], y :: m, _, _, h => by have := (h y).2 (List.mem_cons_self ..); cases this
 | x :: l, [], _, _, h => by have := (h x).1 (List.mem_cons_self ..); cases this
 | x :: l, y :: m, hl, hm, h => by
  obtain ⟨h1, h2⟩ := List.pairwise_cons.1 hl
  obtain ⟨h3, h4⟩ := List.pairwise_cons.1 hm
  have e : x = y := by
   have a := (h x).1 (List.mem_cons_self ..)
   have b := (h y).2 (List.mem_cons_self ..)
   rcases List.mem_cons.1 a with a | a
   ·exact a
   ·rcases List.mem_cons.1 b with b | b
    ·exact b.symm
    ·have := h1 y b; have := h3 x a; omega
  subst e
  rw [rise_ext h2 h4 (fun z => ?_)]
  constructor
  ·intro hz
   rcases List.mem_cons.1 ((h z).1 (List.mem_cons_of_mem _ hz)) with e | e
   ·have := h1 z hz; omega
   ·exact e
  ·intro hz
   rcases List.mem_cons.1 ((h z).2 (List.mem_cons_of_mem _ hz)) with e | e
   ·have := h3 z hz; omega
   ·exact e
/-- A number put among others. -/
def numF : List Int → Int → List Int
 | [], n => [n]
 | x :: l, n => if x < n then x :: numF l n else if x = n then x :: l else n :: x :: l
theorem mem_numF {n y : Int} : ∀ {l : List Int}, y ∈ numF l n ↔ y = n ∨ y ∈ l
 | [] => by simp [numF]
 | x :: l => by
  unfold numF
  split
  ·simp only [List.mem_cons, mem_numF (l := l)]
   constructor
   ·rintro (h | h | h) <;> simp [h]
   ·rintro (h | h | h) <;> simp [h]
  ·split
   ·rename_i e
    subst e
    simp
   ·simp
theorem rise_numF {n : Int} : ∀ {l : List Int}, Rise l → Rise (numF l n)
 | [], _ => List.pairwise_cons.2 ⟨by simp, List.Pairwise.nil⟩
 | x :: l, h => by
  obtain ⟨h1, h2⟩ := List.pairwise_cons.1 h
  unfold numF
  split
  ·refine List.pairwise_cons.2 ⟨fun z hz => ?_, rise_numF h2⟩
   rcases mem_numF.1 hz with e | e
   ·rw [e]; assumption
   ·exact h1 z e
  ·split
   ·exact h
   ·refine List.pairwise_cons.2 ⟨fun z hz => ?_, h⟩
    rcases List.mem_cons.1 hz with e | e
    ·omega
    ·have := h1 z e; omega
/-- Numbers, each put among those ahead of it. -/
def numsF (l ns : List Int) : List Int := ns.foldl numF l
theorem rise_numsF : ∀ {ns l : List Int}, Rise l → Rise (numsF l ns)
 | [], _, h => h
 | _ :: ns, _, h => rise_numsF (ns := ns) (rise_numF h)
theorem mem_numsF {y : Int} : ∀ {ns l : List Int}, y ∈ numsF l ns ↔ y ∈ l ∨ y ∈ ns
 | [], l => by simp [numsF]
 | n :: ns, l => by
  show y ∈ numsF (numF l n) ns ↔ _
  rw [mem_numsF, mem_numF]
  simp only [List.mem_cons]
  constructor
  ·rintro ((h | h) | h) <;> simp [h]
  ·rintro (h | h | h) <;> simp [h]
theorem rise_one (n : Int) : Rise [n] := List.pairwise_cons.2 ⟨by simp, List.Pairwise.nil⟩
/-- Sorted, each once. -/
def dedF : List Int → List Int
 | [] => []
 | [x] => [x]
 | x :: y :: l => if x = y then dedF (y :: l) else x :: dedF (y :: l)
theorem mem_ded {z : Int} : ∀ {l : List Int}, z ∈ dedF l ↔ z ∈ l
 | [] => by simp [dedF]
 | [x] => by simp [dedF]
 | x :: y :: l => by
  unfold dedF
  split
  ·rename_i e
   subst e
   rw [mem_ded]
   simp
  ·simp only [List.mem_cons, mem_ded (l := y :: l)]
theorem rise_ded : ∀ {l : List Int}, l.Pairwise (fun a b => a ≤ b) → Rise (dedF l)
 | [], _ => List.Pairwise.nil
 | [x], _ => rise_one x
 | x :: y :: l, h => by
  obtain ⟨h1, h2⟩ := List.pairwise_cons.1 h
  have ih := rise_ded h2
  unfold dedF
  split
  ·exact ih
  ·rename_i e
   refine List.pairwise_cons.2 ⟨fun z hz => ?_, ih⟩
   have hz' := mem_ded.1 hz
   have a := h1 y (List.mem_cons_self ..)
   rcases List.mem_cons.1 hz' with e2 | e2
   ·omega
   ·have := (List.pairwise_cons.1 h2).1 z e2
    omega
/-- Sorting, and each once, is putting one by one. -/
def sortF (l : List Int) : List Int := l.mergeSort fun x y => decide (x ≤ y)
theorem sortF_le (l : List Int) : (sortF l).Pairwise (fun a b => a ≤ b) := by
 have := List.pairwise_mergeSort (le := fun x y : Int => decide (x ≤ y)) (fun a b c h1 h2 => by simp only [decide_eq_true_eq] at *; omega) (fun a b => by simp only [Bool.or_eq_true, decide_eq_true_eq]; omega) l
 exact this.imp (fun h => by simpa using h)
theorem mem_sortF {l : List Int} {x : Int} : x ∈ sortF l ↔ x ∈ l := by unfold sortF; exact List.mem_mergeSort
theorem ded_sort {l m : List Int} (hm : Rise m) (h : ∀ x, x ∈ m ↔ x ∈ l) : dedF (sortF l) = m :=
 rise_ext (rise_ded (sortF_le l)) hm (fun x => by rw [mem_ded, mem_sortF, h])
def tailC (x : Int) (t : List Int) : List Int := ((List.range t.length).filter (fun j => decide ((x :: t)[j + 1]! ≠ (x :: t)[j]!))).map (fun j => (x :: t)[j + 1]!)
theorem tailC_cons (x y : Int) (l : List Int) : tailC x (y :: l) = (if y ≠ x then [y] else []) ++ tailC y l := by
 unfold tailC
 rw [List.length_cons, List.range_succ_eq_map, List.filter_cons, List.filter_map]
 by_cases e : y = x <;> simp [e, Function.comp_def]
theorem ded_tail : ∀ (x : Int) (t : List Int), dedF (x :: t) = x :: tailC x t
 | x, [] => rfl
 | x, y :: l => by
  unfold dedF
  rw [tailC_cons, ded_tail y l]
  by_cases e : x = y
  ·subst e; simp
  ·rw [if_neg e, if_pos (Ne.symm e)]; rfl
theorem compact_ded : ∀ l : List Int, Lib.compact l = dedF l
 | [] => rfl
 | x :: t => by
  rw [ded_tail]
  unfold Lib.compact Lib.compactUpTo tailC
  rw [List.length_cons, List.range_succ_eq_map, List.filter_cons]
  have h0 : Lib.keeps (x :: t).toArray 0 = true := by simp [Lib.keeps]
  have hs : ∀ j, Lib.keeps (x :: t).toArray (j + 1) = decide ((x :: t)[j + 1]! ≠ (x :: t)[j]!) := fun j => by simp [Lib.keeps]
  rw [h0, if_pos rfl, List.filter_map, List.map_cons, List.map_map]
  simp only [Function.comp_def, Nat.succ_eq_add_one, hs]
  simp
theorem numF_len (l : List Int) (n : Int) : (numF l n).length ≤ l.length + 1 := by
 induction l with
 | nil => simp [numF]
 | cons x l ih =>
  unfold numF
  split
  ·simp only [List.length_cons]; omega
  ·split
   ·simp only [List.length_cons]; omega
   ·simp only [List.length_cons]; omega
theorem rd_num (l : List Int) (n : Nat) (h : n < l.length) : rd l (n : Int) = l[n] := by
 unfold rd
 rw [List.getD_eq_getElem?_getD, Int.toNat_natCast, List.getElem?_eq_getElem h]
 rfl
theorem spec_num_loop (l : List Int) (v : Int) (hl : l.length ≤ 1000000000) (d : Nat) : ∀ n : Nat, n + d = l.length → (∃ K_, ∀ k, K_ ≤ k → spec_l3Num.l0 k l v (n : Int) = some (l.take n ++ numF (l.drop n) v)) := by
 induction d with
 | zero =>
  intro n hn
  refine ev1 ?_
  simp only [spec_l3Num.l0]
  have e : l.take n = l := List.take_of_length_le (by omega)
  have e2 : l.drop n = [] := List.drop_eq_nil_of_le (by omega)
  refine evN (by omega) (evS rfl (evP (by omega) (evP (by omega) ?_)))
  rw [Int.toNat_natCast, e, e2]
  refine evS rfl (evP (by simp; omega) (evS rfl (evS rfl (evP (by simp; omega) (evS rfl (evS rfl (evP (by simp; omega) (evR ?_))))))))
  simp [numF]
 | succ d ih =>
  intro n hn
  have hlt : n < l.length := by omega
  have hw : wrap64 ((n : Int) + 1) = ((n + 1 : Nat) : Int) := by rw [w64 (by omega)]; omega
  refine ev1 ?_
  simp only [spec_l3Num.l0]
  refine evP (by omega) (evP (by omega) ?_)
  rw [rd_num l n hlt, hw, List.drop_eq_getElem_cons hlt]
  refine evI (fun c => ?_) (fun c => ?_)
  ·have h := ih (n + 1) (by omega)
   rw [List.take_succ_eq_append_getElem hlt] at h
   simp only [numF, if_pos c]
   rw [List.append_assoc] at h
   exact h
  ·refine evI (fun c2 => ?_) (fun c2 => ?_)
   ·refine evR ?_
    simp only [numF, if_neg c, if_pos c2]
    rw [← List.drop_eq_getElem_cons hlt, List.take_append_drop]
   ·refine evS rfl (evP (by omega) ?_)
    rw [Int.toNat_natCast]
    refine evS rfl (evP (by simp; omega) (evS rfl (evS rfl (evP (by simp; omega) (evS rfl (evS rfl (evP (by simp; omega) (evR ?_))))))))
    simp only [numF, if_neg c, if_neg c2]
    rw [← List.drop_eq_getElem_cons hlt]
    simp
theorem spec_num (l : List Int) (v : Int) (hl : l.length ≤ 1000000000) : (∃ K_, ∀ k, K_ ≤ k → spec_l3Num.f k l v = some (numF l v)) := spec_num_loop l v hl l.length 0 (by omega)
/-- Where something may change about a block: where it begins, and behind its end. -/
def edgeB (b m : Int) : List Int := if b + sz m ≤ 4294967295 then [b, b + sz m] else [b]
theorem edgeB_len (b m : Int) : (edgeB b m).length ≤ 2 := by unfold edgeB; split <;> simp
def edgesF (bs : List S43) : List Int := numsF [0] (bs.flatMap fun b => edgeB b.f0 b.f1)
theorem rise_edgesF (bs : List S43) : Rise (edgesF bs) := rise_numsF (rise_one 0)
theorem rd_bk (l : List S43) (n : Nat) (h : n < l.length) : rd_T43 l (n : Int) = l[n] := by
 unfold rd_T43
 rw [List.getD_eq_getElem?_getD, Int.toNat_natCast, List.getElem?_eq_getElem h]
 rfl
theorem sort_ded (l : List Int) (h0 : 0 < l.length) (h1 : l.length ≤ 1000000000) : ((slices_Sort_int.f l).bind fun t => (slices_Compact_int.f t).bind fun t => some t) = some (dedF (sortF l)) := by
 have hl : (sortF l).length = l.length := by unfold sortF; exact List.length_mergeSort _
 unfold slices_Sort_int.f
 rw [if_pos (by omega), if_pos (by omega), Option.bind_some]
 show ((slices_Compact_int.f (sortF l)).bind fun t => some t) = _
 unfold slices_Compact_int.f
 rw [if_pos (by omega), Option.bind_some, compact_ded]
theorem impl_bounds_loop (l : List S43) (hv : ∀ b ∈ l, bok b.f0 b.f1) (hl : l.length ≤ 100000000) (d : Nat) : ∀ (n : Nat) (acc : List Int), n + d = l.length → 0 < acc.length → acc.length + 2 * d ≤ 300000000 → (∃ K_, ∀ k, K_ ≤ k → impl_bounds.l0 k acc l (l.length : Int) (n : Int) = some (dedF (sortF (acc ++ (l.drop n).flatMap fun b => edgeB b.f0 b.f1)))) := by
 induction d with
 | zero =>
  intro n acc hn h0 ha
  refine ev1 ?_
  simp only [impl_bounds.l0]
  rw [List.drop_eq_nil_of_le (by omega), List.flatMap_nil, List.append_nil]
  exact evN (by omega) ⟨0, fun k _ => sort_ded acc h0 (by omega)⟩
 | succ d ih =>
  intro n acc hn h0 ha
  have hlt : n < l.length := by omega
  have hw : wrap64 ((n : Int) + 1) = ((n + 1 : Nat) : Int) := by rw [w64 (by omega)]; omega
  have hb := hv l[n] (List.getElem_mem hlt)
  have hs := sz_bd hb.2.2.1
  have hla := impl_last hb.1 (by have := hb.2.1; omega) hb.2.2.1 hb.2.2.2.1
  have hb2 := hb.2.1
  have hb1 := hb.1
  refine ev1 ?_
  simp only [impl_bounds.l0]
  rw [rd_bk l n hlt, hw, List.drop_eq_getElem_cons hlt, List.flatMap_cons]
  refine evP (by omega) (evP (by omega) (evP (by omega) (evP (by omega) (evS rfl (evS hla (evI (fun c => ?_) (fun c => ?_)))))))
  ·have e : wrap64 (l[n].f0 + sz l[n].f1 - 1 + 1) = l[n].f0 + sz l[n].f1 := by rw [w64 (by omega)]; omega
   have h := ih (n + 1) (acc ++ [l[n].f0] ++ [l[n].f0 + sz l[n].f1]) (by omega) (by simp) (by simp; omega)
   refine evS hla (evP (by simp; omega) ?_)
   rw [e]
   unfold edgeB
   rw [if_pos (by omega)]
   rw [List.append_assoc, List.append_assoc] at h
   rw [List.append_assoc]
   exact h
  ·have h := ih (n + 1) (acc ++ [l[n].f0]) (by omega) (by simp) (by simp; omega)
   unfold edgeB
   rw [if_neg (by omega)]
   rw [List.append_assoc] at h
   exact h
theorem impl_bounds (l : List S43) (hv : ∀ b ∈ l, bok b.f0 b.f1) (hl : l.length ≤ 100000000) : (∃ K_, ∀ k, K_ ≤ k → impl_bounds.f k l = some (edgesF l)) := by
 have h := impl_bounds_loop l hv hl l.length 0 [0] (by omega) (by simp) (by simp; omega)
 have e : dedF (sortF ([0] ++ (l.drop 0).flatMap fun b => edgeB b.f0 b.f1)) = edgesF l := ded_sort (rise_edgesF l) (fun x => by rw [edgesF, mem_numsF, List.drop_zero, List.mem_append])
 rw [e] at h
 exact h
abbrev Wy := S45
theorem drop_cons {α : Type} {l : List α} {n : Nat} (h : n < l.length) : l.drop n = l[n] :: l.drop (n + 1) := List.drop_eq_getElem_cons h
theorem rd_way (l : List Wy) (n : Nat) (h : n < l.length) : rd_T45 l (n : Int) = l[n] := by
 unfold rd_T45
 rw [List.getD_eq_getElem?_getD, Int.toNat_natCast, List.getElem?_eq_getElem h]
 rfl
/-- The block of a way comes ahead of another one's. -/
def ltB (a b : S43) : Bool := decide (a.f0 < b.f0 ∨ a.f0 = b.f0 ∧ a.f1 < b.f1)
/-- Is it a hop? -/
def hopB (x : Int) : Bool := decide (0 ≤ x ∧ x ≤ 99)
def wayB (w : Wy) : Bool := bokB w.f0.f0 w.f0.f1 && hopB w.f1
/-- Each way is valid, and ahead of the next one; 'p': the one before. -/
def chainB : Option Wy → List Wy → Bool
 | _, [] => true
 | none, w :: l => wayB w && chainB (some w) l
 | some p, w :: l => wayB w && (ltB p.f0 w.f0 && chainB (some w) l)
def wokB (l : List Wy) : Bool := chainB none l && decide (l.length ≤ 40)
/-- The way ahead of place n. -/
def prevW (l : List Wy) (n : Nat) : Option Wy := match n with | 0 => none | m + 1 => l[m]?
theorem isnan (a : Int) : cmp_isNaN_int.f a = some false := by simp [cmp_isNaN_int.f]
/-- How two numbers stand to each other. -/
def cmpI (a b : Int) : Int := if a < b then -1 else if a > b then 1 else 0
theorem cmp_int (a b : Int) : cmp_Compare_int.f a b = some (cmpI a b) := by
 unfold cmp_Compare_int.f cmpI
 rw [isnan, Option.bind_some, isnan, Option.bind_some]
 simp only [Bool.false_eq_true, if_false]
 split
 ·rfl
 ·split <;> rfl
theorem or_two (a b : Int) : (∃ K_, ∀ k, K_ ≤ k → cmp_Or_int.f k [a, b] = some (if a = 0 then b else a)) := by
 refine ⟨3, fun k hk => ?_⟩
 obtain ⟨k, rfl⟩ : ∃ j, k = j + 3 := ⟨k - 3, by omega⟩
 have e : (([a, b] : List Int).length : Int) = 2 := rfl
 have e0 : wrap64 (0 + 1) = 1 := w64 (by omega)
 have e1 : wrap64 (1 + 1) = 2 := w64 (by omega)
 have r0 : rd [a, b] 0 = a := rfl
 have r1 : rd [a, b] 1 = b := rfl
 simp only [cmp_Or_int.f]
 rw [cmp_Or_int.l0, e, if_pos (by omega), if_pos (by omega), if_pos (by omega), r0]
 by_cases h0 : a = 0
 ·rw [if_pos h0, if_pos h0, e0, cmp_Or_int.l0, e, if_pos (by omega), if_pos (by omega), if_pos (by omega), r1]
  by_cases h1 : b = 0
  ·rw [if_pos h1, e1, cmp_Or_int.l0, if_neg (by omega), h1]
  ·rw [if_neg h1]
 ·rw [if_neg h0, if_neg h0]
theorem by_block (a b : S43) : ∃ v, (∃ K_, ∀ k, K_ ≤ k → impl_byBlock.f k a.f0 a.f1 b.f0 b.f1 = some v) ∧ (v ≥ 0 ↔ ltB a b = false) ∧ (v = 0 ↔ a.f0 = b.f0 ∧ a.f1 = b.f1) ∧ -1 ≤ v ∧ v ≤ 1 := by
 obtain ⟨K, h⟩ := or_two (cmpI a.f0 b.f0) (cmpI a.f1 b.f1)
 refine ⟨if cmpI a.f0 b.f0 = 0 then cmpI a.f1 b.f1 else cmpI a.f0 b.f0, ⟨K, fun k hk => ?_⟩, ?_⟩
 ·simp only [impl_byBlock.f]
  rw [cmp_int, Option.bind_some, cmp_int, Option.bind_some, h k hk, Option.bind_some]
 ·have e : ltB a b = false ↔ ¬ (a.f0 < b.f0 ∨ a.f0 = b.f0 ∧ a.f1 < b.f1) := by simp only [ltB, decide_eq_false_iff_not]
  rw [e]
  unfold cmpI
  repeat' split
  all_goals omega
theorem cmp_block {a b : S43} (ha : bok a.f0 a.f1) (hb : bok b.f0 b.f1) : ∃ v, spec_l3Cmp.f a.f0 a.f1 b.f0 b.f1 = some v ∧ (v ≥ 0 ↔ ltB a b = false) ∧ (v < 0 ↔ ltB a b = true) := by
 obtain ⟨a0, a1, a2, a3, _⟩ := ha
 obtain ⟨b0, b1, b2, b3, _⟩ := hb
 have e : ltB a b = false ↔ ¬ (a.f0 < b.f0 ∨ a.f0 = b.f0 ∧ a.f1 < b.f1) := by simp only [ltB, decide_eq_false_iff_not]
 have e' : ltB a b = true ↔ (a.f0 < b.f0 ∨ a.f0 = b.f0 ∧ a.f1 < b.f1) := by simp only [ltB, decide_eq_true_eq]
 unfold spec_l3Cmp.f
 rw [e, e']
 by_cases c : a.f0 = b.f0
 ·rw [if_pos c, w64 (by omega)]
  exact ⟨_, rfl, by omega, by omega⟩
 ·rw [if_neg c, w64 (by omega)]
  exact ⟨_, rfl, by omega, by omega⟩
theorem prevW_succ {l : List Wy} {n : Nat} (h : n < l.length) : prevW l (n + 1) = some l[n] := by simp [prevW, h]
/-- What the loops of WaysOk answer, from place n on, all ways ahead being valid. -/
theorem impl_waysOk_loop (l : List Wy) (hl : l.length ≤ 1099511627776) (d : Nat) : ∀ n : Nat, n + d = l.length → (∃ K_, ∀ k, K_ ≤ k → impl_WaysOk.l0 k l l (l.length : Int) (n : Int) = some (chainB (prevW l n) (l.drop n) && decide (l.length ≤ 40))) := by
 induction d with
 | zero =>
  intro n hn
  refine ⟨1, fun k hk => ?_⟩
  obtain ⟨k, rfl⟩ : ∃ j, k = j + 1 := ⟨k - 1, by omega⟩
  simp only [impl_WaysOk.l0]
  rw [if_neg (by omega), List.drop_eq_nil_of_le (by omega)]
  have : decide ((l.length : Int) ≤ 40) = decide (l.length ≤ 40) := by rw [decide_eq_decide]; omega
  rw [this]
  cases prevW l n <;> rfl
 | succ d ih =>
  intro n hn
  have hlt : n < l.length := by omega
  obtain ⟨K1, e1⟩ := ih (n + 1) (by omega)
  rw [prevW_succ hlt] at e1
  have hw : wrap64 ((n : Int) + 1) = ((n + 1 : Nat) : Int) := by rw [w64 (by omega)]; omega
  rw [drop_cons hlt]
  have hin : ∀ x : Int, impl_in.f x 0 99 = some (hopB x) := fun x => impl_in x 0 99
  cases n with
  | zero =>
   refine ⟨K1 + 1, fun k hk => ?_⟩
   obtain ⟨k, rfl⟩ : ∃ j, k = j + 1 := ⟨k - 1, by omega⟩
   have e1 := e1 k (by omega)
   simp only [impl_WaysOk.l0, prevW, chainB]
   rw [if_pos (by omega), if_pos (by omega), if_pos (by omega), rd_way l 0 hlt, impl_ok, Option.bind_some, hin, Option.bind_some, hw, e1]
   cases hx : bokB l[0].f0.f0 l[0].f0.f1 with
   | false => simp [wayB, hx]
   | true =>
    cases hy : hopB l[0].f1 with
    | true =>
     rw [if_pos rfl, if_pos rfl, if_neg (by omega)]
     simp [wayB, hx, hy]
    | false => simp [wayB, hx, hy]
  | succ m =>
   have hm : m < l.length := by omega
   have hw2 : wrap64 (((m + 1 : Nat) : Int) - 1) = (m : Int) := by rw [w64 (by omega)]; omega
   obtain ⟨v, ⟨K2, e2⟩, v1, _⟩ := by_block l[m].f0 l[m + 1].f0
   refine ⟨K1 + K2 + 1, fun k hk => ?_⟩
   obtain ⟨k, rfl⟩ : ∃ j, k = j + 1 := ⟨k - 1, by omega⟩
   have e1 := e1 k (by omega)
   have e2 := e2 k (by omega)
   simp only [impl_WaysOk.l0]
   rw [prevW_succ hm]
   simp only [chainB]
   rw [if_pos (by omega), if_pos (by omega), if_pos (by omega), rd_way l (m + 1) hlt, impl_ok, Option.bind_some, hin, Option.bind_some, hw, e1]
   cases hx : bokB l[m + 1].f0.f0 l[m + 1].f0.f1 with
   | false => simp [wayB, hx]
   | true =>
    cases hy : hopB l[m + 1].f1 with
    | true =>
     rw [if_pos rfl, if_pos rfl, if_pos (by omega), hw2, if_pos (by omega), if_pos (by omega), rd_way l m hm, e2, Option.bind_some]
     cases q : ltB l[m].f0 l[m + 1].f0 with
     | false =>
      rw [if_pos (v1.2 q)]
      simp
     | true =>
      rw [if_neg (fun h => by rw [v1.1 h] at q; cases q)]
      simp [wayB, hx, hy]
    | false => simp [wayB, hx, hy]
theorem impl_waysOk (l : List Wy) (hl : l.length ≤ 1099511627776) : (∃ K_, ∀ k, K_ ≤ k → impl_WaysOk.f k l = some (wokB l)) := impl_waysOk_loop l hl l.length 0 (by omega)
theorem spec_waysOk_loop (l : List Wy) (hl : l.length ≤ 1099511627776) (d : Nat) : ∀ n : Nat, n + d = l.length → (∀ m (h : m < n), m < l.length → ∀ p, l[m]? = some p → bok p.f0.f0 p.f0.f1) → (∃ K_, ∀ k, K_ ≤ k → spec_WaysOk.l0 k l (n : Int) = some (chainB (prevW l n) (l.drop n) && decide (l.length ≤ 40))) := by
 induction d with
 | zero =>
  intro n hn _
  refine ⟨1, fun k hk => ?_⟩
  obtain ⟨k, rfl⟩ : ∃ j, k = j + 1 := ⟨k - 1, by omega⟩
  simp only [spec_WaysOk.l0]
  rw [if_neg (by omega), List.drop_eq_nil_of_le (by omega)]
  have : decide ((l.length : Int) ≤ 40) = decide (l.length ≤ 40) := by rw [decide_eq_decide]; omega
  rw [this]
  cases prevW l n <;> rfl
 | succ d ih =>
  intro n hn hv
  have hlt : n < l.length := by omega
  have hw : wrap64 ((n : Int) + 1) = ((n + 1 : Nat) : Int) := by rw [w64 (by omega)]; omega
  obtain ⟨K3, e3⟩ := spec_ok l[n].f0.f0 l[n].f0.f1
  rw [drop_cons hlt]
  have hin : ∀ x : Int, spec_l1In.f x 0 99 = some (hopB x) := fun x => spec_in x 0 99
  cases hb : bokB l[n].f0.f0 l[n].f0.f1 with
  | false =>
   refine ⟨K3 + 1, fun k hk => ?_⟩
   obtain ⟨k, rfl⟩ : ∃ j, k = j + 1 := ⟨k - 1, by omega⟩
   simp only [spec_WaysOk.l0]
   rw [if_pos (by omega), if_pos (by omega), rd_way l n hlt, e3 k (by omega), Option.bind_some, hb]
   cases prevW l n <;> simp [chainB, wayB, hb]
  | true =>
   obtain ⟨K1, e1⟩ := ih (n + 1) (by omega) (fun m h1 h2 p hp => by
    by_cases e : m = n
    ·subst e
     rw [List.getElem?_eq_getElem hlt] at hp
     cases hp
     exact bokB_true.1 hb
    ·exact hv m (by omega) h2 p hp)
   rw [prevW_succ hlt] at e1
   cases n with
   | zero =>
    refine ⟨K1 + K3 + 1, fun k hk => ?_⟩
    obtain ⟨k, rfl⟩ : ∃ j, k = j + 1 := ⟨k - 1, by omega⟩
    have e1 := e1 k (by omega)
    simp only [spec_WaysOk.l0, prevW, chainB, wayB]
    rw [if_pos (by omega), if_pos (by omega), rd_way l 0 hlt, e3 k (by omega), Option.bind_some, hin, Option.bind_some, hw, e1, hb]
    cases hy : hopB l[0].f1 with
    | true =>
     rw [if_pos rfl, if_pos rfl, if_neg (by omega)]
     simp [hy]
    | false => simp [hy]
   | succ m =>
    have hm : m < l.length := by omega
    have hw2 : wrap64 (((m + 1 : Nat) : Int) - 1) = (m : Int) := by rw [w64 (by omega)]; omega
    obtain ⟨v, e2, v1, _⟩ := cmp_block (hv m (by omega) hm l[m] (List.getElem?_eq_getElem hm)) (bokB_true.1 hb)
    refine ⟨K1 + K3 + 1, fun k hk => ?_⟩
    obtain ⟨k, rfl⟩ : ∃ j, k = j + 1 := ⟨k - 1, by omega⟩
    have e1 := e1 k (by omega)
    simp only [spec_WaysOk.l0]
    rw [prevW_succ hm]
    simp only [chainB, wayB]
    rw [if_pos (by omega), if_pos (by omega), rd_way l (m + 1) hlt, e3 k (by omega), Option.bind_some, hin, Option.bind_some, hw, e1, hb]
    cases hy : hopB l[m + 1].f1 with
    | true =>
     rw [if_pos rfl, if_pos rfl, if_pos (by omega), hw2, if_pos (by omega), if_pos (by omega), rd_way l m hm, e2, Option.bind_some]
     cases q : ltB l[m].f0 l[m + 1].f0 with
     | false =>
      rw [if_pos (v1.2 q)]
      simp
     | true =>
      rw [if_neg (fun h => by rw [v1.1 h] at q; cases q)]
      simp [hy]
    | false => simp [hy]
theorem spec_waysOk (l : List Wy) (hl : l.length ≤ 1099511627776) : (∃ K_, ∀ k, K_ ≤ k → spec_WaysOk.f k l = some (wokB l)) := spec_waysOk_loop l hl l.length 0 (by omega) (fun m h => absurd h (by omega))
theorem chainB_valid {l : List Wy} : ∀ {p : Option Wy}, chainB p l = true → ∀ w ∈ l, wayB w = true := by
 induction l with
 | nil => intro p _ w hw; cases hw
 | cons x l ih =>
  intro p h w hw
  have h' : wayB x = true ∧ chainB (some x) l = true := by
   cases p <;> simp only [chainB, Bool.and_eq_true] at h
   ·exact h
   ·exact ⟨h.1, h.2.2⟩
  rcases List.mem_cons.1 hw with rfl | hw
  ·exact h'.1
  ·exact ih h'.2 w hw
theorem wokB_valid {l : List Wy} (h : wokB l = true) : ∀ w ∈ l, bok w.f0.f0 w.f0.f1 ∧ 0 ≤ w.f1 ∧ w.f1 ≤ 99 := by
 intro w hw
 simp only [wokB, Bool.and_eq_true] at h
 have := chainB_valid h.1 w hw
 simp only [wayB, hopB, Bool.and_eq_true, bokB_true, decide_eq_true_eq] at this
 exact ⟨this.1, this.2⟩
theorem wokB_len {l : List Wy} (h : wokB l = true) : l.length ≤ 40 := by
 simp only [wokB, Bool.and_eq_true, decide_eq_true_eq] at h
 exact h.2
/-- The hop to which an address leads, of what is left; the best till here. -/
def leadGo (a : Int) : List Wy → Int → Int → Int
 | [], hop, _ => hop
 | w :: l, hop, bits => if hasB w.f0.f0 w.f0.f1 a = true ∧ w.f0.f1 > bits then leadGo a l w.f1 w.f0.f1 else leadGo a l hop bits
def leadF (l : List Wy) (a : Int) : Int := leadGo a l (-1) (-1)
theorem impl_lead_loop (l : List Wy) (a : Int) (hv : ∀ w ∈ l, bok w.f0.f0 w.f0.f1) (hl : l.length ≤ 1099511627776) (d : Nat) : ∀ (n : Nat) (x y z : Int), n + d = l.length → (∃ K_, ∀ k, K_ ≤ k → impl_lead.l0 k a l (l.length : Int) (n : Int) x y z = some (leadGo a (l.drop n) z y)) := by
 induction d with
 | zero =>
  intro n x y z hn
  refine ⟨1, fun k hk => ?_⟩
  obtain ⟨k, rfl⟩ : ∃ j, k = j + 1 := ⟨k - 1, by omega⟩
  simp only [impl_lead.l0]
  rw [if_neg (by omega), List.drop_eq_nil_of_le (by omega)]
  rfl
 | succ d ih =>
  intro n x y z hn
  have hlt : n < l.length := by omega
  have hw : wrap64 ((n : Int) + 1) = ((n + 1 : Nat) : Int) := by rw [w64 (by omega)]; omega
  have hb := hv l[n] (List.getElem_mem hlt)
  obtain ⟨K1, e1⟩ := ih (n + 1) x y z (by omega)
  obtain ⟨K2, e2⟩ := ih (n + 1) l[n].f0.f0 l[n].f0.f1 l[n].f1 (by omega)
  refine ⟨K1 + K2 + 1, fun k hk => ?_⟩
  obtain ⟨k, rfl⟩ : ∃ j, k = j + 1 := ⟨k - 1, by omega⟩
  have e1 := e1 k (by omega)
  have e2 := e2 k (by omega)
  simp only [impl_lead.l0]
  rw [drop_cons hlt, if_pos (by omega), if_pos (by omega), if_pos (by omega), rd_way l n hlt, impl_has a hb.1 (by have := hb.2.1; omega) hb.2.2.1 hb.2.2.2.1, Option.bind_some, hw, e1, e2]
  simp only [leadGo]
  cases hasB l[n].f0.f0 l[n].f0.f1 a with
  | false => simp
  | true =>
   by_cases c : l[n].f0.f1 > y
   ·simp [c]
   ·simp [c]
theorem impl_lead (l : List Wy) (a : Int) (hv : ∀ w ∈ l, bok w.f0.f0 w.f0.f1) (hl : l.length ≤ 1099511627776) : (∃ K_, ∀ k, K_ ≤ k → impl_lead.f k l a = some (leadF l a)) := impl_lead_loop l a hv hl l.length 0 0 (-1) (-1) (by omega)
theorem spec_lead_loop (l : List Wy) (a : Int) (hv : ∀ w ∈ l, bok w.f0.f0 w.f0.f1) (hl : l.length ≤ 1099511627776) (d : Nat) : ∀ (n : Nat) (y z : Int), n + d = l.length → (∃ K_, ∀ k, K_ ≤ k → spec_l3Lead.l0 k l a z y (n : Int) = some (leadGo a (l.drop n) z y)) := by
 induction d with
 | zero =>
  intro n y z hn
  refine ⟨1, fun k hk => ?_⟩
  obtain ⟨k, rfl⟩ : ∃ j, k = j + 1 := ⟨k - 1, by omega⟩
  simp only [spec_l3Lead.l0]
  rw [if_neg (by omega), List.drop_eq_nil_of_le (by omega)]
  rfl
 | succ d ih =>
  intro n y z hn
  have hlt : n < l.length := by omega
  have hw : wrap64 ((n : Int) + 1) = ((n + 1 : Nat) : Int) := by rw [w64 (by omega)]; omega
  have hb := hv l[n] (List.getElem_mem hlt)
  obtain ⟨K1, e1⟩ := ih (n + 1) y z (by omega)
  obtain ⟨K2, e2⟩ := ih (n + 1) l[n].f0.f1 l[n].f1 (by omega)
  obtain ⟨K3, e3⟩ := spec_last (b := l[n].f0.f0) (m := l[n].f0.f1) (by have := hb.1; omega) (by have := hb.2.1; omega) hb.2.2.1 hb.2.2.2.1
  refine ⟨K1 + K2 + K3 + 1, fun k hk => ?_⟩
  obtain ⟨k, rfl⟩ : ∃ j, k = j + 1 := ⟨k - 1, by omega⟩
  have e1 := e1 k (by omega)
  have e2 := e2 k (by omega)
  simp only [spec_l3Lead.l0]
  rw [drop_cons hlt, if_pos (by omega), if_pos (by omega), rd_way l n hlt, e3 k (by omega), Option.bind_some, spec_in, Option.bind_some, hw, e1, e2]
  simp only [leadGo]
  have hh : hasB l[n].f0.f0 l[n].f0.f1 a = decide (l[n].f0.f0 ≤ a ∧ a ≤ l[n].f0.f0 + sz l[n].f0.f1 - 1) := rfl
  rw [← hh]
  cases hasB l[n].f0.f0 l[n].f0.f1 a with
  | false => simp
  | true =>
   by_cases c : l[n].f0.f1 > y
   ·simp [c]
   ·simp [c]
theorem spec_lead (l : List Wy) (a : Int) (hv : ∀ w ∈ l, bok w.f0.f0 w.f0.f1) (hl : l.length ≤ 1099511627776) : (∃ K_, ∀ k, K_ ≤ k → spec_l3Lead.f k l a = some (leadF l a)) := spec_lead_loop l a hv hl l.length 0 (-1) (-1) (by omega)
abbrev Bk := S43
theorem ltB_iff {a b : Bk} : ltB a b = true ↔ (a.f0 < b.f0 ∨ a.f0 = b.f0 ∧ a.f1 < b.f1) := by simp only [ltB, decide_eq_true_eq]
theorem ltB_irrefl (a : Bk) : ltB a a = false := by
 rw [Bool.eq_false_iff]
 intro h
 rw [ltB_iff] at h
 omega
theorem bk_ext {a b : Bk} (h : a.f0 = b.f0) (k : a.f1 = b.f1) : a = b := by
 cases a
 cases b
 cases h
 cases k
 rfl
/-- Valid routes, said plainly. -/
def Wok (l : List Wy) : Prop := (∀ w ∈ l, wayB w = true) ∧ l.Pairwise (fun a b => ltB a.f0 b.f0 = true) ∧ l.length ≤ 40
theorem wayB_iff {w : Wy} : wayB w = true ↔ bok w.f0.f0 w.f0.f1 ∧ 0 ≤ w.f1 ∧ w.f1 ≤ 99 := by
 simp only [wayB, hopB, Bool.and_eq_true, bokB_true, decide_eq_true_eq]
theorem Wok.nil : Wok [] := ⟨fun _ h => (by cases h), List.Pairwise.nil, by simp⟩
/-- Two valid routes of a list are of one block just if they are the same. -/
theorem Wok.uniq {l : List Wy} (h : Wok l) {x y : Wy} (hx : x ∈ l) (hy : y ∈ l) (e : x.f0 = y.f0) : x = y := by
 have hp := h.2.1
 clear h
 induction l with
 | nil => cases hx
 | cons w l ih =>
  obtain ⟨h1, h2⟩ := List.pairwise_cons.1 hp
  rcases List.mem_cons.1 hx with ex | gx
  ·rcases List.mem_cons.1 hy with ey | gy
   ·rw [ex, ey]
   ·have := h1 y gy; rw [← ex, e, ltB_irrefl] at this; cases this
  ·rcases List.mem_cons.1 hy with ey | gy
   ·have := h1 x gx; rw [← ey, e, ltB_irrefl] at this; cases this
   ·exact ih gx gy h2
/-- A hop to which an address leads, said plainly. -/
def Leads (l : List Wy) (a h : Int) : Prop := (∃ w ∈ l, hasB w.f0.f0 w.f0.f1 a = true ∧ (∀ x ∈ l, hasB x.f0.f0 x.f0.f1 a = true → x.f0.f1 ≤ w.f0.f1) ∧ w.f1 = h) ∨ (∀ x ∈ l, hasB x.f0.f0 x.f0.f1 a = false) ∧ h = -1
/-- Two blocks of so many bits that have an address are the same. -/
theorem has_uniq {b c m a : Int} (hb : bok b m) (hc : bok c m) (h1 : hasB b m a = true) (h2 : hasB c m a = true) : b = c := by
 rw [hasB_iff] at h1 h2
 have hs := sz_pos m
 rcases Int.lt_trichotomy b c with h | h | h
 ·have := mult_apart (by omega) hb.dvd hc.dvd h; omega
 ·exact h
 ·have := mult_apart (by omega) hc.dvd hb.dvd h; omega
theorem Leads.uniq {l : List Wy} (h : Wok l) {a x y : Int} (hx : Leads l a x) (hy : Leads l a y) : x = y := by
 rcases hx with ⟨w, hw, h1, h2, h3⟩ | ⟨h1, h2⟩
 ·rcases hy with ⟨v, hv, k1, k2, k3⟩ | ⟨k1, k2⟩
  ·have hb : w.f0.f1 = v.f0.f1 := by have := h2 v hv k1; have := k2 w hw h1; omega
   have w1 := (wayB_iff.1 (h.1 w hw)).1
   have v1 := (wayB_iff.1 (h.1 v hv)).1
   rw [hb] at w1 h1
   have := h.uniq hw hv (bk_ext (has_uniq w1 v1 h1 k1) hb)
   rw [← h3, ← k3, this]
  ·have := k1 w hw; rw [h1] at this; cases this
 ·rcases hy with ⟨v, hv, k1, k2, k3⟩ | ⟨k1, k2⟩
  ·have := h1 v hv; rw [k1] at this; cases this
  ·rw [h2, k2]
theorem Wok.bits {l : List Wy} (h : Wok l) : ∀ w ∈ l, 0 ≤ w.f0.f1 := fun w hw => (wayB_iff.1 (h.1 w hw)).1.2.2.1
def wayE (w : Wy) : List Int := edgeB w.f0.f0 w.f0.f1
theorem spec_edges_loop (l : List Wy) (hv : ∀ w ∈ l, bok w.f0.f0 w.f0.f1) (hl : l.length ≤ 100000000) (d : Nat) : ∀ (n : Nat) (out : List Int), n + d = l.length → out.length + 2 * d ≤ 300000000 → (∃ K_, ∀ k, K_ ≤ k → spec_l3Edges.l0 k l out (n : Int) = some (numsF out ((l.drop n).flatMap wayE))) := by
 induction d with
 | zero =>
  intro n out hn ho
  refine ev1 ?_
  simp only [spec_l3Edges.l0]
  rw [List.drop_eq_nil_of_le (by omega)]
  exact evN (by omega) (evR rfl)
 | succ d ih =>
  intro n out hn ho
  have hlt : n < l.length := by omega
  have hw : wrap64 ((n : Int) + 1) = ((n + 1 : Nat) : Int) := by rw [w64 (by omega)]; omega
  have hb := hv l[n] (List.getElem_mem hlt)
  have hs := sz_bd hb.2.2.1
  have hla := spec_last (b := l[n].f0.f0) (m := l[n].f0.f1) (by have := hb.1; omega) (by have := hb.2.1; omega) hb.2.2.1 hb.2.2.2.1
  have hb2 := hb.2.1
  have hb1 := hb.1
  have h1 := numF_len out l[n].f0.f0
  refine ev1 ?_
  simp only [spec_l3Edges.l0]
  rw [rd_way l n hlt, hw, List.drop_eq_getElem_cons hlt, List.flatMap_cons]
  refine evP (by omega) (evP (by omega) (evB (spec_num _ _ (by omega)) (evB hla (evI (fun c => ?_) (fun c => ?_)))))
  ·have e : wrap64 (l[n].f0.f0 + sz l[n].f0.f1 - 1 + 1) = l[n].f0.f0 + sz l[n].f0.f1 := by rw [w64 (by omega)]; omega
   have h2 := numF_len (numF out l[n].f0.f0) (l[n].f0.f0 + sz l[n].f0.f1)
   have h := ih (n + 1) (numF (numF out l[n].f0.f0) (l[n].f0.f0 + sz l[n].f0.f1)) (by omega) (by omega)
   refine evB hla ?_
   rw [e]
   refine evB (spec_num _ _ (by omega)) ?_
   have e2 : wayE l[n] = [l[n].f0.f0, l[n].f0.f0 + sz l[n].f0.f1] := by unfold wayE edgeB; rw [if_pos (by omega)]
   rw [e2]
   exact h
  ·have h := ih (n + 1) (numF out l[n].f0.f0) (by omega) (by omega)
   have e2 : wayE l[n] = [l[n].f0.f0] := by unfold wayE edgeB; rw [if_neg (by omega)]
   rw [e2]
   exact h
theorem spec_edges (l : List Wy) (hv : ∀ w ∈ l, bok w.f0.f0 w.f0.f1) (hl : l.length ≤ 100000000) (out : List Int) (ho : out.length ≤ 100000000) : (∃ K_, ∀ k, K_ ≤ k → spec_l3Edges.f k l out = some (numsF out (l.flatMap wayE))) := spec_edges_loop l hv hl l.length 0 out (by omega) (by omega)
theorem numsF_app (l a b : List Int) : numsF (numsF l a) b = numsF l (a ++ b) := by unfold numsF; rw [List.foldl_append]
theorem numsF_len (ns : List Int) : ∀ l : List Int, (numsF l ns).length ≤ l.length + ns.length := by
 induction ns with
 | nil => intro l; exact Nat.le_refl _
 | cons n ns ih =>
  intro l
  have h := ih (numF l n)
  have h2 := numF_len l n
  show (numsF (numF l n) ns).length ≤ _
  simp only [List.length_cons]
  omega
theorem wayE_len : ∀ l : List Wy, (l.flatMap wayE).length ≤ 2 * l.length
 | [] => Nat.le_refl _
 | w :: l => by
  rw [List.flatMap_cons, List.length_append, List.length_cons]
  have := wayE_len l
  have h2 : (wayE w).length ≤ 2 := edgeB_len _ _
  omega
/-- The blocks of routes. -/
def blksF (l : List Wy) : List Bk := l.map fun w => w.f0
theorem edges_ways (l : List Wy) : edgesF (blksF l) = numsF [0] (l.flatMap wayE) := by
 unfold edgesF blksF
 rw [List.flatMap_map]
 rfl
theorem blks_ok {l : List Wy} (hv : ∀ w ∈ l, bok w.f0.f0 w.f0.f1) : ∀ b ∈ blksF l, bok b.f0 b.f1 := by
 intro b hb
 obtain ⟨w, hw, rfl⟩ := List.mem_map.1 hb
 exact hv w hw
theorem rd_ways (l : List (List Wy)) (n : Nat) (h : n < l.length) : rd_L7 l (n : Int) = l[n] := by
 unfold rd_L7
 rw [List.getD_eq_getElem?_getD, Int.toNat_natCast, List.getElem?_eq_getElem h]
 rfl
theorem blocksOf_l1 (ls : List (List Wy)) (N i : Int) (w : List Wy) (hw0 : w.length ≤ 100000000) (R : List Bk) (d : Nat) : ∀ (n : Nat) (acc : List Bk), n + d = w.length → acc.length + d ≤ 300000000 →
  (∃ K_, ∀ k, K_ ≤ k → impl_blocksOf.l0 k (acc ++ (w.drop n).map (fun w => w.f0)) ls N (wrap64 (i + 1)) = some R) → (∃ K_, ∀ k, K_ ≤ k → impl_blocksOf.l1 k acc ls N i w (w.length : Int) (n : Int) = some R) := by
 induction d with
 | zero =>
  intro n acc hn ha h
  refine ev1 ?_
  simp only [impl_blocksOf.l1]
  rw [List.drop_eq_nil_of_le (by omega), List.map_nil, List.append_nil] at h
  exact evN (by omega) h
 | succ d ih =>
  intro n acc hn ha h
  have hlt : n < w.length := by omega
  have hw : wrap64 ((n : Int) + 1) = ((n + 1 : Nat) : Int) := by rw [w64 (by omega)]; omega
  refine ev1 ?_
  simp only [impl_blocksOf.l1]
  rw [rd_way w n hlt, hw]
  refine evP (by omega) (evP (by omega) (evP (by omega) (evP (by omega) (ih (n + 1) _ (by omega) (by simp; omega) ?_))))
  rw [List.drop_eq_getElem_cons hlt, List.map_cons] at h
  rw [List.append_assoc]
  exact h
theorem blocksOf_two (a b : List Wy) (ha : a.length ≤ 100000000) (hb : b.length ≤ 100000000) : (∃ K_, ∀ k, K_ ≤ k → impl_blocksOf.f k [a, b] = some (blksF (a ++ b))) := by
 have ea := rd_ways [a, b] 0 (by simp)
 have eb := rd_ways [a, b] 1 (by simp)
 have w1 : wrap64 ((0 : Int) + 1) = 1 := w64 (n := 0 + 1) (by omega)
 have w2 : wrap64 ((1 : Int) + 1) = 2 := w64 (n := 1 + 1) (by omega)
 simp only [impl_blocksOf.f]
 refine ev1 ?_
 simp only [impl_blocksOf.l0]
 refine evP (by simp) (evP (by omega) (evP (by simp) ?_))
 rw [show rd_L7 [a, b] 0 = a from ea]
 refine blocksOf_l1 [a, b] 2 0 a ha _ a.length 0 [] (by omega) (by simp; omega) ?_
 rw [w1]
 refine ev1 ?_
 simp only [impl_blocksOf.l0]
 refine evP (by omega) (evP (by omega) (evP (by simp) ?_))
 rw [show rd_L7 [a, b] 1 = b from eb]
 refine blocksOf_l1 [a, b] 2 1 b hb _ b.length 0 _ (by omega) (by simp; omega) ?_
 rw [w2]
 refine ev1 ?_
 simp only [impl_blocksOf.l0]
 refine evN (by omega) (evR ?_)
 simp [blksF]
/-- The first number of some at which two tables lead elsewhere. -/
def diffL (a b : List Wy) : List Int → Int × Bool
 | [] => (0, false)
 | e :: es => if leadF a e = leadF b e then diffL a b es else (e, true)
theorem impl_differ_loop (a b : List Wy) (hva : ∀ w ∈ a, bok w.f0.f0 w.f0.f1) (hvb : ∀ w ∈ b, bok w.f0.f0 w.f0.f1) (hla : a.length ≤ 100000000) (hlb : b.length ≤ 100000000) (es : List Int) (hl : es.length ≤ 1000000000) (d : Nat) :
  ∀ n : Nat, n + d = es.length → (∃ K_, ∀ k, K_ ≤ k → impl_WaysDiffer.l0 k a b es (es.length : Int) (n : Int) = some (diffL a b (es.drop n))) := by
 induction d with
 | zero =>
  intro n hn
  refine ev1 ?_
  simp only [impl_WaysDiffer.l0]
  rw [List.drop_eq_nil_of_le (by omega)]
  exact evN (by omega) (evR rfl)
 | succ d ih =>
  intro n hn
  have hlt : n < es.length := by omega
  have hw : wrap64 ((n : Int) + 1) = ((n + 1 : Nat) : Int) := by rw [w64 (by omega)]; omega
  refine ev1 ?_
  simp only [impl_WaysDiffer.l0]
  rw [rd_num es n hlt, hw, List.drop_eq_getElem_cons hlt]
  refine evP (by omega) (evP (by omega) (evP (by omega) (evB (impl_lead a _ hva (by omega)) (evB (impl_lead b _ hvb (by omega)) (evI (fun c => ?_) (fun c => ?_))))))
  ·simp only [diffL, if_pos c]; exact ih (n + 1) (by omega)
  ·refine evR ?_; simp only [diffL, if_neg c]
theorem spec_differ_loop (a b : List Wy) (hva : ∀ w ∈ a, bok w.f0.f0 w.f0.f1) (hvb : ∀ w ∈ b, bok w.f0.f0 w.f0.f1) (hla : a.length ≤ 100000000) (hlb : b.length ≤ 100000000) (es : List Int) (hl : es.length ≤ 1000000000) (d : Nat) :
  ∀ n : Nat, n + d = es.length → (∃ K_, ∀ k, K_ ≤ k → spec_WaysDiffer.l0 k a b es (n : Int) = some (diffL a b (es.drop n))) := by
 induction d with
 | zero =>
  intro n hn
  refine ev1 ?_
  simp only [spec_WaysDiffer.l0]
  rw [List.drop_eq_nil_of_le (by omega)]
  exact evN (by omega) (evR rfl)
 | succ d ih =>
  intro n hn
  have hlt : n < es.length := by omega
  have hw : wrap64 ((n : Int) + 1) = ((n + 1 : Nat) : Int) := by rw [w64 (by omega)]; omega
  refine ev1 ?_
  simp only [spec_WaysDiffer.l0]
  rw [rd_num es n hlt, hw, List.drop_eq_getElem_cons hlt]
  refine evP (by omega) (evP (by omega) (evB (spec_lead a _ hva (by omega)) (evB (spec_lead b _ hvb (by omega)) (evI (fun c => ?_) (fun c => ?_)))))
  ·simp only [diffL, if_pos c]; exact ih (n + 1) (by omega)
  ·refine evR ?_; simp only [diffL, if_neg c]
/-- What WaysDiffer answers. -/
def differF (a b : List Wy) : Int × Bool := if wokB a = true ∧ wokB b = true then diffL a b (edgesF (blksF (a ++ b))) else (0, false)
theorem edges_len (l : List Wy) : (edgesF (blksF l)).length ≤ 2 * l.length + 1 := by
 rw [edges_ways]
 have h1 := numsF_len (l.flatMap wayE) [0]
 have h2 := wayE_len l
 simp only [List.length_singleton] at h1
 omega
theorem impl_differ (a b : List Wy) (hla : a.length ≤ 100000000) (hlb : b.length ≤ 100000000) : (∃ K_, ∀ k, K_ ≤ k → impl_WaysDiffer.f k a b = some (differF a b)) := by
 simp only [impl_WaysDiffer.f]
 refine evB (impl_waysOk a (by omega)) (evI (fun c => evB (impl_waysOk b (by omega)) (ev1 ?_)) (fun c => ev1 ?_))
 ·simp only [impl_WaysDiffer.j0]
  refine evI (fun c2 => ?_) (fun c2 => ?_)
  ·have c3 : wokB b = false := by simpa using c2
   refine evR ?_
   unfold differF
   rw [if_neg (by rw [c3]; simp)]
  ·have c3 : wokB b = true := by simpa using c2
   have hva := fun w hw => (wokB_valid c w hw).1
   have hvb := fun w hw => (wokB_valid c3 w hw).1
   have hv : ∀ w ∈ a ++ b, bok w.f0.f0 w.f0.f1 := fun w hw => (List.mem_append.1 hw).elim (hva w) (hvb w)
   have h40 := wokB_len c
   have h41 := wokB_len c3
   have hel := edges_len (a ++ b)
   rw [List.length_append] at hel
   unfold differF
   rw [if_pos ⟨c, c3⟩]
   exact evB (blocksOf_two a b hla hlb) (evB (impl_bounds _ (blks_ok hv) (by simp [blksF]; omega)) (impl_differ_loop a b hva hvb hla hlb (edgesF (blksF (a ++ b))) (by omega) (edgesF (blksF (a ++ b))).length 0 (by omega)))
 ·simp only [impl_WaysDiffer.j0, if_true]
  refine evR ?_
  unfold differF
  rw [if_neg (by simp [c])]
theorem spec_differ (a b : List Wy) (hla : a.length ≤ 100000000) (hlb : b.length ≤ 100000000) : (∃ K_, ∀ k, K_ ≤ k → spec_WaysDiffer.f k a b = some (differF a b)) := by
 simp only [spec_WaysDiffer.f]
 refine evB (spec_waysOk a (by omega)) (evI (fun c => evB (spec_waysOk b (by omega)) (ev1 ?_)) (fun c => ev1 ?_))
 ·simp only [spec_WaysDiffer.j0]
  refine evI (fun c2 => ?_) (fun c2 => ?_)
  ·have c3 : wokB b = false := by simpa using c2
   refine evR ?_
   unfold differF
   rw [if_neg (by rw [c3]; simp)]
  ·have c3 : wokB b = true := by simpa using c2
   have hva := fun w hw => (wokB_valid c w hw).1
   have hvb := fun w hw => (wokB_valid c3 w hw).1
   have h40 := wokB_len c
   have h41 := wokB_len c3
   have hel := edges_len (a ++ b)
   rw [List.length_append] at hel
   have h1 := numsF_len (a.flatMap wayE) [0]
   have h2 := wayE_len a
   simp only [List.length_singleton] at h1
   unfold differF
   rw [if_pos ⟨c, c3⟩]
   have e := spec_differ_loop a b hva hvb hla hlb (edgesF (blksF (a ++ b))) (by omega) (edgesF (blksF (a ++ b))).length 0 (by omega)
   have e2 : edgesF (blksF (a ++ b)) = numsF (numsF [0] (a.flatMap wayE)) (b.flatMap wayE) := by rw [edges_ways, numsF_app, List.flatMap_append]
   rw [e2] at e ⊢
   exact evB (spec_edges a hva hla [0] (by simp)) (evB (spec_edges b hvb hlb _ (by omega)) e)
 ·simp only [spec_WaysDiffer.j0, if_true]
  refine evR ?_
  unfold differF
  rw [if_neg (by simp [c])]
/-- One of the statement's own values as one of the program's. -/
def convWay (x : S87) : S45 := ⟨⟨x.f0.f0, x.f0.f1⟩, x.f1⟩
theorem rd_lWay (l : List S87) (n : Nat) (h : n < l.length) : rd_T87 l (n : Int) = l[n] := by
 unfold rd_T87
 rw [List.getD_eq_getElem?_getD, Int.toNat_natCast, List.getElem?_eq_getElem h]
 rfl
theorem toWay_loop (l : List S87) (hl : l.length ≤ 1073741824) (d : Nat) : ∀ (n : Nat) (ys : List S45), n + d = l.length → ys.length = l.length → (∀ j, j < n → ys[j]? = (l.map convWay)[j]?) → (∃ K_, ∀ k, K_ ≤ k → laws_toWayS.l0 k l ys (n : Int) = some (l.map convWay)) := by
 induction d with
 | zero =>
  intro n ys hn hy hj
  refine ⟨1, fun k hk => ?_⟩
  obtain ⟨k, rfl⟩ : ∃ j, k = j + 1 := ⟨k - 1, by omega⟩
  simp only [laws_toWayS.l0]
  rw [if_neg (by omega)]
  congr 1
  apply List.ext_getElem?
  intro i
  by_cases c : i < n
  ·exact hj i c
  ·rw [List.getElem?_eq_none (by omega), List.getElem?_eq_none (by simp; omega)]
 | succ d ih =>
  intro n ys hn hy hj
  have hlt : n < l.length := by omega
  have hw : wrap64 ((n : Int) + 1) = ((n + 1 : Nat) : Int) := by rw [w64 (by omega)]; omega
  obtain ⟨K1, e1⟩ := ih (n + 1) (ys.set n (convWay l[n])) (by omega) (by simpa using hy) (fun j hj2 => by
   by_cases c : j = n
   ·subst c
    rw [List.getElem?_set_self (by omega), List.getElem?_map, List.getElem?_eq_getElem hlt]
    rfl
   ·rw [List.getElem?_set_ne (by omega)]
    exact hj j (by omega))
  refine ⟨K1 + 1, fun k hk => ?_⟩
  obtain ⟨k, rfl⟩ : ∃ j, k = j + 1 := ⟨k - 1, by omega⟩
  simp only [laws_toWayS.l0]
  rw [if_pos (by omega), if_pos (by omega), rd_lWay l n hlt]
  simp only [laws_toWay.f, laws_toBlock.f, Option.bind_some]
  rw [if_pos (by omega), hw, Int.toNat_natCast]
  exact e1 k (by omega)
theorem toWay (l : List S87) (hl : l.length ≤ 1073741824) : (∃ K_, ∀ k, K_ ≤ k → laws_toWayS.f k l = some (l.map convWay)) := by
 obtain ⟨K, h⟩ := toWay_loop l hl l.length 0 (List.replicate l.length z45) (by omega) (by simp) (fun j h => absurd h (by omega))
 refine ⟨K, fun k hk => ?_⟩
 simp only [laws_toWayS.f]
 rw [if_pos (by omega), if_pos (by omega), Int.toNat_natCast]
 exact h k hk
theorem szgWay (l : List S87) (hl : l.length ≤ 9223372036854775807) (m : Int) (h0 : 0 ≤ m) (h1 : m ≤ 1048576) : laws_szWayS.f l m = some (if (l.length : Int) ≤ m then m - (l.length : Int) else -1) := by
 unfold laws_szWayS.f
 rw [w64 (by omega)]
 by_cases c : (l.length : Int) ≤ m
 ·rw [if_neg (by omega), if_pos c]
 ·rw [if_pos (by omega), if_neg c]
theorem eqWay_one (x : S45) : laws_eqWay.f x.f0.f0 x.f0.f1 x.f1 x.f0.f0 x.f0.f1 x.f1 = some true := by
 simp [laws_eqWay.f, laws_eqBlock.f]
theorem eqWay_loop (l : List S45) (hl : l.length ≤ 1073741824) (d : Nat) : ∀ n : Nat, n + d = l.length → (∃ K_, ∀ k, K_ ≤ k → laws_eqWayS.l0 k l l (n : Int) = some true) := by
 induction d with
 | zero =>
  intro n hn
  refine ⟨1, fun k hk => ?_⟩
  obtain ⟨k, rfl⟩ : ∃ j, k = j + 1 := ⟨k - 1, by omega⟩
  simp only [laws_eqWayS.l0]
  rw [if_neg (by omega)]
 | succ d ih =>
  intro n hn
  have hw : wrap64 ((n : Int) + 1) = ((n + 1 : Nat) : Int) := by rw [w64 (by omega)]; omega
  obtain ⟨K1, e1⟩ := ih (n + 1) (by omega)
  refine ⟨K1 + 1, fun k hk => ?_⟩
  obtain ⟨k, rfl⟩ : ∃ j, k = j + 1 := ⟨k - 1, by omega⟩
  simp only [laws_eqWayS.l0]
  rw [if_pos (by omega), if_pos (by omega), if_pos (by omega), eqWay_one, Option.bind_some, if_pos rfl, hw]
  exact e1 k (by omega)
theorem eqWay (l : List S45) (hl : l.length ≤ 1073741824) : (∃ K_, ∀ k, K_ ≤ k → laws_eqWayS.f k l l = some true) := by
 obtain ⟨K, h⟩ := eqWay_loop l hl l.length 0 (by omega)
 refine ⟨K, fun k hk => ?_⟩
 simp only [laws_eqWayS.f]
 rw [if_pos trivial]
 exact h k hk
end Go.Proofs.Ytkgbgaojglcaoaa.Z
end
section
namespace Go.Proofs.Ytkgbgaojglcaoaa.Pure
open Go Go.RowKit Go.Proofs.Ytkgbgaojglcaoaa.PAll Go.Proofs.YtkgbgaojglcaoaaW.PrintWords Go.Proofs.YtkgbgaojglcaoaaW.PrintLast Go.Proofs.YtkgbgaojglcaoaaW.PrintMore Go.Proofs.Ytkgbgaojglcaoaa.Z
set_option linter.unusedVariables false
set_option linter.unusedSimpArgs false
theorem FnExactWaysDiffer : laws_FnExactWaysDiffer.Pure := by
 intro l m hl hm
 suffices h : (∃ K_, ∀ k, K_ ≤ k → laws_FnExactWaysDiffer.f k l m = some true) by obtain ⟨K, h⟩ := h; exact ⟨K, h K (Nat.le_refl _)⟩
 have h1 : l.length ≤ 9223372036854775807 := by have := hl.1; unfold maxLen at this; exact this
 have h2 : m.length ≤ 9223372036854775807 := by have := hm.1; unfold maxLen at this; exact this
 simp only [laws_FnExactWaysDiffer.f]
 refine evS (szgWay l h1 1048576 (by omega) (by omega)) ?_
 by_cases c : (l.length : Int) ≤ 1048576
 ·rw [if_pos c]
  refine evN (by omega) (evS (szgWay m h2 _ (by omega) (by omega)) ?_)
  by_cases c2 : (m.length : Int) ≤ 1048576 - (l.length : Int)
  ·rw [if_pos c2]
   have n1 : (l.map convWay).length ≤ 1048576 := by simp; omega
   have n2 : (m.map convWay).length ≤ 1048576 := by simp; omega
   have e1 := toWay l (by omega)
   have e2 := toWay m (by omega)
   refine evN (by omega) (evB e1 (evB e2 (evB (spec_differ _ _ (by omega) (by omega)) (evB e1 (evB e2 (evB (impl_differ _ _ (by omega) (by omega)) (evP rfl (ev1 ?_))))))))
   simp only [laws_FnExactWaysDiffer.j0]
   exact evN (by simp) (evB e1 (evB (eqWay _ (by omega)) (evP rfl (evB e2 (evB (eqWay _ (by omega)) (evP rfl (evR rfl)))))))
  ·rw [if_neg c2]
   exact evP (by omega) (evR rfl)
 ·rw [if_neg c]
  exact evP (by omega) (evR rfl)
end Go.Proofs.Ytkgbgaojglcaoaa.Pure
end
