/- Contracts of the functions that the statement reaches, printed by a program out of the translation and joined with the plain laws. -/
import Derived.Lib.SlicesCompact
import Derived.Test.YtkgbgaojglcaoaaCFnWaysLess3
import Derived.Test.YtkgbgaojglcaoaaCFnWaysLess4
import Derived.Test.YtkgbgaojglcaoaaCFnWaysLess5
import Derived.Test.YtkgbgaojglcaoaaCFnWaysLess7
import Derived.Test.YtkgbgaojglcaoaaCFnWaysLess8
import Derived.Test.YtkgbgaojglcaoaaCFnWaysLess9
import Derived.Test.YtkgbgaojglcaoaaCFnWaysLess10
section
namespace Go.Proofs.Ytkgbgaojglcaoaa.Z
open Go Go.RowKit Go.Proofs.Ytkgbgaojglcaoaa.PAll Go.Proofs.YtkgbgaojglcaoaaW.PrintWords Go.Proofs.YtkgbgaojglcaoaaW.PrintLast Go.Proofs.YtkgbgaojglcaoaaW.PrintMore
set_option linter.unusedVariables false
set_option linter.unusedSimpArgs false
theorem spec_in (a l h : Int) : spec_l1In.f a l h = some (decide (l ≤ a ∧ a ≤ h)) := by
 unfold spec_l1In.f
 by_cases c : a ≥ l
 ·rw [if_pos c]; simp [c]
 ·rw [if_neg c]
  have : ¬ l ≤ a := by omega
  simp [this]
theorem impl_in (a l h : Int) : impl_in.f a l h = some (decide (l ≤ a ∧ a ≤ h)) := by
 unfold impl_in.f
 by_cases c : a ≥ l
 ·rw [if_pos c]; simp [c]
 ·rw [if_neg c]
  have : ¬ l ≤ a := by omega
  simp [this]
theorem spec_addr (a : Int) : spec_l1Addr.f a = some (decide (0 ≤ a ∧ a ≤ 4294967295)) := by simp only [spec_l1Addr.f, spec_in, Option.bind_some]
theorem impl_addr (a : Int) : impl_isAddr.f a = some (decide (0 ≤ a ∧ a ≤ 4294967295)) := by simp only [impl_isAddr.f, impl_in, Option.bind_some]
theorem two_loop (n : Nat) : ∀ (k : Nat) (c : Int), n ≤ 62 → n < k → 1 ≤ c → c * 2 ^ n ≤ 4611686018427387904 → spec_l1Two.l0 k (n : Int) c = some (c * 2 ^ n) := by
 induction n with
 | zero =>
  intro k c _ hk _ _
  obtain ⟨k, rfl⟩ : ∃ m, k = m + 1 := ⟨k - 1, by omega⟩
  simp only [spec_l1Two.l0]
  rw [if_neg (by omega)]
  simp
 | succ n ih =>
  intro k c hn hk hc hb
  obtain ⟨k, rfl⟩ : ∃ m, k = m + 1 := ⟨k - 1, by omega⟩
  have e : c * 2 ^ (n + 1) = c * 2 * 2 ^ n := by rw [Int.pow_succ, Int.mul_comm ((2 : Int) ^ n) 2, Int.mul_assoc]
  have hp : (1 : Int) ≤ 2 ^ n := by
   have : (0 : Int) < 2 ^ n := Int.pow_pos (by decide)
   omega
  have hc2 : c * 2 ≤ c * 2 * 2 ^ n := by
   have := Int.mul_le_mul_of_nonneg_left hp (by omega : (0 : Int) ≤ c * 2)
   omega
  simp only [spec_l1Two.l0]
  rw [e] at hb ⊢
  rw [if_pos (by omega), w64 (by omega), w64 (by omega)]
  have : ((n + 1 : Nat) : Int) - 1 = (n : Int) := by omega
  rw [this]
  exact ih k (c * 2) (by omega) (by omega) (by omega) hb
theorem spec_two {n : Int} (h0 : 0 ≤ n) (h1 : n ≤ 62) : (∃ K_, ∀ k, K_ ≤ k → spec_l1Two.f k n = some (2 ^ n.toNat)) := by
 refine ⟨n.toNat + 1, fun k hk => ?_⟩
 have e : (n.toNat : Int) = n := by omega
 have hp : (2 : Int) ^ n.toNat ≤ 2 ^ 62 := by
  exact_mod_cast Nat.pow_le_pow_right (n := 2) (by decide) (by omega : n.toNat ≤ 62)
 have := two_loop n.toNat k 1 (by omega) (by omega) (by omega) (by omega)
 rw [e, Int.one_mul] at this
 exact this
theorem spec_size {m : Int} (h0 : 0 ≤ m) (h1 : m ≤ 32) : (∃ K_, ∀ k, K_ ≤ k → spec_l1Size.f k m = some (sz m)) := by
 obtain ⟨K, h⟩ := spec_two (n := 32 - m) (by omega) (by omega)
 refine ⟨K, fun k hk => ?_⟩
 simp only [spec_l1Size.f]
 rw [w64 (by omega), h k hk]
 rfl
theorem impl_size {b m : Int} (h0 : 0 ≤ m) (h1 : m ≤ 32) : impl_Block_size.f b m = some (sz m) := by
 unfold impl_Block_size.f
 rw [w64 (by omega), if_pos (by omega), shl_sz h0 h1]
theorem tmod_beq {b s : Int} (hb : 0 ≤ b) : (Int.tmod b s == 0) = decide (b % s = 0) := by
 rw [Int.tmod_eq_emod_of_nonneg hb]
 rfl
theorem impl_ok (b m : Int) : impl_BlockOk.f b m = some (bokB b m) := by
 unfold impl_BlockOk.f
 rw [impl_addr, Option.bind_some]
 by_cases c : 0 ≤ b ∧ b ≤ 4294967295
 ·rw [if_pos (by simpa using c), impl_in, Option.bind_some]
  by_cases d : 0 ≤ m ∧ m ≤ 32
  ·rw [if_pos (by simpa using d), impl_size d.1 d.2, Option.bind_some, if_neg (by have := sz_pos m; omega), tmod_beq c.1]
   simp [bokB, bok, c, d]
  ·rw [if_neg (by simpa using d)]
   exact congrArg some (bokB_false.2 (fun h => d ⟨h.2.2.1, h.2.2.2.1⟩)).symm
 ·rw [if_neg (by simpa using c)]
  exact congrArg some (bokB_false.2 (fun h => c ⟨h.1, h.2.1⟩)).symm
theorem spec_ok (b m : Int) : (∃ K_, ∀ k, K_ ≤ k → spec_BlockOk.f k b m = some (bokB b m)) := by
 by_cases c : 0 ≤ b ∧ b ≤ 4294967295
 ·by_cases d : 0 ≤ m ∧ m ≤ 32
  ·obtain ⟨K, h⟩ := spec_size d.1 d.2
   refine ⟨K, fun k hk => ?_⟩
   simp only [spec_BlockOk.f]
   rw [spec_addr, Option.bind_some, if_pos (by simpa using c), spec_in, Option.bind_some, if_pos (by simpa using d), h k hk, Option.bind_some, if_neg (by have := sz_pos m; omega), tmod_beq c.1]
   simp [bokB, bok, c, d]
  ·refine ⟨0, fun k _ => ?_⟩
   simp only [spec_BlockOk.f]
   rw [spec_addr, Option.bind_some, if_pos (by simpa using c), spec_in, Option.bind_some, if_neg (by simpa using d)]
   exact congrArg some (bokB_false.2 (fun h => d ⟨h.2.2.1, h.2.2.2.1⟩)).symm
 ·refine ⟨0, fun k _ => ?_⟩
  simp only [spec_BlockOk.f]
  rw [spec_addr, Option.bind_some, if_neg (by simpa using c)]
  exact congrArg some (bokB_false.2 (fun h => c ⟨h.1, h.2.1⟩)).symm
theorem sz_bd {m : Int} (h0 : 0 ≤ m) : 1 ≤ sz m ∧ sz m ≤ 4294967296 := ⟨sz_pos m, sz_top h0⟩
theorem impl_last {b m : Int} (hb0 : 0 ≤ b) (hb1 : b ≤ 4611686018427387904) (h0 : 0 ≤ m) (h1 : m ≤ 32) : impl_Block_last.f b m = some (b + sz m - 1) := by
 have := sz_bd h0
 unfold impl_Block_last.f
 rw [impl_size h0 h1, Option.bind_some, w64 (n := b + sz m) (by omega), w64 (by omega)]
theorem spec_last {b m : Int} (hb0 : -1 ≤ b) (hb1 : b ≤ 4611686018427387904) (h0 : 0 ≤ m) (h1 : m ≤ 32) : (∃ K_, ∀ k, K_ ≤ k → spec_l1Last.f k b m = some (b + sz m - 1)) := by
 have := sz_bd h0
 obtain ⟨K, h⟩ := spec_size h0 h1
 refine ⟨K, fun k hk => ?_⟩
 simp only [spec_l1Last.f]
 rw [h k hk, Option.bind_some, w64 (n := b + sz m) (by omega), w64 (by omega)]
/-- Is an address in a block? -/
def hasB (b m a : Int) : Bool := decide (b ≤ a ∧ a ≤ b + sz m - 1)
theorem hasB_iff {b m a : Int} : hasB b m a = true ↔ b ≤ a ∧ a < b + sz m := by simp only [hasB, decide_eq_true_eq]; omega
theorem impl_has {b m : Int} (a : Int) (hb0 : 0 ≤ b) (hb1 : b ≤ 4611686018427387904) (h0 : 0 ≤ m) (h1 : m ≤ 32) : impl_Block_has.f b m a = some (hasB b m a) := by
 unfold impl_Block_has.f
 rw [impl_last hb0 hb1 h0 h1, Option.bind_some, impl_in, Option.bind_some]
 rfl
/-- Does a block lie in another one? -/
def inB (b m c n : Int) : Bool := bokB b m && (bokB c n && (decide (m ≤ n) && hasB b m c))
theorem impl_blockIn (b m c n : Int) : impl_BlockIn.f b m c n = some (inB b m c n) := by
 unfold impl_BlockIn.f inB
 rw [impl_ok, Option.bind_some]
 cases h : bokB b m with
 | false => rfl
 | true =>
  have h' := bokB_true.1 h
  rw [if_pos rfl, impl_ok, Option.bind_some]
  cases h2 : bokB c n with
  | false => rfl
  | true =>
   rw [if_pos rfl]
   by_cases d : n ≥ m
   ·rw [if_pos d, impl_has c h'.1 (by have := h'.2.1; omega) h'.2.2.1 h'.2.2.2.1]
    have d' : m ≤ n := d
    simp [d']
   ·rw [if_neg d]
    have d' : ¬ m ≤ n := d
    simp [d']
theorem spec_within {b m c n : Int} (hb0 : 0 ≤ b) (hb1 : b ≤ 4611686018427387904) (h0 : 0 ≤ m) (h1 : m ≤ 32) : (∃ K_, ∀ k, K_ ≤ k → spec_l1Within.f k b m c n = some (decide (m ≤ n) && hasB b m c)) := by
 obtain ⟨K, h⟩ := spec_last (b := b) (m := m) (by omega) hb1 h0 h1
 by_cases d : n ≥ m
 ·have d' : m ≤ n := d
  refine ⟨K, fun k hk => ?_⟩
  simp only [spec_l1Within.f]
  rw [if_pos d, h k hk, Option.bind_some, spec_in, Option.bind_some]
  simp [d', hasB]
 ·have d' : ¬ m ≤ n := d
  refine ⟨0, fun k hk => ?_⟩
  simp only [spec_l1Within.f]
  rw [if_neg d]
  simp [d']
/-- Strictly rising. -/
def Rise (l : List Int) : Prop := l.Pairwise (fun a b => a < b)
theorem rise_ext : ∀ {l m : List Int}, Rise l → Rise m → (∀ x, x ∈ l ↔ x ∈ m) → l = m
 | [], [], _, _, _ => rfl
 | [], y :: m, _, _, h => by have := (h y).2 (List.mem_cons_self ..); cases this
 | x :: l, [], _, _, h => by have := (h x).1 (List.mem_cons_self ..); cases this
 | x :: l, y :: m, hl, hm, h => by
  obtain ⟨h1, h2⟩ := List.pairwise_cons.1 hl
  obtain ⟨h3, h4⟩ := List.pairwise_cons.1 hm
  have e : x = y := by
   have a := (h x).1 (List.mem_cons_self ..)
   have b := (h y).2 (List.mem_cons_self ..)
   rcases List.mem_cons.1 a with a | a
   ·exact a
   ·rcases List.mem_cons.1 b with b | b
    ·exact b.symm
    ·have := h1 y b; have := h3 x a; omega
  subst e
  rw [rise_ext h2 h4 (fun z => ?_)]
  constructor
  ·intro hz
   rcases List.mem_cons.1 ((h z).1 (List.mem_cons_of_mem _ hz)) with e | e
   ·have := h1 z hz; omega
   ·exact e
  ·intro hz
   rcases List.mem_cons.1 ((h z).2 (List.mem_cons_of_mem _ hz)) with e | e
   ·have := h3 z hz; omega
   ·exact e
/-- A number put among others. -/
def numF : List Int → Int → List Int
 | [], n => [n]
 | x :: l, n => if x < n then x :: numF l n else if x = n then x :: l else n :: x :: l
theorem mem_numF {n y : Int} : ∀ {l : List Int}, y ∈ numF l n ↔ y = n ∨ y ∈ l
 | [] => by simp [numF]
 | x :: l => by
  unfold numF
  split
  ·simp only [List.mem_cons, mem_numF (l := l)]
   constructor
   ·rintro (h | h | h) <;> simp [h]
   ·rintro (h | h | h) <;> simp [h]
  ·split
   ·rename_i e
    subst e
    simp
   ·simp
theorem rise_numF {n : Int} : ∀ {l : List Int}, Rise l → Rise (numF l n)
 | [], _ => List.pairwise_cons.2 ⟨by simp, List.Pairwise.nil⟩
 | x :: l, h => by
  obtain ⟨h1, h2⟩ := List.pairwise_cons.1 h
  unfold numF
  split
  ·refine List.pairwise_cons.2 ⟨fun z hz => ?_, rise_numF h2⟩
   rcases mem_numF.1 hz with e | e
   ·rw [e]; assumption
   ·exact h1 z e
  ·split
   ·exact h
   ·refine List.pairwise_cons.2 ⟨fun z hz => ?_, h⟩
    rcases List.mem_cons.1 hz with e | e
    ·omega
    ·have := h1 z e; omega
/-- Numbers, each put among those ahead of it. -/
def numsF (l ns : List Int) : List Int := ns.foldl numF l
theorem rise_numsF : ∀ {ns l : List Int}, Rise l → Rise (numsF l ns)
 | [], _, h => h
 | _ :: ns, _, h => rise_numsF (ns := ns) (rise_numF h)
theorem mem_numsF {y : Int} : ∀ {ns l : List Int}, y ∈ numsF l ns ↔ y ∈ l ∨ y ∈ ns
 | [], l => by simp [numsF]
 | n :: ns, l => by
  show y ∈ numsF (numF l n) ns ↔ _
  rw [mem_numsF, mem_numF]
  simp only [List.mem_cons]
  constructor
  ·rintro ((h | h) | h) <;> simp [h]
  ·rintro (h | h | h) <;> simp [h]
theorem rise_one (n : Int) : Rise [n] := List.pairwise_cons.2 ⟨by simp, List.Pairwise.nil⟩
/-- Sorted, each once. -/
def dedF : List Int → List Int
 | [] => []
 | [x] => [x]
 | x :: y :: l => if x = y then dedF (y :: l) else x :: dedF (y :: l)
theorem mem_ded {z : Int} : ∀ {l : List Int}, z ∈ dedF l ↔ z ∈ l
 | [] => by simp [dedF]
 | [x] => by simp [dedF]
 | x :: y :: l => by
  unfold dedF
  split
  ·rename_i e
   subst e
   rw [mem_ded]
   simp
  ·simp only [List.mem_cons, mem_ded (l := y :: l)]
theorem rise_ded : ∀ {l : List Int}, l.Pairwise (fun a b => a ≤ b) → Rise (dedF l)
 | [], _ => List.Pairwise.nil
 | [x], _ => rise_one x
 | x :: y :: l, h => by
  obtain ⟨h1, h2⟩ := List.pairwise_cons.1 h
  have ih := rise_ded h2
  unfold dedF
  split
  ·exact ih
  ·rename_i e
   refine List.pairwise_cons.2 ⟨fun z hz => ?_, ih⟩
   have hz' := mem_ded.1 hz
   have a := h1 y (List.mem_cons_self ..)
   rcases List.mem_cons.1 hz' with e2 | e2
   ·omega
   ·have := (List.pairwise_cons.1 h2).1 z e2
    omega
/-- Sorting, and each once, is putting one by one. -/
def sortF (l : List Int) : List Int := l.mergeSort fun x y => decide (x ≤ y)
theorem sortF_le (l : List Int) : (sortF l).Pairwise (fun a b => a ≤ b) := by
 have := List.pairwise_mergeSort (le := fun x y : Int => decide (x ≤ y)) (fun a b c h1 h2 => by simp only [decide_eq_true_eq] at *; omega) (fun a b => by simp only [Bool.or_eq_true, decide_eq_true_eq]; omega) l
 exact this.imp (fun h => by simpa using h)
theorem mem_sortF {l : List Int} {x : Int} : x ∈ sortF l ↔ x ∈ l := by unfold sortF; exact List.mem_mergeSort
theorem ded_sort {l m : List Int} (hm : Rise m) (h : ∀ x, x ∈ m ↔ x ∈ l) : dedF (sortF l) = m :=
 rise_ext (rise_ded (sortF_le l)) hm (fun x => by rw [mem_ded, mem_sortF, h])
/-- The last edge at or ahead of a number. -/
theorem edge_of {l : List Int} (hl : Rise l) {x : Int} : ∀ {e0 : Int}, e0 ∈ l → e0 ≤ x → ∃ e ∈ l, e ≤ x ∧ ∀ y ∈ l, y ≤ x → y ≤ e := by
 induction l with
 | nil => intro e0 h; cases h
 | cons a l ih =>
  intro e0 h0 h1
  obtain ⟨p, q⟩ := List.pairwise_cons.1 hl
  by_cases c : ∃ b ∈ l, b ≤ x
  ·obtain ⟨b, hb, hbx⟩ := c
   obtain ⟨e, he, h2, h3⟩ := ih q hb hbx
   refine ⟨e, List.mem_cons_of_mem _ he, h2, fun y hy hyx => ?_⟩
   rcases List.mem_cons.1 hy with ey | ey
   ·have := p e he; omega
   ·exact h3 y ey hyx
  ·have ha : a ≤ x := by
    rcases List.mem_cons.1 h0 with e | e
    ·omega
    ·exact absurd ⟨e0, e, h1⟩ c
   refine ⟨a, List.mem_cons_self .., ha, fun y hy hyx => ?_⟩
   rcases List.mem_cons.1 hy with ey | ey
   ·omega
   ·exact absurd ⟨y, ey, hyx⟩ c
def tailC (x : Int) (t : List Int) : List Int := ((List.range t.length).filter (fun j => decide ((x :: t)[j + 1]! ≠ (x :: t)[j]!))).map (fun j => (x :: t)[j + 1]!)
theorem tailC_cons (x y : Int) (l : List Int) : tailC x (y :: l) = (if y ≠ x then [y] else []) ++ tailC y l := by
 unfold tailC
 rw [List.length_cons, List.range_succ_eq_map, List.filter_cons, List.filter_map]
 by_cases e : y = x <;> simp [e, Function.comp_def]
theorem ded_tail : ∀ (x : Int) (t : List Int), dedF (x :: t) = x :: tailC x t
 | x, [] => rfl
 | x, y :: l => by
  unfold dedF
  rw [tailC_cons, ded_tail y l]
  by_cases e : x = y
  ·subst e; simp
  ·rw [if_neg e, if_pos (Ne.symm e)]; rfl
theorem compact_ded : ∀ l : List Int, Lib.compact l = dedF l
 | [] => rfl
 | x :: t => by
  rw [ded_tail]
  unfold Lib.compact Lib.compactUpTo tailC
  rw [List.length_cons, List.range_succ_eq_map, List.filter_cons]
  have h0 : Lib.keeps (x :: t).toArray 0 = true := by simp [Lib.keeps]
  have hs : ∀ j, Lib.keeps (x :: t).toArray (j + 1) = decide ((x :: t)[j + 1]! ≠ (x :: t)[j]!) := fun j => by simp [Lib.keeps]
  rw [h0, if_pos rfl, List.filter_map, List.map_cons, List.map_map]
  simp only [Function.comp_def, Nat.succ_eq_add_one, hs]
  simp
theorem numF_len (l : List Int) (n : Int) : (numF l n).length ≤ l.length + 1 := by
 induction l with
 | nil => simp [numF]
 | cons x l ih =>
  unfold numF
  split
  ·simp only [List.length_cons]; omega
  ·split
   ·simp only [List.length_cons]; omega
   ·simp only [List.length_cons]; omega
theorem rd_num (l : List Int) (n : Nat) (h : n < l.length) : rd l (n : Int) = l[n] := by
 unfold rd
 rw [List.getD_eq_getElem?_getD, Int.toNat_natCast, List.getElem?_eq_getElem h]
 rfl
/-- Where something may change about a block: where it begins, and behind its end. -/
def edgeB (b m : Int) : List Int := if b + sz m ≤ 4294967295 then [b, b + sz m] else [b]
theorem edgeB_len (b m : Int) : (edgeB b m).length ≤ 2 := by unfold edgeB; split <;> simp
theorem mem_edgeB {b m x : Int} : x ∈ edgeB b m ↔ x = b ∨ b + sz m ≤ 4294967295 ∧ x = b + sz m := by
 unfold edgeB
 split
 ·rename_i c; simp [c]
 ·rename_i c; simp [c]
theorem edgeB_in {b m x : Int} (h : bok b m) (hx : x ∈ edgeB b m) : 0 ≤ x ∧ x ≤ 4294967295 := by
 have := sz_pos m
 obtain ⟨h0, h1, _⟩ := h
 rcases mem_edgeB.1 hx with e | ⟨e, e2⟩ <;> omega
/-- A block has a number just if it has the last edge at or ahead of it. -/
theorem has_edge {b m x e : Int} (hx : x ≤ 4294967295) (he : e ≤ x) (h1 : b ≤ x → b ≤ e) (h2 : b + sz m ≤ 4294967295 → b + sz m ≤ x → b + sz m ≤ e) : hasB b m e = hasB b m x := by
 rw [Bool.eq_iff_iff, hasB_iff, hasB_iff]
 constructor
 ·rintro ⟨p, q⟩
  refine ⟨by omega, ?_⟩
  rcases Int.lt_or_le x (b + sz m) with r | r
  ·exact r
  ·have := h2 (by omega) r; omega
 ·rintro ⟨p, q⟩
  exact ⟨h1 p, by omega⟩
def edgesF (bs : List S43) : List Int := numsF [0] (bs.flatMap fun b => edgeB b.f0 b.f1)
theorem rise_edgesF (bs : List S43) : Rise (edgesF bs) := rise_numsF (rise_one 0)
theorem mem_edgesF {bs : List S43} {x : Int} : x ∈ edgesF bs ↔ x = 0 ∨ ∃ b ∈ bs, x ∈ edgeB b.f0 b.f1 := by
 unfold edgesF
 rw [mem_numsF, List.mem_flatMap, List.mem_singleton]
theorem edges_in {bs : List S43} (h : ∀ b ∈ bs, bok b.f0 b.f1) {x : Int} (hx : x ∈ edgesF bs) : 0 ≤ x ∧ x ≤ 4294967295 := by
 rcases mem_edgesF.1 hx with e | ⟨b, hb, e⟩
 ·omega
 ·exact edgeB_in (h b hb) e
/-- For each number the last edge at or ahead of it: each block has either both or none. -/
theorem edges_of {bs : List S43} {x : Int} (h0 : 0 ≤ x) (h1 : x ≤ 4294967295) : ∃ e ∈ edgesF bs, e ≤ x ∧ ∀ b ∈ bs, hasB b.f0 b.f1 e = hasB b.f0 b.f1 x := by
 obtain ⟨e, he, p, q⟩ := edge_of (rise_edgesF bs) (e0 := 0) (mem_edgesF.2 (.inl rfl)) h0
 refine ⟨e, he, p, fun b hb => has_edge h1 p (fun c => q _ (mem_edgesF.2 (.inr ⟨b, hb, mem_edgeB.2 (.inl rfl)⟩)) c) (fun c c2 => q _ (mem_edgesF.2 (.inr ⟨b, hb, mem_edgeB.2 (.inr ⟨c, rfl⟩)⟩)) c2)⟩
theorem rd_bk (l : List S43) (n : Nat) (h : n < l.length) : rd_T43 l (n : Int) = l[n] := by
 unfold rd_T43
 rw [List.getD_eq_getElem?_getD, Int.toNat_natCast, List.getElem?_eq_getElem h]
 rfl
theorem sort_ded (l : List Int) (h0 : 0 < l.length) (h1 : l.length ≤ 1000000000) : ((slices_Sort_int.f l).bind fun t => (slices_Compact_int.f t).bind fun t => some t) = some (dedF (sortF l)) := by
 have hl : (sortF l).length = l.length := by unfold sortF; exact List.length_mergeSort _
 unfold slices_Sort_int.f
 rw [if_pos (by omega), if_pos (by omega), Option.bind_some]
 show ((slices_Compact_int.f (sortF l)).bind fun t => some t) = _
 unfold slices_Compact_int.f
 rw [if_pos (by omega), Option.bind_some, compact_ded]
theorem impl_bounds_loop (l : List S43) (hv : ∀ b ∈ l, bok b.f0 b.f1) (hl : l.length ≤ 100000000) (d : Nat) : ∀ (n : Nat) (acc : List Int), n + d = l.length → 0 < acc.length → acc.length + 2 * d ≤ 300000000 → (∃ K_, ∀ k, K_ ≤ k → impl_bounds.l0 k acc l (l.length : Int) (n : Int) = some (dedF (sortF (acc ++ (l.drop n).flatMap fun b => edgeB b.f0 b.f1)))) := by
 induction d with
 | zero =>
  intro n acc hn h0 ha
  refine ev1 ?_
  simp only [impl_bounds.l0]
  rw [List.drop_eq_nil_of_le (by omega), List.flatMap_nil, List.append_nil]
  exact evN (by omega) ⟨0, fun k _ => sort_ded acc h0 (by omega)⟩
 | succ d ih =>
  intro n acc hn h0 ha
  have hlt : n < l.length := by omega
  have hw : wrap64 ((n : Int) + 1) = ((n + 1 : Nat) : Int) := by rw [w64 (by omega)]; omega
  have hb := hv l[n] (List.getElem_mem hlt)
  have hs := sz_bd hb.2.2.1
  have hla := impl_last hb.1 (by have := hb.2.1; omega) hb.2.2.1 hb.2.2.2.1
  have hb2 := hb.2.1
  have hb1 := hb.1
  refine ev1 ?_
  simp only [impl_bounds.l0]
  rw [rd_bk l n hlt, hw, List.drop_eq_getElem_cons hlt, List.flatMap_cons]
  refine evP (by omega) (evP (by omega) (evP (by omega) (evP (by omega) (evS rfl (evS hla (evI (fun c => ?_) (fun c => ?_)))))))
  ·have e : wrap64 (l[n].f0 + sz l[n].f1 - 1 + 1) = l[n].f0 + sz l[n].f1 := by rw [w64 (by omega)]; omega
   have h := ih (n + 1) (acc ++ [l[n].f0] ++ [l[n].f0 + sz l[n].f1]) (by omega) (by simp) (by simp; omega)
   refine evS hla (evP (by simp; omega) ?_)
   rw [e]
   unfold edgeB
   rw [if_pos (by omega)]
   rw [List.append_assoc, List.append_assoc] at h
   rw [List.append_assoc]
   exact h
  ·have h := ih (n + 1) (acc ++ [l[n].f0]) (by omega) (by simp) (by simp; omega)
   unfold edgeB
   rw [if_neg (by omega)]
   rw [List.append_assoc] at h
   exact h
theorem impl_bounds (l : List S43) (hv : ∀ b ∈ l, bok b.f0 b.f1) (hl : l.length ≤ 100000000) : (∃ K_, ∀ k, K_ ≤ k → impl_bounds.f k l = some (edgesF l)) := by
 have h := impl_bounds_loop l hv hl l.length 0 [0] (by omega) (by simp) (by simp; omega)
 have e : dedF (sortF ([0] ++ (l.drop 0).flatMap fun b => edgeB b.f0 b.f1)) = edgesF l := ded_sort (rise_edgesF l) (fun x => by rw [edgesF, mem_numsF, List.drop_zero, List.mem_append])
 rw [e] at h
 exact h
abbrev Wy := S45
theorem drop_cons {α : Type} {l : List α} {n : Nat} (h : n < l.length) : l.drop n = l[n] :: l.drop (n + 1) := List.drop_eq_getElem_cons h
theorem rd_way (l : List Wy) (n : Nat) (h : n < l.length) : rd_T45 l (n : Int) = l[n] := by
 unfold rd_T45
 rw [List.getD_eq_getElem?_getD, Int.toNat_natCast, List.getElem?_eq_getElem h]
 rfl
/-- The block of a way comes ahead of another one's. -/
def ltB (a b : S43) : Bool := decide (a.f0 < b.f0 ∨ a.f0 = b.f0 ∧ a.f1 < b.f1)
/-- Is it a hop? -/
def hopB (x : Int) : Bool := decide (0 ≤ x ∧ x ≤ 99)
def wayB (w : Wy) : Bool := bokB w.f0.f0 w.f0.f1 && hopB w.f1
/-- Each way is valid, and ahead of the next one; 'p': the one before. -/
def chainB : Option Wy → List Wy → Bool
 | _, [] => true
 | none, w :: l => wayB w && chainB (some w) l
 | some p, w :: l => wayB w && (ltB p.f0 w.f0 && chainB (some w) l)
def wokB (l : List Wy) : Bool := chainB none l && decide (l.length ≤ 40)
/-- The way ahead of place n. -/
def prevW (l : List Wy) (n : Nat) : Option Wy := match n with | 0 => none | m + 1 => l[m]?
theorem isnan (a : Int) : cmp_isNaN_int.f a = some false := by simp [cmp_isNaN_int.f]
/-- How two numbers stand to each other. -/
def cmpI (a b : Int) : Int := if a < b then -1 else if a > b then 1 else 0
theorem cmp_int (a b : Int) : cmp_Compare_int.f a b = some (cmpI a b) := by
 unfold cmp_Compare_int.f cmpI
 rw [isnan, Option.bind_some, isnan, Option.bind_some]
 simp only [Bool.false_eq_true, if_false]
 split
 ·rfl
 ·split <;> rfl
theorem or_two (a b : Int) : (∃ K_, ∀ k, K_ ≤ k → cmp_Or_int.f k [a, b] = some (if a = 0 then b else a)) := by
 refine ⟨3, fun k hk => ?_⟩
 obtain ⟨k, rfl⟩ : ∃ j, k = j + 3 := ⟨k - 3, by omega⟩
 have e : (([a, b] : List Int).length : Int) = 2 := rfl
 have e0 : wrap64 (0 + 1) = 1 := w64 (by omega)
 have e1 : wrap64 (1 + 1) = 2 := w64 (by omega)
 have r0 : rd [a, b] 0 = a := rfl
 have r1 : rd [a, b] 1 = b := rfl
 simp only [cmp_Or_int.f]
 rw [cmp_Or_int.l0, e, if_pos (by omega), if_pos (by omega), if_pos (by omega), r0]
 by_cases h0 : a = 0
 ·rw [if_pos h0, if_pos h0, e0, cmp_Or_int.l0, e, if_pos (by omega), if_pos (by omega), if_pos (by omega), r1]
  by_cases h1 : b = 0
  ·rw [if_pos h1, e1, cmp_Or_int.l0, if_neg (by omega), h1]
  ·rw [if_neg h1]
 ·rw [if_neg h0, if_neg h0]
theorem by_block (a b : S43) : ∃ v, (∃ K_, ∀ k, K_ ≤ k → impl_byBlock.f k a.f0 a.f1 b.f0 b.f1 = some v) ∧ (v ≥ 0 ↔ ltB a b = false) ∧ (v = 0 ↔ a.f0 = b.f0 ∧ a.f1 = b.f1) ∧ -1 ≤ v ∧ v ≤ 1 := by
 obtain ⟨K, h⟩ := or_two (cmpI a.f0 b.f0) (cmpI a.f1 b.f1)
 refine ⟨if cmpI a.f0 b.f0 = 0 then cmpI a.f1 b.f1 else cmpI a.f0 b.f0, ⟨K, fun k hk => ?_⟩, ?_⟩
 ·simp only [impl_byBlock.f]
  rw [cmp_int, Option.bind_some, cmp_int, Option.bind_some, h k hk, Option.bind_some]
 ·have e : ltB a b = false ↔ ¬ (a.f0 < b.f0 ∨ a.f0 = b.f0 ∧ a.f1 < b.f1) := by simp only [ltB, decide_eq_false_iff_not]
  rw [e]
  unfold cmpI
  repeat' split
  all_goals omega
theorem cmp_block {a b : S43} (ha : bok a.f0 a.f1) (hb : bok b.f0 b.f1) : ∃ v, spec_l3Cmp.f a.f0 a.f1 b.f0 b.f1 = some v ∧ (v ≥ 0 ↔ ltB a b = false) ∧ (v < 0 ↔ ltB a b = true) := by
 obtain ⟨a0, a1, a2, a3, _⟩ := ha
 obtain ⟨b0, b1, b2, b3, _⟩ := hb
 have e : ltB a b = false ↔ ¬ (a.f0 < b.f0 ∨ a.f0 = b.f0 ∧ a.f1 < b.f1) := by simp only [ltB, decide_eq_false_iff_not]
 have e' : ltB a b = true ↔ (a.f0 < b.f0 ∨ a.f0 = b.f0 ∧ a.f1 < b.f1) := by simp only [ltB, decide_eq_true_eq]
 unfold spec_l3Cmp.f
 rw [e, e']
 by_cases c : a.f0 = b.f0
 ·rw [if_pos c, w64 (by omega)]
  exact ⟨_, rfl, by omega, by omega⟩
 ·rw [if_neg c, w64 (by omega)]
  exact ⟨_, rfl, by omega, by omega⟩
theorem prevW_succ {l : List Wy} {n : Nat} (h : n < l.length) : prevW l (n + 1) = some l[n] := by simp [prevW, h]
/-- What the loops of WaysOk answer, from place n on, all ways ahead being valid. -/
theorem impl_waysOk_loop (l : List Wy) (hl : l.length ≤ 1099511627776) (d : Nat) : ∀ n : Nat, n + d = l.length → (∃ K_, ∀ k, K_ ≤ k → impl_WaysOk.l0 k l l (l.length : Int) (n : Int) = some (chainB (prevW l n) (l.drop n) && decide (l.length ≤ 40))) := by
 induction d with
 | zero =>
  intro n hn
  refine ⟨1, fun k hk => ?_⟩
  obtain ⟨k, rfl⟩ : ∃ j, k = j + 1 := ⟨k - 1, by omega⟩
  simp only [impl_WaysOk.l0]
  rw [if_neg (by omega), List.drop_eq_nil_of_le (by omega)]
  have : decide ((l.length : Int) ≤ 40) = decide (l.length ≤ 40) := by rw [decide_eq_decide]; omega
  rw [this]
  cases prevW l n <;> rfl
 | succ d ih =>
  intro n hn
  have hlt : n < l.length := by omega
  obtain ⟨K1, e1⟩ := ih (n + 1) (by omega)
  rw [prevW_succ hlt] at e1
  have hw : wrap64 ((n : Int) + 1) = ((n + 1 : Nat) : Int) := by rw [w64 (by omega)]; omega
  rw [drop_cons hlt]
  have hin : ∀ x : Int, impl_in.f x 0 99 = some (hopB x) := fun x => impl_in x 0 99
  cases n with
  | zero =>
   refine ⟨K1 + 1, fun k hk => ?_⟩
   obtain ⟨k, rfl⟩ : ∃ j, k = j + 1 := ⟨k - 1, by omega⟩
   have e1 := e1 k (by omega)
   simp only [impl_WaysOk.l0, prevW, chainB]
   rw [if_pos (by omega), if_pos (by omega), if_pos (by omega), rd_way l 0 hlt, impl_ok, Option.bind_some, hin, Option.bind_some, hw, e1]
   cases hx : bokB l[0].f0.f0 l[0].f0.f1 with
   | false => simp [wayB, hx]
   | true =>
    cases hy : hopB l[0].f1 with
    | true =>
     rw [if_pos rfl, if_pos rfl, if_neg (by omega)]
     simp [wayB, hx, hy]
    | false => simp [wayB, hx, hy]
  | succ m =>
   have hm : m < l.length := by omega
   have hw2 : wrap64 (((m + 1 : Nat) : Int) - 1) = (m : Int) := by rw [w64 (by omega)]; omega
   obtain ⟨v, ⟨K2, e2⟩, v1, _⟩ := by_block l[m].f0 l[m + 1].f0
   refine ⟨K1 + K2 + 1, fun k hk => ?_⟩
   obtain ⟨k, rfl⟩ : ∃ j, k = j + 1 := ⟨k - 1, by omega⟩
   have e1 := e1 k (by omega)
   have e2 := e2 k (by omega)
   simp only [impl_WaysOk.l0]
   rw [prevW_succ hm]
   simp only [chainB]
   rw [if_pos (by omega), if_pos (by omega), if_pos (by omega), rd_way l (m + 1) hlt, impl_ok, Option.bind_some, hin, Option.bind_some, hw, e1]
   cases hx : bokB l[m + 1].f0.f0 l[m + 1].f0.f1 with
   | false => simp [wayB, hx]
   | true =>
    cases hy : hopB l[m + 1].f1 with
    | true =>
     rw [if_pos rfl, if_pos rfl, if_pos (by omega), hw2, if_pos (by omega), if_pos (by omega), rd_way l m hm, e2, Option.bind_some]
     cases q : ltB l[m].f0 l[m + 1].f0 with
     | false =>
      rw [if_pos (v1.2 q)]
      simp
     | true =>
      rw [if_neg (fun h => by rw [v1.1 h] at q; cases q)]
      simp [wayB, hx, hy]
    | false => simp [wayB, hx, hy]
theorem impl_waysOk (l : List Wy) (hl : l.length ≤ 1099511627776) : (∃ K_, ∀ k, K_ ≤ k → impl_WaysOk.f k l = some (wokB l)) := impl_waysOk_loop l hl l.length 0 (by omega)
theorem spec_waysOk_loop (l : List Wy) (hl : l.length ≤ 1099511627776) (d : Nat) : ∀ n : Nat, n + d = l.length → (∀ m (h : m < n), m < l.length → ∀ p, l[m]? = some p → bok p.f0.f0 p.f0.f1) → (∃ K_, ∀ k, K_ ≤ k → spec_WaysOk.l0 k l (n : Int) = some (chainB (prevW l n) (l.drop n) && decide (l.length ≤ 40))) := by
 induction d with
 | zero =>
  intro n hn _
  refine ⟨1, fun k hk => ?_⟩
  obtain ⟨k, rfl⟩ : ∃ j, k = j + 1 := ⟨k - 1, by omega⟩
  simp only [spec_WaysOk.l0]
  rw [if_neg (by omega), List.drop_eq_nil_of_le (by omega)]
  have : decide ((l.length : Int) ≤ 40) = decide (l.length ≤ 40) := by rw [decide_eq_decide]; omega
  rw [this]
  cases prevW l n <;> rfl
 | succ d ih =>
  intro n hn hv
  have hlt : n < l.length := by omega
  have hw : wrap64 ((n : Int) + 1) = ((n + 1 : Nat) : Int) := by rw [w64 (by omega)]; omega
  obtain ⟨K3, e3⟩ := spec_ok l[n].f0.f0 l[n].f0.f1
  rw [drop_cons hlt]
  have hin : ∀ x : Int, spec_l1In.f x 0 99 = some (hopB x) := fun x => spec_in x 0 99
  cases hb : bokB l[n].f0.f0 l[n].f0.f1 with
  | false =>
   refine ⟨K3 + 1, fun k hk => ?_⟩
   obtain ⟨k, rfl⟩ : ∃ j, k = j + 1 := ⟨k - 1, by omega⟩
   simp only [spec_WaysOk.l0]
   rw [if_pos (by omega), if_pos (by omega), rd_way l n hlt, e3 k (by omega), Option.bind_some, hb]
   cases prevW l n <;> simp [chainB, wayB, hb]
  | true =>
   obtain ⟨K1, e1⟩ := ih (n + 1) (by omega) (fun m h1 h2 p hp => by
    by_cases e : m = n
    ·subst e
     rw [List.getElem?_eq_getElem hlt] at hp
     cases hp
     exact bokB_true.1 hb
    ·exact hv m (by omega) h2 p hp)
   rw [prevW_succ hlt] at e1
   cases n with
   | zero =>
    refine ⟨K1 + K3 + 1, fun k hk => ?_⟩
    obtain ⟨k, rfl⟩ : ∃ j, k = j + 1 := ⟨k - 1, by omega⟩
    have e1 := e1 k (by omega)
    simp only [spec_WaysOk.l0, prevW, chainB, wayB]
    rw [if_pos (by omega), if_pos (by omega), rd_way l 0 hlt, e3 k (by omega), Option.bind_some, hin, Option.bind_some, hw, e1, hb]
    cases hy : hopB l[0].f1 with
    | true =>
     rw [if_pos rfl, if_pos rfl, if_neg (by omega)]
     simp [hy]
    | false => simp [hy]
   | succ m =>
    have hm : m < l.length := by omega
    have hw2 : wrap64 (((m + 1 : Nat) : Int) - 1) = (m : Int) := by rw [w64 (by omega)]; omega
    obtain ⟨v, e2, v1, _⟩ := cmp_block (hv m (by omega) hm l[m] (List.getElem?_eq_getElem hm)) (bokB_true.1 hb)
    refine ⟨K1 + K3 + 1, fun k hk => ?_⟩
    obtain ⟨k, rfl⟩ : ∃ j, k = j + 1 := ⟨k - 1, by omega⟩
    have e1 := e1 k (by omega)
    simp only [spec_WaysOk.l0]
    rw [prevW_succ hm]
    simp only [chainB, wayB]
    rw [if_pos (by omega), if_pos (by omega), rd_way l (m + 1) hlt, e3 k (by omega), Option.bind_some, hin, Option.bind_some, hw, e1, hb]
    cases hy : hopB l[m + 1].f1 with
    | true =>
     rw [if_pos rfl, if_pos rfl, if_pos (by omega), hw2, if_pos (by omega), if_pos (by omega), rd_way l m hm, e2, Option.bind_some]
     cases q : ltB l[m].f0 l[m + 1].f0 with
     | false =>
      rw [if_pos (v1.2 q)]
      simp
     | true =>
      rw [if_neg (fun h => by rw [v1.1 h] at q; cases q)]
      simp [hy]
    | false => simp [hy]
theorem spec_waysOk (l : List Wy) (hl : l.length ≤ 1099511627776) : (∃ K_, ∀ k, K_ ≤ k → spec_WaysOk.f k l = some (wokB l)) := spec_waysOk_loop l hl l.length 0 (by omega) (fun m h => absurd h (by omega))
theorem chainB_valid {l : List Wy} : ∀ {p : Option Wy}, chainB p l = true → ∀ w ∈ l, wayB w = true := by
 induction l with
 | nil => intro p _ w hw; cases hw
 | cons x l ih =>
  intro p h w hw
  have h' : wayB x = true ∧ chainB (some x) l = true := by
   cases p <;> simp only [chainB, Bool.and_eq_true] at h
   ·exact h
   ·exact ⟨h.1, h.2.2⟩
  rcases List.mem_cons.1 hw with rfl | hw
  ·exact h'.1
  ·exact ih h'.2 w hw
theorem wokB_valid {l : List Wy} (h : wokB l = true) : ∀ w ∈ l, bok w.f0.f0 w.f0.f1 ∧ 0 ≤ w.f1 ∧ w.f1 ≤ 99 := by
 intro w hw
 simp only [wokB, Bool.and_eq_true] at h
 have := chainB_valid h.1 w hw
 simp only [wayB, hopB, Bool.and_eq_true, bokB_true, decide_eq_true_eq] at this
 exact ⟨this.1, this.2⟩
theorem wokB_len {l : List Wy} (h : wokB l = true) : l.length ≤ 40 := by
 simp only [wokB, Bool.and_eq_true, decide_eq_true_eq] at h
 exact h.2
/-- The hop to which an address leads, of what is left; the best till here. -/
def leadGo (a : Int) : List Wy → Int → Int → Int
 | [], hop, _ => hop
 | w :: l, hop, bits => if hasB w.f0.f0 w.f0.f1 a = true ∧ w.f0.f1 > bits then leadGo a l w.f1 w.f0.f1 else leadGo a l hop bits
def leadF (l : List Wy) (a : Int) : Int := leadGo a l (-1) (-1)
theorem impl_lead_loop (l : List Wy) (a : Int) (hv : ∀ w ∈ l, bok w.f0.f0 w.f0.f1) (hl : l.length ≤ 1099511627776) (d : Nat) : ∀ (n : Nat) (x y z : Int), n + d = l.length → (∃ K_, ∀ k, K_ ≤ k → impl_lead.l0 k a l (l.length : Int) (n : Int) x y z = some (leadGo a (l.drop n) z y)) := by
 induction d with
 | zero =>
  intro n x y z hn
  refine ⟨1, fun k hk => ?_⟩
  obtain ⟨k, rfl⟩ : ∃ j, k = j + 1 := ⟨k - 1, by omega⟩
  simp only [impl_lead.l0]
  rw [if_neg (by omega), List.drop_eq_nil_of_le (by omega)]
  rfl
 | succ d ih =>
  intro n x y z hn
  have hlt : n < l.length := by omega
  have hw : wrap64 ((n : Int) + 1) = ((n + 1 : Nat) : Int) := by rw [w64 (by omega)]; omega
  have hb := hv l[n] (List.getElem_mem hlt)
  obtain ⟨K1, e1⟩ := ih (n + 1) x y z (by omega)
  obtain ⟨K2, e2⟩ := ih (n + 1) l[n].f0.f0 l[n].f0.f1 l[n].f1 (by omega)
  refine ⟨K1 + K2 + 1, fun k hk => ?_⟩
  obtain ⟨k, rfl⟩ : ∃ j, k = j + 1 := ⟨k - 1, by omega⟩
  have e1 := e1 k (by omega)
  have e2 := e2 k (by omega)
  simp only [impl_lead.l0]
  rw [drop_cons hlt, if_pos (by omega), if_pos (by omega), if_pos (by omega), rd_way l n hlt, impl_has a hb.1 (by have := hb.2.1; omega) hb.2.2.1 hb.2.2.2.1, Option.bind_some, hw, e1, e2]
  simp only [leadGo]
  cases hasB l[n].f0.f0 l[n].f0.f1 a with
  | false => simp
  | true =>
   by_cases c : l[n].f0.f1 > y
   ·simp [c]
   ·simp [c]
theorem impl_lead (l : List Wy) (a : Int) (hv : ∀ w ∈ l, bok w.f0.f0 w.f0.f1) (hl : l.length ≤ 1099511627776) : (∃ K_, ∀ k, K_ ≤ k → impl_lead.f k l a = some (leadF l a)) := impl_lead_loop l a hv hl l.length 0 0 (-1) (-1) (by omega)
abbrev Bk := S43
theorem ltB_iff {a b : Bk} : ltB a b = true ↔ (a.f0 < b.f0 ∨ a.f0 = b.f0 ∧ a.f1 < b.f1) := by simp only [ltB, decide_eq_true_eq]
theorem ltB_trans {a b c : Bk} (h : ltB a b = true) (k : ltB b c = true) : ltB a c = true := by
 rw [ltB_iff] at *
 omega
theorem ltB_irrefl (a : Bk) : ltB a a = false := by
 rw [Bool.eq_false_iff]
 intro h
 rw [ltB_iff] at h
 omega
theorem bk_ext {a b : Bk} (h : a.f0 = b.f0) (k : a.f1 = b.f1) : a = b := by
 cases a
 cases b
 cases h
 cases k
 rfl
theorem ltB_total {a b : Bk} (h : ltB a b = false) (k : ltB b a = false) : a = b := by
 have h' : ¬ ltB a b = true := by rw [h]; exact Bool.false_ne_true
 have k' : ¬ ltB b a = true := by rw [k]; exact Bool.false_ne_true
 rw [ltB_iff] at h' k'
 exact bk_ext (by omega) (by omega)
/-- Valid routes, said plainly. -/
def Wok (l : List Wy) : Prop := (∀ w ∈ l, wayB w = true) ∧ l.Pairwise (fun a b => ltB a.f0 b.f0 = true) ∧ l.length ≤ 40
theorem chain_iff (l : List Wy) : ∀ p : Wy, chainB (some p) l = true ↔ (∀ w ∈ l, wayB w = true) ∧ (p :: l).Pairwise (fun a b => ltB a.f0 b.f0 = true) := by
 induction l with
 | nil => intro p; simp [chainB]
 | cons w l ih =>
  intro p
  simp only [chainB, Bool.and_eq_true]
  rw [ih w]
  constructor
  ·rintro ⟨h1, h2, h3, h4⟩
   refine ⟨fun x hx => ?_, List.pairwise_cons.2 ⟨fun x hx => ?_, h4⟩⟩
   ·rcases List.mem_cons.1 hx with rfl | hx
    ·exact h1
    ·exact h3 x hx
   ·rcases List.mem_cons.1 hx with rfl | hx
    ·exact h2
    ·exact ltB_trans h2 ((List.pairwise_cons.1 h4).1 x hx)
  ·rintro ⟨h1, h2⟩
   obtain ⟨h3, h4⟩ := List.pairwise_cons.1 h2
   exact ⟨h1 w (List.mem_cons_self ..), h3 w (List.mem_cons_self ..), fun x hx => h1 x (List.mem_cons_of_mem _ hx), h4⟩
theorem wokB_iff {l : List Wy} : wokB l = true ↔ Wok l := by
 unfold wokB Wok
 rw [Bool.and_eq_true, decide_eq_true_eq]
 cases l with
 | nil => simp [chainB]
 | cons w l =>
  simp only [chainB, Bool.and_eq_true]
  rw [chain_iff]
  constructor
  ·rintro ⟨⟨h1, h2, h3⟩, h4⟩
   refine ⟨fun x hx => ?_, h3, h4⟩
   rcases List.mem_cons.1 hx with rfl | hx
   ·exact h1
   ·exact h2 x hx
  ·rintro ⟨h1, h2, h3⟩
   exact ⟨⟨h1 w (List.mem_cons_self ..), fun x hx => h1 x (List.mem_cons_of_mem _ hx), h2⟩, h3⟩
theorem wayB_iff {w : Wy} : wayB w = true ↔ bok w.f0.f0 w.f0.f1 ∧ 0 ≤ w.f1 ∧ w.f1 ≤ 99 := by
 simp only [wayB, hopB, Bool.and_eq_true, bokB_true, decide_eq_true_eq]
theorem Wok.nil : Wok [] := ⟨fun _ h => (by cases h), List.Pairwise.nil, by simp⟩
/-- What is left of valid routes is valid. -/
theorem Wok.sub {l m : List Wy} (h : Wok l) (s : m.Sublist l) : Wok m := ⟨fun w hw => h.1 w (s.subset hw), h.2.1.sublist s, Nat.le_trans s.length_le h.2.2⟩
/-- Two valid routes of a list are of one block just if they are the same. -/
theorem Wok.uniq {l : List Wy} (h : Wok l) {x y : Wy} (hx : x ∈ l) (hy : y ∈ l) (e : x.f0 = y.f0) : x = y := by
 have hp := h.2.1
 clear h
 induction l with
 | nil => cases hx
 | cons w l ih =>
  obtain ⟨h1, h2⟩ := List.pairwise_cons.1 hp
  rcases List.mem_cons.1 hx with ex | gx
  ·rcases List.mem_cons.1 hy with ey | gy
   ·rw [ex, ey]
   ·have := h1 y gy; rw [← ex, e, ltB_irrefl] at this; cases this
  ·rcases List.mem_cons.1 hy with ey | gy
   ·have := h1 x gx; rw [← ey, e, ltB_irrefl] at this; cases this
   ·exact ih gx gy h2
def aheadW (l : List Wy) (b : Bk) : List Wy := l.takeWhile fun w => ltB w.f0 b
def restW (l : List Wy) (b : Bk) : List Wy := l.dropWhile fun w => ltB w.f0 b
theorem ahead_rest (l : List Wy) (b : Bk) : aheadW l b ++ restW l b = l := List.takeWhile_append_dropWhile
def eqB (a b : Bk) : Bool := decide (a.f0 = b.f0 ∧ a.f1 = b.f1)
theorem eqB_iff {a b : Bk} : eqB a b = true ↔ a = b := by
 simp only [eqB, decide_eq_true_eq]
 exact ⟨fun h => bk_ext h.1 h.2, fun h => by rw [h]; exact ⟨rfl, rfl⟩⟩
/-- Is it there? -/
def thereB (l : List Wy) (b : Bk) : Bool := match restW l b with | [] => false | w :: _ => eqB w.f0 b
theorem mem_ahead {l : List Wy} {b : Bk} : ∀ w ∈ aheadW l b, ltB w.f0 b = true := by
 induction l with
 | nil => intro w hw; cases hw
 | cons x l ih =>
  intro w hw
  simp only [aheadW, List.takeWhile_cons] at hw
  cases e : ltB x.f0 b with
  | false => rw [e] at hw; simp at hw
  | true =>
   rw [e] at hw
   simp only [if_true] at hw
   rcases List.mem_cons.1 hw with rfl | hw
   ·exact e
   ·exact ih w hw
theorem rest_head {l : List Wy} {b : Bk} {x : Wy} {m : List Wy} (h : restW l b = x :: m) : ltB x.f0 b = false := by
 induction l with
 | nil => cases h
 | cons y l ih =>
  simp only [restW, List.dropWhile_cons] at h
  cases e : ltB y.f0 b with
  | false =>
   rw [e] at h
   simp at h
   rw [← h.1]
   exact e
  | true =>
   rw [e] at h
   simp only [if_true] at h
   exact ih h
theorem mem_rest {l : List Wy} {b : Bk} (hp : l.Pairwise (fun a b => ltB a.f0 b.f0 = true)) : ∀ w ∈ restW l b, ltB w.f0 b = false := by
 intro w hw
 cases e : restW l b with
 | nil => rw [e] at hw; cases hw
 | cons x m =>
  have hx := rest_head e
  rw [e] at hw
  rcases List.mem_cons.1 hw with rfl | hw
  ·exact hx
  ·have hs : (x :: m).Pairwise (fun a b => ltB a.f0 b.f0 = true) := by rw [← e]; exact hp.sublist (List.dropWhile_sublist _)
   have h1 := (List.pairwise_cons.1 hs).1 w hw
   rw [Bool.eq_false_iff]
   intro h2
   rw [ltB_trans h1 h2] at hx
   cases hx
/-- Behind the route of a block are those that come behind it. -/
theorem rest_tail {l : List Wy} {b : Bk} (hp : l.Pairwise (fun a b => ltB a.f0 b.f0 = true)) {x : Wy} {m : List Wy} (h : restW l b = x :: m) (e : x.f0 = b) : ∀ w ∈ m, ltB b w.f0 = true := by
 intro w hw
 have hs : (x :: m).Pairwise (fun a b => ltB a.f0 b.f0 = true) := by rw [← h]; exact hp.sublist (List.dropWhile_sublist _)
 rw [← e]
 exact (List.pairwise_cons.1 hs).1 w hw
theorem rest_lt {l : List Wy} {b : Bk} (hp : l.Pairwise (fun a b => ltB a.f0 b.f0 = true)) (h : thereB l b = false) : ∀ w ∈ restW l b, ltB b w.f0 = true := by
 intro w hw
 cases e : restW l b with
 | nil => rw [e] at hw; cases hw
 | cons x m =>
  have hx := rest_head e
  have hne : x.f0 ≠ b := by
   intro hh
   simp only [thereB, e] at h
   rw [eqB_iff.2 hh] at h
   cases h
  have hb : ltB b x.f0 = true := by
   cases q : ltB b x.f0 with
   | true => rfl
   | false => exact absurd (ltB_total hx q) hne
  rw [e] at hw
  rcases List.mem_cons.1 hw with rfl | hw
  ·exact hb
  ·have hs : (x :: m).Pairwise (fun a b => ltB a.f0 b.f0 = true) := by rw [← e]; exact hp.sublist (List.dropWhile_sublist _)
   exact ltB_trans hb ((List.pairwise_cons.1 hs).1 w hw)
/-- What WaysGone leaves, and whether it was there. -/
def goneF (l : List Wy) (b : Bk) : List Wy := if thereB l b = true then aheadW l b ++ (restW l b).tail else l
/-- What WaysPut makes of valid routes and a valid one: without looking at how many there are. -/
def setF (l : List Wy) (w : Wy) : List Wy := if thereB l w.f0 = true then aheadW l w.f0 ++ w :: (restW l w.f0).tail else aheadW l w.f0 ++ w :: restW l w.f0
theorem there_iff {l : List Wy} {b : Bk} (hp : l.Pairwise (fun a b => ltB a.f0 b.f0 = true)) : thereB l b = true ↔ ∃ w ∈ l, w.f0 = b := by
 constructor
 ·intro h
  cases e : restW l b with
  | nil => simp [thereB, e] at h
  | cons x m =>
   simp only [thereB, e, eqB_iff] at h
   exact ⟨x, by rw [← ahead_rest l b, e]; simp, h⟩
 ·rintro ⟨w, hw, rfl⟩
  cases h : thereB l w.f0 with
  | true => rfl
  | false =>
   rw [← ahead_rest l w.f0] at hw
   rcases List.mem_append.1 hw with hw | hw
   ·have := mem_ahead w hw; rw [ltB_irrefl] at this; cases this
   ·have := rest_lt hp h w hw; rw [ltB_irrefl] at this; cases this
theorem gone_mem {l : List Wy} {b : Bk} (h : Wok l) (x : Wy) : x ∈ goneF l b ↔ x ∈ l ∧ x.f0 ≠ b := by
 unfold goneF
 cases t : thereB l b with
 | false =>
  simp only [Bool.false_eq_true, if_false]
  constructor
  ·intro hx
   exact ⟨hx, fun e => by rw [(there_iff h.2.1).2 ⟨x, hx, e⟩] at t; cases t⟩
  ·exact fun hx => hx.1
 | true =>
  simp only [if_true]
  cases e : restW l b with
  | nil => simp [thereB, e] at t
  | cons y m =>
   simp only [thereB, e, eqB_iff] at t
   have hl := ahead_rest l b
   rw [e] at hl
   rw [List.tail_cons]
   constructor
   ·intro hx
    refine ⟨by rw [← hl]; simp only [List.mem_append, List.mem_cons] at hx ⊢; rcases hx with hx | hx; exact .inl hx; exact .inr (.inr hx), ?_⟩
    rintro rfl
    rcases List.mem_append.1 hx with hx | hx
    ·have := mem_ahead x hx; rw [ltB_irrefl] at this; cases this
    ·have := rest_tail h.2.1 e t x hx; rw [ltB_irrefl] at this; cases this
   ·rintro ⟨hx, hne⟩
    rw [← hl] at hx
    simp only [List.mem_append, List.mem_cons] at hx ⊢
    rcases hx with hx | rfl | hx
    ·exact .inl hx
    ·exact absurd t hne
    ·exact .inr hx
theorem gone_sub (l : List Wy) (b : Bk) : (goneF l b).Sublist l := by
 unfold goneF
 split
 ·have h1 : (restW l b).tail.Sublist (restW l b) := List.tail_sublist _
  have h2 : (aheadW l b ++ (restW l b).tail).Sublist (aheadW l b ++ restW l b) := List.Sublist.append (List.Sublist.refl _) h1
  rwa [ahead_rest] at h2
 ·exact List.Sublist.refl _
theorem gone_ok {l : List Wy} {b : Bk} (h : Wok l) : Wok (goneF l b) := h.sub (gone_sub l b)
theorem set_mem {l : List Wy} {w : Wy} (h : Wok l) (x : Wy) : x ∈ setF l w ↔ x = w ∨ x ∈ l ∧ x.f0 ≠ w.f0 := by
 have hg := gone_mem (b := w.f0) h x
 unfold goneF at hg
 unfold setF
 cases t : thereB l w.f0 with
 | true =>
  rw [t] at hg
  simp only [if_true] at hg ⊢
  rw [← hg]
  simp only [List.mem_append, List.mem_cons]
  constructor
  ·rintro (h | h | h)
   ·exact .inr (.inl h)
   ·exact .inl h
   ·exact .inr (.inr h)
  ·rintro (h | h | h)
   ·exact .inr (.inl h)
   ·exact .inl h
   ·exact .inr (.inr h)
 | false =>
  rw [t] at hg
  simp only [Bool.false_eq_true, if_false] at hg ⊢
  rw [← hg]
  conv => rhs; rw [← ahead_rest l w.f0]
  simp only [List.mem_append, List.mem_cons]
  constructor
  ·rintro (h | h | h)
   ·exact .inr (.inl h)
   ·exact .inl h
   ·exact .inr (.inr h)
  ·rintro (h | h | h)
   ·exact .inr (.inl h)
   ·exact .inl h
   ·exact .inr (.inr h)
theorem set_len (l : List Wy) (w : Wy) : (setF l w).length = if thereB l w.f0 = true then l.length else l.length + 1 := by
 unfold setF
 have hl := congrArg List.length (ahead_rest l w.f0)
 cases t : thereB l w.f0 with
 | true =>
  simp only [if_true]
  cases e : restW l w.f0 with
  | nil => simp [thereB, e] at t
  | cons y m =>
   rw [e] at hl
   simp only [List.length_append, List.length_cons, List.tail_cons] at hl ⊢
   omega
 | false =>
  simp only [Bool.false_eq_true, if_false, List.length_append, List.length_cons] at hl ⊢
  omega
theorem set_pair {l : List Wy} {w : Wy} (hp : l.Pairwise (fun a b => ltB a.f0 b.f0 = true)) : (setF l w).Pairwise (fun a b => ltB a.f0 b.f0 = true) := by
 have ha : (aheadW l w.f0).Pairwise (fun a b => ltB a.f0 b.f0 = true) := hp.sublist (List.takeWhile_sublist _)
 have hr : (restW l w.f0).Pairwise (fun a b => ltB a.f0 b.f0 = true) := hp.sublist (List.dropWhile_sublist _)
 unfold setF
 cases t : thereB l w.f0 with
 | true =>
  simp only [if_true]
  cases e : restW l w.f0 with
  | nil => simp [thereB, e] at t
  | cons y m =>
   have t' := t
   simp only [thereB, e, eqB_iff] at t'
   rw [e] at hr
   rw [List.tail_cons]
   refine List.pairwise_append.2 ⟨ha, List.pairwise_cons.2 ⟨fun x hx => rest_tail hp e t' x hx, (List.pairwise_cons.1 hr).2⟩, fun x hx z hz => ?_⟩
   rcases List.mem_cons.1 hz with rfl | hz
   ·exact mem_ahead x hx
   ·exact ltB_trans (mem_ahead x hx) (rest_tail hp e t' z hz)
 | false =>
  simp only [Bool.false_eq_true, if_false]
  refine List.pairwise_append.2 ⟨ha, List.pairwise_cons.2 ⟨fun x hx => rest_lt hp t x hx, hr⟩, fun x hx z hz => ?_⟩
  rcases List.mem_cons.1 hz with rfl | hz
  ·exact mem_ahead x hx
  ·exact ltB_trans (mem_ahead x hx) (rest_lt hp t z hz)
/-- Putting a route makes valid routes just if it is valid, and there is room. -/
theorem set_ok {l : List Wy} {w : Wy} (h : Wok l) : Wok (setF l w) ↔ wayB w = true ∧ (thereB l w.f0 = true ∨ l.length < 40) := by
 have hl := set_len l w
 have hm := h.2.2
 constructor
 ·intro k
  refine ⟨k.1 w ((set_mem h w).2 (.inl rfl)), ?_⟩
  have := k.2.2
  rw [hl] at this
  cases t : thereB l w.f0 with
  | true => exact .inl rfl
  | false => rw [t] at this; simp at this; exact .inr (by omega)
 ·rintro ⟨hw, hr⟩
  refine ⟨fun x hx => ?_, set_pair h.2.1, ?_⟩
  ·rcases (set_mem h x).1 hx with rfl | hx
   ·exact hw
   ·exact h.1 x hx.1
  ·rw [hl]
   rcases hr with hr | hr
   ·rw [if_pos hr]; exact hm
   ·split <;> omega
/-- Lists of valid routes are the same if their routes are. -/
theorem sorted_ext {l m : List Wy} (hl : l.Pairwise (fun a b => ltB a.f0 b.f0 = true)) (hm : m.Pairwise (fun a b => ltB a.f0 b.f0 = true)) (h : ∀ x, x ∈ l ↔ x ∈ m) : l = m := by
 induction l generalizing m with
 | nil =>
  cases m with
  | nil => rfl
  | cons y m => exact absurd ((h y).2 (List.mem_cons_self ..)) (by simp)
 | cons x l ih =>
  cases m with
  | nil => exact absurd ((h x).1 (List.mem_cons_self ..)) (by simp)
  | cons y m =>
   obtain ⟨l1, l2⟩ := List.pairwise_cons.1 hl
   obtain ⟨m1, m2⟩ := List.pairwise_cons.1 hm
   have e : x = y := by
    rcases List.mem_cons.1 ((h x).1 (List.mem_cons_self ..)) with e | hx
    ·exact e
    ·rcases List.mem_cons.1 ((h y).2 (List.mem_cons_self ..)) with e | hy
     ·exact e.symm
     ·have := ltB_trans (m1 x hx) (l1 y hy); rw [ltB_irrefl] at this; cases this
   subst e
   congr 1
   refine ih l2 m2 fun z => ⟨fun hz => ?_, fun hz => ?_⟩
   ·rcases List.mem_cons.1 ((h z).1 (List.mem_cons_of_mem _ hz)) with rfl | hz'
    ·have := l1 z hz; rw [ltB_irrefl] at this; cases this
    ·exact hz'
   ·rcases List.mem_cons.1 ((h z).2 (List.mem_cons_of_mem _ hz)) with rfl | hz'
    ·have := m1 z hz; rw [ltB_irrefl] at this; cases this
    ·exact hz'
/-- A hop to which an address leads, said plainly. -/
def Leads (l : List Wy) (a h : Int) : Prop := (∃ w ∈ l, hasB w.f0.f0 w.f0.f1 a = true ∧ (∀ x ∈ l, hasB x.f0.f0 x.f0.f1 a = true → x.f0.f1 ≤ w.f0.f1) ∧ w.f1 = h) ∨ (∀ x ∈ l, hasB x.f0.f0 x.f0.f1 a = false) ∧ h = -1
theorem leadGo_spec (a : Int) (l : List Wy) : ∀ (hop bits : Int), ((∃ w ∈ l, hasB w.f0.f0 w.f0.f1 a = true ∧ bits < w.f0.f1 ∧ (∀ x ∈ l, hasB x.f0.f0 x.f0.f1 a = true → x.f0.f1 ≤ w.f0.f1) ∧ w.f1 = leadGo a l hop bits) ∨ (∀ x ∈ l, hasB x.f0.f0 x.f0.f1 a = true → x.f0.f1 ≤ bits) ∧ leadGo a l hop bits = hop) := by
 induction l with
 | nil => intro hop bits; exact .inr ⟨fun x hx => (by cases hx), rfl⟩
 | cons w l ih =>
  intro hop bits
  simp only [leadGo]
  by_cases c : hasB w.f0.f0 w.f0.f1 a = true ∧ w.f0.f1 > bits
  ·rw [if_pos c]
   rcases ih w.f1 w.f0.f1 with ⟨v, hv, h1, h2, h3, h4⟩ | ⟨h1, h2⟩
   ·refine .inl ⟨v, List.mem_cons_of_mem _ hv, h1, by omega, fun x hx hh => ?_, h4⟩
    rcases List.mem_cons.1 hx with rfl | hx
    ·omega
    ·exact h3 x hx hh
   ·refine .inl ⟨w, List.mem_cons_self .., c.1, by omega, fun x hx hh => ?_, h2.symm⟩
    rcases List.mem_cons.1 hx with rfl | hx
    ·exact Int.le_refl _
    ·exact h1 x hx hh
  ·rw [if_neg c]
   rcases ih hop bits with ⟨v, hv, h1, h2, h3, h4⟩ | ⟨h1, h2⟩
   ·refine .inl ⟨v, List.mem_cons_of_mem _ hv, h1, h2, fun x hx hh => ?_, h4⟩
    rcases List.mem_cons.1 hx with rfl | hx
    ·have : ¬ x.f0.f1 > bits := fun q => c ⟨hh, q⟩
     omega
    ·exact h3 x hx hh
   ·refine .inr ⟨fun x hx hh => ?_, h2⟩
    rcases List.mem_cons.1 hx with rfl | hx
    ·have : ¬ x.f0.f1 > bits := fun q => c ⟨hh, q⟩
     omega
    ·exact h1 x hx hh
theorem leads_F {l : List Wy} (hv : ∀ w ∈ l, 0 ≤ w.f0.f1) (a : Int) : Leads l a (leadF l a) := by
 rcases leadGo_spec a l (-1) (-1) with ⟨w, hw, h1, _, h3, h4⟩ | ⟨h1, h2⟩
 ·exact .inl ⟨w, hw, h1, h3, h4⟩
 ·refine .inr ⟨fun x hx => ?_, h2⟩
  rw [Bool.eq_false_iff]
  intro h
  have := h1 x hx h
  have := hv x hx
  omega
/-- Two blocks of so many bits that have an address are the same. -/
theorem has_uniq {b c m a : Int} (hb : bok b m) (hc : bok c m) (h1 : hasB b m a = true) (h2 : hasB c m a = true) : b = c := by
 rw [hasB_iff] at h1 h2
 have hs := sz_pos m
 rcases Int.lt_trichotomy b c with h | h | h
 ·have := mult_apart (by omega) hb.dvd hc.dvd h; omega
 ·exact h
 ·have := mult_apart (by omega) hc.dvd hb.dvd h; omega
theorem Leads.uniq {l : List Wy} (h : Wok l) {a x y : Int} (hx : Leads l a x) (hy : Leads l a y) : x = y := by
 rcases hx with ⟨w, hw, h1, h2, h3⟩ | ⟨h1, h2⟩
 ·rcases hy with ⟨v, hv, k1, k2, k3⟩ | ⟨k1, k2⟩
  ·have hb : w.f0.f1 = v.f0.f1 := by have := h2 v hv k1; have := k2 w hw h1; omega
   have w1 := (wayB_iff.1 (h.1 w hw)).1
   have v1 := (wayB_iff.1 (h.1 v hv)).1
   rw [hb] at w1 h1
   have := h.uniq hw hv (bk_ext (has_uniq w1 v1 h1 k1) hb)
   rw [← h3, ← k3, this]
  ·have := k1 w hw; rw [h1] at this; cases this
 ·rcases hy with ⟨v, hv, k1, k2, k3⟩ | ⟨k1, k2⟩
  ·have := h1 v hv; rw [k1] at this; cases this
  ·rw [h2, k2]
theorem Wok.bits {l : List Wy} (h : Wok l) : ∀ w ∈ l, 0 ≤ w.f0.f1 := fun w hw => (wayB_iff.1 (h.1 w hw)).1.2.2.1
theorem lead_eq {l : List Wy} (h : Wok l) {a x : Int} (hx : Leads l a x) : leadF l a = x := (leads_F h.bits a).uniq h hx
/-- Routes of the same blocks about an address lead it alike. -/
theorem lead_congr {l m : List Wy} (hl : Wok l) (hm : Wok m) {a : Int} (h : ∀ x, hasB x.f0.f0 x.f0.f1 a = true → (x ∈ l ↔ x ∈ m)) : leadF l a = leadF m a := by
 refine lead_eq hl ?_
 rcases leads_F hm.bits a with ⟨w, hw, h1, h2, h3⟩ | ⟨h1, h2⟩
 ·exact .inl ⟨w, (h w h1).2 hw, h1, fun x hx hh => h2 x ((h x hh).1 hx) hh, h3⟩
 ·refine .inr ⟨fun x hx => ?_, h2⟩
  rw [Bool.eq_false_iff]
  intro hh
  have := h1 x ((h x hh).1 hx)
  rw [hh] at this
  cases this
/-- The hop to which a route's addresses would lead without it. -/
def belowW (l : List Wy) (n : Int) : List Wy := l.filter fun x => decide (x.f0.f1 < n)
def aboveF (l : List Wy) (w : Wy) : Int := leadF (belowW l w.f0.f1) w.f0.f0
/-- Routes without the redundant ones. -/
def lessF (l : List Wy) : List Wy := l.filter fun w => decide (aboveF l w ≠ w.f1)
theorem less_sub (l : List Wy) : (lessF l).Sublist l := List.filter_sublist
theorem below_sub (l : List Wy) (n : Int) : (belowW l n).Sublist l := List.filter_sublist
theorem mem_below {l : List Wy} {n : Int} {x : Wy} : x ∈ belowW l n ↔ x ∈ l ∧ x.f0.f1 < n := by simp [belowW]
theorem mem_less {l : List Wy} {x : Wy} : x ∈ lessF l ↔ x ∈ l ∧ aboveF l x ≠ x.f1 := by simp [lessF]
/-- Which addresses of a block has another one of fewer bits: all, or none. -/
theorem has_wide {b m c n a : Int} (hb : bok b m) (hc : bok c n) (hm : m ≤ n) (ha : hasB c n a = true) : hasB b m a = hasB b m c := by
 have hs := sz_pos n
 rw [hasB_iff] at ha
 have hd : sz n ∣ sz m := sz_dvd hm
 have h1 : sz n ∣ b := Int.dvd_trans hd hb.dvd
 have h2 : sz n ∣ b + sz m := Int.dvd_add h1 hd
 have hcd := hc.dvd
 rw [Bool.eq_iff_iff, hasB_iff, hasB_iff]
 constructor
 ·rintro ⟨k1, k2⟩
  refine ⟨?_, by omega⟩
  by_cases q : b ≤ c
  ·exact q
  ·have := mult_apart (by omega) hcd h1 (by omega); omega
 ·rintro ⟨k1, k2⟩
  refine ⟨by omega, ?_⟩
  have := mult_apart (by omega) hcd h2 k2
  omega
theorem below_lead {l : List Wy} (h : Wok l) {w : Wy} (hw : bok w.f0.f0 w.f0.f1) {a : Int} (ha : hasB w.f0.f0 w.f0.f1 a = true) : leadF (belowW l w.f0.f1) a = leadF (belowW l w.f0.f1) w.f0.f0 := by
 have hk := h.sub (below_sub l w.f0.f1)
 refine lead_eq hk ?_
 have e : ∀ x ∈ belowW l w.f0.f1, hasB x.f0.f0 x.f0.f1 a = hasB x.f0.f0 x.f0.f1 w.f0.f0 := fun x hx =>
  has_wide (wayB_iff.1 (hk.1 x hx)).1 hw (by have := (mem_below.1 hx).2; omega) ha
 rcases leads_F hk.bits w.f0.f0 with ⟨v, hv, h1, h2, h3⟩ | ⟨h1, h2⟩
 ·exact .inl ⟨v, hv, by rw [e v hv]; exact h1, fun x hx hh => h2 x hx (by rw [← e x hx]; exact hh), h3⟩
 ·exact .inr ⟨fun x hx => by rw [e x hx]; exact h1 x hx, h2⟩
/-- The redundant ones lead nothing: seen from those of few bits on. -/
theorem less_below {l : List Wy} (h : Wok l) (a : Int) (n : Nat) : leadF (belowW (lessF l) n) a = leadF (belowW l n) a := by
 induction n with
 | zero =>
  have e : ∀ m : List Wy, Wok m → belowW m ((0 : Nat) : Int) = [] := by
   intro m hm
   rw [List.eq_nil_iff_forall_not_mem]
   intro x hx
   have := hm.bits x (mem_below.1 hx).1
   have := (mem_below.1 hx).2
   omega
  rw [e l h, e _ (h.sub (less_sub l))]
 | succ n ih =>
  have hl' := h.sub (less_sub l)
  have hk := h.sub (below_sub l ((n + 1 : Nat) : Int))
  have hk' := hl'.sub (below_sub (lessF l) ((n + 1 : Nat) : Int))
  have hj := h.sub (below_sub l (n : Int))
  have hj' := hl'.sub (below_sub (lessF l) (n : Int))
  by_cases c : ∃ w ∈ l, w.f0.f1 = (n : Int) ∧ hasB w.f0.f0 w.f0.f1 a = true
  ·obtain ⟨w, hw, h1, h2⟩ := c
   have wb := (wayB_iff.1 (h.1 w hw)).1
   have e1 : leadF (belowW l ((n + 1 : Nat) : Int)) a = w.f1 := by
    refine lead_eq hk (.inl ⟨w, mem_below.2 ⟨hw, by omega⟩, h2, fun x hx _ => ?_, rfl⟩)
    have := (mem_below.1 hx).2
    omega
   rw [e1]
   by_cases d : aboveF l w = w.f1
   ·have e2 : leadF (belowW (lessF l) ((n + 1 : Nat) : Int)) a = leadF (belowW (lessF l) (n : Int)) a := by
     refine lead_congr hk' hj' fun x hx => ?_
     rw [mem_below, mem_below]
     constructor
     ·rintro ⟨q1, q2⟩
      refine ⟨q1, ?_⟩
      by_cases q : x.f0.f1 = (n : Int)
      ·have q3 := (mem_less.1 q1)
       have xb := (wayB_iff.1 (h.1 x q3.1)).1
       have : x = w := by
        refine h.uniq q3.1 hw (bk_ext ?_ (by omega))
        have eb : x.f0.f1 = w.f0.f1 := by omega
        rw [eb] at xb hx
        exact has_uniq xb wb hx h2
       exact absurd (this ▸ d) q3.2
      ·omega
     ·rintro ⟨q1, q2⟩
      exact ⟨q1, by omega⟩
    rw [e2, ih, ← d]
    unfold aboveF
    rw [← below_lead h wb h2, h1]
   ·refine lead_eq hk' (.inl ⟨w, mem_below.2 ⟨mem_less.2 ⟨hw, d⟩, by omega⟩, h2, fun x hx _ => ?_, rfl⟩)
    have := (mem_below.1 hx).2
    omega
  ·have e : ∀ m : List Wy, (∀ x ∈ m, x ∈ l) → Wok m → leadF (belowW m ((n + 1 : Nat) : Int)) a = leadF (belowW m (n : Int)) a := by
    intro m hs hm
    refine lead_congr (hm.sub (below_sub _ _)) (hm.sub (below_sub _ _)) fun x hx => ?_
    rw [mem_below, mem_below]
    constructor
    ·rintro ⟨q1, q2⟩
     refine ⟨q1, ?_⟩
     by_cases q : x.f0.f1 = (n : Int)
     ·exact absurd ⟨x, hs x q1, q, hx⟩ c
     ·omega
    ·rintro ⟨q1, q2⟩
     exact ⟨q1, by omega⟩
   rw [e l (fun x hx => hx) h, e _ (fun x hx => (less_sub l).subset hx) hl', ih]
theorem below_all {l : List Wy} (h : Wok l) : belowW l ((33 : Nat) : Int) = l := by
 unfold belowW
 rw [List.filter_eq_self]
 intro x hx
 have := (wayB_iff.1 (h.1 x hx)).1.2.2.2.1
 simp only [decide_eq_true_eq]
 omega
/-- Routes without the redundant ones lead all as they did. -/
theorem less_lead {l : List Wy} (h : Wok l) (a : Int) : leadF (lessF l) a = leadF l a := by
 have := less_below h a 33
 rwa [below_all h, below_all (h.sub (less_sub l))] at this
theorem less_above {l : List Wy} (h : Wok l) {w : Wy} (hw : w ∈ l) : aboveF (lessF l) w = aboveF l w := by
 unfold aboveF
 have hb := (wayB_iff.1 (h.1 w hw)).1
 have h0 := hb.2.2.1
 have e : w.f0.f1 = ((w.f0.f1.toNat : Nat) : Int) := by omega
 rw [e]
 exact less_below h _ _
/-- There are no redundant ones among those left. -/
theorem less_less {l : List Wy} (h : Wok l) : lessF (lessF l) = lessF l := by
 show (lessF l).filter (fun w => decide (aboveF (lessF l) w ≠ w.f1)) = lessF l
 rw [List.filter_eq_self]
 intro w hw
 have h1 := mem_less.1 hw
 rw [decide_eq_true_eq]
 rw [less_above h h1.1]
 exact h1.2
def wayE (w : Wy) : List Int := edgeB w.f0.f0 w.f0.f1
theorem numsF_len (ns : List Int) : ∀ l : List Int, (numsF l ns).length ≤ l.length + ns.length := by
 induction ns with
 | nil => intro l; exact Nat.le_refl _
 | cons n ns ih =>
  intro l
  have h := ih (numF l n)
  have h2 := numF_len l n
  show (numsF (numF l n) ns).length ≤ _
  simp only [List.length_cons]
  omega
theorem wayE_len : ∀ l : List Wy, (l.flatMap wayE).length ≤ 2 * l.length
 | [] => Nat.le_refl _
 | w :: l => by
  rw [List.flatMap_cons, List.length_append, List.length_cons]
  have := wayE_len l
  have h2 : (wayE w).length ≤ 2 := edgeB_len _ _
  omega
/-- The blocks of routes. -/
def blksF (l : List Wy) : List Bk := l.map fun w => w.f0
theorem edges_ways (l : List Wy) : edgesF (blksF l) = numsF [0] (l.flatMap wayE) := by
 unfold edgesF blksF
 rw [List.flatMap_map]
 rfl
theorem blks_ok {l : List Wy} (hv : ∀ w ∈ l, bok w.f0.f0 w.f0.f1) : ∀ b ∈ blksF l, bok b.f0 b.f1 := by
 intro b hb
 obtain ⟨w, hw, rfl⟩ := List.mem_map.1 hb
 exact hv w hw
theorem rd_ways (l : List (List Wy)) (n : Nat) (h : n < l.length) : rd_L7 l (n : Int) = l[n] := by
 unfold rd_L7
 rw [List.getD_eq_getElem?_getD, Int.toNat_natCast, List.getElem?_eq_getElem h]
 rfl
theorem blocksOf_l1 (ls : List (List Wy)) (N i : Int) (w : List Wy) (hw0 : w.length ≤ 100000000) (R : List Bk) (d : Nat) : ∀ (n : Nat) (acc : List Bk), n + d = w.length → acc.length + d ≤ 300000000 →
  (∃ K_, ∀ k, K_ ≤ k → impl_blocksOf.l0 k (acc ++ (w.drop n).map (fun w => w.f0)) ls N (wrap64 (i + 1)) = some R) → (∃ K_, ∀ k, K_ ≤ k → impl_blocksOf.l1 k acc ls N i w (w.length : Int) (n : Int) = some R) := by
 induction d with
 | zero =>
  intro n acc hn ha h
  refine ev1 ?_
  simp only [impl_blocksOf.l1]
  rw [List.drop_eq_nil_of_le (by omega), List.map_nil, List.append_nil] at h
  exact evN (by omega) h
 | succ d ih =>
  intro n acc hn ha h
  have hlt : n < w.length := by omega
  have hw : wrap64 ((n : Int) + 1) = ((n + 1 : Nat) : Int) := by rw [w64 (by omega)]; omega
  refine ev1 ?_
  simp only [impl_blocksOf.l1]
  rw [rd_way w n hlt, hw]
  refine evP (by omega) (evP (by omega) (evP (by omega) (evP (by omega) (ih (n + 1) _ (by omega) (by simp; omega) ?_))))
  rw [List.drop_eq_getElem_cons hlt, List.map_cons] at h
  rw [List.append_assoc]
  exact h
theorem blocksOf_two (a b : List Wy) (ha : a.length ≤ 100000000) (hb : b.length ≤ 100000000) : (∃ K_, ∀ k, K_ ≤ k → impl_blocksOf.f k [a, b] = some (blksF (a ++ b))) := by
 have ea := rd_ways [a, b] 0 (by simp)
 have eb := rd_ways [a, b] 1 (by simp)
 have w1 : wrap64 ((0 : Int) + 1) = 1 := w64 (n := 0 + 1) (by omega)
 have w2 : wrap64 ((1 : Int) + 1) = 2 := w64 (n := 1 + 1) (by omega)
 simp only [impl_blocksOf.f]
 refine ev1 ?_
 simp only [impl_blocksOf.l0]
 refine evP (by simp) (evP (by omega) (evP (by simp) ?_))
 rw [show rd_L7 [a, b] 0 = a from ea]
 refine blocksOf_l1 [a, b] 2 0 a ha _ a.length 0 [] (by omega) (by simp; omega) ?_
 rw [w1]
 refine ev1 ?_
 simp only [impl_blocksOf.l0]
 refine evP (by omega) (evP (by omega) (evP (by simp) ?_))
 rw [show rd_L7 [a, b] 1 = b from eb]
 refine blocksOf_l1 [a, b] 2 1 b hb _ b.length 0 _ (by omega) (by simp; omega) ?_
 rw [w2]
 refine ev1 ?_
 simp only [impl_blocksOf.l0]
 refine evN (by omega) (evR ?_)
 simp [blksF]
/-- The first number of some at which two tables lead elsewhere. -/
def diffL (a b : List Wy) : List Int → Int × Bool
 | [] => (0, false)
 | e :: es => if leadF a e = leadF b e then diffL a b es else (e, true)
theorem impl_differ_loop (a b : List Wy) (hva : ∀ w ∈ a, bok w.f0.f0 w.f0.f1) (hvb : ∀ w ∈ b, bok w.f0.f0 w.f0.f1) (hla : a.length ≤ 100000000) (hlb : b.length ≤ 100000000) (es : List Int) (hl : es.length ≤ 1000000000) (d : Nat) :
  ∀ n : Nat, n + d = es.length → (∃ K_, ∀ k, K_ ≤ k → impl_WaysDiffer.l0 k a b es (es.length : Int) (n : Int) = some (diffL a b (es.drop n))) := by
 induction d with
 | zero =>
  intro n hn
  refine ev1 ?_
  simp only [impl_WaysDiffer.l0]
  rw [List.drop_eq_nil_of_le (by omega)]
  exact evN (by omega) (evR rfl)
 | succ d ih =>
  intro n hn
  have hlt : n < es.length := by omega
  have hw : wrap64 ((n : Int) + 1) = ((n + 1 : Nat) : Int) := by rw [w64 (by omega)]; omega
  refine ev1 ?_
  simp only [impl_WaysDiffer.l0]
  rw [rd_num es n hlt, hw, List.drop_eq_getElem_cons hlt]
  refine evP (by omega) (evP (by omega) (evP (by omega) (evB (impl_lead a _ hva (by omega)) (evB (impl_lead b _ hvb (by omega)) (evI (fun c => ?_) (fun c => ?_))))))
  ·simp only [diffL, if_pos c]; exact ih (n + 1) (by omega)
  ·refine evR ?_; simp only [diffL, if_neg c]
/-- What WaysDiffer answers. -/
def differF (a b : List Wy) : Int × Bool := if wokB a = true ∧ wokB b = true then diffL a b (edgesF (blksF (a ++ b))) else (0, false)
theorem edges_len (l : List Wy) : (edgesF (blksF l)).length ≤ 2 * l.length + 1 := by
 rw [edges_ways]
 have h1 := numsF_len (l.flatMap wayE) [0]
 have h2 := wayE_len l
 simp only [List.length_singleton] at h1
 omega
theorem impl_differ (a b : List Wy) (hla : a.length ≤ 100000000) (hlb : b.length ≤ 100000000) : (∃ K_, ∀ k, K_ ≤ k → impl_WaysDiffer.f k a b = some (differF a b)) := by
 simp only [impl_WaysDiffer.f]
 refine evB (impl_waysOk a (by omega)) (evI (fun c => evB (impl_waysOk b (by omega)) (ev1 ?_)) (fun c => ev1 ?_))
 ·simp only [impl_WaysDiffer.j0]
  refine evI (fun c2 => ?_) (fun c2 => ?_)
  ·have c3 : wokB b = false := by simpa using c2
   refine evR ?_
   unfold differF
   rw [if_neg (by rw [c3]; simp)]
  ·have c3 : wokB b = true := by simpa using c2
   have hva := fun w hw => (wokB_valid c w hw).1
   have hvb := fun w hw => (wokB_valid c3 w hw).1
   have hv : ∀ w ∈ a ++ b, bok w.f0.f0 w.f0.f1 := fun w hw => (List.mem_append.1 hw).elim (hva w) (hvb w)
   have h40 := wokB_len c
   have h41 := wokB_len c3
   have hel := edges_len (a ++ b)
   rw [List.length_append] at hel
   unfold differF
   rw [if_pos ⟨c, c3⟩]
   exact evB (blocksOf_two a b hla hlb) (evB (impl_bounds _ (blks_ok hv) (by simp [blksF]; omega)) (impl_differ_loop a b hva hvb hla hlb (edgesF (blksF (a ++ b))) (by omega) (edgesF (blksF (a ++ b))).length 0 (by omega)))
 ·simp only [impl_WaysDiffer.j0, if_true]
  refine evR ?_
  unfold differF
  rw [if_neg (by simp [c])]
theorem leadGo_same {x e : Int} : ∀ (l : List Wy), (∀ w ∈ l, hasB w.f0.f0 w.f0.f1 e = hasB w.f0.f0 w.f0.f1 x) → ∀ p q : Int, leadGo e l p q = leadGo x l p q
 | [], _, _, _ => rfl
 | w :: l, h, p, q => by
  have ih := leadGo_same l (fun z hz => h z (List.mem_cons_of_mem _ hz))
  simp only [leadGo, h w (List.mem_cons_self ..)]
  split
  ·exact ih _ _
  ·exact ih _ _
/-- Routes lead a number where they lead the last edge at or ahead of it. -/
theorem lead_same {l : List Wy} {x e : Int} (h : ∀ w ∈ l, hasB w.f0.f0 w.f0.f1 e = hasB w.f0.f0 w.f0.f1 x) : leadF l e = leadF l x := leadGo_same l h _ _
theorem lead_edge (a b : List Wy) {x : Int} (h0 : 0 ≤ x) (h1 : x ≤ 4294967295) : ∃ e ∈ edgesF (blksF (a ++ b)), e ≤ x ∧ leadF a e = leadF a x ∧ leadF b e = leadF b x := by
 obtain ⟨e, he, p, q⟩ := edges_of (bs := blksF (a ++ b)) h0 h1
 refine ⟨e, he, p, lead_same (fun w hw => q w.f0 ?_), lead_same (fun w hw => q w.f0 ?_)⟩
 ·exact List.mem_map.2 ⟨w, List.mem_append_left _ hw, rfl⟩
 ·exact List.mem_map.2 ⟨w, List.mem_append_right _ hw, rfl⟩
theorem diffL_none {a b : List Wy} : ∀ {es : List Int}, (diffL a b es).2 = false → diffL a b es = (0, false) ∧ ∀ e ∈ es, leadF a e = leadF b e
 | [], _ => ⟨rfl, fun e he => by cases he⟩
 | x :: es, h => by
  unfold diffL at h ⊢
  split at h
  ·rename_i c
   obtain ⟨h1, h2⟩ := diffL_none h
   rw [if_pos c]
   refine ⟨h1, fun e he => ?_⟩
   rcases List.mem_cons.1 he with rfl | he
   ·exact c
   ·exact h2 e he
  ·cases h
theorem diffL_some {a b : List Wy} : ∀ {es : List Int}, Rise es → (diffL a b es).2 = true → (diffL a b es).1 ∈ es ∧ leadF a (diffL a b es).1 ≠ leadF b (diffL a b es).1 ∧ ∀ e ∈ es, e < (diffL a b es).1 → leadF a e = leadF b e
 | [], _, h => by cases h
 | x :: es, hr, h => by
  obtain ⟨p, q⟩ := List.pairwise_cons.1 hr
  unfold diffL at h ⊢
  split at h
  ·rename_i c
   obtain ⟨h1, h2, h3⟩ := diffL_some q h
   rw [if_pos c]
   refine ⟨List.mem_cons_of_mem _ h1, h2, fun e he hlt => ?_⟩
   rcases List.mem_cons.1 he with rfl | he
   ·exact c
   ·exact h3 e he hlt
  ·rename_i c
   rw [if_neg c]
   refine ⟨List.mem_cons_self .., c, fun e he hlt => ?_⟩
   rcases List.mem_cons.1 he with rfl | he
   ·exact absurd hlt (Int.lt_irrefl _)
   ·have := p e he; simp only [] at hlt; omega
theorem differ_none {a b : List Wy} (ha : wokB a = true) (hb : wokB b = true) (h : (differF a b).2 = false) {x : Int} (h0 : 0 ≤ x) (h1 : x ≤ 4294967295) : leadF a x = leadF b x := by
 unfold differF at h
 rw [if_pos ⟨ha, hb⟩] at h
 obtain ⟨e, he, _, e1, e2⟩ := lead_edge a b h0 h1
 rw [← e1, ← e2]
 exact (diffL_none h).2 e he
theorem differ_some {a b : List Wy} (h : (differF a b).2 = true) : wokB a = true ∧ wokB b = true ∧ 0 ≤ (differF a b).1 ∧ (differF a b).1 ≤ 4294967295 ∧ leadF a (differF a b).1 ≠ leadF b (differF a b).1 ∧ ∀ x, 0 ≤ x → x < (differF a b).1 → leadF a x = leadF b x := by
 unfold differF at h ⊢
 split at h
 ·rename_i c
  rw [if_pos c]
  obtain ⟨h1, h2, h3⟩ := diffL_some (rise_edgesF _) h
  have hv : ∀ w ∈ a ++ b, bok w.f0.f0 w.f0.f1 := fun w hw => (List.mem_append.1 hw).elim (fun q => (wokB_valid c.1 w q).1) (fun q => (wokB_valid c.2 w q).1)
  have hi := edges_in (blks_ok hv) h1
  refine ⟨c.1, c.2, hi.1, hi.2, h2, fun x x0 x1 => ?_⟩
  obtain ⟨e, he, p, e1, e2⟩ := lead_edge a b x0 (by omega)
  rw [← e1, ← e2]
  exact h3 e he (by omega)
 ·cases h
/-- None is told just if all addresses are led alike. -/
theorem differ_iff {a b : List Wy} (ha : wokB a = true) (hb : wokB b = true) : (differF a b).2 = false ↔ ∀ x, 0 ≤ x → x ≤ 4294967295 → leadF a x = leadF b x := by
 constructor
 ·exact fun h x h0 h1 => differ_none ha hb h h0 h1
 ·intro h
  rw [Bool.eq_false_iff]
  intro c
  obtain ⟨_, _, p, q, r, _⟩ := differ_some c
  exact r (h _ p q)
/-- Are the lists the same? They are where they are told to be. -/
theorem ovWays_loop (l : List Wy) (hl : l.length ≤ 1099511627776) (d : Nat) : ∀ n : Nat, n + d = l.length → (∃ K_, ∀ k, K_ ≤ k → laws_ovWays.l0 k l l (n : Int) = some true) := by
 induction d with
 | zero =>
  intro n hn
  refine ev1 ?_
  simp only [laws_ovWays.l0]
  exact evN (by omega) (evR rfl)
 | succ d ih =>
  intro n hn
  have hlt : n < l.length := by omega
  have hw : wrap64 ((n : Int) + 1) = ((n + 1 : Nat) : Int) := by rw [w64 (by omega)]; omega
  refine ev1 ?_
  simp only [laws_ovWays.l0, hw]
  refine evP (by omega) (evP (by omega) (evP (by omega) (evN (by simp) (ih (n + 1) (by omega)))))
theorem ovWays_self (l : List Wy) (hl : l.length ≤ 1099511627776) : (∃ K_, ∀ k, K_ ≤ k → laws_ovWays.f k l l = some true) := by
 simp only [laws_ovWays.f]
 exact evP trivial (ovWays_loop l hl l.length 0 (by omega))
def widerB (w x : Wy) : Bool := decide (x.f0.f1 < w.f0.f1) && hasB x.f0.f0 x.f0.f1 w.f0.f0
theorem in_wider {x w : Wy} (hx : bok x.f0.f0 x.f0.f1) (hw : bok w.f0.f0 w.f0.f1) (h : x.f0.f1 < w.f0.f1) : inB x.f0.f0 x.f0.f1 w.f0.f0 w.f0.f1 = hasB x.f0.f0 x.f0.f1 w.f0.f0 := by
 unfold inB
 rw [bokB_true.2 hx, bokB_true.2 hw, decide_eq_true (by omega)]
 simp
theorem leadGo_filter (a : Int) (p : Wy → Bool) (l : List Wy) : ∀ h b : Int, leadGo a (l.filter (fun x => p x && hasB x.f0.f0 x.f0.f1 a)) h b = leadGo a (l.filter p) h b := by
 induction l with
 | nil => intro h b; rfl
 | cons x l ih =>
  intro h b
  simp only [List.filter_cons]
  cases hp : p x <;> cases hx : hasB x.f0.f0 x.f0.f1 a <;> simp [leadGo, hx, ih]
theorem wider_lead (l : List Wy) (w : Wy) : leadF (l.filter (widerB w)) w.f0.f0 = aboveF l w := leadGo_filter w.f0.f0 (fun x => decide (x.f0.f1 < w.f0.f1)) l (-1) (-1)
/-- The inner loop of WaysLess: the routes about one, then the next one. -/
theorem less_l1 (l out : List Wy) (hv : ∀ w ∈ l, bok w.f0.f0 w.f0.f1) (hl : l.length ≤ 1099511627776) (w : Wy) (hw : bok w.f0.f0 w.f0.f1) (i : Int) (R : List Wy) (ho : out.length ≤ 1099511627776) (d : Nat) : ∀ (n : Nat) (acc : List Wy), n + d = l.length → acc.length ≤ n → (∀ x ∈ acc, bok x.f0.f0 x.f0.f1) →
  (∃ K_, ∀ k, K_ ≤ k → impl_WaysLess.l0 k l (if leadF (acc ++ (l.drop n).filter (widerB w)) w.f0.f0 = w.f1 then out else out ++ [w]) l (l.length : Int) (wrap64 (i + 1)) = some R) →
  (∃ K_, ∀ k, K_ ≤ k → impl_WaysLess.l1 k l out acc l (l.length : Int) i l (l.length : Int) (n : Int) w.f0.f0 w.f0.f1 w.f1 = some R) := by
 induction d with
 | zero =>
  intro n acc hn ha hva h
  refine ev1 ?_
  simp only [impl_WaysLess.l1]
  refine evN (by omega) (evB (impl_lead acc w.f0.f0 hva (by omega)) ?_)
  rw [List.drop_eq_nil_of_le (by omega), List.filter_nil, List.append_nil] at h
  by_cases c : leadF acc w.f0.f0 = w.f1
  ·rw [if_pos c] at h
   exact evP c h
  ·rw [if_neg c] at h
   exact evN c (evP (by omega) h)
 | succ d ih =>
  intro n acc hn ha hva h
  have hlt : n < l.length := by omega
  have hw1 : wrap64 ((n : Int) + 1) = ((n + 1 : Nat) : Int) := by rw [w64 (by omega)]; omega
  have hx := hv l[n] (List.getElem_mem hlt)
  rw [drop_cons hlt, List.filter_cons] at h
  refine ev1 ?_
  simp only [impl_WaysLess.l1, rd_way l n hlt, hw1]
  refine evP (by omega) (evP (by omega) (evP (by omega) (evI (fun c => ?_) (fun c => ?_))))
  ·refine evS (impl_blockIn _ _ _ _) ?_
   rw [in_wider hx hw c]
   cases q : hasB l[n].f0.f0 l[n].f0.f1 w.f0.f0 with
   | true =>
    have e : widerB w l[n] = true := by simp [widerB, c, q]
    simp only [e, if_true] at h
    refine evP rfl (evP (by omega) (ih (n + 1) _ (by omega) (by simp; omega) (fun x hx' => ?_) ?_))
    ·rcases List.mem_append.1 hx' with hx' | hx'
     ·exact hva x hx'
     ·rw [List.mem_singleton.1 hx']
      exact hx
    ·rw [List.append_assoc]
     exact h
   | false =>
    have e : widerB w l[n] = false := by simp [widerB, q]
    simp only [e, Bool.false_eq_true, if_false] at h
    exact evN (by simp) (ih (n + 1) acc (by omega) (by omega) hva h)
  ·have e : widerB w l[n] = false := by simp [widerB, c]
   simp only [e, Bool.false_eq_true, if_false] at h
   exact ih (n + 1) acc (by omega) (by omega) hva h
theorem less_l0 (l : List Wy) (hv : ∀ w ∈ l, bok w.f0.f0 w.f0.f1) (hl : l.length ≤ 1099511627776) (d : Nat) : ∀ (n : Nat) (out : List Wy), n + d = l.length → out.length ≤ n → (∃ K_, ∀ k, K_ ≤ k → impl_WaysLess.l0 k l out l (l.length : Int) (n : Int) = some (out ++ (l.drop n).filter (fun w => decide (aboveF l w ≠ w.f1)))) := by
 induction d with
 | zero =>
  intro n out hn ho
  refine ev1 ?_
  simp only [impl_WaysLess.l0]
  rw [List.drop_eq_nil_of_le (by omega), List.filter_nil, List.append_nil]
  exact evN (by omega) (evR rfl)
 | succ d ih =>
  intro n out hn ho
  have hlt : n < l.length := by omega
  have hw1 : wrap64 ((n : Int) + 1) = ((n + 1 : Nat) : Int) := by rw [w64 (by omega)]; omega
  refine ev1 ?_
  simp only [impl_WaysLess.l0, rd_way l n hlt]
  refine evP (by omega) (evP (by omega) (evP (by omega) (less_l1 l out hv hl l[n] (hv _ (List.getElem_mem hlt)) n _ (by omega) l.length 0 [] (by omega) (by simp) (by simp) ?_)))
  rw [List.drop_zero, List.nil_append, wider_lead, hw1, drop_cons hlt, List.filter_cons]
  by_cases c : aboveF l l[n] = l[n].f1
  ·rw [if_pos c, if_neg (by simp [c])]
   exact ih (n + 1) out (by omega) (by omega)
  ·rw [if_neg c, if_pos (by simp [c])]
   have := ih (n + 1) (out ++ [l[n]]) (by omega) (by simp; omega)
   rwa [List.append_assoc] at this
/-- What WaysLess answers. -/
def waysLessF (l : List Wy) : List Wy := if wokB l = true then lessF l else []
theorem impl_waysLess (l : List Wy) (hl : l.length ≤ 1099511627776) : (∃ K_, ∀ k, K_ ≤ k → impl_WaysLess.f k l = some (waysLessF l)) := by
 simp only [impl_WaysLess.f]
 refine evB (impl_waysOk l hl) ?_
 unfold waysLessF
 cases h : wokB l with
 | false => exact evN (by simp) (evR rfl)
 | true => exact evP rfl (less_l0 l (fun w hw => (wokB_valid h w hw).1) hl l.length 0 [] (by omega) (by simp))
theorem below_pos {x : Wy} {l : List Wy} {n : Int} (c : x.f0.f1 < n) : belowW (x :: l) n = x :: belowW l n := by simp [belowW, List.filter_cons, c]
theorem below_neg {x : Wy} {l : List Wy} {n : Int} (c : ¬ x.f0.f1 < n) : belowW (x :: l) n = belowW l n := by
 unfold belowW
 rw [List.filter_cons, if_neg (by simp only [decide_eq_true_eq]; exact c)]
theorem ahead_pos {x : Wy} {l : List Wy} {b : Bk} (c : ltB x.f0 b = true) : aheadW (x :: l) b = x :: aheadW l b := by simp [aheadW, c]
theorem ahead_neg {x : Wy} {l : List Wy} {b : Bk} (c : ltB x.f0 b = false) : aheadW (x :: l) b = [] := by simp [aheadW, c]
theorem there_pos {x : Wy} {l : List Wy} {b : Bk} (c : ltB x.f0 b = true) : thereB (x :: l) b = thereB l b := by simp [thereB, restW, c]
theorem there_neg {x : Wy} {l : List Wy} {b : Bk} (c : ltB x.f0 b = false) : thereB (x :: l) b = eqB x.f0 b := by simp [thereB, restW, c]
theorem spec_above_loop (l : List Wy) (w : Wy) (hv : ∀ w ∈ l, bok w.f0.f0 w.f0.f1) (hl : l.length ≤ 1099511627776) (d : Nat) : ∀ (n : Nat) (h b : Int), n + d = l.length → (∃ K_, ∀ k, K_ ≤ k → spec_l3Above.l0 k l h b (n : Int) w.f0.f0 w.f0.f1 = some (leadGo w.f0.f0 (belowW (l.drop n) w.f0.f1) h b)) := by
 induction d with
 | zero =>
  intro n h b hn
  refine ev1 ?_
  simp only [spec_l3Above.l0]
  rw [List.drop_eq_nil_of_le (by omega)]
  exact evN (by omega) (evR rfl)
 | succ d ih =>
  intro n h b hn
  have hlt : n < l.length := by omega
  have hw1 : wrap64 ((n : Int) + 1) = ((n + 1 : Nat) : Int) := by rw [w64 (by omega)]; omega
  have hb := hv l[n] (List.getElem_mem hlt)
  refine ev1 ?_
  simp only [spec_l3Above.l0, rd_way l n hlt, hw1]
  rw [drop_cons hlt]
  refine evP (by omega) (evP (by omega) (evI (fun c => ?_) (fun c => ?_)))
  ·rw [below_pos c]
   simp only [leadGo]
   refine evB (spec_within (b := l[n].f0.f0) (m := l[n].f0.f1) (c := w.f0.f0) (n := w.f0.f1) hb.1 (by have := hb.2.1; omega) hb.2.2.1 hb.2.2.2.1) ?_
   rw [decide_eq_true (show l[n].f0.f1 ≤ w.f0.f1 by omega), Bool.true_and]
   by_cases q : hasB l[n].f0.f0 l[n].f0.f1 w.f0.f0 = true
   ·refine evP q (evI (fun g => ?_) (fun g => ?_))
    ·rw [if_pos ⟨q, g⟩]
     exact ih (n + 1) _ _ (by omega)
    ·rw [if_neg (fun x => g x.2)]
     exact ih (n + 1) _ _ (by omega)
   ·rw [if_neg (fun x => q x.1)]
    exact evN q (ih (n + 1) _ _ (by omega))
  ·rw [below_neg c]
   exact ih (n + 1) _ _ (by omega)
theorem spec_above (l : List Wy) (w : Wy) (hv : ∀ w ∈ l, bok w.f0.f0 w.f0.f1) (hl : l.length ≤ 1099511627776) : (∃ K_, ∀ k, K_ ≤ k → spec_l3Above.f k l w.f0.f0 w.f0.f1 = some (aboveF l w)) := spec_above_loop l w hv hl l.length 0 (-1) (-1) (by omega)
theorem spec_less_loop (l : List Wy) (hv : ∀ w ∈ l, bok w.f0.f0 w.f0.f1) (hl : l.length ≤ 1099511627776) (d : Nat) : ∀ (n : Nat) (out : List Wy), n + d = l.length → out.length ≤ n → (∃ K_, ∀ k, K_ ≤ k → spec_WaysLess.l0 k l out (n : Int) = some (out ++ (l.drop n).filter (fun w => decide (aboveF l w ≠ w.f1)))) := by
 induction d with
 | zero =>
  intro n out hn ho
  refine ev1 ?_
  simp only [spec_WaysLess.l0]
  rw [List.drop_eq_nil_of_le (by omega), List.filter_nil, List.append_nil]
  exact evN (by omega) (evR rfl)
 | succ d ih =>
  intro n out hn ho
  have hlt : n < l.length := by omega
  have hw1 : wrap64 ((n : Int) + 1) = ((n + 1 : Nat) : Int) := by rw [w64 (by omega)]; omega
  refine ev1 ?_
  simp only [spec_WaysLess.l0, rd_way l n hlt, hw1]
  refine evP (by omega) (evP (by omega) (evB (spec_above l l[n] hv hl) ?_))
  rw [drop_cons hlt, List.filter_cons]
  by_cases c : aboveF l l[n] = l[n].f1
  ·rw [if_neg (by simp [c])]
   exact evP c (ih (n + 1) out (by omega) (by omega))
  ·rw [if_pos (by simp [c])]
   have := ih (n + 1) (out ++ [l[n]]) (by omega) (by simp; omega)
   rw [List.append_assoc] at this
   exact evN c (evP (by omega) this)
theorem spec_waysLess (l : List Wy) (hl : l.length ≤ 1099511627776) : (∃ K_, ∀ k, K_ ≤ k → spec_WaysLess.f k l = some (waysLessF l)) := by
 simp only [spec_WaysLess.f, Option.bind_some]
 refine evB (spec_waysOk l hl) ?_
 unfold waysLessF
 cases h : wokB l with
 | false => exact evN (by simp) (evR rfl)
 | true => exact evP rfl (spec_less_loop l (fun w hw => (wokB_valid h w hw).1) hl l.length 0 [] (by omega) (by simp))
theorem waysLess_len (l : List Wy) : (waysLessF l).length ≤ l.length := by
 unfold waysLessF
 split
 ·exact (less_sub l).length_le
 ·simp
/-- How two blocks that are not far away stand to each other. -/
def near (a : Bk) : Prop := -1099511627776 ≤ a.f0 ∧ a.f0 ≤ 1099511627776 ∧ -1099511627776 ≤ a.f1 ∧ a.f1 ≤ 1099511627776
theorem cmp_near {a b : Bk} (ha : near a) (hb : near b) : ∃ v, spec_l3Cmp.f a.f0 a.f1 b.f0 b.f1 = some v ∧ (v < 0 ↔ ltB a b = true) := by
 obtain ⟨a0, a1, a2, a3⟩ := ha
 obtain ⟨b0, b1, b2, b3⟩ := hb
 have e' : ltB a b = true ↔ (a.f0 < b.f0 ∨ a.f0 = b.f0 ∧ a.f1 < b.f1) := by simp only [ltB, decide_eq_true_eq]
 unfold spec_l3Cmp.f
 rw [e']
 by_cases c : a.f0 = b.f0
 ·rw [if_pos c, w64 (by omega)]
  exact ⟨_, rfl, by omega⟩
 ·rw [if_neg c, w64 (by omega)]
  exact ⟨_, rfl, by omega⟩
theorem bok.near {a : Bk} (h : bok a.f0 a.f1) : near a := by
 obtain ⟨h1, h2, h3, h4, _⟩ := h
 exact ⟨by omega, by omega, by omega, by omega⟩
theorem spec_at_loop (l : List Wy) (b : Bk) (hb : near b) (hv : ∀ w ∈ l, bok w.f0.f0 w.f0.f1) (hl : l.length ≤ 1099511627776) (d : Nat) : ∀ n : Nat, n + d = l.length → (∃ K_, ∀ k, K_ ≤ k → spec_l3At.l0 k l (n : Int) b.f0 b.f1 = some ((n : Int) + (aheadW (l.drop n) b).length, thereB (l.drop n) b)) := by
 induction d with
 | zero =>
  intro n hn
  refine ev1 ?_
  simp only [spec_l3At.l0]
  rw [List.drop_eq_nil_of_le (by omega)]
  exact evN (by omega) (evR (by simp [aheadW, thereB, restW]))
 | succ d ih =>
  intro n hn
  have hlt : n < l.length := by omega
  have hw1 : wrap64 ((n : Int) + 1) = ((n + 1 : Nat) : Int) := by rw [w64 (by omega)]; omega
  obtain ⟨v, e, hv1⟩ := cmp_near (hv l[n] (List.getElem_mem hlt)).near hb
  refine ev1 ?_
  simp only [spec_l3At.l0, rd_way l n hlt, hw1]
  rw [drop_cons hlt]
  refine evP (by omega) (evP (by omega) (evS e (evI (fun c => ?_) (fun c => ?_))))
  ·have q := hv1.1 c
   rw [ahead_pos q, there_pos q]
   have := ih (n + 1) (by omega)
   have e3 : ((n + 1 : Nat) : Int) + ((aheadW (l.drop (n + 1)) b).length : Int) = (n : Int) + (((l[n] :: aheadW (l.drop (n + 1)) b).length : Nat) : Int) := by rw [List.length_cons]; omega
   rwa [e3] at this
  ·have q : ltB l[n].f0 b = false := by
    rw [Bool.eq_false_iff]
    exact fun h => c (hv1.2 h)
   rw [ahead_neg q, there_neg q]
   refine evR ?_
   simp only [List.length_nil, Prod.mk.injEq]
   refine ⟨by omega, ?_⟩
   unfold eqB
   by_cases c1 : l[n].f0.f0 = b.f0 <;> by_cases c2 : l[n].f0.f1 = b.f1 <;> simp [c1, c2]
theorem spec_at (l : List Wy) (b : Bk) (hb : near b) (hv : ∀ w ∈ l, bok w.f0.f0 w.f0.f1) (hl : l.length ≤ 1099511627776) : (∃ K_, ∀ k, K_ ≤ k → spec_l3At.f k l b.f0 b.f1 = some (((aheadW l b).length : Int), thereB l b)) := by
 have := spec_at_loop l b hb hv hl l.length 0 (by omega)
 simp only [List.drop_zero] at this
 have e : (((0 : Nat) : Int) + ((aheadW l b).length : Int)) = ((aheadW l b).length : Int) := by omega
 rw [e] at this
 exact this
/-- What WaysPut answers. -/
def putF (l : List Wy) (w : Wy) : List Wy × Bool := if wokB l = true then (if wayB w = true ∧ (thereB l w.f0 = true ∨ l.length < 40) then (setF l w, true) else (l, false)) else ([], false)
theorem take_ahead (l : List Wy) (b : Bk) : l.take (aheadW l b).length = aheadW l b := by
 conv => lhs; arg 2; rw [← ahead_rest l b]
 simp
theorem drop_ahead (l : List Wy) (b : Bk) : l.drop (aheadW l b).length = restW l b := by
 conv => lhs; arg 2; rw [← ahead_rest l b]
 simp
theorem ahead_len {l : List Wy} {b : Bk} : (aheadW l b).length ≤ l.length := (List.takeWhile_sublist _).length_le
theorem ahead_lt {l : List Wy} {b : Bk} (t : thereB l b = true) : (aheadW l b).length < l.length := by
 have := congrArg List.length (ahead_rest l b)
 cases e : restW l b with
 | nil => simp [thereB, e] at t
 | cons y m =>
  rw [e] at this
  simp only [List.length_append, List.length_cons] at this
  omega
theorem set_at {l : List Wy} {b : Bk} (t : thereB l b = true) (w : Wy) : l.set (aheadW l b).length w = aheadW l b ++ w :: (restW l b).tail := by
 cases e : restW l b with
 | nil => simp [thereB, e] at t
 | cons y m =>
  conv => lhs; arg 1; rw [← ahead_rest l b, e]
  simp
theorem spec_copy (l : List Wy) (hl : l.length ≤ 1099511627776) : spec_l3Copy.f l = some l := by
 simp only [spec_l3Copy.f, Option.bind_some]
 simp
 omega
theorem putF_bad {l : List Wy} {w : Wy} (h : wokB l = false) : putF l w = ([], false) := by
 unfold putF
 rw [if_neg (by rw [h]; exact Bool.false_ne_true)]
theorem putF_no {l : List Wy} {w : Wy} (h : wokB l = true) (c : ¬ (wayB w = true ∧ (thereB l w.f0 = true ∨ l.length < 40))) : putF l w = (l, false) := by
 unfold putF
 rw [if_pos h, if_neg c]
theorem putF_yes {l : List Wy} {w : Wy} (h : wokB l = true) (c : wayB w = true ∧ (thereB l w.f0 = true ∨ l.length < 40)) : putF l w = (setF l w, true) := by
 unfold putF
 rw [if_pos h, if_pos c]
theorem spec_waysPut (l : List Wy) (w : Wy) (hw : near w.f0) (hl : l.length ≤ 1099511627776) : (∃ K_, ∀ k, K_ ≤ k → spec_WaysPut.f k l w.f0.f0 w.f0.f1 w.f1 = some (putF l w)) := by
 simp only [spec_WaysPut.f]
 refine evB (spec_waysOk l hl) ?_
 cases h : wokB l with
 | false =>
  rw [putF_bad h]
  exact evN (by simp) (evR rfl)
 | true =>
  have hk := wokB_iff.1 h
  have hs : ∀ x : Int, spec_l1In.f x 0 99 = some (hopB x) := fun x => spec_in x 0 99
  refine evP rfl (evS (spec_copy l hl) (evB (spec_ok w.f0.f0 w.f0.f1) ?_))
  have hno : (∃ K_, ∀ k, K_ ≤ k → spec_WaysPut.j0 k l l true w.f0.f0 w.f0.f1 w.f1 = some (l, false)) := by
   refine ev1 ?_
   simp only [spec_WaysPut.j0]
   exact evP trivial (evR rfl)
  cases hb : bokB w.f0.f0 w.f0.f1 with
  | false =>
   rw [putF_no h (fun c => by have := c.1; simp [wayB, hb] at this)]
   exact evN (by simp) hno
  | true =>
   refine evP rfl (evS (hs w.f1) ?_)
   cases hh : hopB w.f1 with
   | false =>
    rw [putF_no h (fun c => by have := c.1; simp [wayB, hh] at this)]
    exact hno
   | true =>
    have hw' : wayB w = true := by simp [wayB, hb, hh]
    have ha := ahead_len (l := l) (b := w.f0)
    have hm := hk.2.2
    refine ev1 ?_
    simp only [spec_WaysPut.j0]
    refine evN (by simp) (evB (spec_at l w.f0 hw (fun x hx => (wokB_valid h x hx).1) hl) ?_)
    cases t : thereB l w.f0 with
    | true =>
     rw [putF_yes h ⟨hw', .inl t⟩]
     have ha' := ahead_lt t
     refine evP rfl (evP (by simp only []; omega) (evP (by simp only []; omega) (evR ?_)))
     simp only [Int.toNat_natCast]
     rw [set_at t]
     unfold setF
     rw [if_pos t]
    | false =>
     refine evN (by simp) (evI (fun c => ?_) (fun c => ?_))
     ·rw [putF_no h (fun g => by rcases g.2 with g | g; rw [t] at g; cases g; omega)]
      exact evR rfl
     ·rw [putF_yes h ⟨hw', .inr (by omega)⟩]
      simp only [Int.toNat_natCast, Option.bind_some, take_ahead, drop_ahead, List.nil_append]
      have hr := congrArg List.length (ahead_rest l w.f0)
      rw [List.length_append] at hr
      refine evP (by omega) (evP (by omega) (evP (by simp; omega) (evP (by simp; omega) (evP (by simp; omega) (evR ?_)))))
      unfold setF
      rw [t]
      simp
theorem putF_ok {l : List Wy} {w : Wy} (h : Wok l) : Wok (putF l w).1 := by
 unfold putF
 rw [if_pos (wokB_iff.2 h)]
 split
 ·rename_i c
  exact (set_ok h).2 c
 ·exact h
theorem ahead_idx {l : List Wy} {b : Bk} (hp : l.Pairwise (fun a b => ltB a.f0 b.f0 = true)) {h : Nat} (hh : h < l.length) : ltB l[h].f0 b = decide (h < (aheadW l b).length) := by
 by_cases c : h < (aheadW l b).length
 ·have e : (aheadW l b)[h] = l[h] := by
   have := List.getElem_take (xs := l) (j := (aheadW l b).length) (i := h) (h := by rw [take_ahead]; exact c)
   simp only [take_ahead] at this
   exact this
  rw [← e, mem_ahead _ (List.getElem_mem c)]
  simp [c]
 ·have hm : l[h] ∈ restW l b := by
   rw [← drop_ahead]
   exact List.mem_drop_iff_getElem.2 ⟨h - (aheadW l b).length, by omega, by congr 1; omega⟩
  rw [mem_rest hp _ hm]
  simp [c]
theorem there_at {l : List Wy} {b : Bk} (h : (aheadW l b).length < l.length) : thereB l b = eqB l[(aheadW l b).length].f0 b := by
 unfold thereB
 rw [← drop_ahead, List.drop_eq_getElem_cons h]
theorem there_end {l : List Wy} {b : Bk} (h : l.length ≤ (aheadW l b).length) : thereB l b = false := by
 unfold thereB
 rw [← drop_ahead, List.drop_eq_nil_of_le h]
theorem u64_small {n : Int} (h0 : 0 ≤ n) (h1 : n ≤ 9223372036854775807) : IntKind.u64.wrap n = n := by
 simp only [IntKind.wrap_u64]
 omega
theorem mid_half {i j : Nat} (h : i + j ≤ 4611686018427387904) : wrap64 (IntKind.u64.wrap (wrap64 ((i : Int) + (j : Int))) / 2) = (((i + j) / 2 : Nat) : Int) := by
 rw [w64 (n := (i : Int) + (j : Int)) (by omega), u64_small (by omega) (by omega), w64 (by omega)]
 omega
theorem find_loop (l : List Wy) (b : Bk) (hp : l.Pairwise (fun a b => ltB a.f0 b.f0 = true)) (hl : l.length ≤ 1099511627776) (d : Nat) : ∀ i j : Nat, i ≤ (aheadW l b).length → (aheadW l b).length ≤ j → j ≤ l.length → j - i ≤ d →
  (∃ K_, ∀ k, K_ ≤ k → impl_Block_find_cl1.l0 k l (l.length : Int) (i : Int) (j : Int) b.f0 b.f1 = some (((aheadW l b).length : Int), thereB l b)) := by
 have hal := ahead_len (l := l) (b := b)
 induction d with
 | zero =>
  intro i j h1 h2 h3 h4
  have e : i = (aheadW l b).length := by omega
  have e2 : j = (aheadW l b).length := by omega
  subst e e2
  refine ev1 ?_
  simp only [impl_Block_find_cl1.l0]
  refine evN (by omega) (evI (fun c => ?_) (fun c => evR (by rw [there_end (by omega)])))
  have hlt : (aheadW l b).length < l.length := by omega
  obtain ⟨v, e, _, hv, _⟩ := by_block l[(aheadW l b).length].f0 b
  simp only [rd_way l _ hlt]
  refine evP (by omega) (evP (by omega) (evB (a := v) ?_ (evR ?_)))
  ·simp only [impl_find_cl1.f]
   exact evB e (evR rfl)
  ·rw [there_at hlt]
   simp only [Prod.mk.injEq, true_and]
   by_cases c0 : v = 0
   ·subst c0
    have := hv.1 rfl
    simp [eqB, this]
   ·have : ¬ (l[(aheadW l b).length].f0.f0 = b.f0 ∧ l[(aheadW l b).length].f0.f1 = b.f1) := fun h => c0 (hv.2 h)
    simp [eqB, this, c0]
 | succ d ih =>
  intro i j h1 h2 h3 h4
  by_cases hij : i < j
  ·have hmid := mid_half (i := i) (j := j) (by omega)
   have hm1 : (i + j) / 2 < l.length := by omega
   have hw : wrap64 ((((i + j) / 2 : Nat) : Int) + 1) = (((i + j) / 2 + 1 : Nat) : Int) := by rw [w64 (by omega)]; omega
   obtain ⟨v, e, hv0, hv, _⟩ := by_block l[(i + j) / 2].f0 b
   have hx := ahead_idx (b := b) hp hm1
   refine ev1 ?_
   simp only [impl_Block_find_cl1.l0, hmid, hw, rd_way l _ hm1]
   refine evP (by omega) (evP (by omega) (evP (by omega) (evB (a := v) ?_ (evI (fun c => ?_) (fun c => ?_)))))
   ·simp only [impl_find_cl1.f]
    exact evB e (evR rfl)
   ·have : ltB l[(i + j) / 2].f0 b = true := by
     cases h : ltB l[(i + j) / 2].f0 b with
     | true => rfl
     | false => have := hv0.2 h; omega
    rw [this] at hx
    have hx2 : (i + j) / 2 < (aheadW l b).length := by simpa using hx.symm
    exact ih _ j (by omega) h2 h3 (by omega)
   ·have : ltB l[(i + j) / 2].f0 b = false := hv0.1 (by omega)
    rw [this] at hx
    have hx2 : ¬ (i + j) / 2 < (aheadW l b).length := by simpa using hx.symm
    exact ih i _ h1 (by omega) (by omega) (by omega)
  ·exact ih i j h1 h2 h3 (by omega)
theorem impl_find (l : List Wy) (b : Bk) (hp : l.Pairwise (fun a b => ltB a.f0 b.f0 = true)) (hl : l.length ≤ 1099511627776) : (∃ K_, ∀ k, K_ ≤ k → impl_find.f k l b.f0 b.f1 = some (((aheadW l b).length : Int), thereB l b)) := by
 simp only [impl_find.f, impl_Block_find_cl1.f]
 have := find_loop l b hp hl l.length 0 l.length (by omega) ahead_len (by omega) (by omega)
 exact evB this (evR rfl)
/-- What WaysGone answers. -/
def goneR (l : List Wy) (b : Bk) : List Wy × Bool := if wokB l = true then (goneF l b, thereB l b) else ([], false)
theorem gone_take {l : List Wy} {b : Bk} (t : thereB l b = true) : l.take (aheadW l b).length ++ l.drop ((aheadW l b).length + 1) = goneF l b := by
 unfold goneF
 rw [if_pos t, take_ahead, ← drop_ahead, List.tail_drop]
theorem impl_waysGone (l : List Wy) (b : Bk) (hl : l.length ≤ 1099511627776) : (∃ K_, ∀ k, K_ ≤ k → impl_WaysGone.f k l b.f0 b.f1 = some (goneR l b)) := by
 simp only [impl_WaysGone.f]
 refine evB (impl_waysOk l hl) (evI (fun c => ?_) (fun c => evR (by rw [goneR, if_neg c])))
 have hk := wokB_iff.1 c
 refine evS (a := l) (by unfold slices_Clone_Way.f; rw [if_pos (by omega)]) (evB (impl_find l b hk.2.1 hl) (evI (fun t => ?_) (fun t => evR ?_)))
 ·simp only [] at t
  have hlt := ahead_lt t
  have hw : wrap64 (((aheadW l b).length : Int) + 1) = (((aheadW l b).length + 1 : Nat) : Int) := by rw [w64 (by omega)]; omega
  have hd : slices_Delete_Way.f l ((aheadW l b).length : Int) (wrap64 (((aheadW l b).length : Int) + 1)) = some (goneF l b) := by
   unfold slices_Delete_Way.f
   rw [hw, if_pos (by omega), if_pos (by omega), if_pos (by omega), Int.toNat_natCast, Int.toNat_natCast, gone_take t]
  exact evS hd (evR (by rw [goneR, if_pos c, t]))
 ·have t' : thereB l b = false := by simpa using t
  rw [goneR, if_pos c, goneF, if_neg t, t']
/-- Bytes that are drawn from. -/
def Bytes (s : List Int) : Prop := (∀ x ∈ s, 0 ≤ x ∧ x ≤ 255) ∧ s.length ≤ 2000
theorem rd_byte {s : List Int} (h : Bytes s) (i : Int) : 0 ≤ rd s i ∧ rd s i ≤ 255 := by
 unfold rd
 rw [List.getD_eq_getElem?_getD]
 cases e : s[i.toNat]? with
 | none => simp
 | some x => simpa using h.1 x (List.mem_of_getElem? e)
theorem pick_aux (k : Nat) (s : List Int) (p n : Int) (hs : Bytes s) (hp0 : 0 ≤ p) (hp1 : p ≤ 1000000000000) (hn0 : 1 ≤ n) (hn1 : n ≤ 2147483648) :
  ∃ v, spec_l1Rd_pick.f (k + 1) s p n = some (v, p + 1) ∧ 0 ≤ v ∧ v < n := by
 have e1 : wrap64 (p + 1) = p + 1 := w64 (by omega)
 have e2 : wrap64 (p + 1 - 1) = p := by rw [w64 (by omega)]; omega
 unfold spec_l1Rd_pick.f
 rw [if_neg (by omega), e1]
 simp only [spec_l1Rd_pick.j0, e2]
 by_cases h0 : (s.length : Int) = 0
 ·rw [if_pos (beq_iff_eq.2 h0)]
  exact ⟨0, rfl, by omega, by omega⟩
 ·rw [if_neg (fun h => h0 (beq_iff_eq.1 h))]
  have hl := hs.2
  by_cases h1 : p < (s.length : Int)
  ·rw [if_pos h1, if_pos hp0, if_neg (by omega)]
   have hb := rd_byte hs p
   rw [w64 (by omega), Int.tmod_eq_emod_of_nonneg (by omega)]
   exact ⟨_, rfl, Int.emod_nonneg _ (by omega), Int.emod_lt_of_pos _ (by omega)⟩
  ·have e3 : wrap64 (p * 7) = p * 7 := w64 (by omega)
   have e4 : wrap64 (p * 7 + 3) = p * 7 + 3 := w64 (by omega)
   have e5 : wrap64 (p * 29) = p * 29 := w64 (by omega)
   have d1 : Int.tmod p (s.length : Int) = p % (s.length : Int) := Int.tmod_eq_emod_of_nonneg hp0
   have d2 : Int.tmod (p * 7 + 3) (s.length : Int) = (p * 7 + 3) % (s.length : Int) := Int.tmod_eq_emod_of_nonneg (by omega)
   have d3 : Int.tdiv p (s.length : Int) = p / (s.length : Int) := Int.tdiv_eq_ediv_of_nonneg hp0
   have q0 : 0 ≤ p / (s.length : Int) := Int.ediv_nonneg hp0 (by omega)
   have q1 : p / (s.length : Int) ≤ p := Int.ediv_le_self _ hp0
   have r0 := Int.emod_nonneg p h0
   have r1 := Int.emod_lt_of_pos p (by omega : 0 < (s.length : Int))
   have r2 := Int.emod_nonneg (p * 7 + 3) h0
   have r3 := Int.emod_lt_of_pos (p * 7 + 3) (by omega : 0 < (s.length : Int))
   have b1 := rd_byte hs (p % (s.length : Int))
   have b2 := rd_byte hs ((p * 7 + 3) % (s.length : Int))
   have c1 : wrap64 (rd s (p % (s.length : Int))) = rd s (p % (s.length : Int)) := w64 (by omega)
   have c2 : wrap64 (rd s ((p * 7 + 3) % (s.length : Int))) = rd s ((p * 7 + 3) % (s.length : Int)) := w64 (by omega)
   have c3 : wrap64 (p / (s.length : Int)) = p / (s.length : Int) := w64 (by omega)
   have e6 : wrap64 (p / (s.length : Int) * 53) = p / (s.length : Int) * 53 := w64 (by omega)
   have e7 : wrap64 (rd s (p % (s.length : Int)) * 131) = rd s (p % (s.length : Int)) * 131 := w64 (by omega)
   have e8 : wrap64 (rd s ((p * 7 + 3) % (s.length : Int)) * 1117) = rd s ((p * 7 + 3) % (s.length : Int)) * 1117 := w64 (by omega)
   rw [if_neg h1, if_neg h0]
   simp only [d1, d2, d3, e3, e4, c1, c2, c3, e5, e6, e7, e8]
   rw [if_pos r0, if_pos r1, if_pos r2, if_pos r3, if_neg (by omega)]
   generalize rd s (p % (s.length : Int)) = x at *
   generalize rd s ((p * 7 + 3) % (s.length : Int)) = y at *
   generalize p / (s.length : Int) = z at *
   have f1 : wrap64 (x * 131 + y * 1117) = x * 131 + y * 1117 := w64 (by omega)
   have f2 : wrap64 (x * 131 + y * 1117 + p * 29) = x * 131 + y * 1117 + p * 29 := w64 (by omega)
   have f3 : wrap64 (x * 131 + y * 1117 + p * 29 + z * 53) = x * 131 + y * 1117 + p * 29 + z * 53 := w64 (by omega)
   simp only [f1, f2, f3]
   generalize hX : x * 131 + y * 1117 + p * 29 + z * 53 = X at *
   have g1 : Int.tdiv X 64 = X / 64 := Int.tdiv_eq_ediv_of_nonneg (by omega)
   have g2 : wrap64 (X / 64) = X / 64 := w64 (by omega)
   rw [g1, g2, i64_xor X (X / 64) (by omega) (by omega) (by omega) (by omega), Int.tmod_eq_emod_of_nonneg (by omega)]
   exact ⟨_, rfl, Int.emod_nonneg _ (by omega), Int.emod_lt_of_pos _ (by omega)⟩
/-- A number is drawn. -/
theorem pick (s : List Int) (p n : Int) (hs : Bytes s) (hp0 : 0 ≤ p) (hp1 : p ≤ 1000000000000) (hn0 : 1 ≤ n) (hn1 : n ≤ 2147483648) :
  ∃ v, (∃ K_, ∀ k, K_ ≤ k → spec_l1Rd_pick.f k s p n = some (v, p + 1)) ∧ 0 ≤ v ∧ v < n := by
 obtain ⟨v, h, h0, h1⟩ := pick_aux 0 s p n hs hp0 hp1 hn0 hn1
 exact ⟨v, Ev.of (spec_l1Rd_pick.mono s p n) h, h0, h1⟩
/-- A number of a list is drawn. -/
theorem one (s : List Int) (p : Int) (l : List Int) (hs : Bytes s) (hp0 : 0 ≤ p) (hp1 : p ≤ 1000000000000) (hl0 : 1 ≤ l.length) (hl1 : l.length ≤ 2147483648) :
  ∃ v, (∃ K_, ∀ k, K_ ≤ k → spec_l1Rd_one.f k s p l = some (v, p + 1)) ∧ v ∈ l := by
 obtain ⟨v, ⟨K, h⟩, h0, h1⟩ := pick s p l.length hs hp0 hp1 (by omega) (by omega)
 refine ⟨rd l v, ⟨K, fun k hk => ?_⟩, ?_⟩
 ·simp only [spec_l1Rd_one.f, h k hk, Option.bind_some]
  rw [if_pos h0, if_pos h1]
 ·unfold rd
  rw [List.getD_eq_getElem?_getD, List.getElem?_eq_getElem (by omega)]
  exact List.getElem_mem _
theorem l1Open (l : List Int) (hw : ∀ x ∈ l, (Lit.int .u8 x).wf = true) : ∃ s, spec_l1Open.f l = some (s, 0) ∧ Bytes s := by
 have hb : ∀ x ∈ l, 0 ≤ x ∧ x ≤ 255 := fun x hx => by
  have := hw x hx
  simp [Lit.wf, IntKind.min, IntKind.max, IntKind.bits, IntKind.signed] at this
  omega
 unfold spec_l1Open.f
 by_cases c : (l.length : Int) > 2000
 ·rw [if_pos c, if_pos (by omega)]
  exact ⟨_, rfl, fun x hx => hb x (List.mem_of_mem_take hx), by rw [List.length_take]; omega⟩
 ·rw [if_neg c]
  exact ⟨_, rfl, hb, by omega⟩
theorem drawAddr (s : List Int) (p : Int) (hs : Bytes s) (hp0 : 0 ≤ p) (hp1 : p ≤ 900000000000) :
  ∃ a, (∃ K_, ∀ k, K_ ≤ k → spec_l12Addr.f k s p = some (a, p + 6)) ∧ 0 ≤ a ∧ a ≤ 4294967295 := by
 obtain ⟨v1, ⟨K1, h1⟩, a1, b1⟩ := pick s p 256 hs (by omega) (by omega) (by decide) (by decide)
 obtain ⟨v2, ⟨K2, h2⟩, a2, b2⟩ := pick s (p + 1) 8 hs (by omega) (by omega) (by decide) (by decide)
 obtain ⟨v3, ⟨K3, h3⟩, a3, b3⟩ := pick s (p + 1 + 1) 16 hs (by omega) (by omega) (by decide) (by decide)
 obtain ⟨v4, ⟨K4, h4⟩, a4, b4⟩ := pick s (p + 1 + 1 + 1) 256 hs (by omega) (by omega) (by decide) (by decide)
 obtain ⟨v5, ⟨K5, h5⟩, a5, b5⟩ := pick s (p + 1 + 1 + 1 + 1) 64 hs (by omega) (by omega) (by decide) (by decide)
 obtain ⟨v6, ⟨K6, h6⟩, b6⟩ := one s (p + 1 + 1 + 1 + 1 + 1) [wrap64 (167772160 + v1), wrap64 (167772160 + v2), wrap64 (167772416 + v3), wrap64 (3232235520 + v4), 0, 4294967295, 184549375, wrap64 (2886729728 + (wrap64 (v5 * 256)))] hs (by omega) (by omega) (by simp) (by simp)
 refine ⟨v6, ⟨K1 + K2 + K3 + K4 + K5 + K6, fun k hk => ?_⟩, ?_⟩
 ·simp only [spec_l12Addr.f]
  rw [h1 k (by omega), Option.bind_some, h2 k (by omega), Option.bind_some, h3 k (by omega), Option.bind_some, h4 k (by omega), Option.bind_some, h5 k (by omega), Option.bind_some]
  simp only []
  rw [h6 k (by omega), Option.bind_some]
  simp only [Option.some.injEq, Prod.mk.injEq, true_and]
  omega
 ·rw [w64 (by omega), w64 (by omega), w64 (by omega), w64 (by omega), w64 (n := v5 * 256) (by omega), w64 (by omega)] at b6
  simp only [List.mem_cons, List.not_mem_nil, or_false] at b6
  omega
theorem spec_over {a m : Int} (ha0 : 0 ≤ a) (ha1 : a ≤ 4611686018427387904) (h0 : 0 ≤ m) (h1 : m ≤ 32) : (∃ K_, ∀ k, K_ ≤ k → spec_l1Over.f k a m = some (a / sz m * sz m, m)) := by
 obtain ⟨K, h⟩ := spec_size h0 h1
 have hs := sz_bd h0
 have hd : a / sz m * sz m ≤ a := Int.ediv_mul_le a (by omega)
 have hq0 : 0 ≤ a / sz m := Int.ediv_nonneg ha0 (by omega)
 have hq1 : a / sz m ≤ a := Int.ediv_le_self _ ha0
 have hm : 0 ≤ a / sz m * sz m := Int.mul_nonneg hq0 (by omega)
 refine ⟨K, fun k hk => ?_⟩
 simp only [spec_l1Over.f]
 rw [h k hk, Option.bind_some, if_neg (by omega), Option.bind_some, Int.tdiv_eq_ediv_of_nonneg ha0, w64 (n := a / sz m) (by omega), w64 (by omega)]
theorem drawBlock (s : List Int) (p : Int) (hs : Bytes s) (hp0 : 0 ≤ p) (hp1 : p ≤ 800000000000) :
  ∃ b m, (∃ K_, ∀ k, K_ ≤ k → spec_l12Block.f k s p = some (b, m, p + 7)) ∧ bok b m := by
 obtain ⟨a, ⟨K1, h1⟩, a1, b1⟩ := drawAddr s p hs (by omega) (by omega)
 obtain ⟨m, ⟨K2, h2⟩, b2⟩ := one s (p + 6) [32, 31, 30, 28, 24, 24, 25, 16, 8, 1, 0, 29] hs (by omega) (by omega) (by simp) (by simp)
 simp only [List.mem_cons, List.not_mem_nil, or_false] at b2
 obtain ⟨K3, h3⟩ := spec_over (a := a) (m := m) a1 (by omega) (by omega) (by omega)
 have hd : a / sz m * sz m ≤ a := Int.ediv_mul_le a (by have := sz_pos m; omega)
 have hm : 0 ≤ a / sz m * sz m := Int.mul_nonneg (Int.ediv_nonneg a1 (by have := sz_pos m; omega)) (by have := sz_pos m; omega)
 refine ⟨_, m, ⟨K1 + K2 + K3, fun k hk => ?_⟩, bok.mk' hm (by omega) (by omega) (by omega) (Int.dvd_mul_left _ _)⟩
 simp only [spec_l12Block.f]
 rw [h1 k (by omega), Option.bind_some]
 simp only []
 rw [h2 k (by omega), Option.bind_some]
 simp only []
 rw [h3 k (by omega), Option.bind_some]
 simp only [Option.some.injEq, Prod.mk.injEq, true_and]
 omega
theorem drawAnyBlock (s : List Int) (p : Int) (hs : Bytes s) (hp0 : 0 ≤ p) (hp1 : p ≤ 700000000000) :
  ∃ b m p', (∃ K_, ∀ k, K_ ≤ k → spec_l12AnyBlock.f k s p = some (b, m, p')) ∧ p ≤ p' ∧ p' ≤ p + 9 ∧ -1 ≤ b ∧ b ≤ 4294967551 ∧ -1 ≤ m ∧ m ≤ 33 := by
 obtain ⟨b, m, ⟨K1, h1⟩, a1⟩ := drawBlock s p hs (by omega) (by omega)
 have a2 := a1.1
 have a3 := a1.2.1
 have a4 := a1.2.2.1
 have a5 := a1.2.2.2.1
 obtain ⟨v, ⟨K2, h2⟩, c1, c2⟩ := pick s (p + 7) 16 hs (by omega) (by omega) (by decide) (by decide)
 by_cases e0 : v = 0
 ·obtain ⟨x, ⟨K3, h3⟩, b3⟩ := one s (p + 7 + 1) [1, (-1), 256] hs (by omega) (by omega) (by simp) (by simp)
  simp only [List.mem_cons, List.not_mem_nil, or_false] at b3
  refine ⟨b + x, m, p + 7 + 1 + 1, ⟨K1 + K2 + K3, fun k hk => ?_⟩, by omega, by omega, by omega, by omega, by omega, by omega⟩
  simp only [spec_l12AnyBlock.f]
  rw [h1 k (by omega), Option.bind_some]
  simp only []
  rw [h2 k (by omega), Option.bind_some]
  simp only []
  rw [if_pos e0, h3 k (by omega), Option.bind_some]
  simp only []
  rw [w64 (by omega)]
 ·by_cases e1 : v = 1
  ·obtain ⟨x, ⟨K3, h3⟩, b3⟩ := one s (p + 7 + 1) [(-1), 33, 0, 32] hs (by omega) (by omega) (by simp) (by simp)
   simp only [List.mem_cons, List.not_mem_nil, or_false] at b3
   refine ⟨b, x, p + 7 + 1 + 1, ⟨K1 + K2 + K3, fun k hk => ?_⟩, by omega, by omega, by omega, by omega, by omega, by omega⟩
   simp only [spec_l12AnyBlock.f]
   rw [h1 k (by omega), Option.bind_some]
   simp only []
   rw [h2 k (by omega), Option.bind_some]
   simp only []
   rw [if_neg e0, if_pos e1, h3 k (by omega), Option.bind_some]
  ·refine ⟨b, m, p + 7 + 1, ⟨K1 + K2, fun k hk => ?_⟩, by omega, by omega, by omega, by omega, by omega, by omega⟩
   simp only [spec_l12AnyBlock.f]
   rw [h1 k (by omega), Option.bind_some]
   simp only []
   rw [h2 k (by omega), Option.bind_some]
   simp only []
   rw [if_neg e0, if_neg e1]
/-- The routes whose blocks begin at an address, or behind it. -/
def fromW (l : List Wy) (a : Int) : List Wy := l.filter fun w => decide (a ≤ w.f0.f0)
theorem mem_from {l : List Wy} {a : Int} {x : Wy} : x ∈ fromW l a ↔ x ∈ l ∧ a ≤ x.f0.f0 := by simp [fromW]
theorem from_less {l : List Wy} {a b : Int} (h : a ≤ b) : (fromW l b).Sublist (fromW l a) := by
 have : fromW l b = (fromW l a).filter fun w => decide (b ≤ w.f0.f0) := by
  unfold fromW
  rw [List.filter_filter]
  congr 1
  funext x
  rw [Bool.eq_iff_iff]
  simp only [decide_eq_true_eq, Bool.and_eq_true]
  omega
 rw [this]
 exact List.filter_sublist
/-- A route that is put: either one more, or one less is behind. -/
theorem put_step {l : List Wy} (h : Wok l) (hl : l.length < 40) (w : Wy) (hw : wayB w = true) :
  Wok (setF l w) ∧ l.length ≤ (setF l w).length ∧ (setF l w).length ≤ l.length + 1 ∧ 40 - (setF l w).length + (fromW (setF l w) (w.f0.f0 + 2)).length < 40 - l.length + (fromW l w.f0.f0).length := by
 have hk := (set_ok h).2 ⟨hw, .inr hl⟩
 have he : fromW (setF l w) (w.f0.f0 + 2) = fromW l (w.f0.f0 + 2) := by
  refine sorted_ext (hk.2.1.sublist List.filter_sublist) (h.2.1.sublist List.filter_sublist) fun x => ?_
  rw [mem_from, mem_from, set_mem h]
  constructor
  ·rintro ⟨rfl | h1, h2⟩
   ·omega
   ·exact ⟨h1.1, h2⟩
  ·rintro ⟨h1, h2⟩
   exact ⟨.inr ⟨h1, fun e => by rw [e] at h2; omega⟩, h2⟩
 have hs := from_less (l := l) (show w.f0.f0 ≤ w.f0.f0 + 2 by omega)
 have hn := hs.length_le
 have hlen := set_len l w
 rw [he]
 cases t : thereB l w.f0 with
 | false =>
  rw [t] at hlen
  simp only [Bool.false_eq_true, if_false] at hlen
  exact ⟨hk, by omega, by omega, by omega⟩
 | true =>
  rw [t] at hlen
  simp only [if_true] at hlen
  have hne : (fromW l (w.f0.f0 + 2)).length ≠ (fromW l w.f0.f0).length := by
   intro e
   have e' := hs.eq_of_length e
   obtain ⟨x, hx, ex⟩ := (there_iff h.2.1).1 t
   have : x ∈ fromW l (w.f0.f0 + 2) := by
    rw [e']
    exact mem_from.2 ⟨hx, by rw [ex]; omega⟩
   have := (mem_from.1 this).2
   rw [ex] at this
   omega
  exact ⟨hk, by omega, by omega, by omega⟩
theorem bok_one {n : Int} (h0 : 0 ≤ n) (h1 : n ≤ 4294967295) : bok n 32 := ⟨h0, h1, by omega, by omega, by rw [sz_32]; omega⟩
theorem ways_l1 (s : List Int) (p : Int) (d : Nat) : ∀ (l : List Wy) (n : Int), 0 ≤ n → Wok l → 40 - l.length + (fromW l (n * 2)).length ≤ d → n + d ≤ 1000 →
  Dr (fun k => spec_l12Ways.l1 k l n s p) fun r => Wok r.1 ∧ r.2 = p := by
 induction d with
 | zero =>
  intro l n hn h hd hb
  have := h.2.2
  refine dr1 ?_
  simp only [spec_l12Ways.l1]
  exact drN (by omega) (drR ⟨h, rfl⟩)
 | succ d ih =>
  intro l n hn h hd hb
  refine dr1 ?_
  simp only [spec_l12Ways.l1]
  refine drI (fun c => ?_) (fun c => drR ⟨h, rfl⟩)
  have e0 : wrap64 (n * 2) = n * 2 := w64 (by omega)
  have e1 : wrap64 (n + 1) = n + 1 := w64 (by omega)
  have e2 : Int.tmod n 3 = n % 3 := Int.tmod_eq_emod_of_nonneg hn
  simp only [e0, e1, e2]
  let w : Wy := ⟨⟨n * 2, 32⟩, n % 3⟩
  have hb1 : bok w.f0.f0 w.f0.f1 := bok_one (by show (0 : Int) ≤ n * 2; omega) (by show n * 2 ≤ (4294967295 : Int); omega)
  have hw : wayB w = true := wayB_iff.2 ⟨hb1, by show (0 : Int) ≤ n % 3; omega, by show n % 3 ≤ (99 : Int); omega⟩
  have hl : l.length < 40 := by omega
  obtain ⟨k1, k2, k3, k4⟩ := put_step h hl w hw
  have := spec_waysPut l w hb1.near (by omega)
  rw [putF_yes (wokB_iff.2 h) ⟨hw, .inr hl⟩] at this
  refine drB this ?_
  have k4' : 40 - (setF l w).length + (fromW (setF l w) ((n + 1) * 2)).length < 40 - l.length + (fromW l (n * 2)).length := by
   have : (n + 1) * 2 = n * 2 + 2 := by omega
   rw [this]
   exact k4
  exact ih (setF l w) (n + 1) (by omega) k1 (by omega) (by omega)
theorem ways_l0 (s : List Int) (hs : Bytes s) (d : Nat) : ∀ (l : List Wy) (p : Int), 0 ≤ p → p + 8 * d ≤ 600000000000 → Wok l →
  Dr (fun k => spec_l12Ways.l0 k l (d : Int) s p) fun r => Wok r.1 ∧ p ≤ r.2 ∧ r.2 ≤ p + 8 * d + 1 := by
 induction d with
 | zero =>
  intro l p hp0 hp1 h
  refine dr1 ?_
  simp only [spec_l12Ways.l0]
  obtain ⟨v, e, v0, v1⟩ := pick s p 24 hs hp0 (by omega) (by decide) (by decide)
  refine drN (by omega) (drB e (drI (fun c => ?_) (fun c => ?_)))
  ·have hn : (fromW l (0 * 2)).length ≤ l.length := (List.filter_sublist).length_le
   have hm := h.2.2
   exact (ways_l1 s (p + 1) 80 l 0 (by omega) h (by omega) (by omega)).imp fun r hr => ⟨hr.1, by omega, by omega⟩
  ·exact drR ⟨h, by simp only []; omega, by simp only []; omega⟩
 | succ d ih =>
  intro l p hp0 hp1 h
  refine dr1 ?_
  simp only [spec_l12Ways.l0]
  obtain ⟨b, m, e, hb⟩ := drawBlock s p hs hp0 (by omega)
  obtain ⟨v, e2, v0, v1⟩ := pick s (p + 7) 3 hs (by omega) (by omega) (by decide) (by decide)
  have hw : wrap64 (((d + 1 : Nat) : Int) - 1) = (d : Int) := by
   have : ((d + 1 : Nat) : Int) - 1 = (d : Int) := by omega
   rw [this, w64 (by omega)]
  refine drP (by omega) (drB e (drB e2 ?_))
  simp only [hw]
  let w : Wy := ⟨⟨b, m⟩, v⟩
  have hb' : bok w.f0.f0 w.f0.f1 := hb
  refine drB (spec_waysPut l w hb'.near (by have := h.2.2; omega)) ?_
  exact (ih (putF l w).1 (p + 7 + 1) (by omega) (by omega) (putF_ok h)).imp fun r hr => ⟨hr.1, by omega, by omega⟩
/-- Valid routes are drawn. -/
theorem drawWays (s : List Int) (p : Int) (hs : Bytes s) (hp0 : 0 ≤ p) (hp1 : p ≤ 500000000000) : Dr (fun k => spec_l12Ways.f k s p) fun r => Wok r.1 ∧ p ≤ r.2 ∧ r.2 ≤ p + 70 := by
 simp only [spec_l12Ways.f]
 obtain ⟨v, e, v0, v1⟩ := pick s p 8 hs hp0 (by omega) (by decide) (by decide)
 refine drB e ?_
 have hv : v = ((v.toNat : Nat) : Int) := by omega
 simp only []
 rw [hv]
 exact (ways_l0 s hs v.toNat [] (p + 1) (by omega) (by omega) Wok.nil).imp fun r hr => ⟨hr.1, by omega, by omega⟩
/-- Routes that may not be valid, but not far from it. -/
def smallW (w : Wy) : Prop := -1 ≤ w.f0.f0 ∧ w.f0.f0 ≤ 4294967551 ∧ -1 ≤ w.f0.f1 ∧ w.f0.f1 ≤ 33 ∧ -1 ≤ w.f1 ∧ w.f1 ≤ 100
theorem wayB_small {w : Wy} (h : wayB w = true) : smallW w := by
 have := wayB_iff.1 h
 have h1 := this.1.1
 have h2 := this.1.2.1
 have h3 := this.1.2.2.1
 have h4 := this.1.2.2.2.1
 exact ⟨by omega, by omega, by omega, by omega, by omega, by omega⟩
theorem smallW.near {w : Wy} (h : smallW w) : near w.f0 := by
 obtain ⟨h1, h2, h3, h4, _⟩ := h
 exact ⟨by omega, by omega, by omega, by omega⟩
theorem mem_set_or {l : List Wy} {n : Nat} {x y : Wy} (h : y ∈ l.set n x) : y = x ∨ y ∈ l := by
 rcases List.mem_or_eq_of_mem_set h with h | h
 ·exact .inr h
 ·exact .inl h
theorem drawAnyWays (s : List Int) (p : Int) (hs : Bytes s) (hp0 : 0 ≤ p) (hp1 : p ≤ 400000000000) : Dr (fun k => spec_l12AnyWays.f k s p) fun r => r.1.length ≤ 41 ∧ (∀ w ∈ r.1, smallW w) ∧ p ≤ r.2 ∧ r.2 ≤ p + 90 := by
 simp only [spec_l12AnyWays.f]
 obtain ⟨⟨l, q⟩, e, h, q0, q1⟩ := drawWays s p hs hp0 (by omega)
 simp only [] at h q0 q1
 have hsm : ∀ w ∈ l, smallW w := fun w hw => wayB_small (h.1 w hw)
 have hm := h.2.2
 refine drB e (drI (fun c => drR ⟨by simp only []; omega, hsm, by simp only []; omega, by simp only []; omega⟩) (fun c => ?_))
 simp only [] at c ⊢
 obtain ⟨i, e1, i0, i1⟩ := pick s q l.length hs (by omega) (by omega) (by omega) (by omega)
 obtain ⟨v, e2, v0, v1⟩ := pick s (q + 1) 20 hs (by omega) (by omega) (by decide) (by decide)
 have hi : rd_T45 l i = l[i.toNat]'(by omega) := by
  have := rd_way l i.toNat (by omega)
  rwa [Int.toNat_of_nonneg i0] at this
 have hx := hsm _ (List.getElem_mem (show i.toNat < l.length by omega))
 refine drB e1 (drB e2 (drI (fun c0 => ?_) (fun c0 => drI (fun c1 => ?_) (fun c1 => drI (fun c2 => ?_) (fun c2 => ?_)))))
 ·obtain ⟨x, e3, b3⟩ := one s (q + 1 + 1) [(-1), 99, 100] hs (by omega) (by omega) (by simp) (by simp)
  simp only [List.mem_cons, List.not_mem_nil, or_false] at b3
  refine drB e3 (drP i0 (drP i1 (drR ⟨?_, fun w hw => ?_, by simp only []; omega, by simp only []; omega⟩)))
  ·simp only [List.length_set]
   omega
  ·rcases mem_set_or hw with rfl | hw
   ·simp only [hi]
    obtain ⟨x1, x2, x3, x4, _⟩ := hx
    exact ⟨x1, x2, x3, x4, by simp only []; omega, by simp only []; omega⟩
   ·exact hsm w hw
 ·obtain ⟨b, m, q', e3, q2, q3, b0, b1, m0, m1⟩ := drawAnyBlock s (q + 1 + 1) hs (by omega) (by omega)
  refine drB e3 (drP i0 (drP i1 (drR ⟨?_, fun w hw => ?_, by simp only []; omega, by simp only []; omega⟩)))
  ·simp only [List.length_set]
   omega
  ·rcases mem_set_or hw with rfl | hw
   ·simp only [hi]
    obtain ⟨x1, x2, x3, x4, x5, x6⟩ := hx
    exact ⟨b0, b1, m0, m1, x5, x6⟩
   ·exact hsm w hw
 ·have h0 : rd_T45 l 0 = l[0]'(by omega) := rd_way l 0 (by omega)
  have hy := hsm _ (List.getElem_mem (show 0 < l.length by omega))
  refine drP (by omega) (drP (by omega) (drR ⟨?_, fun w hw => ?_, by simp only []; omega, by simp only []; omega⟩))
  ·simp only [List.length_append, List.length_cons, List.length_nil]
   omega
  ·simp only [List.mem_append, List.mem_singleton, h0] at hw
   rcases hw with hw | rfl
   ·exact hsm w hw
   ·exact hy
 ·exact drR ⟨by simp only []; omega, hsm, by simp only []; omega, by simp only []; omega⟩
theorem drawWaysLess (l : List Int) (hw : ∀ x ∈ l, (Lit.int .u8 x).wf = true) : Dr (fun k => spec_DrawWaysLess.f k l) fun r => r.length ≤ 41 ∧ (∀ w ∈ r, smallW w) := by
 simp only [spec_DrawWaysLess.f]
 obtain ⟨s, h0, hs⟩ := l1Open l hw
 refine drS h0 ?_
 obtain ⟨r, e, h1, h2, _⟩ := drawAnyWays s 0 hs (by omega) (by omega)
 exact drB e (drR ⟨h1, h2⟩)
end Go.Proofs.Ytkgbgaojglcaoaa.Z
end
section
namespace Go.Proofs.Ytkgbgaojglcaoaa.Pure
open Go Go.RowKit Go.Proofs.Ytkgbgaojglcaoaa.PAll Go.Proofs.YtkgbgaojglcaoaaW.PrintWords Go.Proofs.YtkgbgaojglcaoaaW.PrintLast Go.Proofs.YtkgbgaojglcaoaaW.PrintMore Go.Proofs.Ytkgbgaojglcaoaa.Z
set_option linter.unusedVariables false
set_option linter.unusedSimpArgs false
/-- A route that hides no other one is wanted: without it its first address is led elsewhere. -/
theorem wanted {l : List Wy} (h : Wok l) {w : Wy} (hw : w ∈ lessF l) (hn : ∀ x ∈ lessF l, x ≠ w → inB w.f0.f0 w.f0.f1 x.f0.f0 x.f0.f1 = false) : (differF (lessF l) (goneF (lessF l) w.f0)).2 = true := by
 have hx : Wok (lessF l) := h.sub (less_sub l)
 have hg : Wok (goneF (lessF l) w.f0) := gone_ok hx
 obtain ⟨hwl, hne⟩ := mem_less.1 hw
 have hb := (wayB_iff.1 (h.1 w hwl)).1
 have hs := sz_pos w.f0.f1
 have hself : hasB w.f0.f0 w.f0.f1 w.f0.f0 = true := hasB_iff.2 ⟨Int.le_refl _, by omega⟩
 have hwide : ∀ x ∈ lessF l, x ≠ w → hasB x.f0.f0 x.f0.f1 w.f0.f0 = true → x.f0.f1 < w.f0.f1 := by
  intro x hxl hxw hh
  have hbx := (wayB_iff.1 (hx.1 x hxl)).1
  rcases Int.lt_or_le x.f0.f1 w.f0.f1 with c | c
  ·exact c
  ·have h1 := hn x hxl hxw
   have h2 := has_wide hb hbx c hh
   rw [hself] at h2
   unfold inB at h1
   rw [bokB_true.2 hb, bokB_true.2 hbx, ← h2] at h1
   simp [c] at h1
 rcases hd : (differF (lessF l) (goneF (lessF l) w.f0)).2 with _ | _
 ·exfalso
  have e := differ_none (wokB_iff.2 hx) (wokB_iff.2 hg) hd hb.1 hb.2.1
  have e1 : leadF (lessF l) w.f0.f0 = w.f1 := lead_eq hx (.inl ⟨w, hw, hself, fun x hxl hh => by
   by_cases c : x = w
   ·rw [c]; exact Int.le_refl _
   ·exact Int.le_of_lt (hwide x hxl c hh), rfl⟩)
  have e2 : leadF (goneF (lessF l) w.f0) w.f0.f0 = leadF (belowW (lessF l) w.f0.f1) w.f0.f0 := lead_congr hg (hx.sub (below_sub _ _)) fun x hh => by
   rw [gone_mem hx, mem_below]
   constructor
   ·rintro ⟨p, q⟩
    exact ⟨p, hwide x p (fun c => q (by rw [c])) hh⟩
   ·rintro ⟨p, q⟩
    exact ⟨p, fun c => by rw [c] at q; exact absurd q (Int.lt_irrefl _)⟩
  have e3 := less_above h hwl
  unfold aboveF at e3 hne
  rw [e3] at e2
  rw [e1, e2] at e
  exact hne e.symm
 ·rfl
theorem less_l1' (x3 x : List Wy) (x6 : Bool) (n : Nat) (hn : n < x.length) (hl : x.length ≤ 41) (x11 : Bool) (R : Bool) (hr : ∀ hid : Bool, (hid = false → x11 = false → ∃ j, ∃ (h : j < x.length), j ≠ n ∧ inB x[n].f0.f0 x[n].f0.f1 x[j].f0.f0 x[j].f0.f1 = true) → True) 
  (hN : (∃ K_, ∀ k, K_ ≤ k → laws_FnWaysLess.l0 k x3 x x6 (wrap64 ((n : Int) + 1)) = some true)) (hw : x11 = true ∨ ∃ j, ∃ (h : j < x.length), j ≠ n ∧ inB x[n].f0.f0 x[n].f0.f1 x[j].f0.f0 x[j].f0.f1 = true) (d : Nat) :
  ∀ (m : Nat) (hid : Bool), m + d = x.length → (hid = true ∨ x11 = true ∨ ∃ j, ∃ (h : j < x.length), m ≤ j ∧ j ≠ n ∧ inB x[n].f0.f0 x[n].f0.f1 x[j].f0.f0 x[j].f0.f1 = true) → (∃ K_, ∀ k, K_ ≤ k → laws_FnWaysLess.l1 k x3 x x6 (n : Int) x11 hid (m : Int) = some true) := by
 induction d with
 | zero =>
  intro m hid hm hc
  refine ev1 ?_
  simp only [laws_FnWaysLess.l1]
  refine evN (by omega) (evI (fun _ => hN) (fun c => evI (fun _ => hN) (fun c2 => ?_)))
  exfalso
  rcases hc with h | h | ⟨j, hj, h, _⟩
  ·exact c2 h
  ·exact c h
  ·omega
 | succ d ih =>
  intro m hid hm hc
  have hlt : m < x.length := by omega
  have hw1 : wrap64 ((m : Int) + 1) = ((m + 1 : Nat) : Int) := by rw [w64 (by omega)]; omega
  refine ev1 ?_
  simp only [laws_FnWaysLess.l1]
  rw [hw1]
  refine evP (by omega) (evI (fun c => ih (m + 1) true (by omega) (.inl rfl)) (fun c => ?_))
  have hc' := hc.resolve_left c
  refine evI (fun c2 => ih (m + 1) false (by omega) ?_) (fun c2 => ?_)
  ·rcases hc' with h | ⟨j, hj, h1, h2, h3⟩
   ·exact .inr (.inl h)
   ·exact .inr (.inr ⟨j, hj, by omega, h2, h3⟩)
  ·refine evP (by omega) (evP (by omega) (evP (by omega) ?_))
   rw [rd_way x n hn, rd_way x m hlt]
   refine evS (impl_blockIn _ _ _ _) (ih (m + 1) _ (by omega) ?_)
   rcases hc' with h | ⟨j, hj, h1, h2, h3⟩
   ·exact .inr (.inl h)
   ·by_cases c3 : j = m
    ·subst c3; exact .inl h3
    ·exact .inr (.inr ⟨j, hj, by omega, h2, h3⟩)
theorem less_l0' (l : List Wy) (h : Wok l) (d : Nat) : ∀ n : Nat, n + d = (lessF l).length → (∃ K_, ∀ k, K_ ≤ k → laws_FnWaysLess.l0 k l (lessF l) false (n : Int) = some true) := by
 have hx : Wok (lessF l) := h.sub (less_sub l)
 have hl := (less_sub l).length_le
 have h40 := h.2.2
 induction d with
 | zero =>
  intro n hn
  refine ev1 ?_
  simp only [laws_FnWaysLess.l0]
  refine evN (by omega) (evB (impl_waysOk _ (by omega)) (evP (wokB_iff.2 hx) (evN (by simp) (evP (by omega) (evB (impl_waysLess _ (by omega)) ?_)))))
  have e : waysLessF (lessF l) = lessF l := by
   unfold waysLessF
   rw [if_pos (wokB_iff.2 hx), less_less h]
  rw [e]
  exact evB (ovWays_self _ (by omega)) (evR rfl)
 | succ d ih =>
  intro n hn
  have hlt : n < (lessF l).length := by omega
  have hw1 : wrap64 ((n : Int) + 1) = ((n + 1 : Nat) : Int) := by rw [w64 (by omega)]; omega
  have hN := ih (n + 1) (by omega)
  have hgl := (gone_sub (lessF l) (lessF l)[n].f0).length_le
  refine ev1 ?_
  simp only [laws_FnWaysLess.l0]
  rw [rd_way _ n hlt]
  refine evP (by omega) (evP (by omega) (evB (impl_waysGone _ (lessF l)[n].f0 (by omega)) ?_))
  unfold goneR
  rw [if_pos (wokB_iff.2 hx)]
  refine evB (impl_differ _ _ (by omega) (by simp only []; omega)) ?_
  have hor : (differF (lessF l) (goneF (lessF l) (lessF l)[n].f0)).2 = true ∨ ∃ j, ∃ (hj : j < (lessF l).length), j ≠ n ∧ inB (lessF l)[n].f0.f0 (lessF l)[n].f0.f1 (lessF l)[j].f0.f0 (lessF l)[j].f0.f1 = true := by
   by_cases c : ∃ j, ∃ (hj : j < (lessF l).length), j ≠ n ∧ inB (lessF l)[n].f0.f0 (lessF l)[n].f0.f1 (lessF l)[j].f0.f0 (lessF l)[j].f0.f1 = true
   ·exact .inr c
   ·refine .inl (wanted h (List.getElem_mem hlt) (fun x hxl hne => ?_))
    obtain ⟨j, hj, rfl⟩ := List.getElem_of_mem hxl
    rw [Bool.eq_false_iff]
    intro hin
    exact c ⟨j, hj, fun e => hne (by subst e; rfl), hin⟩
  refine less_l1' l (lessF l) false n hlt (by omega) _ true (fun _ _ => trivial) (by rw [hw1]; exact hN) hor (lessF l).length 0 false (by omega) ?_
  rcases hor with q | ⟨j, hj, q1, q2⟩
  ·exact .inr (.inl q)
  ·exact .inr (.inr ⟨j, hj, Nat.zero_le _, q1, q2⟩)
theorem FnWaysLess : laws_FnWaysLess.Pure := by
 intro l0 h1 h2 hw1
 suffices h : (∃ K_, ∀ k, K_ ≤ k → laws_FnWaysLess.f k l0 = some true) by obtain ⟨K, h⟩ := h; exact ⟨K, h K (Nat.le_refl _)⟩
 simp only [laws_FnWaysLess.f]
 refine evI (fun _ => evR rfl) (fun _ => ?_)
 obtain ⟨l, e, hl, _⟩ := drawWaysLess l0 hw1
 have hll := waysLess_len l
 refine evB e (evB (impl_waysLess l (by omega)) (evB (spec_waysLess l (by omega)) (evB (ovWays_self _ (by omega)) (evP rfl (evB (spec_waysOk l (by omega)) (ev1 ?_))))))
 simp only [laws_FnWaysLess.j0]
 refine evI (fun c => evB (spec_waysLess l (by omega)) (evB (ovWays_self _ (by omega)) (evR rfl))) (fun c => ?_)
 have hk : wokB l = true := by simpa using c
 have hw := wokB_iff.1 hk
 have e : waysLessF l = lessF l := by unfold waysLessF; rw [if_pos hk]
 rw [e]
 have hls := (less_sub l).length_le
 refine evB (impl_differ l (lessF l) (by omega) (by omega)) ?_
 have hd : (differF l (lessF l)).2 = false := (differ_iff hk (wokB_iff.2 (hw.sub (less_sub l)))).2 (fun x _ _ => (less_lead hw x).symm)
 rw [hd]
 exact less_l0' l hw (lessF l).length 0 (by omega)
end Go.Proofs.Ytkgbgaojglcaoaa.Pure
end
