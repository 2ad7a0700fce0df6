/- Contracts of the functions that the statement reaches, printed by a program out of the translation and joined with the plain laws. -/
import Derived.Lib.BitFns
import Derived.Lib.ItoaNum
import Derived.Lib.SlicesCompact
import Derived.Test.YtmanlcakdcoekaaGreatCFnWaysTo3
import Derived.Test.YtmanlcakdcoekaaGreatCFnWaysTo4
import Derived.Test.YtmanlcakdcoekaaGreatCFnWaysTo6
import Derived.Test.YtmanlcakdcoekaaGreatCFnWaysTo7
import Derived.Test.YtmanlcakdcoekaaGreatCFnWaysTo8
import Derived.Test.YtmanlcakdcoekaaGreatCFnWaysTo9
import Derived.Test.YtmanlcakdcoekaaGreatCFnWaysTo10
import Derived.Test.YtmanlcakdcoekaaGreatCFnWaysTo11
import Derived.Test.YtmanlcakdcoekaaGreatCFnWaysTo12
import Derived.Test.YtmanlcakdcoekaaGreatCFnWaysTo13
import Derived.Test.YtmanlcakdcoekaaGreatCFnWaysTo14
import Derived.Test.YtmanlcakdcoekaaGreatCFnWaysTo15
section
namespace Go.Proofs.YtmanlcakdcoekaaGreat.Z
open Go Go.RowKit Go.Proofs.YtmanlcakdcoekaaGreat.PAll Go.Proofs.YtmanlcakdcoekaaGreatW.PrintWords Go.Proofs.YtmanlcakdcoekaaGreatW.PrintLast Go.Proofs.YtmanlcakdcoekaaGreatW.PrintMore
set_option linter.unusedVariables false
set_option linter.unusedSimpArgs false
theorem spec_in (a l h : Int) : spec_l1In.f a l h = some (decide (l ≤ a ∧ a ≤ h)) := by
 unfold spec_l1In.f
 by_cases c : a ≥ l
 ·rw [if_pos c]; simp [c]
 ·rw [if_neg c]
  have : ¬ l ≤ a := by omega
  simp [this]
theorem impl_in (a l h : Int) : impl_in.f a l h = some (decide (l ≤ a ∧ a ≤ h)) := by
 unfold impl_in.f
 by_cases c : a ≥ l
 ·rw [if_pos c]; simp [c]
 ·rw [if_neg c]
  have : ¬ l ≤ a := by omega
  simp [this]
theorem spec_addr (a : Int) : spec_l1Addr.f a = some (decide (0 ≤ a ∧ a ≤ 4294967295)) := by simp only [spec_l1Addr.f, spec_in, Option.bind_some]
theorem impl_addr (a : Int) : impl_isAddr.f a = some (decide (0 ≤ a ∧ a ≤ 4294967295)) := by simp only [impl_isAddr.f, impl_in, Option.bind_some]
theorem two_loop (n : Nat) : ∀ (k : Nat) (c : Int), n ≤ 62 → n < k → 1 ≤ c → c * 2 ^ n ≤ 4611686018427387904 → spec_l1Two.l0 k (n : Int) c = some (c * 2 ^ n) := by
 induction n with
 | zero =>
  intro k c _ hk _ _
  obtain ⟨k, rfl⟩ : ∃ m, k = m + 1 := ⟨k - 1, by omega⟩
  simp only [spec_l1Two.l0]
  rw [if_neg (by omega)]
  simp
 | succ n ih =>
  intro k c hn hk hc hb
  obtain ⟨k, rfl⟩ : ∃ m, k = m + 1 := ⟨k - 1, by omega⟩
  have e : c * 2 ^ (n + 1) = c * 2 * 2 ^ n := by rw [Int.pow_succ, Int.mul_comm ((2 : Int) ^ n) 2, Int.mul_assoc]
  have hp : (1 : Int) ≤ 2 ^ n := by
   have : (0 : Int) < 2 ^ n := Int.pow_pos (by decide)
   omega
  have hc2 : c * 2 ≤ c * 2 * 2 ^ n := by
   have := Int.mul_le_mul_of_nonneg_left hp (by omega : (0 : Int) ≤ c * 2)
   omega
  simp only [spec_l1Two.l0]
  rw [e] at hb ⊢
  rw [if_pos (by omega), w64 (by omega), w64 (by omega)]
  have : ((n + 1 : Nat) : Int) - 1 = (n : Int) := by omega
  rw [this]
  exact ih k (c * 2) (by omega) (by omega) (by omega) hb
theorem spec_two {n : Int} (h0 : 0 ≤ n) (h1 : n ≤ 62) : (∃ K_, ∀ k, K_ ≤ k → spec_l1Two.f k n = some (2 ^ n.toNat)) := by
 refine ⟨n.toNat + 1, fun k hk => ?_⟩
 have e : (n.toNat : Int) = n := by omega
 have hp : (2 : Int) ^ n.toNat ≤ 2 ^ 62 := by
  exact_mod_cast Nat.pow_le_pow_right (n := 2) (by decide) (by omega : n.toNat ≤ 62)
 have := two_loop n.toNat k 1 (by omega) (by omega) (by omega) (by omega)
 rw [e, Int.one_mul] at this
 exact this
theorem spec_size {m : Int} (h0 : 0 ≤ m) (h1 : m ≤ 32) : (∃ K_, ∀ k, K_ ≤ k → spec_l1Size.f k m = some (sz m)) := by
 obtain ⟨K, h⟩ := spec_two (n := 32 - m) (by omega) (by omega)
 refine ⟨K, fun k hk => ?_⟩
 simp only [spec_l1Size.f]
 rw [w64 (by omega), h k hk]
 rfl
theorem impl_size {b m : Int} (h0 : 0 ≤ m) (h1 : m ≤ 32) : impl_Block_size.f b m = some (sz m) := by
 unfold impl_Block_size.f
 rw [w64 (by omega), if_pos (by omega), shl_sz h0 h1]
theorem tmod_beq {b s : Int} (hb : 0 ≤ b) : (Int.tmod b s == 0) = decide (b % s = 0) := by
 rw [Int.tmod_eq_emod_of_nonneg hb]
 rfl
theorem impl_ok (b m : Int) : impl_BlockOk.f b m = some (bokB b m) := by
 unfold impl_BlockOk.f
 rw [impl_addr, Option.bind_some]
 by_cases c : 0 ≤ b ∧ b ≤ 4294967295
 ·rw [if_pos (by simpa using c), impl_in, Option.bind_some]
  by_cases d : 0 ≤ m ∧ m ≤ 32
  ·rw [if_pos (by simpa using d), impl_size d.1 d.2, Option.bind_some, if_neg (by have := sz_pos m; omega), tmod_beq c.1]
   simp [bokB, bok, c, d]
  ·rw [if_neg (by simpa using d)]
   exact congrArg some (bokB_false.2 (fun h => d ⟨h.2.2.1, h.2.2.2.1⟩)).symm
 ·rw [if_neg (by simpa using c)]
  exact congrArg some (bokB_false.2 (fun h => c ⟨h.1, h.2.1⟩)).symm
theorem spec_ok (b m : Int) : (∃ K_, ∀ k, K_ ≤ k → spec_BlockOk.f k b m = some (bokB b m)) := by
 by_cases c : 0 ≤ b ∧ b ≤ 4294967295
 ·by_cases d : 0 ≤ m ∧ m ≤ 32
  ·obtain ⟨K, h⟩ := spec_size d.1 d.2
   refine ⟨K, fun k hk => ?_⟩
   simp only [spec_BlockOk.f]
   rw [spec_addr, Option.bind_some, if_pos (by simpa using c), spec_in, Option.bind_some, if_pos (by simpa using d), h k hk, Option.bind_some, if_neg (by have := sz_pos m; omega), tmod_beq c.1]
   simp [bokB, bok, c, d]
  ·refine ⟨0, fun k _ => ?_⟩
   simp only [spec_BlockOk.f]
   rw [spec_addr, Option.bind_some, if_pos (by simpa using c), spec_in, Option.bind_some, if_neg (by simpa using d)]
   exact congrArg some (bokB_false.2 (fun h => d ⟨h.2.2.1, h.2.2.2.1⟩)).symm
 ·refine ⟨0, fun k _ => ?_⟩
  simp only [spec_BlockOk.f]
  rw [spec_addr, Option.bind_some, if_neg (by simpa using c)]
  exact congrArg some (bokB_false.2 (fun h => c ⟨h.1, h.2.1⟩)).symm
theorem sz_bd {m : Int} (h0 : 0 ≤ m) : 1 ≤ sz m ∧ sz m ≤ 4294967296 := ⟨sz_pos m, sz_top h0⟩
theorem impl_last {b m : Int} (hb0 : 0 ≤ b) (hb1 : b ≤ 4611686018427387904) (h0 : 0 ≤ m) (h1 : m ≤ 32) : impl_Block_last.f b m = some (b + sz m - 1) := by
 have := sz_bd h0
 unfold impl_Block_last.f
 rw [impl_size h0 h1, Option.bind_some, w64 (n := b + sz m) (by omega), w64 (by omega)]
theorem spec_last {b m : Int} (hb0 : -1 ≤ b) (hb1 : b ≤ 4611686018427387904) (h0 : 0 ≤ m) (h1 : m ≤ 32) : (∃ K_, ∀ k, K_ ≤ k → spec_l1Last.f k b m = some (b + sz m - 1)) := by
 have := sz_bd h0
 obtain ⟨K, h⟩ := spec_size h0 h1
 refine ⟨K, fun k hk => ?_⟩
 simp only [spec_l1Last.f]
 rw [h k hk, Option.bind_some, w64 (n := b + sz m) (by omega), w64 (by omega)]
/-- Is an address in a block? -/
def hasB (b m a : Int) : Bool := decide (b ≤ a ∧ a ≤ b + sz m - 1)
theorem hasB_iff {b m a : Int} : hasB b m a = true ↔ b ≤ a ∧ a < b + sz m := by simp only [hasB, decide_eq_true_eq]; omega
theorem impl_has {b m : Int} (a : Int) (hb0 : 0 ≤ b) (hb1 : b ≤ 4611686018427387904) (h0 : 0 ≤ m) (h1 : m ≤ 32) : impl_Block_has.f b m a = some (hasB b m a) := by
 unfold impl_Block_has.f
 rw [impl_last hb0 hb1 h0 h1, Option.bind_some, impl_in, Option.bind_some]
 rfl
abbrev P2 := Int × Int
def inS (L : List P2) (x : Int) : Prop := ∃ s ∈ L, s.1 ≤ x ∧ x ≤ s.2
def Full (L : List P2) : Prop := ∀ s ∈ L, s.1 ≤ s.2
/-- In order, none empty, none beside another one. -/
structure Can (L : List P2) : Prop where
 full : Full L
 sorted : L.Pairwise fun s t => s.2 + 1 < t.1
theorem Can.tail {s : P2} {L : List P2} (h : Can (s :: L)) : Can L := ⟨fun t ht => h.full t (List.mem_cons_of_mem _ ht), (List.pairwise_cons.1 h.sorted).2⟩
theorem Can.head {s : P2} {L : List P2} (h : Can (s :: L)) : s.1 ≤ s.2 ∧ ∀ t ∈ L, s.2 + 1 < t.1 := ⟨h.full s (List.mem_cons_self ..), (List.pairwise_cons.1 h.sorted).1⟩
theorem Can.cons {s : P2} {L : List P2} (h : Can L) (h1 : s.1 ≤ s.2) (h2 : ∀ t ∈ L, s.2 + 1 < t.1) : Can (s :: L) :=
 ⟨fun t ht => (List.mem_cons.1 ht).elim (fun e => e ▸ h1) (h.full t), List.pairwise_cons.2 ⟨h2, h.sorted⟩⟩
theorem inS_cons {s : P2} {L : List P2} {x : Int} : inS (s :: L) x ↔ (s.1 ≤ x ∧ x ≤ s.2) ∨ inS L x := by
 unfold inS
 constructor
 ·rintro ⟨t, ht, h⟩
  rcases List.mem_cons.1 ht with rfl | ht
  ·exact .inl h
  ·exact .inr ⟨t, ht, h⟩
 ·rintro (h | ⟨t, ht, h⟩)
  ·exact ⟨s, List.mem_cons_self .., h⟩
  ·exact ⟨t, List.mem_cons_of_mem _ ht, h⟩
theorem inS_nil {x : Int} : ¬ inS [] x := fun ⟨_, h, _⟩ => by cases h
theorem can_ext : ∀ {L M : List P2}, Can L → Can M → (∀ x, inS L x ↔ inS M x) → L = M
 | [], [], _, _, _ => rfl
 | [], t :: M, _, hm, h => absurd ((h t.1).2 ⟨t, List.mem_cons_self .., Int.le_refl _, hm.head.1⟩) inS_nil
 | s :: L, [], hl, _, h => absurd ((h s.1).1 ⟨s, List.mem_cons_self .., Int.le_refl _, hl.head.1⟩) inS_nil
 | (a, b) :: L, (c, d) :: M, hl, hm, h => by
  obtain ⟨l1, l2⟩ := hl.head
  obtain ⟨m1, m2⟩ := hm.head
  simp only [] at l1 l2 m1 m2
  have far : ∀ {K : List P2} {e x : Int}, (∀ t ∈ K, e + 1 < t.1) → inS K x → e + 1 < x := fun hk ⟨t, ht, q⟩ => by have := hk t ht; omega
  have low : ∀ {e f x : Int} {K : List P2}, e ≤ f → (∀ t ∈ K, f + 1 < t.1) → inS ((e, f) :: K) x → e ≤ x := fun he hk hx => by
   rcases inS_cons.1 hx with q | q
   ·exact q.1
   ·have := far hk q; omega
  have e1 : a = c := by
   have p := low m1 m2 ((h a).1 (inS_cons.2 (.inl ⟨Int.le_refl _, l1⟩)))
   have q := low l1 l2 ((h c).2 (inS_cons.2 (.inl ⟨Int.le_refl _, m1⟩)))
   omega
  subst e1
  have e2 : b = d := by
   have two : ∀ {b d : Int} {L M : List P2}, a ≤ b → a ≤ d → (∀ t ∈ L, b + 1 < t.1) → (∀ x, inS ((a, d) :: M) x → inS ((a, b) :: L) x) → d ≤ b := fun {b d L M} hb hd hk hx => by
    rcases Int.lt_or_le b d with q | q
    ·rcases inS_cons.1 (hx (b + 1) (inS_cons.2 (.inl ⟨by omega, by omega⟩))) with r | r
     ·simp only [] at r; omega
     ·have := far hk r; omega
    ·exact q
   have p := two l1 m1 l2 (fun x hx => (h x).2 hx)
   have q := two m1 l1 m2 (fun x hx => (h x).1 hx)
   omega
  subst e2
  congr 1
  refine can_ext hl.tail hm.tail fun x => ?_
  constructor
  ·intro hx
   rcases inS_cons.1 ((h x).1 (inS_cons.2 (.inr hx))) with q | q
   ·have := far l2 hx; simp only [] at q; omega
   ·exact q
  ·intro hx
   rcases inS_cons.1 ((h x).2 (inS_cons.2 (.inr hx))) with q | q
   ·have := far m2 hx; simp only [] at q; omega
   ·exact q
def mrg : P2 → List P2 → List P2
 | c, [] => [c]
 | c, s :: l => if s.1 ≤ c.2 + 1 then mrg (c.1, mx c.2 s.2) l else c :: mrg s l
def mergeF : List P2 → List P2
 | [] => []
 | s :: l => mrg s l
theorem mx_le (a b : Int) : a ≤ mx a b ∧ b ≤ mx a b ∧ (mx a b = a ∨ mx a b = b) := by unfold mx; split <;> omega
theorem mrg_spec : ∀ (l : List P2) (c : P2), c.1 ≤ c.2 → Full l → (c :: l).Pairwise (fun s t => s.1 ≤ t.1) → Can (mrg c l) ∧ (∀ x, inS (mrg c l) x ↔ inS (c :: l) x) ∧ (∀ t ∈ mrg c l, c.1 ≤ t.1)
 | [], c, hc, _, _ => ⟨⟨fun t ht => by rw [List.mem_singleton.1 ht]; exact hc, List.pairwise_singleton _ _⟩, fun x => Iff.rfl, fun t ht => by rw [List.mem_singleton.1 ht]; exact Int.le_refl _⟩
 | s :: l, c, hc, hf, hp => by
  have hs := hf s (List.mem_cons_self ..)
  have hl : Full l := fun t ht => hf t (List.mem_cons_of_mem _ ht)
  obtain ⟨p1, p2⟩ := List.pairwise_cons.1 hp
  obtain ⟨p3, p4⟩ := List.pairwise_cons.1 p2
  have hcs := p1 s (List.mem_cons_self ..)
  obtain ⟨x1, x2, x3⟩ := mx_le c.2 s.2
  unfold mrg
  split
  ·rename_i h
   obtain ⟨r1, r2, r3⟩ := mrg_spec l (c.1, mx c.2 s.2) (by simp only []; omega) hl (List.pairwise_cons.2 ⟨fun t ht => p1 t (List.mem_cons_of_mem _ ht), p4⟩)
   refine ⟨r1, fun x => ?_, r3⟩
   rw [r2, inS_cons, inS_cons, inS_cons, ← or_assoc]
   refine or_congr ?_ Iff.rfl
   simp only []
   constructor
   ·intro q
    by_cases c1 : x ≤ c.2
    ·exact .inl ⟨q.1, c1⟩
    ·exact .inr ⟨by omega, by rcases x3 with e | e <;> omega⟩
   ·rintro (q | q) <;> exact ⟨by omega, by omega⟩
  ·rename_i h
   obtain ⟨r1, r2, r3⟩ := mrg_spec l s hs hl p2
   refine ⟨r1.cons hc (fun t ht => by have := r3 t ht; omega), fun x => ?_, fun t ht => ?_⟩
   ·rw [inS_cons, r2, inS_cons (s := c)]
   ·rcases List.mem_cons.1 ht with rfl | ht
    ·exact Int.le_refl _
    ·have := r3 t ht; omega
theorem merge_spec {l : List P2} (hf : Full l) (hp : l.Pairwise (fun s t => s.1 ≤ t.1)) : Can (mergeF l) ∧ ∀ x, inS (mergeF l) x ↔ inS l x := by
 cases l with
 | nil => exact ⟨⟨fun t ht => (by cases ht), List.Pairwise.nil⟩, fun x => Iff.rfl⟩
 | cons s l =>
  obtain ⟨h1, h2, _⟩ := mrg_spec l s (hf s (List.mem_cons_self ..)) (fun t ht => hf t (List.mem_cons_of_mem _ ht)) hp
  exact ⟨h1, h2⟩
theorem mrg_len : ∀ (l : List P2) (c : P2), (mrg c l).length ≤ l.length + 1
 | [], _ => Nat.le_refl _
 | s :: l, c => by
  unfold mrg
  split
  ·have := mrg_len l (c.1, mx c.2 s.2); simp only [List.length_cons]; omega
  ·have := mrg_len l s; simp only [List.length_cons]; omega
theorem merge_len (l : List P2) : (mergeF l).length ≤ l.length := by
 cases l with
 | nil => exact Nat.le_refl _
 | cons s l => exact mrg_len l s
def insP (x : P2) : List P2 → List P2
 | [] => [x]
 | y :: l => if y.1 < x.1 then y :: insP x l else x :: y :: l
def isort (l : List P2) : List P2 := l.foldl (fun acc x => insP x acc) []
theorem insP_perm (x : P2) : ∀ l : List P2, (insP x l).Perm (x :: l)
 | [] => List.Perm.refl _
 | y :: l => by
  unfold insP
  split
  ·exact ((insP_perm x l).cons y).trans (List.Perm.swap x y l)
  ·exact List.Perm.refl _
theorem insP_sorted {x : P2} : ∀ {l : List P2}, l.Pairwise (fun s t => s.1 ≤ t.1) → (insP x l).Pairwise (fun s t => s.1 ≤ t.1)
 | [], _ => List.pairwise_singleton _ _
 | y :: l, h => by
  obtain ⟨h1, h2⟩ := List.pairwise_cons.1 h
  unfold insP
  split
  ·rename_i c
   refine List.pairwise_cons.2 ⟨fun t ht => ?_, insP_sorted h2⟩
   rcases List.mem_cons.1 ((insP_perm x l).mem_iff.1 ht) with rfl | ht
   ·omega
   ·exact h1 t ht
  ·rename_i c
   refine List.pairwise_cons.2 ⟨fun t ht => ?_, h⟩
   rcases List.mem_cons.1 ht with rfl | ht
   ·omega
   ·have := h1 t ht; omega
theorem isort_go : ∀ (l acc : List P2), acc.Pairwise (fun s t => s.1 ≤ t.1) → (l.foldl (fun acc x => insP x acc) acc).Pairwise (fun s t => s.1 ≤ t.1) ∧ (l.foldl (fun acc x => insP x acc) acc).Perm (acc ++ l)
 | [], acc, h => ⟨h, by rw [List.append_nil]; exact List.Perm.refl _⟩
 | x :: l, acc, h => by
  obtain ⟨h1, h2⟩ := isort_go l (insP x acc) (insP_sorted h)
  refine ⟨h1, h2.trans ?_⟩
  refine ((insP_perm x acc).append_right l).trans ?_
  exact List.perm_middle.symm
theorem isort_spec (l : List P2) : (isort l).Pairwise (fun s t => s.1 ≤ t.1) ∧ (isort l).Perm l := isort_go l [] List.Pairwise.nil
theorem inS_perm {l m : List P2} (h : l.Perm m) {x : Int} : inS l x ↔ inS m x := by
 unfold inS
 constructor
 ·rintro ⟨s, hs, q⟩; exact ⟨s, h.mem_iff.1 hs, q⟩
 ·rintro ⟨s, hs, q⟩; exact ⟨s, h.mem_iff.2 hs, q⟩
theorem Full.perm {l m : List P2} (h : l.Perm m) (hf : Full m) : Full l := fun s hs => hf s (h.mem_iff.1 hs)
/-- The one form of some spans. -/
def canF (l : List P2) : List P2 := mergeF (isort l)
theorem canF_spec {l : List P2} (hf : Full l) : Can (canF l) ∧ ∀ x, inS (canF l) x ↔ inS l x := by
 obtain ⟨h1, h2⟩ := isort_spec l
 obtain ⟨h3, h4⟩ := merge_spec (hf.perm h2) h1
 exact ⟨h3, fun x => (h4 x).trans (inS_perm h2)⟩
theorem canF_of {l m : List P2} (hf : Full l) (hm : Can m) (h : ∀ x, inS l x ↔ inS m x) : canF l = m := by
 obtain ⟨h1, h2⟩ := canF_spec hf
 exact can_ext h1 hm fun x => (h2 x).trans (h x)
theorem canF_sorted {l m : List P2} (hf : Full l) (hp : l.Perm m) (hs : l.Pairwise (fun s t => s.1 ≤ t.1)) : mergeF l = canF m := by
 obtain ⟨h1, h2⟩ := merge_spec hf hs
 obtain ⟨h3, h4⟩ := canF_spec (hf.perm hp.symm)
 exact can_ext h1 h3 fun x => (h2 x).trans ((inS_perm hp).trans (h4 x).symm)
theorem canF_len (l : List P2) : (canF l).length ≤ l.length := by
 have := merge_len (isort l)
 rw [(isort_spec l).2.length_eq] at this
 exact this
/-- Bounds are kept. -/
theorem inS_bd {L : List P2} (hf : Full L) {m M : Int} (h : ∀ x, inS L x → m ≤ x ∧ x ≤ M) : ∀ s ∈ L, m ≤ s.1 ∧ s.2 ≤ M := fun s hs => by
 have := hf s hs
 exact ⟨(h s.1 ⟨s, hs, Int.le_refl _, this⟩).1, (h s.2 ⟨s, hs, this, Int.le_refl _⟩).2⟩
abbrev Bl := S32
def okM (a t : Int) (m : Int) : Prop := a % sz m = 0 ∧ a + sz m - 1 ≤ t
instance (a t m : Int) : Decidable (okM a t m) := by unfold okM; infer_instance
theorem okM.up {a t m n : Int} (h : okM a t m) (hn : m ≤ n) : okM a t n := by
 have h1 := sz_le hn
 exact ⟨Int.emod_eq_zero_of_dvd (Int.dvd_trans (sz_dvd hn) (Int.dvd_of_emod_eq_zero h.1)), by have := h.2; omega⟩
theorem okM_top {a t : Int} (h : a ≤ t) : okM a t 32 := by
 refine ⟨?_, ?_⟩
 ·rw [sz_32]; exact Int.emod_one a
 ·rw [sz_32]; omega
def dnM (a t : Int) : Nat → Nat
 | 0 => 0
 | m + 1 => if okM a t (m : Int) then dnM a t m else m + 1
theorem dnM_spec {a t : Int} : ∀ n : Nat, okM a t (n : Int) → okM a t (dnM a t n : Int) ∧ dnM a t n ≤ n ∧ ∀ m : Nat, m < dnM a t n → ¬ okM a t (m : Int)
 | 0, h => ⟨h, Nat.le_refl _, fun m hm => absurd hm (by simp [dnM])⟩
 | n + 1, h => by
  unfold dnM
  split
  ·rename_i c
   obtain ⟨h1, h2, h3⟩ := dnM_spec n c
   exact ⟨h1, by omega, h3⟩
  ·rename_i c
   exact ⟨h, Nat.le_refl _, fun m hm q => c (q.up (by omega))⟩
def bitsM (a t : Int) : Nat := dnM a t 32
theorem bitsM_spec {a t : Int} (h : a ≤ t) : okM a t (bitsM a t : Int) ∧ bitsM a t ≤ 32 ∧ ∀ m : Nat, m < bitsM a t → ¬ okM a t (m : Int) := dnM_spec 32 (okM_top h)
theorem bitsM_eq {a t : Int} {m : Nat} (h : a ≤ t) (h1 : okM a t (m : Int)) (h2 : ∀ q : Nat, q < m → ¬ okM a t (q : Int)) : bitsM a t = m := by
 obtain ⟨k1, k2, k3⟩ := bitsM_spec h
 rcases Nat.lt_trichotomy (bitsM a t) m with q | q | q
 ·exact absurd k1 (h2 _ q)
 ·exact q
 ·exact absurd h1 (k3 _ q)
def covN : Nat → Int → Int → List Bl
 | 0, _, _ => []
 | n + 1, a, t => if a ≤ t then ⟨a, (bitsM a t : Int)⟩ :: covN n (a + sz (bitsM a t : Int)) t else []
def covF (a t : Int) : List Bl := covN (t - a + 1).toNat a t
theorem covN_fuel {t : Int} : ∀ (n m : Nat) (a : Int), (t - a + 1).toNat ≤ n → (t - a + 1).toNat ≤ m → covN n a t = covN m a t
 | 0, 0, _, _, _ => rfl
 | 0, m + 1, a, h, _ => by unfold covN; rw [if_neg (by omega)]
 | n + 1, 0, a, _, h => by unfold covN; rw [if_neg (by omega)]
 | n + 1, m + 1, a, h, h' => by
  unfold covN
  split
  ·have := sz_pos (bitsM a t : Int)
   rw [covN_fuel n m _ (by omega) (by omega)]
  ·rfl
theorem covF_step {a t : Int} (h : a ≤ t) : covF a t = ⟨a, (bitsM a t : Int)⟩ :: covF (a + sz (bitsM a t : Int)) t := by
 have := sz_pos (bitsM a t : Int)
 unfold covF
 obtain ⟨n, hn⟩ : ∃ n, (t - a + 1).toNat = n + 1 := ⟨(t - a + 1).toNat - 1, by omega⟩
 rw [hn]
 conv => lhs; unfold covN
 rw [if_pos h, covN_fuel n _ _ (by omega) (Nat.le_refl _)]
theorem covF_end {a t : Int} (h : t < a) : covF a t = [] := by
 unfold covF
 rw [show (t - a + 1).toNat = 0 by omega]
 rfl
def spanP (b : Bl) : P2 := (b.f0, b.f0 + sz b.f1 - 1)
def spansP (l : List Bl) : List P2 := l.map spanP
theorem spansP_full (l : List Bl) : Full (spansP l) := fun s hs => by
 obtain ⟨b, _, rfl⟩ := List.mem_map.1 hs
 have := sz_pos b.f1
 show b.f0 ≤ b.f0 + sz b.f1 - 1
 omega
theorem inS_spans {l : List Bl} {x : Int} : inS (spansP l) x ↔ ∃ b ∈ l, hasB b.f0 b.f1 x = true := by
 unfold inS spansP
 constructor
 ·rintro ⟨s, hs, q⟩
  obtain ⟨b, hb, rfl⟩ := List.mem_map.1 hs
  exact ⟨b, hb, by simp only [spanP] at q; simp only [hasB, decide_eq_true_eq]; exact q⟩
 ·rintro ⟨b, hb, q⟩
  exact ⟨spanP b, List.mem_map.2 ⟨b, hb, rfl⟩, by simp only [hasB, decide_eq_true_eq] at q; exact q⟩
/-- Blocks one behind another; no two halves of one side by side. -/
def nextB (b c : Bl) : Prop := b.f0 + sz b.f1 ≤ c.f0 ∧ (b.f1 = c.f1 → 1 ≤ b.f1 → c.f0 = b.f0 + sz b.f1 → ¬ b.f0 % sz (b.f1 - 1) = 0)
theorem cov_spec {t : Int} (ht : t ≤ 4294967295) : ∀ (n : Nat) (a : Int), 0 ≤ a → (t - a + 1).toNat ≤ n →
  (∀ b ∈ covF a t, bok b.f0 b.f1 ∧ a ≤ b.f0 ∧ b.f0 + sz b.f1 - 1 ≤ t) ∧ (∀ x, inS (spansP (covF a t)) x ↔ a ≤ x ∧ x ≤ t) ∧ (covF a t).Pairwise nextB := by
 intro n
 induction n with
 | zero =>
  intro a h0 hn
  rw [covF_end (by omega)]
  exact ⟨fun b hb => (by cases hb), fun x => ⟨fun h => absurd h inS_nil, fun h => (by omega)⟩, List.Pairwise.nil⟩
 | succ n ih =>
  intro a h0 hn
  by_cases c : a ≤ t
  ·obtain ⟨k1, k2, k3⟩ := bitsM_spec c
   have hp := sz_pos (bitsM a t : Int)
   obtain ⟨i1, i2, i3⟩ := ih (a + sz (bitsM a t : Int)) (by omega) (by omega)
   rw [covF_step c]
   refine ⟨fun b hb => ?_, fun x => ?_, List.pairwise_cons.2 ⟨fun d hd => ?_, i3⟩⟩
   ·rcases List.mem_cons.1 hb with rfl | hb
    ·exact ⟨⟨h0, by simp only []; omega, by simp only []; omega, by simp only []; omega, k1.1⟩, Int.le_refl _, k1.2⟩
    ·obtain ⟨j1, j2, j3⟩ := i1 b hb
     exact ⟨j1, by omega, j3⟩
   ·show inS ((a, a + sz (bitsM a t : Int) - 1) :: spansP (covF (a + sz (bitsM a t : Int)) t)) x ↔ _
    rw [inS_cons, i2]
    have := k1.2
    simp only []
    omega
   ·obtain ⟨j1, j2, j3⟩ := i1 d hd
    refine ⟨j2, fun e1 e2 e3 q => ?_⟩
    simp only [] at e1 e2 e3 q
    have hm : (bitsM a t : Int) - 1 = ((bitsM a t - 1 : Nat) : Int) := by omega
    refine k3 (bitsM a t - 1) (by omega) ⟨by rw [← hm]; exact q, ?_⟩
    have hh := sz_half (m := (bitsM a t : Int) - 1) (by omega)
    rw [Int.sub_add_cancel] at hh
    rw [← hm, hh]
    rw [← e1] at j3
    omega
  ·rw [covF_end (by omega)]
   exact ⟨fun b hb => (by cases hb), fun x => ⟨fun h => absurd h inS_nil, fun h => (by omega)⟩, List.Pairwise.nil⟩
/-- How many there can be. -/
theorem cov_small {t : Int} : ∀ (j : Nat) (a : Int), j ≤ 32 → a % sz (32 - (j : Int)) = 0 → t - a + 1 < sz (32 - (j : Int)) → (covF a t).length ≤ j
 | 0, a, _, _, h => by
  have h1 : sz (32 - ((0 : Nat) : Int)) = 1 := rfl
  rw [h1] at h
  rw [covF_end (by omega)]
  exact Nat.le_refl _
 | j + 1, a, hj, hd, hr => by
  have e : (32 - ((j + 1 : Nat) : Int)) + 1 = 32 - (j : Int) := by omega
  have hh := sz_half (m := 32 - ((j + 1 : Nat) : Int)) (by omega)
  rw [e] at hh
  have hp := sz_pos (32 - (j : Int))
  have hd2 : a % sz (32 - (j : Int)) = 0 := Int.emod_eq_zero_of_dvd (Int.dvd_trans (sz_dvd (m := 32 - ((j + 1 : Nat) : Int)) (by omega)) (Int.dvd_of_emod_eq_zero hd))
  by_cases c : t - a + 1 < sz (32 - (j : Int))
  ·have := cov_small j a (by omega) hd2 c
   omega
  ·have hb : bitsM a t = 32 - j := by
    have e2 : ((32 - j : Nat) : Int) = 32 - (j : Int) := by omega
    refine bitsM_eq (by omega) (by rw [e2]; exact ⟨hd2, by omega⟩) (fun q hq h => ?_)
    have := (h.up (n := 32 - ((j + 1 : Nat) : Int)) (by omega)).2
    omega
   have e2 : ((bitsM a t : Nat) : Int) = 32 - (j : Int) := by omega
   rw [covF_step (by omega), e2]
   have := cov_small (t := t) j (a + sz (32 - (j : Int))) (by omega) (by rw [Int.add_emod_right]; exact hd2) (by omega)
   simp only [List.length_cons]
   omega
theorem cov_len {t : Int} (ht : t ≤ 4294967295) : ∀ (d : Nat) (a : Int), d ≤ 32 → 0 ≤ a → a % sz (d : Int) = 0 → (covF a t).length ≤ 32 + d
 | 0, a, _, h0, hd => by
  have h1 : sz ((0 : Nat) : Int) = 4294967296 := rfl
  rw [h1] at hd
  by_cases c : a ≤ t
  ·have e : a = 0 := by omega
   subst e
   by_cases c2 : t = 4294967295
   ·subst c2
    rw [covF_step (by omega), show ((bitsM 0 4294967295 : Nat) : Int) = 0 from ?_]
    ·rw [covF_end (by have h1 : sz 0 = 4294967296 := rfl; omega)]
     simp
    ·have : bitsM 0 4294967295 = 0 := bitsM_eq (by omega) ⟨by decide, by have h1 : sz ((0 : Nat) : Int) = 4294967296 := rfl; omega⟩ (fun q hq => absurd hq (by omega))
     rw [this]; rfl
   ·exact cov_small 32 0 (by omega) (by simp) (by have h1 : sz (32 - ((32 : Nat) : Int)) = 4294967296 := rfl; omega)
  ·rw [covF_end (by omega)]
   simp
 | d + 1, a, hd1, h0, hd => by
  have hh := sz_half (m := (d : Int)) (by omega)
  have e : (d : Int) + 1 = ((d + 1 : Nat) : Int) := by omega
  rw [e] at hh
  have hp := sz_pos ((d + 1 : Nat) : Int)
  by_cases c : a % sz (d : Int) = 0
  ·have := cov_len ht d a (by omega) h0 c
   omega
  ·by_cases c2 : t - a + 1 < sz ((d + 1 : Nat) : Int)
   ·have := cov_small (t := t) (32 - (d + 1)) a (by omega) (by rw [show 32 - ((32 - (d + 1) : Nat) : Int) = ((d + 1 : Nat) : Int) by omega]; exact hd) (by rw [show 32 - ((32 - (d + 1) : Nat) : Int) = ((d + 1 : Nat) : Int) by omega]; exact c2)
    omega
   ·have hb : bitsM a t = d + 1 := bitsM_eq (by omega) ⟨hd, by omega⟩ (fun q hq h => c (h.up (n := (d : Int)) (by omega)).1)
    rw [covF_step (by omega), hb]
    obtain ⟨z, hz⟩ := Int.dvd_of_emod_eq_zero hd
    have ho : (a + sz ((d + 1 : Nat) : Int)) % sz (d : Int) = 0 := by
     rcases Int.emod_two_eq z with hz2 | hz2
     ·exfalso
      apply c
      obtain ⟨y, rfl⟩ := Int.dvd_of_emod_eq_zero hz2
      rw [hz, hh]
      refine Int.emod_eq_zero_of_dvd ⟨y, ?_⟩
      rw [← Int.mul_assoc, Int.mul_comm 2]
     ·obtain ⟨y, hy⟩ : ∃ y, z = 2 * y + 1 := ⟨z / 2, by omega⟩
      rw [hz, hh, hy]
      refine Int.emod_eq_zero_of_dvd ⟨y + 1, ?_⟩
      rw [Int.mul_add, Int.mul_add, Int.mul_one, Int.mul_one, ← Int.mul_assoc, Int.mul_comm 2, Int.add_assoc]
      omega
    have := cov_len ht d (a + sz ((d + 1 : Nat) : Int)) (by omega) (by omega) ho
    simp only [List.length_cons]
    omega
theorem covF_len {a t : Int} (h0 : 0 ≤ a) (ht : t ≤ 4294967295) : (covF a t).length ≤ 64 := cov_len ht 32 a (by omega) h0 (by rw [show sz ((32 : Nat) : Int) = 1 from rfl]; exact Int.emod_one a)
/-- The blocks of spans. -/
def coverF (L : List P2) : List Bl := L.flatMap fun s => covF s.1 s.2
def InB (L : List P2) : Prop := ∀ s ∈ L, 0 ≤ s.1 ∧ s.2 ≤ 4294967295
theorem cover_ok {L : List P2} (hb : InB L) : ∀ b ∈ coverF L, bok b.f0 b.f1 := fun b h => by
 obtain ⟨s, hs, h⟩ := List.mem_flatMap.1 h
 exact ((cov_spec (hb s hs).2 _ s.1 (hb s hs).1 (Nat.le_refl _)).1 b h).1
theorem cover_in {L : List P2} (hb : InB L) (x : Int) : inS (spansP (coverF L)) x ↔ inS L x := by
 rw [inS_spans]
 constructor
 ·rintro ⟨b, h, q⟩
  obtain ⟨s, hs, h⟩ := List.mem_flatMap.1 h
  exact ⟨s, hs, ((cov_spec (hb s hs).2 _ s.1 (hb s hs).1 (Nat.le_refl _)).2.1 x).1 (inS_spans.2 ⟨b, h, q⟩)⟩
 ·rintro ⟨s, hs, q⟩
  obtain ⟨b, h, r⟩ := inS_spans.1 (((cov_spec (hb s hs).2 _ s.1 (hb s hs).1 (Nat.le_refl _)).2.1 x).2 q)
  exact ⟨b, List.mem_flatMap.2 ⟨s, hs, h⟩, r⟩
theorem cover_len {L : List P2} (hb : InB L) : (coverF L).length ≤ 64 * L.length := by
 induction L with
 | nil => simp [coverF]
 | cons s L ih =>
  have h1 := covF_len (hb s (List.mem_cons_self ..)).1 (hb s (List.mem_cons_self ..)).2
  have h2 := ih (fun u hu => hb u (List.mem_cons_of_mem _ hu))
  unfold coverF at h2 ⊢
  rw [List.flatMap_cons, List.length_append, List.length_cons]
  omega
theorem bl_ext {a b : Bl} (h : a.f0 = b.f0 ∧ a.f1 = b.f1) : a = b := by
 cases a; cases b
 obtain ⟨h1, h2⟩ := h
 simp only [] at h1 h2
 rw [h1, h2]
instance : DecidableEq Bl := fun a b => decidable_of_iff (a.f0 = b.f0 ∧ a.f1 = b.f1) ⟨bl_ext, fun h => by rw [h]; exact ⟨rfl, rfl⟩⟩
def stF (l : List Bl) : List Bl := coverF (canF (spansP l))
def okB (l : List Bl) : Bool := decide (l.length ≤ 64) && l.all fun b => bokB b.f0 b.f1
def sokB (l : List Bl) : Bool := okB l && decide (stF l = l)
theorem okB_iff {l : List Bl} : okB l = true ↔ l.length ≤ 64 ∧ ∀ b ∈ l, bok b.f0 b.f1 := by
 unfold okB
 rw [Bool.and_eq_true, decide_eq_true_eq, List.all_eq_true]
 simp only [bokB_true]
theorem spans_in {l : List Bl} (h : ∀ b ∈ l, bok b.f0 b.f1) : InB (spansP l) := fun s hs => by
 obtain ⟨b, hb, rfl⟩ := List.mem_map.1 hs
 have h1 := h b hb
 have := h1.last
 exact ⟨h1.1, by show b.f0 + sz b.f1 - 1 ≤ 4294967295; omega⟩
theorem canF_in {L : List P2} (hf : Full L) (hb : InB L) : InB (canF L) := by
 obtain ⟨h1, h2⟩ := canF_spec hf
 refine inS_bd h1.full fun x hx => ?_
 obtain ⟨s, hs, q⟩ := (h2 x).1 hx
 have := hb s hs
 omega
theorem canSp {l : List Bl} (h : ∀ b ∈ l, bok b.f0 b.f1) : Can (canF (spansP l)) ∧ InB (canF (spansP l)) := ⟨(canF_spec (spansP_full l)).1, canF_in (spansP_full l) (spans_in h)⟩
theorem set_cover {L : List P2} (hc : Can L) (hb : InB L) : stF (coverF L) = coverF L := by
 unfold stF
 rw [canF_of (spansP_full _) hc (cover_in hb)]
theorem sok_cover {L : List P2} (hc : Can L) (hb : InB L) (hl : (coverF L).length ≤ 64) : sokB (coverF L) = true := by
 unfold sokB
 rw [Bool.and_eq_true, decide_eq_true_eq, okB_iff]
 exact ⟨⟨hl, cover_ok hb⟩, set_cover hc hb⟩
theorem sok_iff {l : List Bl} : sokB l = true ↔ l.length ≤ 64 ∧ (∀ b ∈ l, bok b.f0 b.f1) ∧ stF l = l := by
 unfold sokB
 rw [Bool.and_eq_true, decide_eq_true_eq, okB_iff, and_assoc]
/-- Bytes that are drawn from. -/
def Bytes (s : List Int) : Prop := (∀ x ∈ s, 0 ≤ x ∧ x ≤ 255) ∧ s.length ≤ 2000
theorem rd_byte {s : List Int} (h : Bytes s) (i : Int) : 0 ≤ rd s i ∧ rd s i ≤ 255 := by
 unfold rd
 rw [List.getD_eq_getElem?_getD]
 cases e : s[i.toNat]? with
 | none => simp
 | some x => simpa using h.1 x (List.mem_of_getElem? e)
theorem pick_aux (k : Nat) (s : List Int) (p n : Int) (hs : Bytes s) (hp0 : 0 ≤ p) (hp1 : p ≤ 1000000000000) (hn0 : 1 ≤ n) (hn1 : n ≤ 2147483648) :
  ∃ v, spec_l1Rd_pick.f (k + 1) s p n = some (v, p + 1) ∧ 0 ≤ v ∧ v < n := by
 have e1 : wrap64 (p + 1) = p + 1 := w64 (by omega)
 have e2 : wrap64 (p + 1 - 1) = p := by rw [w64 (by omega)]; omega
 unfold spec_l1Rd_pick.f
 rw [if_neg (by omega), e1]
 simp only [spec_l1Rd_pick.j0, e2]
 by_cases h0 : (s.length : Int) = 0
 ·rw [if_pos (beq_iff_eq.2 h0)]
  exact ⟨0, rfl, by omega, by omega⟩
 ·rw [if_neg (fun h => h0 (beq_iff_eq.1 h))]
  have hl := hs.2
  by_cases h1 : p < (s.length : Int)
  ·rw [if_pos h1, if_pos hp0, if_neg (by omega)]
   have hb := rd_byte hs p
   rw [w64 (by omega), Int.tmod_eq_emod_of_nonneg (by omega)]
   exact ⟨_, rfl, Int.emod_nonneg _ (by omega), Int.emod_lt_of_pos _ (by omega)⟩
  ·have e3 : wrap64 (p * 7) = p * 7 := w64 (by omega)
   have e4 : wrap64 (p * 7 + 3) = p * 7 + 3 := w64 (by omega)
   have e5 : wrap64 (p * 29) = p * 29 := w64 (by omega)
   have d1 : Int.tmod p (s.length : Int) = p % (s.length : Int) := Int.tmod_eq_emod_of_nonneg hp0
   have d2 : Int.tmod (p * 7 + 3) (s.length : Int) = (p * 7 + 3) % (s.length : Int) := Int.tmod_eq_emod_of_nonneg (by omega)
   have d3 : Int.tdiv p (s.length : Int) = p / (s.length : Int) := Int.tdiv_eq_ediv_of_nonneg hp0
   have q0 : 0 ≤ p / (s.length : Int) := Int.ediv_nonneg hp0 (by omega)
   have q1 : p / (s.length : Int) ≤ p := Int.ediv_le_self _ hp0
   have r0 := Int.emod_nonneg p h0
   have r1 := Int.emod_lt_of_pos p (by omega : 0 < (s.length : Int))
   have r2 := Int.emod_nonneg (p * 7 + 3) h0
   have r3 := Int.emod_lt_of_pos (p * 7 + 3) (by omega : 0 < (s.length : Int))
   have b1 := rd_byte hs (p % (s.length : Int))
   have b2 := rd_byte hs ((p * 7 + 3) % (s.length : Int))
   have c1 : wrap64 (rd s (p % (s.length : Int))) = rd s (p % (s.length : Int)) := w64 (by omega)
   have c2 : wrap64 (rd s ((p * 7 + 3) % (s.length : Int))) = rd s ((p * 7 + 3) % (s.length : Int)) := w64 (by omega)
   have c3 : wrap64 (p / (s.length : Int)) = p / (s.length : Int) := w64 (by omega)
   have e6 : wrap64 (p / (s.length : Int) * 53) = p / (s.length : Int) * 53 := w64 (by omega)
   have e7 : wrap64 (rd s (p % (s.length : Int)) * 131) = rd s (p % (s.length : Int)) * 131 := w64 (by omega)
   have e8 : wrap64 (rd s ((p * 7 + 3) % (s.length : Int)) * 1117) = rd s ((p * 7 + 3) % (s.length : Int)) * 1117 := w64 (by omega)
   rw [if_neg h1, if_neg h0]
   simp only [d1, d2, d3, e3, e4, c1, c2, c3, e5, e6, e7, e8]
   rw [if_pos r0, if_pos r1, if_pos r2, if_pos r3, if_neg (by omega)]
   generalize rd s (p % (s.length : Int)) = x at *
   generalize rd s ((p * 7 + 3) % (s.length : Int)) = y at *
   generalize p / (s.length : Int) = z at *
   have f1 : wrap64 (x * 131 + y * 1117) = x * 131 + y * 1117 := w64 (by omega)
   have f2 : wrap64 (x * 131 + y * 1117 + p * 29) = x * 131 + y * 1117 + p * 29 := w64 (by omega)
   have f3 : wrap64 (x * 131 + y * 1117 + p * 29 + z * 53) = x * 131 + y * 1117 + p * 29 + z * 53 := w64 (by omega)
   simp only [f1, f2, f3]
   generalize hX : x * 131 + y * 1117 + p * 29 + z * 53 = X at *
   have g1 : Int.tdiv X 64 = X / 64 := Int.tdiv_eq_ediv_of_nonneg (by omega)
   have g2 : wrap64 (X / 64) = X / 64 := w64 (by omega)
   rw [g1, g2, i64_xor X (X / 64) (by omega) (by omega) (by omega) (by omega), Int.tmod_eq_emod_of_nonneg (by omega)]
   exact ⟨_, rfl, Int.emod_nonneg _ (by omega), Int.emod_lt_of_pos _ (by omega)⟩
/-- A number is drawn. -/
theorem pick (s : List Int) (p n : Int) (hs : Bytes s) (hp0 : 0 ≤ p) (hp1 : p ≤ 1000000000000) (hn0 : 1 ≤ n) (hn1 : n ≤ 2147483648) :
  ∃ v, (∃ K_, ∀ k, K_ ≤ k → spec_l1Rd_pick.f k s p n = some (v, p + 1)) ∧ 0 ≤ v ∧ v < n := by
 obtain ⟨v, h, h0, h1⟩ := pick_aux 0 s p n hs hp0 hp1 hn0 hn1
 exact ⟨v, Ev.of (spec_l1Rd_pick.mono s p n) h, h0, h1⟩
/-- A number of a list is drawn. -/
theorem one (s : List Int) (p : Int) (l : List Int) (hs : Bytes s) (hp0 : 0 ≤ p) (hp1 : p ≤ 1000000000000) (hl0 : 1 ≤ l.length) (hl1 : l.length ≤ 2147483648) :
  ∃ v, (∃ K_, ∀ k, K_ ≤ k → spec_l1Rd_one.f k s p l = some (v, p + 1)) ∧ v ∈ l := by
 obtain ⟨v, ⟨K, h⟩, h0, h1⟩ := pick s p l.length hs hp0 hp1 (by omega) (by omega)
 refine ⟨rd l v, ⟨K, fun k hk => ?_⟩, ?_⟩
 ·simp only [spec_l1Rd_one.f, h k hk, Option.bind_some]
  rw [if_pos h0, if_pos h1]
 ·unfold rd
  rw [List.getD_eq_getElem?_getD, List.getElem?_eq_getElem (by omega)]
  exact List.getElem_mem _
theorem l1Open (l : List Int) (hw : ∀ x ∈ l, (Lit.int .u8 x).wf = true) : ∃ s, spec_l1Open.f l = some (s, 0) ∧ Bytes s := by
 have hb : ∀ x ∈ l, 0 ≤ x ∧ x ≤ 255 := fun x hx => by
  have := hw x hx
  simp [Lit.wf, IntKind.min, IntKind.max, IntKind.bits, IntKind.signed] at this
  omega
 unfold spec_l1Open.f
 by_cases c : (l.length : Int) > 2000
 ·rw [if_pos c, if_pos (by omega)]
  exact ⟨_, rfl, fun x hx => hb x (List.mem_of_mem_take hx), by rw [List.length_take]; omega⟩
 ·rw [if_neg c]
  exact ⟨_, rfl, hb, by omega⟩
theorem drawAddr (s : List Int) (p : Int) (hs : Bytes s) (hp0 : 0 ≤ p) (hp1 : p ≤ 900000000000) :
  ∃ a, (∃ K_, ∀ k, K_ ≤ k → spec_l12Addr.f k s p = some (a, p + 6)) ∧ 0 ≤ a ∧ a ≤ 4294967295 := by
 obtain ⟨v1, ⟨K1, h1⟩, a1, b1⟩ := pick s p 256 hs (by omega) (by omega) (by decide) (by decide)
 obtain ⟨v2, ⟨K2, h2⟩, a2, b2⟩ := pick s (p + 1) 8 hs (by omega) (by omega) (by decide) (by decide)
 obtain ⟨v3, ⟨K3, h3⟩, a3, b3⟩ := pick s (p + 1 + 1) 16 hs (by omega) (by omega) (by decide) (by decide)
 obtain ⟨v4, ⟨K4, h4⟩, a4, b4⟩ := pick s (p + 1 + 1 + 1) 256 hs (by omega) (by omega) (by decide) (by decide)
 obtain ⟨v5, ⟨K5, h5⟩, a5, b5⟩ := pick s (p + 1 + 1 + 1 + 1) 64 hs (by omega) (by omega) (by decide) (by decide)
 obtain ⟨v6, ⟨K6, h6⟩, b6⟩ := one s (p + 1 + 1 + 1 + 1 + 1) [wrap64 (167772160 + v1), wrap64 (167772160 + v2), wrap64 (167772416 + v3), wrap64 (3232235520 + v4), 0, 4294967295, 184549375, wrap64 (2886729728 + (wrap64 (v5 * 256)))] hs (by omega) (by omega) (by simp) (by simp)
 refine ⟨v6, ⟨K1 + K2 + K3 + K4 + K5 + K6, fun k hk => ?_⟩, ?_⟩
 ·simp only [spec_l12Addr.f]
  rw [h1 k (by omega), Option.bind_some, h2 k (by omega), Option.bind_some, h3 k (by omega), Option.bind_some, h4 k (by omega), Option.bind_some, h5 k (by omega), Option.bind_some]
  simp only []
  rw [h6 k (by omega), Option.bind_some]
  simp only [Option.some.injEq, Prod.mk.injEq, true_and]
  omega
 ·rw [w64 (by omega), w64 (by omega), w64 (by omega), w64 (by omega), w64 (n := v5 * 256) (by omega), w64 (by omega)] at b6
  simp only [List.mem_cons, List.not_mem_nil, or_false] at b6
  omega
theorem spec_over {a m : Int} (ha0 : 0 ≤ a) (ha1 : a ≤ 4611686018427387904) (h0 : 0 ≤ m) (h1 : m ≤ 32) : (∃ K_, ∀ k, K_ ≤ k → spec_l1Over.f k a m = some (a / sz m * sz m, m)) := by
 obtain ⟨K, h⟩ := spec_size h0 h1
 have hs := sz_bd h0
 have hd : a / sz m * sz m ≤ a := Int.ediv_mul_le a (by omega)
 have hq0 : 0 ≤ a / sz m := Int.ediv_nonneg ha0 (by omega)
 have hq1 : a / sz m ≤ a := Int.ediv_le_self _ ha0
 have hm : 0 ≤ a / sz m * sz m := Int.mul_nonneg hq0 (by omega)
 refine ⟨K, fun k hk => ?_⟩
 simp only [spec_l1Over.f]
 rw [h k hk, Option.bind_some, if_neg (by omega), Option.bind_some, Int.tdiv_eq_ediv_of_nonneg ha0, w64 (n := a / sz m) (by omega), w64 (by omega)]
theorem drawBlock (s : List Int) (p : Int) (hs : Bytes s) (hp0 : 0 ≤ p) (hp1 : p ≤ 800000000000) :
  ∃ b m, (∃ K_, ∀ k, K_ ≤ k → spec_l12Block.f k s p = some (b, m, p + 7)) ∧ bok b m := by
 obtain ⟨a, ⟨K1, h1⟩, a1, b1⟩ := drawAddr s p hs (by omega) (by omega)
 obtain ⟨m, ⟨K2, h2⟩, b2⟩ := one s (p + 6) [32, 31, 30, 28, 24, 24, 25, 16, 8, 1, 0, 29] hs (by omega) (by omega) (by simp) (by simp)
 simp only [List.mem_cons, List.not_mem_nil, or_false] at b2
 obtain ⟨K3, h3⟩ := spec_over (a := a) (m := m) a1 (by omega) (by omega) (by omega)
 have hd : a / sz m * sz m ≤ a := Int.ediv_mul_le a (by have := sz_pos m; omega)
 have hm : 0 ≤ a / sz m * sz m := Int.mul_nonneg (Int.ediv_nonneg a1 (by have := sz_pos m; omega)) (by have := sz_pos m; omega)
 refine ⟨_, m, ⟨K1 + K2 + K3, fun k hk => ?_⟩, bok.mk' hm (by omega) (by omega) (by omega) (Int.dvd_mul_left _ _)⟩
 simp only [spec_l12Block.f]
 rw [h1 k (by omega), Option.bind_some]
 simp only []
 rw [h2 k (by omega), Option.bind_some]
 simp only []
 rw [h3 k (by omega), Option.bind_some]
 simp only [Option.some.injEq, Prod.mk.injEq, true_and]
 omega
theorem drawAnyBlock (s : List Int) (p : Int) (hs : Bytes s) (hp0 : 0 ≤ p) (hp1 : p ≤ 700000000000) :
  ∃ b m p', (∃ K_, ∀ k, K_ ≤ k → spec_l12AnyBlock.f k s p = some (b, m, p')) ∧ p ≤ p' ∧ p' ≤ p + 9 ∧ -1 ≤ b ∧ b ≤ 4294967551 ∧ -1 ≤ m ∧ m ≤ 33 := by
 obtain ⟨b, m, ⟨K1, h1⟩, a1⟩ := drawBlock s p hs (by omega) (by omega)
 have a2 := a1.1
 have a3 := a1.2.1
 have a4 := a1.2.2.1
 have a5 := a1.2.2.2.1
 obtain ⟨v, ⟨K2, h2⟩, c1, c2⟩ := pick s (p + 7) 16 hs (by omega) (by omega) (by decide) (by decide)
 by_cases e0 : v = 0
 ·obtain ⟨x, ⟨K3, h3⟩, b3⟩ := one s (p + 7 + 1) [1, (-1), 256] hs (by omega) (by omega) (by simp) (by simp)
  simp only [List.mem_cons, List.not_mem_nil, or_false] at b3
  refine ⟨b + x, m, p + 7 + 1 + 1, ⟨K1 + K2 + K3, fun k hk => ?_⟩, by omega, by omega, by omega, by omega, by omega, by omega⟩
  simp only [spec_l12AnyBlock.f]
  rw [h1 k (by omega), Option.bind_some]
  simp only []
  rw [h2 k (by omega), Option.bind_some]
  simp only []
  rw [if_pos e0, h3 k (by omega), Option.bind_some]
  simp only []
  rw [w64 (by omega)]
 ·by_cases e1 : v = 1
  ·obtain ⟨x, ⟨K3, h3⟩, b3⟩ := one s (p + 7 + 1) [(-1), 33, 0, 32] hs (by omega) (by omega) (by simp) (by simp)
   simp only [List.mem_cons, List.not_mem_nil, or_false] at b3
   refine ⟨b, x, p + 7 + 1 + 1, ⟨K1 + K2 + K3, fun k hk => ?_⟩, by omega, by omega, by omega, by omega, by omega, by omega⟩
   simp only [spec_l12AnyBlock.f]
   rw [h1 k (by omega), Option.bind_some]
   simp only []
   rw [h2 k (by omega), Option.bind_some]
   simp only []
   rw [if_neg e0, if_pos e1, h3 k (by omega), Option.bind_some]
  ·refine ⟨b, m, p + 7 + 1, ⟨K1 + K2, fun k hk => ?_⟩, by omega, by omega, by omega, by omega, by omega, by omega⟩
   simp only [spec_l12AnyBlock.f]
   rw [h1 k (by omega), Option.bind_some]
   simp only []
   rw [h2 k (by omega), Option.bind_some]
   simp only []
   rw [if_neg e0, if_neg e1]
theorem drawAnyAddr (s : List Int) (p : Int) (hs : Bytes s) (hp0 : 0 ≤ p) (hp1 : p ≤ 700000000000) :
  ∃ a p', (∃ K_, ∀ k, K_ ≤ k → spec_l12AnyAddr.f k s p = some (a, p')) ∧ p ≤ p' ∧ p' ≤ p + 8 ∧ -1 ≤ a ∧ a ≤ 1099511627776 := by
 obtain ⟨v, ⟨K1, h1⟩, c1, c2⟩ := pick s p 16 hs (by omega) (by omega) (by decide) (by decide)
 by_cases e0 : v = 0
 ·obtain ⟨x, ⟨K3, h3⟩, b3⟩ := one s (p + 1) [(-1), 4294967296, 1099511627776] hs (by omega) (by omega) (by simp) (by simp)
  simp only [List.mem_cons, List.not_mem_nil, or_false] at b3
  refine ⟨x, p + 1 + 1, ⟨K1 + K3, fun k hk => ?_⟩, by omega, by omega, by omega, by omega⟩
  simp only [spec_l12AnyAddr.f]
  rw [h1 k (by omega), Option.bind_some]
  simp only []
  rw [if_pos e0, h3 k (by omega), Option.bind_some]
 ·obtain ⟨a, ⟨K3, h3⟩, b3, b4⟩ := drawAddr s (p + 1) hs (by omega) (by omega)
  refine ⟨a, p + 1 + 6, ⟨K1 + K3, fun k hk => ?_⟩, by omega, by omega, by omega, by omega⟩
  simp only [spec_l12AnyAddr.f]
  rw [h1 k (by omega), Option.bind_some]
  simp only []
  rw [if_neg e0, h3 k (by omega), Option.bind_some]
theorem floor_mem {b s : Int} (hs : 1 ≤ s) : b / s * s ≤ b ∧ b < b / s * s + s := by
 have h1 := Int.ediv_mul_le b (by omega : s ≠ 0)
 have h2 := Int.lt_ediv_add_one_mul_self b (by omega : 0 < s)
 rw [Int.add_mul] at h2
 omega
section
variable {b m c n : Int} (h1 : bok b m) (h2 : bok c n)
include h1 h2
end
theorem shr_sz {b q : Int} (h0 : 0 ≤ q) (h1 : q ≤ 32) : shr .i64 b (32 - q) = b / sz q := by
 have e : min (32 - q).toNat IntKind.i64.bits = (32 - q).toNat := by
  have : IntKind.i64.bits = 64 := rfl
  omega
 unfold shr sz
 rw [e]
theorem shl_floor {x q : Int} (h0 : 0 ≤ q) (h1 : q ≤ 32) (hx0 : 0 ≤ x * sz q) (hx1 : x * sz q ≤ 4294967296) : shl .i64 x (32 - q) = x * sz q := by
 have e : min (32 - q).toNat IntKind.i64.bits = (32 - q).toNat := by
  have : IntKind.i64.bits = 64 := rfl
  omega
 unfold shl
 rw [e, IntKind.wrap_i64]
 unfold sz at *
 omega
theorem impl_around {b q : Int} (hb0 : 0 ≤ b) (hb1 : b ≤ 4294967295) (h0 : 0 ≤ q) (h1 : q ≤ 32) : impl_around.f b q = some (b / sz q * sz q, q) := by
 have hm := floor_mem (b := b) (sz_pos q)
 have hn : 0 ≤ b / sz q * sz q := Int.mul_nonneg (Int.ediv_nonneg hb0 (by have := sz_pos q; omega)) (by have := sz_pos q; omega)
 unfold impl_around.f
 rw [w64 (by omega), if_pos (by omega), shr_sz h0 h1, shl_floor h0 h1 hn (by omega)]
abbrev Sa6 := S50
abbrev Sb7 := S73
def s6 (p : P2) : Sa6 := ⟨p.1, p.2⟩
def s7 (p : P2) : Sb7 := ⟨p.1, p.2⟩
def p6 (s : Sa6) : P2 := (s.f0, s.f1)
theorem map_p6 (l : List Sa6) : (l.map p6).map s6 = l := by rw [List.map_map]; exact List.map_id'' (fun _ => rfl) l
theorem rd_bl (l : List Bl) (n : Nat) (h : n < l.length) : rd_T32 l (n : Int) = l[n] := by
 unfold rd_T32
 rw [List.getD_eq_getElem?_getD, Int.toNat_natCast, List.getElem?_eq_getElem h]
 rfl
theorem rd_s6 (L : List P2) (n : Nat) (h : n < L.length) : rd_T50 (L.map s6) (n : Int) = s6 L[n] := by
 unfold rd_T50
 rw [List.getD_eq_getElem?_getD, Int.toNat_natCast, List.getElem?_map, List.getElem?_eq_getElem h]
 rfl
theorem rd_s7 (L : List P2) (n : Nat) (h : n < L.length) : rd_T73 (L.map s7) (n : Int) = s7 L[n] := by
 unfold rd_T73
 rw [List.getD_eq_getElem?_getD, Int.toNat_natCast, List.getElem?_map, List.getElem?_eq_getElem h]
 rfl
theorem up1 {n : Nat} (h : n ≤ 1000000000) : wrap64 ((n : Int) + 1) = ((n + 1 : Nat) : Int) := by rw [w64 (by omega)]; omega
theorem dn1 {n : Nat} (h : 0 < n) (h2 : n ≤ 1000000000) : wrap64 ((n : Int) - 1) = ((n - 1 : Nat) : Int) := by rw [w64 (by omega)]; omega
theorem impl_spans_loop (l : List Bl) (hv : ∀ b ∈ l, bok b.f0 b.f1) (hl : l.length ≤ 100000) (d : Nat) : ∀ (n : Nat) (acc : List Sa6), n + d = l.length → acc.length + d ≤ 1000000 → (∃ K_, ∀ k, K_ ≤ k → impl_spans.l0 k acc l (l.length : Int) (n : Int) = some (acc ++ (spansP (l.drop n)).map s6)) := by
 induction d with
 | zero =>
  intro n acc hn ha
  refine ev1 ?_
  simp only [impl_spans.l0]
  rw [List.drop_eq_nil_of_le (by omega)]
  exact evN (by omega) (evR (by simp [spansP]))
 | succ d ih =>
  intro n acc hn ha
  have hlt : n < l.length := by omega
  have hb := hv _ (List.getElem_mem hlt)
  have hb1 := hb.2.1
  refine ev1 ?_
  simp only [impl_spans.l0]
  rw [rd_bl l n hlt, up1 (by omega)]
  refine evP (by omega) (evP (by omega) (evP (by omega) (evS (impl_last hb.1 (by omega) hb.2.2.1 hb.2.2.2.1) (evP (by omega) ?_))))
  have := ih (n + 1) (acc ++ [s6 (spanP l[n])]) (by omega) (by simp; omega)
  rw [List.drop_eq_getElem_cons hlt]
  rw [List.append_assoc] at this
  exact this
theorem impl_spans {l : List Bl} (hv : ∀ b ∈ l, bok b.f0 b.f1) (hl : l.length ≤ 100000) : (∃ K_, ∀ k, K_ ≤ k → impl_spans.f k l = some ((spansP l).map s6)) := by
 have := impl_spans_loop l hv hl l.length 0 [] (by omega) (by simp; omega)
 rw [List.drop_zero, List.nil_append] at this
 exact this
theorem union_loop (L : List P2) (hl : L.length ≤ 1000000) (hb : InB L) (hf : Full L) (d : Nat) : ∀ (n : Nat) (D : List P2) (c : P2), n + d = L.length → D.length + d ≤ 10000000 → -1 ≤ c.2 ∧ c.2 ≤ 4294967295 → 
  (∃ K_, ∀ k, K_ ≤ k → impl_union.l0 k ((D ++ [c]).map s6) (L.map s6) (L.length : Int) (n : Int) = some ((D ++ mrg c (L.drop n)).map s6)) := by
 induction d with
 | zero =>
  intro n D c hn hd hc
  refine ev1 ?_
  simp only [impl_union.l0]
  rw [List.drop_eq_nil_of_le (by omega)]
  exact evN (by omega) (evR rfl)
 | succ d ih =>
  intro n D c hn hd hc
  have hlt : n < L.length := by omega
  have hs := hb _ (List.getElem_mem hlt)
  have hs2 := hf _ (List.getElem_mem hlt)
  have e1 : ((D ++ [c]).map s6).length = D.length + 1 := by simp
  have e2 : rd_T50 ((D ++ [c]).map s6) ((D.length : Nat) : Int) = s6 c := by rw [rd_s6 _ _ (by simp)]; simp
  have e3 : wrap64 ((((D.length + 1 : Nat)) : Int) - 1) = ((D.length : Nat) : Int) := by rw [dn1 (by omega) (by omega)]; rfl
  have e4 : wrap64 ((s6 c).f1 + 1) = c.2 + 1 := w64 (by show _ ≤ c.2 + 1 ∧ c.2 + 1 ≤ _; omega)
  refine ev1 ?_
  simp only [impl_union.l0]
  rw [e1, e3, e2, e4, up1 (by omega), rd_s6 L n hlt, List.drop_eq_getElem_cons hlt, List.length_map]
  refine evP (by omega) (evP (by omega) (evP (by omega) (evP (by omega) (evP (by omega) (evP (by omega) ?_)))))
  unfold mrg
  refine evI (fun c2 => ?_) (fun c2 => evP (by omega) ?_)
  ·have c2 : L[n].1 ≤ c.2 + 1 := c2
   rw [if_pos c2]
   obtain ⟨x1, x2, x3⟩ := mx_le c.2 L[n].2
   have := ih (n + 1) D (c.1, mx c.2 L[n].2) (by omega) (by omega) ⟨by simp only []; omega, by simp only []; omega⟩
   have e5 : (((D ++ [c]).map s6).set ((D.length : Nat) : Int).toNat ⟨(s6 c).f0, mx (s6 c).f1 (s6 L[n]).f1⟩) = ((D ++ [(c.1, mx c.2 L[n].2)]).map s6) := by
    rw [Int.toNat_natCast, List.map_append, List.set_append_right _ _ (by simp)]
    simp [s6]
   rw [e5]
   exact this
  ·have c2 : ¬ L[n].1 ≤ c.2 + 1 := c2
   rw [if_neg c2]
   have := ih (n + 1) (D ++ [c]) L[n] (by omega) (by simp; omega) (by omega)
   rw [show (D ++ [c]) ++ mrg L[n] (L.drop (n + 1)) = D ++ c :: mrg L[n] (L.drop (n + 1)) by simp] at this
   rw [show (D ++ [c]).map s6 ++ [⟨(s6 L[n]).f0, (s6 L[n]).f1⟩] = ((D ++ [c]) ++ [L[n]]).map s6 by simp [s6]]
   exact this
theorem impl_union {L : List P2} (hf : Full L) (hb : InB L) (hl : L.length ≤ 1000000) : (∃ K_, ∀ k, K_ ≤ k → impl_union.f k (L.map s6) = some ((canF L).map s6)) := by
 obtain ⟨q1, q2⟩ := spSort_spec (L.map s6)
 obtain ⟨M, hM⟩ : ∃ M, M = (spSort (L.map s6)).map p6 := ⟨_, rfl⟩
 have e1 : spSort (L.map s6) = M.map s6 := by rw [hM, map_p6]
 have e2 : M.Perm L := by
  have h := q1.map p6
  rw [← hM, List.map_map] at h
  have e : L.map (p6 ∘ s6) = L := List.map_id'' (fun _ => rfl) L
  rw [e] at h
  exact h
 have e3 : M.Pairwise (fun s t => s.1 ≤ t.1) := by rw [hM, List.pairwise_map]; exact q2
 have hlen := e2.length_eq
 have hf2 : Full M := hf.perm e2
 have hb2 : InB M := fun s hs => hb s (e2.mem_iff.1 hs)
 simp only [impl_union.f, impl_span_62_union_cl1.f]
 rw [← canF_sorted hf2 e2 e3]
 refine evS (a := M.map s6) (by rw [if_pos (by simp; omega), e1]) ?_
 rw [List.length_map]
 cases hc : M with
 | nil =>
  refine ev1 ?_
  simp only [impl_union.l0]
  exact evN (by simp) (evR rfl)
 | cons s T =>
  rw [hc] at hf2 hb2 hlen
  have hs := hb2 s (List.mem_cons_self ..)
  have hs2 := hf2 s (List.mem_cons_self ..)
  have := union_loop (s :: T) (by omega) hb2 hf2 T.length 1 [] s (by simp; omega) (by simp only [List.length_cons, List.length_nil] at *; omega) (by omega)
  refine ev1 ?_
  simp only [impl_union.l0]
  rw [show rd_T50 ((s :: T).map s6) 0 = s6 s from rd_s6 (s :: T) 0 (by simp)]
  refine evP (by simp) (evP (by omega) (evP (by simp) (evN (by simp) (evP (by simp) ?_))))
  rw [show wrap64 ((0 : Int) + 1) = ((1 : Nat) : Int) from by rw [w64 (by omega)]; rfl]
  exact this
theorem al_eq {a : Int} {m : Nat} (h : a % sz (m : Int) = 0) : a / sz (m : Int) * sz (m : Int) = a := by
 have := Int.mul_ediv_add_emod a (sz (m : Int))
 rw [h, Int.add_zero, Int.mul_comm] at this
 exact this
section
variable {a t x : Int} {acc R : List Bl} (h0 : 0 ≤ a) (ht : t ≤ 4294967295) (hl : acc.length ≤ 1000000)
include h0 ht hl
theorem blocks_fin {m : Nat} (hm : m ≤ 32) (h : okM a t (m : Int)) (hk : (∃ K_, ∀ k, K_ ≤ k → impl_span_blocks.l0 k (acc ++ [⟨a, (m : Int)⟩]) (a + sz (m : Int)) x t = some R)) :
  (∃ K_, ∀ k, K_ ≤ k → ((impl_around.f a (m : Int)).bind fun bt => (if acc.length < 8796093022208 then ((some (acc ++ [(⟨bt.1, bt.2⟩ : Bl)])).bind fun y => (if 0 ≤ (wrap64 ((y.length : Int) - 1)) then (if (wrap64 ((y.length : Int) - 1)) < (y.length : Int) then ((impl_Block_last.f ((rd_T32 y (wrap64 ((y.length : Int) - 1))).f0) ((rd_T32 y (wrap64 ((y.length : Int) - 1))).f1)).bind fun t113 => (impl_span_blocks.l0 k y (wrap64 (t113 + 1)) x t)) else none) else none)) else none)) = some R) := by
 have hp := sz_pos (m : Int)
 have h2 := h.2
 have e1 : (acc ++ [(⟨a, (m : Int)⟩ : Bl)]).length = acc.length + 1 := by simp
 have e2 : wrap64 ((((acc ++ [(⟨a, (m : Int)⟩ : Bl)]).length : Nat) : Int) - 1) = ((acc.length : Nat) : Int) := by rw [e1, dn1 (by omega) (by omega)]; rfl
 have e3 : rd_T32 (acc ++ [(⟨a, (m : Int)⟩ : Bl)]) ((acc.length : Nat) : Int) = ⟨a, (m : Int)⟩ := by rw [rd_bl _ _ (by simp)]; simp
 refine evS (impl_around h0 (by omega) (by omega) (by omega)) (evP (by omega) (evS (a := acc ++ [(⟨a, (m : Int)⟩ : Bl)]) (by simp only []; rw [al_eq h.1]) ?_))
 rw [e2, e3, e1]
 refine evP (by omega) (evP (by omega) (evS (impl_last (b := a) (m := (m : Int)) h0 (by omega) (by omega) (by omega)) ?_))
 rw [show wrap64 (a + sz (m : Int) - 1 + 1) = a + sz (m : Int) by rw [Int.sub_add_cancel]; exact w64 (by omega)]
 exact hk
theorem blocks_in : ∀ m : Nat, m ≤ 32 → okM a t (m : Int) → (∃ K_, ∀ k, K_ ≤ k → impl_span_blocks.l0 k (acc ++ [⟨a, ((dnM a t m : Nat) : Int)⟩]) (a + sz ((dnM a t m : Nat) : Int)) x t = some R) → (∃ K_, ∀ k, K_ ≤ k → impl_span_blocks.l1 k acc a (m : Int) x t = some R)
 | 0, hm, h, hk => by
  refine ev1 ?_
  simp only [impl_span_blocks.l1]
  exact evN (by simp) (blocks_fin h0 ht hl hm h hk)
 | m + 1, hm, h, hk => by
  have e0 : wrap64 (((m + 1 : Nat) : Int) - 1) = (m : Int) := by rw [dn1 (by omega) (by omega)]; rfl
  have har := impl_around h0 (show a ≤ 4294967295 by have := h.2; have := sz_pos ((m + 1 : Nat) : Int); omega) (show 0 ≤ (m : Int) by omega) (show (m : Int) ≤ 32 by omega)
  have hp := sz_bd (m := (m : Int)) (by omega)
  refine ev1 ?_
  simp only [impl_span_blocks.l1]
  rw [e0]
  refine evP (by omega) (evS har (evI (fun c => evS har ?_) (fun c => ?_)))
  ·have c : a / sz (m : Int) * sz (m : Int) = a := c
   have hz : a % sz (m : Int) = 0 := by rw [← c]; exact Int.mul_emod_left _ _
   simp only [c]
   have h2 := h.2
   have hp2 := sz_pos ((m + 1 : Nat) : Int)
   refine evS (impl_last h0 (by omega) (by omega) (by omega)) (evI (fun c2 => ?_) (fun c2 => ?_))
   ·have h3 : okM a t (m : Int) := ⟨hz, c2⟩
    unfold dnM at hk
    rw [if_pos h3] at hk
    exact blocks_in m (by omega) h3 hk
   ·have h3 : ¬ okM a t (m : Int) := fun q => c2 q.2
    unfold dnM at hk
    rw [if_neg h3] at hk
    exact blocks_fin h0 ht hl hm h hk
  ·have h3 : ¬ okM a t (m : Int) := fun q => c (al_eq q.1)
   unfold dnM at hk
   rw [if_neg h3] at hk
   exact blocks_fin h0 ht hl hm h hk
end
theorem blocks_out {t x : Int} (ht : t ≤ 4294967295) : ∀ (n : Nat) (a : Int) (acc : List Bl), 0 ≤ a → (t - a + 1).toNat ≤ n → acc.length + (covF a t).length ≤ 1000000 → (∃ K_, ∀ k, K_ ≤ k → impl_span_blocks.l0 k acc a x t = some (acc ++ covF a t)) := by
 intro n
 induction n with
 | zero =>
  intro a acc h0 hn hl
  rw [covF_end (by omega), List.append_nil]
  refine ev1 ?_
  simp only [impl_span_blocks.l0]
  exact evN (by omega) (evR rfl)
 | succ n ih =>
  intro a acc h0 hn hl
  by_cases c : a ≤ t
  ·have hp := sz_pos (bitsM a t : Int)
   rw [covF_step c] at hl ⊢
   simp only [List.length_cons] at hl
   have := ih (a + sz (bitsM a t : Int)) (acc ++ [⟨a, (bitsM a t : Int)⟩]) (by omega) (by omega) (by simp only [List.length_append, List.length_singleton]; omega)
   rw [List.append_assoc] at this
   refine ev1 ?_
   simp only [impl_span_blocks.l0]
   exact evP c (blocks_in h0 ht (by omega) 32 (by omega) (okM_top c) this)
  ·rw [covF_end (by omega), List.append_nil]
   refine ev1 ?_
   simp only [impl_span_blocks.l0]
   exact evN (by omega) (evR rfl)
theorem impl_blocks {a t : Int} (h0 : 0 ≤ a) (ht : t ≤ 4294967295) : (∃ K_, ∀ k, K_ ≤ k → impl_span_blocks.f k a t = some (covF a t)) := by
 have hl := covF_len h0 ht
 simp only [impl_span_blocks.f]
 exact blocks_out ht _ a [] h0 (Nat.le_refl _) (by simp only [List.length_nil]; omega)
theorem set_loop {C : List P2} (hb : InB C) (hl : C.length ≤ 10000) (d : Nat) : ∀ (n : Nat) (acc : List Bl), n + d = C.length → acc.length + 64 * d ≤ 1000000 → (∃ K_, ∀ k, K_ ≤ k → impl_set.l0 k acc (C.map s6) (C.length : Int) (n : Int) = some (acc ++ coverF (C.drop n))) := by
 induction d with
 | zero =>
  intro n acc hn ha
  refine ev1 ?_
  simp only [impl_set.l0]
  rw [List.drop_eq_nil_of_le (by omega)]
  exact evN (by omega) (evR (by simp [coverF]))
 | succ d ih =>
  intro n acc hn ha
  have hlt : n < C.length := by omega
  have hs := hb _ (List.getElem_mem hlt)
  have h64 : (covF (s6 C[n]).f0 (s6 C[n]).f1).length ≤ 64 := covF_len hs.1 hs.2
  have := ih (n + 1) (acc ++ covF (s6 C[n]).f0 (s6 C[n]).f1) (by omega) (by rw [List.length_append]; omega)
  rw [List.append_assoc] at this
  refine ev1 ?_
  simp only [impl_set.l0]
  rw [rd_s6 C n hlt, List.length_map, up1 (by omega), List.drop_eq_getElem_cons hlt]
  exact evP (by omega) (evP (by omega) (evP (by omega) (evB (impl_blocks hs.1 hs.2) (evP (by omega) this))))
theorem impl_setF {L : List P2} (hf : Full L) (hb : InB L) (hl : L.length ≤ 10000) : (∃ K_, ∀ k, K_ ≤ k → impl_set.f k (L.map s6) = some (coverF (canF L))) := by
 have h1 := canF_len L
 have := set_loop (canF_in hf hb) (by omega) (canF L).length 0 [] (by omega) (by simp only [List.length_nil]; omega)
 rw [List.drop_zero, List.nil_append] at this
 simp only [impl_set.f]
 refine evB (impl_union hf hb (by omega)) ?_
 rw [List.length_map]
 exact this
theorem any_badB (l : List Bl) : anyO impl_blocksOk.bad l = some (l.any fun b => !bokB b.f0 b.f1) := by
 induction l with
 | nil => rfl
 | cons x l ih =>
  simp only [anyO, impl_blocksOk.bad]
  rw [impl_ok, Option.bind_some, Option.bind_some, ih]
  cases h : bokB x.f0 x.f1 <;> simp [h]
theorem impl_blocksOk (l : List Bl) : impl_blocksOk.f l = some (okB l) := by
 unfold impl_blocksOk.f okB
 by_cases c : (l.length : Int) ≤ 64
 ·have c2 : l.length ≤ 64 := by omega
  rw [if_pos c, any_badB, Option.bind_some, decide_eq_true c2, Bool.true_and]
  congr 1
  induction l with
  | nil => rfl
  | cons x l ih =>
   simp only [List.any_cons, List.all_cons]
   rw [← ih (by simp only [List.length_cons] at c; omega) (by simp only [List.length_cons] at c2; omega)]
   cases bokB x.f0 x.f1 <;> simp
 ·have c2 : ¬ l.length ≤ 64 := by omega
  rw [if_neg c, decide_eq_false c2, Bool.false_and]
theorem same_loop {l m : List Bl} (he : l.length = m.length) (hl : l.length ≤ 1000000) (d : Nat) : ∀ n : Nat, n + d = l.length → (∃ K_, ∀ k, K_ ≤ k → impl_Block_32.l0 k l m (l.length : Int) (n : Int) = some (decide (l.drop n = m.drop n))) := by
 induction d with
 | zero =>
  intro n hn
  refine ev1 ?_
  simp only [impl_Block_32.l0]
  rw [List.drop_eq_nil_of_le (by omega), List.drop_eq_nil_of_le (by omega)]
  exact evN (by omega) (evR (by simp))
 | succ d ih =>
  intro n hn
  have hlt : n < l.length := by omega
  have hlt2 : n < m.length := by omega
  have := ih (n + 1) (by omega)
  refine ev1 ?_
  simp only [impl_Block_32.l0]
  rw [rd_bl l n hlt, rd_bl m n hlt2, up1 (by omega), List.drop_eq_getElem_cons (l := l) hlt, List.drop_eq_getElem_cons (l := m) hlt2]
  refine evP (by omega) (evP (by omega) (evP (by omega) (evP (by omega) (evI (fun c => evR ?_) (fun c => ?_)))))
  ·have hne : ¬ l[n] = m[n] := fun e => by rw [e] at c; simp at c
   exact (decide_eq_false (fun e => hne (List.cons.inj e).1)).symm
  ·have e : l[n] = m[n] := by
    refine bl_ext ?_
    simpa using c
   rw [e]
   rw [show decide (m[n] :: l.drop (n + 1) = m[n] :: m.drop (n + 1)) = decide (l.drop (n + 1) = m.drop (n + 1)) from decide_eq_decide.2 ⟨fun h => (List.cons.inj h).2, fun h => by rw [h]⟩]
   exact this
theorem impl_same (l m : List Bl) (hl : l.length ≤ 1000000) : (∃ K_, ∀ k, K_ ≤ k → impl_Block_32.f k l m = some (decide (l = m))) := by
 simp only [impl_Block_32.f]
 refine evI (fun c => ?_) (fun c => evR ?_)
 ·have := same_loop (l := l) (m := m) (by omega) hl l.length 0 (by omega)
  rw [List.drop_zero, List.drop_zero] at this
  exact this
 ·exact (decide_eq_false (fun e => c (by rw [e]))).symm
theorem stF_len {l : List Bl} (h : okB l = true) : (stF l).length ≤ 4096 := by
 obtain ⟨h1, h2⟩ := okB_iff.1 h
 have := cover_len (canSp h2).2
 have h3 := canF_len (spansP l)
 have h4 : (spansP l).length = l.length := by simp [spansP]
 unfold stF
 omega
theorem impl_setOk (l : List Bl) : (∃ K_, ∀ k, K_ ≤ k → impl_SetOk.f k l = some (sokB l)) := by
 simp only [impl_SetOk.f]
 refine evS (impl_blocksOk l) (evI (fun c => ?_) (fun c => evR ?_))
 ·obtain ⟨h1, h2⟩ := okB_iff.1 c
  have h3 := stF_len c
  refine evB (impl_spans h2 (by omega)) (evB (impl_setF (spansP_full l) (spans_in h2) (by simp [spansP]; omega)) (evB (impl_same _ l (by show (stF l).length ≤ _; omega)) (evR ?_)))
  unfold sokB
  rw [c, Bool.true_and]
  rfl
 ·unfold sokB
  rw [Bool.eq_false_iff.2 c, Bool.false_and]
def limF (l : List Bl) : List Bl × Bool := if l.length > 64 then ([], false) else (l, true)
theorem impl_lim (l : List Bl) : impl_limited.f l = some (limF l) := by
 unfold impl_limited.f limF
 by_cases c : l.length > 64
 ·rw [if_pos c, if_pos (by omega)]
 ·rw [if_neg c, if_neg (by omega)]
def hasF (l : List Bl) (a : Int) : Bool := sokB l && l.any fun b => hasB b.f0 b.f1 a
theorem any_has {l : List Bl} (h : ∀ b ∈ l, bok b.f0 b.f1) (a : Int) : anyO (impl_SetHas.is a) l = some (l.any fun b => hasB b.f0 b.f1 a) := by
 induction l with
 | nil => rfl
 | cons x l ih =>
  have hx := h x (List.mem_cons_self ..)
  have := hx.2.1
  simp only [anyO, impl_SetHas.is]
  rw [impl_has a hx.1 (by omega) hx.2.2.1 hx.2.2.2.1, Option.bind_some, ih (fun b hb => h b (List.mem_cons_of_mem _ hb))]
  rw [List.any_cons]
  cases hasB x.f0 x.f1 a <;> rfl
theorem impl_setHas (l : List Bl) (a : Int) : (∃ K_, ∀ k, K_ ≤ k → impl_SetHas.f k l a = some (hasF l a)) := by
 simp only [impl_SetHas.f]
 unfold hasF
 refine evB (impl_setOk l) (evI (fun c => ?_) (fun c => evR ?_))
 ·rw [any_has (sok_iff.1 c).2.1 a, c, Bool.true_and]
  exact evR rfl
 ·rw [Bool.eq_false_iff.2 c, Bool.false_and]
theorem hasF_iff {l : List Bl} (h : sokB l = true) {a : Int} : hasF l a = true ↔ inS (spansP l) a := by
 unfold hasF
 rw [h, Bool.true_and, List.any_eq_true, inS_spans]
def sumB : List Bl → Int
 | [] => 0
 | b :: l => sz b.f1 + sumB l
theorem sumB_bd : ∀ {l : List Bl}, (∀ b ∈ l, bok b.f0 b.f1) → 0 ≤ sumB l ∧ sumB l ≤ 4294967296 * (l.length : Int)
 | [], _ => ⟨Int.le_refl _, Int.le_refl _⟩
 | b :: l, h => by
  obtain ⟨h1, h2⟩ := sumB_bd (fun c hc => h c (List.mem_cons_of_mem _ hc))
  have h3 := sz_bd (h b (List.mem_cons_self ..)).2.2.1
  simp only [sumB, List.length_cons]
  omega
def sizeF (l : List Bl) : Int := if sokB l = true then sumB l else 0
theorem impl_size_loop {l : List Bl} (h : ∀ b ∈ l, bok b.f0 b.f1) (hl : l.length ≤ 1000000) (d : Nat) : ∀ (n : Nat) (c : Int), n + d = l.length → 0 ≤ c → c + 4294967296 * d ≤ 4611686018427387904 → (∃ K_, ∀ k, K_ ≤ k → impl_SetSize.l0 k c l (l.length : Int) (n : Int) = some (c + sumB (l.drop n))) := by
 induction d with
 | zero =>
  intro n c hn h0 hc
  refine ev1 ?_
  simp only [impl_SetSize.l0]
  rw [List.drop_eq_nil_of_le (by omega)]
  exact evN (by omega) (evR (by simp [sumB]))
 | succ d ih =>
  intro n c hn h0 hc
  have hlt : n < l.length := by omega
  have hb := h _ (List.getElem_mem hlt)
  have hs := sz_bd hb.2.2.1
  have := ih (n + 1) (c + sz l[n].f1) (by omega) (by omega) (by omega)
  refine ev1 ?_
  simp only [impl_SetSize.l0]
  rw [rd_bl l n hlt, up1 (by omega), List.drop_eq_getElem_cons hlt]
  refine evP (by omega) (evP (by omega) (evP (by omega) (evS (impl_size hb.2.2.1 hb.2.2.2.1) ?_)))
  rw [w64 (by omega), sumB, ← Int.add_assoc]
  exact this
theorem impl_setSize (l : List Bl) : (∃ K_, ∀ k, K_ ≤ k → impl_SetSize.f k l = some (sizeF l)) := by
 simp only [impl_SetSize.f]
 unfold sizeF
 refine evB (impl_setOk l) (evI (fun c => ?_) (fun c => evR (by rw [if_neg c])))
 obtain ⟨h1, h2, _⟩ := sok_iff.1 c
 rw [if_pos c]
 have := impl_size_loop h2 (by omega) l.length 0 0 (by omega) (by omega) (by omega)
 rw [List.drop_zero, Int.zero_add] at this
 exact this
theorem first_loop {a t : Int} (h0 : 0 ≤ a) (h : a ≤ t) (ht : t ≤ 4294967295) (d : Nat) : ∀ m : Nat, m + d = bitsM a t → (∃ K_, ∀ k, K_ ≤ k → spec_l2First.l0 k a t (m : Int) = some (a, (bitsM a t : Int))) := by
 obtain ⟨k1, k2, k3⟩ := bitsM_spec h
 induction d with
 | zero =>
  intro m hm
  have e : m = bitsM a t := by omega
  subst e
  have hs := sz_bd (m := (bitsM a t : Int)) (by omega)
  have h2 := k1.2
  refine ev1 ?_
  simp only [spec_l2First.l0]
  refine evB (spec_size (by omega) (by omega)) (evN (by omega) (evP ?_ (evB (spec_size (by omega) (by omega)) (evN ?_ (evR rfl)))))
  ·rw [Int.tmod_eq_emod_of_nonneg h0]; exact k1.1
  ·rw [w64 (n := a + _) (by omega), w64 (by omega)]; omega
 | succ d ih =>
  intro m hm
  have hs := sz_bd (m := (m : Int)) (by omega)
  have h3 := k3 m (by omega)
  have := ih (m + 1) (by omega)
  refine ev1 ?_
  simp only [spec_l2First.l0]
  rw [up1 (by omega)]
  refine evB (spec_size (m := (m : Int)) (by omega) (by omega)) (evN (by omega) (evI (fun c => evB (spec_size (m := (m : Int)) (by omega) (by omega)) (evP ?_ this)) (fun c => this)))
  rw [Int.tmod_eq_emod_of_nonneg h0] at c
  rw [w64 (n := a + _) (by omega), w64 (by omega)]
  have : ¬ (a + sz (m : Int) - 1 ≤ t) := fun q => h3 ⟨c, q⟩
  omega
theorem spec_first {a t : Int} (h0 : 0 ≤ a) (h : a ≤ t) (ht : t ≤ 4294967295) : (∃ K_, ∀ k, K_ ≤ k → spec_l2First.f k a t = some (a, (bitsM a t : Int))) := first_loop h0 h ht (bitsM a t) 0 (by omega)
theorem cov_in {L : List P2} {n : Nat} (hn : n < L.length) (ht : L[n].2 ≤ 4294967295) {R : List Bl} : ∀ (d : Nat) (a : Int) (acc : List Bl), 0 ≤ a → (L[n].2 - a + 1).toNat ≤ d → acc.length + (covF a L[n].2).length ≤ 1000000 →
  (∃ K_, ∀ k, K_ ≤ k → spec_l2Cover.l0 k (L.map s7) (acc ++ covF a L[n].2) ((n + 1 : Nat) : Int) = some R) → n ≤ 100000 → (∃ K_, ∀ k, K_ ≤ k → spec_l2Cover.l1 k (L.map s7) acc (n : Int) a = some R) := by
 intro d
 induction d with
 | zero =>
  intro a acc h0 hd hl hk hnn
  rw [covF_end (by omega), List.append_nil] at hk
  refine ev1 ?_
  simp only [spec_l2Cover.l1]
  rw [rd_s7 L n hn, List.length_map, up1 (by omega)]
  refine evP (by omega) (evP (by omega) (evN ?_ hk))
  show ¬ a ≤ L[n].2
  omega
 | succ d ih =>
  intro a acc h0 hd hl hk hnn
  refine ev1 ?_
  simp only [spec_l2Cover.l1]
  rw [rd_s7 L n hn, List.length_map, up1 (by omega)]
  refine evP (by omega) (evP (by omega) (evI (fun c => ?_) (fun c => ?_)))
  ·have c : a ≤ L[n].2 := c
   obtain ⟨k1, k2, k3⟩ := bitsM_spec c
   have hs := sz_bd (m := (bitsM a L[n].2 : Int)) (by omega)
   have h2 := k1.2
   rw [covF_step c] at hl hk
   simp only [List.length_cons] at hl
   refine evB (spec_first (t := L[n].2) h0 c ht) (evP (by omega) (evB (spec_size (m := (bitsM a L[n].2 : Int)) (by omega) (by omega)) ?_))
   rw [w64 (by omega)]
   refine ih (a + sz (bitsM a L[n].2 : Int)) (acc ++ [⟨a, (bitsM a L[n].2 : Int)⟩]) (by omega) (by omega) (by simp only [List.length_append, List.length_singleton]; omega) ?_ hnn
   rw [List.append_assoc]
   exact hk
  ·have c : ¬ a ≤ L[n].2 := c
   rw [covF_end (by omega), List.append_nil] at hk
   exact hk
theorem cov_out {L : List P2} (hb : InB L) (hl : L.length ≤ 10000) (d : Nat) : ∀ (n : Nat) (acc : List Bl), n + d = L.length → acc.length + 64 * d ≤ 900000 → (∃ K_, ∀ k, K_ ≤ k → spec_l2Cover.l0 k (L.map s7) acc (n : Int) = some (acc ++ coverF (L.drop n))) := by
 induction d with
 | zero =>
  intro n acc hn ha
  refine ev1 ?_
  simp only [spec_l2Cover.l0]
  rw [List.drop_eq_nil_of_le (by omega), List.length_map]
  exact evN (by omega) (evR (by simp [coverF]))
 | succ d ih =>
  intro n acc hn ha
  have hlt : n < L.length := by omega
  have hs := hb _ (List.getElem_mem hlt)
  have h64 := covF_len hs.1 hs.2
  have := ih (n + 1) (acc ++ covF L[n].1 L[n].2) (by omega) (by rw [List.length_append]; omega)
  refine ev1 ?_
  simp only [spec_l2Cover.l0]
  rw [rd_s7 L n hlt, List.length_map, List.drop_eq_getElem_cons hlt]
  refine evP (by omega) (evP (by omega) (cov_in hlt hs.2 _ L[n].1 acc hs.1 (Nat.le_refl _) (by omega) ?_ (by omega)))
  rw [List.append_assoc] at this
  exact this
theorem spec_cover {L : List P2} (hb : InB L) (hl : L.length ≤ 10000) : (∃ K_, ∀ k, K_ ≤ k → spec_l2Cover.f k (L.map s7) = some (coverF L)) := by
 have := cov_out hb hl L.length 0 [] (by omega) (by simp only [List.length_nil]; omega)
 rw [List.drop_zero, List.nil_append] at this
 exact this
theorem spec_room (l : List Bl) : spec_l2Room.f l = some (limF l) := by
 unfold spec_l2Room.f limF
 by_cases c : l.length > 64
 ·rw [if_pos (by omega), if_pos c]
 ·rw [if_neg (by omega), if_neg c]
theorem ov_loop {l m : List Bl} (he : l.length = m.length) (hl : l.length ≤ 1000000) (d : Nat) : ∀ n : Nat, n + d = l.length → (∃ K_, ∀ k, K_ ≤ k → laws_ovBlocks.l0 k l m (n : Int) = some (decide (l.drop n = m.drop n))) := by
 induction d with
 | zero =>
  intro n hn
  refine ev1 ?_
  simp only [laws_ovBlocks.l0]
  rw [List.drop_eq_nil_of_le (by omega), List.drop_eq_nil_of_le (by omega)]
  exact evN (by omega) (evR (by simp))
 | succ d ih =>
  intro n hn
  have hlt : n < l.length := by omega
  have hlt2 : n < m.length := by omega
  have := ih (n + 1) (by omega)
  refine ev1 ?_
  simp only [laws_ovBlocks.l0]
  rw [rd_bl l n hlt, rd_bl m n hlt2, up1 (by omega), List.drop_eq_getElem_cons (l := l) hlt, List.drop_eq_getElem_cons (l := m) hlt2]
  refine evP (by omega) (evP (by omega) (evP (by omega) (evI (fun c => evR ?_) (fun c => ?_))))
  ·have hne : ¬ l[n] = m[n] := fun e => by rw [e] at c; simp at c
   exact (decide_eq_false (fun e => hne (List.cons.inj e).1)).symm
  ·have e : l[n] = m[n] := by
    refine bl_ext ?_
    simpa using c
   rw [e]
   rw [show decide (m[n] :: l.drop (n + 1) = m[n] :: m.drop (n + 1)) = decide (l.drop (n + 1) = m.drop (n + 1)) from decide_eq_decide.2 ⟨fun h => (List.cons.inj h).2, fun h => by rw [h]⟩]
   exact this
theorem ov_same (l m : List Bl) (hl : l.length ≤ 1000000) : (∃ K_, ∀ k, K_ ≤ k → laws_ovBlocks.f k l m = some (decide (l = m))) := by
 simp only [laws_ovBlocks.f]
 refine evI (fun c => ?_) (fun c => evR ?_)
 ·have := ov_loop (l := l) (m := m) (by omega) hl l.length 0 (by omega)
  rw [List.drop_zero, List.drop_zero] at this
  exact this
 ·exact (decide_eq_false (fun e => c (by rw [e]))).symm
theorem ov_self (l : List Bl) (hl : l.length ≤ 1000000) : (∃ K_, ∀ k, K_ ≤ k → laws_ovBlocks.f k l l = some true) := by
 have := ov_same l l hl
 rw [decide_eq_true rfl] at this
 exact this
theorem sumB_cov {t : Int} : ∀ (n : Nat) (a : Int), (t - a + 1).toNat ≤ n → a ≤ t + 1 → sumB (covF a t) = t - a + 1 := by
 intro n
 induction n with
 | zero =>
  intro a hn ha
  rw [covF_end (by omega)]
  show (0 : Int) = _
  omega
 | succ n ih =>
  intro a hn ha
  by_cases c : a ≤ t
  ·have h2 := (bitsM_spec c).1.2
   have hp := sz_pos (bitsM a t : Int)
   rw [covF_step c]
   simp only [sumB]
   rw [ih (a + sz (bitsM a t : Int)) (by omega) (by omega)]
   omega
  ·rw [covF_end (by omega)]
   show (0 : Int) = _
   omega
theorem limF_len (l : List Bl) : (limF l).1.length ≤ 64 := by
 unfold limF
 split
 ·simp
 ·simp only []; omega
/-- Strictly rising. -/
def Rise (l : List Int) : Prop := l.Pairwise (fun a b => a < b)
theorem rise_ext : ∀ {l m : List Int}, Rise l → Rise m → (∀ x, x ∈ l ↔ x ∈ m) → l = m
 | [], [], _, _, _ => rfl
 | [], y :: m, _, _, h => by have := (h y).2 (List.mem_cons_self ..); cases this
 | x :: l, [], _, _, h => by have := (h x).1 (List.mem_cons_self ..); cases this
 | x :: l, y :: m, hl, hm, h => by
  obtain ⟨h1, h2⟩ := List.pairwise_cons.1 hl
  obtain ⟨h3, h4⟩ := List.pairwise_cons.1 hm
  have e : x = y := by
   have a := (h x).1 (List.mem_cons_self ..)
   have b := (h y).2 (List.mem_cons_self ..)
   rcases List.mem_cons.1 a with a | a
   ·exact a
   ·rcases List.mem_cons.1 b with b | b
    ·exact b.symm
    ·have := h1 y b; have := h3 x a; omega
  subst e
  rw [rise_ext h2 h4 (fun z => ?_)]
  constructor
  ·intro hz
   rcases List.mem_cons.1 ((h z).1 (List.mem_cons_of_mem _ hz)) with e | e
   ·have := h1 z hz; omega
   ·exact e
  ·intro hz
   rcases List.mem_cons.1 ((h z).2 (List.mem_cons_of_mem _ hz)) with e | e
   ·have := h3 z hz; omega
   ·exact e
/-- A number put among others. -/
def numF : List Int → Int → List Int
 | [], n => [n]
 | x :: l, n => if x < n then x :: numF l n else if x = n then x :: l else n :: x :: l
theorem mem_numF {n y : Int} : ∀ {l : List Int}, y ∈ numF l n ↔ y = n ∨ y ∈ l
 | [] => by simp [numF]
 | x :: l => by
  unfold numF
  split
  ·simp only [List.mem_cons, mem_numF (l := l)]
   constructor
   ·rintro (h | h | h) <;> simp [h]
   ·rintro (h | h | h) <;> simp [h]
  ·split
   ·rename_i e
    subst e
    simp
   ·simp
theorem rise_numF {n : Int} : ∀ {l : List Int}, Rise l → Rise (numF l n)
 | [], _ => List.pairwise_cons.2 ⟨by simp, List.Pairwise.nil⟩
 | x :: l, h => by
  obtain ⟨h1, h2⟩ := List.pairwise_cons.1 h
  unfold numF
  split
  ·refine List.pairwise_cons.2 ⟨fun z hz => ?_, rise_numF h2⟩
   rcases mem_numF.1 hz with e | e
   ·rw [e]; assumption
   ·exact h1 z e
  ·split
   ·exact h
   ·refine List.pairwise_cons.2 ⟨fun z hz => ?_, h⟩
    rcases List.mem_cons.1 hz with e | e
    ·omega
    ·have := h1 z e; omega
/-- Numbers, each put among those ahead of it. -/
def numsF (l ns : List Int) : List Int := ns.foldl numF l
theorem rise_numsF : ∀ {ns l : List Int}, Rise l → Rise (numsF l ns)
 | [], _, h => h
 | _ :: ns, _, h => rise_numsF (ns := ns) (rise_numF h)
theorem mem_numsF {y : Int} : ∀ {ns l : List Int}, y ∈ numsF l ns ↔ y ∈ l ∨ y ∈ ns
 | [], l => by simp [numsF]
 | n :: ns, l => by
  show y ∈ numsF (numF l n) ns ↔ _
  rw [mem_numsF, mem_numF]
  simp only [List.mem_cons]
  constructor
  ·rintro ((h | h) | h) <;> simp [h]
  ·rintro (h | h | h) <;> simp [h]
theorem rise_one (n : Int) : Rise [n] := List.pairwise_cons.2 ⟨by simp, List.Pairwise.nil⟩
/-- Sorted, each once. -/
def dedF : List Int → List Int
 | [] => []
 | [x] => [x]
 | x :: y :: l => if x = y then dedF (y :: l) else x :: dedF (y :: l)
theorem mem_ded {z : Int} : ∀ {l : List Int}, z ∈ dedF l ↔ z ∈ l
 | [] => by simp [dedF]
 | [x] => by simp [dedF]
 | x :: y :: l => by
  unfold dedF
  split
  ·rename_i e
   subst e
   rw [mem_ded]
   simp
  ·simp only [List.mem_cons, mem_ded (l := y :: l)]
theorem rise_ded : ∀ {l : List Int}, l.Pairwise (fun a b => a ≤ b) → Rise (dedF l)
 | [], _ => List.Pairwise.nil
 | [x], _ => rise_one x
 | x :: y :: l, h => by
  obtain ⟨h1, h2⟩ := List.pairwise_cons.1 h
  have ih := rise_ded h2
  unfold dedF
  split
  ·exact ih
  ·rename_i e
   refine List.pairwise_cons.2 ⟨fun z hz => ?_, ih⟩
   have hz' := mem_ded.1 hz
   have a := h1 y (List.mem_cons_self ..)
   rcases List.mem_cons.1 hz' with e2 | e2
   ·omega
   ·have := (List.pairwise_cons.1 h2).1 z e2
    omega
/-- Sorting, and each once, is putting one by one. -/
def sortF (l : List Int) : List Int := l.mergeSort fun x y => decide (x ≤ y)
theorem sortF_le (l : List Int) : (sortF l).Pairwise (fun a b => a ≤ b) := by
 have := List.pairwise_mergeSort (le := fun x y : Int => decide (x ≤ y)) (fun a b c h1 h2 => by simp only [decide_eq_true_eq] at *; omega) (fun a b => by simp only [Bool.or_eq_true, decide_eq_true_eq]; omega) l
 exact this.imp (fun h => by simpa using h)
theorem mem_sortF {l : List Int} {x : Int} : x ∈ sortF l ↔ x ∈ l := by unfold sortF; exact List.mem_mergeSort
theorem ded_sort {l m : List Int} (hm : Rise m) (h : ∀ x, x ∈ m ↔ x ∈ l) : dedF (sortF l) = m :=
 rise_ext (rise_ded (sortF_le l)) hm (fun x => by rw [mem_ded, mem_sortF, h])
/-- The last edge at or ahead of a number. -/
theorem edge_of {l : List Int} (hl : Rise l) {x : Int} : ∀ {e0 : Int}, e0 ∈ l → e0 ≤ x → ∃ e ∈ l, e ≤ x ∧ ∀ y ∈ l, y ≤ x → y ≤ e := by
 induction l with
 | nil => intro e0 h; cases h
 | cons a l ih =>
  intro e0 h0 h1
  obtain ⟨p, q⟩ := List.pairwise_cons.1 hl
  by_cases c : ∃ b ∈ l, b ≤ x
  ·obtain ⟨b, hb, hbx⟩ := c
   obtain ⟨e, he, h2, h3⟩ := ih q hb hbx
   refine ⟨e, List.mem_cons_of_mem _ he, h2, fun y hy hyx => ?_⟩
   rcases List.mem_cons.1 hy with ey | ey
   ·have := p e he; omega
   ·exact h3 y ey hyx
  ·have ha : a ≤ x := by
    rcases List.mem_cons.1 h0 with e | e
    ·omega
    ·exact absurd ⟨e0, e, h1⟩ c
   refine ⟨a, List.mem_cons_self .., ha, fun y hy hyx => ?_⟩
   rcases List.mem_cons.1 hy with ey | ey
   ·omega
   ·exact absurd ⟨y, ey, hyx⟩ c
def tailC (x : Int) (t : List Int) : List Int := ((List.range t.length).filter (fun j => decide ((x :: t)[j + 1]! ≠ (x :: t)[j]!))).map (fun j => (x :: t)[j + 1]!)
theorem tailC_cons (x y : Int) (l : List Int) : tailC x (y :: l) = (if y ≠ x then [y] else []) ++ tailC y l := by
 unfold tailC
 rw [List.length_cons, List.range_succ_eq_map, List.filter_cons, List.filter_map]
 by_cases e : y = x <;> simp [e, Function.comp_def]
theorem ded_tail : ∀ (x : Int) (t : List Int), dedF (x :: t) = x :: tailC x t
 | x, [] => rfl
 | x, y :: l => by
  unfold dedF
  rw [tailC_cons, ded_tail y l]
  by_cases e : x = y
  ·subst e; simp
  ·rw [if_neg e, if_pos (Ne.symm e)]; rfl
theorem compact_ded : ∀ l : List Int, Lib.compact l = dedF l
 | [] => rfl
 | x :: t => by
  rw [ded_tail]
  unfold Lib.compact Lib.compactUpTo tailC
  rw [List.length_cons, List.range_succ_eq_map, List.filter_cons]
  have h0 : Lib.keeps (x :: t).toArray 0 = true := by simp [Lib.keeps]
  have hs : ∀ j, Lib.keeps (x :: t).toArray (j + 1) = decide ((x :: t)[j + 1]! ≠ (x :: t)[j]!) := fun j => by simp [Lib.keeps]
  rw [h0, if_pos rfl, List.filter_map, List.map_cons, List.map_map]
  simp only [Function.comp_def, Nat.succ_eq_add_one, hs]
  simp
theorem numF_len (l : List Int) (n : Int) : (numF l n).length ≤ l.length + 1 := by
 induction l with
 | nil => simp [numF]
 | cons x l ih =>
  unfold numF
  split
  ·simp only [List.length_cons]; omega
  ·split
   ·simp only [List.length_cons]; omega
   ·simp only [List.length_cons]; omega
theorem rd_num (l : List Int) (n : Nat) (h : n < l.length) : rd l (n : Int) = l[n] := by
 unfold rd
 rw [List.getD_eq_getElem?_getD, Int.toNat_natCast, List.getElem?_eq_getElem h]
 rfl
theorem spec_num_loop (l : List Int) (v : Int) (hl : l.length ≤ 1000000000) (d : Nat) : ∀ n : Nat, n + d = l.length → (∃ K_, ∀ k, K_ ≤ k → spec_l3Num.l0 k l v (n : Int) = some (l.take n ++ numF (l.drop n) v)) := by
 induction d with
 | zero =>
  intro n hn
  refine ev1 ?_
  simp only [spec_l3Num.l0]
  have e : l.take n = l := List.take_of_length_le (by omega)
  have e2 : l.drop n = [] := List.drop_eq_nil_of_le (by omega)
  refine evN (by omega) (evS rfl (evP (by omega) (evP (by omega) ?_)))
  rw [Int.toNat_natCast, e, e2]
  refine evS rfl (evP (by simp; omega) (evS rfl (evS rfl (evP (by simp; omega) (evS rfl (evS rfl (evP (by simp; omega) (evR ?_))))))))
  simp [numF]
 | succ d ih =>
  intro n hn
  have hlt : n < l.length := by omega
  have hw : wrap64 ((n : Int) + 1) = ((n + 1 : Nat) : Int) := by rw [w64 (by omega)]; omega
  refine ev1 ?_
  simp only [spec_l3Num.l0]
  refine evP (by omega) (evP (by omega) ?_)
  rw [rd_num l n hlt, hw, List.drop_eq_getElem_cons hlt]
  refine evI (fun c => ?_) (fun c => ?_)
  ·have h := ih (n + 1) (by omega)
   rw [List.take_succ_eq_append_getElem hlt] at h
   simp only [numF, if_pos c]
   rw [List.append_assoc] at h
   exact h
  ·refine evI (fun c2 => ?_) (fun c2 => ?_)
   ·refine evR ?_
    simp only [numF, if_neg c, if_pos c2]
    rw [← List.drop_eq_getElem_cons hlt, List.take_append_drop]
   ·refine evS rfl (evP (by omega) ?_)
    rw [Int.toNat_natCast]
    refine evS rfl (evP (by simp; omega) (evS rfl (evS rfl (evP (by simp; omega) (evS rfl (evS rfl (evP (by simp; omega) (evR ?_))))))))
    simp only [numF, if_neg c, if_neg c2]
    rw [← List.drop_eq_getElem_cons hlt]
    simp
theorem spec_num (l : List Int) (v : Int) (hl : l.length ≤ 1000000000) : (∃ K_, ∀ k, K_ ≤ k → spec_l3Num.f k l v = some (numF l v)) := spec_num_loop l v hl l.length 0 (by omega)
/-- Where something may change about a block: where it begins, and behind its end. -/
def edgeB (b m : Int) : List Int := if b + sz m ≤ 4294967295 then [b, b + sz m] else [b]
theorem edgeB_len (b m : Int) : (edgeB b m).length ≤ 2 := by unfold edgeB; split <;> simp
theorem mem_edgeB {b m x : Int} : x ∈ edgeB b m ↔ x = b ∨ b + sz m ≤ 4294967295 ∧ x = b + sz m := by
 unfold edgeB
 split
 ·rename_i c; simp [c]
 ·rename_i c; simp [c]
theorem edgeB_in {b m x : Int} (h : bok b m) (hx : x ∈ edgeB b m) : 0 ≤ x ∧ x ≤ 4294967295 := by
 have := sz_pos m
 obtain ⟨h0, h1, _⟩ := h
 rcases mem_edgeB.1 hx with e | ⟨e, e2⟩ <;> omega
/-- A block has a number just if it has the last edge at or ahead of it. -/
theorem has_edge {b m x e : Int} (hx : x ≤ 4294967295) (he : e ≤ x) (h1 : b ≤ x → b ≤ e) (h2 : b + sz m ≤ 4294967295 → b + sz m ≤ x → b + sz m ≤ e) : hasB b m e = hasB b m x := by
 rw [Bool.eq_iff_iff, hasB_iff, hasB_iff]
 constructor
 ·rintro ⟨p, q⟩
  refine ⟨by omega, ?_⟩
  rcases Int.lt_or_le x (b + sz m) with r | r
  ·exact r
  ·have := h2 (by omega) r; omega
 ·rintro ⟨p, q⟩
  exact ⟨h1 p, by omega⟩
def edgesF (bs : List S32) : List Int := numsF [0] (bs.flatMap fun b => edgeB b.f0 b.f1)
theorem rise_edgesF (bs : List S32) : Rise (edgesF bs) := rise_numsF (rise_one 0)
theorem mem_edgesF {bs : List S32} {x : Int} : x ∈ edgesF bs ↔ x = 0 ∨ ∃ b ∈ bs, x ∈ edgeB b.f0 b.f1 := by
 unfold edgesF
 rw [mem_numsF, List.mem_flatMap, List.mem_singleton]
theorem edges_in {bs : List S32} (h : ∀ b ∈ bs, bok b.f0 b.f1) {x : Int} (hx : x ∈ edgesF bs) : 0 ≤ x ∧ x ≤ 4294967295 := by
 rcases mem_edgesF.1 hx with e | ⟨b, hb, e⟩
 ·omega
 ·exact edgeB_in (h b hb) e
theorem rd_bk (l : List S32) (n : Nat) (h : n < l.length) : rd_T32 l (n : Int) = l[n] := by
 unfold rd_T32
 rw [List.getD_eq_getElem?_getD, Int.toNat_natCast, List.getElem?_eq_getElem h]
 rfl
theorem sort_ded (l : List Int) (h0 : 0 < l.length) (h1 : l.length ≤ 1000000000) : ((slices_Sort_int.f l).bind fun t => (slices_Compact_int.f t).bind fun t => some t) = some (dedF (sortF l)) := by
 have hl : (sortF l).length = l.length := by unfold sortF; exact List.length_mergeSort _
 unfold slices_Sort_int.f
 rw [if_pos (by omega), if_pos (by omega), Option.bind_some]
 show ((slices_Compact_int.f (sortF l)).bind fun t => some t) = _
 unfold slices_Compact_int.f
 rw [if_pos (by omega), Option.bind_some, compact_ded]
theorem impl_bounds_loop (l : List S32) (hv : ∀ b ∈ l, bok b.f0 b.f1) (hl : l.length ≤ 100000000) (d : Nat) : ∀ (n : Nat) (acc : List Int), n + d = l.length → 0 < acc.length → acc.length + 2 * d ≤ 300000000 → (∃ K_, ∀ k, K_ ≤ k → impl_bounds.l0 k acc l (l.length : Int) (n : Int) = some (dedF (sortF (acc ++ (l.drop n).flatMap fun b => edgeB b.f0 b.f1)))) := by
 induction d with
 | zero =>
  intro n acc hn h0 ha
  refine ev1 ?_
  simp only [impl_bounds.l0]
  rw [List.drop_eq_nil_of_le (by omega), List.flatMap_nil, List.append_nil]
  exact evN (by omega) ⟨0, fun k _ => sort_ded acc h0 (by omega)⟩
 | succ d ih =>
  intro n acc hn h0 ha
  have hlt : n < l.length := by omega
  have hw : wrap64 ((n : Int) + 1) = ((n + 1 : Nat) : Int) := by rw [w64 (by omega)]; omega
  have hb := hv l[n] (List.getElem_mem hlt)
  have hs := sz_bd hb.2.2.1
  have hla := impl_last hb.1 (by have := hb.2.1; omega) hb.2.2.1 hb.2.2.2.1
  have hb2 := hb.2.1
  have hb1 := hb.1
  refine ev1 ?_
  simp only [impl_bounds.l0]
  rw [rd_bk l n hlt, hw, List.drop_eq_getElem_cons hlt, List.flatMap_cons]
  refine evP (by omega) (evP (by omega) (evP (by omega) (evP (by omega) (evS rfl (evS hla (evI (fun c => ?_) (fun c => ?_)))))))
  ·have e : wrap64 (l[n].f0 + sz l[n].f1 - 1 + 1) = l[n].f0 + sz l[n].f1 := by rw [w64 (by omega)]; omega
   have h := ih (n + 1) (acc ++ [l[n].f0] ++ [l[n].f0 + sz l[n].f1]) (by omega) (by simp) (by simp; omega)
   refine evS hla (evP (by simp; omega) ?_)
   rw [e]
   unfold edgeB
   rw [if_pos (by omega)]
   rw [List.append_assoc, List.append_assoc] at h
   rw [List.append_assoc]
   exact h
  ·have h := ih (n + 1) (acc ++ [l[n].f0]) (by omega) (by simp) (by simp; omega)
   unfold edgeB
   rw [if_neg (by omega)]
   rw [List.append_assoc] at h
   exact h
theorem impl_bounds (l : List S32) (hv : ∀ b ∈ l, bok b.f0 b.f1) (hl : l.length ≤ 100000000) : (∃ K_, ∀ k, K_ ≤ k → impl_bounds.f k l = some (edgesF l)) := by
 have h := impl_bounds_loop l hv hl l.length 0 [0] (by omega) (by simp) (by simp; omega)
 have e : dedF (sortF ([0] ++ (l.drop 0).flatMap fun b => edgeB b.f0 b.f1)) = edgesF l := ded_sort (rise_edgesF l) (fun x => by rw [edgesF, mem_numsF, List.drop_zero, List.mem_append])
 rw [e] at h
 exact h
abbrev Wy := S34
theorem drop_cons {α : Type} {l : List α} {n : Nat} (h : n < l.length) : l.drop n = l[n] :: l.drop (n + 1) := List.drop_eq_getElem_cons h
theorem rd_way (l : List Wy) (n : Nat) (h : n < l.length) : rd_T34 l (n : Int) = l[n] := by
 unfold rd_T34
 rw [List.getD_eq_getElem?_getD, Int.toNat_natCast, List.getElem?_eq_getElem h]
 rfl
/-- The block of a way comes ahead of another one's. -/
def ltB (a b : S32) : Bool := decide (a.f0 < b.f0 ∨ a.f0 = b.f0 ∧ a.f1 < b.f1)
/-- Is it a hop? -/
def hopB (x : Int) : Bool := decide (0 ≤ x ∧ x ≤ 99)
def wayB (w : Wy) : Bool := bokB w.f0.f0 w.f0.f1 && hopB w.f1
/-- Each way is valid, and ahead of the next one; 'p': the one before. -/
def chainB : Option Wy → List Wy → Bool
 | _, [] => true
 | none, w :: l => wayB w && chainB (some w) l
 | some p, w :: l => wayB w && (ltB p.f0 w.f0 && chainB (some w) l)
def wokB (l : List Wy) : Bool := chainB none l && decide (l.length ≤ 40)
/-- The way ahead of place n. -/
def prevW (l : List Wy) (n : Nat) : Option Wy := match n with | 0 => none | m + 1 => l[m]?
theorem isnan (a : Int) : cmp_isNaN_int.f a = some false := by simp [cmp_isNaN_int.f]
/-- How two numbers stand to each other. -/
def cmpI (a b : Int) : Int := if a < b then -1 else if a > b then 1 else 0
theorem cmp_int (a b : Int) : cmp_Compare_int.f a b = some (cmpI a b) := by
 unfold cmp_Compare_int.f cmpI
 rw [isnan, Option.bind_some, isnan, Option.bind_some]
 simp only [Bool.false_eq_true, if_false]
 split
 ·rfl
 ·split <;> rfl
theorem or_two (a b : Int) : (∃ K_, ∀ k, K_ ≤ k → cmp_Or_int.f k [a, b] = some (if a = 0 then b else a)) := by
 refine ⟨3, fun k hk => ?_⟩
 obtain ⟨k, rfl⟩ : ∃ j, k = j + 3 := ⟨k - 3, by omega⟩
 have e : (([a, b] : List Int).length : Int) = 2 := rfl
 have e0 : wrap64 (0 + 1) = 1 := w64 (by omega)
 have e1 : wrap64 (1 + 1) = 2 := w64 (by omega)
 have r0 : rd [a, b] 0 = a := rfl
 have r1 : rd [a, b] 1 = b := rfl
 simp only [cmp_Or_int.f]
 rw [cmp_Or_int.l0, e, if_pos (by omega), if_pos (by omega), if_pos (by omega), r0]
 by_cases h0 : a = 0
 ·rw [if_pos h0, if_pos h0, e0, cmp_Or_int.l0, e, if_pos (by omega), if_pos (by omega), if_pos (by omega), r1]
  by_cases h1 : b = 0
  ·rw [if_pos h1, e1, cmp_Or_int.l0, if_neg (by omega), h1]
  ·rw [if_neg h1]
 ·rw [if_neg h0, if_neg h0]
theorem by_block (a b : S32) : ∃ v, (∃ K_, ∀ k, K_ ≤ k → impl_byBlock.f k a.f0 a.f1 b.f0 b.f1 = some v) ∧ (v ≥ 0 ↔ ltB a b = false) ∧ (v = 0 ↔ a.f0 = b.f0 ∧ a.f1 = b.f1) ∧ -1 ≤ v ∧ v ≤ 1 := by
 obtain ⟨K, h⟩ := or_two (cmpI a.f0 b.f0) (cmpI a.f1 b.f1)
 refine ⟨if cmpI a.f0 b.f0 = 0 then cmpI a.f1 b.f1 else cmpI a.f0 b.f0, ⟨K, fun k hk => ?_⟩, ?_⟩
 ·simp only [impl_byBlock.f]
  rw [cmp_int, Option.bind_some, cmp_int, Option.bind_some, h k hk, Option.bind_some]
 ·have e : ltB a b = false ↔ ¬ (a.f0 < b.f0 ∨ a.f0 = b.f0 ∧ a.f1 < b.f1) := by simp only [ltB, decide_eq_false_iff_not]
  rw [e]
  unfold cmpI
  repeat' split
  all_goals omega
theorem cmp_block {a b : S32} (ha : bok a.f0 a.f1) (hb : bok b.f0 b.f1) : ∃ v, spec_l3Cmp.f a.f0 a.f1 b.f0 b.f1 = some v ∧ (v ≥ 0 ↔ ltB a b = false) ∧ (v < 0 ↔ ltB a b = true) := by
 obtain ⟨a0, a1, a2, a3, _⟩ := ha
 obtain ⟨b0, b1, b2, b3, _⟩ := hb
 have e : ltB a b = false ↔ ¬ (a.f0 < b.f0 ∨ a.f0 = b.f0 ∧ a.f1 < b.f1) := by simp only [ltB, decide_eq_false_iff_not]
 have e' : ltB a b = true ↔ (a.f0 < b.f0 ∨ a.f0 = b.f0 ∧ a.f1 < b.f1) := by simp only [ltB, decide_eq_true_eq]
 unfold spec_l3Cmp.f
 rw [e, e']
 by_cases c : a.f0 = b.f0
 ·rw [if_pos c, w64 (by omega)]
  exact ⟨_, rfl, by omega, by omega⟩
 ·rw [if_neg c, w64 (by omega)]
  exact ⟨_, rfl, by omega, by omega⟩
theorem prevW_succ {l : List Wy} {n : Nat} (h : n < l.length) : prevW l (n + 1) = some l[n] := by simp [prevW, h]
/-- What the loops of WaysOk answer, from place n on, all ways ahead being valid. -/
theorem impl_waysOk_loop (l : List Wy) (hl : l.length ≤ 1099511627776) (d : Nat) : ∀ n : Nat, n + d = l.length → (∃ K_, ∀ k, K_ ≤ k → impl_WaysOk.l0 k l l (l.length : Int) (n : Int) = some (chainB (prevW l n) (l.drop n) && decide (l.length ≤ 40))) := by
 induction d with
 | zero =>
  intro n hn
  refine ⟨1, fun k hk => ?_⟩
  obtain ⟨k, rfl⟩ : ∃ j, k = j + 1 := ⟨k - 1, by omega⟩
  simp only [impl_WaysOk.l0]
  rw [if_neg (by omega), List.drop_eq_nil_of_le (by omega)]
  have : decide ((l.length : Int) ≤ 40) = decide (l.length ≤ 40) := by rw [decide_eq_decide]; omega
  rw [this]
  cases prevW l n <;> rfl
 | succ d ih =>
  intro n hn
  have hlt : n < l.length := by omega
  obtain ⟨K1, e1⟩ := ih (n + 1) (by omega)
  rw [prevW_succ hlt] at e1
  have hw : wrap64 ((n : Int) + 1) = ((n + 1 : Nat) : Int) := by rw [w64 (by omega)]; omega
  rw [drop_cons hlt]
  have hin : ∀ x : Int, impl_in.f x 0 99 = some (hopB x) := fun x => impl_in x 0 99
  cases n with
  | zero =>
   refine ⟨K1 + 1, fun k hk => ?_⟩
   obtain ⟨k, rfl⟩ : ∃ j, k = j + 1 := ⟨k - 1, by omega⟩
   have e1 := e1 k (by omega)
   simp only [impl_WaysOk.l0, prevW, chainB]
   rw [if_pos (by omega), if_pos (by omega), if_pos (by omega), rd_way l 0 hlt, impl_ok, Option.bind_some, hin, Option.bind_some, hw, e1]
   cases hx : bokB l[0].f0.f0 l[0].f0.f1 with
   | false => simp [wayB, hx]
   | true =>
    cases hy : hopB l[0].f1 with
    | true =>
     rw [if_pos rfl, if_pos rfl, if_neg (by omega)]
     simp [wayB, hx, hy]
    | false => simp [wayB, hx, hy]
  | succ m =>
   have hm : m < l.length := by omega
   have hw2 : wrap64 (((m + 1 : Nat) : Int) - 1) = (m : Int) := by rw [w64 (by omega)]; omega
   obtain ⟨v, ⟨K2, e2⟩, v1, _⟩ := by_block l[m].f0 l[m + 1].f0
   refine ⟨K1 + K2 + 1, fun k hk => ?_⟩
   obtain ⟨k, rfl⟩ : ∃ j, k = j + 1 := ⟨k - 1, by omega⟩
   have e1 := e1 k (by omega)
   have e2 := e2 k (by omega)
   simp only [impl_WaysOk.l0]
   rw [prevW_succ hm]
   simp only [chainB]
   rw [if_pos (by omega), if_pos (by omega), if_pos (by omega), rd_way l (m + 1) hlt, impl_ok, Option.bind_some, hin, Option.bind_some, hw, e1]
   cases hx : bokB l[m + 1].f0.f0 l[m + 1].f0.f1 with
   | false => simp [wayB, hx]
   | true =>
    cases hy : hopB l[m + 1].f1 with
    | true =>
     rw [if_pos rfl, if_pos rfl, if_pos (by omega), hw2, if_pos (by omega), if_pos (by omega), rd_way l m hm, e2, Option.bind_some]
     cases q : ltB l[m].f0 l[m + 1].f0 with
     | false =>
      rw [if_pos (v1.2 q)]
      simp
     | true =>
      rw [if_neg (fun h => by rw [v1.1 h] at q; cases q)]
      simp [wayB, hx, hy]
    | false => simp [wayB, hx, hy]
theorem impl_waysOk (l : List Wy) (hl : l.length ≤ 1099511627776) : (∃ K_, ∀ k, K_ ≤ k → impl_WaysOk.f k l = some (wokB l)) := impl_waysOk_loop l hl l.length 0 (by omega)
theorem spec_waysOk_loop (l : List Wy) (hl : l.length ≤ 1099511627776) (d : Nat) : ∀ n : Nat, n + d = l.length → (∀ m (h : m < n), m < l.length → ∀ p, l[m]? = some p → bok p.f0.f0 p.f0.f1) → (∃ K_, ∀ k, K_ ≤ k → spec_WaysOk.l0 k l (n : Int) = some (chainB (prevW l n) (l.drop n) && decide (l.length ≤ 40))) := by
 induction d with
 | zero =>
  intro n hn _
  refine ⟨1, fun k hk => ?_⟩
  obtain ⟨k, rfl⟩ : ∃ j, k = j + 1 := ⟨k - 1, by omega⟩
  simp only [spec_WaysOk.l0]
  rw [if_neg (by omega), List.drop_eq_nil_of_le (by omega)]
  have : decide ((l.length : Int) ≤ 40) = decide (l.length ≤ 40) := by rw [decide_eq_decide]; omega
  rw [this]
  cases prevW l n <;> rfl
 | succ d ih =>
  intro n hn hv
  have hlt : n < l.length := by omega
  have hw : wrap64 ((n : Int) + 1) = ((n + 1 : Nat) : Int) := by rw [w64 (by omega)]; omega
  obtain ⟨K3, e3⟩ := spec_ok l[n].f0.f0 l[n].f0.f1
  rw [drop_cons hlt]
  have hin : ∀ x : Int, spec_l1In.f x 0 99 = some (hopB x) := fun x => spec_in x 0 99
  cases hb : bokB l[n].f0.f0 l[n].f0.f1 with
  | false =>
   refine ⟨K3 + 1, fun k hk => ?_⟩
   obtain ⟨k, rfl⟩ : ∃ j, k = j + 1 := ⟨k - 1, by omega⟩
   simp only [spec_WaysOk.l0]
   rw [if_pos (by omega), if_pos (by omega), rd_way l n hlt, e3 k (by omega), Option.bind_some, hb]
   cases prevW l n <;> simp [chainB, wayB, hb]
  | true =>
   obtain ⟨K1, e1⟩ := ih (n + 1) (by omega) (fun m h1 h2 p hp => by
    by_cases e : m = n
    ·subst e
     rw [List.getElem?_eq_getElem hlt] at hp
     cases hp
     exact bokB_true.1 hb
    ·exact hv m (by omega) h2 p hp)
   rw [prevW_succ hlt] at e1
   cases n with
   | zero =>
    refine ⟨K1 + K3 + 1, fun k hk => ?_⟩
    obtain ⟨k, rfl⟩ : ∃ j, k = j + 1 := ⟨k - 1, by omega⟩
    have e1 := e1 k (by omega)
    simp only [spec_WaysOk.l0, prevW, chainB, wayB]
    rw [if_pos (by omega), if_pos (by omega), rd_way l 0 hlt, e3 k (by omega), Option.bind_some, hin, Option.bind_some, hw, e1, hb]
    cases hy : hopB l[0].f1 with
    | true =>
     rw [if_pos rfl, if_pos rfl, if_neg (by omega)]
     simp [hy]
    | false => simp [hy]
   | succ m =>
    have hm : m < l.length := by omega
    have hw2 : wrap64 (((m + 1 : Nat) : Int) - 1) = (m : Int) := by rw [w64 (by omega)]; omega
    obtain ⟨v, e2, v1, _⟩ := cmp_block (hv m (by omega) hm l[m] (List.getElem?_eq_getElem hm)) (bokB_true.1 hb)
    refine ⟨K1 + K3 + 1, fun k hk => ?_⟩
    obtain ⟨k, rfl⟩ : ∃ j, k = j + 1 := ⟨k - 1, by omega⟩
    have e1 := e1 k (by omega)
    simp only [spec_WaysOk.l0]
    rw [prevW_succ hm]
    simp only [chainB, wayB]
    rw [if_pos (by omega), if_pos (by omega), rd_way l (m + 1) hlt, e3 k (by omega), Option.bind_some, hin, Option.bind_some, hw, e1, hb]
    cases hy : hopB l[m + 1].f1 with
    | true =>
     rw [if_pos rfl, if_pos rfl, if_pos (by omega), hw2, if_pos (by omega), if_pos (by omega), rd_way l m hm, e2, Option.bind_some]
     cases q : ltB l[m].f0 l[m + 1].f0 with
     | false =>
      rw [if_pos (v1.2 q)]
      simp
     | true =>
      rw [if_neg (fun h => by rw [v1.1 h] at q; cases q)]
      simp [hy]
    | false => simp [hy]
theorem spec_waysOk (l : List Wy) (hl : l.length ≤ 1099511627776) : (∃ K_, ∀ k, K_ ≤ k → spec_WaysOk.f k l = some (wokB l)) := spec_waysOk_loop l hl l.length 0 (by omega) (fun m h => absurd h (by omega))
theorem chainB_valid {l : List Wy} : ∀ {p : Option Wy}, chainB p l = true → ∀ w ∈ l, wayB w = true := by
 induction l with
 | nil => intro p _ w hw; cases hw
 | cons x l ih =>
  intro p h w hw
  have h' : wayB x = true ∧ chainB (some x) l = true := by
   cases p <;> simp only [chainB, Bool.and_eq_true] at h
   ·exact h
   ·exact ⟨h.1, h.2.2⟩
  rcases List.mem_cons.1 hw with rfl | hw
  ·exact h'.1
  ·exact ih h'.2 w hw
theorem wokB_valid {l : List Wy} (h : wokB l = true) : ∀ w ∈ l, bok w.f0.f0 w.f0.f1 ∧ 0 ≤ w.f1 ∧ w.f1 ≤ 99 := by
 intro w hw
 simp only [wokB, Bool.and_eq_true] at h
 have := chainB_valid h.1 w hw
 simp only [wayB, hopB, Bool.and_eq_true, bokB_true, decide_eq_true_eq] at this
 exact ⟨this.1, this.2⟩
theorem wokB_len {l : List Wy} (h : wokB l = true) : l.length ≤ 40 := by
 simp only [wokB, Bool.and_eq_true, decide_eq_true_eq] at h
 exact h.2
/-- The hop to which an address leads, of what is left; the best till here. -/
def leadGo (a : Int) : List Wy → Int → Int → Int
 | [], hop, _ => hop
 | w :: l, hop, bits => if hasB w.f0.f0 w.f0.f1 a = true ∧ w.f0.f1 > bits then leadGo a l w.f1 w.f0.f1 else leadGo a l hop bits
def leadF (l : List Wy) (a : Int) : Int := leadGo a l (-1) (-1)
theorem impl_lead_loop (l : List Wy) (a : Int) (hv : ∀ w ∈ l, bok w.f0.f0 w.f0.f1) (hl : l.length ≤ 1099511627776) (d : Nat) : ∀ (n : Nat) (x y z : Int), n + d = l.length → (∃ K_, ∀ k, K_ ≤ k → impl_lead.l0 k a l (l.length : Int) (n : Int) x y z = some (leadGo a (l.drop n) z y)) := by
 induction d with
 | zero =>
  intro n x y z hn
  refine ⟨1, fun k hk => ?_⟩
  obtain ⟨k, rfl⟩ : ∃ j, k = j + 1 := ⟨k - 1, by omega⟩
  simp only [impl_lead.l0]
  rw [if_neg (by omega), List.drop_eq_nil_of_le (by omega)]
  rfl
 | succ d ih =>
  intro n x y z hn
  have hlt : n < l.length := by omega
  have hw : wrap64 ((n : Int) + 1) = ((n + 1 : Nat) : Int) := by rw [w64 (by omega)]; omega
  have hb := hv l[n] (List.getElem_mem hlt)
  obtain ⟨K1, e1⟩ := ih (n + 1) x y z (by omega)
  obtain ⟨K2, e2⟩ := ih (n + 1) l[n].f0.f0 l[n].f0.f1 l[n].f1 (by omega)
  refine ⟨K1 + K2 + 1, fun k hk => ?_⟩
  obtain ⟨k, rfl⟩ : ∃ j, k = j + 1 := ⟨k - 1, by omega⟩
  have e1 := e1 k (by omega)
  have e2 := e2 k (by omega)
  simp only [impl_lead.l0]
  rw [drop_cons hlt, if_pos (by omega), if_pos (by omega), if_pos (by omega), rd_way l n hlt, impl_has a hb.1 (by have := hb.2.1; omega) hb.2.2.1 hb.2.2.2.1, Option.bind_some, hw, e1, e2]
  simp only [leadGo]
  cases hasB l[n].f0.f0 l[n].f0.f1 a with
  | false => simp
  | true =>
   by_cases c : l[n].f0.f1 > y
   ·simp [c]
   ·simp [c]
theorem impl_lead (l : List Wy) (a : Int) (hv : ∀ w ∈ l, bok w.f0.f0 w.f0.f1) (hl : l.length ≤ 1099511627776) : (∃ K_, ∀ k, K_ ≤ k → impl_lead.f k l a = some (leadF l a)) := impl_lead_loop l a hv hl l.length 0 0 (-1) (-1) (by omega)
theorem spec_lead_loop (l : List Wy) (a : Int) (hv : ∀ w ∈ l, bok w.f0.f0 w.f0.f1) (hl : l.length ≤ 1099511627776) (d : Nat) : ∀ (n : Nat) (y z : Int), n + d = l.length → (∃ K_, ∀ k, K_ ≤ k → spec_l3Lead.l0 k l a z y (n : Int) = some (leadGo a (l.drop n) z y)) := by
 induction d with
 | zero =>
  intro n y z hn
  refine ⟨1, fun k hk => ?_⟩
  obtain ⟨k, rfl⟩ : ∃ j, k = j + 1 := ⟨k - 1, by omega⟩
  simp only [spec_l3Lead.l0]
  rw [if_neg (by omega), List.drop_eq_nil_of_le (by omega)]
  rfl
 | succ d ih =>
  intro n y z hn
  have hlt : n < l.length := by omega
  have hw : wrap64 ((n : Int) + 1) = ((n + 1 : Nat) : Int) := by rw [w64 (by omega)]; omega
  have hb := hv l[n] (List.getElem_mem hlt)
  obtain ⟨K1, e1⟩ := ih (n + 1) y z (by omega)
  obtain ⟨K2, e2⟩ := ih (n + 1) l[n].f0.f1 l[n].f1 (by omega)
  obtain ⟨K3, e3⟩ := spec_last (b := l[n].f0.f0) (m := l[n].f0.f1) (by have := hb.1; omega) (by have := hb.2.1; omega) hb.2.2.1 hb.2.2.2.1
  refine ⟨K1 + K2 + K3 + 1, fun k hk => ?_⟩
  obtain ⟨k, rfl⟩ : ∃ j, k = j + 1 := ⟨k - 1, by omega⟩
  have e1 := e1 k (by omega)
  have e2 := e2 k (by omega)
  simp only [spec_l3Lead.l0]
  rw [drop_cons hlt, if_pos (by omega), if_pos (by omega), rd_way l n hlt, e3 k (by omega), Option.bind_some, spec_in, Option.bind_some, hw, e1, e2]
  simp only [leadGo]
  have hh : hasB l[n].f0.f0 l[n].f0.f1 a = decide (l[n].f0.f0 ≤ a ∧ a ≤ l[n].f0.f0 + sz l[n].f0.f1 - 1) := rfl
  rw [← hh]
  cases hasB l[n].f0.f0 l[n].f0.f1 a with
  | false => simp
  | true =>
   by_cases c : l[n].f0.f1 > y
   ·simp [c]
   ·simp [c]
theorem spec_lead (l : List Wy) (a : Int) (hv : ∀ w ∈ l, bok w.f0.f0 w.f0.f1) (hl : l.length ≤ 1099511627776) : (∃ K_, ∀ k, K_ ≤ k → spec_l3Lead.f k l a = some (leadF l a)) := spec_lead_loop l a hv hl l.length 0 (-1) (-1) (by omega)
/-- What WaysLead answers. -/
def waysLeadF (l : List Wy) (a : Int) : Int := if wokB l = true ∧ (0 ≤ a ∧ a ≤ 4294967295) then leadF l a else -1
theorem impl_waysLead (l : List Wy) (a : Int) (hl : l.length ≤ 1099511627776) : (∃ K_, ∀ k, K_ ≤ k → impl_WaysLead.f k l a = some (waysLeadF l a)) := by
 obtain ⟨K1, e1⟩ := impl_waysOk l hl
 unfold waysLeadF
 cases h : wokB l with
 | false =>
  refine ⟨K1, fun k hk => ?_⟩
  simp only [impl_WaysLead.f]
  rw [e1 k hk, Option.bind_some, h]
  simp
 | true =>
  obtain ⟨K2, e2⟩ := impl_lead l a (fun w hw => (wokB_valid h w hw).1) hl
  refine ⟨K1 + K2, fun k hk => ?_⟩
  simp only [impl_WaysLead.f]
  rw [e1 k (by omega), Option.bind_some, h, if_pos rfl, impl_addr, Option.bind_some, e2 k (by omega), Option.bind_some]
  by_cases c : 0 ≤ a ∧ a ≤ 4294967295
  ·simp [c]
  ·simp [c]
abbrev Bk := S32
theorem ltB_iff {a b : Bk} : ltB a b = true ↔ (a.f0 < b.f0 ∨ a.f0 = b.f0 ∧ a.f1 < b.f1) := by simp only [ltB, decide_eq_true_eq]
theorem ltB_trans {a b c : Bk} (h : ltB a b = true) (k : ltB b c = true) : ltB a c = true := by
 rw [ltB_iff] at *
 omega
theorem ltB_irrefl (a : Bk) : ltB a a = false := by
 rw [Bool.eq_false_iff]
 intro h
 rw [ltB_iff] at h
 omega
theorem bk_ext {a b : Bk} (h : a.f0 = b.f0) (k : a.f1 = b.f1) : a = b := by
 cases a
 cases b
 cases h
 cases k
 rfl
theorem ltB_total {a b : Bk} (h : ltB a b = false) (k : ltB b a = false) : a = b := by
 have h' : ¬ ltB a b = true := by rw [h]; exact Bool.false_ne_true
 have k' : ¬ ltB b a = true := by rw [k]; exact Bool.false_ne_true
 rw [ltB_iff] at h' k'
 exact bk_ext (by omega) (by omega)
/-- Valid routes, said plainly. -/
def Wok (l : List Wy) : Prop := (∀ w ∈ l, wayB w = true) ∧ l.Pairwise (fun a b => ltB a.f0 b.f0 = true) ∧ l.length ≤ 40
theorem chain_iff (l : List Wy) : ∀ p : Wy, chainB (some p) l = true ↔ (∀ w ∈ l, wayB w = true) ∧ (p :: l).Pairwise (fun a b => ltB a.f0 b.f0 = true) := by
 induction l with
 | nil => intro p; simp [chainB]
 | cons w l ih =>
  intro p
  simp only [chainB, Bool.and_eq_true]
  rw [ih w]
  constructor
  ·rintro ⟨h1, h2, h3, h4⟩
   refine ⟨fun x hx => ?_, List.pairwise_cons.2 ⟨fun x hx => ?_, h4⟩⟩
   ·rcases List.mem_cons.1 hx with rfl | hx
    ·exact h1
    ·exact h3 x hx
   ·rcases List.mem_cons.1 hx with rfl | hx
    ·exact h2
    ·exact ltB_trans h2 ((List.pairwise_cons.1 h4).1 x hx)
  ·rintro ⟨h1, h2⟩
   obtain ⟨h3, h4⟩ := List.pairwise_cons.1 h2
   exact ⟨h1 w (List.mem_cons_self ..), h3 w (List.mem_cons_self ..), fun x hx => h1 x (List.mem_cons_of_mem _ hx), h4⟩
theorem wokB_iff {l : List Wy} : wokB l = true ↔ Wok l := by
 unfold wokB Wok
 rw [Bool.and_eq_true, decide_eq_true_eq]
 cases l with
 | nil => simp [chainB]
 | cons w l =>
  simp only [chainB, Bool.and_eq_true]
  rw [chain_iff]
  constructor
  ·rintro ⟨⟨h1, h2, h3⟩, h4⟩
   refine ⟨fun x hx => ?_, h3, h4⟩
   rcases List.mem_cons.1 hx with rfl | hx
   ·exact h1
   ·exact h2 x hx
  ·rintro ⟨h1, h2, h3⟩
   exact ⟨⟨h1 w (List.mem_cons_self ..), fun x hx => h1 x (List.mem_cons_of_mem _ hx), h2⟩, h3⟩
theorem wayB_iff {w : Wy} : wayB w = true ↔ bok w.f0.f0 w.f0.f1 ∧ 0 ≤ w.f1 ∧ w.f1 ≤ 99 := by
 simp only [wayB, hopB, Bool.and_eq_true, bokB_true, decide_eq_true_eq]
theorem Wok.nil : Wok [] := ⟨fun _ h => (by cases h), List.Pairwise.nil, by simp⟩
/-- Two valid routes of a list are of one block just if they are the same. -/
theorem Wok.uniq {l : List Wy} (h : Wok l) {x y : Wy} (hx : x ∈ l) (hy : y ∈ l) (e : x.f0 = y.f0) : x = y := by
 have hp := h.2.1
 clear h
 induction l with
 | nil => cases hx
 | cons w l ih =>
  obtain ⟨h1, h2⟩ := List.pairwise_cons.1 hp
  rcases List.mem_cons.1 hx with ex | gx
  ·rcases List.mem_cons.1 hy with ey | gy
   ·rw [ex, ey]
   ·have := h1 y gy; rw [← ex, e, ltB_irrefl] at this; cases this
  ·rcases List.mem_cons.1 hy with ey | gy
   ·have := h1 x gx; rw [← ey, e, ltB_irrefl] at this; cases this
   ·exact ih gx gy h2
def aheadW (l : List Wy) (b : Bk) : List Wy := l.takeWhile fun w => ltB w.f0 b
def restW (l : List Wy) (b : Bk) : List Wy := l.dropWhile fun w => ltB w.f0 b
theorem ahead_rest (l : List Wy) (b : Bk) : aheadW l b ++ restW l b = l := List.takeWhile_append_dropWhile
def eqB (a b : Bk) : Bool := decide (a.f0 = b.f0 ∧ a.f1 = b.f1)
theorem eqB_iff {a b : Bk} : eqB a b = true ↔ a = b := by
 simp only [eqB, decide_eq_true_eq]
 exact ⟨fun h => bk_ext h.1 h.2, fun h => by rw [h]; exact ⟨rfl, rfl⟩⟩
/-- Is it there? -/
def thereB (l : List Wy) (b : Bk) : Bool := match restW l b with | [] => false | w :: _ => eqB w.f0 b
theorem mem_ahead {l : List Wy} {b : Bk} : ∀ w ∈ aheadW l b, ltB w.f0 b = true := by
 induction l with
 | nil => intro w hw; cases hw
 | cons x l ih =>
  intro w hw
  simp only [aheadW, List.takeWhile_cons] at hw
  cases e : ltB x.f0 b with
  | false => rw [e] at hw; simp at hw
  | true =>
   rw [e] at hw
   simp only [if_true] at hw
   rcases List.mem_cons.1 hw with rfl | hw
   ·exact e
   ·exact ih w hw
theorem rest_head {l : List Wy} {b : Bk} {x : Wy} {m : List Wy} (h : restW l b = x :: m) : ltB x.f0 b = false := by
 induction l with
 | nil => cases h
 | cons y l ih =>
  simp only [restW, List.dropWhile_cons] at h
  cases e : ltB y.f0 b with
  | false =>
   rw [e] at h
   simp at h
   rw [← h.1]
   exact e
  | true =>
   rw [e] at h
   simp only [if_true] at h
   exact ih h
/-- Behind the route of a block are those that come behind it. -/
theorem rest_tail {l : List Wy} {b : Bk} (hp : l.Pairwise (fun a b => ltB a.f0 b.f0 = true)) {x : Wy} {m : List Wy} (h : restW l b = x :: m) (e : x.f0 = b) : ∀ w ∈ m, ltB b w.f0 = true := by
 intro w hw
 have hs : (x :: m).Pairwise (fun a b => ltB a.f0 b.f0 = true) := by rw [← h]; exact hp.sublist (List.dropWhile_sublist _)
 rw [← e]
 exact (List.pairwise_cons.1 hs).1 w hw
theorem rest_lt {l : List Wy} {b : Bk} (hp : l.Pairwise (fun a b => ltB a.f0 b.f0 = true)) (h : thereB l b = false) : ∀ w ∈ restW l b, ltB b w.f0 = true := by
 intro w hw
 cases e : restW l b with
 | nil => rw [e] at hw; cases hw
 | cons x m =>
  have hx := rest_head e
  have hne : x.f0 ≠ b := by
   intro hh
   simp only [thereB, e] at h
   rw [eqB_iff.2 hh] at h
   cases h
  have hb : ltB b x.f0 = true := by
   cases q : ltB b x.f0 with
   | true => rfl
   | false => exact absurd (ltB_total hx q) hne
  rw [e] at hw
  rcases List.mem_cons.1 hw with rfl | hw
  ·exact hb
  ·have hs : (x :: m).Pairwise (fun a b => ltB a.f0 b.f0 = true) := by rw [← e]; exact hp.sublist (List.dropWhile_sublist _)
   exact ltB_trans hb ((List.pairwise_cons.1 hs).1 w hw)
/-- What WaysGone leaves, and whether it was there. -/
def goneF (l : List Wy) (b : Bk) : List Wy := if thereB l b = true then aheadW l b ++ (restW l b).tail else l
/-- What WaysPut makes of valid routes and a valid one: without looking at how many there are. -/
def setF (l : List Wy) (w : Wy) : List Wy := if thereB l w.f0 = true then aheadW l w.f0 ++ w :: (restW l w.f0).tail else aheadW l w.f0 ++ w :: restW l w.f0
theorem there_iff {l : List Wy} {b : Bk} (hp : l.Pairwise (fun a b => ltB a.f0 b.f0 = true)) : thereB l b = true ↔ ∃ w ∈ l, w.f0 = b := by
 constructor
 ·intro h
  cases e : restW l b with
  | nil => simp [thereB, e] at h
  | cons x m =>
   simp only [thereB, e, eqB_iff] at h
   exact ⟨x, by rw [← ahead_rest l b, e]; simp, h⟩
 ·rintro ⟨w, hw, rfl⟩
  cases h : thereB l w.f0 with
  | true => rfl
  | false =>
   rw [← ahead_rest l w.f0] at hw
   rcases List.mem_append.1 hw with hw | hw
   ·have := mem_ahead w hw; rw [ltB_irrefl] at this; cases this
   ·have := rest_lt hp h w hw; rw [ltB_irrefl] at this; cases this
theorem gone_mem {l : List Wy} {b : Bk} (h : Wok l) (x : Wy) : x ∈ goneF l b ↔ x ∈ l ∧ x.f0 ≠ b := by
 unfold goneF
 cases t : thereB l b with
 | false =>
  simp only [Bool.false_eq_true, if_false]
  constructor
  ·intro hx
   exact ⟨hx, fun e => by rw [(there_iff h.2.1).2 ⟨x, hx, e⟩] at t; cases t⟩
  ·exact fun hx => hx.1
 | true =>
  simp only [if_true]
  cases e : restW l b with
  | nil => simp [thereB, e] at t
  | cons y m =>
   simp only [thereB, e, eqB_iff] at t
   have hl := ahead_rest l b
   rw [e] at hl
   rw [List.tail_cons]
   constructor
   ·intro hx
    refine ⟨by rw [← hl]; simp only [List.mem_append, List.mem_cons] at hx ⊢; rcases hx with hx | hx; exact .inl hx; exact .inr (.inr hx), ?_⟩
    rintro rfl
    rcases List.mem_append.1 hx with hx | hx
    ·have := mem_ahead x hx; rw [ltB_irrefl] at this; cases this
    ·have := rest_tail h.2.1 e t x hx; rw [ltB_irrefl] at this; cases this
   ·rintro ⟨hx, hne⟩
    rw [← hl] at hx
    simp only [List.mem_append, List.mem_cons] at hx ⊢
    rcases hx with hx | rfl | hx
    ·exact .inl hx
    ·exact absurd t hne
    ·exact .inr hx
theorem set_mem {l : List Wy} {w : Wy} (h : Wok l) (x : Wy) : x ∈ setF l w ↔ x = w ∨ x ∈ l ∧ x.f0 ≠ w.f0 := by
 have hg := gone_mem (b := w.f0) h x
 unfold goneF at hg
 unfold setF
 cases t : thereB l w.f0 with
 | true =>
  rw [t] at hg
  simp only [if_true] at hg ⊢
  rw [← hg]
  simp only [List.mem_append, List.mem_cons]
  constructor
  ·rintro (h | h | h)
   ·exact .inr (.inl h)
   ·exact .inl h
   ·exact .inr (.inr h)
  ·rintro (h | h | h)
   ·exact .inr (.inl h)
   ·exact .inl h
   ·exact .inr (.inr h)
 | false =>
  rw [t] at hg
  simp only [Bool.false_eq_true, if_false] at hg ⊢
  rw [← hg]
  conv => rhs; rw [← ahead_rest l w.f0]
  simp only [List.mem_append, List.mem_cons]
  constructor
  ·rintro (h | h | h)
   ·exact .inr (.inl h)
   ·exact .inl h
   ·exact .inr (.inr h)
  ·rintro (h | h | h)
   ·exact .inr (.inl h)
   ·exact .inl h
   ·exact .inr (.inr h)
theorem set_len (l : List Wy) (w : Wy) : (setF l w).length = if thereB l w.f0 = true then l.length else l.length + 1 := by
 unfold setF
 have hl := congrArg List.length (ahead_rest l w.f0)
 cases t : thereB l w.f0 with
 | true =>
  simp only [if_true]
  cases e : restW l w.f0 with
  | nil => simp [thereB, e] at t
  | cons y m =>
   rw [e] at hl
   simp only [List.length_append, List.length_cons, List.tail_cons] at hl ⊢
   omega
 | false =>
  simp only [Bool.false_eq_true, if_false, List.length_append, List.length_cons] at hl ⊢
  omega
theorem set_pair {l : List Wy} {w : Wy} (hp : l.Pairwise (fun a b => ltB a.f0 b.f0 = true)) : (setF l w).Pairwise (fun a b => ltB a.f0 b.f0 = true) := by
 have ha : (aheadW l w.f0).Pairwise (fun a b => ltB a.f0 b.f0 = true) := hp.sublist (List.takeWhile_sublist _)
 have hr : (restW l w.f0).Pairwise (fun a b => ltB a.f0 b.f0 = true) := hp.sublist (List.dropWhile_sublist _)
 unfold setF
 cases t : thereB l w.f0 with
 | true =>
  simp only [if_true]
  cases e : restW l w.f0 with
  | nil => simp [thereB, e] at t
  | cons y m =>
   have t' := t
   simp only [thereB, e, eqB_iff] at t'
   rw [e] at hr
   rw [List.tail_cons]
   refine List.pairwise_append.2 ⟨ha, List.pairwise_cons.2 ⟨fun x hx => rest_tail hp e t' x hx, (List.pairwise_cons.1 hr).2⟩, fun x hx z hz => ?_⟩
   rcases List.mem_cons.1 hz with rfl | hz
   ·exact mem_ahead x hx
   ·exact ltB_trans (mem_ahead x hx) (rest_tail hp e t' z hz)
 | false =>
  simp only [Bool.false_eq_true, if_false]
  refine List.pairwise_append.2 ⟨ha, List.pairwise_cons.2 ⟨fun x hx => rest_lt hp t x hx, hr⟩, fun x hx z hz => ?_⟩
  rcases List.mem_cons.1 hz with rfl | hz
  ·exact mem_ahead x hx
  ·exact ltB_trans (mem_ahead x hx) (rest_lt hp t z hz)
/-- Putting a route makes valid routes just if it is valid, and there is room. -/
theorem set_ok {l : List Wy} {w : Wy} (h : Wok l) : Wok (setF l w) ↔ wayB w = true ∧ (thereB l w.f0 = true ∨ l.length < 40) := by
 have hl := set_len l w
 have hm := h.2.2
 constructor
 ·intro k
  refine ⟨k.1 w ((set_mem h w).2 (.inl rfl)), ?_⟩
  have := k.2.2
  rw [hl] at this
  cases t : thereB l w.f0 with
  | true => exact .inl rfl
  | false => rw [t] at this; simp at this; exact .inr (by omega)
 ·rintro ⟨hw, hr⟩
  refine ⟨fun x hx => ?_, set_pair h.2.1, ?_⟩
  ·rcases (set_mem h x).1 hx with rfl | hx
   ·exact hw
   ·exact h.1 x hx.1
  ·rw [hl]
   rcases hr with hr | hr
   ·rw [if_pos hr]; exact hm
   ·split <;> omega
/-- Lists of valid routes are the same if their routes are. -/
theorem sorted_ext {l m : List Wy} (hl : l.Pairwise (fun a b => ltB a.f0 b.f0 = true)) (hm : m.Pairwise (fun a b => ltB a.f0 b.f0 = true)) (h : ∀ x, x ∈ l ↔ x ∈ m) : l = m := by
 induction l generalizing m with
 | nil =>
  cases m with
  | nil => rfl
  | cons y m => exact absurd ((h y).2 (List.mem_cons_self ..)) (by simp)
 | cons x l ih =>
  cases m with
  | nil => exact absurd ((h x).1 (List.mem_cons_self ..)) (by simp)
  | cons y m =>
   obtain ⟨l1, l2⟩ := List.pairwise_cons.1 hl
   obtain ⟨m1, m2⟩ := List.pairwise_cons.1 hm
   have e : x = y := by
    rcases List.mem_cons.1 ((h x).1 (List.mem_cons_self ..)) with e | hx
    ·exact e
    ·rcases List.mem_cons.1 ((h y).2 (List.mem_cons_self ..)) with e | hy
     ·exact e.symm
     ·have := ltB_trans (m1 x hx) (l1 y hy); rw [ltB_irrefl] at this; cases this
   subst e
   congr 1
   refine ih l2 m2 fun z => ⟨fun hz => ?_, fun hz => ?_⟩
   ·rcases List.mem_cons.1 ((h z).1 (List.mem_cons_of_mem _ hz)) with rfl | hz'
    ·have := l1 z hz; rw [ltB_irrefl] at this; cases this
    ·exact hz'
   ·rcases List.mem_cons.1 ((h z).2 (List.mem_cons_of_mem _ hz)) with rfl | hz'
    ·have := m1 z hz; rw [ltB_irrefl] at this; cases this
    ·exact hz'
/-- A hop to which an address leads, said plainly. -/
def Leads (l : List Wy) (a h : Int) : Prop := (∃ w ∈ l, hasB w.f0.f0 w.f0.f1 a = true ∧ (∀ x ∈ l, hasB x.f0.f0 x.f0.f1 a = true → x.f0.f1 ≤ w.f0.f1) ∧ w.f1 = h) ∨ (∀ x ∈ l, hasB x.f0.f0 x.f0.f1 a = false) ∧ h = -1
theorem leadGo_spec (a : Int) (l : List Wy) : ∀ (hop bits : Int), ((∃ w ∈ l, hasB w.f0.f0 w.f0.f1 a = true ∧ bits < w.f0.f1 ∧ (∀ x ∈ l, hasB x.f0.f0 x.f0.f1 a = true → x.f0.f1 ≤ w.f0.f1) ∧ w.f1 = leadGo a l hop bits) ∨ (∀ x ∈ l, hasB x.f0.f0 x.f0.f1 a = true → x.f0.f1 ≤ bits) ∧ leadGo a l hop bits = hop) := by
 induction l with
 | nil => intro hop bits; exact .inr ⟨fun x hx => (by cases hx), rfl⟩
 | cons w l ih =>
  intro hop bits
  simp only [leadGo]
  by_cases c : hasB w.f0.f0 w.f0.f1 a = true ∧ w.f0.f1 > bits
  ·rw [if_pos c]
   rcases ih w.f1 w.f0.f1 with ⟨v, hv, h1, h2, h3, h4⟩ | ⟨h1, h2⟩
   ·refine .inl ⟨v, List.mem_cons_of_mem _ hv, h1, by omega, fun x hx hh => ?_, h4⟩
    rcases List.mem_cons.1 hx with rfl | hx
    ·omega
    ·exact h3 x hx hh
   ·refine .inl ⟨w, List.mem_cons_self .., c.1, by omega, fun x hx hh => ?_, h2.symm⟩
    rcases List.mem_cons.1 hx with rfl | hx
    ·exact Int.le_refl _
    ·exact h1 x hx hh
  ·rw [if_neg c]
   rcases ih hop bits with ⟨v, hv, h1, h2, h3, h4⟩ | ⟨h1, h2⟩
   ·refine .inl ⟨v, List.mem_cons_of_mem _ hv, h1, h2, fun x hx hh => ?_, h4⟩
    rcases List.mem_cons.1 hx with rfl | hx
    ·have : ¬ x.f0.f1 > bits := fun q => c ⟨hh, q⟩
     omega
    ·exact h3 x hx hh
   ·refine .inr ⟨fun x hx hh => ?_, h2⟩
    rcases List.mem_cons.1 hx with rfl | hx
    ·have : ¬ x.f0.f1 > bits := fun q => c ⟨hh, q⟩
     omega
    ·exact h1 x hx hh
theorem leads_F {l : List Wy} (hv : ∀ w ∈ l, 0 ≤ w.f0.f1) (a : Int) : Leads l a (leadF l a) := by
 rcases leadGo_spec a l (-1) (-1) with ⟨w, hw, h1, _, h3, h4⟩ | ⟨h1, h2⟩
 ·exact .inl ⟨w, hw, h1, h3, h4⟩
 ·refine .inr ⟨fun x hx => ?_, h2⟩
  rw [Bool.eq_false_iff]
  intro h
  have := h1 x hx h
  have := hv x hx
  omega
/-- Two blocks of so many bits that have an address are the same. -/
theorem has_uniq {b c m a : Int} (hb : bok b m) (hc : bok c m) (h1 : hasB b m a = true) (h2 : hasB c m a = true) : b = c := by
 rw [hasB_iff] at h1 h2
 have hs := sz_pos m
 rcases Int.lt_trichotomy b c with h | h | h
 ·have := mult_apart (by omega) hb.dvd hc.dvd h; omega
 ·exact h
 ·have := mult_apart (by omega) hc.dvd hb.dvd h; omega
theorem Leads.uniq {l : List Wy} (h : Wok l) {a x y : Int} (hx : Leads l a x) (hy : Leads l a y) : x = y := by
 rcases hx with ⟨w, hw, h1, h2, h3⟩ | ⟨h1, h2⟩
 ·rcases hy with ⟨v, hv, k1, k2, k3⟩ | ⟨k1, k2⟩
  ·have hb : w.f0.f1 = v.f0.f1 := by have := h2 v hv k1; have := k2 w hw h1; omega
   have w1 := (wayB_iff.1 (h.1 w hw)).1
   have v1 := (wayB_iff.1 (h.1 v hv)).1
   rw [hb] at w1 h1
   have := h.uniq hw hv (bk_ext (has_uniq w1 v1 h1 k1) hb)
   rw [← h3, ← k3, this]
  ·have := k1 w hw; rw [h1] at this; cases this
 ·rcases hy with ⟨v, hv, k1, k2, k3⟩ | ⟨k1, k2⟩
  ·have := h1 v hv; rw [k1] at this; cases this
  ·rw [h2, k2]
theorem Wok.bits {l : List Wy} (h : Wok l) : ∀ w ∈ l, 0 ≤ w.f0.f1 := fun w hw => (wayB_iff.1 (h.1 w hw)).1.2.2.1
def wayE (w : Wy) : List Int := edgeB w.f0.f0 w.f0.f1
theorem spec_edges_loop (l : List Wy) (hv : ∀ w ∈ l, bok w.f0.f0 w.f0.f1) (hl : l.length ≤ 100000000) (d : Nat) : ∀ (n : Nat) (out : List Int), n + d = l.length → out.length + 2 * d ≤ 300000000 → (∃ K_, ∀ k, K_ ≤ k → spec_l3Edges.l0 k l out (n : Int) = some (numsF out ((l.drop n).flatMap wayE))) := by
 induction d with
 | zero =>
  intro n out hn ho
  refine ev1 ?_
  simp only [spec_l3Edges.l0]
  rw [List.drop_eq_nil_of_le (by omega)]
  exact evN (by omega) (evR rfl)
 | succ d ih =>
  intro n out hn ho
  have hlt : n < l.length := by omega
  have hw : wrap64 ((n : Int) + 1) = ((n + 1 : Nat) : Int) := by rw [w64 (by omega)]; omega
  have hb := hv l[n] (List.getElem_mem hlt)
  have hs := sz_bd hb.2.2.1
  have hla := spec_last (b := l[n].f0.f0) (m := l[n].f0.f1) (by have := hb.1; omega) (by have := hb.2.1; omega) hb.2.2.1 hb.2.2.2.1
  have hb2 := hb.2.1
  have hb1 := hb.1
  have h1 := numF_len out l[n].f0.f0
  refine ev1 ?_
  simp only [spec_l3Edges.l0]
  rw [rd_way l n hlt, hw, List.drop_eq_getElem_cons hlt, List.flatMap_cons]
  refine evP (by omega) (evP (by omega) (evB (spec_num _ _ (by omega)) (evB hla (evI (fun c => ?_) (fun c => ?_)))))
  ·have e : wrap64 (l[n].f0.f0 + sz l[n].f0.f1 - 1 + 1) = l[n].f0.f0 + sz l[n].f0.f1 := by rw [w64 (by omega)]; omega
   have h2 := numF_len (numF out l[n].f0.f0) (l[n].f0.f0 + sz l[n].f0.f1)
   have h := ih (n + 1) (numF (numF out l[n].f0.f0) (l[n].f0.f0 + sz l[n].f0.f1)) (by omega) (by omega)
   refine evB hla ?_
   rw [e]
   refine evB (spec_num _ _ (by omega)) ?_
   have e2 : wayE l[n] = [l[n].f0.f0, l[n].f0.f0 + sz l[n].f0.f1] := by unfold wayE edgeB; rw [if_pos (by omega)]
   rw [e2]
   exact h
  ·have h := ih (n + 1) (numF out l[n].f0.f0) (by omega) (by omega)
   have e2 : wayE l[n] = [l[n].f0.f0] := by unfold wayE edgeB; rw [if_neg (by omega)]
   rw [e2]
   exact h
theorem spec_edges (l : List Wy) (hv : ∀ w ∈ l, bok w.f0.f0 w.f0.f1) (hl : l.length ≤ 100000000) (out : List Int) (ho : out.length ≤ 100000000) : (∃ K_, ∀ k, K_ ≤ k → spec_l3Edges.f k l out = some (numsF out (l.flatMap wayE))) := spec_edges_loop l hv hl l.length 0 out (by omega) (by omega)
theorem numsF_len (ns : List Int) : ∀ l : List Int, (numsF l ns).length ≤ l.length + ns.length := by
 induction ns with
 | nil => intro l; exact Nat.le_refl _
 | cons n ns ih =>
  intro l
  have h := ih (numF l n)
  have h2 := numF_len l n
  show (numsF (numF l n) ns).length ≤ _
  simp only [List.length_cons]
  omega
theorem wayE_len : ∀ l : List Wy, (l.flatMap wayE).length ≤ 2 * l.length
 | [] => Nat.le_refl _
 | w :: l => by
  rw [List.flatMap_cons, List.length_append, List.length_cons]
  have := wayE_len l
  have h2 : (wayE w).length ≤ 2 := edgeB_len _ _
  omega
/-- The blocks of routes. -/
def blksF (l : List Wy) : List Bk := l.map fun w => w.f0
theorem edges_ways (l : List Wy) : edgesF (blksF l) = numsF [0] (l.flatMap wayE) := by
 unfold edgesF blksF
 rw [List.flatMap_map]
 rfl
theorem blks_ok {l : List Wy} (hv : ∀ w ∈ l, bok w.f0.f0 w.f0.f1) : ∀ b ∈ blksF l, bok b.f0 b.f1 := by
 intro b hb
 obtain ⟨w, hw, rfl⟩ := List.mem_map.1 hb
 exact hv w hw
theorem rd_ways (l : List (List Wy)) (n : Nat) (h : n < l.length) : rd_L6 l (n : Int) = l[n] := by
 unfold rd_L6
 rw [List.getD_eq_getElem?_getD, Int.toNat_natCast, List.getElem?_eq_getElem h]
 rfl
theorem blocksOf_l1 (ls : List (List Wy)) (N i : Int) (w : List Wy) (hw0 : w.length ≤ 100000000) (R : List Bk) (d : Nat) : ∀ (n : Nat) (acc : List Bk), n + d = w.length → acc.length + d ≤ 300000000 →
  (∃ K_, ∀ k, K_ ≤ k → impl_blocksOf.l0 k (acc ++ (w.drop n).map (fun w => w.f0)) ls N (wrap64 (i + 1)) = some R) → (∃ K_, ∀ k, K_ ≤ k → impl_blocksOf.l1 k acc ls N i w (w.length : Int) (n : Int) = some R) := by
 induction d with
 | zero =>
  intro n acc hn ha h
  refine ev1 ?_
  simp only [impl_blocksOf.l1]
  rw [List.drop_eq_nil_of_le (by omega), List.map_nil, List.append_nil] at h
  exact evN (by omega) h
 | succ d ih =>
  intro n acc hn ha h
  have hlt : n < w.length := by omega
  have hw : wrap64 ((n : Int) + 1) = ((n + 1 : Nat) : Int) := by rw [w64 (by omega)]; omega
  refine ev1 ?_
  simp only [impl_blocksOf.l1]
  rw [rd_way w n hlt, hw]
  refine evP (by omega) (evP (by omega) (evP (by omega) (evP (by omega) (ih (n + 1) _ (by omega) (by simp; omega) ?_))))
  rw [List.drop_eq_getElem_cons hlt, List.map_cons] at h
  rw [List.append_assoc]
  exact h
theorem blocksOf_one (a : List Wy) (ha : a.length ≤ 100000000) : (∃ K_, ∀ k, K_ ≤ k → impl_blocksOf.f k [a] = some (blksF a)) := by
 have ea := rd_ways [a] 0 (by simp)
 have w1 : wrap64 ((0 : Int) + 1) = 1 := w64 (n := 0 + 1) (by omega)
 simp only [impl_blocksOf.f]
 refine ev1 ?_
 simp only [impl_blocksOf.l0]
 refine evP (by simp) (evP (by omega) (evP (by simp) ?_))
 rw [show rd_L6 [a] 0 = a from ea]
 refine blocksOf_l1 [a] 1 0 a ha _ a.length 0 [] (by omega) (by simp; omega) ?_
 rw [w1]
 refine ev1 ?_
 simp only [impl_blocksOf.l0]
 refine evN (by omega) (evR ?_)
 simp [blksF]
theorem edges_len (l : List Wy) : (edgesF (blksF l)).length ≤ 2 * l.length + 1 := by
 rw [edges_ways]
 have h1 := numsF_len (l.flatMap wayE) [0]
 have h2 := wayE_len l
 simp only [List.length_singleton] at h1
 omega
theorem leadGo_same {x e : Int} : ∀ (l : List Wy), (∀ w ∈ l, hasB w.f0.f0 w.f0.f1 e = hasB w.f0.f0 w.f0.f1 x) → ∀ p q : Int, leadGo e l p q = leadGo x l p q
 | [], _, _, _ => rfl
 | w :: l, h, p, q => by
  have ih := leadGo_same l (fun z hz => h z (List.mem_cons_of_mem _ hz))
  simp only [leadGo, h w (List.mem_cons_self ..)]
  split
  ·exact ih _ _
  ·exact ih _ _
/-- Routes lead a number where they lead the last edge at or ahead of it. -/
theorem lead_same {l : List Wy} {x e : Int} (h : ∀ w ∈ l, hasB w.f0.f0 w.f0.f1 e = hasB w.f0.f0 w.f0.f1 x) : leadF l e = leadF l x := leadGo_same l h _ _
def endF : List Int → Int
 | [] => 4294967295
 | e :: _ => e - 1
def runF (w : List Wy) (h : Int) : List Int → List P2
 | [] => []
 | e :: es => if leadF w e = h then (e, endF es) :: runF w h es else runF w h es
def Edg (es : List Int) : Prop := Rise es ∧ ∀ e ∈ es, 0 ≤ e ∧ e ≤ 4294967295
theorem Edg.tail {e : Int} {es : List Int} (h : Edg (e :: es)) : Edg es := ⟨(List.pairwise_cons.1 h.1).2, fun x hx => h.2 x (List.mem_cons_of_mem _ hx)⟩
theorem Edg.drop {es : List Int} (h : Edg es) (n : Nat) : Edg (es.drop n) := ⟨h.1.sublist (List.drop_sublist n es), fun e he => h.2 e (List.mem_of_mem_drop he)⟩
theorem end_spec {e : Int} {es : List Int} (h : Edg (e :: es)) : e ≤ endF es ∧ endF es ≤ 4294967295 ∧ ∀ x ∈ es, endF es < x := by
 have h0 := h.2 e (List.mem_cons_self ..)
 obtain ⟨h1, h2⟩ := List.pairwise_cons.1 h.1
 cases es with
 | nil => exact ⟨h0.2, Int.le_refl _, fun x hx => by cases hx⟩
 | cons d es =>
  have h3 := h1 d (List.mem_cons_self ..)
  have h4 := h.2 d (List.mem_cons_of_mem _ (List.mem_cons_self ..))
  have h5 := (List.pairwise_cons.1 h2).1
  refine ⟨by show e ≤ d - 1; omega, by show d - 1 ≤ _; omega, fun x hx => ?_⟩
  show d - 1 < x
  rcases List.mem_cons.1 hx with rfl | hx
  ·omega
  ·have := h5 x hx; omega
theorem run_mem {w : List Wy} {h : Int} : ∀ {es : List Int}, Edg es → ∀ s ∈ runF w h es, s.1 ∈ es ∧ s.1 ≤ s.2 ∧ s.2 ≤ 4294967295
 | [], _, s, hs => by cases hs
 | e :: es, he, s, hs => by
  obtain ⟨h1, h2, h3⟩ := end_spec he
  unfold runF at hs
  split at hs
  ·rcases List.mem_cons.1 hs with rfl | hs
   ·exact ⟨List.mem_cons_self .., h1, h2⟩
   ·obtain ⟨a, b, c⟩ := run_mem he.tail s hs
    exact ⟨List.mem_cons_of_mem _ a, b, c⟩
  ·obtain ⟨a, b, c⟩ := run_mem he.tail s hs
   exact ⟨List.mem_cons_of_mem _ a, b, c⟩
theorem run_full {w : List Wy} {h : Int} {es : List Int} (he : Edg es) : Full (runF w h es) := fun s hs => (run_mem he s hs).2.1
theorem run_inb {w : List Wy} {h : Int} {es : List Int} (he : Edg es) : InB (runF w h es) := fun s hs => by
 obtain ⟨a, b, c⟩ := run_mem he s hs
 exact ⟨(he.2 _ a).1, c⟩
theorem run_sorted {w : List Wy} {h : Int} : ∀ {es : List Int}, Edg es → (runF w h es).Pairwise (fun s t => s.2 < t.1)
 | [], _ => List.Pairwise.nil
 | e :: es, he => by
  obtain ⟨h1, h2, h3⟩ := end_spec he
  unfold runF
  split
  ·exact List.pairwise_cons.2 ⟨fun t ht => h3 _ (run_mem he.tail t ht).1, run_sorted he.tail⟩
  ·exact run_sorted he.tail
theorem run_can {w : List Wy} {h : Int} {es : List Int} (he : Edg es) : mergeF (runF w h es) = canF (runF w h es) :=
 canF_sorted (run_full he) (List.Perm.refl _) ((run_sorted he).imp_of_mem fun {s t} hs ht q => by have := run_full he s hs; omega)
theorem run_len {w : List Wy} {h : Int} : ∀ es : List Int, (runF w h es).length ≤ es.length
 | [] => Nat.le_refl _
 | e :: es => by
  have := run_len (w := w) (h := h) es
  unfold runF
  split
  ·simp only [List.length_cons]; omega
  ·simp only [List.length_cons]; omega
def edg (w : List Wy) : List Int := edgesF (blksF w)
theorem edg_edg {w : List Wy} (hv : ∀ x ∈ w, bok x.f0.f0 x.f0.f1) : Edg (edg w) := ⟨rise_edgesF _, fun e he => edges_in (blks_ok hv) he⟩
def toF (w : List Wy) (h : Int) : List P2 := canF (runF w h (edg w))
def waysToF (w : List Wy) (h : Int) : List Bl × Bool := if wokB w = true ∧ (-1 ≤ h ∧ h ≤ 99) then limF (coverF (toF w h)) else ([], false)
theorem rd_e (l : List Int) (n : Nat) (h : n < l.length) : rd l (n : Int) = l[n] := by
 unfold rd
 rw [List.getD_eq_getElem?_getD, Int.toNat_natCast, List.getElem?_eq_getElem h]
 rfl
theorem end_last {l : List Int} {n : Nat} (h : ¬ n + 1 < l.length) : endF (l.drop (n + 1)) = 4294967295 := by
 rw [List.drop_eq_nil_of_le (by omega)]; rfl
theorem end_next {l : List Int} {n : Nat} (h : n + 1 < l.length) : endF (l.drop (n + 1)) = l[n + 1] - 1 := by
 rw [List.drop_eq_getElem_cons h]; rfl
theorem to_loop {w : List Wy} {h : Int} (hv : ∀ x ∈ w, bok x.f0.f0 x.f0.f1) (hl : w.length ≤ 1000000) {E : List Int} (hE : Edg E) (hEl : E.length ≤ 1000) {R : List Bl × Bool} (d : Nat) : ∀ (n : Nat) (acc : List P2), n + d = E.length → acc.length + d ≤ 1000000 →
  (∃ K_, ∀ k, K_ ≤ k → impl_WaysTo.l0 k w h ((acc ++ runF w h (E.drop n)).map s6) E E (E.length : Int) (E.length : Int) = some R) →
  (∃ K_, ∀ k, K_ ≤ k → impl_WaysTo.l0 k w h (acc.map s6) E E (E.length : Int) (n : Int) = some R) := by
 induction d with
 | zero =>
  intro n acc hn ha hk
  rw [List.drop_eq_nil_of_le (by omega)] at hk
  unfold runF at hk
  rw [List.append_nil] at hk
  have e : n = E.length := by omega
  subst e
  exact hk
 | succ d ih =>
  intro n acc hn ha hk
  have hlt : n < E.length := by omega
  have hb := hE.2 _ (List.getElem_mem hlt)
  have hld := impl_lead w E[n] hv (by omega)
  rw [List.drop_eq_getElem_cons hlt] at hk
  unfold runF at hk
  refine ev1 ?_
  simp only [impl_WaysTo.l0]
  rw [rd_e E n hlt, up1 (by omega)]
  refine evP (by omega) (evP (by omega) (evP (by omega) (evI (fun c => evP (by omega) (evB hld (evI (fun c2 => evP (by simp; omega) ?_) (fun c2 => ?_)))) (fun c => evB hld (evI (fun c2 => evP (by simp; omega) ?_) (fun c2 => ?_))))))
  ·have c : n + 1 < E.length := by omega
   have hb2 := hE.2 _ (List.getElem_mem c)
   rw [if_pos c2] at hk
   have := ih (n + 1) (acc ++ [(E[n], endF (E.drop (n + 1)))]) (by omega) (by simp; omega) (by rw [List.append_assoc]; exact hk)
   rw [end_next c, List.map_append] at this
   rw [rd_e E (n + 1) c, w64 (by omega)]
   exact this
  ·rw [if_neg c2] at hk
   exact ih (n + 1) acc (by omega) (by omega) hk
  ·have c : ¬ n + 1 < E.length := by omega
   rw [if_pos c2] at hk
   have := ih (n + 1) (acc ++ [(E[n], endF (E.drop (n + 1)))]) (by omega) (by simp; omega) (by rw [List.append_assoc]; exact hk)
   rw [end_last c, List.map_append] at this
   exact this
  ·rw [if_neg c2] at hk
   exact ih (n + 1) acc (by omega) (by omega) hk
theorem impl_waysTo (w : List Wy) (h : Int) (hl : w.length ≤ 100000000) : (∃ K_, ∀ k, K_ ≤ k → impl_WaysTo.f k w h = some (waysToF w h)) := by
 have no : (∃ K_, ∀ k, K_ ≤ k → impl_WaysTo.j0 k w h true = some (([], false) : List Bl × Bool)) := by
  refine ev1 ?_
  simp only [impl_WaysTo.j0]
  exact evP trivial (evR rfl)
 unfold waysToF
 simp only [impl_WaysTo.f]
 refine evB (impl_waysOk w (by omega)) (evI (fun c => evS (impl_in ..) ?_) (fun c => by rw [if_neg (fun q => c q.1)]; exact no))
 by_cases c2 : -1 ≤ h ∧ h ≤ 99
 ·rw [if_pos ⟨c, c2⟩, decide_eq_true c2]
  have hv := fun x hx => (wokB_valid c x hx).1
  have h40 := wokB_len c
  have hE := edg_edg hv
  have hEl := edges_len w
  have hrl := run_len (w := w) (h := h) (edg w)
  have hb := impl_bounds (blksF w) (blks_ok hv) (by unfold blksF; rw [List.length_map]; omega)
  have hbl : (edg w).length ≤ 81 := by unfold edg; omega
  have hset := impl_setF (run_full (w := w) (h := h) hE) (run_inb hE) (by omega)
  have hR : (∃ K_, ∀ k, K_ ≤ k → impl_WaysTo.l0 k w h (([] ++ runF w h ((edg w).drop 0)).map s6) (edg w) (edg w) ((edg w).length : Int) ((edg w).length : Int) = some (limF (coverF (toF w h)))) := by
   refine ev1 ?_
   simp only [impl_WaysTo.l0]
   exact evN (by omega) (evB hset (evS (impl_lim _) (evR rfl)))
  have := to_loop hv (by omega) hE (by omega) (edg w).length 0 [] (by omega) (by simp only [List.length_nil]; omega) hR
  refine ev1 ?_
  simp only [impl_WaysTo.j0]
  exact evN (by simp) (evB (blocksOf_one w (by omega)) (evB hb this))
 ·rw [if_neg (fun q => c2 q.2), decide_eq_false c2]
  exact no
theorem sto_one {w : List Wy} {h : Int} (hv : ∀ x ∈ w, bok x.f0.f0 x.f0.f1) (hl : w.length ≤ 1000000) {E : List Int} (hE : Edg E) (hEl : E.length ≤ 1000) (d : Nat) : ∀ (n : Nat) (D : List P2) (c : P2), n + d = E.length → D.length + d ≤ 1000000 → -1 ≤ c.2 ∧ c.2 ≤ 4294967295 → (∀ e ∈ E.drop n, c.2 < e) →
  (∃ K_, ∀ k, K_ ≤ k → spec_l3Spans.l0 k w h E ((D ++ [c]).map s7) (n : Int) = some ((D ++ mrg c (runF w h (E.drop n))).map s7)) := by
 induction d with
 | zero =>
  intro n D c hn hd hc hf
  rw [List.drop_eq_nil_of_le (by omega)]
  refine ev1 ?_
  simp only [spec_l3Spans.l0]
  exact evN (by omega) (evR rfl)
 | succ d ih =>
  intro n D c hn hd hc hf
  have hlt : n < E.length := by omega
  have hb := hE.2 _ (List.getElem_mem hlt)
  have hld := spec_lead w E[n] hv (by omega)
  have hdr := hE.drop n
  rw [List.drop_eq_getElem_cons hlt] at hf hdr ⊢
  obtain ⟨g1, g2, g3⟩ := end_spec hdr
  have hcn := hf _ (List.mem_cons_self ..)
  have e1 : ((D ++ [c]).map s7).length = D.length + 1 := by simp
  have e2 : rd_T73 ((D ++ [c]).map s7) ((D.length : Nat) : Int) = s7 c := by rw [rd_s7 _ _ (by simp)]; simp
  have e3 : wrap64 ((((D.length + 1 : Nat)) : Int) - 1) = ((D.length : Nat) : Int) := by rw [dn1 (by omega) (by omega)]; rfl
  have e4 : wrap64 ((s7 c).f1 + 1) = c.2 + 1 := w64 (by show _ ≤ c.2 + 1 ∧ c.2 + 1 ≤ _; omega)
  have ext : leadF w E[n] = h → c.2 + 1 = E[n] → (∃ K_, ∀ k, K_ ≤ k → spec_l3Spans.l0 k w h E (((D ++ [c]).map s7).set ((D.length : Nat) : Int).toNat ⟨(s7 c).f0, endF (E.drop (n + 1))⟩) ((n + 1 : Nat) : Int) = some ((D ++ mrg c (runF w h (E[n] :: E.drop (n + 1)))).map s7)) := by
   intro c1 c2
   have := ih (n + 1) D (c.1, endF (E.drop (n + 1))) (by omega) (by omega) ⟨by simp only []; omega, g2⟩ g3
   have e5 : (((D ++ [c]).map s7).set ((D.length : Nat) : Int).toNat ⟨(s7 c).f0, endF (E.drop (n + 1))⟩) = ((D ++ [(c.1, endF (E.drop (n + 1)))]).map s7) := by
    rw [Int.toNat_natCast, List.map_append, List.set_append_right _ _ (by simp)]
    simp [s7]
   rw [e5]
   conv in runF w h (E[n] :: _) => unfold runF
   rw [if_pos c1]
   conv in mrg c _ => unfold mrg
   rw [if_pos (by show E[n] ≤ c.2 + 1; omega), show mx c.2 (endF (E.drop (n + 1))) = endF (E.drop (n + 1)) from by unfold mx; rw [if_pos (by omega)]]
   exact this
  have new : leadF w E[n] = h → ¬ c.2 + 1 = E[n] → (∃ K_, ∀ k, K_ ≤ k → spec_l3Spans.l0 k w h E ((D ++ [c]).map s7 ++ [⟨E[n], endF (E.drop (n + 1))⟩]) ((n + 1 : Nat) : Int) = some ((D ++ mrg c (runF w h (E[n] :: E.drop (n + 1)))).map s7)) := by
   intro c1 c2
   have := ih (n + 1) (D ++ [c]) (E[n], endF (E.drop (n + 1))) (by omega) (by simp; omega) ⟨by simp only []; omega, g2⟩ g3
   rw [show (D ++ [c]) ++ mrg (E[n], endF (E.drop (n + 1))) (runF w h (E.drop (n + 1))) = D ++ c :: mrg (E[n], endF (E.drop (n + 1))) (runF w h (E.drop (n + 1))) by simp] at this
   conv in runF w h (E[n] :: _) => unfold runF
   rw [if_pos c1]
   conv in mrg c _ => unfold mrg
   rw [if_neg (by show ¬ E[n] ≤ c.2 + 1; omega)]
   rw [show (D ++ [c]).map s7 ++ [⟨E[n], endF (E.drop (n + 1))⟩] = ((D ++ [c]) ++ [(E[n], endF (E.drop (n + 1)))]).map s7 by simp [s7]]
   exact this
  refine ev1 ?_
  simp only [spec_l3Spans.l0]
  rw [e1, e3, e2, e4, rd_e E n hlt, up1 (by omega)]
  refine evP (by omega) (evP (by omega) (evB hld (evI (fun c1 => evI (fun c2 => evP (by omega) (evP (by omega) (evP (by omega) (evP (by omega) (evI (fun c3 => ?_) (fun c3 => evP (by omega) ?_)))))) (fun c2 => evP (by omega) (evP (by omega) (evP (by omega) (evI (fun c3 => ?_) (fun c3 => evP (by omega) ?_)))))) (fun c1 => ?_))))
  ·have c4 : n + 1 < E.length := by omega
   have hb2 := hE.2 _ (List.getElem_mem c4)
   have := ext c1 c3
   rw [end_next c4] at this
   rw [rd_e E (n + 1) c4, w64 (by omega)]
   exact this
  ·have c4 : n + 1 < E.length := by omega
   have hb2 := hE.2 _ (List.getElem_mem c4)
   have := new c1 c3
   rw [end_next c4] at this
   rw [rd_e E (n + 1) c4, w64 (by omega)]
   exact this
  ·have c4 : ¬ n + 1 < E.length := by omega
   have := ext c1 c3
   rw [end_last c4] at this
   exact this
  ·have c4 : ¬ n + 1 < E.length := by omega
   have := new c1 c3
   rw [end_last c4] at this
   exact this
  ·conv in runF w h (E[n] :: _) => unfold runF
   rw [if_neg c1]
   exact ih (n + 1) D c (by omega) (by omega) hc (fun e he => hf e (List.mem_cons_of_mem _ he))
theorem sto_none {w : List Wy} {h : Int} (hv : ∀ x ∈ w, bok x.f0.f0 x.f0.f1) (hl : w.length ≤ 1000000) {E : List Int} (hE : Edg E) (hEl : E.length ≤ 1000) (d : Nat) : ∀ n : Nat, n + d = E.length →
  (∃ K_, ∀ k, K_ ≤ k → spec_l3Spans.l0 k w h E [] (n : Int) = some ((mergeF (runF w h (E.drop n))).map s7)) := by
 induction d with
 | zero =>
  intro n hn
  rw [List.drop_eq_nil_of_le (by omega)]
  refine ev1 ?_
  simp only [spec_l3Spans.l0]
  exact evN (by omega) (evR rfl)
 | succ d ih =>
  intro n hn
  have hlt : n < E.length := by omega
  have hb := hE.2 _ (List.getElem_mem hlt)
  have hld := spec_lead w E[n] hv (by omega)
  have hdr := hE.drop n
  rw [List.drop_eq_getElem_cons hlt] at hdr ⊢
  obtain ⟨g1, g2, g3⟩ := end_spec hdr
  have e0 : wrap64 ((([] : List Sb7).length : Int) - 1) = -1 := by rw [w64 (by simp only [List.length_nil]; omega)]; simp
  have new : leadF w E[n] = h → (∃ K_, ∀ k, K_ ≤ k → spec_l3Spans.l0 k w h E ([] ++ [⟨E[n], endF (E.drop (n + 1))⟩]) ((n + 1 : Nat) : Int) = some ((mergeF (runF w h (E[n] :: E.drop (n + 1)))).map s7)) := by
   intro c1
   have := sto_one hv hl hE hEl (h := h) d (n + 1) [] (E[n], endF (E.drop (n + 1))) (by omega) (by simp; omega) ⟨by simp only []; omega, g2⟩ g3
   conv in runF w h (E[n] :: _) => unfold runF
   rw [if_pos c1]
   exact this
  refine ev1 ?_
  simp only [spec_l3Spans.l0]
  rw [e0, rd_e E n hlt, up1 (by omega)]
  refine evP (by omega) (evP (by omega) (evB hld (evI (fun c1 => evI (fun c2 => evP (by omega) (evN (by omega) (evP (by simp) ?_))) (fun c2 => evN (by omega) (evP (by simp) ?_))) (fun c1 => ?_))))
  ·have c4 : n + 1 < E.length := by omega
   have hb2 := hE.2 _ (List.getElem_mem c4)
   have := new c1
   rw [end_next c4] at this
   rw [rd_e E (n + 1) c4, w64 (by omega)]
   exact this
  ·have c4 : ¬ n + 1 < E.length := by omega
   have := new c1
   rw [end_last c4] at this
   exact this
  ·conv in runF w h (E[n] :: _) => unfold runF
   rw [if_neg c1]
   exact ih (n + 1) (by omega)
theorem spec_waysTo (w : List Wy) (h : Int) (hl : w.length ≤ 100000000) : (∃ K_, ∀ k, K_ ≤ k → spec_WaysTo.f k w h = some (waysToF w h)) := by
 have no : (∃ K_, ∀ k, K_ ≤ k → spec_WaysTo.j0 k w h true = some (([], false) : List Bl × Bool)) := by
  refine ev1 ?_
  simp only [spec_WaysTo.j0]
  exact evP trivial (evR rfl)
 unfold waysToF
 simp only [spec_WaysTo.f]
 refine evB (spec_waysOk w (by omega)) (evI (fun c => evS (spec_in ..) ?_) (fun c => by rw [if_neg (fun q => c q.1)]; exact no))
 by_cases c2 : -1 ≤ h ∧ h ≤ 99
 ·rw [if_pos ⟨c, c2⟩, decide_eq_true c2]
  have hv := fun x hx => (wokB_valid c x hx).1
  have h40 := wokB_len c
  have hE := edg_edg hv
  have hEl := edges_len w
  have hrl := run_len (w := w) (h := h) (edg w)
  have hbl : (edg w).length ≤ 81 := by unfold edg; omega
  have he := spec_edges w hv (by omega) [0] (by simp)
  rw [← edges_ways] at he
  have hs := sto_none hv (by omega) hE (by omega) (h := h) (edg w).length 0 (by omega)
  rw [List.drop_zero, run_can hE] at hs
  have hcl := canF_len (runF w h (edg w))
  have hcov := spec_cover (L := toF w h) (canF_in (run_full hE) (run_inb hE)) (by unfold toF; omega)
  have hsp : (∃ K_, ∀ k, K_ ≤ k → spec_l3Spans.f k w h = some ((toF w h).map s7)) := by
   simp only [spec_l3Spans.f]
   exact evB he hs
  refine ev1 ?_
  simp only [spec_WaysTo.j0]
  exact evN (by simp) (evB hsp (evB hcov (evS (spec_room _) (evR rfl))))
 ·rw [if_neg (fun q => c2 q.2), decide_eq_false c2]
  exact no
theorem waysToF_len (w : List Wy) (h : Int) : (waysToF w h).1.length ≤ 64 := by
 unfold waysToF
 split
 ·exact limF_len _
 ·simp
theorem run_mem2 {w : List Wy} {h : Int} : ∀ {L : List Int}, Edg L → ∀ s ∈ runF w h L, leadF w s.1 = h ∧ ∀ y ∈ L, y ≤ s.2 → y ≤ s.1
 | [], _, s, hs => by cases hs
 | e :: L, he, s, hs => by
  obtain ⟨h1, h2, h3⟩ := end_spec he
  have hr := (List.pairwise_cons.1 he.1).1
  unfold runF at hs
  have tl : s ∈ runF w h L → leadF w s.1 = h ∧ ∀ y ∈ e :: L, y ≤ s.2 → y ≤ s.1 := fun hs2 => by
   obtain ⟨a, b⟩ := run_mem2 he.tail s hs2
   have hm := (run_mem he.tail s hs2).1
   refine ⟨a, fun y hy q => ?_⟩
   rcases List.mem_cons.1 hy with rfl | hy
   ·have := hr _ hm; omega
   ·exact b y hy q
  split at hs
  ·rename_i c
   rcases List.mem_cons.1 hs with rfl | hs
   ·refine ⟨c, fun y hy q => ?_⟩
    simp only [] at q ⊢
    rcases List.mem_cons.1 hy with rfl | hy
    ·exact Int.le_refl _
    ·have := h3 y hy; omega
   ·exact tl hs
  ·exact tl hs
theorem run_has {w : List Wy} {h x e : Int} (hx : x ≤ 4294967295) : ∀ {L : List Int}, Edg L → e ∈ L → leadF w e = h → (∀ y ∈ L, y ≤ x → y ≤ e) → ∃ s ∈ runF w h L, s.1 = e ∧ x ≤ s.2
 | [], _, hm, _, _ => by cases hm
 | d :: L, he, hm, hl, hy => by
  have hr := (List.pairwise_cons.1 he.1).1
  unfold runF
  rcases List.mem_cons.1 hm with rfl | hm
  ·rw [if_pos hl]
   refine ⟨_, List.mem_cons_self .., rfl, ?_⟩
   cases L with
   | nil => exact hx
   | cons c L =>
    show x ≤ c - 1
    have h1 := hr c (List.mem_cons_self ..)
    rcases Int.lt_or_le x c with q | q
    ·omega
    ·have := hy c (List.mem_cons_of_mem _ (List.mem_cons_self ..)) q; omega
  ·obtain ⟨s, hs, q⟩ := run_has hx he.tail hm hl (fun y hm => hy y (List.mem_cons_of_mem _ hm))
   split
   ·exact ⟨s, List.mem_cons_of_mem _ hs, q⟩
   ·exact ⟨s, hs, q⟩
theorem lead_last {w : List Wy} {x e : Int} (hx : x ≤ 4294967295) (he : e ≤ x) (h : ∀ y ∈ edg w, y ≤ x → y ≤ e) : leadF w e = leadF w x := by
 refine lead_same fun v hv => ?_
 have hb : v.f0 ∈ blksF w := List.mem_map.2 ⟨v, hv, rfl⟩
 exact has_edge hx he (fun c => h _ (mem_edgesF.2 (.inr ⟨_, hb, mem_edgeB.2 (.inl rfl)⟩)) c) (fun c c2 => h _ (mem_edgesF.2 (.inr ⟨_, hb, mem_edgeB.2 (.inr ⟨c, rfl⟩)⟩)) c2)
theorem to_in {w : List Wy} (hv : ∀ x ∈ w, bok x.f0.f0 x.f0.f1) {h x : Int} : inS (toF w h) x ↔ (0 ≤ x ∧ x ≤ 4294967295) ∧ leadF w x = h := by
 have hE := edg_edg hv
 unfold toF
 rw [(canF_spec (run_full hE)).2]
 constructor
 ·rintro ⟨s, hs, p, q⟩
  obtain ⟨a, b, c⟩ := run_mem hE s hs
  obtain ⟨d, e⟩ := run_mem2 hE s hs
  have := hE.2 _ a
  refine ⟨⟨by omega, by omega⟩, ?_⟩
  rw [← lead_last (e := s.1) (by omega) p (fun y hy r => e y hy (by omega))]
  exact d
 ·rintro ⟨⟨p, q⟩, r⟩
  obtain ⟨e, he, h1, h2⟩ := edge_of hE.1 (e0 := 0) (mem_edgesF.2 (.inl rfl)) p
  obtain ⟨s, hs, e1, e2⟩ := run_has (h := h) q hE he ((lead_last q h1 h2).trans r) h2
  exact ⟨s, hs, by omega, e2⟩
def sumP : List P2 → Int
 | [] => 0
 | s :: L => s.2 - s.1 + 1 + sumP L
theorem sumB_app (a b : List Bl) : sumB (a ++ b) = sumB a + sumB b := by
 induction a with
 | nil => simp [sumB]
 | cons x a ih =>
  rw [List.cons_append]
  simp only [sumB]
  rw [ih, Int.add_assoc]
theorem sum_cover : ∀ {L : List P2}, Full L → sumB (coverF L) = sumP L
 | [], _ => rfl
 | s :: L, hf => by
  have h1 := sum_cover (L := L) (fun t ht => hf t (List.mem_cons_of_mem _ ht))
  have h2 := hf s (List.mem_cons_self ..)
  unfold coverF at h1 ⊢
  rw [List.flatMap_cons, sumB_app, h1, sumB_cov _ s.1 (Nat.le_refl _) (by omega)]
  rfl
theorem sum_mrg : ∀ (L : List P2) (c : P2), Full (c :: L) → (c :: L).Pairwise (fun s t => s.2 < t.1) → sumP (mrg c L) = sumP (c :: L)
 | [], _, _, _ => rfl
 | s :: L, c, hf, hp => by
  obtain ⟨p1, p2⟩ := List.pairwise_cons.1 hp
  obtain ⟨p3, p4⟩ := List.pairwise_cons.1 p2
  have h1 := p1 s (List.mem_cons_self ..)
  have h2 := hf c (List.mem_cons_self ..)
  have h3 := hf s (List.mem_cons_of_mem _ (List.mem_cons_self ..))
  have hL : ∀ t ∈ L, t.1 ≤ t.2 := fun t ht => hf t (List.mem_cons_of_mem _ (List.mem_cons_of_mem _ ht))
  unfold mrg
  split
  ·have e : mx c.2 s.2 = s.2 := by unfold mx; rw [if_pos (by omega)]
   rw [e, sum_mrg L (c.1, s.2) (fun t ht => by
    rcases List.mem_cons.1 ht with rfl | ht
    ·simp only []; omega
    ·exact hL t ht) (List.pairwise_cons.2 ⟨p3, p4⟩)]
   simp only [sumP]
   omega
  ·simp only [sumP]
   rw [sum_mrg L s (fun t ht => hf t (List.mem_cons_of_mem _ ht)) p2]
   simp only [sumP]
theorem sum_to {w : List Wy} (hv : ∀ x ∈ w, bok x.f0.f0 x.f0.f1) (h : Int) : sumB (coverF (toF w h)) = sumP (runF w h (edg w)) := by
 have hE := edg_edg hv
 have hf := run_full (w := w) (h := h) hE
 unfold toF
 rw [sum_cover (canF_spec hf).1.full, ← run_can hE]
 have hp := run_sorted (w := w) (h := h) hE
 cases e : runF w h (edg w) with
 | nil => rfl
 | cons s L =>
  rw [e] at hf hp
  exact sum_mrg L s hf hp
def restF : List Int → Int
 | [] => 0
 | e :: _ => 4294967296 - e
theorem sum_four {w : List Wy} : ∀ {L : List Int}, Edg L → (∀ e ∈ L, leadF w e = -1 ∨ leadF w e = 0 ∨ leadF w e = 1 ∨ leadF w e = 2) →
  sumP (runF w (-1) L) + sumP (runF w 0 L) + sumP (runF w 1 L) + sumP (runF w 2 L) = restF L
 | [], _, _ => rfl
 | e :: L, he, h => by
  have ih := sum_four he.tail (fun x hx => h x (List.mem_cons_of_mem _ hx))
  have hd : endF L - e + 1 + restF L = 4294967296 - e := by
   cases L with
   | nil => show 4294967295 - e + 1 + 0 = _; omega
   | cons d L => show d - 1 - e + 1 + (4294967296 - d) = _; omega
  show _ = 4294967296 - e
  rw [← hd, ← ih]
  rcases h e (List.mem_cons_self ..) with q | q | q | q <;> simp only [runF, q, if_true, if_false, sumP, Int.reduceNeg, Int.reduceEq] <;> omega
theorem edg_first {w : List Wy} (hv : ∀ x ∈ w, bok x.f0.f0 x.f0.f1) : restF (edg w) = 4294967296 := by
 have hE := edg_edg hv
 have h0 : (0 : Int) ∈ edg w := mem_edgesF.2 (.inl rfl)
 cases e : edg w with
 | nil => rw [e] at h0; cases h0
 | cons a L =>
  rw [e] at hE h0
  have h1 := hE.2 a (List.mem_cons_self ..)
  have : a = 0 := by
   rcases List.mem_cons.1 h0 with q | q
   ·exact q.symm
   ·have := (List.pairwise_cons.1 hE.1).1 _ q; omega
  subst this
  rfl
/-- All that lead to a hop, of hops that reach to 2. -/
theorem sum_all {w : List Wy} (hw : wokB w = true) (h : ∀ x ∈ w, x.f1 ≤ 2) :
  sumB (coverF (toF w (-1))) + sumB (coverF (toF w 0)) + sumB (coverF (toF w 1)) + sumB (coverF (toF w 2)) = 4294967296 := by
 have hv := fun x hx => (wokB_valid hw x hx).1
 rw [sum_to hv, sum_to hv, sum_to hv, sum_to hv, sum_four (edg_edg hv) (fun e _ => ?_), edg_first hv]
 rcases leads_F (fun x hx => (hv x hx).2.2.1) e with ⟨x, hx, _, _, q⟩ | ⟨_, q⟩
 ·have h1 := wokB_valid hw x hx
  have h2 := h x hx
  omega
 ·omega
theorem ways_ok {w : List Wy} {h : Int} (c : (waysToF w h).2 = true) : wokB w = true ∧ (-1 ≤ h ∧ h ≤ 99) ∧ (waysToF w h).1 = coverF (toF w h) ∧ sokB (coverF (toF w h)) = true := by
 unfold waysToF at c ⊢
 by_cases d : wokB w = true ∧ (-1 ≤ h ∧ h ≤ 99)
 ·rw [if_pos d] at c ⊢
  have hE := edg_edg (fun x hx => (wokB_valid d.1 x hx).1)
  have hc : Can (toF w h) := (canF_spec (run_full hE)).1
  have hi : InB (toF w h) := canF_in (run_full hE) (run_inb hE)
  unfold limF at c ⊢
  by_cases c2 : (coverF (toF w h)).length > 64
  ·rw [if_pos c2] at c; cases c
  ·rw [if_neg c2]
   exact ⟨d.1, d.2, rfl, sok_cover hc hi (by omega)⟩
 ·rw [if_neg d] at c; cases c
theorem ways_has {w : List Wy} {h : Int} (c : (waysToF w h).2 = true) (a : Int) : hasF (waysToF w h).1 a = decide ((0 ≤ a ∧ a ≤ 4294967295) ∧ leadF w a = h) := by
 obtain ⟨c1, c2, c3, c4⟩ := ways_ok c
 have hv := fun x hx => (wokB_valid c1 x hx).1
 have hE := edg_edg hv
 have hi : InB (toF w h) := canF_in (run_full hE) (run_inb hE)
 rw [c3, Bool.eq_iff_iff, hasF_iff c4, decide_eq_true_eq, cover_in hi, to_in hv]
theorem ways_size {w : List Wy} {h : Int} (c : (waysToF w h).2 = true) : sizeF (waysToF w h).1 = sumB (coverF (toF w h)) := by
 obtain ⟨c1, c2, c3, c4⟩ := ways_ok c
 rw [c3]
 unfold sizeF
 rw [if_pos c4]
theorem size_bd (l : List Bl) : 0 ≤ sizeF l ∧ sizeF l ≤ 274877906944 := by
 unfold sizeF
 split
 ·rename_i c
  obtain ⟨h1, h2, _⟩ := sok_iff.1 c
  have := sumB_bd h2
  omega
 ·omega
theorem ahead_pos {x : Wy} {l : List Wy} {b : Bk} (c : ltB x.f0 b = true) : aheadW (x :: l) b = x :: aheadW l b := by simp [aheadW, c]
theorem ahead_neg {x : Wy} {l : List Wy} {b : Bk} (c : ltB x.f0 b = false) : aheadW (x :: l) b = [] := by simp [aheadW, c]
theorem there_pos {x : Wy} {l : List Wy} {b : Bk} (c : ltB x.f0 b = true) : thereB (x :: l) b = thereB l b := by simp [thereB, restW, c]
theorem there_neg {x : Wy} {l : List Wy} {b : Bk} (c : ltB x.f0 b = false) : thereB (x :: l) b = eqB x.f0 b := by simp [thereB, restW, c]
/-- How two blocks that are not far away stand to each other. -/
def near (a : Bk) : Prop := -1099511627776 ≤ a.f0 ∧ a.f0 ≤ 1099511627776 ∧ -1099511627776 ≤ a.f1 ∧ a.f1 ≤ 1099511627776
theorem cmp_near {a b : Bk} (ha : near a) (hb : near b) : ∃ v, spec_l3Cmp.f a.f0 a.f1 b.f0 b.f1 = some v ∧ (v < 0 ↔ ltB a b = true) := by
 obtain ⟨a0, a1, a2, a3⟩ := ha
 obtain ⟨b0, b1, b2, b3⟩ := hb
 have e' : ltB a b = true ↔ (a.f0 < b.f0 ∨ a.f0 = b.f0 ∧ a.f1 < b.f1) := by simp only [ltB, decide_eq_true_eq]
 unfold spec_l3Cmp.f
 rw [e']
 by_cases c : a.f0 = b.f0
 ·rw [if_pos c, w64 (by omega)]
  exact ⟨_, rfl, by omega⟩
 ·rw [if_neg c, w64 (by omega)]
  exact ⟨_, rfl, by omega⟩
theorem bok.near {a : Bk} (h : bok a.f0 a.f1) : near a := by
 obtain ⟨h1, h2, h3, h4, _⟩ := h
 exact ⟨by omega, by omega, by omega, by omega⟩
theorem spec_at_loop (l : List Wy) (b : Bk) (hb : near b) (hv : ∀ w ∈ l, bok w.f0.f0 w.f0.f1) (hl : l.length ≤ 1099511627776) (d : Nat) : ∀ n : Nat, n + d = l.length → (∃ K_, ∀ k, K_ ≤ k → spec_l3At.l0 k l (n : Int) b.f0 b.f1 = some ((n : Int) + (aheadW (l.drop n) b).length, thereB (l.drop n) b)) := by
 induction d with
 | zero =>
  intro n hn
  refine ev1 ?_
  simp only [spec_l3At.l0]
  rw [List.drop_eq_nil_of_le (by omega)]
  exact evN (by omega) (evR (by simp [aheadW, thereB, restW]))
 | succ d ih =>
  intro n hn
  have hlt : n < l.length := by omega
  have hw1 : wrap64 ((n : Int) + 1) = ((n + 1 : Nat) : Int) := by rw [w64 (by omega)]; omega
  obtain ⟨v, e, hv1⟩ := cmp_near (hv l[n] (List.getElem_mem hlt)).near hb
  refine ev1 ?_
  simp only [spec_l3At.l0, rd_way l n hlt, hw1]
  rw [drop_cons hlt]
  refine evP (by omega) (evP (by omega) (evS e (evI (fun c => ?_) (fun c => ?_))))
  ·have q := hv1.1 c
   rw [ahead_pos q, there_pos q]
   have := ih (n + 1) (by omega)
   have e3 : ((n + 1 : Nat) : Int) + ((aheadW (l.drop (n + 1)) b).length : Int) = (n : Int) + (((l[n] :: aheadW (l.drop (n + 1)) b).length : Nat) : Int) := by rw [List.length_cons]; omega
   rwa [e3] at this
  ·have q : ltB l[n].f0 b = false := by
    rw [Bool.eq_false_iff]
    exact fun h => c (hv1.2 h)
   rw [ahead_neg q, there_neg q]
   refine evR ?_
   simp only [List.length_nil, Prod.mk.injEq]
   refine ⟨by omega, ?_⟩
   unfold eqB
   by_cases c1 : l[n].f0.f0 = b.f0 <;> by_cases c2 : l[n].f0.f1 = b.f1 <;> simp [c1, c2]
theorem spec_at (l : List Wy) (b : Bk) (hb : near b) (hv : ∀ w ∈ l, bok w.f0.f0 w.f0.f1) (hl : l.length ≤ 1099511627776) : (∃ K_, ∀ k, K_ ≤ k → spec_l3At.f k l b.f0 b.f1 = some (((aheadW l b).length : Int), thereB l b)) := by
 have := spec_at_loop l b hb hv hl l.length 0 (by omega)
 simp only [List.drop_zero] at this
 have e : (((0 : Nat) : Int) + ((aheadW l b).length : Int)) = ((aheadW l b).length : Int) := by omega
 rw [e] at this
 exact this
/-- What WaysPut answers. -/
def putF (l : List Wy) (w : Wy) : List Wy × Bool := if wokB l = true then (if wayB w = true ∧ (thereB l w.f0 = true ∨ l.length < 40) then (setF l w, true) else (l, false)) else ([], false)
theorem take_ahead (l : List Wy) (b : Bk) : l.take (aheadW l b).length = aheadW l b := by
 conv => lhs; arg 2; rw [← ahead_rest l b]
 simp
theorem drop_ahead (l : List Wy) (b : Bk) : l.drop (aheadW l b).length = restW l b := by
 conv => lhs; arg 2; rw [← ahead_rest l b]
 simp
theorem ahead_len {l : List Wy} {b : Bk} : (aheadW l b).length ≤ l.length := (List.takeWhile_sublist _).length_le
theorem ahead_lt {l : List Wy} {b : Bk} (t : thereB l b = true) : (aheadW l b).length < l.length := by
 have := congrArg List.length (ahead_rest l b)
 cases e : restW l b with
 | nil => simp [thereB, e] at t
 | cons y m =>
  rw [e] at this
  simp only [List.length_append, List.length_cons] at this
  omega
theorem set_at {l : List Wy} {b : Bk} (t : thereB l b = true) (w : Wy) : l.set (aheadW l b).length w = aheadW l b ++ w :: (restW l b).tail := by
 cases e : restW l b with
 | nil => simp [thereB, e] at t
 | cons y m =>
  conv => lhs; arg 1; rw [← ahead_rest l b, e]
  simp
theorem spec_copy (l : List Wy) (hl : l.length ≤ 1099511627776) : spec_l3Copy.f l = some l := by
 simp only [spec_l3Copy.f, Option.bind_some]
 simp
 omega
theorem putF_bad {l : List Wy} {w : Wy} (h : wokB l = false) : putF l w = ([], false) := by
 unfold putF
 rw [if_neg (by rw [h]; exact Bool.false_ne_true)]
theorem putF_no {l : List Wy} {w : Wy} (h : wokB l = true) (c : ¬ (wayB w = true ∧ (thereB l w.f0 = true ∨ l.length < 40))) : putF l w = (l, false) := by
 unfold putF
 rw [if_pos h, if_neg c]
theorem putF_yes {l : List Wy} {w : Wy} (h : wokB l = true) (c : wayB w = true ∧ (thereB l w.f0 = true ∨ l.length < 40)) : putF l w = (setF l w, true) := by
 unfold putF
 rw [if_pos h, if_pos c]
theorem spec_waysPut (l : List Wy) (w : Wy) (hw : near w.f0) (hl : l.length ≤ 1099511627776) : (∃ K_, ∀ k, K_ ≤ k → spec_WaysPut.f k l w.f0.f0 w.f0.f1 w.f1 = some (putF l w)) := by
 simp only [spec_WaysPut.f]
 refine evB (spec_waysOk l hl) ?_
 cases h : wokB l with
 | false =>
  rw [putF_bad h]
  exact evN (by simp) (evR rfl)
 | true =>
  have hk := wokB_iff.1 h
  have hs : ∀ x : Int, spec_l1In.f x 0 99 = some (hopB x) := fun x => spec_in x 0 99
  refine evP rfl (evS (spec_copy l hl) (evB (spec_ok w.f0.f0 w.f0.f1) ?_))
  have hno : (∃ K_, ∀ k, K_ ≤ k → spec_WaysPut.j0 k l l true w.f0.f0 w.f0.f1 w.f1 = some (l, false)) := by
   refine ev1 ?_
   simp only [spec_WaysPut.j0]
   exact evP trivial (evR rfl)
  cases hb : bokB w.f0.f0 w.f0.f1 with
  | false =>
   rw [putF_no h (fun c => by have := c.1; simp [wayB, hb] at this)]
   exact evN (by simp) hno
  | true =>
   refine evP rfl (evS (hs w.f1) ?_)
   cases hh : hopB w.f1 with
   | false =>
    rw [putF_no h (fun c => by have := c.1; simp [wayB, hh] at this)]
    exact hno
   | true =>
    have hw' : wayB w = true := by simp [wayB, hb, hh]
    have ha := ahead_len (l := l) (b := w.f0)
    have hm := hk.2.2
    refine ev1 ?_
    simp only [spec_WaysPut.j0]
    refine evN (by simp) (evB (spec_at l w.f0 hw (fun x hx => (wokB_valid h x hx).1) hl) ?_)
    cases t : thereB l w.f0 with
    | true =>
     rw [putF_yes h ⟨hw', .inl t⟩]
     have ha' := ahead_lt t
     refine evP rfl (evP (by simp only []; omega) (evP (by simp only []; omega) (evR ?_)))
     simp only [Int.toNat_natCast]
     rw [set_at t]
     unfold setF
     rw [if_pos t]
    | false =>
     refine evN (by simp) (evI (fun c => ?_) (fun c => ?_))
     ·rw [putF_no h (fun g => by rcases g.2 with g | g; rw [t] at g; cases g; omega)]
      exact evR rfl
     ·rw [putF_yes h ⟨hw', .inr (by omega)⟩]
      simp only [Int.toNat_natCast, Option.bind_some, take_ahead, drop_ahead, List.nil_append]
      have hr := congrArg List.length (ahead_rest l w.f0)
      rw [List.length_append] at hr
      refine evP (by omega) (evP (by omega) (evP (by simp; omega) (evP (by simp; omega) (evP (by simp; omega) (evR ?_)))))
      unfold setF
      rw [t]
      simp
theorem putF_ok {l : List Wy} {w : Wy} (h : Wok l) : Wok (putF l w).1 := by
 unfold putF
 rw [if_pos (wokB_iff.2 h)]
 split
 ·rename_i c
  exact (set_ok h).2 c
 ·exact h
/-- The routes whose blocks begin at an address, or behind it. -/
def fromW (l : List Wy) (a : Int) : List Wy := l.filter fun w => decide (a ≤ w.f0.f0)
theorem mem_from {l : List Wy} {a : Int} {x : Wy} : x ∈ fromW l a ↔ x ∈ l ∧ a ≤ x.f0.f0 := by simp [fromW]
theorem from_less {l : List Wy} {a b : Int} (h : a ≤ b) : (fromW l b).Sublist (fromW l a) := by
 have : fromW l b = (fromW l a).filter fun w => decide (b ≤ w.f0.f0) := by
  unfold fromW
  rw [List.filter_filter]
  congr 1
  funext x
  rw [Bool.eq_iff_iff]
  simp only [decide_eq_true_eq, Bool.and_eq_true]
  omega
 rw [this]
 exact List.filter_sublist
/-- A route that is put: either one more, or one less is behind. -/
theorem put_step {l : List Wy} (h : Wok l) (hl : l.length < 40) (w : Wy) (hw : wayB w = true) :
  Wok (setF l w) ∧ l.length ≤ (setF l w).length ∧ (setF l w).length ≤ l.length + 1 ∧ 40 - (setF l w).length + (fromW (setF l w) (w.f0.f0 + 2)).length < 40 - l.length + (fromW l w.f0.f0).length := by
 have hk := (set_ok h).2 ⟨hw, .inr hl⟩
 have he : fromW (setF l w) (w.f0.f0 + 2) = fromW l (w.f0.f0 + 2) := by
  refine sorted_ext (hk.2.1.sublist List.filter_sublist) (h.2.1.sublist List.filter_sublist) fun x => ?_
  rw [mem_from, mem_from, set_mem h]
  constructor
  ·rintro ⟨rfl | h1, h2⟩
   ·omega
   ·exact ⟨h1.1, h2⟩
  ·rintro ⟨h1, h2⟩
   exact ⟨.inr ⟨h1, fun e => by rw [e] at h2; omega⟩, h2⟩
 have hs := from_less (l := l) (show w.f0.f0 ≤ w.f0.f0 + 2 by omega)
 have hn := hs.length_le
 have hlen := set_len l w
 rw [he]
 cases t : thereB l w.f0 with
 | false =>
  rw [t] at hlen
  simp only [Bool.false_eq_true, if_false] at hlen
  exact ⟨hk, by omega, by omega, by omega⟩
 | true =>
  rw [t] at hlen
  simp only [if_true] at hlen
  have hne : (fromW l (w.f0.f0 + 2)).length ≠ (fromW l w.f0.f0).length := by
   intro e
   have e' := hs.eq_of_length e
   obtain ⟨x, hx, ex⟩ := (there_iff h.2.1).1 t
   have : x ∈ fromW l (w.f0.f0 + 2) := by
    rw [e']
    exact mem_from.2 ⟨hx, by rw [ex]; omega⟩
   have := (mem_from.1 this).2
   rw [ex] at this
   omega
  exact ⟨hk, by omega, by omega, by omega⟩
theorem bok_one {n : Int} (h0 : 0 ≤ n) (h1 : n ≤ 4294967295) : bok n 32 := ⟨h0, h1, by omega, by omega, by rw [sz_32]; omega⟩
theorem ways_l1 (s : List Int) (p : Int) (d : Nat) : ∀ (l : List Wy) (n : Int), 0 ≤ n → Wok l → 40 - l.length + (fromW l (n * 2)).length ≤ d → n + d ≤ 1000 →
  Dr (fun k => spec_l12Ways.l1 k l n s p) fun r => Wok r.1 ∧ r.2 = p := by
 induction d with
 | zero =>
  intro l n hn h hd hb
  have := h.2.2
  refine dr1 ?_
  simp only [spec_l12Ways.l1]
  exact drN (by omega) (drR ⟨h, rfl⟩)
 | succ d ih =>
  intro l n hn h hd hb
  refine dr1 ?_
  simp only [spec_l12Ways.l1]
  refine drI (fun c => ?_) (fun c => drR ⟨h, rfl⟩)
  have e0 : wrap64 (n * 2) = n * 2 := w64 (by omega)
  have e1 : wrap64 (n + 1) = n + 1 := w64 (by omega)
  have e2 : Int.tmod n 3 = n % 3 := Int.tmod_eq_emod_of_nonneg hn
  simp only [e0, e1, e2]
  let w : Wy := ⟨⟨n * 2, 32⟩, n % 3⟩
  have hb1 : bok w.f0.f0 w.f0.f1 := bok_one (by show (0 : Int) ≤ n * 2; omega) (by show n * 2 ≤ (4294967295 : Int); omega)
  have hw : wayB w = true := wayB_iff.2 ⟨hb1, by show (0 : Int) ≤ n % 3; omega, by show n % 3 ≤ (99 : Int); omega⟩
  have hl : l.length < 40 := by omega
  obtain ⟨k1, k2, k3, k4⟩ := put_step h hl w hw
  have := spec_waysPut l w hb1.near (by omega)
  rw [putF_yes (wokB_iff.2 h) ⟨hw, .inr hl⟩] at this
  refine drB this ?_
  have k4' : 40 - (setF l w).length + (fromW (setF l w) ((n + 1) * 2)).length < 40 - l.length + (fromW l (n * 2)).length := by
   have : (n + 1) * 2 = n * 2 + 2 := by omega
   rw [this]
   exact k4
  exact ih (setF l w) (n + 1) (by omega) k1 (by omega) (by omega)
theorem ways_l0 (s : List Int) (hs : Bytes s) (d : Nat) : ∀ (l : List Wy) (p : Int), 0 ≤ p → p + 8 * d ≤ 600000000000 → Wok l →
  Dr (fun k => spec_l12Ways.l0 k l (d : Int) s p) fun r => Wok r.1 ∧ p ≤ r.2 ∧ r.2 ≤ p + 8 * d + 1 := by
 induction d with
 | zero =>
  intro l p hp0 hp1 h
  refine dr1 ?_
  simp only [spec_l12Ways.l0]
  obtain ⟨v, e, v0, v1⟩ := pick s p 24 hs hp0 (by omega) (by decide) (by decide)
  refine drN (by omega) (drB e (drI (fun c => ?_) (fun c => ?_)))
  ·have hn : (fromW l (0 * 2)).length ≤ l.length := (List.filter_sublist).length_le
   have hm := h.2.2
   exact (ways_l1 s (p + 1) 80 l 0 (by omega) h (by omega) (by omega)).imp fun r hr => ⟨hr.1, by omega, by omega⟩
  ·exact drR ⟨h, by simp only []; omega, by simp only []; omega⟩
 | succ d ih =>
  intro l p hp0 hp1 h
  refine dr1 ?_
  simp only [spec_l12Ways.l0]
  obtain ⟨b, m, e, hb⟩ := drawBlock s p hs hp0 (by omega)
  obtain ⟨v, e2, v0, v1⟩ := pick s (p + 7) 3 hs (by omega) (by omega) (by decide) (by decide)
  have hw : wrap64 (((d + 1 : Nat) : Int) - 1) = (d : Int) := by
   have : ((d + 1 : Nat) : Int) - 1 = (d : Int) := by omega
   rw [this, w64 (by omega)]
  refine drP (by omega) (drB e (drB e2 ?_))
  simp only [hw]
  let w : Wy := ⟨⟨b, m⟩, v⟩
  have hb' : bok w.f0.f0 w.f0.f1 := hb
  refine drB (spec_waysPut l w hb'.near (by have := h.2.2; omega)) ?_
  exact (ih (putF l w).1 (p + 7 + 1) (by omega) (by omega) (putF_ok h)).imp fun r hr => ⟨hr.1, by omega, by omega⟩
/-- Valid routes are drawn. -/
theorem drawWays (s : List Int) (p : Int) (hs : Bytes s) (hp0 : 0 ≤ p) (hp1 : p ≤ 500000000000) : Dr (fun k => spec_l12Ways.f k s p) fun r => Wok r.1 ∧ p ≤ r.2 ∧ r.2 ≤ p + 70 := by
 simp only [spec_l12Ways.f]
 obtain ⟨v, e, v0, v1⟩ := pick s p 8 hs hp0 (by omega) (by decide) (by decide)
 refine drB e ?_
 have hv : v = ((v.toNat : Nat) : Int) := by omega
 simp only []
 rw [hv]
 exact (ways_l0 s hs v.toNat [] (p + 1) (by omega) (by omega) Wok.nil).imp fun r hr => ⟨hr.1, by omega, by omega⟩
/-- Routes that may not be valid, but not far from it. -/
def smallW (w : Wy) : Prop := -1 ≤ w.f0.f0 ∧ w.f0.f0 ≤ 4294967551 ∧ -1 ≤ w.f0.f1 ∧ w.f0.f1 ≤ 33 ∧ -1 ≤ w.f1 ∧ w.f1 ≤ 100
theorem wayB_small {w : Wy} (h : wayB w = true) : smallW w := by
 have := wayB_iff.1 h
 have h1 := this.1.1
 have h2 := this.1.2.1
 have h3 := this.1.2.2.1
 have h4 := this.1.2.2.2.1
 exact ⟨by omega, by omega, by omega, by omega, by omega, by omega⟩
theorem smallW.near {w : Wy} (h : smallW w) : near w.f0 := by
 obtain ⟨h1, h2, h3, h4, _⟩ := h
 exact ⟨by omega, by omega, by omega, by omega⟩
theorem mem_set_or {l : List Wy} {n : Nat} {x y : Wy} (h : y ∈ l.set n x) : y = x ∨ y ∈ l := by
 rcases List.mem_or_eq_of_mem_set h with h | h
 ·exact .inr h
 ·exact .inl h
theorem drawAnyWays (s : List Int) (p : Int) (hs : Bytes s) (hp0 : 0 ≤ p) (hp1 : p ≤ 400000000000) : Dr (fun k => spec_l12AnyWays.f k s p) fun r => r.1.length ≤ 41 ∧ (∀ w ∈ r.1, smallW w) ∧ p ≤ r.2 ∧ r.2 ≤ p + 90 := by
 simp only [spec_l12AnyWays.f]
 obtain ⟨⟨l, q⟩, e, h, q0, q1⟩ := drawWays s p hs hp0 (by omega)
 simp only [] at h q0 q1
 have hsm : ∀ w ∈ l, smallW w := fun w hw => wayB_small (h.1 w hw)
 have hm := h.2.2
 refine drB e (drI (fun c => drR ⟨by simp only []; omega, hsm, by simp only []; omega, by simp only []; omega⟩) (fun c => ?_))
 simp only [] at c ⊢
 obtain ⟨i, e1, i0, i1⟩ := pick s q l.length hs (by omega) (by omega) (by omega) (by omega)
 obtain ⟨v, e2, v0, v1⟩ := pick s (q + 1) 20 hs (by omega) (by omega) (by decide) (by decide)
 have hi : rd_T34 l i = l[i.toNat]'(by omega) := by
  have := rd_way l i.toNat (by omega)
  rwa [Int.toNat_of_nonneg i0] at this
 have hx := hsm _ (List.getElem_mem (show i.toNat < l.length by omega))
 refine drB e1 (drB e2 (drI (fun c0 => ?_) (fun c0 => drI (fun c1 => ?_) (fun c1 => drI (fun c2 => ?_) (fun c2 => ?_)))))
 ·obtain ⟨x, e3, b3⟩ := one s (q + 1 + 1) [(-1), 99, 100] hs (by omega) (by omega) (by simp) (by simp)
  simp only [List.mem_cons, List.not_mem_nil, or_false] at b3
  refine drB e3 (drP i0 (drP i1 (drR ⟨?_, fun w hw => ?_, by simp only []; omega, by simp only []; omega⟩)))
  ·simp only [List.length_set]
   omega
  ·rcases mem_set_or hw with rfl | hw
   ·simp only [hi]
    obtain ⟨x1, x2, x3, x4, _⟩ := hx
    exact ⟨x1, x2, x3, x4, by simp only []; omega, by simp only []; omega⟩
   ·exact hsm w hw
 ·obtain ⟨b, m, q', e3, q2, q3, b0, b1, m0, m1⟩ := drawAnyBlock s (q + 1 + 1) hs (by omega) (by omega)
  refine drB e3 (drP i0 (drP i1 (drR ⟨?_, fun w hw => ?_, by simp only []; omega, by simp only []; omega⟩)))
  ·simp only [List.length_set]
   omega
  ·rcases mem_set_or hw with rfl | hw
   ·simp only [hi]
    obtain ⟨x1, x2, x3, x4, x5, x6⟩ := hx
    exact ⟨b0, b1, m0, m1, x5, x6⟩
   ·exact hsm w hw
 ·have h0 : rd_T34 l 0 = l[0]'(by omega) := rd_way l 0 (by omega)
  have hy := hsm _ (List.getElem_mem (show 0 < l.length by omega))
  refine drP (by omega) (drP (by omega) (drR ⟨?_, fun w hw => ?_, by simp only []; omega, by simp only []; omega⟩))
  ·simp only [List.length_append, List.length_cons, List.length_nil]
   omega
  ·simp only [List.mem_append, List.mem_singleton, h0] at hw
   rcases hw with hw | rfl
   ·exact hsm w hw
   ·exact hy
 ·exact drR ⟨by simp only []; omega, hsm, by simp only []; omega, by simp only []; omega⟩
theorem ways_lead_j0 (s : List Int) (p : Int) (hs : Bytes s) (hp0 : 0 ≤ p) (hp1 : p ≤ 400000000000) (l : List Wy) (h : l.length ≤ 41) (hsm : ∀ w ∈ l, smallW w) (b : Bool) (hb : b = true → 0 < l.length) : Dr (fun k => spec_DrawWaysLead.j0 k l b s p) fun r => r.1 = l ∧ -1 ≤ r.2 ∧ r.2 ≤ 1099511627776 := by
 refine dr1 ?_
 simp only [spec_DrawWaysLead.j0]
 cases b with
 | true =>
  have hl := hb rfl
  obtain ⟨i, e1, i0, i1⟩ := pick s p l.length hs (by omega) (by omega) (by omega) (by omega)
  have hi : rd_T34 l i = l[i.toNat]'(by omega) := by
   have := rd_way l i.toNat (by omega)
   rwa [Int.toNat_of_nonneg i0] at this
  obtain ⟨x1, x2, _⟩ := hsm _ (List.getElem_mem (show i.toNat < l.length by omega))
  refine drP rfl (drB e1 (drP i0 (drP i1 (drR ⟨rfl, ?_, ?_⟩))))
  ·simp only [hi]; omega
  ·simp only [hi]; omega
 | false =>
  obtain ⟨a, q, e, q0, q1, a0, a1⟩ := drawAnyAddr s p hs (by omega) (by omega)
  exact drN (by simp) (drB e (drR ⟨rfl, a0, a1⟩))
theorem drawWaysLead (l : List Int) (hw : ∀ x ∈ l, (Lit.int .u8 x).wf = true) : Dr (fun k => spec_DrawWaysLead.f k l) fun r => r.1.length ≤ 41 ∧ -1 ≤ r.2 ∧ r.2 ≤ 1099511627776 := by
 simp only [spec_DrawWaysLead.f]
 obtain ⟨s, h0, hs⟩ := l1Open l hw
 refine drS h0 ?_
 obtain ⟨⟨w, p⟩, e, h1, h2, p0, p1⟩ := drawAnyWays s 0 hs (by omega) (by omega)
 simp only [] at h1 h2 p0 p1
 refine drB e (drI (fun c => ?_) (fun c => ?_))
 ·obtain ⟨v, e2, v0, v1⟩ := pick s p 2 hs (by omega) (by omega) (by decide) (by decide)
  simp only [] at c ⊢
  exact drB e2 ((ways_lead_j0 s (p + 1) hs (by omega) (by omega) w h1 h2 (v == 0) (fun _ => by omega)).imp fun r hr => ⟨by rw [hr.1]; exact h1, hr.2⟩)
 ·exact (ways_lead_j0 s p hs (by omega) (by omega) w h1 h2 false (fun h => by cases h)).imp fun r hr => ⟨by rw [hr.1]; exact h1, hr.2⟩
end Go.Proofs.YtmanlcakdcoekaaGreat.Z
end
section
namespace Go.Proofs.YtmanlcakdcoekaaGreat.Pure
open Go Go.RowKit Go.Proofs.YtmanlcakdcoekaaGreat.PAll Go.Proofs.YtmanlcakdcoekaaGreatW.PrintWords Go.Proofs.YtmanlcakdcoekaaGreatW.PrintLast Go.Proofs.YtmanlcakdcoekaaGreatW.PrintMore Go.Proofs.YtmanlcakdcoekaaGreat.Z
set_option linter.unusedVariables false
set_option linter.unusedSimpArgs false
theorem drawWaysTo (l : List Int) (hw : ∀ x ∈ l, (Lit.int .u8 x).wf = true) : Dr (fun k => spec_DrawWaysTo.f k l) fun r => r.1.length ≤ 41 := by
 simp only [spec_DrawWaysTo.f]
 obtain ⟨s, h0, hs⟩ := l1Open l hw
 refine drS h0 ?_
 obtain ⟨⟨w, p⟩, e, h1, h2, p0, p1⟩ := drawAnyWays s 0 hs (by omega) (by omega)
 simp only [] at h1 h2 p0 p1
 obtain ⟨v, e4, _⟩ := Go.Proofs.YtmanlcakdcoekaaGreat.Z.one s p [(-1), 0, 1, 2, 99, 100, (-2)] hs (by omega) (by omega) (by simp) (by simp)
 exact drB e (drB e4 (drR h1))
theorem to_l1 {w : List Wy} {h a n : Int} (hl : w.length ≤ 41) (hw : wokB w = true) (c : (waysToF w h).2 = true) (d : Nat) : ∀ (i : Nat) (all : Bool), i + d = w.length → (all = true → (∀ x ∈ w.drop i, x.f1 ≤ 2) → n = 4294967296) →
  (∃ K_, ∀ k, K_ ≤ k → laws_FnWaysTo.l1 k w h (waysToF w h).1 a n all (i : Int) = some true) := by
 induction d with
 | zero =>
  intro i all hi hf
  have hn : all = true → n = 4294967296 := fun q => hf q (fun x hx => by rw [List.drop_eq_nil_of_le (by omega)] at hx; cases hx)
  obtain ⟨_, _, c3, c4⟩ := ways_ok c
  have hok := impl_setOk (waysToF w h).1
  rw [c3, c4, ← c3] at hok
  have hh := impl_setHas (waysToF w h).1 a
  rw [ways_has c] at hh
  have fin : Ev (fun _ => if all = true then some (n == 4294967296) else some true) true := evI (fun q => evR (by rw [hn q]; rfl)) (fun _ => evR rfl)
  refine ev1 ?_
  simp only [laws_FnWaysTo.l1]
  refine evN (by omega) (evB hok (evP rfl (evB hh (evI (fun d1 => evI (fun d2 => evB (impl_waysLead w a (by omega)) (evP ?_ fin)) (fun d2 => evP ?_ fin)) (fun d1 => evP ?_ fin)))))
  ·have e : waysLeadF w a = leadF w a := by unfold waysLeadF; rw [if_pos ⟨hw, by omega, by omega⟩]
   rw [e, beq_iff_eq, Bool.eq_iff_iff, decide_eq_true_eq, beq_iff_eq]
   exact ⟨fun q => q.2, fun q => ⟨⟨by omega, by omega⟩, q⟩⟩
  ·rw [beq_iff_eq]
   exact decide_eq_false (fun q => by omega)
  ·rw [beq_iff_eq]
   exact decide_eq_false (fun q => by omega)
 | succ d ih =>
  intro i all hi hf
  have hlt : i < w.length := by omega
  refine ev1 ?_
  simp only [laws_FnWaysTo.l1]
  rw [rd_way w i hlt, up1 (by omega)]
  rw [List.drop_eq_getElem_cons hlt] at hf
  refine evP (by omega) (evI (fun q => evP (by omega) (ih (i + 1) _ (by omega) (fun q2 q3 => ?_))) (fun q => ih (i + 1) false (by omega) (fun q2 => by cases q2)))
  refine hf q (fun x hx => ?_)
  rcases List.mem_cons.1 hx with rfl | hx
  ·exact of_decide_eq_true q2
  ·exact q3 x hx
theorem to_l0 {w : List Wy} {h a : Int} (hl : w.length ≤ 41) {n m : Int} {all : Bool} {k0 k1 : Int} (h2 : k0 ≤ 2) (h1 : -5 ≤ k0) (hm : m = n + sizeF (waysToF w k0).1) (hk : k1 = k0 + 1) (hn : 0 ≤ n ∧ n ≤ 1099511627776)
  (g : (∃ K_, ∀ k, K_ ≤ k → laws_FnWaysTo.l0 k w h (waysToF w h).1 a m (all && (waysToF w k0).2) k1 = some true)) : (∃ K_, ∀ k, K_ ≤ k → laws_FnWaysTo.l0 k w h (waysToF w h).1 a n all k0 = some true) := by
 have hb := size_bd (waysToF w k0).1
 refine ev1 ?_
 simp only [laws_FnWaysTo.l0]
 rw [w64 (n := k0 + 1) (by omega), ← hk]
 refine evP h2 (evB (impl_waysTo w k0 (by omega)) (evI (fun q => evB (impl_setSize _) ?_) (fun q => evB (impl_setSize _) ?_)))
 ·rw [w64 (by omega), ← hm]
  rw [q, Bool.true_and] at g
  exact g
 ·rw [w64 (by omega), ← hm]
  rw [Bool.eq_false_iff.2 q, Bool.false_and] at g
  exact g
theorem FnWaysTo : laws_FnWaysTo.Pure := by
 intro l m hl hl2 hw hm hm2 hw2
 obtain ⟨⟨w, h⟩, hd, d1⟩ := drawWaysTo l hw
 obtain ⟨⟨z, a⟩, he, _⟩ := drawWaysLead m hw2
 simp only [] at d1
 suffices g : (∃ K_, ∀ k, K_ ≤ k → laws_FnWaysTo.f k l m = some true) by obtain ⟨K, g⟩ := g; exact ⟨K, g K (Nat.le_refl _)⟩
 have hll := waysToF_len w h
 have yes : (∃ K_, ∀ k, K_ ≤ k → laws_FnWaysTo.j0 k l m true = some true) := by
  refine ev1 ?_
  simp only [laws_FnWaysTo.j0]
  exact evP trivial (evR rfl)
 have go : (∃ K_, ∀ k, K_ ≤ k → laws_FnWaysTo.j0 k l m false = some true) := by
  refine ev1 ?_
  simp only [laws_FnWaysTo.j0]
  refine evN (by simp) (evB hd (evB (impl_waysTo w h (by omega)) (evB (spec_waysTo w h (by omega)) (evN (by simp) (evB (ov_self _ (by omega)) (evP rfl (ev1 ?_)))))))
  simp only [laws_FnWaysTo.j1]
  refine evI (fun c => evP (by simp) (evB (ov_self _ (by omega)) (evR rfl))) (fun c => ?_)
  have c : (waysToF w h).2 = true := by simpa using c
  obtain ⟨c1, c2, c3, c4⟩ := ways_ok c
  have b1 := size_bd (waysToF w (-1)).1
  have b2 := size_bd (waysToF w 0).1
  have b3 := size_bd (waysToF w 1).1
  have b4 := size_bd (waysToF w 2).1
  refine evB he (to_l0 (k0 := -1) (k1 := 0) d1 (by omega) (by omega) rfl rfl (by omega) (to_l0 (k0 := 0) (k1 := 1) d1 (by omega) (by omega) rfl rfl (by omega) (to_l0 (k0 := 1) (k1 := 2) d1 (by omega) (by omega) rfl rfl (by omega) (to_l0 (k0 := 2) (k1 := 3) d1 (by omega) (by omega) rfl rfl (by omega) (ev1 ?_)))))
  simp only [laws_FnWaysTo.l0]
  refine evN (by omega) (to_l1 d1 c1 c w.length 0 _ (by omega) (fun q1 q2 => ?_))
  simp only [Bool.true_and, Bool.and_eq_true] at q1
  obtain ⟨⟨⟨p1, p2⟩, p3⟩, p4⟩ := q1
  have := sum_all c1 q2
  rw [← ways_size p1, ← ways_size p2, ← ways_size p3, ← ways_size p4] at this
  rw [Int.zero_add]
  exact this
 simp only [laws_FnWaysTo.f]
 refine evI (fun c => yes) (fun c => ?_)
 cases decide ((m.length : Int) > 1048576)
 ·exact go
 ·exact yes
end Go.Proofs.YtmanlcakdcoekaaGreat.Pure
end
