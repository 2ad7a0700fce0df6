/- Contracts of the functions that the statement reaches, printed by a program out of the translation and joined with the plain laws. -/
import Derived.Lib.BitFns
import Derived.Lib.ItoaNum
import Derived.Lib.SlicesCompact
import Derived.Test.YtmanlcakdcoekaaCFnExactWaysTo3
import Derived.Test.YtmanlcakdcoekaaCFnExactWaysTo4
import Derived.Test.YtmanlcakdcoekaaCFnExactWaysTo5
import Derived.Test.YtmanlcakdcoekaaCFnExactWaysTo6
import Derived.Test.YtmanlcakdcoekaaCFnExactWaysTo7
import Derived.Test.YtmanlcakdcoekaaCFnExactWaysTo8
import Derived.Test.YtmanlcakdcoekaaCFnExactWaysTo9
import Derived.Test.YtmanlcakdcoekaaCFnExactWaysTo10
import Derived.Test.YtmanlcakdcoekaaCFnExactWaysTo11
import Derived.Test.YtmanlcakdcoekaaCFnExactWaysTo12
import Derived.Test.YtmanlcakdcoekaaCFnExactWaysTo13
import Derived.Test.YtmanlcakdcoekaaCFnExactWaysTo14
section
namespace Go.Proofs.Ytmanlcakdcoekaa.Z
open Go Go.RowKit Go.Proofs.Ytmanlcakdcoekaa.PAll Go.Proofs.YtmanlcakdcoekaaW.PrintWords Go.Proofs.YtmanlcakdcoekaaW.PrintLast Go.Proofs.YtmanlcakdcoekaaW.PrintMore
set_option linter.unusedVariables false
set_option linter.unusedSimpArgs false
theorem spec_in (a l h : Int) : spec_l1In.f a l h = some (decide (l ≤ a ∧ a ≤ h)) := by
 unfold spec_l1In.f
 by_cases c : a ≥ l
 ·rw [if_pos c]; simp [c]
 ·rw [if_neg c]
  have : ¬ l ≤ a := by omega
  simp [this]
theorem impl_in (a l h : Int) : impl_in.f a l h = some (decide (l ≤ a ∧ a ≤ h)) := by
 unfold impl_in.f
 by_cases c : a ≥ l
 ·rw [if_pos c]; simp [c]
 ·rw [if_neg c]
  have : ¬ l ≤ a := by omega
  simp [this]
theorem spec_addr (a : Int) : spec_l1Addr.f a = some (decide (0 ≤ a ∧ a ≤ 4294967295)) := by simp only [spec_l1Addr.f, spec_in, Option.bind_some]
theorem impl_addr (a : Int) : impl_isAddr.f a = some (decide (0 ≤ a ∧ a ≤ 4294967295)) := by simp only [impl_isAddr.f, impl_in, Option.bind_some]
theorem two_loop (n : Nat) : ∀ (k : Nat) (c : Int), n ≤ 62 → n < k → 1 ≤ c → c * 2 ^ n ≤ 4611686018427387904 → spec_l1Two.l0 k (n : Int) c = some (c * 2 ^ n) := by
 induction n with
 | zero =>
  intro k c _ hk _ _
  obtain ⟨k, rfl⟩ : ∃ m, k = m + 1 := ⟨k - 1, by omega⟩
  simp only [spec_l1Two.l0]
  rw [if_neg (by omega)]
  simp
 | succ n ih =>
  intro k c hn hk hc hb
  obtain ⟨k, rfl⟩ : ∃ m, k = m + 1 := ⟨k - 1, by omega⟩
  have e : c * 2 ^ (n + 1) = c * 2 * 2 ^ n := by rw [Int.pow_succ, Int.mul_comm ((2 : Int) ^ n) 2, Int.mul_assoc]
  have hp : (1 : Int) ≤ 2 ^ n := by
   have : (0 : Int) < 2 ^ n := Int.pow_pos (by decide)
   omega
  have hc2 : c * 2 ≤ c * 2 * 2 ^ n := by
   have := Int.mul_le_mul_of_nonneg_left hp (by omega : (0 : Int) ≤ c * 2)
   omega
  simp only [spec_l1Two.l0]
  rw [e] at hb ⊢
  rw [if_pos (by omega), w64 (by omega), w64 (by omega)]
  have : ((n + 1 : Nat) : Int) - 1 = (n : Int) := by omega
  rw [this]
  exact ih k (c * 2) (by omega) (by omega) (by omega) hb
theorem spec_two {n : Int} (h0 : 0 ≤ n) (h1 : n ≤ 62) : (∃ K_, ∀ k, K_ ≤ k → spec_l1Two.f k n = some (2 ^ n.toNat)) := by
 refine ⟨n.toNat + 1, fun k hk => ?_⟩
 have e : (n.toNat : Int) = n := by omega
 have hp : (2 : Int) ^ n.toNat ≤ 2 ^ 62 := by
  exact_mod_cast Nat.pow_le_pow_right (n := 2) (by decide) (by omega : n.toNat ≤ 62)
 have := two_loop n.toNat k 1 (by omega) (by omega) (by omega) (by omega)
 rw [e, Int.one_mul] at this
 exact this
theorem spec_size {m : Int} (h0 : 0 ≤ m) (h1 : m ≤ 32) : (∃ K_, ∀ k, K_ ≤ k → spec_l1Size.f k m = some (sz m)) := by
 obtain ⟨K, h⟩ := spec_two (n := 32 - m) (by omega) (by omega)
 refine ⟨K, fun k hk => ?_⟩
 simp only [spec_l1Size.f]
 rw [w64 (by omega), h k hk]
 rfl
theorem impl_size {b m : Int} (h0 : 0 ≤ m) (h1 : m ≤ 32) : impl_Block_size.f b m = some (sz m) := by
 unfold impl_Block_size.f
 rw [w64 (by omega), if_pos (by omega), shl_sz h0 h1]
theorem tmod_beq {b s : Int} (hb : 0 ≤ b) : (Int.tmod b s == 0) = decide (b % s = 0) := by
 rw [Int.tmod_eq_emod_of_nonneg hb]
 rfl
theorem impl_ok (b m : Int) : impl_BlockOk.f b m = some (bokB b m) := by
 unfold impl_BlockOk.f
 rw [impl_addr, Option.bind_some]
 by_cases c : 0 ≤ b ∧ b ≤ 4294967295
 ·rw [if_pos (by simpa using c), impl_in, Option.bind_some]
  by_cases d : 0 ≤ m ∧ m ≤ 32
  ·rw [if_pos (by simpa using d), impl_size d.1 d.2, Option.bind_some, if_neg (by have := sz_pos m; omega), tmod_beq c.1]
   simp [bokB, bok, c, d]
  ·rw [if_neg (by simpa using d)]
   exact congrArg some (bokB_false.2 (fun h => d ⟨h.2.2.1, h.2.2.2.1⟩)).symm
 ·rw [if_neg (by simpa using c)]
  exact congrArg some (bokB_false.2 (fun h => c ⟨h.1, h.2.1⟩)).symm
theorem spec_ok (b m : Int) : (∃ K_, ∀ k, K_ ≤ k → spec_BlockOk.f k b m = some (bokB b m)) := by
 by_cases c : 0 ≤ b ∧ b ≤ 4294967295
 ·by_cases d : 0 ≤ m ∧ m ≤ 32
  ·obtain ⟨K, h⟩ := spec_size d.1 d.2
   refine ⟨K, fun k hk => ?_⟩
   simp only [spec_BlockOk.f]
   rw [spec_addr, Option.bind_some, if_pos (by simpa using c), spec_in, Option.bind_some, if_pos (by simpa using d), h k hk, Option.bind_some, if_neg (by have := sz_pos m; omega), tmod_beq c.1]
   simp [bokB, bok, c, d]
  ·refine ⟨0, fun k _ => ?_⟩
   simp only [spec_BlockOk.f]
   rw [spec_addr, Option.bind_some, if_pos (by simpa using c), spec_in, Option.bind_some, if_neg (by simpa using d)]
   exact congrArg some (bokB_false.2 (fun h => d ⟨h.2.2.1, h.2.2.2.1⟩)).symm
 ·refine ⟨0, fun k _ => ?_⟩
  simp only [spec_BlockOk.f]
  rw [spec_addr, Option.bind_some, if_neg (by simpa using c)]
  exact congrArg some (bokB_false.2 (fun h => c ⟨h.1, h.2.1⟩)).symm
theorem sz_bd {m : Int} (h0 : 0 ≤ m) : 1 ≤ sz m ∧ sz m ≤ 4294967296 := ⟨sz_pos m, sz_top h0⟩
theorem impl_last {b m : Int} (hb0 : 0 ≤ b) (hb1 : b ≤ 4611686018427387904) (h0 : 0 ≤ m) (h1 : m ≤ 32) : impl_Block_last.f b m = some (b + sz m - 1) := by
 have := sz_bd h0
 unfold impl_Block_last.f
 rw [impl_size h0 h1, Option.bind_some, w64 (n := b + sz m) (by omega), w64 (by omega)]
theorem spec_last {b m : Int} (hb0 : -1 ≤ b) (hb1 : b ≤ 4611686018427387904) (h0 : 0 ≤ m) (h1 : m ≤ 32) : (∃ K_, ∀ k, K_ ≤ k → spec_l1Last.f k b m = some (b + sz m - 1)) := by
 have := sz_bd h0
 obtain ⟨K, h⟩ := spec_size h0 h1
 refine ⟨K, fun k hk => ?_⟩
 simp only [spec_l1Last.f]
 rw [h k hk, Option.bind_some, w64 (n := b + sz m) (by omega), w64 (by omega)]
/-- Is an address in a block? -/
def hasB (b m a : Int) : Bool := decide (b ≤ a ∧ a ≤ b + sz m - 1)
theorem hasB_iff {b m a : Int} : hasB b m a = true ↔ b ≤ a ∧ a < b + sz m := by simp only [hasB, decide_eq_true_eq]; omega
theorem impl_has {b m : Int} (a : Int) (hb0 : 0 ≤ b) (hb1 : b ≤ 4611686018427387904) (h0 : 0 ≤ m) (h1 : m ≤ 32) : impl_Block_has.f b m a = some (hasB b m a) := by
 unfold impl_Block_has.f
 rw [impl_last hb0 hb1 h0 h1, Option.bind_some, impl_in, Option.bind_some]
 rfl
abbrev P2 := Int × Int
def inS (L : List P2) (x : Int) : Prop := ∃ s ∈ L, s.1 ≤ x ∧ x ≤ s.2
def Full (L : List P2) : Prop := ∀ s ∈ L, s.1 ≤ s.2
/-- In order, none empty, none beside another one. -/
structure Can (L : List P2) : Prop where
 full : Full L
 sorted : L.Pairwise fun s t => s.2 + 1 < t.1
theorem Can.tail {s : P2} {L : List P2} (h : Can (s :: L)) : Can L := ⟨fun t ht => h.full t (List.mem_cons_of_mem _ ht), (List.pairwise_cons.1 h.sorted).2⟩
theorem Can.head {s : P2} {L : List P2} (h : Can (s :: L)) : s.1 ≤ s.2 ∧ ∀ t ∈ L, s.2 + 1 < t.1 := ⟨h.full s (List.mem_cons_self ..), (List.pairwise_cons.1 h.sorted).1⟩
theorem Can.cons {s : P2} {L : List P2} (h : Can L) (h1 : s.1 ≤ s.2) (h2 : ∀ t ∈ L, s.2 + 1 < t.1) : Can (s :: L) :=
 ⟨fun t ht => (List.mem_cons.1 ht).elim (fun e => e ▸ h1) (h.full t), List.pairwise_cons.2 ⟨h2, h.sorted⟩⟩
theorem inS_cons {s : P2} {L : List P2} {x : Int} : inS (s :: L) x ↔ (s.1 ≤ x ∧ x ≤ s.2) ∨ inS L x := by
 unfold inS
 constructor
 ·rintro ⟨t, ht, h⟩
  rcases List.mem_cons.1 ht with rfl | ht
  ·exact .inl h
  ·exact .inr ⟨t, ht, h⟩
 ·rintro (h | ⟨t, ht, h⟩)
  ·exact ⟨s, List.mem_cons_self .., h⟩
  ·exact ⟨t, List.mem_cons_of_mem _ ht, h⟩
theorem inS_nil {x : Int} : ¬ inS [] x := fun ⟨_, h, _⟩ => by cases h
theorem can_ext : ∀ {L M : List P2}, Can L → Can M → (∀ x, inS L x ↔ inS M x) → L = M
 | [], [], _, _, _ => rfl
 | [], t :: M, _, hm, h => absurd ((h t.1).2 ⟨t, List.mem_cons_self .., Int.le_refl _, hm.head.1⟩) inS_nil
 | s :: L, [], hl, _, h => absurd ((h s.1).1 ⟨s, List.mem_cons_self .., Int.le_refl _, hl.head.1⟩) inS_nil
 | (a, b) :: L, (c, d) :: M, hl, hm, h => by
  obtain ⟨l1, l2⟩ := hl.head
  obtain ⟨m1, m2⟩ := hm.head
  simp only [] at l1 l2 m1 m2
  have far : ∀ {K : List P2} {e x : Int}, (∀ t ∈ K, e + 1 < t.1) → inS K x → e + 1 < x := fun hk ⟨t, ht, q⟩ => by have := hk t ht; omega
  have low : ∀ {e f x : Int} {K : List P2}, e ≤ f → (∀ t ∈ K, f + 1 < t.1) → inS ((e, f) :: K) x → e ≤ x := fun he hk hx => by
   rcases inS_cons.1 hx with q | q
   ·exact q.1
   ·have := far hk q; omega
  have e1 : a = c := by
   have p := low m1 m2 ((h a).1 (inS_cons.2 (.inl ⟨Int.le_refl _, l1⟩)))
   have q := low l1 l2 ((h c).2 (inS_cons.2 (.inl ⟨Int.le_refl _, m1⟩)))
   omega
  subst e1
  have e2 : b = d := by
   have two : ∀ {b d : Int} {L M : List P2}, a ≤ b → a ≤ d → (∀ t ∈ L, b + 1 < t.1) → (∀ x, inS ((a, d) :: M) x → inS ((a, b) :: L) x) → d ≤ b := fun {b d L M} hb hd hk hx => by
    rcases Int.lt_or_le b d with q | q
    ·rcases inS_cons.1 (hx (b + 1) (inS_cons.2 (.inl ⟨by omega, by omega⟩))) with r | r
     ·simp only [] at r; omega
     ·have := far hk r; omega
    ·exact q
   have p := two l1 m1 l2 (fun x hx => (h x).2 hx)
   have q := two m1 l1 m2 (fun x hx => (h x).1 hx)
   omega
  subst e2
  congr 1
  refine can_ext hl.tail hm.tail fun x => ?_
  constructor
  ·intro hx
   rcases inS_cons.1 ((h x).1 (inS_cons.2 (.inr hx))) with q | q
   ·have := far l2 hx; simp only [] at q; omega
   ·exact q
  ·intro hx
   rcases inS_cons.1 ((h x).2 (inS_cons.2 (.inr hx))) with q | q
   ·have := far m2 hx; simp only [] at q; omega
   ·exact q
def mrg : P2 → List P2 → List P2
 | c, [] => [c]
 | c, s :: l => if s.1 ≤ c.2 + 1 then mrg (c.1, mx c.2 s.2) l else c :: mrg s l
def mergeF : List P2 → List P2
 | [] => []
 | s :: l => mrg s l
theorem mx_le (a b : Int) : a ≤ mx a b ∧ b ≤ mx a b ∧ (mx a b = a ∨ mx a b = b) := by unfold mx; split <;> omega
theorem mrg_spec : ∀ (l : List P2) (c : P2), c.1 ≤ c.2 → Full l → (c :: l).Pairwise (fun s t => s.1 ≤ t.1) → Can (mrg c l) ∧ (∀ x, inS (mrg c l) x ↔ inS (c :: l) x) ∧ (∀ t ∈ mrg c l, c.1 ≤ t.1)
 | [], c, hc, _, _ => ⟨⟨fun t ht => by rw [List.mem_singleton.1 ht]; exact hc, List.pairwise_singleton _ _⟩, fun x => Iff.rfl, fun t ht => by rw [List.mem_singleton.1 ht]; exact Int.le_refl _⟩
 | s :: l, c, hc, hf, hp => by
  have hs := hf s (List.mem_cons_self ..)
  have hl : Full l := fun t ht => hf t (List.mem_cons_of_mem _ ht)
  obtain ⟨p1, p2⟩ := List.pairwise_cons.1 hp
  obtain ⟨p3, p4⟩ := List.pairwise_cons.1 p2
  have hcs := p1 s (List.mem_cons_self ..)
  obtain ⟨x1, x2, x3⟩ := mx_le c.2 s.2
  unfold mrg
  split
  ·rename_i h
   obtain ⟨r1, r2, r3⟩ := mrg_spec l (c.1, mx c.2 s.2) (by simp only []; omega) hl (List.pairwise_cons.2 ⟨fun t ht => p1 t (List.mem_cons_of_mem _ ht), p4⟩)
   refine ⟨r1, fun x => ?_, r3⟩
   rw [r2, inS_cons, inS_cons, inS_cons, ← or_assoc]
   refine or_congr ?_ Iff.rfl
   simp only []
   constructor
   ·intro q
    by_cases c1 : x ≤ c.2
    ·exact .inl ⟨q.1, c1⟩
    ·exact .inr ⟨by omega, by rcases x3 with e | e <;> omega⟩
   ·rintro (q | q) <;> exact ⟨by omega, by omega⟩
  ·rename_i h
   obtain ⟨r1, r2, r3⟩ := mrg_spec l s hs hl p2
   refine ⟨r1.cons hc (fun t ht => by have := r3 t ht; omega), fun x => ?_, fun t ht => ?_⟩
   ·rw [inS_cons, r2, inS_cons (s := c)]
   ·rcases List.mem_cons.1 ht with rfl | ht
    ·exact Int.le_refl _
    ·have := r3 t ht; omega
theorem merge_spec {l : List P2} (hf : Full l) (hp : l.Pairwise (fun s t => s.1 ≤ t.1)) : Can (mergeF l) ∧ ∀ x, inS (mergeF l) x ↔ inS l x := by
 cases l with
 | nil => exact ⟨⟨fun t ht => (by cases ht), List.Pairwise.nil⟩, fun x => Iff.rfl⟩
 | cons s l =>
  obtain ⟨h1, h2, _⟩ := mrg_spec l s (hf s (List.mem_cons_self ..)) (fun t ht => hf t (List.mem_cons_of_mem _ ht)) hp
  exact ⟨h1, h2⟩
theorem mrg_len : ∀ (l : List P2) (c : P2), (mrg c l).length ≤ l.length + 1
 | [], _ => Nat.le_refl _
 | s :: l, c => by
  unfold mrg
  split
  ·have := mrg_len l (c.1, mx c.2 s.2); simp only [List.length_cons]; omega
  ·have := mrg_len l s; simp only [List.length_cons]; omega
theorem merge_len (l : List P2) : (mergeF l).length ≤ l.length := by
 cases l with
 | nil => exact Nat.le_refl _
 | cons s l => exact mrg_len l s
def insP (x : P2) : List P2 → List P2
 | [] => [x]
 | y :: l => if y.1 < x.1 then y :: insP x l else x :: y :: l
def isort (l : List P2) : List P2 := l.foldl (fun acc x => insP x acc) []
theorem insP_perm (x : P2) : ∀ l : List P2, (insP x l).Perm (x :: l)
 | [] => List.Perm.refl _
 | y :: l => by
  unfold insP
  split
  ·exact ((insP_perm x l).cons y).trans (List.Perm.swap x y l)
  ·exact List.Perm.refl _
theorem insP_sorted {x : P2} : ∀ {l : List P2}, l.Pairwise (fun s t => s.1 ≤ t.1) → (insP x l).Pairwise (fun s t => s.1 ≤ t.1)
 | [], _ => List.pairwise_singleton _ _
 | y :: l, h => by
  obtain ⟨h1, h2⟩ := List.pairwise_cons.1 h
  unfold insP
  split
  ·rename_i c
   refine List.pairwise_cons.2 ⟨fun t ht => ?_, insP_sorted h2⟩
   rcases List.mem_cons.1 ((insP_perm x l).mem_iff.1 ht) with rfl | ht
   ·omega
   ·exact h1 t ht
  ·rename_i c
   refine List.pairwise_cons.2 ⟨fun t ht => ?_, h⟩
   rcases List.mem_cons.1 ht with rfl | ht
   ·omega
   ·have := h1 t ht; omega
theorem isort_go : ∀ (l acc : List P2), acc.Pairwise (fun s t => s.1 ≤ t.1) → (l.foldl (fun acc x => insP x acc) acc).Pairwise (fun s t => s.1 ≤ t.1) ∧ (l.foldl (fun acc x => insP x acc) acc).Perm (acc ++ l)
 | [], acc, h => ⟨h, by rw [List.append_nil]; exact List.Perm.refl _⟩
 | x :: l, acc, h => by
  obtain ⟨h1, h2⟩ := isort_go l (insP x acc) (insP_sorted h)
  refine ⟨h1, h2.trans ?_⟩
  refine ((insP_perm x acc).append_right l).trans ?_
  exact List.perm_middle.symm
theorem isort_spec (l : List P2) : (isort l).Pairwise (fun s t => s.1 ≤ t.1) ∧ (isort l).Perm l := isort_go l [] List.Pairwise.nil
theorem inS_perm {l m : List P2} (h : l.Perm m) {x : Int} : inS l x ↔ inS m x := by
 unfold inS
 constructor
 ·rintro ⟨s, hs, q⟩; exact ⟨s, h.mem_iff.1 hs, q⟩
 ·rintro ⟨s, hs, q⟩; exact ⟨s, h.mem_iff.2 hs, q⟩
theorem Full.perm {l m : List P2} (h : l.Perm m) (hf : Full m) : Full l := fun s hs => hf s (h.mem_iff.1 hs)
/-- The one form of some spans. -/
def canF (l : List P2) : List P2 := mergeF (isort l)
theorem canF_spec {l : List P2} (hf : Full l) : Can (canF l) ∧ ∀ x, inS (canF l) x ↔ inS l x := by
 obtain ⟨h1, h2⟩ := isort_spec l
 obtain ⟨h3, h4⟩ := merge_spec (hf.perm h2) h1
 exact ⟨h3, fun x => (h4 x).trans (inS_perm h2)⟩
theorem canF_sorted {l m : List P2} (hf : Full l) (hp : l.Perm m) (hs : l.Pairwise (fun s t => s.1 ≤ t.1)) : mergeF l = canF m := by
 obtain ⟨h1, h2⟩ := merge_spec hf hs
 obtain ⟨h3, h4⟩ := canF_spec (hf.perm hp.symm)
 exact can_ext h1 h3 fun x => (h2 x).trans ((inS_perm hp).trans (h4 x).symm)
theorem canF_len (l : List P2) : (canF l).length ≤ l.length := by
 have := merge_len (isort l)
 rw [(isort_spec l).2.length_eq] at this
 exact this
/-- Bounds are kept. -/
theorem inS_bd {L : List P2} (hf : Full L) {m M : Int} (h : ∀ x, inS L x → m ≤ x ∧ x ≤ M) : ∀ s ∈ L, m ≤ s.1 ∧ s.2 ≤ M := fun s hs => by
 have := hf s hs
 exact ⟨(h s.1 ⟨s, hs, Int.le_refl _, this⟩).1, (h s.2 ⟨s, hs, this, Int.le_refl _⟩).2⟩
abbrev Bl := S40
def okM (a t : Int) (m : Int) : Prop := a % sz m = 0 ∧ a + sz m - 1 ≤ t
instance (a t m : Int) : Decidable (okM a t m) := by unfold okM; infer_instance
theorem okM.up {a t m n : Int} (h : okM a t m) (hn : m ≤ n) : okM a t n := by
 have h1 := sz_le hn
 exact ⟨Int.emod_eq_zero_of_dvd (Int.dvd_trans (sz_dvd hn) (Int.dvd_of_emod_eq_zero h.1)), by have := h.2; omega⟩
theorem okM_top {a t : Int} (h : a ≤ t) : okM a t 32 := by
 refine ⟨?_, ?_⟩
 ·rw [sz_32]; exact Int.emod_one a
 ·rw [sz_32]; omega
def dnM (a t : Int) : Nat → Nat
 | 0 => 0
 | m + 1 => if okM a t (m : Int) then dnM a t m else m + 1
theorem dnM_spec {a t : Int} : ∀ n : Nat, okM a t (n : Int) → okM a t (dnM a t n : Int) ∧ dnM a t n ≤ n ∧ ∀ m : Nat, m < dnM a t n → ¬ okM a t (m : Int)
 | 0, h => ⟨h, Nat.le_refl _, fun m hm => absurd hm (by simp [dnM])⟩
 | n + 1, h => by
  unfold dnM
  split
  ·rename_i c
   obtain ⟨h1, h2, h3⟩ := dnM_spec n c
   exact ⟨h1, by omega, h3⟩
  ·rename_i c
   exact ⟨h, Nat.le_refl _, fun m hm q => c (q.up (by omega))⟩
def bitsM (a t : Int) : Nat := dnM a t 32
theorem bitsM_spec {a t : Int} (h : a ≤ t) : okM a t (bitsM a t : Int) ∧ bitsM a t ≤ 32 ∧ ∀ m : Nat, m < bitsM a t → ¬ okM a t (m : Int) := dnM_spec 32 (okM_top h)
theorem bitsM_eq {a t : Int} {m : Nat} (h : a ≤ t) (h1 : okM a t (m : Int)) (h2 : ∀ q : Nat, q < m → ¬ okM a t (q : Int)) : bitsM a t = m := by
 obtain ⟨k1, k2, k3⟩ := bitsM_spec h
 rcases Nat.lt_trichotomy (bitsM a t) m with q | q | q
 ·exact absurd k1 (h2 _ q)
 ·exact q
 ·exact absurd h1 (k3 _ q)
def covN : Nat → Int → Int → List Bl
 | 0, _, _ => []
 | n + 1, a, t => if a ≤ t then ⟨a, (bitsM a t : Int)⟩ :: covN n (a + sz (bitsM a t : Int)) t else []
def covF (a t : Int) : List Bl := covN (t - a + 1).toNat a t
theorem covN_fuel {t : Int} : ∀ (n m : Nat) (a : Int), (t - a + 1).toNat ≤ n → (t - a + 1).toNat ≤ m → covN n a t = covN m a t
 | 0, 0, _, _, _ => rfl
 | 0, m + 1, a, h, _ => by unfold covN; rw [if_neg (by omega)]
 | n + 1, 0, a, _, h => by unfold covN; rw [if_neg (by omega)]
 | n + 1, m + 1, a, h, h' => by
  unfold covN
  split
  ·have := sz_pos (bitsM a t : Int)
   rw [covN_fuel n m _ (by omega) (by omega)]
  ·rfl
theorem covF_step {a t : Int} (h : a ≤ t) : covF a t = ⟨a, (bitsM a t : Int)⟩ :: covF (a + sz (bitsM a t : Int)) t := by
 have := sz_pos (bitsM a t : Int)
 unfold covF
 obtain ⟨n, hn⟩ : ∃ n, (t - a + 1).toNat = n + 1 := ⟨(t - a + 1).toNat - 1, by omega⟩
 rw [hn]
 conv => lhs; unfold covN
 rw [if_pos h, covN_fuel n _ _ (by omega) (Nat.le_refl _)]
theorem covF_end {a t : Int} (h : t < a) : covF a t = [] := by
 unfold covF
 rw [show (t - a + 1).toNat = 0 by omega]
 rfl
/-- How many there can be. -/
theorem cov_small {t : Int} : ∀ (j : Nat) (a : Int), j ≤ 32 → a % sz (32 - (j : Int)) = 0 → t - a + 1 < sz (32 - (j : Int)) → (covF a t).length ≤ j
 | 0, a, _, _, h => by
  have h1 : sz (32 - ((0 : Nat) : Int)) = 1 := rfl
  rw [h1] at h
  rw [covF_end (by omega)]
  exact Nat.le_refl _
 | j + 1, a, hj, hd, hr => by
  have e : (32 - ((j + 1 : Nat) : Int)) + 1 = 32 - (j : Int) := by omega
  have hh := sz_half (m := 32 - ((j + 1 : Nat) : Int)) (by omega)
  rw [e] at hh
  have hp := sz_pos (32 - (j : Int))
  have hd2 : a % sz (32 - (j : Int)) = 0 := Int.emod_eq_zero_of_dvd (Int.dvd_trans (sz_dvd (m := 32 - ((j + 1 : Nat) : Int)) (by omega)) (Int.dvd_of_emod_eq_zero hd))
  by_cases c : t - a + 1 < sz (32 - (j : Int))
  ·have := cov_small j a (by omega) hd2 c
   omega
  ·have hb : bitsM a t = 32 - j := by
    have e2 : ((32 - j : Nat) : Int) = 32 - (j : Int) := by omega
    refine bitsM_eq (by omega) (by rw [e2]; exact ⟨hd2, by omega⟩) (fun q hq h => ?_)
    have := (h.up (n := 32 - ((j + 1 : Nat) : Int)) (by omega)).2
    omega
   have e2 : ((bitsM a t : Nat) : Int) = 32 - (j : Int) := by omega
   rw [covF_step (by omega), e2]
   have := cov_small (t := t) j (a + sz (32 - (j : Int))) (by omega) (by rw [Int.add_emod_right]; exact hd2) (by omega)
   simp only [List.length_cons]
   omega
theorem cov_len {t : Int} (ht : t ≤ 4294967295) : ∀ (d : Nat) (a : Int), d ≤ 32 → 0 ≤ a → a % sz (d : Int) = 0 → (covF a t).length ≤ 32 + d
 | 0, a, _, h0, hd => by
  have h1 : sz ((0 : Nat) : Int) = 4294967296 := rfl
  rw [h1] at hd
  by_cases c : a ≤ t
  ·have e : a = 0 := by omega
   subst e
   by_cases c2 : t = 4294967295
   ·subst c2
    rw [covF_step (by omega), show ((bitsM 0 4294967295 : Nat) : Int) = 0 from ?_]
    ·rw [covF_end (by have h1 : sz 0 = 4294967296 := rfl; omega)]
     simp
    ·have : bitsM 0 4294967295 = 0 := bitsM_eq (by omega) ⟨by decide, by have h1 : sz ((0 : Nat) : Int) = 4294967296 := rfl; omega⟩ (fun q hq => absurd hq (by omega))
     rw [this]; rfl
   ·exact cov_small 32 0 (by omega) (by simp) (by have h1 : sz (32 - ((32 : Nat) : Int)) = 4294967296 := rfl; omega)
  ·rw [covF_end (by omega)]
   simp
 | d + 1, a, hd1, h0, hd => by
  have hh := sz_half (m := (d : Int)) (by omega)
  have e : (d : Int) + 1 = ((d + 1 : Nat) : Int) := by omega
  rw [e] at hh
  have hp := sz_pos ((d + 1 : Nat) : Int)
  by_cases c : a % sz (d : Int) = 0
  ·have := cov_len ht d a (by omega) h0 c
   omega
  ·by_cases c2 : t - a + 1 < sz ((d + 1 : Nat) : Int)
   ·have := cov_small (t := t) (32 - (d + 1)) a (by omega) (by rw [show 32 - ((32 - (d + 1) : Nat) : Int) = ((d + 1 : Nat) : Int) by omega]; exact hd) (by rw [show 32 - ((32 - (d + 1) : Nat) : Int) = ((d + 1 : Nat) : Int) by omega]; exact c2)
    omega
   ·have hb : bitsM a t = d + 1 := bitsM_eq (by omega) ⟨hd, by omega⟩ (fun q hq h => c (h.up (n := (d : Int)) (by omega)).1)
    rw [covF_step (by omega), hb]
    obtain ⟨z, hz⟩ := Int.dvd_of_emod_eq_zero hd
    have ho : (a + sz ((d + 1 : Nat) : Int)) % sz (d : Int) = 0 := by
     rcases Int.emod_two_eq z with hz2 | hz2
     ·exfalso
      apply c
      obtain ⟨y, rfl⟩ := Int.dvd_of_emod_eq_zero hz2
      rw [hz, hh]
      refine Int.emod_eq_zero_of_dvd ⟨y, ?_⟩
      rw [← Int.mul_assoc, Int.mul_comm 2]
     ·obtain ⟨y, hy⟩ : ∃ y, z = 2 * y + 1 := ⟨z / 2, by omega⟩
      rw [hz, hh, hy]
      refine Int.emod_eq_zero_of_dvd ⟨y + 1, ?_⟩
      rw [Int.mul_add, Int.mul_add, Int.mul_one, Int.mul_one, ← Int.mul_assoc, Int.mul_comm 2, Int.add_assoc]
      omega
    have := cov_len ht d (a + sz ((d + 1 : Nat) : Int)) (by omega) (by omega) ho
    simp only [List.length_cons]
    omega
theorem covF_len {a t : Int} (h0 : 0 ≤ a) (ht : t ≤ 4294967295) : (covF a t).length ≤ 64 := cov_len ht 32 a (by omega) h0 (by rw [show sz ((32 : Nat) : Int) = 1 from rfl]; exact Int.emod_one a)
/-- The blocks of spans. -/
def coverF (L : List P2) : List Bl := L.flatMap fun s => covF s.1 s.2
def InB (L : List P2) : Prop := ∀ s ∈ L, 0 ≤ s.1 ∧ s.2 ≤ 4294967295
theorem bl_ext {a b : Bl} (h : a.f0 = b.f0 ∧ a.f1 = b.f1) : a = b := by
 cases a; cases b
 obtain ⟨h1, h2⟩ := h
 simp only [] at h1 h2
 rw [h1, h2]
instance : DecidableEq Bl := fun a b => decidable_of_iff (a.f0 = b.f0 ∧ a.f1 = b.f1) ⟨bl_ext, fun h => by rw [h]; exact ⟨rfl, rfl⟩⟩
def okB (l : List Bl) : Bool := decide (l.length ≤ 64) && l.all fun b => bokB b.f0 b.f1
theorem canF_in {L : List P2} (hf : Full L) (hb : InB L) : InB (canF L) := by
 obtain ⟨h1, h2⟩ := canF_spec hf
 refine inS_bd h1.full fun x hx => ?_
 obtain ⟨s, hs, q⟩ := (h2 x).1 hx
 have := hb s hs
 omega
/-- Bytes that are drawn from. -/
def Bytes (s : List Int) : Prop := (∀ x ∈ s, 0 ≤ x ∧ x ≤ 255) ∧ s.length ≤ 2000
theorem rd_byte {s : List Int} (h : Bytes s) (i : Int) : 0 ≤ rd s i ∧ rd s i ≤ 255 := by
 unfold rd
 rw [List.getD_eq_getElem?_getD]
 cases e : s[i.toNat]? with
 | none => simp
 | some x => simpa using h.1 x (List.mem_of_getElem? e)
theorem pick_aux (k : Nat) (s : List Int) (p n : Int) (hs : Bytes s) (hp0 : 0 ≤ p) (hp1 : p ≤ 1000000000000) (hn0 : 1 ≤ n) (hn1 : n ≤ 2147483648) :
  ∃ v, spec_l1Rd_pick.f (k + 1) s p n = some (v, p + 1) ∧ 0 ≤ v ∧ v < n := by
 have e1 : wrap64 (p + 1) = p + 1 := w64 (by omega)
 have e2 : wrap64 (p + 1 - 1) = p := by rw [w64 (by omega)]; omega
 unfold spec_l1Rd_pick.f
 rw [if_neg (by omega), e1]
 simp only [spec_l1Rd_pick.j0, e2]
 by_cases h0 : (s.length : Int) = 0
 ·rw [if_pos (beq_iff_eq.2 h0)]
  exact ⟨0, rfl, by omega, by omega⟩
 ·rw [if_neg (fun h => h0 (beq_iff_eq.1 h))]
  have hl := hs.2
  by_cases h1 : p < (s.length : Int)
  ·rw [if_pos h1, if_pos hp0, if_neg (by omega)]
   have hb := rd_byte hs p
   rw [w64 (by omega), Int.tmod_eq_emod_of_nonneg (by omega)]
   exact ⟨_, rfl, Int.emod_nonneg _ (by omega), Int.emod_lt_of_pos _ (by omega)⟩
  ·have e3 : wrap64 (p * 7) = p * 7 := w64 (by omega)
   have e4 : wrap64 (p * 7 + 3) = p * 7 + 3 := w64 (by omega)
   have e5 : wrap64 (p * 29) = p * 29 := w64 (by omega)
   have d1 : Int.tmod p (s.length : Int) = p % (s.length : Int) := Int.tmod_eq_emod_of_nonneg hp0
   have d2 : Int.tmod (p * 7 + 3) (s.length : Int) = (p * 7 + 3) % (s.length : Int) := Int.tmod_eq_emod_of_nonneg (by omega)
   have d3 : Int.tdiv p (s.length : Int) = p / (s.length : Int) := Int.tdiv_eq_ediv_of_nonneg hp0
   have q0 : 0 ≤ p / (s.length : Int) := Int.ediv_nonneg hp0 (by omega)
   have q1 : p / (s.length : Int) ≤ p := Int.ediv_le_self _ hp0
   have r0 := Int.emod_nonneg p h0
   have r1 := Int.emod_lt_of_pos p (by omega : 0 < (s.length : Int))
   have r2 := Int.emod_nonneg (p * 7 + 3) h0
   have r3 := Int.emod_lt_of_pos (p * 7 + 3) (by omega : 0 < (s.length : Int))
   have b1 := rd_byte hs (p % (s.length : Int))
   have b2 := rd_byte hs ((p * 7 + 3) % (s.length : Int))
   have c1 : wrap64 (rd s (p % (s.length : Int))) = rd s (p % (s.length : Int)) := w64 (by omega)
   have c2 : wrap64 (rd s ((p * 7 + 3) % (s.length : Int))) = rd s ((p * 7 + 3) % (s.length : Int)) := w64 (by omega)
   have c3 : wrap64 (p / (s.length : Int)) = p / (s.length : Int) := w64 (by omega)
   have e6 : wrap64 (p / (s.length : Int) * 53) = p / (s.length : Int) * 53 := w64 (by omega)
   have e7 : wrap64 (rd s (p % (s.length : Int)) * 131) = rd s (p % (s.length : Int)) * 131 := w64 (by omega)
   have e8 : wrap64 (rd s ((p * 7 + 3) % (s.length : Int)) * 1117) = rd s ((p * 7 + 3) % (s.length : Int)) * 1117 := w64 (by omega)
   rw [if_neg h1, if_neg h0]
   simp only [d1, d2, d3, e3, e4, c1, c2, c3, e5, e6, e7, e8]
   rw [if_pos r0, if_pos r1, if_pos r2, if_pos r3, if_neg (by omega)]
   generalize rd s (p % (s.length : Int)) = x at *
   generalize rd s ((p * 7 + 3) % (s.length : Int)) = y at *
   generalize p / (s.length : Int) = z at *
   have f1 : wrap64 (x * 131 + y * 1117) = x * 131 + y * 1117 := w64 (by omega)
   have f2 : wrap64 (x * 131 + y * 1117 + p * 29) = x * 131 + y * 1117 + p * 29 := w64 (by omega)
   have f3 : wrap64 (x * 131 + y * 1117 + p * 29 + z * 53) = x * 131 + y * 1117 + p * 29 + z * 53 := w64 (by omega)
   simp only [f1, f2, f3]
   generalize hX : x * 131 + y * 1117 + p * 29 + z * 53 = X at *
   have g1 : Int.tdiv X 64 = X / 64 := Int.tdiv_eq_ediv_of_nonneg (by omega)
   have g2 : wrap64 (X / 64) = X / 64 := w64 (by omega)
   rw [g1, g2, i64_xor X (X / 64) (by omega) (by omega) (by omega) (by omega), Int.tmod_eq_emod_of_nonneg (by omega)]
   exact ⟨_, rfl, Int.emod_nonneg _ (by omega), Int.emod_lt_of_pos _ (by omega)⟩
/-- A number is drawn. -/
theorem pick (s : List Int) (p n : Int) (hs : Bytes s) (hp0 : 0 ≤ p) (hp1 : p ≤ 1000000000000) (hn0 : 1 ≤ n) (hn1 : n ≤ 2147483648) :
  ∃ v, (∃ K_, ∀ k, K_ ≤ k → spec_l1Rd_pick.f k s p n = some (v, p + 1)) ∧ 0 ≤ v ∧ v < n := by
 obtain ⟨v, h, h0, h1⟩ := pick_aux 0 s p n hs hp0 hp1 hn0 hn1
 exact ⟨v, Ev.of (spec_l1Rd_pick.mono s p n) h, h0, h1⟩
/-- A number of a list is drawn. -/
theorem one (s : List Int) (p : Int) (l : List Int) (hs : Bytes s) (hp0 : 0 ≤ p) (hp1 : p ≤ 1000000000000) (hl0 : 1 ≤ l.length) (hl1 : l.length ≤ 2147483648) :
  ∃ v, (∃ K_, ∀ k, K_ ≤ k → spec_l1Rd_one.f k s p l = some (v, p + 1)) ∧ v ∈ l := by
 obtain ⟨v, ⟨K, h⟩, h0, h1⟩ := pick s p l.length hs hp0 hp1 (by omega) (by omega)
 refine ⟨rd l v, ⟨K, fun k hk => ?_⟩, ?_⟩
 ·simp only [spec_l1Rd_one.f, h k hk, Option.bind_some]
  rw [if_pos h0, if_pos h1]
 ·unfold rd
  rw [List.getD_eq_getElem?_getD, List.getElem?_eq_getElem (by omega)]
  exact List.getElem_mem _
theorem floor_mem {b s : Int} (hs : 1 ≤ s) : b / s * s ≤ b ∧ b < b / s * s + s := by
 have h1 := Int.ediv_mul_le b (by omega : s ≠ 0)
 have h2 := Int.lt_ediv_add_one_mul_self b (by omega : 0 < s)
 rw [Int.add_mul] at h2
 omega
section
variable {b m c n : Int} (h1 : bok b m) (h2 : bok c n)
include h1 h2
end
theorem shr_sz {b q : Int} (h0 : 0 ≤ q) (h1 : q ≤ 32) : shr .i64 b (32 - q) = b / sz q := by
 have e : min (32 - q).toNat IntKind.i64.bits = (32 - q).toNat := by
  have : IntKind.i64.bits = 64 := rfl
  omega
 unfold shr sz
 rw [e]
theorem shl_floor {x q : Int} (h0 : 0 ≤ q) (h1 : q ≤ 32) (hx0 : 0 ≤ x * sz q) (hx1 : x * sz q ≤ 4294967296) : shl .i64 x (32 - q) = x * sz q := by
 have e : min (32 - q).toNat IntKind.i64.bits = (32 - q).toNat := by
  have : IntKind.i64.bits = 64 := rfl
  omega
 unfold shl
 rw [e, IntKind.wrap_i64]
 unfold sz at *
 omega
theorem impl_around {b q : Int} (hb0 : 0 ≤ b) (hb1 : b ≤ 4294967295) (h0 : 0 ≤ q) (h1 : q ≤ 32) : impl_around.f b q = some (b / sz q * sz q, q) := by
 have hm := floor_mem (b := b) (sz_pos q)
 have hn : 0 ≤ b / sz q * sz q := Int.mul_nonneg (Int.ediv_nonneg hb0 (by have := sz_pos q; omega)) (by have := sz_pos q; omega)
 unfold impl_around.f
 rw [w64 (by omega), if_pos (by omega), shr_sz h0 h1, shl_floor h0 h1 hn (by omega)]
abbrev Sa6 := S68
abbrev Sb7 := S72
def s6 (p : P2) : Sa6 := ⟨p.1, p.2⟩
def s7 (p : P2) : Sb7 := ⟨p.1, p.2⟩
def p6 (s : Sa6) : P2 := (s.f0, s.f1)
theorem map_p6 (l : List Sa6) : (l.map p6).map s6 = l := by rw [List.map_map]; exact List.map_id'' (fun _ => rfl) l
theorem rd_bl (l : List Bl) (n : Nat) (h : n < l.length) : rd_T40 l (n : Int) = l[n] := by
 unfold rd_T40
 rw [List.getD_eq_getElem?_getD, Int.toNat_natCast, List.getElem?_eq_getElem h]
 rfl
theorem rd_s6 (L : List P2) (n : Nat) (h : n < L.length) : rd_T68 (L.map s6) (n : Int) = s6 L[n] := by
 unfold rd_T68
 rw [List.getD_eq_getElem?_getD, Int.toNat_natCast, List.getElem?_map, List.getElem?_eq_getElem h]
 rfl
theorem rd_s7 (L : List P2) (n : Nat) (h : n < L.length) : rd_T72 (L.map s7) (n : Int) = s7 L[n] := by
 unfold rd_T72
 rw [List.getD_eq_getElem?_getD, Int.toNat_natCast, List.getElem?_map, List.getElem?_eq_getElem h]
 rfl
theorem up1 {n : Nat} (h : n ≤ 1000000000) : wrap64 ((n : Int) + 1) = ((n + 1 : Nat) : Int) := by rw [w64 (by omega)]; omega
theorem dn1 {n : Nat} (h : 0 < n) (h2 : n ≤ 1000000000) : wrap64 ((n : Int) - 1) = ((n - 1 : Nat) : Int) := by rw [w64 (by omega)]; omega
theorem union_loop (L : List P2) (hl : L.length ≤ 1000000) (hb : InB L) (hf : Full L) (d : Nat) : ∀ (n : Nat) (D : List P2) (c : P2), n + d = L.length → D.length + d ≤ 10000000 → -1 ≤ c.2 ∧ c.2 ≤ 4294967295 → 
  (∃ K_, ∀ k, K_ ≤ k → impl_union.l0 k ((D ++ [c]).map s6) (L.map s6) (L.length : Int) (n : Int) = some ((D ++ mrg c (L.drop n)).map s6)) := by
 induction d with
 | zero =>
  intro n D c hn hd hc
  refine ev1 ?_
  simp only [impl_union.l0]
  rw [List.drop_eq_nil_of_le (by omega)]
  exact evN (by omega) (evR rfl)
 | succ d ih =>
  intro n D c hn hd hc
  have hlt : n < L.length := by omega
  have hs := hb _ (List.getElem_mem hlt)
  have hs2 := hf _ (List.getElem_mem hlt)
  have e1 : ((D ++ [c]).map s6).length = D.length + 1 := by simp
  have e2 : rd_T68 ((D ++ [c]).map s6) ((D.length : Nat) : Int) = s6 c := by rw [rd_s6 _ _ (by simp)]; simp
  have e3 : wrap64 ((((D.length + 1 : Nat)) : Int) - 1) = ((D.length : Nat) : Int) := by rw [dn1 (by omega) (by omega)]; rfl
  have e4 : wrap64 ((s6 c).f1 + 1) = c.2 + 1 := w64 (by show _ ≤ c.2 + 1 ∧ c.2 + 1 ≤ _; omega)
  refine ev1 ?_
  simp only [impl_union.l0]
  rw [e1, e3, e2, e4, up1 (by omega), rd_s6 L n hlt, List.drop_eq_getElem_cons hlt, List.length_map]
  refine evP (by omega) (evP (by omega) (evP (by omega) (evP (by omega) (evP (by omega) (evP (by omega) ?_)))))
  unfold mrg
  refine evI (fun c2 => ?_) (fun c2 => evP (by omega) ?_)
  ·have c2 : L[n].1 ≤ c.2 + 1 := c2
   rw [if_pos c2]
   obtain ⟨x1, x2, x3⟩ := mx_le c.2 L[n].2
   have := ih (n + 1) D (c.1, mx c.2 L[n].2) (by omega) (by omega) ⟨by simp only []; omega, by simp only []; omega⟩
   have e5 : (((D ++ [c]).map s6).set ((D.length : Nat) : Int).toNat ⟨(s6 c).f0, mx (s6 c).f1 (s6 L[n]).f1⟩) = ((D ++ [(c.1, mx c.2 L[n].2)]).map s6) := by
    rw [Int.toNat_natCast, List.map_append, List.set_append_right _ _ (by simp)]
    simp [s6]
   rw [e5]
   exact this
  ·have c2 : ¬ L[n].1 ≤ c.2 + 1 := c2
   rw [if_neg c2]
   have := ih (n + 1) (D ++ [c]) L[n] (by omega) (by simp; omega) (by omega)
   rw [show (D ++ [c]) ++ mrg L[n] (L.drop (n + 1)) = D ++ c :: mrg L[n] (L.drop (n + 1)) by simp] at this
   rw [show (D ++ [c]).map s6 ++ [⟨(s6 L[n]).f0, (s6 L[n]).f1⟩] = ((D ++ [c]) ++ [L[n]]).map s6 by simp [s6]]
   exact this
theorem impl_union {L : List P2} (hf : Full L) (hb : InB L) (hl : L.length ≤ 1000000) : (∃ K_, ∀ k, K_ ≤ k → impl_union.f k (L.map s6) = some ((canF L).map s6)) := by
 obtain ⟨q1, q2⟩ := spSort_spec (L.map s6)
 obtain ⟨M, hM⟩ : ∃ M, M = (spSort (L.map s6)).map p6 := ⟨_, rfl⟩
 have e1 : spSort (L.map s6) = M.map s6 := by rw [hM, map_p6]
 have e2 : M.Perm L := by
  have h := q1.map p6
  rw [← hM, List.map_map] at h
  have e : L.map (p6 ∘ s6) = L := List.map_id'' (fun _ => rfl) L
  rw [e] at h
  exact h
 have e3 : M.Pairwise (fun s t => s.1 ≤ t.1) := by rw [hM, List.pairwise_map]; exact q2
 have hlen := e2.length_eq
 have hf2 : Full M := hf.perm e2
 have hb2 : InB M := fun s hs => hb s (e2.mem_iff.1 hs)
 simp only [impl_union.f, impl_span_98_union_cl1.f]
 rw [← canF_sorted hf2 e2 e3]
 refine evS (a := M.map s6) (by rw [if_pos (by simp; omega), e1]) ?_
 rw [List.length_map]
 cases hc : M with
 | nil =>
  refine ev1 ?_
  simp only [impl_union.l0]
  exact evN (by simp) (evR rfl)
 | cons s T =>
  rw [hc] at hf2 hb2 hlen
  have hs := hb2 s (List.mem_cons_self ..)
  have hs2 := hf2 s (List.mem_cons_self ..)
  have := union_loop (s :: T) (by omega) hb2 hf2 T.length 1 [] s (by simp; omega) (by simp only [List.length_cons, List.length_nil] at *; omega) (by omega)
  refine ev1 ?_
  simp only [impl_union.l0]
  rw [show rd_T68 ((s :: T).map s6) 0 = s6 s from rd_s6 (s :: T) 0 (by simp)]
  refine evP (by simp) (evP (by omega) (evP (by simp) (evN (by simp) (evP (by simp) ?_))))
  rw [show wrap64 ((0 : Int) + 1) = ((1 : Nat) : Int) from by rw [w64 (by omega)]; rfl]
  exact this
theorem al_eq {a : Int} {m : Nat} (h : a % sz (m : Int) = 0) : a / sz (m : Int) * sz (m : Int) = a := by
 have := Int.mul_ediv_add_emod a (sz (m : Int))
 rw [h, Int.add_zero, Int.mul_comm] at this
 exact this
section
variable {a t x : Int} {acc R : List Bl} (h0 : 0 ≤ a) (ht : t ≤ 4294967295) (hl : acc.length ≤ 1000000)
include h0 ht hl
theorem blocks_fin {m : Nat} (hm : m ≤ 32) (h : okM a t (m : Int)) (hk : (∃ K_, ∀ k, K_ ≤ k → impl_span_blocks.l0 k (acc ++ [⟨a, (m : Int)⟩]) (a + sz (m : Int)) x t = some R)) :
  (∃ K_, ∀ k, K_ ≤ k → ((impl_around.f a (m : Int)).bind fun bt => (if acc.length < 8796093022208 then ((some (acc ++ [(⟨bt.1, bt.2⟩ : Bl)])).bind fun y => (if 0 ≤ (wrap64 ((y.length : Int) - 1)) then (if (wrap64 ((y.length : Int) - 1)) < (y.length : Int) then ((impl_Block_last.f ((rd_T40 y (wrap64 ((y.length : Int) - 1))).f0) ((rd_T40 y (wrap64 ((y.length : Int) - 1))).f1)).bind fun t113 => (impl_span_blocks.l0 k y (wrap64 (t113 + 1)) x t)) else none) else none)) else none)) = some R) := by
 have hp := sz_pos (m : Int)
 have h2 := h.2
 have e1 : (acc ++ [(⟨a, (m : Int)⟩ : Bl)]).length = acc.length + 1 := by simp
 have e2 : wrap64 ((((acc ++ [(⟨a, (m : Int)⟩ : Bl)]).length : Nat) : Int) - 1) = ((acc.length : Nat) : Int) := by rw [e1, dn1 (by omega) (by omega)]; rfl
 have e3 : rd_T40 (acc ++ [(⟨a, (m : Int)⟩ : Bl)]) ((acc.length : Nat) : Int) = ⟨a, (m : Int)⟩ := by rw [rd_bl _ _ (by simp)]; simp
 refine evS (impl_around h0 (by omega) (by omega) (by omega)) (evP (by omega) (evS (a := acc ++ [(⟨a, (m : Int)⟩ : Bl)]) (by simp only []; rw [al_eq h.1]) ?_))
 rw [e2, e3, e1]
 refine evP (by omega) (evP (by omega) (evS (impl_last (b := a) (m := (m : Int)) h0 (by omega) (by omega) (by omega)) ?_))
 rw [show wrap64 (a + sz (m : Int) - 1 + 1) = a + sz (m : Int) by rw [Int.sub_add_cancel]; exact w64 (by omega)]
 exact hk
theorem blocks_in : ∀ m : Nat, m ≤ 32 → okM a t (m : Int) → (∃ K_, ∀ k, K_ ≤ k → impl_span_blocks.l0 k (acc ++ [⟨a, ((dnM a t m : Nat) : Int)⟩]) (a + sz ((dnM a t m : Nat) : Int)) x t = some R) → (∃ K_, ∀ k, K_ ≤ k → impl_span_blocks.l1 k acc a (m : Int) x t = some R)
 | 0, hm, h, hk => by
  refine ev1 ?_
  simp only [impl_span_blocks.l1]
  exact evN (by simp) (blocks_fin h0 ht hl hm h hk)
 | m + 1, hm, h, hk => by
  have e0 : wrap64 (((m + 1 : Nat) : Int) - 1) = (m : Int) := by rw [dn1 (by omega) (by omega)]; rfl
  have har := impl_around h0 (show a ≤ 4294967295 by have := h.2; have := sz_pos ((m + 1 : Nat) : Int); omega) (show 0 ≤ (m : Int) by omega) (show (m : Int) ≤ 32 by omega)
  have hp := sz_bd (m := (m : Int)) (by omega)
  refine ev1 ?_
  simp only [impl_span_blocks.l1]
  rw [e0]
  refine evP (by omega) (evS har (evI (fun c => evS har ?_) (fun c => ?_)))
  ·have c : a / sz (m : Int) * sz (m : Int) = a := c
   have hz : a % sz (m : Int) = 0 := by rw [← c]; exact Int.mul_emod_left _ _
   simp only [c]
   have h2 := h.2
   have hp2 := sz_pos ((m + 1 : Nat) : Int)
   refine evS (impl_last h0 (by omega) (by omega) (by omega)) (evI (fun c2 => ?_) (fun c2 => ?_))
   ·have h3 : okM a t (m : Int) := ⟨hz, c2⟩
    unfold dnM at hk
    rw [if_pos h3] at hk
    exact blocks_in m (by omega) h3 hk
   ·have h3 : ¬ okM a t (m : Int) := fun q => c2 q.2
    unfold dnM at hk
    rw [if_neg h3] at hk
    exact blocks_fin h0 ht hl hm h hk
  ·have h3 : ¬ okM a t (m : Int) := fun q => c (al_eq q.1)
   unfold dnM at hk
   rw [if_neg h3] at hk
   exact blocks_fin h0 ht hl hm h hk
end
theorem blocks_out {t x : Int} (ht : t ≤ 4294967295) : ∀ (n : Nat) (a : Int) (acc : List Bl), 0 ≤ a → (t - a + 1).toNat ≤ n → acc.length + (covF a t).length ≤ 1000000 → (∃ K_, ∀ k, K_ ≤ k → impl_span_blocks.l0 k acc a x t = some (acc ++ covF a t)) := by
 intro n
 induction n with
 | zero =>
  intro a acc h0 hn hl
  rw [covF_end (by omega), List.append_nil]
  refine ev1 ?_
  simp only [impl_span_blocks.l0]
  exact evN (by omega) (evR rfl)
 | succ n ih =>
  intro a acc h0 hn hl
  by_cases c : a ≤ t
  ·have hp := sz_pos (bitsM a t : Int)
   rw [covF_step c] at hl ⊢
   simp only [List.length_cons] at hl
   have := ih (a + sz (bitsM a t : Int)) (acc ++ [⟨a, (bitsM a t : Int)⟩]) (by omega) (by omega) (by simp only [List.length_append, List.length_singleton]; omega)
   rw [List.append_assoc] at this
   refine ev1 ?_
   simp only [impl_span_blocks.l0]
   exact evP c (blocks_in h0 ht (by omega) 32 (by omega) (okM_top c) this)
  ·rw [covF_end (by omega), List.append_nil]
   refine ev1 ?_
   simp only [impl_span_blocks.l0]
   exact evN (by omega) (evR rfl)
theorem impl_blocks {a t : Int} (h0 : 0 ≤ a) (ht : t ≤ 4294967295) : (∃ K_, ∀ k, K_ ≤ k → impl_span_blocks.f k a t = some (covF a t)) := by
 have hl := covF_len h0 ht
 simp only [impl_span_blocks.f]
 exact blocks_out ht _ a [] h0 (Nat.le_refl _) (by simp only [List.length_nil]; omega)
theorem set_loop {C : List P2} (hb : InB C) (hl : C.length ≤ 10000) (d : Nat) : ∀ (n : Nat) (acc : List Bl), n + d = C.length → acc.length + 64 * d ≤ 1000000 → (∃ K_, ∀ k, K_ ≤ k → impl_set.l0 k acc (C.map s6) (C.length : Int) (n : Int) = some (acc ++ coverF (C.drop n))) := by
 induction d with
 | zero =>
  intro n acc hn ha
  refine ev1 ?_
  simp only [impl_set.l0]
  rw [List.drop_eq_nil_of_le (by omega)]
  exact evN (by omega) (evR (by simp [coverF]))
 | succ d ih =>
  intro n acc hn ha
  have hlt : n < C.length := by omega
  have hs := hb _ (List.getElem_mem hlt)
  have h64 : (covF (s6 C[n]).f0 (s6 C[n]).f1).length ≤ 64 := covF_len hs.1 hs.2
  have := ih (n + 1) (acc ++ covF (s6 C[n]).f0 (s6 C[n]).f1) (by omega) (by rw [List.length_append]; omega)
  rw [List.append_assoc] at this
  refine ev1 ?_
  simp only [impl_set.l0]
  rw [rd_s6 C n hlt, List.length_map, up1 (by omega), List.drop_eq_getElem_cons hlt]
  exact evP (by omega) (evP (by omega) (evP (by omega) (evB (impl_blocks hs.1 hs.2) (evP (by omega) this))))
theorem impl_setF {L : List P2} (hf : Full L) (hb : InB L) (hl : L.length ≤ 10000) : (∃ K_, ∀ k, K_ ≤ k → impl_set.f k (L.map s6) = some (coverF (canF L))) := by
 have h1 := canF_len L
 have := set_loop (canF_in hf hb) (by omega) (canF L).length 0 [] (by omega) (by simp only [List.length_nil]; omega)
 rw [List.drop_zero, List.nil_append] at this
 simp only [impl_set.f]
 refine evB (impl_union hf hb (by omega)) ?_
 rw [List.length_map]
 exact this
theorem any_badB (l : List Bl) : anyO impl_blocksOk.bad l = some (l.any fun b => !bokB b.f0 b.f1) := by
 induction l with
 | nil => rfl
 | cons x l ih =>
  simp only [anyO, impl_blocksOk.bad]
  rw [impl_ok, Option.bind_some, Option.bind_some, ih]
  cases h : bokB x.f0 x.f1 <;> simp [h]
theorem impl_blocksOk (l : List Bl) : impl_blocksOk.f l = some (okB l) := by
 unfold impl_blocksOk.f okB
 by_cases c : (l.length : Int) ≤ 64
 ·have c2 : l.length ≤ 64 := by omega
  rw [if_pos c, any_badB, Option.bind_some, decide_eq_true c2, Bool.true_and]
  congr 1
  induction l with
  | nil => rfl
  | cons x l ih =>
   simp only [List.any_cons, List.all_cons]
   rw [← ih (by simp only [List.length_cons] at c; omega) (by simp only [List.length_cons] at c2; omega)]
   cases bokB x.f0 x.f1 <;> simp
 ·have c2 : ¬ l.length ≤ 64 := by omega
  rw [if_neg c, decide_eq_false c2, Bool.false_and]
def limF (l : List Bl) : List Bl × Bool := if l.length > 64 then ([], false) else (l, true)
theorem impl_lim (l : List Bl) : impl_limited.f l = some (limF l) := by
 unfold impl_limited.f limF
 by_cases c : l.length > 64
 ·rw [if_pos c, if_pos (by omega)]
 ·rw [if_neg c, if_neg (by omega)]
theorem first_loop {a t : Int} (h0 : 0 ≤ a) (h : a ≤ t) (ht : t ≤ 4294967295) (d : Nat) : ∀ m : Nat, m + d = bitsM a t → (∃ K_, ∀ k, K_ ≤ k → spec_l2First.l0 k a t (m : Int) = some (a, (bitsM a t : Int))) := by
 obtain ⟨k1, k2, k3⟩ := bitsM_spec h
 induction d with
 | zero =>
  intro m hm
  have e : m = bitsM a t := by omega
  subst e
  have hs := sz_bd (m := (bitsM a t : Int)) (by omega)
  have h2 := k1.2
  refine ev1 ?_
  simp only [spec_l2First.l0]
  refine evB (spec_size (by omega) (by omega)) (evN (by omega) (evP ?_ (evB (spec_size (by omega) (by omega)) (evN ?_ (evR rfl)))))
  ·rw [Int.tmod_eq_emod_of_nonneg h0]; exact k1.1
  ·rw [w64 (n := a + _) (by omega), w64 (by omega)]; omega
 | succ d ih =>
  intro m hm
  have hs := sz_bd (m := (m : Int)) (by omega)
  have h3 := k3 m (by omega)
  have := ih (m + 1) (by omega)
  refine ev1 ?_
  simp only [spec_l2First.l0]
  rw [up1 (by omega)]
  refine evB (spec_size (m := (m : Int)) (by omega) (by omega)) (evN (by omega) (evI (fun c => evB (spec_size (m := (m : Int)) (by omega) (by omega)) (evP ?_ this)) (fun c => this)))
  rw [Int.tmod_eq_emod_of_nonneg h0] at c
  rw [w64 (n := a + _) (by omega), w64 (by omega)]
  have : ¬ (a + sz (m : Int) - 1 ≤ t) := fun q => h3 ⟨c, q⟩
  omega
theorem spec_first {a t : Int} (h0 : 0 ≤ a) (h : a ≤ t) (ht : t ≤ 4294967295) : (∃ K_, ∀ k, K_ ≤ k → spec_l2First.f k a t = some (a, (bitsM a t : Int))) := first_loop h0 h ht (bitsM a t) 0 (by omega)
theorem cov_in {L : List P2} {n : Nat} (hn : n < L.length) (ht : L[n].2 ≤ 4294967295) {R : List Bl} : ∀ (d : Nat) (a : Int) (acc : List Bl), 0 ≤ a → (L[n].2 - a + 1).toNat ≤ d → acc.length + (covF a L[n].2).length ≤ 1000000 →
  (∃ K_, ∀ k, K_ ≤ k → spec_l2Cover.l0 k (L.map s7) (acc ++ covF a L[n].2) ((n + 1 : Nat) : Int) = some R) → n ≤ 100000 → (∃ K_, ∀ k, K_ ≤ k → spec_l2Cover.l1 k (L.map s7) acc (n : Int) a = some R) := by
 intro d
 induction d with
 | zero =>
  intro a acc h0 hd hl hk hnn
  rw [covF_end (by omega), List.append_nil] at hk
  refine ev1 ?_
  simp only [spec_l2Cover.l1]
  rw [rd_s7 L n hn, List.length_map, up1 (by omega)]
  refine evP (by omega) (evP (by omega) (evN ?_ hk))
  show ¬ a ≤ L[n].2
  omega
 | succ d ih =>
  intro a acc h0 hd hl hk hnn
  refine ev1 ?_
  simp only [spec_l2Cover.l1]
  rw [rd_s7 L n hn, List.length_map, up1 (by omega)]
  refine evP (by omega) (evP (by omega) (evI (fun c => ?_) (fun c => ?_)))
  ·have c : a ≤ L[n].2 := c
   obtain ⟨k1, k2, k3⟩ := bitsM_spec c
   have hs := sz_bd (m := (bitsM a L[n].2 : Int)) (by omega)
   have h2 := k1.2
   rw [covF_step c] at hl hk
   simp only [List.length_cons] at hl
   refine evB (spec_first (t := L[n].2) h0 c ht) (evP (by omega) (evB (spec_size (m := (bitsM a L[n].2 : Int)) (by omega) (by omega)) ?_))
   rw [w64 (by omega)]
   refine ih (a + sz (bitsM a L[n].2 : Int)) (acc ++ [⟨a, (bitsM a L[n].2 : Int)⟩]) (by omega) (by omega) (by simp only [List.length_append, List.length_singleton]; omega) ?_ hnn
   rw [List.append_assoc]
   exact hk
  ·have c : ¬ a ≤ L[n].2 := c
   rw [covF_end (by omega), List.append_nil] at hk
   exact hk
theorem cov_out {L : List P2} (hb : InB L) (hl : L.length ≤ 10000) (d : Nat) : ∀ (n : Nat) (acc : List Bl), n + d = L.length → acc.length + 64 * d ≤ 900000 → (∃ K_, ∀ k, K_ ≤ k → spec_l2Cover.l0 k (L.map s7) acc (n : Int) = some (acc ++ coverF (L.drop n))) := by
 induction d with
 | zero =>
  intro n acc hn ha
  refine ev1 ?_
  simp only [spec_l2Cover.l0]
  rw [List.drop_eq_nil_of_le (by omega), List.length_map]
  exact evN (by omega) (evR (by simp [coverF]))
 | succ d ih =>
  intro n acc hn ha
  have hlt : n < L.length := by omega
  have hs := hb _ (List.getElem_mem hlt)
  have h64 := covF_len hs.1 hs.2
  have := ih (n + 1) (acc ++ covF L[n].1 L[n].2) (by omega) (by rw [List.length_append]; omega)
  refine ev1 ?_
  simp only [spec_l2Cover.l0]
  rw [rd_s7 L n hlt, List.length_map, List.drop_eq_getElem_cons hlt]
  refine evP (by omega) (evP (by omega) (cov_in hlt hs.2 _ L[n].1 acc hs.1 (Nat.le_refl _) (by omega) ?_ (by omega)))
  rw [List.append_assoc] at this
  exact this
theorem spec_cover {L : List P2} (hb : InB L) (hl : L.length ≤ 10000) : (∃ K_, ∀ k, K_ ≤ k → spec_l2Cover.f k (L.map s7) = some (coverF L)) := by
 have := cov_out hb hl L.length 0 [] (by omega) (by simp only [List.length_nil]; omega)
 rw [List.drop_zero, List.nil_append] at this
 exact this
theorem spec_room (l : List Bl) : spec_l2Room.f l = some (limF l) := by
 unfold spec_l2Room.f limF
 by_cases c : l.length > 64
 ·rw [if_pos (by omega), if_pos c]
 ·rw [if_neg (by omega), if_neg c]
theorem limF_len (l : List Bl) : (limF l).1.length ≤ 64 := by
 unfold limF
 split
 ·simp
 ·simp only []; omega
/-- Strictly rising. -/
def Rise (l : List Int) : Prop := l.Pairwise (fun a b => a < b)
theorem rise_ext : ∀ {l m : List Int}, Rise l → Rise m → (∀ x, x ∈ l ↔ x ∈ m) → l = m
 | [], [], _, _, _ => rfl
 | [], y :: m, _, _, h => by have := (h y).2 (List.mem_cons_self ..); cases this
 | x :: l, [], _, _, h => by have := (h x).1 (List.mem_cons_self ..); cases this
 | x :: l, y :: m, hl, hm, h => by
  obtain ⟨h1, h2⟩ := List.pairwise_cons.1 hl
  obtain ⟨h3, h4⟩ := List.pairwise_cons.1 hm
  have e : x = y := by
   have a := (h x).1 (List.mem_cons_self ..)
   have b := (h y).2 (List.mem_cons_self ..)
   rcases List.mem_cons.1 a with a | a
   ·exact a
   ·rcases List.mem_cons.1 b with b | b
    ·exact b.symm
    ·have := h1 y b; have := h3 x a; omega
  subst e
  rw [rise_ext h2 h4 (fun z => ?_)]
  constructor
  ·intro hz
   rcases List.mem_cons.1 ((h z).1 (List.mem_cons_of_mem _ hz)) with e | e
   ·have := h1 z hz; omega
   ·exact e
  ·intro hz
   rcases List.mem_cons.1 ((h z).2 (List.mem_cons_of_mem _ hz)) with e | e
   ·have := h3 z hz; omega
   ·exact e
/-- A number put among others. -/
def numF : List Int → Int → List Int
 | [], n => [n]
 | x :: l, n => if x < n then x :: numF l n else if x = n then x :: l else n :: x :: l
theorem mem_numF {n y : Int} : ∀ {l : List Int}, y ∈ numF l n ↔ y = n ∨ y ∈ l
 | [] => by simp [numF]
 | x :: l => by
  unfold numF
  split
  ·simp only [List.mem_cons, mem_numF (l := l)]
   constructor
   ·rintro (h | h | h) <;> simp [h]
   ·rintro (h | h | h) <;> simp [h]
  ·split
   ·rename_i e
    subst e
    simp
   ·simp
theorem rise_numF {n : Int} : ∀ {l : List Int}, Rise l → Rise (numF l n)
 | [], _ => List.pairwise_cons.2 ⟨by simp, List.Pairwise.nil⟩
 | x :: l, h => by
  obtain ⟨h1, h2⟩ := List.pairwise_cons.1 h
  unfold numF
  split
  ·refine List.pairwise_cons.2 ⟨fun z hz => ?_, rise_numF h2⟩
   rcases mem_numF.1 hz with e | e
   ·rw [e]; assumption
   ·exact h1 z e
  ·split
   ·exact h
   ·refine List.pairwise_cons.2 ⟨fun z hz => ?_, h⟩
    rcases List.mem_cons.1 hz with e | e
    ·omega
    ·have := h1 z e; omega
/-- Numbers, each put among those ahead of it. -/
def numsF (l ns : List Int) : List Int := ns.foldl numF l
theorem rise_numsF : ∀ {ns l : List Int}, Rise l → Rise (numsF l ns)
 | [], _, h => h
 | _ :: ns, _, h => rise_numsF (ns := ns) (rise_numF h)
theorem mem_numsF {y : Int} : ∀ {ns l : List Int}, y ∈ numsF l ns ↔ y ∈ l ∨ y ∈ ns
 | [], l => by simp [numsF]
 | n :: ns, l => by
  show y ∈ numsF (numF l n) ns ↔ _
  rw [mem_numsF, mem_numF]
  simp only [List.mem_cons]
  constructor
  ·rintro ((h | h) | h) <;> simp [h]
  ·rintro (h | h | h) <;> simp [h]
theorem rise_one (n : Int) : Rise [n] := List.pairwise_cons.2 ⟨by simp, List.Pairwise.nil⟩
/-- Sorted, each once. -/
def dedF : List Int → List Int
 | [] => []
 | [x] => [x]
 | x :: y :: l => if x = y then dedF (y :: l) else x :: dedF (y :: l)
theorem mem_ded {z : Int} : ∀ {l : List Int}, z ∈ dedF l ↔ z ∈ l
 | [] => by simp [dedF]
 | [x] => by simp [dedF]
 | x :: y :: l => by
  unfold dedF
  split
  ·rename_i e
   subst e
   rw [mem_ded]
   simp
  ·simp only [List.mem_cons, mem_ded (l := y :: l)]
theorem rise_ded : ∀ {l : List Int}, l.Pairwise (fun a b => a ≤ b) → Rise (dedF l)
 | [], _ => List.Pairwise.nil
 | [x], _ => rise_one x
 | x :: y :: l, h => by
  obtain ⟨h1, h2⟩ := List.pairwise_cons.1 h
  have ih := rise_ded h2
  unfold dedF
  split
  ·exact ih
  ·rename_i e
   refine List.pairwise_cons.2 ⟨fun z hz => ?_, ih⟩
   have hz' := mem_ded.1 hz
   have a := h1 y (List.mem_cons_self ..)
   rcases List.mem_cons.1 hz' with e2 | e2
   ·omega
   ·have := (List.pairwise_cons.1 h2).1 z e2
    omega
/-- Sorting, and each once, is putting one by one. -/
def sortF (l : List Int) : List Int := l.mergeSort fun x y => decide (x ≤ y)
theorem sortF_le (l : List Int) : (sortF l).Pairwise (fun a b => a ≤ b) := by
 have := List.pairwise_mergeSort (le := fun x y : Int => decide (x ≤ y)) (fun a b c h1 h2 => by simp only [decide_eq_true_eq] at *; omega) (fun a b => by simp only [Bool.or_eq_true, decide_eq_true_eq]; omega) l
 exact this.imp (fun h => by simpa using h)
theorem mem_sortF {l : List Int} {x : Int} : x ∈ sortF l ↔ x ∈ l := by unfold sortF; exact List.mem_mergeSort
theorem ded_sort {l m : List Int} (hm : Rise m) (h : ∀ x, x ∈ m ↔ x ∈ l) : dedF (sortF l) = m :=
 rise_ext (rise_ded (sortF_le l)) hm (fun x => by rw [mem_ded, mem_sortF, h])
def tailC (x : Int) (t : List Int) : List Int := ((List.range t.length).filter (fun j => decide ((x :: t)[j + 1]! ≠ (x :: t)[j]!))).map (fun j => (x :: t)[j + 1]!)
theorem tailC_cons (x y : Int) (l : List Int) : tailC x (y :: l) = (if y ≠ x then [y] else []) ++ tailC y l := by
 unfold tailC
 rw [List.length_cons, List.range_succ_eq_map, List.filter_cons, List.filter_map]
 by_cases e : y = x <;> simp [e, Function.comp_def]
theorem ded_tail : ∀ (x : Int) (t : List Int), dedF (x :: t) = x :: tailC x t
 | x, [] => rfl
 | x, y :: l => by
  unfold dedF
  rw [tailC_cons, ded_tail y l]
  by_cases e : x = y
  ·subst e; simp
  ·rw [if_neg e, if_pos (Ne.symm e)]; rfl
theorem compact_ded : ∀ l : List Int, Lib.compact l = dedF l
 | [] => rfl
 | x :: t => by
  rw [ded_tail]
  unfold Lib.compact Lib.compactUpTo tailC
  rw [List.length_cons, List.range_succ_eq_map, List.filter_cons]
  have h0 : Lib.keeps (x :: t).toArray 0 = true := by simp [Lib.keeps]
  have hs : ∀ j, Lib.keeps (x :: t).toArray (j + 1) = decide ((x :: t)[j + 1]! ≠ (x :: t)[j]!) := fun j => by simp [Lib.keeps]
  rw [h0, if_pos rfl, List.filter_map, List.map_cons, List.map_map]
  simp only [Function.comp_def, Nat.succ_eq_add_one, hs]
  simp
theorem numF_len (l : List Int) (n : Int) : (numF l n).length ≤ l.length + 1 := by
 induction l with
 | nil => simp [numF]
 | cons x l ih =>
  unfold numF
  split
  ·simp only [List.length_cons]; omega
  ·split
   ·simp only [List.length_cons]; omega
   ·simp only [List.length_cons]; omega
theorem rd_num (l : List Int) (n : Nat) (h : n < l.length) : rd l (n : Int) = l[n] := by
 unfold rd
 rw [List.getD_eq_getElem?_getD, Int.toNat_natCast, List.getElem?_eq_getElem h]
 rfl
theorem spec_num_loop (l : List Int) (v : Int) (hl : l.length ≤ 1000000000) (d : Nat) : ∀ n : Nat, n + d = l.length → (∃ K_, ∀ k, K_ ≤ k → spec_l3Num.l0 k l v (n : Int) = some (l.take n ++ numF (l.drop n) v)) := by
 induction d with
 | zero =>
  intro n hn
  refine ev1 ?_
  simp only [spec_l3Num.l0]
  have e : l.take n = l := List.take_of_length_le (by omega)
  have e2 : l.drop n = [] := List.drop_eq_nil_of_le (by omega)
  refine evN (by omega) (evS rfl (evP (by omega) (evP (by omega) ?_)))
  rw [Int.toNat_natCast, e, e2]
  refine evS rfl (evP (by simp; omega) (evS rfl (evS rfl (evP (by simp; omega) (evS rfl (evS rfl (evP (by simp; omega) (evR ?_))))))))
  simp [numF]
 | succ d ih =>
  intro n hn
  have hlt : n < l.length := by omega
  have hw : wrap64 ((n : Int) + 1) = ((n + 1 : Nat) : Int) := by rw [w64 (by omega)]; omega
  refine ev1 ?_
  simp only [spec_l3Num.l0]
  refine evP (by omega) (evP (by omega) ?_)
  rw [rd_num l n hlt, hw, List.drop_eq_getElem_cons hlt]
  refine evI (fun c => ?_) (fun c => ?_)
  ·have h := ih (n + 1) (by omega)
   rw [List.take_succ_eq_append_getElem hlt] at h
   simp only [numF, if_pos c]
   rw [List.append_assoc] at h
   exact h
  ·refine evI (fun c2 => ?_) (fun c2 => ?_)
   ·refine evR ?_
    simp only [numF, if_neg c, if_pos c2]
    rw [← List.drop_eq_getElem_cons hlt, List.take_append_drop]
   ·refine evS rfl (evP (by omega) ?_)
    rw [Int.toNat_natCast]
    refine evS rfl (evP (by simp; omega) (evS rfl (evS rfl (evP (by simp; omega) (evS rfl (evS rfl (evP (by simp; omega) (evR ?_))))))))
    simp only [numF, if_neg c, if_neg c2]
    rw [← List.drop_eq_getElem_cons hlt]
    simp
theorem spec_num (l : List Int) (v : Int) (hl : l.length ≤ 1000000000) : (∃ K_, ∀ k, K_ ≤ k → spec_l3Num.f k l v = some (numF l v)) := spec_num_loop l v hl l.length 0 (by omega)
/-- Where something may change about a block: where it begins, and behind its end. -/
def edgeB (b m : Int) : List Int := if b + sz m ≤ 4294967295 then [b, b + sz m] else [b]
theorem edgeB_len (b m : Int) : (edgeB b m).length ≤ 2 := by unfold edgeB; split <;> simp
theorem mem_edgeB {b m x : Int} : x ∈ edgeB b m ↔ x = b ∨ b + sz m ≤ 4294967295 ∧ x = b + sz m := by
 unfold edgeB
 split
 ·rename_i c; simp [c]
 ·rename_i c; simp [c]
theorem edgeB_in {b m x : Int} (h : bok b m) (hx : x ∈ edgeB b m) : 0 ≤ x ∧ x ≤ 4294967295 := by
 have := sz_pos m
 obtain ⟨h0, h1, _⟩ := h
 rcases mem_edgeB.1 hx with e | ⟨e, e2⟩ <;> omega
def edgesF (bs : List S40) : List Int := numsF [0] (bs.flatMap fun b => edgeB b.f0 b.f1)
theorem rise_edgesF (bs : List S40) : Rise (edgesF bs) := rise_numsF (rise_one 0)
theorem mem_edgesF {bs : List S40} {x : Int} : x ∈ edgesF bs ↔ x = 0 ∨ ∃ b ∈ bs, x ∈ edgeB b.f0 b.f1 := by
 unfold edgesF
 rw [mem_numsF, List.mem_flatMap, List.mem_singleton]
theorem edges_in {bs : List S40} (h : ∀ b ∈ bs, bok b.f0 b.f1) {x : Int} (hx : x ∈ edgesF bs) : 0 ≤ x ∧ x ≤ 4294967295 := by
 rcases mem_edgesF.1 hx with e | ⟨b, hb, e⟩
 ·omega
 ·exact edgeB_in (h b hb) e
theorem rd_bk (l : List S40) (n : Nat) (h : n < l.length) : rd_T40 l (n : Int) = l[n] := by
 unfold rd_T40
 rw [List.getD_eq_getElem?_getD, Int.toNat_natCast, List.getElem?_eq_getElem h]
 rfl
theorem sort_ded (l : List Int) (h0 : 0 < l.length) (h1 : l.length ≤ 1000000000) : ((slices_Sort_int.f l).bind fun t => (slices_Compact_int.f t).bind fun t => some t) = some (dedF (sortF l)) := by
 have hl : (sortF l).length = l.length := by unfold sortF; exact List.length_mergeSort _
 unfold slices_Sort_int.f
 rw [if_pos (by omega), if_pos (by omega), Option.bind_some]
 show ((slices_Compact_int.f (sortF l)).bind fun t => some t) = _
 unfold slices_Compact_int.f
 rw [if_pos (by omega), Option.bind_some, compact_ded]
theorem impl_bounds_loop (l : List S40) (hv : ∀ b ∈ l, bok b.f0 b.f1) (hl : l.length ≤ 100000000) (d : Nat) : ∀ (n : Nat) (acc : List Int), n + d = l.length → 0 < acc.length → acc.length + 2 * d ≤ 300000000 → (∃ K_, ∀ k, K_ ≤ k → impl_bounds.l0 k acc l (l.length : Int) (n : Int) = some (dedF (sortF (acc ++ (l.drop n).flatMap fun b => edgeB b.f0 b.f1)))) := by
 induction d with
 | zero =>
  intro n acc hn h0 ha
  refine ev1 ?_
  simp only [impl_bounds.l0]
  rw [List.drop_eq_nil_of_le (by omega), List.flatMap_nil, List.append_nil]
  exact evN (by omega) ⟨0, fun k _ => sort_ded acc h0 (by omega)⟩
 | succ d ih =>
  intro n acc hn h0 ha
  have hlt : n < l.length := by omega
  have hw : wrap64 ((n : Int) + 1) = ((n + 1 : Nat) : Int) := by rw [w64 (by omega)]; omega
  have hb := hv l[n] (List.getElem_mem hlt)
  have hs := sz_bd hb.2.2.1
  have hla := impl_last hb.1 (by have := hb.2.1; omega) hb.2.2.1 hb.2.2.2.1
  have hb2 := hb.2.1
  have hb1 := hb.1
  refine ev1 ?_
  simp only [impl_bounds.l0]
  rw [rd_bk l n hlt, hw, List.drop_eq_getElem_cons hlt, List.flatMap_cons]
  refine evP (by omega) (evP (by omega) (evP (by omega) (evP (by omega) (evS rfl (evS hla (evI (fun c => ?_) (fun c => ?_)))))))
  ·have e : wrap64 (l[n].f0 + sz l[n].f1 - 1 + 1) = l[n].f0 + sz l[n].f1 := by rw [w64 (by omega)]; omega
   have h := ih (n + 1) (acc ++ [l[n].f0] ++ [l[n].f0 + sz l[n].f1]) (by omega) (by simp) (by simp; omega)
   refine evS hla (evP (by simp; omega) ?_)
   rw [e]
   unfold edgeB
   rw [if_pos (by omega)]
   rw [List.append_assoc, List.append_assoc] at h
   rw [List.append_assoc]
   exact h
  ·have h := ih (n + 1) (acc ++ [l[n].f0]) (by omega) (by simp) (by simp; omega)
   unfold edgeB
   rw [if_neg (by omega)]
   rw [List.append_assoc] at h
   exact h
theorem impl_bounds (l : List S40) (hv : ∀ b ∈ l, bok b.f0 b.f1) (hl : l.length ≤ 100000000) : (∃ K_, ∀ k, K_ ≤ k → impl_bounds.f k l = some (edgesF l)) := by
 have h := impl_bounds_loop l hv hl l.length 0 [0] (by omega) (by simp) (by simp; omega)
 have e : dedF (sortF ([0] ++ (l.drop 0).flatMap fun b => edgeB b.f0 b.f1)) = edgesF l := ded_sort (rise_edgesF l) (fun x => by rw [edgesF, mem_numsF, List.drop_zero, List.mem_append])
 rw [e] at h
 exact h
abbrev Wy := S95
theorem drop_cons {α : Type} {l : List α} {n : Nat} (h : n < l.length) : l.drop n = l[n] :: l.drop (n + 1) := List.drop_eq_getElem_cons h
theorem rd_way (l : List Wy) (n : Nat) (h : n < l.length) : rd_T95 l (n : Int) = l[n] := by
 unfold rd_T95
 rw [List.getD_eq_getElem?_getD, Int.toNat_natCast, List.getElem?_eq_getElem h]
 rfl
/-- The block of a way comes ahead of another one's. -/
def ltB (a b : S40) : Bool := decide (a.f0 < b.f0 ∨ a.f0 = b.f0 ∧ a.f1 < b.f1)
/-- Is it a hop? -/
def hopB (x : Int) : Bool := decide (0 ≤ x ∧ x ≤ 99)
def wayB (w : Wy) : Bool := bokB w.f0.f0 w.f0.f1 && hopB w.f1
/-- Each way is valid, and ahead of the next one; 'p': the one before. -/
def chainB : Option Wy → List Wy → Bool
 | _, [] => true
 | none, w :: l => wayB w && chainB (some w) l
 | some p, w :: l => wayB w && (ltB p.f0 w.f0 && chainB (some w) l)
def wokB (l : List Wy) : Bool := chainB none l && decide (l.length ≤ 40)
/-- The way ahead of place n. -/
def prevW (l : List Wy) (n : Nat) : Option Wy := match n with | 0 => none | m + 1 => l[m]?
theorem isnan (a : Int) : cmp_isNaN_int.f a = some false := by simp [cmp_isNaN_int.f]
/-- How two numbers stand to each other. -/
def cmpI (a b : Int) : Int := if a < b then -1 else if a > b then 1 else 0
theorem cmp_int (a b : Int) : cmp_Compare_int.f a b = some (cmpI a b) := by
 unfold cmp_Compare_int.f cmpI
 rw [isnan, Option.bind_some, isnan, Option.bind_some]
 simp only [Bool.false_eq_true, if_false]
 split
 ·rfl
 ·split <;> rfl
theorem or_two (a b : Int) : (∃ K_, ∀ k, K_ ≤ k → cmp_Or_int.f k [a, b] = some (if a = 0 then b else a)) := by
 refine ⟨3, fun k hk => ?_⟩
 obtain ⟨k, rfl⟩ : ∃ j, k = j + 3 := ⟨k - 3, by omega⟩
 have e : (([a, b] : List Int).length : Int) = 2 := rfl
 have e0 : wrap64 (0 + 1) = 1 := w64 (by omega)
 have e1 : wrap64 (1 + 1) = 2 := w64 (by omega)
 have r0 : rd [a, b] 0 = a := rfl
 have r1 : rd [a, b] 1 = b := rfl
 simp only [cmp_Or_int.f]
 rw [cmp_Or_int.l0, e, if_pos (by omega), if_pos (by omega), if_pos (by omega), r0]
 by_cases h0 : a = 0
 ·rw [if_pos h0, if_pos h0, e0, cmp_Or_int.l0, e, if_pos (by omega), if_pos (by omega), if_pos (by omega), r1]
  by_cases h1 : b = 0
  ·rw [if_pos h1, e1, cmp_Or_int.l0, if_neg (by omega), h1]
  ·rw [if_neg h1]
 ·rw [if_neg h0, if_neg h0]
theorem by_block (a b : S40) : ∃ v, (∃ K_, ∀ k, K_ ≤ k → impl_byBlock.f k a.f0 a.f1 b.f0 b.f1 = some v) ∧ (v ≥ 0 ↔ ltB a b = false) ∧ (v = 0 ↔ a.f0 = b.f0 ∧ a.f1 = b.f1) ∧ -1 ≤ v ∧ v ≤ 1 := by
 obtain ⟨K, h⟩ := or_two (cmpI a.f0 b.f0) (cmpI a.f1 b.f1)
 refine ⟨if cmpI a.f0 b.f0 = 0 then cmpI a.f1 b.f1 else cmpI a.f0 b.f0, ⟨K, fun k hk => ?_⟩, ?_⟩
 ·simp only [impl_byBlock.f]
  rw [cmp_int, Option.bind_some, cmp_int, Option.bind_some, h k hk, Option.bind_some]
 ·have e : ltB a b = false ↔ ¬ (a.f0 < b.f0 ∨ a.f0 = b.f0 ∧ a.f1 < b.f1) := by simp only [ltB, decide_eq_false_iff_not]
  rw [e]
  unfold cmpI
  repeat' split
  all_goals omega
theorem cmp_block {a b : S40} (ha : bok a.f0 a.f1) (hb : bok b.f0 b.f1) : ∃ v, spec_l3Cmp.f a.f0 a.f1 b.f0 b.f1 = some v ∧ (v ≥ 0 ↔ ltB a b = false) ∧ (v < 0 ↔ ltB a b = true) := by
 obtain ⟨a0, a1, a2, a3, _⟩ := ha
 obtain ⟨b0, b1, b2, b3, _⟩ := hb
 have e : ltB a b = false ↔ ¬ (a.f0 < b.f0 ∨ a.f0 = b.f0 ∧ a.f1 < b.f1) := by simp only [ltB, decide_eq_false_iff_not]
 have e' : ltB a b = true ↔ (a.f0 < b.f0 ∨ a.f0 = b.f0 ∧ a.f1 < b.f1) := by simp only [ltB, decide_eq_true_eq]
 unfold spec_l3Cmp.f
 rw [e, e']
 by_cases c : a.f0 = b.f0
 ·rw [if_pos c, w64 (by omega)]
  exact ⟨_, rfl, by omega, by omega⟩
 ·rw [if_neg c, w64 (by omega)]
  exact ⟨_, rfl, by omega, by omega⟩
theorem prevW_succ {l : List Wy} {n : Nat} (h : n < l.length) : prevW l (n + 1) = some l[n] := by simp [prevW, h]
/-- What the loops of WaysOk answer, from place n on, all ways ahead being valid. -/
theorem impl_waysOk_loop (l : List Wy) (hl : l.length ≤ 1099511627776) (d : Nat) : ∀ n : Nat, n + d = l.length → (∃ K_, ∀ k, K_ ≤ k → impl_WaysOk.l0 k l l (l.length : Int) (n : Int) = some (chainB (prevW l n) (l.drop n) && decide (l.length ≤ 40))) := by
 induction d with
 | zero =>
  intro n hn
  refine ⟨1, fun k hk => ?_⟩
  obtain ⟨k, rfl⟩ : ∃ j, k = j + 1 := ⟨k - 1, by omega⟩
  simp only [impl_WaysOk.l0]
  rw [if_neg (by omega), List.drop_eq_nil_of_le (by omega)]
  have : decide ((l.length : Int) ≤ 40) = decide (l.length ≤ 40) := by rw [decide_eq_decide]; omega
  rw [this]
  cases prevW l n <;> rfl
 | succ d ih =>
  intro n hn
  have hlt : n < l.length := by omega
  obtain ⟨K1, e1⟩ := ih (n + 1) (by omega)
  rw [prevW_succ hlt] at e1
  have hw : wrap64 ((n : Int) + 1) = ((n + 1 : Nat) : Int) := by rw [w64 (by omega)]; omega
  rw [drop_cons hlt]
  have hin : ∀ x : Int, impl_in.f x 0 99 = some (hopB x) := fun x => impl_in x 0 99
  cases n with
  | zero =>
   refine ⟨K1 + 1, fun k hk => ?_⟩
   obtain ⟨k, rfl⟩ : ∃ j, k = j + 1 := ⟨k - 1, by omega⟩
   have e1 := e1 k (by omega)
   simp only [impl_WaysOk.l0, prevW, chainB]
   rw [if_pos (by omega), if_pos (by omega), if_pos (by omega), rd_way l 0 hlt, impl_ok, Option.bind_some, hin, Option.bind_some, hw, e1]
   cases hx : bokB l[0].f0.f0 l[0].f0.f1 with
   | false => simp [wayB, hx]
   | true =>
    cases hy : hopB l[0].f1 with
    | true =>
     rw [if_pos rfl, if_pos rfl, if_neg (by omega)]
     simp [wayB, hx, hy]
    | false => simp [wayB, hx, hy]
  | succ m =>
   have hm : m < l.length := by omega
   have hw2 : wrap64 (((m + 1 : Nat) : Int) - 1) = (m : Int) := by rw [w64 (by omega)]; omega
   obtain ⟨v, ⟨K2, e2⟩, v1, _⟩ := by_block l[m].f0 l[m + 1].f0
   refine ⟨K1 + K2 + 1, fun k hk => ?_⟩
   obtain ⟨k, rfl⟩ : ∃ j, k = j + 1 := ⟨k - 1, by omega⟩
   have e1 := e1 k (by omega)
   have e2 := e2 k (by omega)
   simp only [impl_WaysOk.l0]
   rw [prevW_succ hm]
   simp only [chainB]
   rw [if_pos (by omega), if_pos (by omega), if_pos (by omega), rd_way l (m + 1) hlt, impl_ok, Option.bind_some, hin, Option.bind_some, hw, e1]
   cases hx : bokB l[m + 1].f0.f0 l[m + 1].f0.f1 with
   | false => simp [wayB, hx]
   | true =>
    cases hy : hopB l[m + 1].f1 with
    | true =>
     rw [if_pos rfl, if_pos rfl, if_pos (by omega), hw2, if_pos (by omega), if_pos (by omega), rd_way l m hm, e2, Option.bind_some]
     cases q : ltB l[m].f0 l[m + 1].f0 with
     | false =>
      rw [if_pos (v1.2 q)]
      simp
     | true =>
      rw [if_neg (fun h => by rw [v1.1 h] at q; cases q)]
      simp [wayB, hx, hy]
    | false => simp [wayB, hx, hy]
theorem impl_waysOk (l : List Wy) (hl : l.length ≤ 1099511627776) : (∃ K_, ∀ k, K_ ≤ k → impl_WaysOk.f k l = some (wokB l)) := impl_waysOk_loop l hl l.length 0 (by omega)
theorem spec_waysOk_loop (l : List Wy) (hl : l.length ≤ 1099511627776) (d : Nat) : ∀ n : Nat, n + d = l.length → (∀ m (h : m < n), m < l.length → ∀ p, l[m]? = some p → bok p.f0.f0 p.f0.f1) → (∃ K_, ∀ k, K_ ≤ k → spec_WaysOk.l0 k l (n : Int) = some (chainB (prevW l n) (l.drop n) && decide (l.length ≤ 40))) := by
 induction d with
 | zero =>
  intro n hn _
  refine ⟨1, fun k hk => ?_⟩
  obtain ⟨k, rfl⟩ : ∃ j, k = j + 1 := ⟨k - 1, by omega⟩
  simp only [spec_WaysOk.l0]
  rw [if_neg (by omega), List.drop_eq_nil_of_le (by omega)]
  have : decide ((l.length : Int) ≤ 40) = decide (l.length ≤ 40) := by rw [decide_eq_decide]; omega
  rw [this]
  cases prevW l n <;> rfl
 | succ d ih =>
  intro n hn hv
  have hlt : n < l.length := by omega
  have hw : wrap64 ((n : Int) + 1) = ((n + 1 : Nat) : Int) := by rw [w64 (by omega)]; omega
  obtain ⟨K3, e3⟩ := spec_ok l[n].f0.f0 l[n].f0.f1
  rw [drop_cons hlt]
  have hin : ∀ x : Int, spec_l1In.f x 0 99 = some (hopB x) := fun x => spec_in x 0 99
  cases hb : bokB l[n].f0.f0 l[n].f0.f1 with
  | false =>
   refine ⟨K3 + 1, fun k hk => ?_⟩
   obtain ⟨k, rfl⟩ : ∃ j, k = j + 1 := ⟨k - 1, by omega⟩
   simp only [spec_WaysOk.l0]
   rw [if_pos (by omega), if_pos (by omega), rd_way l n hlt, e3 k (by omega), Option.bind_some, hb]
   cases prevW l n <;> simp [chainB, wayB, hb]
  | true =>
   obtain ⟨K1, e1⟩ := ih (n + 1) (by omega) (fun m h1 h2 p hp => by
    by_cases e : m = n
    ·subst e
     rw [List.getElem?_eq_getElem hlt] at hp
     cases hp
     exact bokB_true.1 hb
    ·exact hv m (by omega) h2 p hp)
   rw [prevW_succ hlt] at e1
   cases n with
   | zero =>
    refine ⟨K1 + K3 + 1, fun k hk => ?_⟩
    obtain ⟨k, rfl⟩ : ∃ j, k = j + 1 := ⟨k - 1, by omega⟩
    have e1 := e1 k (by omega)
    simp only [spec_WaysOk.l0, prevW, chainB, wayB]
    rw [if_pos (by omega), if_pos (by omega), rd_way l 0 hlt, e3 k (by omega), Option.bind_some, hin, Option.bind_some, hw, e1, hb]
    cases hy : hopB l[0].f1 with
    | true =>
     rw [if_pos rfl, if_pos rfl, if_neg (by omega)]
     simp [hy]
    | false => simp [hy]
   | succ m =>
    have hm : m < l.length := by omega
    have hw2 : wrap64 (((m + 1 : Nat) : Int) - 1) = (m : Int) := by rw [w64 (by omega)]; omega
    obtain ⟨v, e2, v1, _⟩ := cmp_block (hv m (by omega) hm l[m] (List.getElem?_eq_getElem hm)) (bokB_true.1 hb)
    refine ⟨K1 + K3 + 1, fun k hk => ?_⟩
    obtain ⟨k, rfl⟩ : ∃ j, k = j + 1 := ⟨k - 1, by omega⟩
    have e1 := e1 k (by omega)
    simp only [spec_WaysOk.l0]
    rw [prevW_succ hm]
    simp only [chainB, wayB]
    rw [if_pos (by omega), if_pos (by omega), rd_way l (m + 1) hlt, e3 k (by omega), Option.bind_some, hin, Option.bind_some, hw, e1, hb]
    cases hy : hopB l[m + 1].f1 with
    | true =>
     rw [if_pos rfl, if_pos rfl, if_pos (by omega), hw2, if_pos (by omega), if_pos (by omega), rd_way l m hm, e2, Option.bind_some]
     cases q : ltB l[m].f0 l[m + 1].f0 with
     | false =>
      rw [if_pos (v1.2 q)]
      simp
     | true =>
      rw [if_neg (fun h => by rw [v1.1 h] at q; cases q)]
      simp [hy]
    | false => simp [hy]
theorem spec_waysOk (l : List Wy) (hl : l.length ≤ 1099511627776) : (∃ K_, ∀ k, K_ ≤ k → spec_WaysOk.f k l = some (wokB l)) := spec_waysOk_loop l hl l.length 0 (by omega) (fun m h => absurd h (by omega))
theorem chainB_valid {l : List Wy} : ∀ {p : Option Wy}, chainB p l = true → ∀ w ∈ l, wayB w = true := by
 induction l with
 | nil => intro p _ w hw; cases hw
 | cons x l ih =>
  intro p h w hw
  have h' : wayB x = true ∧ chainB (some x) l = true := by
   cases p <;> simp only [chainB, Bool.and_eq_true] at h
   ·exact h
   ·exact ⟨h.1, h.2.2⟩
  rcases List.mem_cons.1 hw with rfl | hw
  ·exact h'.1
  ·exact ih h'.2 w hw
theorem wokB_valid {l : List Wy} (h : wokB l = true) : ∀ w ∈ l, bok w.f0.f0 w.f0.f1 ∧ 0 ≤ w.f1 ∧ w.f1 ≤ 99 := by
 intro w hw
 simp only [wokB, Bool.and_eq_true] at h
 have := chainB_valid h.1 w hw
 simp only [wayB, hopB, Bool.and_eq_true, bokB_true, decide_eq_true_eq] at this
 exact ⟨this.1, this.2⟩
theorem wokB_len {l : List Wy} (h : wokB l = true) : l.length ≤ 40 := by
 simp only [wokB, Bool.and_eq_true, decide_eq_true_eq] at h
 exact h.2
/-- The hop to which an address leads, of what is left; the best till here. -/
def leadGo (a : Int) : List Wy → Int → Int → Int
 | [], hop, _ => hop
 | w :: l, hop, bits => if hasB w.f0.f0 w.f0.f1 a = true ∧ w.f0.f1 > bits then leadGo a l w.f1 w.f0.f1 else leadGo a l hop bits
def leadF (l : List Wy) (a : Int) : Int := leadGo a l (-1) (-1)
theorem impl_lead_loop (l : List Wy) (a : Int) (hv : ∀ w ∈ l, bok w.f0.f0 w.f0.f1) (hl : l.length ≤ 1099511627776) (d : Nat) : ∀ (n : Nat) (x y z : Int), n + d = l.length → (∃ K_, ∀ k, K_ ≤ k → impl_lead.l0 k a l (l.length : Int) (n : Int) x y z = some (leadGo a (l.drop n) z y)) := by
 induction d with
 | zero =>
  intro n x y z hn
  refine ⟨1, fun k hk => ?_⟩
  obtain ⟨k, rfl⟩ : ∃ j, k = j + 1 := ⟨k - 1, by omega⟩
  simp only [impl_lead.l0]
  rw [if_neg (by omega), List.drop_eq_nil_of_le (by omega)]
  rfl
 | succ d ih =>
  intro n x y z hn
  have hlt : n < l.length := by omega
  have hw : wrap64 ((n : Int) + 1) = ((n + 1 : Nat) : Int) := by rw [w64 (by omega)]; omega
  have hb := hv l[n] (List.getElem_mem hlt)
  obtain ⟨K1, e1⟩ := ih (n + 1) x y z (by omega)
  obtain ⟨K2, e2⟩ := ih (n + 1) l[n].f0.f0 l[n].f0.f1 l[n].f1 (by omega)
  refine ⟨K1 + K2 + 1, fun k hk => ?_⟩
  obtain ⟨k, rfl⟩ : ∃ j, k = j + 1 := ⟨k - 1, by omega⟩
  have e1 := e1 k (by omega)
  have e2 := e2 k (by omega)
  simp only [impl_lead.l0]
  rw [drop_cons hlt, if_pos (by omega), if_pos (by omega), if_pos (by omega), rd_way l n hlt, impl_has a hb.1 (by have := hb.2.1; omega) hb.2.2.1 hb.2.2.2.1, Option.bind_some, hw, e1, e2]
  simp only [leadGo]
  cases hasB l[n].f0.f0 l[n].f0.f1 a with
  | false => simp
  | true =>
   by_cases c : l[n].f0.f1 > y
   ·simp [c]
   ·simp [c]
theorem impl_lead (l : List Wy) (a : Int) (hv : ∀ w ∈ l, bok w.f0.f0 w.f0.f1) (hl : l.length ≤ 1099511627776) : (∃ K_, ∀ k, K_ ≤ k → impl_lead.f k l a = some (leadF l a)) := impl_lead_loop l a hv hl l.length 0 0 (-1) (-1) (by omega)
theorem spec_lead_loop (l : List Wy) (a : Int) (hv : ∀ w ∈ l, bok w.f0.f0 w.f0.f1) (hl : l.length ≤ 1099511627776) (d : Nat) : ∀ (n : Nat) (y z : Int), n + d = l.length → (∃ K_, ∀ k, K_ ≤ k → spec_l3Lead.l0 k l a z y (n : Int) = some (leadGo a (l.drop n) z y)) := by
 induction d with
 | zero =>
  intro n y z hn
  refine ⟨1, fun k hk => ?_⟩
  obtain ⟨k, rfl⟩ : ∃ j, k = j + 1 := ⟨k - 1, by omega⟩
  simp only [spec_l3Lead.l0]
  rw [if_neg (by omega), List.drop_eq_nil_of_le (by omega)]
  rfl
 | succ d ih =>
  intro n y z hn
  have hlt : n < l.length := by omega
  have hw : wrap64 ((n : Int) + 1) = ((n + 1 : Nat) : Int) := by rw [w64 (by omega)]; omega
  have hb := hv l[n] (List.getElem_mem hlt)
  obtain ⟨K1, e1⟩ := ih (n + 1) y z (by omega)
  obtain ⟨K2, e2⟩ := ih (n + 1) l[n].f0.f1 l[n].f1 (by omega)
  obtain ⟨K3, e3⟩ := spec_last (b := l[n].f0.f0) (m := l[n].f0.f1) (by have := hb.1; omega) (by have := hb.2.1; omega) hb.2.2.1 hb.2.2.2.1
  refine ⟨K1 + K2 + K3 + 1, fun k hk => ?_⟩
  obtain ⟨k, rfl⟩ : ∃ j, k = j + 1 := ⟨k - 1, by omega⟩
  have e1 := e1 k (by omega)
  have e2 := e2 k (by omega)
  simp only [spec_l3Lead.l0]
  rw [drop_cons hlt, if_pos (by omega), if_pos (by omega), rd_way l n hlt, e3 k (by omega), Option.bind_some, spec_in, Option.bind_some, hw, e1, e2]
  simp only [leadGo]
  have hh : hasB l[n].f0.f0 l[n].f0.f1 a = decide (l[n].f0.f0 ≤ a ∧ a ≤ l[n].f0.f0 + sz l[n].f0.f1 - 1) := rfl
  rw [← hh]
  cases hasB l[n].f0.f0 l[n].f0.f1 a with
  | false => simp
  | true =>
   by_cases c : l[n].f0.f1 > y
   ·simp [c]
   ·simp [c]
theorem spec_lead (l : List Wy) (a : Int) (hv : ∀ w ∈ l, bok w.f0.f0 w.f0.f1) (hl : l.length ≤ 1099511627776) : (∃ K_, ∀ k, K_ ≤ k → spec_l3Lead.f k l a = some (leadF l a)) := spec_lead_loop l a hv hl l.length 0 (-1) (-1) (by omega)
abbrev Bk := S40
theorem ltB_iff {a b : Bk} : ltB a b = true ↔ (a.f0 < b.f0 ∨ a.f0 = b.f0 ∧ a.f1 < b.f1) := by simp only [ltB, decide_eq_true_eq]
theorem ltB_irrefl (a : Bk) : ltB a a = false := by
 rw [Bool.eq_false_iff]
 intro h
 rw [ltB_iff] at h
 omega
theorem bk_ext {a b : Bk} (h : a.f0 = b.f0) (k : a.f1 = b.f1) : a = b := by
 cases a
 cases b
 cases h
 cases k
 rfl
/-- Valid routes, said plainly. -/
def Wok (l : List Wy) : Prop := (∀ w ∈ l, wayB w = true) ∧ l.Pairwise (fun a b => ltB a.f0 b.f0 = true) ∧ l.length ≤ 40
theorem wayB_iff {w : Wy} : wayB w = true ↔ bok w.f0.f0 w.f0.f1 ∧ 0 ≤ w.f1 ∧ w.f1 ≤ 99 := by
 simp only [wayB, hopB, Bool.and_eq_true, bokB_true, decide_eq_true_eq]
theorem Wok.nil : Wok [] := ⟨fun _ h => (by cases h), List.Pairwise.nil, by simp⟩
/-- Two valid routes of a list are of one block just if they are the same. -/
theorem Wok.uniq {l : List Wy} (h : Wok l) {x y : Wy} (hx : x ∈ l) (hy : y ∈ l) (e : x.f0 = y.f0) : x = y := by
 have hp := h.2.1
 clear h
 induction l with
 | nil => cases hx
 | cons w l ih =>
  obtain ⟨h1, h2⟩ := List.pairwise_cons.1 hp
  rcases List.mem_cons.1 hx with ex | gx
  ·rcases List.mem_cons.1 hy with ey | gy
   ·rw [ex, ey]
   ·have := h1 y gy; rw [← ex, e, ltB_irrefl] at this; cases this
  ·rcases List.mem_cons.1 hy with ey | gy
   ·have := h1 x gx; rw [← ey, e, ltB_irrefl] at this; cases this
   ·exact ih gx gy h2
/-- A hop to which an address leads, said plainly. -/
def Leads (l : List Wy) (a h : Int) : Prop := (∃ w ∈ l, hasB w.f0.f0 w.f0.f1 a = true ∧ (∀ x ∈ l, hasB x.f0.f0 x.f0.f1 a = true → x.f0.f1 ≤ w.f0.f1) ∧ w.f1 = h) ∨ (∀ x ∈ l, hasB x.f0.f0 x.f0.f1 a = false) ∧ h = -1
/-- Two blocks of so many bits that have an address are the same. -/
theorem has_uniq {b c m a : Int} (hb : bok b m) (hc : bok c m) (h1 : hasB b m a = true) (h2 : hasB c m a = true) : b = c := by
 rw [hasB_iff] at h1 h2
 have hs := sz_pos m
 rcases Int.lt_trichotomy b c with h | h | h
 ·have := mult_apart (by omega) hb.dvd hc.dvd h; omega
 ·exact h
 ·have := mult_apart (by omega) hc.dvd hb.dvd h; omega
theorem Leads.uniq {l : List Wy} (h : Wok l) {a x y : Int} (hx : Leads l a x) (hy : Leads l a y) : x = y := by
 rcases hx with ⟨w, hw, h1, h2, h3⟩ | ⟨h1, h2⟩
 ·rcases hy with ⟨v, hv, k1, k2, k3⟩ | ⟨k1, k2⟩
  ·have hb : w.f0.f1 = v.f0.f1 := by have := h2 v hv k1; have := k2 w hw h1; omega
   have w1 := (wayB_iff.1 (h.1 w hw)).1
   have v1 := (wayB_iff.1 (h.1 v hv)).1
   rw [hb] at w1 h1
   have := h.uniq hw hv (bk_ext (has_uniq w1 v1 h1 k1) hb)
   rw [← h3, ← k3, this]
  ·have := k1 w hw; rw [h1] at this; cases this
 ·rcases hy with ⟨v, hv, k1, k2, k3⟩ | ⟨k1, k2⟩
  ·have := h1 v hv; rw [k1] at this; cases this
  ·rw [h2, k2]
theorem Wok.bits {l : List Wy} (h : Wok l) : ∀ w ∈ l, 0 ≤ w.f0.f1 := fun w hw => (wayB_iff.1 (h.1 w hw)).1.2.2.1
def wayE (w : Wy) : List Int := edgeB w.f0.f0 w.f0.f1
theorem spec_edges_loop (l : List Wy) (hv : ∀ w ∈ l, bok w.f0.f0 w.f0.f1) (hl : l.length ≤ 100000000) (d : Nat) : ∀ (n : Nat) (out : List Int), n + d = l.length → out.length + 2 * d ≤ 300000000 → (∃ K_, ∀ k, K_ ≤ k → spec_l3Edges.l0 k l out (n : Int) = some (numsF out ((l.drop n).flatMap wayE))) := by
 induction d with
 | zero =>
  intro n out hn ho
  refine ev1 ?_
  simp only [spec_l3Edges.l0]
  rw [List.drop_eq_nil_of_le (by omega)]
  exact evN (by omega) (evR rfl)
 | succ d ih =>
  intro n out hn ho
  have hlt : n < l.length := by omega
  have hw : wrap64 ((n : Int) + 1) = ((n + 1 : Nat) : Int) := by rw [w64 (by omega)]; omega
  have hb := hv l[n] (List.getElem_mem hlt)
  have hs := sz_bd hb.2.2.1
  have hla := spec_last (b := l[n].f0.f0) (m := l[n].f0.f1) (by have := hb.1; omega) (by have := hb.2.1; omega) hb.2.2.1 hb.2.2.2.1
  have hb2 := hb.2.1
  have hb1 := hb.1
  have h1 := numF_len out l[n].f0.f0
  refine ev1 ?_
  simp only [spec_l3Edges.l0]
  rw [rd_way l n hlt, hw, List.drop_eq_getElem_cons hlt, List.flatMap_cons]
  refine evP (by omega) (evP (by omega) (evB (spec_num _ _ (by omega)) (evB hla (evI (fun c => ?_) (fun c => ?_)))))
  ·have e : wrap64 (l[n].f0.f0 + sz l[n].f0.f1 - 1 + 1) = l[n].f0.f0 + sz l[n].f0.f1 := by rw [w64 (by omega)]; omega
   have h2 := numF_len (numF out l[n].f0.f0) (l[n].f0.f0 + sz l[n].f0.f1)
   have h := ih (n + 1) (numF (numF out l[n].f0.f0) (l[n].f0.f0 + sz l[n].f0.f1)) (by omega) (by omega)
   refine evB hla ?_
   rw [e]
   refine evB (spec_num _ _ (by omega)) ?_
   have e2 : wayE l[n] = [l[n].f0.f0, l[n].f0.f0 + sz l[n].f0.f1] := by unfold wayE edgeB; rw [if_pos (by omega)]
   rw [e2]
   exact h
  ·have h := ih (n + 1) (numF out l[n].f0.f0) (by omega) (by omega)
   have e2 : wayE l[n] = [l[n].f0.f0] := by unfold wayE edgeB; rw [if_neg (by omega)]
   rw [e2]
   exact h
theorem spec_edges (l : List Wy) (hv : ∀ w ∈ l, bok w.f0.f0 w.f0.f1) (hl : l.length ≤ 100000000) (out : List Int) (ho : out.length ≤ 100000000) : (∃ K_, ∀ k, K_ ≤ k → spec_l3Edges.f k l out = some (numsF out (l.flatMap wayE))) := spec_edges_loop l hv hl l.length 0 out (by omega) (by omega)
theorem numsF_len (ns : List Int) : ∀ l : List Int, (numsF l ns).length ≤ l.length + ns.length := by
 induction ns with
 | nil => intro l; exact Nat.le_refl _
 | cons n ns ih =>
  intro l
  have h := ih (numF l n)
  have h2 := numF_len l n
  show (numsF (numF l n) ns).length ≤ _
  simp only [List.length_cons]
  omega
theorem wayE_len : ∀ l : List Wy, (l.flatMap wayE).length ≤ 2 * l.length
 | [] => Nat.le_refl _
 | w :: l => by
  rw [List.flatMap_cons, List.length_append, List.length_cons]
  have := wayE_len l
  have h2 : (wayE w).length ≤ 2 := edgeB_len _ _
  omega
/-- The blocks of routes. -/
def blksF (l : List Wy) : List Bk := l.map fun w => w.f0
theorem edges_ways (l : List Wy) : edgesF (blksF l) = numsF [0] (l.flatMap wayE) := by
 unfold edgesF blksF
 rw [List.flatMap_map]
 rfl
theorem blks_ok {l : List Wy} (hv : ∀ w ∈ l, bok w.f0.f0 w.f0.f1) : ∀ b ∈ blksF l, bok b.f0 b.f1 := by
 intro b hb
 obtain ⟨w, hw, rfl⟩ := List.mem_map.1 hb
 exact hv w hw
theorem rd_ways (l : List (List Wy)) (n : Nat) (h : n < l.length) : rd_L14 l (n : Int) = l[n] := by
 unfold rd_L14
 rw [List.getD_eq_getElem?_getD, Int.toNat_natCast, List.getElem?_eq_getElem h]
 rfl
theorem blocksOf_l1 (ls : List (List Wy)) (N i : Int) (w : List Wy) (hw0 : w.length ≤ 100000000) (R : List Bk) (d : Nat) : ∀ (n : Nat) (acc : List Bk), n + d = w.length → acc.length + d ≤ 300000000 →
  (∃ K_, ∀ k, K_ ≤ k → impl_blocksOf.l0 k (acc ++ (w.drop n).map (fun w => w.f0)) ls N (wrap64 (i + 1)) = some R) → (∃ K_, ∀ k, K_ ≤ k → impl_blocksOf.l1 k acc ls N i w (w.length : Int) (n : Int) = some R) := by
 induction d with
 | zero =>
  intro n acc hn ha h
  refine ev1 ?_
  simp only [impl_blocksOf.l1]
  rw [List.drop_eq_nil_of_le (by omega), List.map_nil, List.append_nil] at h
  exact evN (by omega) h
 | succ d ih =>
  intro n acc hn ha h
  have hlt : n < w.length := by omega
  have hw : wrap64 ((n : Int) + 1) = ((n + 1 : Nat) : Int) := by rw [w64 (by omega)]; omega
  refine ev1 ?_
  simp only [impl_blocksOf.l1]
  rw [rd_way w n hlt, hw]
  refine evP (by omega) (evP (by omega) (evP (by omega) (evP (by omega) (ih (n + 1) _ (by omega) (by simp; omega) ?_))))
  rw [List.drop_eq_getElem_cons hlt, List.map_cons] at h
  rw [List.append_assoc]
  exact h
theorem blocksOf_one (a : List Wy) (ha : a.length ≤ 100000000) : (∃ K_, ∀ k, K_ ≤ k → impl_blocksOf.f k [a] = some (blksF a)) := by
 have ea := rd_ways [a] 0 (by simp)
 have w1 : wrap64 ((0 : Int) + 1) = 1 := w64 (n := 0 + 1) (by omega)
 simp only [impl_blocksOf.f]
 refine ev1 ?_
 simp only [impl_blocksOf.l0]
 refine evP (by simp) (evP (by omega) (evP (by simp) ?_))
 rw [show rd_L14 [a] 0 = a from ea]
 refine blocksOf_l1 [a] 1 0 a ha _ a.length 0 [] (by omega) (by simp; omega) ?_
 rw [w1]
 refine ev1 ?_
 simp only [impl_blocksOf.l0]
 refine evN (by omega) (evR ?_)
 simp [blksF]
theorem edges_len (l : List Wy) : (edgesF (blksF l)).length ≤ 2 * l.length + 1 := by
 rw [edges_ways]
 have h1 := numsF_len (l.flatMap wayE) [0]
 have h2 := wayE_len l
 simp only [List.length_singleton] at h1
 omega
def endF : List Int → Int
 | [] => 4294967295
 | e :: _ => e - 1
def runF (w : List Wy) (h : Int) : List Int → List P2
 | [] => []
 | e :: es => if leadF w e = h then (e, endF es) :: runF w h es else runF w h es
def Edg (es : List Int) : Prop := Rise es ∧ ∀ e ∈ es, 0 ≤ e ∧ e ≤ 4294967295
theorem Edg.tail {e : Int} {es : List Int} (h : Edg (e :: es)) : Edg es := ⟨(List.pairwise_cons.1 h.1).2, fun x hx => h.2 x (List.mem_cons_of_mem _ hx)⟩
theorem Edg.drop {es : List Int} (h : Edg es) (n : Nat) : Edg (es.drop n) := ⟨h.1.sublist (List.drop_sublist n es), fun e he => h.2 e (List.mem_of_mem_drop he)⟩
theorem end_spec {e : Int} {es : List Int} (h : Edg (e :: es)) : e ≤ endF es ∧ endF es ≤ 4294967295 ∧ ∀ x ∈ es, endF es < x := by
 have h0 := h.2 e (List.mem_cons_self ..)
 obtain ⟨h1, h2⟩ := List.pairwise_cons.1 h.1
 cases es with
 | nil => exact ⟨h0.2, Int.le_refl _, fun x hx => by cases hx⟩
 | cons d es =>
  have h3 := h1 d (List.mem_cons_self ..)
  have h4 := h.2 d (List.mem_cons_of_mem _ (List.mem_cons_self ..))
  have h5 := (List.pairwise_cons.1 h2).1
  refine ⟨by show e ≤ d - 1; omega, by show d - 1 ≤ _; omega, fun x hx => ?_⟩
  show d - 1 < x
  rcases List.mem_cons.1 hx with rfl | hx
  ·omega
  ·have := h5 x hx; omega
theorem run_mem {w : List Wy} {h : Int} : ∀ {es : List Int}, Edg es → ∀ s ∈ runF w h es, s.1 ∈ es ∧ s.1 ≤ s.2 ∧ s.2 ≤ 4294967295
 | [], _, s, hs => by cases hs
 | e :: es, he, s, hs => by
  obtain ⟨h1, h2, h3⟩ := end_spec he
  unfold runF at hs
  split at hs
  ·rcases List.mem_cons.1 hs with rfl | hs
   ·exact ⟨List.mem_cons_self .., h1, h2⟩
   ·obtain ⟨a, b, c⟩ := run_mem he.tail s hs
    exact ⟨List.mem_cons_of_mem _ a, b, c⟩
  ·obtain ⟨a, b, c⟩ := run_mem he.tail s hs
   exact ⟨List.mem_cons_of_mem _ a, b, c⟩
theorem run_full {w : List Wy} {h : Int} {es : List Int} (he : Edg es) : Full (runF w h es) := fun s hs => (run_mem he s hs).2.1
theorem run_inb {w : List Wy} {h : Int} {es : List Int} (he : Edg es) : InB (runF w h es) := fun s hs => by
 obtain ⟨a, b, c⟩ := run_mem he s hs
 exact ⟨(he.2 _ a).1, c⟩
theorem run_sorted {w : List Wy} {h : Int} : ∀ {es : List Int}, Edg es → (runF w h es).Pairwise (fun s t => s.2 < t.1)
 | [], _ => List.Pairwise.nil
 | e :: es, he => by
  obtain ⟨h1, h2, h3⟩ := end_spec he
  unfold runF
  split
  ·exact List.pairwise_cons.2 ⟨fun t ht => h3 _ (run_mem he.tail t ht).1, run_sorted he.tail⟩
  ·exact run_sorted he.tail
theorem run_can {w : List Wy} {h : Int} {es : List Int} (he : Edg es) : mergeF (runF w h es) = canF (runF w h es) :=
 canF_sorted (run_full he) (List.Perm.refl _) ((run_sorted he).imp_of_mem fun {s t} hs ht q => by have := run_full he s hs; omega)
theorem run_len {w : List Wy} {h : Int} : ∀ es : List Int, (runF w h es).length ≤ es.length
 | [] => Nat.le_refl _
 | e :: es => by
  have := run_len (w := w) (h := h) es
  unfold runF
  split
  ·simp only [List.length_cons]; omega
  ·simp only [List.length_cons]; omega
def edg (w : List Wy) : List Int := edgesF (blksF w)
theorem edg_edg {w : List Wy} (hv : ∀ x ∈ w, bok x.f0.f0 x.f0.f1) : Edg (edg w) := ⟨rise_edgesF _, fun e he => edges_in (blks_ok hv) he⟩
def toF (w : List Wy) (h : Int) : List P2 := canF (runF w h (edg w))
def waysToF (w : List Wy) (h : Int) : List Bl × Bool := if wokB w = true ∧ (-1 ≤ h ∧ h ≤ 99) then limF (coverF (toF w h)) else ([], false)
theorem rd_e (l : List Int) (n : Nat) (h : n < l.length) : rd l (n : Int) = l[n] := by
 unfold rd
 rw [List.getD_eq_getElem?_getD, Int.toNat_natCast, List.getElem?_eq_getElem h]
 rfl
theorem end_last {l : List Int} {n : Nat} (h : ¬ n + 1 < l.length) : endF (l.drop (n + 1)) = 4294967295 := by
 rw [List.drop_eq_nil_of_le (by omega)]; rfl
theorem end_next {l : List Int} {n : Nat} (h : n + 1 < l.length) : endF (l.drop (n + 1)) = l[n + 1] - 1 := by
 rw [List.drop_eq_getElem_cons h]; rfl
theorem to_loop {w : List Wy} {h : Int} (hv : ∀ x ∈ w, bok x.f0.f0 x.f0.f1) (hl : w.length ≤ 1000000) {E : List Int} (hE : Edg E) (hEl : E.length ≤ 1000) {R : List Bl × Bool} (d : Nat) : ∀ (n : Nat) (acc : List P2), n + d = E.length → acc.length + d ≤ 1000000 →
  (∃ K_, ∀ k, K_ ≤ k → impl_WaysTo.l0 k w h ((acc ++ runF w h (E.drop n)).map s6) E E (E.length : Int) (E.length : Int) = some R) →
  (∃ K_, ∀ k, K_ ≤ k → impl_WaysTo.l0 k w h (acc.map s6) E E (E.length : Int) (n : Int) = some R) := by
 induction d with
 | zero =>
  intro n acc hn ha hk
  rw [List.drop_eq_nil_of_le (by omega)] at hk
  unfold runF at hk
  rw [List.append_nil] at hk
  have e : n = E.length := by omega
  subst e
  exact hk
 | succ d ih =>
  intro n acc hn ha hk
  have hlt : n < E.length := by omega
  have hb := hE.2 _ (List.getElem_mem hlt)
  have hld := impl_lead w E[n] hv (by omega)
  rw [List.drop_eq_getElem_cons hlt] at hk
  unfold runF at hk
  refine ev1 ?_
  simp only [impl_WaysTo.l0]
  rw [rd_e E n hlt, up1 (by omega)]
  refine evP (by omega) (evP (by omega) (evP (by omega) (evI (fun c => evP (by omega) (evB hld (evI (fun c2 => evP (by simp; omega) ?_) (fun c2 => ?_)))) (fun c => evB hld (evI (fun c2 => evP (by simp; omega) ?_) (fun c2 => ?_))))))
  ·have c : n + 1 < E.length := by omega
   have hb2 := hE.2 _ (List.getElem_mem c)
   rw [if_pos c2] at hk
   have := ih (n + 1) (acc ++ [(E[n], endF (E.drop (n + 1)))]) (by omega) (by simp; omega) (by rw [List.append_assoc]; exact hk)
   rw [end_next c, List.map_append] at this
   rw [rd_e E (n + 1) c, w64 (by omega)]
   exact this
  ·rw [if_neg c2] at hk
   exact ih (n + 1) acc (by omega) (by omega) hk
  ·have c : ¬ n + 1 < E.length := by omega
   rw [if_pos c2] at hk
   have := ih (n + 1) (acc ++ [(E[n], endF (E.drop (n + 1)))]) (by omega) (by simp; omega) (by rw [List.append_assoc]; exact hk)
   rw [end_last c, List.map_append] at this
   exact this
  ·rw [if_neg c2] at hk
   exact ih (n + 1) acc (by omega) (by omega) hk
theorem impl_waysTo (w : List Wy) (h : Int) (hl : w.length ≤ 100000000) : (∃ K_, ∀ k, K_ ≤ k → impl_WaysTo.f k w h = some (waysToF w h)) := by
 have no : (∃ K_, ∀ k, K_ ≤ k → impl_WaysTo.j0 k w h true = some (([], false) : List Bl × Bool)) := by
  refine ev1 ?_
  simp only [impl_WaysTo.j0]
  exact evP trivial (evR rfl)
 unfold waysToF
 simp only [impl_WaysTo.f]
 refine evB (impl_waysOk w (by omega)) (evI (fun c => evS (impl_in ..) ?_) (fun c => by rw [if_neg (fun q => c q.1)]; exact no))
 by_cases c2 : -1 ≤ h ∧ h ≤ 99
 ·rw [if_pos ⟨c, c2⟩, decide_eq_true c2]
  have hv := fun x hx => (wokB_valid c x hx).1
  have h40 := wokB_len c
  have hE := edg_edg hv
  have hEl := edges_len w
  have hrl := run_len (w := w) (h := h) (edg w)
  have hb := impl_bounds (blksF w) (blks_ok hv) (by unfold blksF; rw [List.length_map]; omega)
  have hbl : (edg w).length ≤ 81 := by unfold edg; omega
  have hset := impl_setF (run_full (w := w) (h := h) hE) (run_inb hE) (by omega)
  have hR : (∃ K_, ∀ k, K_ ≤ k → impl_WaysTo.l0 k w h (([] ++ runF w h ((edg w).drop 0)).map s6) (edg w) (edg w) ((edg w).length : Int) ((edg w).length : Int) = some (limF (coverF (toF w h)))) := by
   refine ev1 ?_
   simp only [impl_WaysTo.l0]
   exact evN (by omega) (evB hset (evS (impl_lim _) (evR rfl)))
  have := to_loop hv (by omega) hE (by omega) (edg w).length 0 [] (by omega) (by simp only [List.length_nil]; omega) hR
  refine ev1 ?_
  simp only [impl_WaysTo.j0]
  exact evN (by simp) (evB (blocksOf_one w (by omega)) (evB hb this))
 ·rw [if_neg (fun q => c2 q.2), decide_eq_false c2]
  exact no
theorem sto_one {w : List Wy} {h : Int} (hv : ∀ x ∈ w, bok x.f0.f0 x.f0.f1) (hl : w.length ≤ 1000000) {E : List Int} (hE : Edg E) (hEl : E.length ≤ 1000) (d : Nat) : ∀ (n : Nat) (D : List P2) (c : P2), n + d = E.length → D.length + d ≤ 1000000 → -1 ≤ c.2 ∧ c.2 ≤ 4294967295 → (∀ e ∈ E.drop n, c.2 < e) →
  (∃ K_, ∀ k, K_ ≤ k → spec_l3Spans.l0 k w h E ((D ++ [c]).map s7) (n : Int) = some ((D ++ mrg c (runF w h (E.drop n))).map s7)) := by
 induction d with
 | zero =>
  intro n D c hn hd hc hf
  rw [List.drop_eq_nil_of_le (by omega)]
  refine ev1 ?_
  simp only [spec_l3Spans.l0]
  exact evN (by omega) (evR rfl)
 | succ d ih =>
  intro n D c hn hd hc hf
  have hlt : n < E.length := by omega
  have hb := hE.2 _ (List.getElem_mem hlt)
  have hld := spec_lead w E[n] hv (by omega)
  have hdr := hE.drop n
  rw [List.drop_eq_getElem_cons hlt] at hf hdr ⊢
  obtain ⟨g1, g2, g3⟩ := end_spec hdr
  have hcn := hf _ (List.mem_cons_self ..)
  have e1 : ((D ++ [c]).map s7).length = D.length + 1 := by simp
  have e2 : rd_T72 ((D ++ [c]).map s7) ((D.length : Nat) : Int) = s7 c := by rw [rd_s7 _ _ (by simp)]; simp
  have e3 : wrap64 ((((D.length + 1 : Nat)) : Int) - 1) = ((D.length : Nat) : Int) := by rw [dn1 (by omega) (by omega)]; rfl
  have e4 : wrap64 ((s7 c).f1 + 1) = c.2 + 1 := w64 (by show _ ≤ c.2 + 1 ∧ c.2 + 1 ≤ _; omega)
  have ext : leadF w E[n] = h → c.2 + 1 = E[n] → (∃ K_, ∀ k, K_ ≤ k → spec_l3Spans.l0 k w h E (((D ++ [c]).map s7).set ((D.length : Nat) : Int).toNat ⟨(s7 c).f0, endF (E.drop (n + 1))⟩) ((n + 1 : Nat) : Int) = some ((D ++ mrg c (runF w h (E[n] :: E.drop (n + 1)))).map s7)) := by
   intro c1 c2
   have := ih (n + 1) D (c.1, endF (E.drop (n + 1))) (by omega) (by omega) ⟨by simp only []; omega, g2⟩ g3
   have e5 : (((D ++ [c]).map s7).set ((D.length : Nat) : Int).toNat ⟨(s7 c).f0, endF (E.drop (n + 1))⟩) = ((D ++ [(c.1, endF (E.drop (n + 1)))]).map s7) := by
    rw [Int.toNat_natCast, List.map_append, List.set_append_right _ _ (by simp)]
    simp [s7]
   rw [e5]
   conv in runF w h (E[n] :: _) => unfold runF
   rw [if_pos c1]
   conv in mrg c _ => unfold mrg
   rw [if_pos (by show E[n] ≤ c.2 + 1; omega), show mx c.2 (endF (E.drop (n + 1))) = endF (E.drop (n + 1)) from by unfold mx; rw [if_pos (by omega)]]
   exact this
  have new : leadF w E[n] = h → ¬ c.2 + 1 = E[n] → (∃ K_, ∀ k, K_ ≤ k → spec_l3Spans.l0 k w h E ((D ++ [c]).map s7 ++ [⟨E[n], endF (E.drop (n + 1))⟩]) ((n + 1 : Nat) : Int) = some ((D ++ mrg c (runF w h (E[n] :: E.drop (n + 1)))).map s7)) := by
   intro c1 c2
   have := ih (n + 1) (D ++ [c]) (E[n], endF (E.drop (n + 1))) (by omega) (by simp; omega) ⟨by simp only []; omega, g2⟩ g3
   rw [show (D ++ [c]) ++ mrg (E[n], endF (E.drop (n + 1))) (runF w h (E.drop (n + 1))) = D ++ c :: mrg (E[n], endF (E.drop (n + 1))) (runF w h (E.drop (n + 1))) by simp] at this
   conv in runF w h (E[n] :: _) => unfold runF
   rw [if_pos c1]
   conv in mrg c _ => unfold mrg
   rw [if_neg (by show ¬ E[n] ≤ c.2 + 1; omega)]
   rw [show (D ++ [c]).map s7 ++ [⟨E[n], endF (E.drop (n + 1))⟩] = ((D ++ [c]) ++ [(E[n], endF (E.drop (n + 1)))]).map s7 by simp [s7]]
   exact this
  refine ev1 ?_
  simp only [spec_l3Spans.l0]
  rw [e1, e3, e2, e4, rd_e E n hlt, up1 (by omega)]
  refine evP (by omega) (evP (by omega) (evB hld (evI (fun c1 => evI (fun c2 => evP (by omega) (evP (by omega) (evP (by omega) (evP (by omega) (evI (fun c3 => ?_) (fun c3 => evP (by omega) ?_)))))) (fun c2 => evP (by omega) (evP (by omega) (evP (by omega) (evI (fun c3 => ?_) (fun c3 => evP (by omega) ?_)))))) (fun c1 => ?_))))
  ·have c4 : n + 1 < E.length := by omega
   have hb2 := hE.2 _ (List.getElem_mem c4)
   have := ext c1 c3
   rw [end_next c4] at this
   rw [rd_e E (n + 1) c4, w64 (by omega)]
   exact this
  ·have c4 : n + 1 < E.length := by omega
   have hb2 := hE.2 _ (List.getElem_mem c4)
   have := new c1 c3
   rw [end_next c4] at this
   rw [rd_e E (n + 1) c4, w64 (by omega)]
   exact this
  ·have c4 : ¬ n + 1 < E.length := by omega
   have := ext c1 c3
   rw [end_last c4] at this
   exact this
  ·have c4 : ¬ n + 1 < E.length := by omega
   have := new c1 c3
   rw [end_last c4] at this
   exact this
  ·conv in runF w h (E[n] :: _) => unfold runF
   rw [if_neg c1]
   exact ih (n + 1) D c (by omega) (by omega) hc (fun e he => hf e (List.mem_cons_of_mem _ he))
theorem sto_none {w : List Wy} {h : Int} (hv : ∀ x ∈ w, bok x.f0.f0 x.f0.f1) (hl : w.length ≤ 1000000) {E : List Int} (hE : Edg E) (hEl : E.length ≤ 1000) (d : Nat) : ∀ n : Nat, n + d = E.length →
  (∃ K_, ∀ k, K_ ≤ k → spec_l3Spans.l0 k w h E [] (n : Int) = some ((mergeF (runF w h (E.drop n))).map s7)) := by
 induction d with
 | zero =>
  intro n hn
  rw [List.drop_eq_nil_of_le (by omega)]
  refine ev1 ?_
  simp only [spec_l3Spans.l0]
  exact evN (by omega) (evR rfl)
 | succ d ih =>
  intro n hn
  have hlt : n < E.length := by omega
  have hb := hE.2 _ (List.getElem_mem hlt)
  have hld := spec_lead w E[n] hv (by omega)
  have hdr := hE.drop n
  rw [List.drop_eq_getElem_cons hlt] at hdr ⊢
  obtain ⟨g1, g2, g3⟩ := end_spec hdr
  have e0 : wrap64 ((([] : List Sb7).length : Int) - 1) = -1 := by rw [w64 (by simp only [List.length_nil]; omega)]; simp
  have new : leadF w E[n] = h → (∃ K_, ∀ k, K_ ≤ k → spec_l3Spans.l0 k w h E ([] ++ [⟨E[n], endF (E.drop (n + 1))⟩]) ((n + 1 : Nat) : Int) = some ((mergeF (runF w h (E[n] :: E.drop (n + 1)))).map s7)) := by
   intro c1
   have := sto_one hv hl hE hEl (h := h) d (n + 1) [] (E[n], endF (E.drop (n + 1))) (by omega) (by simp; omega) ⟨by simp only []; omega, g2⟩ g3
   conv in runF w h (E[n] :: _) => unfold runF
   rw [if_pos c1]
   exact this
  refine ev1 ?_
  simp only [spec_l3Spans.l0]
  rw [e0, rd_e E n hlt, up1 (by omega)]
  refine evP (by omega) (evP (by omega) (evB hld (evI (fun c1 => evI (fun c2 => evP (by omega) (evN (by omega) (evP (by simp) ?_))) (fun c2 => evN (by omega) (evP (by simp) ?_))) (fun c1 => ?_))))
  ·have c4 : n + 1 < E.length := by omega
   have hb2 := hE.2 _ (List.getElem_mem c4)
   have := new c1
   rw [end_next c4] at this
   rw [rd_e E (n + 1) c4, w64 (by omega)]
   exact this
  ·have c4 : ¬ n + 1 < E.length := by omega
   have := new c1
   rw [end_last c4] at this
   exact this
  ·conv in runF w h (E[n] :: _) => unfold runF
   rw [if_neg c1]
   exact ih (n + 1) (by omega)
theorem spec_waysTo (w : List Wy) (h : Int) (hl : w.length ≤ 100000000) : (∃ K_, ∀ k, K_ ≤ k → spec_WaysTo.f k w h = some (waysToF w h)) := by
 have no : (∃ K_, ∀ k, K_ ≤ k → spec_WaysTo.j0 k w h true = some (([], false) : List Bl × Bool)) := by
  refine ev1 ?_
  simp only [spec_WaysTo.j0]
  exact evP trivial (evR rfl)
 unfold waysToF
 simp only [spec_WaysTo.f]
 refine evB (spec_waysOk w (by omega)) (evI (fun c => evS (spec_in ..) ?_) (fun c => by rw [if_neg (fun q => c q.1)]; exact no))
 by_cases c2 : -1 ≤ h ∧ h ≤ 99
 ·rw [if_pos ⟨c, c2⟩, decide_eq_true c2]
  have hv := fun x hx => (wokB_valid c x hx).1
  have h40 := wokB_len c
  have hE := edg_edg hv
  have hEl := edges_len w
  have hrl := run_len (w := w) (h := h) (edg w)
  have hbl : (edg w).length ≤ 81 := by unfold edg; omega
  have he := spec_edges w hv (by omega) [0] (by simp)
  rw [← edges_ways] at he
  have hs := sto_none hv (by omega) hE (by omega) (h := h) (edg w).length 0 (by omega)
  rw [List.drop_zero, run_can hE] at hs
  have hcl := canF_len (runF w h (edg w))
  have hcov := spec_cover (L := toF w h) (canF_in (run_full hE) (run_inb hE)) (by unfold toF; omega)
  have hsp : (∃ K_, ∀ k, K_ ≤ k → spec_l3Spans.f k w h = some ((toF w h).map s7)) := by
   simp only [spec_l3Spans.f]
   exact evB he hs
  refine ev1 ?_
  simp only [spec_WaysTo.j0]
  exact evN (by simp) (evB hsp (evB hcov (evS (spec_room _) (evR rfl))))
 ·rw [if_neg (fun q => c2 q.2), decide_eq_false c2]
  exact no
theorem waysToF_len (w : List Wy) (h : Int) : (waysToF w h).1.length ≤ 64 := by
 unfold waysToF
 split
 ·exact limF_len _
 ·simp
/-- One of the statement's own values as one of the program's. -/
def convWay (x : S98) : S95 := ⟨⟨x.f0.f0, x.f0.f1⟩, x.f1⟩
theorem rd_lWay (l : List S98) (n : Nat) (h : n < l.length) : rd_T98 l (n : Int) = l[n] := by
 unfold rd_T98
 rw [List.getD_eq_getElem?_getD, Int.toNat_natCast, List.getElem?_eq_getElem h]
 rfl
theorem toWay_loop (l : List S98) (hl : l.length ≤ 1073741824) (d : Nat) : ∀ (n : Nat) (ys : List S95), n + d = l.length → ys.length = l.length → (∀ j, j < n → ys[j]? = (l.map convWay)[j]?) → (∃ K_, ∀ k, K_ ≤ k → laws_toWayS.l0 k l ys (n : Int) = some (l.map convWay)) := by
 induction d with
 | zero =>
  intro n ys hn hy hj
  refine ⟨1, fun k hk => ?_⟩
  obtain ⟨k, rfl⟩ : ∃ j, k = j + 1 := ⟨k - 1, by omega⟩
  simp only [laws_toWayS.l0]
  rw [if_neg (by omega)]
  congr 1
  apply List.ext_getElem?
  intro i
  by_cases c : i < n
  ·exact hj i c
  ·rw [List.getElem?_eq_none (by omega), List.getElem?_eq_none (by simp; omega)]
 | succ d ih =>
  intro n ys hn hy hj
  have hlt : n < l.length := by omega
  have hw : wrap64 ((n : Int) + 1) = ((n + 1 : Nat) : Int) := by rw [w64 (by omega)]; omega
  obtain ⟨K1, e1⟩ := ih (n + 1) (ys.set n (convWay l[n])) (by omega) (by simpa using hy) (fun j hj2 => by
   by_cases c : j = n
   ·subst c
    rw [List.getElem?_set_self (by omega), List.getElem?_map, List.getElem?_eq_getElem hlt]
    rfl
   ·rw [List.getElem?_set_ne (by omega)]
    exact hj j (by omega))
  refine ⟨K1 + 1, fun k hk => ?_⟩
  obtain ⟨k, rfl⟩ : ∃ j, k = j + 1 := ⟨k - 1, by omega⟩
  simp only [laws_toWayS.l0]
  rw [if_pos (by omega), if_pos (by omega), rd_lWay l n hlt]
  simp only [laws_toWay.f, laws_toBlock.f, Option.bind_some]
  rw [if_pos (by omega), hw, Int.toNat_natCast]
  exact e1 k (by omega)
theorem toWay (l : List S98) (hl : l.length ≤ 1073741824) : (∃ K_, ∀ k, K_ ≤ k → laws_toWayS.f k l = some (l.map convWay)) := by
 obtain ⟨K, h⟩ := toWay_loop l hl l.length 0 (List.replicate l.length z95) (by omega) (by simp) (fun j h => absurd h (by omega))
 refine ⟨K, fun k hk => ?_⟩
 simp only [laws_toWayS.f]
 rw [if_pos (by omega), if_pos (by omega), Int.toNat_natCast]
 exact h k hk
/-- What is left of a bound, when so many are taken. -/
theorem szWay (l : List S98) (hl : l.length ≤ 9223372036854775807) : laws_szWayS.f l 1048576 = some (if (l.length : Int) ≤ 1048576 then 1048576 - (l.length : Int) else -1) := by
 unfold laws_szWayS.f
 rw [w64 (by omega)]
 by_cases c : (l.length : Int) ≤ 1048576
 ·rw [if_neg (by omega), if_pos c]
 ·rw [if_pos (by omega), if_neg c]
theorem eqWay_one (x : S95) : laws_eqWay.f x.f0.f0 x.f0.f1 x.f1 x.f0.f0 x.f0.f1 x.f1 = some true := by
 simp [laws_eqWay.f, laws_eqBlock.f]
theorem eqWay_loop (l : List S95) (hl : l.length ≤ 1073741824) (d : Nat) : ∀ n : Nat, n + d = l.length → (∃ K_, ∀ k, K_ ≤ k → laws_eqWayS.l0 k l l (n : Int) = some true) := by
 induction d with
 | zero =>
  intro n hn
  refine ⟨1, fun k hk => ?_⟩
  obtain ⟨k, rfl⟩ : ∃ j, k = j + 1 := ⟨k - 1, by omega⟩
  simp only [laws_eqWayS.l0]
  rw [if_neg (by omega)]
 | succ d ih =>
  intro n hn
  have hw : wrap64 ((n : Int) + 1) = ((n + 1 : Nat) : Int) := by rw [w64 (by omega)]; omega
  obtain ⟨K1, e1⟩ := ih (n + 1) (by omega)
  refine ⟨K1 + 1, fun k hk => ?_⟩
  obtain ⟨k, rfl⟩ : ∃ j, k = j + 1 := ⟨k - 1, by omega⟩
  simp only [laws_eqWayS.l0]
  rw [if_pos (by omega), if_pos (by omega), if_pos (by omega), eqWay_one, Option.bind_some, if_pos rfl, hw]
  exact e1 k (by omega)
theorem eqWay (l : List S95) (hl : l.length ≤ 1073741824) : (∃ K_, ∀ k, K_ ≤ k → laws_eqWayS.f k l l = some true) := by
 obtain ⟨K, h⟩ := eqWay_loop l hl l.length 0 (by omega)
 refine ⟨K, fun k hk => ?_⟩
 simp only [laws_eqWayS.f]
 rw [if_pos trivial]
 exact h k hk
theorem rdsetWay (l : List S95) (n : Nat) (x : S95) (h : n < l.length) : rd_T95 (l.set n x) (n : Int) = x := by
 unfold rd_T95
 rw [List.getD_eq_getElem?_getD, Int.toNat_natCast, List.getElem?_set_self h]
 rfl
/-- An element all of whose fields are numbers that follow one another. -/
def mkWay (a : Int) : S95 := ⟨⟨a, a + 1⟩, a + 1 + 1⟩
theorem markWay_loop (a : Int) (ha0 : 0 ≤ a) (ha1 : a ≤ 1000000000000000) (d : Nat) : ∀ (n : Nat) (l : List S95), n + d = l.length → l.length ≤ 1073741824 → (∀ j (h : j < l.length), j < n → l[j] = mkWay (a + 3 * j)) → Dr (fun k => laws_markWayS.l0 k l (a + 3 * (n : Int)) (n : Int)) fun r => r.1 = a + 3 * (l.length : Int) ∧ r.2.length = l.length ∧ ∀ j (h : j < r.2.length), r.2[j] = mkWay (a + 3 * j) := by
 induction d with
 | zero =>
  intro n l hn hl hj
  refine dr1 ?_
  simp only [laws_markWayS.l0]
  have e : n = l.length := by omega
  exact drN (by omega) (drR ⟨by rw [e], rfl, fun j h => hj j h (by simp only [] at h; omega)⟩)
 | succ d ih =>
  intro n l hn hl hj
  have hlt : n < l.length := by omega
  have hw : wrap64 ((n : Int) + 1) = ((n + 1 : Nat) : Int) := by rw [w64 (by omega)]; omega
  generalize hX : a + 3 * (n : Int) = X
  have hX0 : 0 ≤ X ∧ X ≤ 2000000000000000 := by omega
  have hw1 : wrap64 (X + 1) = X + 1 := w64 (by omega)
  have hw2 : wrap64 (X + 1 + 1) = X + 1 + 1 := w64 (by omega)
  have hw3 : wrap64 (X + 1 + 1 + 1) = X + 1 + 1 + 1 := w64 (by omega)
  refine dr1 ?_
  simp only [laws_markWayS.l0, Option.bind_some, Int.toNat_natCast, rdsetWay, List.length_set, hlt, List.set_set, hw, hw1, hw2, hw3]
  refine drP (by omega) (drP (by omega) ?_)
  have e : X + 1 + 1 + 1 = a + 3 * ((n + 1 : Nat) : Int) := by omega
  rw [e]
  refine (ih (n + 1) (l.set n _) (by simp only [List.length_set]; omega) (by simp only [List.length_set]; omega) (fun j h hj2 => ?_)).imp fun r hr => ?_
  ·by_cases c : j = n
   ·subst c
    rw [List.getElem_set_self, hX]
    rfl
   ·rw [List.getElem_set_ne (fun h => c h.symm)]
    exact hj j (by simpa using h) (by omega)
  ·simp only [List.length_set] at hr
   exact hr
theorem markWay (l : List S95) (a : Int) (ha0 : 0 ≤ a) (ha1 : a ≤ 1000000000000000) (hl : l.length ≤ 1073741824) : Dr (fun k => laws_markWayS.f k l a) fun r => r.1 = a + 3 * (l.length : Int) ∧ r.2.length = l.length ∧ ∀ j (h : j < r.2.length), r.2[j] = mkWay (a + 3 * j) := by
 have := markWay_loop a ha0 ha1 l.length 0 l (by omega) hl (fun j h h2 => absurd h2 (by omega))
 simp only [Int.ofNat_zero, Int.mul_zero, Int.add_zero, Int.natCast_zero] at this
 simp only [laws_markWayS.f]
 exact this
theorem eqBlock_one (x : S40) : laws_eqBlock.f x.f0 x.f1 x.f0 x.f1 = some true := by
 simp [laws_eqBlock.f]
theorem eqBlock_loop (l : List S40) (hl : l.length ≤ 1073741824) (d : Nat) : ∀ n : Nat, n + d = l.length → (∃ K_, ∀ k, K_ ≤ k → laws_eqBlockS.l0 k l l (n : Int) = some true) := by
 induction d with
 | zero =>
  intro n hn
  refine ⟨1, fun k hk => ?_⟩
  obtain ⟨k, rfl⟩ : ∃ j, k = j + 1 := ⟨k - 1, by omega⟩
  simp only [laws_eqBlockS.l0]
  rw [if_neg (by omega)]
 | succ d ih =>
  intro n hn
  have hw : wrap64 ((n : Int) + 1) = ((n + 1 : Nat) : Int) := by rw [w64 (by omega)]; omega
  obtain ⟨K1, e1⟩ := ih (n + 1) (by omega)
  refine ⟨K1 + 1, fun k hk => ?_⟩
  obtain ⟨k, rfl⟩ : ∃ j, k = j + 1 := ⟨k - 1, by omega⟩
  simp only [laws_eqBlockS.l0]
  rw [if_pos (by omega), if_pos (by omega), if_pos (by omega), eqBlock_one, Option.bind_some, if_pos rfl, hw]
  exact e1 k (by omega)
theorem eqBlock (l : List S40) (hl : l.length ≤ 1073741824) : (∃ K_, ∀ k, K_ ≤ k → laws_eqBlockS.f k l l = some true) := by
 obtain ⟨K, h⟩ := eqBlock_loop l hl l.length 0 (by omega)
 refine ⟨K, fun k hk => ?_⟩
 simp only [laws_eqBlockS.f]
 rw [if_pos trivial]
 exact h k hk
theorem rdiBlock (l : List S40) (n : Nat) (h : n < l.length) : rd_T40 l (n : Int) = l[n] := by
 unfold rd_T40
 rw [List.getD_eq_getElem?_getD, Int.toNat_natCast, List.getElem?_eq_getElem h]
 rfl
theorem rdsetBlock (l : List S40) (n : Nat) (x : S40) (h : n < l.length) : rd_T40 (l.set n x) (n : Int) = x := by
 unfold rd_T40
 rw [List.getD_eq_getElem?_getD, Int.toNat_natCast, List.getElem?_set_self h]
 rfl
/-- An element all of whose fields are numbers that follow one another. -/
def mkBlock (a : Int) : S40 := ⟨a, a + 1⟩
theorem markBlock_loop (a : Int) (ha0 : 0 ≤ a) (ha1 : a ≤ 1000000000000000) (d : Nat) : ∀ (n : Nat) (l : List S40), n + d = l.length → l.length ≤ 1073741824 → (∀ j (h : j < l.length), j < n → l[j] = mkBlock (a + 2 * j)) → Dr (fun k => laws_markBlockS.l0 k l (a + 2 * (n : Int)) (n : Int)) fun r => r.1 = a + 2 * (l.length : Int) ∧ r.2.length = l.length ∧ ∀ j (h : j < r.2.length), r.2[j] = mkBlock (a + 2 * j) := by
 induction d with
 | zero =>
  intro n l hn hl hj
  refine dr1 ?_
  simp only [laws_markBlockS.l0]
  have e : n = l.length := by omega
  exact drN (by omega) (drR ⟨by rw [e], rfl, fun j h => hj j h (by simp only [] at h; omega)⟩)
 | succ d ih =>
  intro n l hn hl hj
  have hlt : n < l.length := by omega
  have hw : wrap64 ((n : Int) + 1) = ((n + 1 : Nat) : Int) := by rw [w64 (by omega)]; omega
  generalize hX : a + 2 * (n : Int) = X
  have hX0 : 0 ≤ X ∧ X ≤ 2000000000000000 := by omega
  have hw1 : wrap64 (X + 1) = X + 1 := w64 (by omega)
  have hw2 : wrap64 (X + 1 + 1) = X + 1 + 1 := w64 (by omega)
  refine dr1 ?_
  simp only [laws_markBlockS.l0, Option.bind_some, Int.toNat_natCast, rdsetBlock, List.length_set, hlt, List.set_set, hw, hw1, hw2]
  refine drP (by omega) (drP (by omega) ?_)
  have e : X + 1 + 1 = a + 2 * ((n + 1 : Nat) : Int) := by omega
  rw [e]
  refine (ih (n + 1) (l.set n _) (by simp only [List.length_set]; omega) (by simp only [List.length_set]; omega) (fun j h hj2 => ?_)).imp fun r hr => ?_
  ·by_cases c : j = n
   ·subst c
    rw [List.getElem_set_self, hX]
    rfl
   ·rw [List.getElem_set_ne (fun h => c h.symm)]
    exact hj j (by simpa using h) (by omega)
  ·simp only [List.length_set] at hr
   exact hr
theorem markBlock (l : List S40) (a : Int) (ha0 : 0 ≤ a) (ha1 : a ≤ 1000000000000000) (hl : l.length ≤ 1073741824) : Dr (fun k => laws_markBlockS.f k l a) fun r => r.1 = a + 2 * (l.length : Int) ∧ r.2.length = l.length ∧ ∀ j (h : j < r.2.length), r.2[j] = mkBlock (a + 2 * j) := by
 have := markBlock_loop a ha0 ha1 l.length 0 l (by omega) hl (fun j h h2 => absurd h2 (by omega))
 simp only [Int.ofNat_zero, Int.mul_zero, Int.add_zero, Int.natCast_zero] at this
 simp only [laws_markBlockS.f]
 exact this
theorem heldBlock_loop (l : List S40) (a : Int) (ha0 : 0 ≤ a) (ha1 : a ≤ 1000000000000000) (hl : l.length ≤ 1073741824) (hj : ∀ j (h : j < l.length), l[j] = mkBlock (a + 2 * j)) (d : Nat) : ∀ n : Nat, n + d = l.length → (∃ K_, ∀ k, K_ ≤ k → laws_heldBlockS.l0 k l (a + 2 * (n : Int)) (n : Int) = some (a + 2 * (l.length : Int))) := by
 induction d with
 | zero =>
  intro n hn
  refine ev1 ?_
  simp only [laws_heldBlockS.l0]
  have e : n = l.length := by omega
  exact evN (by omega) (evR (by rw [e]))
 | succ d ih =>
  intro n hn
  have hlt : n < l.length := by omega
  have hw : wrap64 ((n : Int) + 1) = ((n + 1 : Nat) : Int) := by rw [w64 (by omega)]; omega
  have hm := hj n hlt
  have := ih (n + 1) (by omega)
  generalize hX : a + 2 * (n : Int) = X at *
  have hX0 : 0 ≤ X ∧ X ≤ 2000000000000000 := by omega
  have hw1 : wrap64 (X + 1) = X + 1 := w64 (by omega)
  have hw2 : wrap64 (X + 1 + 1) = X + 1 + 1 := w64 (by omega)
  refine ev1 ?_
  simp only [laws_heldBlockS.l0, rdiBlock, hlt, hm, mkBlock, hw, hw1, hw2]
  have e : X + 1 + 1 = a + 2 * ((n + 1 : Nat) : Int) := by omega
  rw [e]
  exact evP (by omega) (evP (by omega) (evP trivial (evP trivial this)))
theorem heldBlock (l : List S40) (a : Int) (ha0 : 0 ≤ a) (ha1 : a ≤ 1000000000000000) (hl : l.length ≤ 1073741824) (hj : ∀ j (h : j < l.length), l[j] = mkBlock (a + 2 * j)) : (∃ K_, ∀ k, K_ ≤ k → laws_heldBlockS.f k l a = some (a + 2 * (l.length : Int))) := by
 have := heldBlock_loop l a ha0 ha1 hl hj l.length 0 (by omega)
 simp only [Int.ofNat_zero, Int.mul_zero, Int.add_zero, Int.natCast_zero] at this
 simp only [laws_heldBlockS.f]
 exact this
end Go.Proofs.Ytmanlcakdcoekaa.Z
end
section
namespace Go.Proofs.Ytmanlcakdcoekaa.Pure
open Go Go.RowKit Go.Proofs.Ytmanlcakdcoekaa.PAll Go.Proofs.YtmanlcakdcoekaaW.PrintWords Go.Proofs.YtmanlcakdcoekaaW.PrintLast Go.Proofs.YtmanlcakdcoekaaW.PrintMore Go.Proofs.Ytmanlcakdcoekaa.Z
set_option linter.unusedVariables false
set_option linter.unusedSimpArgs false
theorem FnExactWaysTo : laws_FnExactWaysTo.Pure := by
 intro l a hl _
 suffices h : (∃ K_, ∀ k, K_ ≤ k → laws_FnExactWaysTo.f k l a = some true) by obtain ⟨K, h⟩ := h; exact ⟨K, h K (Nat.le_refl _)⟩
 have hm : l.length ≤ 9223372036854775807 := by have := hl.1; unfold maxLen at this; exact this
 simp only [laws_FnExactWaysTo.f]
 refine evS (szWay l hm) ?_
 by_cases c : (l.length : Int) ≤ 1048576
 ·rw [if_pos c]
  have hn : (l.map convWay).length ≤ 1048576 := by simp; omega
  have h4 := waysToF_len (l.map convWay) a
  have e1 := toWay l (by omega)
  have e2 := spec_waysTo (l.map convWay) a (by omega)
  have e3 := impl_waysTo (l.map convWay) a (by omega)
  have e5 := eqWay (l.map convWay) (by omega)
  obtain ⟨⟨k1, m1⟩, e6, h1, _⟩ := markWay (l.map convWay) 1 (by omega) (by omega) (by omega)
  generalize waysToF (l.map convWay) a = R at h4 e2 e3
  obtain ⟨cs, b⟩ := R
  simp only [] at h4
  have e4 := eqBlock cs (by omega)
  obtain ⟨⟨k2, m2⟩, e7, h2, h3, hj⟩ := markBlock cs 1 (by omega) (by omega) (by omega)
  simp only [] at h1 h2 h3 hj
  have e8 := heldBlock m2 1 (by omega) (by omega) (by omega) hj
  rw [h3, ← h2] at e8
  refine evN (by omega) (evB e1 (evB e2 (evB e1 (evB e3 (evB e4 (evP rfl (ev1 ?_)))))))
  simp only [laws_FnExactWaysTo.j0]
  refine evN (by simp) (evB e1 (evB e5 (evP rfl (evB e6 ?_))))
  simp only []
  refine evN (by omega) (evB e4 (evP rfl (ev1 ?_)))
  simp only [laws_FnExactWaysTo.j1]
  refine evN (by simp) (evB e7 ?_)
  simp only []
  refine evB e8 (evN (by omega) (evP rfl (evB e1 (evB e3 (evB e4 (evP rfl (ev1 ?_)))))))
  simp only [laws_FnExactWaysTo.j2]
  exact evN (by simp) (evB e8 (evN (by omega) (evP rfl (evR rfl))))
 ·rw [if_neg c]
  exact evP (by omega) (evR rfl)
end Go.Proofs.Ytmanlcakdcoekaa.Pure
end
