/- Contracts of the functions that the statement reaches, printed by a program out of the translation and joined with the plain laws. -/
import Derived.Lib.BitFns
import Derived.Lib.ItoaNum
import Derived.Test.YtmanlcakdcoekaaCFnExactSetHas3
import Derived.Test.YtmanlcakdcoekaaCFnExactSetHas4
import Derived.Test.YtmanlcakdcoekaaCFnExactSetHas6
import Derived.Test.YtmanlcakdcoekaaCFnExactSetHas7
import Derived.Test.YtmanlcakdcoekaaCFnExactSetHas8
import Derived.Test.YtmanlcakdcoekaaCFnExactSetHas9
import Derived.Test.YtmanlcakdcoekaaCFnExactSetHas10
import Derived.Test.YtmanlcakdcoekaaCFnExactSetHas11
section
namespace Go.Proofs.Ytmanlcakdcoekaa.Z
open Go Go.RowKit Go.Proofs.Ytmanlcakdcoekaa.PAll Go.Proofs.YtmanlcakdcoekaaW.PrintWords Go.Proofs.YtmanlcakdcoekaaW.PrintLast Go.Proofs.YtmanlcakdcoekaaW.PrintMore
set_option linter.unusedVariables false
set_option linter.unusedSimpArgs false
theorem spec_in (a l h : Int) : spec_l1In.f a l h = some (decide (l ≤ a ∧ a ≤ h)) := by
 unfold spec_l1In.f
 by_cases c : a ≥ l
 ·rw [if_pos c]; simp [c]
 ·rw [if_neg c]
  have : ¬ l ≤ a := by omega
  simp [this]
theorem impl_in (a l h : Int) : impl_in.f a l h = some (decide (l ≤ a ∧ a ≤ h)) := by
 unfold impl_in.f
 by_cases c : a ≥ l
 ·rw [if_pos c]; simp [c]
 ·rw [if_neg c]
  have : ¬ l ≤ a := by omega
  simp [this]
theorem spec_addr (a : Int) : spec_l1Addr.f a = some (decide (0 ≤ a ∧ a ≤ 4294967295)) := by simp only [spec_l1Addr.f, spec_in, Option.bind_some]
theorem impl_addr (a : Int) : impl_isAddr.f a = some (decide (0 ≤ a ∧ a ≤ 4294967295)) := by simp only [impl_isAddr.f, impl_in, Option.bind_some]
theorem two_loop (n : Nat) : ∀ (k : Nat) (c : Int), n ≤ 62 → n < k → 1 ≤ c → c * 2 ^ n ≤ 4611686018427387904 → spec_l1Two.l0 k (n : Int) c = some (c * 2 ^ n) := by
 induction n with
 | zero =>
  intro k c _ hk _ _
  obtain ⟨k, rfl⟩ : ∃ m, k = m + 1 := ⟨k - 1, by omega⟩
  simp only [spec_l1Two.l0]
  rw [if_neg (by omega)]
  simp
 | succ n ih =>
  intro k c hn hk hc hb
  obtain ⟨k, rfl⟩ : ∃ m, k = m + 1 := ⟨k - 1, by omega⟩
  have e : c * 2 ^ (n + 1) = c * 2 * 2 ^ n := by rw [Int.pow_succ, Int.mul_comm ((2 : Int) ^ n) 2, Int.mul_assoc]
  have hp : (1 : Int) ≤ 2 ^ n := by
   have : (0 : Int) < 2 ^ n := Int.pow_pos (by decide)
   omega
  have hc2 : c * 2 ≤ c * 2 * 2 ^ n := by
   have := Int.mul_le_mul_of_nonneg_left hp (by omega : (0 : Int) ≤ c * 2)
   omega
  simp only [spec_l1Two.l0]
  rw [e] at hb ⊢
  rw [if_pos (by omega), w64 (by omega), w64 (by omega)]
  have : ((n + 1 : Nat) : Int) - 1 = (n : Int) := by omega
  rw [this]
  exact ih k (c * 2) (by omega) (by omega) (by omega) hb
theorem spec_two {n : Int} (h0 : 0 ≤ n) (h1 : n ≤ 62) : (∃ K_, ∀ k, K_ ≤ k → spec_l1Two.f k n = some (2 ^ n.toNat)) := by
 refine ⟨n.toNat + 1, fun k hk => ?_⟩
 have e : (n.toNat : Int) = n := by omega
 have hp : (2 : Int) ^ n.toNat ≤ 2 ^ 62 := by
  exact_mod_cast Nat.pow_le_pow_right (n := 2) (by decide) (by omega : n.toNat ≤ 62)
 have := two_loop n.toNat k 1 (by omega) (by omega) (by omega) (by omega)
 rw [e, Int.one_mul] at this
 exact this
theorem spec_size {m : Int} (h0 : 0 ≤ m) (h1 : m ≤ 32) : (∃ K_, ∀ k, K_ ≤ k → spec_l1Size.f k m = some (sz m)) := by
 obtain ⟨K, h⟩ := spec_two (n := 32 - m) (by omega) (by omega)
 refine ⟨K, fun k hk => ?_⟩
 simp only [spec_l1Size.f]
 rw [w64 (by omega), h k hk]
 rfl
theorem impl_size {b m : Int} (h0 : 0 ≤ m) (h1 : m ≤ 32) : impl_Block_size.f b m = some (sz m) := by
 unfold impl_Block_size.f
 rw [w64 (by omega), if_pos (by omega), shl_sz h0 h1]
theorem tmod_beq {b s : Int} (hb : 0 ≤ b) : (Int.tmod b s == 0) = decide (b % s = 0) := by
 rw [Int.tmod_eq_emod_of_nonneg hb]
 rfl
theorem impl_ok (b m : Int) : impl_BlockOk.f b m = some (bokB b m) := by
 unfold impl_BlockOk.f
 rw [impl_addr, Option.bind_some]
 by_cases c : 0 ≤ b ∧ b ≤ 4294967295
 ·rw [if_pos (by simpa using c), impl_in, Option.bind_some]
  by_cases d : 0 ≤ m ∧ m ≤ 32
  ·rw [if_pos (by simpa using d), impl_size d.1 d.2, Option.bind_some, if_neg (by have := sz_pos m; omega), tmod_beq c.1]
   simp [bokB, bok, c, d]
  ·rw [if_neg (by simpa using d)]
   exact congrArg some (bokB_false.2 (fun h => d ⟨h.2.2.1, h.2.2.2.1⟩)).symm
 ·rw [if_neg (by simpa using c)]
  exact congrArg some (bokB_false.2 (fun h => c ⟨h.1, h.2.1⟩)).symm
theorem spec_ok (b m : Int) : (∃ K_, ∀ k, K_ ≤ k → spec_BlockOk.f k b m = some (bokB b m)) := by
 by_cases c : 0 ≤ b ∧ b ≤ 4294967295
 ·by_cases d : 0 ≤ m ∧ m ≤ 32
  ·obtain ⟨K, h⟩ := spec_size d.1 d.2
   refine ⟨K, fun k hk => ?_⟩
   simp only [spec_BlockOk.f]
   rw [spec_addr, Option.bind_some, if_pos (by simpa using c), spec_in, Option.bind_some, if_pos (by simpa using d), h k hk, Option.bind_some, if_neg (by have := sz_pos m; omega), tmod_beq c.1]
   simp [bokB, bok, c, d]
  ·refine ⟨0, fun k _ => ?_⟩
   simp only [spec_BlockOk.f]
   rw [spec_addr, Option.bind_some, if_pos (by simpa using c), spec_in, Option.bind_some, if_neg (by simpa using d)]
   exact congrArg some (bokB_false.2 (fun h => d ⟨h.2.2.1, h.2.2.2.1⟩)).symm
 ·refine ⟨0, fun k _ => ?_⟩
  simp only [spec_BlockOk.f]
  rw [spec_addr, Option.bind_some, if_neg (by simpa using c)]
  exact congrArg some (bokB_false.2 (fun h => c ⟨h.1, h.2.1⟩)).symm
theorem sz_bd {m : Int} (h0 : 0 ≤ m) : 1 ≤ sz m ∧ sz m ≤ 4294967296 := ⟨sz_pos m, sz_top h0⟩
theorem impl_last {b m : Int} (hb0 : 0 ≤ b) (hb1 : b ≤ 4611686018427387904) (h0 : 0 ≤ m) (h1 : m ≤ 32) : impl_Block_last.f b m = some (b + sz m - 1) := by
 have := sz_bd h0
 unfold impl_Block_last.f
 rw [impl_size h0 h1, Option.bind_some, w64 (n := b + sz m) (by omega), w64 (by omega)]
theorem spec_last {b m : Int} (hb0 : -1 ≤ b) (hb1 : b ≤ 4611686018427387904) (h0 : 0 ≤ m) (h1 : m ≤ 32) : (∃ K_, ∀ k, K_ ≤ k → spec_l1Last.f k b m = some (b + sz m - 1)) := by
 have := sz_bd h0
 obtain ⟨K, h⟩ := spec_size h0 h1
 refine ⟨K, fun k hk => ?_⟩
 simp only [spec_l1Last.f]
 rw [h k hk, Option.bind_some, w64 (n := b + sz m) (by omega), w64 (by omega)]
/-- Is an address in a block? -/
def hasB (b m a : Int) : Bool := decide (b ≤ a ∧ a ≤ b + sz m - 1)
theorem impl_has {b m : Int} (a : Int) (hb0 : 0 ≤ b) (hb1 : b ≤ 4611686018427387904) (h0 : 0 ≤ m) (h1 : m ≤ 32) : impl_Block_has.f b m a = some (hasB b m a) := by
 unfold impl_Block_has.f
 rw [impl_last hb0 hb1 h0 h1, Option.bind_some, impl_in, Option.bind_some]
 rfl
abbrev P2 := Int × Int
def inS (L : List P2) (x : Int) : Prop := ∃ s ∈ L, s.1 ≤ x ∧ x ≤ s.2
def Full (L : List P2) : Prop := ∀ s ∈ L, s.1 ≤ s.2
/-- In order, none empty, none beside another one. -/
structure Can (L : List P2) : Prop where
 full : Full L
 sorted : L.Pairwise fun s t => s.2 + 1 < t.1
theorem Can.tail {s : P2} {L : List P2} (h : Can (s :: L)) : Can L := ⟨fun t ht => h.full t (List.mem_cons_of_mem _ ht), (List.pairwise_cons.1 h.sorted).2⟩
theorem Can.head {s : P2} {L : List P2} (h : Can (s :: L)) : s.1 ≤ s.2 ∧ ∀ t ∈ L, s.2 + 1 < t.1 := ⟨h.full s (List.mem_cons_self ..), (List.pairwise_cons.1 h.sorted).1⟩
theorem Can.cons {s : P2} {L : List P2} (h : Can L) (h1 : s.1 ≤ s.2) (h2 : ∀ t ∈ L, s.2 + 1 < t.1) : Can (s :: L) :=
 ⟨fun t ht => (List.mem_cons.1 ht).elim (fun e => e ▸ h1) (h.full t), List.pairwise_cons.2 ⟨h2, h.sorted⟩⟩
theorem inS_cons {s : P2} {L : List P2} {x : Int} : inS (s :: L) x ↔ (s.1 ≤ x ∧ x ≤ s.2) ∨ inS L x := by
 unfold inS
 constructor
 ·rintro ⟨t, ht, h⟩
  rcases List.mem_cons.1 ht with rfl | ht
  ·exact .inl h
  ·exact .inr ⟨t, ht, h⟩
 ·rintro (h | ⟨t, ht, h⟩)
  ·exact ⟨s, List.mem_cons_self .., h⟩
  ·exact ⟨t, List.mem_cons_of_mem _ ht, h⟩
theorem inS_nil {x : Int} : ¬ inS [] x := fun ⟨_, h, _⟩ => by cases h
theorem can_ext : ∀ {L M : List P2}, Can L → Can M → (∀ x, inS L x ↔ inS M x) → L = M
 | [], [], _, _, _ => rfl
 | [], t :: M, _, hm, h => absurd ((h t.1).2 ⟨t, List.mem_cons_self .., Int.le_refl _, hm.head.1⟩) inS_nil
 | s :: L, [], hl, _, h => absurd ((h s.1).1 ⟨s, List.mem_cons_self .., Int.le_refl _, hl.head.1⟩) inS_nil
 | (a, b) :: L, (c, d) :: M, hl, hm, h => by
  obtain ⟨l1, l2⟩ := hl.head
  obtain ⟨m1, m2⟩ := hm.head
  simp only [] at l1 l2 m1 m2
  have far : ∀ {K : List P2} {e x : Int}, (∀ t ∈ K, e + 1 < t.1) → inS K x → e + 1 < x := fun hk ⟨t, ht, q⟩ => by have := hk t ht; omega
  have low : ∀ {e f x : Int} {K : List P2}, e ≤ f → (∀ t ∈ K, f + 1 < t.1) → inS ((e, f) :: K) x → e ≤ x := fun he hk hx => by
   rcases inS_cons.1 hx with q | q
   ·exact q.1
   ·have := far hk q; omega
  have e1 : a = c := by
   have p := low m1 m2 ((h a).1 (inS_cons.2 (.inl ⟨Int.le_refl _, l1⟩)))
   have q := low l1 l2 ((h c).2 (inS_cons.2 (.inl ⟨Int.le_refl _, m1⟩)))
   omega
  subst e1
  have e2 : b = d := by
   have two : ∀ {b d : Int} {L M : List P2}, a ≤ b → a ≤ d → (∀ t ∈ L, b + 1 < t.1) → (∀ x, inS ((a, d) :: M) x → inS ((a, b) :: L) x) → d ≤ b := fun {b d L M} hb hd hk hx => by
    rcases Int.lt_or_le b d with q | q
    ·rcases inS_cons.1 (hx (b + 1) (inS_cons.2 (.inl ⟨by omega, by omega⟩))) with r | r
     ·simp only [] at r; omega
     ·have := far hk r; omega
    ·exact q
   have p := two l1 m1 l2 (fun x hx => (h x).2 hx)
   have q := two m1 l1 m2 (fun x hx => (h x).1 hx)
   omega
  subst e2
  congr 1
  refine can_ext hl.tail hm.tail fun x => ?_
  constructor
  ·intro hx
   rcases inS_cons.1 ((h x).1 (inS_cons.2 (.inr hx))) with q | q
   ·have := far l2 hx; simp only [] at q; omega
   ·exact q
  ·intro hx
   rcases inS_cons.1 ((h x).2 (inS_cons.2 (.inr hx))) with q | q
   ·have := far m2 hx; simp only [] at q; omega
   ·exact q
def mrg : P2 → List P2 → List P2
 | c, [] => [c]
 | c, s :: l => if s.1 ≤ c.2 + 1 then mrg (c.1, mx c.2 s.2) l else c :: mrg s l
def mergeF : List P2 → List P2
 | [] => []
 | s :: l => mrg s l
theorem mx_le (a b : Int) : a ≤ mx a b ∧ b ≤ mx a b ∧ (mx a b = a ∨ mx a b = b) := by unfold mx; split <;> omega
theorem mrg_spec : ∀ (l : List P2) (c : P2), c.1 ≤ c.2 → Full l → (c :: l).Pairwise (fun s t => s.1 ≤ t.1) → Can (mrg c l) ∧ (∀ x, inS (mrg c l) x ↔ inS (c :: l) x) ∧ (∀ t ∈ mrg c l, c.1 ≤ t.1)
 | [], c, hc, _, _ => ⟨⟨fun t ht => by rw [List.mem_singleton.1 ht]; exact hc, List.pairwise_singleton _ _⟩, fun x => Iff.rfl, fun t ht => by rw [List.mem_singleton.1 ht]; exact Int.le_refl _⟩
 | s :: l, c, hc, hf, hp => by
  have hs := hf s (List.mem_cons_self ..)
  have hl : Full l := fun t ht => hf t (List.mem_cons_of_mem _ ht)
  obtain ⟨p1, p2⟩ := List.pairwise_cons.1 hp
  obtain ⟨p3, p4⟩ := List.pairwise_cons.1 p2
  have hcs := p1 s (List.mem_cons_self ..)
  obtain ⟨x1, x2, x3⟩ := mx_le c.2 s.2
  unfold mrg
  split
  ·rename_i h
   obtain ⟨r1, r2, r3⟩ := mrg_spec l (c.1, mx c.2 s.2) (by simp only []; omega) hl (List.pairwise_cons.2 ⟨fun t ht => p1 t (List.mem_cons_of_mem _ ht), p4⟩)
   refine ⟨r1, fun x => ?_, r3⟩
   rw [r2, inS_cons, inS_cons, inS_cons, ← or_assoc]
   refine or_congr ?_ Iff.rfl
   simp only []
   constructor
   ·intro q
    by_cases c1 : x ≤ c.2
    ·exact .inl ⟨q.1, c1⟩
    ·exact .inr ⟨by omega, by rcases x3 with e | e <;> omega⟩
   ·rintro (q | q) <;> exact ⟨by omega, by omega⟩
  ·rename_i h
   obtain ⟨r1, r2, r3⟩ := mrg_spec l s hs hl p2
   refine ⟨r1.cons hc (fun t ht => by have := r3 t ht; omega), fun x => ?_, fun t ht => ?_⟩
   ·rw [inS_cons, r2, inS_cons (s := c)]
   ·rcases List.mem_cons.1 ht with rfl | ht
    ·exact Int.le_refl _
    ·have := r3 t ht; omega
theorem merge_spec {l : List P2} (hf : Full l) (hp : l.Pairwise (fun s t => s.1 ≤ t.1)) : Can (mergeF l) ∧ ∀ x, inS (mergeF l) x ↔ inS l x := by
 cases l with
 | nil => exact ⟨⟨fun t ht => (by cases ht), List.Pairwise.nil⟩, fun x => Iff.rfl⟩
 | cons s l =>
  obtain ⟨h1, h2, _⟩ := mrg_spec l s (hf s (List.mem_cons_self ..)) (fun t ht => hf t (List.mem_cons_of_mem _ ht)) hp
  exact ⟨h1, h2⟩
theorem mrg_len : ∀ (l : List P2) (c : P2), (mrg c l).length ≤ l.length + 1
 | [], _ => Nat.le_refl _
 | s :: l, c => by
  unfold mrg
  split
  ·have := mrg_len l (c.1, mx c.2 s.2); simp only [List.length_cons]; omega
  ·have := mrg_len l s; simp only [List.length_cons]; omega
theorem merge_len (l : List P2) : (mergeF l).length ≤ l.length := by
 cases l with
 | nil => exact Nat.le_refl _
 | cons s l => exact mrg_len l s
def insP (x : P2) : List P2 → List P2
 | [] => [x]
 | y :: l => if y.1 < x.1 then y :: insP x l else x :: y :: l
def isort (l : List P2) : List P2 := l.foldl (fun acc x => insP x acc) []
theorem insP_perm (x : P2) : ∀ l : List P2, (insP x l).Perm (x :: l)
 | [] => List.Perm.refl _
 | y :: l => by
  unfold insP
  split
  ·exact ((insP_perm x l).cons y).trans (List.Perm.swap x y l)
  ·exact List.Perm.refl _
theorem insP_sorted {x : P2} : ∀ {l : List P2}, l.Pairwise (fun s t => s.1 ≤ t.1) → (insP x l).Pairwise (fun s t => s.1 ≤ t.1)
 | [], _ => List.pairwise_singleton _ _
 | y :: l, h => by
  obtain ⟨h1, h2⟩ := List.pairwise_cons.1 h
  unfold insP
  split
  ·rename_i c
   refine List.pairwise_cons.2 ⟨fun t ht => ?_, insP_sorted h2⟩
   rcases List.mem_cons.1 ((insP_perm x l).mem_iff.1 ht) with rfl | ht
   ·omega
   ·exact h1 t ht
  ·rename_i c
   refine List.pairwise_cons.2 ⟨fun t ht => ?_, h⟩
   rcases List.mem_cons.1 ht with rfl | ht
   ·omega
   ·have := h1 t ht; omega
theorem isort_go : ∀ (l acc : List P2), acc.Pairwise (fun s t => s.1 ≤ t.1) → (l.foldl (fun acc x => insP x acc) acc).Pairwise (fun s t => s.1 ≤ t.1) ∧ (l.foldl (fun acc x => insP x acc) acc).Perm (acc ++ l)
 | [], acc, h => ⟨h, by rw [List.append_nil]; exact List.Perm.refl _⟩
 | x :: l, acc, h => by
  obtain ⟨h1, h2⟩ := isort_go l (insP x acc) (insP_sorted h)
  refine ⟨h1, h2.trans ?_⟩
  refine ((insP_perm x acc).append_right l).trans ?_
  exact List.perm_middle.symm
theorem isort_spec (l : List P2) : (isort l).Pairwise (fun s t => s.1 ≤ t.1) ∧ (isort l).Perm l := isort_go l [] List.Pairwise.nil
theorem inS_perm {l m : List P2} (h : l.Perm m) {x : Int} : inS l x ↔ inS m x := by
 unfold inS
 constructor
 ·rintro ⟨s, hs, q⟩; exact ⟨s, h.mem_iff.1 hs, q⟩
 ·rintro ⟨s, hs, q⟩; exact ⟨s, h.mem_iff.2 hs, q⟩
theorem Full.perm {l m : List P2} (h : l.Perm m) (hf : Full m) : Full l := fun s hs => hf s (h.mem_iff.1 hs)
/-- The one form of some spans. -/
def canF (l : List P2) : List P2 := mergeF (isort l)
theorem canF_spec {l : List P2} (hf : Full l) : Can (canF l) ∧ ∀ x, inS (canF l) x ↔ inS l x := by
 obtain ⟨h1, h2⟩ := isort_spec l
 obtain ⟨h3, h4⟩ := merge_spec (hf.perm h2) h1
 exact ⟨h3, fun x => (h4 x).trans (inS_perm h2)⟩
theorem canF_sorted {l m : List P2} (hf : Full l) (hp : l.Perm m) (hs : l.Pairwise (fun s t => s.1 ≤ t.1)) : mergeF l = canF m := by
 obtain ⟨h1, h2⟩ := merge_spec hf hs
 obtain ⟨h3, h4⟩ := canF_spec (hf.perm hp.symm)
 exact can_ext h1 h3 fun x => (h2 x).trans ((inS_perm hp).trans (h4 x).symm)
theorem canF_len (l : List P2) : (canF l).length ≤ l.length := by
 have := merge_len (isort l)
 rw [(isort_spec l).2.length_eq] at this
 exact this
/-- Bounds are kept. -/
theorem inS_bd {L : List P2} (hf : Full L) {m M : Int} (h : ∀ x, inS L x → m ≤ x ∧ x ≤ M) : ∀ s ∈ L, m ≤ s.1 ∧ s.2 ≤ M := fun s hs => by
 have := hf s hs
 exact ⟨(h s.1 ⟨s, hs, Int.le_refl _, this⟩).1, (h s.2 ⟨s, hs, this, Int.le_refl _⟩).2⟩
abbrev Bl := S40
def okM (a t : Int) (m : Int) : Prop := a % sz m = 0 ∧ a + sz m - 1 ≤ t
instance (a t m : Int) : Decidable (okM a t m) := by unfold okM; infer_instance
theorem okM.up {a t m n : Int} (h : okM a t m) (hn : m ≤ n) : okM a t n := by
 have h1 := sz_le hn
 exact ⟨Int.emod_eq_zero_of_dvd (Int.dvd_trans (sz_dvd hn) (Int.dvd_of_emod_eq_zero h.1)), by have := h.2; omega⟩
theorem okM_top {a t : Int} (h : a ≤ t) : okM a t 32 := by
 refine ⟨?_, ?_⟩
 ·rw [sz_32]; exact Int.emod_one a
 ·rw [sz_32]; omega
def dnM (a t : Int) : Nat → Nat
 | 0 => 0
 | m + 1 => if okM a t (m : Int) then dnM a t m else m + 1
theorem dnM_spec {a t : Int} : ∀ n : Nat, okM a t (n : Int) → okM a t (dnM a t n : Int) ∧ dnM a t n ≤ n ∧ ∀ m : Nat, m < dnM a t n → ¬ okM a t (m : Int)
 | 0, h => ⟨h, Nat.le_refl _, fun m hm => absurd hm (by simp [dnM])⟩
 | n + 1, h => by
  unfold dnM
  split
  ·rename_i c
   obtain ⟨h1, h2, h3⟩ := dnM_spec n c
   exact ⟨h1, by omega, h3⟩
  ·rename_i c
   exact ⟨h, Nat.le_refl _, fun m hm q => c (q.up (by omega))⟩
def bitsM (a t : Int) : Nat := dnM a t 32
theorem bitsM_spec {a t : Int} (h : a ≤ t) : okM a t (bitsM a t : Int) ∧ bitsM a t ≤ 32 ∧ ∀ m : Nat, m < bitsM a t → ¬ okM a t (m : Int) := dnM_spec 32 (okM_top h)
theorem bitsM_eq {a t : Int} {m : Nat} (h : a ≤ t) (h1 : okM a t (m : Int)) (h2 : ∀ q : Nat, q < m → ¬ okM a t (q : Int)) : bitsM a t = m := by
 obtain ⟨k1, k2, k3⟩ := bitsM_spec h
 rcases Nat.lt_trichotomy (bitsM a t) m with q | q | q
 ·exact absurd k1 (h2 _ q)
 ·exact q
 ·exact absurd h1 (k3 _ q)
def covN : Nat → Int → Int → List Bl
 | 0, _, _ => []
 | n + 1, a, t => if a ≤ t then ⟨a, (bitsM a t : Int)⟩ :: covN n (a + sz (bitsM a t : Int)) t else []
def covF (a t : Int) : List Bl := covN (t - a + 1).toNat a t
theorem covN_fuel {t : Int} : ∀ (n m : Nat) (a : Int), (t - a + 1).toNat ≤ n → (t - a + 1).toNat ≤ m → covN n a t = covN m a t
 | 0, 0, _, _, _ => rfl
 | 0, m + 1, a, h, _ => by unfold covN; rw [if_neg (by omega)]
 | n + 1, 0, a, _, h => by unfold covN; rw [if_neg (by omega)]
 | n + 1, m + 1, a, h, h' => by
  unfold covN
  split
  ·have := sz_pos (bitsM a t : Int)
   rw [covN_fuel n m _ (by omega) (by omega)]
  ·rfl
theorem covF_step {a t : Int} (h : a ≤ t) : covF a t = ⟨a, (bitsM a t : Int)⟩ :: covF (a + sz (bitsM a t : Int)) t := by
 have := sz_pos (bitsM a t : Int)
 unfold covF
 obtain ⟨n, hn⟩ : ∃ n, (t - a + 1).toNat = n + 1 := ⟨(t - a + 1).toNat - 1, by omega⟩
 rw [hn]
 conv => lhs; unfold covN
 rw [if_pos h, covN_fuel n _ _ (by omega) (Nat.le_refl _)]
theorem covF_end {a t : Int} (h : t < a) : covF a t = [] := by
 unfold covF
 rw [show (t - a + 1).toNat = 0 by omega]
 rfl
def spanP (b : Bl) : P2 := (b.f0, b.f0 + sz b.f1 - 1)
def spansP (l : List Bl) : List P2 := l.map spanP
theorem spansP_full (l : List Bl) : Full (spansP l) := fun s hs => by
 obtain ⟨b, _, rfl⟩ := List.mem_map.1 hs
 have := sz_pos b.f1
 show b.f0 ≤ b.f0 + sz b.f1 - 1
 omega
/-- How many there can be. -/
theorem cov_small {t : Int} : ∀ (j : Nat) (a : Int), j ≤ 32 → a % sz (32 - (j : Int)) = 0 → t - a + 1 < sz (32 - (j : Int)) → (covF a t).length ≤ j
 | 0, a, _, _, h => by
  have h1 : sz (32 - ((0 : Nat) : Int)) = 1 := rfl
  rw [h1] at h
  rw [covF_end (by omega)]
  exact Nat.le_refl _
 | j + 1, a, hj, hd, hr => by
  have e : (32 - ((j + 1 : Nat) : Int)) + 1 = 32 - (j : Int) := by omega
  have hh := sz_half (m := 32 - ((j + 1 : Nat) : Int)) (by omega)
  rw [e] at hh
  have hp := sz_pos (32 - (j : Int))
  have hd2 : a % sz (32 - (j : Int)) = 0 := Int.emod_eq_zero_of_dvd (Int.dvd_trans (sz_dvd (m := 32 - ((j + 1 : Nat) : Int)) (by omega)) (Int.dvd_of_emod_eq_zero hd))
  by_cases c : t - a + 1 < sz (32 - (j : Int))
  ·have := cov_small j a (by omega) hd2 c
   omega
  ·have hb : bitsM a t = 32 - j := by
    have e2 : ((32 - j : Nat) : Int) = 32 - (j : Int) := by omega
    refine bitsM_eq (by omega) (by rw [e2]; exact ⟨hd2, by omega⟩) (fun q hq h => ?_)
    have := (h.up (n := 32 - ((j + 1 : Nat) : Int)) (by omega)).2
    omega
   have e2 : ((bitsM a t : Nat) : Int) = 32 - (j : Int) := by omega
   rw [covF_step (by omega), e2]
   have := cov_small (t := t) j (a + sz (32 - (j : Int))) (by omega) (by rw [Int.add_emod_right]; exact hd2) (by omega)
   simp only [List.length_cons]
   omega
theorem cov_len {t : Int} (ht : t ≤ 4294967295) : ∀ (d : Nat) (a : Int), d ≤ 32 → 0 ≤ a → a % sz (d : Int) = 0 → (covF a t).length ≤ 32 + d
 | 0, a, _, h0, hd => by
  have h1 : sz ((0 : Nat) : Int) = 4294967296 := rfl
  rw [h1] at hd
  by_cases c : a ≤ t
  ·have e : a = 0 := by omega
   subst e
   by_cases c2 : t = 4294967295
   ·subst c2
    rw [covF_step (by omega), show ((bitsM 0 4294967295 : Nat) : Int) = 0 from ?_]
    ·rw [covF_end (by have h1 : sz 0 = 4294967296 := rfl; omega)]
     simp
    ·have : bitsM 0 4294967295 = 0 := bitsM_eq (by omega) ⟨by decide, by have h1 : sz ((0 : Nat) : Int) = 4294967296 := rfl; omega⟩ (fun q hq => absurd hq (by omega))
     rw [this]; rfl
   ·exact cov_small 32 0 (by omega) (by simp) (by have h1 : sz (32 - ((32 : Nat) : Int)) = 4294967296 := rfl; omega)
  ·rw [covF_end (by omega)]
   simp
 | d + 1, a, hd1, h0, hd => by
  have hh := sz_half (m := (d : Int)) (by omega)
  have e : (d : Int) + 1 = ((d + 1 : Nat) : Int) := by omega
  rw [e] at hh
  have hp := sz_pos ((d + 1 : Nat) : Int)
  by_cases c : a % sz (d : Int) = 0
  ·have := cov_len ht d a (by omega) h0 c
   omega
  ·by_cases c2 : t - a + 1 < sz ((d + 1 : Nat) : Int)
   ·have := cov_small (t := t) (32 - (d + 1)) a (by omega) (by rw [show 32 - ((32 - (d + 1) : Nat) : Int) = ((d + 1 : Nat) : Int) by omega]; exact hd) (by rw [show 32 - ((32 - (d + 1) : Nat) : Int) = ((d + 1 : Nat) : Int) by omega]; exact c2)
    omega
   ·have hb : bitsM a t = d + 1 := bitsM_eq (by omega) ⟨hd, by omega⟩ (fun q hq h => c (h.up (n := (d : Int)) (by omega)).1)
    rw [covF_step (by omega), hb]
    obtain ⟨z, hz⟩ := Int.dvd_of_emod_eq_zero hd
    have ho : (a + sz ((d + 1 : Nat) : Int)) % sz (d : Int) = 0 := by
     rcases Int.emod_two_eq z with hz2 | hz2
     ·exfalso
      apply c
      obtain ⟨y, rfl⟩ := Int.dvd_of_emod_eq_zero hz2
      rw [hz, hh]
      refine Int.emod_eq_zero_of_dvd ⟨y, ?_⟩
      rw [← Int.mul_assoc, Int.mul_comm 2]
     ·obtain ⟨y, hy⟩ : ∃ y, z = 2 * y + 1 := ⟨z / 2, by omega⟩
      rw [hz, hh, hy]
      refine Int.emod_eq_zero_of_dvd ⟨y + 1, ?_⟩
      rw [Int.mul_add, Int.mul_add, Int.mul_one, Int.mul_one, ← Int.mul_assoc, Int.mul_comm 2, Int.add_assoc]
      omega
    have := cov_len ht d (a + sz ((d + 1 : Nat) : Int)) (by omega) (by omega) ho
    simp only [List.length_cons]
    omega
theorem covF_len {a t : Int} (h0 : 0 ≤ a) (ht : t ≤ 4294967295) : (covF a t).length ≤ 64 := cov_len ht 32 a (by omega) h0 (by rw [show sz ((32 : Nat) : Int) = 1 from rfl]; exact Int.emod_one a)
/-- The blocks of spans. -/
def coverF (L : List P2) : List Bl := L.flatMap fun s => covF s.1 s.2
def InB (L : List P2) : Prop := ∀ s ∈ L, 0 ≤ s.1 ∧ s.2 ≤ 4294967295
theorem cover_len {L : List P2} (hb : InB L) : (coverF L).length ≤ 64 * L.length := by
 induction L with
 | nil => simp [coverF]
 | cons s L ih =>
  have h1 := covF_len (hb s (List.mem_cons_self ..)).1 (hb s (List.mem_cons_self ..)).2
  have h2 := ih (fun u hu => hb u (List.mem_cons_of_mem _ hu))
  unfold coverF at h2 ⊢
  rw [List.flatMap_cons, List.length_append, List.length_cons]
  omega
theorem bl_ext {a b : Bl} (h : a.f0 = b.f0 ∧ a.f1 = b.f1) : a = b := by
 cases a; cases b
 obtain ⟨h1, h2⟩ := h
 simp only [] at h1 h2
 rw [h1, h2]
instance : DecidableEq Bl := fun a b => decidable_of_iff (a.f0 = b.f0 ∧ a.f1 = b.f1) ⟨bl_ext, fun h => by rw [h]; exact ⟨rfl, rfl⟩⟩
def setF (l : List Bl) : List Bl := coverF (canF (spansP l))
def okB (l : List Bl) : Bool := decide (l.length ≤ 64) && l.all fun b => bokB b.f0 b.f1
def sokB (l : List Bl) : Bool := okB l && decide (setF l = l)
theorem okB_iff {l : List Bl} : okB l = true ↔ l.length ≤ 64 ∧ ∀ b ∈ l, bok b.f0 b.f1 := by
 unfold okB
 rw [Bool.and_eq_true, decide_eq_true_eq, List.all_eq_true]
 simp only [bokB_true]
theorem spans_in {l : List Bl} (h : ∀ b ∈ l, bok b.f0 b.f1) : InB (spansP l) := fun s hs => by
 obtain ⟨b, hb, rfl⟩ := List.mem_map.1 hs
 have h1 := h b hb
 have := h1.last
 exact ⟨h1.1, by show b.f0 + sz b.f1 - 1 ≤ 4294967295; omega⟩
theorem canF_in {L : List P2} (hf : Full L) (hb : InB L) : InB (canF L) := by
 obtain ⟨h1, h2⟩ := canF_spec hf
 refine inS_bd h1.full fun x hx => ?_
 obtain ⟨s, hs, q⟩ := (h2 x).1 hx
 have := hb s hs
 omega
theorem canSp {l : List Bl} (h : ∀ b ∈ l, bok b.f0 b.f1) : Can (canF (spansP l)) ∧ InB (canF (spansP l)) := ⟨(canF_spec (spansP_full l)).1, canF_in (spansP_full l) (spans_in h)⟩
theorem sok_iff {l : List Bl} : sokB l = true ↔ l.length ≤ 64 ∧ (∀ b ∈ l, bok b.f0 b.f1) ∧ setF l = l := by
 unfold sokB
 rw [Bool.and_eq_true, decide_eq_true_eq, okB_iff, and_assoc]
/-- Bytes that are drawn from. -/
def Bytes (s : List Int) : Prop := (∀ x ∈ s, 0 ≤ x ∧ x ≤ 255) ∧ s.length ≤ 2000
theorem rd_byte {s : List Int} (h : Bytes s) (i : Int) : 0 ≤ rd s i ∧ rd s i ≤ 255 := by
 unfold rd
 rw [List.getD_eq_getElem?_getD]
 cases e : s[i.toNat]? with
 | none => simp
 | some x => simpa using h.1 x (List.mem_of_getElem? e)
theorem pick_aux (k : Nat) (s : List Int) (p n : Int) (hs : Bytes s) (hp0 : 0 ≤ p) (hp1 : p ≤ 1000000000000) (hn0 : 1 ≤ n) (hn1 : n ≤ 2147483648) :
  ∃ v, spec_l1Rd_pick.f (k + 1) s p n = some (v, p + 1) ∧ 0 ≤ v ∧ v < n := by
 have e1 : wrap64 (p + 1) = p + 1 := w64 (by omega)
 have e2 : wrap64 (p + 1 - 1) = p := by rw [w64 (by omega)]; omega
 unfold spec_l1Rd_pick.f
 rw [if_neg (by omega), e1]
 simp only [spec_l1Rd_pick.j0, e2]
 by_cases h0 : (s.length : Int) = 0
 ·rw [if_pos (beq_iff_eq.2 h0)]
  exact ⟨0, rfl, by omega, by omega⟩
 ·rw [if_neg (fun h => h0 (beq_iff_eq.1 h))]
  have hl := hs.2
  by_cases h1 : p < (s.length : Int)
  ·rw [if_pos h1, if_pos hp0, if_neg (by omega)]
   have hb := rd_byte hs p
   rw [w64 (by omega), Int.tmod_eq_emod_of_nonneg (by omega)]
   exact ⟨_, rfl, Int.emod_nonneg _ (by omega), Int.emod_lt_of_pos _ (by omega)⟩
  ·have e3 : wrap64 (p * 7) = p * 7 := w64 (by omega)
   have e4 : wrap64 (p * 7 + 3) = p * 7 + 3 := w64 (by omega)
   have e5 : wrap64 (p * 29) = p * 29 := w64 (by omega)
   have d1 : Int.tmod p (s.length : Int) = p % (s.length : Int) := Int.tmod_eq_emod_of_nonneg hp0
   have d2 : Int.tmod (p * 7 + 3) (s.length : Int) = (p * 7 + 3) % (s.length : Int) := Int.tmod_eq_emod_of_nonneg (by omega)
   have d3 : Int.tdiv p (s.length : Int) = p / (s.length : Int) := Int.tdiv_eq_ediv_of_nonneg hp0
   have q0 : 0 ≤ p / (s.length : Int) := Int.ediv_nonneg hp0 (by omega)
   have q1 : p / (s.length : Int) ≤ p := Int.ediv_le_self _ hp0
   have r0 := Int.emod_nonneg p h0
   have r1 := Int.emod_lt_of_pos p (by omega : 0 < (s.length : Int))
   have r2 := Int.emod_nonneg (p * 7 + 3) h0
   have r3 := Int.emod_lt_of_pos (p * 7 + 3) (by omega : 0 < (s.length : Int))
   have b1 := rd_byte hs (p % (s.length : Int))
   have b2 := rd_byte hs ((p * 7 + 3) % (s.length : Int))
   have c1 : wrap64 (rd s (p % (s.length : Int))) = rd s (p % (s.length : Int)) := w64 (by omega)
   have c2 : wrap64 (rd s ((p * 7 + 3) % (s.length : Int))) = rd s ((p * 7 + 3) % (s.length : Int)) := w64 (by omega)
   have c3 : wrap64 (p / (s.length : Int)) = p / (s.length : Int) := w64 (by omega)
   have e6 : wrap64 (p / (s.length : Int) * 53) = p / (s.length : Int) * 53 := w64 (by omega)
   have e7 : wrap64 (rd s (p % (s.length : Int)) * 131) = rd s (p % (s.length : Int)) * 131 := w64 (by omega)
   have e8 : wrap64 (rd s ((p * 7 + 3) % (s.length : Int)) * 1117) = rd s ((p * 7 + 3) % (s.length : Int)) * 1117 := w64 (by omega)
   rw [if_neg h1, if_neg h0]
   simp only [d1, d2, d3, e3, e4, c1, c2, c3, e5, e6, e7, e8]
   rw [if_pos r0, if_pos r1, if_pos r2, if_pos r3, if_neg (by omega)]
   generalize rd s (p % (s.length : Int)) = x at *
   generalize rd s ((p * 7 + 3) % (s.length : Int)) = y at *
   generalize p / (s.length : Int) = z at *
   have f1 : wrap64 (x * 131 + y * 1117) = x * 131 + y * 1117 := w64 (by omega)
   have f2 : wrap64 (x * 131 + y * 1117 + p * 29) = x * 131 + y * 1117 + p * 29 := w64 (by omega)
   have f3 : wrap64 (x * 131 + y * 1117 + p * 29 + z * 53) = x * 131 + y * 1117 + p * 29 + z * 53 := w64 (by omega)
   simp only [f1, f2, f3]
   generalize hX : x * 131 + y * 1117 + p * 29 + z * 53 = X at *
   have g1 : Int.tdiv X 64 = X / 64 := Int.tdiv_eq_ediv_of_nonneg (by omega)
   have g2 : wrap64 (X / 64) = X / 64 := w64 (by omega)
   rw [g1, g2, i64_xor X (X / 64) (by omega) (by omega) (by omega) (by omega), Int.tmod_eq_emod_of_nonneg (by omega)]
   exact ⟨_, rfl, Int.emod_nonneg _ (by omega), Int.emod_lt_of_pos _ (by omega)⟩
/-- A number is drawn. -/
theorem pick (s : List Int) (p n : Int) (hs : Bytes s) (hp0 : 0 ≤ p) (hp1 : p ≤ 1000000000000) (hn0 : 1 ≤ n) (hn1 : n ≤ 2147483648) :
  ∃ v, (∃ K_, ∀ k, K_ ≤ k → spec_l1Rd_pick.f k s p n = some (v, p + 1)) ∧ 0 ≤ v ∧ v < n := by
 obtain ⟨v, h, h0, h1⟩ := pick_aux 0 s p n hs hp0 hp1 hn0 hn1
 exact ⟨v, Ev.of (spec_l1Rd_pick.mono s p n) h, h0, h1⟩
/-- A number of a list is drawn. -/
theorem one (s : List Int) (p : Int) (l : List Int) (hs : Bytes s) (hp0 : 0 ≤ p) (hp1 : p ≤ 1000000000000) (hl0 : 1 ≤ l.length) (hl1 : l.length ≤ 2147483648) :
  ∃ v, (∃ K_, ∀ k, K_ ≤ k → spec_l1Rd_one.f k s p l = some (v, p + 1)) ∧ v ∈ l := by
 obtain ⟨v, ⟨K, h⟩, h0, h1⟩ := pick s p l.length hs hp0 hp1 (by omega) (by omega)
 refine ⟨rd l v, ⟨K, fun k hk => ?_⟩, ?_⟩
 ·simp only [spec_l1Rd_one.f, h k hk, Option.bind_some]
  rw [if_pos h0, if_pos h1]
 ·unfold rd
  rw [List.getD_eq_getElem?_getD, List.getElem?_eq_getElem (by omega)]
  exact List.getElem_mem _
theorem floor_mem {b s : Int} (hs : 1 ≤ s) : b / s * s ≤ b ∧ b < b / s * s + s := by
 have h1 := Int.ediv_mul_le b (by omega : s ≠ 0)
 have h2 := Int.lt_ediv_add_one_mul_self b (by omega : 0 < s)
 rw [Int.add_mul] at h2
 omega
section
variable {b m c n : Int} (h1 : bok b m) (h2 : bok c n)
include h1 h2
end
theorem shr_sz {b q : Int} (h0 : 0 ≤ q) (h1 : q ≤ 32) : shr .i64 b (32 - q) = b / sz q := by
 have e : min (32 - q).toNat IntKind.i64.bits = (32 - q).toNat := by
  have : IntKind.i64.bits = 64 := rfl
  omega
 unfold shr sz
 rw [e]
theorem shl_floor {x q : Int} (h0 : 0 ≤ q) (h1 : q ≤ 32) (hx0 : 0 ≤ x * sz q) (hx1 : x * sz q ≤ 4294967296) : shl .i64 x (32 - q) = x * sz q := by
 have e : min (32 - q).toNat IntKind.i64.bits = (32 - q).toNat := by
  have : IntKind.i64.bits = 64 := rfl
  omega
 unfold shl
 rw [e, IntKind.wrap_i64]
 unfold sz at *
 omega
theorem impl_around {b q : Int} (hb0 : 0 ≤ b) (hb1 : b ≤ 4294967295) (h0 : 0 ≤ q) (h1 : q ≤ 32) : impl_around.f b q = some (b / sz q * sz q, q) := by
 have hm := floor_mem (b := b) (sz_pos q)
 have hn : 0 ≤ b / sz q * sz q := Int.mul_nonneg (Int.ediv_nonneg hb0 (by have := sz_pos q; omega)) (by have := sz_pos q; omega)
 unfold impl_around.f
 rw [w64 (by omega), if_pos (by omega), shr_sz h0 h1, shl_floor h0 h1 hn (by omega)]
abbrev Sa6 := S68
abbrev Sb7 := S72
def s6 (p : P2) : Sa6 := ⟨p.1, p.2⟩
def s7 (p : P2) : Sb7 := ⟨p.1, p.2⟩
def p6 (s : Sa6) : P2 := (s.f0, s.f1)
theorem map_p6 (l : List Sa6) : (l.map p6).map s6 = l := by rw [List.map_map]; exact List.map_id'' (fun _ => rfl) l
theorem rd_bl (l : List Bl) (n : Nat) (h : n < l.length) : rd_T40 l (n : Int) = l[n] := by
 unfold rd_T40
 rw [List.getD_eq_getElem?_getD, Int.toNat_natCast, List.getElem?_eq_getElem h]
 rfl
theorem rd_s6 (L : List P2) (n : Nat) (h : n < L.length) : rd_T68 (L.map s6) (n : Int) = s6 L[n] := by
 unfold rd_T68
 rw [List.getD_eq_getElem?_getD, Int.toNat_natCast, List.getElem?_map, List.getElem?_eq_getElem h]
 rfl
theorem rd_s7 (L : List P2) (n : Nat) (h : n < L.length) : rd_T72 (L.map s7) (n : Int) = s7 L[n] := by
 unfold rd_T72
 rw [List.getD_eq_getElem?_getD, Int.toNat_natCast, List.getElem?_map, List.getElem?_eq_getElem h]
 rfl
theorem up1 {n : Nat} (h : n ≤ 1000000000) : wrap64 ((n : Int) + 1) = ((n + 1 : Nat) : Int) := by rw [w64 (by omega)]; omega
theorem dn1 {n : Nat} (h : 0 < n) (h2 : n ≤ 1000000000) : wrap64 ((n : Int) - 1) = ((n - 1 : Nat) : Int) := by rw [w64 (by omega)]; omega
theorem impl_spans_loop (l : List Bl) (hv : ∀ b ∈ l, bok b.f0 b.f1) (hl : l.length ≤ 100000) (d : Nat) : ∀ (n : Nat) (acc : List Sa6), n + d = l.length → acc.length + d ≤ 1000000 → (∃ K_, ∀ k, K_ ≤ k → impl_spans.l0 k acc l (l.length : Int) (n : Int) = some (acc ++ (spansP (l.drop n)).map s6)) := by
 induction d with
 | zero =>
  intro n acc hn ha
  refine ev1 ?_
  simp only [impl_spans.l0]
  rw [List.drop_eq_nil_of_le (by omega)]
  exact evN (by omega) (evR (by simp [spansP]))
 | succ d ih =>
  intro n acc hn ha
  have hlt : n < l.length := by omega
  have hb := hv _ (List.getElem_mem hlt)
  have hb1 := hb.2.1
  refine ev1 ?_
  simp only [impl_spans.l0]
  rw [rd_bl l n hlt, up1 (by omega)]
  refine evP (by omega) (evP (by omega) (evP (by omega) (evS (impl_last hb.1 (by omega) hb.2.2.1 hb.2.2.2.1) (evP (by omega) ?_))))
  have := ih (n + 1) (acc ++ [s6 (spanP l[n])]) (by omega) (by simp; omega)
  rw [List.drop_eq_getElem_cons hlt]
  rw [List.append_assoc] at this
  exact this
theorem impl_spans {l : List Bl} (hv : ∀ b ∈ l, bok b.f0 b.f1) (hl : l.length ≤ 100000) : (∃ K_, ∀ k, K_ ≤ k → impl_spans.f k l = some ((spansP l).map s6)) := by
 have := impl_spans_loop l hv hl l.length 0 [] (by omega) (by simp; omega)
 rw [List.drop_zero, List.nil_append] at this
 exact this
theorem union_loop (L : List P2) (hl : L.length ≤ 1000000) (hb : InB L) (hf : Full L) (d : Nat) : ∀ (n : Nat) (D : List P2) (c : P2), n + d = L.length → D.length + d ≤ 10000000 → -1 ≤ c.2 ∧ c.2 ≤ 4294967295 → 
  (∃ K_, ∀ k, K_ ≤ k → impl_union.l0 k ((D ++ [c]).map s6) (L.map s6) (L.length : Int) (n : Int) = some ((D ++ mrg c (L.drop n)).map s6)) := by
 induction d with
 | zero =>
  intro n D c hn hd hc
  refine ev1 ?_
  simp only [impl_union.l0]
  rw [List.drop_eq_nil_of_le (by omega)]
  exact evN (by omega) (evR rfl)
 | succ d ih =>
  intro n D c hn hd hc
  have hlt : n < L.length := by omega
  have hs := hb _ (List.getElem_mem hlt)
  have hs2 := hf _ (List.getElem_mem hlt)
  have e1 : ((D ++ [c]).map s6).length = D.length + 1 := by simp
  have e2 : rd_T68 ((D ++ [c]).map s6) ((D.length : Nat) : Int) = s6 c := by rw [rd_s6 _ _ (by simp)]; simp
  have e3 : wrap64 ((((D.length + 1 : Nat)) : Int) - 1) = ((D.length : Nat) : Int) := by rw [dn1 (by omega) (by omega)]; rfl
  have e4 : wrap64 ((s6 c).f1 + 1) = c.2 + 1 := w64 (by show _ ≤ c.2 + 1 ∧ c.2 + 1 ≤ _; omega)
  refine ev1 ?_
  simp only [impl_union.l0]
  rw [e1, e3, e2, e4, up1 (by omega), rd_s6 L n hlt, List.drop_eq_getElem_cons hlt, List.length_map]
  refine evP (by omega) (evP (by omega) (evP (by omega) (evP (by omega) (evP (by omega) (evP (by omega) ?_)))))
  unfold mrg
  refine evI (fun c2 => ?_) (fun c2 => evP (by omega) ?_)
  ·have c2 : L[n].1 ≤ c.2 + 1 := c2
   rw [if_pos c2]
   obtain ⟨x1, x2, x3⟩ := mx_le c.2 L[n].2
   have := ih (n + 1) D (c.1, mx c.2 L[n].2) (by omega) (by omega) ⟨by simp only []; omega, by simp only []; omega⟩
   have e5 : (((D ++ [c]).map s6).set ((D.length : Nat) : Int).toNat ⟨(s6 c).f0, mx (s6 c).f1 (s6 L[n]).f1⟩) = ((D ++ [(c.1, mx c.2 L[n].2)]).map s6) := by
    rw [Int.toNat_natCast, List.map_append, List.set_append_right _ _ (by simp)]
    simp [s6]
   rw [e5]
   exact this
  ·have c2 : ¬ L[n].1 ≤ c.2 + 1 := c2
   rw [if_neg c2]
   have := ih (n + 1) (D ++ [c]) L[n] (by omega) (by simp; omega) (by omega)
   rw [show (D ++ [c]) ++ mrg L[n] (L.drop (n + 1)) = D ++ c :: mrg L[n] (L.drop (n + 1)) by simp] at this
   rw [show (D ++ [c]).map s6 ++ [⟨(s6 L[n]).f0, (s6 L[n]).f1⟩] = ((D ++ [c]) ++ [L[n]]).map s6 by simp [s6]]
   exact this
theorem impl_union {L : List P2} (hf : Full L) (hb : InB L) (hl : L.length ≤ 1000000) : (∃ K_, ∀ k, K_ ≤ k → impl_union.f k (L.map s6) = some ((canF L).map s6)) := by
 obtain ⟨q1, q2⟩ := spSort_spec (L.map s6)
 obtain ⟨M, hM⟩ : ∃ M, M = (spSort (L.map s6)).map p6 := ⟨_, rfl⟩
 have e1 : spSort (L.map s6) = M.map s6 := by rw [hM, map_p6]
 have e2 : M.Perm L := by
  have h := q1.map p6
  rw [← hM, List.map_map] at h
  have e : L.map (p6 ∘ s6) = L := List.map_id'' (fun _ => rfl) L
  rw [e] at h
  exact h
 have e3 : M.Pairwise (fun s t => s.1 ≤ t.1) := by rw [hM, List.pairwise_map]; exact q2
 have hlen := e2.length_eq
 have hf2 : Full M := hf.perm e2
 have hb2 : InB M := fun s hs => hb s (e2.mem_iff.1 hs)
 simp only [impl_union.f, impl_span_98_union_cl1.f]
 rw [← canF_sorted hf2 e2 e3]
 refine evS (a := M.map s6) (by rw [if_pos (by simp; omega), e1]) ?_
 rw [List.length_map]
 cases hc : M with
 | nil =>
  refine ev1 ?_
  simp only [impl_union.l0]
  exact evN (by simp) (evR rfl)
 | cons s T =>
  rw [hc] at hf2 hb2 hlen
  have hs := hb2 s (List.mem_cons_self ..)
  have hs2 := hf2 s (List.mem_cons_self ..)
  have := union_loop (s :: T) (by omega) hb2 hf2 T.length 1 [] s (by simp; omega) (by simp only [List.length_cons, List.length_nil] at *; omega) (by omega)
  refine ev1 ?_
  simp only [impl_union.l0]
  rw [show rd_T68 ((s :: T).map s6) 0 = s6 s from rd_s6 (s :: T) 0 (by simp)]
  refine evP (by simp) (evP (by omega) (evP (by simp) (evN (by simp) (evP (by simp) ?_))))
  rw [show wrap64 ((0 : Int) + 1) = ((1 : Nat) : Int) from by rw [w64 (by omega)]; rfl]
  exact this
theorem al_eq {a : Int} {m : Nat} (h : a % sz (m : Int) = 0) : a / sz (m : Int) * sz (m : Int) = a := by
 have := Int.mul_ediv_add_emod a (sz (m : Int))
 rw [h, Int.add_zero, Int.mul_comm] at this
 exact this
section
variable {a t x : Int} {acc R : List Bl} (h0 : 0 ≤ a) (ht : t ≤ 4294967295) (hl : acc.length ≤ 1000000)
include h0 ht hl
theorem blocks_fin {m : Nat} (hm : m ≤ 32) (h : okM a t (m : Int)) (hk : (∃ K_, ∀ k, K_ ≤ k → impl_span_blocks.l0 k (acc ++ [⟨a, (m : Int)⟩]) (a + sz (m : Int)) x t = some R)) :
  (∃ K_, ∀ k, K_ ≤ k → ((impl_around.f a (m : Int)).bind fun bt => (if acc.length < 8796093022208 then ((some (acc ++ [(⟨bt.1, bt.2⟩ : Bl)])).bind fun y => (if 0 ≤ (wrap64 ((y.length : Int) - 1)) then (if (wrap64 ((y.length : Int) - 1)) < (y.length : Int) then ((impl_Block_last.f ((rd_T40 y (wrap64 ((y.length : Int) - 1))).f0) ((rd_T40 y (wrap64 ((y.length : Int) - 1))).f1)).bind fun t113 => (impl_span_blocks.l0 k y (wrap64 (t113 + 1)) x t)) else none) else none)) else none)) = some R) := by
 have hp := sz_pos (m : Int)
 have h2 := h.2
 have e1 : (acc ++ [(⟨a, (m : Int)⟩ : Bl)]).length = acc.length + 1 := by simp
 have e2 : wrap64 ((((acc ++ [(⟨a, (m : Int)⟩ : Bl)]).length : Nat) : Int) - 1) = ((acc.length : Nat) : Int) := by rw [e1, dn1 (by omega) (by omega)]; rfl
 have e3 : rd_T40 (acc ++ [(⟨a, (m : Int)⟩ : Bl)]) ((acc.length : Nat) : Int) = ⟨a, (m : Int)⟩ := by rw [rd_bl _ _ (by simp)]; simp
 refine evS (impl_around h0 (by omega) (by omega) (by omega)) (evP (by omega) (evS (a := acc ++ [(⟨a, (m : Int)⟩ : Bl)]) (by simp only []; rw [al_eq h.1]) ?_))
 rw [e2, e3, e1]
 refine evP (by omega) (evP (by omega) (evS (impl_last (b := a) (m := (m : Int)) h0 (by omega) (by omega) (by omega)) ?_))
 rw [show wrap64 (a + sz (m : Int) - 1 + 1) = a + sz (m : Int) by rw [Int.sub_add_cancel]; exact w64 (by omega)]
 exact hk
theorem blocks_in : ∀ m : Nat, m ≤ 32 → okM a t (m : Int) → (∃ K_, ∀ k, K_ ≤ k → impl_span_blocks.l0 k (acc ++ [⟨a, ((dnM a t m : Nat) : Int)⟩]) (a + sz ((dnM a t m : Nat) : Int)) x t = some R) → (∃ K_, ∀ k, K_ ≤ k → impl_span_blocks.l1 k acc a (m : Int) x t = some R)
 | 0, hm, h, hk => by
  refine ev1 ?_
  simp only [impl_span_blocks.l1]
  exact evN (by simp) (blocks_fin h0 ht hl hm h hk)
 | m + 1, hm, h, hk => by
  have e0 : wrap64 (((m + 1 : Nat) : Int) - 1) = (m : Int) := by rw [dn1 (by omega) (by omega)]; rfl
  have har := impl_around h0 (show a ≤ 4294967295 by have := h.2; have := sz_pos ((m + 1 : Nat) : Int); omega) (show 0 ≤ (m : Int) by omega) (show (m : Int) ≤ 32 by omega)
  have hp := sz_bd (m := (m : Int)) (by omega)
  refine ev1 ?_
  simp only [impl_span_blocks.l1]
  rw [e0]
  refine evP (by omega) (evS har (evI (fun c => evS har ?_) (fun c => ?_)))
  ·have c : a / sz (m : Int) * sz (m : Int) = a := c
   have hz : a % sz (m : Int) = 0 := by rw [← c]; exact Int.mul_emod_left _ _
   simp only [c]
   have h2 := h.2
   have hp2 := sz_pos ((m + 1 : Nat) : Int)
   refine evS (impl_last h0 (by omega) (by omega) (by omega)) (evI (fun c2 => ?_) (fun c2 => ?_))
   ·have h3 : okM a t (m : Int) := ⟨hz, c2⟩
    unfold dnM at hk
    rw [if_pos h3] at hk
    exact blocks_in m (by omega) h3 hk
   ·have h3 : ¬ okM a t (m : Int) := fun q => c2 q.2
    unfold dnM at hk
    rw [if_neg h3] at hk
    exact blocks_fin h0 ht hl hm h hk
  ·have h3 : ¬ okM a t (m : Int) := fun q => c (al_eq q.1)
   unfold dnM at hk
   rw [if_neg h3] at hk
   exact blocks_fin h0 ht hl hm h hk
end
theorem blocks_out {t x : Int} (ht : t ≤ 4294967295) : ∀ (n : Nat) (a : Int) (acc : List Bl), 0 ≤ a → (t - a + 1).toNat ≤ n → acc.length + (covF a t).length ≤ 1000000 → (∃ K_, ∀ k, K_ ≤ k → impl_span_blocks.l0 k acc a x t = some (acc ++ covF a t)) := by
 intro n
 induction n with
 | zero =>
  intro a acc h0 hn hl
  rw [covF_end (by omega), List.append_nil]
  refine ev1 ?_
  simp only [impl_span_blocks.l0]
  exact evN (by omega) (evR rfl)
 | succ n ih =>
  intro a acc h0 hn hl
  by_cases c : a ≤ t
  ·have hp := sz_pos (bitsM a t : Int)
   rw [covF_step c] at hl ⊢
   simp only [List.length_cons] at hl
   have := ih (a + sz (bitsM a t : Int)) (acc ++ [⟨a, (bitsM a t : Int)⟩]) (by omega) (by omega) (by simp only [List.length_append, List.length_singleton]; omega)
   rw [List.append_assoc] at this
   refine ev1 ?_
   simp only [impl_span_blocks.l0]
   exact evP c (blocks_in h0 ht (by omega) 32 (by omega) (okM_top c) this)
  ·rw [covF_end (by omega), List.append_nil]
   refine ev1 ?_
   simp only [impl_span_blocks.l0]
   exact evN (by omega) (evR rfl)
theorem impl_blocks {a t : Int} (h0 : 0 ≤ a) (ht : t ≤ 4294967295) : (∃ K_, ∀ k, K_ ≤ k → impl_span_blocks.f k a t = some (covF a t)) := by
 have hl := covF_len h0 ht
 simp only [impl_span_blocks.f]
 exact blocks_out ht _ a [] h0 (Nat.le_refl _) (by simp only [List.length_nil]; omega)
theorem set_loop {C : List P2} (hb : InB C) (hl : C.length ≤ 10000) (d : Nat) : ∀ (n : Nat) (acc : List Bl), n + d = C.length → acc.length + 64 * d ≤ 1000000 → (∃ K_, ∀ k, K_ ≤ k → impl_set.l0 k acc (C.map s6) (C.length : Int) (n : Int) = some (acc ++ coverF (C.drop n))) := by
 induction d with
 | zero =>
  intro n acc hn ha
  refine ev1 ?_
  simp only [impl_set.l0]
  rw [List.drop_eq_nil_of_le (by omega)]
  exact evN (by omega) (evR (by simp [coverF]))
 | succ d ih =>
  intro n acc hn ha
  have hlt : n < C.length := by omega
  have hs := hb _ (List.getElem_mem hlt)
  have h64 : (covF (s6 C[n]).f0 (s6 C[n]).f1).length ≤ 64 := covF_len hs.1 hs.2
  have := ih (n + 1) (acc ++ covF (s6 C[n]).f0 (s6 C[n]).f1) (by omega) (by rw [List.length_append]; omega)
  rw [List.append_assoc] at this
  refine ev1 ?_
  simp only [impl_set.l0]
  rw [rd_s6 C n hlt, List.length_map, up1 (by omega), List.drop_eq_getElem_cons hlt]
  exact evP (by omega) (evP (by omega) (evP (by omega) (evB (impl_blocks hs.1 hs.2) (evP (by omega) this))))
theorem impl_setF {L : List P2} (hf : Full L) (hb : InB L) (hl : L.length ≤ 10000) : (∃ K_, ∀ k, K_ ≤ k → impl_set.f k (L.map s6) = some (coverF (canF L))) := by
 have h1 := canF_len L
 have := set_loop (canF_in hf hb) (by omega) (canF L).length 0 [] (by omega) (by simp only [List.length_nil]; omega)
 rw [List.drop_zero, List.nil_append] at this
 simp only [impl_set.f]
 refine evB (impl_union hf hb (by omega)) ?_
 rw [List.length_map]
 exact this
theorem any_badB (l : List Bl) : anyO impl_blocksOk.bad l = some (l.any fun b => !bokB b.f0 b.f1) := by
 induction l with
 | nil => rfl
 | cons x l ih =>
  simp only [anyO, impl_blocksOk.bad]
  rw [impl_ok, Option.bind_some, Option.bind_some, ih]
  cases h : bokB x.f0 x.f1 <;> simp [h]
theorem impl_blocksOk (l : List Bl) : impl_blocksOk.f l = some (okB l) := by
 unfold impl_blocksOk.f okB
 by_cases c : (l.length : Int) ≤ 64
 ·have c2 : l.length ≤ 64 := by omega
  rw [if_pos c, any_badB, Option.bind_some, decide_eq_true c2, Bool.true_and]
  congr 1
  induction l with
  | nil => rfl
  | cons x l ih =>
   simp only [List.any_cons, List.all_cons]
   rw [← ih (by simp only [List.length_cons] at c; omega) (by simp only [List.length_cons] at c2; omega)]
   cases bokB x.f0 x.f1 <;> simp
 ·have c2 : ¬ l.length ≤ 64 := by omega
  rw [if_neg c, decide_eq_false c2, Bool.false_and]
theorem same_loop {l m : List Bl} (he : l.length = m.length) (hl : l.length ≤ 1000000) (d : Nat) : ∀ n : Nat, n + d = l.length → (∃ K_, ∀ k, K_ ≤ k → impl_Block_51.l0 k l m (l.length : Int) (n : Int) = some (decide (l.drop n = m.drop n))) := by
 induction d with
 | zero =>
  intro n hn
  refine ev1 ?_
  simp only [impl_Block_51.l0]
  rw [List.drop_eq_nil_of_le (by omega), List.drop_eq_nil_of_le (by omega)]
  exact evN (by omega) (evR (by simp))
 | succ d ih =>
  intro n hn
  have hlt : n < l.length := by omega
  have hlt2 : n < m.length := by omega
  have := ih (n + 1) (by omega)
  refine ev1 ?_
  simp only [impl_Block_51.l0]
  rw [rd_bl l n hlt, rd_bl m n hlt2, up1 (by omega), List.drop_eq_getElem_cons (l := l) hlt, List.drop_eq_getElem_cons (l := m) hlt2]
  refine evP (by omega) (evP (by omega) (evP (by omega) (evP (by omega) (evI (fun c => evR ?_) (fun c => ?_)))))
  ·have hne : ¬ l[n] = m[n] := fun e => by rw [e] at c; simp at c
   exact (decide_eq_false (fun e => hne (List.cons.inj e).1)).symm
  ·have e : l[n] = m[n] := by
    refine bl_ext ?_
    simpa using c
   rw [e]
   rw [show decide (m[n] :: l.drop (n + 1) = m[n] :: m.drop (n + 1)) = decide (l.drop (n + 1) = m.drop (n + 1)) from decide_eq_decide.2 ⟨fun h => (List.cons.inj h).2, fun h => by rw [h]⟩]
   exact this
theorem impl_same (l m : List Bl) (hl : l.length ≤ 1000000) : (∃ K_, ∀ k, K_ ≤ k → impl_Block_51.f k l m = some (decide (l = m))) := by
 simp only [impl_Block_51.f]
 refine evI (fun c => ?_) (fun c => evR ?_)
 ·have := same_loop (l := l) (m := m) (by omega) hl l.length 0 (by omega)
  rw [List.drop_zero, List.drop_zero] at this
  exact this
 ·exact (decide_eq_false (fun e => c (by rw [e]))).symm
theorem setF_len {l : List Bl} (h : okB l = true) : (setF l).length ≤ 4096 := by
 obtain ⟨h1, h2⟩ := okB_iff.1 h
 have := cover_len (canSp h2).2
 have h3 := canF_len (spansP l)
 have h4 : (spansP l).length = l.length := by simp [spansP]
 unfold setF
 omega
theorem impl_setOk (l : List Bl) : (∃ K_, ∀ k, K_ ≤ k → impl_SetOk.f k l = some (sokB l)) := by
 simp only [impl_SetOk.f]
 refine evS (impl_blocksOk l) (evI (fun c => ?_) (fun c => evR ?_))
 ·obtain ⟨h1, h2⟩ := okB_iff.1 c
  have h3 := setF_len c
  refine evB (impl_spans h2 (by omega)) (evB (impl_setF (spansP_full l) (spans_in h2) (by simp [spansP]; omega)) (evB (impl_same _ l (by show (setF l).length ≤ _; omega)) (evR ?_)))
  unfold sokB
  rw [c, Bool.true_and]
  rfl
 ·unfold sokB
  rw [Bool.eq_false_iff.2 c, Bool.false_and]
def hasF (l : List Bl) (a : Int) : Bool := sokB l && l.any fun b => hasB b.f0 b.f1 a
theorem any_has {l : List Bl} (h : ∀ b ∈ l, bok b.f0 b.f1) (a : Int) : anyO (impl_SetHas.is a) l = some (l.any fun b => hasB b.f0 b.f1 a) := by
 induction l with
 | nil => rfl
 | cons x l ih =>
  have hx := h x (List.mem_cons_self ..)
  have := hx.2.1
  simp only [anyO, impl_SetHas.is]
  rw [impl_has a hx.1 (by omega) hx.2.2.1 hx.2.2.2.1, Option.bind_some, ih (fun b hb => h b (List.mem_cons_of_mem _ hb))]
  rw [List.any_cons]
  cases hasB x.f0 x.f1 a <;> rfl
theorem impl_setHas (l : List Bl) (a : Int) : (∃ K_, ∀ k, K_ ≤ k → impl_SetHas.f k l a = some (hasF l a)) := by
 simp only [impl_SetHas.f]
 unfold hasF
 refine evB (impl_setOk l) (evI (fun c => ?_) (fun c => evR ?_))
 ·rw [any_has (sok_iff.1 c).2.1 a, c, Bool.true_and]
  exact evR rfl
 ·rw [Bool.eq_false_iff.2 c, Bool.false_and]
theorem first_loop {a t : Int} (h0 : 0 ≤ a) (h : a ≤ t) (ht : t ≤ 4294967295) (d : Nat) : ∀ m : Nat, m + d = bitsM a t → (∃ K_, ∀ k, K_ ≤ k → spec_l2First.l0 k a t (m : Int) = some (a, (bitsM a t : Int))) := by
 obtain ⟨k1, k2, k3⟩ := bitsM_spec h
 induction d with
 | zero =>
  intro m hm
  have e : m = bitsM a t := by omega
  subst e
  have hs := sz_bd (m := (bitsM a t : Int)) (by omega)
  have h2 := k1.2
  refine ev1 ?_
  simp only [spec_l2First.l0]
  refine evB (spec_size (by omega) (by omega)) (evN (by omega) (evP ?_ (evB (spec_size (by omega) (by omega)) (evN ?_ (evR rfl)))))
  ·rw [Int.tmod_eq_emod_of_nonneg h0]; exact k1.1
  ·rw [w64 (n := a + _) (by omega), w64 (by omega)]; omega
 | succ d ih =>
  intro m hm
  have hs := sz_bd (m := (m : Int)) (by omega)
  have h3 := k3 m (by omega)
  have := ih (m + 1) (by omega)
  refine ev1 ?_
  simp only [spec_l2First.l0]
  rw [up1 (by omega)]
  refine evB (spec_size (m := (m : Int)) (by omega) (by omega)) (evN (by omega) (evI (fun c => evB (spec_size (m := (m : Int)) (by omega) (by omega)) (evP ?_ this)) (fun c => this)))
  rw [Int.tmod_eq_emod_of_nonneg h0] at c
  rw [w64 (n := a + _) (by omega), w64 (by omega)]
  have : ¬ (a + sz (m : Int) - 1 ≤ t) := fun q => h3 ⟨c, q⟩
  omega
theorem spec_first {a t : Int} (h0 : 0 ≤ a) (h : a ≤ t) (ht : t ≤ 4294967295) : (∃ K_, ∀ k, K_ ≤ k → spec_l2First.f k a t = some (a, (bitsM a t : Int))) := first_loop h0 h ht (bitsM a t) 0 (by omega)
theorem cov_in {L : List P2} {n : Nat} (hn : n < L.length) (ht : L[n].2 ≤ 4294967295) {R : List Bl} : ∀ (d : Nat) (a : Int) (acc : List Bl), 0 ≤ a → (L[n].2 - a + 1).toNat ≤ d → acc.length + (covF a L[n].2).length ≤ 1000000 →
  (∃ K_, ∀ k, K_ ≤ k → spec_l2Cover.l0 k (L.map s7) (acc ++ covF a L[n].2) ((n + 1 : Nat) : Int) = some R) → n ≤ 100000 → (∃ K_, ∀ k, K_ ≤ k → spec_l2Cover.l1 k (L.map s7) acc (n : Int) a = some R) := by
 intro d
 induction d with
 | zero =>
  intro a acc h0 hd hl hk hnn
  rw [covF_end (by omega), List.append_nil] at hk
  refine ev1 ?_
  simp only [spec_l2Cover.l1]
  rw [rd_s7 L n hn, List.length_map, up1 (by omega)]
  refine evP (by omega) (evP (by omega) (evN ?_ hk))
  show ¬ a ≤ L[n].2
  omega
 | succ d ih =>
  intro a acc h0 hd hl hk hnn
  refine ev1 ?_
  simp only [spec_l2Cover.l1]
  rw [rd_s7 L n hn, List.length_map, up1 (by omega)]
  refine evP (by omega) (evP (by omega) (evI (fun c => ?_) (fun c => ?_)))
  ·have c : a ≤ L[n].2 := c
   obtain ⟨k1, k2, k3⟩ := bitsM_spec c
   have hs := sz_bd (m := (bitsM a L[n].2 : Int)) (by omega)
   have h2 := k1.2
   rw [covF_step c] at hl hk
   simp only [List.length_cons] at hl
   refine evB (spec_first (t := L[n].2) h0 c ht) (evP (by omega) (evB (spec_size (m := (bitsM a L[n].2 : Int)) (by omega) (by omega)) ?_))
   rw [w64 (by omega)]
   refine ih (a + sz (bitsM a L[n].2 : Int)) (acc ++ [⟨a, (bitsM a L[n].2 : Int)⟩]) (by omega) (by omega) (by simp only [List.length_append, List.length_singleton]; omega) ?_ hnn
   rw [List.append_assoc]
   exact hk
  ·have c : ¬ a ≤ L[n].2 := c
   rw [covF_end (by omega), List.append_nil] at hk
   exact hk
theorem cov_out {L : List P2} (hb : InB L) (hl : L.length ≤ 10000) (d : Nat) : ∀ (n : Nat) (acc : List Bl), n + d = L.length → acc.length + 64 * d ≤ 900000 → (∃ K_, ∀ k, K_ ≤ k → spec_l2Cover.l0 k (L.map s7) acc (n : Int) = some (acc ++ coverF (L.drop n))) := by
 induction d with
 | zero =>
  intro n acc hn ha
  refine ev1 ?_
  simp only [spec_l2Cover.l0]
  rw [List.drop_eq_nil_of_le (by omega), List.length_map]
  exact evN (by omega) (evR (by simp [coverF]))
 | succ d ih =>
  intro n acc hn ha
  have hlt : n < L.length := by omega
  have hs := hb _ (List.getElem_mem hlt)
  have h64 := covF_len hs.1 hs.2
  have := ih (n + 1) (acc ++ covF L[n].1 L[n].2) (by omega) (by rw [List.length_append]; omega)
  refine ev1 ?_
  simp only [spec_l2Cover.l0]
  rw [rd_s7 L n hlt, List.length_map, List.drop_eq_getElem_cons hlt]
  refine evP (by omega) (evP (by omega) (cov_in hlt hs.2 _ L[n].1 acc hs.1 (Nat.le_refl _) (by omega) ?_ (by omega)))
  rw [List.append_assoc] at this
  exact this
theorem spec_cover {L : List P2} (hb : InB L) (hl : L.length ≤ 10000) : (∃ K_, ∀ k, K_ ≤ k → spec_l2Cover.f k (L.map s7) = some (coverF L)) := by
 have := cov_out hb hl L.length 0 [] (by omega) (by simp only [List.length_nil]; omega)
 rw [List.drop_zero, List.nil_append] at this
 exact this
theorem smerge_loop (M : List P2) (hl : M.length ≤ 100000) (hb : InB M) (hf : Full M) (d : Nat) : ∀ (n : Nat) (D : List P2) (c : P2), n + d = M.length → D.length + d ≤ 1000000 → -1 ≤ c.2 ∧ c.2 ≤ 4294967295 →
  (∃ K_, ∀ k, K_ ≤ k → spec_l2Spans.l2 k (M.map s7) ((D ++ [c]).map s7) (n : Int) = some ((D ++ mrg c (M.drop n)).map s7)) := by
 induction d with
 | zero =>
  intro n D c hn hd hc
  refine ev1 ?_
  simp only [spec_l2Spans.l2]
  rw [List.drop_eq_nil_of_le (by omega), List.length_map]
  exact evN (by omega) (evR rfl)
 | succ d ih =>
  intro n D c hn hd hc
  have hlt : n < M.length := by omega
  have hs := hb _ (List.getElem_mem hlt)
  have hs2 := hf _ (List.getElem_mem hlt)
  have e1 : ((D ++ [c]).map s7).length = D.length + 1 := by simp
  have e2 : rd_T72 ((D ++ [c]).map s7) ((D.length : Nat) : Int) = s7 c := by rw [rd_s7 _ _ (by simp)]; simp
  have e3 : wrap64 ((((D.length + 1 : Nat)) : Int) - 1) = ((D.length : Nat) : Int) := by rw [dn1 (by omega) (by omega)]; rfl
  have e4 : wrap64 ((s7 c).f1 + 1) = c.2 + 1 := w64 (by show _ ≤ c.2 + 1 ∧ c.2 + 1 ≤ _; omega)
  refine ev1 ?_
  simp only [spec_l2Spans.l2]
  rw [e1, e3, e2, e4, rd_s7 M n hlt, List.drop_eq_getElem_cons hlt, List.length_map]
  refine evP (by omega) (evP (by omega) (evP (by omega) (evP (by omega) (evP (by omega) ?_))))
  refine ev1 ?_
  simp only [spec_l2Spans.j3]
  rw [e1, e2, up1 (by omega), rd_s7 M n hlt, List.length_map]
  unfold mrg
  refine evI (fun c2 => evP (by omega) (evP (by omega) (evP (by omega) (evP (by omega) (evI (fun c3 => ?_) (fun c3 => ?_)))))) (fun c2 => evP (by omega) (evP (by omega) (evP ?_ ?_)))
  ·have c2 : M[n].1 ≤ c.2 + 1 := of_decide_eq_true c2
   have c3 : M[n].2 > c.2 := c3
   rw [if_pos c2]
   have := ih (n + 1) D (c.1, mx c.2 M[n].2) (by omega) (by omega) (by unfold mx; simp only []; split <;> omega)
   have e5 : (((D ++ [c]).map s7).set ((D.length : Nat) : Int).toNat ⟨(s7 c).f0, (s7 M[n]).f1⟩) = ((D ++ [(c.1, mx c.2 M[n].2)]).map s7) := by
    have e6 : mx c.2 M[n].2 = M[n].2 := by unfold mx; split <;> omega
    rw [Int.toNat_natCast, List.map_append, List.set_append_right _ _ (by simp), e6]
    simp [s7]
   rw [e5]
   exact this
  ·have c2 : M[n].1 ≤ c.2 + 1 := of_decide_eq_true c2
   have c3 : ¬ M[n].2 > c.2 := c3
   rw [if_pos c2]
   have e6 : mx c.2 M[n].2 = c.2 := by unfold mx; split <;> omega
   rw [e6]
   exact ih (n + 1) D c (by omega) (by omega) hc
  ·simp only [List.length_singleton]; omega
  ·have c2 : ¬ M[n].1 ≤ c.2 + 1 := fun q => c2 (decide_eq_true q)
   rw [if_neg c2]
   have := ih (n + 1) (D ++ [c]) M[n] (by omega) (by simp; omega) (by omega)
   rw [show (D ++ [c]) ++ mrg M[n] (M.drop (n + 1)) = D ++ c :: mrg M[n] (M.drop (n + 1)) by simp] at this
   rw [show (D ++ [c]).map s7 ++ [⟨(s7 M[n]).f0, (s7 M[n]).f1⟩] = ((D ++ [c]) ++ [M[n]]).map s7 by simp [s7]]
   exact this
theorem smerge {M : List P2} (hl : M.length ≤ 100000) (hb : InB M) (hf : Full M) : (∃ K_, ∀ k, K_ ≤ k → spec_l2Spans.l2 k (M.map s7) [] 0 = some ((mergeF M).map s7)) := by
 cases M with
 | nil =>
  refine ev1 ?_
  simp only [spec_l2Spans.l2]
  exact evN (by simp) (evR rfl)
 | cons s T =>
  have hs := hb s (List.mem_cons_self ..)
  have hs2 := hf s (List.mem_cons_self ..)
  have := smerge_loop (s :: T) hl hb hf T.length 1 [] s (by simp; omega) (by simp only [List.length_cons, List.length_nil] at *; omega) (by omega)
  have e : rd_T72 ((s :: T).map s7) 0 = s7 s := rd_s7 (s :: T) 0 (by simp)
  refine ev1 ?_
  simp only [spec_l2Spans.l2]
  refine evP (by simp) (evN (by rw [show wrap64 ((([] : List Sb7).length : Int) - 1) = -1 from by rw [w64 (by simp only [List.length_nil]; omega)]; simp]; omega) (ev1 ?_))
  simp only [spec_l2Spans.j3]
  rw [e]
  refine evN (by simp) (evP (by omega) (evP (by simp) (evS rfl (evP (by simp) ?_))))
  rw [show wrap64 ((0 : Int) + 1) = ((1 : Nat) : Int) from by rw [w64 (by omega)]; rfl]
  exact this
theorem sput {R : List Sb7} {X : List Bl} {n : Int} {x : P2} {L : List P2} (hl : L.length ≤ 100000) (d : Nat) : ∀ j : Nat, j + d = L.length →
  (∃ K_, ∀ k, K_ ≤ k → spec_l2Spans.l0 k X ((L.take j ++ insP x (L.drop j)).map s7) (wrap64 (n + 1)) = some R) → (∃ K_, ∀ k, K_ ≤ k → spec_l2Spans.l1 k X (L.map s7) n (j : Int) x.1 x.2 = some R) := by
 have fin : ∀ j : Nat, j ≤ L.length → insP x (L.drop j) = x :: L.drop j → ([] ++ (L.map s7).take ((j : Nat) : Int).toNat ++ [(⟨x.1, x.2⟩ : Sb7)] ++ (L.map s7).drop ((j : Nat) : Int).toNat : List Sb7) = (L.take j ++ insP x (L.drop j)).map s7 := by
  intro j hj e
  rw [e, Int.toNat_natCast, ← List.map_take, ← List.map_drop]
  simp [s7]
 induction d with
 | zero =>
  intro j hj hk
  have e := fin j (by omega) (by rw [List.drop_eq_nil_of_le (by omega)]; rfl)
  rw [← e] at hk
  refine ev1 ?_
  simp only [spec_l2Spans.l1]
  have b1 : ((L.map s7).take ((j : Nat) : Int).toNat).length ≤ 100000 := by simp; omega
  have b2 : ((L.map s7).drop ((j : Nat) : Int).toNat).length ≤ 100000 := by simp; omega
  refine evN (by simp; omega) (evS rfl (evP (by omega) (evP (by simp; omega) (evS rfl (evP (by simp only [List.length_nil]; omega) (evS rfl (evS rfl (evP (by simp only [List.length_nil, List.length_append, List.length_singleton]; omega) (evS rfl (evS rfl (evP (by simp only [List.length_nil, List.length_append, List.length_singleton]; omega) hk)))))))))))
 | succ d ih =>
  intro j hj hk
  have hlt : j < L.length := by omega
  have hd := List.drop_eq_getElem_cons (l := L) hlt
  refine ev1 ?_
  simp only [spec_l2Spans.l1]
  rw [rd_s7 L j hlt, up1 (by omega)]
  refine evP (by simp; omega) (evP (by omega) (evI (fun c => ?_) (fun c => ?_)))
  ·have c : L[j].1 < x.1 := c
   refine ih (j + 1) (by omega) ?_
   rw [hd] at hk
   rw [show insP x (L[j] :: L.drop (j + 1)) = L[j] :: insP x (L.drop (j + 1)) from by conv => lhs; unfold insP; rw [if_pos c]] at hk
   rw [List.take_succ_eq_append_getElem hlt, List.append_assoc]
   exact hk
  ·have c : ¬ L[j].1 < x.1 := c
   have e := fin j (by omega) (by rw [hd]; conv => lhs; unfold insP; rw [if_neg c])
   rw [← e] at hk
   have b1 : ((L.map s7).take ((j : Nat) : Int).toNat).length ≤ 100000 := by simp; omega
   have b2 : ((L.map s7).drop ((j : Nat) : Int).toNat).length ≤ 100000 := by simp; omega
   exact evS rfl (evP (by simp; omega) (evS rfl (evP (by simp only [List.length_nil]; omega) (evS rfl (evS rfl (evP (by simp only [List.length_nil, List.length_append, List.length_singleton]; omega) (evS rfl (evS rfl (evP (by simp only [List.length_nil, List.length_append, List.length_singleton]; omega) hk)))))))))
theorem sspans_loop {l : List Bl} (hv : ∀ b ∈ l, bok b.f0 b.f1) (hl : l.length ≤ 10000) (d : Nat) : ∀ (n : Nat) (acc : List P2), n + d = l.length → acc.length + d ≤ 100000 → InB acc → Full acc →
  (∃ K_, ∀ k, K_ ≤ k → spec_l2Spans.l0 k l (acc.map s7) (n : Int) = some ((mergeF ((spansP (l.drop n)).foldl (fun acc x => insP x acc) acc)).map s7)) := by
 induction d with
 | zero =>
  intro n acc hn ha hb hf
  have := smerge (M := acc) (by omega) hb hf
  refine ev1 ?_
  simp only [spec_l2Spans.l0]
  rw [List.drop_eq_nil_of_le (by omega)]
  exact evN (by omega) this
 | succ d ih =>
  intro n acc hn ha hb hf
  have hlt : n < l.length := by omega
  have hbk := hv _ (List.getElem_mem hlt)
  have hb0 := hbk.1
  have hb1 := hbk.2.1
  have hp := insP_perm (spanP l[n]) acc
  have hlast := hbk.last
  have hpos := sz_pos l[n].f1
  have := ih (n + 1) (insP (spanP l[n]) acc) (by omega) (by rw [hp.length_eq, List.length_cons]; omega)
   (fun s hs => by
    rcases List.mem_cons.1 (hp.mem_iff.1 hs) with rfl | hs
    ·exact ⟨hbk.1, by show l[n].f0 + sz l[n].f1 - 1 ≤ _; omega⟩
    ·exact hb s hs)
   (fun s hs => by
    rcases List.mem_cons.1 (hp.mem_iff.1 hs) with rfl | hs
    ·show l[n].f0 ≤ l[n].f0 + sz l[n].f1 - 1
     omega
    ·exact hf s hs)
  refine ev1 ?_
  simp only [spec_l2Spans.l0]
  rw [rd_bl l n hlt]
  refine evP (by omega) (evP (by omega) (evB (spec_last (b := l[n].f0) (m := l[n].f1) (by omega) (by omega) hbk.2.2.1 hbk.2.2.2.1) (sput (x := spanP l[n]) (by omega) acc.length 0 (by omega) ?_)))
  rw [List.take_zero, List.drop_zero, List.nil_append, up1 (by omega), List.drop_eq_getElem_cons hlt]
  exact this
theorem spec_spans {l : List Bl} (hv : ∀ b ∈ l, bok b.f0 b.f1) (hl : l.length ≤ 10000) : (∃ K_, ∀ k, K_ ≤ k → spec_l2Spans.f k l = some ((canF (spansP l)).map s7)) := by
 have := sspans_loop hv hl l.length 0 [] (by omega) (by simp only [List.length_nil]; omega) (fun s hs => by cases hs) (fun s hs => by cases hs)
 rw [List.drop_zero] at this
 exact this
theorem sblocks_loop {l : List Bl} (hl : l.length ≤ 100000000) (d : Nat) : ∀ n : Nat, n + d = l.length → (∃ K_, ∀ k, K_ ≤ k → spec_l2Blocks.l0 k l (n : Int) = some (decide (l.length ≤ 64) && (l.drop n).all fun b => bokB b.f0 b.f1)) := by
 induction d with
 | zero =>
  intro n hn
  refine ev1 ?_
  simp only [spec_l2Blocks.l0]
  rw [List.drop_eq_nil_of_le (by omega)]
  refine evN (by omega) (evR ?_)
  rw [List.all_nil, Bool.and_true]
  exact decide_eq_decide.2 ⟨fun q => by omega, fun q => by omega⟩
 | succ d ih =>
  intro n hn
  have hlt : n < l.length := by omega
  have := ih (n + 1) (by omega)
  refine ev1 ?_
  simp only [spec_l2Blocks.l0]
  rw [rd_bl l n hlt, up1 (by omega), List.drop_eq_getElem_cons hlt, List.all_cons]
  refine evP (by omega) (evP (by omega) (evB (spec_ok l[n].f0 l[n].f1) (evI (fun c => ?_) (fun c => evR ?_))))
  ·rw [c, Bool.true_and]; exact this
  ·rw [Bool.eq_false_iff.2 c, Bool.false_and, Bool.and_false]
theorem spec_blocks {l : List Bl} (hl : l.length ≤ 100000000) : (∃ K_, ∀ k, K_ ≤ k → spec_l2Blocks.f k l = some (okB l)) := by
 have := sblocks_loop hl l.length 0 (by omega)
 rw [List.drop_zero] at this
 exact this
theorem ssame_loop {l m : List Bl} (he : l.length = m.length) (hl : l.length ≤ 1000000) (d : Nat) : ∀ n : Nat, n + d = l.length → (∃ K_, ∀ k, K_ ≤ k → spec_l2Same.l0 k l m (n : Int) = some (decide (l.drop n = m.drop n))) := by
 induction d with
 | zero =>
  intro n hn
  refine ev1 ?_
  simp only [spec_l2Same.l0]
  rw [List.drop_eq_nil_of_le (by omega), List.drop_eq_nil_of_le (by omega)]
  exact evN (by omega) (evR (by simp))
 | succ d ih =>
  intro n hn
  have hlt : n < l.length := by omega
  have hlt2 : n < m.length := by omega
  have := ih (n + 1) (by omega)
  refine ev1 ?_
  simp only [spec_l2Same.l0]
  rw [rd_bl l n hlt, rd_bl m n hlt2, up1 (by omega), List.drop_eq_getElem_cons (l := l) hlt, List.drop_eq_getElem_cons (l := m) hlt2]
  refine evP (by omega) (evP (by omega) (evP (by omega) (evI (fun c => evR ?_) (fun c => ?_))))
  ·have hne : ¬ l[n] = m[n] := fun e => by rw [e] at c; simp at c
   exact (decide_eq_false (fun e => hne (List.cons.inj e).1)).symm
  ·have e : l[n] = m[n] := by
    refine bl_ext ?_
    simpa using c
   rw [e]
   rw [show decide (m[n] :: l.drop (n + 1) = m[n] :: m.drop (n + 1)) = decide (l.drop (n + 1) = m.drop (n + 1)) from decide_eq_decide.2 ⟨fun h => (List.cons.inj h).2, fun h => by rw [h]⟩]
   exact this
theorem spec_same (l m : List Bl) (hl : l.length ≤ 1000000) : (∃ K_, ∀ k, K_ ≤ k → spec_l2Same.f k l m = some (decide (l = m))) := by
 simp only [spec_l2Same.f]
 refine evI (fun c => ?_) (fun c => evR ?_)
 ·have := ssame_loop (l := l) (m := m) (by omega) hl l.length 0 (by omega)
  rw [List.drop_zero, List.drop_zero] at this
  exact this
 ·exact (decide_eq_false (fun e => c (by rw [e]))).symm
theorem spec_setF {l : List Bl} (hv : ∀ b ∈ l, bok b.f0 b.f1) (hl : l.length ≤ 10000) : (∃ K_, ∀ k, K_ ≤ k → spec_l2Cover.f k ((canF (spansP l)).map s7) = some (setF l)) := by
 have h1 := canF_len (spansP l)
 have h2 : (spansP l).length = l.length := by simp [spansP]
 exact spec_cover (canF_in (spansP_full l) (spans_in hv)) (by omega)
theorem spec_setOk (l : List Bl) (hl : l.length ≤ 100000000) : (∃ K_, ∀ k, K_ ≤ k → spec_SetOk.f k l = some (sokB l)) := by
 simp only [spec_SetOk.f]
 refine evB (spec_blocks hl) (evI (fun c => ?_) (fun c => evR ?_))
 ·obtain ⟨h1, h2⟩ := okB_iff.1 c
  refine evB (spec_spans h2 (by omega)) (evB (spec_setF h2 (by omega)) (evB (spec_same l _ (by omega)) (evR ?_)))
  unfold sokB
  rw [c, Bool.true_and]
  exact decide_eq_decide.2 ⟨Eq.symm, Eq.symm⟩
 ·unfold sokB
  rw [Bool.eq_false_iff.2 c, Bool.false_and]
theorem shas_loop {l : List Bl} (h : ∀ b ∈ l, bok b.f0 b.f1) (hl : l.length ≤ 10000) (a : Int) (d : Nat) : ∀ n : Nat, n + d = l.length → (∃ K_, ∀ k, K_ ≤ k → spec_SetHas.l0 k l a (n : Int) = some ((l.drop n).any fun b => hasB b.f0 b.f1 a)) := by
 induction d with
 | zero =>
  intro n hn
  refine ev1 ?_
  simp only [spec_SetHas.l0]
  rw [List.drop_eq_nil_of_le (by omega)]
  exact evN (by omega) (evR rfl)
 | succ d ih =>
  intro n hn
  have hlt : n < l.length := by omega
  have hb := h _ (List.getElem_mem hlt)
  have hb0 := hb.1
  have hb1 := hb.2.1
  have := ih (n + 1) (by omega)
  refine ev1 ?_
  simp only [spec_SetHas.l0]
  rw [rd_bl l n hlt, up1 (by omega), List.drop_eq_getElem_cons hlt, List.any_cons]
  refine evP (by omega) (evP (by omega) (evB (spec_last (b := l[n].f0) (m := l[n].f1) (by omega) (by omega) hb.2.2.1 hb.2.2.2.1) (evS (spec_in ..) (evI (fun c => evR ?_) (fun c => ?_)))))
  ·have c : hasB l[n].f0 l[n].f1 a = true := c
   rw [c, Bool.true_or]
  ·have c : ¬ hasB l[n].f0 l[n].f1 a = true := c
   rw [Bool.eq_false_iff.2 c, Bool.false_or]
   exact this
theorem spec_setHas (l : List Bl) (hl : l.length ≤ 100000000) (a : Int) : (∃ K_, ∀ k, K_ ≤ k → spec_SetHas.f k l a = some (hasF l a)) := by
 simp only [spec_SetHas.f]
 unfold hasF
 refine evB (spec_setOk l hl) (evI (fun c => ?_) (fun c => evR ?_))
 ·have := shas_loop (sok_iff.1 c).2.1 (by have := (sok_iff.1 c).1; omega) a l.length 0 (by omega)
  rw [c, Bool.true_and]
  rw [List.drop_zero] at this
  exact this
 ·rw [Bool.eq_false_iff.2 c, Bool.false_and]
/-- One of the statement's own values as one of the program's. -/
def convBlock (x : S82) : S40 := ⟨x.f0, x.f1⟩
theorem rd_lBlock (l : List S82) (n : Nat) (h : n < l.length) : rd_T82 l (n : Int) = l[n] := by
 unfold rd_T82
 rw [List.getD_eq_getElem?_getD, Int.toNat_natCast, List.getElem?_eq_getElem h]
 rfl
theorem toBlock_loop (l : List S82) (hl : l.length ≤ 1073741824) (d : Nat) : ∀ (n : Nat) (ys : List S40), n + d = l.length → ys.length = l.length → (∀ j, j < n → ys[j]? = (l.map convBlock)[j]?) → (∃ K_, ∀ k, K_ ≤ k → laws_toBlockS.l0 k l ys (n : Int) = some (l.map convBlock)) := by
 induction d with
 | zero =>
  intro n ys hn hy hj
  refine ⟨1, fun k hk => ?_⟩
  obtain ⟨k, rfl⟩ : ∃ j, k = j + 1 := ⟨k - 1, by omega⟩
  simp only [laws_toBlockS.l0]
  rw [if_neg (by omega)]
  congr 1
  apply List.ext_getElem?
  intro i
  by_cases c : i < n
  ·exact hj i c
  ·rw [List.getElem?_eq_none (by omega), List.getElem?_eq_none (by simp; omega)]
 | succ d ih =>
  intro n ys hn hy hj
  have hlt : n < l.length := by omega
  have hw : wrap64 ((n : Int) + 1) = ((n + 1 : Nat) : Int) := by rw [w64 (by omega)]; omega
  obtain ⟨K1, e1⟩ := ih (n + 1) (ys.set n (convBlock l[n])) (by omega) (by simpa using hy) (fun j hj2 => by
   by_cases c : j = n
   ·subst c
    rw [List.getElem?_set_self (by omega), List.getElem?_map, List.getElem?_eq_getElem hlt]
    rfl
   ·rw [List.getElem?_set_ne (by omega)]
    exact hj j (by omega))
  refine ⟨K1 + 1, fun k hk => ?_⟩
  obtain ⟨k, rfl⟩ : ∃ j, k = j + 1 := ⟨k - 1, by omega⟩
  simp only [laws_toBlockS.l0]
  rw [if_pos (by omega), if_pos (by omega), rd_lBlock l n hlt]
  simp only [laws_toBlock.f, Option.bind_some]
  rw [if_pos (by omega), hw, Int.toNat_natCast]
  exact e1 k (by omega)
theorem toBlock (l : List S82) (hl : l.length ≤ 1073741824) : (∃ K_, ∀ k, K_ ≤ k → laws_toBlockS.f k l = some (l.map convBlock)) := by
 obtain ⟨K, h⟩ := toBlock_loop l hl l.length 0 (List.replicate l.length z40) (by omega) (by simp) (fun j h => absurd h (by omega))
 refine ⟨K, fun k hk => ?_⟩
 simp only [laws_toBlockS.f]
 rw [if_pos (by omega), if_pos (by omega), Int.toNat_natCast]
 exact h k hk
/-- What is left of a bound, when so many are taken. -/
theorem szBlock (l : List S82) (hl : l.length ≤ 9223372036854775807) : laws_szBlockS.f l 1048576 = some (if (l.length : Int) ≤ 1048576 then 1048576 - (l.length : Int) else -1) := by
 unfold laws_szBlockS.f
 rw [w64 (by omega)]
 by_cases c : (l.length : Int) ≤ 1048576
 ·rw [if_neg (by omega), if_pos c]
 ·rw [if_pos (by omega), if_neg c]
theorem eqBlock_one (x : S40) : laws_eqBlock.f x.f0 x.f1 x.f0 x.f1 = some true := by
 simp [laws_eqBlock.f]
theorem eqBlock_loop (l : List S40) (hl : l.length ≤ 1073741824) (d : Nat) : ∀ n : Nat, n + d = l.length → (∃ K_, ∀ k, K_ ≤ k → laws_eqBlockS.l0 k l l (n : Int) = some true) := by
 induction d with
 | zero =>
  intro n hn
  refine ⟨1, fun k hk => ?_⟩
  obtain ⟨k, rfl⟩ : ∃ j, k = j + 1 := ⟨k - 1, by omega⟩
  simp only [laws_eqBlockS.l0]
  rw [if_neg (by omega)]
 | succ d ih =>
  intro n hn
  have hw : wrap64 ((n : Int) + 1) = ((n + 1 : Nat) : Int) := by rw [w64 (by omega)]; omega
  obtain ⟨K1, e1⟩ := ih (n + 1) (by omega)
  refine ⟨K1 + 1, fun k hk => ?_⟩
  obtain ⟨k, rfl⟩ : ∃ j, k = j + 1 := ⟨k - 1, by omega⟩
  simp only [laws_eqBlockS.l0]
  rw [if_pos (by omega), if_pos (by omega), if_pos (by omega), eqBlock_one, Option.bind_some, if_pos rfl, hw]
  exact e1 k (by omega)
theorem eqBlock (l : List S40) (hl : l.length ≤ 1073741824) : (∃ K_, ∀ k, K_ ≤ k → laws_eqBlockS.f k l l = some true) := by
 obtain ⟨K, h⟩ := eqBlock_loop l hl l.length 0 (by omega)
 refine ⟨K, fun k hk => ?_⟩
 simp only [laws_eqBlockS.f]
 rw [if_pos trivial]
 exact h k hk
end Go.Proofs.Ytmanlcakdcoekaa.Z
end
section
namespace Go.Proofs.Ytmanlcakdcoekaa.Pure
open Go Go.RowKit Go.Proofs.Ytmanlcakdcoekaa.PAll Go.Proofs.YtmanlcakdcoekaaW.PrintWords Go.Proofs.YtmanlcakdcoekaaW.PrintLast Go.Proofs.YtmanlcakdcoekaaW.PrintMore Go.Proofs.Ytmanlcakdcoekaa.Z
set_option linter.unusedVariables false
set_option linter.unusedSimpArgs false
theorem FnExactSetHas : laws_FnExactSetHas.Pure := by
 intro l a hl _
 suffices h : (∃ K_, ∀ k, K_ ≤ k → laws_FnExactSetHas.f k l a = some true) by obtain ⟨K, h⟩ := h; exact ⟨K, h K (Nat.le_refl _)⟩
 have hm : l.length ≤ 9223372036854775807 := by have := hl.1; unfold maxLen at this; exact this
 simp only [laws_FnExactSetHas.f]
 refine evS (szBlock l hm) ?_
 by_cases c : (l.length : Int) ≤ 1048576
 ·rw [if_pos c]
  have hn : (l.map convBlock).length ≤ 1048576 := by simp; omega
  have e1 := toBlock l (by omega)
  exact evN (by omega) (evB e1 (evB (spec_setHas _ (by omega) a) (evB e1 (evB (impl_setHas _ a) (evN (by simp) (evB e1 (evB (eqBlock _ (by omega)) (evP rfl (evR rfl)))))))))
 ·rw [if_neg c]
  exact evP (by omega) (evR rfl)
end Go.Proofs.Ytmanlcakdcoekaa.Pure
end
