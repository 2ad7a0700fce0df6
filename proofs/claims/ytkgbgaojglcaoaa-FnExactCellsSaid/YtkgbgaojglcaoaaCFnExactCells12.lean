/- Contracts of the functions that the statement reaches, printed by a program out of the translation and joined with the plain laws. -/
import Derived.WalkKit
import Derived.Shelf.Abstract
import Derived.Deep.LoopGhost
import Derived.Deep.CutBlock
import Derived.Shelf.RegionOpenPlain
import Derived.Test.YtkgbgaojglcaoaaCFnExactCells3
import Derived.Test.YtkgbgaojglcaoaaCFnExactCells4
import Derived.Test.YtkgbgaojglcaoaaCFnExactCells5
import Derived.Test.YtkgbgaojglcaoaaCFnExactCells6
import Derived.Test.YtkgbgaojglcaoaaCFnExactCells7
import Derived.Test.YtkgbgaojglcaoaaCFnExactCells8
import Derived.Test.YtkgbgaojglcaoaaCFnExactCells9
import Derived.Test.YtkgbgaojglcaoaaCFnExactCells11
section
namespace Go.Proofs.Ytkgbgaojglcaoaa.PAll
open Go.RowKit Go.Proofs.YtkgbgaojglcaoaaW.PrintWords Go.Proofs.YtkgbgaojglcaoaaW.PrintLast Go.Proofs.YtkgbgaojglcaoaaW.PrintMore
attribute [local go_sem] max2_int min2_int max_two min_two max_three min_three max_four min_four   -- for this text's walks alone
set_option linter.unusedVariables false
set_option linter.unusedSimpArgs false
attribute [local go_sem high] eqA80
def cellI (base n : Nat) (w W : World) (gl gx go gq : Nat) (A1 : Option Addr) (c1 : Nat) (la : List S71) (A5 A6 A7 : Option Addr) (k5 k6 k7 : Nat) (xs ys zs : List Int) (Ao : Option Addr) (co : Nat) (out : List S80) : Prop :=
 Below base w W ∧ (W.heap[gl]? = some (.cells #[.slice A1 la.length c1] 52 (0, 0)) ∧ W.heap[gx]? = some (.cells #[.slice A5 xs.length k5, .slice A6 ys.length k6, .slice A7 zs.length k7] 113 (0, 0)) ∧ W.heap[go]? = some (.cells #[.slice Ao out.length co] 74 (0, 0))) ∧
 (Kd.R (Kd.int .i64) 3 W base (fun k => k < n) (.slice A5 xs.length k5) xs ∧ Kd.R (Kd.int .i64) 3 W base (fun k => k < n) (.slice A6 ys.length k6) ys ∧ Kd.R (Kd.int .i64) 3 W base (fun k => k < n) (.slice A7 zs.length k7) zs) ∧
 Kd.R k80 80 W base (fun k => k < n) (.slice Ao out.length co) out ∧ W.heap[gq]? = some (.cells #[.slice A5 xs.length k5, .slice A6 ys.length k6, .slice A7 zs.length k7] 113 (0, 0))
theorem cellI.step {base n : Nat} {w W W' : World} {gl gx go gq : Nat} {A1 : Option Addr} {c1 : Nat} {la : List S71} {A5 A6 A7 : Option Addr} {k5 k6 k7 : Nat} {xs ys zs : List Int} {Ao : Option Addr} {co : Nat} {out : List S80}
  (h : cellI base n w W gl gx go gq A1 c1 la A5 A6 A7 k5 k6 k7 xs ys zs Ao co out) (hb : Below W.heap.size W W') (hw : base ≤ w.heap.size) : cellI base n w W' gl gx go gq A1 c1 la A5 A6 A7 k5 k6 k7 xs ys zs Ao co out :=
 ⟨h.1.trans (hb.mono (Nat.le_trans hw h.1.size)), ⟨blk_below h.2.1.1 hb, blk_below h.2.1.2.1 hb, blk_below h.2.1.2.2 hb⟩, ⟨Kd.R_below h.2.2.1.1 hb, Kd.R_below h.2.2.1.2.1 hb, Kd.R_below h.2.2.1.2.2 hb⟩, Kd.R_below h.2.2.2.1 hb, blk_below h.2.2.2.2 hb⟩
theorem cellI.far {base n : Nat} {w W : World} {gl gx go gq : Nat} {A1 : Option Addr} {c1 : Nat} {la : List S71} {A5 A6 A7 : Option Addr} {k5 k6 k7 : Nat} {xs ys zs : List Int} {Ao : Option Addr} {co : Nat} {out : List S80}
  (h : cellI base n w W gl gx go gq A1 c1 la A5 A6 A7 k5 k6 k7 xs ys zs Ao co out) {g : Nat} (hg : n ≤ g) (hl : gl < n) (hx : gx < n) (ho : go < n) (hq : gq < n) (hbn : base = w.heap.size) (hn : base ≤ n) (i : Nat) (v : Value) : cellI base n w (W.setCell ⟨g, i, none⟩ v) gl gx go gq A1 c1 la A5 A6 A7 k5 k6 k7 xs ys zs Ao co out := by
 subst hbn
 refine ⟨below_set h.1 (Nat.le_trans hn hg), ⟨(Below.heap_setCell _ ⟨g, i, none⟩ _ gl (by show gl ≠ g; omega)).trans h.2.1.1, (Below.heap_setCell _ ⟨g, i, none⟩ _ gx (by show gx ≠ g; omega)).trans h.2.1.2.1, (Below.heap_setCell _ ⟨g, i, none⟩ _ go (by show go ≠ g; omega)).trans h.2.1.2.2⟩, ⟨Kd.R_far h.2.2.1.1 (fun k hk => by show k ≠ g; omega) _, Kd.R_far h.2.2.1.2.1 (fun k hk => by show k ≠ g; omega) _, Kd.R_far h.2.2.1.2.2 (fun k hk => by show k ≠ g; omega) _⟩, Kd.R_far h.2.2.2.1 (fun k hk => by show k ≠ g; omega) _, (Below.heap_setCell _ ⟨g, i, none⟩ _ gq (by show gq ≠ g; omega)).trans h.2.2.2.2⟩
theorem cellI.up {base n m : Nat} {w W : World} {gl gx go gq : Nat} {A1 : Option Addr} {c1 : Nat} {la : List S71} {A5 A6 A7 : Option Addr} {k5 k6 k7 : Nat} {xs ys zs : List Int} {Ao : Option Addr} {co : Nat} {out : List S80}
  (h : cellI base n w W gl gx go gq A1 c1 la A5 A6 A7 k5 k6 k7 xs ys zs Ao co out) (hm : n ≤ m) : cellI base m w W gl gx go gq A1 c1 la A5 A6 A7 k5 k6 k7 xs ys zs Ao co out :=
 ⟨h.1, h.2.1, ⟨Kd.R_mono h.2.2.1.1 (fun k hk => Nat.lt_of_lt_of_le hk hm), Kd.R_mono h.2.2.1.2.1 (fun k hk => Nat.lt_of_lt_of_le hk hm), Kd.R_mono h.2.2.1.2.2 (fun k hk => Nat.lt_of_lt_of_le hk hm)⟩, Kd.R_mono h.2.2.2.1 (fun k hk => Nat.lt_of_lt_of_le hk hm), h.2.2.2.2⟩
theorem po {P : Program} {ops : Array Oper} {Q : Exit → Act → World → Prop} {md : Region.Mode} {S : World → Prop} {ds : List Nat} {oi : Oper} {fuel : Nat} {l : Array Bool} {a a' : Act} {w : World} (i : Nat) (N : Option Tmp) (l' : Array Bool) (hc : anyB md ops l l' i = true)
  (h : wpAnyLast P md ops Q S ds fuel l' a' w) (hi : ops[i]? = some oi := by rfl) (hN : oi.dst = N := by rfl) (hQ : ∀ c a w, Q (.panic c) (a.put oi.dst undef) w → Q (.panic c) a w := by exact fun _ _ _ h => h)
  (hy : Yields P ops oi undef a := by exact Or.inr ⟨by rfl, rfl⟩) (ha : a.put N undef = a' := by simp only [Act.put, List.setIfInBounds_toArray, List.set_cons_zero, List.set_cons_succ, i64_w, i32_w]; rfl) : wpAnyLast P md ops Q S ds (fuel + 1) l a w :=
 pure_ (i := i) (N := N) (v := undef) l' hi hN hc hQ hy ha h
theorem siz1 {w : World} {n : Nat} (h : n ≤ w.heap.size) (p : Addr) (v : Value) : n ≤ (w.setCell p v).heap.size := by
 simpa [World.setCell] using h
theorem put7 {w : World} {g : Nat} {t : TypeId} {x0 x1 x2 x3 x4 x5 x6 : Value} (h : w.heap[g]? = some (.cells #[x0, x1, x2, x3, x4, x5, x6] t (0, 0))) (v0 v1 v2 v3 v4 v5 v6 : Value) :
  ((((((((w.setCell ⟨g, 0, none⟩ v0).setCell ⟨g, 1, none⟩ v1).setCell ⟨g, 2, none⟩ v2).setCell ⟨g, 3, none⟩ v3).setCell ⟨g, 4, none⟩ v4).setCell ⟨g, 5, none⟩ v5).setCell ⟨g, 6, none⟩ v6)).heap[g]? = some (.cells #[v0, v1, v2, v3, v4, v5, v6] t (0, 0)) := by
 have h0 := blk_put (cs' := #[v0, x1, x2, x3, x4, x5, x6]) h 0 v0 rfl
 have h1 := blk_put (cs' := #[v0, v1, x2, x3, x4, x5, x6]) h0 1 v1 rfl
 have h2 := blk_put (cs' := #[v0, v1, v2, x3, x4, x5, x6]) h1 2 v2 rfl
 have h3 := blk_put (cs' := #[v0, v1, v2, v3, x4, x5, x6]) h2 3 v3 rfl
 have h4 := blk_put (cs' := #[v0, v1, v2, v3, v4, x5, x6]) h3 4 v4 rfl
 have h5 := blk_put (cs' := #[v0, v1, v2, v3, v4, v5, x6]) h4 5 v5 rfl
 have h6 := blk_put (cs' := #[v0, v1, v2, v3, v4, v5, v6]) h5 6 v6 rfl
 exact h6
theorem off7 {w : World} {g j : Nat} {o : Obj} (h : w.heap[j]? = some o) (hn : j ≠ g) (v0 v1 v2 v3 v4 v5 v6 : Value) : ((((((((w.setCell ⟨g, 0, none⟩ v0).setCell ⟨g, 1, none⟩ v1).setCell ⟨g, 2, none⟩ v2).setCell ⟨g, 3, none⟩ v3).setCell ⟨g, 4, none⟩ v4).setCell ⟨g, 5, none⟩ v5).setCell ⟨g, 6, none⟩ v6)).heap[j]? = some o :=
 (Below.heap_setCell _ ⟨g, 6, none⟩ _ j hn).trans ((Below.heap_setCell _ ⟨g, 5, none⟩ _ j hn).trans ((Below.heap_setCell _ ⟨g, 4, none⟩ _ j hn).trans ((Below.heap_setCell _ ⟨g, 3, none⟩ _ j hn).trans ((Below.heap_setCell _ ⟨g, 2, none⟩ _ j hn).trans ((Below.heap_setCell _ ⟨g, 1, none⟩ _ j hn).trans ((Below.heap_setCell _ ⟨g, 0, none⟩ _ j hn).trans h))))))
theorem cellI.far7 {base n : Nat} {w W : World} {gl gx go gq : Nat} {A1 : Option Addr} {c1 : Nat} {la : List S71} {A5 A6 A7 : Option Addr} {k5 k6 k7 : Nat} {xs ys zs : List Int} {Ao : Option Addr} {co : Nat} {out : List S80}
  (h : cellI base n w W gl gx go gq A1 c1 la A5 A6 A7 k5 k6 k7 xs ys zs Ao co out) {g : Nat} (hg : n ≤ g) (hl : gl < n) (hx : gx < n) (ho : go < n) (hq : gq < n) (hbn : base = w.heap.size) (hn : base ≤ n) (v0 v1 v2 v3 v4 v5 v6 : Value) : cellI base n w (((((((W.setCell ⟨g, 0, none⟩ v0).setCell ⟨g, 1, none⟩ v1).setCell ⟨g, 2, none⟩ v2).setCell ⟨g, 3, none⟩ v3).setCell ⟨g, 4, none⟩ v4).setCell ⟨g, 5, none⟩ v5).setCell ⟨g, 6, none⟩ v6) gl gx go gq A1 c1 la A5 A6 A7 k5 k6 k7 xs ys zs Ao co out :=
 cellI.far (cellI.far (cellI.far (cellI.far (cellI.far (cellI.far (cellI.far h hg hl hx ho hq hbn hn 0 v0) hg hl hx ho hq hbn hn 1 v1) hg hl hx ho hq hbn hn 2 v2) hg hl hx ho hq hbn hn 3 v3) hg hl hx ho hq hbn hn 4 v4) hg hl hx ho hq hbn hn 5 v5) hg hl hx ho hq hbn hn 6 v6
def joinB (out : List S80) (x : S80) : Prop := 0 < out.length ∧ (rd_T80 out ((out.length : Int) - 1)).f0 = x.f0 ∧ (rd_T80 out ((out.length : Int) - 1)).f1 = x.f1 ∧ (rd_T80 out ((out.length : Int) - 1)).f2 = x.f2 ∧ (rd_T80 out ((out.length : Int) - 1)).f3 = x.f3 ∧ (rd_T80 out ((out.length : Int) - 1)).f6 = x.f6 ∧ wrap64 ((rd_T80 out ((out.length : Int) - 1)).f5 + 1) = x.f4
instance (out : List S80) (x : S80) : Decidable (joinB out x) := by unfold joinB; infer_instance
def cellF (out : List S80) (x : S80) : List S80 × Bool :=
 if x.f6 < 0 then (out, true) else
 if joinB out x then (out.set (out.length - 1) { rd_T80 out ((out.length : Int) - 1) with f5 := x.f5 }, true)
 else (out ++ [x], decide (out.length + 1 ≤ 400))
set_option maxHeartbeats 16000000 in
set_option maxRecDepth 100000 in
theorem cells.one (la : List S71) (xs ys zs : List Int) (out : List S80) (A1 A5 A6 A7 Ao : Option Addr) (c1 k5 k6 k7 co gl gx go gq : Nat) (w W : World) (i k n a b c u e1 e2 e3 : Int)
  (hi : cellI w.heap.size W.heap.size w W gl gx go gq A1 c1 la A5 A6 A7 k5 k6 k7 xs ys zs Ao co out) (hra : Kd.C k71 w A1 la.length la) (hca : la.length ≤ c1) (hln : out.length ≤ 1000) (hgo : w.heap.size ≤ go)
  (hu : impl_first.f la a b c = some u) (h1 : impl_end.f xs i 4294967295 = some e1) (h2 : impl_end.f ys k 4294967295 = some e2) (h3 : impl_end.f zs n 65535 = some e3) :
  Calls Try.prog 104 #[.int .i64 i, .int .i64 k, .int .i64 n, .agg #[.int .i64 a, .int .i64 b, .int .i64 c], .pointer (some ⟨gl, 0, none⟩), .pointer (some ⟨gx, 0, none⟩), .pointer (some ⟨go, 0, none⟩)] W fun e w' =>
   ∃ (r : List S80 × Bool) (Ao' : Option Addr) (co' : Nat), e = .returned (.bool r.2) ∧ cellF out ⟨a, e1, b, e2, c, e3, u⟩ = r ∧ cellI w.heap.size w'.heap.size w w' gl gx go gq A1 c1 la A5 A6 A7 k5 k6 k7 xs ys zs Ao' co' r.1 := by
 have hu1 := Try.underlying60
 have hu2 := Try.underlying80
 have hu3 := Try.underlying113
 have HI := am hi
 have RA := am hra
 have CA := am hca
 have LN := am hln
 have GO := am hgo
 have WS := am hi.1.size
 have HU := am hu
 have E1 := am h1
 have E2 := am h2
 have E3 := am h3
 have NL := am (blk_lt hi.2.1.1)
 have NX := am (blk_lt hi.2.1.2.1)
 have NO := am (blk_lt hi.2.1.2.2)
 have NQ := am (blk_lt hi.2.2.2.2)
 clear hi hra hca hln hgo hu h1 h2 h3
 go_enter Try.func104, Try.ntmps104
 go_upto_region 1 with (first | ((with_reducible refine gate_dst (N := 10) rfl ?_); refine box_event rfl (N := 10) rfl (cs := #[.int .i64 a, .int .i64 b, .int .i64 c]) (t := 60) BX ?_; intro gc hgc w2 hbox hbw; have BK := am hbox; have GC := am (show W.heap.size ≤ gc from hgc ▸ Nat.le_refl _); have NS := am hbw.size; replace HI := am (cellI.step HI.out hbw (Nat.le_refl _)); clear hbw hgc hbox))
 obtain ⟨hz0, hz1, hz2, hzf⟩ := y3 w2 BK.out
 obtain ⟨hy0, hyf⟩ := y1 w2 HI.out.2.1.1
 by_cases hu0 : u < 0
 ·go_wp2_with (first | (go_at_call 89; refine (impl_first.calls A1 c1 la a b c u _ (Kd.C_below RA.out HI.out.1) CA.out HU.out).mono ?_; rintro e w3 ⟨rfl, hb⟩; replace HI := am (cellI.step HI.out hb (Nat.le_refl _)); replace NS := am (Nat.le_trans NS.out hb.size); clear hb))
  go_ret
  exact ⟨(out, true), Ao, co, rfl, by unfold cellF; rw [if_pos hu0], cellI.up HI.out NS.out⟩
 ·go_upto_region 4 with (first | (go_at_call 89; refine (impl_first.calls A1 c1 la a b c u _ (Kd.C_below RA.out HI.out.1) CA.out HU.out).mono ?_; rintro e w3 ⟨rfl, hb⟩; replace HI := am (cellI.step HI.out hb (Nat.le_refl _)); replace BK := am (blk_below BK.out hb); replace NS := am (Nat.le_trans NS.out hb.size); clear hb))
  clear hz0 hz1 hz2 hzf hy0 hyf
  refine start_ (n := 22) (S := fun w' => ce3 w' gc (.int .i64 a) (.int .i64 b) (.int .i64 c) (w'.cell? ⟨gx, 0, none⟩ = some (.slice A5 xs.length k5) ∧ w'.cell? ⟨gx, 1, none⟩ = some (.slice A6 ys.length k6) ∧ w'.cell? ⟨gx, 2, none⟩ = some (.slice A7 zs.length k7))) (ds := []) (tf 0 22) (by kernel_rfl) rfl rfl ⟨z0 _ BK.out, z1 _ BK.out, z2 _ BK.out, z0 _ HI.out.2.1.2.1, z1 _ HI.out.2.1.2.1, z2 _ HI.out.2.1.2.1⟩ (fun hHeld => ?_)
  replace HI := am (cellI.step HI.out (below_drew (Below.refl _ _)) (Nat.le_refl _))
  replace BK := am (blk_drew BK.out)
  replace NS := am (show W.heap.size ≤ w3.drew.heap.size from NS.out)
  generalize w3.drew = w4 at HI BK NS hHeld ⊢
  refine pu 0 (some 21) (tf 1 21) (by kernel_rfl) ?_
  refine tk 1 (some 22) (tf 2 20) (by kernel_rfl) hHeld ?_
  refine pu 2 (some 23) (tf 3 19) (by kernel_rfl) ?_
  refine tk 3 (some 24) (tf 4 18) (by kernel_rfl) hHeld ?_
  refine pu 4 (some 25) (tf 5 17) (by kernel_rfl) ?_
  refine pu 6 (some 27) (tr [5, 1, 1, 15]) (by kernel_rfl) ?_
  refine tk 7 (some 28) (tr [5, 1, 2, 14]) (by kernel_rfl) hHeld ?_
  refine pu 8 (some 29) (tr [5, 1, 3, 13]) (by kernel_rfl) ?_
  refine tk 9 (some 30) (tr [5, 1, 4, 12]) (by kernel_rfl) hHeld ?_
  refine pu 10 (some 31) (tr [5, 1, 5, 11]) (by kernel_rfl) ?_
  refine pu 12 (some 33) (tr [5, 1, 5, 1, 1, 9]) (by kernel_rfl) ?_
  refine tk 13 (some 34) (tr [5, 1, 5, 1, 2, 8]) (by kernel_rfl) hHeld ?_
  refine pu 14 (some 35) (tr [5, 1, 5, 1, 3, 7]) (by kernel_rfl) ?_
  refine tk 15 (some 36) (tr [5, 1, 5, 1, 4, 6]) (by kernel_rfl) hHeld ?_
  refine pu 16 (some 37) (tr [5, 1, 5, 1, 5, 5]) (by kernel_rfl) ?_
  refine pu 18 (some 39) (tr [5, 1, 5, 1, 5, 1, 1, 3]) (by kernel_rfl) ?_
  refine join_ (σ := Nat) 1 (tf 21 1) (fun g => [(26, .int .i64 e1), (32, .int .i64 e2), (38, .int .i64 e3), (13, .pointer (some ⟨g, 0, none⟩)), (40, .agg #[.int .i64 a, .int .i64 e1, .int .i64 b, .int .i64 e2, .int .i64 c, .int .i64 e3, .int .i64 u])]) (fun g w' => cellI w.heap.size W.heap.size w w' gl gx go gq A1 c1 la A5 A6 A7 k5 k6 k7 xs ys zs Ao co out ∧ w'.heap[gc]? = some (.cells #[.int .i64 a, .int .i64 b, .int .i64 c] 60 (0, 0)) ∧ w'.heap[g]? = some (.cells #[.int .i64 0, .int .i64 0, .int .i64 0, .int .i64 0, .int .i64 0, .int .i64 0, .int .i64 0] 80 (0, 0)) ∧ W.heap.size ≤ g ∧ g ≠ gc ∧ W.heap.size ≤ w'.heap.size) ?_ ?_
  rotate_left
  ·intro hCont
   refine two_ (i := 5) (j := 20) (Ni := some 26) (Nj := some 13) (tr [11, 1, 5, 1, 1, 3]) (tr [5, 1, 5, 1, 5, 1, 1, 1, 1, 1]) rfl rfl rfl rfl (by kernel_rfl) (by decide) (by decide) (fun K hK => ?_) (fun K hK => ?_)
   ·skip
    refine goes_ Try.func105 (by kernel_rfl) rfl #[.slice A5 xs.length k5, .int .i64 i, .int .i64 4294967295] (by rfl) rfl rfl MT ?_
    refine (impl_end.calls A5 k5 xs i 4294967295 e1 _ (Kd.R_reads' HI.out.2.2.1.1).2.2 (Kd.R_reads' HI.out.2.2.1.1).2.1 E1.out).mono ?_
    rintro e w6 ⟨rfl, hd⟩
    refine ⟨_, rfl, ?_⟩
    have hb := hd.below
    replace HI := am (cellI.step HI.out hb (Nat.le_refl _))
    replace BK := am (blk_below BK.out hb)
    replace NS := am (Nat.le_trans NS.out hb.size)
    clear hb hd
    refine hK.out _ _ ⟨z0 _ BK.out, z1 _ BK.out, z2 _ BK.out, z0 _ HI.out.2.1.2.1, z1 _ HI.out.2.1.2.1, z2 _ HI.out.2.1.2.1⟩ (fun hHeld => ?_)
    clear hK K
    refine norm_ (a' := ?_) ?_ ?_
    rotate_left
    ·show Act.put _ (some 26) _ = _
     simp only [Act.put, List.setIfInBounds_toArray, List.set_cons_zero, List.set_cons_succ, i64_w, i32_w]
     rfl
    refine two_ (i := 11) (j := 20) (Ni := some 32) (Nj := some 13) (tr [17, 1, 1, 3]) (tr [11, 1, 5, 1, 1, 1, 1, 1]) rfl rfl rfl rfl (by kernel_rfl) (by decide) (by decide) (fun K hK => ?_) (fun K hK => ?_)
    ·skip
     refine goes_ Try.func105 (by kernel_rfl) rfl #[.slice A6 ys.length k6, .int .i64 k, .int .i64 4294967295] (by rfl) rfl rfl MT ?_
     refine (impl_end.calls A6 k6 ys k 4294967295 e2 _ (Kd.R_reads' HI.out.2.2.1.2.1).2.2 (Kd.R_reads' HI.out.2.2.1.2.1).2.1 E2.out).mono ?_
     rintro e w6 ⟨rfl, hd⟩
     refine ⟨_, rfl, ?_⟩
     have hb := hd.below
     replace HI := am (cellI.step HI.out hb (Nat.le_refl _))
     replace BK := am (blk_below BK.out hb)
     replace NS := am (Nat.le_trans NS.out hb.size)
     clear hb hd
     refine hK.out _ _ ⟨z0 _ BK.out, z1 _ BK.out, z2 _ BK.out, z0 _ HI.out.2.1.2.1, z1 _ HI.out.2.1.2.1, z2 _ HI.out.2.1.2.1⟩ (fun hHeld => ?_)
     clear hK K
     refine norm_ (a' := ?_) ?_ ?_
     rotate_left
     ·show Act.put _ (some 32) _ = _
      simp only [Act.put, List.setIfInBounds_toArray, List.set_cons_zero, List.set_cons_succ, i64_w, i32_w]
      rfl
     refine two_ (i := 17) (j := 20) (Ni := some 38) (Nj := some 13) (tf 19 3) (tr [17, 1, 1, 1, 1, 1]) rfl rfl rfl rfl (by kernel_rfl) (by decide) (by decide) (fun K hK => ?_) (fun K hK => ?_)
     ·skip
      refine goes_ Try.func105 (by kernel_rfl) rfl #[.slice A7 zs.length k7, .int .i64 n, .int .i64 65535] (by rfl) rfl rfl MT ?_
      refine (impl_end.calls A7 k7 zs n 65535 e3 _ (Kd.R_reads' HI.out.2.2.1.2.2).2.2 (Kd.R_reads' HI.out.2.2.1.2.2).2.1 E3.out).mono ?_
      rintro e w6 ⟨rfl, hd⟩
      refine ⟨_, rfl, ?_⟩
      have hb := hd.below
      replace HI := am (cellI.step HI.out hb (Nat.le_refl _))
      replace BK := am (blk_below BK.out hb)
      replace NS := am (Nat.le_trans NS.out hb.size)
      clear hb hd
      refine hK.out _ _ ⟨z0 _ BK.out, z1 _ BK.out, z2 _ BK.out, z0 _ HI.out.2.1.2.1, z1 _ HI.out.2.1.2.1, z2 _ HI.out.2.1.2.1⟩ (fun hHeld => ?_)
      clear hK K
      refine norm_ (a' := ?_) ?_ ?_
      rotate_left
      ·show Act.put _ (some 38) _ = _
       simp only [Act.put, List.setIfInBounds_toArray, List.set_cons_zero, List.set_cons_succ, i64_w, i32_w]
       rfl
      refine pu 19 (some 40) (tf 20 2) (by kernel_rfl) ?_
      refine one_ (i := 20) (N := some 13) (tf 21 1) rfl rfl (by kernel_rfl) (by decide) (fun K hK => ?_)
      refine box_step rfl (N := 13) rfl (cs := #[.int .i64 0, .int .i64 0, .int .i64 0, .int .i64 0, .int .i64 0, .int .i64 0, .int .i64 0]) (t := 80) BX ?_
      intro g hg w5 hbox hb
      have BC := am hbox
      have GG := am (show W.heap.size ≤ g from hg ▸ NS.out)
      have NE := am (show g ≠ gc from fun e => by have := blk_lt BK.out; omega)
      replace HI := am (cellI.step HI.out hb (Nat.le_refl _))
      replace BK := am (blk_below BK.out hb)
      replace NS := am (Nat.le_trans NS.out hb.size)
      clear hb hg hbox
      refine hK.out _ _ ⟨z0 _ BK.out, z1 _ BK.out, z2 _ BK.out, z0 _ HI.out.2.1.2.1, z1 _ HI.out.2.1.2.1, z2 _ HI.out.2.1.2.1⟩ (fun hHeld => ?_)
      clear hK K
      refine norm_ (a' := ?_) ?_ ?_
      rotate_left
      ·show Act.put _ (some 13) _ = _
       simp only [Act.put, List.setIfInBounds_toArray, List.set_cons_zero, List.set_cons_succ, i64_w, i32_w]
       rfl
      exact norm_ (by simp only [putAll, Act.put, List.setIfInBounds_toArray, List.set_cons_zero, List.set_cons_succ]) (hCont g _ ⟨HI.out, BK.out, BC.out, GG.out, NE.out, NS.out⟩)
     ·skip
      refine box_step rfl (N := 13) rfl (cs := #[.int .i64 0, .int .i64 0, .int .i64 0, .int .i64 0, .int .i64 0, .int .i64 0, .int .i64 0]) (t := 80) BX ?_
      intro g hg w5 hbox hb
      have BC := am hbox
      have GG := am (show W.heap.size ≤ g from hg ▸ NS.out)
      have NE := am (show g ≠ gc from fun e => by have := blk_lt BK.out; omega)
      replace HI := am (cellI.step HI.out hb (Nat.le_refl _))
      replace BK := am (blk_below BK.out hb)
      replace NS := am (Nat.le_trans NS.out hb.size)
      clear hb hg hbox
      refine hK.out _ _ ⟨z0 _ BK.out, z1 _ BK.out, z2 _ BK.out, z0 _ HI.out.2.1.2.1, z1 _ HI.out.2.1.2.1, z2 _ HI.out.2.1.2.1⟩ (fun hHeld => ?_)
      clear hK K
      refine norm_ (a' := ?_) ?_ ?_
      rotate_left
      ·show Act.put _ (some 13) _ = _
       simp only [Act.put, List.setIfInBounds_toArray, List.set_cons_zero, List.set_cons_succ, i64_w, i32_w]
       rfl
      refine one_ (i := 17) (N := some 38) (tr [19, 1, 1, 1]) rfl rfl (by kernel_rfl) (by decide) (fun K hK => ?_)
      refine goes_ Try.func105 (by kernel_rfl) rfl #[.slice A7 zs.length k7, .int .i64 n, .int .i64 65535] (by rfl) rfl rfl MT ?_
      refine (impl_end.calls A7 k7 zs n 65535 e3 _ (Kd.R_reads' HI.out.2.2.1.2.2).2.2 (Kd.R_reads' HI.out.2.2.1.2.2).2.1 E3.out).mono ?_
      rintro e w6 ⟨rfl, hd⟩
      refine ⟨_, rfl, ?_⟩
      have hb := hd.below
      replace HI := am (cellI.step HI.out hb (Nat.le_refl _))
      replace BK := am (blk_below BK.out hb)
      replace NS := am (Nat.le_trans NS.out hb.size)
      replace BC := am (blk_below BC.out hb)
      clear hb hd
      refine hK.out _ _ ⟨z0 _ BK.out, z1 _ BK.out, z2 _ BK.out, z0 _ HI.out.2.1.2.1, z1 _ HI.out.2.1.2.1, z2 _ HI.out.2.1.2.1⟩ (fun hHeld => ?_)
      clear hK K
      refine norm_ (a' := ?_) ?_ ?_
      rotate_left
      ·show Act.put _ (some 38) _ = _
       simp only [Act.put, List.setIfInBounds_toArray, List.set_cons_zero, List.set_cons_succ, i64_w, i32_w]
       rfl
      refine pu 19 (some 40) (tf 21 1) (by kernel_rfl) ?_
      exact norm_ (by simp only [putAll, Act.put, List.setIfInBounds_toArray, List.set_cons_zero, List.set_cons_succ]) (hCont g _ ⟨HI.out, BK.out, BC.out, GG.out, NE.out, NS.out⟩)
    ·skip
     refine box_step rfl (N := 13) rfl (cs := #[.int .i64 0, .int .i64 0, .int .i64 0, .int .i64 0, .int .i64 0, .int .i64 0, .int .i64 0]) (t := 80) BX ?_
     intro g hg w5 hbox hb
     have BC := am hbox
     have GG := am (show W.heap.size ≤ g from hg ▸ NS.out)
     have NE := am (show g ≠ gc from fun e => by have := blk_lt BK.out; omega)
     replace HI := am (cellI.step HI.out hb (Nat.le_refl _))
     replace BK := am (blk_below BK.out hb)
     replace NS := am (Nat.le_trans NS.out hb.size)
     clear hb hg hbox
     refine hK.out _ _ ⟨z0 _ BK.out, z1 _ BK.out, z2 _ BK.out, z0 _ HI.out.2.1.2.1, z1 _ HI.out.2.1.2.1, z2 _ HI.out.2.1.2.1⟩ (fun hHeld => ?_)
     clear hK K
     refine norm_ (a' := ?_) ?_ ?_
     rotate_left
     ·show Act.put _ (some 13) _ = _
      simp only [Act.put, List.setIfInBounds_toArray, List.set_cons_zero, List.set_cons_succ, i64_w, i32_w]
      rfl
     refine one_ (i := 11) (N := some 32) (tr [17, 1, 1, 1, 1, 1]) rfl rfl (by kernel_rfl) (by decide) (fun K hK => ?_)
     refine goes_ Try.func105 (by kernel_rfl) rfl #[.slice A6 ys.length k6, .int .i64 k, .int .i64 4294967295] (by rfl) rfl rfl MT ?_
     refine (impl_end.calls A6 k6 ys k 4294967295 e2 _ (Kd.R_reads' HI.out.2.2.1.2.1).2.2 (Kd.R_reads' HI.out.2.2.1.2.1).2.1 E2.out).mono ?_
     rintro e w6 ⟨rfl, hd⟩
     refine ⟨_, rfl, ?_⟩
     have hb := hd.below
     replace HI := am (cellI.step HI.out hb (Nat.le_refl _))
     replace BK := am (blk_below BK.out hb)
     replace NS := am (Nat.le_trans NS.out hb.size)
     replace BC := am (blk_below BC.out hb)
     clear hb hd
     refine hK.out _ _ ⟨z0 _ BK.out, z1 _ BK.out, z2 _ BK.out, z0 _ HI.out.2.1.2.1, z1 _ HI.out.2.1.2.1, z2 _ HI.out.2.1.2.1⟩ (fun hHeld => ?_)
     clear hK K
     refine norm_ (a' := ?_) ?_ ?_
     rotate_left
     ·show Act.put _ (some 32) _ = _
      simp only [Act.put, List.setIfInBounds_toArray, List.set_cons_zero, List.set_cons_succ, i64_w, i32_w]
      rfl
     refine one_ (i := 17) (N := some 38) (tr [19, 1, 1, 1]) rfl rfl (by kernel_rfl) (by decide) (fun K hK => ?_)
     refine goes_ Try.func105 (by kernel_rfl) rfl #[.slice A7 zs.length k7, .int .i64 n, .int .i64 65535] (by rfl) rfl rfl MT ?_
     refine (impl_end.calls A7 k7 zs n 65535 e3 _ (Kd.R_reads' HI.out.2.2.1.2.2).2.2 (Kd.R_reads' HI.out.2.2.1.2.2).2.1 E3.out).mono ?_
     rintro e w6 ⟨rfl, hd⟩
     refine ⟨_, rfl, ?_⟩
     have hb := hd.below
     replace HI := am (cellI.step HI.out hb (Nat.le_refl _))
     replace BK := am (blk_below BK.out hb)
     replace NS := am (Nat.le_trans NS.out hb.size)
     replace BC := am (blk_below BC.out hb)
     clear hb hd
     refine hK.out _ _ ⟨z0 _ BK.out, z1 _ BK.out, z2 _ BK.out, z0 _ HI.out.2.1.2.1, z1 _ HI.out.2.1.2.1, z2 _ HI.out.2.1.2.1⟩ (fun hHeld => ?_)
     clear hK K
     refine norm_ (a' := ?_) ?_ ?_
     rotate_left
     ·show Act.put _ (some 38) _ = _
      simp only [Act.put, List.setIfInBounds_toArray, List.set_cons_zero, List.set_cons_succ, i64_w, i32_w]
      rfl
     refine pu 19 (some 40) (tf 21 1) (by kernel_rfl) ?_
     exact norm_ (by simp only [putAll, Act.put, List.setIfInBounds_toArray, List.set_cons_zero, List.set_cons_succ]) (hCont g _ ⟨HI.out, BK.out, BC.out, GG.out, NE.out, NS.out⟩)
   ·skip
    refine box_step rfl (N := 13) rfl (cs := #[.int .i64 0, .int .i64 0, .int .i64 0, .int .i64 0, .int .i64 0, .int .i64 0, .int .i64 0]) (t := 80) BX ?_
    intro g hg w5 hbox hb
    have BC := am hbox
    have GG := am (show W.heap.size ≤ g from hg ▸ NS.out)
    have NE := am (show g ≠ gc from fun e => by have := blk_lt BK.out; omega)
    replace HI := am (cellI.step HI.out hb (Nat.le_refl _))
    replace BK := am (blk_below BK.out hb)
    replace NS := am (Nat.le_trans NS.out hb.size)
    clear hb hg hbox
    refine hK.out _ _ ⟨z0 _ BK.out, z1 _ BK.out, z2 _ BK.out, z0 _ HI.out.2.1.2.1, z1 _ HI.out.2.1.2.1, z2 _ HI.out.2.1.2.1⟩ (fun hHeld => ?_)
    clear hK K
    refine norm_ (a' := ?_) ?_ ?_
    rotate_left
    ·show Act.put _ (some 13) _ = _
     simp only [Act.put, List.setIfInBounds_toArray, List.set_cons_zero, List.set_cons_succ, i64_w, i32_w]
     rfl
    refine one_ (i := 5) (N := some 26) (tr [11, 1, 5, 1, 1, 1, 1, 1]) rfl rfl (by kernel_rfl) (by decide) (fun K hK => ?_)
    refine goes_ Try.func105 (by kernel_rfl) rfl #[.slice A5 xs.length k5, .int .i64 i, .int .i64 4294967295] (by rfl) rfl rfl MT ?_
    refine (impl_end.calls A5 k5 xs i 4294967295 e1 _ (Kd.R_reads' HI.out.2.2.1.1).2.2 (Kd.R_reads' HI.out.2.2.1.1).2.1 E1.out).mono ?_
    rintro e w6 ⟨rfl, hd⟩
    refine ⟨_, rfl, ?_⟩
    have hb := hd.below
    replace HI := am (cellI.step HI.out hb (Nat.le_refl _))
    replace BK := am (blk_below BK.out hb)
    replace NS := am (Nat.le_trans NS.out hb.size)
    replace BC := am (blk_below BC.out hb)
    clear hb hd
    refine hK.out _ _ ⟨z0 _ BK.out, z1 _ BK.out, z2 _ BK.out, z0 _ HI.out.2.1.2.1, z1 _ HI.out.2.1.2.1, z2 _ HI.out.2.1.2.1⟩ (fun hHeld => ?_)
    clear hK K
    refine norm_ (a' := ?_) ?_ ?_
    rotate_left
    ·show Act.put _ (some 26) _ = _
     simp only [Act.put, List.setIfInBounds_toArray, List.set_cons_zero, List.set_cons_succ, i64_w, i32_w]
     rfl
    refine one_ (i := 11) (N := some 32) (tr [17, 1, 1, 1, 1, 1]) rfl rfl (by kernel_rfl) (by decide) (fun K hK => ?_)
    refine goes_ Try.func105 (by kernel_rfl) rfl #[.slice A6 ys.length k6, .int .i64 k, .int .i64 4294967295] (by rfl) rfl rfl MT ?_
    refine (impl_end.calls A6 k6 ys k 4294967295 e2 _ (Kd.R_reads' HI.out.2.2.1.2.1).2.2 (Kd.R_reads' HI.out.2.2.1.2.1).2.1 E2.out).mono ?_
    rintro e w6 ⟨rfl, hd⟩
    refine ⟨_, rfl, ?_⟩
    have hb := hd.below
    replace HI := am (cellI.step HI.out hb (Nat.le_refl _))
    replace BK := am (blk_below BK.out hb)
    replace NS := am (Nat.le_trans NS.out hb.size)
    replace BC := am (blk_below BC.out hb)
    clear hb hd
    refine hK.out _ _ ⟨z0 _ BK.out, z1 _ BK.out, z2 _ BK.out, z0 _ HI.out.2.1.2.1, z1 _ HI.out.2.1.2.1, z2 _ HI.out.2.1.2.1⟩ (fun hHeld => ?_)
    clear hK K
    refine norm_ (a' := ?_) ?_ ?_
    rotate_left
    ·show Act.put _ (some 32) _ = _
     simp only [Act.put, List.setIfInBounds_toArray, List.set_cons_zero, List.set_cons_succ, i64_w, i32_w]
     rfl
    refine one_ (i := 17) (N := some 38) (tr [19, 1, 1, 1]) rfl rfl (by kernel_rfl) (by decide) (fun K hK => ?_)
    refine goes_ Try.func105 (by kernel_rfl) rfl #[.slice A7 zs.length k7, .int .i64 n, .int .i64 65535] (by rfl) rfl rfl MT ?_
    refine (impl_end.calls A7 k7 zs n 65535 e3 _ (Kd.R_reads' HI.out.2.2.1.2.2).2.2 (Kd.R_reads' HI.out.2.2.1.2.2).2.1 E3.out).mono ?_
    rintro e w6 ⟨rfl, hd⟩
    refine ⟨_, rfl, ?_⟩
    have hb := hd.below
    replace HI := am (cellI.step HI.out hb (Nat.le_refl _))
    replace BK := am (blk_below BK.out hb)
    replace NS := am (Nat.le_trans NS.out hb.size)
    replace BC := am (blk_below BC.out hb)
    clear hb hd
    refine hK.out _ _ ⟨z0 _ BK.out, z1 _ BK.out, z2 _ BK.out, z0 _ HI.out.2.1.2.1, z1 _ HI.out.2.1.2.1, z2 _ HI.out.2.1.2.1⟩ (fun hHeld => ?_)
    clear hK K
    refine norm_ (a' := ?_) ?_ ?_
    rotate_left
    ·show Act.put _ (some 38) _ = _
     simp only [Act.put, List.setIfInBounds_toArray, List.set_cons_zero, List.set_cons_succ, i64_w, i32_w]
     rfl
    refine pu 19 (some 40) (tf 21 1) (by kernel_rfl) ?_
    exact norm_ (by simp only [putAll, Act.put, List.setIfInBounds_toArray, List.set_cons_zero, List.set_cons_succ]) (hCont g _ ⟨HI.out, BK.out, BC.out, GG.out, NE.out, NS.out⟩)
  rintro g w5 ⟨hi_, hk_, hc_, hg_, hn_, hs_⟩
  replace HI := am hi_
  replace BK := am hk_
  have BC := am hc_
  have GG := am hg_
  have NE := am hn_
  replace NS := am hs_
  clear hi_ hk_ hc_ hg_ hn_ hs_ hHeld
  refine norm_ (a' := ?_) ?_ ?_
  rotate_left
  ·simp only [putAll, Act.put, List.setIfInBounds_toArray, List.set_cons_zero, List.set_cons_succ]
   rfl
  refine one_ (i := 21) (N := none) (tf 22 0) rfl rfl (by kernel_rfl) (by decide) (fun K hK => ?_)
  obtain ⟨hs0, hs1, hs2, hs3, hs4, hs5, hs6, hsf⟩ := y7 w5 BC.out
  refine skip_ (w1 := ?_) (by rfl) rfl ?_ ?_
  rotate_left
  ·go_simp
   rfl
  replace HI := am (cellI.far7 HI.out GG.out NL.out NX.out NO.out NQ.out rfl WS.out (.int .i64 a) (.int .i64 e1) (.int .i64 b) (.int .i64 e2) (.int .i64 c) (.int .i64 e3) (.int .i64 u))
  replace BK := am (off7 BK.out (Ne.symm NE.out) (.int .i64 a) (.int .i64 e1) (.int .i64 b) (.int .i64 e2) (.int .i64 c) (.int .i64 e3) (.int .i64 u))
  replace BC := am (put7 BC.out (.int .i64 a) (.int .i64 e1) (.int .i64 b) (.int .i64 e2) (.int .i64 c) (.int .i64 e3) (.int .i64 u))
  replace NS := am (Nat.le_of_lt (Nat.lt_of_le_of_lt GG.out (blk_lt BC.out)))
  refine hK.out _ _ ⟨z0 _ BK.out, z1 _ BK.out, z2 _ BK.out, z0 _ HI.out.2.1.2.1, z1 _ HI.out.2.1.2.1, z2 _ HI.out.2.1.2.1⟩ (fun hHeld => ?_)
  clear hK K hHeld hs0 hs1 hs2 hs3 hs4 hs5 hs6 hsf
  refine norm_ (a' := ?_) ?_ ?_
  rotate_left
  ·rfl
  refine done_ (by kernel_rfl) ?_
  generalize (((((((w5.setCell ⟨g, 0, none⟩ (.int .i64 a)).setCell ⟨g, 1, none⟩ (.int .i64 e1)).setCell ⟨g, 2, none⟩ (.int .i64 b)).setCell ⟨g, 3, none⟩ (.int .i64 e2)).setCell ⟨g, 4, none⟩ (.int .i64 c)).setCell ⟨g, 5, none⟩ (.int .i64 e3)).setCell ⟨g, 6, none⟩ (.int .i64 u)) = w6 at HI BK BC NS ⊢
  have hln := LN.out
  obtain ⟨ho0, hof⟩ := y1 w6 HI.out.2.1.2.2
  go_upto_if 44 with (first | (go_at_call 89; skip))
  (try simp only [Act.put, List.setIfInBounds_toArray, List.set_cons_zero, List.set_cons_succ])
  go_cut [] (fun wc => Aside0 (cellI w.heap.size W.heap.size w wc gl gx go gq A1 c1 la A5 A6 A7 k5 k6 k7 xs ys zs Ao co out) ∧ Aside0 (wc.heap[g]? = some (.cells #[(.int .i64 a), (.int .i64 e1), (.int .i64 b), (.int .i64 e2), (.int .i64 c), (.int .i64 e3), (.int .i64 u)] 80 (0, 0))) ∧ Aside0 (¬ joinB out ⟨a, e1, b, e2, c, e3, u⟩))
  case first =>
   by_cases hne : 0 < out.length
   ·have hnz : 0 < (out.length : Int) := by omega
    (first | rw [decide_eq_true hnz] | (simp only [i64_w, i32_w]; rw [decide_eq_true hnz]) | skip)
    have ej : ((out.length : Int) - 1).toNat = out.length - 1 := by omega
    obtain ⟨ad, eo, hx0, hx1, hx2, hx3, hx4, hx5, hx6⟩ := at_T80 (Kd.R_reads' HI.out.2.2.2.1).2.2 ((out.length : Int) - 1) (by omega) (by omega)
    cases eo
    rw [ej] at hx0 hx1 hx2 hx3 hx4 hx5 hx6
    obtain ⟨z, hz⟩ : ∃ z, z = rd_T80 out ((out.length : Int) - 1) := ⟨_, rfl⟩
    rw [← hz] at hx0 hx1 hx2 hx3 hx4 hx5 hx6
    have HZ := am hz
    clear hz
    go_upto_region 8 with (first | ((with_reducible refine gate_dst (N := 15) rfl ?_); refine box_event rfl (N := 15) rfl (cs := #[.int .i64 0, .int .i64 0, .int .i64 0, .int .i64 0, .int .i64 0, .int .i64 0, .int .i64 0]) (t := 80) BX ?_; intro h hh w7 hbox hbw; have HH := am (show W.heap.size ≤ h from hh ▸ NS.out); have NHC := am (show h ≠ gc from fun e => by have := blk_lt BK.out; omega); have NHG := am (show h ≠ g from fun e => by have := blk_lt BC.out; omega); have BQ := am hbox; replace HI := am (cellI.step HI.out hbw (Nat.le_refl _)); replace BK := am (blk_below BK.out hbw); replace BC := am (blk_below BC.out hbw); replace NS := am (Nat.le_trans NS.out hbw.size); clear hh hbox hbw; obtain ⟨hq0, hq1, hq2, hq3, hq4, hq5, hq6, hqf⟩ := y7 w7 BQ.out))
    clear hx0 hx1 hx2 hx3 hx4 hx5 hx6 ho0 hof
    replace HI := am (cellI.far7 HI.out HH.out NL.out NX.out NO.out NQ.out rfl WS.out (.int .i64 z.f0) (.int .i64 z.f1) (.int .i64 z.f2) (.int .i64 z.f3) (.int .i64 z.f4) (.int .i64 z.f5) (.int .i64 z.f6))
    replace BK := am (off7 BK.out (Ne.symm NHC.out) (.int .i64 z.f0) (.int .i64 z.f1) (.int .i64 z.f2) (.int .i64 z.f3) (.int .i64 z.f4) (.int .i64 z.f5) (.int .i64 z.f6))
    replace BC := am (off7 BC.out (Ne.symm NHG.out) (.int .i64 z.f0) (.int .i64 z.f1) (.int .i64 z.f2) (.int .i64 z.f3) (.int .i64 z.f4) (.int .i64 z.f5) (.int .i64 z.f6))
    replace BQ := am (put7 BQ.out (.int .i64 z.f0) (.int .i64 z.f1) (.int .i64 z.f2) (.int .i64 z.f3) (.int .i64 z.f4) (.int .i64 z.f5) (.int .i64 z.f6))
    replace NS := am (Nat.le_of_lt (Nat.lt_of_le_of_lt HH.out (blk_lt BQ.out)))
    generalize (((((((w7.setCell ⟨h, 0, none⟩ (.int .i64 z.f0)).setCell ⟨h, 1, none⟩ (.int .i64 z.f1)).setCell ⟨h, 2, none⟩ (.int .i64 z.f2)).setCell ⟨h, 3, none⟩ (.int .i64 z.f3)).setCell ⟨h, 4, none⟩ (.int .i64 z.f4)).setCell ⟨h, 5, none⟩ (.int .i64 z.f5)).setCell ⟨h, 6, none⟩ (.int .i64 z.f6)) = w8 at HI BK BC BQ NS ⊢
    refine start_ (n := 8) (S := fun w' => w'.cell? ⟨g, 4, none⟩ = some (.int .i64 c) ∧ w'.cell? ⟨g, 5, none⟩ = some (.int .i64 e3)) (ds := []) (tf 0 8) (by kernel_rfl) rfl rfl ⟨z4 _ BC.out, z5 _ BC.out⟩ (fun hHeld => ?_)
    replace HI := am (cellI.step HI.out (below_drew (Below.refl _ _)) (Nat.le_refl _))
    replace BK := am (blk_drew BK.out)
    replace BC := am (blk_drew BC.out)
    replace BQ := am (blk_drew BQ.out)
    replace NS := am (show W.heap.size ≤ w8.drew.heap.size from NS.out)
    generalize w8.drew = w9 at HI BK BC BQ NS hHeld ⊢
    refine pu 0 (some 50) (tr [1, 7]) (by kernel_rfl) ?_
    refine tk 1 (some 51) (tr [2, 6]) (by kernel_rfl) hHeld ?_
    refine pu 2 (some 52) (tr [3, 5]) (by kernel_rfl) ?_
    refine tk 3 (some 53) (tr [4, 4]) (by kernel_rfl) hHeld ?_
    refine pu 4 (some 54) (tr [5, 3]) (by kernel_rfl) ?_
    refine one_ (i := 5) (N := none) (tr [6, 2]) rfl rfl (by kernel_rfl) (by decide) (fun K hK => ?_)
    have hq4 := z4 _ BQ.out
    have hqf := blk_frozen BQ.out 4
    refine skip_ (w1 := ?_) (by rfl) rfl ?_ ?_
    rotate_left
    ·go_simp
     rfl
    clear hq4 hqf
    replace HI := am (cellI.far HI.out HH.out NL.out NX.out NO.out NQ.out rfl WS.out 4 (.int .i64 c))
    replace BK := am ((Below.heap_setCell _ ⟨h, 4, none⟩ (.int .i64 c) gc (Ne.symm NHC.out)).trans BK.out)
    replace BC := am ((Below.heap_setCell _ ⟨h, 4, none⟩ (.int .i64 c) g (Ne.symm NHG.out)).trans BC.out)
    replace BQ := am (blk_put (cs' := #[.int .i64 z.f0, .int .i64 z.f1, .int .i64 z.f2, .int .i64 z.f3, .int .i64 c, .int .i64 z.f5, .int .i64 z.f6]) BQ.out 4 (.int .i64 c) rfl)
    replace NS := am (Nat.le_of_lt (Nat.lt_of_le_of_lt HH.out (blk_lt BQ.out)))
    refine hK.out _ _ ⟨z4 _ BC.out, z5 _ BC.out⟩ (fun hHeld => ?_)
    clear hK K
    refine norm_ (a' := ?_) ?_ ?_
    rotate_left
    ·rfl
    refine pu 6 (some 55) (tr [7, 1]) (by kernel_rfl) ?_
    refine one_ (i := 7) (N := none) (tf 8 0) rfl rfl (by kernel_rfl) (by decide) (fun K hK => ?_)
    generalize w9.setCell ⟨h, 4, none⟩ (.int .i64 c) = w10 at HI BK BC BQ NS hHeld hK ⊢
    have hq5 := z5 _ BQ.out
    have hqf := blk_frozen BQ.out 5
    refine skip_ (w1 := ?_) (by rfl) rfl ?_ ?_
    rotate_left
    ·go_simp
     rfl
    clear hq5 hqf
    replace HI := am (cellI.far HI.out HH.out NL.out NX.out NO.out NQ.out rfl WS.out 5 (.int .i64 e3))
    replace BK := am ((Below.heap_setCell _ ⟨h, 5, none⟩ (.int .i64 e3) gc (Ne.symm NHC.out)).trans BK.out)
    replace BC := am ((Below.heap_setCell _ ⟨h, 5, none⟩ (.int .i64 e3) g (Ne.symm NHG.out)).trans BC.out)
    replace BQ := am (blk_put (cs' := #[.int .i64 z.f0, .int .i64 z.f1, .int .i64 z.f2, .int .i64 z.f3, .int .i64 c, .int .i64 e3, .int .i64 z.f6]) BQ.out 5 (.int .i64 e3) rfl)
    replace NS := am (Nat.le_of_lt (Nat.lt_of_le_of_lt HH.out (blk_lt BQ.out)))
    refine hK.out _ _ ⟨z4 _ BC.out, z5 _ BC.out⟩ (fun hHeld => ?_)
    clear hK K hHeld
    refine norm_ (a' := ?_) ?_ ?_
    rotate_left
    ·rfl
    refine done_ (by kernel_rfl) ?_
    generalize w10.setCell ⟨h, 5, none⟩ (.int .i64 e3) = w11 at HI BK BC BQ NS ⊢
    go_upto_region 9 with (first | (go_at_call 89; skip))
    obtain ⟨j, hj⟩ : ∃ j : Int, j = (out.length : Int) - 1 := ⟨_, rfl⟩
    obtain ⟨ad', eo', -, -, -, -, -, hx5, -⟩ := at_T80 (Kd.R_reads' HI.out.2.2.2.1).2.2 j (by omega) (by omega)
    cases eo'
    have hzj : rd_T80 out j = z := by rw [hj]; exact HZ.out.symm
    rw [hzj] at hx5
    have hw1 : wrap64 ((out.length : Int) - 1) = j := by unfold wrap64; omega
    have hj0 := eq_true (show 0 ≤ j by omega)
    have hj1 := eq_true (show j < (out.length : Int) by omega)
    have HJ := am hj
    clear hj hzj ej
    refine start_ (n := 15) (S := fun w' => ce7 w' h (.int .i64 z.f0) (.int .i64 z.f1) (.int .i64 z.f2) (.int .i64 z.f3) (.int .i64 c) (.int .i64 e3) (.int .i64 z.f6) (ce7 w' g (.int .i64 a) (.int .i64 e1) (.int .i64 b) (.int .i64 e2) (.int .i64 c) (.int .i64 e3) (.int .i64 u) (w'.cell? ⟨go, 0, none⟩ = some (.slice (some ad) out.length co) ∧ w'.cell? ⟨(ad.add (j.toNat * 7)).block, (ad.add (j.toNat * 7)).off + 5, none⟩ = some (.int .i64 z.f5)))) (ds := []) (tf 0 15) (by kernel_rfl) rfl rfl ⟨z0 _ BQ.out, z1 _ BQ.out, z2 _ BQ.out, z3 _ BQ.out, z4 _ BQ.out, z5 _ BQ.out, z6 _ BQ.out, z0 _ BC.out, z1 _ BC.out, z2 _ BC.out, z3 _ BC.out, z4 _ BC.out, z5 _ BC.out, z6 _ BC.out, z0 _ HI.out.2.1.2.2, hx5⟩ (fun hHeld => ?_)
    clear hx5
    replace HI := am (cellI.step HI.out (below_drew (Below.refl _ _)) (Nat.le_refl _))
    replace BC := am (blk_drew BC.out)
    replace NS := am (show W.heap.size ≤ w11.drew.heap.size from NS.out)
    clear BK BQ
    generalize w11.drew = w12 at HI BC NS hHeld ⊢
    refine tk 0 (some 56) (tr [1, 14]) (by kernel_rfl) hHeld ?_
    refine tk 1 (some 57) (tr [2, 13]) (by kernel_rfl) hHeld ?_
    by_cases hE : z.f0 = a ∧ z.f1 = e1 ∧ z.f2 = b ∧ z.f3 = e2 ∧ z.f6 = u
    ·obtain ⟨rfl, rfl, rfl, rfl, rfl⟩ := hE
     refine pu 2 (some 58) (tr [3, 12]) (by kernel_rfl) ?_
     refine pu 3 (some 59) (tr [4, 11]) (by kernel_rfl) ?_
     refine tk 4 (some 60) (tr [5, 10]) (by kernel_rfl) hHeld ?_
     refine pu 5 (some 61) (tr [6, 9]) (by kernel_rfl) ?_
     refine pu 6 (some 62) (tr [7, 8]) (by kernel_rfl) ?_
     rw [hw1]
     refine pu 7 (some 63) (tr [8, 7]) (by kernel_rfl) ?_
     refine pu 8 (some 64) (tr [9, 6]) (by kernel_rfl) ?_
     refine tk 9 (some 65) (tr [10, 5]) (by kernel_rfl) hHeld ?_
     refine pu 10 (some 66) (tr [11, 4]) (by kernel_rfl) ?_
     refine pu 11 (some 67) (tr [12, 3]) (by kernel_rfl) ?_
     refine tk 12 (some 68) (tr [13, 2]) (by kernel_rfl) hHeld ?_
     refine pu 13 (some 69) (tr [14, 1]) (by kernel_rfl) ?_
     refine pu 14 (some 70) (tf 15 0) (by kernel_rfl) ?_
     refine done_ (by kernel_rfl) ?_
     by_cases hC : wrap64 (z.f5 + 1) = c
     ·rw [show (wrap64 (z.f5 + 1) == c) = true from beq_iff_eq.mpr hC]
      clear hHeld hw1 hj0 hj1
      have ej : ((out.length : Int) - 1).toNat = out.length - 1 := by omega
      obtain ⟨gr, cap, eo, hgb, hgs, cells, HG⟩ := Kd.R_form HI.out.2.2.2.1 hne
      cases eo
      obtain ⟨ce, hcl, hM, hcc, hfr⟩ := Kd.R_elem HI.out.2.2.2.1 z80 ((out.length : Int) - 1) (by omega) (by omega)
      obtain rfl := k80_openM hM
      have HP := Kd.R_seg HI.out.2.2.2.1 ((out.length : Int) - 1) (by omega) (by omega) (seg := [.int .i64 e3]) (j := 5) hcl hcc (show 6 ≤ 7 from by decide) (x' := (⟨(rd_T80 out ((out.length : Int) - 1)).f0, (rd_T80 out ((out.length : Int) - 1)).f1, (rd_T80 out ((out.length : Int) - 1)).f2, (rd_T80 out ((out.length : Int) - 1)).f3, (rd_T80 out ((out.length : Int) - 1)).f4, e3, (rd_T80 out ((out.length : Int) - 1)).f6⟩ : S80)) (k80_mkM _ _ _ (⟨(rd_T80 out ((out.length : Int) - 1)).f0, (rd_T80 out ((out.length : Int) - 1)).f1, (rd_T80 out ((out.length : Int) - 1)).f2, (rd_T80 out ((out.length : Int) - 1)).f3, (rd_T80 out ((out.length : Int) - 1)).f4, e3, (rd_T80 out ((out.length : Int) - 1)).f6⟩ : S80)) (fun _ hk => hk)
      have hx5 := hcc 5 _ rfl
      have hf5 := hfr 5
      simp only [show (k80).sz = 7 from rfl, Nat.mul_one, Nat.add_zero] at hx5 hf5
      rw [ej] at hx5 hf5 HP
      have HPA := am HP
      have HGB := am hgb
      have HEJ := am ej
      clear hcl hcc hfr hM HP hgs HG ej hgb
      obtain ⟨ho0, hof⟩ := y1 w12 HI.out.2.1.2.2
      obtain ⟨hs0, hs1, hs2, hs3, hs4, hs5, hs6, hsf⟩ := y7 w12 BC.out
      go_wp2
      go_ret
      have GN : gl ≠ gr := fun e => Kd.R_ne HI.out.2.2.2.1 HI.out.2.1.1 (by decide) (by rw [e]; rfl)
      have XN : gx ≠ gr := fun e => Kd.R_ne HI.out.2.2.2.1 HI.out.2.1.2.1 (by decide) (by rw [e]; rfl)
      have QN : gq ≠ gr := fun e => Kd.R_ne HI.out.2.2.2.1 HI.out.2.2.2.2 (by decide) (by rw [e]; rfl)
      have ON : go ≠ gr := fun e => Kd.R_ne HI.out.2.2.2.1 HI.out.2.1.2.2 (by decide) (by rw [e]; rfl)
      have HP1 := HPA.out.1
      have HP2 : w12.grownBy (w12.setCell ⟨gr, (out.length - 1) * 7 + 5, none⟩ (.int .i64 e3)) (some gr) := HPA.out.2
      have hn : W.heap.size ≤ (w12.setCell ⟨gr, (out.length - 1) * 7 + 5, none⟩ (.int .i64 e3)).heap.size := siz1 NS.out _ _
      refine ⟨(out.set (out.length - 1) ⟨(rd_T80 out ((out.length : Int) - 1)).f0, (rd_T80 out ((out.length : Int) - 1)).f1, (rd_T80 out ((out.length : Int) - 1)).f2, (rd_T80 out ((out.length : Int) - 1)).f3, (rd_T80 out ((out.length : Int) - 1)).f4, e3, (rd_T80 out ((out.length : Int) - 1)).f6⟩, true), some ⟨gr, 0, none⟩, co, rfl, ?_, ?_⟩
      ·unfold cellF
       rw [if_neg (show ¬ z.f6 < 0 by omega), if_pos (show joinB out ⟨z.f0, z.f1, z.f2, z.f3, c, e3, z.f6⟩ from ⟨hne, by rw [← HZ.out], by rw [← HZ.out], by rw [← HZ.out], by rw [← HZ.out], by rw [← HZ.out], by rw [← HZ.out]; exact hC⟩)]
      ·unfold cellI
       simp only [List.length_set]
       refine ⟨below_set HI.out.1 HGB.out, ⟨(Below.heap_setCell _ ⟨gr, _, none⟩ _ gl GN).trans HI.out.2.1.1, (Below.heap_setCell _ ⟨gr, _, none⟩ _ gx XN).trans HI.out.2.1.2.1, (Below.heap_setCell _ ⟨gr, _, none⟩ _ go ON).trans HI.out.2.1.2.2⟩, ⟨Kd.R_mono (Kd.R_over' (v := .slice (some ⟨gr, 0, none⟩) out.length co) HI.out.2.2.1.1 (Kd.R_typed HI.out.2.2.2.1) (by decide) HP2) (fun k hk => Nat.lt_of_lt_of_le hk hn), Kd.R_mono (Kd.R_over' (v := .slice (some ⟨gr, 0, none⟩) out.length co) HI.out.2.2.1.2.1 (Kd.R_typed HI.out.2.2.2.1) (by decide) HP2) (fun k hk => Nat.lt_of_lt_of_le hk hn), Kd.R_mono (Kd.R_over' (v := .slice (some ⟨gr, 0, none⟩) out.length co) HI.out.2.2.1.2.2 (Kd.R_typed HI.out.2.2.2.1) (by decide) HP2) (fun k hk => Nat.lt_of_lt_of_le hk hn)⟩, Kd.R_mono (Kd.R_bound HP1) (fun k hk => hk.2.2.1), (Below.heap_setCell _ ⟨gr, _, none⟩ _ gq QN).trans HI.out.2.2.2.2⟩
     ·rw [show (wrap64 (z.f5 + 1) == c) = false from beq_eq_false_iff_ne.mpr hC]
      go_wp2
      go_meet
      case rel => exact ⟨HI, BC, ⟨fun q => hC (by have := q.2.2.2.2.2.2; rw [← HZ.out] at this; exact this)⟩⟩
    ·refine pu 2 (some 58) (tr [3, 12]) (by kernel_rfl) ?_
     have hqf : (z.f0 == a && (z.f1 == e1 && (z.f2 == b && (z.f3 == e2 && z.f6 == u)))) = false := by
      rw [Bool.eq_false_iff]
      intro hh
      simp only [Bool.and_eq_true, beq_iff_eq] at hh
      exact hE hh
     rw [hqf]
     refine pu 3 (some 59) (tr [4, 11]) (by kernel_rfl) ?_
     refine po 4 (some 60) (tr [5, 10]) (by kernel_rfl) ?_
     refine po 5 (some 61) (tr [6, 9]) (by kernel_rfl) ?_
     refine po 6 (some 62) (tr [7, 8]) (by kernel_rfl) ?_
     refine po 7 (some 63) (tr [8, 7]) (by kernel_rfl) ?_
     refine po 8 (some 64) (tr [9, 6]) (by kernel_rfl) ?_
     refine po 9 (some 65) (tr [10, 5]) (by kernel_rfl) ?_
     refine po 10 (some 66) (tr [11, 4]) (by kernel_rfl) ?_
     refine po 11 (some 67) (tr [12, 3]) (by kernel_rfl) ?_
     refine po 12 (some 68) (tr [13, 2]) (by kernel_rfl) ?_
     refine po 13 (some 69) (tr [14, 1]) (by kernel_rfl) ?_
     refine pu 14 (some 70) (tf 15 0) (by kernel_rfl) ?_
     refine done_ (by kernel_rfl) ?_
     go_wp2
     go_meet
     case rel => exact ⟨HI, BC, ⟨fun q => hE (by have e := q.2; rw [← HZ.out] at e; exact ⟨e.1, e.2.1, e.2.2.1, e.2.2.2.1, e.2.2.2.2.1⟩)⟩⟩
   ·have hnz : ¬ 0 < (out.length : Int) := by omega
    (first | rw [decide_eq_false hnz] | (simp only [i64_w, i32_w]; rw [decide_eq_false hnz]) | skip)
    go_wp2
    go_meet
    case rel => exact ⟨HI, BC, ⟨fun q => hne q.1⟩⟩
  case rest =>
   clear HI BC NS
   obtain ⟨HI, BC, HN⟩ := hcut
   obtain ⟨ho0, hof⟩ := y1 wc HI.out.2.1.2.2
   obtain ⟨hs0, hs1, hs2, hs3, hs4, hs5, hs6, hsf⟩ := y7 wc BC.out
   go_upto_region 13 with (first | ((with_reducible refine gate_builtin (b := .append) (xs := #[.tmp 78, .tmp 80]) rfl ?_); at_builtin; refine Kd.R_append k80 (w0 := w) w.heap.size rfl (.tmp 78) (.tmp 80) 74 80 (.agg #[(.int .i64 0), (.int .i64 0), (.int .i64 0), (.int .i64 0), (.int .i64 0), (.int .i64 0), (.int .i64 0)]) 56 rfl Try.underlying74 info80 rfl (by decide) (by omega) (.slice Ao out.length co) out (⟨a, e1, b, e2, c, e3, u⟩ : S80) [(.int .i64 a), (.int .i64 e1), (.int .i64 b), (.int .i64 e2), (.int .i64 c), (.int .i64 e3), (.int .i64 u)] (fun k => k ≠ g) (fun _ => False) rfl rfl ?aP (fun _ hk => hk.elim) ?aF ?aO ?aB ?aS ?aL ?_; (case aP => exact k80_mkM _ _ _ (⟨a, e1, b, e2, c, e3, u⟩ : S80)); (case aB => exact (by (with_reducible repeat (first | apply below_alloc)); exact HI.out.1)); (case aF => exact Kd.freshB (by (with_reducible repeat (first | refine blk_drewN ?_ _ | refine blk_drew ?_ | refine blk_alloc ?_ _)); exact BC.out)); (case aO => exact Kd.R_mono (by (with_reducible repeat (first | apply Kd.R_alloc | apply Kd.R_drewN | apply Kd.R_drew)); exact HI.out.2.2.2.1) (fun k hk => by have := GG.out; have : k < W.heap.size := hk; omega)); (case aS => exact (below_size (by (with_reducible repeat (first | apply below_alloc)); exact HI.out.1))); (case aL => have := LN.out; omega); intro v w20 ho hb hg hat; obtain ⟨Av, cv, rfl⟩ := Kd.R_slice ho; have HA := am ho; have HB2 := am hb; have G1 := am (blk_grown (by (with_reducible repeat (first | refine blk_drewN ?_ _ | refine blk_drew ?_ | refine blk_alloc ?_ _)); exact HI.out.2.1.1) hg (Kd.R_ne HI.out.2.2.2.1 HI.out.2.1.1 (by decide))); have G2 := am (blk_grown (by (with_reducible repeat (first | refine blk_drewN ?_ _ | refine blk_drew ?_ | refine blk_alloc ?_ _)); exact HI.out.2.1.2.1) hg (Kd.R_ne HI.out.2.2.2.1 HI.out.2.1.2.1 (by decide))); have G3 := am (blk_grown (by (with_reducible repeat (first | refine blk_drewN ?_ _ | refine blk_drew ?_ | refine blk_alloc ?_ _)); exact HI.out.2.1.2.2) hg (Kd.R_ne HI.out.2.2.2.1 HI.out.2.1.2.2 (by decide))); have G5 := am (blk_grown (by (with_reducible repeat (first | refine blk_drewN ?_ _ | refine blk_drew ?_ | refine blk_alloc ?_ _)); exact HI.out.2.2.2.2) hg (Kd.R_ne HI.out.2.2.2.1 HI.out.2.2.2.2 (by decide))); have G4 := am (blk_grown (by (with_reducible repeat (first | refine blk_drewN ?_ _ | refine blk_drew ?_ | refine blk_alloc ?_ _)); exact BC.out) hg (Kd.R_away HI.out.2.2.2.1 (fun k hk => by have := GG.out; have : k < W.heap.size := hk; omega))); have R1 := am (Kd.R_over' (v := .slice Ao out.length co) (by (with_reducible repeat (first | apply Kd.R_alloc | apply Kd.R_drewN | apply Kd.R_drew)); exact HI.out.2.2.1.1) (Kd.R_typed (by (with_reducible repeat (first | apply Kd.R_alloc | apply Kd.R_drewN | apply Kd.R_drew)); exact HI.out.2.2.2.1)) (by decide) hg); have R2 := am (Kd.R_over' (v := .slice Ao out.length co) (by (with_reducible repeat (first | apply Kd.R_alloc | apply Kd.R_drewN | apply Kd.R_drew)); exact HI.out.2.2.1.2.1) (Kd.R_typed (by (with_reducible repeat (first | apply Kd.R_alloc | apply Kd.R_drewN | apply Kd.R_drew)); exact HI.out.2.2.2.1)) (by decide) hg); have R3 := am (Kd.R_over' (v := .slice Ao out.length co) (by (with_reducible repeat (first | apply Kd.R_alloc | apply Kd.R_drewN | apply Kd.R_drew)); exact HI.out.2.2.1.2.2) (Kd.R_typed (by (with_reducible repeat (first | apply Kd.R_alloc | apply Kd.R_drewN | apply Kd.R_drew)); exact HI.out.2.2.2.1)) (by decide) hg); clear ho hb hg hat; obtain ⟨hp0, hpf⟩ := y1 w20 G3.out))
   go_wp2
   go_ret
   have GN := blk_ne G1.out G3.out (by decide)
   have XN := blk_ne G2.out G3.out (by decide)
   have QN := blk_ne G5.out G3.out (by decide)
   have SZ := blk_lt G4.out
   have HG := GG.out
   refine ⟨(out ++ [⟨a, e1, b, e2, c, e3, u⟩], decide (out.length + 1 ≤ 400)), Av, cv, ?_, ?_, ?_⟩
   ·first | rfl | (simp; done) | (simp; omega)
   ·unfold cellF
    rw [if_neg (show ¬ u < 0 by omega), if_neg HN.out]
   ·have hn : W.heap.size ≤ (w20.setCell ⟨go, 0, none⟩ (.slice Av (out.length + 1) cv)).heap.size := siz1 (by omega) _ _
    refine ⟨below_set HB2.out GO.out, ⟨(Below.heap_setCell _ ⟨go, 0, none⟩ _ gl GN).trans G1.out, (Below.heap_setCell _ ⟨go, 0, none⟩ _ gx XN).trans G2.out, blk_put G3.out 0 _ (by simp)⟩, ⟨Kd.R_mono (Kd.R_set R1.out G3.out (by decide) 0 _) (fun k hk => Nat.lt_of_lt_of_le hk hn), Kd.R_mono (Kd.R_set R2.out G3.out (by decide) 0 _) (fun k hk => Nat.lt_of_lt_of_le hk hn), Kd.R_mono (Kd.R_set R3.out G3.out (by decide) 0 _) (fun k hk => Nat.lt_of_lt_of_le hk hn)⟩, Kd.R_mono (Kd.R_bound (Kd.R_set HA.out G3.out (by decide) 0 _)) (fun k hk => hk.2.2.1), (Below.heap_setCell _ ⟨go, 0, none⟩ _ gq QN).trans G5.out⟩
theorem cellI.now {base n : Nat} {w W : World} {gl gx go gq : Nat} {A1 : Option Addr} {c1 : Nat} {la : List S71} {A5 A6 A7 : Option Addr} {k5 k6 k7 : Nat} {xs ys zs : List Int} {Ao : Option Addr} {co : Nat} {out : List S80}
  (h : cellI base n w W gl gx go gq A1 c1 la A5 A6 A7 k5 k6 k7 xs ys zs Ao co out) : cellI base W.heap.size w W gl gx go gq A1 c1 la A5 A6 A7 k5 k6 k7 xs ys zs Ao co out :=
 ⟨h.1, h.2.1, ⟨Kd.R_mono (Kd.R_bound h.2.2.1.1) (fun k hk => hk.2.2.1), Kd.R_mono (Kd.R_bound h.2.2.1.2.1) (fun k hk => hk.2.2.1), Kd.R_mono (Kd.R_bound h.2.2.1.2.2) (fun k hk => hk.2.2.1)⟩, Kd.R_mono (Kd.R_bound h.2.2.2.1) (fun k hk => hk.2.2.1), h.2.2.2.2⟩
theorem cellI.newq {base n : Nat} {w W : World} {gl gx go gq gb : Nat} {A1 : Option Addr} {c1 : Nat} {la : List S71} {A5 A6 A7 : Option Addr} {k5 k6 k7 : Nat} {xs ys zs : List Int} {Ao : Option Addr} {co : Nat} {out : List S80}
  (h : cellI base n w W gl gx go gq A1 c1 la A5 A6 A7 k5 k6 k7 xs ys zs Ao co out) (hb : W.heap[gb]? = some (.cells #[.slice A5 xs.length k5, .slice A6 ys.length k6, .slice A7 zs.length k7] 113 (0, 0))) : cellI base n w W gl gx go gb A1 c1 la A5 A6 A7 k5 k6 k7 xs ys zs Ao co out :=
 ⟨h.1, h.2.1, h.2.2.1, h.2.2.2.1, hb⟩
def impl_Cells.p (la : List S71) (xs ys zs : List Int) (s : List S80) (i k n a b c : Int) : Option (List S80 × Bool) :=
 (impl_first.f la a b c).bind fun u => (impl_end.f xs i 4294967295).bind fun e1 => (impl_end.f ys k 4294967295).bind fun e2 => (impl_end.f zs n 65535).bind fun e3 => if s.length ≤ 1000 then some (cellF s ⟨a, e1, b, e2, c, e3, u⟩) else none
def impl_Cells.f (k : Nat) (l0 : List S71) : Option (List S80 × Bool) :=
 (impl_RulesOk.f k l0).bind fun ok => if ok = true then (if l0.length < 1000000 then ((impl_axesOf.f k l0).bind fun x => if x.1.length < 4611686018427387904 ∧ x.2.1.length < 4611686018427387904 ∧ x.2.2.length < 4611686018427387904 then ((cornX (impl_Cells.p l0 x.1 x.2.1 x.2.2) x.2.2 x.2.1 x.1 0 []).bind fun q => if q.1.length > 400 then some ([], false) else some (q.1, true)) else none) else none) else some ([], false)
def cellInv (w : World) (gl gx go : Nat) (A1 : Option Addr) (c1 : Nat) (la : List S71) (A5 A6 A7 : Option Addr) (k5 k6 k7 : Nat) (xs ys zs : List Int) (gb : Nat) (s : List S80) (W : World) : Prop :=
 ∃ Ao co, cellI w.heap.size W.heap.size w W gl gx go gb A1 c1 la A5 A6 A7 k5 k6 k7 xs ys zs Ao co s
theorem cells.hS {w : World} {gl gx go : Nat} {A1 : Option Addr} {c1 : Nat} {la : List S71} {A5 A6 A7 : Option Addr} {k5 k6 k7 : Nat} {xs ys zs : List Int} (hra : Kd.C k71 w A1 la.length la) (hca : la.length ≤ c1) (hgo : w.heap.size ≤ go) :
  ∀ gb s W i k n a b c q, cellInv w gl gx go A1 c1 la A5 A6 A7 k5 k6 k7 xs ys zs gb s W → impl_Cells.p la xs ys zs s i k n a b c = some q → Calls Try.prog 104 (#[.int .i64 i, .int .i64 k, .int .i64 n, .agg #[.int .i64 a, .int .i64 b, .int .i64 c]] ++ #[.pointer (some ⟨gl, 0, none⟩), .pointer (some ⟨gx, 0, none⟩), .pointer (some ⟨go, 0, none⟩)]) W fun e w' => e = .returned (.bool q.2) ∧ cellInv w gl gx go A1 c1 la A5 A6 A7 k5 k6 k7 xs ys zs gb q.1 w' := by
 intro gb s W i k n a b c q hI hp
 obtain ⟨Ao, co, hI⟩ := hI
 unfold impl_Cells.p at hp
 obtain ⟨u, hu, hp⟩ := Option.bind_eq_some_iff.mp hp
 obtain ⟨e1, h1, hp⟩ := Option.bind_eq_some_iff.mp hp
 obtain ⟨e2, h2, hp⟩ := Option.bind_eq_some_iff.mp hp
 obtain ⟨e3, h3, hp⟩ := Option.bind_eq_some_iff.mp hp
 by_cases cl : s.length ≤ 1000
 ·rw [if_pos cl] at hp
  obtain rfl := Option.some.inj hp
  refine (cells.one la xs ys zs s A1 A5 A6 A7 Ao c1 k5 k6 k7 co gl gx go gb w W i k n a b c u e1 e2 e3 hI hra hca cl hgo hu h1 h2 h3).mono ?_
  rintro e w' ⟨r, Ao', co', rfl, rfl, hI'⟩
  exact ⟨rfl, Ao', co', hI'⟩
 ·rw [if_neg cl] at hp; cases hp
set_option maxHeartbeats 16000000 in
set_option maxRecDepth 100000 in
theorem impl_Cells.calls (k : Nat) (A0 : Option Addr) (c0 : Nat) (l0 : List S71) (r1 : List S80) (r2 : Bool) (w : World) (hr0 : Kd.C k71 w A0 l0.length l0) (hc0 : l0.length ≤ c0) (h : impl_Cells.f k l0 = some (r1, r2)) :
  Calls Try.prog 52 #[.slice A0 l0.length c0] w fun e w' => ∃ v0_ : Value, e = .returned (.tuple #[v0_, .bool r2]) ∧ Kd.R k80 80 w' w.heap.size (fun _ => True) v0_ r1 ∧ Below w.heap.size w w' := by
 have hu := Try.underlying113
 have HR := am hr0
 have HC := am hc0
 unfold impl_Cells.f at h
 obtain ⟨ok, hok, h⟩ := Option.bind_eq_some_iff.mp h
 have HOK := am hok
 have HE := am h
 clear hr0 hc0 h hok
 go_enter Try.func52, Try.ntmps52
 go_upto_region 1 with (first | ((with_reducible refine gate_dst (N := 1) rfl ?_); refine box_event rfl (N := 1) rfl (cs := #[.slice A0 l0.length c0]) (t := 52) BX ?_; intro gl hgl w2 hbox hbw; have HB := am hbw; have BL := am hbox; clear hbw hgl hbox; obtain ⟨hz0, hzf⟩ := y1 w2 BL.out))
 cases ok with
 | false =>
  go_wp2_with (go_at_call 43; refine (impl_RulesOk.calls k A0 c0 l0 false _ (Kd.C_below HR.out HB.out) HC.out HOK.out).mono ?_; rintro e w3 ⟨rfl, hb⟩)
  go_ret2
  have h := HE.out
  rw [if_neg (by simp)] at h
  cases h
  exact ⟨_, rfl, Kd.R_nil _ _ _ _ _, below_step HB.out hb⟩
 | true =>
  have h := HE.out
  rw [if_pos rfl] at h
  by_cases c1 : l0.length < 1000000
  ·rw [if_pos c1] at h
   obtain ⟨⟨xs, ys, zs⟩, hax, h⟩ := Option.bind_eq_some_iff.mp h
   simp only [] at h
   by_cases c2 : xs.length < 4611686018427387904 ∧ ys.length < 4611686018427387904 ∧ zs.length < 4611686018427387904
   ·rw [if_pos c2] at h
    obtain ⟨q, hq, h⟩ := Option.bind_eq_some_iff.mp h
    have HQ := am hq
    have HX := am hax
    have HL := am c2
    have HF := am h
    clear HE hq hax c2 c1 h
    go_upto_region 3 with (go_at_call 43; refine (impl_RulesOk.calls k A0 c0 l0 true _ (Kd.C_below HR.out HB.out) HC.out HOK.out).mono ?_; rintro e w3 ⟨rfl, hb⟩; replace BL := am (blk_below BL.out hb); replace HB := am (below_step HB.out hb); clear hb hz0 hzf)
    obtain ⟨hz0, hzf⟩ := y1 w3 BL.out
    go_upto_region 4 with (first | (go_at_call 86; refine (impl_axesOf.calls k A0 c0 l0 xs ys zs _ (Kd.C_below HR.out HB.out) HC.out HX.out).mono ?_; rintro e w4 ⟨v0, v1, v2, rfl, ho0, ho1, ho2, hb⟩; obtain ⟨A1, k1, rfl⟩ := Kd.R_slice ho0; obtain ⟨A2, k2, rfl⟩ := Kd.R_slice ho1; obtain ⟨A3, k3, rfl⟩ := Kd.R_slice ho2; have HO0 := am (Kd.R_lower ho0 (below_size HB.out)); have HO1 := am (Kd.R_lower ho1 (below_size HB.out)); have HO2 := am (Kd.R_lower ho2 (below_size HB.out)); replace BL := am (blk_below BL.out hb); replace HB := am (below_step HB.out hb); clear ho0 ho1 ho2 hb hz0 hzf) |
     ((with_reducible refine gate_dst (N := 4) rfl ?_); refine box_event rfl (N := 4) rfl (cs := #[.slice none 0 0, .slice none 0 0, .slice none 0 0]) (t := 113) BX ?_; intro gx hgx w5 hbox hbw; have BX1 := am hbox; have GX := am (show w.heap.size ≤ gx from hgx ▸ HB.out.size); have LX := am (show gl ≠ gx from fun e => by have := blk_lt BL.out; omega); replace HO0 := am (Kd.R_below HO0.out hbw); replace HO1 := am (Kd.R_below HO1.out hbw); replace HO2 := am (Kd.R_below HO2.out hbw); replace BL := am (blk_below BL.out hbw); replace HB := am (below_step HB.out hbw); clear hgx hbox hbw; obtain ⟨hx0, hx1, hx2, hxf⟩ := y3 w5 BX1.out))
    have BX6 := am (P3 (a0_ := (.slice A1 xs.length k1)) (a1_ := (.slice A2 ys.length k2)) (a2_ := (.slice A3 zs.length k3)) BX1)
    have BL6 := am ((Below.heap_setCell _ ⟨gx, 2, none⟩ (.slice A3 zs.length k3) gl LX.out).trans ((Below.heap_setCell _ ⟨gx, 1, none⟩ (.slice A2 ys.length k2) gl LX.out).trans ((Below.heap_setCell _ ⟨gx, 0, none⟩ (.slice A1 xs.length k1) gl LX.out).trans BL.out)))
    have HB6 := am (below_set (below_set (below_set HB.out GX.out) GX.out) GX.out : Below w.heap.size w (((w5.setCell ⟨gx, 0, none⟩ (.slice A1 xs.length k1)).setCell ⟨gx, 1, none⟩ (.slice A2 ys.length k2)).setCell ⟨gx, 2, none⟩ (.slice A3 zs.length k3)))
    have R0 := am (Kd.R_far (Kd.R_far (Kd.R_far (Kd.R_types HO0.out BX1.out (by decide)) (p := ⟨gx, 0, none⟩) (fun k hk => hk.2) (.slice A1 xs.length k1)) (p := ⟨gx, 1, none⟩) (fun k hk => hk.2) (.slice A2 ys.length k2)) (p := ⟨gx, 2, none⟩) (fun k hk => hk.2) (.slice A3 zs.length k3))
    have R1 := am (Kd.R_far (Kd.R_far (Kd.R_far (Kd.R_types HO1.out BX1.out (by decide)) (p := ⟨gx, 0, none⟩) (fun k hk => hk.2) (.slice A1 xs.length k1)) (p := ⟨gx, 1, none⟩) (fun k hk => hk.2) (.slice A2 ys.length k2)) (p := ⟨gx, 2, none⟩) (fun k hk => hk.2) (.slice A3 zs.length k3))
    have R2 := am (Kd.R_far (Kd.R_far (Kd.R_far (Kd.R_types HO2.out BX1.out (by decide)) (p := ⟨gx, 0, none⟩) (fun k hk => hk.2) (.slice A1 xs.length k1)) (p := ⟨gx, 1, none⟩) (fun k hk => hk.2) (.slice A2 ys.length k2)) (p := ⟨gx, 2, none⟩) (fun k hk => hk.2) (.slice A3 zs.length k3))
    clear BX1 BL HB HO0 HO1 HO2 hx0 hx1 hx2 hxf
    generalize (((w5.setCell ⟨gx, 0, none⟩ (.slice A1 xs.length k1)).setCell ⟨gx, 1, none⟩ (.slice A2 ys.length k2)).setCell ⟨gx, 2, none⟩ (.slice A3 zs.length k3)) = w6 at BX6 BL6 HB6 R0 R1 R2 ⊢
    go_upto_region 5 with (first | ((with_reducible refine gate_dst (N := 5) rfl ?_); refine box_event rfl (N := 5) rfl (cs := #[.slice none 0 0]) (t := 74) BX ?_; intro go hgo w7 hbox hbw; have GO := am (show w.heap.size ≤ go from hgo ▸ HB6.out.size); have CI := am (show cellI w.heap.size w7.heap.size w w7 gl gx go gx A0 c0 l0 A1 A2 A3 k1 k2 k3 xs ys zs none 0 [] from ⟨below_step HB6.out hbw, ⟨blk_below BL6.out hbw, blk_below BX6.out hbw, hbox⟩, ⟨Kd.R_mono (Kd.R_bound (Kd.R_below R0.out hbw)) (fun k hk => hk.2.2.1), Kd.R_mono (Kd.R_bound (Kd.R_below R1.out hbw)) (fun k hk => hk.2.2.1), Kd.R_mono (Kd.R_bound (Kd.R_below R2.out hbw)) (fun k hk => hk.2.2.1)⟩, Kd.R_nil _ _ _ _ _, blk_below BX6.out hbw⟩); clear hgo hbox hbw))
    have eg := enters_of Try.func104 (by kernel_rfl) rfl
    obtain ⟨hx0, hx1, hx2, hxf⟩ := y3 w7 CI.out.2.1.2.1
    go_upto_region 6 with (go_at_call 87; (refine (corners.gen (impl_Cells.p l0 xs ys zs) 104 #[.pointer (some ⟨gl, 0, none⟩), .pointer (some ⟨gx, 0, none⟩), .pointer (some ⟨go, 0, none⟩)] eg (cellInv w gl gx go A0 c0 l0 A1 A2 A3 k1 k2 k3 xs ys zs) xs ys zs A1 A2 A3 k1 k2 k3 [] q w7 HL.out ?h0 ?hI ?hS HQ.out).mono ?_; (case h0 => exact fun gb W e hg hW => ⟨none, 0, cellI.now (cellI.newq (cellI.step CI.out hW (Nat.le_refl _)) hg)⟩); (case hI => exact fun gb s W h => by obtain ⟨Ao, co, h⟩ := h; exact ⟨h.2.2.2.2, (Kd.R_reads' h.2.2.1.1).2.2, (Kd.R_reads' h.2.2.1.2.1).2.2, (Kd.R_reads' h.2.2.1.2.2).2.2⟩); (case hS => exact cells.hS HR.out HC.out GO.out); rintro e w8 ⟨rfl, gb, Ao, co, hinv⟩; have HI := am hinv; clear hinv hx0 hx1 hx2 hxf))
    obtain ⟨hy0, hyf⟩ := y1 w8 HI.out.2.1.2.2
    have hF := HF.out
    by_cases c4 : q.1.length > 400
    ·rw [if_pos c4] at hF
     cases hF
     have c4z : (q.1.length : Int) > 400 := by omega
     go_wp2
     go_ret2
     exact ⟨_, rfl, Kd.R_nil _ _ _ _ _, HI.out.1⟩
    ·rw [if_neg c4] at hF
     cases hF
     have c4z : ¬ (q.1.length : Int) > 400 := by omega
     go_wp2
     go_ret2
     exact ⟨_, rfl, Kd.R_mono HI.out.2.2.2.1 (fun _ _ => trivial), HI.out.1⟩
   ·rw [if_neg c2] at h; cases h
  ·rw [if_neg c1] at h; cases h
end Go.Proofs.Ytkgbgaojglcaoaa.PAll
end
section
namespace Go.Proofs.Ytkgbgaojglcaoaa.PAll
open Go.RowKit Go.Proofs.YtkgbgaojglcaoaaW.PrintWords Go.Proofs.YtkgbgaojglcaoaaW.PrintLast Go.Proofs.YtkgbgaojglcaoaaW.PrintMore
attribute [local go_sem] max2_int min2_int max_two min_two max_three min_three max_four min_four   -- for this text's walks alone
set_option linter.unusedVariables false
set_option linter.unusedSimpArgs false
mutual
def laws_FnExactCells.j0 : Nat → List (S110) → List (S80) → Bool → List (S71) → List (S80) → Bool → Bool → Option (Bool)
 | 0, _, _, _, _, _, _, _ => none
 | k + 1, x0, x4, x5, x6, x7, x8, x40 => if x40 = true then (some false) else ((laws_toRuleS.f k x0).bind fun t117 => ((laws_eqRuleS.f k x6 t117).bind fun t120 => (if t120 = true then ((laws_markRuleS.f k x6 1).bind fun bt121 => (if bt121.1 < 0 then (laws_FnExactCells.j1 k x0 x4 x5 x7 true) else ((laws_eqCellS.f k x7 x4).bind fun t123 => (if t123 = true then (laws_FnExactCells.j1 k x0 x4 x5 x7 (x8 != x5)) else (laws_FnExactCells.j1 k x0 x4 x5 x7 true))))) else (some false))))
def laws_FnExactCells.j1 : Nat → List (S110) → List (S80) → Bool → List (S80) → Bool → Option (Bool)
 | 0, _, _, _, _, _ => none
 | k + 1, x0, x4, x5, x7, x61 => if x61 = true then (some false) else ((laws_markCellS.f k x7 1).bind fun bt124 => ((laws_heldCellS.f k bt124.2 1).bind fun t126 => (if t126 < 0 then (some false) else (if t126 = bt124.1 then ((laws_toRuleS.f k x0).bind fun t127 => ((impl_Cells.f k t127).bind fun bt130 => ((laws_eqCellS.f k bt130.1 x4).bind fun t134 => (if t134 = true then (laws_FnExactCells.j2 k bt124.2 bt124.1 (bt130.2 != x5)) else (laws_FnExactCells.j2 k bt124.2 bt124.1 true))))) else (some false)))))
def laws_FnExactCells.j2 : Nat → List (S80) → Int → Bool → Option (Bool)
 | 0, _, _, _ => none
 | k + 1, x7, x10, x87 => if x87 = true then (some false) else ((laws_heldCellS.f k x7 1).bind fun t135 => (if t135 < 0 then (some false) else (if t135 = x10 then (some true) else (some false))))
end
def laws_FnExactCells.f (k : Nat) (l0 : List (S110)) : Option (Bool) := (laws_szRuleS.f l0 1048576).bind fun t101 => (if t101 < 0 then (some true) else ((laws_toRuleS.f k l0).bind fun t102 => ((spec_Cells.f k t102).bind fun bt105 => ((laws_toRuleS.f k l0).bind fun t109 => ((impl_Cells.f k t109).bind fun bt112 => ((laws_eqCellS.f k bt112.1 bt105.1).bind fun t116 => (if t116 = true then (laws_FnExactCells.j0 k l0 bt105.1 bt105.2 t109 bt112.1 bt112.2 (bt112.2 != bt105.2)) else (laws_FnExactCells.j0 k l0 bt105.1 bt105.2 t109 bt112.1 bt112.2 true))))))))
set_option maxHeartbeats 8000000 in
set_option maxRecDepth 100000 in
theorem laws_FnExactCells.calls (k : Nat) (A0 : Option Addr) (c0 : Nat) (l0 : List (S110)) (r : Bool) (w : World) (hr0 : Kd.C k110 w A0 l0.length l0) (hc0 : l0.length ≤ c0) (hr0_ : r = true) (h : laws_FnExactCells.f k l0 = some r) :
  Calls Try.prog 12 #[.slice A0 l0.length c0] w fun e w' => e = .returned (.bool r) ∧ Below w.heap.size w w' := by
 have HR0 := Aside0.mk hr0
 have HC0 := Aside0.mk hc0
 clear hr0 hc0
 have HB := am (Below.refl w.heap.size w)
 have H : ((laws_szRuleS.f l0 1048576).bind fun t101 => (if t101 < 0 then (some true) else ((laws_toRuleS.f k l0).bind fun t102 => ((spec_Cells.f k t102).bind fun bt105 => ((laws_toRuleS.f k l0).bind fun t109 => ((impl_Cells.f k t109).bind fun bt112 => ((laws_eqCellS.f k bt112.1 bt105.1).bind fun t116 => (if t116 = true then (laws_FnExactCells.j0 k l0 bt105.1 bt105.2 t109 bt112.1 bt112.2 (bt112.2 != bt105.2)) else (laws_FnExactCells.j0 k l0 bt105.1 bt105.2 t109 bt112.1 bt112.2 true))))))))) = some r := h
 clear h
 have HR_ := Aside0.mk hr0_
 clear hr0_
 replace H := Option.bind_eq_some_iff.mp H
 obtain ⟨t101, A20, H⟩ := H
 replace H : (if t101 < 0 then (some true) else ((laws_toRuleS.f k l0).bind fun t102 => ((spec_Cells.f k t102).bind fun bt105 => ((laws_toRuleS.f k l0).bind fun t109 => ((impl_Cells.f k t109).bind fun bt112 => ((laws_eqCellS.f k bt112.1 bt105.1).bind fun t116 => (if t116 = true then (laws_FnExactCells.j0 k l0 bt105.1 bt105.2 t109 bt112.1 bt112.2 (bt112.2 != bt105.2)) else (laws_FnExactCells.j0 k l0 bt105.1 bt105.2 t109 bt112.1 bt112.2 true)))))))) = some r := H
 have A2 := Aside0.mk A20
 clear A20
 by_cases c3 : t101 < 0
 ·rw [if_pos c3] at H
  have c3b0 : decide (t101 < 0) = true := decide_eq_true c3
  clear c3
  obtain rfl := Option.some.inj H
  go_enter Try.func12, Try.ntmps12
  go_wp2_with (first | ((with_reducible refine gate_callee (f := 30) rfl ?_); refine goesL_ (some 16) rfl rfl Try.func30 (by kernel_rfl) rfl #[.slice A0 l0.length c0, .int .i64 1048576] rfl MT ?_; (with_reducible refine (laws_szRuleS.calls _ _ l0 1048576 t101 _ ?side1 ?side2 A2.out).mono ?_); (case side1 => exact KC HR0.out); (case side2 => exact HC0.out); rintro e w' ⟨rfl, ⟨nd, rfl⟩⟩; refine ⟨_, rfl, ?_⟩))
  go_ret
  exact ⟨ER, KL HB⟩
 ·rw [if_neg c3] at H
  have c3b0 : decide (t101 < 0) = false := decide_eq_false c3
  clear c3
  replace H := Option.bind_eq_some_iff.mp H
  obtain ⟨t102, A40, H⟩ := H
  replace H : ((spec_Cells.f k t102).bind fun bt105 => ((laws_toRuleS.f k l0).bind fun t109 => ((impl_Cells.f k t109).bind fun bt112 => ((laws_eqCellS.f k bt112.1 bt105.1).bind fun t116 => (if t116 = true then (laws_FnExactCells.j0 k l0 bt105.1 bt105.2 t109 bt112.1 bt112.2 (bt112.2 != bt105.2)) else (laws_FnExactCells.j0 k l0 bt105.1 bt105.2 t109 bt112.1 bt112.2 true)))))) = some r := H
  have A4 := Aside0.mk A40
  clear A40
  replace H := Option.bind_eq_some_iff.mp H
  obtain ⟨⟨t105, t106⟩, A50, H⟩ := H
  replace H : ((laws_toRuleS.f k l0).bind fun t109 => ((impl_Cells.f k t109).bind fun bt112 => ((laws_eqCellS.f k bt112.1 t105).bind fun t116 => (if t116 = true then (laws_FnExactCells.j0 k l0 t105 t106 t109 bt112.1 bt112.2 (bt112.2 != t106)) else (laws_FnExactCells.j0 k l0 t105 t106 t109 bt112.1 bt112.2 true))))) = some r := H
  have A5 := Aside0.mk A50
  clear A50
  replace H := Option.bind_eq_some_iff.mp H
  obtain ⟨t109, A60, H⟩ := H
  replace H : ((impl_Cells.f k t109).bind fun bt112 => ((laws_eqCellS.f k bt112.1 t105).bind fun t116 => (if t116 = true then (laws_FnExactCells.j0 k l0 t105 t106 t109 bt112.1 bt112.2 (bt112.2 != t106)) else (laws_FnExactCells.j0 k l0 t105 t106 t109 bt112.1 bt112.2 true)))) = some r := H
  have A6 := Aside0.mk A60
  clear A60
  replace H := Option.bind_eq_some_iff.mp H
  obtain ⟨⟨t112, t113⟩, A70, H⟩ := H
  replace H : ((laws_eqCellS.f k t112 t105).bind fun t116 => (if t116 = true then (laws_FnExactCells.j0 k l0 t105 t106 t109 t112 t113 (t113 != t106)) else (laws_FnExactCells.j0 k l0 t105 t106 t109 t112 t113 true))) = some r := H
  have A7 := Aside0.mk A70
  clear A70
  have HC8 := Aside0.mk H
  clear H
  go_enter Try.func12, Try.ntmps12
  go_upto_region 8 with (first | ((with_reducible refine gate_callee (f := 30) rfl ?_); refine goesL_ (some 16) rfl rfl Try.func30 (by kernel_rfl) rfl #[.slice A0 l0.length c0, .int .i64 1048576] rfl MT ?_; (with_reducible refine (laws_szRuleS.calls _ _ l0 1048576 t101 _ ?side1 ?side2 A2.out).mono ?_); (case side1 => exact KC HR0.out); (case side2 => exact HC0.out); rintro e w' ⟨rfl, ⟨nd, rfl⟩⟩; refine ⟨_, rfl, ?_⟩) | ((with_reducible refine gate_callee (f := 32) rfl ?_); refine goesL_ (some 21) rfl rfl Try.func32 (by kernel_rfl) rfl #[.slice A0 l0.length c0] rfl MT ?_; (with_reducible refine (laws_toRuleS.calls k _ _ l0 t102 _ ?side1 ?side2 A4.out).mono ?_); (case side1 => exact KC HR0.out); (case side2 => exact HC0.out); rintro e w9 ⟨v103, rfl, ho0, hb⟩; refine ⟨_, rfl, ?_⟩; have HO104 := am (Kd.R_lower ho0 (below_size (KL HB))); replace HB := am (below_step (KL HB) hb); (try clear hb); (try clear ho0); obtain ⟨Ao10, co10, eo10⟩ := Kd.R_slice HO104.out; subst eo10) | ((with_reducible refine gate_callee (f := 51) rfl ?_); refine goesL_ (some 22) rfl rfl Try.func51 (by kernel_rfl) rfl #[.slice Ao10 t102.length co10] rfl MT ?_; (with_reducible refine (spec_Cells.calls k _ _ t102 t105 t106 _ ?side1 ?side2 A5.out).mono ?_); (case side1 => exact KC (Kd.R_reads' HO104.out).2.2); (case side2 => exact (Kd.R_reads' HO104.out).2.1); rintro e w11 ⟨v107, rfl, ho0, hb⟩; refine ⟨_, rfl, ?_⟩; replace HO104 := am (Kd.R_below (KR HO104) hb); have HO108 := am (Kd.R_lower ho0 (below_size (KL HB))); replace HB := am (below_step (KL HB) hb); (try clear hb); (try clear ho0)) | ((with_reducible refine gate_callee (f := 32) rfl ?_); refine goesL_ (some 26) rfl rfl Try.func32 (by kernel_rfl) rfl #[.slice A0 l0.length c0] rfl MT ?_; (with_reducible refine (laws_toRuleS.calls k _ _ l0 t109 _ ?side1 ?side2 A6.out).mono ?_); (case side1 => exact KD HR0 HB); (case side2 => exact HC0.out); rintro e w12 ⟨v110, rfl, ho0, hb⟩; refine ⟨_, rfl, ?_⟩; replace HO108 := am (Kd.R_below (KR HO108) hb); have HO111 := am (Kd.R_lower (Kd.R_new' ho0 (Kd.R_lt (KR HO104))) (below_size (KL HB))); replace HO104 := am (Kd.R_elder' (KR HO104) (Kd.R_base ho0) hb); replace HB := am (below_step (KL HB) hb); (try clear hb); (try clear ho0); obtain ⟨Ao13, co13, eo13⟩ := Kd.R_slice HO111.out; subst eo13) | ((with_reducible refine gate_callee (f := 52) rfl ?_); refine goesL_ (some 29) rfl rfl Try.func52 (by kernel_rfl) rfl #[.slice Ao13 t109.length co13] rfl MT ?_; (with_reducible refine (impl_Cells.calls k _ _ t109 t112 t113 _ ?side1 ?side2 A7.out).mono ?_); (case side1 => exact KC (Kd.R_reads' HO111.out).2.2); (case side2 => exact (Kd.R_reads' HO111.out).2.1); rintro e w14 ⟨v114, rfl, ho0, hb⟩; refine ⟨_, rfl, ?_⟩; replace HO104 := am (Kd.R_below (KR HO104) hb); replace HO111 := am (Kd.R_below (KR HO111) hb); have HO115 := am (Kd.R_lower (Kd.R_new' ho0 (Kd.R_lt (KR HO108))) (below_size (KL HB))); replace HO108 := am (Kd.R_elder' (KR HO108) (Kd.R_base ho0) hb); replace HB := am (below_step (KL HB) hb); (try clear hb); (try clear ho0)))
  (try simp only [Act.put, List.setIfInBounds_toArray, List.set_cons_zero, List.set_cons_succ])
  go_cut [40] (fun v40 wc => ∃ (kq : Nat) (x40_7 : Bool), v40 = .bool x40_7 ∧ Aside0 (laws_FnExactCells.j0 kq l0 t105 t106 t109 t112 t113 x40_7 = some r) ∧ Aside0 (kq ≤ k) ∧ Aside0 (Kd.R k80 80 wc w.heap.size (fun k_ => some k_ ≠ (v114 : Value).ownBlock) v107 t105) ∧ Aside0 (Kd.R k71 71 wc w.heap.size (fun _ => True) (.slice Ao13 t109.length co13) t109) ∧ Aside0 (Kd.R k80 80 wc w.heap.size (fun k_ => some k_ ≠ (v107 : Value).ownBlock) v114 t112) ∧ Aside0 (Below w.heap.size w wc))
  case first =>
   have H := HC8.out
   clear HC8
   replace H := Option.bind_eq_some_iff.mp H
   obtain ⟨t116, A150, H⟩ := H
   replace H : (if t116 = true then (laws_FnExactCells.j0 k l0 t105 t106 t109 t112 t113 (t113 != t106)) else (laws_FnExactCells.j0 k l0 t105 t106 t109 t112 t113 true)) = some r := H
   have A15 := Aside0.mk A150
   clear A150
   by_cases c16 : t116 = true
   ·subst c16
    have H1 : (laws_FnExactCells.j0 k l0 t105 t106 t109 t112 t113 (t113 != t106)) = some r := by rw [if_pos rfl] at H; exact H
    clear H
    have H := H1
    clear H1
    have H' := Aside0.mk H
    clear H
    obtain ⟨Ao17, co17, eo17⟩ := Kd.R_slice HO115.out
    subst eo17
    obtain ⟨Ao18, co18, eo18⟩ := Kd.R_slice HO108.out
    subst eo18
    go_wp2_with (first | ((with_reducible refine gate_callee (f := 53) rfl ?_); refine goesL_ (some 34) rfl rfl Try.func53 (by kernel_rfl) rfl #[.slice Ao17 t112.length co17, .slice Ao18 t105.length co18] rfl MT ?_; (with_reducible refine (laws_eqCellS.calls k _ _ t112 _ _ t105 true _ ?side1 ?side2 ?side3 ?side4 A15.out).mono ?_); (case side1 => exact KC (Kd.R_reads' HO115.out).2.2); (case side2 => exact (Kd.R_reads' HO115.out).2.1); (case side3 => exact KC (Kd.R_reads' HO108.out).2.2); (case side4 => exact (Kd.R_reads' HO108.out).2.1); rintro e w19 ⟨rfl, hb⟩; refine ⟨_, rfl, ?_⟩; replace HO104 := am (Kd.R_below (KR HO104) hb); replace HO108 := am (Kd.R_below (KR HO108) hb); replace HO111 := am (Kd.R_below (KR HO111) hb); replace HO115 := am (Kd.R_below (KR HO115) hb); replace HB := am (below_step (KL HB) hb); (try clear hb)))
    go_meet
    case rel => exact ⟨_, ((t113 != t106)), (by first | rfl | (simp; done) | (simp [*]; done)), H', ⟨by first | omega | exact Nat.le_refl _⟩, ⟨by (with_reducible repeat (first | apply Kd.R_alloc | apply Kd.R_drewN | apply Kd.R_drew)); exact Kd.R_mono HO108.out (fun _ hk => hk.2)⟩, ⟨by (with_reducible repeat (first | apply Kd.R_alloc | apply Kd.R_drewN | apply Kd.R_drew)); exact Kd.R_mono HO111.out (fun _ hk => trivial)⟩, ⟨by (with_reducible repeat (first | apply Kd.R_alloc | apply Kd.R_drewN | apply Kd.R_drew)); exact Kd.R_mono HO115.out (fun _ hk => hk.2)⟩, ⟨KL HB⟩⟩
   ·replace c16 := Bool.eq_false_iff.mpr c16
    subst c16
    have H1 : (laws_FnExactCells.j0 k l0 t105 t106 t109 t112 t113 true) = some r := by rw [if_neg (show ¬ (false = true) by decide)] at H; exact H
    clear H
    have H := H1
    clear H1
    have H' := Aside0.mk H
    clear H
    obtain ⟨Ao20, co20, eo20⟩ := Kd.R_slice HO115.out
    subst eo20
    obtain ⟨Ao21, co21, eo21⟩ := Kd.R_slice HO108.out
    subst eo21
    go_wp2_with (first | ((with_reducible refine gate_callee (f := 53) rfl ?_); refine goesL_ (some 34) rfl rfl Try.func53 (by kernel_rfl) rfl #[.slice Ao20 t112.length co20, .slice Ao21 t105.length co21] rfl MT ?_; (with_reducible refine (laws_eqCellS.calls k _ _ t112 _ _ t105 false _ ?side1 ?side2 ?side3 ?side4 A15.out).mono ?_); (case side1 => exact KC (Kd.R_reads' HO115.out).2.2); (case side2 => exact (Kd.R_reads' HO115.out).2.1); (case side3 => exact KC (Kd.R_reads' HO108.out).2.2); (case side4 => exact (Kd.R_reads' HO108.out).2.1); rintro e w22 ⟨rfl, hb⟩; refine ⟨_, rfl, ?_⟩; replace HO104 := am (Kd.R_below (KR HO104) hb); replace HO108 := am (Kd.R_below (KR HO108) hb); replace HO111 := am (Kd.R_below (KR HO111) hb); replace HO115 := am (Kd.R_below (KR HO115) hb); replace HB := am (below_step (KL HB) hb); (try clear hb)))
    go_meet
    case rel => exact ⟨_, (true), (by first | rfl | (simp; done) | (simp [*]; done)), H', ⟨by first | omega | exact Nat.le_refl _⟩, ⟨by (with_reducible repeat (first | apply Kd.R_alloc | apply Kd.R_drewN | apply Kd.R_drew)); exact Kd.R_mono HO108.out (fun _ hk => hk.2)⟩, ⟨by (with_reducible repeat (first | apply Kd.R_alloc | apply Kd.R_drewN | apply Kd.R_drew)); exact Kd.R_mono HO111.out (fun _ hk => trivial)⟩, ⟨by (with_reducible repeat (first | apply Kd.R_alloc | apply Kd.R_drewN | apply Kd.R_drew)); exact Kd.R_mono HO115.out (fun _ hk => hk.2)⟩, ⟨KL HB⟩⟩
  case rest =>
   clear HC8
   try clear c1
   try clear p2
   try clear c3
   try clear c3b0
   try clear c5
   try clear c12
   try clear c16
   obtain ⟨kq, x40_7, rfl, HA, HJ7, HO_4, HO_6, HO_7, HB⟩ := hcut
   cases kq with
   | zero => exact absurd HA.out (by simp [laws_FnExactCells.j0])
   | succ kj7 =>
    have H := HA.out
    clear HA
    simp only [laws_FnExactCells.j0] at H
    by_cases c23 : x40_7 = true
    ·subst c23
     have H1 : (some false) = some r := by rw [if_pos rfl] at H; exact H
     clear H
     have H := H1
     clear H1
     exact absurd ((Option.some.inj H).trans HR_.out) (by decide)
    ·replace c23 := Bool.eq_false_iff.mpr c23
     subst c23
     have H1 : ((laws_toRuleS.f kj7 l0).bind fun t117 => ((laws_eqRuleS.f kj7 t109 t117).bind fun t120 => (if t120 = true then ((laws_markRuleS.f kj7 t109 1).bind fun bt121 => (if bt121.1 < 0 then (laws_FnExactCells.j1 kj7 l0 t105 t106 t112 true) else ((laws_eqCellS.f kj7 t112 t105).bind fun t123 => (if t123 = true then (laws_FnExactCells.j1 kj7 l0 t105 t106 t112 (t113 != t106)) else (laws_FnExactCells.j1 kj7 l0 t105 t106 t112 true))))) else (some false)))) = some r := by rw [if_neg (show ¬ (false = true) by decide)] at H; exact H
     clear H
     have H := H1
     clear H1
     replace H := Option.bind_eq_some_iff.mp H
     obtain ⟨t117, A240, H⟩ := H
     replace H : ((laws_eqRuleS.f kj7 t109 t117).bind fun t120 => (if t120 = true then ((laws_markRuleS.f kj7 t109 1).bind fun bt121 => (if bt121.1 < 0 then (laws_FnExactCells.j1 kj7 l0 t105 t106 t112 true) else ((laws_eqCellS.f kj7 t112 t105).bind fun t123 => (if t123 = true then (laws_FnExactCells.j1 kj7 l0 t105 t106 t112 (t113 != t106)) else (laws_FnExactCells.j1 kj7 l0 t105 t106 t112 true))))) else (some false))) = some r := H
     have A24 := Aside0.mk A240
     clear A240
     replace H := Option.bind_eq_some_iff.mp H
     obtain ⟨t120, A250, H⟩ := H
     replace H : (if t120 = true then ((laws_markRuleS.f kj7 t109 1).bind fun bt121 => (if bt121.1 < 0 then (laws_FnExactCells.j1 kj7 l0 t105 t106 t112 true) else ((laws_eqCellS.f kj7 t112 t105).bind fun t123 => (if t123 = true then (laws_FnExactCells.j1 kj7 l0 t105 t106 t112 (t113 != t106)) else (laws_FnExactCells.j1 kj7 l0 t105 t106 t112 true))))) else (some false)) = some r := H
     have A25 := Aside0.mk A250
     clear A250
     by_cases c26 : t120 = true
     ·subst c26
      have H1 : ((laws_markRuleS.f kj7 t109 1).bind fun bt121 => (if bt121.1 < 0 then (laws_FnExactCells.j1 kj7 l0 t105 t106 t112 true) else ((laws_eqCellS.f kj7 t112 t105).bind fun t123 => (if t123 = true then (laws_FnExactCells.j1 kj7 l0 t105 t106 t112 (t113 != t106)) else (laws_FnExactCells.j1 kj7 l0 t105 t106 t112 true))))) = some r := by rw [if_pos rfl] at H; exact H
      clear H
      have H := H1
      clear H1
      replace H := Option.bind_eq_some_iff.mp H
      obtain ⟨⟨t121, t122⟩, A270, H⟩ := H
      replace H : (if t121 < 0 then (laws_FnExactCells.j1 kj7 l0 t105 t106 t112 true) else ((laws_eqCellS.f kj7 t112 t105).bind fun t123 => (if t123 = true then (laws_FnExactCells.j1 kj7 l0 t105 t106 t112 (t113 != t106)) else (laws_FnExactCells.j1 kj7 l0 t105 t106 t112 true)))) = some r := H
      have A27 := Aside0.mk A270
      clear A270
      have HC28 := Aside0.mk H
      clear H
      go_upto_region 14 with (first | ((with_reducible refine gate_callee (f := 32) rfl ?_); refine goesL_ (some 43) rfl rfl Try.func32 (by kernel_rfl) rfl #[.slice A0 l0.length c0] rfl MT ?_; (with_reducible refine (laws_toRuleS.calls kj7 _ _ l0 t117 _ ?side1 ?side2 A24.out).mono ?_); (case side1 => exact KD HR0 HB); (case side2 => exact HC0.out); rintro e w29 ⟨v118, rfl, ho0, hb⟩; refine ⟨_, rfl, ?_⟩; replace HO_4 := am (Kd.R_below (KR HO_4) hb); replace HO_7 := am (Kd.R_below (KR HO_7) hb); have HO119 := am (Kd.R_lower (Kd.R_new' ho0 (Kd.R_lt (KR HO_6))) (below_size (KL HB))); replace HO_6 := am (Kd.R_elder' (KR HO_6) (Kd.R_base ho0) hb); replace HB := am (below_step (KL HB) hb); (try clear hb); (try clear ho0); obtain ⟨Ao30, co30, eo30⟩ := Kd.R_slice HO119.out; subst eo30) | ((with_reducible refine gate_callee (f := 35) rfl ?_); refine goesL_ (some 44) rfl rfl Try.func35 (by kernel_rfl) rfl #[.slice Ao13 t109.length co13, .slice Ao30 t117.length co30] rfl MT ?_; (with_reducible refine (laws_eqRuleS.calls kj7 _ _ t109 _ _ t117 true _ ?side1 ?side2 ?side3 ?side4 A25.out).mono ?_); (case side1 => exact KC (Kd.R_reads' HO_6.out).2.2); (case side2 => exact (Kd.R_reads' HO_6.out).2.1); (case side3 => exact KC (Kd.R_reads' HO119.out).2.2); (case side4 => exact (Kd.R_reads' HO119.out).2.1); rintro e w31 ⟨rfl, hb⟩; refine ⟨_, rfl, ?_⟩; replace HO_4 := am (Kd.R_below (KR HO_4) hb); replace HO_6 := am (Kd.R_below (KR HO_6) hb); replace HO_7 := am (Kd.R_below (KR HO_7) hb); replace HO119 := am (Kd.R_below (KR HO119) hb); replace HB := am (below_step (KL HB) hb); (try clear hb)) | ((with_reducible refine gate_callee (f := 36) rfl ?_); refine goesL_ (some 48) rfl rfl Try.func36 (by kernel_rfl) rfl #[.slice Ao13 t109.length co13, .int .i64 1] rfl MT ?_; (with_reducible refine (laws_markRuleS.calls kj7 (fun k_ => some k_ = (.slice Ao13 t109.length co13 : Value).ownBlock) (.slice Ao13 t109.length co13) t109 1 t121 t122 w _ ?side1 ?side2 A27.out).mono ?_); (case side1 => exact KL HB); (case side2 => exact Kd.R_tight rfl HO_6.out); rintro e w32 ⟨rfl, hy0, hb, hkp⟩; refine ⟨_, rfl, ?_⟩; replace HO_4 := am (Kd.R_mono (ok' := fun k_ => some k_ ≠ (v114 : Value).ownBlock) (Kd.R_keptB ((Kd.R_apart' HO_4.out (Kd.R_typed HO_6.out) (by decide))) hkp (fun k_ hk_ hs_ => (hk_.2) hs_)) (fun k_ hk_ => hk_.1.1)); replace HO_7 := am (Kd.R_mono (ok' := fun k_ => some k_ ≠ (v107 : Value).ownBlock) (Kd.R_keptB ((Kd.R_apart' HO_7.out (Kd.R_typed HO_6.out) (by decide))) hkp (fun k_ hk_ hs_ => (hk_.2) hs_)) (fun k_ hk_ => hk_.1.1)); replace HO_6 := am (Kd.R_reok rfl hy0 (fun k_ e_ => HO_6.out.1 k_ e_)); replace HO119 := am (Kd.R_mono (ok' := fun k_ => some k_ ≠ (.slice Ao13 t109.length co13 : Value).ownBlock) (Kd.R_keptB (HO119.out) hkp (fun k_ hk_ hs_ => (hk_.2) hs_)) (fun k_ hk_ => hk_.1.2)); replace HB := am (hb); (try clear hb); (try clear hkp); (try clear hy0)))
      (try simp only [Act.put, List.setIfInBounds_toArray, List.set_cons_zero, List.set_cons_succ])
      go_cut [61] (fun v61 wc => ∃ (kq : Nat) (x61_27 : Bool), v61 = .bool x61_27 ∧ Aside0 (laws_FnExactCells.j1 kq l0 t105 t106 t112 x61_27 = some r) ∧ Aside0 (kq ≤ kj7) ∧ Aside0 (Kd.R k80 80 wc w.heap.size (fun k_ => some k_ ≠ (v114 : Value).ownBlock) v107 t105) ∧ Aside0 (Kd.R k80 80 wc w.heap.size (fun k_ => some k_ ≠ (v107 : Value).ownBlock) v114 t112) ∧ Aside0 (Below w.heap.size w wc))
      case first =>
       have H := HC28.out
       clear HC28
       by_cases c33 : t121 < 0
       ·rw [if_pos c33] at H
        have c33b0 : decide (t121 < 0) = true := decide_eq_true c33
        clear c33
        (first | rw [c33b0] | (simp only [i64_w, i32_w]; rw [c33b0]) | skip)
        have H' := Aside0.mk H
        clear H
        go_wp2
        go_meet
        case rel => exact ⟨_, (true), (by first | rfl | (simp; done) | (simp [*]; done)), H', ⟨by have := HJ7.out; first | omega | exact Nat.le_refl _⟩, ⟨KR HO_4⟩, ⟨KR HO_7⟩, ⟨KL HB⟩⟩
       ·rw [if_neg c33] at H
        have c33b0 : decide (t121 < 0) = false := decide_eq_false c33
        clear c33
        (first | rw [c33b0] | (simp only [i64_w, i32_w]; rw [c33b0]) | skip)
        replace H := Option.bind_eq_some_iff.mp H
        obtain ⟨t123, A340, H⟩ := H
        replace H : (if t123 = true then (laws_FnExactCells.j1 kj7 l0 t105 t106 t112 (t113 != t106)) else (laws_FnExactCells.j1 kj7 l0 t105 t106 t112 true)) = some r := H
        have A34 := Aside0.mk A340
        clear A340
        by_cases c35 : t123 = true
        ·subst c35
         have H1 : (laws_FnExactCells.j1 kj7 l0 t105 t106 t112 (t113 != t106)) = some r := by rw [if_pos rfl] at H; exact H
         clear H
         have H := H1
         clear H1
         have H' := Aside0.mk H
         clear H
         obtain ⟨Ao36, co36, eo36⟩ := Kd.R_slice HO_7.out
         subst eo36
         obtain ⟨Ao37, co37, eo37⟩ := Kd.R_slice HO_4.out
         subst eo37
         go_wp2_with (first | (go_at_call 53; (with_reducible refine (laws_eqCellS.calls kj7 _ _ t112 _ _ t105 true _ ?side1 ?side2 ?side3 ?side4 A34.out).mono ?_); (case side1 => exact KC (Kd.R_reads' HO_7.out).2.2); (case side2 => exact (Kd.R_reads' HO_7.out).2.1); (case side3 => exact KC (Kd.R_reads' HO_4.out).2.2); (case side4 => exact (Kd.R_reads' HO_4.out).2.1); rintro e w38 ⟨rfl, hb⟩; replace HO_4 := am (Kd.R_below (KR HO_4) hb); replace HO_6 := am (Kd.R_below (KR HO_6) hb); replace HO_7 := am (Kd.R_below (KR HO_7) hb); replace HO119 := am (Kd.R_below (KR HO119) hb); replace HB := am (below_step (KL HB) hb); (try clear hb)))
         go_meet
         case rel => exact ⟨_, ((t113 != t106)), (by first | rfl | (simp; done) | (simp [*]; done)), H', ⟨by have := HJ7.out; first | omega | exact Nat.le_refl _⟩, ⟨KR HO_4⟩, ⟨KR HO_7⟩, ⟨KL HB⟩⟩
        ·replace c35 := Bool.eq_false_iff.mpr c35
         subst c35
         have H1 : (laws_FnExactCells.j1 kj7 l0 t105 t106 t112 true) = some r := by rw [if_neg (show ¬ (false = true) by decide)] at H; exact H
         clear H
         have H := H1
         clear H1
         have H' := Aside0.mk H
         clear H
         obtain ⟨Ao39, co39, eo39⟩ := Kd.R_slice HO_7.out
         subst eo39
         obtain ⟨Ao40, co40, eo40⟩ := Kd.R_slice HO_4.out
         subst eo40
         go_wp2_with (first | (go_at_call 53; (with_reducible refine (laws_eqCellS.calls kj7 _ _ t112 _ _ t105 false _ ?side1 ?side2 ?side3 ?side4 A34.out).mono ?_); (case side1 => exact KC (Kd.R_reads' HO_7.out).2.2); (case side2 => exact (Kd.R_reads' HO_7.out).2.1); (case side3 => exact KC (Kd.R_reads' HO_4.out).2.2); (case side4 => exact (Kd.R_reads' HO_4.out).2.1); rintro e w41 ⟨rfl, hb⟩; replace HO_4 := am (Kd.R_below (KR HO_4) hb); replace HO_6 := am (Kd.R_below (KR HO_6) hb); replace HO_7 := am (Kd.R_below (KR HO_7) hb); replace HO119 := am (Kd.R_below (KR HO119) hb); replace HB := am (below_step (KL HB) hb); (try clear hb)))
         go_meet
         case rel => exact ⟨_, (true), (by first | rfl | (simp; done) | (simp [*]; done)), H', ⟨by have := HJ7.out; first | omega | exact Nat.le_refl _⟩, ⟨KR HO_4⟩, ⟨KR HO_7⟩, ⟨KL HB⟩⟩
      case rest =>
       clear HC28
       try clear c1
       try clear c2
       try clear p2
       try clear c3
       try clear c3b0
       try clear c5
       try clear c12
       try clear c16
       try clear c23
       try clear c26
       try clear c30
       try clear c32
       try clear c33
       try clear c33b0
       try clear c35
       try clear c36
       try clear p2
       obtain ⟨kq, x61_27, rfl, HA, HJ27, HO_4, HO_7, HB⟩ := hcut
       cases kq with
       | zero => exact absurd HA.out (by simp [laws_FnExactCells.j1])
       | succ kj27 =>
        have H := HA.out
        clear HA
        simp only [laws_FnExactCells.j1] at H
        by_cases c42 : x61_27 = true
        ·subst c42
         have H1 : (some false) = some r := by rw [if_pos rfl] at H; exact H
         clear H
         have H := H1
         clear H1
         exact absurd ((Option.some.inj H).trans HR_.out) (by decide)
        ·replace c42 := Bool.eq_false_iff.mpr c42
         subst c42
         have H1 : ((laws_markCellS.f kj27 t112 1).bind fun bt124 => ((laws_heldCellS.f kj27 bt124.2 1).bind fun t126 => (if t126 < 0 then (some false) else (if t126 = bt124.1 then ((laws_toRuleS.f kj27 l0).bind fun t127 => ((impl_Cells.f kj27 t127).bind fun bt130 => ((laws_eqCellS.f kj27 bt130.1 t105).bind fun t134 => (if t134 = true then (laws_FnExactCells.j2 kj27 bt124.2 bt124.1 (bt130.2 != t106)) else (laws_FnExactCells.j2 kj27 bt124.2 bt124.1 true))))) else (some false))))) = some r := by rw [if_neg (show ¬ (false = true) by decide)] at H; exact H
         clear H
         have H := H1
         clear H1
         replace H := Option.bind_eq_some_iff.mp H
         obtain ⟨⟨t124, t125⟩, A430, H⟩ := H
         replace H : ((laws_heldCellS.f kj27 t125 1).bind fun t126 => (if t126 < 0 then (some false) else (if t126 = t124 then ((laws_toRuleS.f kj27 l0).bind fun t127 => ((impl_Cells.f kj27 t127).bind fun bt130 => ((laws_eqCellS.f kj27 bt130.1 t105).bind fun t134 => (if t134 = true then (laws_FnExactCells.j2 kj27 t125 t124 (bt130.2 != t106)) else (laws_FnExactCells.j2 kj27 t125 t124 true))))) else (some false)))) = some r := H
         have A43 := Aside0.mk A430
         clear A430
         replace H := Option.bind_eq_some_iff.mp H
         obtain ⟨t126, A440, H⟩ := H
         replace H : (if t126 < 0 then (some false) else (if t126 = t124 then ((laws_toRuleS.f kj27 l0).bind fun t127 => ((impl_Cells.f kj27 t127).bind fun bt130 => ((laws_eqCellS.f kj27 bt130.1 t105).bind fun t134 => (if t134 = true then (laws_FnExactCells.j2 kj27 t125 t124 (bt130.2 != t106)) else (laws_FnExactCells.j2 kj27 t125 t124 true))))) else (some false))) = some r := H
         have A44 := Aside0.mk A440
         clear A440
         by_cases c45 : t126 < 0
         ·rw [if_pos c45] at H
          have c45b0 : decide (t126 < 0) = true := decide_eq_true c45
          clear c45
          exact absurd ((Option.some.inj H).trans HR_.out) (by decide)
         ·rw [if_neg c45] at H
          have c45b0 : decide (t126 < 0) = false := decide_eq_false c45
          clear c45
          by_cases c46 : t126 = t124
          ·rw [if_pos c46] at H
           have c46b0 : (t126 == t124) = true := beq_iff_eq.mpr c46
           have c46b1 : (t126 != t124) = false := bne_eq_false_iff_eq.mpr c46
           clear c46
           replace H := Option.bind_eq_some_iff.mp H
           obtain ⟨t127, A470, H⟩ := H
           replace H : ((impl_Cells.f kj27 t127).bind fun bt130 => ((laws_eqCellS.f kj27 bt130.1 t105).bind fun t134 => (if t134 = true then (laws_FnExactCells.j2 kj27 t125 t124 (bt130.2 != t106)) else (laws_FnExactCells.j2 kj27 t125 t124 true)))) = some r := H
           have A47 := Aside0.mk A470
           clear A470
           replace H := Option.bind_eq_some_iff.mp H
           obtain ⟨⟨t130, t131⟩, A480, H⟩ := H
           replace H : ((laws_eqCellS.f kj27 t130 t105).bind fun t134 => (if t134 = true then (laws_FnExactCells.j2 kj27 t125 t124 (t131 != t106)) else (laws_FnExactCells.j2 kj27 t125 t124 true))) = some r := H
           have A48 := Aside0.mk A480
           clear A480
           have HC49 := Aside0.mk H
           clear H
           obtain ⟨Ao50, co50, eo50⟩ := Kd.R_slice HO_7.out
           subst eo50
           go_upto_region 25 with (first | ((with_reducible refine gate_callee (f := 54) rfl ?_); refine goesL_ (some 64) rfl rfl Try.func54 (by kernel_rfl) rfl #[.slice Ao50 t112.length co50, .int .i64 1] rfl MT ?_; (with_reducible refine (laws_markCellS.calls kj27 (fun k_ => some k_ = (.slice Ao50 t112.length co50 : Value).ownBlock) (.slice Ao50 t112.length co50) t112 1 t124 t125 w _ ?side1 ?side2 A43.out).mono ?_); (case side1 => exact KL HB); (case side2 => exact Kd.R_tight rfl HO_7.out); rintro e w51 ⟨rfl, hy0, hb, hkp⟩; refine ⟨_, rfl, ?_⟩; replace HO_4 := am (Kd.R_mono (ok' := fun k_ => some k_ ≠ (.slice Ao50 t112.length co50 : Value).ownBlock) (Kd.R_keptB (HO_4.out) hkp (fun k_ hk_ hs_ => (hk_) hs_)) (fun k_ hk_ => hk_.1)); replace HO_7 := am (Kd.R_reok rfl hy0 (fun k_ e_ => HO_7.out.1 k_ e_)); replace HB := am (hb); (try clear hb); (try clear hkp); (try clear hy0)) | ((with_reducible refine gate_callee (f := 55) rfl ?_); refine goesL_ (some 67) rfl rfl Try.func55 (by kernel_rfl) rfl #[.slice Ao50 t125.length co50, .int .i64 1] rfl (by (try simp only [List.map_toArray, List.map_cons, List.map_nil]); first | done | (rw [show t125.length = t112.length from (Kd.R_reads' HO_7.out).1.symm] <;> rfl) | rfl | (simp only [List.length_drop, List.length_take]; rfl)) ?_; (with_reducible refine (laws_heldCellS.calls kj27 _ _ t125 1 t126 _ ?side1 ?side2 A44.out).mono ?_); (case side1 => exact KC (Kd.R_reads' HO_7.out).2.2); (case side2 => rw [show t125.length = t112.length from (Kd.R_reads' HO_7.out).1.symm]; exact (Kd.R_reads' HO_7.out).2.1); rintro e w' ⟨rfl, ⟨nd, rfl⟩⟩; refine ⟨_, rfl, ?_⟩) | ((with_reducible refine gate_callee (f := 32) rfl ?_); refine goesL_ (some 75) rfl rfl Try.func32 (by kernel_rfl) rfl #[.slice A0 l0.length c0] rfl MT ?_; (with_reducible refine (laws_toRuleS.calls kj27 _ _ l0 t127 _ ?side1 ?side2 A47.out).mono ?_); (case side1 => repeat (first | exact (Kd.C_below HR0.out (KL HB)) | (with_reducible refine Kd.C_alloc ?_ _) | (with_reducible refine Kd.C_drewN ?_ _) | (with_reducible refine Kd.C_drew ?_))); (case side2 => exact HC0.out); rintro e w52 ⟨v128, rfl, ho0, hb⟩; refine ⟨_, rfl, ?_⟩; replace HO_4 := am (Kd.R_below (KR HO_4) hb); replace HO_7 := am (Kd.R_below (KR HO_7) hb); have HO129 := am (Kd.R_lower ho0 (below_size (KL HB))); replace HB := am (below_step (KL HB) hb); (try clear hb); (try clear ho0); obtain ⟨Ao53, co53, eo53⟩ := Kd.R_slice HO129.out; subst eo53) | ((with_reducible refine gate_callee (f := 52) rfl ?_); refine goesL_ (some 76) rfl rfl Try.func52 (by kernel_rfl) rfl #[.slice Ao53 t127.length co53] rfl MT ?_; (with_reducible refine (impl_Cells.calls kj27 _ _ t127 t130 t131 _ ?side1 ?side2 A48.out).mono ?_); (case side1 => exact KC (Kd.R_reads' HO129.out).2.2); (case side2 => exact (Kd.R_reads' HO129.out).2.1); rintro e w54 ⟨v132, rfl, ho0, hb⟩; refine ⟨_, rfl, ?_⟩; replace HO129 := am (Kd.R_below (KR HO129) hb); have HO133 := am (Kd.R_lower (Kd.R_new' (Kd.R_new' ho0 (Kd.R_lt (KR HO_4))) (Kd.R_lt (KR HO_7))) (below_size (KL HB))); replace HO_4 := am (Kd.R_elder' (KR HO_4) (Kd.R_base ho0) hb); replace HO_7 := am (Kd.R_elder' (KR HO_7) (Kd.R_base ho0) hb); replace HB := am (below_step (KL HB) hb); (try clear hb); (try clear ho0)))
           (try simp only [Act.put, List.setIfInBounds_toArray, List.set_cons_zero, List.set_cons_succ])
           go_cut [87] (fun v87 wc => ∃ (kq : Nat) (x87_48 : Bool), v87 = .bool x87_48 ∧ Aside0 (laws_FnExactCells.j2 kq t125 t124 x87_48 = some r) ∧ Aside0 (kq ≤ kj27) ∧ Aside0 (Kd.R k80 80 wc w.heap.size (fun _ => True) (.slice Ao50 t112.length co50) t125) ∧ Aside0 (Below w.heap.size w wc))
           case first =>
            have H := HC49.out
            clear HC49
            replace H := Option.bind_eq_some_iff.mp H
            obtain ⟨t134, A550, H⟩ := H
            replace H : (if t134 = true then (laws_FnExactCells.j2 kj27 t125 t124 (t131 != t106)) else (laws_FnExactCells.j2 kj27 t125 t124 true)) = some r := H
            have A55 := Aside0.mk A550
            clear A550
            by_cases c56 : t134 = true
            ·subst c56
             have H1 : (laws_FnExactCells.j2 kj27 t125 t124 (t131 != t106)) = some r := by rw [if_pos rfl] at H; exact H
             clear H
             have H := H1
             clear H1
             have H' := Aside0.mk H
             clear H
             obtain ⟨Ao57, co57, eo57⟩ := Kd.R_slice HO133.out
             subst eo57
             obtain ⟨Ao58, co58, eo58⟩ := Kd.R_slice HO_4.out
             subst eo58
             go_wp2_with (first | ((with_reducible refine gate_callee (f := 53) rfl ?_); refine goesL_ (some 81) rfl rfl Try.func53 (by kernel_rfl) rfl #[.slice Ao57 t130.length co57, .slice Ao58 t105.length co58] rfl MT ?_; (with_reducible refine (laws_eqCellS.calls kj27 _ _ t130 _ _ t105 true _ ?side1 ?side2 ?side3 ?side4 A55.out).mono ?_); (case side1 => exact KC (Kd.R_reads' HO133.out).2.2); (case side2 => exact (Kd.R_reads' HO133.out).2.1); (case side3 => exact KC (Kd.R_reads' HO_4.out).2.2); (case side4 => exact (Kd.R_reads' HO_4.out).2.1); rintro e w59 ⟨rfl, hb⟩; refine ⟨_, rfl, ?_⟩; replace HO_4 := am (Kd.R_below (KR HO_4) hb); replace HO_7 := am (Kd.R_below (KR HO_7) hb); replace HO129 := am (Kd.R_below (KR HO129) hb); replace HO133 := am (Kd.R_below (KR HO133) hb); replace HB := am (below_step (KL HB) hb); (try clear hb)))
             go_meet
             case rel => exact ⟨_, ((t131 != t106)), (by first | rfl | (simp; done) | (simp [*]; done)), H', ⟨by have := HJ7.out; have := HJ27.out; first | omega | exact Nat.le_refl _⟩, ⟨by (with_reducible repeat (first | apply Kd.R_alloc | apply Kd.R_drewN | apply Kd.R_drew)); exact Kd.R_mono HO_7.out (fun _ hk => trivial)⟩, ⟨KL HB⟩⟩
            ·replace c56 := Bool.eq_false_iff.mpr c56
             subst c56
             have H1 : (laws_FnExactCells.j2 kj27 t125 t124 true) = some r := by rw [if_neg (show ¬ (false = true) by decide)] at H; exact H
             clear H
             have H := H1
             clear H1
             have H' := Aside0.mk H
             clear H
             obtain ⟨Ao60, co60, eo60⟩ := Kd.R_slice HO133.out
             subst eo60
             obtain ⟨Ao61, co61, eo61⟩ := Kd.R_slice HO_4.out
             subst eo61
             go_wp2_with (first | ((with_reducible refine gate_callee (f := 53) rfl ?_); refine goesL_ (some 81) rfl rfl Try.func53 (by kernel_rfl) rfl #[.slice Ao60 t130.length co60, .slice Ao61 t105.length co61] rfl MT ?_; (with_reducible refine (laws_eqCellS.calls kj27 _ _ t130 _ _ t105 false _ ?side1 ?side2 ?side3 ?side4 A55.out).mono ?_); (case side1 => exact KC (Kd.R_reads' HO133.out).2.2); (case side2 => exact (Kd.R_reads' HO133.out).2.1); (case side3 => exact KC (Kd.R_reads' HO_4.out).2.2); (case side4 => exact (Kd.R_reads' HO_4.out).2.1); rintro e w62 ⟨rfl, hb⟩; refine ⟨_, rfl, ?_⟩; replace HO_4 := am (Kd.R_below (KR HO_4) hb); replace HO_7 := am (Kd.R_below (KR HO_7) hb); replace HO129 := am (Kd.R_below (KR HO129) hb); replace HO133 := am (Kd.R_below (KR HO133) hb); replace HB := am (below_step (KL HB) hb); (try clear hb)))
             go_meet
             case rel => exact ⟨_, (true), (by first | rfl | (simp; done) | (simp [*]; done)), H', ⟨by have := HJ7.out; have := HJ27.out; first | omega | exact Nat.le_refl _⟩, ⟨by (with_reducible repeat (first | apply Kd.R_alloc | apply Kd.R_drewN | apply Kd.R_drew)); exact Kd.R_mono HO_7.out (fun _ hk => trivial)⟩, ⟨KL HB⟩⟩
           case rest =>
            clear HC49
            try clear c1
            try clear c2
            try clear p2
            try clear c3
            try clear c3b0
            try clear c4
            try clear c5
            try clear c12
            try clear c16
            try clear c23
            try clear c26
            try clear c30
            try clear c32
            try clear c33
            try clear c33b0
            try clear c35
            try clear c36
            try clear c42
            try clear c45
            try clear c45b0
            try clear c46
            try clear c46b0
            try clear c46b1
            try clear c51
            try clear c52
            try clear c53
            try clear c54
            try clear c55
            try clear c56
            try clear p2
            obtain ⟨kq, x87_48, rfl, HA, HJ48, HO_7, HB⟩ := hcut
            have hl7_48 := (Kd.R_reads' HO_7.out).1
            rw [hl7_48] at HO_7
            (try simp only [hl7_48])
            cases kq with
            | zero => exact absurd HA.out (by simp [laws_FnExactCells.j2])
            | succ kj48 =>
             have H := HA.out
             clear HA
             simp only [laws_FnExactCells.j2] at H
             by_cases c63 : x87_48 = true
             ·subst c63
              have H1 : (some false) = some r := by rw [if_pos rfl] at H; exact H
              clear H
              have H := H1
              clear H1
              exact absurd ((Option.some.inj H).trans HR_.out) (by decide)
             ·replace c63 := Bool.eq_false_iff.mpr c63
              subst c63
              have H1 : ((laws_heldCellS.f kj48 t125 1).bind fun t135 => (if t135 < 0 then (some false) else (if t135 = t124 then (some true) else (some false)))) = some r := by rw [if_neg (show ¬ (false = true) by decide)] at H; exact H
              clear H
              have H := H1
              clear H1
              replace H := Option.bind_eq_some_iff.mp H
              obtain ⟨t135, A640, H⟩ := H
              replace H : (if t135 < 0 then (some false) else (if t135 = t124 then (some true) else (some false))) = some r := H
              have A64 := Aside0.mk A640
              clear A640
              by_cases c65 : t135 < 0
              ·rw [if_pos c65] at H
               have c65b0 : decide (t135 < 0) = true := decide_eq_true c65
               clear c65
               exact absurd ((Option.some.inj H).trans HR_.out) (by decide)
              ·rw [if_neg c65] at H
               have c65b0 : decide (t135 < 0) = false := decide_eq_false c65
               clear c65
               by_cases c66 : t135 = t124
               ·rw [if_pos c66] at H
                have c66b0 : (t135 == t124) = true := beq_iff_eq.mpr c66
                have c66b1 : (t135 != t124) = false := bne_eq_false_iff_eq.mpr c66
                clear c66
                obtain rfl := Option.some.inj H
                go_wp2_with (first | ((with_reducible refine gate_callee (f := 55) rfl ?_); refine goesL_ (some 90) rfl rfl Try.func55 (by kernel_rfl) rfl #[.slice Ao50 t125.length co50, .int .i64 1] rfl MT ?_; (with_reducible refine (laws_heldCellS.calls kj48 _ _ t125 1 t135 _ ?side1 ?side2 A64.out).mono ?_); (case side1 => exact KC (Kd.R_reads' HO_7.out).2.2); (case side2 => exact (Kd.R_reads' HO_7.out).2.1); rintro e w' ⟨rfl, ⟨nd, rfl⟩⟩; refine ⟨_, rfl, ?_⟩))
                go_ret
                exact ⟨ER, KL HB⟩
               ·rw [if_neg c66] at H
                have c66b0 : (t135 == t124) = false := beq_eq_false_iff_ne.mpr c66
                have c66b1 : (t135 != t124) = true := bne_iff_ne.mpr c66
                exact absurd ((Option.some.inj H).trans HR_.out) (by decide)
          ·rw [if_neg c46] at H
           have c46b0 : (t126 == t124) = false := beq_eq_false_iff_ne.mpr c46
           have c46b1 : (t126 != t124) = true := bne_iff_ne.mpr c46
           exact absurd ((Option.some.inj H).trans HR_.out) (by decide)
     ·replace c26 := Bool.eq_false_iff.mpr c26
      subst c26
      have H1 : (some false) = some r := by rw [if_neg (show ¬ (false = true) by decide)] at H; exact H
      clear H
      have H := H1
      clear H1
      exact absurd ((Option.some.inj H).trans HR_.out) (by decide)
def laws_FnExactCells.Pure : Prop := ∀ (l0 : List (S110)), ((l0.length ≤ maxLen ∧ ∀ x_ ∈ l0, wfT110 x_)) → ∃ k, laws_FnExactCells.f k l0 = some true
theorem laws_FnExactCells.walk (P : laws_FnExactCells.Pure) (A0 : Option Addr) (c0 : Nat) (l0 : List (S110)) (w : World) (hr0 : Kd.C k110 w A0 l0.length l0) (hc0 : l0.length ≤ c0) (q0_ : (l0.length ≤ maxLen ∧ ∀ x_ ∈ l0, wfT110 x_)) :
  Calls Try.prog 12 #[.slice A0 l0.length c0] w fun e w' => e = .returned (.bool true) ∧ Below w.heap.size w w' := by
 obtain ⟨k, h⟩ := P l0 q0_
 refine (laws_FnExactCells.calls k A0 c0 l0 true w hr0 hc0 rfl h).mono ?_
 rintro e w' ⟨rfl, hd⟩
 exact ⟨rfl, hd⟩
end Go.Proofs.Ytkgbgaojglcaoaa.PAll
end
