/- Contracts of the functions that the statement reaches, printed by a program out of the translation and joined with the plain laws. -/
import Derived.WalkKit
import Derived.Shelf.Abstract
import Derived.Deep.LoopGhost
import Derived.Deep.CutBlock
import Derived.Shelf.RegionOpenPlain
import Derived.Test.YtkgbgaojglcaoaaCFnCells3
import Derived.Test.YtkgbgaojglcaoaaCFnCells4
import Derived.Test.YtkgbgaojglcaoaaCFnCells6
import Derived.Test.YtkgbgaojglcaoaaCFnCells7
import Derived.Test.YtkgbgaojglcaoaaCFnCells8
import Derived.Test.YtkgbgaojglcaoaaCFnCells10
section
namespace Go.Proofs.Ytkgbgaojglcaoaa.PAll
open Go.RowKit Go.Proofs.YtkgbgaojglcaoaaW.PrintWords Go.Proofs.YtkgbgaojglcaoaaW.PrintLast Go.Proofs.YtkgbgaojglcaoaaW.PrintMore
attribute [local go_sem] max2_int min2_int max_two min_two max_three min_three max_four min_four   -- for this text's walks alone
set_option linter.unusedVariables false
set_option linter.unusedSimpArgs false
attribute [local go_sem high] eqA80
def cellI (base n : Nat) (w W : World) (gl gx go gq : Nat) (A1 : Option Addr) (c1 : Nat) (la : List S71) (A5 A6 A7 : Option Addr) (k5 k6 k7 : Nat) (xs ys zs : List Int) (Ao : Option Addr) (co : Nat) (out : List S80) : Prop :=
 Below base w W ∧ (W.heap[gl]? = some (.cells #[.slice A1 la.length c1] 52 (0, 0)) ∧ W.heap[gx]? = some (.cells #[.slice A5 xs.length k5, .slice A6 ys.length k6, .slice A7 zs.length k7] 113 (0, 0)) ∧ W.heap[go]? = some (.cells #[.slice Ao out.length co] 74 (0, 0))) ∧
 (Kd.R (Kd.int .i64) 3 W base (fun k => k < n) (.slice A5 xs.length k5) xs ∧ Kd.R (Kd.int .i64) 3 W base (fun k => k < n) (.slice A6 ys.length k6) ys ∧ Kd.R (Kd.int .i64) 3 W base (fun k => k < n) (.slice A7 zs.length k7) zs) ∧
 Kd.R k80 80 W base (fun k => k < n) (.slice Ao out.length co) out ∧ W.heap[gq]? = some (.cells #[.slice A5 xs.length k5, .slice A6 ys.length k6, .slice A7 zs.length k7] 113 (0, 0))
theorem cellI.step {base n : Nat} {w W W' : World} {gl gx go gq : Nat} {A1 : Option Addr} {c1 : Nat} {la : List S71} {A5 A6 A7 : Option Addr} {k5 k6 k7 : Nat} {xs ys zs : List Int} {Ao : Option Addr} {co : Nat} {out : List S80}
  (h : cellI base n w W gl gx go gq A1 c1 la A5 A6 A7 k5 k6 k7 xs ys zs Ao co out) (hb : Below W.heap.size W W') (hw : base ≤ w.heap.size) : cellI base n w W' gl gx go gq A1 c1 la A5 A6 A7 k5 k6 k7 xs ys zs Ao co out :=
 ⟨h.1.trans (hb.mono (Nat.le_trans hw h.1.size)), ⟨blk_below h.2.1.1 hb, blk_below h.2.1.2.1 hb, blk_below h.2.1.2.2 hb⟩, ⟨Kd.R_below h.2.2.1.1 hb, Kd.R_below h.2.2.1.2.1 hb, Kd.R_below h.2.2.1.2.2 hb⟩, Kd.R_below h.2.2.2.1 hb, blk_below h.2.2.2.2 hb⟩
theorem cellI.far {base n : Nat} {w W : World} {gl gx go gq : Nat} {A1 : Option Addr} {c1 : Nat} {la : List S71} {A5 A6 A7 : Option Addr} {k5 k6 k7 : Nat} {xs ys zs : List Int} {Ao : Option Addr} {co : Nat} {out : List S80}
  (h : cellI base n w W gl gx go gq A1 c1 la A5 A6 A7 k5 k6 k7 xs ys zs Ao co out) {g : Nat} (hg : n ≤ g) (hl : gl < n) (hx : gx < n) (ho : go < n) (hq : gq < n) (hbn : base = w.heap.size) (hn : base ≤ n) (i : Nat) (v : Value) : cellI base n w (W.setCell ⟨g, i, none⟩ v) gl gx go gq A1 c1 la A5 A6 A7 k5 k6 k7 xs ys zs Ao co out := by
 subst hbn
 refine ⟨below_set h.1 (Nat.le_trans hn hg), ⟨(Below.heap_setCell _ ⟨g, i, none⟩ _ gl (by show gl ≠ g; omega)).trans h.2.1.1, (Below.heap_setCell _ ⟨g, i, none⟩ _ gx (by show gx ≠ g; omega)).trans h.2.1.2.1, (Below.heap_setCell _ ⟨g, i, none⟩ _ go (by show go ≠ g; omega)).trans h.2.1.2.2⟩, ⟨Kd.R_far h.2.2.1.1 (fun k hk => by show k ≠ g; omega) _, Kd.R_far h.2.2.1.2.1 (fun k hk => by show k ≠ g; omega) _, Kd.R_far h.2.2.1.2.2 (fun k hk => by show k ≠ g; omega) _⟩, Kd.R_far h.2.2.2.1 (fun k hk => by show k ≠ g; omega) _, (Below.heap_setCell _ ⟨g, i, none⟩ _ gq (by show gq ≠ g; omega)).trans h.2.2.2.2⟩
theorem cellI.up {base n m : Nat} {w W : World} {gl gx go gq : Nat} {A1 : Option Addr} {c1 : Nat} {la : List S71} {A5 A6 A7 : Option Addr} {k5 k6 k7 : Nat} {xs ys zs : List Int} {Ao : Option Addr} {co : Nat} {out : List S80}
  (h : cellI base n w W gl gx go gq A1 c1 la A5 A6 A7 k5 k6 k7 xs ys zs Ao co out) (hm : n ≤ m) : cellI base m w W gl gx go gq A1 c1 la A5 A6 A7 k5 k6 k7 xs ys zs Ao co out :=
 ⟨h.1, h.2.1, ⟨Kd.R_mono h.2.2.1.1 (fun k hk => Nat.lt_of_lt_of_le hk hm), Kd.R_mono h.2.2.1.2.1 (fun k hk => Nat.lt_of_lt_of_le hk hm), Kd.R_mono h.2.2.1.2.2 (fun k hk => Nat.lt_of_lt_of_le hk hm)⟩, Kd.R_mono h.2.2.2.1 (fun k hk => Nat.lt_of_lt_of_le hk hm), h.2.2.2.2⟩
theorem po {P : Program} {ops : Array Oper} {Q : Exit → Act → World → Prop} {md : Region.Mode} {S : World → Prop} {ds : List Nat} {oi : Oper} {fuel : Nat} {l : Array Bool} {a a' : Act} {w : World} (i : Nat) (N : Option Tmp) (l' : Array Bool) (hc : anyB md ops l l' i = true)
  (h : wpAnyLast P md ops Q S ds fuel l' a' w) (hi : ops[i]? = some oi := by rfl) (hN : oi.dst = N := by rfl) (hQ : ∀ c a w, Q (.panic c) (a.put oi.dst undef) w → Q (.panic c) a w := by exact fun _ _ _ h => h)
  (hy : Yields P ops oi undef a := by exact Or.inr ⟨by rfl, rfl⟩) (ha : a.put N undef = a' := by simp only [Act.put, List.setIfInBounds_toArray, List.set_cons_zero, List.set_cons_succ, i64_w, i32_w]; rfl) : wpAnyLast P md ops Q S ds (fuel + 1) l a w :=
 pure_ (i := i) (N := N) (v := undef) l' hi hN hc hQ hy ha h
theorem siz1 {w : World} {n : Nat} (h : n ≤ w.heap.size) (p : Addr) (v : Value) : n ≤ (w.setCell p v).heap.size := by
 simpa [World.setCell] using h
theorem put7 {w : World} {g : Nat} {t : TypeId} {x0 x1 x2 x3 x4 x5 x6 : Value} (h : w.heap[g]? = some (.cells #[x0, x1, x2, x3, x4, x5, x6] t (0, 0))) (v0 v1 v2 v3 v4 v5 v6 : Value) :
  ((((((((w.setCell ⟨g, 0, none⟩ v0).setCell ⟨g, 1, none⟩ v1).setCell ⟨g, 2, none⟩ v2).setCell ⟨g, 3, none⟩ v3).setCell ⟨g, 4, none⟩ v4).setCell ⟨g, 5, none⟩ v5).setCell ⟨g, 6, none⟩ v6)).heap[g]? = some (.cells #[v0, v1, v2, v3, v4, v5, v6] t (0, 0)) := by
 have h0 := blk_put (cs' := #[v0, x1, x2, x3, x4, x5, x6]) h 0 v0 rfl
 have h1 := blk_put (cs' := #[v0, v1, x2, x3, x4, x5, x6]) h0 1 v1 rfl
 have h2 := blk_put (cs' := #[v0, v1, v2, x3, x4, x5, x6]) h1 2 v2 rfl
 have h3 := blk_put (cs' := #[v0, v1, v2, v3, x4, x5, x6]) h2 3 v3 rfl
 have h4 := blk_put (cs' := #[v0, v1, v2, v3, v4, x5, x6]) h3 4 v4 rfl
 have h5 := blk_put (cs' := #[v0, v1, v2, v3, v4, v5, x6]) h4 5 v5 rfl
 have h6 := blk_put (cs' := #[v0, v1, v2, v3, v4, v5, v6]) h5 6 v6 rfl
 exact h6
theorem off7 {w : World} {g j : Nat} {o : Obj} (h : w.heap[j]? = some o) (hn : j ≠ g) (v0 v1 v2 v3 v4 v5 v6 : Value) : ((((((((w.setCell ⟨g, 0, none⟩ v0).setCell ⟨g, 1, none⟩ v1).setCell ⟨g, 2, none⟩ v2).setCell ⟨g, 3, none⟩ v3).setCell ⟨g, 4, none⟩ v4).setCell ⟨g, 5, none⟩ v5).setCell ⟨g, 6, none⟩ v6)).heap[j]? = some o :=
 (Below.heap_setCell _ ⟨g, 6, none⟩ _ j hn).trans ((Below.heap_setCell _ ⟨g, 5, none⟩ _ j hn).trans ((Below.heap_setCell _ ⟨g, 4, none⟩ _ j hn).trans ((Below.heap_setCell _ ⟨g, 3, none⟩ _ j hn).trans ((Below.heap_setCell _ ⟨g, 2, none⟩ _ j hn).trans ((Below.heap_setCell _ ⟨g, 1, none⟩ _ j hn).trans ((Below.heap_setCell _ ⟨g, 0, none⟩ _ j hn).trans h))))))
theorem cellI.far7 {base n : Nat} {w W : World} {gl gx go gq : Nat} {A1 : Option Addr} {c1 : Nat} {la : List S71} {A5 A6 A7 : Option Addr} {k5 k6 k7 : Nat} {xs ys zs : List Int} {Ao : Option Addr} {co : Nat} {out : List S80}
  (h : cellI base n w W gl gx go gq A1 c1 la A5 A6 A7 k5 k6 k7 xs ys zs Ao co out) {g : Nat} (hg : n ≤ g) (hl : gl < n) (hx : gx < n) (ho : go < n) (hq : gq < n) (hbn : base = w.heap.size) (hn : base ≤ n) (v0 v1 v2 v3 v4 v5 v6 : Value) : cellI base n w (((((((W.setCell ⟨g, 0, none⟩ v0).setCell ⟨g, 1, none⟩ v1).setCell ⟨g, 2, none⟩ v2).setCell ⟨g, 3, none⟩ v3).setCell ⟨g, 4, none⟩ v4).setCell ⟨g, 5, none⟩ v5).setCell ⟨g, 6, none⟩ v6) gl gx go gq A1 c1 la A5 A6 A7 k5 k6 k7 xs ys zs Ao co out :=
 cellI.far (cellI.far (cellI.far (cellI.far (cellI.far (cellI.far (cellI.far h hg hl hx ho hq hbn hn 0 v0) hg hl hx ho hq hbn hn 1 v1) hg hl hx ho hq hbn hn 2 v2) hg hl hx ho hq hbn hn 3 v3) hg hl hx ho hq hbn hn 4 v4) hg hl hx ho hq hbn hn 5 v5) hg hl hx ho hq hbn hn 6 v6
def joinB (out : List S80) (x : S80) : Prop := 0 < out.length ∧ (rd_T80 out ((out.length : Int) - 1)).f0 = x.f0 ∧ (rd_T80 out ((out.length : Int) - 1)).f1 = x.f1 ∧ (rd_T80 out ((out.length : Int) - 1)).f2 = x.f2 ∧ (rd_T80 out ((out.length : Int) - 1)).f3 = x.f3 ∧ (rd_T80 out ((out.length : Int) - 1)).f6 = x.f6 ∧ wrap64 ((rd_T80 out ((out.length : Int) - 1)).f5 + 1) = x.f4
instance (out : List S80) (x : S80) : Decidable (joinB out x) := by unfold joinB; infer_instance
def cellF (out : List S80) (x : S80) : List S80 × Bool :=
 if x.f6 < 0 then (out, true) else
 if joinB out x then (out.set (out.length - 1) { rd_T80 out ((out.length : Int) - 1) with f5 := x.f5 }, true)
 else (out ++ [x], decide (out.length + 1 ≤ 400))
set_option maxHeartbeats 16000000 in
set_option maxRecDepth 100000 in
theorem cells.one (la : List S71) (xs ys zs : List Int) (out : List S80) (A1 A5 A6 A7 Ao : Option Addr) (c1 k5 k6 k7 co gl gx go gq : Nat) (w W : World) (i k n a b c u e1 e2 e3 : Int)
  (hi : cellI w.heap.size W.heap.size w W gl gx go gq A1 c1 la A5 A6 A7 k5 k6 k7 xs ys zs Ao co out) (hra : Kd.C k71 w A1 la.length la) (hca : la.length ≤ c1) (hln : out.length ≤ 1000) (hgo : w.heap.size ≤ go)
  (hu : impl_first.f la a b c = some u) (h1 : impl_end.f xs i 4294967295 = some e1) (h2 : impl_end.f ys k 4294967295 = some e2) (h3 : impl_end.f zs n 65535 = some e3) :
  Calls Try.prog 104 #[.int .i64 i, .int .i64 k, .int .i64 n, .agg #[.int .i64 a, .int .i64 b, .int .i64 c], .pointer (some ⟨gl, 0, none⟩), .pointer (some ⟨gx, 0, none⟩), .pointer (some ⟨go, 0, none⟩)] W fun e w' =>
   ∃ (r : List S80 × Bool) (Ao' : Option Addr) (co' : Nat), e = .returned (.bool r.2) ∧ cellF out ⟨a, e1, b, e2, c, e3, u⟩ = r ∧ cellI w.heap.size w'.heap.size w w' gl gx go gq A1 c1 la A5 A6 A7 k5 k6 k7 xs ys zs Ao' co' r.1 := by
 have hu1 := Try.underlying60
 have hu2 := Try.underlying80
 have hu3 := Try.underlying113
 have HI := am hi
 have RA := am hra
 have CA := am hca
 have LN := am hln
 have GO := am hgo
 have WS := am hi.1.size
 have HU := am hu
 have E1 := am h1
 have E2 := am h2
 have E3 := am h3
 have NL := am (blk_lt hi.2.1.1)
 have NX := am (blk_lt hi.2.1.2.1)
 have NO := am (blk_lt hi.2.1.2.2)
 have NQ := am (blk_lt hi.2.2.2.2)
 clear hi hra hca hln hgo hu h1 h2 h3
 go_enter Try.func104, Try.ntmps104
 go_upto_region 1 with (first | ((with_reducible refine gate_dst (N := 10) rfl ?_); refine box_event rfl (N := 10) rfl (cs := #[.int .i64 a, .int .i64 b, .int .i64 c]) (t := 60) BX ?_; intro gc hgc w2 hbox hbw; have BK := am hbox; have GC := am (show W.heap.size ≤ gc from hgc ▸ Nat.le_refl _); have NS := am hbw.size; replace HI := am (cellI.step HI.out hbw (Nat.le_refl _)); clear hbw hgc hbox))
 obtain ⟨hz0, hz1, hz2, hzf⟩ := y3 w2 BK.out
 obtain ⟨hy0, hyf⟩ := y1 w2 HI.out.2.1.1
 by_cases hu0 : u < 0
 ·go_wp2_with (first | (go_at_call 89; refine (impl_first.calls A1 c1 la a b c u _ (Kd.C_below RA.out HI.out.1) CA.out HU.out).mono ?_; rintro e w3 ⟨rfl, hb⟩; replace HI := am (cellI.step HI.out hb (Nat.le_refl _)); replace NS := am (Nat.le_trans NS.out hb.size); clear hb))
  go_ret
  exact ⟨(out, true), Ao, co, rfl, by unfold cellF; rw [if_pos hu0], cellI.up HI.out NS.out⟩
 ·go_upto_region 4 with (first | (go_at_call 89; refine (impl_first.calls A1 c1 la a b c u _ (Kd.C_below RA.out HI.out.1) CA.out HU.out).mono ?_; rintro e w3 ⟨rfl, hb⟩; replace HI := am (cellI.step HI.out hb (Nat.le_refl _)); replace BK := am (blk_below BK.out hb); replace NS := am (Nat.le_trans NS.out hb.size); clear hb))
  clear hz0 hz1 hz2 hzf hy0 hyf
  refine start_ (n := 22) (S := fun w' => ce3 w' gc (.int .i64 a) (.int .i64 b) (.int .i64 c) (w'.cell? ⟨gx, 0, none⟩ = some (.slice A5 xs.length k5) ∧ w'.cell? ⟨gx, 1, none⟩ = some (.slice A6 ys.length k6) ∧ w'.cell? ⟨gx, 2, none⟩ = some (.slice A7 zs.length k7))) (ds := []) (tf 0 22) (by kernel_rfl) rfl rfl ⟨z0 _ BK.out, z1 _ BK.out, z2 _ BK.out, z0 _ HI.out.2.1.2.1, z1 _ HI.out.2.1.2.1, z2 _ HI.out.2.1.2.1⟩ (fun hHeld => ?_)
  replace HI := am (cellI.step HI.out (below_drew (Below.refl _ _)) (Nat.le_refl _))
  replace BK := am (blk_drew BK.out)
  replace NS := am (show W.heap.size ≤ w3.drew.heap.size from NS.out)
  generalize w3.drew = w4 at HI BK NS hHeld ⊢
  refine pu 0 (some 21) (tf 1 21) (by kernel_rfl) ?_
  refine tk 1 (some 22) (tf 2 20) (by kernel_rfl) hHeld ?_
  refine pu 2 (some 23) (tf 3 19) (by kernel_rfl) ?_
  refine tk 3 (some 24) (tf 4 18) (by kernel_rfl) hHeld ?_
  refine pu 4 (some 25) (tf 5 17) (by kernel_rfl) ?_
  refine pu 6 (some 27) (tr [5, 1, 1, 15]) (by kernel_rfl) ?_
  refine tk 7 (some 28) (tr [5, 1, 2, 14]) (by kernel_rfl) hHeld ?_
  refine pu 8 (some 29) (tr [5, 1, 3, 13]) (by kernel_rfl) ?_
  refine tk 9 (some 30) (tr [5, 1, 4, 12]) (by kernel_rfl) hHeld ?_
  refine pu 10 (some 31) (tr [5, 1, 5, 11]) (by kernel_rfl) ?_
  refine pu 12 (some 33) (tr [5, 1, 5, 1, 1, 9]) (by kernel_rfl) ?_
  refine tk 13 (some 34) (tr [5, 1, 5, 1, 2, 8]) (by kernel_rfl) hHeld ?_
  refine pu 14 (some 35) (tr [5, 1, 5, 1, 3, 7]) (by kernel_rfl) ?_
  refine tk 15 (some 36) (tr [5, 1, 5, 1, 4, 6]) (by kernel_rfl) hHeld ?_
  refine pu 16 (some 37) (tr [5, 1, 5, 1, 5, 5]) (by kernel_rfl) ?_
  refine pu 18 (some 39) (tr [5, 1, 5, 1, 5, 1, 1, 3]) (by kernel_rfl) ?_
  refine join_ (σ := Nat) 1 (tf 21 1) (fun g => [(26, .int .i64 e1), (32, .int .i64 e2), (38, .int .i64 e3), (13, .pointer (some ⟨g, 0, none⟩)), (40, .agg #[.int .i64 a, .int .i64 e1, .int .i64 b, .int .i64 e2, .int .i64 c, .int .i64 e3, .int .i64 u])]) (fun g w' => cellI w.heap.size W.heap.size w w' gl gx go gq A1 c1 la A5 A6 A7 k5 k6 k7 xs ys zs Ao co out ∧ w'.heap[gc]? = some (.cells #[.int .i64 a, .int .i64 b, .int .i64 c] 60 (0, 0)) ∧ w'.heap[g]? = some (.cells #[.int .i64 0, .int .i64 0, .int .i64 0, .int .i64 0, .int .i64 0, .int .i64 0, .int .i64 0] 80 (0, 0)) ∧ W.heap.size ≤ g ∧ g ≠ gc ∧ W.heap.size ≤ w'.heap.size) ?_ ?_
  rotate_left
  ·intro hCont
   refine two_ (i := 5) (j := 20) (Ni := some 26) (Nj := some 13) (tr [11, 1, 5, 1, 1, 3]) (tr [5, 1, 5, 1, 5, 1, 1, 1, 1, 1]) rfl rfl rfl rfl (by kernel_rfl) (by decide) (by decide) (fun K hK => ?_) (fun K hK => ?_)
   ·skip
    refine goes_ Try.func105 (by kernel_rfl) rfl #[.slice A5 xs.length k5, .int .i64 i, .int .i64 4294967295] (by rfl) rfl rfl MT ?_
    refine (impl_end.calls A5 k5 xs i 4294967295 e1 _ (Kd.R_reads' HI.out.2.2.1.1).2.2 (Kd.R_reads' HI.out.2.2.1.1).2.1 E1.out).mono ?_
    rintro e w6 ⟨rfl, hd⟩
    refine ⟨_, rfl, ?_⟩
    have hb := hd.below
    replace HI := am (cellI.step HI.out hb (Nat.le_refl _))
    replace BK := am (blk_below BK.out hb)
    replace NS := am (Nat.le_trans NS.out hb.size)
    clear hb hd
    refine hK.out _ _ ⟨z0 _ BK.out, z1 _ BK.out, z2 _ BK.out, z0 _ HI.out.2.1.2.1, z1 _ HI.out.2.1.2.1, z2 _ HI.out.2.1.2.1⟩ (fun hHeld => ?_)
    clear hK K
    refine norm_ (a' := ?_) ?_ ?_
    rotate_left
    ·show Act.put _ (some 26) _ = _
     simp only [Act.put, List.setIfInBounds_toArray, List.set_cons_zero, List.set_cons_succ, i64_w, i32_w]
     rfl
    refine two_ (i := 11) (j := 20) (Ni := some 32) (Nj := some 13) (tr [17, 1, 1, 3]) (tr [11, 1, 5, 1, 1, 1, 1, 1]) rfl rfl rfl rfl (by kernel_rfl) (by decide) (by decide) (fun K hK => ?_) (fun K hK => ?_)
    ·skip
     refine goes_ Try.func105 (by kernel_rfl) rfl #[.slice A6 ys.length k6, .int .i64 k, .int .i64 4294967295] (by rfl) rfl rfl MT ?_
     refine (impl_end.calls A6 k6 ys k 4294967295 e2 _ (Kd.R_reads' HI.out.2.2.1.2.1).2.2 (Kd.R_reads' HI.out.2.2.1.2.1).2.1 E2.out).mono ?_
     rintro e w6 ⟨rfl, hd⟩
     refine ⟨_, rfl, ?_⟩
     have hb := hd.below
     replace HI := am (cellI.step HI.out hb (Nat.le_refl _))
     replace BK := am (blk_below BK.out hb)
     replace NS := am (Nat.le_trans NS.out hb.size)
     clear hb hd
     refine hK.out _ _ ⟨z0 _ BK.out, z1 _ BK.out, z2 _ BK.out, z0 _ HI.out.2.1.2.1, z1 _ HI.out.2.1.2.1, z2 _ HI.out.2.1.2.1⟩ (fun hHeld => ?_)
     clear hK K
     refine norm_ (a' := ?_) ?_ ?_
     rotate_left
     ·show Act.put _ (some 32) _ = _
      simp only [Act.put, List.setIfInBounds_toArray, List.set_cons_zero, List.set_cons_succ, i64_w, i32_w]
      rfl
     refine two_ (i := 17) (j := 20) (Ni := some 38) (Nj := some 13) (tf 19 3) (tr [17, 1, 1, 1, 1, 1]) rfl rfl rfl rfl (by kernel_rfl) (by decide) (by decide) (fun K hK => ?_) (fun K hK => ?_)
     ·skip
      refine goes_ Try.func105 (by kernel_rfl) rfl #[.slice A7 zs.length k7, .int .i64 n, .int .i64 65535] (by rfl) rfl rfl MT ?_
      refine (impl_end.calls A7 k7 zs n 65535 e3 _ (Kd.R_reads' HI.out.2.2.1.2.2).2.2 (Kd.R_reads' HI.out.2.2.1.2.2).2.1 E3.out).mono ?_
      rintro e w6 ⟨rfl, hd⟩
      refine ⟨_, rfl, ?_⟩
      have hb := hd.below
      replace HI := am (cellI.step HI.out hb (Nat.le_refl _))
      replace BK := am (blk_below BK.out hb)
      replace NS := am (Nat.le_trans NS.out hb.size)
      clear hb hd
      refine hK.out _ _ ⟨z0 _ BK.out, z1 _ BK.out, z2 _ BK.out, z0 _ HI.out.2.1.2.1, z1 _ HI.out.2.1.2.1, z2 _ HI.out.2.1.2.1⟩ (fun hHeld => ?_)
      clear hK K
      refine norm_ (a' := ?_) ?_ ?_
      rotate_left
      ·show Act.put _ (some 38) _ = _
       simp only [Act.put, List.setIfInBounds_toArray, List.set_cons_zero, List.set_cons_succ, i64_w, i32_w]
       rfl
      refine pu 19 (some 40) (tf 20 2) (by kernel_rfl) ?_
      refine one_ (i := 20) (N := some 13) (tf 21 1) rfl rfl (by kernel_rfl) (by decide) (fun K hK => ?_)
      refine box_step rfl (N := 13) rfl (cs := #[.int .i64 0, .int .i64 0, .int .i64 0, .int .i64 0, .int .i64 0, .int .i64 0, .int .i64 0]) (t := 80) BX ?_
      intro g hg w5 hbox hb
      have BC := am hbox
      have GG := am (show W.heap.size ≤ g from hg ▸ NS.out)
      have NE := am (show g ≠ gc from fun e => by have := blk_lt BK.out; omega)
      replace HI := am (cellI.step HI.out hb (Nat.le_refl _))
      replace BK := am (blk_below BK.out hb)
      replace NS := am (Nat.le_trans NS.out hb.size)
      clear hb hg hbox
      refine hK.out _ _ ⟨z0 _ BK.out, z1 _ BK.out, z2 _ BK.out, z0 _ HI.out.2.1.2.1, z1 _ HI.out.2.1.2.1, z2 _ HI.out.2.1.2.1⟩ (fun hHeld => ?_)
      clear hK K
      refine norm_ (a' := ?_) ?_ ?_
      rotate_left
      ·show Act.put _ (some 13) _ = _
       simp only [Act.put, List.setIfInBounds_toArray, List.set_cons_zero, List.set_cons_succ, i64_w, i32_w]
       rfl
      exact norm_ (by simp only [putAll, Act.put, List.setIfInBounds_toArray, List.set_cons_zero, List.set_cons_succ]) (hCont g _ ⟨HI.out, BK.out, BC.out, GG.out, NE.out, NS.out⟩)
     ·skip
      refine box_step rfl (N := 13) rfl (cs := #[.int .i64 0, .int .i64 0, .int .i64 0, .int .i64 0, .int .i64 0, .int .i64 0, .int .i64 0]) (t := 80) BX ?_
      intro g hg w5 hbox hb
      have BC := am hbox
      have GG := am (show W.heap.size ≤ g from hg ▸ NS.out)
      have NE := am (show g ≠ gc from fun e => by have := blk_lt BK.out; omega)
      replace HI := am (cellI.step HI.out hb (Nat.le_refl _))
      replace BK := am (blk_below BK.out hb)
      replace NS := am (Nat.le_trans NS.out hb.size)
      clear hb hg hbox
      refine hK.out _ _ ⟨z0 _ BK.out, z1 _ BK.out, z2 _ BK.out, z0 _ HI.out.2.1.2.1, z1 _ HI.out.2.1.2.1, z2 _ HI.out.2.1.2.1⟩ (fun hHeld => ?_)
      clear hK K
      refine norm_ (a' := ?_) ?_ ?_
      rotate_left
      ·show Act.put _ (some 13) _ = _
       simp only [Act.put, List.setIfInBounds_toArray, List.set_cons_zero, List.set_cons_succ, i64_w, i32_w]
       rfl
      refine one_ (i := 17) (N := some 38) (tr [19, 1, 1, 1]) rfl rfl (by kernel_rfl) (by decide) (fun K hK => ?_)
      refine goes_ Try.func105 (by kernel_rfl) rfl #[.slice A7 zs.length k7, .int .i64 n, .int .i64 65535] (by rfl) rfl rfl MT ?_
      refine (impl_end.calls A7 k7 zs n 65535 e3 _ (Kd.R_reads' HI.out.2.2.1.2.2).2.2 (Kd.R_reads' HI.out.2.2.1.2.2).2.1 E3.out).mono ?_
      rintro e w6 ⟨rfl, hd⟩
      refine ⟨_, rfl, ?_⟩
      have hb := hd.below
      replace HI := am (cellI.step HI.out hb (Nat.le_refl _))
      replace BK := am (blk_below BK.out hb)
      replace NS := am (Nat.le_trans NS.out hb.size)
      replace BC := am (blk_below BC.out hb)
      clear hb hd
      refine hK.out _ _ ⟨z0 _ BK.out, z1 _ BK.out, z2 _ BK.out, z0 _ HI.out.2.1.2.1, z1 _ HI.out.2.1.2.1, z2 _ HI.out.2.1.2.1⟩ (fun hHeld => ?_)
      clear hK K
      refine norm_ (a' := ?_) ?_ ?_
      rotate_left
      ·show Act.put _ (some 38) _ = _
       simp only [Act.put, List.setIfInBounds_toArray, List.set_cons_zero, List.set_cons_succ, i64_w, i32_w]
       rfl
      refine pu 19 (some 40) (tf 21 1) (by kernel_rfl) ?_
      exact norm_ (by simp only [putAll, Act.put, List.setIfInBounds_toArray, List.set_cons_zero, List.set_cons_succ]) (hCont g _ ⟨HI.out, BK.out, BC.out, GG.out, NE.out, NS.out⟩)
    ·skip
     refine box_step rfl (N := 13) rfl (cs := #[.int .i64 0, .int .i64 0, .int .i64 0, .int .i64 0, .int .i64 0, .int .i64 0, .int .i64 0]) (t := 80) BX ?_
     intro g hg w5 hbox hb
     have BC := am hbox
     have GG := am (show W.heap.size ≤ g from hg ▸ NS.out)
     have NE := am (show g ≠ gc from fun e => by have := blk_lt BK.out; omega)
     replace HI := am (cellI.step HI.out hb (Nat.le_refl _))
     replace BK := am (blk_below BK.out hb)
     replace NS := am (Nat.le_trans NS.out hb.size)
     clear hb hg hbox
     refine hK.out _ _ ⟨z0 _ BK.out, z1 _ BK.out, z2 _ BK.out, z0 _ HI.out.2.1.2.1, z1 _ HI.out.2.1.2.1, z2 _ HI.out.2.1.2.1⟩ (fun hHeld => ?_)
     clear hK K
     refine norm_ (a' := ?_) ?_ ?_
     rotate_left
     ·show Act.put _ (some 13) _ = _
      simp only [Act.put, List.setIfInBounds_toArray, List.set_cons_zero, List.set_cons_succ, i64_w, i32_w]
      rfl
     refine one_ (i := 11) (N := some 32) (tr [17, 1, 1, 1, 1, 1]) rfl rfl (by kernel_rfl) (by decide) (fun K hK => ?_)
     refine goes_ Try.func105 (by kernel_rfl) rfl #[.slice A6 ys.length k6, .int .i64 k, .int .i64 4294967295] (by rfl) rfl rfl MT ?_
     refine (impl_end.calls A6 k6 ys k 4294967295 e2 _ (Kd.R_reads' HI.out.2.2.1.2.1).2.2 (Kd.R_reads' HI.out.2.2.1.2.1).2.1 E2.out).mono ?_
     rintro e w6 ⟨rfl, hd⟩
     refine ⟨_, rfl, ?_⟩
     have hb := hd.below
     replace HI := am (cellI.step HI.out hb (Nat.le_refl _))
     replace BK := am (blk_below BK.out hb)
     replace NS := am (Nat.le_trans NS.out hb.size)
     replace BC := am (blk_below BC.out hb)
     clear hb hd
     refine hK.out _ _ ⟨z0 _ BK.out, z1 _ BK.out, z2 _ BK.out, z0 _ HI.out.2.1.2.1, z1 _ HI.out.2.1.2.1, z2 _ HI.out.2.1.2.1⟩ (fun hHeld => ?_)
     clear hK K
     refine norm_ (a' := ?_) ?_ ?_
     rotate_left
     ·show Act.put _ (some 32) _ = _
      simp only [Act.put, List.setIfInBounds_toArray, List.set_cons_zero, List.set_cons_succ, i64_w, i32_w]
      rfl
     refine one_ (i := 17) (N := some 38) (tr [19, 1, 1, 1]) rfl rfl (by kernel_rfl) (by decide) (fun K hK => ?_)
     refine goes_ Try.func105 (by kernel_rfl) rfl #[.slice A7 zs.length k7, .int .i64 n, .int .i64 65535] (by rfl) rfl rfl MT ?_
     refine (impl_end.calls A7 k7 zs n 65535 e3 _ (Kd.R_reads' HI.out.2.2.1.2.2).2.2 (Kd.R_reads' HI.out.2.2.1.2.2).2.1 E3.out).mono ?_
     rintro e w6 ⟨rfl, hd⟩
     refine ⟨_, rfl, ?_⟩
     have hb := hd.below
     replace HI := am (cellI.step HI.out hb (Nat.le_refl _))
     replace BK := am (blk_below BK.out hb)
     replace NS := am (Nat.le_trans NS.out hb.size)
     replace BC := am (blk_below BC.out hb)
     clear hb hd
     refine hK.out _ _ ⟨z0 _ BK.out, z1 _ BK.out, z2 _ BK.out, z0 _ HI.out.2.1.2.1, z1 _ HI.out.2.1.2.1, z2 _ HI.out.2.1.2.1⟩ (fun hHeld => ?_)
     clear hK K
     refine norm_ (a' := ?_) ?_ ?_
     rotate_left
     ·show Act.put _ (some 38) _ = _
      simp only [Act.put, List.setIfInBounds_toArray, List.set_cons_zero, List.set_cons_succ, i64_w, i32_w]
      rfl
     refine pu 19 (some 40) (tf 21 1) (by kernel_rfl) ?_
     exact norm_ (by simp only [putAll, Act.put, List.setIfInBounds_toArray, List.set_cons_zero, List.set_cons_succ]) (hCont g _ ⟨HI.out, BK.out, BC.out, GG.out, NE.out, NS.out⟩)
   ·skip
    refine box_step rfl (N := 13) rfl (cs := #[.int .i64 0, .int .i64 0, .int .i64 0, .int .i64 0, .int .i64 0, .int .i64 0, .int .i64 0]) (t := 80) BX ?_
    intro g hg w5 hbox hb
    have BC := am hbox
    have GG := am (show W.heap.size ≤ g from hg ▸ NS.out)
    have NE := am (show g ≠ gc from fun e => by have := blk_lt BK.out; omega)
    replace HI := am (cellI.step HI.out hb (Nat.le_refl _))
    replace BK := am (blk_below BK.out hb)
    replace NS := am (Nat.le_trans NS.out hb.size)
    clear hb hg hbox
    refine hK.out _ _ ⟨z0 _ BK.out, z1 _ BK.out, z2 _ BK.out, z0 _ HI.out.2.1.2.1, z1 _ HI.out.2.1.2.1, z2 _ HI.out.2.1.2.1⟩ (fun hHeld => ?_)
    clear hK K
    refine norm_ (a' := ?_) ?_ ?_
    rotate_left
    ·show Act.put _ (some 13) _ = _
     simp only [Act.put, List.setIfInBounds_toArray, List.set_cons_zero, List.set_cons_succ, i64_w, i32_w]
     rfl
    refine one_ (i := 5) (N := some 26) (tr [11, 1, 5, 1, 1, 1, 1, 1]) rfl rfl (by kernel_rfl) (by decide) (fun K hK => ?_)
    refine goes_ Try.func105 (by kernel_rfl) rfl #[.slice A5 xs.length k5, .int .i64 i, .int .i64 4294967295] (by rfl) rfl rfl MT ?_
    refine (impl_end.calls A5 k5 xs i 4294967295 e1 _ (Kd.R_reads' HI.out.2.2.1.1).2.2 (Kd.R_reads' HI.out.2.2.1.1).2.1 E1.out).mono ?_
    rintro e w6 ⟨rfl, hd⟩
    refine ⟨_, rfl, ?_⟩
    have hb := hd.below
    replace HI := am (cellI.step HI.out hb (Nat.le_refl _))
    replace BK := am (blk_below BK.out hb)
    replace NS := am (Nat.le_trans NS.out hb.size)
    replace BC := am (blk_below BC.out hb)
    clear hb hd
    refine hK.out _ _ ⟨z0 _ BK.out, z1 _ BK.out, z2 _ BK.out, z0 _ HI.out.2.1.2.1, z1 _ HI.out.2.1.2.1, z2 _ HI.out.2.1.2.1⟩ (fun hHeld => ?_)
    clear hK K
    refine norm_ (a' := ?_) ?_ ?_
    rotate_left
    ·show Act.put _ (some 26) _ = _
     simp only [Act.put, List.setIfInBounds_toArray, List.set_cons_zero, List.set_cons_succ, i64_w, i32_w]
     rfl
    refine one_ (i := 11) (N := some 32) (tr [17, 1, 1, 1, 1, 1]) rfl rfl (by kernel_rfl) (by decide) (fun K hK => ?_)
    refine goes_ Try.func105 (by kernel_rfl) rfl #[.slice A6 ys.length k6, .int .i64 k, .int .i64 4294967295] (by rfl) rfl rfl MT ?_
    refine (impl_end.calls A6 k6 ys k 4294967295 e2 _ (Kd.R_reads' HI.out.2.2.1.2.1).2.2 (Kd.R_reads' HI.out.2.2.1.2.1).2.1 E2.out).mono ?_
    rintro e w6 ⟨rfl, hd⟩
    refine ⟨_, rfl, ?_⟩
    have hb := hd.below
    replace HI := am (cellI.step HI.out hb (Nat.le_refl _))
    replace BK := am (blk_below BK.out hb)
    replace NS := am (Nat.le_trans NS.out hb.size)
    replace BC := am (blk_below BC.out hb)
    clear hb hd
    refine hK.out _ _ ⟨z0 _ BK.out, z1 _ BK.out, z2 _ BK.out, z0 _ HI.out.2.1.2.1, z1 _ HI.out.2.1.2.1, z2 _ HI.out.2.1.2.1⟩ (fun hHeld => ?_)
    clear hK K
    refine norm_ (a' := ?_) ?_ ?_
    rotate_left
    ·show Act.put _ (some 32) _ = _
     simp only [Act.put, List.setIfInBounds_toArray, List.set_cons_zero, List.set_cons_succ, i64_w, i32_w]
     rfl
    refine one_ (i := 17) (N := some 38) (tr [19, 1, 1, 1]) rfl rfl (by kernel_rfl) (by decide) (fun K hK => ?_)
    refine goes_ Try.func105 (by kernel_rfl) rfl #[.slice A7 zs.length k7, .int .i64 n, .int .i64 65535] (by rfl) rfl rfl MT ?_
    refine (impl_end.calls A7 k7 zs n 65535 e3 _ (Kd.R_reads' HI.out.2.2.1.2.2).2.2 (Kd.R_reads' HI.out.2.2.1.2.2).2.1 E3.out).mono ?_
    rintro e w6 ⟨rfl, hd⟩
    refine ⟨_, rfl, ?_⟩
    have hb := hd.below
    replace HI := am (cellI.step HI.out hb (Nat.le_refl _))
    replace BK := am (blk_below BK.out hb)
    replace NS := am (Nat.le_trans NS.out hb.size)
    replace BC := am (blk_below BC.out hb)
    clear hb hd
    refine hK.out _ _ ⟨z0 _ BK.out, z1 _ BK.out, z2 _ BK.out, z0 _ HI.out.2.1.2.1, z1 _ HI.out.2.1.2.1, z2 _ HI.out.2.1.2.1⟩ (fun hHeld => ?_)
    clear hK K
    refine norm_ (a' := ?_) ?_ ?_
    rotate_left
    ·show Act.put _ (some 38) _ = _
     simp only [Act.put, List.setIfInBounds_toArray, List.set_cons_zero, List.set_cons_succ, i64_w, i32_w]
     rfl
    refine pu 19 (some 40) (tf 21 1) (by kernel_rfl) ?_
    exact norm_ (by simp only [putAll, Act.put, List.setIfInBounds_toArray, List.set_cons_zero, List.set_cons_succ]) (hCont g _ ⟨HI.out, BK.out, BC.out, GG.out, NE.out, NS.out⟩)
  rintro g w5 ⟨hi_, hk_, hc_, hg_, hn_, hs_⟩
  replace HI := am hi_
  replace BK := am hk_
  have BC := am hc_
  have GG := am hg_
  have NE := am hn_
  replace NS := am hs_
  clear hi_ hk_ hc_ hg_ hn_ hs_ hHeld
  refine norm_ (a' := ?_) ?_ ?_
  rotate_left
  ·simp only [putAll, Act.put, List.setIfInBounds_toArray, List.set_cons_zero, List.set_cons_succ]
   rfl
  refine one_ (i := 21) (N := none) (tf 22 0) rfl rfl (by kernel_rfl) (by decide) (fun K hK => ?_)
  obtain ⟨hs0, hs1, hs2, hs3, hs4, hs5, hs6, hsf⟩ := y7 w5 BC.out
  refine skip_ (w1 := ?_) (by rfl) rfl ?_ ?_
  rotate_left
  ·go_simp
   rfl
  replace HI := am (cellI.far7 HI.out GG.out NL.out NX.out NO.out NQ.out rfl WS.out (.int .i64 a) (.int .i64 e1) (.int .i64 b) (.int .i64 e2) (.int .i64 c) (.int .i64 e3) (.int .i64 u))
  replace BK := am (off7 BK.out (Ne.symm NE.out) (.int .i64 a) (.int .i64 e1) (.int .i64 b) (.int .i64 e2) (.int .i64 c) (.int .i64 e3) (.int .i64 u))
  replace BC := am (put7 BC.out (.int .i64 a) (.int .i64 e1) (.int .i64 b) (.int .i64 e2) (.int .i64 c) (.int .i64 e3) (.int .i64 u))
  replace NS := am (Nat.le_of_lt (Nat.lt_of_le_of_lt GG.out (blk_lt BC.out)))
  refine hK.out _ _ ⟨z0 _ BK.out, z1 _ BK.out, z2 _ BK.out, z0 _ HI.out.2.1.2.1, z1 _ HI.out.2.1.2.1, z2 _ HI.out.2.1.2.1⟩ (fun hHeld => ?_)
  clear hK K hHeld hs0 hs1 hs2 hs3 hs4 hs5 hs6 hsf
  refine norm_ (a' := ?_) ?_ ?_
  rotate_left
  ·rfl
  refine done_ (by kernel_rfl) ?_
  generalize (((((((w5.setCell ⟨g, 0, none⟩ (.int .i64 a)).setCell ⟨g, 1, none⟩ (.int .i64 e1)).setCell ⟨g, 2, none⟩ (.int .i64 b)).setCell ⟨g, 3, none⟩ (.int .i64 e2)).setCell ⟨g, 4, none⟩ (.int .i64 c)).setCell ⟨g, 5, none⟩ (.int .i64 e3)).setCell ⟨g, 6, none⟩ (.int .i64 u)) = w6 at HI BK BC NS ⊢
  have hln := LN.out
  obtain ⟨ho0, hof⟩ := y1 w6 HI.out.2.1.2.2
  go_upto_if 44 with (first | (go_at_call 89; skip))
  (try simp only [Act.put, List.setIfInBounds_toArray, List.set_cons_zero, List.set_cons_succ])
  go_cut [] (fun wc => Aside0 (cellI w.heap.size W.heap.size w wc gl gx go gq A1 c1 la A5 A6 A7 k5 k6 k7 xs ys zs Ao co out) ∧ Aside0 (wc.heap[g]? = some (.cells #[(.int .i64 a), (.int .i64 e1), (.int .i64 b), (.int .i64 e2), (.int .i64 c), (.int .i64 e3), (.int .i64 u)] 80 (0, 0))) ∧ Aside0 (¬ joinB out ⟨a, e1, b, e2, c, e3, u⟩))
  case first =>
   by_cases hne : 0 < out.length
   ·have hnz : 0 < (out.length : Int) := by omega
    (first | rw [decide_eq_true hnz] | (simp only [i64_w, i32_w]; rw [decide_eq_true hnz]) | skip)
    have ej : ((out.length : Int) - 1).toNat = out.length - 1 := by omega
    obtain ⟨ad, eo, hx0, hx1, hx2, hx3, hx4, hx5, hx6⟩ := at_T80 (Kd.R_reads' HI.out.2.2.2.1).2.2 ((out.length : Int) - 1) (by omega) (by omega)
    cases eo
    rw [ej] at hx0 hx1 hx2 hx3 hx4 hx5 hx6
    obtain ⟨z, hz⟩ : ∃ z, z = rd_T80 out ((out.length : Int) - 1) := ⟨_, rfl⟩
    rw [← hz] at hx0 hx1 hx2 hx3 hx4 hx5 hx6
    have HZ := am hz
    clear hz
    go_upto_region 8 with (first | ((with_reducible refine gate_dst (N := 15) rfl ?_); refine box_event rfl (N := 15) rfl (cs := #[.int .i64 0, .int .i64 0, .int .i64 0, .int .i64 0, .int .i64 0, .int .i64 0, .int .i64 0]) (t := 80) BX ?_; intro h hh w7 hbox hbw; have HH := am (show W.heap.size ≤ h from hh ▸ NS.out); have NHC := am (show h ≠ gc from fun e => by have := blk_lt BK.out; omega); have NHG := am (show h ≠ g from fun e => by have := blk_lt BC.out; omega); have BQ := am hbox; replace HI := am (cellI.step HI.out hbw (Nat.le_refl _)); replace BK := am (blk_below BK.out hbw); replace BC := am (blk_below BC.out hbw); replace NS := am (Nat.le_trans NS.out hbw.size); clear hh hbox hbw; obtain ⟨hq0, hq1, hq2, hq3, hq4, hq5, hq6, hqf⟩ := y7 w7 BQ.out))
    clear hx0 hx1 hx2 hx3 hx4 hx5 hx6 ho0 hof
    replace HI := am (cellI.far7 HI.out HH.out NL.out NX.out NO.out NQ.out rfl WS.out (.int .i64 z.f0) (.int .i64 z.f1) (.int .i64 z.f2) (.int .i64 z.f3) (.int .i64 z.f4) (.int .i64 z.f5) (.int .i64 z.f6))
    replace BK := am (off7 BK.out (Ne.symm NHC.out) (.int .i64 z.f0) (.int .i64 z.f1) (.int .i64 z.f2) (.int .i64 z.f3) (.int .i64 z.f4) (.int .i64 z.f5) (.int .i64 z.f6))
    replace BC := am (off7 BC.out (Ne.symm NHG.out) (.int .i64 z.f0) (.int .i64 z.f1) (.int .i64 z.f2) (.int .i64 z.f3) (.int .i64 z.f4) (.int .i64 z.f5) (.int .i64 z.f6))
    replace BQ := am (put7 BQ.out (.int .i64 z.f0) (.int .i64 z.f1) (.int .i64 z.f2) (.int .i64 z.f3) (.int .i64 z.f4) (.int .i64 z.f5) (.int .i64 z.f6))
    replace NS := am (Nat.le_of_lt (Nat.lt_of_le_of_lt HH.out (blk_lt BQ.out)))
    generalize (((((((w7.setCell ⟨h, 0, none⟩ (.int .i64 z.f0)).setCell ⟨h, 1, none⟩ (.int .i64 z.f1)).setCell ⟨h, 2, none⟩ (.int .i64 z.f2)).setCell ⟨h, 3, none⟩ (.int .i64 z.f3)).setCell ⟨h, 4, none⟩ (.int .i64 z.f4)).setCell ⟨h, 5, none⟩ (.int .i64 z.f5)).setCell ⟨h, 6, none⟩ (.int .i64 z.f6)) = w8 at HI BK BC BQ NS ⊢
    refine start_ (n := 8) (S := fun w' => w'.cell? ⟨g, 4, none⟩ = some (.int .i64 c) ∧ w'.cell? ⟨g, 5, none⟩ = some (.int .i64 e3)) (ds := []) (tf 0 8) (by kernel_rfl) rfl rfl ⟨z4 _ BC.out, z5 _ BC.out⟩ (fun hHeld => ?_)
    replace HI := am (cellI.step HI.out (below_drew (Below.refl _ _)) (Nat.le_refl _))
    replace BK := am (blk_drew BK.out)
    replace BC := am (blk_drew BC.out)
    replace BQ := am (blk_drew BQ.out)
    replace NS := am (show W.heap.size ≤ w8.drew.heap.size from NS.out)
    generalize w8.drew = w9 at HI BK BC BQ NS hHeld ⊢
    refine pu 0 (some 50) (tr [1, 7]) (by kernel_rfl) ?_
    refine tk 1 (some 51) (tr [2, 6]) (by kernel_rfl) hHeld ?_
    refine pu 2 (some 52) (tr [3, 5]) (by kernel_rfl) ?_
    refine tk 3 (some 53) (tr [4, 4]) (by kernel_rfl) hHeld ?_
    refine pu 4 (some 54) (tr [5, 3]) (by kernel_rfl) ?_
    refine one_ (i := 5) (N := none) (tr [6, 2]) rfl rfl (by kernel_rfl) (by decide) (fun K hK => ?_)
    have hq4 := z4 _ BQ.out
    have hqf := blk_frozen BQ.out 4
    refine skip_ (w1 := ?_) (by rfl) rfl ?_ ?_
    rotate_left
    ·go_simp
     rfl
    clear hq4 hqf
    replace HI := am (cellI.far HI.out HH.out NL.out NX.out NO.out NQ.out rfl WS.out 4 (.int .i64 c))
    replace BK := am ((Below.heap_setCell _ ⟨h, 4, none⟩ (.int .i64 c) gc (Ne.symm NHC.out)).trans BK.out)
    replace BC := am ((Below.heap_setCell _ ⟨h, 4, none⟩ (.int .i64 c) g (Ne.symm NHG.out)).trans BC.out)
    replace BQ := am (blk_put (cs' := #[.int .i64 z.f0, .int .i64 z.f1, .int .i64 z.f2, .int .i64 z.f3, .int .i64 c, .int .i64 z.f5, .int .i64 z.f6]) BQ.out 4 (.int .i64 c) rfl)
    replace NS := am (Nat.le_of_lt (Nat.lt_of_le_of_lt HH.out (blk_lt BQ.out)))
    refine hK.out _ _ ⟨z4 _ BC.out, z5 _ BC.out⟩ (fun hHeld => ?_)
    clear hK K
    refine norm_ (a' := ?_) ?_ ?_
    rotate_left
    ·rfl
    refine pu 6 (some 55) (tr [7, 1]) (by kernel_rfl) ?_
    refine one_ (i := 7) (N := none) (tf 8 0) rfl rfl (by kernel_rfl) (by decide) (fun K hK => ?_)
    generalize w9.setCell ⟨h, 4, none⟩ (.int .i64 c) = w10 at HI BK BC BQ NS hHeld hK ⊢
    have hq5 := z5 _ BQ.out
    have hqf := blk_frozen BQ.out 5
    refine skip_ (w1 := ?_) (by rfl) rfl ?_ ?_
    rotate_left
    ·go_simp
     rfl
    clear hq5 hqf
    replace HI := am (cellI.far HI.out HH.out NL.out NX.out NO.out NQ.out rfl WS.out 5 (.int .i64 e3))
    replace BK := am ((Below.heap_setCell _ ⟨h, 5, none⟩ (.int .i64 e3) gc (Ne.symm NHC.out)).trans BK.out)
    replace BC := am ((Below.heap_setCell _ ⟨h, 5, none⟩ (.int .i64 e3) g (Ne.symm NHG.out)).trans BC.out)
    replace BQ := am (blk_put (cs' := #[.int .i64 z.f0, .int .i64 z.f1, .int .i64 z.f2, .int .i64 z.f3, .int .i64 c, .int .i64 e3, .int .i64 z.f6]) BQ.out 5 (.int .i64 e3) rfl)
    replace NS := am (Nat.le_of_lt (Nat.lt_of_le_of_lt HH.out (blk_lt BQ.out)))
    refine hK.out _ _ ⟨z4 _ BC.out, z5 _ BC.out⟩ (fun hHeld => ?_)
    clear hK K hHeld
    refine norm_ (a' := ?_) ?_ ?_
    rotate_left
    ·rfl
    refine done_ (by kernel_rfl) ?_
    generalize w10.setCell ⟨h, 5, none⟩ (.int .i64 e3) = w11 at HI BK BC BQ NS ⊢
    go_upto_region 9 with (first | (go_at_call 89; skip))
    obtain ⟨j, hj⟩ : ∃ j : Int, j = (out.length : Int) - 1 := ⟨_, rfl⟩
    obtain ⟨ad', eo', -, -, -, -, -, hx5, -⟩ := at_T80 (Kd.R_reads' HI.out.2.2.2.1).2.2 j (by omega) (by omega)
    cases eo'
    have hzj : rd_T80 out j = z := by rw [hj]; exact HZ.out.symm
    rw [hzj] at hx5
    have hw1 : wrap64 ((out.length : Int) - 1) = j := by unfold wrap64; omega
    have hj0 := eq_true (show 0 ≤ j by omega)
    have hj1 := eq_true (show j < (out.length : Int) by omega)
    have HJ := am hj
    clear hj hzj ej
    refine start_ (n := 15) (S := fun w' => ce7 w' h (.int .i64 z.f0) (.int .i64 z.f1) (.int .i64 z.f2) (.int .i64 z.f3) (.int .i64 c) (.int .i64 e3) (.int .i64 z.f6) (ce7 w' g (.int .i64 a) (.int .i64 e1) (.int .i64 b) (.int .i64 e2) (.int .i64 c) (.int .i64 e3) (.int .i64 u) (w'.cell? ⟨go, 0, none⟩ = some (.slice (some ad) out.length co) ∧ w'.cell? ⟨(ad.add (j.toNat * 7)).block, (ad.add (j.toNat * 7)).off + 5, none⟩ = some (.int .i64 z.f5)))) (ds := []) (tf 0 15) (by kernel_rfl) rfl rfl ⟨z0 _ BQ.out, z1 _ BQ.out, z2 _ BQ.out, z3 _ BQ.out, z4 _ BQ.out, z5 _ BQ.out, z6 _ BQ.out, z0 _ BC.out, z1 _ BC.out, z2 _ BC.out, z3 _ BC.out, z4 _ BC.out, z5 _ BC.out, z6 _ BC.out, z0 _ HI.out.2.1.2.2, hx5⟩ (fun hHeld => ?_)
    clear hx5
    replace HI := am (cellI.step HI.out (below_drew (Below.refl _ _)) (Nat.le_refl _))
    replace BC := am (blk_drew BC.out)
    replace NS := am (show W.heap.size ≤ w11.drew.heap.size from NS.out)
    clear BK BQ
    generalize w11.drew = w12 at HI BC NS hHeld ⊢
    refine tk 0 (some 56) (tr [1, 14]) (by kernel_rfl) hHeld ?_
    refine tk 1 (some 57) (tr [2, 13]) (by kernel_rfl) hHeld ?_
    by_cases hE : z.f0 = a ∧ z.f1 = e1 ∧ z.f2 = b ∧ z.f3 = e2 ∧ z.f6 = u
    ·obtain ⟨rfl, rfl, rfl, rfl, rfl⟩ := hE
     refine pu 2 (some 58) (tr [3, 12]) (by kernel_rfl) ?_
     refine pu 3 (some 59) (tr [4, 11]) (by kernel_rfl) ?_
     refine tk 4 (some 60) (tr [5, 10]) (by kernel_rfl) hHeld ?_
     refine pu 5 (some 61) (tr [6, 9]) (by kernel_rfl) ?_
     refine pu 6 (some 62) (tr [7, 8]) (by kernel_rfl) ?_
     rw [hw1]
     refine pu 7 (some 63) (tr [8, 7]) (by kernel_rfl) ?_
     refine pu 8 (some 64) (tr [9, 6]) (by kernel_rfl) ?_
     refine tk 9 (some 65) (tr [10, 5]) (by kernel_rfl) hHeld ?_
     refine pu 10 (some 66) (tr [11, 4]) (by kernel_rfl) ?_
     refine pu 11 (some 67) (tr [12, 3]) (by kernel_rfl) ?_
     refine tk 12 (some 68) (tr [13, 2]) (by kernel_rfl) hHeld ?_
     refine pu 13 (some 69) (tr [14, 1]) (by kernel_rfl) ?_
     refine pu 14 (some 70) (tf 15 0) (by kernel_rfl) ?_
     refine done_ (by kernel_rfl) ?_
     by_cases hC : wrap64 (z.f5 + 1) = c
     ·rw [show (wrap64 (z.f5 + 1) == c) = true from beq_iff_eq.mpr hC]
      clear hHeld hw1 hj0 hj1
      have ej : ((out.length : Int) - 1).toNat = out.length - 1 := by omega
      obtain ⟨gr, cap, eo, hgb, hgs, cells, HG⟩ := Kd.R_form HI.out.2.2.2.1 hne
      cases eo
      obtain ⟨ce, hcl, hM, hcc, hfr⟩ := Kd.R_elem HI.out.2.2.2.1 z80 ((out.length : Int) - 1) (by omega) (by omega)
      obtain rfl := k80_openM hM
      have HP := Kd.R_seg HI.out.2.2.2.1 ((out.length : Int) - 1) (by omega) (by omega) (seg := [.int .i64 e3]) (j := 5) hcl hcc (show 6 ≤ 7 from by decide) (x' := (⟨(rd_T80 out ((out.length : Int) - 1)).f0, (rd_T80 out ((out.length : Int) - 1)).f1, (rd_T80 out ((out.length : Int) - 1)).f2, (rd_T80 out ((out.length : Int) - 1)).f3, (rd_T80 out ((out.length : Int) - 1)).f4, e3, (rd_T80 out ((out.length : Int) - 1)).f6⟩ : S80)) (k80_mkM _ _ _ (⟨(rd_T80 out ((out.length : Int) - 1)).f0, (rd_T80 out ((out.length : Int) - 1)).f1, (rd_T80 out ((out.length : Int) - 1)).f2, (rd_T80 out ((out.length : Int) - 1)).f3, (rd_T80 out ((out.length : Int) - 1)).f4, e3, (rd_T80 out ((out.length : Int) - 1)).f6⟩ : S80)) (fun _ hk => hk)
      have hx5 := hcc 5 _ rfl
      have hf5 := hfr 5
      simp only [show (k80).sz = 7 from rfl, Nat.mul_one, Nat.add_zero] at hx5 hf5
      rw [ej] at hx5 hf5 HP
      have HPA := am HP
      have HGB := am hgb
      have HEJ := am ej
      clear hcl hcc hfr hM HP hgs HG ej hgb
      obtain ⟨ho0, hof⟩ := y1 w12 HI.out.2.1.2.2
      obtain ⟨hs0, hs1, hs2, hs3, hs4, hs5, hs6, hsf⟩ := y7 w12 BC.out
      go_wp2
      go_ret
      have GN : gl ≠ gr := fun e => Kd.R_ne HI.out.2.2.2.1 HI.out.2.1.1 (by decide) (by rw [e]; rfl)
      have XN : gx ≠ gr := fun e => Kd.R_ne HI.out.2.2.2.1 HI.out.2.1.2.1 (by decide) (by rw [e]; rfl)
      have QN : gq ≠ gr := fun e => Kd.R_ne HI.out.2.2.2.1 HI.out.2.2.2.2 (by decide) (by rw [e]; rfl)
      have ON : go ≠ gr := fun e => Kd.R_ne HI.out.2.2.2.1 HI.out.2.1.2.2 (by decide) (by rw [e]; rfl)
      have HP1 := HPA.out.1
      have HP2 : w12.grownBy (w12.setCell ⟨gr, (out.length - 1) * 7 + 5, none⟩ (.int .i64 e3)) (some gr) := HPA.out.2
      have hn : W.heap.size ≤ (w12.setCell ⟨gr, (out.length - 1) * 7 + 5, none⟩ (.int .i64 e3)).heap.size := siz1 NS.out _ _
      refine ⟨(out.set (out.length - 1) ⟨(rd_T80 out ((out.length : Int) - 1)).f0, (rd_T80 out ((out.length : Int) - 1)).f1, (rd_T80 out ((out.length : Int) - 1)).f2, (rd_T80 out ((out.length : Int) - 1)).f3, (rd_T80 out ((out.length : Int) - 1)).f4, e3, (rd_T80 out ((out.length : Int) - 1)).f6⟩, true), some ⟨gr, 0, none⟩, co, rfl, ?_, ?_⟩
      ·unfold cellF
       rw [if_neg (show ¬ z.f6 < 0 by omega), if_pos (show joinB out ⟨z.f0, z.f1, z.f2, z.f3, c, e3, z.f6⟩ from ⟨hne, by rw [← HZ.out], by rw [← HZ.out], by rw [← HZ.out], by rw [← HZ.out], by rw [← HZ.out], by rw [← HZ.out]; exact hC⟩)]
      ·unfold cellI
       simp only [List.length_set]
       refine ⟨below_set HI.out.1 HGB.out, ⟨(Below.heap_setCell _ ⟨gr, _, none⟩ _ gl GN).trans HI.out.2.1.1, (Below.heap_setCell _ ⟨gr, _, none⟩ _ gx XN).trans HI.out.2.1.2.1, (Below.heap_setCell _ ⟨gr, _, none⟩ _ go ON).trans HI.out.2.1.2.2⟩, ⟨Kd.R_mono (Kd.R_over' (v := .slice (some ⟨gr, 0, none⟩) out.length co) HI.out.2.2.1.1 (Kd.R_typed HI.out.2.2.2.1) (by decide) HP2) (fun k hk => Nat.lt_of_lt_of_le hk hn), Kd.R_mono (Kd.R_over' (v := .slice (some ⟨gr, 0, none⟩) out.length co) HI.out.2.2.1.2.1 (Kd.R_typed HI.out.2.2.2.1) (by decide) HP2) (fun k hk => Nat.lt_of_lt_of_le hk hn), Kd.R_mono (Kd.R_over' (v := .slice (some ⟨gr, 0, none⟩) out.length co) HI.out.2.2.1.2.2 (Kd.R_typed HI.out.2.2.2.1) (by decide) HP2) (fun k hk => Nat.lt_of_lt_of_le hk hn)⟩, Kd.R_mono (Kd.R_bound HP1) (fun k hk => hk.2.2.1), (Below.heap_setCell _ ⟨gr, _, none⟩ _ gq QN).trans HI.out.2.2.2.2⟩
     ·rw [show (wrap64 (z.f5 + 1) == c) = false from beq_eq_false_iff_ne.mpr hC]
      go_wp2
      go_meet
      case rel => exact ⟨HI, BC, ⟨fun q => hC (by have := q.2.2.2.2.2.2; rw [← HZ.out] at this; exact this)⟩⟩
    ·refine pu 2 (some 58) (tr [3, 12]) (by kernel_rfl) ?_
     have hqf : (z.f0 == a && (z.f1 == e1 && (z.f2 == b && (z.f3 == e2 && z.f6 == u)))) = false := by
      rw [Bool.eq_false_iff]
      intro hh
      simp only [Bool.and_eq_true, beq_iff_eq] at hh
      exact hE hh
     rw [hqf]
     refine pu 3 (some 59) (tr [4, 11]) (by kernel_rfl) ?_
     refine po 4 (some 60) (tr [5, 10]) (by kernel_rfl) ?_
     refine po 5 (some 61) (tr [6, 9]) (by kernel_rfl) ?_
     refine po 6 (some 62) (tr [7, 8]) (by kernel_rfl) ?_
     refine po 7 (some 63) (tr [8, 7]) (by kernel_rfl) ?_
     refine po 8 (some 64) (tr [9, 6]) (by kernel_rfl) ?_
     refine po 9 (some 65) (tr [10, 5]) (by kernel_rfl) ?_
     refine po 10 (some 66) (tr [11, 4]) (by kernel_rfl) ?_
     refine po 11 (some 67) (tr [12, 3]) (by kernel_rfl) ?_
     refine po 12 (some 68) (tr [13, 2]) (by kernel_rfl) ?_
     refine po 13 (some 69) (tr [14, 1]) (by kernel_rfl) ?_
     refine pu 14 (some 70) (tf 15 0) (by kernel_rfl) ?_
     refine done_ (by kernel_rfl) ?_
     go_wp2
     go_meet
     case rel => exact ⟨HI, BC, ⟨fun q => hE (by have e := q.2; rw [← HZ.out] at e; exact ⟨e.1, e.2.1, e.2.2.1, e.2.2.2.1, e.2.2.2.2.1⟩)⟩⟩
   ·have hnz : ¬ 0 < (out.length : Int) := by omega
    (first | rw [decide_eq_false hnz] | (simp only [i64_w, i32_w]; rw [decide_eq_false hnz]) | skip)
    go_wp2
    go_meet
    case rel => exact ⟨HI, BC, ⟨fun q => hne q.1⟩⟩
  case rest =>
   clear HI BC NS
   obtain ⟨HI, BC, HN⟩ := hcut
   obtain ⟨ho0, hof⟩ := y1 wc HI.out.2.1.2.2
   obtain ⟨hs0, hs1, hs2, hs3, hs4, hs5, hs6, hsf⟩ := y7 wc BC.out
   go_upto_region 13 with (first | ((with_reducible refine gate_builtin (b := .append) (xs := #[.tmp 78, .tmp 80]) rfl ?_); at_builtin; refine Kd.R_append k80 (w0 := w) w.heap.size rfl (.tmp 78) (.tmp 80) 74 80 (.agg #[(.int .i64 0), (.int .i64 0), (.int .i64 0), (.int .i64 0), (.int .i64 0), (.int .i64 0), (.int .i64 0)]) 56 rfl Try.underlying74 info80 rfl (by decide) (by omega) (.slice Ao out.length co) out (⟨a, e1, b, e2, c, e3, u⟩ : S80) [(.int .i64 a), (.int .i64 e1), (.int .i64 b), (.int .i64 e2), (.int .i64 c), (.int .i64 e3), (.int .i64 u)] (fun k => k ≠ g) (fun _ => False) rfl rfl ?aP (fun _ hk => hk.elim) ?aF ?aO ?aB ?aS ?aL ?_; (case aP => exact k80_mkM _ _ _ (⟨a, e1, b, e2, c, e3, u⟩ : S80)); (case aB => exact (by (with_reducible repeat (first | apply below_alloc)); exact HI.out.1)); (case aF => exact Kd.freshB (by (with_reducible repeat (first | refine blk_drewN ?_ _ | refine blk_drew ?_ | refine blk_alloc ?_ _)); exact BC.out)); (case aO => exact Kd.R_mono (by (with_reducible repeat (first | apply Kd.R_alloc | apply Kd.R_drewN | apply Kd.R_drew)); exact HI.out.2.2.2.1) (fun k hk => by have := GG.out; have : k < W.heap.size := hk; omega)); (case aS => exact (below_size (by (with_reducible repeat (first | apply below_alloc)); exact HI.out.1))); (case aL => have := LN.out; omega); intro v w20 ho hb hg hat; obtain ⟨Av, cv, rfl⟩ := Kd.R_slice ho; have HA := am ho; have HB2 := am hb; have G1 := am (blk_grown (by (with_reducible repeat (first | refine blk_drewN ?_ _ | refine blk_drew ?_ | refine blk_alloc ?_ _)); exact HI.out.2.1.1) hg (Kd.R_ne HI.out.2.2.2.1 HI.out.2.1.1 (by decide))); have G2 := am (blk_grown (by (with_reducible repeat (first | refine blk_drewN ?_ _ | refine blk_drew ?_ | refine blk_alloc ?_ _)); exact HI.out.2.1.2.1) hg (Kd.R_ne HI.out.2.2.2.1 HI.out.2.1.2.1 (by decide))); have G3 := am (blk_grown (by (with_reducible repeat (first | refine blk_drewN ?_ _ | refine blk_drew ?_ | refine blk_alloc ?_ _)); exact HI.out.2.1.2.2) hg (Kd.R_ne HI.out.2.2.2.1 HI.out.2.1.2.2 (by decide))); have G5 := am (blk_grown (by (with_reducible repeat (first | refine blk_drewN ?_ _ | refine blk_drew ?_ | refine blk_alloc ?_ _)); exact HI.out.2.2.2.2) hg (Kd.R_ne HI.out.2.2.2.1 HI.out.2.2.2.2 (by decide))); have G4 := am (blk_grown (by (with_reducible repeat (first | refine blk_drewN ?_ _ | refine blk_drew ?_ | refine blk_alloc ?_ _)); exact BC.out) hg (Kd.R_away HI.out.2.2.2.1 (fun k hk => by have := GG.out; have : k < W.heap.size := hk; omega))); have R1 := am (Kd.R_over' (v := .slice Ao out.length co) (by (with_reducible repeat (first | apply Kd.R_alloc | apply Kd.R_drewN | apply Kd.R_drew)); exact HI.out.2.2.1.1) (Kd.R_typed (by (with_reducible repeat (first | apply Kd.R_alloc | apply Kd.R_drewN | apply Kd.R_drew)); exact HI.out.2.2.2.1)) (by decide) hg); have R2 := am (Kd.R_over' (v := .slice Ao out.length co) (by (with_reducible repeat (first | apply Kd.R_alloc | apply Kd.R_drewN | apply Kd.R_drew)); exact HI.out.2.2.1.2.1) (Kd.R_typed (by (with_reducible repeat (first | apply Kd.R_alloc | apply Kd.R_drewN | apply Kd.R_drew)); exact HI.out.2.2.2.1)) (by decide) hg); have R3 := am (Kd.R_over' (v := .slice Ao out.length co) (by (with_reducible repeat (first | apply Kd.R_alloc | apply Kd.R_drewN | apply Kd.R_drew)); exact HI.out.2.2.1.2.2) (Kd.R_typed (by (with_reducible repeat (first | apply Kd.R_alloc | apply Kd.R_drewN | apply Kd.R_drew)); exact HI.out.2.2.2.1)) (by decide) hg); clear ho hb hg hat; obtain ⟨hp0, hpf⟩ := y1 w20 G3.out))
   go_wp2
   go_ret
   have GN := blk_ne G1.out G3.out (by decide)
   have XN := blk_ne G2.out G3.out (by decide)
   have QN := blk_ne G5.out G3.out (by decide)
   have SZ := blk_lt G4.out
   have HG := GG.out
   refine ⟨(out ++ [⟨a, e1, b, e2, c, e3, u⟩], decide (out.length + 1 ≤ 400)), Av, cv, ?_, ?_, ?_⟩
   ·first | rfl | (simp; done) | (simp; omega)
   ·unfold cellF
    rw [if_neg (show ¬ u < 0 by omega), if_neg HN.out]
   ·have hn : W.heap.size ≤ (w20.setCell ⟨go, 0, none⟩ (.slice Av (out.length + 1) cv)).heap.size := siz1 (by omega) _ _
    refine ⟨below_set HB2.out GO.out, ⟨(Below.heap_setCell _ ⟨go, 0, none⟩ _ gl GN).trans G1.out, (Below.heap_setCell _ ⟨go, 0, none⟩ _ gx XN).trans G2.out, blk_put G3.out 0 _ (by simp)⟩, ⟨Kd.R_mono (Kd.R_set R1.out G3.out (by decide) 0 _) (fun k hk => Nat.lt_of_lt_of_le hk hn), Kd.R_mono (Kd.R_set R2.out G3.out (by decide) 0 _) (fun k hk => Nat.lt_of_lt_of_le hk hn), Kd.R_mono (Kd.R_set R3.out G3.out (by decide) 0 _) (fun k hk => Nat.lt_of_lt_of_le hk hn)⟩, Kd.R_mono (Kd.R_bound (Kd.R_set HA.out G3.out (by decide) 0 _)) (fun k hk => hk.2.2.1), (Below.heap_setCell _ ⟨go, 0, none⟩ _ gq QN).trans G5.out⟩
theorem cellI.now {base n : Nat} {w W : World} {gl gx go gq : Nat} {A1 : Option Addr} {c1 : Nat} {la : List S71} {A5 A6 A7 : Option Addr} {k5 k6 k7 : Nat} {xs ys zs : List Int} {Ao : Option Addr} {co : Nat} {out : List S80}
  (h : cellI base n w W gl gx go gq A1 c1 la A5 A6 A7 k5 k6 k7 xs ys zs Ao co out) : cellI base W.heap.size w W gl gx go gq A1 c1 la A5 A6 A7 k5 k6 k7 xs ys zs Ao co out :=
 ⟨h.1, h.2.1, ⟨Kd.R_mono (Kd.R_bound h.2.2.1.1) (fun k hk => hk.2.2.1), Kd.R_mono (Kd.R_bound h.2.2.1.2.1) (fun k hk => hk.2.2.1), Kd.R_mono (Kd.R_bound h.2.2.1.2.2) (fun k hk => hk.2.2.1)⟩, Kd.R_mono (Kd.R_bound h.2.2.2.1) (fun k hk => hk.2.2.1), h.2.2.2.2⟩
theorem cellI.newq {base n : Nat} {w W : World} {gl gx go gq gb : Nat} {A1 : Option Addr} {c1 : Nat} {la : List S71} {A5 A6 A7 : Option Addr} {k5 k6 k7 : Nat} {xs ys zs : List Int} {Ao : Option Addr} {co : Nat} {out : List S80}
  (h : cellI base n w W gl gx go gq A1 c1 la A5 A6 A7 k5 k6 k7 xs ys zs Ao co out) (hb : W.heap[gb]? = some (.cells #[.slice A5 xs.length k5, .slice A6 ys.length k6, .slice A7 zs.length k7] 113 (0, 0))) : cellI base n w W gl gx go gb A1 c1 la A5 A6 A7 k5 k6 k7 xs ys zs Ao co out :=
 ⟨h.1, h.2.1, h.2.2.1, h.2.2.2.1, hb⟩
def impl_Cells.p (la : List S71) (xs ys zs : List Int) (s : List S80) (i k n a b c : Int) : Option (List S80 × Bool) :=
 (impl_first.f la a b c).bind fun u => (impl_end.f xs i 4294967295).bind fun e1 => (impl_end.f ys k 4294967295).bind fun e2 => (impl_end.f zs n 65535).bind fun e3 => if s.length ≤ 1000 then some (cellF s ⟨a, e1, b, e2, c, e3, u⟩) else none
def impl_Cells.f (k : Nat) (l0 : List S71) : Option (List S80 × Bool) :=
 (impl_RulesOk.f k l0).bind fun ok => if ok = true then (if l0.length < 1000000 then ((impl_axesOf.f k l0).bind fun x => if x.1.length < 4611686018427387904 ∧ x.2.1.length < 4611686018427387904 ∧ x.2.2.length < 4611686018427387904 then ((cornX (impl_Cells.p l0 x.1 x.2.1 x.2.2) x.2.2 x.2.1 x.1 0 []).bind fun q => if q.1.length > 400 then some ([], false) else some (q.1, true)) else none) else none) else some ([], false)
def cellInv (w : World) (gl gx go : Nat) (A1 : Option Addr) (c1 : Nat) (la : List S71) (A5 A6 A7 : Option Addr) (k5 k6 k7 : Nat) (xs ys zs : List Int) (gb : Nat) (s : List S80) (W : World) : Prop :=
 ∃ Ao co, cellI w.heap.size W.heap.size w W gl gx go gb A1 c1 la A5 A6 A7 k5 k6 k7 xs ys zs Ao co s
theorem cells.hS {w : World} {gl gx go : Nat} {A1 : Option Addr} {c1 : Nat} {la : List S71} {A5 A6 A7 : Option Addr} {k5 k6 k7 : Nat} {xs ys zs : List Int} (hra : Kd.C k71 w A1 la.length la) (hca : la.length ≤ c1) (hgo : w.heap.size ≤ go) :
  ∀ gb s W i k n a b c q, cellInv w gl gx go A1 c1 la A5 A6 A7 k5 k6 k7 xs ys zs gb s W → impl_Cells.p la xs ys zs s i k n a b c = some q → Calls Try.prog 104 (#[.int .i64 i, .int .i64 k, .int .i64 n, .agg #[.int .i64 a, .int .i64 b, .int .i64 c]] ++ #[.pointer (some ⟨gl, 0, none⟩), .pointer (some ⟨gx, 0, none⟩), .pointer (some ⟨go, 0, none⟩)]) W fun e w' => e = .returned (.bool q.2) ∧ cellInv w gl gx go A1 c1 la A5 A6 A7 k5 k6 k7 xs ys zs gb q.1 w' := by
 intro gb s W i k n a b c q hI hp
 obtain ⟨Ao, co, hI⟩ := hI
 unfold impl_Cells.p at hp
 obtain ⟨u, hu, hp⟩ := Option.bind_eq_some_iff.mp hp
 obtain ⟨e1, h1, hp⟩ := Option.bind_eq_some_iff.mp hp
 obtain ⟨e2, h2, hp⟩ := Option.bind_eq_some_iff.mp hp
 obtain ⟨e3, h3, hp⟩ := Option.bind_eq_some_iff.mp hp
 by_cases cl : s.length ≤ 1000
 ·rw [if_pos cl] at hp
  obtain rfl := Option.some.inj hp
  refine (cells.one la xs ys zs s A1 A5 A6 A7 Ao c1 k5 k6 k7 co gl gx go gb w W i k n a b c u e1 e2 e3 hI hra hca cl hgo hu h1 h2 h3).mono ?_
  rintro e w' ⟨r, Ao', co', rfl, rfl, hI'⟩
  exact ⟨rfl, Ao', co', hI'⟩
 ·rw [if_neg cl] at hp; cases hp
set_option maxHeartbeats 16000000 in
set_option maxRecDepth 100000 in
theorem impl_Cells.calls (k : Nat) (A0 : Option Addr) (c0 : Nat) (l0 : List S71) (r1 : List S80) (r2 : Bool) (w : World) (hr0 : Kd.C k71 w A0 l0.length l0) (hc0 : l0.length ≤ c0) (h : impl_Cells.f k l0 = some (r1, r2)) :
  Calls Try.prog 52 #[.slice A0 l0.length c0] w fun e w' => ∃ v0_ : Value, e = .returned (.tuple #[v0_, .bool r2]) ∧ Kd.R k80 80 w' w.heap.size (fun _ => True) v0_ r1 ∧ Below w.heap.size w w' := by
 have hu := Try.underlying113
 have HR := am hr0
 have HC := am hc0
 unfold impl_Cells.f at h
 obtain ⟨ok, hok, h⟩ := Option.bind_eq_some_iff.mp h
 have HOK := am hok
 have HE := am h
 clear hr0 hc0 h hok
 go_enter Try.func52, Try.ntmps52
 go_upto_region 1 with (first | ((with_reducible refine gate_dst (N := 1) rfl ?_); refine box_event rfl (N := 1) rfl (cs := #[.slice A0 l0.length c0]) (t := 52) BX ?_; intro gl hgl w2 hbox hbw; have HB := am hbw; have BL := am hbox; clear hbw hgl hbox; obtain ⟨hz0, hzf⟩ := y1 w2 BL.out))
 cases ok with
 | false =>
  go_wp2_with (go_at_call 43; refine (impl_RulesOk.calls k A0 c0 l0 false _ (Kd.C_below HR.out HB.out) HC.out HOK.out).mono ?_; rintro e w3 ⟨rfl, hb⟩)
  go_ret2
  have h := HE.out
  rw [if_neg (by simp)] at h
  cases h
  exact ⟨_, rfl, Kd.R_nil _ _ _ _ _, below_step HB.out hb⟩
 | true =>
  have h := HE.out
  rw [if_pos rfl] at h
  by_cases c1 : l0.length < 1000000
  ·rw [if_pos c1] at h
   obtain ⟨⟨xs, ys, zs⟩, hax, h⟩ := Option.bind_eq_some_iff.mp h
   simp only [] at h
   by_cases c2 : xs.length < 4611686018427387904 ∧ ys.length < 4611686018427387904 ∧ zs.length < 4611686018427387904
   ·rw [if_pos c2] at h
    obtain ⟨q, hq, h⟩ := Option.bind_eq_some_iff.mp h
    have HQ := am hq
    have HX := am hax
    have HL := am c2
    have HF := am h
    clear HE hq hax c2 c1 h
    go_upto_region 3 with (go_at_call 43; refine (impl_RulesOk.calls k A0 c0 l0 true _ (Kd.C_below HR.out HB.out) HC.out HOK.out).mono ?_; rintro e w3 ⟨rfl, hb⟩; replace BL := am (blk_below BL.out hb); replace HB := am (below_step HB.out hb); clear hb hz0 hzf)
    obtain ⟨hz0, hzf⟩ := y1 w3 BL.out
    go_upto_region 4 with (first | (go_at_call 86; refine (impl_axesOf.calls k A0 c0 l0 xs ys zs _ (Kd.C_below HR.out HB.out) HC.out HX.out).mono ?_; rintro e w4 ⟨v0, v1, v2, rfl, ho0, ho1, ho2, hb⟩; obtain ⟨A1, k1, rfl⟩ := Kd.R_slice ho0; obtain ⟨A2, k2, rfl⟩ := Kd.R_slice ho1; obtain ⟨A3, k3, rfl⟩ := Kd.R_slice ho2; have HO0 := am (Kd.R_lower ho0 (below_size HB.out)); have HO1 := am (Kd.R_lower ho1 (below_size HB.out)); have HO2 := am (Kd.R_lower ho2 (below_size HB.out)); replace BL := am (blk_below BL.out hb); replace HB := am (below_step HB.out hb); clear ho0 ho1 ho2 hb hz0 hzf) |
     ((with_reducible refine gate_dst (N := 4) rfl ?_); refine box_event rfl (N := 4) rfl (cs := #[.slice none 0 0, .slice none 0 0, .slice none 0 0]) (t := 113) BX ?_; intro gx hgx w5 hbox hbw; have BX1 := am hbox; have GX := am (show w.heap.size ≤ gx from hgx ▸ HB.out.size); have LX := am (show gl ≠ gx from fun e => by have := blk_lt BL.out; omega); replace HO0 := am (Kd.R_below HO0.out hbw); replace HO1 := am (Kd.R_below HO1.out hbw); replace HO2 := am (Kd.R_below HO2.out hbw); replace BL := am (blk_below BL.out hbw); replace HB := am (below_step HB.out hbw); clear hgx hbox hbw; obtain ⟨hx0, hx1, hx2, hxf⟩ := y3 w5 BX1.out))
    have BX6 := am (P3 (a0_ := (.slice A1 xs.length k1)) (a1_ := (.slice A2 ys.length k2)) (a2_ := (.slice A3 zs.length k3)) BX1)
    have BL6 := am ((Below.heap_setCell _ ⟨gx, 2, none⟩ (.slice A3 zs.length k3) gl LX.out).trans ((Below.heap_setCell _ ⟨gx, 1, none⟩ (.slice A2 ys.length k2) gl LX.out).trans ((Below.heap_setCell _ ⟨gx, 0, none⟩ (.slice A1 xs.length k1) gl LX.out).trans BL.out)))
    have HB6 := am (below_set (below_set (below_set HB.out GX.out) GX.out) GX.out : Below w.heap.size w (((w5.setCell ⟨gx, 0, none⟩ (.slice A1 xs.length k1)).setCell ⟨gx, 1, none⟩ (.slice A2 ys.length k2)).setCell ⟨gx, 2, none⟩ (.slice A3 zs.length k3)))
    have R0 := am (Kd.R_far (Kd.R_far (Kd.R_far (Kd.R_types HO0.out BX1.out (by decide)) (p := ⟨gx, 0, none⟩) (fun k hk => hk.2) (.slice A1 xs.length k1)) (p := ⟨gx, 1, none⟩) (fun k hk => hk.2) (.slice A2 ys.length k2)) (p := ⟨gx, 2, none⟩) (fun k hk => hk.2) (.slice A3 zs.length k3))
    have R1 := am (Kd.R_far (Kd.R_far (Kd.R_far (Kd.R_types HO1.out BX1.out (by decide)) (p := ⟨gx, 0, none⟩) (fun k hk => hk.2) (.slice A1 xs.length k1)) (p := ⟨gx, 1, none⟩) (fun k hk => hk.2) (.slice A2 ys.length k2)) (p := ⟨gx, 2, none⟩) (fun k hk => hk.2) (.slice A3 zs.length k3))
    have R2 := am (Kd.R_far (Kd.R_far (Kd.R_far (Kd.R_types HO2.out BX1.out (by decide)) (p := ⟨gx, 0, none⟩) (fun k hk => hk.2) (.slice A1 xs.length k1)) (p := ⟨gx, 1, none⟩) (fun k hk => hk.2) (.slice A2 ys.length k2)) (p := ⟨gx, 2, none⟩) (fun k hk => hk.2) (.slice A3 zs.length k3))
    clear BX1 BL HB HO0 HO1 HO2 hx0 hx1 hx2 hxf
    generalize (((w5.setCell ⟨gx, 0, none⟩ (.slice A1 xs.length k1)).setCell ⟨gx, 1, none⟩ (.slice A2 ys.length k2)).setCell ⟨gx, 2, none⟩ (.slice A3 zs.length k3)) = w6 at BX6 BL6 HB6 R0 R1 R2 ⊢
    go_upto_region 5 with (first | ((with_reducible refine gate_dst (N := 5) rfl ?_); refine box_event rfl (N := 5) rfl (cs := #[.slice none 0 0]) (t := 74) BX ?_; intro go hgo w7 hbox hbw; have GO := am (show w.heap.size ≤ go from hgo ▸ HB6.out.size); have CI := am (show cellI w.heap.size w7.heap.size w w7 gl gx go gx A0 c0 l0 A1 A2 A3 k1 k2 k3 xs ys zs none 0 [] from ⟨below_step HB6.out hbw, ⟨blk_below BL6.out hbw, blk_below BX6.out hbw, hbox⟩, ⟨Kd.R_mono (Kd.R_bound (Kd.R_below R0.out hbw)) (fun k hk => hk.2.2.1), Kd.R_mono (Kd.R_bound (Kd.R_below R1.out hbw)) (fun k hk => hk.2.2.1), Kd.R_mono (Kd.R_bound (Kd.R_below R2.out hbw)) (fun k hk => hk.2.2.1)⟩, Kd.R_nil _ _ _ _ _, blk_below BX6.out hbw⟩); clear hgo hbox hbw))
    have eg := enters_of Try.func104 (by kernel_rfl) rfl
    obtain ⟨hx0, hx1, hx2, hxf⟩ := y3 w7 CI.out.2.1.2.1
    go_upto_region 6 with (go_at_call 87; (refine (corners.gen (impl_Cells.p l0 xs ys zs) 104 #[.pointer (some ⟨gl, 0, none⟩), .pointer (some ⟨gx, 0, none⟩), .pointer (some ⟨go, 0, none⟩)] eg (cellInv w gl gx go A0 c0 l0 A1 A2 A3 k1 k2 k3 xs ys zs) xs ys zs A1 A2 A3 k1 k2 k3 [] q w7 HL.out ?h0 ?hI ?hS HQ.out).mono ?_; (case h0 => exact fun gb W e hg hW => ⟨none, 0, cellI.now (cellI.newq (cellI.step CI.out hW (Nat.le_refl _)) hg)⟩); (case hI => exact fun gb s W h => by obtain ⟨Ao, co, h⟩ := h; exact ⟨h.2.2.2.2, (Kd.R_reads' h.2.2.1.1).2.2, (Kd.R_reads' h.2.2.1.2.1).2.2, (Kd.R_reads' h.2.2.1.2.2).2.2⟩); (case hS => exact cells.hS HR.out HC.out GO.out); rintro e w8 ⟨rfl, gb, Ao, co, hinv⟩; have HI := am hinv; clear hinv hx0 hx1 hx2 hxf))
    obtain ⟨hy0, hyf⟩ := y1 w8 HI.out.2.1.2.2
    have hF := HF.out
    by_cases c4 : q.1.length > 400
    ·rw [if_pos c4] at hF
     cases hF
     have c4z : (q.1.length : Int) > 400 := by omega
     go_wp2
     go_ret2
     exact ⟨_, rfl, Kd.R_nil _ _ _ _ _, HI.out.1⟩
    ·rw [if_neg c4] at hF
     cases hF
     have c4z : ¬ (q.1.length : Int) > 400 := by omega
     go_wp2
     go_ret2
     exact ⟨_, rfl, Kd.R_mono HI.out.2.2.2.1 (fun _ _ => trivial), HI.out.1⟩
   ·rw [if_neg c2] at h; cases h
  ·rw [if_neg c1] at h; cases h
end Go.Proofs.Ytkgbgaojglcaoaa.PAll
end
section
namespace Go.Proofs.Ytkgbgaojglcaoaa.PAll
open Go.RowKit Go.Proofs.YtkgbgaojglcaoaaW.PrintWords Go.Proofs.YtkgbgaojglcaoaaW.PrintLast Go.Proofs.YtkgbgaojglcaoaaW.PrintMore
attribute [local go_sem] max2_int min2_int max_two min_two max_three min_three max_four min_four   -- for this text's walks alone
set_option linter.unusedVariables false
set_option linter.unusedSimpArgs false
mutual
def laws_FnCells.j0 : Nat → List Int → List Int → Bool → Option (Bool)
 | 0, _, _, _ => none
 | k + 1, x0, x1, x22 => if x22 = true then (some true) else ((spec_DrawCells.f k x0).bind fun t101 => ((impl_Cells.f k t101).bind fun bt104 => ((spec_Cells.f k t101).bind fun bt108 => (if (bt104.2 != bt108.2) = true then (laws_FnCells.j1 k x1 t101 bt104.1 bt104.2 bt108.1 bt108.2 true) else ((laws_ovCells.f k bt104.1 bt108.1).bind fun t112 => (if t112 = true then (laws_FnCells.j1 k x1 t101 bt104.1 bt104.2 bt108.1 bt108.2 (!bt104.2)) else (laws_FnCells.j1 k x1 t101 bt104.1 bt104.2 bt108.1 bt108.2 true)))))))
def laws_FnCells.j1 : Nat → List Int → List (S71) → List (S80) → Bool → List (S80) → Bool → Bool → Option (Bool)
 | 0, _, _, _, _, _, _, _ => none
 | k + 1, x1, x5, x6, x7, x8, x9, x47 => if x47 = true then (if (x7 == x9) = true then ((laws_ovCells.f k x6 x8).bind fun t113 => (some t113)) else (some false)) else (laws_FnCells.l0 k x1 x5 x6 0)
def laws_FnCells.l0 : Nat → List Int → List (S71) → List (S80) → Int → Option (Bool)
 | 0, _, _, _, _ => none
 | k + 1, x1, x5, x6, x10 => if x10 < (x6.length : Int) then (if 0 ≤ x10 then (if ((rd_T80 x6 x10).f0) > ((rd_T80 x6 x10).f1) then (laws_FnCells.j3 k x1 x5 x6 x10 true ((rd_T80 x6 x10).f0) ((rd_T80 x6 x10).f1) ((rd_T80 x6 x10).f2) ((rd_T80 x6 x10).f3) ((rd_T80 x6 x10).f4) ((rd_T80 x6 x10).f5) ((rd_T80 x6 x10).f6)) else (if ((rd_T80 x6 x10).f2) > ((rd_T80 x6 x10).f3) then (laws_FnCells.j3 k x1 x5 x6 x10 true ((rd_T80 x6 x10).f0) ((rd_T80 x6 x10).f1) ((rd_T80 x6 x10).f2) ((rd_T80 x6 x10).f3) ((rd_T80 x6 x10).f4) ((rd_T80 x6 x10).f5) ((rd_T80 x6 x10).f6)) else (if ((rd_T80 x6 x10).f4) > ((rd_T80 x6 x10).f5) then (laws_FnCells.j3 k x1 x5 x6 x10 true ((rd_T80 x6 x10).f0) ((rd_T80 x6 x10).f1) ((rd_T80 x6 x10).f2) ((rd_T80 x6 x10).f3) ((rd_T80 x6 x10).f4) ((rd_T80 x6 x10).f5) ((rd_T80 x6 x10).f6)) else ((impl_RulesFirst.f k x5 ((rd_T80 x6 x10).f0) ((rd_T80 x6 x10).f3) ((rd_T80 x6 x10).f4)).bind fun t125 => (if t125 = ((rd_T80 x6 x10).f6) then ((impl_RulesFirst.f k x5 ((rd_T80 x6 x10).f1) ((rd_T80 x6 x10).f2) ((rd_T80 x6 x10).f5)).bind fun t126 => (laws_FnCells.j3 k x1 x5 x6 x10 (t126 != ((rd_T80 x6 x10).f6)) ((rd_T80 x6 x10).f0) ((rd_T80 x6 x10).f1) ((rd_T80 x6 x10).f2) ((rd_T80 x6 x10).f3) ((rd_T80 x6 x10).f4) ((rd_T80 x6 x10).f5) ((rd_T80 x6 x10).f6))) else (laws_FnCells.j3 k x1 x5 x6 x10 true ((rd_T80 x6 x10).f0) ((rd_T80 x6 x10).f1) ((rd_T80 x6 x10).f2) ((rd_T80 x6 x10).f3) ((rd_T80 x6 x10).f4) ((rd_T80 x6 x10).f5) ((rd_T80 x6 x10).f6))))))) else (none)) else ((spec_DrawRulesFirst.f k x1).bind fun bt114 => ((impl_CellsFind.f k x6 bt114.2.1 bt114.2.2.1 bt114.2.2.2).bind fun t121 => ((impl_RulesFirst.f k x5 bt114.2.1 bt114.2.2.1 bt114.2.2.2).bind fun t122 => (some (t121 == t122)))))
def laws_FnCells.j3 : Nat → List Int → List (S71) → List (S80) → Int → Bool → Int → Int → Int → Int → Int → Int → Int → Option (Bool)
 | 0, _, _, _, _, _, _, _, _, _, _, _, _ => none
 | k + 1, x1, x5, x6, x10, x112, x125000, x125001, x125002, x125003, x125004, x125005, x125006 => if x112 = true then (some false) else (laws_FnCells.l1 k x1 x5 x6 x10 0 x125000 x125001 x125002 x125003 x125004 x125005 x125006)
def laws_FnCells.l1 : Nat → List Int → List (S71) → List (S80) → Int → Int → Int → Int → Int → Int → Int → Int → Int → Option (Bool)
 | 0, _, _, _, _, _, _, _, _, _, _, _, _ => none
 | k + 1, x1, x5, x6, x10, x12, x125000, x125001, x125002, x125003, x125004, x125005, x125006 => if x12 < x10 then (laws_FnCells.j5 k x1 x5 x6 x10 x12 (decide (x12 < 40)) x125000 x125001 x125002 x125003 x125004 x125005 x125006) else (laws_FnCells.j5 k x1 x5 x6 x10 x12 false x125000 x125001 x125002 x125003 x125004 x125005 x125006)
def laws_FnCells.j5 : Nat → List Int → List (S71) → List (S80) → Int → Int → Bool → Int → Int → Int → Int → Int → Int → Int → Option (Bool)
 | 0, _, _, _, _, _, _, _, _, _, _, _, _, _ => none
 | k + 1, x1, x5, x6, x10, x12, x119, x125000, x125001, x125002, x125003, x125004, x125005, x125006 => if x119 = true then (if 0 ≤ x12 then (if x12 < (x6.length : Int) then ((impl_CellsMeet.f ((rd_T80 x6 x12).f0) ((rd_T80 x6 x12).f1) ((rd_T80 x6 x12).f2) ((rd_T80 x6 x12).f3) ((rd_T80 x6 x12).f4) ((rd_T80 x6 x12).f5) ((rd_T80 x6 x12).f6) x125000 x125001 x125002 x125003 x125004 x125005 x125006).bind fun t128 => (if t128 = true then (some false) else (laws_FnCells.l1 k x1 x5 x6 x10 (wrap64 (x12 + 1)) x125000 x125001 x125002 x125003 x125004 x125005 x125006))) else (none)) else (none)) else (laws_FnCells.l0 k x1 x5 x6 (wrap64 (x10 + 1)))
end
def laws_FnCells.f (k : Nat) (l0 : List Int) (l1 : List Int) : Option (Bool) := if (l0.length : Int) > 1048576 then (laws_FnCells.j0 k l0 l1 true) else (laws_FnCells.j0 k l0 l1 (decide ((l1.length : Int) > 1048576)))
def laws_FnCells.T12 : Bool × List (List Nat × List Nat) := (true, [([], []), ([0], [0]), ([], []), ([2], [2]), ([1, 3], [1, 3]), ([4], [4]), ([5], [5]), ([6, 5], [5, 6]), ([5], [5]), ([8, 5], [5, 8]), ([7, 9, 5], [5, 7, 9]), ([5, 10], [5, 10]), ([11, 5], [11]), ([12], [12]), ([13, 12], [12, 13]), ([12], [12]), ([15, 12], [12, 15]), ([14, 16, 12], [12, 14, 16]), ([12, 17], [12, 17]), ([18, 12], [18]), ([19], [19]), ([19], [19]), ([21, 19], [19, 21]), ([19], [19]), ([23, 19], [19, 23]), ([19], [19]), ([25, 19], [19, 25]), ([22, 24, 26, 19], [19, 22, 24, 26]), ([20, 27, 19, 19], [19, 20, 27]), ([19], [19]), ([29, 19], [19, 29]), ([28, 30, 19], [19, 28, 30]), ([19, 31], [19, 31]), ([32, 28], [32]), ([33], [33]), ([33], [33]), ([35, 33], [33, 35]), ([33], [33]), ([37, 33], [33, 37]), ([33], [33]), ([39, 33], [33, 39]), ([36, 38, 40, 33], [33, 36, 38, 40]), ([34, 41, 33, 33], [33, 34, 41]), ([33], [33]), ([43, 33], [33, 43]), ([42, 44, 33], [33, 42, 44]), ([33, 45], [33, 45])])
def laws_FnCells.B12 : List Nat := [0, 1, 0, 4, 15, 31, 63, 127, 63, 319, 1023, 2047, 4095, 8191, 16383, 8191, 40959, 131071, 262143, 524287, 1048575, 1048575, 3145727, 1048575, 9437183, 1048575, 34603007, 133169151, 268435455, 1048575, 537919487, 2147483647, 4294967295, 8589934591, 17179869183, 17179869183, 51539607551, 17179869183, 154618822655, 17179869183, 566935683071, 2181843386367, 4398046511103, 17179869183, 8813272891391, 35184372088831, 70368744177663]
theorem laws_FnCells.tab12 : rtab .any (opsOf Try.f13 12) = laws_FnCells.T12 := by kernel_rfl
theorem laws_FnCells.bits12 : waitsOk laws_FnCells.T12.2 laws_FnCells.B12 = true := by kernel_rfl
def laws_FnCells.T20 : Bool × List (List Nat × List Nat) := (true, [([], []), ([], []), ([0, 1], [0, 1]), ([], []), ([], []), ([3, 4, 2], [3, 4]), ([2, 5], [2, 5]), ([6, 5, 0, 1, 2, 3, 4, 5, 6], [6])])
def laws_FnCells.B20 : List Nat := [0, 0, 3, 0, 0, 31, 63, 127]
theorem laws_FnCells.tab20 : rtab .any (opsOf Try.f13 20) = laws_FnCells.T20 := by kernel_rfl
theorem laws_FnCells.bits20 : waitsOk laws_FnCells.T20.2 laws_FnCells.B20 = true := by kernel_rfl
set_option maxHeartbeats 8000000 in
set_option maxRecDepth 100000 in
theorem laws_FnCells.calls (k : Nat) (A0 : Option Addr) (c0 : Nat) (l0 : List Int) (A1 : Option Addr) (c1 : Nat) (l1 : List Int) (r : Bool) (w : World) (hr0 : Kd.C (Kd.int .u8) w A0 l0.length l0) (hc0 : l0.length ≤ c0) (hr1 : Kd.C (Kd.int .u8) w A1 l1.length l1) (hc1 : l1.length ≤ c1) (hr0_ : r = true) (h : laws_FnCells.f k l0 l1 = some r) :
  Calls Try.prog 13 #[.slice A0 l0.length c0, .slice A1 l1.length c1] w fun e w' => e = .returned (.bool r) ∧ Below w.heap.size w w' := by
 have hu80 := Try.underlying80
 have hu60 := Try.underlying60
 have HR0 := Aside0.mk hr0
 have HC0 := Aside0.mk hc0
 clear hr0 hc0
 have HR1 := Aside0.mk hr1
 have HC1 := Aside0.mk hc1
 clear hr1 hc1
 have HB := am (Below.refl w.heap.size w)
 have H : (if (l0.length : Int) > 1048576 then (laws_FnCells.j0 k l0 l1 true) else (laws_FnCells.j0 k l0 l1 (decide ((l1.length : Int) > 1048576)))) = some r := h
 clear h
 have HR_ := Aside0.mk hr0_
 clear hr0_
 have HC3 := Aside0.mk H
 clear H
 go_enter Try.func13, Try.ntmps13
 go_upto_region 1 with (fail)
 go_cut [22] (fun v22 wc => ∃ (kq : Nat) (x22_2 : Bool), v22 = .bool x22_2 ∧ Aside0 (laws_FnCells.j0 kq l0 l1 x22_2 = some r) ∧ Aside0 (kq ≤ k) ∧ Aside0 (Below w.heap.size w wc))
 case first =>
  have H := HC3.out
  clear HC3
  by_cases c4 : (l0.length : Int) > 1048576
  ·rw [if_pos c4] at H
   have c4b0 : decide (1048576 < (l0.length : Int)) = true := decide_eq_true c4
   have c4b1 : decide (1048576 < l0.length) = true := decide_eq_true (by omega)
   clear c4
   (first | rw [c4b0] | (simp only [i64_w, i32_w]; rw [c4b0]) | skip)
   have H' := Aside0.mk H
   clear H
   go_wp2
   go_meet
   case rel => exact ⟨_, (true), (by first | rfl | (simp; done) | (simp [*]; done)), H', ⟨by first | omega | exact Nat.le_refl _⟩, ⟨KL HB⟩⟩
  ·rw [if_neg c4] at H
   have c4b0 : decide (1048576 < (l0.length : Int)) = false := decide_eq_false c4
   have c4b1 : decide (1048576 < l0.length) = false := decide_eq_false (by omega)
   clear c4
   (first | rw [c4b0] | (simp only [i64_w, i32_w]; rw [c4b0]) | skip)
   have H' := Aside0.mk H
   clear H
   go_wp2
   go_meet
   case rel => exact ⟨_, (decide ((l1.length : Int) > 1048576)), (by first | rfl | (simp; done) | (simp [*]; done)), H', ⟨by first | omega | exact Nat.le_refl _⟩, ⟨KL HB⟩⟩
 case rest =>
  clear HC3
  try clear c1
  try clear p2
  try clear c4
  try clear c4b0
  try clear c4b1
  obtain ⟨kq, x22_2, rfl, HA, HJ2, HB⟩ := hcut
  cases kq with
  | zero => exact absurd HA.out (by simp [laws_FnCells.j0])
  | succ kj2 =>
   have H := HA.out
   clear HA
   simp only [laws_FnCells.j0] at H
   by_cases c5 : x22_2 = true
   ·subst c5
    have H1 : (some true) = some r := by rw [if_pos rfl] at H; exact H
    clear H
    have H := H1
    clear H1
    obtain rfl := Option.some.inj H
    go_wp2
    go_ret
    exact ⟨ER, KL HB⟩
   ·replace c5 := Bool.eq_false_iff.mpr c5
    subst c5
    have H1 : ((spec_DrawCells.f kj2 l0).bind fun t101 => ((impl_Cells.f kj2 t101).bind fun bt104 => ((spec_Cells.f kj2 t101).bind fun bt108 => (if (bt104.2 != bt108.2) = true then (laws_FnCells.j1 kj2 l1 t101 bt104.1 bt104.2 bt108.1 bt108.2 true) else ((laws_ovCells.f kj2 bt104.1 bt108.1).bind fun t112 => (if t112 = true then (laws_FnCells.j1 kj2 l1 t101 bt104.1 bt104.2 bt108.1 bt108.2 (!bt104.2)) else (laws_FnCells.j1 kj2 l1 t101 bt104.1 bt104.2 bt108.1 bt108.2 true))))))) = some r := by rw [if_neg (show ¬ (false = true) by decide)] at H; exact H
    clear H
    have H := H1
    clear H1
    replace H := Option.bind_eq_some_iff.mp H
    obtain ⟨t101, A60, H⟩ := H
    replace H : ((impl_Cells.f kj2 t101).bind fun bt104 => ((spec_Cells.f kj2 t101).bind fun bt108 => (if (bt104.2 != bt108.2) = true then (laws_FnCells.j1 kj2 l1 t101 bt104.1 bt104.2 bt108.1 bt108.2 true) else ((laws_ovCells.f kj2 bt104.1 bt108.1).bind fun t112 => (if t112 = true then (laws_FnCells.j1 kj2 l1 t101 bt104.1 bt104.2 bt108.1 bt108.2 (!bt104.2)) else (laws_FnCells.j1 kj2 l1 t101 bt104.1 bt104.2 bt108.1 bt108.2 true)))))) = some r := H
    have A6 := Aside0.mk A60
    clear A60
    replace H := Option.bind_eq_some_iff.mp H
    obtain ⟨⟨t104, t105⟩, A70, H⟩ := H
    replace H : ((spec_Cells.f kj2 t101).bind fun bt108 => (if (t105 != bt108.2) = true then (laws_FnCells.j1 kj2 l1 t101 t104 t105 bt108.1 bt108.2 true) else ((laws_ovCells.f kj2 t104 bt108.1).bind fun t112 => (if t112 = true then (laws_FnCells.j1 kj2 l1 t101 t104 t105 bt108.1 bt108.2 (!t105)) else (laws_FnCells.j1 kj2 l1 t101 t104 t105 bt108.1 bt108.2 true))))) = some r := H
    have A7 := Aside0.mk A70
    clear A70
    replace H := Option.bind_eq_some_iff.mp H
    obtain ⟨⟨t108, t109⟩, A80, H⟩ := H
    replace H : (if (t105 != t109) = true then (laws_FnCells.j1 kj2 l1 t101 t104 t105 t108 t109 true) else ((laws_ovCells.f kj2 t104 t108).bind fun t112 => (if t112 = true then (laws_FnCells.j1 kj2 l1 t101 t104 t105 t108 t109 (!t105)) else (laws_FnCells.j1 kj2 l1 t101 t104 t105 t108 t109 true)))) = some r := H
    have A8 := Aside0.mk A80
    clear A80
    have HC9 := Aside0.mk H
    clear H
    go_upto_region 6 with (first | ((with_reducible refine gate_callee (f := 56) rfl ?_); refine goesL_ (some 24) rfl rfl Try.func56 (by kernel_rfl) rfl #[.slice A0 l0.length c0] rfl MT ?_; (with_reducible refine (spec_DrawCells.calls kj2 _ _ l0 t101 _ ?side1 ?side2 A6.out).mono ?_); (case side1 => exact KD HR0 HB); (case side2 => exact HC0.out); rintro e w10 ⟨v102, rfl, ho0, hb⟩; refine ⟨_, rfl, ?_⟩; have HO103 := am (Kd.R_lower ho0 (below_size (KL HB))); replace HB := am (below_step (KL HB) hb); (try clear hb); (try clear ho0); obtain ⟨Ao11, co11, eo11⟩ := Kd.R_slice HO103.out; subst eo11) | ((with_reducible refine gate_callee (f := 52) rfl ?_); refine goesL_ (some 27) rfl rfl Try.func52 (by kernel_rfl) rfl #[.slice Ao11 t101.length co11] rfl MT ?_; (with_reducible refine (impl_Cells.calls kj2 _ _ t101 t104 t105 _ ?side1 ?side2 A7.out).mono ?_); (case side1 => exact KC (Kd.R_reads' HO103.out).2.2); (case side2 => exact (Kd.R_reads' HO103.out).2.1); rintro e w12 ⟨v106, rfl, ho0, hb⟩; refine ⟨_, rfl, ?_⟩; replace HO103 := am (Kd.R_below (KR HO103) hb); have HO107 := am (Kd.R_lower ho0 (below_size (KL HB))); replace HB := am (below_step (KL HB) hb); (try clear hb); (try clear ho0)) | ((with_reducible refine gate_callee (f := 51) rfl ?_); refine goesL_ (some 32) rfl rfl Try.func51 (by kernel_rfl) rfl #[.slice Ao11 t101.length co11] rfl MT ?_; (with_reducible refine (spec_Cells.calls kj2 _ _ t101 t108 t109 _ ?side1 ?side2 A8.out).mono ?_); (case side1 => exact KC (Kd.R_reads' HO103.out).2.2); (case side2 => exact (Kd.R_reads' HO103.out).2.1); rintro e w13 ⟨v110, rfl, ho0, hb⟩; refine ⟨_, rfl, ?_⟩; replace HO103 := am (Kd.R_below (KR HO103) hb); have HO111 := am (Kd.R_lower (Kd.R_new' ho0 (Kd.R_lt (KR HO107))) (below_size (KL HB))); replace HO107 := am (Kd.R_elder' (KR HO107) (Kd.R_base ho0) hb); replace HB := am (below_step (KL HB) hb); (try clear hb); (try clear ho0)))
    (try simp only [Act.put, List.setIfInBounds_toArray, List.set_cons_zero, List.set_cons_succ])
    go_cut [47] (fun v47 wc => ∃ (kq : Nat) (x47_8 : Bool), v47 = .bool x47_8 ∧ Aside0 (laws_FnCells.j1 kq l1 t101 t104 t105 t108 t109 x47_8 = some r) ∧ Aside0 (kq ≤ kj2) ∧ Aside0 (Kd.R k71 71 wc w.heap.size (fun _ => True) (.slice Ao11 t101.length co11) t101) ∧ Aside0 (Kd.R k80 80 wc w.heap.size (fun k_ => some k_ ≠ (v110 : Value).ownBlock) v106 t104) ∧ Aside0 (Kd.R k80 80 wc w.heap.size (fun k_ => some k_ ≠ (v106 : Value).ownBlock) v110 t108) ∧ Aside0 (Below w.heap.size w wc))
    case first =>
     have H := HC9.out
     clear HC9
     by_cases c14 : (t105 != t109) = true
     ·rw [if_pos c14] at H
      have c14b0 : (t105 != t109) = true := c14
      (try (have c14b1 : decide (t105 = t109) = false := by simpa using c14))
      (try (have c14b2 : (t105 == t109) = false := by simpa using c14))
      (try (have c14b3 : ¬ (t105 = t109) := by simpa using c14))
      clear c14
      (first | rw [c14b0] | (simp only [i64_w, i32_w]; rw [c14b0]) | skip)
      have H' := Aside0.mk H
      clear H
      go_wp2
      go_meet
      case rel => exact ⟨_, (true), (by first | rfl | (simp; done) | (simp [*]; done)), H', ⟨by have := HJ2.out; first | omega | exact Nat.le_refl _⟩, ⟨KR HO103⟩, ⟨by (with_reducible repeat (first | apply Kd.R_alloc | apply Kd.R_drewN | apply Kd.R_drew)); exact Kd.R_mono HO107.out (fun _ hk => hk.2)⟩, ⟨by (with_reducible repeat (first | apply Kd.R_alloc | apply Kd.R_drewN | apply Kd.R_drew)); exact Kd.R_mono HO111.out (fun _ hk => hk.2)⟩, ⟨KL HB⟩⟩
     ·rw [if_neg c14] at H
      have c14b0 : (t105 != t109) = false := by simpa using c14
      (try (have c14b1 : decide (t105 = t109) = true := by simpa using c14))
      (try (have c14b2 : (t105 == t109) = true := by simpa using c14))
      clear c14
      (first | rw [c14b0] | (simp only [i64_w, i32_w]; rw [c14b0]) | skip)
      replace H := Option.bind_eq_some_iff.mp H
      obtain ⟨t112, A150, H⟩ := H
      replace H : (if t112 = true then (laws_FnCells.j1 kj2 l1 t101 t104 t105 t108 t109 (!t105)) else (laws_FnCells.j1 kj2 l1 t101 t104 t105 t108 t109 true)) = some r := H
      have A15 := Aside0.mk A150
      clear A150
      by_cases c16 : t112 = true
      ·subst c16
       have H1 : (laws_FnCells.j1 kj2 l1 t101 t104 t105 t108 t109 (!t105)) = some r := by rw [if_pos rfl] at H; exact H
       clear H
       have H := H1
       clear H1
       have H' := Aside0.mk H
       clear H
       obtain ⟨Ao17, co17, eo17⟩ := Kd.R_slice HO107.out
       subst eo17
       obtain ⟨Ao18, co18, eo18⟩ := Kd.R_slice HO111.out
       subst eo18
       go_wp2_with (first | (go_at_call 57; (with_reducible refine (laws_ovCells.calls kj2 _ _ t104 _ _ t108 true _ ?side1 ?side2 ?side3 ?side4 A15.out).mono ?_); (case side1 => exact KC (Kd.R_reads' HO107.out).2.2); (case side2 => exact (Kd.R_reads' HO107.out).2.1); (case side3 => exact KC (Kd.R_reads' HO111.out).2.2); (case side4 => exact (Kd.R_reads' HO111.out).2.1); rintro e w' ⟨rfl, ⟨nd, rfl⟩⟩))
       go_meet
       case rel => exact ⟨_, (!t105), (by first | rfl | (simp; done) | (simp [*]; done)), H', ⟨by have := HJ2.out; first | omega | exact Nat.le_refl _⟩, ⟨KR HO103⟩, ⟨by (with_reducible repeat (first | apply Kd.R_alloc | apply Kd.R_drewN | apply Kd.R_drew)); exact Kd.R_mono HO107.out (fun _ hk => hk.2)⟩, ⟨by (with_reducible repeat (first | apply Kd.R_alloc | apply Kd.R_drewN | apply Kd.R_drew)); exact Kd.R_mono HO111.out (fun _ hk => hk.2)⟩, ⟨KL HB⟩⟩
      ·replace c16 := Bool.eq_false_iff.mpr c16
       subst c16
       have H1 : (laws_FnCells.j1 kj2 l1 t101 t104 t105 t108 t109 true) = some r := by rw [if_neg (show ¬ (false = true) by decide)] at H; exact H
       clear H
       have H := H1
       clear H1
       have H' := Aside0.mk H
       clear H
       obtain ⟨Ao19, co19, eo19⟩ := Kd.R_slice HO107.out
       subst eo19
       obtain ⟨Ao20, co20, eo20⟩ := Kd.R_slice HO111.out
       subst eo20
       go_wp2_with (first | (go_at_call 57; (with_reducible refine (laws_ovCells.calls kj2 _ _ t104 _ _ t108 false _ ?side1 ?side2 ?side3 ?side4 A15.out).mono ?_); (case side1 => exact KC (Kd.R_reads' HO107.out).2.2); (case side2 => exact (Kd.R_reads' HO107.out).2.1); (case side3 => exact KC (Kd.R_reads' HO111.out).2.2); (case side4 => exact (Kd.R_reads' HO111.out).2.1); rintro e w' ⟨rfl, ⟨nd, rfl⟩⟩))
       go_meet
       case rel => exact ⟨_, (true), (by first | rfl | (simp; done) | (simp [*]; done)), H', ⟨by have := HJ2.out; first | omega | exact Nat.le_refl _⟩, ⟨KR HO103⟩, ⟨by (with_reducible repeat (first | apply Kd.R_alloc | apply Kd.R_drewN | apply Kd.R_drew)); exact Kd.R_mono HO107.out (fun _ hk => hk.2)⟩, ⟨by (with_reducible repeat (first | apply Kd.R_alloc | apply Kd.R_drewN | apply Kd.R_drew)); exact Kd.R_mono HO111.out (fun _ hk => hk.2)⟩, ⟨KL HB⟩⟩
    case rest =>
     clear HC9
     try clear c1
     try clear p2
     try clear c4
     try clear c4b0
     try clear c4b1
     try clear c5
     try clear c13
     try clear c14
     try clear c14b0
     try clear c14b1
     try clear c14b2
     try clear c16
     try clear p2
     obtain ⟨kq, x47_8, rfl, HA, HJ8, HO_5, HO_6, HO_8, HB⟩ := hcut
     cases kq with
     | zero => exact absurd HA.out (by simp [laws_FnCells.j1])
     | succ kj8 =>
      have H := HA.out
      clear HA
      simp only [laws_FnCells.j1] at H
      by_cases c21 : x47_8 = true
      ·subst c21
       have H1 : (if (t105 == t109) = true then ((laws_ovCells.f kj8 t104 t108).bind fun t113 => (some t113)) else (some false)) = some r := by rw [if_pos rfl] at H; exact H
       clear H
       have H := H1
       clear H1
       by_cases c22 : (t105 == t109) = true
       ·rw [if_pos c22] at H
        have c22b0 : (t105 == t109) = true := c22
        (try (have c22b1 : decide (t105 = t109) = true := by simpa using c22))
        (try (have c22b2 : (t105 == t109) = true := by simpa using c22))
        clear c22
        replace H := Option.bind_eq_some_iff.mp H
        obtain ⟨t113, A230, H⟩ := H
        replace H : (some t113) = some r := H
        have A23 := Aside0.mk A230
        clear A230
        obtain rfl := Option.some.inj H
        obtain ⟨Ao24, co24, eo24⟩ := Kd.R_slice HO_6.out
        subst eo24
        obtain ⟨Ao25, co25, eo25⟩ := Kd.R_slice HO_8.out
        subst eo25
        go_wp2_with (first | (go_at_call 57; (with_reducible refine (laws_ovCells.calls kj8 _ _ t104 _ _ t108 t113 _ ?side1 ?side2 ?side3 ?side4 A23.out).mono ?_); (case side1 => exact KC (Kd.R_reads' HO_6.out).2.2); (case side2 => exact (Kd.R_reads' HO_6.out).2.1); (case side3 => exact KC (Kd.R_reads' HO_8.out).2.2); (case side4 => exact (Kd.R_reads' HO_8.out).2.1); rintro e w' ⟨rfl, ⟨nd, rfl⟩⟩))
        go_ret
        exact ⟨ER, KL HB⟩
       ·rw [if_neg c22] at H
        have c22b0 : (t105 == t109) = false := by simpa using c22
        (try (have c22b1 : decide (t105 = t109) = false := by simpa using c22))
        (try (have c22b2 : (t105 == t109) = false := by simpa using c22))
        (try (have c22b3 : ¬ (t105 = t109) := by simpa using c22))
        clear c22
        exact absurd ((Option.some.inj H).trans HR_.out) (by decide)
      ·replace c21 := Bool.eq_false_iff.mpr c21
       subst c21
       have H1 : (laws_FnCells.l0 kj8 l1 t101 t104 0) = some r := by rw [if_neg (show ¬ (false = true) by decide)] at H; exact H
       clear H
       have H := H1
       clear H1
       have H' := Aside0.mk H
       clear H
       go_wp2
       go_loopg [10] kj8 (fun kq v10 w' => ∃ (x10_3 : Int), v10 = .int .i64 x10_3 ∧ Aside0 (laws_FnCells.l0 kq l1 t101 t104 x10_3 = some r) ∧ Aside0 (kq ≤ kj8) ∧ Aside0 (Kd.R k71 71 w' w.heap.size (fun _ => True) (.slice Ao11 t101.length co11) t101) ∧ Aside0 (Kd.R k80 80 w' w.heap.size (fun _ => True) v106 t104) ∧ Aside0 (Below w.heap.size w w'))
       case atStart => exact ⟨(0), (by first | rfl | (simp; done) | (simp [*]; done)), H', ⟨Nat.le_refl _⟩, ⟨KR HO_5⟩, ⟨by (with_reducible repeat (first | apply Kd.R_alloc | apply Kd.R_drewN | apply Kd.R_drew)); exact Kd.R_mono HO_6.out (fun _ hk => trivial)⟩, ⟨KL HB⟩⟩
       case round =>
        clear H'
        try clear c1
        try clear c2
        try clear p2
        try clear c4
        try clear c4b0
        try clear c4b1
        try clear c5
        try clear c13
        try clear c14
        try clear c14b0
        try clear c14b1
        try clear c14b2
        try clear c16
        try clear c21
        try clear c22
        try clear c22b0
        try clear c22b1
        try clear c22b2
        try clear p2
        obtain ⟨x10_3, rfl, HA, HK3, HO_5, HO_6, HB⟩ := hrel
        cases gk with
        | zero => exact absurd HA.out (by simp [laws_FnCells.l0])
        | succ k3 =>
         have H := HA.out
         clear HA
         simp only [laws_FnCells.l0] at H
         by_cases c26 : x10_3 < (t104.length : Int)
         ·rw [if_pos c26] at H
          have c26b0 : decide (x10_3 < (t104.length : Int)) = true := decide_eq_true c26
          clear c26
          by_cases c27 : 0 ≤ x10_3
          ·rw [if_pos c27] at H
           have c27b0 : decide (0 ≤ x10_3) = true := decide_eq_true c27
           clear c27
           have HC28 := Aside0.mk H
           clear H
           obtain ⟨Ao29, co29, eo29⟩ := Kd.R_slice HO_6.out
           subst eo29
           have p123 : 0 ≤ (x10_3 : Int) := OD
           have q123 : x10_3 < (t104.length : Int) := OD
           obtain ⟨ad123, e123, hx123_0, hx123_1, hx123_2, hx123_3, hx123_4, hx123_5, hx123_6⟩ := at_T80 (Kd.R_reads' HO_6.out).2.2 x10_3 p123 q123
           cases e123
           replace p123 := eq_true p123
           replace q123 := eq_true q123
           go_upto_region 12 with (first | ((with_reducible refine gate_dst (N := 11) rfl ?_); (try (refine gate_guard (by rfl) ?_; dsimp only)); refine box_event rfl (N := 11) rfl (cs := #[.int .i64 0, .int .i64 0, .int .i64 0, .int .i64 0, .int .i64 0, .int .i64 0, .int .i64 0]) (t := 80) BX ?_; intro gb124 hg w30 hbox hb; replace HO_5 := am (Kd.R_below (KR HO_5) hb); replace HO_6 := am (Kd.R_below (Kd.R_elderB (KR HO_6) gb124 (Nat.le_of_eq hg.symm)) hb); have BK124 := am (hbox); have GW124 := am (GH HB hg); have GE124 := GW124; replace HB := am (below_step (KL HB) hb); clear hb hbox hg; obtain ⟨hcz31_0, hcz31_1, hcz31_2, hcz31_3, hcz31_4, hcz31_5, hcz31_6, hfz31_0⟩ := y7 w30 BK124.out))
           (try simp only [Act.put, List.setIfInBounds_toArray, List.set_cons_zero, List.set_cons_succ])
           go_cut [112] (fun v112 wc => ∃ (kq : Nat) (x112_27 : Bool), v112 = .bool x112_27 ∧ Aside0 (laws_FnCells.j3 kq l1 t101 t104 x10_3 x112_27 ((rd_T80 t104 x10_3).f0) ((rd_T80 t104 x10_3).f1) ((rd_T80 t104 x10_3).f2) ((rd_T80 t104 x10_3).f3) ((rd_T80 t104 x10_3).f4) ((rd_T80 t104 x10_3).f5) ((rd_T80 t104 x10_3).f6) = some r) ∧ Aside0 (kq ≤ k3) ∧ Aside0 (Kd.R k71 71 wc w.heap.size (fun _ => True) (.slice Ao11 t101.length co11) t101) ∧ Aside0 (Kd.R k80 80 wc w.heap.size (fun k_ => k_ ≠ gb124) (.slice (some ad123) t104.length co29) t104) ∧ Aside0 (wc.heap[gb124]? = some (.cells #[.int .i64 ((rd_T80 t104 x10_3).f0), .int .i64 ((rd_T80 t104 x10_3).f1), .int .i64 ((rd_T80 t104 x10_3).f2), .int .i64 ((rd_T80 t104 x10_3).f3), .int .i64 ((rd_T80 t104 x10_3).f4), .int .i64 ((rd_T80 t104 x10_3).f5), .int .i64 ((rd_T80 t104 x10_3).f6)] 80 (0, 0))) ∧ Aside0 (Below w.heap.size w wc))
           case first =>
            have H := HC28.out
            clear HC28
            by_cases c32 : ((rd_T80 t104 x10_3).f0) > ((rd_T80 t104 x10_3).f1)
            ·rw [if_pos c32] at H
             have c32b0 : decide (((rd_T80 t104 x10_3).f1) < ((rd_T80 t104 x10_3).f0)) = true := decide_eq_true c32
             clear c32
             (first | rw [c32b0] | (simp only [i64_w, i32_w]; rw [c32b0]) | skip)
             have H' := Aside0.mk H
             clear H
             try go_wp2
             generalize hq_ : (((((((w30.setCell ⟨gb124, 0, none⟩ (.int .i64 ((rd_T80 t104 x10_3).f0))).setCell ⟨gb124, 1, none⟩ (.int .i64 ((rd_T80 t104 x10_3).f1))).setCell ⟨gb124, 2, none⟩ (.int .i64 ((rd_T80 t104 x10_3).f2))).setCell ⟨gb124, 3, none⟩ (.int .i64 ((rd_T80 t104 x10_3).f3))).setCell ⟨gb124, 4, none⟩ (.int .i64 ((rd_T80 t104 x10_3).f4))).setCell ⟨gb124, 5, none⟩ (.int .i64 ((rd_T80 t104 x10_3).f5))).setCell ⟨gb124, 6, none⟩ (.int .i64 ((rd_T80 t104 x10_3).f6))) = w33
             have n0_ : Aside0 (Kd.R k71 71 w33 w.heap.size (fun _ => True) (.slice Ao11 t101.length co11) t101) := ⟨by rw [← hq_]; (with_reducible repeat (first | apply Kd.R_alloc | apply Kd.R_drewN | apply Kd.R_drew)); exact Kd.R_mono (Kd.R_far (p := ⟨gb124, 6, none⟩) (Kd.R_far (p := ⟨gb124, 5, none⟩) (Kd.R_far (p := ⟨gb124, 4, none⟩) (Kd.R_far (p := ⟨gb124, 3, none⟩) (Kd.R_far (p := ⟨gb124, 2, none⟩) (Kd.R_far (p := ⟨gb124, 1, none⟩) (Kd.R_far (p := ⟨gb124, 0, none⟩) (Kd.R_types HO_5.out BK124.out (by decide)) (fun _ hk => hk.2) (.int .i64 ((rd_T80 t104 x10_3).f0))) (fun _ hk => hk.2) (.int .i64 ((rd_T80 t104 x10_3).f1))) (fun _ hk => hk.2) (.int .i64 ((rd_T80 t104 x10_3).f2))) (fun _ hk => hk.2) (.int .i64 ((rd_T80 t104 x10_3).f3))) (fun _ hk => hk.2) (.int .i64 ((rd_T80 t104 x10_3).f4))) (fun _ hk => hk.2) (.int .i64 ((rd_T80 t104 x10_3).f5))) (fun _ hk => hk.2) (.int .i64 ((rd_T80 t104 x10_3).f6))) (fun _ hk => trivial)⟩
             have n1_ : Aside0 (Kd.R k80 80 w33 w.heap.size (fun k_ => k_ ≠ gb124) (.slice (some ad123) t104.length co29) t104) := ⟨by rw [← hq_]; (with_reducible repeat (first | apply Kd.R_alloc | apply Kd.R_drewN | apply Kd.R_drew)); exact Kd.R_mono (Kd.R_far (p := ⟨gb124, 6, none⟩) (Kd.R_far (p := ⟨gb124, 5, none⟩) (Kd.R_far (p := ⟨gb124, 4, none⟩) (Kd.R_far (p := ⟨gb124, 3, none⟩) (Kd.R_far (p := ⟨gb124, 2, none⟩) (Kd.R_far (p := ⟨gb124, 1, none⟩) (Kd.R_far (p := ⟨gb124, 0, none⟩) (Kd.R_mono HO_6.out (fun k_ hk => (⟨hk, hk.2⟩ : _ ∧ k_ ≠ gb124))) (fun _ hk => hk.2) (.int .i64 ((rd_T80 t104 x10_3).f0))) (fun _ hk => hk.2) (.int .i64 ((rd_T80 t104 x10_3).f1))) (fun _ hk => hk.2) (.int .i64 ((rd_T80 t104 x10_3).f2))) (fun _ hk => hk.2) (.int .i64 ((rd_T80 t104 x10_3).f3))) (fun _ hk => hk.2) (.int .i64 ((rd_T80 t104 x10_3).f4))) (fun _ hk => hk.2) (.int .i64 ((rd_T80 t104 x10_3).f5))) (fun _ hk => hk.2) (.int .i64 ((rd_T80 t104 x10_3).f6))) (fun _ hk => hk.1.2)⟩
             have n2_ : Aside0 (w33.heap[gb124]? = some (.cells #[.int .i64 ((rd_T80 t104 x10_3).f0), .int .i64 ((rd_T80 t104 x10_3).f1), .int .i64 ((rd_T80 t104 x10_3).f2), .int .i64 ((rd_T80 t104 x10_3).f3), .int .i64 ((rd_T80 t104 x10_3).f4), .int .i64 ((rd_T80 t104 x10_3).f5), .int .i64 ((rd_T80 t104 x10_3).f6)] 80 (0, 0))) := ⟨by rw [← hq_]; (with_reducible repeat (first | refine blk_drewN ?_ _ | refine blk_drew ?_ | refine blk_alloc ?_ _)); refine blk_put (cs := #[.int .i64 ((rd_T80 t104 x10_3).f0), .int .i64 ((rd_T80 t104 x10_3).f1), .int .i64 ((rd_T80 t104 x10_3).f2), .int .i64 ((rd_T80 t104 x10_3).f3), .int .i64 ((rd_T80 t104 x10_3).f4), .int .i64 ((rd_T80 t104 x10_3).f5), .int .i64 0]) ?_ 6 _ rfl; (with_reducible repeat (first | refine blk_drewN ?_ _ | refine blk_drew ?_ | refine blk_alloc ?_ _)); refine blk_put (cs := #[.int .i64 ((rd_T80 t104 x10_3).f0), .int .i64 ((rd_T80 t104 x10_3).f1), .int .i64 ((rd_T80 t104 x10_3).f2), .int .i64 ((rd_T80 t104 x10_3).f3), .int .i64 ((rd_T80 t104 x10_3).f4), .int .i64 0, .int .i64 0]) ?_ 5 _ rfl; (with_reducible repeat (first | refine blk_drewN ?_ _ | refine blk_drew ?_ | refine blk_alloc ?_ _)); refine blk_put (cs := #[.int .i64 ((rd_T80 t104 x10_3).f0), .int .i64 ((rd_T80 t104 x10_3).f1), .int .i64 ((rd_T80 t104 x10_3).f2), .int .i64 ((rd_T80 t104 x10_3).f3), .int .i64 0, .int .i64 0, .int .i64 0]) ?_ 4 _ rfl; (with_reducible repeat (first | refine blk_drewN ?_ _ | refine blk_drew ?_ | refine blk_alloc ?_ _)); refine blk_put (cs := #[.int .i64 ((rd_T80 t104 x10_3).f0), .int .i64 ((rd_T80 t104 x10_3).f1), .int .i64 ((rd_T80 t104 x10_3).f2), .int .i64 0, .int .i64 0, .int .i64 0, .int .i64 0]) ?_ 3 _ rfl; (with_reducible repeat (first | refine blk_drewN ?_ _ | refine blk_drew ?_ | refine blk_alloc ?_ _)); refine blk_put (cs := #[.int .i64 ((rd_T80 t104 x10_3).f0), .int .i64 ((rd_T80 t104 x10_3).f1), .int .i64 0, .int .i64 0, .int .i64 0, .int .i64 0, .int .i64 0]) ?_ 2 _ rfl; (with_reducible repeat (first | refine blk_drewN ?_ _ | refine blk_drew ?_ | refine blk_alloc ?_ _)); refine blk_put (cs := #[.int .i64 ((rd_T80 t104 x10_3).f0), .int .i64 0, .int .i64 0, .int .i64 0, .int .i64 0, .int .i64 0, .int .i64 0]) ?_ 1 _ rfl; (with_reducible repeat (first | refine blk_drewN ?_ _ | refine blk_drew ?_ | refine blk_alloc ?_ _)); refine blk_put (cs := #[.int .i64 0, .int .i64 0, .int .i64 0, .int .i64 0, .int .i64 0, .int .i64 0, .int .i64 0]) ?_ 0 _ rfl; (with_reducible repeat (first | refine blk_drewN ?_ _ | refine blk_drew ?_ | refine blk_alloc ?_ _)); exact BK124.out⟩
             have n3_ : Aside0 (Below w.heap.size w w33) := ⟨by rw [← hq_]; exact K1 HB GE124.out⟩
             clear hq_
             (try clear HO_5)
             (try clear HO_6)
             (try clear BK124)
             (try clear HB)
             have HO_5 := n0_
             have HO_6 := n1_
             have BK124 := n2_
             have HB := n3_
             clear n0_ n1_ n2_ n3_
             replace HO_5 := am (Kd.R_drew HO_5.out)
             replace HO_6 := am (Kd.R_drew HO_6.out)
             replace BK124 := am (blk_drew BK124.out)
             replace HB := am (below_drew1 HB.out)
             refine start_ (n := 47) (S := fun w' => de7 w' gb124 (.int .i64 ((rd_T80 t104 x10_3).f0)) (.int .i64 ((rd_T80 t104 x10_3).f1)) (.int .i64 ((rd_T80 t104 x10_3).f2)) (.int .i64 ((rd_T80 t104 x10_3).f3)) (.int .i64 ((rd_T80 t104 x10_3).f4)) (.int .i64 ((rd_T80 t104 x10_3).f5)) (.int .i64 ((rd_T80 t104 x10_3).f6))) (ds := []) (tf 0 47) (by kernel_rfl) rfl rfl ⟨z0 _ BK124.out, z1 _ BK124.out, z2 _ BK124.out, z3 _ BK124.out, z4 _ BK124.out, z5 _ BK124.out, z6 _ BK124.out⟩ (fun hHeld => ?_); refine with_tabW laws_FnCells.tab12 laws_FnCells.bits12 (fun HT_ HW_ => ?_)
             generalize w33.drew = w34 at HO_5 HO_6 BK124 HB hHeld ⊢
             refine pv HT_ 0 66 (tf 1 46) ?_
             refine pv HT_ 2 68 (tr [1, 1, 1, 44]) ?_
             refine tk 1 (some 67) (tf 3 44) (take_ofW HT_.out HW_.out (by kernel_rfl)) hHeld ?_
             refine tk 3 (some 69) (tf 4 43) (take_ofW HT_.out HW_.out (by kernel_rfl)) hHeld ?_
             refine pv HT_ 4 70 (tf 5 42) ?_
             refine pv HT_ 5 71 (tf 6 41) ?_
             refine pw HT_ 6 72 (tf 7 40) ?_
             refine pw HT_ 7 73 (tf 8 39) ?_
             refine pw HT_ 8 74 (tf 9 38) ?_
             refine pw HT_ 9 75 (tf 10 37) ?_
             refine pw HT_ 10 76 (tf 11 36) ?_
             refine pv HT_ 11 77 (tf 12 35) ?_
             refine pv HT_ 12 78 (tf 13 34) ?_
             refine pw HT_ 13 79 (tf 14 33) ?_
             refine pw HT_ 14 80 (tf 15 32) ?_
             refine pw HT_ 15 81 (tf 16 31) ?_
             refine pw HT_ 16 82 (tf 17 30) ?_
             refine pw HT_ 17 83 (tf 18 29) ?_
             refine pv HT_ 18 84 (tf 19 28) ?_
             refine pv HT_ 19 85 (tf 20 27) ?_
             refine pw HT_ 20 86 (tf 21 26) ?_
             refine pw HT_ 21 87 (tf 22 25) ?_
             refine pw HT_ 22 88 (tf 23 24) ?_
             refine pw HT_ 23 89 (tf 24 23) ?_
             refine pw HT_ 24 90 (tf 25 22) ?_
             refine pw HT_ 25 91 (tf 26 21) ?_
             refine pw HT_ 26 92 (tf 27 20) ?_
             refine pw HT_ 27 93 (tf 28 19) ?_
             refine pw HT_ 28 94 (tf 29 18) ?_
             refine pw HT_ 29 95 (tf 30 17) ?_
             refine pw HT_ 30 96 (tf 31 16) ?_
             refine pw HT_ 31 97 (tf 32 15) ?_
             refine pv HT_ 32 98 (tf 33 14) ?_
             refine pv HT_ 33 99 (tf 34 13) ?_
             refine pw HT_ 34 100 (tf 35 12) ?_
             refine pw HT_ 35 101 (tf 36 11) ?_
             refine pw HT_ 36 102 (tf 37 10) ?_
             refine pw HT_ 37 103 (tf 38 9) ?_
             refine pw HT_ 38 104 (tf 39 8) ?_
             refine pw HT_ 39 105 (tf 40 7) ?_
             refine pw HT_ 40 106 (tf 41 6) ?_
             refine pw HT_ 41 107 (tf 42 5) ?_
             refine pw HT_ 42 108 (tf 43 4) ?_
             refine pw HT_ 43 109 (tf 44 3) ?_
             refine pw HT_ 44 110 (tf 45 2) ?_
             refine pw HT_ 45 111 (tf 46 1) ?_
             refine pv HT_ 46 112 (tf 47 0) ?_
             refine done_ (done_of HT_.out (by kernel_rfl)) ?_
             try go_wp2
             go_meet
             case rel => exact ⟨_, (true), (by first | rfl | (simp; done) | (simp [*]; done)), H', ⟨by have := HJ2.out; have := HJ8.out; have := HK3.out; first | omega | exact Nat.le_refl _⟩, ⟨KR HO_5⟩, ⟨KR HO_6⟩, ⟨KB BK124⟩, ⟨K1 HB GE124.out⟩⟩
            ·rw [if_neg c32] at H
             have c32b0 : decide (((rd_T80 t104 x10_3).f1) < ((rd_T80 t104 x10_3).f0)) = false := decide_eq_false c32
             clear c32
             (first | rw [c32b0] | (simp only [i64_w, i32_w]; rw [c32b0]) | skip)
             by_cases c35 : ((rd_T80 t104 x10_3).f2) > ((rd_T80 t104 x10_3).f3)
             ·rw [if_pos c35] at H
              have c35b0 : decide (((rd_T80 t104 x10_3).f3) < ((rd_T80 t104 x10_3).f2)) = true := decide_eq_true c35
              clear c35
              have H' := Aside0.mk H
              clear H
              try go_wp2
              generalize hq_ : (((((((w30.setCell ⟨gb124, 0, none⟩ (.int .i64 ((rd_T80 t104 x10_3).f0))).setCell ⟨gb124, 1, none⟩ (.int .i64 ((rd_T80 t104 x10_3).f1))).setCell ⟨gb124, 2, none⟩ (.int .i64 ((rd_T80 t104 x10_3).f2))).setCell ⟨gb124, 3, none⟩ (.int .i64 ((rd_T80 t104 x10_3).f3))).setCell ⟨gb124, 4, none⟩ (.int .i64 ((rd_T80 t104 x10_3).f4))).setCell ⟨gb124, 5, none⟩ (.int .i64 ((rd_T80 t104 x10_3).f5))).setCell ⟨gb124, 6, none⟩ (.int .i64 ((rd_T80 t104 x10_3).f6))) = w36
              have n0_ : Aside0 (Kd.R k71 71 w36 w.heap.size (fun _ => True) (.slice Ao11 t101.length co11) t101) := ⟨by rw [← hq_]; (with_reducible repeat (first | apply Kd.R_alloc | apply Kd.R_drewN | apply Kd.R_drew)); exact Kd.R_mono (Kd.R_far (p := ⟨gb124, 6, none⟩) (Kd.R_far (p := ⟨gb124, 5, none⟩) (Kd.R_far (p := ⟨gb124, 4, none⟩) (Kd.R_far (p := ⟨gb124, 3, none⟩) (Kd.R_far (p := ⟨gb124, 2, none⟩) (Kd.R_far (p := ⟨gb124, 1, none⟩) (Kd.R_far (p := ⟨gb124, 0, none⟩) (Kd.R_types HO_5.out BK124.out (by decide)) (fun _ hk => hk.2) (.int .i64 ((rd_T80 t104 x10_3).f0))) (fun _ hk => hk.2) (.int .i64 ((rd_T80 t104 x10_3).f1))) (fun _ hk => hk.2) (.int .i64 ((rd_T80 t104 x10_3).f2))) (fun _ hk => hk.2) (.int .i64 ((rd_T80 t104 x10_3).f3))) (fun _ hk => hk.2) (.int .i64 ((rd_T80 t104 x10_3).f4))) (fun _ hk => hk.2) (.int .i64 ((rd_T80 t104 x10_3).f5))) (fun _ hk => hk.2) (.int .i64 ((rd_T80 t104 x10_3).f6))) (fun _ hk => trivial)⟩
              have n1_ : Aside0 (Kd.R k80 80 w36 w.heap.size (fun k_ => k_ ≠ gb124) (.slice (some ad123) t104.length co29) t104) := ⟨by rw [← hq_]; (with_reducible repeat (first | apply Kd.R_alloc | apply Kd.R_drewN | apply Kd.R_drew)); exact Kd.R_mono (Kd.R_far (p := ⟨gb124, 6, none⟩) (Kd.R_far (p := ⟨gb124, 5, none⟩) (Kd.R_far (p := ⟨gb124, 4, none⟩) (Kd.R_far (p := ⟨gb124, 3, none⟩) (Kd.R_far (p := ⟨gb124, 2, none⟩) (Kd.R_far (p := ⟨gb124, 1, none⟩) (Kd.R_far (p := ⟨gb124, 0, none⟩) (Kd.R_mono HO_6.out (fun k_ hk => (⟨hk, hk.2⟩ : _ ∧ k_ ≠ gb124))) (fun _ hk => hk.2) (.int .i64 ((rd_T80 t104 x10_3).f0))) (fun _ hk => hk.2) (.int .i64 ((rd_T80 t104 x10_3).f1))) (fun _ hk => hk.2) (.int .i64 ((rd_T80 t104 x10_3).f2))) (fun _ hk => hk.2) (.int .i64 ((rd_T80 t104 x10_3).f3))) (fun _ hk => hk.2) (.int .i64 ((rd_T80 t104 x10_3).f4))) (fun _ hk => hk.2) (.int .i64 ((rd_T80 t104 x10_3).f5))) (fun _ hk => hk.2) (.int .i64 ((rd_T80 t104 x10_3).f6))) (fun _ hk => hk.1.2)⟩
              have n2_ : Aside0 (w36.heap[gb124]? = some (.cells #[.int .i64 ((rd_T80 t104 x10_3).f0), .int .i64 ((rd_T80 t104 x10_3).f1), .int .i64 ((rd_T80 t104 x10_3).f2), .int .i64 ((rd_T80 t104 x10_3).f3), .int .i64 ((rd_T80 t104 x10_3).f4), .int .i64 ((rd_T80 t104 x10_3).f5), .int .i64 ((rd_T80 t104 x10_3).f6)] 80 (0, 0))) := ⟨by rw [← hq_]; (with_reducible repeat (first | refine blk_drewN ?_ _ | refine blk_drew ?_ | refine blk_alloc ?_ _)); refine blk_put (cs := #[.int .i64 ((rd_T80 t104 x10_3).f0), .int .i64 ((rd_T80 t104 x10_3).f1), .int .i64 ((rd_T80 t104 x10_3).f2), .int .i64 ((rd_T80 t104 x10_3).f3), .int .i64 ((rd_T80 t104 x10_3).f4), .int .i64 ((rd_T80 t104 x10_3).f5), .int .i64 0]) ?_ 6 _ rfl; (with_reducible repeat (first | refine blk_drewN ?_ _ | refine blk_drew ?_ | refine blk_alloc ?_ _)); refine blk_put (cs := #[.int .i64 ((rd_T80 t104 x10_3).f0), .int .i64 ((rd_T80 t104 x10_3).f1), .int .i64 ((rd_T80 t104 x10_3).f2), .int .i64 ((rd_T80 t104 x10_3).f3), .int .i64 ((rd_T80 t104 x10_3).f4), .int .i64 0, .int .i64 0]) ?_ 5 _ rfl; (with_reducible repeat (first | refine blk_drewN ?_ _ | refine blk_drew ?_ | refine blk_alloc ?_ _)); refine blk_put (cs := #[.int .i64 ((rd_T80 t104 x10_3).f0), .int .i64 ((rd_T80 t104 x10_3).f1), .int .i64 ((rd_T80 t104 x10_3).f2), .int .i64 ((rd_T80 t104 x10_3).f3), .int .i64 0, .int .i64 0, .int .i64 0]) ?_ 4 _ rfl; (with_reducible repeat (first | refine blk_drewN ?_ _ | refine blk_drew ?_ | refine blk_alloc ?_ _)); refine blk_put (cs := #[.int .i64 ((rd_T80 t104 x10_3).f0), .int .i64 ((rd_T80 t104 x10_3).f1), .int .i64 ((rd_T80 t104 x10_3).f2), .int .i64 0, .int .i64 0, .int .i64 0, .int .i64 0]) ?_ 3 _ rfl; (with_reducible repeat (first | refine blk_drewN ?_ _ | refine blk_drew ?_ | refine blk_alloc ?_ _)); refine blk_put (cs := #[.int .i64 ((rd_T80 t104 x10_3).f0), .int .i64 ((rd_T80 t104 x10_3).f1), .int .i64 0, .int .i64 0, .int .i64 0, .int .i64 0, .int .i64 0]) ?_ 2 _ rfl; (with_reducible repeat (first | refine blk_drewN ?_ _ | refine blk_drew ?_ | refine blk_alloc ?_ _)); refine blk_put (cs := #[.int .i64 ((rd_T80 t104 x10_3).f0), .int .i64 0, .int .i64 0, .int .i64 0, .int .i64 0, .int .i64 0, .int .i64 0]) ?_ 1 _ rfl; (with_reducible repeat (first | refine blk_drewN ?_ _ | refine blk_drew ?_ | refine blk_alloc ?_ _)); refine blk_put (cs := #[.int .i64 0, .int .i64 0, .int .i64 0, .int .i64 0, .int .i64 0, .int .i64 0, .int .i64 0]) ?_ 0 _ rfl; (with_reducible repeat (first | refine blk_drewN ?_ _ | refine blk_drew ?_ | refine blk_alloc ?_ _)); exact BK124.out⟩
              have n3_ : Aside0 (Below w.heap.size w w36) := ⟨by rw [← hq_]; exact K1 HB GE124.out⟩
              clear hq_
              (try clear HO_5)
              (try clear HO_6)
              (try clear BK124)
              (try clear HB)
              have HO_5 := n0_
              have HO_6 := n1_
              have BK124 := n2_
              have HB := n3_
              clear n0_ n1_ n2_ n3_
              replace HO_5 := am (Kd.R_drew HO_5.out)
              replace HO_6 := am (Kd.R_drew HO_6.out)
              replace BK124 := am (blk_drew BK124.out)
              replace HB := am (below_drew1 HB.out)
              refine start_ (n := 47) (S := fun w' => de7 w' gb124 (.int .i64 ((rd_T80 t104 x10_3).f0)) (.int .i64 ((rd_T80 t104 x10_3).f1)) (.int .i64 ((rd_T80 t104 x10_3).f2)) (.int .i64 ((rd_T80 t104 x10_3).f3)) (.int .i64 ((rd_T80 t104 x10_3).f4)) (.int .i64 ((rd_T80 t104 x10_3).f5)) (.int .i64 ((rd_T80 t104 x10_3).f6))) (ds := []) (tf 0 47) (by kernel_rfl) rfl rfl ⟨z0 _ BK124.out, z1 _ BK124.out, z2 _ BK124.out, z3 _ BK124.out, z4 _ BK124.out, z5 _ BK124.out, z6 _ BK124.out⟩ (fun hHeld => ?_); refine with_tabW laws_FnCells.tab12 laws_FnCells.bits12 (fun HT_ HW_ => ?_)
              generalize w36.drew = w37 at HO_5 HO_6 BK124 HB hHeld ⊢
              refine pv HT_ 0 66 (tf 1 46) ?_
              refine pv HT_ 2 68 (tr [1, 1, 1, 44]) ?_
              refine tk 1 (some 67) (tf 3 44) (take_ofW HT_.out HW_.out (by kernel_rfl)) hHeld ?_
              refine tk 3 (some 69) (tf 4 43) (take_ofW HT_.out HW_.out (by kernel_rfl)) hHeld ?_
              refine pv HT_ 4 70 (tf 5 42) ?_
              refine pv HT_ 5 71 (tf 6 41) ?_
              refine pv HT_ 6 72 (tf 7 40) ?_
              refine pv HT_ 8 74 (tr [7, 1, 1, 38]) ?_
              refine tk 7 (some 73) (tf 9 38) (take_ofW HT_.out HW_.out (by kernel_rfl)) hHeld ?_
              refine tk 9 (some 75) (tf 10 37) (take_ofW HT_.out HW_.out (by kernel_rfl)) hHeld ?_
              refine pv HT_ 10 76 (tf 11 36) ?_
              refine pv HT_ 11 77 (tf 12 35) ?_
              refine pv HT_ 12 78 (tf 13 34) ?_
              refine pw HT_ 13 79 (tf 14 33) ?_
              refine pw HT_ 14 80 (tf 15 32) ?_
              refine pw HT_ 15 81 (tf 16 31) ?_
              refine pw HT_ 16 82 (tf 17 30) ?_
              refine pw HT_ 17 83 (tf 18 29) ?_
              refine pv HT_ 18 84 (tf 19 28) ?_
              refine pv HT_ 19 85 (tf 20 27) ?_
              refine pw HT_ 20 86 (tf 21 26) ?_
              refine pw HT_ 21 87 (tf 22 25) ?_
              refine pw HT_ 22 88 (tf 23 24) ?_
              refine pw HT_ 23 89 (tf 24 23) ?_
              refine pw HT_ 24 90 (tf 25 22) ?_
              refine pw HT_ 25 91 (tf 26 21) ?_
              refine pw HT_ 26 92 (tf 27 20) ?_
              refine pw HT_ 27 93 (tf 28 19) ?_
              refine pw HT_ 28 94 (tf 29 18) ?_
              refine pw HT_ 29 95 (tf 30 17) ?_
              refine pw HT_ 30 96 (tf 31 16) ?_
              refine pw HT_ 31 97 (tf 32 15) ?_
              refine pv HT_ 32 98 (tf 33 14) ?_
              refine pv HT_ 33 99 (tf 34 13) ?_
              refine pw HT_ 34 100 (tf 35 12) ?_
              refine pw HT_ 35 101 (tf 36 11) ?_
              refine pw HT_ 36 102 (tf 37 10) ?_
              refine pw HT_ 37 103 (tf 38 9) ?_
              refine pw HT_ 38 104 (tf 39 8) ?_
              refine pw HT_ 39 105 (tf 40 7) ?_
              refine pw HT_ 40 106 (tf 41 6) ?_
              refine pw HT_ 41 107 (tf 42 5) ?_
              refine pw HT_ 42 108 (tf 43 4) ?_
              refine pw HT_ 43 109 (tf 44 3) ?_
              refine pw HT_ 44 110 (tf 45 2) ?_
              refine pw HT_ 45 111 (tf 46 1) ?_
              refine pv HT_ 46 112 (tf 47 0) ?_
              refine done_ (done_of HT_.out (by kernel_rfl)) ?_
              try go_wp2
              go_meet
              case rel => exact ⟨_, (true), (by first | rfl | (simp; done) | (simp [*]; done)), H', ⟨by have := HJ2.out; have := HJ8.out; have := HK3.out; first | omega | exact Nat.le_refl _⟩, ⟨KR HO_5⟩, ⟨KR HO_6⟩, ⟨KB BK124⟩, ⟨K1 HB GE124.out⟩⟩
             ·rw [if_neg c35] at H
              have c35b0 : decide (((rd_T80 t104 x10_3).f3) < ((rd_T80 t104 x10_3).f2)) = false := decide_eq_false c35
              clear c35
              by_cases c38 : ((rd_T80 t104 x10_3).f4) > ((rd_T80 t104 x10_3).f5)
              ·rw [if_pos c38] at H
               have c38b0 : decide (((rd_T80 t104 x10_3).f5) < ((rd_T80 t104 x10_3).f4)) = true := decide_eq_true c38
               clear c38
               have H' := Aside0.mk H
               clear H
               try go_wp2
               generalize hq_ : (((((((w30.setCell ⟨gb124, 0, none⟩ (.int .i64 ((rd_T80 t104 x10_3).f0))).setCell ⟨gb124, 1, none⟩ (.int .i64 ((rd_T80 t104 x10_3).f1))).setCell ⟨gb124, 2, none⟩ (.int .i64 ((rd_T80 t104 x10_3).f2))).setCell ⟨gb124, 3, none⟩ (.int .i64 ((rd_T80 t104 x10_3).f3))).setCell ⟨gb124, 4, none⟩ (.int .i64 ((rd_T80 t104 x10_3).f4))).setCell ⟨gb124, 5, none⟩ (.int .i64 ((rd_T80 t104 x10_3).f5))).setCell ⟨gb124, 6, none⟩ (.int .i64 ((rd_T80 t104 x10_3).f6))) = w39
               have n0_ : Aside0 (Kd.R k71 71 w39 w.heap.size (fun _ => True) (.slice Ao11 t101.length co11) t101) := ⟨by rw [← hq_]; (with_reducible repeat (first | apply Kd.R_alloc | apply Kd.R_drewN | apply Kd.R_drew)); exact Kd.R_mono (Kd.R_far (p := ⟨gb124, 6, none⟩) (Kd.R_far (p := ⟨gb124, 5, none⟩) (Kd.R_far (p := ⟨gb124, 4, none⟩) (Kd.R_far (p := ⟨gb124, 3, none⟩) (Kd.R_far (p := ⟨gb124, 2, none⟩) (Kd.R_far (p := ⟨gb124, 1, none⟩) (Kd.R_far (p := ⟨gb124, 0, none⟩) (Kd.R_types HO_5.out BK124.out (by decide)) (fun _ hk => hk.2) (.int .i64 ((rd_T80 t104 x10_3).f0))) (fun _ hk => hk.2) (.int .i64 ((rd_T80 t104 x10_3).f1))) (fun _ hk => hk.2) (.int .i64 ((rd_T80 t104 x10_3).f2))) (fun _ hk => hk.2) (.int .i64 ((rd_T80 t104 x10_3).f3))) (fun _ hk => hk.2) (.int .i64 ((rd_T80 t104 x10_3).f4))) (fun _ hk => hk.2) (.int .i64 ((rd_T80 t104 x10_3).f5))) (fun _ hk => hk.2) (.int .i64 ((rd_T80 t104 x10_3).f6))) (fun _ hk => trivial)⟩
               have n1_ : Aside0 (Kd.R k80 80 w39 w.heap.size (fun k_ => k_ ≠ gb124) (.slice (some ad123) t104.length co29) t104) := ⟨by rw [← hq_]; (with_reducible repeat (first | apply Kd.R_alloc | apply Kd.R_drewN | apply Kd.R_drew)); exact Kd.R_mono (Kd.R_far (p := ⟨gb124, 6, none⟩) (Kd.R_far (p := ⟨gb124, 5, none⟩) (Kd.R_far (p := ⟨gb124, 4, none⟩) (Kd.R_far (p := ⟨gb124, 3, none⟩) (Kd.R_far (p := ⟨gb124, 2, none⟩) (Kd.R_far (p := ⟨gb124, 1, none⟩) (Kd.R_far (p := ⟨gb124, 0, none⟩) (Kd.R_mono HO_6.out (fun k_ hk => (⟨hk, hk.2⟩ : _ ∧ k_ ≠ gb124))) (fun _ hk => hk.2) (.int .i64 ((rd_T80 t104 x10_3).f0))) (fun _ hk => hk.2) (.int .i64 ((rd_T80 t104 x10_3).f1))) (fun _ hk => hk.2) (.int .i64 ((rd_T80 t104 x10_3).f2))) (fun _ hk => hk.2) (.int .i64 ((rd_T80 t104 x10_3).f3))) (fun _ hk => hk.2) (.int .i64 ((rd_T80 t104 x10_3).f4))) (fun _ hk => hk.2) (.int .i64 ((rd_T80 t104 x10_3).f5))) (fun _ hk => hk.2) (.int .i64 ((rd_T80 t104 x10_3).f6))) (fun _ hk => hk.1.2)⟩
               have n2_ : Aside0 (w39.heap[gb124]? = some (.cells #[.int .i64 ((rd_T80 t104 x10_3).f0), .int .i64 ((rd_T80 t104 x10_3).f1), .int .i64 ((rd_T80 t104 x10_3).f2), .int .i64 ((rd_T80 t104 x10_3).f3), .int .i64 ((rd_T80 t104 x10_3).f4), .int .i64 ((rd_T80 t104 x10_3).f5), .int .i64 ((rd_T80 t104 x10_3).f6)] 80 (0, 0))) := ⟨by rw [← hq_]; (with_reducible repeat (first | refine blk_drewN ?_ _ | refine blk_drew ?_ | refine blk_alloc ?_ _)); refine blk_put (cs := #[.int .i64 ((rd_T80 t104 x10_3).f0), .int .i64 ((rd_T80 t104 x10_3).f1), .int .i64 ((rd_T80 t104 x10_3).f2), .int .i64 ((rd_T80 t104 x10_3).f3), .int .i64 ((rd_T80 t104 x10_3).f4), .int .i64 ((rd_T80 t104 x10_3).f5), .int .i64 0]) ?_ 6 _ rfl; (with_reducible repeat (first | refine blk_drewN ?_ _ | refine blk_drew ?_ | refine blk_alloc ?_ _)); refine blk_put (cs := #[.int .i64 ((rd_T80 t104 x10_3).f0), .int .i64 ((rd_T80 t104 x10_3).f1), .int .i64 ((rd_T80 t104 x10_3).f2), .int .i64 ((rd_T80 t104 x10_3).f3), .int .i64 ((rd_T80 t104 x10_3).f4), .int .i64 0, .int .i64 0]) ?_ 5 _ rfl; (with_reducible repeat (first | refine blk_drewN ?_ _ | refine blk_drew ?_ | refine blk_alloc ?_ _)); refine blk_put (cs := #[.int .i64 ((rd_T80 t104 x10_3).f0), .int .i64 ((rd_T80 t104 x10_3).f1), .int .i64 ((rd_T80 t104 x10_3).f2), .int .i64 ((rd_T80 t104 x10_3).f3), .int .i64 0, .int .i64 0, .int .i64 0]) ?_ 4 _ rfl; (with_reducible repeat (first | refine blk_drewN ?_ _ | refine blk_drew ?_ | refine blk_alloc ?_ _)); refine blk_put (cs := #[.int .i64 ((rd_T80 t104 x10_3).f0), .int .i64 ((rd_T80 t104 x10_3).f1), .int .i64 ((rd_T80 t104 x10_3).f2), .int .i64 0, .int .i64 0, .int .i64 0, .int .i64 0]) ?_ 3 _ rfl; (with_reducible repeat (first | refine blk_drewN ?_ _ | refine blk_drew ?_ | refine blk_alloc ?_ _)); refine blk_put (cs := #[.int .i64 ((rd_T80 t104 x10_3).f0), .int .i64 ((rd_T80 t104 x10_3).f1), .int .i64 0, .int .i64 0, .int .i64 0, .int .i64 0, .int .i64 0]) ?_ 2 _ rfl; (with_reducible repeat (first | refine blk_drewN ?_ _ | refine blk_drew ?_ | refine blk_alloc ?_ _)); refine blk_put (cs := #[.int .i64 ((rd_T80 t104 x10_3).f0), .int .i64 0, .int .i64 0, .int .i64 0, .int .i64 0, .int .i64 0, .int .i64 0]) ?_ 1 _ rfl; (with_reducible repeat (first | refine blk_drewN ?_ _ | refine blk_drew ?_ | refine blk_alloc ?_ _)); refine blk_put (cs := #[.int .i64 0, .int .i64 0, .int .i64 0, .int .i64 0, .int .i64 0, .int .i64 0, .int .i64 0]) ?_ 0 _ rfl; (with_reducible repeat (first | refine blk_drewN ?_ _ | refine blk_drew ?_ | refine blk_alloc ?_ _)); exact BK124.out⟩
               have n3_ : Aside0 (Below w.heap.size w w39) := ⟨by rw [← hq_]; exact K1 HB GE124.out⟩
               clear hq_
               (try clear HO_5)
               (try clear HO_6)
               (try clear BK124)
               (try clear HB)
               have HO_5 := n0_
               have HO_6 := n1_
               have BK124 := n2_
               have HB := n3_
               clear n0_ n1_ n2_ n3_
               replace HO_5 := am (Kd.R_drew HO_5.out)
               replace HO_6 := am (Kd.R_drew HO_6.out)
               replace BK124 := am (blk_drew BK124.out)
               replace HB := am (below_drew1 HB.out)
               refine start_ (n := 47) (S := fun w' => de7 w' gb124 (.int .i64 ((rd_T80 t104 x10_3).f0)) (.int .i64 ((rd_T80 t104 x10_3).f1)) (.int .i64 ((rd_T80 t104 x10_3).f2)) (.int .i64 ((rd_T80 t104 x10_3).f3)) (.int .i64 ((rd_T80 t104 x10_3).f4)) (.int .i64 ((rd_T80 t104 x10_3).f5)) (.int .i64 ((rd_T80 t104 x10_3).f6))) (ds := []) (tf 0 47) (by kernel_rfl) rfl rfl ⟨z0 _ BK124.out, z1 _ BK124.out, z2 _ BK124.out, z3 _ BK124.out, z4 _ BK124.out, z5 _ BK124.out, z6 _ BK124.out⟩ (fun hHeld => ?_); refine with_tabW laws_FnCells.tab12 laws_FnCells.bits12 (fun HT_ HW_ => ?_)
               generalize w39.drew = w40 at HO_5 HO_6 BK124 HB hHeld ⊢
               refine pv HT_ 0 66 (tf 1 46) ?_
               refine pv HT_ 2 68 (tr [1, 1, 1, 44]) ?_
               refine tk 1 (some 67) (tf 3 44) (take_ofW HT_.out HW_.out (by kernel_rfl)) hHeld ?_
               refine tk 3 (some 69) (tf 4 43) (take_ofW HT_.out HW_.out (by kernel_rfl)) hHeld ?_
               refine pv HT_ 4 70 (tf 5 42) ?_
               refine pv HT_ 5 71 (tf 6 41) ?_
               refine pv HT_ 6 72 (tf 7 40) ?_
               refine pv HT_ 8 74 (tr [7, 1, 1, 38]) ?_
               refine tk 7 (some 73) (tf 9 38) (take_ofW HT_.out HW_.out (by kernel_rfl)) hHeld ?_
               refine tk 9 (some 75) (tf 10 37) (take_ofW HT_.out HW_.out (by kernel_rfl)) hHeld ?_
               refine pv HT_ 10 76 (tf 11 36) ?_
               refine pv HT_ 11 77 (tf 12 35) ?_
               refine pv HT_ 12 78 (tf 13 34) ?_
               refine pv HT_ 13 79 (tf 14 33) ?_
               refine pv HT_ 15 81 (tr [14, 1, 1, 31]) ?_
               refine tk 14 (some 80) (tf 16 31) (take_ofW HT_.out HW_.out (by kernel_rfl)) hHeld ?_
               refine tk 16 (some 82) (tf 17 30) (take_ofW HT_.out HW_.out (by kernel_rfl)) hHeld ?_
               refine pv HT_ 17 83 (tf 18 29) ?_
               refine pv HT_ 18 84 (tf 19 28) ?_
               refine pv HT_ 19 85 (tf 20 27) ?_
               refine pw HT_ 20 86 (tf 21 26) ?_
               refine pw HT_ 21 87 (tf 22 25) ?_
               refine pw HT_ 22 88 (tf 23 24) ?_
               refine pw HT_ 23 89 (tf 24 23) ?_
               refine pw HT_ 24 90 (tf 25 22) ?_
               refine pw HT_ 25 91 (tf 26 21) ?_
               refine pw HT_ 26 92 (tf 27 20) ?_
               refine pw HT_ 27 93 (tf 28 19) ?_
               refine pw HT_ 28 94 (tf 29 18) ?_
               refine pw HT_ 29 95 (tf 30 17) ?_
               refine pw HT_ 30 96 (tf 31 16) ?_
               refine pw HT_ 31 97 (tf 32 15) ?_
               refine pv HT_ 32 98 (tf 33 14) ?_
               refine pv HT_ 33 99 (tf 34 13) ?_
               refine pw HT_ 34 100 (tf 35 12) ?_
               refine pw HT_ 35 101 (tf 36 11) ?_
               refine pw HT_ 36 102 (tf 37 10) ?_
               refine pw HT_ 37 103 (tf 38 9) ?_
               refine pw HT_ 38 104 (tf 39 8) ?_
               refine pw HT_ 39 105 (tf 40 7) ?_
               refine pw HT_ 40 106 (tf 41 6) ?_
               refine pw HT_ 41 107 (tf 42 5) ?_
               refine pw HT_ 42 108 (tf 43 4) ?_
               refine pw HT_ 43 109 (tf 44 3) ?_
               refine pw HT_ 44 110 (tf 45 2) ?_
               refine pw HT_ 45 111 (tf 46 1) ?_
               refine pv HT_ 46 112 (tf 47 0) ?_
               refine done_ (done_of HT_.out (by kernel_rfl)) ?_
               try go_wp2
               go_meet
               case rel => exact ⟨_, (true), (by first | rfl | (simp; done) | (simp [*]; done)), H', ⟨by have := HJ2.out; have := HJ8.out; have := HK3.out; first | omega | exact Nat.le_refl _⟩, ⟨KR HO_5⟩, ⟨KR HO_6⟩, ⟨KB BK124⟩, ⟨K1 HB GE124.out⟩⟩
              ·rw [if_neg c38] at H
               have c38b0 : decide (((rd_T80 t104 x10_3).f5) < ((rd_T80 t104 x10_3).f4)) = false := decide_eq_false c38
               clear c38
               replace H := Option.bind_eq_some_iff.mp H
               obtain ⟨t125, A410, H⟩ := H
               replace H : (if t125 = ((rd_T80 t104 x10_3).f6) then ((impl_RulesFirst.f k3 t101 ((rd_T80 t104 x10_3).f1) ((rd_T80 t104 x10_3).f2) ((rd_T80 t104 x10_3).f5)).bind fun t126 => (laws_FnCells.j3 k3 l1 t101 t104 x10_3 (t126 != ((rd_T80 t104 x10_3).f6)) ((rd_T80 t104 x10_3).f0) ((rd_T80 t104 x10_3).f1) ((rd_T80 t104 x10_3).f2) ((rd_T80 t104 x10_3).f3) ((rd_T80 t104 x10_3).f4) ((rd_T80 t104 x10_3).f5) ((rd_T80 t104 x10_3).f6))) else (laws_FnCells.j3 k3 l1 t101 t104 x10_3 true ((rd_T80 t104 x10_3).f0) ((rd_T80 t104 x10_3).f1) ((rd_T80 t104 x10_3).f2) ((rd_T80 t104 x10_3).f3) ((rd_T80 t104 x10_3).f4) ((rd_T80 t104 x10_3).f5) ((rd_T80 t104 x10_3).f6))) = some r := H
               have A41 := Aside0.mk A410
               clear A410
               by_cases c42 : t125 = ((rd_T80 t104 x10_3).f6)
               ·rw [if_pos c42] at H
                have c42b0 : (t125 == ((rd_T80 t104 x10_3).f6)) = true := beq_iff_eq.mpr c42
                have c42b1 : (t125 != ((rd_T80 t104 x10_3).f6)) = false := bne_eq_false_iff_eq.mpr c42
                clear c42
                replace H := Option.bind_eq_some_iff.mp H
                obtain ⟨t126, A430, H⟩ := H
                replace H : (laws_FnCells.j3 k3 l1 t101 t104 x10_3 (t126 != ((rd_T80 t104 x10_3).f6)) ((rd_T80 t104 x10_3).f0) ((rd_T80 t104 x10_3).f1) ((rd_T80 t104 x10_3).f2) ((rd_T80 t104 x10_3).f3) ((rd_T80 t104 x10_3).f4) ((rd_T80 t104 x10_3).f5) ((rd_T80 t104 x10_3).f6)) = some r := H
                have A43 := Aside0.mk A430
                clear A430
                have H' := Aside0.mk H
                clear H
                try go_wp2
                generalize hq_ : (((((((w30.setCell ⟨gb124, 0, none⟩ (.int .i64 ((rd_T80 t104 x10_3).f0))).setCell ⟨gb124, 1, none⟩ (.int .i64 ((rd_T80 t104 x10_3).f1))).setCell ⟨gb124, 2, none⟩ (.int .i64 ((rd_T80 t104 x10_3).f2))).setCell ⟨gb124, 3, none⟩ (.int .i64 ((rd_T80 t104 x10_3).f3))).setCell ⟨gb124, 4, none⟩ (.int .i64 ((rd_T80 t104 x10_3).f4))).setCell ⟨gb124, 5, none⟩ (.int .i64 ((rd_T80 t104 x10_3).f5))).setCell ⟨gb124, 6, none⟩ (.int .i64 ((rd_T80 t104 x10_3).f6))) = w44
                have n0_ : Aside0 (Kd.R k71 71 w44 w.heap.size (fun _ => True) (.slice Ao11 t101.length co11) t101) := ⟨by rw [← hq_]; (with_reducible repeat (first | apply Kd.R_alloc | apply Kd.R_drewN | apply Kd.R_drew)); exact Kd.R_mono (Kd.R_far (p := ⟨gb124, 6, none⟩) (Kd.R_far (p := ⟨gb124, 5, none⟩) (Kd.R_far (p := ⟨gb124, 4, none⟩) (Kd.R_far (p := ⟨gb124, 3, none⟩) (Kd.R_far (p := ⟨gb124, 2, none⟩) (Kd.R_far (p := ⟨gb124, 1, none⟩) (Kd.R_far (p := ⟨gb124, 0, none⟩) (Kd.R_types HO_5.out BK124.out (by decide)) (fun _ hk => hk.2) (.int .i64 ((rd_T80 t104 x10_3).f0))) (fun _ hk => hk.2) (.int .i64 ((rd_T80 t104 x10_3).f1))) (fun _ hk => hk.2) (.int .i64 ((rd_T80 t104 x10_3).f2))) (fun _ hk => hk.2) (.int .i64 ((rd_T80 t104 x10_3).f3))) (fun _ hk => hk.2) (.int .i64 ((rd_T80 t104 x10_3).f4))) (fun _ hk => hk.2) (.int .i64 ((rd_T80 t104 x10_3).f5))) (fun _ hk => hk.2) (.int .i64 ((rd_T80 t104 x10_3).f6))) (fun _ hk => trivial)⟩
                have n1_ : Aside0 (Kd.R k80 80 w44 w.heap.size (fun k_ => k_ ≠ gb124) (.slice (some ad123) t104.length co29) t104) := ⟨by rw [← hq_]; (with_reducible repeat (first | apply Kd.R_alloc | apply Kd.R_drewN | apply Kd.R_drew)); exact Kd.R_mono (Kd.R_far (p := ⟨gb124, 6, none⟩) (Kd.R_far (p := ⟨gb124, 5, none⟩) (Kd.R_far (p := ⟨gb124, 4, none⟩) (Kd.R_far (p := ⟨gb124, 3, none⟩) (Kd.R_far (p := ⟨gb124, 2, none⟩) (Kd.R_far (p := ⟨gb124, 1, none⟩) (Kd.R_far (p := ⟨gb124, 0, none⟩) (Kd.R_mono HO_6.out (fun k_ hk => (⟨hk, hk.2⟩ : _ ∧ k_ ≠ gb124))) (fun _ hk => hk.2) (.int .i64 ((rd_T80 t104 x10_3).f0))) (fun _ hk => hk.2) (.int .i64 ((rd_T80 t104 x10_3).f1))) (fun _ hk => hk.2) (.int .i64 ((rd_T80 t104 x10_3).f2))) (fun _ hk => hk.2) (.int .i64 ((rd_T80 t104 x10_3).f3))) (fun _ hk => hk.2) (.int .i64 ((rd_T80 t104 x10_3).f4))) (fun _ hk => hk.2) (.int .i64 ((rd_T80 t104 x10_3).f5))) (fun _ hk => hk.2) (.int .i64 ((rd_T80 t104 x10_3).f6))) (fun _ hk => hk.1.2)⟩
                have n2_ : Aside0 (w44.heap[gb124]? = some (.cells #[.int .i64 ((rd_T80 t104 x10_3).f0), .int .i64 ((rd_T80 t104 x10_3).f1), .int .i64 ((rd_T80 t104 x10_3).f2), .int .i64 ((rd_T80 t104 x10_3).f3), .int .i64 ((rd_T80 t104 x10_3).f4), .int .i64 ((rd_T80 t104 x10_3).f5), .int .i64 ((rd_T80 t104 x10_3).f6)] 80 (0, 0))) := ⟨by rw [← hq_]; (with_reducible repeat (first | refine blk_drewN ?_ _ | refine blk_drew ?_ | refine blk_alloc ?_ _)); refine blk_put (cs := #[.int .i64 ((rd_T80 t104 x10_3).f0), .int .i64 ((rd_T80 t104 x10_3).f1), .int .i64 ((rd_T80 t104 x10_3).f2), .int .i64 ((rd_T80 t104 x10_3).f3), .int .i64 ((rd_T80 t104 x10_3).f4), .int .i64 ((rd_T80 t104 x10_3).f5), .int .i64 0]) ?_ 6 _ rfl; (with_reducible repeat (first | refine blk_drewN ?_ _ | refine blk_drew ?_ | refine blk_alloc ?_ _)); refine blk_put (cs := #[.int .i64 ((rd_T80 t104 x10_3).f0), .int .i64 ((rd_T80 t104 x10_3).f1), .int .i64 ((rd_T80 t104 x10_3).f2), .int .i64 ((rd_T80 t104 x10_3).f3), .int .i64 ((rd_T80 t104 x10_3).f4), .int .i64 0, .int .i64 0]) ?_ 5 _ rfl; (with_reducible repeat (first | refine blk_drewN ?_ _ | refine blk_drew ?_ | refine blk_alloc ?_ _)); refine blk_put (cs := #[.int .i64 ((rd_T80 t104 x10_3).f0), .int .i64 ((rd_T80 t104 x10_3).f1), .int .i64 ((rd_T80 t104 x10_3).f2), .int .i64 ((rd_T80 t104 x10_3).f3), .int .i64 0, .int .i64 0, .int .i64 0]) ?_ 4 _ rfl; (with_reducible repeat (first | refine blk_drewN ?_ _ | refine blk_drew ?_ | refine blk_alloc ?_ _)); refine blk_put (cs := #[.int .i64 ((rd_T80 t104 x10_3).f0), .int .i64 ((rd_T80 t104 x10_3).f1), .int .i64 ((rd_T80 t104 x10_3).f2), .int .i64 0, .int .i64 0, .int .i64 0, .int .i64 0]) ?_ 3 _ rfl; (with_reducible repeat (first | refine blk_drewN ?_ _ | refine blk_drew ?_ | refine blk_alloc ?_ _)); refine blk_put (cs := #[.int .i64 ((rd_T80 t104 x10_3).f0), .int .i64 ((rd_T80 t104 x10_3).f1), .int .i64 0, .int .i64 0, .int .i64 0, .int .i64 0, .int .i64 0]) ?_ 2 _ rfl; (with_reducible repeat (first | refine blk_drewN ?_ _ | refine blk_drew ?_ | refine blk_alloc ?_ _)); refine blk_put (cs := #[.int .i64 ((rd_T80 t104 x10_3).f0), .int .i64 0, .int .i64 0, .int .i64 0, .int .i64 0, .int .i64 0, .int .i64 0]) ?_ 1 _ rfl; (with_reducible repeat (first | refine blk_drewN ?_ _ | refine blk_drew ?_ | refine blk_alloc ?_ _)); refine blk_put (cs := #[.int .i64 0, .int .i64 0, .int .i64 0, .int .i64 0, .int .i64 0, .int .i64 0, .int .i64 0]) ?_ 0 _ rfl; (with_reducible repeat (first | refine blk_drewN ?_ _ | refine blk_drew ?_ | refine blk_alloc ?_ _)); exact BK124.out⟩
                have n3_ : Aside0 (Below w.heap.size w w44) := ⟨by rw [← hq_]; exact K1 HB GE124.out⟩
                clear hq_
                (try clear HO_5)
                (try clear HO_6)
                (try clear BK124)
                (try clear HB)
                have HO_5 := n0_
                have HO_6 := n1_
                have BK124 := n2_
                have HB := n3_
                clear n0_ n1_ n2_ n3_
                replace HO_5 := am (Kd.R_drew HO_5.out)
                replace HO_6 := am (Kd.R_drew HO_6.out)
                replace BK124 := am (blk_drew BK124.out)
                replace HB := am (below_drew1 HB.out)
                refine start_ (n := 47) (S := fun w' => de7 w' gb124 (.int .i64 ((rd_T80 t104 x10_3).f0)) (.int .i64 ((rd_T80 t104 x10_3).f1)) (.int .i64 ((rd_T80 t104 x10_3).f2)) (.int .i64 ((rd_T80 t104 x10_3).f3)) (.int .i64 ((rd_T80 t104 x10_3).f4)) (.int .i64 ((rd_T80 t104 x10_3).f5)) (.int .i64 ((rd_T80 t104 x10_3).f6))) (ds := []) (tf 0 47) (by kernel_rfl) rfl rfl ⟨z0 _ BK124.out, z1 _ BK124.out, z2 _ BK124.out, z3 _ BK124.out, z4 _ BK124.out, z5 _ BK124.out, z6 _ BK124.out⟩ (fun hHeld => ?_); refine with_tabW laws_FnCells.tab12 laws_FnCells.bits12 (fun HT_ HW_ => ?_)
                generalize w44.drew = w45 at HO_5 HO_6 BK124 HB hHeld ⊢
                refine pv HT_ 0 66 (tf 1 46) ?_
                refine pv HT_ 2 68 (tr [1, 1, 1, 44]) ?_
                refine tk 1 (some 67) (tf 3 44) (take_ofW HT_.out HW_.out (by kernel_rfl)) hHeld ?_
                refine tk 3 (some 69) (tf 4 43) (take_ofW HT_.out HW_.out (by kernel_rfl)) hHeld ?_
                refine pv HT_ 4 70 (tf 5 42) ?_
                refine pv HT_ 5 71 (tf 6 41) ?_
                refine pv HT_ 6 72 (tf 7 40) ?_
                refine pv HT_ 8 74 (tr [7, 1, 1, 38]) ?_
                refine tk 7 (some 73) (tf 9 38) (take_ofW HT_.out HW_.out (by kernel_rfl)) hHeld ?_
                refine tk 9 (some 75) (tf 10 37) (take_ofW HT_.out HW_.out (by kernel_rfl)) hHeld ?_
                refine pv HT_ 10 76 (tf 11 36) ?_
                refine pv HT_ 11 77 (tf 12 35) ?_
                refine pv HT_ 12 78 (tf 13 34) ?_
                refine pv HT_ 13 79 (tf 14 33) ?_
                refine pv HT_ 15 81 (tr [14, 1, 1, 31]) ?_
                refine tk 14 (some 80) (tf 16 31) (take_ofW HT_.out HW_.out (by kernel_rfl)) hHeld ?_
                refine tk 16 (some 82) (tf 17 30) (take_ofW HT_.out HW_.out (by kernel_rfl)) hHeld ?_
                refine pv HT_ 17 83 (tf 18 29) ?_
                refine pv HT_ 18 84 (tf 19 28) ?_
                refine pv HT_ 19 85 (tf 20 27) ?_
                refine pv HT_ 20 86 (tf 21 26) ?_
                refine pv HT_ 21 87 (tf 22 25) ?_
                refine pv HT_ 23 89 (tr [22, 1, 1, 23]) ?_
                refine pv HT_ 25 91 (tr [22, 1, 1, 1, 1, 21]) ?_
                refine pv HT_ 29 95 (tr [22, 1, 1, 1, 1, 3, 1, 17]) ?_
                refine tk 22 (some 88) (tr [24, 1, 1, 3, 1, 17]) (take_ofW HT_.out HW_.out (by kernel_rfl)) hHeld ?_
                refine tk 24 (some 90) (tr [26, 3, 1, 17]) (take_ofW HT_.out HW_.out (by kernel_rfl)) hHeld ?_
                refine tk 26 (some 92) (tr [27, 2, 1, 17]) (take_ofW HT_.out HW_.out (by kernel_rfl)) hHeld ?_
                refine pv HT_ 27 93 (tr [28, 1, 1, 17]) ?_
                refine tk 30 (some 96) (tr [28, 1, 2, 16]) (take_ofW HT_.out HW_.out (by kernel_rfl)) hHeld ?_
                refine one_ (i := 28) (N := some 94) (tf 31 16) rfl rfl (one_of HT_.out (by kernel_rfl)) (by decide) (fun K hK => ?_)
                refine goes_ Try.func47 (by kernel_rfl) rfl #[.slice Ao11 t101.length co11, .agg #[.int .i64 ((rd_T80 t104 x10_3).f0), .int .i64 ((rd_T80 t104 x10_3).f3), .int .i64 ((rd_T80 t104 x10_3).f4)]] (by rfl) rfl rfl MT ?_
                with_reducible refine (impl_RulesFirst.calls k3 _ _ t101 ((rd_T80 t104 x10_3).f0) ((rd_T80 t104 x10_3).f3) ((rd_T80 t104 x10_3).f4) t125 _ ?side1 ?side2 A41.out).mono ?_
                (case side1 => exact KC (Kd.R_reads' HO_5.out).2.2)
                (case side2 => exact (Kd.R_reads' HO_5.out).2.1)
                rintro e w46 ⟨rfl, hb⟩
                refine ⟨_, rfl, ?_⟩
                replace HO_5 := am (Kd.R_below (KR HO_5) hb)
                replace HO_6 := am (Kd.R_below (KR HO_6) hb)
                replace BK124 := am (BB BK124 hb)
                replace HB := am (below_step (K1 HB GE124.out) hb)
                (try clear hb)
                (try clear hb2)
                (try clear hk)
                (try clear hi)
                refine hK.out _ _ ⟨z0 _ BK124.out, z1 _ BK124.out, z2 _ BK124.out, z3 _ BK124.out, z4 _ BK124.out, z5 _ BK124.out, z6 _ BK124.out⟩ (fun hHeld => ?_)
                clear hK K
                refine norm_ (a' := ?_) ?_ ?_
                rotate_left
                ·show Act.put _ (some 94) _ = _
                 simp only [Act.put, List.setIfInBounds_toArray, List.set_cons_zero, List.set_cons_succ, i64_w, i32_w]
                 rfl
                refine pv HT_ 31 97 (tf 32 15) ?_
                refine pv HT_ 32 98 (tf 33 14) ?_
                refine pv HT_ 33 99 (tf 34 13) ?_
                refine pv HT_ 34 100 (tf 35 12) ?_
                refine pv HT_ 35 101 (tf 36 11) ?_
                refine pv HT_ 37 103 (tr [36, 1, 1, 9]) ?_
                refine pv HT_ 39 105 (tr [36, 1, 1, 1, 1, 7]) ?_
                refine pv HT_ 43 109 (tr [36, 1, 1, 1, 1, 3, 1, 3]) ?_
                refine tk 36 (some 102) (tr [38, 1, 1, 3, 1, 3]) (take_ofW HT_.out HW_.out (by kernel_rfl)) hHeld ?_
                refine tk 38 (some 104) (tr [40, 3, 1, 3]) (take_ofW HT_.out HW_.out (by kernel_rfl)) hHeld ?_
                refine tk 40 (some 106) (tr [41, 2, 1, 3]) (take_ofW HT_.out HW_.out (by kernel_rfl)) hHeld ?_
                refine pv HT_ 41 107 (tr [42, 1, 1, 3]) ?_
                refine tk 44 (some 110) (tr [42, 1, 2, 2]) (take_ofW HT_.out HW_.out (by kernel_rfl)) hHeld ?_
                refine one_ (i := 42) (N := some 108) (tf 45 2) rfl rfl (one_of HT_.out (by kernel_rfl)) (by decide) (fun K hK => ?_)
                refine goes_ Try.func47 (by kernel_rfl) rfl #[.slice Ao11 t101.length co11, .agg #[.int .i64 ((rd_T80 t104 x10_3).f1), .int .i64 ((rd_T80 t104 x10_3).f2), .int .i64 ((rd_T80 t104 x10_3).f5)]] (by rfl) rfl rfl MT ?_
                with_reducible refine (impl_RulesFirst.calls k3 _ _ t101 ((rd_T80 t104 x10_3).f1) ((rd_T80 t104 x10_3).f2) ((rd_T80 t104 x10_3).f5) t126 _ ?side1 ?side2 A43.out).mono ?_
                (case side1 => exact KC (Kd.R_reads' HO_5.out).2.2)
                (case side2 => exact (Kd.R_reads' HO_5.out).2.1)
                rintro e w47 ⟨rfl, hb⟩
                refine ⟨_, rfl, ?_⟩
                replace HO_5 := am (Kd.R_below (KR HO_5) hb)
                replace HO_6 := am (Kd.R_below (KR HO_6) hb)
                replace BK124 := am (BB BK124 hb)
                replace HB := am (below_step (K1 HB GE124.out) hb)
                (try clear hb)
                (try clear hb2)
                (try clear hk)
                (try clear hi)
                refine hK.out _ _ ⟨z0 _ BK124.out, z1 _ BK124.out, z2 _ BK124.out, z3 _ BK124.out, z4 _ BK124.out, z5 _ BK124.out, z6 _ BK124.out⟩ (fun hHeld => ?_)
                clear hK K
                refine norm_ (a' := ?_) ?_ ?_
                rotate_left
                ·show Act.put _ (some 108) _ = _
                 simp only [Act.put, List.setIfInBounds_toArray, List.set_cons_zero, List.set_cons_succ, i64_w, i32_w]
                 rfl
                refine pv HT_ 45 111 (tf 46 1) ?_
                refine pv HT_ 46 112 (tf 47 0) ?_
                refine done_ (done_of HT_.out (by kernel_rfl)) ?_
                try go_wp2
                go_meet
                case rel => exact ⟨_, ((t126 != ((rd_T80 t104 x10_3).f6))), (by first | rfl | (simp; done) | (simp [*]; done)), H', ⟨by have := HJ2.out; have := HJ8.out; have := HK3.out; first | omega | exact Nat.le_refl _⟩, ⟨KR HO_5⟩, ⟨KR HO_6⟩, ⟨KB BK124⟩, ⟨K1 HB GE124.out⟩⟩
               ·rw [if_neg c42] at H
                have c42b0 : (t125 == ((rd_T80 t104 x10_3).f6)) = false := beq_eq_false_iff_ne.mpr c42
                have c42b1 : (t125 != ((rd_T80 t104 x10_3).f6)) = true := bne_iff_ne.mpr c42
                have H' := Aside0.mk H
                clear H
                try go_wp2
                generalize hq_ : (((((((w30.setCell ⟨gb124, 0, none⟩ (.int .i64 ((rd_T80 t104 x10_3).f0))).setCell ⟨gb124, 1, none⟩ (.int .i64 ((rd_T80 t104 x10_3).f1))).setCell ⟨gb124, 2, none⟩ (.int .i64 ((rd_T80 t104 x10_3).f2))).setCell ⟨gb124, 3, none⟩ (.int .i64 ((rd_T80 t104 x10_3).f3))).setCell ⟨gb124, 4, none⟩ (.int .i64 ((rd_T80 t104 x10_3).f4))).setCell ⟨gb124, 5, none⟩ (.int .i64 ((rd_T80 t104 x10_3).f5))).setCell ⟨gb124, 6, none⟩ (.int .i64 ((rd_T80 t104 x10_3).f6))) = w48
                have n0_ : Aside0 (Kd.R k71 71 w48 w.heap.size (fun _ => True) (.slice Ao11 t101.length co11) t101) := ⟨by rw [← hq_]; (with_reducible repeat (first | apply Kd.R_alloc | apply Kd.R_drewN | apply Kd.R_drew)); exact Kd.R_mono (Kd.R_far (p := ⟨gb124, 6, none⟩) (Kd.R_far (p := ⟨gb124, 5, none⟩) (Kd.R_far (p := ⟨gb124, 4, none⟩) (Kd.R_far (p := ⟨gb124, 3, none⟩) (Kd.R_far (p := ⟨gb124, 2, none⟩) (Kd.R_far (p := ⟨gb124, 1, none⟩) (Kd.R_far (p := ⟨gb124, 0, none⟩) (Kd.R_types HO_5.out BK124.out (by decide)) (fun _ hk => hk.2) (.int .i64 ((rd_T80 t104 x10_3).f0))) (fun _ hk => hk.2) (.int .i64 ((rd_T80 t104 x10_3).f1))) (fun _ hk => hk.2) (.int .i64 ((rd_T80 t104 x10_3).f2))) (fun _ hk => hk.2) (.int .i64 ((rd_T80 t104 x10_3).f3))) (fun _ hk => hk.2) (.int .i64 ((rd_T80 t104 x10_3).f4))) (fun _ hk => hk.2) (.int .i64 ((rd_T80 t104 x10_3).f5))) (fun _ hk => hk.2) (.int .i64 ((rd_T80 t104 x10_3).f6))) (fun _ hk => trivial)⟩
                have n1_ : Aside0 (Kd.R k80 80 w48 w.heap.size (fun k_ => k_ ≠ gb124) (.slice (some ad123) t104.length co29) t104) := ⟨by rw [← hq_]; (with_reducible repeat (first | apply Kd.R_alloc | apply Kd.R_drewN | apply Kd.R_drew)); exact Kd.R_mono (Kd.R_far (p := ⟨gb124, 6, none⟩) (Kd.R_far (p := ⟨gb124, 5, none⟩) (Kd.R_far (p := ⟨gb124, 4, none⟩) (Kd.R_far (p := ⟨gb124, 3, none⟩) (Kd.R_far (p := ⟨gb124, 2, none⟩) (Kd.R_far (p := ⟨gb124, 1, none⟩) (Kd.R_far (p := ⟨gb124, 0, none⟩) (Kd.R_mono HO_6.out (fun k_ hk => (⟨hk, hk.2⟩ : _ ∧ k_ ≠ gb124))) (fun _ hk => hk.2) (.int .i64 ((rd_T80 t104 x10_3).f0))) (fun _ hk => hk.2) (.int .i64 ((rd_T80 t104 x10_3).f1))) (fun _ hk => hk.2) (.int .i64 ((rd_T80 t104 x10_3).f2))) (fun _ hk => hk.2) (.int .i64 ((rd_T80 t104 x10_3).f3))) (fun _ hk => hk.2) (.int .i64 ((rd_T80 t104 x10_3).f4))) (fun _ hk => hk.2) (.int .i64 ((rd_T80 t104 x10_3).f5))) (fun _ hk => hk.2) (.int .i64 ((rd_T80 t104 x10_3).f6))) (fun _ hk => hk.1.2)⟩
                have n2_ : Aside0 (w48.heap[gb124]? = some (.cells #[.int .i64 ((rd_T80 t104 x10_3).f0), .int .i64 ((rd_T80 t104 x10_3).f1), .int .i64 ((rd_T80 t104 x10_3).f2), .int .i64 ((rd_T80 t104 x10_3).f3), .int .i64 ((rd_T80 t104 x10_3).f4), .int .i64 ((rd_T80 t104 x10_3).f5), .int .i64 ((rd_T80 t104 x10_3).f6)] 80 (0, 0))) := ⟨by rw [← hq_]; (with_reducible repeat (first | refine blk_drewN ?_ _ | refine blk_drew ?_ | refine blk_alloc ?_ _)); refine blk_put (cs := #[.int .i64 ((rd_T80 t104 x10_3).f0), .int .i64 ((rd_T80 t104 x10_3).f1), .int .i64 ((rd_T80 t104 x10_3).f2), .int .i64 ((rd_T80 t104 x10_3).f3), .int .i64 ((rd_T80 t104 x10_3).f4), .int .i64 ((rd_T80 t104 x10_3).f5), .int .i64 0]) ?_ 6 _ rfl; (with_reducible repeat (first | refine blk_drewN ?_ _ | refine blk_drew ?_ | refine blk_alloc ?_ _)); refine blk_put (cs := #[.int .i64 ((rd_T80 t104 x10_3).f0), .int .i64 ((rd_T80 t104 x10_3).f1), .int .i64 ((rd_T80 t104 x10_3).f2), .int .i64 ((rd_T80 t104 x10_3).f3), .int .i64 ((rd_T80 t104 x10_3).f4), .int .i64 0, .int .i64 0]) ?_ 5 _ rfl; (with_reducible repeat (first | refine blk_drewN ?_ _ | refine blk_drew ?_ | refine blk_alloc ?_ _)); refine blk_put (cs := #[.int .i64 ((rd_T80 t104 x10_3).f0), .int .i64 ((rd_T80 t104 x10_3).f1), .int .i64 ((rd_T80 t104 x10_3).f2), .int .i64 ((rd_T80 t104 x10_3).f3), .int .i64 0, .int .i64 0, .int .i64 0]) ?_ 4 _ rfl; (with_reducible repeat (first | refine blk_drewN ?_ _ | refine blk_drew ?_ | refine blk_alloc ?_ _)); refine blk_put (cs := #[.int .i64 ((rd_T80 t104 x10_3).f0), .int .i64 ((rd_T80 t104 x10_3).f1), .int .i64 ((rd_T80 t104 x10_3).f2), .int .i64 0, .int .i64 0, .int .i64 0, .int .i64 0]) ?_ 3 _ rfl; (with_reducible repeat (first | refine blk_drewN ?_ _ | refine blk_drew ?_ | refine blk_alloc ?_ _)); refine blk_put (cs := #[.int .i64 ((rd_T80 t104 x10_3).f0), .int .i64 ((rd_T80 t104 x10_3).f1), .int .i64 0, .int .i64 0, .int .i64 0, .int .i64 0, .int .i64 0]) ?_ 2 _ rfl; (with_reducible repeat (first | refine blk_drewN ?_ _ | refine blk_drew ?_ | refine blk_alloc ?_ _)); refine blk_put (cs := #[.int .i64 ((rd_T80 t104 x10_3).f0), .int .i64 0, .int .i64 0, .int .i64 0, .int .i64 0, .int .i64 0, .int .i64 0]) ?_ 1 _ rfl; (with_reducible repeat (first | refine blk_drewN ?_ _ | refine blk_drew ?_ | refine blk_alloc ?_ _)); refine blk_put (cs := #[.int .i64 0, .int .i64 0, .int .i64 0, .int .i64 0, .int .i64 0, .int .i64 0, .int .i64 0]) ?_ 0 _ rfl; (with_reducible repeat (first | refine blk_drewN ?_ _ | refine blk_drew ?_ | refine blk_alloc ?_ _)); exact BK124.out⟩
                have n3_ : Aside0 (Below w.heap.size w w48) := ⟨by rw [← hq_]; exact K1 HB GE124.out⟩
                clear hq_
                (try clear HO_5)
                (try clear HO_6)
                (try clear BK124)
                (try clear HB)
                have HO_5 := n0_
                have HO_6 := n1_
                have BK124 := n2_
                have HB := n3_
                clear n0_ n1_ n2_ n3_
                replace HO_5 := am (Kd.R_drew HO_5.out)
                replace HO_6 := am (Kd.R_drew HO_6.out)
                replace BK124 := am (blk_drew BK124.out)
                replace HB := am (below_drew1 HB.out)
                refine start_ (n := 47) (S := fun w' => de7 w' gb124 (.int .i64 ((rd_T80 t104 x10_3).f0)) (.int .i64 ((rd_T80 t104 x10_3).f1)) (.int .i64 ((rd_T80 t104 x10_3).f2)) (.int .i64 ((rd_T80 t104 x10_3).f3)) (.int .i64 ((rd_T80 t104 x10_3).f4)) (.int .i64 ((rd_T80 t104 x10_3).f5)) (.int .i64 ((rd_T80 t104 x10_3).f6))) (ds := []) (tf 0 47) (by kernel_rfl) rfl rfl ⟨z0 _ BK124.out, z1 _ BK124.out, z2 _ BK124.out, z3 _ BK124.out, z4 _ BK124.out, z5 _ BK124.out, z6 _ BK124.out⟩ (fun hHeld => ?_); refine with_tabW laws_FnCells.tab12 laws_FnCells.bits12 (fun HT_ HW_ => ?_)
                generalize w48.drew = w49 at HO_5 HO_6 BK124 HB hHeld ⊢
                refine pv HT_ 0 66 (tf 1 46) ?_
                refine pv HT_ 2 68 (tr [1, 1, 1, 44]) ?_
                refine tk 1 (some 67) (tf 3 44) (take_ofW HT_.out HW_.out (by kernel_rfl)) hHeld ?_
                refine tk 3 (some 69) (tf 4 43) (take_ofW HT_.out HW_.out (by kernel_rfl)) hHeld ?_
                refine pv HT_ 4 70 (tf 5 42) ?_
                refine pv HT_ 5 71 (tf 6 41) ?_
                refine pv HT_ 6 72 (tf 7 40) ?_
                refine pv HT_ 8 74 (tr [7, 1, 1, 38]) ?_
                refine tk 7 (some 73) (tf 9 38) (take_ofW HT_.out HW_.out (by kernel_rfl)) hHeld ?_
                refine tk 9 (some 75) (tf 10 37) (take_ofW HT_.out HW_.out (by kernel_rfl)) hHeld ?_
                refine pv HT_ 10 76 (tf 11 36) ?_
                refine pv HT_ 11 77 (tf 12 35) ?_
                refine pv HT_ 12 78 (tf 13 34) ?_
                refine pv HT_ 13 79 (tf 14 33) ?_
                refine pv HT_ 15 81 (tr [14, 1, 1, 31]) ?_
                refine tk 14 (some 80) (tf 16 31) (take_ofW HT_.out HW_.out (by kernel_rfl)) hHeld ?_
                refine tk 16 (some 82) (tf 17 30) (take_ofW HT_.out HW_.out (by kernel_rfl)) hHeld ?_
                refine pv HT_ 17 83 (tf 18 29) ?_
                refine pv HT_ 18 84 (tf 19 28) ?_
                refine pv HT_ 19 85 (tf 20 27) ?_
                refine pv HT_ 20 86 (tf 21 26) ?_
                refine pv HT_ 21 87 (tf 22 25) ?_
                refine pv HT_ 23 89 (tr [22, 1, 1, 23]) ?_
                refine pv HT_ 25 91 (tr [22, 1, 1, 1, 1, 21]) ?_
                refine pv HT_ 29 95 (tr [22, 1, 1, 1, 1, 3, 1, 17]) ?_
                refine tk 22 (some 88) (tr [24, 1, 1, 3, 1, 17]) (take_ofW HT_.out HW_.out (by kernel_rfl)) hHeld ?_
                refine tk 24 (some 90) (tr [26, 3, 1, 17]) (take_ofW HT_.out HW_.out (by kernel_rfl)) hHeld ?_
                refine tk 26 (some 92) (tr [27, 2, 1, 17]) (take_ofW HT_.out HW_.out (by kernel_rfl)) hHeld ?_
                refine pv HT_ 27 93 (tr [28, 1, 1, 17]) ?_
                refine tk 30 (some 96) (tr [28, 1, 2, 16]) (take_ofW HT_.out HW_.out (by kernel_rfl)) hHeld ?_
                refine one_ (i := 28) (N := some 94) (tf 31 16) rfl rfl (one_of HT_.out (by kernel_rfl)) (by decide) (fun K hK => ?_)
                refine goes_ Try.func47 (by kernel_rfl) rfl #[.slice Ao11 t101.length co11, .agg #[.int .i64 ((rd_T80 t104 x10_3).f0), .int .i64 ((rd_T80 t104 x10_3).f3), .int .i64 ((rd_T80 t104 x10_3).f4)]] (by rfl) rfl rfl MT ?_
                with_reducible refine (impl_RulesFirst.calls k3 _ _ t101 ((rd_T80 t104 x10_3).f0) ((rd_T80 t104 x10_3).f3) ((rd_T80 t104 x10_3).f4) t125 _ ?side1 ?side2 A41.out).mono ?_
                (case side1 => exact KC (Kd.R_reads' HO_5.out).2.2)
                (case side2 => exact (Kd.R_reads' HO_5.out).2.1)
                rintro e w50 ⟨rfl, hb⟩
                refine ⟨_, rfl, ?_⟩
                replace HO_5 := am (Kd.R_below (KR HO_5) hb)
                replace HO_6 := am (Kd.R_below (KR HO_6) hb)
                replace BK124 := am (BB BK124 hb)
                replace HB := am (below_step (K1 HB GE124.out) hb)
                (try clear hb)
                (try clear hb2)
                (try clear hk)
                (try clear hi)
                refine hK.out _ _ ⟨z0 _ BK124.out, z1 _ BK124.out, z2 _ BK124.out, z3 _ BK124.out, z4 _ BK124.out, z5 _ BK124.out, z6 _ BK124.out⟩ (fun hHeld => ?_)
                clear hK K
                refine norm_ (a' := ?_) ?_ ?_
                rotate_left
                ·show Act.put _ (some 94) _ = _
                 simp only [Act.put, List.setIfInBounds_toArray, List.set_cons_zero, List.set_cons_succ, i64_w, i32_w]
                 rfl
                refine pv HT_ 31 97 (tf 32 15) ?_
                refine pv HT_ 32 98 (tf 33 14) ?_
                refine pv HT_ 33 99 (tf 34 13) ?_
                refine pw HT_ 34 100 (tf 35 12) ?_
                refine pw HT_ 35 101 (tf 36 11) ?_
                refine pw HT_ 36 102 (tf 37 10) ?_
                refine pw HT_ 37 103 (tf 38 9) ?_
                refine pw HT_ 38 104 (tf 39 8) ?_
                refine pw HT_ 39 105 (tf 40 7) ?_
                refine pw HT_ 40 106 (tf 41 6) ?_
                refine pw HT_ 41 107 (tf 42 5) ?_
                refine pw HT_ 42 108 (tf 43 4) ?_
                refine pw HT_ 43 109 (tf 44 3) ?_
                refine pw HT_ 44 110 (tf 45 2) ?_
                refine pw HT_ 45 111 (tf 46 1) ?_
                refine pv HT_ 46 112 (tf 47 0) ?_
                refine done_ (done_of HT_.out (by kernel_rfl)) ?_
                try go_wp2
                go_meet
                case rel => exact ⟨_, (true), (by first | rfl | (simp; done) | (simp [*]; done)), H', ⟨by have := HJ2.out; have := HJ8.out; have := HK3.out; first | omega | exact Nat.le_refl _⟩, ⟨KR HO_5⟩, ⟨KR HO_6⟩, ⟨KB BK124⟩, ⟨K1 HB GE124.out⟩⟩
           case rest =>
            clear HC28
            try clear p2
            try clear c4
            try clear c42
            try clear c42b0
            try clear c42b1
            try clear c47
            obtain ⟨kq, x112_27, rfl, HA, HJ27, HO_5, HO_6, BK124, HB⟩ := hcut
            cases kq with
            | zero => exact absurd HA.out (by simp [laws_FnCells.j3])
            | succ kj27 =>
             have H := HA.out
             clear HA
             simp only [laws_FnCells.j3] at H
             by_cases c51 : x112_27 = true
             ·subst c51
              have H1 : (some false) = some r := by rw [if_pos rfl] at H; exact H
              clear H
              have H := H1
              clear H1
              exact absurd ((Option.some.inj H).trans HR_.out) (by decide)
             ·replace c51 := Bool.eq_false_iff.mpr c51
              subst c51
              have H1 : (laws_FnCells.l1 kj27 l1 t101 t104 x10_3 0 ((rd_T80 t104 x10_3).f0) ((rd_T80 t104 x10_3).f1) ((rd_T80 t104 x10_3).f2) ((rd_T80 t104 x10_3).f3) ((rd_T80 t104 x10_3).f4) ((rd_T80 t104 x10_3).f5) ((rd_T80 t104 x10_3).f6)) = some r := by rw [if_neg (show ¬ (false = true) by decide)] at H; exact H
              clear H
              have H := H1
              clear H1
              have H' := Aside0.mk H
              clear H
              go_wp2
              go_loopg [12] kj27 (fun kq v12 w' => ∃ (x12_5 : Int), v12 = .int .i64 x12_5 ∧ Aside0 (laws_FnCells.l1 kq l1 t101 t104 x10_3 x12_5 ((rd_T80 t104 x10_3).f0) ((rd_T80 t104 x10_3).f1) ((rd_T80 t104 x10_3).f2) ((rd_T80 t104 x10_3).f3) ((rd_T80 t104 x10_3).f4) ((rd_T80 t104 x10_3).f5) ((rd_T80 t104 x10_3).f6) = some r) ∧ Aside0 (kq ≤ kj27) ∧ Aside0 (Kd.R k71 71 w' w.heap.size (fun _ => True) (.slice Ao11 t101.length co11) t101) ∧ Aside0 (Kd.R k80 80 w' w.heap.size (fun k_ => k_ ≠ gb124) (.slice (some ad123) t104.length co29) t104) ∧ Aside0 (w'.heap[gb124]? = some (.cells #[.int .i64 ((rd_T80 t104 x10_3).f0), .int .i64 ((rd_T80 t104 x10_3).f1), .int .i64 ((rd_T80 t104 x10_3).f2), .int .i64 ((rd_T80 t104 x10_3).f3), .int .i64 ((rd_T80 t104 x10_3).f4), .int .i64 ((rd_T80 t104 x10_3).f5), .int .i64 ((rd_T80 t104 x10_3).f6)] 80 (0, 0))) ∧ Aside0 (Below w.heap.size w w'))
              case atStart => exact ⟨(0), (by first | rfl | (simp; done) | (simp [*]; done)), H', ⟨Nat.le_refl _⟩, ⟨KR HO_5⟩, ⟨KR HO_6⟩, ⟨KB BK124⟩, ⟨K1 HB GE124.out⟩⟩
              case round =>
               clear H'
               try clear p2
               try clear c4
               try clear c5
               try clear c42
               try clear c42b0
               try clear c42b1
               try clear c47
               try clear c51
               try clear p2
               obtain ⟨x12_5, rfl, HA, HK5, HO_5, HO_6, BK124, HB⟩ := hrel
               cases gk with
               | zero => exact absurd HA.out (by simp [laws_FnCells.l1])
               | succ k5 =>
                have H := HA.out
                clear HA
                simp only [laws_FnCells.l1] at H
                have HC52 := Aside0.mk H
                clear H
                go_upto_region 15 with (fail)
                go_cut [119] (fun v119 wc => ∃ (kq : Nat) (x119_51 : Bool), v119 = .bool x119_51 ∧ Aside0 (laws_FnCells.j5 kq l1 t101 t104 x10_3 x12_5 x119_51 ((rd_T80 t104 x10_3).f0) ((rd_T80 t104 x10_3).f1) ((rd_T80 t104 x10_3).f2) ((rd_T80 t104 x10_3).f3) ((rd_T80 t104 x10_3).f4) ((rd_T80 t104 x10_3).f5) ((rd_T80 t104 x10_3).f6) = some r) ∧ Aside0 (kq ≤ k5) ∧ Aside0 (Kd.R k71 71 wc w.heap.size (fun _ => True) (.slice Ao11 t101.length co11) t101) ∧ Aside0 (Kd.R k80 80 wc w.heap.size (fun k_ => k_ ≠ gb124) (.slice (some ad123) t104.length co29) t104) ∧ Aside0 (wc.heap[gb124]? = some (.cells #[.int .i64 ((rd_T80 t104 x10_3).f0), .int .i64 ((rd_T80 t104 x10_3).f1), .int .i64 ((rd_T80 t104 x10_3).f2), .int .i64 ((rd_T80 t104 x10_3).f3), .int .i64 ((rd_T80 t104 x10_3).f4), .int .i64 ((rd_T80 t104 x10_3).f5), .int .i64 ((rd_T80 t104 x10_3).f6)] 80 (0, 0))) ∧ Aside0 (Below w.heap.size w wc))
                case first =>
                 have H := HC52.out
                 clear HC52
                 by_cases c53 : x12_5 < x10_3
                 ·rw [if_pos c53] at H
                  have c53b0 : decide (x12_5 < x10_3) = true := decide_eq_true c53
                  clear c53
                  (first | rw [c53b0] | (simp only [i64_w, i32_w]; rw [c53b0]) | skip)
                  have H' := Aside0.mk H
                  clear H
                  go_wp2
                  go_meet
                  case rel => exact ⟨_, (decide (x12_5 < 40)), (by first | rfl | (simp; done) | (simp [*]; done)), H', ⟨by have := HJ2.out; have := HJ8.out; have := HK3.out; have := HJ27.out; have := HK5.out; first | omega | exact Nat.le_refl _⟩, ⟨KR HO_5⟩, ⟨KR HO_6⟩, ⟨KB BK124⟩, ⟨K1 HB GE124.out⟩⟩
                 ·rw [if_neg c53] at H
                  have c53b0 : decide (x12_5 < x10_3) = false := decide_eq_false c53
                  clear c53
                  (first | rw [c53b0] | (simp only [i64_w, i32_w]; rw [c53b0]) | skip)
                  have H' := Aside0.mk H
                  clear H
                  go_wp2
                  go_meet
                  case rel => exact ⟨_, (false), (by first | rfl | (simp; done) | (simp [*]; done)), H', ⟨by have := HJ2.out; have := HJ8.out; have := HK3.out; have := HJ27.out; have := HK5.out; first | omega | exact Nat.le_refl _⟩, ⟨KR HO_5⟩, ⟨KR HO_6⟩, ⟨KB BK124⟩, ⟨K1 HB GE124.out⟩⟩
                case rest =>
                 clear HC52
                 try clear p2
                 try clear c4
                 try clear c5
                 try clear c42
                 try clear c42b0
                 try clear c42b1
                 try clear c47
                 try clear c51
                 try clear c53
                 try clear c53b0
                 try clear p2
                 obtain ⟨kq, x119_51, rfl, HA, HJ51, HO_5, HO_6, BK124, HB⟩ := hcut
                 cases kq with
                 | zero => exact absurd HA.out (by simp [laws_FnCells.j5])
                 | succ kj51 =>
                  have H := HA.out
                  clear HA
                  simp only [laws_FnCells.j5] at H
                  by_cases c54 : x119_51 = true
                  ·subst c54
                   have H1 : (if 0 ≤ x12_5 then (if x12_5 < (t104.length : Int) then ((impl_CellsMeet.f ((rd_T80 t104 x12_5).f0) ((rd_T80 t104 x12_5).f1) ((rd_T80 t104 x12_5).f2) ((rd_T80 t104 x12_5).f3) ((rd_T80 t104 x12_5).f4) ((rd_T80 t104 x12_5).f5) ((rd_T80 t104 x12_5).f6) ((rd_T80 t104 x10_3).f0) ((rd_T80 t104 x10_3).f1) ((rd_T80 t104 x10_3).f2) ((rd_T80 t104 x10_3).f3) ((rd_T80 t104 x10_3).f4) ((rd_T80 t104 x10_3).f5) ((rd_T80 t104 x10_3).f6)).bind fun t128 => (if t128 = true then (some false) else (laws_FnCells.l1 kj51 l1 t101 t104 x10_3 (wrap64 (x12_5 + 1)) ((rd_T80 t104 x10_3).f0) ((rd_T80 t104 x10_3).f1) ((rd_T80 t104 x10_3).f2) ((rd_T80 t104 x10_3).f3) ((rd_T80 t104 x10_3).f4) ((rd_T80 t104 x10_3).f5) ((rd_T80 t104 x10_3).f6)))) else (none)) else (none)) = some r := by rw [if_pos rfl] at H; exact H
                   clear H
                   have H := H1
                   clear H1
                   by_cases c55 : 0 ≤ x12_5
                   ·rw [if_pos c55] at H
                    have c55b0 : decide (0 ≤ x12_5) = true := decide_eq_true c55
                    clear c55
                    by_cases c56 : x12_5 < (t104.length : Int)
                    ·rw [if_pos c56] at H
                     have c56b0 : decide (x12_5 < (t104.length : Int)) = true := decide_eq_true c56
                     clear c56
                     replace H := Option.bind_eq_some_iff.mp H
                     obtain ⟨t128, A570, H⟩ := H
                     replace H : (if t128 = true then (some false) else (laws_FnCells.l1 kj51 l1 t101 t104 x10_3 (wrap64 (x12_5 + 1)) ((rd_T80 t104 x10_3).f0) ((rd_T80 t104 x10_3).f1) ((rd_T80 t104 x10_3).f2) ((rd_T80 t104 x10_3).f3) ((rd_T80 t104 x10_3).f4) ((rd_T80 t104 x10_3).f5) ((rd_T80 t104 x10_3).f6))) = some r := H
                     have A57 := Aside0.mk A570
                     clear A570
                     by_cases c58 : t128 = true
                     ·subst c58
                      have H1 : (some false) = some r := by rw [if_pos rfl] at H; exact H
                      clear H
                      have H := H1
                      clear H1
                      exact absurd ((Option.some.inj H).trans HR_.out) (by decide)
                     ·replace c58 := Bool.eq_false_iff.mpr c58
                      subst c58
                      have H1 : (laws_FnCells.l1 kj51 l1 t101 t104 x10_3 (wrap64 (x12_5 + 1)) ((rd_T80 t104 x10_3).f0) ((rd_T80 t104 x10_3).f1) ((rd_T80 t104 x10_3).f2) ((rd_T80 t104 x10_3).f3) ((rd_T80 t104 x10_3).f4) ((rd_T80 t104 x10_3).f5) ((rd_T80 t104 x10_3).f6)) = some r := by rw [if_neg (show ¬ (false = true) by decide)] at H; exact H
                      clear H
                      have H := H1
                      clear H1
                      have H' := Aside0.mk H
                      clear H
                      try go_wp2
                      replace HO_5 := am (Kd.R_drew HO_5.out)
                      replace HO_6 := am (Kd.R_drew HO_6.out)
                      replace BK124 := am (blk_drew BK124.out)
                      replace HB := am (below_drew1 HB.out)
                      have p127 : 0 ≤ (x12_5 : Int) := OD
                      have q127 : x12_5 < (t104.length : Int) := OD
                      obtain ⟨ad127, e127, hx127_0, hx127_1, hx127_2, hx127_3, hx127_4, hx127_5, hx127_6⟩ := at_T80 (Kd.R_reads' HO_6.out).2.2 x12_5 p127 q127
                      obtain rfl : ad123 = ad127 := (by injection e127)
                      replace p127 := eq_true p127
                      replace q127 := eq_true q127
                      refine start_ (n := 6) (S := fun w' => ce7 w' gb124 (.int .i64 ((rd_T80 t104 x10_3).f0)) (.int .i64 ((rd_T80 t104 x10_3).f1)) (.int .i64 ((rd_T80 t104 x10_3).f2)) (.int .i64 ((rd_T80 t104 x10_3).f3)) (.int .i64 ((rd_T80 t104 x10_3).f4)) (.int .i64 ((rd_T80 t104 x10_3).f5)) (.int .i64 ((rd_T80 t104 x10_3).f6)) (w'.cell? (ad123.add ((x12_5).toNat * 7)) = some (.int .i64 ((rd_T80 t104 x12_5).f0)) ∧ w'.cell? ⟨(ad123.add ((x12_5).toNat * 7)).block, (ad123.add ((x12_5).toNat * 7)).off + 1, none⟩ = some (.int .i64 ((rd_T80 t104 x12_5).f1)) ∧ w'.cell? ⟨(ad123.add ((x12_5).toNat * 7)).block, (ad123.add ((x12_5).toNat * 7)).off + 2, none⟩ = some (.int .i64 ((rd_T80 t104 x12_5).f2)) ∧ w'.cell? ⟨(ad123.add ((x12_5).toNat * 7)).block, (ad123.add ((x12_5).toNat * 7)).off + 3, none⟩ = some (.int .i64 ((rd_T80 t104 x12_5).f3)) ∧ w'.cell? ⟨(ad123.add ((x12_5).toNat * 7)).block, (ad123.add ((x12_5).toNat * 7)).off + 4, none⟩ = some (.int .i64 ((rd_T80 t104 x12_5).f4)) ∧ w'.cell? ⟨(ad123.add ((x12_5).toNat * 7)).block, (ad123.add ((x12_5).toNat * 7)).off + 5, none⟩ = some (.int .i64 ((rd_T80 t104 x12_5).f5)) ∧ w'.cell? ⟨(ad123.add ((x12_5).toNat * 7)).block, (ad123.add ((x12_5).toNat * 7)).off + 6, none⟩ = some (.int .i64 ((rd_T80 t104 x12_5).f6)))) (ds := []) (tf 0 6) (by kernel_rfl) rfl rfl ⟨z0 _ BK124.out, z1 _ BK124.out, z2 _ BK124.out, z3 _ BK124.out, z4 _ BK124.out, z5 _ BK124.out, z6 _ BK124.out, hx127_0, hx127_1, hx127_2, hx127_3, hx127_4, hx127_5, hx127_6⟩ (fun hHeld => ?_)
                      generalize wc.drew = w59 at HO_5 HO_6 BK124 HB hx127_0 hx127_1 hx127_2 hx127_3 hx127_4 hx127_5 hx127_6 hHeld ⊢
                      refine pure_ (i := 0) (N := some 122) (v := ?_) (a' := ?_) (tf 1 5) rfl rfl (by kernel_rfl) (fun _ _ _ h => h) (Or.inl ⟨by rfl, ?_⟩) ?_ ?_; rotate_left; (· intro w'; go_simp; with_reducible rfl); rotate_left; (· simp only [Act.put, List.setIfInBounds_toArray, List.set_cons_zero, List.set_cons_succ, i64_w, i32_w]; rfl)
                      refine pure_ (i := 1) (N := some 123) (v := ?_) (a' := ?_) (tf 2 4) rfl rfl (by kernel_rfl) (fun _ _ _ h => h) (Or.inl ⟨by rfl, ?_⟩) ?_ ?_; rotate_left; (· intro w'; go_simp; with_reducible rfl); rotate_left; (· simp only [Act.put, List.setIfInBounds_toArray, List.set_cons_zero, List.set_cons_succ, i64_w, i32_w]; rfl)
                      refine pure_ (i := 2) (N := some 124) (v := ?_) (a' := ?_) (tf 3 3) rfl rfl (by kernel_rfl) (fun _ _ _ h => h) (Or.inl ⟨by rfl, ?_⟩) ?_ ?_; rotate_left; (· intro w'; go_simp; with_reducible rfl); rotate_left; (· simp only [Act.put, List.setIfInBounds_toArray, List.set_cons_zero, List.set_cons_succ, i64_w, i32_w]; rfl)
                      refine take_ (i := 3) (N := some 125) (v := ?_) (a' := ?_) (tf 4 2) rfl rfl (by kernel_rfl) (fun _ _ _ h => h) (Or.inl ⟨by rfl, ?_⟩) hHeld ?_ ?_
                      rotate_left
                      ·rintro w' ⟨s0, s1, s2, s3, s4, s5, s6, s7, s8, s9, s10, s11, s12, s13⟩
                       go_simp
                       with_reducible rfl
                      rotate_left
                      ·simp only [Act.put, List.setIfInBounds_toArray, List.set_cons_zero, List.set_cons_succ, i64_w, i32_w]
                       rfl
                      refine take_ (i := 4) (N := some 126) (v := ?_) (a' := ?_) (tf 5 1) rfl rfl (by kernel_rfl) (fun _ _ _ h => h) (Or.inl ⟨by rfl, ?_⟩) hHeld ?_ ?_
                      rotate_left
                      ·rintro w' ⟨s0, s1, s2, s3, s4, s5, s6, s7, s8, s9, s10, s11, s12, s13⟩
                       go_simp
                       with_reducible rfl
                      rotate_left
                      ·simp only [Act.put, List.setIfInBounds_toArray, List.set_cons_zero, List.set_cons_succ, i64_w, i32_w]
                       rfl
                      refine one_ (i := 5) (N := some 127) (tf 6 0) rfl rfl (by kernel_rfl) (by decide) (fun K hK => ?_)
                      refine goes_ Try.func58 (by kernel_rfl) rfl #[.agg #[.int .i64 ((rd_T80 t104 x12_5).f0), .int .i64 ((rd_T80 t104 x12_5).f1), .int .i64 ((rd_T80 t104 x12_5).f2), .int .i64 ((rd_T80 t104 x12_5).f3), .int .i64 ((rd_T80 t104 x12_5).f4), .int .i64 ((rd_T80 t104 x12_5).f5), .int .i64 ((rd_T80 t104 x12_5).f6)], .agg #[.int .i64 ((rd_T80 t104 x10_3).f0), .int .i64 ((rd_T80 t104 x10_3).f1), .int .i64 ((rd_T80 t104 x10_3).f2), .int .i64 ((rd_T80 t104 x10_3).f3), .int .i64 ((rd_T80 t104 x10_3).f4), .int .i64 ((rd_T80 t104 x10_3).f5), .int .i64 ((rd_T80 t104 x10_3).f6)]] (by rfl) rfl rfl MT ?_
                      with_reducible refine (impl_CellsMeet.calls ((rd_T80 t104 x12_5).f0) ((rd_T80 t104 x12_5).f1) ((rd_T80 t104 x12_5).f2) ((rd_T80 t104 x12_5).f3) ((rd_T80 t104 x12_5).f4) ((rd_T80 t104 x12_5).f5) ((rd_T80 t104 x12_5).f6) ((rd_T80 t104 x10_3).f0) ((rd_T80 t104 x10_3).f1) ((rd_T80 t104 x10_3).f2) ((rd_T80 t104 x10_3).f3) ((rd_T80 t104 x10_3).f4) ((rd_T80 t104 x10_3).f5) ((rd_T80 t104 x10_3).f6) false _ A57.out).mono ?_
                      rintro e w60 ⟨rfl, hb⟩
                      have HS7_ := (hb.cell (World.block_lt_of_cell? _ _ (hHeld.2.2.2.2.2.2.2.1))).trans (hHeld.2.2.2.2.2.2.2.1)
                      have HS8_ := (hb.cell (World.block_lt_of_cell? _ _ (hHeld.2.2.2.2.2.2.2.2.1))).trans (hHeld.2.2.2.2.2.2.2.2.1)
                      have HS9_ := (hb.cell (World.block_lt_of_cell? _ _ (hHeld.2.2.2.2.2.2.2.2.2.1))).trans (hHeld.2.2.2.2.2.2.2.2.2.1)
                      have HS10_ := (hb.cell (World.block_lt_of_cell? _ _ (hHeld.2.2.2.2.2.2.2.2.2.2.1))).trans (hHeld.2.2.2.2.2.2.2.2.2.2.1)
                      have HS11_ := (hb.cell (World.block_lt_of_cell? _ _ (hHeld.2.2.2.2.2.2.2.2.2.2.2.1))).trans (hHeld.2.2.2.2.2.2.2.2.2.2.2.1)
                      have HS12_ := (hb.cell (World.block_lt_of_cell? _ _ (hHeld.2.2.2.2.2.2.2.2.2.2.2.2.1))).trans (hHeld.2.2.2.2.2.2.2.2.2.2.2.2.1)
                      have HS13_ := (hb.cell (World.block_lt_of_cell? _ _ (hHeld.2.2.2.2.2.2.2.2.2.2.2.2.2))).trans (hHeld.2.2.2.2.2.2.2.2.2.2.2.2.2)
                      refine ⟨_, rfl, ?_⟩
                      replace HO_5 := am (Kd.R_below (KR HO_5) hb)
                      replace HO_6 := am (Kd.R_below (KR HO_6) hb)
                      replace BK124 := am (BB BK124 hb)
                      replace HB := am (below_step (K1 HB GE124.out) hb)
                      (try clear hb)
                      (try clear hb2)
                      (try clear hk)
                      (try clear hi)
                      refine hK.out _ _ ⟨z0 _ BK124.out, z1 _ BK124.out, z2 _ BK124.out, z3 _ BK124.out, z4 _ BK124.out, z5 _ BK124.out, z6 _ BK124.out, HS7_, HS8_, HS9_, HS10_, HS11_, HS12_, HS13_⟩ (fun hHeld => ?_)
                      clear hK K
                      refine norm_ (a' := ?_) ?_ ?_
                      rotate_left
                      ·show Act.put _ (some 127) _ = _
                       simp only [Act.put, List.setIfInBounds_toArray, List.set_cons_zero, List.set_cons_succ, i64_w, i32_w]
                       rfl
                      refine done_ (by kernel_rfl) ?_
                      try go_wp2
                      go_roundg kj51
                      case measure => have := HJ2.out; have := HJ8.out; have := HK3.out; have := HJ27.out; have := HK5.out; have := HJ51.out; omega
                      case rel => exact ⟨(wrap64 (x12_5 + 1)), (by first | rfl | (simp; done) | (simp [*]; done)), H', ⟨by have := HJ2.out; have := HJ8.out; have := HK3.out; have := HJ27.out; have := HK5.out; have := HJ51.out; omega⟩, ⟨KR HO_5⟩, ⟨KR HO_6⟩, ⟨KB BK124⟩, ⟨K1 HB GE124.out⟩⟩
                    ·rw [if_neg c56] at H
                     exact absurd H (by simp)
                   ·rw [if_neg c55] at H
                    exact absurd H (by simp)
                  ·replace c54 := Bool.eq_false_iff.mpr c54
                   subst c54
                   have H1 : (laws_FnCells.l0 kj51 l1 t101 t104 (wrap64 (x10_3 + 1))) = some r := by rw [if_neg (show ¬ (false = true) by decide)] at H; exact H
                   clear H
                   have H := H1
                   clear H1
                   have H' := Aside0.mk H
                   clear H
                   go_wp2
                   go_roundg kj51
                   case measure => have := HJ2.out; have := HJ8.out; have := HK3.out; have := HJ27.out; have := HK5.out; have := HJ51.out; omega
                   case rel => exact ⟨(wrap64 (x10_3 + 1)), (by first | rfl | (simp; done) | (simp [*]; done)), H', ⟨by have := HJ2.out; have := HJ8.out; have := HK3.out; have := HJ27.out; have := HK5.out; have := HJ51.out; omega⟩, ⟨KR HO_5⟩, ⟨by (with_reducible repeat (first | apply Kd.R_alloc | apply Kd.R_drewN | apply Kd.R_drew)); exact Kd.R_mono HO_6.out (fun _ hk => trivial)⟩, ⟨K1 HB GE124.out⟩⟩
          ·rw [if_neg c27] at H
           exact absurd H (by simp)
         ·rw [if_neg c26] at H
          have c26b0 : decide (x10_3 < (t104.length : Int)) = false := decide_eq_false c26
          clear c26
          replace H := Option.bind_eq_some_iff.mp H
          obtain ⟨⟨t114, t117, t118, t119⟩, A610, H⟩ := H
          replace H : ((impl_CellsFind.f k3 t104 t117 t118 t119).bind fun t121 => ((impl_RulesFirst.f k3 t101 t117 t118 t119).bind fun t122 => (some (t121 == t122)))) = some r := H
          have A61 := Aside0.mk A610
          clear A610
          replace H := Option.bind_eq_some_iff.mp H
          obtain ⟨t121, A620, H⟩ := H
          replace H : ((impl_RulesFirst.f k3 t101 t117 t118 t119).bind fun t122 => (some (t121 == t122))) = some r := H
          have A62 := Aside0.mk A620
          clear A620
          replace H := Option.bind_eq_some_iff.mp H
          obtain ⟨t122, A630, H⟩ := H
          replace H : (some (t121 == t122)) = some r := H
          have A63 := Aside0.mk A630
          clear A630
          obtain rfl := Option.some.inj H
          obtain ⟨Ao64, co64, eo64⟩ := Kd.R_slice HO_6.out
          subst eo64
          try go_wp2_with (first | ((with_reducible refine gate_callee (f := 46) rfl ?_); refine goesL_ (some 130) rfl rfl Try.func46 (by kernel_rfl) rfl #[.slice A1 l1.length c1] rfl MT ?_; (with_reducible refine (spec_DrawRulesFirst.calls k3 _ _ l1 t114 t117 t118 t119 _ ?side1 ?side2 A61.out).mono ?_); (case side1 => exact KD HR1 HB); (case side2 => exact HC1.out); rintro e w65 ⟨v115, rfl, ho0, hb⟩; refine ⟨_, rfl, ?_⟩; replace HO_6 := am (Kd.R_below (KR HO_6) hb); have HO116 := am (Kd.R_lower (Kd.R_new' ho0 (Kd.R_lt (KR HO_5))) (below_size (KL HB))); replace HO_5 := am (Kd.R_elder' (KR HO_5) (Kd.R_base ho0) hb); replace HB := am (below_step (KL HB) hb); (try clear hb); (try clear ho0)) | ((with_reducible refine gate_dst (N := 14) rfl ?_); (try (refine gate_guard (by rfl) ?_; dsimp only)); refine box_event rfl (N := 14) rfl (cs := #[.int .i64 0, .int .i64 0, .int .i64 0]) (t := 60) BX ?_; intro gb120 hg w66 hbox hb; replace HO_5 := am (Kd.R_below (KR HO_5) hb); replace HO_6 := am (Kd.R_below (KR HO_6) hb); replace HO116 := am (Kd.R_below (KR HO116) hb); have BK120 := am (hbox); have GW120 := am (GH HB hg); have GE120 := GW120; replace HB := am (below_step (KL HB) hb); clear hb hbox hg; obtain ⟨hcz67_0, hcz67_1, hcz67_2, hfz67_0⟩ := y3 w66 BK120.out))
          generalize hq_ : (((w66.setCell ⟨gb120, 0, none⟩ (.int .i64 t117)).setCell ⟨gb120, 1, none⟩ (.int .i64 t118)).setCell ⟨gb120, 2, none⟩ (.int .i64 t119)) = w68
          have n0_ : Aside0 (Kd.R k71 71 w68 w.heap.size (fun k_ => some k_ ≠ (v115 : Value).ownBlock) (.slice Ao11 t101.length co11) t101) := ⟨by rw [← hq_]; (with_reducible repeat (first | apply Kd.R_alloc | apply Kd.R_drewN | apply Kd.R_drew)); exact Kd.R_mono (Kd.R_far (p := ⟨gb120, 2, none⟩) (Kd.R_far (p := ⟨gb120, 1, none⟩) (Kd.R_far (p := ⟨gb120, 0, none⟩) (Kd.R_types HO_5.out BK120.out (by decide)) (fun _ hk => hk.2) (.int .i64 t117)) (fun _ hk => hk.2) (.int .i64 t118)) (fun _ hk => hk.2) (.int .i64 t119)) (fun _ hk => hk.1.2)⟩
          have n1_ : Aside0 (Kd.R k80 80 w68 w.heap.size (fun _ => True) (.slice Ao64 t104.length co64) t104) := ⟨by rw [← hq_]; (with_reducible repeat (first | apply Kd.R_alloc | apply Kd.R_drewN | apply Kd.R_drew)); exact Kd.R_mono (Kd.R_far (p := ⟨gb120, 2, none⟩) (Kd.R_far (p := ⟨gb120, 1, none⟩) (Kd.R_far (p := ⟨gb120, 0, none⟩) (Kd.R_types HO_6.out BK120.out (by decide)) (fun _ hk => hk.2) (.int .i64 t117)) (fun _ hk => hk.2) (.int .i64 t118)) (fun _ hk => hk.2) (.int .i64 t119)) (fun _ hk => trivial)⟩
          have n2_ : Aside0 (Kd.R k71 71 w68 w.heap.size (fun k_ => some k_ ≠ (.slice Ao11 t101.length co11 : Value).ownBlock) v115 t114) := ⟨by rw [← hq_]; (with_reducible repeat (first | apply Kd.R_alloc | apply Kd.R_drewN | apply Kd.R_drew)); exact Kd.R_mono (Kd.R_far (p := ⟨gb120, 2, none⟩) (Kd.R_far (p := ⟨gb120, 1, none⟩) (Kd.R_far (p := ⟨gb120, 0, none⟩) (Kd.R_types HO116.out BK120.out (by decide)) (fun _ hk => hk.2) (.int .i64 t117)) (fun _ hk => hk.2) (.int .i64 t118)) (fun _ hk => hk.2) (.int .i64 t119)) (fun _ hk => hk.1.2)⟩
          have n3_ : Aside0 (w68.heap[gb120]? = some (.cells #[.int .i64 t117, .int .i64 t118, .int .i64 t119] 60 (0, 0))) := ⟨by rw [← hq_]; exact P3 BK120⟩
          have n4_ : Aside0 (Below w.heap.size w w68) := ⟨by rw [← hq_]; exact K1 HB GE120.out⟩
          clear hq_
          (try clear HO_5)
          (try clear HO_6)
          (try clear HO116)
          (try clear BK120)
          (try clear HB)
          have HO_5 := n0_
          have HO_6 := n1_
          have HO116 := n2_
          have BK120 := n3_
          have HB := n4_
          clear n0_ n1_ n2_ n3_ n4_
          replace HO_5 := am (Kd.R_drew HO_5.out)
          replace HO_6 := am (Kd.R_drew HO_6.out)
          replace HO116 := am (Kd.R_drew HO116.out)
          replace BK120 := am (blk_drew BK120.out)
          replace HB := am (below_drew1 HB.out)
          refine start_ (n := 8) (S := fun w' => de3 w' gb120 (.int .i64 t117) (.int .i64 t118) (.int .i64 t119)) (ds := []) (tf 0 8) (by kernel_rfl) rfl rfl ⟨z0 _ BK120.out, z1 _ BK120.out, z2 _ BK120.out⟩ (fun hHeld => ?_); refine with_tabW laws_FnCells.tab20 laws_FnCells.bits20 (fun HT_ HW_ => ?_)
          generalize w68.drew = w69 at HO_5 HO_6 HO116 BK120 HB hHeld ⊢
          refine pv HT_ 0 133 (tf 1 7) ?_
          refine pv HT_ 3 136 (tr [1, 2, 1, 4]) ?_
          refine tk 1 (some 134) (tr [2, 1, 1, 4]) (take_ofW HT_.out HW_.out (by kernel_rfl)) hHeld ?_
          refine tk 4 (some 137) (tr [2, 1, 2, 3]) (take_ofW HT_.out HW_.out (by kernel_rfl)) hHeld ?_
          refine one_ (i := 2) (N := some 135) (tf 5 3) rfl rfl (one_of HT_.out (by kernel_rfl)) (by decide) (fun K hK => ?_)
          refine goes_ Try.func59 (by kernel_rfl) rfl #[.slice Ao64 t104.length co64, .agg #[.int .i64 t117, .int .i64 t118, .int .i64 t119]] (by rfl) rfl rfl MT ?_
          with_reducible refine (impl_CellsFind.calls k3 _ _ t104 t117 t118 t119 t121 _ ?side1 ?side2 A62.out).mono ?_
          (case side1 => exact KC (Kd.R_reads' HO_6.out).2.2)
          (case side2 => exact (Kd.R_reads' HO_6.out).2.1)
          rintro e w70 ⟨rfl, hb⟩
          refine ⟨_, rfl, ?_⟩
          replace HO_5 := am (Kd.R_below (KR HO_5) hb)
          replace HO_6 := am (Kd.R_below (KR HO_6) hb)
          replace HO116 := am (Kd.R_below (KR HO116) hb)
          replace BK120 := am (BB BK120 hb)
          replace HB := am (below_step (K1 HB GE120.out) hb)
          (try clear hb)
          (try clear hb2)
          (try clear hk)
          (try clear hi)
          refine hK.out _ _ ⟨z0 _ BK120.out, z1 _ BK120.out, z2 _ BK120.out⟩ (fun hHeld => ?_)
          clear hK K
          refine norm_ (a' := ?_) ?_ ?_
          rotate_left
          ·show Act.put _ (some 135) _ = _
           simp only [Act.put, List.setIfInBounds_toArray, List.set_cons_zero, List.set_cons_succ, i64_w, i32_w]
           rfl
          refine one_ (i := 5) (N := some 138) (tf 6 2) rfl rfl (one_of HT_.out (by kernel_rfl)) (by decide) (fun K hK => ?_)
          refine goes_ Try.func47 (by kernel_rfl) rfl #[.slice Ao11 t101.length co11, .agg #[.int .i64 t117, .int .i64 t118, .int .i64 t119]] (by rfl) rfl rfl MT ?_
          with_reducible refine (impl_RulesFirst.calls k3 _ _ t101 t117 t118 t119 t122 _ ?side1 ?side2 A63.out).mono ?_
          (case side1 => exact KC (Kd.R_reads' HO_5.out).2.2)
          (case side2 => exact (Kd.R_reads' HO_5.out).2.1)
          rintro e w71 ⟨rfl, hb⟩
          refine ⟨_, rfl, ?_⟩
          replace HO_5 := am (Kd.R_below (KR HO_5) hb)
          replace HO_6 := am (Kd.R_below (KR HO_6) hb)
          replace HO116 := am (Kd.R_below (KR HO116) hb)
          replace BK120 := am (BB BK120 hb)
          replace HB := am (below_step (K1 HB GE120.out) hb)
          (try clear hb)
          (try clear hb2)
          (try clear hk)
          (try clear hi)
          refine hK.out _ _ ⟨z0 _ BK120.out, z1 _ BK120.out, z2 _ BK120.out⟩ (fun hHeld => ?_)
          clear hK K
          refine norm_ (a' := ?_) ?_ ?_
          rotate_left
          ·show Act.put _ (some 138) _ = _
           simp only [Act.put, List.setIfInBounds_toArray, List.set_cons_zero, List.set_cons_succ, i64_w, i32_w]
           rfl
          refine pv HT_ 6 139 (tf 7 1) ?_
          refine pv HT_ 7 4 (tf 8 0) ?_
          refine done_ (done_of HT_.out (by kernel_rfl)) ?_
          try go_wp2
          go_ret
          exact ⟨ER, K1 HB GE120.out⟩
/-- THE ONE PURE STATEMENT of laws_FnCells: yours. -/
def laws_FnCells.Pure : Prop := ∀ (l0 : List Int) (l1 : List Int), l0.length ≤ maxLen → l0.length * 1 ≤ 140737488351232 → (∀ x ∈ l0, (Lit.int .u8 x).wf = true) → l1.length ≤ maxLen → l1.length * 1 ≤ 140737488351232 → (∀ x ∈ l1, (Lit.int .u8 x).wf = true) → ∃ k, laws_FnCells.f k l0 l1 = some true
theorem laws_FnCells.walk (P : laws_FnCells.Pure) (a0 : Option Addr) (len0 cap0 : Nat) (z0 : List Int) (a1 : Option Addr) (len1 cap1 : Nat) (z1 : List Int) (w : World) (w0 : (a0 = none ∧ len0 = 0 ∧ cap0 = 0 ∧ z0 = []) ∨ ∃ x, a0 = some x ∧ len0 ≤ cap0 ∧ cap0 ≤ maxLen ∧ z0.length = cap0 ∧ (∀ i, i < z0.length → w.cell? (x.add i) = some (.int .u8 (z0.getD i 0))) ∧ ∀ n ∈ z0, (Lit.int .u8 n).wf = true) (y0 : len0 * 1 ≤ 140737488351232) (w1 : (a1 = none ∧ len1 = 0 ∧ cap1 = 0 ∧ z1 = []) ∨ ∃ x, a1 = some x ∧ len1 ≤ cap1 ∧ cap1 ≤ maxLen ∧ z1.length = cap1 ∧ (∀ i, i < z1.length → w.cell? (x.add i) = some (.int .u8 (z1.getD i 0))) ∧ ∀ n ∈ z1, (Lit.int .u8 n).wf = true) (y1 : len1 * 1 ≤ 140737488351232) :
  Calls Try.prog 13 #[.slice a0 len0 cap0, .slice a1 len1 cap1] w fun e w' => e = .returned (.bool true) ∧ Below w.heap.size w w' := by
 obtain ⟨l0, rfl, hr0, hm0, hw0, hc0⟩ := ReadsInt.ofRowC w0
 obtain ⟨l1, rfl, hr1, hm1, hw1, hc1⟩ := ReadsInt.ofRowC w1
 obtain ⟨k, h⟩ := P l0 l1 hm0 y0 hw0 hm1 y1 hw1
 refine (laws_FnCells.calls k _ _ l0 _ _ l1 true w (Kd.C_of_reads (d := (0 : Int)) (h1 := fun _ => rfl) hr0) hc0 (Kd.C_of_reads (d := (0 : Int)) (h1 := fun _ => rfl) hr1) hc1 rfl h).mono ?_
 rintro e w' ⟨rfl, hd⟩
 exact ⟨rfl, hd⟩
end Go.Proofs.Ytkgbgaojglcaoaa.PAll
end
