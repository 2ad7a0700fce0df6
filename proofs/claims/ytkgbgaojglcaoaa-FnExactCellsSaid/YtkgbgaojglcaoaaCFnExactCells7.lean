/- Contracts of the functions that the statement reaches, printed by a program out of the translation and joined with the plain laws. -/
import Derived.WalkKit
import Derived.Shelf.Abstract
import Derived.Deep.LoopGhost
import Derived.Test.YtkgbgaojglcaoaaCFnExactCells3
import Derived.Test.YtkgbgaojglcaoaaCFnExactCells4
section
namespace Go.Proofs.Ytkgbgaojglcaoaa.PAll
open Go.RowKit Go.Proofs.YtkgbgaojglcaoaaW.PrintWords Go.Proofs.YtkgbgaojglcaoaaW.PrintLast Go.Proofs.YtkgbgaojglcaoaaW.PrintMore
attribute [local go_sem] max2_int min2_int max_two min_two max_three min_three max_four min_four   -- for this text's walks alone
set_option linter.unusedVariables false
set_option linter.unusedSimpArgs false
set_option maxHeartbeats 4000000 in
set_option maxRecDepth 100000 in
theorem impl_Rule_128.gen (p : S71 → Option Bool) (g : Nat) (lb : Array Value) (eg : ∀ args w, (callFunc g args).run Try.prog w = .ok (.enter g args) w) (A : Option Addr) (c : Nat) (l : List S71) (r : Int) (w : World) (hr : Kd.C k71 w A l.length l)
  (hp : ∀ (W : World) (x : S71) (b : Bool), x ∈ l → Below w.heap.size w W → p x = some b → Calls Try.prog g (#[.agg #[.int .i64 x.f0, .int .i64 x.f1, .int .i64 x.f2.f0, .int .i64 x.f2.f1, .int .i64 x.f3.f0, .int .i64 x.f3.f1, .int .i64 x.f4, .int .i64 x.f5]] ++ lb) W fun e w' => e = .returned (.bool b) ∧ Below w.heap.size w w') (h : findO p l 0 = some r) :
  Calls Try.prog 128 #[.slice A l.length c, .func (.func g) #[] lb] w fun e w' => e = .returned (.int .i64 r) ∧ Below w.heap.size w w' := by
 have hu := Try.underlying71
 have HR := Aside0.mk hr
 have HM := Aside0.mk hr.2.1
 have HP := Aside0.mk hp
 have H0 := Aside0.mk h
 clear hr hp h
 go_enter Try.func128, Try.ntmps128
 go_wp2
 go_loopg [5, 8] l.length (fun gg _ s8 wr => ∃ kk : Nat, kk ≤ l.length ∧ Aside0 (l.length - kk ≤ gg) ∧ s8 = .int .i64 kk ∧ Aside0 (Below w.heap.size w wr) ∧ Aside0 (findO p (l.drop kk) kk = some r))
 case atStart => exact ⟨0, Nat.zero_le _, ⟨by omega⟩, rfl, ⟨Below.refl _ w⟩, ⟨H0.out⟩⟩
 case round =>
  clear H0
  obtain ⟨kk, hkk, hg, rfl, BW, A0⟩ := hrel
  have hml := HM.out
  by_cases hlt : kk < l.length
  ·have hltz : (kk : Int) < (l.length : Int) := by omega
   obtain ⟨ad, e, h0, h1, h2, h3, h4, h5, h6, h7⟩ := at_T71 HR.out (kk : Int) (by omega) hltz
   have hx : rd_T71 l (kk : Int) = l[kk] := by
    unfold rd_T71
    rw [List.getD_eq_getElem?_getD, Int.toNat_natCast, List.getElem?_eq_getElem hlt]
    rfl
   rw [hx] at h0 h1 h2 h3 h4 h5 h6 h7
   rw [Int.toNat_natCast] at h0 h1 h2 h3 h4 h5 h6 h7
   have HX := am (List.getElem_mem hlt)
   have A1 := A0.out
   rw [List.drop_eq_getElem_cons hlt] at A1
   clear A0 hx
   generalize l[kk] = y at h0 h1 h2 h3 h4 h5 h6 h7 HX A1
   cases e
   replace h0 := (BW.out.cell (World.block_lt_of_cell? w _ h0)).trans h0
   replace h1 := (BW.out.cell (World.block_lt_of_cell? w _ h1)).trans h1
   replace h2 := (BW.out.cell (World.block_lt_of_cell? w _ h2)).trans h2
   replace h3 := (BW.out.cell (World.block_lt_of_cell? w _ h3)).trans h3
   replace h4 := (BW.out.cell (World.block_lt_of_cell? w _ h4)).trans h4
   replace h5 := (BW.out.cell (World.block_lt_of_cell? w _ h5)).trans h5
   replace h6 := (BW.out.cell (World.block_lt_of_cell? w _ h6)).trans h6
   replace h7 := (BW.out.cell (World.block_lt_of_cell? w _ h7)).trans h7
   simp only [findO, Option.bind_eq_some_iff] at A1
   obtain ⟨b, hb, A1⟩ := A1
   have hcall := HP.out wr y b HX.out BW.out hb
   have A2 := Aside0.mk A1
   clear A1 hb HX
   cases b with
   | true =>
    go_wp2_with (go_at_fn g; refine hcall.mono ?_; rintro e w' ⟨rfl, hb'⟩)
    go_ret
    have A1 := A2.out
    simp only [if_true, Option.some.injEq] at A1
    subst A1
    exact ⟨rfl, hb'⟩
   | false =>
    go_wp2_with (go_at_fn g; refine hcall.mono ?_; rintro e w' ⟨rfl, hb'⟩)
    go_roundg (l.length - (kk + 1))
    case measure => have := hg.out; omega
    case rel => exact ⟨kk + 1, by omega, ⟨by omega⟩, by go_num, ⟨hb'⟩, ⟨by have A1 := A2.out; simp only [Bool.false_eq_true, if_false] at A1; exact A1⟩⟩
  ·have hltz : ¬ (kk : Int) < (l.length : Int) := by omega
   have : kk = l.length := by omega
   have A1 := A0.out
   rw [this, List.drop_length] at A1
   have A2 := Aside0.mk A1
   clear A0 A1
   go_wp2
   go_ret
   have A1 := A2.out
   simp only [findO, Option.some.injEq] at A1
   subst A1
   exact ⟨rfl, BW.out⟩
set_option maxHeartbeats 4000000 in
set_option maxRecDepth 100000 in
theorem impl_Rule_96.gen (p : S71 → Option Bool) (g : Nat) (lb : Array Value) (eg : ∀ args w, (callFunc g args).run Try.prog w = .ok (.enter g args) w) (A : Option Addr) (c : Nat) (l : List S71) (r : Bool) (w : World) (hr : Kd.C k71 w A l.length l)
  (hp : ∀ (W : World) (x : S71) (b : Bool), x ∈ l → Below w.heap.size w W → p x = some b → Calls Try.prog g (#[.agg #[.int .i64 x.f0, .int .i64 x.f1, .int .i64 x.f2.f0, .int .i64 x.f2.f1, .int .i64 x.f3.f0, .int .i64 x.f3.f1, .int .i64 x.f4, .int .i64 x.f5]] ++ lb) W fun e w' => e = .returned (.bool b) ∧ Below w.heap.size w w') (h : anyO p l = some r) :
  Calls Try.prog 96 #[.slice A l.length c, .func (.func g) #[] lb] w fun e w' => e = .returned (.bool r) ∧ Below w.heap.size w w' := by
 obtain ⟨v, hv, hd⟩ := findO_any p l 0 r (by omega) h
 have hc := fun w0 (hw : w0 = w) => impl_Rule_128.gen p g lb eg A c l v w hr hp hv
 have HC := am (hc w rfl)
 have HD := Aside0.mk hd
 clear hr hp h hv hd hc
 go_enter Try.func96, Try.ntmps96
 go_wp2_with (go_at_call 128; refine HC.out.mono ?_; rintro e w' ⟨rfl, hb⟩)
 go_ret
 have hd := HD.out
 subst hd
 exact ⟨rfl, hb⟩
/-- The ports' round, the destinations' round, the sources' round of corners: what is carried, and whether all were come to. -/
def cornZ {σ : Type} (p : σ → Int → Int → Int → Int → Int → Int → Option (σ × Bool)) (i k a b : Int) : List Int → Int → σ → Option (σ × Bool)
 | [], _, s => some (s, true)
 | c :: zs, n, s => (p s i k n a b c).bind fun r => if r.2 = true then cornZ p i k a b zs (n + 1) r.1 else some (r.1, false)
def cornY {σ : Type} (p : σ → Int → Int → Int → Int → Int → Int → Option (σ × Bool)) (zs : List Int) (i a : Int) : List Int → Int → σ → Option (σ × Bool)
 | [], _, s => some (s, true)
 | b :: ys, k, s => (cornZ p i k a b zs 0 s).bind fun r => if r.2 = true then cornY p zs i a ys (k + 1) r.1 else some (r.1, false)
def cornX {σ : Type} (p : σ → Int → Int → Int → Int → Int → Int → Option (σ × Bool)) (zs ys : List Int) : List Int → Int → σ → Option (σ × Bool)
 | [], _, s => some (s, true)
 | a :: xs, i, s => (cornY p zs i a ys 0 s).bind fun r => if r.2 = true then cornX p zs ys xs (i + 1) r.1 else some (r.1, false)
theorem corn_at (l : List Int) (n : Nat) (h : n < l.length) : rd l (n : Int) = l[n] := by
 unfold rd
 rw [List.getD_eq_getElem?_getD, Int.toNat_natCast, List.getElem?_eq_getElem h]
 rfl
set_option maxHeartbeats 16000000 in
set_option maxRecDepth 100000 in
theorem corners.gen {σ : Type} (p : σ → Int → Int → Int → Int → Int → Int → Option (σ × Bool)) (g : Nat) (lb : Array Value) (eg : ∀ args w, (callFunc g args).run Try.prog w = .ok (.enter g args) w) (Inv : Nat → σ → World → Prop)
  (xs ys zs : List Int) (A1 A2 A3 : Option Addr) (c1 c2 c3 : Nat) (s : σ) (r : σ × Bool) (w : World) (hl : xs.length < 4611686018427387904 ∧ ys.length < 4611686018427387904 ∧ zs.length < 4611686018427387904)
  (h0 : ∀ gb W, gb = w.heap.size → W.heap[gb]? = some (.cells #[.slice A1 xs.length c1, .slice A2 ys.length c2, .slice A3 zs.length c3] 113 (0, 0)) → Below w.heap.size w W → Inv gb s W)
  (hI : ∀ gb s W, Inv gb s W → W.heap[gb]? = some (.cells #[.slice A1 xs.length c1, .slice A2 ys.length c2, .slice A3 zs.length c3] 113 (0, 0)) ∧ Kd.C (Kd.int .i64) W A1 xs.length xs ∧ Kd.C (Kd.int .i64) W A2 ys.length ys ∧ Kd.C (Kd.int .i64) W A3 zs.length zs)
  (hstep : ∀ gb s W i k n a b c q, Inv gb s W → p s i k n a b c = some q → Calls Try.prog g (#[.int .i64 i, .int .i64 k, .int .i64 n, .agg #[.int .i64 a, .int .i64 b, .int .i64 c]] ++ lb) W fun e w' => e = .returned (.bool q.2) ∧ Inv gb q.1 w')
  (h : cornX p zs ys xs 0 s = some r) :
  Calls Try.prog 87 #[.agg #[.slice A1 xs.length c1, .slice A2 ys.length c2, .slice A3 zs.length c3], .func (.func g) #[] lb] w fun e w' => e = .returned (.tuple #[]) ∧ ∃ gb, Inv gb r.1 w' := by
 have hu := Try.underlying113
 have HI := Aside0.mk hI
 have H0 := Aside0.mk h0
 have HS := Aside0.mk hstep
 have HE := Aside0.mk h
 obtain ⟨l1, l2, l3⟩ := hl
 have L1 := Aside0.mk l1
 have L2 := Aside0.mk l2
 have L3 := Aside0.mk l3
 clear hI h0 hstep h l1 l2 l3
 go_enter Try.func87, Try.ntmps87
 go_upto_region 1 with (first | ((with_reducible refine gate_dst (N := 2) rfl ?_); refine box_event rfl (N := 2) rfl (cs := #[.slice A1 xs.length c1, .slice A2 ys.length c2, .slice A3 zs.length c3]) (t := 113) BX ?_; intro gb hgb w2 hbox hbw; have IB := am (H0.out gb w2 hgb hbox hbw); clear hbw hgb hbox))
 clear H0
 obtain ⟨hb0, hC1, hC2, hC3⟩ := HI.out _ _ _ IB.out
 obtain ⟨hz0, hz1, hz2, hzf⟩ := y3 w2 hb0
 have HC1 := Aside0.mk hC1
 clear hb0 hC1 hC2 hC3
 go_wp2
 clear hz0 hz1 hz2 hzf
 go_loopg [13] xs.length (fun gg s13 wr => ∃ (kk : Nat) (sk : σ), kk ≤ xs.length ∧ Aside0 (xs.length - kk ≤ gg) ∧ s13 = .int .i64 kk ∧ Aside0 (Inv gb sk wr) ∧ Aside0 (cornX p zs ys (xs.drop kk) kk sk = some r))
 case atStart => exact ⟨0, s, Nat.zero_le _, ⟨by omega⟩, rfl, IB, ⟨HE.out⟩⟩
 case round =>
  clear HE IB HC1
  obtain ⟨kk, sk, hkk, hg, rfl, IK, EK⟩ := hrel
  have hm1 := L1.out
  by_cases hlt : kk < xs.length
  ·have hltz : (kk : Int) < (xs.length : Int) := by omega
   have p1 : 0 ≤ (kk : Int) := by omega
   obtain ⟨hb0, hC1, hC2, hC3⟩ := HI.out _ _ _ IK.out
   obtain ⟨hz0, hz1, hz2, hzf⟩ := y3 wr hb0
   obtain ⟨ad1, e1, hx1⟩ := Kd.at_int hC1 (kk : Int) p1 hltz
   cases e1
   rw [corn_at xs kk hlt] at hx1
   simp only [Int.toNat_natCast, Nat.mul_one] at hx1
   have E1 := EK.out
   rw [List.drop_eq_getElem_cons hlt] at E1
   generalize xs[kk] = a at hx1 E1
   simp only [cornX] at E1
   have EY := Aside0.mk E1
   clear E1 EK hb0 hC1 hC2 hC3
   go_wp2
   clear hz0 hz1 hz2 hzf hx1 p1
   go_loopg [21] ys.length (fun gg s21 wr => ∃ (jj : Nat) (sj : σ), jj ≤ ys.length ∧ Aside0 (ys.length - jj ≤ gg) ∧ s21 = .int .i64 jj ∧ Aside0 (Inv gb sj wr) ∧ Aside0 (((cornY p zs kk a (ys.drop jj) jj sj).bind fun r => if r.2 = true then cornX p zs ys (xs.drop (kk + 1)) (kk + 1) r.1 else some (r.1, false)) = some r))
   case atStart => exact ⟨0, sk, Nat.zero_le _, ⟨by omega⟩, rfl, IK, ⟨EY.out⟩⟩
   case round =>
    clear EY IK
    obtain ⟨jj, sj, hjj, hgj, rfl, IJ, EJ⟩ := hrel
    have hm2 := L2.out
    by_cases hlj : jj < ys.length
    ·have hljz : (jj : Int) < (ys.length : Int) := by omega
     have p2 : 0 ≤ (jj : Int) := by omega
     obtain ⟨hb0, hC1, hC2, hC3⟩ := HI.out _ _ _ IJ.out
     obtain ⟨hz0, hz1, hz2, hzf⟩ := y3 wr hb0
     obtain ⟨ad2, e2, hx2⟩ := Kd.at_int hC2 (jj : Int) p2 hljz
     cases e2
     rw [corn_at ys jj hlj] at hx2
     simp only [Int.toNat_natCast, Nat.mul_one] at hx2
     have E1 := EJ.out
     rw [List.drop_eq_getElem_cons hlj] at E1
     generalize ys[jj] = b at hx2 E1
     simp only [cornY, Option.bind_assoc] at E1
     have EZ := Aside0.mk E1
     clear E1 EJ hb0 hC1 hC2 hC3
     go_wp2
     clear hz0 hz1 hz2 hzf hx2 p2
     go_loopg [29] zs.length (fun gg s29 wr => ∃ (mm : Nat) (sm : σ), mm ≤ zs.length ∧ Aside0 (zs.length - mm ≤ gg) ∧ s29 = .int .i64 mm ∧ Aside0 (Inv gb sm wr) ∧ Aside0 (((cornZ p kk jj a b (zs.drop mm) mm sm).bind fun q => (if q.2 = true then cornY p zs kk a (ys.drop (jj + 1)) (jj + 1) q.1 else some (q.1, false)).bind fun r => if r.2 = true then cornX p zs ys (xs.drop (kk + 1)) (kk + 1) r.1 else some (r.1, false)) = some r))
     case atStart => exact ⟨0, sj, Nat.zero_le _, ⟨by omega⟩, rfl, IJ, ⟨EZ.out⟩⟩
     case round =>
      clear EZ IJ
      obtain ⟨mm, sm, hmm, hgm, rfl, IM, EM⟩ := hrel
      have hm3 := L3.out
      by_cases hlm : mm < zs.length
      ·have hlmz : (mm : Int) < (zs.length : Int) := by omega
       have p3 : 0 ≤ (mm : Int) := by omega
       obtain ⟨hb0, hC1, hC2, hC3⟩ := HI.out _ _ _ IM.out
       obtain ⟨ad3, e3, hx3⟩ := Kd.at_int hC3 (mm : Int) p3 hlmz
       cases e3
       rw [corn_at zs mm hlm] at hx3
       simp only [Int.toNat_natCast, Nat.mul_one] at hx3
       have E1 := EM.out
       rw [List.drop_eq_getElem_cons hlm] at E1
       generalize zs[mm] = c at hx3 E1
       simp only [cornZ, Option.bind_assoc] at E1
       obtain ⟨q, hq, E1⟩ := Option.bind_eq_some_iff.mp E1
       have hcall := HS.out gb sm wr kk jj mm a b c q IM.out hq
       have EQ := Aside0.mk E1
       clear E1 EM hb0 hC1 hC2 hC3 hq
       obtain ⟨q1, q2⟩ := q
       cases q2 with
       | true =>
        go_wp2_with (go_at_fn g; refine hcall.mono ?_; rintro e w' ⟨rfl, hi'⟩)
        go_roundg (zs.length - (mm + 1))
        case measure => have := hgm.out; omega
        case rel => exact ⟨mm + 1, q1, by omega, ⟨by omega⟩, by go_num, ⟨hi'⟩, ⟨by have E1 := EQ.out; simp only [if_true] at E1; exact E1⟩⟩
       | false =>
        go_wp2_with (go_at_fn g; refine hcall.mono ?_; rintro e w' ⟨rfl, hi'⟩)
        (try simp only [Exit.inBlock, Exit.then])
        (try simp only [Exit.inBlock, Exit.then]); (first | (refine bodyPost_ret (results_none rfl _ _ _) rfl ?_) | (refine bodyPost_end (results_none rfl _ _ _) rfl ?_))
        have E1 := EQ.out
        simp only [Bool.false_eq_true, if_false, Option.bind_some, Option.some.injEq] at E1
        subst E1
        exact ⟨rfl, gb, hi'⟩
      ·have hlmz : ¬ (mm : Int) < (zs.length : Int) := by omega
       have : mm = zs.length := by omega
       have E1 := EM.out
       rw [this, List.drop_length] at E1
       simp only [cornZ, Option.bind_some, if_true] at E1
       have E2 := Aside0.mk E1
       clear EM E1
       go_wp2
       go_roundg (ys.length - (jj + 1))
       case measure => have := hgj.out; omega
       case rel => exact ⟨jj + 1, sm, by omega, ⟨by omega⟩, by go_num, IM, E2⟩
    ·have hljz : ¬ (jj : Int) < (ys.length : Int) := by omega
     have : jj = ys.length := by omega
     have E1 := EJ.out
     rw [this, List.drop_length] at E1
     simp only [cornY, Option.bind_some, if_true] at E1
     have E2 := Aside0.mk E1
     clear EJ E1
     go_wp2
     go_roundg (xs.length - (kk + 1))
     case measure => have := hg.out; omega
     case rel => exact ⟨kk + 1, sj, by omega, ⟨by omega⟩, by go_num, IJ, E2⟩
  ·have hltz : ¬ (kk : Int) < (xs.length : Int) := by omega
   have : kk = xs.length := by omega
   have E1 := EK.out
   rw [this, List.drop_length] at E1
   have E2 := Aside0.mk E1
   clear EK E1
   go_wp2
   (try simp only [Exit.inBlock, Exit.then]); (first | (refine bodyPost_ret (results_none rfl _ _ _) rfl ?_) | (refine bodyPost_end (results_none rfl _ _ _) rfl ?_))
   have E1 := E2.out
   simp only [cornX, Option.some.injEq] at E1
   subst E1
   exact ⟨rfl, gb, IK.out⟩
end Go.Proofs.Ytkgbgaojglcaoaa.PAll
end
