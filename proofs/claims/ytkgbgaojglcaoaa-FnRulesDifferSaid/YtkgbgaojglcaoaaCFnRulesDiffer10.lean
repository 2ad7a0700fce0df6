/- Contracts of the functions that the statement reaches, printed by a program out of the translation and joined with the plain laws. -/
import Derived.WalkKit
import Derived.Shelf.Abstract
import Derived.Deep.LoopGhost
import Derived.Deep.CutBlock
import Derived.Shelf.RegionOpenPlain
import Derived.Lib.Walk
import Derived.Lib.SliceRun
import Derived.Lib.AppendZerosOnto
import Derived.Laws.IdiomCopy
import Derived.Lib.LazyBuf
import Derived.Test.YtkgbgaojglcaoaaCFnRulesDiffer3
import Derived.Test.YtkgbgaojglcaoaaCFnRulesDiffer4
import Derived.Test.YtkgbgaojglcaoaaCFnRulesDiffer6
import Derived.Test.YtkgbgaojglcaoaaCFnRulesDiffer7
import Derived.Test.YtkgbgaojglcaoaaCFnRulesDiffer9
section
namespace Go.Proofs.Ytkgbgaojglcaoaa.PAll
open Go.RowKit Go.Proofs.YtkgbgaojglcaoaaW.PrintWords Go.Proofs.YtkgbgaojglcaoaaW.PrintLast Go.Proofs.YtkgbgaojglcaoaaW.PrintMore
attribute [local go_sem] max2_int min2_int max_two min_two max_three min_three max_four min_four   -- for this text's walks alone
set_option linter.unusedVariables false
set_option linter.unusedSimpArgs false
open Go.Lib
set_option maxHeartbeats 8000000 in
set_option maxRecDepth 100000 in
/-- slices.Grow of the nil slice: a row of no elements, with room. -/
theorem growN (n : Nat) (w : World) (h0 : n < 1000000) : Calls Try.prog 131 #[.slice none 0 0, .int .i64 n] w fun e w' => ∃ v : Value, e = .returned v ∧ Kd.R k71 71 w' w.heap.size (fun _ => True) v [] ∧ Below w.heap.size w w' := by
 have hne : ¬ ((n : Int) < 0) := by omega
 have h3 : wrap64 ((n : Int) - 0) = (n : Int) := by unfold wrap64; omega
 have h30 : wrap64 ((0 : Int) - 0) = 0 := by unfold wrap64; omega
 by_cases hn : n = 0
 ·subst hn
  go_enter Try.func131, Try.ntmps131
  go_wp2
  go_ret
  exact ⟨_, rfl, Kd.R_nil _ _ _ _ _, Below.refl _ _⟩
 ·have h4 : (n : Int) > 0 := by omega
  obtain ⟨i0, hi0, hz0, hs0, hb0⟩ := info_parts info71
  have hold : (Builtin.firstCells i0.size 0 (.slice none 0 0)).run Try.prog w.drew = .ok (([] : List Value).toArray) w.drew := run_firstCells_none w.drew i0.size 0 0 0
  have hrz : ∀ ty, (Builtin.append_ #[52, 3] ty #[.slice none 0 0, .int .i64 n]).run Try.prog w = .ok (.slice (some ⟨w.heap.size, 0, none⟩) n (grownCap w n 0 71)) (w.drew.alloc (.cells (([] : List Value).toArray ++ Builtin.zeroCells (Value.agg #[(.int .i64 0), (.int .i64 0), (.int .i64 0), (.int .i64 0), (.int .i64 0), (.int .i64 0), (.int .i64 0), (.int .i64 0)]).cells n ++ Builtin.zeroCells (Value.agg #[(.int .i64 0), (.int .i64 0), (.int .i64 0), (.int .i64 0), (.int .i64 0), (.int .i64 0), (.int .i64 0), (.int .i64 0)]).cells (grownCap w n 0 71 - n)) 71)) := fun ty => by
   have h := Lib.run_append_grow_zeros w 52 3 ty 71 i0 (Value.agg #[(.int .i64 0), (.int .i64 0), (.int .i64 0), (.int .i64 0), (.int .i64 0), (.int .i64 0), (.int .i64 0), (.int .i64 0)]) .i64 .i64 Try.underlying52 Try.underlying3 hi0 hz0 none 0 0 [] hold n (by omega) (by omega) (by omega) (by omega) (by rw [hb0]; omega) (by rw [Nat.zero_add]; exact growslice_fits (by omega) (by rw [hb0]; omega))
   rw [Nat.zero_add] at h
   exact h
  have hGn : n ≤ grownCap w n 0 71 := grownCap_ge w _ _ _
  have hG63 : grownCap w n 0 71 ≤ 9223372036854775807 := by
   have := grownCap_le_maxLen w n 0 71 (by unfold maxLen; omega)
   unfold maxLen at this
   omega
  generalize grownCap w n 0 71 = G at hrz hGn hG63
  have hzs : (([] : List Value).toArray ++ Builtin.zeroCells (Value.agg #[(.int .i64 0), (.int .i64 0), (.int .i64 0), (.int .i64 0), (.int .i64 0), (.int .i64 0), (.int .i64 0), (.int .i64 0)]).cells n ++ Builtin.zeroCells (Value.agg #[(.int .i64 0), (.int .i64 0), (.int .i64 0), (.int .i64 0), (.int .i64 0), (.int .i64 0), (.int .i64 0), (.int .i64 0)]).cells (G - n)).size = G * 8 := by
   have e1 := size_zeroCells (Value.agg #[(.int .i64 0), (.int .i64 0), (.int .i64 0), (.int .i64 0), (.int .i64 0), (.int .i64 0), (.int .i64 0), (.int .i64 0)]).cells n
   have e2 := size_zeroCells (Value.agg #[(.int .i64 0), (.int .i64 0), (.int .i64 0), (.int .i64 0), (.int .i64 0), (.int .i64 0), (.int .i64 0), (.int .i64 0)]).cells (G - n)
   have e3 : (Value.agg #[(.int .i64 0), (.int .i64 0), (.int .i64 0), (.int .i64 0), (.int .i64 0), (.int .i64 0), (.int .i64 0), (.int .i64 0)]).cells.size = 8 := rfl
   rw [e3] at e1 e2
   simp only [Array.size_append, List.size_toArray, List.length_nil, Nat.zero_add, e1, e2]
   omega
  generalize (([] : List Value).toArray ++ Builtin.zeroCells (Value.agg #[(.int .i64 0), (.int .i64 0), (.int .i64 0), (.int .i64 0), (.int .i64 0), (.int .i64 0), (.int .i64 0), (.int .i64 0)]).cells n ++ Builtin.zeroCells (Value.agg #[(.int .i64 0), (.int .i64 0), (.int .i64 0), (.int .i64 0), (.int .i64 0), (.int .i64 0), (.int .i64 0), (.int .i64 0)]).cells (G - n)) = cs at hrz hzs
  clear hold
  go_enter Try.func131, Try.ntmps131
  go_wp2_with (at_builtin; refine Lib.wpList_append_run _ rfl _ _ _ _ rfl _ _ rfl rfl _ _ (hrz _) ?_)
  go_ret
  exact ⟨_, rfl, ⟨fun _ _ => trivial, [], ⟨rfl, .inr ⟨w.heap.size, G, cs, rfl, Nat.le_refl _, heap_alloc_new w _, Nat.zero_le _, hG63, hzs, rfl⟩⟩, Reps.none _ _⟩, below_drew1 (below_alloc (Below.refl _ _) _)⟩
def conc (a b : List S71) (k : Nat) : List S71 := if k = 0 then [] else if k = 1 then a else a ++ b
def concN (a b : List S71) (k : Nat) : Nat := if k = 0 then 0 else if k = 1 then a.length else a.length + b.length
set_option maxHeartbeats 8000000 in
set_option maxRecDepth 100000 in
/-- slices.Concat of two. -/
theorem concat.two (a b : List S71) (A1 A2 : Option Addr) (c1 c2 g : Nat) (w : World) (hg : w.heap[g]? = some (.cells #[.slice A1 a.length c1, .slice A2 b.length c2] 52 (0, 0))) (h1 : Kd.C k71 w A1 a.length a) (h2 : Kd.C k71 w A2 b.length b) (hl : a.length + b.length < 1000000) :
  Calls Try.prog 92 #[.slice (some ⟨g, 0, none⟩) 2 2] w fun e w' => ∃ v : Value, e = .returned v ∧ Kd.R k71 71 w' w.heap.size (fun _ => True) v (a ++ b) ∧ Below w.heap.size w w' := by
 have BG := am hg
 have H1 := am h1
 have H2 := am h2
 have HL := am hl
 have hsum : ∀ x y : Nat, x + y < 1000000 → wrap64 ((x : Int) + (y : Int)) = ((x + y : Nat) : Int) := fun x y h => by unfold wrap64; omega
 have HSM := am hsum
 clear hg h1 h2 hl hsum
 go_enter Try.func92, Try.ntmps92
 go_wp2
 go_loopg [3, 11] 2 (fun gg s3 s11 wr => ∃ kk : Nat, kk ≤ 2 ∧ Aside0 (2 - kk ≤ gg) ∧ s11 = .int .i64 kk ∧ s3 = .int .i64 (concN a b kk) ∧ wr = w)
 case atStart => exact ⟨0, by omega, ⟨by omega⟩, rfl, rfl, rfl⟩
 case round =>
  obtain ⟨kk, hkk, hg, rfl, rfl, hww⟩ := hrel
  obtain rfl := hww.symm
  clear hww
  have hlen := HL.out
  by_cases hlt : kk < 2
  ·have hltz : (kk : Int) < 2 := by omega
   obtain ⟨hz0, hz1, hzf⟩ := y2 w BG.out
   have hw1 : wrap64 ((kk : Int) + 1) = ((kk + 1 : Nat) : Int) := by unfold wrap64; omega
   rcases (show kk = 0 ∨ kk = 1 by omega) with rfl | rfl
   ·have hs := HSM.out 0 a.length (by omega)
    have hnn : ¬ ((a.length : Int) < 0) := by omega
    rw [Nat.zero_add] at hs
    have e0 : concN a b 0 = 0 := rfl
    have e1 : concN a b 1 = a.length := rfl
    rw [e0]
    go_wp2
    go_roundg 1
    case measure => have := hg.out; omega
    case rel => exact ⟨1, by omega, ⟨by omega⟩, by go_num, by rw [e1], rfl⟩
   ·have hs := HSM.out a.length b.length (by omega)
    have hnn : ¬ (((a.length + b.length : Nat) : Int) < 0) := by omega
    have e1 : concN a b 1 = a.length := rfl
    have e2 : concN a b 2 = a.length + b.length := rfl
    rw [e1]
    go_wp2
    go_roundg 0
    case measure => have := hg.out; omega
    case rel => exact ⟨2, by omega, ⟨by omega⟩, by go_num, by rw [e2]; first | rfl | exact congrArg (Value.int .i64) hs | (simp [hs]; done), rfl⟩
  ·have hltz : ¬ (kk : Int) < 2 := by omega
   obtain rfl : kk = 2 := by omega
   have e2 : concN a b 2 = a.length + b.length := rfl
   rw [e2]
   have hgrow := growN (a.length + b.length) w HL.out
   go_wp2_with (go_at_call 131; refine hgrow.mono ?_; rintro e w2 ⟨v0, rfl, ho, hb⟩; have HO := am ho; have HB := am hb; clear ho hb)
   clear hgrow hltz hlen hg
   go_loopg [6, 27] 2 (fun gg s6 s27 wr => ∃ kk : Nat, kk ≤ 2 ∧ Aside0 (2 - kk ≤ gg) ∧ s27 = .int .i64 kk ∧ Aside0 (Kd.R k71 71 wr w.heap.size (fun _ => True) s6 (conc a b kk)) ∧ Aside0 (Below w.heap.size w wr))
   case atStart => exact ⟨0, by omega, ⟨by omega⟩, rfl, HO, HB⟩
   case round =>
    clear HO HB
    obtain ⟨kk, hkk, hg, rfl, HO, HB⟩ := hrel
    by_cases hlt : kk < 2
    ·have hltz : (kk : Int) < 2 := by omega
     obtain ⟨hz0, hz1, hzf⟩ := y2 wr (blk_below BG.out HB.out)
     have hw1 : wrap64 ((kk : Int) + 1) = ((kk + 1 : Nat) : Int) := by unfold wrap64; omega
     obtain ⟨Ao, co, eo⟩ := Kd.R_slice HO.out
     subst eo
     rcases (show kk = 0 ∨ kk = 1 by omega) with rfl | rfl
     ·go_wp2_with (first | ((with_reducible refine gate_builtin (b := .append) (xs := #[.tmp 31, .tmp 32]) rfl ?_); at_builtin; refine Kd.R_append_rows k71 (w0 := w) w.heap.size rfl (.tmp 31) (.tmp 32) 52 71 (Value.agg #[(.int .i64 0), (.int .i64 0), (.int .i64 0), (.int .i64 0), (.int .i64 0), (.int .i64 0), (.int .i64 0), (.int .i64 0)]) 64 rfl Try.underlying52 info71 rfl (by decide) (by omega) (.slice Ao (conc a b 0).length co) (conc a b 0) a _ _ _ (fun _ => True) (fun _ => False) rfl rfl ?aO ?aR (fun _ _ h => h) (fun _ h => h.elim) ?aF ?aB ?aS ?aL ?_; (case aR => exact Kd.C_below H1.out HB.out); (case aB => exact HB.out); (case aF => exact (fun _ _ => trivial)); (case aO => exact HO.out); (case aS => exact HB.out.size); (case aL => have := HL.out; simp only [conc, if_true, List.length_nil]; omega); intro v1 w5 ho hb hgr hat; have HO2 := am ho; have HB2 := am hb; clear ho hb hgr hat))
      go_roundg 1
      case measure => have := hg.out; omega
      case rel => exact ⟨1, by omega, ⟨by omega⟩, by go_num, HO2, HB2⟩
     ·go_wp2_with (first | ((with_reducible refine gate_builtin (b := .append) (xs := #[.tmp 31, .tmp 32]) rfl ?_); at_builtin; refine Kd.R_append_rows k71 (w0 := w) w.heap.size rfl (.tmp 31) (.tmp 32) 52 71 (Value.agg #[(.int .i64 0), (.int .i64 0), (.int .i64 0), (.int .i64 0), (.int .i64 0), (.int .i64 0), (.int .i64 0), (.int .i64 0)]) 64 rfl Try.underlying52 info71 rfl (by decide) (by omega) (.slice Ao (conc a b 1).length co) (conc a b 1) b _ _ _ (fun _ => True) (fun _ => False) rfl rfl ?aO ?aR (fun _ _ h => h) (fun _ h => h.elim) ?aF ?aB ?aS ?aL ?_; (case aR => exact Kd.C_below H2.out HB.out); (case aB => exact HB.out); (case aF => exact (fun _ _ => trivial)); (case aO => exact HO.out); (case aS => exact HB.out.size); (case aL => have := HL.out; have e : (conc a b 1).length = a.length := rfl; omega); intro v1 w5 ho hb hgr hat; have HO2 := am ho; have HB2 := am hb; clear ho hb hgr hat))
      go_roundg 0
      case measure => have := hg.out; omega
      case rel => exact ⟨2, by omega, ⟨by omega⟩, by go_num, HO2, HB2⟩
    ·have hltz : ¬ (kk : Int) < 2 := by omega
     obtain rfl : kk = 2 := by omega
     go_wp2
     go_ret
     exact ⟨_, rfl, HO.out, HB.out⟩
theorem concat.to (a b ab : List S71) (e : ab = a ++ b) (A1 A2 : Option Addr) (c1 c2 g : Nat) (w : World) (hg : w.heap[g]? = some (.cells #[.slice A1 a.length c1, .slice A2 b.length c2] 52 (0, 0))) (h1 : Kd.C k71 w A1 a.length a) (h2 : Kd.C k71 w A2 b.length b) (hl : a.length + b.length < 1000000) :
  Calls Try.prog 92 #[.slice (some ⟨g, 0, none⟩) 2 2] w fun e w' => ∃ A c, e = .returned (.slice A ab.length c) ∧ Kd.R k71 71 w' w.heap.size (fun _ => True) (.slice A ab.length c) ab ∧ Below w.heap.size w w' := by
 subst e
 refine (concat.two a b A1 A2 c1 c2 g w hg h1 h2 hl).mono ?_
 rintro e w' ⟨v, rfl, ho, hb⟩
 obtain ⟨A, c, rfl⟩ := Kd.R_slice ho
 exact ⟨A, c, rfl, ho, hb⟩
theorem eqA122 (d : Nat) (w : World) (x0 y0 : Int) (x1 y1 : Int) : (Op.equalIn (d + 2) 122 (.agg #[.int .i64 x0, .int .i64 x1]) (.agg #[.int .i64 y0, .int .i64 y1])).run Try.prog w = .ok (x0 == y0 && (x1 == y1)) w := by
 refine eqA_of Try.underlying122 (by kernel_rfl) ?_
 refine eqf_cons (by rfl) (by go_simp; rfl) (by go_simp; rfl) (by go_simp) ?_
 exact eqf_last (by rfl) (by go_simp; rfl) (by go_simp; rfl) (by go_simp)
attribute [local go_sem high] eqA122
theorem below_step2 {w W1 W2 : World} (h : Below w.heap.size w W1) (k : Below W1.heap.size W1 W2) : Below w.heap.size w W2 := h.trans (k.mono h.size)
set_option maxHeartbeats 16000000 in
set_option maxRecDepth 100000 in
theorem differ.one (la lb : List S71) (A1 A2 : Option Addr) (c1 c2 ga gb go gf : Nat) (o1 o2 o3 : Int) (fd : Bool) (W : World) (i k n a b c u v p1 p2 q1 q2 : Int) (t : Bool) (ht : (!(p1 == q1) || !(p2 == q2)) = t)
  (ha : W.heap[ga]? = some (.cells #[.slice A1 la.length c1] 52 (0, 0))) (hb : W.heap[gb]? = some (.cells #[.slice A2 lb.length c2] 52 (0, 0))) (ho : W.heap[go]? = some (.cells #[.int .i64 o1, .int .i64 o2, .int .i64 o3] 60 (0, 0))) (hf : W.heap[gf]? = some (.cells #[.bool fd] 4 (0, 0)))
  (hra : Kd.C k71 W A1 la.length la) (hca : la.length ≤ c1) (hrb : Kd.C k71 W A2 lb.length lb) (hcb : lb.length ≤ c2) (hu : impl_first.f la a b c = some u) (hx : impl_act.f la u = some (p1, p2)) (hv : impl_first.f lb a b c = some v) (hy : impl_act.f lb v = some (q1, q2)) :
  Calls Try.prog 93 #[.int .i64 i, .int .i64 k, .int .i64 n, .agg #[.int .i64 a, .int .i64 b, .int .i64 c], .pointer (some ⟨ga, 0, none⟩), .pointer (some ⟨gb, 0, none⟩), .pointer (some ⟨go, 0, none⟩), .pointer (some ⟨gf, 0, none⟩)] W fun e w' =>
   e = .returned (.bool (cond t false (!fd))) ∧ w'.heap[go]? = some (.cells (cond t #[.int .i64 a, .int .i64 b, .int .i64 c] #[.int .i64 o1, .int .i64 o2, .int .i64 o3]) 60 (0, 0)) ∧ w'.heap[gf]? = some (.cells #[.bool (cond t true fd)] 4 (0, 0)) ∧
   (∀ j, j < W.heap.size → j ≠ go → j ≠ gf → w'.heap[j]? = W.heap[j]?) ∧ W.heap.size ≤ w'.heap.size ∧ w'.os = W.os ∧ w'.tape = W.tape ∧ w'.output = W.output := by
 have hu1 := Try.underlying60
 have hu2 := Try.underlying122
 have BA := am ha
 have BB1 := am hb
 have BO := am ho
 have BF := am hf
 have RA := am hra
 have RB := am hrb
 have CA := am hca
 have CB1 := am hcb
 have HU := am hu
 have HV := am hv
 have HX := am hx
 have HY := am hy
 have HT := am ht
 clear ht ha hb ho hf hra hrb hca hcb hu hv hx hy
 go_enter Try.func93, Try.ntmps93
 go_upto_region 1 with (first | ((with_reducible refine gate_dst (N := 11) rfl ?_); refine box_event rfl (N := 11) rfl (cs := #[.int .i64 a, .int .i64 b, .int .i64 c]) (t := 60) BX ?_; intro gc hgc w2 hbox hbw; have HB := am hbw; have BK := am hbox; have GC := am hgc; clear hbw hgc hbox))
 have BA2 := am (blk_below BA.out HB.out)
 have BB2 := am (blk_below BB1.out HB.out)
 have BO2 := am (blk_below BO.out HB.out)
 have BF2 := am (blk_below BF.out HB.out)
 have NO : gc ≠ go := fun e => by have := blk_lt BO.out; have := GC.out; omega
 have NF : gc ≠ gf := fun e => by have := blk_lt BF.out; have := GC.out; omega
 have NOF : go ≠ gf := blk_ne BO.out BF.out (by decide)
 have LA := am (blk_lt BA.out)
 clear BA BB1
 obtain ⟨hz0, hz1, hz2, hzf⟩ := y3 w2 BK.out
 obtain ⟨ha0, haf⟩ := y1 w2 BA2.out
 obtain ⟨hb0, hbf⟩ := y1 w2 BB2.out
 refine start_ (n := 11) (S := fun w' => ce3 w' gc (.int .i64 a) (.int .i64 b) (.int .i64 c) (w'.cell? ⟨ga, 0, none⟩ = some (.slice A1 la.length c1) ∧ w'.cell? ⟨gb, 0, none⟩ = some (.slice A2 lb.length c2))) (ds := []) (tf 0 11) (by kernel_rfl) rfl rfl ⟨hz0, hz1, hz2, ha0, hb0⟩ (fun hHeld => ?_)
 clear hz0 hz1 hz2 hzf ha0 haf hb0 hbf
 refine tk 0 (some 13) (tr [1, 10]) (by kernel_rfl) hHeld ?_
 refine tk 1 (some 14) (tr [2, 9]) (by kernel_rfl) hHeld ?_
 refine tk 2 (some 15) (tr [3, 8]) (by kernel_rfl) hHeld ?_
 refine tk 5 (some 18) (tr [3, 2, 1, 5]) (by kernel_rfl) hHeld ?_
 refine tk 6 (some 19) (tr [3, 2, 2, 4]) (by kernel_rfl) hHeld ?_
 refine tk 7 (some 20) (tr [3, 2, 3, 3]) (by kernel_rfl) hHeld ?_
 replace HB := am (below_drew1 HB.out)
 replace BK := am (blk_drew BK.out)
 replace BA2 := am (blk_drew BA2.out)
 replace BB2 := am (blk_drew BB2.out)
 replace BO2 := am (blk_drew BO2.out)
 replace BF2 := am (blk_drew BF2.out)
 generalize w2.drew = w2d at HB BK BA2 BB2 BO2 BF2 hHeld ⊢
 refine one_ (i := 3) (N := some 16) (tr [4, 1, 3, 3]) rfl rfl (by kernel_rfl) (by decide) (fun K hK => ?_)
 refine goes_ Try.func89 (by kernel_rfl) rfl #[.slice A1 la.length c1, .agg #[.int .i64 a, .int .i64 b, .int .i64 c]] (by rfl) rfl rfl MT ?_
 refine (impl_first.calls A1 c1 la a b c u _ (Kd.C_below RA.out HB.out) CA.out HU.out).mono ?_
 rintro e w3 ⟨rfl, hbw⟩
 refine ⟨_, rfl, ?_⟩
 replace HB := am (below_step2 HB.out hbw)
 replace BK := am (blk_below BK.out hbw)
 replace BA2 := am (blk_below BA2.out hbw)
 replace BB2 := am (blk_below BB2.out hbw)
 replace BO2 := am (blk_below BO2.out hbw)
 replace BF2 := am (blk_below BF2.out hbw)
 clear hbw
 refine hK.out _ _ ⟨z0 _ BK.out, z1 _ BK.out, z2 _ BK.out, z0 _ BA2.out, z0 _ BB2.out⟩ (fun hHeld => ?_)
 clear hK K hHeld
 refine norm_ (a' := ?_) ?_ ?_
 rotate_left
 ·show Act.put _ (some 16) _ = _
  simp only [Act.put, List.setIfInBounds_toArray, List.set_cons_zero, List.set_cons_succ, i64_w, i32_w]
  rfl
 refine one_ (i := 4) (N := some 17) (tr [8, 3]) rfl rfl (by kernel_rfl) (by decide) (fun K hK => ?_)
 refine goes_ Try.func94 (by kernel_rfl) rfl #[.slice A1 la.length c1, .int .i64 u] (by rfl) rfl rfl MT ?_
 refine (impl_act.calls A1 c1 la u p1 p2 _ (Kd.C_below RA.out HB.out) CA.out HX.out).mono ?_
 rintro e w4 ⟨rfl, hbw⟩
 refine ⟨_, rfl, ?_⟩
 replace HB := am (below_step2 HB.out hbw)
 replace BK := am (blk_below BK.out hbw)
 replace BA2 := am (blk_below BA2.out hbw)
 replace BB2 := am (blk_below BB2.out hbw)
 replace BO2 := am (blk_below BO2.out hbw)
 replace BF2 := am (blk_below BF2.out hbw)
 clear hbw
 refine hK.out _ _ ⟨z0 _ BK.out, z1 _ BK.out, z2 _ BK.out, z0 _ BA2.out, z0 _ BB2.out⟩ (fun hHeld => ?_)
 clear hK K hHeld
 refine norm_ (a' := ?_) ?_ ?_
 rotate_left
 ·show Act.put _ (some 17) _ = _
  simp only [Act.put, List.setIfInBounds_toArray, List.set_cons_zero, List.set_cons_succ, i64_w, i32_w]
  rfl
 refine one_ (i := 8) (N := some 21) (tr [9, 2]) rfl rfl (by kernel_rfl) (by decide) (fun K hK => ?_)
 refine goes_ Try.func89 (by kernel_rfl) rfl #[.slice A2 lb.length c2, .agg #[.int .i64 a, .int .i64 b, .int .i64 c]] (by rfl) rfl rfl MT ?_
 refine (impl_first.calls A2 c2 lb a b c v _ (Kd.C_below RB.out HB.out) CB1.out HV.out).mono ?_
 rintro e w5 ⟨rfl, hbw⟩
 refine ⟨_, rfl, ?_⟩
 replace HB := am (below_step2 HB.out hbw)
 replace BK := am (blk_below BK.out hbw)
 replace BA2 := am (blk_below BA2.out hbw)
 replace BB2 := am (blk_below BB2.out hbw)
 replace BO2 := am (blk_below BO2.out hbw)
 replace BF2 := am (blk_below BF2.out hbw)
 clear hbw
 refine hK.out _ _ ⟨z0 _ BK.out, z1 _ BK.out, z2 _ BK.out, z0 _ BA2.out, z0 _ BB2.out⟩ (fun hHeld => ?_)
 clear hK K hHeld
 refine norm_ (a' := ?_) ?_ ?_
 rotate_left
 ·show Act.put _ (some 21) _ = _
  simp only [Act.put, List.setIfInBounds_toArray, List.set_cons_zero, List.set_cons_succ, i64_w, i32_w]
  rfl
 refine one_ (i := 9) (N := some 22) (tr [10, 1]) rfl rfl (by kernel_rfl) (by decide) (fun K hK => ?_)
 refine goes_ Try.func94 (by kernel_rfl) rfl #[.slice A2 lb.length c2, .int .i64 v] (by rfl) rfl rfl MT ?_
 refine (impl_act.calls A2 c2 lb v q1 q2 _ (Kd.C_below RB.out HB.out) CB1.out HY.out).mono ?_
 rintro e w6 ⟨rfl, hbw⟩
 refine ⟨_, rfl, ?_⟩
 replace HB := am (below_step2 HB.out hbw)
 replace BK := am (blk_below BK.out hbw)
 replace BA2 := am (blk_below BA2.out hbw)
 replace BB2 := am (blk_below BB2.out hbw)
 replace BO2 := am (blk_below BO2.out hbw)
 replace BF2 := am (blk_below BF2.out hbw)
 clear hbw
 refine hK.out _ _ ⟨z0 _ BK.out, z1 _ BK.out, z2 _ BK.out, z0 _ BA2.out, z0 _ BB2.out⟩ (fun hHeld => ?_)
 clear hK K hHeld
 refine norm_ (a' := ?_) ?_ ?_
 rotate_left
 ·show Act.put _ (some 22) _ = _
  simp only [Act.put, List.setIfInBounds_toArray, List.set_cons_zero, List.set_cons_succ, i64_w, i32_w]
  rfl
 refine pu 10 (some 23) (tf 11 0) (by kernel_rfl) ?_
 refine done_ (by kernel_rfl) ?_
 have BAL := am HB.out.size
 rw [HT.out]
 clear HU HV HX HY HT
 cases t with
 | false =>
  obtain ⟨hf0, hff⟩ := y1 w6 BF2.out
  go_wp2
  go_ret
  exact ⟨rfl, BO2.out, BF2.out, fun j hj _ _ => HB.out.block j hj, HB.out.size, HB.out.os, HB.out.tape, HB.out.output⟩
 | true =>
  obtain ⟨hz0, hz1, hz2, hzf⟩ := y3 w6 BK.out
  obtain ⟨ho0, ho1, ho2, hof⟩ := y3 w6 BO2.out
  obtain ⟨hf0, hff⟩ := y1 w6 BF2.out
  go_wp2
  go_ret
  have hj : ∀ (x y z q : Value) (j : Nat), j ≠ go → j ≠ gf → ((((w6.setCell ⟨go, 0, none⟩ x).setCell ⟨go, 1, none⟩ y).setCell ⟨go, 2, none⟩ z).setCell ⟨gf, 0, none⟩ q).heap[j]? = w6.heap[j]? := fun x y z q j h1 h2 =>
   (Below.heap_setCell _ ⟨gf, 0, none⟩ _ j h2).trans ((Below.heap_setCell _ ⟨go, 2, none⟩ _ j h1).trans ((Below.heap_setCell _ ⟨go, 1, none⟩ _ j h1).trans (Below.heap_setCell _ ⟨go, 0, none⟩ _ j h1)))
  refine ⟨rfl, (Below.heap_setCell _ ⟨gf, 0, none⟩ _ go NOF).trans (P3 BO2), ?_, fun j h0 h1 h2 => (hj _ _ _ _ j h1 h2).trans (HB.out.block j h0), ?_, HB.out.os, HB.out.tape, HB.out.output⟩
  ·refine blk_put (cs := #[.bool fd]) ?_ 0 _ rfl
   exact (Below.heap_setCell _ ⟨go, 2, none⟩ _ gf (Ne.symm NOF)).trans ((Below.heap_setCell _ ⟨go, 1, none⟩ _ gf (Ne.symm NOF)).trans ((Below.heap_setCell _ ⟨go, 0, none⟩ _ gf (Ne.symm NOF)).trans BF2.out))
  ·simpa [World.setCell] using HB.out.size
theorem build_event {P : Program} {ops : Array Oper} {Q : Exit → Act → World → Prop} {rest : List Oper} {o : Oper} {a : Act} {W : World} (hgd : o.guard = none) {N : Tmp} (_hd : o.dst = some N) {cs : Array Value} {t : TypeId} {n : Nat}
  (hrun : (execOp a.eval o).run P W = .ok (.value (.slice (some ⟨W.heap.size, 0, none⟩) n n)) (W.alloc (.cells cs t (0, 0))))
  (h : ∀ g, g = W.heap.size → ∀ w1, w1.heap[g]? = some (.cells cs t (0, 0)) → Below W.heap.size W w1 → wpList P ops Q rest (a.put o.dst (.slice (some ⟨g, 0, none⟩) n n)) w1) : wpList P ops Q (o :: rest) a W :=
 Kd.event_run hgd hrun (h _ rfl _ (heap_alloc_new _ _) (below_alloc (Below.refl _ _) _))
def impl_RulesDiffer.p (la lb : List S71) (s : Int × Int × Int × Bool) (i k n a b c : Int) : Option ((Int × Int × Int × Bool) × Bool) := (impl_first.f la a b c).bind fun u => (impl_act.f la u).bind fun x => (impl_first.f lb a b c).bind fun v => (impl_act.f lb v).bind fun y => some (if (!(x.1 == y.1) || !(x.2 == y.2)) = true then ((a, b, c, true), false) else (s, !s.2.2.2))
def impl_RulesDiffer.f (k : Nat) (l0 l1 : List S71) : Option (Int × Int × Int × Bool) := (impl_RulesOk.f k l0).bind fun oa => if oa = true then ((impl_RulesOk.f k l1).bind fun ob => if ob = true then (if l0.length + l1.length < 1000000 then ((impl_axesOf.f k (l0 ++ l1)).bind fun x => if x.1.length < 4611686018427387904 ∧ x.2.1.length < 4611686018427387904 ∧ x.2.2.length < 4611686018427387904 then ((cornX (impl_RulesDiffer.p l0 l1) x.2.2 x.2.1 x.1 0 (0, 0, 0, false)).bind fun r => some r.1) else none) else none) else some (0, 0, 0, false)) else some (0, 0, 0, false)
def diffInv (w7 : World) (go gf : Nat) (box : Array Value) (gx : Nat) (s : Int × Int × Int × Bool) (W : World) : Prop :=
 W.heap[gx]? = some (.cells box 113 (0, 0)) ∧ (∀ j, j < w7.heap.size → j ≠ go → j ≠ gf → W.heap[j]? = w7.heap[j]?) ∧ (w7.heap.size ≤ W.heap.size ∧ W.os = w7.os ∧ W.tape = w7.tape ∧ W.output = w7.output) ∧
  W.heap[go]? = some (.cells #[.int .i64 s.1, .int .i64 s.2.1, .int .i64 s.2.2.1] 60 (0, 0)) ∧ W.heap[gf]? = some (.cells #[.bool s.2.2.2] 4 (0, 0))
theorem diff.row {go gf : Nat} {w6 w7 W : World} {ok : Nat → Prop} {A : Option Addr} {c : Nat} {xs : List Int} (ho : go < w6.heap.size) (hf : gf < w6.heap.size) (h : Kd.R (Kd.int .i64) 3 w7 w6.heap.size ok (.slice A xs.length c) xs) (hW : ∀ j, j < w7.heap.size → j ≠ go → j ≠ gf → W.heap[j]? = w7.heap[j]?) : Kd.C (Kd.int .i64) W A xs.length xs :=
 (Kd.R_reads' (Kd.R_move (Kd.R_bound h) (fun j hj => hW j hj.2.2.1 (fun e => by have := hj.2.1; omega) (fun e => by have := hj.2.1; omega)))).2.2
theorem diff.h0 {go gf : Nat} {w7 : World} {box : Array Value} (ho : w7.heap[go]? = some (.cells #[.int .i64 0, .int .i64 0, .int .i64 0] 60 (0, 0))) (hf : w7.heap[gf]? = some (.cells #[.bool false] 4 (0, 0))) :
  ∀ gx W, gx = w7.heap.size → W.heap[gx]? = some (.cells box 113 (0, 0)) → Below w7.heap.size w7 W → diffInv w7 go gf box gx (0, 0, 0, false) W :=
 fun gx W e hg hW => ⟨hg, fun j hj _ _ => hW.block j hj, ⟨hW.size, hW.os, hW.tape, hW.output⟩, blk_below ho hW, blk_below hf hW⟩
theorem diff.hS {la lb : List S71} {A1 A2 : Option Addr} {c1 c2 ga gb go gf : Nat} {w w7 : World} {box : Array Value} (hra : Kd.C k71 w A1 la.length la) (hca : la.length ≤ c1) (hrb : Kd.C k71 w A2 lb.length lb) (hcb : lb.length ≤ c2) (h7 : Below w.heap.size w w7) (ha : w7.heap[ga]? = some (.cells #[.slice A1 la.length c1] 52 (0, 0))) (hb : w7.heap[gb]? = some (.cells #[.slice A2 lb.length c2] 52 (0, 0)))
  (ho : w.heap.size ≤ go) (hf : w.heap.size ≤ gf) (noa : ga ≠ go) (nob : gb ≠ go) (nfa : ga ≠ gf) (nfb : gb ≠ gf) :
  ∀ gx s W i k n a b c q, diffInv w7 go gf box gx s W → impl_RulesDiffer.p la lb s i k n a b c = some q → Calls Try.prog 93 (#[.int .i64 i, .int .i64 k, .int .i64 n, .agg #[.int .i64 a, .int .i64 b, .int .i64 c]] ++ #[.pointer (some ⟨ga, 0, none⟩), .pointer (some ⟨gb, 0, none⟩), .pointer (some ⟨go, 0, none⟩), .pointer (some ⟨gf, 0, none⟩)]) W fun e w' => e = .returned (.bool q.2) ∧ diffInv w7 go gf box gx q.1 w' := by
 intro gx s W i k n a b c q hI hp
 obtain ⟨i1, i2, ⟨i3, i4, i5, i6⟩, i7, i8⟩ := hI
 unfold impl_RulesDiffer.p at hp
 obtain ⟨u, hu, hp⟩ := Option.bind_eq_some_iff.mp hp
 obtain ⟨⟨p1, p2⟩, hx, hp⟩ := Option.bind_eq_some_iff.mp hp
 obtain ⟨v, hv, hp⟩ := Option.bind_eq_some_iff.mp hp
 obtain ⟨⟨q1, q2⟩, hy, hp⟩ := Option.bind_eq_some_iff.mp hp
 have hp := Option.some.inj hp
 have hbW : Below w.heap.size w W := ⟨i4.trans h7.os, i5.trans h7.tape, i6.trans h7.output, Nat.le_trans h7.size i3, fun j hj => (i2 j (Nat.lt_of_lt_of_le hj h7.size) (by omega) (by omega)).trans (h7.block j hj)⟩
 have ngo : gx ≠ go := fun e => by rw [e, i7] at i1; cases i1
 have ngf : gx ≠ gf := fun e => by rw [e, i8] at i1; cases i1
 refine (differ.one la lb A1 A2 c1 c2 ga gb go gf s.1 s.2.1 s.2.2.1 s.2.2.2 W i k n a b c u v p1 p2 q1 q2 _ rfl ((i2 ga (blk_lt ha) noa nfa).trans ha) ((i2 gb (blk_lt hb) nob nfb).trans hb) i7 i8 (Kd.C_below hra hbW) hca (Kd.C_below hrb hbW) hcb hu hx hv hy).mono ?_
 rintro e w' ⟨rfl, j1, j2, j3, j4, j5, j6, j7⟩
 subst hp
 simp only []
 cases ht : (!(p1 == q1) || !(p2 == q2)) with
 | false =>
  rw [ht] at j1 j2
  simp only [Bool.false_eq_true, if_false]
  exact ⟨rfl, (j3 gx (blk_lt i1) ngo ngf).trans i1, fun j hj h1 h2 => (j3 j (Nat.lt_of_lt_of_le hj i3) h1 h2).trans (i2 j hj h1 h2), ⟨Nat.le_trans i3 j4, j5.trans i4, j6.trans i5, j7.trans i6⟩, j1, j2⟩
 | true =>
  rw [ht] at j1 j2
  simp only [if_true]
  exact ⟨rfl, (j3 gx (blk_lt i1) ngo ngf).trans i1, fun j hj h1 h2 => (j3 j (Nat.lt_of_lt_of_le hj i3) h1 h2).trans (i2 j hj h1 h2), ⟨Nat.le_trans i3 j4, j5.trans i4, j6.trans i5, j7.trans i6⟩, j1, j2⟩
set_option maxHeartbeats 16000000 in
set_option maxRecDepth 100000 in
theorem impl_RulesDiffer.calls (k : Nat) (A0 : Option Addr) (c0 : Nat) (l0 : List S71) (A1 : Option Addr) (c1 : Nat) (l1 : List S71) (r1 : Int) (r2 : Int) (r3 : Int) (r4 : Bool) (w : World) (hr0 : Kd.C k71 w A0 l0.length l0) (hc0 : l0.length ≤ c0) (hr1 : Kd.C k71 w A1 l1.length l1) (hc1 : l1.length ≤ c1) (h : impl_RulesDiffer.f k l0 l1 = some (r1, r2, r3, r4)) :
  Calls Try.prog 40 #[.slice A0 l0.length c0, .slice A1 l1.length c1] w fun e w' => e = .returned (.tuple #[.agg #[.int .i64 r1, .int .i64 r2, .int .i64 r3], .bool r4]) ∧ Below w.heap.size w w' := by
 have hu := Try.underlying113
 have hu2 := Try.underlying60
 have HR0 := am hr0
 have HC0 := am hc0
 have HR1 := am hr1
 have HC1 := am hc1
 unfold impl_RulesDiffer.f at h
 obtain ⟨oa, hoa, h⟩ := Option.bind_eq_some_iff.mp h
 have HOA := am hoa
 have HE := am h
 clear hr0 hc0 hr1 hc1 h hoa
 go_enter Try.func40, Try.ntmps40
 go_upto_region 1 with (first
  | ((with_reducible refine gate_dst (N := 2) rfl ?_); refine box_event rfl (N := 2) rfl (cs := #[.slice A0 l0.length c0]) (t := 52) BX ?_; intro ga hga w2 hbox hbw; have HB := am hbw; have BA := am hbox; have GA := am hga; clear hbw hga hbox)
  | ((with_reducible refine gate_dst (N := 3) rfl ?_); refine box_event rfl (N := 3) rfl (cs := #[.slice A1 l1.length c1]) (t := 52) BX ?_; intro gb hgb w3 hbox hbw; replace BA := am (blk_below BA.out hbw); replace HB := am (below_step2 HB.out hbw); have BB1 := am hbox; have GB := am hgb; clear hbw hgb hbox)
  | ((with_reducible refine gate_dst (N := 4) rfl ?_); refine box_event rfl (N := 4) rfl (cs := #[.int .i64 0, .int .i64 0, .int .i64 0]) (t := 60) BX ?_; intro gr hgr w4 hbox hbw; have WR := am (Nat.le_trans HB.out.size (Nat.le_of_eq hgr.symm)); replace BA := am (blk_below BA.out hbw); replace BB1 := am (blk_below BB1.out hbw); replace HB := am (below_step2 HB.out hbw); have BR := am hbox; clear hbw hgr hbox))
 obtain ⟨ha0, haf⟩ := y1 w4 BA.out
 clear GA GB haf
 cases oa with
 | false =>
  obtain ⟨hr0, hr1, hr2, hrf⟩ := y3 w4 BR.out
  have h := HE.out
  rw [if_neg (by simp)] at h
  simp only [Option.some.injEq, Prod.mk.injEq] at h
  obtain ⟨rfl, rfl, rfl, rfl⟩ := h
  clear HE
  go_upto_region 2 with (go_at_call 43; first | (with_reducible refine (impl_RulesOk.calls k A0 c0 l0 false _ (Kd.C_below HR0.out HB.out) HC0.out HOA.out).mono ?_; rintro e w5 ⟨rfl, hb⟩; replace BR := am (blk_below BR.out hb); replace HB := am (below_step2 HB.out hb); clear hb ha0 hr0 hr1 hr2 hrf; obtain ⟨hr0, hr1, hr2, hrf⟩ := y3 w5 BR.out))
  go_wp2
  refine bodyPost_ret (results_ct rfl _ _ gr 60 #[.int .i64 0, .int .i64 0, .int .i64 0] (0, 0) _ rfl (P3 BR) Try.underlying60 rfl (by kernel_rfl)) rfl ?_
  exact ⟨rfl, below_set (below_set (below_set HB.out WR.out) WR.out) WR.out⟩
 | true =>
  have h := HE.out
  rw [if_pos rfl] at h
  obtain ⟨ob, hob, h⟩ := Option.bind_eq_some_iff.mp h
  have HOB := am hob
  replace HE := am h
  clear h hob
  cases ob with
  | false =>
   obtain ⟨hr0, hr1, hr2, hrf⟩ := y3 w4 BR.out
   obtain ⟨hb0, hbf⟩ := y1 w4 BB1.out
   have h := HE.out
   rw [if_neg (by simp)] at h
   simp only [Option.some.injEq, Prod.mk.injEq] at h
   obtain ⟨rfl, rfl, rfl, rfl⟩ := h
   clear HE
   go_upto_region 2 with (go_at_call 43; first | (with_reducible refine (impl_RulesOk.calls k A0 c0 l0 true _ (Kd.C_below HR0.out HB.out) HC0.out HOA.out).mono ?_; rintro e w5 ⟨rfl, hb⟩; replace BR := am (blk_below BR.out hb); replace BB1 := am (blk_below BB1.out hb); replace BA := am (blk_below BA.out hb); replace HB := am (below_step2 HB.out hb); clear hb ha0 hr0 hr1 hr2 hrf hb0 hbf; obtain ⟨hb0, hbf⟩ := y1 w5 BB1.out) | (with_reducible refine (impl_RulesOk.calls k A1 c1 l1 false _ (Kd.C_below HR1.out HB.out) HC1.out HOB.out).mono ?_; rintro e w6 ⟨rfl, hb⟩; replace BR := am (blk_below BR.out hb); replace BB1 := am (blk_below BB1.out hb); replace BA := am (blk_below BA.out hb); replace HB := am (below_step2 HB.out hb); clear hb hb0 hbf; obtain ⟨hr0, hr1, hr2, hrf⟩ := y3 w6 BR.out))
   go_wp2
   refine bodyPost_ret (results_ct rfl _ _ gr 60 #[.int .i64 0, .int .i64 0, .int .i64 0] (0, 0) _ rfl (P3 BR) Try.underlying60 rfl (by kernel_rfl)) rfl ?_
   exact ⟨rfl, below_set (below_set (below_set HB.out WR.out) WR.out) WR.out⟩
  | true =>
   have h := HE.out
   rw [if_pos rfl] at h
   by_cases cl : l0.length + l1.length < 1000000
   ·rw [if_pos cl] at h
    obtain ⟨⟨xs, ys, zs⟩, hax, h⟩ := Option.bind_eq_some_iff.mp h
    simp only [] at h
    by_cases c2 : xs.length < 4611686018427387904 ∧ ys.length < 4611686018427387904 ∧ zs.length < 4611686018427387904
    ·rw [if_pos c2] at h
     obtain ⟨q, hq, h⟩ := Option.bind_eq_some_iff.mp h
     have h := Option.some.inj h
     have HQ := am hq
     obtain ⟨lc, hlc⟩ : ∃ lc, lc = l0 ++ l1 := ⟨_, rfl⟩
     rw [← hlc] at hax
     have HLC := am hlc
     have HX := am hax
     have HL := am c2
     have LN := am cl
     have HF := am h
     clear HE hq hax c2 cl h hlc
     obtain ⟨hb0, hbf⟩ := y1 w4 BB1.out
     go_upto_region 3 with (go_at_call 43; first | (with_reducible refine (impl_RulesOk.calls k A0 c0 l0 true _ (Kd.C_below HR0.out HB.out) HC0.out HOA.out).mono ?_; rintro e w5 ⟨rfl, hb⟩; replace BR := am (blk_below BR.out hb); replace BB1 := am (blk_below BB1.out hb); replace BA := am (blk_below BA.out hb); replace HB := am (below_step2 HB.out hb); clear hb ha0 hb0 hbf; obtain ⟨hb0, hbf⟩ := y1 w5 BB1.out) | (with_reducible refine (impl_RulesOk.calls k A1 c1 l1 true _ (Kd.C_below HR1.out HB.out) HC1.out HOB.out).mono ?_; rintro e w6 ⟨rfl, hb⟩; replace BR := am (blk_below BR.out hb); replace BB1 := am (blk_below BB1.out hb); replace BA := am (blk_below BA.out hb); replace HB := am (below_step2 HB.out hb); clear hb hb0 hbf))
     go_upto_region 4 with (first | ((with_reducible refine gate_dst (N := 6) rfl ?_); refine box_event rfl (N := 6) rfl (cs := #[.int .i64 0, .int .i64 0, .int .i64 0]) (t := 60) BX ?_; intro go hgo w7 hbox hbw; have GO := am (show w.heap.size ≤ go from Nat.le_trans HB.out.size (Nat.le_of_eq hgo.symm)); have GRO := am (show gr ≠ go from fun e => by have := blk_lt BR.out; omega); replace BR := am (blk_below BR.out hbw); replace BB1 := am (blk_below BB1.out hbw); replace BA := am (blk_below BA.out hbw); replace HB := am (below_step2 HB.out hbw); have BO := am hbox; clear hbw hgo hbox))
     go_upto_region 5 with (first | ((with_reducible refine gate_dst (N := 7) rfl ?_); refine box_event rfl (N := 7) rfl (cs := #[.bool false]) (t := 4) BX ?_; intro gf hgf w8 hbox hbw; have GF := am (show w.heap.size ≤ gf from Nat.le_trans HB.out.size (Nat.le_of_eq hgf.symm)); replace BR := am (blk_below BR.out hbw); replace BB1 := am (blk_below BB1.out hbw); replace BA := am (blk_below BA.out hbw); replace BO := am (blk_below BO.out hbw); replace HB := am (below_step2 HB.out hbw); have BF := am hbox; obtain ⟨hf0, hff⟩ := y1 w8 hbox; clear hbw hgf hbox))
     have NAO := am (blk_ne BA.out BO.out (by decide))
     have NBO := am (blk_ne BB1.out BO.out (by decide))
     have NAF := am (blk_ne BA.out BF.out (by decide))
     have NBF := am (blk_ne BB1.out BF.out (by decide))
     have NOF := am (blk_ne BO.out BF.out (by decide))
     have NRF := am (blk_ne BR.out BF.out (by decide))
     have BA9 := am ((Below.heap_setCell w8 ⟨gf, 0, none⟩ (.bool false) ga NAF.out).trans BA.out)
     have BB9 := am ((Below.heap_setCell w8 ⟨gf, 0, none⟩ (.bool false) gb NBF.out).trans BB1.out)
     have BO9 := am ((Below.heap_setCell w8 ⟨gf, 0, none⟩ (.bool false) go NOF.out).trans BO.out)
     have BR9 := am ((Below.heap_setCell w8 ⟨gf, 0, none⟩ (.bool false) gr NRF.out).trans BR.out)
     have BF9 := am (blk_put (cs' := #[.bool false]) BF.out 0 (.bool false) rfl)
     have HB9 := am (below_set HB.out GF.out : Below w.heap.size w (w8.setCell ⟨gf, 0, none⟩ (.bool false)))
     generalize w8.setCell ⟨gf, 0, none⟩ (.bool false) = w9 at BA9 BB9 BO9 BR9 BF9 HB9 ⊢
     clear BA BB1 BO BR BF HB hf0 hff HOA HOB
     obtain ⟨ha0, haf⟩ := y1 w9 BA9.out
     obtain ⟨hb0, hbf⟩ := y1 w9 BB9.out
     have eg := enters_of Try.func93 (by kernel_rfl) rfl
     go_upto_region 6 with (first
      | ((with_reducible refine gate_dst (N := 19) rfl ?_); refine build_event rfl (N := 19) rfl (cs := #[.slice A0 l0.length c0, .slice A1 l1.length c1]) (t := 52) (n := 2) BX ?_; intro g2 hg2 w10 hbox hbw; have BX2 := am hbox; have HW10 := am hbw; clear hbw hg2 hbox)
      | (go_at_call 92; refine (concat.to l0 l1 lc HLC.out A0 A1 c0 c1 g2 w10 BX2.out (Kd.C_below HR0.out (below_step2 HB9.out HW10.out)) (Kd.C_below HR1.out (below_step2 HB9.out HW10.out)) LN.out).mono ?_; rintro e w11 ⟨A4, c4, rfl, ho, hbw⟩; have HO4 := am ho; have HW11 := am (below_step2 HW10.out hbw); clear ho hbw)
      | (go_at_call 86; refine (impl_axesOf.calls k A4 c4 lc xs ys zs _ (Kd.R_reads' HO4.out).2.2 (Kd.R_reads' HO4.out).2.1 HX.out).mono ?_; rintro e w12 ⟨v0, v1, v2, rfl, ho0, ho1, ho2, hbw⟩; obtain ⟨A5, k5, rfl⟩ := Kd.R_slice ho0; obtain ⟨A6, k6, rfl⟩ := Kd.R_slice ho1; obtain ⟨A7, k7, rfl⟩ := Kd.R_slice ho2; have HO0 := am ho0; have HO1 := am ho1; have HO2 := am ho2; have HW12 := am (below_step2 HW11.out hbw); clear ho0 ho1 ho2 hbw)
      | (go_at_call 87; refine (corners.gen (impl_RulesDiffer.p l0 l1) 93 #[.pointer (some ⟨ga, 0, none⟩), .pointer (some ⟨gb, 0, none⟩), .pointer (some ⟨go, 0, none⟩), .pointer (some ⟨gf, 0, none⟩)] eg (diffInv w12 go gf #[.slice A5 xs.length k5, .slice A6 ys.length k6, .slice A7 zs.length k7]) xs ys zs A5 A6 A7 k5 k6 k7 (0, 0, 0, false) q w12 HL.out ?h0 ?hI ?hS HQ.out).mono ?_; (case h0 => exact diff.h0 (blk_below BO9.out HW12.out) (blk_below BF9.out HW12.out)); (case hI => exact fun gx s W hi => ⟨hi.1, diff.row (Nat.lt_of_lt_of_le (blk_lt BO9.out) HW11.out.size) (Nat.lt_of_lt_of_le (blk_lt BF9.out) HW11.out.size) HO0.out hi.2.1, diff.row (Nat.lt_of_lt_of_le (blk_lt BO9.out) HW11.out.size) (Nat.lt_of_lt_of_le (blk_lt BF9.out) HW11.out.size) HO1.out hi.2.1, diff.row (Nat.lt_of_lt_of_le (blk_lt BO9.out) HW11.out.size) (Nat.lt_of_lt_of_le (blk_lt BF9.out) HW11.out.size) HO2.out hi.2.1⟩); (case hS => exact diff.hS HR0.out HC0.out HR1.out HC1.out (below_step2 HB9.out HW12.out) (blk_below BA9.out HW12.out) (blk_below BB9.out HW12.out) GO.out GF.out NAO.out NBO.out NAF.out NBF.out); rintro e w13 ⟨rfl, gx, hinv⟩; have HI := am hinv; clear hinv))
     obtain ⟨i1, i2, ⟨i3, i4, i5, i6⟩, i7, i8⟩ := HI.out
     have h12 := below_step2 HB9.out HW12.out
     have BO13 := am i7
     have BF13 := am i8
     have BR13 := am ((i2 gr (Nat.lt_of_lt_of_le (blk_lt BR9.out) HW12.out.size) GRO.out NRF.out).trans (blk_below BR9.out HW12.out))
     have HB13 := am (show Below w.heap.size w w13 from ⟨i4.trans h12.os, i5.trans h12.tape, i6.trans h12.output, Nat.le_trans h12.size i3, fun j hj => (i2 j (Nat.lt_of_lt_of_le hj h12.size) (fun e => by have := GO.out; omega) (fun e => by have := GF.out; omega)).trans (h12.block j hj)⟩)
     clear i1 i2 i3 i4 i5 i6 i7 i8 h12 HI HO0 HO1 HO2 HO4 HW10 HW11 HW12 BX2 HB9 BA9 BB9 BO9 BR9 BF9 eg HQ HX HL
     obtain ⟨⟨q1, q2, q3, q4⟩, qb⟩ := q
     simp only [] at BO13 BF13
     have e4 := HF.out
     simp only [Prod.mk.injEq] at e4
     obtain ⟨rfl, rfl, rfl, rfl⟩ := e4
     clear HF
     obtain ⟨ho0, ho1, ho2, hof⟩ := y3 w13 BO13.out
     obtain ⟨hf0, hff⟩ := y1 w13 BF13.out
     refine start_ (n := 4) (S := fun w' => ce3 w' go (.int .i64 q1) (.int .i64 q2) (.int .i64 q3) (w'.cell? ⟨gf, 0, none⟩ = some (.bool q4))) (ds := []) (tf 0 4) (by kernel_rfl) rfl rfl ⟨ho0, ho1, ho2, hf0⟩ (fun hHeld => ?_)
     clear ho0 ho1 ho2 hof hf0 hff
     refine tk 0 (some 24) (tf 1 3) (by kernel_rfl) hHeld ?_
     refine tk 1 (some 25) (tf 2 2) (by kernel_rfl) hHeld ?_
     refine one_ (i := 2) (N := none) (tf 3 1) rfl rfl (by kernel_rfl) (by decide) (fun K hK => ?_)
     replace BR13 := am (blk_drew BR13.out)
     replace BO13 := am (blk_drew BO13.out)
     replace BF13 := am (blk_drew BF13.out)
     replace HB13 := am (below_drew1 HB13.out)
     generalize w13.drew = w14 at BR13 BO13 BF13 HB13 ⊢
     obtain ⟨hr0, hr1, hr2, hrf⟩ := y3 w14 BR13.out
     refine skip_ (w1 := ?_) (by rfl) rfl ?_ ?_
     rotate_left
     ·go_simp
      rfl
     have HK1 := am hK
     clear hr0 hr1 hr2 hrf
     have hj : ∀ (x y z : Value) (j : Nat), j ≠ gr → (((w14.setCell ⟨gr, 0, none⟩ x).setCell ⟨gr, 1, none⟩ y).setCell ⟨gr, 2, none⟩ z).heap[j]? = w14.heap[j]? := fun x y z j h => (Below.heap_setCell _ ⟨gr, 2, none⟩ _ j h).trans ((Below.heap_setCell _ ⟨gr, 1, none⟩ _ j h).trans (Below.heap_setCell _ ⟨gr, 0, none⟩ _ j h))
     have BO15 := am ((hj (.int .i64 q1) (.int .i64 q2) (.int .i64 q3) go (Ne.symm GRO.out)).trans BO13.out)
     have BF15 := am ((hj (.int .i64 q1) (.int .i64 q2) (.int .i64 q3) gf (Ne.symm NRF.out)).trans BF13.out)
     have BR15 := am (P3 (a0_ := .int .i64 q1) (a1_ := .int .i64 q2) (a2_ := .int .i64 q3) BR13)
     have HB15 := am (below_set (below_set (below_set HB13.out WR.out) WR.out) WR.out : Below w.heap.size w (((w14.setCell ⟨gr, 0, none⟩ (.int .i64 q1)).setCell ⟨gr, 1, none⟩ (.int .i64 q2)).setCell ⟨gr, 2, none⟩ (.int .i64 q3)))
     clear hj
     generalize ((w14.setCell ⟨gr, 0, none⟩ (.int .i64 q1)).setCell ⟨gr, 1, none⟩ (.int .i64 q2)).setCell ⟨gr, 2, none⟩ (.int .i64 q3) = w15 at BO15 BF15 BR15 HB15 ⊢
     refine HK1.out.out _ _ ⟨z0 _ BO15.out, z1 _ BO15.out, z2 _ BO15.out, z0 _ BF15.out⟩ (fun hHeld => ?_)
     clear hK HK1 K hHeld
     refine pu 3 (some 5) (tf 4 0) (by kernel_rfl) ?_
     refine done_ (by kernel_rfl) ?_
     go_wp2
     refine bodyPost_ret (results_ct rfl _ _ gr 60 #[.int .i64 q1, .int .i64 q2, .int .i64 q3] (0, 0) _ rfl BR15.out Try.underlying60 rfl (by kernel_rfl)) rfl ?_
     exact ⟨rfl, HB15.out⟩
    ·rw [if_neg c2] at h; cases h
   ·rw [if_neg cl] at h; cases h
end Go.Proofs.Ytkgbgaojglcaoaa.PAll
end
