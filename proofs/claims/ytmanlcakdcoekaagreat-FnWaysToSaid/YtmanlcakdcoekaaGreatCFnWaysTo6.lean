/- Contracts of the functions that the statement reaches, printed by a program out of the translation and joined with the plain laws. -/
import Derived.RangeFuncBox
import Derived.RangeFuncLeaves
import Derived.RangeFuncWrites
import Derived.Shelf.Abstract
import Derived.WalkKit
import Derived.OwnWalkIn
import Derived.TacticsInMore
import Derived.LoopNIn
import Derived.LoopIn
import Derived.Shelf.SlSortCmp.WholeK
import Derived.Shelf.SlSortCmp.NoneTotal
import Derived.Test.YtmanlcakdcoekaaGreatCFnWaysTo3
import Derived.Test.YtmanlcakdcoekaaGreatCFnWaysTo4
import Derived.Test.YtmanlcakdcoekaaGreatCFnWaysTo5
section
namespace Go.Proofs.YtmanlcakdcoekaaGreat.PAll
open Go.RowKit Go.Proofs.YtmanlcakdcoekaaGreatW.PrintWords Go.Proofs.YtmanlcakdcoekaaGreatW.PrintLast Go.Proofs.YtmanlcakdcoekaaGreatW.PrintMore
attribute [local go_sem] max2_int min2_int max_two min_two max_three min_three max_four min_four   -- for this text's walks alone
set_option linter.unusedVariables false
set_option linter.unusedSimpArgs false
open Go.Shelf
attribute [local go_sem] Oper.semAt_some
abbrev spv (x : S50) : Value := .agg #[.int .i64 x.f0, .int .i64 x.f1]
set_option maxRecDepth 100000 in
set_option maxHeartbeats 4000000 in
theorem values1_in (F : Fence) (n : Nat) (h111 : F.fn 87) (hro : F.round = none) (hn : 1 ≤ n) (l Bs : Nat) (w0 : World) (A : Option Addr) (c : Nat) (zs : List S50) (hC : Kd.C k50 w0 A zs.length zs) (J Jx : List S50 → World → Prop) (W : World) (hA : AbidesFrom W.heap.size J)
  (hY : ∀ pre x W, J pre W → pre.length < zs.length → YieldAt F (n - 1) Tryz.prog l #[spv x] W fun e W' =>
   (e = .returned (.bool true) ∧ J (pre ++ [x]) W' ∧ Below w0.heap.size W W') ∨ (e = .returned (.bool false) ∧ Jx (pre ++ [x]) W'))
  (hW : Below w0.heap.size w0 W) (hBs : W.cell? ⟨Bs, 0, none⟩ = some (.slice A zs.length c)) (h0 : J [] W) :
  CallsIn F n Tryz.prog 87 #[.func (.yield l) #[] #[], .pointer (some ⟨Bs, 0, none⟩)] W fun e W' => (∃ v, e = .returned v) ∧
   ((∃ ys, ys = zs ∧ J ys W') ∨ (∃ pre, pre <+: zs ∧ Jx pre W')) := by
 have hu := Tryz.underlying50
 have hm := hC.2.1
 refine callsIn_of_wp Tryz.func87 rfl h111 ?_ hro
 simp only [Tryz.ntmps87, List.size_toArray, List.length_cons, List.length_nil, Nat.reduceAdd, Nat.reduceSub, Array.replicate_succ, Array.replicate_zero, List.push_toArray, List.append_toArray, List.nil_append, List.cons_append]
 gi_wp2
 gi_loopw [4, 7] (fun _ i wr => ∃ k : Nat, k ≤ zs.length ∧ i = .int .i64 k ∧ J (zs.take k) wr ∧ Below w0.heap.size w0 wr ∧ W.heap.size ≤ wr.heap.size)
  (fun _ i _ => zs.length - (intOf i).toNat)
 case atStart => exact ⟨0, Nat.zero_le _, rfl, h0, hW, Nat.le_refl _⟩
 case round =>
  obtain ⟨k, hk, rfl, hJs, hnx, hsz⟩ := hrel
  by_cases hlt : k < zs.length
  ·have hltz : (k : Int) < (zs.length : Int) := by omega
   have p1 : 0 ≤ (k : Int) := by omega
   obtain ⟨ad, e, hx0, hx1⟩ := at_T50 hC (k : Int) p1 hltz
   cases e
   replace hx0 := (hnx.cell (World.block_lt_of_cell? w0 _ hx0)).trans hx0
   replace hx1 := (hnx.cell (World.block_lt_of_cell? w0 _ hx1)).trans hx1
   have ez : rd_T50 zs (k : Int) = zs[k] := by
    unfold rd_T50
    rw [List.getD_eq_getElem?_getD, Int.toNat_natCast, List.getElem?_eq_getElem hlt]
    rfl
   rw [ez] at hx0 hx1
   have et : zs.take (k + 1) = zs.take k ++ [zs[k]] := List.take_succ_eq_append_getElem hlt
   generalize zs[k] = x at *
   rw [Int.toNat_natCast] at hx0 hx1
   obtain ⟨W2, hW2⟩ : ∃ W2, W2 = wr.alloc (.cells #[.int .i64 x.f0, .int .i64 x.f1] 50) := ⟨_, rfl⟩
   have hJ2 : J (zs.take k) W2 := by rw [hW2]; exact hA _ wr _ none hJs (World.grownBy_alloc wr _ none) (fun r e => by cases e)
   obtain ⟨fn, tmps, assign, body, hy, hR⟩ := hY _ x W2 hJ2 (by simp; omega)
   have hb2 : Below w0.heap.size w0 W2 := by rw [hW2]; exact hnx.alloc hnx.size _
   subst hW2
   simp only [spv] at hy
   gi_wp2
   refine hR.mono ?_
   rintro e W3 (⟨rfl, hJ3, hk3⟩ | ⟨rfl, hJx3⟩)
   ·gi_wp2
    go_roundw
    case rel => exact ⟨k + 1, by omega, by simp, by rw [et]; exact hJ3, hb2.trans hk3, by have := hk3.size; have := (World.grownBy_alloc wr (.cells #[.int .i64 x.f0, .int .i64 x.f1] 50) none).size; simp at *; omega⟩
    case measure => simp [intOf]; omega
   ·gi_wp2
    refine bodyPost_ret (results_none rfl _ _ _) rfl ?_
    exact ⟨⟨_, rfl⟩, .inr ⟨_, by rw [← et]; exact List.take_prefix _ _, hJx3⟩⟩
  ·obtain rfl : k = zs.length := by omega
   gi_wp2
   go_end0
   exact ⟨⟨_, rfl⟩, .inl ⟨_, rfl, by rw [List.take_length] at hJs; exact hJs⟩⟩
/-- How a round's body is left: off its end. -/
def rangeDone (B n0 : Nat) (I : World → Prop) (W : World) : Exit → Act → World → Prop
 | .normal, _, W' => KeepsFrom B W W' ∧ Below n0 W W' ∧ I W'
 | _, _, _ => False
/-- A loop over an iterator whose variable is a block of its own, made anew each round; no round ends the loop. -/
theorem wpIn_rangeFunc_box {P : Program} {F : Fence} {n : Nat} {α : Type} {g : Operand} {ps : Array Tmp} {assign body : Code} {Q : Exit → Act → World → Prop} {a : Act} {w : World}
  (hro : F.round = none) (h1 : 1 ≤ n) {gf : Nat} {lb : Array Value} (hg : a.eval g = .func (.func gf) #[] lb) (hFg : F.fn gf) (eg : ∀ args w, (callFunc gf args).run P w = .ok (.enter gf args) w)
  {encs : α → Array Value} {n0 : Nat} {S Sp : List α → Prop} {N : Nat} {w0 : World} (hseq : SeqStopsK F (n - 1) P gf lb encs (Below n0) S Sp N w0) (hb0 : Below w0.heap.size w0 w) (hn0 : n0 ≤ w.heap.size) (hps : ∀ x, (encs x).size = ps.size)
  (I : List α → World → Prop) (hI : OwnFrom w.heap.size I) (h0 : I [] w) (cx : α → Array Value) (t : TypeId) (a1 : α → Nat → Act)
  (hassign : ∀ (l : Nat) (x : α) (W : World) (K : Act → World → Prop), K (a1 x W.heap.size) (W.alloc (.cells (cx x) t)) →
   assign.wpIn (F.inRound l) (n - 1 - 1) P (Exit.then K (fun _ _ _ => False)) { tmps := (ps.zip (encs x)).foldl (fun t (p, v) => t.setIfInBounds p v) a.tmps, defers := [] } W)
  (hbody : ∀ (l : Nat) (pre : List α) (x : α) (b : Nat) (W : World), I pre W → w.heap.size ≤ b → W.heap[b]? = some (.cells (cx x) t (0, 0)) → pre.length < N → body.wpIn (F.inRound l) (n - 1 - 1) P (rangeDone w.heap.size n0 (I (pre ++ [x])) W) (a1 x b) W)
  (hdone : ∀ (D : Nat) (xs : List α) (W : World), w.heap.size ≤ D → S xs → I xs W → W.heap[D]? = some (.deferred (some [])) → Q .normal { a with defers := { target := .collected D, args := #[] } :: a.defers } W) :
  (Code.rangeFunc g ps assign body).wpIn F n P Q a w := by
 refine wpIn_rangeFunc ?_
 intro fn hfn
 rw [hro]
 obtain ⟨rec, hrec⟩ : ∃ rec : LoopState → Loop, rec = fun st => { state := st, pending := none, fn, tmps := a.tmps, params := ps, assign, body, defers := w.heap.size } := ⟨_, rfl⟩
 obtain ⟨W1, hW1⟩ : ∃ W1, (w.alloc (.deferred (some []))).alloc (.loop (rec .ready)) = W1 := ⟨_, rfl⟩
 have hL1 : W1.heap[w.heap.size + 1]? = some (.loop (rec .ready)) := by
  rw [← hW1]; have := World.alloc_heap_new (w.alloc (.deferred (some []))) (.loop (rec .ready)); rwa [World.size_alloc] at this
 have hK1 : W1.heap[w.heap.size]? = some (.deferred (some [])) := by
  rw [← hW1]; exact (Below.heap_alloc _ _ _ (by simp)).trans (World.alloc_heap_new w _)
 have hI1 : I [] W1 := by rw [← hW1]; exact hI.alloc _ (hI.alloc _ h0)
 have hb1 : Below w0.heap.size w0 W1 := by
  rw [← hW1]; exact hb0.trans ((((Below.refl _ w).alloc (Nat.le_refl _) _).alloc (by simp) _).mono hb0.size)
 have hs1 : w.heap.size + 2 ≤ W1.heap.size := by rw [← hW1]; simp
 refine ⟨w.heap.size + 1, [{ target := .collected w.heap.size, args := #[] }], W1, { target := .fn (.func gf) lb, args := #[.func (.yield (w.heap.size + 1)) #[] #[]] }, W1, gf,
  #[.func (.yield (w.heap.size + 1)) #[] #[]] ++ lb, W1, ?_, ?_, ?_, ?_, fun _ => h1, ?_⟩
 ·rw [← hW1, hrec]; exact run_enterLoop_outer _ _ _ _ _
 ·simp only [resolve, hg]
  simp [go_sem]
 ·intro f' hf'; simp [Target.leads] at hf'; subst hf'; exact hFg
 ·simp [invoke, go_sem, eg]
 ·have hnw : ∀ {A : World} {row : Option Nat}, (∀ r, row = some r → W1.heap.size ≤ r ∧ ∃ o : Obj, A.heap[r]? = some o ∧ o.isWalk = true) → (∀ r, row = some r → w.heap.size ≤ r ∧ ∃ o : Obj, A.heap[r]? = some o ∧ o.isCells = false) :=
   fun hr r e => by obtain ⟨hB, o, ho, hw⟩ := hr r e; exact ⟨by omega, o, ho, Obj.not_cells_of_walk hw⟩
  refine (hseq (w.heap.size + 1)
   (fun pre W => I pre W ∧ W.heap[w.heap.size + 1]? = some (.loop (rec .ready)) ∧ W.heap[w.heap.size]? = some (.deferred (some [])) ∧ w.heap.size + 2 ≤ W.heap.size)
   (fun _ _ => False) W1 hb1
   (fun s A B row hs hg' hr => ⟨hI s A B row hs.1 hg' (hnw hr), (grownBy_keeps hg' (fun r e => (hr r e).2) hs.2.1 rfl).trans hs.2.1, (grownBy_keeps hg' (fun r e => (hr r e).2) hs.2.2.1 rfl).trans hs.2.2.1, Nat.le_trans hs.2.2.2 hg'.size⟩)
   (fun s A B row hs hg' hr => hs.elim) ?_ ⟨hI1, hL1, hK1, hs1⟩).mono ?_
  ·rintro pre x W ⟨hi, hl, hk, hz⟩ hlen
   have hy := run_yield (P := P) (args := encs x) hl (by rw [hrec]; exact hps x)
   rw [hrec] at hy
   obtain ⟨Wa, hWa⟩ : ∃ Wa, W.alloc (.cells (cx x) t) = Wa := ⟨_, rfl⟩
   have hbx : Wa.heap[W.heap.size]? = some (.cells (cx x) t (0, 0)) := by rw [← hWa]; exact World.alloc_heap_new W _
   have hold : ∀ k, k < W.heap.size → Wa.heap[k]? = W.heap[k]? := fun k hk => by rw [← hWa]; exact Below.heap_alloc _ _ k hk
   have hla := (hold (w.heap.size + 1) (by omega)).trans hl
   have hka := (hold w.heap.size (by omega)).trans hk
   have hia : I pre Wa := by rw [← hWa]; exact hI.alloc _ hi
   have hba : Below n0 W Wa := by rw [← hWa]; exact (Below.refl n0 W).alloc (by omega) _
   have hza : W.heap.size < Wa.heap.size := by rw [← hWa]; simp
   refine ⟨fn, _, assign, body, hy, roundIn_of_wpIn hfn (hassign _ x W _ ?_)⟩
   rw [hWa]
   refine ⟨_, run_beginRound hla (by rw [hrec]), ?_⟩
   have hl2 : (Wa.putObj (w.heap.size + 1) (.loop { rec .ready with state := .busy })).heap[w.heap.size + 1]? = some (.loop { rec .ready with state := .busy }) := World.putObj_heap_same (by omega)
   have hk2 : (Wa.putObj (w.heap.size + 1) (.loop { rec .ready with state := .busy })).heap[w.heap.size]? = some (.deferred (some [])) := (World.putObj_heap_other (by omega)).trans hka
   have hw2 : Below n0 Wa (Wa.putObj (w.heap.size + 1) (.loop { rec .ready with state := .busy })) := belowK_b (w := w) hn0 _ _ _ _ (by omega) hla rfl rfl
   refine wpIn_mono (hbody _ pre x W.heap.size _ (hI.putObj _ hia (by omega) hla rfl) (by omega) ((World.putObj_heap_other (by omega)).trans hbx) hlen) ?_
   rintro e a3 W3 hp
   cases e with
   | normal =>
    obtain ⟨hk3, hkp3, hi3⟩ := hp
    have hl3 := hk3.same _ _ (by omega) hl2 rfl
    have hr := run_endRound (P := P) none hl3
    have hd3 := hk3.same _ _ (Nat.le_refl _) hk2 rfl
    have hz3 := hkp3.size
    refine ⟨_, _, hr, .inl ⟨rfl, ⟨hI.putObj _ hi3 (by omega) hl3 rfl, ?_, (World.putObj_heap_other (by omega)).trans hd3, ?_⟩, (hba.trans hw2).trans (hkp3.trans (belowK_b (w := w) hn0 _ _ _ _ (by omega) hl3 rfl rfl))⟩⟩
    ·rw [World.putObj_heap_same (Array.getElem?_eq_some_iff.1 hl3).1, hrec]
     rfl
    ·have := (Array.getElem?_eq_some_iff.1 hl3).1
     have h4 := hk3.size
     have h5 := hw2.size
     have : (W3.putObj (w.heap.size + 1) (.loop { { rec .ready with state := .busy } with state := if (none : Option Code).isNone then .ready else .done, pending := none })).heap.size = W3.heap.size := by simp [World.putObj]
     simp [World.putObj] at *
     omega
   | ret => exact hp.elim
   | exit id => exact hp.elim
   | goto t => exact hp.elim
   | panic ch => exact hp.elim
   | outgrown => exact hp.elim
  ·rintro e W2 ⟨⟨v, rfl⟩, (⟨xs, hS, hi, hl, hk, hz⟩ | ⟨pre, hSp, hF⟩)⟩
   ·exact ⟨none, _, by have := run_endLoop (P := P) hl (by rw [hrec]; simp); rw [hrec] at this; exact this, hdone _ xs _ (Nat.le_refl _) hS (hI.putObj _ hi (by omega) hl rfl) ((World.putObj_heap_other (by omega)).trans hk)⟩
   ·exact hF.elim
set_option maxHeartbeats 1000000 in
theorem values_in (F : Fence) (n : Nat) (h99 : F.fn 63) (hro : F.round = none) (A : Option Addr) (len cap : Nat) (w : World) :
  CallsIn F n Tryz.prog 63 #[.slice A len cap] w fun e w' => e = .returned (.func (.func 87) #[] #[.pointer (some ⟨w.heap.size, 0, none⟩)]) ∧ w' = w.alloc (.cells #[.slice A len cap] 46) := by
 refine callsIn_of_wp Tryz.func63 rfl h99 ?_ hro
 simp only [Tryz.ntmps63, List.size_toArray, List.length_cons, List.length_nil, Nat.reduceAdd, Nat.reduceSub, Array.replicate_succ, Array.replicate_zero, List.push_toArray, List.append_toArray, List.nil_append, List.cons_append]
 gi_wp2
 go_ret
 exact ⟨rfl, rfl⟩
theorem values_stops (F : Fence) (n : Nat) (h111 : F.fn 87) (hro : F.round = none) (hn : 1 ≤ n) (Bs : Nat) (w0 w : World) (A : Option Addr) (c : Nat) (zs : List S50) (hC : Kd.C k50 w0 A zs.length zs) (hw : Below w0.heap.size w0 w)
  (hBl : Bs < w.heap.size) (hBs : w.cell? ⟨Bs, 0, none⟩ = some (.slice A zs.length c)) :
  SeqStopsK F n Tryz.prog 87 #[.pointer (some ⟨Bs, 0, none⟩)] (fun x : S50 => #[spv x]) (Below w0.heap.size) (fun ys => ys = zs) (fun pre => pre <+: zs) zs.length w := fun l J Jx W hW hA _ hY h0 =>
 values1_in F n h111 hro hn l Bs w0 A c zs hC J Jx W hA hY (hw.trans (hW.mono hw.size)) ((hW.cell (p := ⟨Bs, 0, none⟩) hBl).trans hBs) h0
/-- The cells of spans. -/
def spc (zs : List S50) : List Value := zs.flatMap fun x => [.int .i64 x.f0, .int .i64 x.f1]
theorem spc_snoc (zs : List S50) (x : S50) : spc (zs ++ [x]) = spc zs ++ [.int .i64 x.f0, .int .i64 x.f1] := by simp [spc]
set_option maxRecDepth 100000 in
set_option maxHeartbeats 4000000 in
theorem appendSeq_in (F : Fence) (n : Nat) (h117 : F.fn 93) (h111 : F.fn 87) (hro : F.round = none) (hn : 3 ≤ n) (Bs : Nat) (w0 w : World) (A : Option Addr) (c : Nat) (zs : List S50) (hl : zs.length ≤ 8796093022208) (hC : Kd.C k50 w0 A zs.length zs) (hw : Below w0.heap.size w0 w)
  (hBl : Bs < w.heap.size) (hBs : w.cell? ⟨Bs, 0, none⟩ = some (.slice A zs.length c)) :
  CallsIn F n Tryz.prog 93 #[.slice none 0 0, .func (.func 87) #[] #[.pointer (some ⟨Bs, 0, none⟩)]] w fun e W' => ∃ v, e = .returned v ∧ W'.ownsRow w0.heap.size 50 2 v zs.length (spc zs) ∧ Below w0.heap.size w0 W' := by
 have hu := Tryz.underlying50
 obtain ⟨i0, hi, hz0, hz1, hz2⟩ := info_parts info50
 refine callsIn_of_wp_marks Tryz.func93 rfl h117 ?_ hro
 simp only [Tryz.ntmps93, List.size_toArray, List.length_cons, List.length_nil, Nat.reduceAdd, Nat.reduceSub, Array.replicate_succ, Array.replicate_zero, List.push_toArray, List.append_toArray, List.nil_append, List.cons_append]
 gi_wp2
 have bS := Boxed.new w 46 (.slice none 0 0)
 have hB0 : Below w0.heap.size w0 (w.alloc (.cells #[.slice none 0 0] 46)) := hw.alloc hw.size _
 have hsz := hw.size
 refine wpIn_rangeFunc_box hro (by omega) (gf := 87) (lb := #[.pointer (some ⟨Bs, 0, none⟩)]) rfl h111 (enters_of Tryz.func87 (by kernel_rfl) rfl)
  (values_stops F (n - 1) h111 hro (by omega) Bs w0 _ A c zs hC hB0 (by simp; omega) ((World.cell?_of_block (Below.heap_alloc w _ Bs hBl)).trans hBs)) (Below.refl _ _) (by simp; omega) (fun _ => rfl)
  (fun pre W => (∃ v, Boxed W w.heap.size 46 v ∧ W.ownsRow w0.heap.size 50 2 v pre.length (spc pre) ∧ True) ∧ Below w0.heap.size w0 W)
  (OwnFrom.and (Own.from (holdsRow_own w0.heap.size w.heap.size 46 50 2 (fun pre : List S50 => pre.length) spc (fun _ _ => True)) _) (ownFrom_below (Nat.le_refl _) (by simp; omega)))
  ⟨⟨_, bS, ⟨rfl, .inl ⟨rfl, rfl⟩⟩, trivial⟩, hB0⟩ (fun x => #[.int .i64 x.f0, .int .i64 x.f1]) 50
  (fun x b => { tmps := #[.slice none 0 0, .func (.func 87) #[] #[.pointer (some ⟨Bs, 0, none⟩)], .pointer (some ⟨w.heap.size, 0, none⟩), undef, .slice none 0 0, .pointer (some ⟨b, 0, none⟩), .func (.func 87) #[] #[.pointer (some ⟨Bs, 0, none⟩)], spv x, undef, undef, undef, undef, undef], defers := [] }) ?assign ?body ?done
 case assign =>
  intro l x W K hK
  gi_wp2
  exact hK
 case body =>
  rintro l pre x b W ⟨⟨v, hv, hrow, _⟩, hB⟩ hb hbx hlt
  have hc := hv.cell
  have hx0 : W.cell? ⟨b, 0, none⟩ = some (.int .i64 x.f0) := (blk_cell hbx 0).trans rfl
  have hx1 : W.cell? ⟨b, 1, none⟩ = some (.int .i64 x.f1) := (blk_cell hbx 1).trans rfl
  gi_wp2_with (gi_at_builtin; refine wpListIn_append_own _ rfl _ _ 46 rfl w0.heap.size 50 i0 (.agg #[.int .i64 0, .int .i64 0]) 2 16 Tryz.underlying46 hi hz0 hz1 hz2 rfl (by decide) _ _ _ rfl (hrow.alloc _) ⟨W.heap.size, 0, none⟩ 1 1 [.int .i64 x.f0, .int .i64 x.f1] rfl rfl (World.news_of_block (cs := #[.int .i64 x.f0, .int .i64 x.f1]) (t := 50) (fr := (0, 0)) (heap_alloc_new W _)) (by simp [Value.oneCell']) (by simp only [maxLen]; omega) (by omega) (by have := hB.size; simp; omega) ?_; intro v' w1 hown' hgrow _; obtain ⟨g', cap', rfl⟩ := ownsRow_succ hown'; obtain ⟨hv1, hv2, hr2, hk2, hb2⟩ := hv.appended (by decide) hrow hB.size (by omega) hown' hgrow; have hc1 := hv1.cell; have hf1 := hv1.frozen)
  exact ⟨hk2.from _, hb2, ⟨_, hv2, by rw [spc_snoc, List.length_append]; exact hr2, trivial⟩, hB.trans hb2⟩
 case done =>
  rintro D ys W hD rfl ⟨⟨v, hv, hrow, _⟩, hB⟩ hK
  have hc := hv.cell
  gi_wp2
  refine ⟨by simp, .inl ⟨_, _, rfl, run_takeDeferred hK, ?_⟩⟩
  exact ⟨_, results_tmp rfl _ _ _, v, rfl, ownsRow_putObj hrow _ hK rfl, hB.trans (belowK_b (w := w0) (Nat.le_refl _) W D _ _ (by simp at hD; omega) hK rfl rfl)⟩
set_option maxHeartbeats 2000000 in
theorem collect_in (F : Fence) (n : Nat) (h109 : F.fn 85) (h117 : F.fn 93) (h111 : F.fn 87) (hro : F.round = none) (hn : 4 ≤ n) (Bs : Nat) (w0 w : World) (A : Option Addr) (c : Nat) (zs : List S50) (hl : zs.length ≤ 8796093022208) (hC : Kd.C k50 w0 A zs.length zs) (hw : Below w0.heap.size w0 w)
  (hBl : Bs < w.heap.size) (hBs : w.cell? ⟨Bs, 0, none⟩ = some (.slice A zs.length c)) :
  CallsIn F n Tryz.prog 85 #[.func (.func 87) #[] #[.pointer (some ⟨Bs, 0, none⟩)]] w fun e W' => ∃ v, e = .returned v ∧ W'.ownsRow w0.heap.size 50 2 v zs.length (spc zs) ∧ Below w0.heap.size w0 W' := by
 have h1 : 1 ≤ n := by omega
 refine callsIn_of_wp Tryz.func85 rfl h109 ?_ hro
 simp only [Tryz.ntmps85, List.size_toArray, List.length_cons, List.length_nil, Nat.reduceAdd, Nat.reduceSub, Array.replicate_succ, Array.replicate_zero, List.push_toArray, List.append_toArray, List.nil_append, List.cons_append]
 gi_wp2_with (gi_at_call 93; refine (appendSeq_in F (n - 1) h117 h111 hro (by omega) Bs w0 _ A c zs hl hC hw hBl hBs).mono ?_; rintro e w' ⟨v, rfl, hrow, hb⟩)
 go_ret
 exact ⟨v, rfl, hrow, hb⟩
theorem collect_calls (Bs : Nat) (w0 w : World) (A : Option Addr) (c : Nat) (zs : List S50) (hl : zs.length ≤ 8796093022208) (hC : Kd.C k50 w0 A zs.length zs) (hw : Below w0.heap.size w0 w)
  (hBl : Bs < w.heap.size) (hBs : w.cell? ⟨Bs, 0, none⟩ = some (.slice A zs.length c)) :
  Calls Tryz.prog 85 #[.func (.func 87) #[] #[.pointer (some ⟨Bs, 0, none⟩)]] w fun e W' => ∃ v, e = .returned v ∧ W'.ownsRow w0.heap.size 50 2 v zs.length (spc zs) ∧ Below w0.heap.size w0 W' :=
 callsIn_wide.1 (collect_in Fence.wide 4 trivial trivial trivial rfl (Nat.le_refl _) Bs w0 w A c zs hl hC hw hBl hBs)
instance : Inhabited S50 := ⟨z50⟩
def spe (x : S50) : List Value := [.int .i64 x.f0, .int .i64 x.f1]
theorem spc_get : ∀ (zs : List S50) (t : Nat), t < zs.length * 2 → (spc zs)[t]? = (spe zs[t / 2]!)[t % 2]?
 | [], t, h => absurd h (by simp)
 | x :: zs, 0, _ => rfl
 | x :: zs, 1, _ => rfl
 | x :: zs, t + 2, h => by
  have e1 : (t + 2) / 2 = t / 2 + 1 := by omega
  have e2 : (t + 2) % 2 = t % 2 := by omega
  have e3 : spc (x :: zs) = .int .i64 x.f0 :: .int .i64 x.f1 :: spc zs := by simp [spc]
  rw [e1, e2, e3]
  simp only [List.getElem?_cons_succ, List.getElem!_cons_succ]
  exact spc_get zs t (by simp at h; omega)
theorem spc_length : ∀ zs : List S50, (spc zs).length = zs.length * 2
 | [] => rfl
 | x :: zs => by
  have e3 : spc (x :: zs) = .int .i64 x.f0 :: .int .i64 x.f1 :: spc zs := by simp [spc]
  rw [e3]
  simp only [List.length_cons, spc_length zs]
  omega
theorem flat_spc (zs : List S50) : (Sort.flatK spe 2 zs.toArray).toList = spc zs := by
 apply List.ext_getElem?
 intro t
 by_cases c : t < zs.length * 2
 ·rw [spc_get zs t c]
  rcases (show t % 2 = 0 ∨ t % 2 = 1 by omega) with e | e <;> simp [Sort.flatK, c, e, spe]
 ·rw [List.getElem?_eq_none (by simp; omega), List.getElem?_eq_none (by rw [spc_length]; omega)]
theorem reps_spc (w : World) (b : Nat) (ok : Nat → Prop) (zs : List S50) : Reps (k50.M w b ok) 2 zs (spc zs) := by
  refine ⟨spc_length zs, fun j p hj => ?_⟩
  have hlt := (List.getElem?_eq_some_iff.1 hj).1
  have hp : zs[j]! = p := by rw [getElem!_pos zs j hlt]; exact (List.getElem?_eq_some_iff.1 hj).2
  have e : ((spc zs).drop (j * 2)).take 2 = [.int .i64 p.f0, .int .i64 p.f1] := by
   apply List.ext_getElem?
   intro q
   rcases q with _ | _ | q
   ·rw [List.getElem?_take_of_lt (by omega), List.getElem?_drop, spc_get zs _ (by omega), show (j * 2 + 0) / 2 = j by omega, show (j * 2 + 0) % 2 = 0 by omega, hp]; rfl
   ·rw [List.getElem?_take_of_lt (by omega), List.getElem?_drop, spc_get zs _ (by omega), show (j * 2 + (0 + 1)) / 2 = j by omega, show (j * 2 + (0 + 1)) % 2 = 1 by omega, hp]; rfl
   ·rw [List.getElem?_eq_none (by rw [List.length_take]; omega), List.getElem?_eq_none (by simp)]
  show k50.M w b ok p (((spc zs).drop (j * 2)).take 2)
  rw [e]
  exact k50_mkM w b ok p
theorem R_of_own {w : World} {base : Nat} {v : Value} {zs : List S50} (h : w.ownsRow base 50 2 v zs.length (spc zs)) : Kd.R k50 50 w base (fun _ => True) v zs :=
 ⟨fun _ _ => trivial, spc zs, h, reps_spc _ _ _ zs⟩
/-- A world in which a row's cells have been written, and new blocks lie behind. -/
theorem srt_world {w : World} {g e n : Nat} {cur ys : Array Value} {os : Array Obj} (h : w.heap[g]? = some (.cells cur e (0, 0))) (hl : ys.size ≤ cur.size) :
  ∃ cur', (Sort.grow (Sort.putRow id (Sort.ahead w n) g 0 ys) os).heap[g]? = some (.cells cur' e (0, 0)) ∧ cur'.size = cur.size ∧ cur'.toList.take ys.size = ys.toList ∧
   (∀ k, k < w.heap.size → k ≠ g → (Sort.grow (Sort.putRow id (Sort.ahead w n) g 0 ys) os).heap[k]? = w.heap[k]?) ∧ w.heap.size ≤ (Sort.grow (Sort.putRow id (Sort.ahead w n) g 0 ys) os).heap.size := by
 have hg := blk_lt h
 have hsz : (Sort.putRow id (Sort.ahead w n) g 0 ys).heap.size = w.heap.size := by simp [Sort.putRow, Sort.mapBlock, Sort.ahead]
 have hat : ∀ k, k < w.heap.size → (Sort.grow (Sort.putRow id (Sort.ahead w n) g 0 ys) os).heap[k]? = if k = g then some (.cells (Sort.putCells id 0 ys cur) e (0, 0)) else w.heap[k]? := by
  intro k hk
  unfold Sort.grow
  rw [Array.getElem?_append_left (by rw [hsz]; exact hk)]
  unfold Sort.putRow Sort.mapBlock Sort.ahead
  simp only [Array.getElem?_modify]
  by_cases c : g = k
  ·subst c; rw [if_pos rfl, if_pos rfl, h]; rfl
  ·rw [if_neg c, if_neg (Ne.symm c)]
 refine ⟨_, (hat g hg).trans (if_pos rfl), by simp [Sort.putCells], ?_, fun k hk hn => (hat k hk).trans (if_neg hn), ?_⟩
 ·refine List.ext_getElem? fun q => ?_
  by_cases hq : q < ys.size
  ·have hqc : q < cur.size := by omega
   rw [List.getElem?_take_of_lt hq, Array.getElem?_toList, Array.getElem?_toList]
   simp [Sort.putCells, hq, hqc]
  ·rw [List.getElem?_eq_none (by rw [List.length_take]; omega), List.getElem?_eq_none (by simp; omega)]
 ·rw [Sort.size_grow, hsz]; omega
set_option maxHeartbeats 1000000 in
theorem cmpFrom (x y : S50) (W : World) : Calls Tryz.prog 64 #[.agg #[.int .i64 x.f0, .int .i64 x.f1], .agg #[.int .i64 y.f0, .int .i64 y.f1]] W fun e w' => e = .returned (.int .i64 (Lib.compareInt x.f0 y.f0)) ∧ ∃ q os', w' = Sort.grow (W.drewN q) os' := by
 have hu := Tryz.underlying50
 have hcon := fun W' => Tryz.cmp_Compare_int x.f0 y.f0 W'
 generalize Lib.compareInt x.f0 y.f0 = r at hcon ⊢
 go_enter Tryz.func64, Tryz.ntmps64
 go_wp2_with (go_at_call 59; refine (hcon _).mono ?_; rintro e w' ⟨rfl, rfl⟩)
 go_ret
 exact ⟨rfl, 0, _, by rw [Sort.alloc_eq_grow, Sort.alloc_eq_grow, Sort.grow_grow]; rfl⟩
theorem ltFrom (x y : S50) : ltOf (fun x y : S50 => Lib.compareInt x.f0 y.f0) x y = decide (x.f0 < y.f0) := by
 unfold ltOf Lib.compareInt
 by_cases h1 : x.f0 < y.f0
 ·simp [h1]
 ·by_cases h2 : y.f0 < x.f0 <;> simp [h1, h2]
theorem swoFrom : Sort.SWO (ltOf fun x y : S50 => Lib.compareInt x.f0 y.f0) where
 irrefl x := by rw [ltFrom]; simp
 trans x y z h1 h2 := by rw [ltFrom] at *; simp at *; omega
 ntrans x y z h1 h2 := by rw [ltFrom] at *; simp at *; omega
theorem perm_of {zs : List S50} {d' : Array S50} (h : Sort.PermIn 0 zs.toArray.size zs.toArray d') : d'.toList.Perm zs := by
 obtain ⟨hs, _, hp⟩ := h
 have e1 : (d'.extract 0 zs.toArray.size).toList = d'.toList := by rw [← hs]; simp
 have e2 : (zs.toArray.extract 0 zs.toArray.size).toList = zs := by simp
 rw [e1, e2] at hp
 exact hp
theorem sorted_of {n : Nat} {d' : Array S50} (hn : d'.size = n) (h : Sort.SortedIn (ltOf fun x y : S50 => Lib.compareInt x.f0 y.f0) 0 n d') : d'.toList.Pairwise (fun a b => a.f0 ≤ b.f0) := by
 rw [List.pairwise_iff_getElem]
 intro i j hi hj hij
 have hi' : i < d'.size := by simpa using hi
 have hj' : j < d'.size := by simpa using hj
 have := h i j (Nat.zero_le _) hij (by omega)
 rw [ltFrom, decide_eq_false_iff_not, getElem!_pos d' i hi', getElem!_pos d' j hj'] at this
 simp only [Array.getElem_toList]
 omega
/-- How pdqsort sorts spans by where they begin. -/
def spSort (zs : List S50) : List S50 := (Sort.pdq (ltOf fun x y : S50 => Lib.compareInt x.f0 y.f0) zs.toArray 0 zs.toArray.size (Lib.bitLen zs.toArray.size) true true).toList
theorem spSort_spec (zs : List S50) : (spSort zs).Perm zs ∧ (spSort zs).Pairwise (fun a b => a.f0 ≤ b.f0) := by
 have h := Sort.pdq_sorts (ltOf fun x y : S50 => Lib.compareInt x.f0 y.f0) swoFrom zs.toArray 0 zs.toArray.size (Lib.bitLen zs.toArray.size) true true (Nat.zero_le _) (Nat.le_refl _) (Or.inl rfl)
 exact ⟨perm_of h.1, sorted_of h.1.1 h.2⟩
set_option maxHeartbeats 2000000 in
theorem sortFn_calls (w0 w : World) (v : Value) (zs : List S50) (hB : Below w0.heap.size w0 w) (hrow : w.ownsRow w0.heap.size 50 2 v zs.length (spc zs)) (hl : zs.length ≤ 8796093022208) :
  Calls Tryz.prog 86 #[v, .func (.func 64) #[] #[]] w fun e w' => e = .returned (.tuple #[]) ∧ w'.ownsRow w0.heap.size 50 2 v (spSort zs).length (spc (spSort zs)) ∧ Below w0.heap.size w0 w' := by
 obtain ⟨hil, hcase⟩ := hrow
 by_cases c0 : zs.length = 0
 ·obtain rfl : zs = [] := List.eq_nil_of_length_eq_zero c0
  obtain ⟨A, c, rfl⟩ := own_slice (show w.ownsRow w0.heap.size 50 2 v ([] : List S50).length (spc []) from ⟨hil, hcase⟩)
  have hcon := AnyF.slices_SortFunc_none Tryz.sortFn A c (.func (.func 64) #[] #[]) w
  change Calls Tryz.prog 86 _ _ _ at hcon
  refine hcon.mono ?_
  rintro e w' ⟨rfl, rfl⟩
  have e : spSort [] = [] := List.Perm.eq_nil (spSort_spec []).1
  rw [e]
  exact ⟨rfl, ⟨hil, hcase⟩, hB⟩
 rcases hcase with ⟨rfl, h0⟩ | ⟨g, c, cur, rfl, hgb, hh, hnc, hcm, hcs, htake⟩
 ·exact absurd h0 c0
 have eg : ∀ args w, (callFunc 64 args).run Tryz.prog w = .ok (.enter 64 args) w := enters_of Tryz.func64 (by kernel_rfl) rfl
 have hH : Sort.HoldsK spe 2 w g 0 zs.toArray := by
  intro j hj
  have hj' : j < zs.length * 2 := by simpa using hj
  refine ⟨?_, blk_frozen hh _⟩
  rw [blk_cell hh (0 + j), Nat.zero_add, ← Array.getElem?_toList, ← List.getElem?_take_of_lt hj', htake]
  have h2 := flat_spc zs
  rw [← h2, Array.getElem?_toList, getElem!_pos _ j hj, Array.getElem?_eq_getElem hj]
  rfl
 have hcon := AnyQ.slices_SortFunc_eq Tryz.sortFn 2 Tryz.isAgg50 Tryz.sizeOf50 spe (fun _ => rfl) (fun x v hv => by simp [spe] at hv; rcases hv with rfl | rfl <;> rfl) (fun x y => Lib.compareInt x.f0 y.f0) swoFrom 64 #[] g 0 c zs.toArray w eg (fun _ _ _ _ x y => cmpFrom x y _) hH (blk_lt hh) (by simp; omega)
 change Calls Tryz.prog 86 _ _ _ at hcon
 have hz : zs.toArray.size = zs.length := by simp
 obtain ⟨d', hd'⟩ : ∃ d', d' = Sort.pdq (ltOf fun x y : S50 => Lib.compareInt x.f0 y.f0) zs.toArray 0 zs.toArray.size (Lib.bitLen zs.toArray.size) true true := ⟨_, rfl⟩
 have hs : spSort zs = d'.toList := by rw [hd']; rfl
 rw [← hd'] at hcon
 rw [hz] at hcon
 refine hcon.mono ?_
 rintro e w' ⟨rfl, n, os, rfl⟩
 have hdl : d'.toList.length = zs.length := by rw [← hs]; exact (spSort_spec zs).1.length_eq
 have hd : d'.size = zs.length := by simpa using hdl
 have hfs : (Sort.flatK spe 2 d').size = zs.length * 2 := by simp [hd]
 have hft : (Sort.flatK spe 2 d').toList = spc d'.toList := by have := flat_spc d'.toList; simpa using this
 obtain ⟨cur', h1, h2, h3, h4, h5⟩ := srt_world (n := n) (os := os) (ys := Sort.flatK spe 2 d') hh (by rw [hfs, hcs]; exact Nat.mul_le_mul_right 2 hnc)
 rw [hfs, hft] at h3
 rw [hs, hdl]
 refine ⟨rfl, ⟨by rw [spc_length, hdl], .inr ⟨g, c, cur', rfl, hgb, h1, hnc, hcm, h2.trans hcs, h3⟩⟩, hB.trans ⟨rfl, rfl, rfl, h5, fun k hk => h4 k (Nat.lt_of_lt_of_le hk hB.size) (by omega)⟩⟩
def impl_span_62_union_cl1.f (l0 : List S50) : Option (List S50) := if l0.length ≤ 8796093022208 then some (spSort l0) else none
set_option maxHeartbeats 2000000 in
theorem impl_span_62_union_cl1.calls (w : World) (A0 : Option Addr) (c0 : Nat) (l0 r : List S50) (hr0 : Kd.C k50 w A0 l0.length l0) (h : impl_span_62_union_cl1.f l0 = some r) :
  Calls Tryz.prog 62 #[.func (.func 87) #[] #[.pointer (some ⟨w.heap.size, 0, none⟩)], .func (.func 64) #[] #[]] (w.alloc (.cells #[.slice A0 l0.length c0] 46)) fun e w' => ∃ v0_ : Value, e = .returned v0_ ∧ Kd.R k50 50 w' w.heap.size (fun _ => True) v0_ r ∧ Below w.heap.size w w' := by
 unfold impl_span_62_union_cl1.f at h
 by_cases hl : l0.length ≤ 8796093022208
 ·rw [if_pos hl] at h
  obtain rfl := Option.some.inj h
  have H1 := am (collect_calls w.heap.size w (w.alloc (.cells #[.slice A0 l0.length c0] 46)) A0 c0 l0 hl hr0 ((Below.refl _ w).alloc (Nat.le_refl _) _) (by simp) (Boxed.new w 46 (.slice A0 l0.length c0)).cell)
  clear hr0 h
  go_enter Tryz.func62, Tryz.ntmps62
  go_wp2_with (first | (go_at_call 85; refine H1.out.mono ?_; rintro e w1 ⟨v, rfl, hrow, hb⟩; have HR := am hrow; have HB := am hb; clear hrow hb) | (go_at_call 86; refine (sortFn_calls w _ _ l0 HB.out HR.out hl).mono ?_; rintro e w2 ⟨rfl, hr, hb⟩))
  go_ret
  exact ⟨v, rfl, R_of_own hr, hb⟩
 ·rw [if_neg hl] at h; cases h
theorem values_calls (A : Option Addr) (len cap : Nat) (w : World) :
  Calls Tryz.prog 63 #[.slice A len cap] w fun e w' => e = .returned (.func (.func 87) #[] #[.pointer (some ⟨w.heap.size, 0, none⟩)]) ∧ w' = w.alloc (.cells #[.slice A len cap] 46) :=
 callsIn_wide.1 (values_in Fence.wide 1 trivial rfl A len cap w)
end Go.Proofs.YtmanlcakdcoekaaGreat.PAll
end
section
namespace Go.Proofs.YtmanlcakdcoekaaGreat.PAll
open Go.RowKit Go.Proofs.YtmanlcakdcoekaaGreatW.PrintWords Go.Proofs.YtmanlcakdcoekaaGreatW.PrintLast Go.Proofs.YtmanlcakdcoekaaGreatW.PrintMore
attribute [local go_sem] max2_int min2_int max_two min_two max_three min_three max_four min_four   -- for this text's walks alone
set_option linter.unusedVariables false
set_option linter.unusedSimpArgs false
def impl_union.l0 : Nat → List (S50) → List (S50) → Int → Int → Option ((List (S50)))
 | 0, _, _, _, _ => none
 | k + 1, x4, x11, x12, x13 => if x13 < x12 then (if 0 ≤ x13 then (if x13 < (x11.length : Int) then (if (x4.length : Int) > 0 then (if 0 ≤ (wrap64 ((x4.length : Int) - 1)) then (if (wrap64 ((x4.length : Int) - 1)) < (x4.length : Int) then (if ((rd_T50 x11 x13).f0) ≤ (wrap64 (((rd_T50 x4 (wrap64 ((x4.length : Int) - 1))).f1) + 1)) then (impl_union.l0 k (x4.set ((wrap64 ((x4.length : Int) - 1)) : Int).toNat (⟨(rd_T50 x4 (wrap64 ((x4.length : Int) - 1))).f0, mx ((rd_T50 x4 (wrap64 ((x4.length : Int) - 1))).f1) ((rd_T50 x11 x13).f1)⟩ : S50)) x11 x12 (wrap64 (x13 + 1))) else (if x4.length < 8796093022208 then (impl_union.l0 k (x4 ++ [(⟨(rd_T50 x11 x13).f0, (rd_T50 x11 x13).f1⟩ : S50)]) x11 x12 (wrap64 (x13 + 1))) else (none))) else (none)) else (none)) else (if x4.length < 8796093022208 then (impl_union.l0 k (x4 ++ [(⟨(rd_T50 x11 x13).f0, (rd_T50 x11 x13).f1⟩ : S50)]) x11 x12 (wrap64 (x13 + 1))) else (none))) else (none)) else (none)) else (some x4)
def impl_union.f (k : Nat) (l0 : List (S50)) : Option ((List (S50))) := (impl_span_62_union_cl1.f l0).bind fun t101 => (impl_union.l0 k ([] : List (S50)) t101 (t101.length : Int) 0)
def impl_union.T7 : Bool × List (List Nat × List Nat) := (true, [([], []), ([0], [0]), ([1], [1]), ([2], [2]), ([3, 2], [2, 3]), ([2], [2]), ([2], [2]), ([6, 2], [2, 6]), ([5, 7, 2], [2, 5, 7]), ([8, 2], [2, 8]), ([9, 2], [2, 9]), ([10, 2], [2, 10]), ([4, 11, 2], [2, 4, 11]), ([2, 12], [2, 12])])
def impl_union.B7 : List Nat := [0, 1, 3, 7, 15, 7, 7, 71, 231, 487, 999, 2023, 4095, 8191]
theorem impl_union.tab7 : rtab .any (opsOf Tryz.f45 7) = impl_union.T7 := by kernel_rfl
theorem impl_union.bits7 : waitsOk impl_union.T7.2 impl_union.B7 = true := by kernel_rfl
def impl_union.T8 : Bool × List (List Nat × List Nat) := (true, [([], []), ([], []), ([1], [1]), ([], []), ([], []), ([4], [4]), ([3, 5], [3, 5]), ([6], [6]), ([7], [7]), ([], []), ([9], [9]), ([8, 10], [8, 10]), ([0, 2, 0, 1, 2, 3, 4, 5, 6, 7, 8, 9, 10, 11], [0, 2]), ([12, 0, 1, 2, 3, 4, 5, 6, 7, 8, 9, 10, 11], [12]), ([13, 11, 0, 1, 2, 3, 4, 5, 6, 7, 8, 9, 10, 11], [11, 13])])
def impl_union.B8 : List Nat := [0, 0, 2, 0, 0, 16, 56, 120, 248, 0, 512, 2040, 4095, 8191, 16383]
theorem impl_union.tab8 : rtab .any (opsOf Tryz.f45 8) = impl_union.T8 := by kernel_rfl
theorem impl_union.bits8 : waitsOk impl_union.T8.2 impl_union.B8 = true := by kernel_rfl
set_option maxHeartbeats 8000000 in
set_option maxRecDepth 100000 in
theorem impl_union.calls (k : Nat) (A0 : Option Addr) (c0 : Nat) (l0 : List (S50)) (r : List (S50)) (w : World) (hr0 : Kd.C k50 w A0 l0.length l0) (hc0 : l0.length ≤ c0) (h : impl_union.f k l0 = some r) :
  Calls Tryz.prog 45 #[.slice A0 l0.length c0] w fun e w' => ∃ v0_ : Value, e = .returned (v0_) ∧ Kd.R k50 50 w' w.heap.size (fun _ => True) v0_ r ∧ Below w.heap.size w w' := by
 have hu50 := Tryz.underlying50
 have HR0 := Aside0.mk hr0
 have HC0 := Aside0.mk hc0
 clear hr0 hc0
 have HB := am (Below.refl w.heap.size w)
 have H : ((impl_span_62_union_cl1.f l0).bind fun t101 => (impl_union.l0 k ([] : List (S50)) t101 (t101.length : Int) 0)) = some r := h
 clear h
 replace H := Option.bind_eq_some_iff.mp H
 obtain ⟨t101, A20, H⟩ := H
 replace H : (impl_union.l0 k ([] : List (S50)) t101 (t101.length : Int) 0) = some r := H
 have A2 := Aside0.mk A20
 clear A20
 have H' := Aside0.mk H
 clear H
 go_enter Tryz.func45, Tryz.ntmps45
 go_wp2_with (first | ((with_reducible refine gate_callee (f := 63) rfl ?_); refine goesL_ (some 9) rfl rfl Tryz.func63 (by kernel_rfl) rfl #[.slice A0 l0.length c0] rfl MT ?_; refine (values_calls A0 l0.length c0 w).mono ?_; rintro e w2 ⟨rfl, rfl⟩; refine ⟨_, rfl, ?_⟩) | ((with_reducible refine gate_callee (f := 62) rfl ?_); refine goesL_ (some 10) rfl rfl Tryz.func62 (by kernel_rfl) rfl #[.func (.func 87) #[] #[.pointer (some ⟨w.heap.size, 0, none⟩)], .func (.func 64) #[] #[]] rfl MT ?_; refine (impl_span_62_union_cl1.calls w A0 c0 l0 t101 HR0.out A2.out).mono ?_; rintro e w3 ⟨v102, rfl, ho0, hb⟩; refine ⟨_, rfl, ?_⟩; have HO103 := am ho0; replace HB := am hb; clear hb ho0; obtain ⟨Ao4, co4, eo4⟩ := Kd.R_slice HO103.out; subst eo4))
 go_loopg [4, 13] k (fun kq v4 v13 w' => ∃ (x4_1 : List (S50)) (x11_1 : List (S50)) (x13_1 : Int), v13 = .int .i64 x13_1 ∧ Aside0 (impl_union.l0 kq x4_1 x11_1 (t101.length : Int) x13_1 = some r) ∧ Aside0 (kq ≤ k) ∧ Aside0 (Kd.R k50 50 w' w.heap.size (fun k_ => some k_ ≠ ((.slice Ao4 t101.length co4) : Value).ownBlock) v4 x4_1) ∧ Aside0 (Kd.R k50 50 w' w.heap.size (fun k_ => some k_ ≠ (v4 : Value).ownBlock) (.slice Ao4 t101.length co4) x11_1) ∧ Aside0 (Below w.heap.size w w'))
 case atStart => exact ⟨(([] : List (S50))), (t101), (0), (by first | rfl | (simp; done) | (simp [*]; done)), H', ⟨Nat.le_refl _⟩, ⟨by first | exact Kd.R_nil _ _ _ _ _ | exact Kd.N_nil _ _ _ _ _ | exact Kd.V_nil _ _ _ _ _ | exact Kd.Q_nil _ _ _ _ _ | exact Kd.S_nil _ _ _ _ _⟩, ⟨by (with_reducible repeat (first | apply Kd.R_alloc | apply Kd.R_drewN | apply Kd.R_drew)); exact Kd.R_mono HO103.out (fun _ hk => (by simp [Value.ownBlock]))⟩, ⟨KL HB⟩⟩
 case round =>
  clear H'
  try clear p2
  try clear c4
  obtain ⟨x4_1, x11_1, x13_1, rfl, HA, HK1, HO_4, HO_11, HB⟩ := hrel
  have hl11_1 := (Kd.R_reads' HO_11.out).1
  rw [hl11_1] at HO_11
  (try simp only [hl11_1])
  (try simp only [hl11_1] at HO_4)
  cases gk with
  | zero => exact absurd HA.out (by simp [impl_union.l0])
  | succ k1 =>
   have H := HA.out
   clear HA
   simp only [impl_union.l0] at H
   by_cases c5 : x13_1 < (t101.length : Int)
   ·rw [if_pos c5] at H
    have c5b0 : decide (x13_1 < (t101.length : Int)) = true := decide_eq_true c5
    clear c5
    by_cases c6 : 0 ≤ x13_1
    ·rw [if_pos c6] at H
     have c6b0 : decide (0 ≤ x13_1) = true := decide_eq_true c6
     clear c6
     by_cases c7 : x13_1 < (x11_1.length : Int)
     ·rw [if_pos c7] at H
      have c7b0 : decide (x13_1 < (x11_1.length : Int)) = true := decide_eq_true c7
      clear c7
      by_cases c8 : (x4_1.length : Int) > 0
      ·rw [if_pos c8] at H
       have c8b0 : decide (0 < (x4_1.length : Int)) = true := decide_eq_true c8
       have c8b1 : decide (0 < x4_1.length) = true := decide_eq_true (by omega)
       clear c8
       obtain ⟨ji9, hji9⟩ : ∃ j_ : Int, (wrap64 ((x4_1.length : Int) - 1)) = j_ := ⟨_, rfl⟩
       replace H : (if 0 ≤ (ji9) then (if (ji9) < (x4_1.length : Int) then (if ((rd_T50 x11_1 x13_1).f0) ≤ (wrap64 (((rd_T50 x4_1 (ji9)).f1) + 1)) then (impl_union.l0 k1 (x4_1.set ((ji9) : Int).toNat (⟨(rd_T50 x4_1 (ji9)).f0, mx ((rd_T50 x4_1 (ji9)).f1) ((rd_T50 x11_1 x13_1).f1)⟩ : S50)) x11_1 (t101.length : Int) (wrap64 (x13_1 + 1))) else (if x4_1.length < 8796093022208 then (impl_union.l0 k1 (x4_1 ++ [(⟨(rd_T50 x11_1 x13_1).f0, (rd_T50 x11_1 x13_1).f1⟩ : S50)]) x11_1 (t101.length : Int) (wrap64 (x13_1 + 1))) else (none))) else (none)) else (none)) = some r := by first | (rw [hji9] at H; exact H) | (simp only [hji9] at H ⊢; exact H)
       have hji9w : (IntKind.i64.wrap ((x4_1.length : Int) - 1)) = ji9 := (i64_w _).trans hji9
       by_cases c10 : 0 ≤ (ji9)
       ·rw [if_pos c10] at H
        have c10b0 : decide (0 ≤ (ji9)) = true := decide_eq_true c10
        clear c10
        by_cases c11 : (ji9) < (x4_1.length : Int)
        ·rw [if_pos c11] at H
         have c11b0 : decide ((ji9) < (x4_1.length : Int)) = true := decide_eq_true c11
         clear c11
         by_cases c12 : ((rd_T50 x11_1 x13_1).f0) ≤ (wrap64 (((rd_T50 x4_1 (ji9)).f1) + 1))
         ·rw [if_pos c12] at H
          have c12b0 : decide (((rd_T50 x11_1 x13_1).f0) ≤ (wrap64 (((rd_T50 x4_1 (ji9)).f1) + 1))) = true := decide_eq_true c12
          clear c12
          obtain ⟨ji13, hji13⟩ : ∃ j_ : Int, (mx ((rd_T50 x4_1 (ji9)).f1) ((rd_T50 x11_1 x13_1).f1)) = j_ := ⟨_, rfl⟩
          replace H : (impl_union.l0 k1 (x4_1.set ((ji9) : Int).toNat (⟨(rd_T50 x4_1 (ji9)).f0, ji13⟩ : S50)) x11_1 (t101.length : Int) (wrap64 (x13_1 + 1))) = some r := by first | (rw [hji13] at H; exact H) | (simp only [hji13] at H ⊢; exact H)
          have hji13_ : (if ((rd_T50 x4_1 (ji9)).f1) < ((rd_T50 x11_1 x13_1).f1) then ((rd_T50 x11_1 x13_1).f1) else ((rd_T50 x4_1 (ji9)).f1)) = ji13 := hji13
          obtain ⟨y108, hy108⟩ : ∃ y_ : List (S50), y_ = (x4_1.set ((ji9) : Int).toNat (⟨(rd_T50 x4_1 (ji9)).f0, ji13⟩ : S50)) := ⟨_, rfl⟩
          replace H : (impl_union.l0 k1 y108 x11_1 (t101.length : Int) (wrap64 (x13_1 + 1))) = some r := by first | (rw [hy108]; with_reducible exact H) | (have H2_ := (Option.bind_some _ _).symm.trans H; rw [hy108]; with_reducible exact H2_) | (have H2_ := (Option.bind_some _ _).symm.trans H; with_reducible exact H2_) | with_reducible exact H | (rw [hy108]; exact H) | exact H
          have Ny108 := Aside0.mk hy108
          clear hy108
          have H' := Aside0.mk H
          clear H
          have p104 : 0 ≤ (x13_1 : Int) := OD
          have q104 : x13_1 < (x11_1.length : Int) := OD
          obtain ⟨ad104, e104, hx104_0, hx104_1⟩ := at_T50 (Kd.R_reads' HO_11.out).2.2 x13_1 p104 q104
          cases e104
          replace p104 := eq_true p104
          replace q104 := eq_true q104
          try go_wp2_with (first | ((with_reducible refine gate_dst (N := 6) rfl ?_); refine box_event rfl (N := 6) rfl (cs := #[.int .i64 0, .int .i64 0]) (t := 50) BX ?_; intro gb105 hg w15 hbox hb; replace HO_4 := am (Kd.R_below (Kd.R_elderB (KR HO_4) gb105 (Nat.le_of_eq hg.symm)) hb); replace HO_11 := am (Kd.R_below (Kd.R_elderB (KR HO_11) gb105 (Nat.le_of_eq hg.symm)) hb); have BK105 := am (hbox); have GW105 := am (GH HB hg); have GE105 := GW105; replace HB := am (below_step (KL HB) hb); clear hb hbox hg; obtain ⟨hcz16_0, hcz16_1, hfz16_0⟩ := y2 w15 BK105.out; obtain ⟨Ao17, co17, eo17⟩ := Kd.R_slice HO_4.out; subst eo17))
          generalize hq_ : ((w15.setCell ⟨gb105, 0, none⟩ (.int .i64 ((rd_T50 x11_1 x13_1).f0))).setCell ⟨gb105, 1, none⟩ (.int .i64 ((rd_T50 x11_1 x13_1).f1))) = w18
          have n0_ : Aside0 (Kd.R k50 50 w18 w.heap.size (fun k_ => some k_ ≠ (.slice (some ad104) x11_1.length co4 : Value).ownBlock ∧ k_ ≠ gb105) (.slice Ao17 x4_1.length co17) x4_1) := ⟨by rw [← hq_]; (with_reducible repeat (first | apply Kd.R_alloc | apply Kd.R_drewN | apply Kd.R_drew)); exact Kd.R_mono (Kd.R_far (p := ⟨gb105, 1, none⟩) (Kd.R_far (p := ⟨gb105, 0, none⟩) (Kd.R_mono HO_4.out (fun k_ hk => (⟨hk, hk.2⟩ : _ ∧ k_ ≠ gb105))) (fun _ hk => hk.2) (.int .i64 ((rd_T50 x11_1 x13_1).f0))) (fun _ hk => hk.2) (.int .i64 ((rd_T50 x11_1 x13_1).f1))) (fun _ hk => ⟨hk.1.1, hk.1.2⟩)⟩
          have n1_ : Aside0 (Kd.R k50 50 w18 w.heap.size (fun k_ => some k_ ≠ (.slice Ao17 x4_1.length co17 : Value).ownBlock ∧ k_ ≠ gb105) (.slice (some ad104) x11_1.length co4) x11_1) := ⟨by rw [← hq_]; (with_reducible repeat (first | apply Kd.R_alloc | apply Kd.R_drewN | apply Kd.R_drew)); exact Kd.R_mono (Kd.R_far (p := ⟨gb105, 1, none⟩) (Kd.R_far (p := ⟨gb105, 0, none⟩) (Kd.R_mono HO_11.out (fun k_ hk => (⟨hk, hk.2⟩ : _ ∧ k_ ≠ gb105))) (fun _ hk => hk.2) (.int .i64 ((rd_T50 x11_1 x13_1).f0))) (fun _ hk => hk.2) (.int .i64 ((rd_T50 x11_1 x13_1).f1))) (fun _ hk => ⟨hk.1.1, hk.1.2⟩)⟩
          have n2_ : Aside0 (w18.heap[gb105]? = some (.cells #[.int .i64 ((rd_T50 x11_1 x13_1).f0), .int .i64 ((rd_T50 x11_1 x13_1).f1)] 50 (0, 0))) := ⟨by rw [← hq_]; exact P2 BK105⟩
          have n3_ : Aside0 (Below w.heap.size w w18) := ⟨by rw [← hq_]; exact K1 HB GE105.out⟩
          clear hq_
          (try clear HO_4)
          (try clear HO_11)
          (try clear BK105)
          (try clear HB)
          have HO_4 := n0_
          have HO_11 := n1_
          have BK105 := n2_
          have HB := n3_
          clear n0_ n1_ n2_ n3_
          replace HO_4 := am (Kd.R_drew HO_4.out)
          replace HO_11 := am (Kd.R_drew HO_11.out)
          replace BK105 := am (blk_drew BK105.out)
          replace HB := am (below_drew1 HB.out)
          have p106 : 0 ≤ ((ji9) : Int) := OD
          have q106 : (ji9) < (x4_1.length : Int) := OD
          obtain ⟨ad106, e106, hx106_0, hx106_1⟩ := at_T50 (Kd.R_reads' HO_4.out).2.2 (ji9) p106 q106
          cases e106
          replace p106 := eq_true p106
          replace q106 := eq_true q106
          refine start_ (n := 14) (S := fun w' => ce2 w' gb105 (.int .i64 ((rd_T50 x11_1 x13_1).f0)) (.int .i64 ((rd_T50 x11_1 x13_1).f1)) (w'.cell? (ad106.add (((ji9)).toNat * 2)) = some (.int .i64 ((rd_T50 x4_1 (ji9)).f0)) ∧ w'.cell? ⟨(ad106.add (((ji9)).toNat * 2)).block, (ad106.add (((ji9)).toNat * 2)).off + 1, none⟩ = some (.int .i64 ((rd_T50 x4_1 (ji9)).f1)))) (ds := []) (tf 0 14) (by kernel_rfl) rfl rfl ⟨z0 _ BK105.out, z1 _ BK105.out, hx106_0, hx106_1⟩ (fun hHeld => ?_); refine with_tabW impl_union.tab7 impl_union.bits7 (fun HT_ HW_ => ?_)
          generalize w18.drew = w19 at HO_4 HO_11 BK105 HB hx106_0 hx106_1 hHeld ⊢
          refine pv HT_ 0 19 (tf 1 13) ?_
          refine pv HT_ 1 20 (tf 2 12) ?_
          refine pv HT_ 2 21 (tf 3 11) ?_
          refine pv HT_ 3 22 (tf 4 10) ?_
          refine pv HT_ 5 24 (tr [4, 1, 1, 8]) ?_
          refine pv HT_ 6 25 (tr [4, 1, 2, 7]) ?_
          refine pv HT_ 7 26 (tr [4, 1, 3, 6]) ?_
          refine pv HT_ 8 27 (tr [4, 1, 4, 5]) ?_
          refine pv HT_ 9 28 (tr [4, 1, 5, 4]) ?_
          refine tk 4 (some 23) (tf 10 4) (take_ofW HT_.out HW_.out (by kernel_rfl)) hHeld ?_
          refine tk 10 (some 29) (tf 11 3) (take_ofW HT_.out HW_.out (by kernel_rfl)) hHeld ?_
          refine pv HT_ 11 30 (tf 12 2) ?_
          refine pv HT_ 12 31 (tf 13 1) ?_
          refine pv HT_ 13 32 (tf 14 0) ?_
          refine done_ (done_of HT_.out (by kernel_rfl)) ?_
          try go_wp2
          replace HO_4 := am (Kd.R_drew HO_4.out)
          replace HO_11 := am (Kd.R_drew HO_11.out)
          replace BK105 := am (blk_drew BK105.out)
          replace HB := am (below_drew1 HB.out)
          have p107 : 0 ≤ ((ji9) : Int) := OD
          have q107 : (ji9) < (x4_1.length : Int) := OD
          obtain ⟨ad107, e107, hx107_0, hx107_1⟩ := at_T50 (Kd.R_reads' HO_4.out).2.2 (ji9) p107 q107
          obtain rfl : ad106 = ad107 := (by injection e107)
          replace p107 := eq_true p107
          replace q107 := eq_true q107
          have p14 : 0 ≤ ((ji9) : Int) := OD
          have q14 : ((ji9) : Int) < ((x4_1.length : Int) : Int) := OD
          obtain ⟨go14, co14, eo14, gb14, gl14, cl14, HG14⟩ := Kd.R_form HO_4.out (by omega)
          (first | cases eo14 | (injection eo14 with ea_ en_ ec_; (first | subst ea_ | (injection ea_ with ea_; subst ea_)); subst ec_; clear en_))
          have GB14 := Aside0.mk gb14
          have GG14 := Aside0.mk HG14
          clear gb14 gl14 HG14
          (first | simp only [add_plain] at hx106_0 | skip)
          (first | simp only [add_plain] at hx106_1 | skip)
          (first | simp only [add_plain] at hx107_0 | skip)
          (first | simp only [add_plain] at hx107_1 | skip)
          obtain ⟨ce14, hcl14, hM14, hcc14, hfr14⟩ := Kd.R_elem HO_4.out z50 ((ji9) : Int) p14 q14
          obtain rfl := k50_openM hM14
          have hx14_0 : World.cell? _ ⟨go14, ((ji9) : Int).toNat * 2, none⟩ = some (.int .i64 ((rd_T50 x4_1 (ji9)).f0)) := hcc14 0 _ rfl
          have hx14_1 : World.cell? _ ⟨go14, ((ji9) : Int).toNat * 2 + 1, none⟩ = some (.int .i64 ((rd_T50 x4_1 (ji9)).f1)) := hcc14 1 _ rfl
          have hf14_0 : World.frozen? _ ⟨go14, ((ji9) : Int).toNat * 2, none⟩ = false := hfr14 0
          have hf14_1 : World.frozen? _ ⟨go14, ((ji9) : Int).toNat * 2 + 1, none⟩ = false := hfr14 1
          clear hcl14 hcc14 hfr14 hM14
          replace p14 := eq_true p14
          replace q14 := eq_true q14
          obtain ⟨ce21, hcl21, hM21, hcc21, hfr21⟩ := Kd.R_elem HO_4.out z50 ((ji9) : Int) (OD) (by have h_ : ((ji9) : Int) < ((x4_1.length : Int) : Int) := OD; first | exact h_ | (have e_ := (Kd.R_reads' HO_4.out).1; omega) | simpa using h_)
          obtain rfl := k50_openM hM21
          have HP21 := (Kd.R_seg HO_4.out ((ji9) : Int) (OD) (by have h_ : ((ji9) : Int) < ((x4_1.length : Int) : Int) := OD; first | exact h_ | (have e_ := (Kd.R_reads' HO_4.out).1; omega) | simpa using h_) (seg := [.int .i64 ji13]) (j := 1) hcl21 hcc21 (show 2 ≤ 2 from by decide) (x' := (⟨(rd_T50 x4_1 (ji9)).f0, ji13⟩ : S50)) (k50_mkM _ _ _ (⟨(rd_T50 x4_1 (ji9)).f0, ji13⟩ : S50) ) (fun _ hk => hk)).1
          rw [← Ny108.out] at HP21
          have HQ21 := Aside0.mk HP21
          clear hcl21 hcc21 hfr21 hM21 HP21
          refine start_ (n := 15) (S := fun w' => ce2 w' gb105 (.int .i64 ((rd_T50 x11_1 x13_1).f0)) (.int .i64 ((rd_T50 x11_1 x13_1).f1)) (w'.cell? ⟨go14, ((ji9)).toNat * 2, none⟩ = some (.int .i64 ((rd_T50 x4_1 (ji9)).f0)) ∧ w'.cell? ⟨go14, ((ji9)).toNat * 2 + 1, none⟩ = some (.int .i64 ((rd_T50 x4_1 (ji9)).f1)))) (ds := [14]) (tf 0 15) (by kernel_rfl) rfl rfl ⟨z0 _ BK105.out, z1 _ BK105.out, hx107_0, hx107_1⟩ (fun hHeld => ?_); refine with_tabW impl_union.tab8 impl_union.bits8 (fun HT_ HW_ => ?_)
          generalize w19.drew = w20 at HO_4 HO_11 BK105 HB GG14 HQ21 hf14_0 hf14_1 hx106_0 hx106_1 hx107_0 hx107_1 hx14_0 hx14_1 hHeld ⊢
          refine pv HT_ 0 33 (tf 1 14) ?_
          refine pv HT_ 1 34 (tf 2 13) ?_
          refine pv HT_ 2 35 (tf 3 12) ?_
          refine pv HT_ 3 36 (tf 4 11) ?_
          refine pv HT_ 4 37 (tf 5 10) ?_
          refine pv HT_ 5 38 (tf 6 9) ?_
          refine pv HT_ 6 39 (tf 7 8) ?_
          refine pv HT_ 7 40 (tf 8 7) ?_
          refine pv HT_ 9 42 (tr [8, 1, 1, 5]) ?_
          refine tk 8 (some 41) (tf 10 5) (take_ofW HT_.out HW_.out (by kernel_rfl)) hHeld ?_
          refine tk 10 (some 43) (tf 11 4) (take_ofW HT_.out HW_.out (by kernel_rfl)) hHeld ?_
          refine pv HT_ 11 44 (tf 12 3) ?_
          refine pv HT_ 12 45 (tf 13 2) ?_
          refine pv HT_ 13 46 (tf 14 1) ?_
          refine last_ (i := 14) (N := none) (tf 15 0) rfl rfl (one_of HT_.out (by kernel_rfl)) (by decide) (fun K hK => ?_)
          refine skip_ (w1 := ?_) (by rfl) rfl ?_ ?_
          rotate_left
          ·go_simp
           rfl
          refine hK.out _ _ ?_
          clear hK K
          refine done_ (done_of HT_.out (by kernel_rfl)) ?_
          try go_wp2
          (try simp only [← hl11_1])
          go_roundg k1
          case measure => have := HK1.out; omega
          case rel => exact ⟨(y108), (x11_1), (wrap64 (x13_1 + 1)), (by first | rfl | (simp; done) | (simp [*]; done)), H', ⟨by have := HK1.out; omega⟩, ⟨by (try simp only [hl11_1]); (with_reducible repeat (first | apply Kd.R_alloc | apply Kd.R_drewN | apply Kd.R_drew)); exact Kd.R_mono HQ21.out (fun _ hk => hk.1)⟩, ⟨by (try simp only [hl11_1]); (with_reducible repeat (first | apply Kd.R_alloc | apply Kd.R_drewN | apply Kd.R_drew)); exact Kd.R_mono (Kd.R_far (p := ⟨go14, ((ji9) : Int).toNat * 2 + 1, none⟩) (Kd.R_mono HO_11.out (fun k_ hk => (⟨hk, fun e_ => hk.1 (by rw [e_]; rfl)⟩ : _ ∧ k_ ≠ go14))) (fun _ hk => hk.2) (.int .i64 ji13)) (fun _ hk => hk.1.1)⟩, ⟨K2 HB GB14.out GE105.out⟩⟩
         ·rw [if_neg c12] at H
          have c12b0 : decide (((rd_T50 x11_1 x13_1).f0) ≤ (wrap64 (((rd_T50 x4_1 (ji9)).f1) + 1))) = false := decide_eq_false c12
          clear c12
          by_cases c22 : x4_1.length < 8796093022208
          ·rw [if_pos c22] at H
           have LMc22 := Aside0.mk c22
           clear c22
           obtain ⟨y109, hy109⟩ : ∃ y_ : List (S50), y_ = (x4_1 ++ [(⟨(rd_T50 x11_1 x13_1).f0, (rd_T50 x11_1 x13_1).f1⟩ : S50)]) := ⟨_, rfl⟩
           replace H : (impl_union.l0 k1 y109 x11_1 (t101.length : Int) (wrap64 (x13_1 + 1))) = some r := by first | (rw [hy109]; with_reducible exact H) | (have H2_ := (Option.bind_some _ _).symm.trans H; rw [hy109]; with_reducible exact H2_) | (have H2_ := (Option.bind_some _ _).symm.trans H; with_reducible exact H2_) | with_reducible exact H | (rw [hy109]; exact H) | exact H
           have Ny109 := Aside0.mk hy109
           clear hy109
           have H' := Aside0.mk H
           clear H
           have p104 : 0 ≤ (x13_1 : Int) := OD
           have q104 : x13_1 < (x11_1.length : Int) := OD
           obtain ⟨ad104, e104, hx104_0, hx104_1⟩ := at_T50 (Kd.R_reads' HO_11.out).2.2 x13_1 p104 q104
           cases e104
           replace p104 := eq_true p104
           replace q104 := eq_true q104
           try go_wp2_with (first | ((with_reducible refine gate_dst (N := 6) rfl ?_); refine box_event rfl (N := 6) rfl (cs := #[.int .i64 0, .int .i64 0]) (t := 50) BX ?_; intro gb105 hg w23 hbox hb; replace HO_4 := am (Kd.R_below (Kd.R_elderB (KR HO_4) gb105 (Nat.le_of_eq hg.symm)) hb); replace HO_11 := am (Kd.R_below (Kd.R_elderB (KR HO_11) gb105 (Nat.le_of_eq hg.symm)) hb); have BK105 := am (hbox); have GW105 := am (GH HB hg); have GE105 := GW105; replace HB := am (below_step (KL HB) hb); clear hb hbox hg; obtain ⟨hcz24_0, hcz24_1, hfz24_0⟩ := y2 w23 BK105.out; obtain ⟨Ao25, co25, eo25⟩ := Kd.R_slice HO_4.out; subst eo25))
           generalize hq_ : ((w23.setCell ⟨gb105, 0, none⟩ (.int .i64 ((rd_T50 x11_1 x13_1).f0))).setCell ⟨gb105, 1, none⟩ (.int .i64 ((rd_T50 x11_1 x13_1).f1))) = w26
           have n0_ : Aside0 (Kd.R k50 50 w26 w.heap.size (fun k_ => some k_ ≠ (.slice (some ad104) x11_1.length co4 : Value).ownBlock ∧ k_ ≠ gb105) (.slice Ao25 x4_1.length co25) x4_1) := ⟨by rw [← hq_]; (with_reducible repeat (first | apply Kd.R_alloc | apply Kd.R_drewN | apply Kd.R_drew)); exact Kd.R_mono (Kd.R_far (p := ⟨gb105, 1, none⟩) (Kd.R_far (p := ⟨gb105, 0, none⟩) (Kd.R_mono HO_4.out (fun k_ hk => (⟨hk, hk.2⟩ : _ ∧ k_ ≠ gb105))) (fun _ hk => hk.2) (.int .i64 ((rd_T50 x11_1 x13_1).f0))) (fun _ hk => hk.2) (.int .i64 ((rd_T50 x11_1 x13_1).f1))) (fun _ hk => ⟨hk.1.1, hk.1.2⟩)⟩
           have n1_ : Aside0 (Kd.R k50 50 w26 w.heap.size (fun k_ => some k_ ≠ (.slice Ao25 x4_1.length co25 : Value).ownBlock ∧ k_ ≠ gb105) (.slice (some ad104) x11_1.length co4) x11_1) := ⟨by rw [← hq_]; (with_reducible repeat (first | apply Kd.R_alloc | apply Kd.R_drewN | apply Kd.R_drew)); exact Kd.R_mono (Kd.R_far (p := ⟨gb105, 1, none⟩) (Kd.R_far (p := ⟨gb105, 0, none⟩) (Kd.R_mono HO_11.out (fun k_ hk => (⟨hk, hk.2⟩ : _ ∧ k_ ≠ gb105))) (fun _ hk => hk.2) (.int .i64 ((rd_T50 x11_1 x13_1).f0))) (fun _ hk => hk.2) (.int .i64 ((rd_T50 x11_1 x13_1).f1))) (fun _ hk => ⟨hk.1.1, hk.1.2⟩)⟩
           have n2_ : Aside0 (w26.heap[gb105]? = some (.cells #[.int .i64 ((rd_T50 x11_1 x13_1).f0), .int .i64 ((rd_T50 x11_1 x13_1).f1)] 50 (0, 0))) := ⟨by rw [← hq_]; exact P2 BK105⟩
           have n3_ : Aside0 (Below w.heap.size w w26) := ⟨by rw [← hq_]; exact K1 HB GE105.out⟩
           clear hq_
           (try clear HO_4)
           (try clear HO_11)
           (try clear BK105)
           (try clear HB)
           have HO_4 := n0_
           have HO_11 := n1_
           have BK105 := n2_
           have HB := n3_
           clear n0_ n1_ n2_ n3_
           replace HO_4 := am (Kd.R_drew HO_4.out)
           replace HO_11 := am (Kd.R_drew HO_11.out)
           replace BK105 := am (blk_drew BK105.out)
           replace HB := am (below_drew1 HB.out)
           have p106 : 0 ≤ ((ji9) : Int) := OD
           have q106 : (ji9) < (x4_1.length : Int) := OD
           obtain ⟨ad106, e106, hx106_0, hx106_1⟩ := at_T50 (Kd.R_reads' HO_4.out).2.2 (ji9) p106 q106
           cases e106
           replace p106 := eq_true p106
           replace q106 := eq_true q106
           refine start_ (n := 14) (S := fun w' => ce2 w' gb105 (.int .i64 ((rd_T50 x11_1 x13_1).f0)) (.int .i64 ((rd_T50 x11_1 x13_1).f1)) (w'.cell? (ad106.add (((ji9)).toNat * 2)) = some (.int .i64 ((rd_T50 x4_1 (ji9)).f0)) ∧ w'.cell? ⟨(ad106.add (((ji9)).toNat * 2)).block, (ad106.add (((ji9)).toNat * 2)).off + 1, none⟩ = some (.int .i64 ((rd_T50 x4_1 (ji9)).f1)))) (ds := []) (tf 0 14) (by kernel_rfl) rfl rfl ⟨z0 _ BK105.out, z1 _ BK105.out, hx106_0, hx106_1⟩ (fun hHeld => ?_); refine with_tabW impl_union.tab7 impl_union.bits7 (fun HT_ HW_ => ?_)
           generalize w26.drew = w27 at HO_4 HO_11 BK105 HB hx106_0 hx106_1 hHeld ⊢
           refine pv HT_ 0 19 (tf 1 13) ?_
           refine pv HT_ 1 20 (tf 2 12) ?_
           refine pv HT_ 2 21 (tf 3 11) ?_
           refine pv HT_ 3 22 (tf 4 10) ?_
           refine pv HT_ 5 24 (tr [4, 1, 1, 8]) ?_
           refine pv HT_ 6 25 (tr [4, 1, 2, 7]) ?_
           refine pv HT_ 7 26 (tr [4, 1, 3, 6]) ?_
           refine pv HT_ 8 27 (tr [4, 1, 4, 5]) ?_
           refine pv HT_ 9 28 (tr [4, 1, 5, 4]) ?_
           refine tk 4 (some 23) (tf 10 4) (take_ofW HT_.out HW_.out (by kernel_rfl)) hHeld ?_
           refine tk 10 (some 29) (tf 11 3) (take_ofW HT_.out HW_.out (by kernel_rfl)) hHeld ?_
           refine pv HT_ 11 30 (tf 12 2) ?_
           refine pv HT_ 12 31 (tf 13 1) ?_
           refine pv HT_ 13 32 (tf 14 0) ?_
           refine done_ (done_of HT_.out (by kernel_rfl)) ?_
           obtain ⟨hcz28_0, hcz28_1, hfz28_0⟩ := y2 w27 BK105.out
           try go_wp2_with (first | ((with_reducible refine gate_builtin (b := .append) (xs := #[.tmp 47, .tmp 49]) rfl ?_); at_builtin; refine Kd.R_append k50 (w0 := w) w.heap.size rfl (.tmp 47) (.tmp 49) 46 50 (.agg #[(.int .i64 0), (.int .i64 0)]) 16 rfl Tryz.underlying46 info50 rfl (by decide) (by omega) (.slice (some ad106) x4_1.length co25) x4_1 (⟨(rd_T50 x11_1 x13_1).f0, (rd_T50 x11_1 x13_1).f1⟩ : S50) [.int .i64 ((rd_T50 x11_1 x13_1).f0), .int .i64 ((rd_T50 x11_1 x13_1).f1)] (fun k_ => some k_ ≠ (.slice (some ad104) x11_1.length co4 : Value).ownBlock ∧ k_ ≠ gb105) (fun _ => False) rfl rfl ?aP (fun _ hk => hk.elim) ?aF ?aO ?aB ?aS ?aL ?_; (case aP => exact k50_mkM _ _ _ (⟨(rd_T50 x11_1 x13_1).f0, (rd_T50 x11_1 x13_1).f1⟩ : S50)); (case aB => exact (K1 HB GE105.out)); (case aF => exact (fun k_ hk => ⟨Kd.fresh' (Kd.R_lt (KR HO_11)) k_ hk, Kd.freshB (g := gb105) (o := .cells #[.int .i64 ((rd_T50 x11_1 x13_1).f0), .int .i64 ((rd_T50 x11_1 x13_1).f1)] 50 (0, 0)) (KB BK105) k_ hk⟩)); (case aO => exact (KR HO_4)); (case aS => exact (below_size (K1 HB GE105.out))); (case aL => have := LMc22.out; omega); intro v110 w29 ho hb hg hat; rw [← Ny109.out] at ho; replace HO_11 := am (Kd.R_after (ok := (fun k_ => k_ ≠ gb105)) (by (with_reducible repeat (first | apply Kd.R_alloc | apply Kd.R_drewN | apply Kd.R_drew)); exact Kd.R_mono HO_11.out (fun _ hk => ⟨hk.2, hk.1⟩)) hg hat); replace BK105 := am (blk_grown (g := gb105) (o := .cells #[.int .i64 ((rd_T50 x11_1 x13_1).f0), .int .i64 ((rd_T50 x11_1 x13_1).f1)] 50 (0, 0)) (KB BK105) hg (Kd.R_away HO_4.out (fun _ hk => hk.2))); replace HB := am (hb); have HO111 := am (ho); clear HO_4; clear ho hb hg hat))
           (try simp only [← hl11_1])
           go_roundg k1
           case measure => have := HK1.out; omega
           case rel => exact ⟨(y109), (x11_1), (wrap64 (x13_1 + 1)), (by first | rfl | (simp; done) | (simp [*]; done)), H', ⟨by have := HK1.out; omega⟩, ⟨by (try simp only [hl11_1]); (with_reducible repeat (first | apply Kd.R_alloc | apply Kd.R_drewN | apply Kd.R_drew)); exact Kd.R_mono HO111.out (fun _ hk => hk.1)⟩, ⟨by (try simp only [hl11_1]); (with_reducible repeat (first | apply Kd.R_alloc | apply Kd.R_drewN | apply Kd.R_drew)); exact Kd.R_mono HO_11.out (fun _ hk => hk.2)⟩, ⟨K1 HB GE105.out⟩⟩
          ·rw [if_neg c22] at H
           exact absurd H (by simp)
        ·rw [if_neg c11] at H
         exact absurd H (by simp)
       ·rw [if_neg c10] at H
        exact absurd H (by simp)
      ·rw [if_neg c8] at H
       have c8b0 : decide (0 < (x4_1.length : Int)) = false := decide_eq_false c8
       have c8b1 : decide (0 < x4_1.length) = false := decide_eq_false (by omega)
       clear c8
       by_cases c30 : x4_1.length < 8796093022208
       ·rw [if_pos c30] at H
        have LMc30 := Aside0.mk c30
        clear c30
        obtain ⟨y112, hy112⟩ : ∃ y_ : List (S50), y_ = (x4_1 ++ [(⟨(rd_T50 x11_1 x13_1).f0, (rd_T50 x11_1 x13_1).f1⟩ : S50)]) := ⟨_, rfl⟩
        replace H : (impl_union.l0 k1 y112 x11_1 (t101.length : Int) (wrap64 (x13_1 + 1))) = some r := by first | (rw [hy112]; with_reducible exact H) | (have H2_ := (Option.bind_some _ _).symm.trans H; rw [hy112]; with_reducible exact H2_) | (have H2_ := (Option.bind_some _ _).symm.trans H; with_reducible exact H2_) | with_reducible exact H | (rw [hy112]; exact H) | exact H
        have Ny112 := Aside0.mk hy112
        clear hy112
        have H' := Aside0.mk H
        clear H
        have p104 : 0 ≤ (x13_1 : Int) := OD
        have q104 : x13_1 < (x11_1.length : Int) := OD
        obtain ⟨ad104, e104, hx104_0, hx104_1⟩ := at_T50 (Kd.R_reads' HO_11.out).2.2 x13_1 p104 q104
        cases e104
        replace p104 := eq_true p104
        replace q104 := eq_true q104
        try go_wp2_with (first | ((with_reducible refine gate_dst (N := 6) rfl ?_); refine box_event rfl (N := 6) rfl (cs := #[.int .i64 0, .int .i64 0]) (t := 50) BX ?_; intro gb105 hg w31 hbox hb; replace HO_4 := am (Kd.R_below (Kd.R_elderB (KR HO_4) gb105 (Nat.le_of_eq hg.symm)) hb); replace HO_11 := am (Kd.R_below (Kd.R_elderB (KR HO_11) gb105 (Nat.le_of_eq hg.symm)) hb); have BK105 := am (hbox); have GW105 := am (GH HB hg); have GE105 := GW105; replace HB := am (below_step (KL HB) hb); clear hb hbox hg; obtain ⟨hcz32_0, hcz32_1, hfz32_0⟩ := y2 w31 BK105.out; obtain ⟨Ao33, co33, eo33⟩ := Kd.R_slice HO_4.out; subst eo33))
        generalize hq_ : ((w31.setCell ⟨gb105, 0, none⟩ (.int .i64 ((rd_T50 x11_1 x13_1).f0))).setCell ⟨gb105, 1, none⟩ (.int .i64 ((rd_T50 x11_1 x13_1).f1))) = w34
        have n0_ : Aside0 (Kd.R k50 50 w34 w.heap.size (fun k_ => some k_ ≠ (.slice (some ad104) x11_1.length co4 : Value).ownBlock ∧ k_ ≠ gb105) (.slice Ao33 x4_1.length co33) x4_1) := ⟨by rw [← hq_]; (with_reducible repeat (first | apply Kd.R_alloc | apply Kd.R_drewN | apply Kd.R_drew)); exact Kd.R_mono (Kd.R_far (p := ⟨gb105, 1, none⟩) (Kd.R_far (p := ⟨gb105, 0, none⟩) (Kd.R_mono HO_4.out (fun k_ hk => (⟨hk, hk.2⟩ : _ ∧ k_ ≠ gb105))) (fun _ hk => hk.2) (.int .i64 ((rd_T50 x11_1 x13_1).f0))) (fun _ hk => hk.2) (.int .i64 ((rd_T50 x11_1 x13_1).f1))) (fun _ hk => ⟨hk.1.1, hk.1.2⟩)⟩
        have n1_ : Aside0 (Kd.R k50 50 w34 w.heap.size (fun k_ => some k_ ≠ (.slice Ao33 x4_1.length co33 : Value).ownBlock ∧ k_ ≠ gb105) (.slice (some ad104) x11_1.length co4) x11_1) := ⟨by rw [← hq_]; (with_reducible repeat (first | apply Kd.R_alloc | apply Kd.R_drewN | apply Kd.R_drew)); exact Kd.R_mono (Kd.R_far (p := ⟨gb105, 1, none⟩) (Kd.R_far (p := ⟨gb105, 0, none⟩) (Kd.R_mono HO_11.out (fun k_ hk => (⟨hk, hk.2⟩ : _ ∧ k_ ≠ gb105))) (fun _ hk => hk.2) (.int .i64 ((rd_T50 x11_1 x13_1).f0))) (fun _ hk => hk.2) (.int .i64 ((rd_T50 x11_1 x13_1).f1))) (fun _ hk => ⟨hk.1.1, hk.1.2⟩)⟩
        have n2_ : Aside0 (w34.heap[gb105]? = some (.cells #[.int .i64 ((rd_T50 x11_1 x13_1).f0), .int .i64 ((rd_T50 x11_1 x13_1).f1)] 50 (0, 0))) := ⟨by rw [← hq_]; exact P2 BK105⟩
        have n3_ : Aside0 (Below w.heap.size w w34) := ⟨by rw [← hq_]; exact K1 HB GE105.out⟩
        clear hq_
        (try clear HO_4)
        (try clear HO_11)
        (try clear BK105)
        (try clear HB)
        have HO_4 := n0_
        have HO_11 := n1_
        have BK105 := n2_
        have HB := n3_
        clear n0_ n1_ n2_ n3_
        replace HO_4 := am (Kd.R_drew HO_4.out)
        replace HO_11 := am (Kd.R_drew HO_11.out)
        replace BK105 := am (blk_drew BK105.out)
        replace HB := am (below_drew1 HB.out)
        refine start_ (n := 14) (S := fun w' => True) (ds := []) (tf 0 14) (by kernel_rfl) rfl rfl trivial (fun hHeld => ?_); refine with_tabW impl_union.tab7 impl_union.bits7 (fun HT_ HW_ => ?_)
        generalize w34.drew = w35 at HO_4 HO_11 BK105 HB hHeld ⊢
        refine pv HT_ 0 19 (tf 1 13) ?_
        refine pv HT_ 1 20 (tf 2 12) ?_
        refine pv HT_ 2 21 (tf 3 11) ?_
        refine pw HT_ 3 22 (tf 4 10) ?_
        refine pw HT_ 4 23 (tf 5 9) ?_
        refine pw HT_ 5 24 (tf 6 8) ?_
        refine pw HT_ 6 25 (tf 7 7) ?_
        refine pw HT_ 7 26 (tf 8 6) ?_
        refine pw HT_ 8 27 (tf 9 5) ?_
        refine pw HT_ 9 28 (tf 10 4) ?_
        refine pw HT_ 10 29 (tf 11 3) ?_
        refine pw HT_ 11 30 (tf 12 2) ?_
        refine pw HT_ 12 31 (tf 13 1) ?_
        refine pv HT_ 13 32 (tf 14 0) ?_
        refine done_ (done_of HT_.out (by kernel_rfl)) ?_
        obtain ⟨hcz36_0, hcz36_1, hfz36_0⟩ := y2 w35 BK105.out
        try go_wp2_with (first | ((with_reducible refine gate_builtin (b := .append) (xs := #[.tmp 47, .tmp 49]) rfl ?_); at_builtin; refine Kd.R_append k50 (w0 := w) w.heap.size rfl (.tmp 47) (.tmp 49) 46 50 (.agg #[(.int .i64 0), (.int .i64 0)]) 16 rfl Tryz.underlying46 info50 rfl (by decide) (by omega) (.slice Ao33 x4_1.length co33) x4_1 (⟨(rd_T50 x11_1 x13_1).f0, (rd_T50 x11_1 x13_1).f1⟩ : S50) [.int .i64 ((rd_T50 x11_1 x13_1).f0), .int .i64 ((rd_T50 x11_1 x13_1).f1)] (fun k_ => some k_ ≠ (.slice (some ad104) x11_1.length co4 : Value).ownBlock ∧ k_ ≠ gb105) (fun _ => False) rfl rfl ?aP (fun _ hk => hk.elim) ?aF ?aO ?aB ?aS ?aL ?_; (case aP => exact k50_mkM _ _ _ (⟨(rd_T50 x11_1 x13_1).f0, (rd_T50 x11_1 x13_1).f1⟩ : S50)); (case aB => exact (K1 HB GE105.out)); (case aF => exact (fun k_ hk => ⟨Kd.fresh' (Kd.R_lt (KR HO_11)) k_ hk, Kd.freshB (g := gb105) (o := .cells #[.int .i64 ((rd_T50 x11_1 x13_1).f0), .int .i64 ((rd_T50 x11_1 x13_1).f1)] 50 (0, 0)) (KB BK105) k_ hk⟩)); (case aO => exact (KR HO_4)); (case aS => exact (below_size (K1 HB GE105.out))); (case aL => have := LMc30.out; omega); intro v113 w37 ho hb hg hat; rw [← Ny112.out] at ho; replace HO_11 := am (Kd.R_after (ok := (fun k_ => k_ ≠ gb105)) (by (with_reducible repeat (first | apply Kd.R_alloc | apply Kd.R_drewN | apply Kd.R_drew)); exact Kd.R_mono HO_11.out (fun _ hk => ⟨hk.2, hk.1⟩)) hg hat); replace BK105 := am (blk_grown (g := gb105) (o := .cells #[.int .i64 ((rd_T50 x11_1 x13_1).f0), .int .i64 ((rd_T50 x11_1 x13_1).f1)] 50 (0, 0)) (KB BK105) hg (Kd.R_away HO_4.out (fun _ hk => hk.2))); replace HB := am (hb); have HO114 := am (ho); clear HO_4; clear ho hb hg hat))
        (try simp only [← hl11_1])
        go_roundg k1
        case measure => have := HK1.out; omega
        case rel => exact ⟨(y112), (x11_1), (wrap64 (x13_1 + 1)), (by first | rfl | (simp; done) | (simp [*]; done)), H', ⟨by have := HK1.out; omega⟩, ⟨by (try simp only [hl11_1]); (with_reducible repeat (first | apply Kd.R_alloc | apply Kd.R_drewN | apply Kd.R_drew)); exact Kd.R_mono HO114.out (fun _ hk => hk.1)⟩, ⟨by (try simp only [hl11_1]); (with_reducible repeat (first | apply Kd.R_alloc | apply Kd.R_drewN | apply Kd.R_drew)); exact Kd.R_mono HO_11.out (fun _ hk => hk.2)⟩, ⟨K1 HB GE105.out⟩⟩
       ·rw [if_neg c30] at H
        exact absurd H (by simp)
     ·rw [if_neg c7] at H
      exact absurd H (by simp)
    ·rw [if_neg c6] at H
     exact absurd H (by simp)
   ·rw [if_neg c5] at H
    have c5b0 : decide (x13_1 < (t101.length : Int)) = false := decide_eq_false c5
    have c5b1 : decide (x13_1 < (x11_1.length : Int)) = false := by rw [← hl11_1]; exact c5b0
    clear c5
    obtain rfl := Option.some.inj H
    go_wp2
    go_ret
    exact ⟨_, ER, by (with_reducible repeat (first | apply Kd.R_alloc | apply Kd.R_drewN | apply Kd.R_drew)); exact Kd.R_mono HO_4.out (fun _ hk => trivial), KL HB⟩
end Go.Proofs.YtmanlcakdcoekaaGreat.PAll
end
