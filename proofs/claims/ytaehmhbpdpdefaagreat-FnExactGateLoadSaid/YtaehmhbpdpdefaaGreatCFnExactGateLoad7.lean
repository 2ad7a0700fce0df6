/- Contracts of the functions that the statement reaches. -/
import Derived.WalkKit
import Derived.Shelf.Abstract
import Derived.Deep.LoopGhost
import Derived.Test.YtaehmhbpdpdefaaGreatCFnExactGateLoad3
import Derived.Test.YtaehmhbpdpdefaaGreatCFnExactGateLoad4
import Derived.Test.YtaehmhbpdpdefaaGreatCFnExactGateLoad5
import Derived.Test.YtaehmhbpdpdefaaGreatCFnExactGateLoad6
set_option maxHeartbeats 8000000
set_option maxRecDepth 100000
section
namespace Go.Proofs.YtaehmhbpdpdefaaGreat.PAll
open Go.RowKit Go.Proofs.YtaehmhbpdpdefaaGreatW.PrintWords Go.Proofs.YtaehmhbpdpdefaaGreatW.PrintLast Go.Proofs.YtaehmhbpdpdefaaGreatW.PrintMore
attribute [local go_sem] max2_int min2_int max_two min_two max_three min_three max_four min_four
set_option linter.unusedVariables false
set_option linter.unusedSimpArgs false
set_option maxHeartbeats 4000000 in
theorem impl_Rule_90.gen (p : S59 → Option Bool) (g : Nat) (lb : Array Value) (eg : ∀ args w, (callFunc g args).run Tryz.prog w = .ok (.enter g args) w) (A : Option Addr) (c : Nat) (l : List S59) (r : Int) (w : World) (hr : Kd.C k59 w A l.length l)
  (hp : ∀ (W : World) (x : S59) (b : Bool), x ∈ l → Below w.heap.size w W → p x = some b → Calls Tryz.prog g (#[.agg #[.int .i64 x.f0, .int .i64 x.f1, .int .i64 x.f2.f0, .int .i64 x.f2.f1, .int .i64 x.f3.f0, .int .i64 x.f3.f1, .int .i64 x.f4, .int .i64 x.f5]] ++ lb) W fun e w' => e = .returned (.bool b) ∧ Below w.heap.size w w') (h : findO p l 0 = some r) :
  Calls Tryz.prog 90 #[.slice A l.length c, .func (.func g) #[] lb] w fun e w' => e = .returned (.int .i64 r) ∧ Below w.heap.size w w' := by
 have hu := Tryz.underlying59; have HR := Aside0.mk hr; have HM := Aside0.mk hr.2.1; have HP := Aside0.mk hp; have H0 := Aside0.mk h; clear hr hp h; go_enter Tryz.func90, Tryz.ntmps90
 go_wp2
 go_loopg [5, 8] l.length (fun gg _ s8 wr => ∃ kk : Nat, kk ≤ l.length ∧ Aside0 (l.length - kk ≤ gg) ∧ s8 = .int .i64 kk ∧ Aside0 (Below w.heap.size w wr) ∧ Aside0 (findO p (l.drop kk) kk = some r))
 case atStart => exact ⟨0, Nat.zero_le _, ⟨by omega⟩, rfl, ⟨Below.refl _ w⟩, ⟨H0.out⟩⟩
 case round =>
  clear H0; obtain ⟨kk, hkk, hg, rfl, BW, A0⟩ := hrel; have hml := HM.out; by_cases hlt : kk < l.length
  ·have hltz : (kk : Int) < (l.length : Int) := by omega
   obtain ⟨ad, e, h0, h1, h2, h3, h4, h5, h6, h7⟩ := at_T59 HR.out (kk : Int) (by omega) hltz
   have hx : rd_T59 l (kk : Int) = l[kk] := by
    unfold rd_T59; rw [List.getD_eq_getElem?_getD, Int.toNat_natCast, List.getElem?_eq_getElem hlt]; rfl
   rw [hx] at h0 h1 h2 h3 h4 h5 h6 h7; rw [Int.toNat_natCast] at h0 h1 h2 h3 h4 h5 h6 h7; have HX := am (List.getElem_mem hlt); have A1 := A0.out; rw [List.drop_eq_getElem_cons hlt] at A1; clear A0 hx; generalize l[kk] = y at h0 h1 h2 h3 h4 h5 h6 h7 HX A1; cases e
   replace h0 := (BW.out.cell (World.block_lt_of_cell? w _ h0)).trans h0; replace h1 := (BW.out.cell (World.block_lt_of_cell? w _ h1)).trans h1; replace h2 := (BW.out.cell (World.block_lt_of_cell? w _ h2)).trans h2; replace h3 := (BW.out.cell (World.block_lt_of_cell? w _ h3)).trans h3; replace h4 := (BW.out.cell (World.block_lt_of_cell? w _ h4)).trans h4; replace h5 := (BW.out.cell (World.block_lt_of_cell? w _ h5)).trans h5; replace h6 := (BW.out.cell (World.block_lt_of_cell? w _ h6)).trans h6; replace h7 := (BW.out.cell (World.block_lt_of_cell? w _ h7)).trans h7; simp only [findO, Option.bind_eq_some_iff] at A1; obtain ⟨b, hb, A1⟩ := A1; have hcall := HP.out wr y b HX.out BW.out hb; have A2 := Aside0.mk A1; clear A1 hb HX; cases b with
   | true =>
    go_wp2_with (go_at_fn g; refine hcall.mono ?_; rintro e w' ⟨rfl, hb'⟩)
    go_ret
    have A1 := A2.out; simp only [if_true, Option.some.injEq] at A1; subst A1; exact ⟨rfl, hb'⟩
   | false =>
    go_wp2_with (go_at_fn g; refine hcall.mono ?_; rintro e w' ⟨rfl, hb'⟩)
    go_roundg (l.length - (kk + 1))
    case measure => have := hg.out; omega
    case rel => exact ⟨kk + 1, by omega, ⟨by omega⟩, by go_num, ⟨hb'⟩, ⟨by have A1 := A2.out; simp only [Bool.false_eq_true, if_false] at A1; exact A1⟩⟩
  ·have hltz : ¬ (kk : Int) < (l.length : Int) := by omega
   have : kk = l.length := by omega
   have A1 := A0.out; rw [this, List.drop_length] at A1; have A2 := Aside0.mk A1; clear A0 A1; go_wp2
   go_ret
   have A1 := A2.out; simp only [findO, Option.some.injEq] at A1; subst A1; exact ⟨rfl, BW.out⟩
set_option maxHeartbeats 4000000 in
theorem impl_Rule_84.gen (p : S59 → Option Bool) (g : Nat) (lb : Array Value) (eg : ∀ args w, (callFunc g args).run Tryz.prog w = .ok (.enter g args) w) (A : Option Addr) (c : Nat) (l : List S59) (r : Bool) (w : World) (hr : Kd.C k59 w A l.length l)
  (hp : ∀ (W : World) (x : S59) (b : Bool), x ∈ l → Below w.heap.size w W → p x = some b → Calls Tryz.prog g (#[.agg #[.int .i64 x.f0, .int .i64 x.f1, .int .i64 x.f2.f0, .int .i64 x.f2.f1, .int .i64 x.f3.f0, .int .i64 x.f3.f1, .int .i64 x.f4, .int .i64 x.f5]] ++ lb) W fun e w' => e = .returned (.bool b) ∧ Below w.heap.size w w') (h : anyO p l = some r) :
  Calls Tryz.prog 84 #[.slice A l.length c, .func (.func g) #[] lb] w fun e w' => e = .returned (.bool r) ∧ Below w.heap.size w w' := by
 obtain ⟨v, hv, hd⟩ := findO_any p l 0 r (by omega) h; have hc := fun w0 (hw : w0 = w) => impl_Rule_90.gen p g lb eg A c l v w hr hp hv
 have HC := am (hc w rfl); have HD := Aside0.mk hd; clear hr hp h hv hd hc; go_enter Tryz.func84, Tryz.ntmps84
 go_wp2_with (go_at_call 90; refine HC.out.mono ?_; rintro e w' ⟨rfl, hb⟩)
 go_ret
 have hd := HD.out; subst hd; exact ⟨rfl, hb⟩
def impl_RulesOk.bad (k : Nat) (x : S59) : Option Bool := (impl_Rule_right.f k x.f0 x.f1 x.f2.f0 x.f2.f1 x.f3.f0 x.f3.f1 x.f4 x.f5).bind fun b => some (!b)
def impl_RulesOk.f (k : Nat) (l0 : List S59) : Option (Bool) := if (l0.length : Int) ≤ 8 then (anyO (impl_RulesOk.bad k ) l0).bind fun b => some (!b) else some false
set_option maxHeartbeats 4000000 in
theorem impl_RulesOk.one (k : Nat) (W : World) (x : S59) (b : Bool) (h : impl_RulesOk.bad k x = some b) :
  Calls Tryz.prog 85 #[.agg #[.int .i64 x.f0, .int .i64 x.f1, .int .i64 x.f2.f0, .int .i64 x.f2.f1, .int .i64 x.f3.f0, .int .i64 x.f3.f1, .int .i64 x.f4, .int .i64 x.f5]] W fun e w' => e = .returned (.bool b) ∧ Below W.heap.size W w' := by
 simp only [impl_RulesOk.bad, Option.bind_eq_some_iff] at h; obtain ⟨c, hc, h⟩ := h; obtain rfl := Option.some.inj h; have HC := Aside0.mk hc; clear hc h; have hu := Tryz.underlying59; go_enter Tryz.func85, Tryz.ntmps85
 go_wp2_with (go_at_call 86; refine (impl_Rule_right.calls k x.f0 x.f1 x.f2.f0 x.f2.f1 x.f3.f0 x.f3.f1 x.f4 x.f5 c _ HC.out).mono ?_; rintro e w' ⟨rfl, hb⟩)
 go_ret
 exact ⟨rfl, ((Below.refl _ _).alloc (Nat.le_refl _) _).trans (hb.mono (by simp))⟩
set_option maxHeartbeats 4000000 in
theorem impl_RulesOk.calls (k : Nat) (A0 : Option Addr) (c0 : Nat) (l0 : List (S59)) (r : Bool) (w : World) (aA : Kd.C k59 w A0 l0.length l0) (aB : l0.length ≤ c0) (h : impl_RulesOk.f k l0 = some r) :
  Calls Tryz.prog 53 #[.slice A0 l0.length c0] w fun e w' => e = .returned (.bool r) ∧ Below w.heap.size w w' := by
 have hm := aA.2.1; have eg := enters_of Tryz.func85 (by kernel_rfl) rfl; unfold impl_RulesOk.f at h; by_cases c : (l0.length : Int) ≤ 8
 ·rw [if_pos c, Option.bind_eq_some_iff] at h
  obtain ⟨b, hb, h⟩ := h; obtain rfl := Option.some.inj h; have HC := am (impl_Rule_84.gen (impl_RulesOk.bad k ) 85 #[] eg A0 c0 l0 b w aA (fun W x b _ hB hx => (impl_RulesOk.one k W x b hx).mono fun e w' ⟨he, hw⟩ => ⟨he, hB.trans (hw.mono hB.size)⟩) hb); clear aA aB hb h; have cb := decide_eq_true c; go_enter Tryz.func53, Tryz.ntmps53
  go_wp2_with (go_at_call 84; refine HC.out.mono ?_; rintro e w' ⟨rfl, hb⟩)
  go_ret
  exact ⟨rfl, hb⟩
 ·rw [if_neg c] at h
  obtain rfl := Option.some.inj h; clear aA aB; have cb := decide_eq_false c; go_enter Tryz.func53, Tryz.ntmps53
  go_wp2
  go_ret
  exact ⟨rfl, Below.refl _ _⟩
def impl_first.is (a1_0 a1_1 a1_2 : Int) (x : S59) : Option Bool := impl_Rule_matches.f x.f0 x.f1 x.f2.f0 x.f2.f1 x.f3.f0 x.f3.f1 x.f4 x.f5 a1_0 a1_1 a1_2
def impl_first.f (l0 : List S59) (a1_0 : Int) (a1_1 : Int) (a1_2 : Int) : Option (Int) := findO (impl_first.is a1_0 a1_1 a1_2) l0 0
set_option maxHeartbeats 4000000 in
theorem impl_first.one (a1_0 a1_1 a1_2 : Int) (B : Nat) (W : World) (x : S59) (b : Bool) (hB : W.heap[B]? = some (.cells #[.int .i64 a1_0, .int .i64 a1_1, .int .i64 a1_2] 94 (0, 0))) (h : impl_first.is a1_0 a1_1 a1_2 x = some b) :
  Calls Tryz.prog 91 #[.agg #[.int .i64 x.f0, .int .i64 x.f1, .int .i64 x.f2.f0, .int .i64 x.f2.f1, .int .i64 x.f3.f0, .int .i64 x.f3.f1, .int .i64 x.f4, .int .i64 x.f5], .pointer (some ⟨B, 0, none⟩)] W fun e w' => e = .returned (.bool b) ∧ Below W.heap.size W w' := by
 have HC := Aside0.mk h; have hlt : B < W.heap.size := (Array.getElem?_eq_some_iff.1 hB).1; have hc0 : W.cell? ⟨B, 0, none⟩ = some (.int .i64 a1_0) := (blk_cell hB 0).trans rfl; have hc1 : W.cell? ⟨B, 1, none⟩ = some (.int .i64 a1_1) := (blk_cell hB 1).trans rfl; have hc2 : W.cell? ⟨B, 2, none⟩ = some (.int .i64 a1_2) := (blk_cell hB 2).trans rfl; clear h hB; have hu := Tryz.underlying59; have hu2 := Tryz.underlying94; go_enter Tryz.func91, Tryz.ntmps91
 go_wp2_with (go_at_call 92; refine (impl_Rule_matches.calls x.f0 x.f1 x.f2.f0 x.f2.f1 x.f3.f0 x.f3.f1 x.f4 x.f5 a1_0 a1_1 a1_2 b _ HC.out).mono ?_; rintro e w' ⟨rfl, hb⟩)
 go_ret
 exact ⟨rfl, ((Below.refl _ _).alloc (Nat.le_refl _) _).trans (hb.mono (by simp))⟩
set_option maxHeartbeats 4000000 in
theorem impl_first.calls (A0 : Option Addr) (c0 : Nat) (l0 : List (S59)) (aA : Int) (aB : Int) (aC : Int) (r : Int) (w : World) (aD : Kd.C k59 w A0 l0.length l0) (aE : l0.length ≤ c0) (h : impl_first.f l0 aA aB aC = some r) :
  Calls Tryz.prog 57 #[.slice A0 l0.length c0, .agg #[.int .i64 aA, .int .i64 aB, .int .i64 aC]] w fun e w' => e = .returned (.int .i64 r) ∧ Below w.heap.size w w' := by
 have eg := enters_of Tryz.func91 (by kernel_rfl) rfl; have aF := Tryz.underlying94
 have HC := am (fun (w1 : World) (hb : Below w.heap.size w w1) (B : Nat) (hB : w1.heap[B]? = some (.cells #[.int .i64 aA, .int .i64 aB, .int .i64 aC] 94 (0, 0))) =>
  impl_Rule_90.gen (impl_first.is aA aB aC) 91 #[.pointer (some ⟨B, 0, none⟩)] eg A0 c0 l0 r w1 (Kd.C_below aD hb) (fun W x b _ hW hx => (impl_first.one aA aB aC B W x b ((hW.block B (Array.getElem?_eq_some_iff.1 hB).1).trans hB) hx).mono fun e w' ⟨he, hw⟩ => ⟨he, hW.trans (hw.mono hW.size)⟩) h)
 clear aD aE h; go_enter Tryz.func57, Tryz.ntmps57
 go_wp2_with (go_at_call 90; refine (HC.out _ ((Below.refl _ _).alloc (Nat.le_refl _) _) w.heap.size (by first | exact heap_alloc_new _ _ | simpa using heap_alloc_new _ _)).mono ?_; rintro e w' ⟨rfl, hb⟩)
 go_ret
 exact ⟨rfl, ((Below.refl _ _).alloc (Nat.le_refl _) _).trans (hb.mono (by simp))⟩
set_option maxHeartbeats 4000000 in
theorem impl_Seen_104.gen (p : S96 → Option Bool) (g : Nat) (lb : Array Value) (eg : ∀ args w, (callFunc g args).run Tryz.prog w = .ok (.enter g args) w) (A : Option Addr) (c : Nat) (l : List S96) (r : Int) (w : World) (hr : Kd.C k96 w A l.length l)
  (hp : ∀ (W : World) (x : S96) (b : Bool), x ∈ l → Below w.heap.size w W → p x = some b → Calls Tryz.prog g (#[.agg #[.int .i64 x.f0.f0, .int .i64 x.f0.f1, .int .i64 x.f0.f2, .int .i64 x.f1]] ++ lb) W fun e w' => e = .returned (.bool b) ∧ Below w.heap.size w w') (h : findO p l 0 = some r) :
  Calls Tryz.prog 104 #[.slice A l.length c, .func (.func g) #[] lb] w fun e w' => e = .returned (.int .i64 r) ∧ Below w.heap.size w w' := by
 have hu := Tryz.underlying96; have HR := Aside0.mk hr; have HM := Aside0.mk hr.2.1; have HP := Aside0.mk hp; have H0 := Aside0.mk h; clear hr hp h; go_enter Tryz.func104, Tryz.ntmps104
 go_wp2
 go_loopg [5, 8] l.length (fun gg _ s8 wr => ∃ kk : Nat, kk ≤ l.length ∧ Aside0 (l.length - kk ≤ gg) ∧ s8 = .int .i64 kk ∧ Aside0 (Below w.heap.size w wr) ∧ Aside0 (findO p (l.drop kk) kk = some r))
 case atStart => exact ⟨0, Nat.zero_le _, ⟨by omega⟩, rfl, ⟨Below.refl _ w⟩, ⟨H0.out⟩⟩
 case round =>
  clear H0; obtain ⟨kk, hkk, hg, rfl, BW, A0⟩ := hrel; have hml := HM.out; by_cases hlt : kk < l.length
  ·have hltz : (kk : Int) < (l.length : Int) := by omega
   obtain ⟨ad, e, h0, h1, h2, h3⟩ := at_T96 HR.out (kk : Int) (by omega) hltz
   have hx : rd_T96 l (kk : Int) = l[kk] := by
    unfold rd_T96; rw [List.getD_eq_getElem?_getD, Int.toNat_natCast, List.getElem?_eq_getElem hlt]; rfl
   rw [hx] at h0 h1 h2 h3; rw [Int.toNat_natCast] at h0 h1 h2 h3; have HX := am (List.getElem_mem hlt); have A1 := A0.out; rw [List.drop_eq_getElem_cons hlt] at A1; clear A0 hx; generalize l[kk] = y at h0 h1 h2 h3 HX A1; cases e
   replace h0 := (BW.out.cell (World.block_lt_of_cell? w _ h0)).trans h0; replace h1 := (BW.out.cell (World.block_lt_of_cell? w _ h1)).trans h1; replace h2 := (BW.out.cell (World.block_lt_of_cell? w _ h2)).trans h2; replace h3 := (BW.out.cell (World.block_lt_of_cell? w _ h3)).trans h3; simp only [findO, Option.bind_eq_some_iff] at A1; obtain ⟨b, hb, A1⟩ := A1; have hcall := HP.out wr y b HX.out BW.out hb; have A2 := Aside0.mk A1; clear A1 hb HX; cases b with
   | true =>
    go_wp2_with (go_at_fn g; refine hcall.mono ?_; rintro e w' ⟨rfl, hb'⟩)
    go_ret
    have A1 := A2.out; simp only [if_true, Option.some.injEq] at A1; subst A1; exact ⟨rfl, hb'⟩
   | false =>
    go_wp2_with (go_at_fn g; refine hcall.mono ?_; rintro e w' ⟨rfl, hb'⟩)
    go_roundg (l.length - (kk + 1))
    case measure => have := hg.out; omega
    case rel => exact ⟨kk + 1, by omega, ⟨by omega⟩, by go_num, ⟨hb'⟩, ⟨by have A1 := A2.out; simp only [Bool.false_eq_true, if_false] at A1; exact A1⟩⟩
  ·have hltz : ¬ (kk : Int) < (l.length : Int) := by omega
   have : kk = l.length := by omega
   have A1 := A0.out; rw [this, List.drop_length] at A1; have A2 := Aside0.mk A1; clear A0 A1; go_wp2
   go_ret
   have A1 := A2.out; simp only [findO, Option.some.injEq] at A1; subst A1; exact ⟨rfl, BW.out⟩
end Go.Proofs.YtaehmhbpdpdefaaGreat.PAll
end
section
namespace Go.Proofs.YtaehmhbpdpdefaaGreat.PAll
open Go.RowKit Go.Proofs.YtaehmhbpdpdefaaGreatW.PrintWords Go.Proofs.YtaehmhbpdpdefaaGreatW.PrintLast Go.Proofs.YtaehmhbpdpdefaaGreatW.PrintMore
attribute [local go_sem] max2_int min2_int max_two min_two max_three min_three max_four min_four
set_option linter.unusedVariables false
set_option linter.unusedSimpArgs false
attribute [local go_sem high] eqA94
set_option maxHeartbeats 4000000 in
theorem slices_ContainsFunc_Seen.gen (p : S96 → Option Bool) (g : Nat) (lb : Array Value) (eg : ∀ args w, (callFunc g args).run Tryz.prog w = .ok (.enter g args) w) (A : Option Addr) (c : Nat) (l : List S96) (r : Bool) (w : World) (hr : Kd.C k96 w A l.length l)
  (hp : ∀ (W : World) (x : S96) (b : Bool), x ∈ l → Below w.heap.size w W → p x = some b → Calls Tryz.prog g (#[.agg #[.int .i64 x.f0.f0, .int .i64 x.f0.f1, .int .i64 x.f0.f2, .int .i64 x.f1]] ++ lb) W fun e w' => e = .returned (.bool b) ∧ Below w.heap.size w w') (h : anyO p l = some r) :
  Calls Tryz.prog 81 #[.slice A l.length c, .func (.func g) #[] lb] w fun e w' => e = .returned (.bool r) ∧ Below w.heap.size w w' := by
 obtain ⟨v, hv, hd⟩ := findO_any p l 0 r (by omega) h; have hc := fun w0 (hw : w0 = w) => impl_Seen_104.gen p g lb eg A c l v w hr hp hv
 have HC := am (hc w rfl); have HD := Aside0.mk hd; clear hr hp h hv hd hc; go_enter Tryz.func81, Tryz.ntmps81
 go_wp2_with (go_at_call 104; refine HC.out.mono ?_; rintro e w' ⟨rfl, hb⟩)
 go_ret
 have hd := HD.out; subst hd; exact ⟨rfl, hb⟩
def slices_ContainsFunc_Seen.is (a1_0 a1_1 a1_2 : Int) (x : S96) : Bool := x.f0.f0 == a1_0 && (x.f0.f1 == a1_1 && (x.f0.f2 == a1_2))
theorem anyO_some {α : Type} (q : α → Bool) : ∀ l : List α, anyO (fun x => some (q x)) l = some (l.any q)
 | [] => rfl
 | x :: l => by simp only [anyO, Option.bind_some, anyO_some q l, List.any_cons]; cases q x <;> simp
def slices_ContainsFunc_Seen.f (l0 : List S96) (a1_0 a1_1 a1_2 a1_3 : Int) : Option Bool := some (l0.any (slices_ContainsFunc_Seen.is a1_0 a1_1 a1_2))
set_option maxHeartbeats 4000000 in
theorem slices_ContainsFunc_Seen.one (a1_0 a1_1 a1_2 a1_3 : Int) (B : Nat) (W : World) (x : S96) (hB : W.heap[B]? = some (.cells #[.int .i64 a1_0, .int .i64 a1_1, .int .i64 a1_2, .int .i64 a1_3] 96 (0, 0))) :
  Calls Tryz.prog 79 #[.agg #[.int .i64 x.f0.f0, .int .i64 x.f0.f1, .int .i64 x.f0.f2, .int .i64 x.f1], .pointer (some ⟨B, 0, none⟩)] W fun e w' => e = .returned (.bool (slices_ContainsFunc_Seen.is a1_0 a1_1 a1_2 x)) ∧ Below W.heap.size W w' := by
 have hlt : B < W.heap.size := (Array.getElem?_eq_some_iff.1 hB).1; have hc0 : W.cell? ⟨B, 0, none⟩ = some (.int .i64 a1_0) := (blk_cell hB 0).trans rfl; have hc1 : W.cell? ⟨B, 1, none⟩ = some (.int .i64 a1_1) := (blk_cell hB 1).trans rfl; have hc2 : W.cell? ⟨B, 2, none⟩ = some (.int .i64 a1_2) := (blk_cell hB 2).trans rfl; clear hB; have hu := Tryz.underlying96; have hu2 := Tryz.underlying94; go_enter Tryz.func79, Tryz.ntmps79
 go_wp2
 go_ret
 exact ⟨rfl, (Below.refl _ _).alloc (Nat.le_refl _) _⟩
set_option maxHeartbeats 4000000 in
theorem slices_ContainsFunc_Seen.calls (A0 : Option Addr) (c0 : Nat) (l0 : List S96) (aA aB aC aD : Int) (B : Nat) (r : Bool) (w : World) (aE : Kd.C k96 w A0 l0.length l0) (aF : l0.length ≤ c0) (hB : w.heap[B]? = some (.cells #[.int .i64 aA, .int .i64 aB, .int .i64 aC, .int .i64 aD] 96 (0, 0))) (h : slices_ContainsFunc_Seen.f l0 aA aB aC aD = some r) :
  Calls Tryz.prog 81 #[.slice A0 l0.length c0, .func (.func 79) #[] #[.pointer (some ⟨B, 0, none⟩)]] w fun e w' => e = .returned (.bool r) ∧ Below w.heap.size w w' := by
 have eg := enters_of Tryz.func79 (by kernel_rfl) rfl; refine slices_ContainsFunc_Seen.gen (fun x => some (slices_ContainsFunc_Seen.is aA aB aC x)) 79 #[.pointer (some ⟨B, 0, none⟩)] eg A0 c0 l0 r w aE (fun W x b _ hW hx => ?_) ((anyO_some _ l0).trans h); obtain rfl := Option.some.inj hx; exact (slices_ContainsFunc_Seen.one aA aB aC aD B W x ((hW.block B (Array.getElem?_eq_some_iff.1 hB).1).trans hB)).mono fun e w' ⟨he, hw⟩ => ⟨he, hW.trans (hw.mono hW.size)⟩
end Go.Proofs.YtaehmhbpdpdefaaGreat.PAll
end
section
namespace Go.Proofs.YtaehmhbpdpdefaaGreat.PAll
open Go.RowKit Go.Proofs.YtaehmhbpdpdefaaGreatW.PrintWords Go.Proofs.YtaehmhbpdpdefaaGreatW.PrintLast Go.Proofs.YtaehmhbpdpdefaaGreatW.PrintMore
attribute [local go_sem] max2_int min2_int max_two min_two max_three min_three max_four min_four
set_option linter.unusedVariables false
set_option linter.unusedSimpArgs false
mutual
def impl_CacheOk.j0 : Nat → List (S59) → Bool → Int → List (S96) → Option (Bool)
 | 0, _, _, _, _ => none
 | k + 1, x0, x24, x102000, x102001 => if x24 = true then (some false) else (impl_CacheOk.l0 k x0 x102001 (x102001.length : Int) 0 x102000 x102001)
def impl_CacheOk.l0 : Nat → List (S59) → List (S96) → Int → Int → Int → List (S96) → Option (Bool)
 | 0, _, _, _, _, _, _ => none
 | k + 1, x0, x26, x27, x28, x102000, x102001 => if x28 < x27 then (if 0 ≤ x28 then (if x28 < (x26.length : Int) then ((impl_isCall.f ((rd_T96 x26 x28).f0.f0) ((rd_T96 x26 x28).f0.f1) ((rd_T96 x26 x28).f0.f2)).bind fun t106 => (if t106 = true then ((impl_first.f x0 ((rd_T96 x26 x28).f0.f0) ((rd_T96 x26 x28).f0.f1) ((rd_T96 x26 x28).f0.f2)).bind fun t107 => (if ((rd_T96 x26 x28).f1) = t107 then (if x28 ≤ (x102001.length : Int) then ((slices_ContainsFunc_Seen.f (x102001.take (x28 : Int).toNat) ((rd_T96 x26 x28).f0.f0) ((rd_T96 x26 x28).f0.f1) ((rd_T96 x26 x28).f0.f2) ((rd_T96 x26 x28).f1)).bind fun t112 => (if t112 = true then (some false) else (impl_CacheOk.l0 k x0 x26 x27 (wrap64 (x28 + 1)) x102000 x102001))) else (none)) else (some false))) else (some false))) else (none)) else (none)) else (some true)
end
def impl_CacheOk.f (k : Nat) (l0 : List (S59)) (a1_0 : Int) (l1_1 : List (S96)) : Option (Bool) := (impl_RulesOk.f k l0).bind fun t102 => (if t102 = true then ((impl_in.f a1_0 0 16).bind fun t103 => (if t103 = true then (impl_CacheOk.j0 k l0 (decide ((l1_1.length : Int) > a1_0)) a1_0 l1_1) else (impl_CacheOk.j0 k l0 true a1_0 l1_1))) else (impl_CacheOk.j0 k l0 true a1_0 l1_1))
def impl_CacheOk.T7 : Bool × List (List Nat × List Nat) := (true, [([], []), ([0], [0]), ([1], [1]), ([2], [2]), ([3, 2], [3]), ([4], [4]), ([5, 4], [4, 5]), ([4], [4]), ([4], [4]), ([8, 4], [4, 8]), ([7, 9, 4, 4], [4, 7, 9]), ([6, 10, 4], [4, 6, 10]), ([4, 11], [4, 11]), ([12, 10], [12]), ([13], [13]), ([14, 13], [13, 14]), ([13], [13]), ([15, 16, 13], [13, 15, 16]), ([13], [13]), ([17, 18, 13, 13], [13, 17, 18]), ([13, 19], [13, 19])])
def impl_CacheOk.B7 : List Nat := [0, 1, 3, 7, 15, 31, 63, 31, 31, 287, 927, 2047, 4095, 8191, 16383, 32767, 16383, 131071, 16383, 524287, 1048575]
theorem impl_CacheOk.tab7 : rtab .any (opsOf Tryz.f47 7) = impl_CacheOk.T7 := by kernel_rfl
theorem impl_CacheOk.bits7 : waitsOk impl_CacheOk.T7.2 impl_CacheOk.B7 = true := by kernel_rfl
theorem impl_CacheOk.calls (k : Nat) (A0 : Option Addr) (c0 : Nat) (l0 : List (S59)) (aJ : Int) (bM : Option Addr) (aR : Nat) (aB : List (S96)) (r : Bool) (w : World) (dU : Kd.C k59 w A0 l0.length l0) (dV : l0.length ≤ c0) (bT : Kd.C k96 w bM aB.length aB) (bU : aB.length ≤ aR) (h : impl_CacheOk.f k l0 aJ aB = some r) :
  Calls Tryz.prog 47 #[.slice A0 l0.length c0, .agg #[.int .i64 aJ, .slice bM aB.length aR]] w fun e w' => e = .returned (.bool r) ∧ Below w.heap.size w w' := by
 have eL := Tryz.underlying34; have eM := Tryz.underlying96; have eN := Tryz.underlying94; have cD := Aside0.mk dU; have cE := Aside0.mk dV; clear dU dV; have aY := Aside0.mk bT; have bV := Aside0.mk bU; clear bT bU; have HB := am (Below.refl w.heap.size w); unfold impl_CacheOk.f at h; have H := h; clear h; have dQ := Aside0.mk H; clear H; go_enter Tryz.func47, Tryz.ntmps47
 go_upto_region 1 with (first | ((with_reducible refine gate_dst (N := 3) rfl ?_); (try (refine gate_guard (by rfl) ?_; dsimp only)); refine bxe (KL HB) (cs := #[.int .i64 aJ, .slice bM aB.length aR]) ?_; intro aV w4 aD aF HB hb hg; clear hb hg))
 (try simp only [Act.put, List.setIfInBounds_toArray, List.set_cons_zero, List.set_cons_succ])
 go_cut [24] (fun eO wc => ∃ (kq : Nat) (bE : Bool), eO = .bool bE ∧ Aside0 (impl_CacheOk.j0 kq l0 bE aJ aB = some r) ∧ Aside0 (kq ≤ k) ∧ Aside0 (wc.heap[aV]? = some (.cells #[.int .i64 aJ, (.slice bM aB.length aR)] 34 (0, 0))) ∧ Aside0 (Below w.heap.size w wc))
 case first =>
  have H := dQ.out; clear dQ; obtain ⟨bP, A5, H⟩ := b1 H; by_cases c6 : bP = true
  ·subst c6
   replace H := pf H; obtain ⟨bL, A7, H⟩ := b1 H; by_cases c8 : bL = true
   ·subst c8
    replace H := pf H; have H' := Aside0.mk H; clear H; go_wp2_with (first | (go_at_call 53; (with_reducible refine (impl_RulesOk.calls _ _ _ _ _ _ ?_ ?_ A5.out).mono ?_); exact KD cD HB; exact cE.out; rintro e w9 ⟨rfl, hb⟩; replace aD := am (BB aD hb); replace HB := bl (K1 HB aF.out) hb; obtain ⟨bF, bG, bH⟩ := y2 w9 aD.out) | (go_at_call 46; (with_reducible refine (impl_in.calls _ _ _ _ _ A7.out).mono ?_); rintro e w' ⟨rfl, ⟨nd, rfl⟩⟩))
    go_meet
    case rel => exact ⟨_, (decide ((aB.length : Int) > aJ)), RS, H', ⟨LE⟩, ⟨KB aD⟩, ⟨K1 HB aF.out⟩⟩
   ·replace c8 := Bool.eq_false_iff.mpr c8
    subst c8; replace H := nf H; have H' := Aside0.mk H; clear H; go_wp2_with (first | (go_at_call 53; (with_reducible refine (impl_RulesOk.calls _ _ _ _ _ _ ?_ ?_ A5.out).mono ?_); exact KD cD HB; exact cE.out; rintro e eP ⟨rfl, hb⟩; replace aD := am (BB aD hb); replace HB := bl (K1 HB aF.out) hb; obtain ⟨bI, bJ, bK⟩ := y2 eP aD.out) | (go_at_call 46; (with_reducible refine (impl_in.calls _ _ _ _ _ A7.out).mono ?_); rintro e w' ⟨rfl, ⟨nd, rfl⟩⟩))
    go_meet
    case rel => exact ⟨_, (true), RS, H', ⟨LE⟩, ⟨KB aD⟩, ⟨K1 HB aF.out⟩⟩
  ·replace c6 := Bool.eq_false_iff.mpr c6
   subst c6; replace H := nf H; have H' := Aside0.mk H; clear H; go_wp2_with (first | (go_at_call 53; (with_reducible refine (impl_RulesOk.calls _ _ _ _ _ _ ?_ ?_ A5.out).mono ?_); exact KD cD HB; exact cE.out; rintro e eR ⟨rfl, hb⟩; replace aD := am (BB aD hb); replace HB := bl (K1 HB aF.out) hb))
   go_meet
   case rel => exact ⟨_, (true), RS, H', ⟨LE⟩, ⟨KB aD⟩, ⟨K1 HB aF.out⟩⟩
 case rest =>
  clear dQ; try clear c6
  try clear c8
  try clear bF bG bH
  try clear bI bJ bK
  obtain ⟨kq, bE, rfl, HA, HJ2, aD, HB⟩ := hcut; cases kq with
  | zero => exact absurd HA.out (by simp [impl_CacheOk.j0])
  | succ kj2 =>
   have H := HA.out; clear HA; simp only [impl_CacheOk.j0] at H; by_cases cH : bE = true
   ·subst cH
    replace H := pf H; obtain rfl := sj H; go_wp2
    go_ret
    exact ⟨ER, K1 HB aF.out⟩
   ·replace cH := Bool.eq_false_iff.mpr cH
    subst cH; replace H := nf H; have H' := Aside0.mk H; clear H; obtain ⟨bQ, bR, bS⟩ := y2 wc aD.out; go_wp2
    go_loopg [28] kj2 (fun kq eQ w' => ∃ (aA : Int), eQ = .int .i64 aA ∧ Aside0 (impl_CacheOk.l0 kq l0 aB (aB.length : Int) aA aJ aB = some r) ∧ Aside0 (kq ≤ kj2) ∧ Aside0 (w'.heap[aV]? = some (.cells #[.int .i64 aJ, (.slice bM aB.length aR)] 34 (0, 0))) ∧ Aside0 (Below w.heap.size w w'))
    case atStart => exact ⟨(0), RS, H', ⟨Nat.le_refl _⟩, ⟨KB aD⟩, ⟨K1 HB aF.out⟩⟩
    case round =>
     clear H'; try clear c6
     try clear c8
     try clear cH
     try clear bF bG bH
     try clear bI bJ bK
     try clear bQ bR bS
     obtain ⟨aA, rfl, HA, HK2, aD, HB⟩ := hrel; cases gk with
     | zero => exact absurd HA.out (by simp [impl_CacheOk.l0])
     | succ k2 =>
      have H := HA.out; clear HA; simp only [impl_CacheOk.l0] at H; by_cases cF : aA < (aB.length : Int)
      ·rw [if_pos cF] at H
       have c16b0 := decide_eq_true cF; clear cF; by_cases cN : 0 ≤ aA
       ·rw [if_pos cN] at H
        have c17b0 := decide_eq_true cN; clear cN; by_cases cO : aA < (aB.length : Int)
        ·rw [if_pos cO] at H
         have c18b0 := decide_eq_true cO; clear cO; obtain ⟨cI, cP, H⟩ := b1 H; by_cases cQ : cI = true
         ·subst cQ
          replace H := pf H; obtain ⟨aW, dR, H⟩ := b1 H; by_cases bY : ((rd_T96 aB aA).f1) = aW
          ·rw [if_pos bY] at H
           have c22b0 := beq_iff_eq.mpr bY; have c22b1 := bne_eq_false_iff_eq.mpr bY; clear bY; have c23b0 := eq_true (OD : 0 ≤ aA); by_cases cL : aA ≤ (aB.length : Int)
           ·rw [if_pos cL] at H
            have c24b0 := eq_true cL; have c24b1 := decide_eq_true cL; clear cL; obtain ⟨aZ, Ny108, H⟩ := b3 ((aB.take (aA : Int).toNat) : List (S96)) H; obtain ⟨bA, dY, H⟩ := b1 H; by_cases cR : bA = true
            ·subst cR
             replace H := pf H; obtain rfl := sj H; have aS : 0 ≤ (aA : Int) := OD; have aT : aA < (aB.length : Int) := OD; obtain ⟨aQ, bC, aL, aM, aN, aO⟩ := at_T96 aY.out aA aS aT; cases bC
             replace aL := CX HB.out aL; replace aM := CX HB.out aM; replace aN := CX HB.out aN; replace aO := CX HB.out aO; replace aS := eq_true aS; replace aT := eq_true aT; try go_wp2_with (first | ((with_reducible refine gate_dst (N := 6) rfl ?_); (try (refine gate_guard (by rfl) ?_; dsimp only)); refine box_event rfl (N := 6) rfl (cs := #[.int .i64 0, .int .i64 0, .int .i64 0, .int .i64 0]) (t := 96) BX ?_; intro aG hg dZ aU hb; have aC := am (aU); have aX := am (GH1 HB aF.out hg); have aK := aX; replace HB := bl (K1 HB aF.out) hb; have aE := am (NL aD hg); have aP := am (NG aD hg); replace aD := am (BB aD hb); clear hb aU hg; have eA := aP.out; have eB := aE.out; have ⟨_, _, _, _, _⟩ := y4 dZ aC.out))
             generalize hq_ : ((((dZ.setCell ⟨aG, 0, none⟩ (.int .i64 ((rd_T96 aB aA).f0.f0))).setCell ⟨aG, 1, none⟩ (.int .i64 ((rd_T96 aB aA).f0.f1))).setCell ⟨aG, 2, none⟩ (.int .i64 ((rd_T96 aB aA).f0.f2))).setCell ⟨aG, 3, none⟩ (.int .i64 ((rd_T96 aB aA).f1))) = cX; have n0_ : Aside0 (cX.heap[aV]? = some (.cells #[.int .i64 aJ, .slice (some aQ) aB.length aR] 34 (0, 0))) := ⟨by rw [← hq_]; refine BD ?_; refine blk_far ?_ aE.out _; refine BD ?_; refine blk_far ?_ aE.out _; refine BD ?_; refine blk_far ?_ aE.out _; refine BD ?_; refine blk_far ?_ aE.out _; refine BD ?_; exact aD.out⟩; have n1_ : Aside0 (cX.heap[aG]? = some (.cells #[.int .i64 ((rd_T96 aB aA).f0.f0), .int .i64 ((rd_T96 aB aA).f0.f1), .int .i64 ((rd_T96 aB aA).f0.f2), .int .i64 ((rd_T96 aB aA).f1)] 96 (0, 0))) := ⟨by rw [← hq_]; exact P4 aC⟩; have n2_ : Aside0 (Below w.heap.size w cX) := ⟨by rw [← hq_]; exact K2 HB aF.out aK.out⟩; clear hq_; (try clear aD)
             (try clear aC)
             (try clear HB)
             have aD := n0_; have aC := n1_; have HB := n2_; clear n0_ n1_ n2_; replace aD := am (blk_drew aD.out); replace aC := am (blk_drew aC.out); replace HB := am (below_drew1 HB.out); refine start_ (n := 21) (S := fun w' => ce4 w' aG (.int .i64 ((rd_T96 aB aA).f0.f0)) (.int .i64 ((rd_T96 aB aA).f0.f1)) (.int .i64 ((rd_T96 aB aA).f0.f2)) (.int .i64 ((rd_T96 aB aA).f1)) (de2 w' aV (.int .i64 aJ) (.slice (some aQ) aB.length aR))) (ds := []) (tf 0 21) (by kernel_rfl) rfl rfl (zc4 aC ⟨z0 _ aD.out, z1 _ aD.out⟩) (fun aI => ?_); refine with_tabW impl_CacheOk.tab7 impl_CacheOk.bits7 (fun aH bD => ?_); generalize cX.drew = eS at aD aC HB aI ⊢; refine pv aH 0 34 (tf 1 20) ?_; refine tw aH bD 1 35 (tf 2 19) aI ?_; refine oW aH 2 36 (tf 3 18) (fun K hK => ?_); refine gW Tryz.func80 #[.agg #[.int .i64 ((rd_T96 aB aA).f0.f0), .int .i64 ((rd_T96 aB aA).f0.f1), .int .i64 ((rd_T96 aB aA).f0.f2)]] ?_; with_reducible refine (impl_isCall.calls ((rd_T96 aB aA).f0.f0) ((rd_T96 aB aA).f0.f1) ((rd_T96 aB aA).f0.f2) true _ cP.out).mono ?_
             rintro e eT ⟨rfl, hb⟩; refine ⟨_, rfl, ?_⟩; replace aD := am (BB aD hb); replace aC := am (BB aC hb); replace HB := bl (K2 HB aF.out aK.out) hb; (try clear hb)
             refine hK.out _ _ (zc4 aC ⟨z0 _ aD.out, z1 _ aD.out⟩) (fun aI => ?_); clear hK K; refine nm (some 36) ?_; refine pv aH 3 37 (tf 4 17) ?_; refine pv aH 4 38 (tf 5 16) ?_; refine pv aH 5 39 (tf 6 15) ?_; refine pv aH 7 41 (tr [6, 1, 1, 13]) ?_; refine pv aH 8 42 (tr [6, 1, 2, 12]) ?_; refine tw aH bD 6 40 (tf 9 12) aI ?_; refine tw aH bD 9 43 (tf 10 11) aI ?_; refine oW aH 10 44 (tf 11 10) (fun K hK => ?_); refine gW Tryz.func57 #[.slice A0 l0.length c0, .agg #[.int .i64 ((rd_T96 aB aA).f0.f0), .int .i64 ((rd_T96 aB aA).f0.f1), .int .i64 ((rd_T96 aB aA).f0.f2)]] ?_; with_reducible refine (impl_first.calls _ _ l0 ((rd_T96 aB aA).f0.f0) ((rd_T96 aB aA).f0.f1) ((rd_T96 aB aA).f0.f2) aW _ ?_ ?_ dR.out).mono ?_
             exact KD cD HB; exact cE.out; rintro e eU ⟨rfl, hb⟩; refine ⟨_, rfl, ?_⟩; replace aD := am (BB aD hb); replace aC := am (BB aC hb); replace HB := bl (K2 HB aF.out aK.out) hb; (try clear hb)
             have dS : (aA : Int) ≤ ((aB.length : Int) : Int) := OD; obtain ⟨i034, bW, _, hsz34, _⟩ := info_parts info96; have hroom34 : aB.length ≤ aR := bV.out; have hC34 : Kd.C k96 _ (some aQ) aB.length aB := aY.out; have hcut34 := cut_to (P := Tryz.prog) 32 96 .i64 Tryz.underlying32 bW (some aQ) aB.length aR aA (OD) dS hroom34; have bZ := Kd.C_take (m := (aA : Int).toNat) hC34 (by omega); have cA : aZ.length = (aA : Int).toNat := (by rw [Ny108.out, List.length_take]; omega); rw [← Ny108.out] at bZ; rw [← cA] at hcut34; have bN := Aside0.mk bZ; have bO := am (show aZ.length ≤ aR from by omega); clear bZ hC34 hroom34 bW hsz34; have KY34 := Aside0.mk cA; clear cA; replace dS := eq_true dS; refine hK.out _ _ (zc4 aC ⟨z0 _ aD.out, z1 _ aD.out⟩) (fun aI => ?_); clear hK K; refine nm (some 44) ?_; refine pv aH 11 45 (tf 12 9) ?_; refine pv aH 12 46 (tf 13 8) ?_; refine pv aH 13 47 (tf 14 7) ?_; refine pv aH 14 48 (tf 15 6) ?_; refine pv aH 16 50 (tr [15, 1, 1, 4]) ?_; refine pv aH 18 52 (tr [15, 1, 1, 1, 1, 2]) ?_; refine tw aH bD 15 49 (tr [17, 1, 1, 2]) aI ?_; refine pv aH 17 51 (tf 19 2) ?_; refine oW aH 19 53 (tf 20 1) (fun K hK => ?_); refine gW Tryz.func81 #[.slice (some aQ) aZ.length aR, .func (.func 79) #[] #[.pointer (some ⟨aG, 0, none⟩)]] ?_; with_reducible refine (slices_ContainsFunc_Seen.calls _ _ aZ ((rd_T96 aB aA).f0.f0) ((rd_T96 aB aA).f0.f1) ((rd_T96 aB aA).f0.f2) ((rd_T96 aB aA).f1) aG true _ ?_ ?_ ?_ dY.out).mono ?_
             exact KD bN HB; exact bO.out; exact (KB aC); rintro e eV ⟨rfl, hb⟩; refine ⟨_, rfl, ?_⟩; replace aD := am (BB aD hb); replace aC := am (BB aC hb); replace HB := bl (K2 HB aF.out aK.out) hb; (try clear hb)
             refine hK.out _ _ (zc4 aC ⟨z0 _ aD.out, z1 _ aD.out⟩) (fun aI => ?_); clear hK K; refine nm (some 53) ?_; refine pv aH 20 54 (tf 21 0) ?_; refine done_ (done_of aH.out (by kernel_rfl)) ?_; try go_wp2
             go_ret
             exact ⟨ER, K2 HB aF.out aK.out⟩
            ·replace cR := Bool.eq_false_iff.mpr cR
             subst cR; replace H := nf H; have H' := Aside0.mk H; clear H; have aS : 0 ≤ (aA : Int) := OD; have aT : aA < (aB.length : Int) := OD; obtain ⟨aQ, bC, aL, aM, aN, aO⟩ := at_T96 aY.out aA aS aT; cases bC
             replace aL := CX HB.out aL; replace aM := CX HB.out aM; replace aN := CX HB.out aN; replace aO := CX HB.out aO; replace aS := eq_true aS; replace aT := eq_true aT; try go_wp2_with (first | ((with_reducible refine gate_dst (N := 6) rfl ?_); (try (refine gate_guard (by rfl) ?_; dsimp only)); refine box_event rfl (N := 6) rfl (cs := #[.int .i64 0, .int .i64 0, .int .i64 0, .int .i64 0]) (t := 96) BX ?_; intro aG hg eC aU hb; have aC := am (aU); have aX := am (GH1 HB aF.out hg); have aK := aX; replace HB := bl (K1 HB aF.out) hb; have aE := am (NL aD hg); have aP := am (NG aD hg); replace aD := am (BB aD hb); clear hb aU hg; have eD := aP.out; have eE := aE.out; have ⟨_, _, _, _, _⟩ := y4 eC aC.out))
             generalize hq_ : ((((eC.setCell ⟨aG, 0, none⟩ (.int .i64 ((rd_T96 aB aA).f0.f0))).setCell ⟨aG, 1, none⟩ (.int .i64 ((rd_T96 aB aA).f0.f1))).setCell ⟨aG, 2, none⟩ (.int .i64 ((rd_T96 aB aA).f0.f2))).setCell ⟨aG, 3, none⟩ (.int .i64 ((rd_T96 aB aA).f1))) = dD; have n0_ : Aside0 (dD.heap[aV]? = some (.cells #[.int .i64 aJ, .slice (some aQ) aB.length aR] 34 (0, 0))) := ⟨by rw [← hq_]; refine BD ?_; refine blk_far ?_ aE.out _; refine BD ?_; refine blk_far ?_ aE.out _; refine BD ?_; refine blk_far ?_ aE.out _; refine BD ?_; refine blk_far ?_ aE.out _; refine BD ?_; exact aD.out⟩; have n1_ : Aside0 (dD.heap[aG]? = some (.cells #[.int .i64 ((rd_T96 aB aA).f0.f0), .int .i64 ((rd_T96 aB aA).f0.f1), .int .i64 ((rd_T96 aB aA).f0.f2), .int .i64 ((rd_T96 aB aA).f1)] 96 (0, 0))) := ⟨by rw [← hq_]; exact P4 aC⟩; have n2_ : Aside0 (Below w.heap.size w dD) := ⟨by rw [← hq_]; exact K2 HB aF.out aK.out⟩; clear hq_; (try clear aD)
             (try clear aC)
             (try clear HB)
             have aD := n0_; have aC := n1_; have HB := n2_; clear n0_ n1_ n2_; replace aD := am (blk_drew aD.out); replace aC := am (blk_drew aC.out); replace HB := am (below_drew1 HB.out); refine start_ (n := 21) (S := fun w' => ce4 w' aG (.int .i64 ((rd_T96 aB aA).f0.f0)) (.int .i64 ((rd_T96 aB aA).f0.f1)) (.int .i64 ((rd_T96 aB aA).f0.f2)) (.int .i64 ((rd_T96 aB aA).f1)) (de2 w' aV (.int .i64 aJ) (.slice (some aQ) aB.length aR))) (ds := []) (tf 0 21) (by kernel_rfl) rfl rfl (zc4 aC ⟨z0 _ aD.out, z1 _ aD.out⟩) (fun aI => ?_); refine with_tabW impl_CacheOk.tab7 impl_CacheOk.bits7 (fun aH bD => ?_); generalize dD.drew = eW at aD aC HB aI ⊢; refine pv aH 0 34 (tf 1 20) ?_; refine tw aH bD 1 35 (tf 2 19) aI ?_; refine oW aH 2 36 (tf 3 18) (fun K hK => ?_); refine gW Tryz.func80 #[.agg #[.int .i64 ((rd_T96 aB aA).f0.f0), .int .i64 ((rd_T96 aB aA).f0.f1), .int .i64 ((rd_T96 aB aA).f0.f2)]] ?_; with_reducible refine (impl_isCall.calls ((rd_T96 aB aA).f0.f0) ((rd_T96 aB aA).f0.f1) ((rd_T96 aB aA).f0.f2) true _ cP.out).mono ?_
             rintro e eX ⟨rfl, hb⟩; refine ⟨_, rfl, ?_⟩; replace aD := am (BB aD hb); replace aC := am (BB aC hb); replace HB := bl (K2 HB aF.out aK.out) hb; (try clear hb)
             refine hK.out _ _ (zc4 aC ⟨z0 _ aD.out, z1 _ aD.out⟩) (fun aI => ?_); clear hK K; refine nm (some 36) ?_; refine pv aH 3 37 (tf 4 17) ?_; refine pv aH 4 38 (tf 5 16) ?_; refine pv aH 5 39 (tf 6 15) ?_; refine pv aH 7 41 (tr [6, 1, 1, 13]) ?_; refine pv aH 8 42 (tr [6, 1, 2, 12]) ?_; refine tw aH bD 6 40 (tf 9 12) aI ?_; refine tw aH bD 9 43 (tf 10 11) aI ?_; refine oW aH 10 44 (tf 11 10) (fun K hK => ?_); refine gW Tryz.func57 #[.slice A0 l0.length c0, .agg #[.int .i64 ((rd_T96 aB aA).f0.f0), .int .i64 ((rd_T96 aB aA).f0.f1), .int .i64 ((rd_T96 aB aA).f0.f2)]] ?_; with_reducible refine (impl_first.calls _ _ l0 ((rd_T96 aB aA).f0.f0) ((rd_T96 aB aA).f0.f1) ((rd_T96 aB aA).f0.f2) aW _ ?_ ?_ dR.out).mono ?_
             exact KD cD HB; exact cE.out; rintro e eY ⟨rfl, hb⟩; refine ⟨_, rfl, ?_⟩; replace aD := am (BB aD hb); replace aC := am (BB aC hb); replace HB := bl (K2 HB aF.out aK.out) hb; (try clear hb)
             have dT : (aA : Int) ≤ ((aB.length : Int) : Int) := OD; obtain ⟨i043, bX, _, hsz43, _⟩ := info_parts info96; have hroom43 : aB.length ≤ aR := bV.out; have hC43 : Kd.C k96 _ (some aQ) aB.length aB := aY.out; have hcut43 := cut_to (P := Tryz.prog) 32 96 .i64 Tryz.underlying32 bX (some aQ) aB.length aR aA (OD) dT hroom43; have cB := Kd.C_take (m := (aA : Int).toNat) hC43 (by omega); have cC : aZ.length = (aA : Int).toNat := (by rw [Ny108.out, List.length_take]; omega); rw [← Ny108.out] at cB; rw [← cC] at hcut43; have bN := Aside0.mk cB; have bO := am (show aZ.length ≤ aR from by omega); clear cB hC43 hroom43 bX hsz43; have KY43 := Aside0.mk cC; clear cC; replace dT := eq_true dT; refine hK.out _ _ (zc4 aC ⟨z0 _ aD.out, z1 _ aD.out⟩) (fun aI => ?_); clear hK K; refine nm (some 44) ?_; refine pv aH 11 45 (tf 12 9) ?_; refine pv aH 12 46 (tf 13 8) ?_; refine pv aH 13 47 (tf 14 7) ?_; refine pv aH 14 48 (tf 15 6) ?_; refine pv aH 16 50 (tr [15, 1, 1, 4]) ?_; refine pv aH 18 52 (tr [15, 1, 1, 1, 1, 2]) ?_; refine tw aH bD 15 49 (tr [17, 1, 1, 2]) aI ?_; refine pv aH 17 51 (tf 19 2) ?_; refine oW aH 19 53 (tf 20 1) (fun K hK => ?_); refine gW Tryz.func81 #[.slice (some aQ) aZ.length aR, .func (.func 79) #[] #[.pointer (some ⟨aG, 0, none⟩)]] ?_; with_reducible refine (slices_ContainsFunc_Seen.calls _ _ aZ ((rd_T96 aB aA).f0.f0) ((rd_T96 aB aA).f0.f1) ((rd_T96 aB aA).f0.f2) ((rd_T96 aB aA).f1) aG false _ ?_ ?_ ?_ dY.out).mono ?_
             exact KD bN HB; exact bO.out; exact (KB aC); rintro e eZ ⟨rfl, hb⟩; refine ⟨_, rfl, ?_⟩; replace aD := am (BB aD hb); replace aC := am (BB aC hb); replace HB := bl (K2 HB aF.out aK.out) hb; (try clear hb)
             refine hK.out _ _ (zc4 aC ⟨z0 _ aD.out, z1 _ aD.out⟩) (fun aI => ?_); clear hK K; refine nm (some 53) ?_; refine pv aH 20 54 (tf 21 0) ?_; refine done_ (done_of aH.out (by kernel_rfl)) ?_; try go_wp2
             go_roundg k2
             case measure => have := HJ2.out; have := HK2.out; omega
             case rel => exact ⟨(wrap64 (aA + 1)), RS, H', ⟨by have := HJ2.out; have := HK2.out; omega⟩, ⟨KB aD⟩, ⟨K2 HB aF.out aK.out⟩⟩
           ·rw [if_neg cL] at H
            exact absurd H (by simp)
          ·rw [if_neg bY] at H
           have c22b0 := beq_eq_false_iff_ne.mpr bY; have c22b1 := bne_iff_ne.mpr bY; obtain rfl := sj H; have aS : 0 ≤ (aA : Int) := OD; have aT : aA < (aB.length : Int) := OD; obtain ⟨aQ, bC, aL, aM, aN, aO⟩ := at_T96 aY.out aA aS aT; cases bC
           replace aL := CX HB.out aL; replace aM := CX HB.out aM; replace aN := CX HB.out aN; replace aO := CX HB.out aO; replace aS := eq_true aS; replace aT := eq_true aT; try go_wp2_with (first | ((with_reducible refine gate_dst (N := 6) rfl ?_); (try (refine gate_guard (by rfl) ?_; dsimp only)); refine box_event rfl (N := 6) rfl (cs := #[.int .i64 0, .int .i64 0, .int .i64 0, .int .i64 0]) (t := 96) BX ?_; intro aG hg eF aU hb; have aC := am (aU); have aX := am (GH1 HB aF.out hg); have aK := aX; replace HB := bl (K1 HB aF.out) hb; have aE := am (NL aD hg); have aP := am (NG aD hg); replace aD := am (BB aD hb); clear hb aU hg; have eG := aP.out; have eH := aE.out; have ⟨_, _, _, _, _⟩ := y4 eF aC.out))
           generalize hq_ : ((((eF.setCell ⟨aG, 0, none⟩ (.int .i64 ((rd_T96 aB aA).f0.f0))).setCell ⟨aG, 1, none⟩ (.int .i64 ((rd_T96 aB aA).f0.f1))).setCell ⟨aG, 2, none⟩ (.int .i64 ((rd_T96 aB aA).f0.f2))).setCell ⟨aG, 3, none⟩ (.int .i64 ((rd_T96 aB aA).f1))) = dJ; have n0_ : Aside0 (dJ.heap[aV]? = some (.cells #[.int .i64 aJ, .slice (some aQ) aB.length aR] 34 (0, 0))) := ⟨by rw [← hq_]; refine BD ?_; refine blk_far ?_ aE.out _; refine BD ?_; refine blk_far ?_ aE.out _; refine BD ?_; refine blk_far ?_ aE.out _; refine BD ?_; refine blk_far ?_ aE.out _; refine BD ?_; exact aD.out⟩; have n1_ : Aside0 (dJ.heap[aG]? = some (.cells #[.int .i64 ((rd_T96 aB aA).f0.f0), .int .i64 ((rd_T96 aB aA).f0.f1), .int .i64 ((rd_T96 aB aA).f0.f2), .int .i64 ((rd_T96 aB aA).f1)] 96 (0, 0))) := ⟨by rw [← hq_]; exact P4 aC⟩; have n2_ : Aside0 (Below w.heap.size w dJ) := ⟨by rw [← hq_]; exact K2 HB aF.out aK.out⟩; clear hq_; (try clear aD)
           (try clear aC)
           (try clear HB)
           have aD := n0_; have aC := n1_; have HB := n2_; clear n0_ n1_ n2_; replace aD := am (blk_drew aD.out); replace aC := am (blk_drew aC.out); replace HB := am (below_drew1 HB.out); refine start_ (n := 21) (S := fun w' => de4 w' aG (.int .i64 ((rd_T96 aB aA).f0.f0)) (.int .i64 ((rd_T96 aB aA).f0.f1)) (.int .i64 ((rd_T96 aB aA).f0.f2)) (.int .i64 ((rd_T96 aB aA).f1))) (ds := []) (tf 0 21) (by kernel_rfl) rfl rfl (zd4 aC) (fun aI => ?_); refine with_tabW impl_CacheOk.tab7 impl_CacheOk.bits7 (fun aH bD => ?_); generalize dJ.drew = fA at aD aC HB aI ⊢; refine pv aH 0 34 (tf 1 20) ?_; refine tw aH bD 1 35 (tf 2 19) aI ?_; refine oW aH 2 36 (tf 3 18) (fun K hK => ?_); refine gW Tryz.func80 #[.agg #[.int .i64 ((rd_T96 aB aA).f0.f0), .int .i64 ((rd_T96 aB aA).f0.f1), .int .i64 ((rd_T96 aB aA).f0.f2)]] ?_; with_reducible refine (impl_isCall.calls ((rd_T96 aB aA).f0.f0) ((rd_T96 aB aA).f0.f1) ((rd_T96 aB aA).f0.f2) true _ cP.out).mono ?_
           rintro e fB ⟨rfl, hb⟩; refine ⟨_, rfl, ?_⟩; replace aD := am (BB aD hb); replace aC := am (BB aC hb); replace HB := bl (K2 HB aF.out aK.out) hb; (try clear hb)
           refine hK.out _ _ (zd4 aC) (fun aI => ?_); clear hK K; refine nm (some 36) ?_; refine pv aH 3 37 (tf 4 17) ?_; refine pv aH 4 38 (tf 5 16) ?_; refine pv aH 5 39 (tf 6 15) ?_; refine pv aH 7 41 (tr [6, 1, 1, 13]) ?_; refine pv aH 8 42 (tr [6, 1, 2, 12]) ?_; refine tw aH bD 6 40 (tf 9 12) aI ?_; refine tw aH bD 9 43 (tf 10 11) aI ?_; refine oW aH 10 44 (tf 11 10) (fun K hK => ?_); refine gW Tryz.func57 #[.slice A0 l0.length c0, .agg #[.int .i64 ((rd_T96 aB aA).f0.f0), .int .i64 ((rd_T96 aB aA).f0.f1), .int .i64 ((rd_T96 aB aA).f0.f2)]] ?_; with_reducible refine (impl_first.calls _ _ l0 ((rd_T96 aB aA).f0.f0) ((rd_T96 aB aA).f0.f1) ((rd_T96 aB aA).f0.f2) aW _ ?_ ?_ dR.out).mono ?_
           exact KD cD HB; exact cE.out; rintro e fC ⟨rfl, hb⟩; refine ⟨_, rfl, ?_⟩; replace aD := am (BB aD hb); replace aC := am (BB aC hb); replace HB := bl (K2 HB aF.out aK.out) hb; (try clear hb)
           refine hK.out _ _ (zd4 aC) (fun aI => ?_); clear hK K; refine nm (some 44) ?_; refine pv aH 11 45 (tf 12 9) ?_; refine pv aH 12 46 (tf 13 8) ?_; refine pv aH 13 47 (tf 14 7) ?_; refine pw aH 14 48 (tf 15 6) ?_; refine pw aH 15 49 (tf 16 5) ?_; refine pw aH 16 50 (tf 17 4) ?_; refine pw aH 17 51 (tf 18 3) ?_; refine pw aH 18 52 (tf 19 2) ?_; refine pw aH 19 53 (tf 20 1) ?_; refine pv aH 20 54 (tf 21 0) ?_; refine done_ (done_of aH.out (by kernel_rfl)) ?_; try go_wp2
           go_ret
           exact ⟨ER, K2 HB aF.out aK.out⟩
         ·replace cQ := Bool.eq_false_iff.mpr cQ
          subst cQ; replace H := nf H; obtain rfl := sj H; have aS : 0 ≤ (aA : Int) := OD; have aT : aA < (aB.length : Int) := OD; obtain ⟨aQ, bC, aL, aM, aN, aO⟩ := at_T96 aY.out aA aS aT; cases bC
          replace aL := CX HB.out aL; replace aM := CX HB.out aM; replace aN := CX HB.out aN; replace aO := CX HB.out aO; replace aS := eq_true aS; replace aT := eq_true aT; try go_wp2_with (first | ((with_reducible refine gate_dst (N := 6) rfl ?_); (try (refine gate_guard (by rfl) ?_; dsimp only)); refine box_event rfl (N := 6) rfl (cs := #[.int .i64 0, .int .i64 0, .int .i64 0, .int .i64 0]) (t := 96) BX ?_; intro aG hg eI aU hb; have aC := am (aU); have aX := am (GH1 HB aF.out hg); have aK := aX; replace HB := bl (K1 HB aF.out) hb; have aE := am (NL aD hg); have aP := am (NG aD hg); replace aD := am (BB aD hb); clear hb aU hg; have eJ := aP.out; have eK := aE.out; have ⟨_, _, _, _, _⟩ := y4 eI aC.out))
          generalize hq_ : ((((eI.setCell ⟨aG, 0, none⟩ (.int .i64 ((rd_T96 aB aA).f0.f0))).setCell ⟨aG, 1, none⟩ (.int .i64 ((rd_T96 aB aA).f0.f1))).setCell ⟨aG, 2, none⟩ (.int .i64 ((rd_T96 aB aA).f0.f2))).setCell ⟨aG, 3, none⟩ (.int .i64 ((rd_T96 aB aA).f1))) = dP; have n0_ : Aside0 (dP.heap[aV]? = some (.cells #[.int .i64 aJ, .slice (some aQ) aB.length aR] 34 (0, 0))) := ⟨by rw [← hq_]; refine BD ?_; refine blk_far ?_ aE.out _; refine BD ?_; refine blk_far ?_ aE.out _; refine BD ?_; refine blk_far ?_ aE.out _; refine BD ?_; refine blk_far ?_ aE.out _; refine BD ?_; exact aD.out⟩; have n1_ : Aside0 (dP.heap[aG]? = some (.cells #[.int .i64 ((rd_T96 aB aA).f0.f0), .int .i64 ((rd_T96 aB aA).f0.f1), .int .i64 ((rd_T96 aB aA).f0.f2), .int .i64 ((rd_T96 aB aA).f1)] 96 (0, 0))) := ⟨by rw [← hq_]; exact P4 aC⟩; have n2_ : Aside0 (Below w.heap.size w dP) := ⟨by rw [← hq_]; exact K2 HB aF.out aK.out⟩; clear hq_; (try clear aD)
          (try clear aC)
          (try clear HB)
          have aD := n0_; have aC := n1_; have HB := n2_; clear n0_ n1_ n2_; replace aD := am (blk_drew aD.out); replace aC := am (blk_drew aC.out); replace HB := am (below_drew1 HB.out); refine start_ (n := 21) (S := fun w' => de4 w' aG (.int .i64 ((rd_T96 aB aA).f0.f0)) (.int .i64 ((rd_T96 aB aA).f0.f1)) (.int .i64 ((rd_T96 aB aA).f0.f2)) (.int .i64 ((rd_T96 aB aA).f1))) (ds := []) (tf 0 21) (by kernel_rfl) rfl rfl (zd4 aC) (fun aI => ?_); refine with_tabW impl_CacheOk.tab7 impl_CacheOk.bits7 (fun aH bD => ?_); generalize dP.drew = fD at aD aC HB aI ⊢; refine pv aH 0 34 (tf 1 20) ?_; refine tw aH bD 1 35 (tf 2 19) aI ?_; refine oW aH 2 36 (tf 3 18) (fun K hK => ?_); refine gW Tryz.func80 #[.agg #[.int .i64 ((rd_T96 aB aA).f0.f0), .int .i64 ((rd_T96 aB aA).f0.f1), .int .i64 ((rd_T96 aB aA).f0.f2)]] ?_; with_reducible refine (impl_isCall.calls ((rd_T96 aB aA).f0.f0) ((rd_T96 aB aA).f0.f1) ((rd_T96 aB aA).f0.f2) false _ cP.out).mono ?_
          rintro e fE ⟨rfl, hb⟩; refine ⟨_, rfl, ?_⟩; replace aD := am (BB aD hb); replace aC := am (BB aC hb); replace HB := bl (K2 HB aF.out aK.out) hb; (try clear hb)
          refine hK.out _ _ (zd4 aC) (fun aI => ?_); clear hK K; refine nm (some 36) ?_; refine pv aH 3 37 (tf 4 17) ?_; refine pv aH 4 38 (tf 5 16) ?_; refine pw aH 5 39 (tf 6 15) ?_; refine pw aH 6 40 (tf 7 14) ?_; refine pw aH 7 41 (tf 8 13) ?_; refine pw aH 8 42 (tf 9 12) ?_; refine pw aH 9 43 (tf 10 11) ?_; refine pw aH 10 44 (tf 11 10) ?_; refine pw aH 11 45 (tf 12 9) ?_; refine pv aH 12 46 (tf 13 8) ?_; refine pv aH 13 47 (tf 14 7) ?_; refine pw aH 14 48 (tf 15 6) ?_; refine pw aH 15 49 (tf 16 5) ?_; refine pw aH 16 50 (tf 17 4) ?_; refine pw aH 17 51 (tf 18 3) ?_; refine pw aH 18 52 (tf 19 2) ?_; refine pw aH 19 53 (tf 20 1) ?_; refine pv aH 20 54 (tf 21 0) ?_; refine done_ (done_of aH.out (by kernel_rfl)) ?_; try go_wp2
          go_ret
          exact ⟨ER, K2 HB aF.out aK.out⟩
        ·rw [if_neg cO] at H
         exact absurd H (by simp)
       ·rw [if_neg cN] at H
        exact absurd H (by simp)
      ·rw [if_neg cF] at H
       have c16b0 := decide_eq_false cF; clear cF; obtain rfl := sj H; go_wp2
       go_ret
       exact ⟨ER, K1 HB aF.out⟩
/-- The ports' round, the destinations' round, the sources' round of corners: what is carried, and whether all were come to. -/
def cornZ {σ : Type} (p : σ → Int → Int → Int → Int → Int → Int → Option (σ × Bool)) (i k a b : Int) : List Int → Int → σ → Option (σ × Bool)
 | [], _, s => some (s, true)
 | c :: zs, n, s => (p s i k n a b c).bind fun r => if r.2 = true then cornZ p i k a b zs (n + 1) r.1 else some (r.1, false)
def cornY {σ : Type} (p : σ → Int → Int → Int → Int → Int → Int → Option (σ × Bool)) (zs : List Int) (i a : Int) : List Int → Int → σ → Option (σ × Bool)
 | [], _, s => some (s, true)
 | b :: ys, k, s => (cornZ p i k a b zs 0 s).bind fun r => if r.2 = true then cornY p zs i a ys (k + 1) r.1 else some (r.1, false)
def cornX {σ : Type} (p : σ → Int → Int → Int → Int → Int → Int → Option (σ × Bool)) (zs ys : List Int) : List Int → Int → σ → Option (σ × Bool)
 | [], _, s => some (s, true)
 | a :: xs, i, s => (cornY p zs i a ys 0 s).bind fun r => if r.2 = true then cornX p zs ys xs (i + 1) r.1 else some (r.1, false)
theorem corn_at (l : List Int) (n : Nat) (h : n < l.length) : rd l (n : Int) = l[n] := by
 unfold rd; rw [List.getD_eq_getElem?_getD, Int.toNat_natCast, List.getElem?_eq_getElem h]; rfl
set_option maxHeartbeats 16000000 in
theorem corners.gen {σ : Type} (p : σ → Int → Int → Int → Int → Int → Int → Option (σ × Bool)) (g : Nat) (lb : Array Value) (eg : ∀ args w, (callFunc g args).run Tryz.prog w = .ok (.enter g args) w) (Inv : Nat → σ → World → Prop)
  (xs ys zs : List Int) (A1 A2 A3 : Option Addr) (c1 c2 c3 : Nat) (s : σ) (r : σ × Bool) (w : World) (hl : xs.length < 4611686018427387904 ∧ ys.length < 4611686018427387904 ∧ zs.length < 4611686018427387904)
  (h0 : ∀ gb W, gb = w.heap.size → W.heap[gb]? = some (.cells #[.slice A1 xs.length c1, .slice A2 ys.length c2, .slice A3 zs.length c3] 98 (0, 0)) → Below w.heap.size w W → Inv gb s W)
  (hI : ∀ gb s W, Inv gb s W → W.heap[gb]? = some (.cells #[.slice A1 xs.length c1, .slice A2 ys.length c2, .slice A3 zs.length c3] 98 (0, 0)) ∧ Kd.C (Kd.int .i64) W A1 xs.length xs ∧ Kd.C (Kd.int .i64) W A2 ys.length ys ∧ Kd.C (Kd.int .i64) W A3 zs.length zs)
  (hstep : ∀ gb s W i k n a b c q, Inv gb s W → p s i k n a b c = some q → Calls Tryz.prog g (#[.int .i64 i, .int .i64 k, .int .i64 n, .agg #[.int .i64 a, .int .i64 b, .int .i64 c]] ++ lb) W fun e w' => e = .returned (.bool q.2) ∧ Inv gb q.1 w')
  (h : cornX p zs ys xs 0 s = some r) :
  Calls Tryz.prog 55 #[.agg #[.slice A1 xs.length c1, .slice A2 ys.length c2, .slice A3 zs.length c3], .func (.func g) #[] lb] w fun e w' => e = .returned (.tuple #[]) ∧ ∃ gb, Inv gb r.1 w' := by
 have hu := Tryz.underlying98; have HI := Aside0.mk hI; have H0 := Aside0.mk h0; have HS := Aside0.mk hstep; have HE := Aside0.mk h; obtain ⟨l1, l2, l3⟩ := hl; have L1 := Aside0.mk l1; have L2 := Aside0.mk l2; have L3 := Aside0.mk l3; clear hI h0 hstep h l1 l2 l3; go_enter Tryz.func55, Tryz.ntmps55
 go_upto_region 1 with (first | ((with_reducible refine gate_dst (N := 2) rfl ?_); refine box_event rfl (N := 2) rfl (cs := #[.slice A1 xs.length c1, .slice A2 ys.length c2, .slice A3 zs.length c3]) (t := 98) BX ?_; intro gb hgb w2 hbox hbw; have IB := am (H0.out gb w2 hgb hbox hbw); clear hbw hgb hbox))
 clear H0; obtain ⟨hb0, hC1, hC2, hC3⟩ := HI.out _ _ _ IB.out; obtain ⟨hz0, hz1, hz2, hzf⟩ := y3 w2 hb0; have HC1 := Aside0.mk hC1; clear hb0 hC1 hC2 hC3; go_wp2
 clear hz0 hz1 hz2 hzf; go_loopg [13] xs.length (fun gg s13 wr => ∃ (kk : Nat) (sk : σ), kk ≤ xs.length ∧ Aside0 (xs.length - kk ≤ gg) ∧ s13 = .int .i64 kk ∧ Aside0 (Inv gb sk wr) ∧ Aside0 (cornX p zs ys (xs.drop kk) kk sk = some r))
 case atStart => exact ⟨0, s, Nat.zero_le _, ⟨by omega⟩, rfl, IB, ⟨HE.out⟩⟩
 case round =>
  clear HE IB HC1; obtain ⟨kk, sk, hkk, hg, rfl, IK, EK⟩ := hrel; have hm1 := L1.out; by_cases hlt : kk < xs.length
  ·have hltz : (kk : Int) < (xs.length : Int) := by omega
   have p1 : 0 ≤ (kk : Int) := by omega
   obtain ⟨hb0, hC1, hC2, hC3⟩ := HI.out _ _ _ IK.out; obtain ⟨hz0, hz1, hz2, hzf⟩ := y3 wr hb0; obtain ⟨ad1, e1, hx1⟩ := Kd.at_int hC1 (kk : Int) p1 hltz; cases e1
   rw [corn_at xs kk hlt] at hx1; simp only [Int.toNat_natCast, Nat.mul_one] at hx1; have E1 := EK.out; rw [List.drop_eq_getElem_cons hlt] at E1; generalize xs[kk] = a at hx1 E1; simp only [cornX] at E1; have EY := Aside0.mk E1; clear E1 EK hb0 hC1 hC2 hC3; go_wp2
   clear hz0 hz1 hz2 hzf hx1 p1; go_loopg [21] ys.length (fun gg s21 wr => ∃ (jj : Nat) (sj : σ), jj ≤ ys.length ∧ Aside0 (ys.length - jj ≤ gg) ∧ s21 = .int .i64 jj ∧ Aside0 (Inv gb sj wr) ∧ Aside0 (((cornY p zs kk a (ys.drop jj) jj sj).bind fun r => if r.2 = true then cornX p zs ys (xs.drop (kk + 1)) (kk + 1) r.1 else some (r.1, false)) = some r))
   case atStart => exact ⟨0, sk, Nat.zero_le _, ⟨by omega⟩, rfl, IK, ⟨EY.out⟩⟩
   case round =>
    clear EY IK; obtain ⟨jj, sj, hjj, hgj, rfl, IJ, EJ⟩ := hrel; have hm2 := L2.out; by_cases hlj : jj < ys.length
    ·have hljz : (jj : Int) < (ys.length : Int) := by omega
     have p2 : 0 ≤ (jj : Int) := by omega
     obtain ⟨hb0, hC1, hC2, hC3⟩ := HI.out _ _ _ IJ.out; obtain ⟨hz0, hz1, hz2, hzf⟩ := y3 wr hb0; obtain ⟨ad2, e2, hx2⟩ := Kd.at_int hC2 (jj : Int) p2 hljz; cases e2
     rw [corn_at ys jj hlj] at hx2; simp only [Int.toNat_natCast, Nat.mul_one] at hx2; have E1 := EJ.out; rw [List.drop_eq_getElem_cons hlj] at E1; generalize ys[jj] = b at hx2 E1; simp only [cornY, Option.bind_assoc] at E1; have EZ := Aside0.mk E1; clear E1 EJ hb0 hC1 hC2 hC3; go_wp2
     clear hz0 hz1 hz2 hzf hx2 p2; go_loopg [29] zs.length (fun gg s29 wr => ∃ (mm : Nat) (sm : σ), mm ≤ zs.length ∧ Aside0 (zs.length - mm ≤ gg) ∧ s29 = .int .i64 mm ∧ Aside0 (Inv gb sm wr) ∧ Aside0 (((cornZ p kk jj a b (zs.drop mm) mm sm).bind fun q => (if q.2 = true then cornY p zs kk a (ys.drop (jj + 1)) (jj + 1) q.1 else some (q.1, false)).bind fun r => if r.2 = true then cornX p zs ys (xs.drop (kk + 1)) (kk + 1) r.1 else some (r.1, false)) = some r))
     case atStart => exact ⟨0, sj, Nat.zero_le _, ⟨by omega⟩, rfl, IJ, ⟨EZ.out⟩⟩
     case round =>
      clear EZ IJ; obtain ⟨mm, sm, hmm, hgm, rfl, IM, EM⟩ := hrel; have hm3 := L3.out; by_cases hlm : mm < zs.length
      ·have hlmz : (mm : Int) < (zs.length : Int) := by omega
       have p3 : 0 ≤ (mm : Int) := by omega
       obtain ⟨hb0, hC1, hC2, hC3⟩ := HI.out _ _ _ IM.out; obtain ⟨ad3, e3, hx3⟩ := Kd.at_int hC3 (mm : Int) p3 hlmz; cases e3
       rw [corn_at zs mm hlm] at hx3; simp only [Int.toNat_natCast, Nat.mul_one] at hx3; have E1 := EM.out; rw [List.drop_eq_getElem_cons hlm] at E1; generalize zs[mm] = c at hx3 E1; simp only [cornZ, Option.bind_assoc] at E1; obtain ⟨q, hq, E1⟩ := Option.bind_eq_some_iff.mp E1; have hcall := HS.out gb sm wr kk jj mm a b c q IM.out hq; have EQ := Aside0.mk E1; clear E1 EM hb0 hC1 hC2 hC3 hq; obtain ⟨q1, q2⟩ := q; cases q2 with
       | true =>
        go_wp2_with (go_at_fn g; refine hcall.mono ?_; rintro e w' ⟨rfl, hi'⟩)
        go_roundg (zs.length - (mm + 1))
        case measure => have := hgm.out; omega
        case rel => exact ⟨mm + 1, q1, by omega, ⟨by omega⟩, by go_num, ⟨hi'⟩, ⟨by have E1 := EQ.out; simp only [if_true] at E1; exact E1⟩⟩
       | false =>
        go_wp2_with (go_at_fn g; refine hcall.mono ?_; rintro e w' ⟨rfl, hi'⟩)
        (try simp only [Exit.inBlock, Exit.then])
        (try simp only [Exit.inBlock, Exit.then]); (first | (refine bodyPost_ret (results_none rfl _ _ _) rfl ?_) | (refine bodyPost_end (results_none rfl _ _ _) rfl ?_))
        have E1 := EQ.out; simp only [Bool.false_eq_true, if_false, Option.bind_some, Option.some.injEq] at E1; subst E1; exact ⟨rfl, gb, hi'⟩
      ·have hlmz : ¬ (mm : Int) < (zs.length : Int) := by omega
       have : mm = zs.length := by omega
       have E1 := EM.out; rw [this, List.drop_length] at E1; simp only [cornZ, Option.bind_some, if_true] at E1; have E2 := Aside0.mk E1; clear EM E1; go_wp2
       go_roundg (ys.length - (jj + 1))
       case measure => have := hgj.out; omega
       case rel => exact ⟨jj + 1, sm, by omega, ⟨by omega⟩, by go_num, IM, E2⟩
    ·have hljz : ¬ (jj : Int) < (ys.length : Int) := by omega
     have : jj = ys.length := by omega
     have E1 := EJ.out; rw [this, List.drop_length] at E1; simp only [cornY, Option.bind_some, if_true] at E1; have E2 := Aside0.mk E1; clear EJ E1; go_wp2
     go_roundg (xs.length - (kk + 1))
     case measure => have := hg.out; omega
     case rel => exact ⟨kk + 1, sj, by omega, ⟨by omega⟩, by go_num, IJ, E2⟩
  ·have hltz : ¬ (kk : Int) < (xs.length : Int) := by omega
   have : kk = xs.length := by omega
   have E1 := EK.out; rw [this, List.drop_length] at E1; have E2 := Aside0.mk E1; clear EK E1; go_wp2
   (try simp only [Exit.inBlock, Exit.then]); (first | (refine bodyPost_ret (results_none rfl _ _ _) rfl ?_) | (refine bodyPost_end (results_none rfl _ _ _) rfl ?_))
   have E1 := E2.out; simp only [cornX, Option.some.injEq] at E1; subst E1; exact ⟨rfl, gb, IK.out⟩
end Go.Proofs.YtaehmhbpdpdefaaGreat.PAll
end
