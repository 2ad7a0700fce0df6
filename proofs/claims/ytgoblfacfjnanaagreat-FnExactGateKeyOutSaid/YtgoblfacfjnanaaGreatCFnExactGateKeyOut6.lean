/- Contracts of the functions that the statement reaches. -/
import Derived.WalkKit
import Derived.Shelf.Abstract
import Derived.Test.YtgoblfacfjnanaaGreatCFnExactGateKeyOut3
import Derived.Test.YtgoblfacfjnanaaGreatCFnExactGateKeyOut4
import Derived.Test.YtgoblfacfjnanaaGreatCFnExactGateKeyOut5
set_option maxHeartbeats 8000000
set_option maxRecDepth 100000
section
namespace Go.Proofs.YtgoblfacfjnanaaGreat.PAll
open Go.RowKit Go.Proofs.YtgoblfacfjnanaaGreatW.PrintWords Go.Proofs.YtgoblfacfjnanaaGreatW.PrintLast Go.Proofs.YtgoblfacfjnanaaGreatW.PrintMore
attribute [local go_sem] max2_int min2_int max_two min_two max_three min_three max_four min_four
set_option linter.unusedVariables false
set_option linter.unusedSimpArgs false
set_option maxHeartbeats 4000000 in
theorem impl_Rule_108.gen (p : S92 → Option Bool) (g : Nat) (lb : Array Value) (eg : ∀ args w, (callFunc g args).run Tryz.prog w = .ok (.enter g args) w) (A : Option Addr) (c : Nat) (l : List S92) (r : Int) (w : World) (hr : Kd.C k92 w A l.length l)
  (hp : ∀ (W : World) (x : S92) (b : Bool), x ∈ l → Below w.heap.size w W → p x = some b → Calls Tryz.prog g (#[.agg #[.int .i64 x.f0, .int .i64 x.f1, .int .i64 x.f2.f0, .int .i64 x.f2.f1, .int .i64 x.f3.f0, .int .i64 x.f3.f1, .int .i64 x.f4, .int .i64 x.f5]] ++ lb) W fun e w' => e = .returned (.bool b) ∧ Below w.heap.size w w') (h : findO p l 0 = some r) :
  Calls Tryz.prog 108 #[.slice A l.length c, .func (.func g) #[] lb] w fun e w' => e = .returned (.int .i64 r) ∧ Below w.heap.size w w' := by
 have hu := Tryz.underlying92; have HR := Aside0.mk hr; have HM := Aside0.mk hr.2.1; have HP := Aside0.mk hp; have H0 := Aside0.mk h; clear hr hp h; go_enter Tryz.func108, Tryz.ntmps108
 go_wp2
 go_loopg [5, 8] l.length (fun gg _ s8 wr => ∃ kk : Nat, kk ≤ l.length ∧ Aside0 (l.length - kk ≤ gg) ∧ s8 = .int .i64 kk ∧ Aside0 (Below w.heap.size w wr) ∧ Aside0 (findO p (l.drop kk) kk = some r))
 case atStart => exact ⟨0, Nat.zero_le _, ⟨by omega⟩, rfl, ⟨Below.refl _ w⟩, ⟨H0.out⟩⟩
 case round =>
  clear H0; obtain ⟨kk, hkk, hg, rfl, BW, A0⟩ := hrel; have hml := HM.out; by_cases hlt : kk < l.length
  ·have hltz : (kk : Int) < (l.length : Int) := by omega
   obtain ⟨ad, e, h0, h1, h2, h3, h4, h5, h6, h7⟩ := at_T92 HR.out (kk : Int) (by omega) hltz
   have hx : rd_T92 l (kk : Int) = l[kk] := by
    unfold rd_T92; rw [List.getD_eq_getElem?_getD, Int.toNat_natCast, List.getElem?_eq_getElem hlt]; rfl
   rw [hx] at h0 h1 h2 h3 h4 h5 h6 h7; rw [Int.toNat_natCast] at h0 h1 h2 h3 h4 h5 h6 h7; have HX := am (List.getElem_mem hlt); have A1 := A0.out; rw [List.drop_eq_getElem_cons hlt] at A1; clear A0 hx; generalize l[kk] = y at h0 h1 h2 h3 h4 h5 h6 h7 HX A1; cases e
   replace h0 := (BW.out.cell (World.block_lt_of_cell? w _ h0)).trans h0; replace h1 := (BW.out.cell (World.block_lt_of_cell? w _ h1)).trans h1; replace h2 := (BW.out.cell (World.block_lt_of_cell? w _ h2)).trans h2; replace h3 := (BW.out.cell (World.block_lt_of_cell? w _ h3)).trans h3; replace h4 := (BW.out.cell (World.block_lt_of_cell? w _ h4)).trans h4; replace h5 := (BW.out.cell (World.block_lt_of_cell? w _ h5)).trans h5; replace h6 := (BW.out.cell (World.block_lt_of_cell? w _ h6)).trans h6; replace h7 := (BW.out.cell (World.block_lt_of_cell? w _ h7)).trans h7; simp only [findO, Option.bind_eq_some_iff] at A1; obtain ⟨b, hb, A1⟩ := A1; have hcall := HP.out wr y b HX.out BW.out hb; have A2 := Aside0.mk A1; clear A1 hb HX; cases b with
   | true =>
    go_wp2_with (go_at_fn g; refine hcall.mono ?_; rintro e w' ⟨rfl, hb'⟩)
    go_ret
    have A1 := A2.out; simp only [if_true, Option.some.injEq] at A1; subst A1; exact ⟨rfl, hb'⟩
   | false =>
    go_wp2_with (go_at_fn g; refine hcall.mono ?_; rintro e w' ⟨rfl, hb'⟩)
    go_roundg (l.length - (kk + 1))
    case measure => have := hg.out; omega
    case rel => exact ⟨kk + 1, by omega, ⟨by omega⟩, by go_num, ⟨hb'⟩, ⟨by have A1 := A2.out; simp only [Bool.false_eq_true, if_false] at A1; exact A1⟩⟩
  ·have hltz : ¬ (kk : Int) < (l.length : Int) := by omega
   have : kk = l.length := by omega
   have A1 := A0.out; rw [this, List.drop_length] at A1; have A2 := Aside0.mk A1; clear A0 A1; go_wp2
   go_ret
   have A1 := A2.out; simp only [findO, Option.some.injEq] at A1; subst A1; exact ⟨rfl, BW.out⟩
set_option maxHeartbeats 4000000 in
theorem impl_Rule_104.gen (p : S92 → Option Bool) (g : Nat) (lb : Array Value) (eg : ∀ args w, (callFunc g args).run Tryz.prog w = .ok (.enter g args) w) (A : Option Addr) (c : Nat) (l : List S92) (r : Bool) (w : World) (hr : Kd.C k92 w A l.length l)
  (hp : ∀ (W : World) (x : S92) (b : Bool), x ∈ l → Below w.heap.size w W → p x = some b → Calls Tryz.prog g (#[.agg #[.int .i64 x.f0, .int .i64 x.f1, .int .i64 x.f2.f0, .int .i64 x.f2.f1, .int .i64 x.f3.f0, .int .i64 x.f3.f1, .int .i64 x.f4, .int .i64 x.f5]] ++ lb) W fun e w' => e = .returned (.bool b) ∧ Below w.heap.size w w') (h : anyO p l = some r) :
  Calls Tryz.prog 104 #[.slice A l.length c, .func (.func g) #[] lb] w fun e w' => e = .returned (.bool r) ∧ Below w.heap.size w w' := by
 obtain ⟨v, hv, hd⟩ := findO_any p l 0 r (by omega) h; have hc := fun w0 (hw : w0 = w) => impl_Rule_108.gen p g lb eg A c l v w hr hp hv
 have HC := am (hc w rfl); have HD := Aside0.mk hd; clear hr hp h hv hd hc; go_enter Tryz.func104, Tryz.ntmps104
 go_wp2_with (go_at_call 108; refine HC.out.mono ?_; rintro e w' ⟨rfl, hb⟩)
 go_ret
 have hd := HD.out; subst hd; exact ⟨rfl, hb⟩
def impl_RulesOk.bad (k : Nat) (x : S92) : Option Bool := (impl_Rule_right.f k x.f0 x.f1 x.f2.f0 x.f2.f1 x.f3.f0 x.f3.f1 x.f4 x.f5).bind fun b => some (!b)
def impl_RulesOk.f (k : Nat) (l0 : List S92) : Option (Bool) := if (l0.length : Int) ≤ 8 then (anyO (impl_RulesOk.bad k ) l0).bind fun b => some (!b) else some false
set_option maxHeartbeats 4000000 in
theorem impl_RulesOk.one (k : Nat) (W : World) (x : S92) (b : Bool) (h : impl_RulesOk.bad k x = some b) :
  Calls Tryz.prog 105 #[.agg #[.int .i64 x.f0, .int .i64 x.f1, .int .i64 x.f2.f0, .int .i64 x.f2.f1, .int .i64 x.f3.f0, .int .i64 x.f3.f1, .int .i64 x.f4, .int .i64 x.f5]] W fun e w' => e = .returned (.bool b) ∧ Below W.heap.size W w' := by
 simp only [impl_RulesOk.bad, Option.bind_eq_some_iff] at h; obtain ⟨c, hc, h⟩ := h; obtain rfl := Option.some.inj h; have HC := Aside0.mk hc; clear hc h; have hu := Tryz.underlying92; go_enter Tryz.func105, Tryz.ntmps105
 go_wp2_with (go_at_call 106; refine (impl_Rule_right.calls k x.f0 x.f1 x.f2.f0 x.f2.f1 x.f3.f0 x.f3.f1 x.f4 x.f5 c _ HC.out).mono ?_; rintro e w' ⟨rfl, hb⟩)
 go_ret
 exact ⟨rfl, ((Below.refl _ _).alloc (Nat.le_refl _) _).trans (hb.mono (by simp))⟩
set_option maxHeartbeats 4000000 in
theorem impl_RulesOk.calls (k : Nat) (A0 : Option Addr) (c0 : Nat) (l0 : List (S92)) (r : Bool) (w : World) (aA : Kd.C k92 w A0 l0.length l0) (aB : l0.length ≤ c0) (h : impl_RulesOk.f k l0 = some r) :
  Calls Tryz.prog 89 #[.slice A0 l0.length c0] w fun e w' => e = .returned (.bool r) ∧ Below w.heap.size w w' := by
 have hm := aA.2.1; have eg := enters_of Tryz.func105 (by kernel_rfl) rfl; unfold impl_RulesOk.f at h; by_cases c : (l0.length : Int) ≤ 8
 ·rw [if_pos c, Option.bind_eq_some_iff] at h
  obtain ⟨b, hb, h⟩ := h; obtain rfl := Option.some.inj h; have HC := am (impl_Rule_104.gen (impl_RulesOk.bad k ) 105 #[] eg A0 c0 l0 b w aA (fun W x b _ hB hx => (impl_RulesOk.one k W x b hx).mono fun e w' ⟨he, hw⟩ => ⟨he, hB.trans (hw.mono hB.size)⟩) hb); clear aA aB hb h; have cb : decide ((l0.length : Int) ≤ 8) = true := decide_eq_true c; go_enter Tryz.func89, Tryz.ntmps89
  go_wp2_with (go_at_call 104; refine HC.out.mono ?_; rintro e w' ⟨rfl, hb⟩)
  go_ret
  exact ⟨rfl, hb⟩
 ·rw [if_neg c] at h
  obtain rfl := Option.some.inj h; clear aA aB; have cb : decide ((l0.length : Int) ≤ 8) = false := decide_eq_false c; go_enter Tryz.func89, Tryz.ntmps89
  go_wp2
  go_ret
  exact ⟨rfl, Below.refl _ _⟩
def impl_first.is (a1_0 a1_1 a1_2 : Int) (x : S92) : Option Bool := impl_Rule_matches.f x.f0 x.f1 x.f2.f0 x.f2.f1 x.f3.f0 x.f3.f1 x.f4 x.f5 a1_0 a1_1 a1_2
def impl_first.f (l0 : List S92) (a1_0 : Int) (a1_1 : Int) (a1_2 : Int) : Option (Int) := findO (impl_first.is a1_0 a1_1 a1_2) l0 0
set_option maxHeartbeats 4000000 in
theorem impl_first.one (a1_0 a1_1 a1_2 : Int) (B : Nat) (W : World) (x : S92) (b : Bool) (hB : W.heap[B]? = some (.cells #[.int .i64 a1_0, .int .i64 a1_1, .int .i64 a1_2] 103 (0, 0))) (h : impl_first.is a1_0 a1_1 a1_2 x = some b) :
  Calls Tryz.prog 109 #[.agg #[.int .i64 x.f0, .int .i64 x.f1, .int .i64 x.f2.f0, .int .i64 x.f2.f1, .int .i64 x.f3.f0, .int .i64 x.f3.f1, .int .i64 x.f4, .int .i64 x.f5], .pointer (some ⟨B, 0, none⟩)] W fun e w' => e = .returned (.bool b) ∧ Below W.heap.size W w' := by
 have HC := Aside0.mk h; have hlt : B < W.heap.size := (Array.getElem?_eq_some_iff.1 hB).1; have hc0 : W.cell? ⟨B, 0, none⟩ = some (.int .i64 a1_0) := (blk_cell hB 0).trans rfl; have hc1 : W.cell? ⟨B, 1, none⟩ = some (.int .i64 a1_1) := (blk_cell hB 1).trans rfl; have hc2 : W.cell? ⟨B, 2, none⟩ = some (.int .i64 a1_2) := (blk_cell hB 2).trans rfl; clear h hB; have hu := Tryz.underlying92; have hu2 := Tryz.underlying103; go_enter Tryz.func109, Tryz.ntmps109
 go_wp2_with (go_at_call 110; refine (impl_Rule_matches.calls x.f0 x.f1 x.f2.f0 x.f2.f1 x.f3.f0 x.f3.f1 x.f4 x.f5 a1_0 a1_1 a1_2 b _ HC.out).mono ?_; rintro e w' ⟨rfl, hb⟩)
 go_ret
 exact ⟨rfl, ((Below.refl _ _).alloc (Nat.le_refl _) _).trans (hb.mono (by simp))⟩
set_option maxHeartbeats 4000000 in
theorem impl_first.calls (A0 : Option Addr) (c0 : Nat) (l0 : List (S92)) (aA : Int) (aB : Int) (aC : Int) (r : Int) (w : World) (aD : Kd.C k92 w A0 l0.length l0) (aE : l0.length ≤ c0) (h : impl_first.f l0 aA aB aC = some r) :
  Calls Tryz.prog 92 #[.slice A0 l0.length c0, .agg #[.int .i64 aA, .int .i64 aB, .int .i64 aC]] w fun e w' => e = .returned (.int .i64 r) ∧ Below w.heap.size w w' := by
 have eg := enters_of Tryz.func109 (by kernel_rfl) rfl; have aF := Tryz.underlying103
 have HC := am (fun (w1 : World) (hb : Below w.heap.size w w1) (B : Nat) (hB : w1.heap[B]? = some (.cells #[.int .i64 aA, .int .i64 aB, .int .i64 aC] 103 (0, 0))) =>
  impl_Rule_108.gen (impl_first.is aA aB aC) 109 #[.pointer (some ⟨B, 0, none⟩)] eg A0 c0 l0 r w1 (Kd.C_below aD hb) (fun W x b _ hW hx => (impl_first.one aA aB aC B W x b ((hW.block B (Array.getElem?_eq_some_iff.1 hB).1).trans hB) hx).mono fun e w' ⟨he, hw⟩ => ⟨he, hW.trans (hw.mono hW.size)⟩) h)
 clear aD aE h; go_enter Tryz.func92, Tryz.ntmps92
 go_wp2_with (go_at_call 108; refine (HC.out _ ((Below.refl _ _).alloc (Nat.le_refl _) _) w.heap.size (by first | exact heap_alloc_new _ _ | simpa using heap_alloc_new _ _)).mono ?_; rintro e w' ⟨rfl, hb⟩)
 go_ret
 exact ⟨rfl, ((Below.refl _ _).alloc (Nat.le_refl _) _).trans (hb.mono (by simp))⟩
set_option maxHeartbeats 4000000 in
theorem impl_Seen_111.gen (p : S105 → Option Bool) (g : Nat) (lb : Array Value) (eg : ∀ args w, (callFunc g args).run Tryz.prog w = .ok (.enter g args) w) (A : Option Addr) (c : Nat) (l : List S105) (r : Int) (w : World) (hr : Kd.C k105 w A l.length l)
  (hp : ∀ (W : World) (x : S105) (b : Bool), x ∈ l → Below w.heap.size w W → p x = some b → Calls Tryz.prog g (#[.agg #[.int .i64 x.f0.f0, .int .i64 x.f0.f1, .int .i64 x.f0.f2, .int .i64 x.f1]] ++ lb) W fun e w' => e = .returned (.bool b) ∧ Below w.heap.size w w') (h : findO p l 0 = some r) :
  Calls Tryz.prog 111 #[.slice A l.length c, .func (.func g) #[] lb] w fun e w' => e = .returned (.int .i64 r) ∧ Below w.heap.size w w' := by
 have hu := Tryz.underlying105; have HR := Aside0.mk hr; have HM := Aside0.mk hr.2.1; have HP := Aside0.mk hp; have H0 := Aside0.mk h; clear hr hp h; go_enter Tryz.func111, Tryz.ntmps111
 go_wp2
 go_loopg [5, 8] l.length (fun gg _ s8 wr => ∃ kk : Nat, kk ≤ l.length ∧ Aside0 (l.length - kk ≤ gg) ∧ s8 = .int .i64 kk ∧ Aside0 (Below w.heap.size w wr) ∧ Aside0 (findO p (l.drop kk) kk = some r))
 case atStart => exact ⟨0, Nat.zero_le _, ⟨by omega⟩, rfl, ⟨Below.refl _ w⟩, ⟨H0.out⟩⟩
 case round =>
  clear H0; obtain ⟨kk, hkk, hg, rfl, BW, A0⟩ := hrel; have hml := HM.out; by_cases hlt : kk < l.length
  ·have hltz : (kk : Int) < (l.length : Int) := by omega
   obtain ⟨ad, e, h0, h1, h2, h3⟩ := at_T105 HR.out (kk : Int) (by omega) hltz
   have hx : rd_T105 l (kk : Int) = l[kk] := by
    unfold rd_T105; rw [List.getD_eq_getElem?_getD, Int.toNat_natCast, List.getElem?_eq_getElem hlt]; rfl
   rw [hx] at h0 h1 h2 h3; rw [Int.toNat_natCast] at h0 h1 h2 h3; have HX := am (List.getElem_mem hlt); have A1 := A0.out; rw [List.drop_eq_getElem_cons hlt] at A1; clear A0 hx; generalize l[kk] = y at h0 h1 h2 h3 HX A1; cases e
   replace h0 := (BW.out.cell (World.block_lt_of_cell? w _ h0)).trans h0; replace h1 := (BW.out.cell (World.block_lt_of_cell? w _ h1)).trans h1; replace h2 := (BW.out.cell (World.block_lt_of_cell? w _ h2)).trans h2; replace h3 := (BW.out.cell (World.block_lt_of_cell? w _ h3)).trans h3; simp only [findO, Option.bind_eq_some_iff] at A1; obtain ⟨b, hb, A1⟩ := A1; have hcall := HP.out wr y b HX.out BW.out hb; have A2 := Aside0.mk A1; clear A1 hb HX; cases b with
   | true =>
    go_wp2_with (go_at_fn g; refine hcall.mono ?_; rintro e w' ⟨rfl, hb'⟩)
    go_ret
    have A1 := A2.out; simp only [if_true, Option.some.injEq] at A1; subst A1; exact ⟨rfl, hb'⟩
   | false =>
    go_wp2_with (go_at_fn g; refine hcall.mono ?_; rintro e w' ⟨rfl, hb'⟩)
    go_roundg (l.length - (kk + 1))
    case measure => have := hg.out; omega
    case rel => exact ⟨kk + 1, by omega, ⟨by omega⟩, by go_num, ⟨hb'⟩, ⟨by have A1 := A2.out; simp only [Bool.false_eq_true, if_false] at A1; exact A1⟩⟩
  ·have hltz : ¬ (kk : Int) < (l.length : Int) := by omega
   have : kk = l.length := by omega
   have A1 := A0.out; rw [this, List.drop_length] at A1; have A2 := Aside0.mk A1; clear A0 A1; go_wp2
   go_ret
   have A1 := A2.out; simp only [findO, Option.some.injEq] at A1; subst A1; exact ⟨rfl, BW.out⟩
end Go.Proofs.YtgoblfacfjnanaaGreat.PAll
end
section
namespace Go.Proofs.YtgoblfacfjnanaaGreat.PAll
open Go.RowKit Go.Proofs.YtgoblfacfjnanaaGreatW.PrintWords Go.Proofs.YtgoblfacfjnanaaGreatW.PrintLast Go.Proofs.YtgoblfacfjnanaaGreatW.PrintMore
attribute [local go_sem] max2_int min2_int max_two min_two max_three min_three max_four min_four
set_option linter.unusedVariables false
set_option linter.unusedSimpArgs false
attribute [local go_sem high] eqA103
set_option maxHeartbeats 4000000 in
theorem slices_ContainsFunc_Seen.gen (p : S105 → Option Bool) (g : Nat) (lb : Array Value) (eg : ∀ args w, (callFunc g args).run Tryz.prog w = .ok (.enter g args) w) (A : Option Addr) (c : Nat) (l : List S105) (r : Bool) (w : World) (hr : Kd.C k105 w A l.length l)
  (hp : ∀ (W : World) (x : S105) (b : Bool), x ∈ l → Below w.heap.size w W → p x = some b → Calls Tryz.prog g (#[.agg #[.int .i64 x.f0.f0, .int .i64 x.f0.f1, .int .i64 x.f0.f2, .int .i64 x.f1]] ++ lb) W fun e w' => e = .returned (.bool b) ∧ Below w.heap.size w w') (h : anyO p l = some r) :
  Calls Tryz.prog 93 #[.slice A l.length c, .func (.func g) #[] lb] w fun e w' => e = .returned (.bool r) ∧ Below w.heap.size w w' := by
 obtain ⟨v, hv, hd⟩ := findO_any p l 0 r (by omega) h; have hc := fun w0 (hw : w0 = w) => impl_Seen_111.gen p g lb eg A c l v w hr hp hv
 have HC := am (hc w rfl); have HD := Aside0.mk hd; clear hr hp h hv hd hc; go_enter Tryz.func93, Tryz.ntmps93
 go_wp2_with (go_at_call 111; refine HC.out.mono ?_; rintro e w' ⟨rfl, hb⟩)
 go_ret
 have hd := HD.out; subst hd; exact ⟨rfl, hb⟩
def slices_ContainsFunc_Seen.is (a1_0 a1_1 a1_2 : Int) (x : S105) : Bool := x.f0.f0 == a1_0 && (x.f0.f1 == a1_1 && (x.f0.f2 == a1_2))
theorem anyO_some {α : Type} (q : α → Bool) : ∀ l : List α, anyO (fun x => some (q x)) l = some (l.any q)
 | [] => rfl
 | x :: l => by simp only [anyO, Option.bind_some, anyO_some q l, List.any_cons]; cases q x <;> simp
def slices_ContainsFunc_Seen.f (l0 : List S105) (a1_0 a1_1 a1_2 a1_3 : Int) : Option Bool := some (l0.any (slices_ContainsFunc_Seen.is a1_0 a1_1 a1_2))
set_option maxHeartbeats 4000000 in
theorem slices_ContainsFunc_Seen.one (a1_0 a1_1 a1_2 a1_3 : Int) (B : Nat) (W : World) (x : S105) (hB : W.heap[B]? = some (.cells #[.int .i64 a1_0, .int .i64 a1_1, .int .i64 a1_2, .int .i64 a1_3] 105 (0, 0))) :
  Calls Tryz.prog 90 #[.agg #[.int .i64 x.f0.f0, .int .i64 x.f0.f1, .int .i64 x.f0.f2, .int .i64 x.f1], .pointer (some ⟨B, 0, none⟩)] W fun e w' => e = .returned (.bool (slices_ContainsFunc_Seen.is a1_0 a1_1 a1_2 x)) ∧ Below W.heap.size W w' := by
 have hlt : B < W.heap.size := (Array.getElem?_eq_some_iff.1 hB).1; have hc0 : W.cell? ⟨B, 0, none⟩ = some (.int .i64 a1_0) := (blk_cell hB 0).trans rfl; have hc1 : W.cell? ⟨B, 1, none⟩ = some (.int .i64 a1_1) := (blk_cell hB 1).trans rfl; have hc2 : W.cell? ⟨B, 2, none⟩ = some (.int .i64 a1_2) := (blk_cell hB 2).trans rfl; clear hB; have hu := Tryz.underlying105; have hu2 := Tryz.underlying103; go_enter Tryz.func90, Tryz.ntmps90
 go_wp2
 go_ret
 exact ⟨rfl, (Below.refl _ _).alloc (Nat.le_refl _) _⟩
set_option maxHeartbeats 4000000 in
theorem slices_ContainsFunc_Seen.calls (A0 : Option Addr) (c0 : Nat) (l0 : List S105) (aA aB aC aD : Int) (B : Nat) (r : Bool) (w : World) (aE : Kd.C k105 w A0 l0.length l0) (aF : l0.length ≤ c0) (hB : w.heap[B]? = some (.cells #[.int .i64 aA, .int .i64 aB, .int .i64 aC, .int .i64 aD] 105 (0, 0))) (h : slices_ContainsFunc_Seen.f l0 aA aB aC aD = some r) :
  Calls Tryz.prog 93 #[.slice A0 l0.length c0, .func (.func 90) #[] #[.pointer (some ⟨B, 0, none⟩)]] w fun e w' => e = .returned (.bool r) ∧ Below w.heap.size w w' := by
 have eg := enters_of Tryz.func90 (by kernel_rfl) rfl; refine slices_ContainsFunc_Seen.gen (fun x => some (slices_ContainsFunc_Seen.is aA aB aC x)) 90 #[.pointer (some ⟨B, 0, none⟩)] eg A0 c0 l0 r w aE (fun W x b _ hW hx => ?_) ((anyO_some _ l0).trans h); obtain rfl := Option.some.inj hx; exact (slices_ContainsFunc_Seen.one aA aB aC aD B W x ((hW.block B (Array.getElem?_eq_some_iff.1 hB).1).trans hB)).mono fun e w' ⟨he, hw⟩ => ⟨he, hW.trans (hw.mono hW.size)⟩
end Go.Proofs.YtgoblfacfjnanaaGreat.PAll
end
section
namespace Go.Proofs.YtgoblfacfjnanaaGreat.PAll
open Go.RowKit Go.Proofs.YtgoblfacfjnanaaGreatW.PrintWords Go.Proofs.YtgoblfacfjnanaaGreatW.PrintLast Go.Proofs.YtgoblfacfjnanaaGreatW.PrintMore
attribute [local go_sem] max2_int min2_int max_two min_two max_three min_three max_four min_four
set_option linter.unusedVariables false
set_option linter.unusedSimpArgs false
mutual
def impl_CacheOk.j0 : Nat → List (S92) → Bool → Int → List (S105) → Option (Bool)
 | 0, _, _, _, _ => none
 | k + 1, x0, x24, x102000, x102001 => if x24 = true then (some false) else (impl_CacheOk.l0 k x0 x102001 (x102001.length : Int) 0 x102000 x102001)
def impl_CacheOk.l0 : Nat → List (S92) → List (S105) → Int → Int → Int → List (S105) → Option (Bool)
 | 0, _, _, _, _, _, _ => none
 | k + 1, x0, x26, x27, x28, x102000, x102001 => if x28 < x27 then (if 0 ≤ x28 then (if x28 < (x26.length : Int) then ((impl_isCall.f ((rd_T105 x26 x28).f0.f0) ((rd_T105 x26 x28).f0.f1) ((rd_T105 x26 x28).f0.f2)).bind fun t106 => (if t106 = true then ((impl_first.f x0 ((rd_T105 x26 x28).f0.f0) ((rd_T105 x26 x28).f0.f1) ((rd_T105 x26 x28).f0.f2)).bind fun t107 => (if ((rd_T105 x26 x28).f1) = t107 then (if x28 ≤ (x102001.length : Int) then ((slices_ContainsFunc_Seen.f (x102001.take (x28 : Int).toNat) ((rd_T105 x26 x28).f0.f0) ((rd_T105 x26 x28).f0.f1) ((rd_T105 x26 x28).f0.f2) ((rd_T105 x26 x28).f1)).bind fun t112 => (if t112 = true then (some false) else (impl_CacheOk.l0 k x0 x26 x27 (wrap64 (x28 + 1)) x102000 x102001))) else (none)) else (some false))) else (some false))) else (none)) else (none)) else (some true)
end
def impl_CacheOk.f (k : Nat) (l0 : List (S92)) (a1_0 : Int) (l1_1 : List (S105)) : Option (Bool) := (impl_RulesOk.f k l0).bind fun t102 => (if t102 = true then ((impl_in.f a1_0 0 16).bind fun t103 => (if t103 = true then (impl_CacheOk.j0 k l0 (decide ((l1_1.length : Int) > a1_0)) a1_0 l1_1) else (impl_CacheOk.j0 k l0 true a1_0 l1_1))) else (impl_CacheOk.j0 k l0 true a1_0 l1_1))
def impl_CacheOk.T7 : Bool × List (List Nat × List Nat) := (true, [([], []), ([0], [0]), ([1], [1]), ([2], [2]), ([3, 2], [3]), ([4], [4]), ([5, 4], [4, 5]), ([4], [4]), ([4], [4]), ([8, 4], [4, 8]), ([7, 9, 4, 4], [4, 7, 9]), ([6, 10, 4], [4, 6, 10]), ([4, 11], [4, 11]), ([12, 10], [12]), ([13], [13]), ([14, 13], [13, 14]), ([13], [13]), ([15, 16, 13], [13, 15, 16]), ([13], [13]), ([17, 18, 13, 13], [13, 17, 18]), ([13, 19], [13, 19])])
def impl_CacheOk.B7 : List Nat := [0, 1, 3, 7, 15, 31, 63, 31, 31, 287, 927, 2047, 4095, 8191, 16383, 32767, 16383, 131071, 16383, 524287, 1048575]
theorem impl_CacheOk.tab7 : rtab .any (opsOf Tryz.f62 7) = impl_CacheOk.T7 := by kernel_rfl
theorem impl_CacheOk.bits7 : waitsOk impl_CacheOk.T7.2 impl_CacheOk.B7 = true := by kernel_rfl
theorem impl_CacheOk.calls (k : Nat) (A0 : Option Addr) (c0 : Nat) (l0 : List (S92)) (aJ : Int) (bM : Option Addr) (aR : Nat) (aB : List (S105)) (r : Bool) (w : World) (dU : Kd.C k92 w A0 l0.length l0) (dV : l0.length ≤ c0) (bT : Kd.C k105 w bM aB.length aB) (bU : aB.length ≤ aR) (h : impl_CacheOk.f k l0 aJ aB = some r) :
  Calls Tryz.prog 62 #[.slice A0 l0.length c0, .agg #[.int .i64 aJ, .slice bM aB.length aR]] w fun e w' => e = .returned (.bool r) ∧ Below w.heap.size w w' := by
 have eN := Tryz.underlying39; have dW := Tryz.underlying105; have dX := Tryz.underlying103; have cD := Aside0.mk dU; have cE := Aside0.mk dV; clear dU dV; have aY := Aside0.mk bT; have bV := Aside0.mk bU; clear bT bU; have HB := am (Below.refl w.heap.size w); have H : ((impl_RulesOk.f k l0).bind fun bP => (if bP = true then ((impl_in.f aJ 0 16).bind fun bL => (if bL = true then (impl_CacheOk.j0 k l0 (decide ((aB.length : Int) > aJ)) aJ aB) else (impl_CacheOk.j0 k l0 true aJ aB))) else (impl_CacheOk.j0 k l0 true aJ aB))) = some r := h; clear h; have dQ := Aside0.mk H; clear H; go_enter Tryz.func62, Tryz.ntmps62
 go_upto_region 1 with (first | ((with_reducible refine gate_dst (N := 3) rfl ?_); (try (refine gate_guard (by rfl) ?_; dsimp only)); refine box_event rfl (N := 3) rfl (cs := #[.int .i64 aJ, .slice bM aB.length aR]) (t := 39) BX ?_; intro aV hg w4 aU hb; have aD := am (aU); have cG := am (GH HB hg); have aF := cG; replace HB := bl (KL HB) hb; clear hb aU hg))
 (try simp only [Act.put, List.setIfInBounds_toArray, List.set_cons_zero, List.set_cons_succ])
 go_cut [24] (fun eO wc => ∃ (kq : Nat) (bE : Bool), eO = .bool bE ∧ Aside0 (impl_CacheOk.j0 kq l0 bE aJ aB = some r) ∧ Aside0 (kq ≤ k) ∧ Aside0 (wc.heap[aV]? = some (.cells #[.int .i64 aJ, (.slice bM aB.length aR)] 39 (0, 0))) ∧ Aside0 (Below w.heap.size w wc))
 case first =>
  have H := dQ.out; clear dQ; replace H := bm H; obtain ⟨bP, dY, H⟩ := H; replace H : (if bP = true then ((impl_in.f aJ 0 16).bind fun bL => (if bL = true then (impl_CacheOk.j0 k l0 (decide ((aB.length : Int) > aJ)) aJ aB) else (impl_CacheOk.j0 k l0 true aJ aB))) else (impl_CacheOk.j0 k l0 true aJ aB)) = some r := H; have A5 := Aside0.mk dY; clear dY; by_cases c6 : bP = true
  ·subst c6
   have H1 := pf H; clear H; have H := H1; clear H1; replace H := bm H; obtain ⟨bL, dZ, H⟩ := H; replace H : (if bL = true then (impl_CacheOk.j0 k l0 (decide ((aB.length : Int) > aJ)) aJ aB) else (impl_CacheOk.j0 k l0 true aJ aB)) = some r := H; have A7 := Aside0.mk dZ; clear dZ; by_cases c8 : bL = true
   ·subst c8
    have H1 := pf H; clear H; have H := H1; clear H1; have H' := Aside0.mk H; clear H; go_wp2_with (first | ((with_reducible refine gate_callee (f := 89) rfl ?_); refine goesL_ (some 9) rfl rfl Tryz.func89 (by kernel_rfl) rfl #[.slice A0 l0.length c0] rfl MT ?_; (with_reducible refine (impl_RulesOk.calls k _ _ l0 true _ ?_ ?_ A5.out).mono ?_); exact KD cD HB; exact cE.out; rintro e w9 ⟨rfl, hb⟩; refine ⟨_, rfl, ?_⟩; replace aD := am (BB aD hb); replace HB := bl (K1 HB aF.out) hb; (try clear hb); obtain ⟨bF, bG, bH⟩ := y2 w9 aD.out) | (go_at_call 61; (with_reducible refine (impl_in.calls aJ 0 16 true _ A7.out).mono ?_); rintro e w' ⟨rfl, ⟨nd, rfl⟩⟩))
    go_meet
    case rel => exact ⟨_, (decide ((aB.length : Int) > aJ)), (by first | rfl | (simp; done) | (simp [*]; done)), H', ⟨by first | omega | exact Nat.le_refl _⟩, ⟨KB aD⟩, ⟨K1 HB aF.out⟩⟩
   ·replace c8 := Bool.eq_false_iff.mpr c8
    subst c8; have H1 := nf H; clear H; have H := H1; clear H1; have H' := Aside0.mk H; clear H; go_wp2_with (first | ((with_reducible refine gate_callee (f := 89) rfl ?_); refine goesL_ (some 9) rfl rfl Tryz.func89 (by kernel_rfl) rfl #[.slice A0 l0.length c0] rfl MT ?_; (with_reducible refine (impl_RulesOk.calls k _ _ l0 true _ ?_ ?_ A5.out).mono ?_); exact KD cD HB; exact cE.out; rintro e eP ⟨rfl, hb⟩; refine ⟨_, rfl, ?_⟩; replace aD := am (BB aD hb); replace HB := bl (K1 HB aF.out) hb; (try clear hb); obtain ⟨bI, bJ, bK⟩ := y2 eP aD.out) | (go_at_call 61; (with_reducible refine (impl_in.calls aJ 0 16 false _ A7.out).mono ?_); rintro e w' ⟨rfl, ⟨nd, rfl⟩⟩))
    go_meet
    case rel => exact ⟨_, (true), (by first | rfl | (simp; done) | (simp [*]; done)), H', ⟨by first | omega | exact Nat.le_refl _⟩, ⟨KB aD⟩, ⟨K1 HB aF.out⟩⟩
  ·replace c6 := Bool.eq_false_iff.mpr c6
   subst c6; have H1 := nf H; clear H; have H := H1; clear H1; have H' := Aside0.mk H; clear H; go_wp2_with (first | ((with_reducible refine gate_callee (f := 89) rfl ?_); refine goesL_ (some 9) rfl rfl Tryz.func89 (by kernel_rfl) rfl #[.slice A0 l0.length c0] rfl MT ?_; (with_reducible refine (impl_RulesOk.calls k _ _ l0 false _ ?_ ?_ A5.out).mono ?_); exact KD cD HB; exact cE.out; rintro e eR ⟨rfl, hb⟩; refine ⟨_, rfl, ?_⟩; replace aD := am (BB aD hb); replace HB := bl (K1 HB aF.out) hb; (try clear hb)))
   go_meet
   case rel => exact ⟨_, (true), (by first | rfl | (simp; done) | (simp [*]; done)), H', ⟨by first | omega | exact Nat.le_refl _⟩, ⟨KB aD⟩, ⟨K1 HB aF.out⟩⟩
 case rest =>
  clear dQ; try clear c1
  try clear p2
  try clear c6
  try clear c8
  try clear bF bG bH
  try clear bI bJ bK
  obtain ⟨kq, bE, rfl, HA, HJ2, aD, HB⟩ := hcut; cases kq with
  | zero => exact absurd HA.out (by simp [impl_CacheOk.j0])
  | succ kj2 =>
   have H := HA.out; clear HA; simp only [impl_CacheOk.j0] at H; by_cases cH : bE = true
   ·subst cH
    have H1 := pf H; clear H; have H := H1; clear H1; obtain rfl := sj H; go_wp2
    go_ret
    exact ⟨ER, K1 HB aF.out⟩
   ·replace cH := Bool.eq_false_iff.mpr cH
    subst cH; have H1 := nf H; clear H; have H := H1; clear H1; have H' := Aside0.mk H; clear H; obtain ⟨bQ, bR, bS⟩ := y2 wc aD.out; go_wp2
    go_loopg [28] kj2 (fun kq eQ w' => ∃ (aA : Int), eQ = .int .i64 aA ∧ Aside0 (impl_CacheOk.l0 kq l0 aB (aB.length : Int) aA aJ aB = some r) ∧ Aside0 (kq ≤ kj2) ∧ Aside0 (w'.heap[aV]? = some (.cells #[.int .i64 aJ, (.slice bM aB.length aR)] 39 (0, 0))) ∧ Aside0 (Below w.heap.size w w'))
    case atStart => exact ⟨(0), (by first | rfl | (simp; done) | (simp [*]; done)), H', ⟨Nat.le_refl _⟩, ⟨KB aD⟩, ⟨K1 HB aF.out⟩⟩
    case round =>
     clear H'; try clear c1
     try clear p2
     try clear c6
     try clear c8
     try clear cH
     try clear bF bG bH
     try clear bI bJ bK
     try clear bQ bR bS
     try clear p2
     obtain ⟨aA, rfl, HA, HK2, aD, HB⟩ := hrel; cases gk with
     | zero => exact absurd HA.out (by simp [impl_CacheOk.l0])
     | succ k2 =>
      have H := HA.out; clear HA; simp only [impl_CacheOk.l0] at H; by_cases cF : aA < (aB.length : Int)
      ·rw [if_pos cF] at H
       have c16b0 : decide (aA < (aB.length : Int)) = true := decide_eq_true cF; clear cF; by_cases cN : 0 ≤ aA
       ·rw [if_pos cN] at H
        have c17b0 : decide (0 ≤ aA) = true := decide_eq_true cN; clear cN; by_cases cO : aA < (aB.length : Int)
        ·rw [if_pos cO] at H
         have c18b0 : decide (aA < (aB.length : Int)) = true := decide_eq_true cO; clear cO; replace H := bm H; obtain ⟨cI, cJ, H⟩ := H; replace H : (if cI = true then ((impl_first.f l0 ((rd_T105 aB aA).f0.f0) ((rd_T105 aB aA).f0.f1) ((rd_T105 aB aA).f0.f2)).bind fun aW => (if ((rd_T105 aB aA).f1) = aW then (if aA ≤ (aB.length : Int) then ((slices_ContainsFunc_Seen.f (aB.take (aA : Int).toNat) ((rd_T105 aB aA).f0.f0) ((rd_T105 aB aA).f0.f1) ((rd_T105 aB aA).f0.f2) ((rd_T105 aB aA).f1)).bind fun bA => (if bA = true then (some false) else (impl_CacheOk.l0 k2 l0 aB (aB.length : Int) (wrap64 (aA + 1)) aJ aB))) else (none)) else (some false))) else (some false)) = some r := H; have cP := Aside0.mk cJ; clear cJ; by_cases cQ : cI = true
         ·subst cQ
          have H1 := pf H; clear H; have H := H1; clear H1; replace H := bm H; obtain ⟨aW, cK, H⟩ := H; replace H : (if ((rd_T105 aB aA).f1) = aW then (if aA ≤ (aB.length : Int) then ((slices_ContainsFunc_Seen.f (aB.take (aA : Int).toNat) ((rd_T105 aB aA).f0.f0) ((rd_T105 aB aA).f0.f1) ((rd_T105 aB aA).f0.f2) ((rd_T105 aB aA).f1)).bind fun bA => (if bA = true then (some false) else (impl_CacheOk.l0 k2 l0 aB (aB.length : Int) (wrap64 (aA + 1)) aJ aB))) else (none)) else (some false)) = some r := H; have dR := Aside0.mk cK; clear cK; by_cases bY : ((rd_T105 aB aA).f1) = aW
          ·rw [if_pos bY] at H
           have c22b0 : (((rd_T105 aB aA).f1) == aW) = true := beq_iff_eq.mpr bY; have c22b1 : (((rd_T105 aB aA).f1) != aW) = false := bne_eq_false_iff_eq.mpr bY; clear bY; have c23b0 := eq_true (OD : 0 ≤ aA); by_cases cL : aA ≤ (aB.length : Int)
           ·rw [if_pos cL] at H
            have c24b0 := eq_true cL; have c24b1 : decide (aA ≤ (aB.length : Int)) = true := decide_eq_true cL; clear cL; obtain ⟨aZ, bB⟩ : ∃ y_ : List (S105), y_ = (aB.take (aA : Int).toNat) := ⟨_, rfl⟩; replace H : ((slices_ContainsFunc_Seen.f aZ ((rd_T105 aB aA).f0.f0) ((rd_T105 aB aA).f0.f1) ((rd_T105 aB aA).f0.f2) ((rd_T105 aB aA).f1)).bind fun bA => (if bA = true then (some false) else (impl_CacheOk.l0 k2 l0 aB (aB.length : Int) (wrap64 (aA + 1)) aJ aB))) = some r := by first | (rw [bB]; with_reducible exact H) | (have H2_ := (Option.bind_some _ _).symm.trans H; rw [bB]; with_reducible exact H2_) | (have H2_ := (Option.bind_some _ _).symm.trans H; with_reducible exact H2_) | with_reducible exact H | (rw [bB]; exact H) | exact H
            have Ny108 := Aside0.mk bB; clear bB; replace H := bm H; obtain ⟨bA, cM, H⟩ := H; replace H : (if bA = true then (some false) else (impl_CacheOk.l0 k2 l0 aB (aB.length : Int) (wrap64 (aA + 1)) aJ aB)) = some r := H; have eA := Aside0.mk cM; clear cM; by_cases cR : bA = true
            ·subst cR
             have H1 := pf H; clear H; have H := H1; clear H1; obtain rfl := sj H; have aS : 0 ≤ (aA : Int) := OD; have aT : aA < (aB.length : Int) := OD; obtain ⟨aQ, bC, aL, aM, aN, aO⟩ := at_T105 aY.out aA aS aT; cases bC
             replace aL := CX HB.out aL; replace aM := CX HB.out aM; replace aN := CX HB.out aN; replace aO := CX HB.out aO; replace aS := eq_true aS; replace aT := eq_true aT; try go_wp2_with (first | ((with_reducible refine gate_dst (N := 6) rfl ?_); (try (refine gate_guard (by rfl) ?_; dsimp only)); refine box_event rfl (N := 6) rfl (cs := #[.int .i64 0, .int .i64 0, .int .i64 0, .int .i64 0]) (t := 105) BX ?_; intro aG hg eB aU hb; have aC := am (aU); have aX := am (GH1 HB aF.out hg); have aK := aX; replace HB := bl (K1 HB aF.out) hb; have aE := am (NL aD hg); have aP := am (NG aD hg); replace aD := am (BB aD hb); clear hb aU hg; have eC := aP.out; have eD := aE.out; have ⟨_, _, _, _, _⟩ := y4 eB aC.out))
             generalize hq_ : ((((eB.setCell ⟨aG, 0, none⟩ (.int .i64 ((rd_T105 aB aA).f0.f0))).setCell ⟨aG, 1, none⟩ (.int .i64 ((rd_T105 aB aA).f0.f1))).setCell ⟨aG, 2, none⟩ (.int .i64 ((rd_T105 aB aA).f0.f2))).setCell ⟨aG, 3, none⟩ (.int .i64 ((rd_T105 aB aA).f1))) = cX; have n0_ : Aside0 (cX.heap[aV]? = some (.cells #[.int .i64 aJ, .slice (some aQ) aB.length aR] 39 (0, 0))) := ⟨by rw [← hq_]; refine BD ?_; refine blk_far ?_ aE.out _; refine BD ?_; refine blk_far ?_ aE.out _; refine BD ?_; refine blk_far ?_ aE.out _; refine BD ?_; refine blk_far ?_ aE.out _; refine BD ?_; exact aD.out⟩; have n1_ : Aside0 (cX.heap[aG]? = some (.cells #[.int .i64 ((rd_T105 aB aA).f0.f0), .int .i64 ((rd_T105 aB aA).f0.f1), .int .i64 ((rd_T105 aB aA).f0.f2), .int .i64 ((rd_T105 aB aA).f1)] 105 (0, 0))) := ⟨by rw [← hq_]; exact P4 aC⟩; have n2_ : Aside0 (Below w.heap.size w cX) := ⟨by rw [← hq_]; exact K2 HB aF.out aK.out⟩; clear hq_; (try clear aD)
             (try clear aC)
             (try clear HB)
             have aD := n0_; have aC := n1_; have HB := n2_; clear n0_ n1_ n2_; replace aD := am (blk_drew aD.out); replace aC := am (blk_drew aC.out); replace HB := am (below_drew1 HB.out); refine start_ (n := 21) (S := fun w' => ce4 w' aG (.int .i64 ((rd_T105 aB aA).f0.f0)) (.int .i64 ((rd_T105 aB aA).f0.f1)) (.int .i64 ((rd_T105 aB aA).f0.f2)) (.int .i64 ((rd_T105 aB aA).f1)) (de2 w' aV (.int .i64 aJ) (.slice (some aQ) aB.length aR))) (ds := []) (tf 0 21) (by kernel_rfl) rfl rfl ⟨z0 _ aC.out, z1 _ aC.out, z2 _ aC.out, z3 _ aC.out, z0 _ aD.out, z1 _ aD.out⟩ (fun aI => ?_); refine with_tabW impl_CacheOk.tab7 impl_CacheOk.bits7 (fun aH bD => ?_); generalize cX.drew = eS at aD aC HB aI ⊢; refine pv aH 0 34 (tf 1 20) ?_; refine tk 1 (some 35) (tf 2 19) (take_ofW aH.out bD.out (by kernel_rfl)) aI ?_; refine one_ (i := 2) (N := some 36) (tf 3 18) rfl rfl (one_of aH.out (by kernel_rfl)) (by decide) (fun K hK => ?_); refine goes_ Tryz.func91 (by kernel_rfl) rfl #[.agg #[.int .i64 ((rd_T105 aB aA).f0.f0), .int .i64 ((rd_T105 aB aA).f0.f1), .int .i64 ((rd_T105 aB aA).f0.f2)]] (by rfl) rfl rfl MT ?_; with_reducible refine (impl_isCall.calls ((rd_T105 aB aA).f0.f0) ((rd_T105 aB aA).f0.f1) ((rd_T105 aB aA).f0.f2) true _ cP.out).mono ?_
             rintro e eT ⟨rfl, hb⟩; refine ⟨_, rfl, ?_⟩; replace aD := am (BB aD hb); replace aC := am (BB aC hb); replace HB := bl (K2 HB aF.out aK.out) hb; (try clear hb)
             (try clear hb2)
             (try clear hk)
             (try clear hi)
             refine hK.out _ _ ⟨z0 _ aC.out, z1 _ aC.out, z2 _ aC.out, z3 _ aC.out, z0 _ aD.out, z1 _ aD.out⟩ (fun aI => ?_); clear hK K; refine nm (some 36) ?_; refine pv aH 3 37 (tf 4 17) ?_; refine pv aH 4 38 (tf 5 16) ?_; refine pv aH 5 39 (tf 6 15) ?_; refine pv aH 7 41 (tr [6, 1, 1, 13]) ?_; refine pv aH 8 42 (tr [6, 1, 2, 12]) ?_; refine tk 6 (some 40) (tf 9 12) (take_ofW aH.out bD.out (by kernel_rfl)) aI ?_; refine tk 9 (some 43) (tf 10 11) (take_ofW aH.out bD.out (by kernel_rfl)) aI ?_; refine one_ (i := 10) (N := some 44) (tf 11 10) rfl rfl (one_of aH.out (by kernel_rfl)) (by decide) (fun K hK => ?_); refine goes_ Tryz.func92 (by kernel_rfl) rfl #[.slice A0 l0.length c0, .agg #[.int .i64 ((rd_T105 aB aA).f0.f0), .int .i64 ((rd_T105 aB aA).f0.f1), .int .i64 ((rd_T105 aB aA).f0.f2)]] (by rfl) rfl rfl MT ?_; with_reducible refine (impl_first.calls _ _ l0 ((rd_T105 aB aA).f0.f0) ((rd_T105 aB aA).f0.f1) ((rd_T105 aB aA).f0.f2) aW _ ?_ ?_ dR.out).mono ?_
             exact KD cD HB; exact cE.out; rintro e eU ⟨rfl, hb⟩; refine ⟨_, rfl, ?_⟩; replace aD := am (BB aD hb); replace aC := am (BB aC hb); replace HB := bl (K2 HB aF.out aK.out) hb; (try clear hb)
             (try clear hb2)
             (try clear hk)
             (try clear hi)
             have dS : (aA : Int) ≤ ((aB.length : Int) : Int) := OD; obtain ⟨i034, bW, _, hsz34, _⟩ := info_parts info105; have hroom34 : aB.length ≤ aR := bV.out; have hC34 : Kd.C k105 _ (some aQ) aB.length aB := aY.out; have hcut34 := cut_to (P := Tryz.prog) 37 105 .i64 Tryz.underlying37 bW (some aQ) aB.length aR aA (OD) dS hroom34; have bZ := Kd.C_take (m := (aA : Int).toNat) hC34 (by omega); have cA : aZ.length = (aA : Int).toNat := (by rw [Ny108.out, List.length_take]; omega); rw [← Ny108.out] at bZ; rw [← cA] at hcut34; have bN := Aside0.mk bZ; have bO := am (show aZ.length ≤ aR from by omega); clear bZ hC34 hroom34 bW hsz34; have KY34 := Aside0.mk cA; clear cA; replace dS := eq_true dS; refine hK.out _ _ ⟨z0 _ aC.out, z1 _ aC.out, z2 _ aC.out, z3 _ aC.out, z0 _ aD.out, z1 _ aD.out⟩ (fun aI => ?_); clear hK K; refine nm (some 44) ?_; refine pv aH 11 45 (tf 12 9) ?_; refine pv aH 12 46 (tf 13 8) ?_; refine pv aH 13 47 (tf 14 7) ?_; refine pv aH 14 48 (tf 15 6) ?_; refine pv aH 16 50 (tr [15, 1, 1, 4]) ?_; refine pv aH 18 52 (tr [15, 1, 1, 1, 1, 2]) ?_; refine tk 15 (some 49) (tr [17, 1, 1, 2]) (take_ofW aH.out bD.out (by kernel_rfl)) aI ?_; refine pv aH 17 51 (tf 19 2) ?_; refine one_ (i := 19) (N := some 53) (tf 20 1) rfl rfl (one_of aH.out (by kernel_rfl)) (by decide) (fun K hK => ?_); refine goes_ Tryz.func93 (by kernel_rfl) rfl #[.slice (some aQ) aZ.length aR, .func (.func 90) #[] #[.pointer (some ⟨aG, 0, none⟩)]] (by rfl) rfl rfl MT ?_; with_reducible refine (slices_ContainsFunc_Seen.calls _ _ aZ ((rd_T105 aB aA).f0.f0) ((rd_T105 aB aA).f0.f1) ((rd_T105 aB aA).f0.f2) ((rd_T105 aB aA).f1) aG true _ ?_ ?_ ?_ eA.out).mono ?_
             exact KD bN HB; exact bO.out; exact (KB aC); rintro e eV ⟨rfl, hb⟩; refine ⟨_, rfl, ?_⟩; replace aD := am (BB aD hb); replace aC := am (BB aC hb); replace HB := bl (K2 HB aF.out aK.out) hb; (try clear hb)
             (try clear hb2)
             (try clear hk)
             (try clear hi)
             refine hK.out _ _ ⟨z0 _ aC.out, z1 _ aC.out, z2 _ aC.out, z3 _ aC.out, z0 _ aD.out, z1 _ aD.out⟩ (fun aI => ?_); clear hK K; refine nm (some 53) ?_; refine pv aH 20 54 (tf 21 0) ?_; refine done_ (done_of aH.out (by kernel_rfl)) ?_; try go_wp2
             go_ret
             exact ⟨ER, K2 HB aF.out aK.out⟩
            ·replace cR := Bool.eq_false_iff.mpr cR
             subst cR; have H1 := nf H; clear H; have H := H1; clear H1; have H' := Aside0.mk H; clear H; have aS : 0 ≤ (aA : Int) := OD; have aT : aA < (aB.length : Int) := OD; obtain ⟨aQ, bC, aL, aM, aN, aO⟩ := at_T105 aY.out aA aS aT; cases bC
             replace aL := CX HB.out aL; replace aM := CX HB.out aM; replace aN := CX HB.out aN; replace aO := CX HB.out aO; replace aS := eq_true aS; replace aT := eq_true aT; try go_wp2_with (first | ((with_reducible refine gate_dst (N := 6) rfl ?_); (try (refine gate_guard (by rfl) ?_; dsimp only)); refine box_event rfl (N := 6) rfl (cs := #[.int .i64 0, .int .i64 0, .int .i64 0, .int .i64 0]) (t := 105) BX ?_; intro aG hg eE aU hb; have aC := am (aU); have aX := am (GH1 HB aF.out hg); have aK := aX; replace HB := bl (K1 HB aF.out) hb; have aE := am (NL aD hg); have aP := am (NG aD hg); replace aD := am (BB aD hb); clear hb aU hg; have eF := aP.out; have eG := aE.out; have ⟨_, _, _, _, _⟩ := y4 eE aC.out))
             generalize hq_ : ((((eE.setCell ⟨aG, 0, none⟩ (.int .i64 ((rd_T105 aB aA).f0.f0))).setCell ⟨aG, 1, none⟩ (.int .i64 ((rd_T105 aB aA).f0.f1))).setCell ⟨aG, 2, none⟩ (.int .i64 ((rd_T105 aB aA).f0.f2))).setCell ⟨aG, 3, none⟩ (.int .i64 ((rd_T105 aB aA).f1))) = dD; have n0_ : Aside0 (dD.heap[aV]? = some (.cells #[.int .i64 aJ, .slice (some aQ) aB.length aR] 39 (0, 0))) := ⟨by rw [← hq_]; refine BD ?_; refine blk_far ?_ aE.out _; refine BD ?_; refine blk_far ?_ aE.out _; refine BD ?_; refine blk_far ?_ aE.out _; refine BD ?_; refine blk_far ?_ aE.out _; refine BD ?_; exact aD.out⟩; have n1_ : Aside0 (dD.heap[aG]? = some (.cells #[.int .i64 ((rd_T105 aB aA).f0.f0), .int .i64 ((rd_T105 aB aA).f0.f1), .int .i64 ((rd_T105 aB aA).f0.f2), .int .i64 ((rd_T105 aB aA).f1)] 105 (0, 0))) := ⟨by rw [← hq_]; exact P4 aC⟩; have n2_ : Aside0 (Below w.heap.size w dD) := ⟨by rw [← hq_]; exact K2 HB aF.out aK.out⟩; clear hq_; (try clear aD)
             (try clear aC)
             (try clear HB)
             have aD := n0_; have aC := n1_; have HB := n2_; clear n0_ n1_ n2_; replace aD := am (blk_drew aD.out); replace aC := am (blk_drew aC.out); replace HB := am (below_drew1 HB.out); refine start_ (n := 21) (S := fun w' => ce4 w' aG (.int .i64 ((rd_T105 aB aA).f0.f0)) (.int .i64 ((rd_T105 aB aA).f0.f1)) (.int .i64 ((rd_T105 aB aA).f0.f2)) (.int .i64 ((rd_T105 aB aA).f1)) (de2 w' aV (.int .i64 aJ) (.slice (some aQ) aB.length aR))) (ds := []) (tf 0 21) (by kernel_rfl) rfl rfl ⟨z0 _ aC.out, z1 _ aC.out, z2 _ aC.out, z3 _ aC.out, z0 _ aD.out, z1 _ aD.out⟩ (fun aI => ?_); refine with_tabW impl_CacheOk.tab7 impl_CacheOk.bits7 (fun aH bD => ?_); generalize dD.drew = eW at aD aC HB aI ⊢; refine pv aH 0 34 (tf 1 20) ?_; refine tk 1 (some 35) (tf 2 19) (take_ofW aH.out bD.out (by kernel_rfl)) aI ?_; refine one_ (i := 2) (N := some 36) (tf 3 18) rfl rfl (one_of aH.out (by kernel_rfl)) (by decide) (fun K hK => ?_); refine goes_ Tryz.func91 (by kernel_rfl) rfl #[.agg #[.int .i64 ((rd_T105 aB aA).f0.f0), .int .i64 ((rd_T105 aB aA).f0.f1), .int .i64 ((rd_T105 aB aA).f0.f2)]] (by rfl) rfl rfl MT ?_; with_reducible refine (impl_isCall.calls ((rd_T105 aB aA).f0.f0) ((rd_T105 aB aA).f0.f1) ((rd_T105 aB aA).f0.f2) true _ cP.out).mono ?_
             rintro e eX ⟨rfl, hb⟩; refine ⟨_, rfl, ?_⟩; replace aD := am (BB aD hb); replace aC := am (BB aC hb); replace HB := bl (K2 HB aF.out aK.out) hb; (try clear hb)
             (try clear hb2)
             (try clear hk)
             (try clear hi)
             refine hK.out _ _ ⟨z0 _ aC.out, z1 _ aC.out, z2 _ aC.out, z3 _ aC.out, z0 _ aD.out, z1 _ aD.out⟩ (fun aI => ?_); clear hK K; refine nm (some 36) ?_; refine pv aH 3 37 (tf 4 17) ?_; refine pv aH 4 38 (tf 5 16) ?_; refine pv aH 5 39 (tf 6 15) ?_; refine pv aH 7 41 (tr [6, 1, 1, 13]) ?_; refine pv aH 8 42 (tr [6, 1, 2, 12]) ?_; refine tk 6 (some 40) (tf 9 12) (take_ofW aH.out bD.out (by kernel_rfl)) aI ?_; refine tk 9 (some 43) (tf 10 11) (take_ofW aH.out bD.out (by kernel_rfl)) aI ?_; refine one_ (i := 10) (N := some 44) (tf 11 10) rfl rfl (one_of aH.out (by kernel_rfl)) (by decide) (fun K hK => ?_); refine goes_ Tryz.func92 (by kernel_rfl) rfl #[.slice A0 l0.length c0, .agg #[.int .i64 ((rd_T105 aB aA).f0.f0), .int .i64 ((rd_T105 aB aA).f0.f1), .int .i64 ((rd_T105 aB aA).f0.f2)]] (by rfl) rfl rfl MT ?_; with_reducible refine (impl_first.calls _ _ l0 ((rd_T105 aB aA).f0.f0) ((rd_T105 aB aA).f0.f1) ((rd_T105 aB aA).f0.f2) aW _ ?_ ?_ dR.out).mono ?_
             exact KD cD HB; exact cE.out; rintro e eY ⟨rfl, hb⟩; refine ⟨_, rfl, ?_⟩; replace aD := am (BB aD hb); replace aC := am (BB aC hb); replace HB := bl (K2 HB aF.out aK.out) hb; (try clear hb)
             (try clear hb2)
             (try clear hk)
             (try clear hi)
             have dT : (aA : Int) ≤ ((aB.length : Int) : Int) := OD; obtain ⟨i043, bX, _, hsz43, _⟩ := info_parts info105; have hroom43 : aB.length ≤ aR := bV.out; have hC43 : Kd.C k105 _ (some aQ) aB.length aB := aY.out; have hcut43 := cut_to (P := Tryz.prog) 37 105 .i64 Tryz.underlying37 bX (some aQ) aB.length aR aA (OD) dT hroom43; have cB := Kd.C_take (m := (aA : Int).toNat) hC43 (by omega); have cC : aZ.length = (aA : Int).toNat := (by rw [Ny108.out, List.length_take]; omega); rw [← Ny108.out] at cB; rw [← cC] at hcut43; have bN := Aside0.mk cB; have bO := am (show aZ.length ≤ aR from by omega); clear cB hC43 hroom43 bX hsz43; have KY43 := Aside0.mk cC; clear cC; replace dT := eq_true dT; refine hK.out _ _ ⟨z0 _ aC.out, z1 _ aC.out, z2 _ aC.out, z3 _ aC.out, z0 _ aD.out, z1 _ aD.out⟩ (fun aI => ?_); clear hK K; refine nm (some 44) ?_; refine pv aH 11 45 (tf 12 9) ?_; refine pv aH 12 46 (tf 13 8) ?_; refine pv aH 13 47 (tf 14 7) ?_; refine pv aH 14 48 (tf 15 6) ?_; refine pv aH 16 50 (tr [15, 1, 1, 4]) ?_; refine pv aH 18 52 (tr [15, 1, 1, 1, 1, 2]) ?_; refine tk 15 (some 49) (tr [17, 1, 1, 2]) (take_ofW aH.out bD.out (by kernel_rfl)) aI ?_; refine pv aH 17 51 (tf 19 2) ?_; refine one_ (i := 19) (N := some 53) (tf 20 1) rfl rfl (one_of aH.out (by kernel_rfl)) (by decide) (fun K hK => ?_); refine goes_ Tryz.func93 (by kernel_rfl) rfl #[.slice (some aQ) aZ.length aR, .func (.func 90) #[] #[.pointer (some ⟨aG, 0, none⟩)]] (by rfl) rfl rfl MT ?_; with_reducible refine (slices_ContainsFunc_Seen.calls _ _ aZ ((rd_T105 aB aA).f0.f0) ((rd_T105 aB aA).f0.f1) ((rd_T105 aB aA).f0.f2) ((rd_T105 aB aA).f1) aG false _ ?_ ?_ ?_ eA.out).mono ?_
             exact KD bN HB; exact bO.out; exact (KB aC); rintro e eZ ⟨rfl, hb⟩; refine ⟨_, rfl, ?_⟩; replace aD := am (BB aD hb); replace aC := am (BB aC hb); replace HB := bl (K2 HB aF.out aK.out) hb; (try clear hb)
             (try clear hb2)
             (try clear hk)
             (try clear hi)
             refine hK.out _ _ ⟨z0 _ aC.out, z1 _ aC.out, z2 _ aC.out, z3 _ aC.out, z0 _ aD.out, z1 _ aD.out⟩ (fun aI => ?_); clear hK K; refine nm (some 53) ?_; refine pv aH 20 54 (tf 21 0) ?_; refine done_ (done_of aH.out (by kernel_rfl)) ?_; try go_wp2
             go_roundg k2
             case measure => have := HJ2.out; have := HK2.out; omega
             case rel => exact ⟨(wrap64 (aA + 1)), (by first | rfl | (simp; done) | (simp [*]; done)), H', ⟨by have := HJ2.out; have := HK2.out; omega⟩, ⟨KB aD⟩, ⟨K2 HB aF.out aK.out⟩⟩
           ·rw [if_neg cL] at H
            exact absurd H (by simp)
          ·rw [if_neg bY] at H
           have c22b0 : (((rd_T105 aB aA).f1) == aW) = false := beq_eq_false_iff_ne.mpr bY; have c22b1 : (((rd_T105 aB aA).f1) != aW) = true := bne_iff_ne.mpr bY; obtain rfl := sj H; have aS : 0 ≤ (aA : Int) := OD; have aT : aA < (aB.length : Int) := OD; obtain ⟨aQ, bC, aL, aM, aN, aO⟩ := at_T105 aY.out aA aS aT; cases bC
           replace aL := CX HB.out aL; replace aM := CX HB.out aM; replace aN := CX HB.out aN; replace aO := CX HB.out aO; replace aS := eq_true aS; replace aT := eq_true aT; try go_wp2_with (first | ((with_reducible refine gate_dst (N := 6) rfl ?_); (try (refine gate_guard (by rfl) ?_; dsimp only)); refine box_event rfl (N := 6) rfl (cs := #[.int .i64 0, .int .i64 0, .int .i64 0, .int .i64 0]) (t := 105) BX ?_; intro aG hg eH aU hb; have aC := am (aU); have aX := am (GH1 HB aF.out hg); have aK := aX; replace HB := bl (K1 HB aF.out) hb; have aE := am (NL aD hg); have aP := am (NG aD hg); replace aD := am (BB aD hb); clear hb aU hg; have eI := aP.out; have eJ := aE.out; have ⟨_, _, _, _, _⟩ := y4 eH aC.out))
           generalize hq_ : ((((eH.setCell ⟨aG, 0, none⟩ (.int .i64 ((rd_T105 aB aA).f0.f0))).setCell ⟨aG, 1, none⟩ (.int .i64 ((rd_T105 aB aA).f0.f1))).setCell ⟨aG, 2, none⟩ (.int .i64 ((rd_T105 aB aA).f0.f2))).setCell ⟨aG, 3, none⟩ (.int .i64 ((rd_T105 aB aA).f1))) = dJ; have n0_ : Aside0 (dJ.heap[aV]? = some (.cells #[.int .i64 aJ, .slice (some aQ) aB.length aR] 39 (0, 0))) := ⟨by rw [← hq_]; refine BD ?_; refine blk_far ?_ aE.out _; refine BD ?_; refine blk_far ?_ aE.out _; refine BD ?_; refine blk_far ?_ aE.out _; refine BD ?_; refine blk_far ?_ aE.out _; refine BD ?_; exact aD.out⟩; have n1_ : Aside0 (dJ.heap[aG]? = some (.cells #[.int .i64 ((rd_T105 aB aA).f0.f0), .int .i64 ((rd_T105 aB aA).f0.f1), .int .i64 ((rd_T105 aB aA).f0.f2), .int .i64 ((rd_T105 aB aA).f1)] 105 (0, 0))) := ⟨by rw [← hq_]; exact P4 aC⟩; have n2_ : Aside0 (Below w.heap.size w dJ) := ⟨by rw [← hq_]; exact K2 HB aF.out aK.out⟩; clear hq_; (try clear aD)
           (try clear aC)
           (try clear HB)
           have aD := n0_; have aC := n1_; have HB := n2_; clear n0_ n1_ n2_; replace aD := am (blk_drew aD.out); replace aC := am (blk_drew aC.out); replace HB := am (below_drew1 HB.out); refine start_ (n := 21) (S := fun w' => de4 w' aG (.int .i64 ((rd_T105 aB aA).f0.f0)) (.int .i64 ((rd_T105 aB aA).f0.f1)) (.int .i64 ((rd_T105 aB aA).f0.f2)) (.int .i64 ((rd_T105 aB aA).f1))) (ds := []) (tf 0 21) (by kernel_rfl) rfl rfl ⟨z0 _ aC.out, z1 _ aC.out, z2 _ aC.out, z3 _ aC.out⟩ (fun aI => ?_); refine with_tabW impl_CacheOk.tab7 impl_CacheOk.bits7 (fun aH bD => ?_); generalize dJ.drew = fA at aD aC HB aI ⊢; refine pv aH 0 34 (tf 1 20) ?_; refine tk 1 (some 35) (tf 2 19) (take_ofW aH.out bD.out (by kernel_rfl)) aI ?_; refine one_ (i := 2) (N := some 36) (tf 3 18) rfl rfl (one_of aH.out (by kernel_rfl)) (by decide) (fun K hK => ?_); refine goes_ Tryz.func91 (by kernel_rfl) rfl #[.agg #[.int .i64 ((rd_T105 aB aA).f0.f0), .int .i64 ((rd_T105 aB aA).f0.f1), .int .i64 ((rd_T105 aB aA).f0.f2)]] (by rfl) rfl rfl MT ?_; with_reducible refine (impl_isCall.calls ((rd_T105 aB aA).f0.f0) ((rd_T105 aB aA).f0.f1) ((rd_T105 aB aA).f0.f2) true _ cP.out).mono ?_
           rintro e fB ⟨rfl, hb⟩; refine ⟨_, rfl, ?_⟩; replace aD := am (BB aD hb); replace aC := am (BB aC hb); replace HB := bl (K2 HB aF.out aK.out) hb; (try clear hb)
           (try clear hb2)
           (try clear hk)
           (try clear hi)
           refine hK.out _ _ ⟨z0 _ aC.out, z1 _ aC.out, z2 _ aC.out, z3 _ aC.out⟩ (fun aI => ?_); clear hK K; refine nm (some 36) ?_; refine pv aH 3 37 (tf 4 17) ?_; refine pv aH 4 38 (tf 5 16) ?_; refine pv aH 5 39 (tf 6 15) ?_; refine pv aH 7 41 (tr [6, 1, 1, 13]) ?_; refine pv aH 8 42 (tr [6, 1, 2, 12]) ?_; refine tk 6 (some 40) (tf 9 12) (take_ofW aH.out bD.out (by kernel_rfl)) aI ?_; refine tk 9 (some 43) (tf 10 11) (take_ofW aH.out bD.out (by kernel_rfl)) aI ?_; refine one_ (i := 10) (N := some 44) (tf 11 10) rfl rfl (one_of aH.out (by kernel_rfl)) (by decide) (fun K hK => ?_); refine goes_ Tryz.func92 (by kernel_rfl) rfl #[.slice A0 l0.length c0, .agg #[.int .i64 ((rd_T105 aB aA).f0.f0), .int .i64 ((rd_T105 aB aA).f0.f1), .int .i64 ((rd_T105 aB aA).f0.f2)]] (by rfl) rfl rfl MT ?_; with_reducible refine (impl_first.calls _ _ l0 ((rd_T105 aB aA).f0.f0) ((rd_T105 aB aA).f0.f1) ((rd_T105 aB aA).f0.f2) aW _ ?_ ?_ dR.out).mono ?_
           exact KD cD HB; exact cE.out; rintro e fC ⟨rfl, hb⟩; refine ⟨_, rfl, ?_⟩; replace aD := am (BB aD hb); replace aC := am (BB aC hb); replace HB := bl (K2 HB aF.out aK.out) hb; (try clear hb)
           (try clear hb2)
           (try clear hk)
           (try clear hi)
           refine hK.out _ _ ⟨z0 _ aC.out, z1 _ aC.out, z2 _ aC.out, z3 _ aC.out⟩ (fun aI => ?_); clear hK K; refine nm (some 44) ?_; refine pv aH 11 45 (tf 12 9) ?_; refine pv aH 12 46 (tf 13 8) ?_; refine pv aH 13 47 (tf 14 7) ?_; refine pw aH 14 48 (tf 15 6) ?_; refine pw aH 15 49 (tf 16 5) ?_; refine pw aH 16 50 (tf 17 4) ?_; refine pw aH 17 51 (tf 18 3) ?_; refine pw aH 18 52 (tf 19 2) ?_; refine pw aH 19 53 (tf 20 1) ?_; refine pv aH 20 54 (tf 21 0) ?_; refine done_ (done_of aH.out (by kernel_rfl)) ?_; try go_wp2
           go_ret
           exact ⟨ER, K2 HB aF.out aK.out⟩
         ·replace cQ := Bool.eq_false_iff.mpr cQ
          subst cQ; have H1 := nf H; clear H; have H := H1; clear H1; obtain rfl := sj H; have aS : 0 ≤ (aA : Int) := OD; have aT : aA < (aB.length : Int) := OD; obtain ⟨aQ, bC, aL, aM, aN, aO⟩ := at_T105 aY.out aA aS aT; cases bC
          replace aL := CX HB.out aL; replace aM := CX HB.out aM; replace aN := CX HB.out aN; replace aO := CX HB.out aO; replace aS := eq_true aS; replace aT := eq_true aT; try go_wp2_with (first | ((with_reducible refine gate_dst (N := 6) rfl ?_); (try (refine gate_guard (by rfl) ?_; dsimp only)); refine box_event rfl (N := 6) rfl (cs := #[.int .i64 0, .int .i64 0, .int .i64 0, .int .i64 0]) (t := 105) BX ?_; intro aG hg eK aU hb; have aC := am (aU); have aX := am (GH1 HB aF.out hg); have aK := aX; replace HB := bl (K1 HB aF.out) hb; have aE := am (NL aD hg); have aP := am (NG aD hg); replace aD := am (BB aD hb); clear hb aU hg; have eL := aP.out; have eM := aE.out; have ⟨_, _, _, _, _⟩ := y4 eK aC.out))
          generalize hq_ : ((((eK.setCell ⟨aG, 0, none⟩ (.int .i64 ((rd_T105 aB aA).f0.f0))).setCell ⟨aG, 1, none⟩ (.int .i64 ((rd_T105 aB aA).f0.f1))).setCell ⟨aG, 2, none⟩ (.int .i64 ((rd_T105 aB aA).f0.f2))).setCell ⟨aG, 3, none⟩ (.int .i64 ((rd_T105 aB aA).f1))) = dP; have n0_ : Aside0 (dP.heap[aV]? = some (.cells #[.int .i64 aJ, .slice (some aQ) aB.length aR] 39 (0, 0))) := ⟨by rw [← hq_]; refine BD ?_; refine blk_far ?_ aE.out _; refine BD ?_; refine blk_far ?_ aE.out _; refine BD ?_; refine blk_far ?_ aE.out _; refine BD ?_; refine blk_far ?_ aE.out _; refine BD ?_; exact aD.out⟩; have n1_ : Aside0 (dP.heap[aG]? = some (.cells #[.int .i64 ((rd_T105 aB aA).f0.f0), .int .i64 ((rd_T105 aB aA).f0.f1), .int .i64 ((rd_T105 aB aA).f0.f2), .int .i64 ((rd_T105 aB aA).f1)] 105 (0, 0))) := ⟨by rw [← hq_]; exact P4 aC⟩; have n2_ : Aside0 (Below w.heap.size w dP) := ⟨by rw [← hq_]; exact K2 HB aF.out aK.out⟩; clear hq_; (try clear aD)
          (try clear aC)
          (try clear HB)
          have aD := n0_; have aC := n1_; have HB := n2_; clear n0_ n1_ n2_; replace aD := am (blk_drew aD.out); replace aC := am (blk_drew aC.out); replace HB := am (below_drew1 HB.out); refine start_ (n := 21) (S := fun w' => de4 w' aG (.int .i64 ((rd_T105 aB aA).f0.f0)) (.int .i64 ((rd_T105 aB aA).f0.f1)) (.int .i64 ((rd_T105 aB aA).f0.f2)) (.int .i64 ((rd_T105 aB aA).f1))) (ds := []) (tf 0 21) (by kernel_rfl) rfl rfl ⟨z0 _ aC.out, z1 _ aC.out, z2 _ aC.out, z3 _ aC.out⟩ (fun aI => ?_); refine with_tabW impl_CacheOk.tab7 impl_CacheOk.bits7 (fun aH bD => ?_); generalize dP.drew = fD at aD aC HB aI ⊢; refine pv aH 0 34 (tf 1 20) ?_; refine tk 1 (some 35) (tf 2 19) (take_ofW aH.out bD.out (by kernel_rfl)) aI ?_; refine one_ (i := 2) (N := some 36) (tf 3 18) rfl rfl (one_of aH.out (by kernel_rfl)) (by decide) (fun K hK => ?_); refine goes_ Tryz.func91 (by kernel_rfl) rfl #[.agg #[.int .i64 ((rd_T105 aB aA).f0.f0), .int .i64 ((rd_T105 aB aA).f0.f1), .int .i64 ((rd_T105 aB aA).f0.f2)]] (by rfl) rfl rfl MT ?_; with_reducible refine (impl_isCall.calls ((rd_T105 aB aA).f0.f0) ((rd_T105 aB aA).f0.f1) ((rd_T105 aB aA).f0.f2) false _ cP.out).mono ?_
          rintro e fE ⟨rfl, hb⟩; refine ⟨_, rfl, ?_⟩; replace aD := am (BB aD hb); replace aC := am (BB aC hb); replace HB := bl (K2 HB aF.out aK.out) hb; (try clear hb)
          (try clear hb2)
          (try clear hk)
          (try clear hi)
          refine hK.out _ _ ⟨z0 _ aC.out, z1 _ aC.out, z2 _ aC.out, z3 _ aC.out⟩ (fun aI => ?_); clear hK K; refine nm (some 36) ?_; refine pv aH 3 37 (tf 4 17) ?_; refine pv aH 4 38 (tf 5 16) ?_; refine pw aH 5 39 (tf 6 15) ?_; refine pw aH 6 40 (tf 7 14) ?_; refine pw aH 7 41 (tf 8 13) ?_; refine pw aH 8 42 (tf 9 12) ?_; refine pw aH 9 43 (tf 10 11) ?_; refine pw aH 10 44 (tf 11 10) ?_; refine pw aH 11 45 (tf 12 9) ?_; refine pv aH 12 46 (tf 13 8) ?_; refine pv aH 13 47 (tf 14 7) ?_; refine pw aH 14 48 (tf 15 6) ?_; refine pw aH 15 49 (tf 16 5) ?_; refine pw aH 16 50 (tf 17 4) ?_; refine pw aH 17 51 (tf 18 3) ?_; refine pw aH 18 52 (tf 19 2) ?_; refine pw aH 19 53 (tf 20 1) ?_; refine pv aH 20 54 (tf 21 0) ?_; refine done_ (done_of aH.out (by kernel_rfl)) ?_; try go_wp2
          go_ret
          exact ⟨ER, K2 HB aF.out aK.out⟩
        ·rw [if_neg cO] at H
         exact absurd H (by simp)
       ·rw [if_neg cN] at H
        exact absurd H (by simp)
      ·rw [if_neg cF] at H
       have c16b0 : decide (aA < (aB.length : Int)) = false := decide_eq_false cF; clear cF; obtain rfl := sj H; go_wp2
       go_ret
       exact ⟨ER, K1 HB aF.out⟩
def impl_GateOk.j0 : Nat → Bool → Int → List (S92) → Int → List (S105) → List (S48) → List (S48) → Option (Bool)
 | 0, _, _, _, _, _, _, _ => none
 | k + 1, x32, x102000, x102001, x102002, x102003, x102004, x102005 => if x32 = true then (some false) else ((impl_ascending_tunOf.f k x102004 x102000).bind fun t104 => (if t104 = true then ((impl_ascending_spiOf.f k x102005 x102000).bind fun t105 => (some t105)) else (some false)))
def impl_GateOk.f (k : Nat) (a0_0 : Int) (l0_1 : List (S92)) (a0_2 : Int) (l0_3 : List (S105)) (l0_4 : List (S48)) (l0_5 : List (S48)) : Option (Bool) := (impl_in.f a0_0 0 1000000).bind fun t102 => (if t102 = true then (if a0_2 = 4 then ((impl_CacheOk.f k l0_1 a0_2 l0_3).bind fun t103 => (if t103 = true then (if (l0_4.length : Int) > 4 then (impl_GateOk.j0 k true a0_0 l0_1 a0_2 l0_3 l0_4 l0_5) else (impl_GateOk.j0 k (decide ((l0_5.length : Int) > 6)) a0_0 l0_1 a0_2 l0_3 l0_4 l0_5)) else (impl_GateOk.j0 k true a0_0 l0_1 a0_2 l0_3 l0_4 l0_5))) else (impl_GateOk.j0 k true a0_0 l0_1 a0_2 l0_3 l0_4 l0_5)) else (impl_GateOk.j0 k true a0_0 l0_1 a0_2 l0_3 l0_4 l0_5))
theorem impl_GateOk.calls (k : Nat) (aB : Int) (aQ : Option Addr) (aR : Nat) (aG : List (S92)) (aE : Int) (aS : Option Addr) (aT : Nat) (aH : List (S105)) (aJ : Option Addr) (aK : Nat) (aC : List (S48)) (aU : Option Addr) (aV : Nat) (aF : List (S48)) (r : Bool) (w : World) (cV : Kd.C k92 w aQ aG.length aG) (cW : aG.length ≤ aR) (cX : Kd.C k105 w aS aH.length aH) (cY : aH.length ≤ aT) (cZ : Kd.C k48 w aJ aC.length aC) (dA : aC.length ≤ aK) (dB : Kd.C k48 w aU aF.length aF) (dC : aF.length ≤ aV) (h : impl_GateOk.f k aB aG aE aH aC aF = some r) :
  Calls Tryz.prog 31 #[.agg #[.int .i64 aB, .slice aQ aG.length aR, .int .i64 aE, .slice aS aH.length aT, .slice aJ aC.length aK, .slice aU aF.length aV]] w fun e w' => e = .returned (.bool r) ∧ Below w.heap.size w w' := by
 have eO := Tryz.underlying42; have eP := Tryz.underlying39; have aM := Aside0.mk cV; have aN := Aside0.mk cW; clear cV cW; have aO := Aside0.mk cX; have aP := Aside0.mk cY; clear cX cY; have dD := Aside0.mk cZ; have dE := Aside0.mk dA; clear cZ dA; have dF := Aside0.mk dB; have dG := Aside0.mk dC; clear dB dC; have HB := am (Below.refl w.heap.size w); have H : ((impl_in.f aB 0 1000000).bind fun aW => (if aW = true then (if aE = 4 then ((impl_CacheOk.f k aG aE aH).bind fun aL => (if aL = true then (if (aC.length : Int) > 4 then (impl_GateOk.j0 k true aB aG aE aH aC aF) else (impl_GateOk.j0 k (decide ((aF.length : Int) > 6)) aB aG aE aH aC aF)) else (impl_GateOk.j0 k true aB aG aE aH aC aF))) else (impl_GateOk.j0 k true aB aG aE aH aC aF)) else (impl_GateOk.j0 k true aB aG aE aH aC aF))) = some r := h; clear h; have eK := Aside0.mk H; clear H; go_enter Tryz.func31, Tryz.ntmps31
 go_upto_region 1 with (first | ((with_reducible refine gate_dst (N := 1) rfl ?_); (try (refine gate_guard (by rfl) ?_; dsimp only)); refine box_event rfl (N := 1) rfl (cs := #[.int .i64 aB, .slice aQ aG.length aR, .int .i64 aE, .slice aS aH.length aT, .slice aJ aC.length aK, .slice aU aF.length aV]) (t := 42) BX ?_; intro dH hg w3 dI hb; have aA := am (dI); have dJ := am (GH HB hg); have aD := dJ; replace HB := bl (KL HB) hb; clear hb dI hg))
 (try simp only [Act.put, List.setIfInBounds_toArray, List.set_cons_zero, List.set_cons_succ])
 go_cut [32] (fun eQ wc => ∃ (kq : Nat) (aI : Bool), eQ = .bool aI ∧ Aside0 (impl_GateOk.j0 kq aI aB aG aE aH aC aF = some r) ∧ Aside0 (kq ≤ k) ∧ Aside0 (wc.heap[dH]? = some (.cells #[.int .i64 aB, (.slice aQ aG.length aR), .int .i64 aE, (.slice aS aH.length aT), (.slice aJ aC.length aK), (.slice aU aF.length aV)] 42 (0, 0))) ∧ Aside0 (Below w.heap.size w wc))
 case first =>
  have H := eK.out; clear eK; replace H := bm H; obtain ⟨aW, eL, H⟩ := H; replace H : (if aW = true then (if aE = 4 then ((impl_CacheOk.f k aG aE aH).bind fun aL => (if aL = true then (if (aC.length : Int) > 4 then (impl_GateOk.j0 k true aB aG aE aH aC aF) else (impl_GateOk.j0 k (decide ((aF.length : Int) > 6)) aB aG aE aH aC aF)) else (impl_GateOk.j0 k true aB aG aE aH aC aF))) else (impl_GateOk.j0 k true aB aG aE aH aC aF)) else (impl_GateOk.j0 k true aB aG aE aH aC aF)) = some r := H; have A4 := Aside0.mk eL; clear eL; by_cases c5 : aW = true
  ·subst c5
   have H1 := pf H; clear H; have H := H1; clear H1; by_cases c6 : aE = 4
   ·rw [if_pos c6] at H
    have c6b0 : (aE == 4) = true := beq_iff_eq.mpr c6; have c6b1 : (aE != 4) = false := bne_eq_false_iff_eq.mpr c6; clear c6; (first | rw [c6b0] | (simp only [i64_w, i32_w]; rw [c6b0]) | skip)
    replace H := bm H; obtain ⟨aL, eM, H⟩ := H; replace H : (if aL = true then (if (aC.length : Int) > 4 then (impl_GateOk.j0 k true aB aG aE aH aC aF) else (impl_GateOk.j0 k (decide ((aF.length : Int) > 6)) aB aG aE aH aC aF)) else (impl_GateOk.j0 k true aB aG aE aH aC aF)) = some r := H; have A7 := Aside0.mk eM; clear eM; by_cases c8 : aL = true
    ·subst c8
     have H1 := pf H; clear H; have H := H1; clear H1; by_cases c9 : (aC.length : Int) > 4
     ·rw [if_pos c9] at H
      have c9b0 : decide (4 < (aC.length : Int)) = true := decide_eq_true c9; have c9b1 : decide (4 < aC.length) = true := decide_eq_true (by omega); clear c9; have H' := Aside0.mk H; clear H; obtain ⟨aX, aY, aZ, bA, bB, bC, bD⟩ := y6 w3 aA.out; go_wp2_with (first | ((with_reducible refine gate_callee (f := 61) rfl ?_); refine goesL_ (some 5) rfl rfl Tryz.func61 (by kernel_rfl) rfl #[.int .i64 aB, .int .i64 0, .int .i64 1000000] rfl MT ?_; (with_reducible refine (impl_in.calls aB 0 1000000 true _ A4.out).mono ?_); rintro e w' ⟨rfl, ⟨nd, rfl⟩⟩; refine ⟨_, rfl, ?_⟩) | (go_at_call 62; (with_reducible refine (impl_CacheOk.calls k _ _ aG aE _ _ aH true _ ?_ ?_ ?_ ?_ A7.out).mono ?_); (repeat (first | exact (Kd.C_below aM.out (K1 HB aD.out)) | (with_reducible refine Kd.C_alloc ?_ _) | (with_reducible refine Kd.C_drewN ?_ _) | (with_reducible refine Kd.C_drew ?_))); exact aN.out; (repeat (first | exact (Kd.C_below aO.out (K1 HB aD.out)) | (with_reducible refine Kd.C_alloc ?_ _) | (with_reducible refine Kd.C_drewN ?_ _) | (with_reducible refine Kd.C_drew ?_))); exact aP.out; rintro e eR ⟨rfl, hb⟩; replace aA := am (BB aA hb); replace HB := bl (K1 HB aD.out) hb; (try clear hb); obtain ⟨bE, bF, bG, bH, bI, bJ, bK⟩ := y6 eR aA.out))
      go_meet
      case rel => exact ⟨_, (true), (by first | rfl | (simp; done) | (simp [*]; done)), H', ⟨by first | omega | exact Nat.le_refl _⟩, ⟨KB aA⟩, ⟨K1 HB aD.out⟩⟩
     ·rw [if_neg c9] at H
      have c9b0 : decide (4 < (aC.length : Int)) = false := decide_eq_false c9; have c9b1 : decide (4 < aC.length) = false := decide_eq_false (by omega); clear c9; have H' := Aside0.mk H; clear H; obtain ⟨bL, bM, bN, bO, bP, bQ, bR⟩ := y6 w3 aA.out; go_wp2_with (first | ((with_reducible refine gate_callee (f := 61) rfl ?_); refine goesL_ (some 5) rfl rfl Tryz.func61 (by kernel_rfl) rfl #[.int .i64 aB, .int .i64 0, .int .i64 1000000] rfl MT ?_; (with_reducible refine (impl_in.calls aB 0 1000000 true _ A4.out).mono ?_); rintro e w' ⟨rfl, ⟨nd, rfl⟩⟩; refine ⟨_, rfl, ?_⟩) | (go_at_call 62; (with_reducible refine (impl_CacheOk.calls k _ _ aG aE _ _ aH true _ ?_ ?_ ?_ ?_ A7.out).mono ?_); (repeat (first | exact (Kd.C_below aM.out (K1 HB aD.out)) | (with_reducible refine Kd.C_alloc ?_ _) | (with_reducible refine Kd.C_drewN ?_ _) | (with_reducible refine Kd.C_drew ?_))); exact aN.out; (repeat (first | exact (Kd.C_below aO.out (K1 HB aD.out)) | (with_reducible refine Kd.C_alloc ?_ _) | (with_reducible refine Kd.C_drewN ?_ _) | (with_reducible refine Kd.C_drew ?_))); exact aP.out; rintro e eS ⟨rfl, hb⟩; replace aA := am (BB aA hb); replace HB := bl (K1 HB aD.out) hb; (try clear hb); obtain ⟨bS, bT, bU, bV, bW, bX, bY⟩ := y6 eS aA.out))
      go_meet
      case rel => exact ⟨_, (decide ((aF.length : Int) > 6)), (by first | rfl | (simp; done) | (simp [*]; done)), H', ⟨by first | omega | exact Nat.le_refl _⟩, ⟨KB aA⟩, ⟨K1 HB aD.out⟩⟩
    ·replace c8 := Bool.eq_false_iff.mpr c8
     subst c8; have H1 := nf H; clear H; have H := H1; clear H1; have H' := Aside0.mk H; clear H; obtain ⟨bZ, cA, cB, cC, cD, cE, cF⟩ := y6 w3 aA.out; go_wp2_with (first | ((with_reducible refine gate_callee (f := 61) rfl ?_); refine goesL_ (some 5) rfl rfl Tryz.func61 (by kernel_rfl) rfl #[.int .i64 aB, .int .i64 0, .int .i64 1000000] rfl MT ?_; (with_reducible refine (impl_in.calls aB 0 1000000 true _ A4.out).mono ?_); rintro e w' ⟨rfl, ⟨nd, rfl⟩⟩; refine ⟨_, rfl, ?_⟩) | (go_at_call 62; (with_reducible refine (impl_CacheOk.calls k _ _ aG aE _ _ aH false _ ?_ ?_ ?_ ?_ A7.out).mono ?_); (repeat (first | exact (Kd.C_below aM.out (K1 HB aD.out)) | (with_reducible refine Kd.C_alloc ?_ _) | (with_reducible refine Kd.C_drewN ?_ _) | (with_reducible refine Kd.C_drew ?_))); exact aN.out; (repeat (first | exact (Kd.C_below aO.out (K1 HB aD.out)) | (with_reducible refine Kd.C_alloc ?_ _) | (with_reducible refine Kd.C_drewN ?_ _) | (with_reducible refine Kd.C_drew ?_))); exact aP.out; rintro e eV ⟨rfl, hb⟩; replace aA := am (BB aA hb); replace HB := bl (K1 HB aD.out) hb; (try clear hb)))
     go_meet
     case rel => exact ⟨_, (true), (by first | rfl | (simp; done) | (simp [*]; done)), H', ⟨by first | omega | exact Nat.le_refl _⟩, ⟨KB aA⟩, ⟨K1 HB aD.out⟩⟩
   ·rw [if_neg c6] at H
    have c6b0 : (aE == 4) = false := beq_eq_false_iff_ne.mpr c6; have c6b1 : (aE != 4) = true := bne_iff_ne.mpr c6; (first | rw [c6b0] | (simp only [i64_w, i32_w]; rw [c6b0]) | skip)
    have H' := Aside0.mk H; clear H; obtain ⟨cG, cH, cI, cJ, cK, cL, cM⟩ := y6 w3 aA.out; go_wp2_with (first | ((with_reducible refine gate_callee (f := 61) rfl ?_); refine goesL_ (some 5) rfl rfl Tryz.func61 (by kernel_rfl) rfl #[.int .i64 aB, .int .i64 0, .int .i64 1000000] rfl MT ?_; (with_reducible refine (impl_in.calls aB 0 1000000 true _ A4.out).mono ?_); rintro e w' ⟨rfl, ⟨nd, rfl⟩⟩; refine ⟨_, rfl, ?_⟩))
    go_meet
    case rel => exact ⟨_, (true), (by first | rfl | (simp; done) | (simp [*]; done)), H', ⟨by first | omega | exact Nat.le_refl _⟩, ⟨KB aA⟩, ⟨K1 HB aD.out⟩⟩
  ·replace c5 := Bool.eq_false_iff.mpr c5
   subst c5; have H1 := nf H; clear H; have H := H1; clear H1; have H' := Aside0.mk H; clear H; obtain ⟨cN, cO, cP, cQ, cR, cS, cT⟩ := y6 w3 aA.out; go_wp2_with (first | ((with_reducible refine gate_callee (f := 61) rfl ?_); refine goesL_ (some 5) rfl rfl Tryz.func61 (by kernel_rfl) rfl #[.int .i64 aB, .int .i64 0, .int .i64 1000000] rfl MT ?_; (with_reducible refine (impl_in.calls aB 0 1000000 false _ A4.out).mono ?_); rintro e w' ⟨rfl, ⟨nd, rfl⟩⟩; refine ⟨_, rfl, ?_⟩))
   go_meet
   case rel => exact ⟨_, (true), (by first | rfl | (simp; done) | (simp [*]; done)), H', ⟨by first | omega | exact Nat.le_refl _⟩, ⟨KB aA⟩, ⟨K1 HB aD.out⟩⟩
 case rest =>
  clear eK; try clear p2
  try clear c3
  try clear c5
  try clear c6
  try clear c6b0
  try clear c6b1
  try clear c8
  try clear c9
  try clear c9b0
  try clear c9b1
  try clear aX aY aZ bA bB bC bD
  try clear bE bF bG bH bI bJ bK
  try clear bL bM bN bO bP bQ bR
  try clear bS bT bU bV bW bX bY
  try clear bZ cA cB cC cD cE cF
  try clear cG cH cI cJ cK cL cM
  try clear cN cO cP cQ cR cS cT
  obtain ⟨kq, aI, rfl, HA, HJ1, aA, HB⟩ := hcut; cases kq with
  | zero => exact absurd HA.out (by simp [impl_GateOk.j0])
  | succ kj1 =>
   have H := HA.out; clear HA; simp only [impl_GateOk.j0] at H; by_cases dN : aI = true
   ·subst dN
    have H1 := pf H; clear H; have H := H1; clear H1; obtain rfl := sj H; go_wp2
    go_ret
    exact ⟨ER, K1 HB aD.out⟩
   ·replace dN := Bool.eq_false_iff.mpr dN
    subst dN; have H1 := nf H; clear H; have H := H1; clear H1; replace H := bm H; obtain ⟨dK, dL, H⟩ := H; replace H : (if dK = true then ((impl_ascending_spiOf.f kj1 aF aB).bind fun cU => (some cU)) else (some false)) = some r := H; have eN := Aside0.mk dL; clear dL; by_cases dO : dK = true
    ·subst dO
     have H1 := pf H; clear H; have H := H1; clear H1; replace H := bm H; obtain ⟨cU, dM, H⟩ := H; replace H : (some cU) = some r := H; have eT := Aside0.mk dM; clear dM; obtain rfl := sj H; have ⟨_, _, _, _, _, _, _⟩ := y6 wc aA.out; go_wp2_with (first | ((with_reducible refine gate_callee (f := 63) rfl ?_); refine goesL_ (some 37) rfl rfl Tryz.func63 (by kernel_rfl) rfl #[.slice aJ aC.length aK, .int .i64 aB, .func (.func 51) #[] #[]] rfl MT ?_; (with_reducible refine (impl_ascending_tunOf.calls kj1 _ _ aC aB  true _ ?_ ?_ eN.out).mono ?_); exact KD dD HB; exact dE.out; rintro e eU ⟨rfl, hb⟩; refine ⟨_, rfl, ?_⟩; replace aA := am (BB aA hb); replace HB := bl (K1 HB aD.out) hb; (try clear hb); have ⟨_, _, _, _, _, _, _⟩ := y6 eU aA.out) | (go_at_call 63; (with_reducible refine (impl_ascending_spiOf.calls kj1 _ _ aF aB  cU _ ?_ ?_ eT.out).mono ?_); exact KD dF HB; exact dG.out; rintro e eW ⟨rfl, hb⟩; replace aA := am (BB aA hb); replace HB := bl (K1 HB aD.out) hb; (try clear hb)))
     go_ret
     exact ⟨ER, K1 HB aD.out⟩
    ·replace dO := Bool.eq_false_iff.mpr dO
     subst dO; have H1 := nf H; clear H; have H := H1; clear H1; obtain rfl := sj H; have ⟨_, _, _, _, _, _, _⟩ := y6 wc aA.out; go_wp2_with (first | ((with_reducible refine gate_callee (f := 63) rfl ?_); refine goesL_ (some 37) rfl rfl Tryz.func63 (by kernel_rfl) rfl #[.slice aJ aC.length aK, .int .i64 aB, .func (.func 51) #[] #[]] rfl MT ?_; (with_reducible refine (impl_ascending_tunOf.calls kj1 _ _ aC aB  false _ ?_ ?_ eN.out).mono ?_); exact KD dD HB; exact dE.out; rintro e eX ⟨rfl, hb⟩; refine ⟨_, rfl, ?_⟩; replace aA := am (BB aA hb); replace HB := bl (K1 HB aD.out) hb; (try clear hb)))
     go_ret
     exact ⟨ER, K1 HB aD.out⟩
end Go.Proofs.YtgoblfacfjnanaaGreat.PAll
end
