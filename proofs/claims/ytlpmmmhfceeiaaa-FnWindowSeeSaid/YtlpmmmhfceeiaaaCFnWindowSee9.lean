/- Contracts of the functions that the statement reaches, printed by a program out of the translation and joined with the plain laws. -/
import Derived.WalkKit
import Derived.Shelf.Abstract
import Derived.Test.YtlpmmmhfceeiaaaCFnWindowSee3
import Derived.Test.YtlpmmmhfceeiaaaCFnWindowSee4
import Derived.Test.YtlpmmmhfceeiaaaCFnWindowSee5
import Derived.Test.YtlpmmmhfceeiaaaCFnWindowSee6
section
namespace Go.Proofs.Ytlpmmmhfceeiaaa.PAll
open Go.RowKit Go.Proofs.YtlpmmmhfceeiaaaW.PrintWords Go.Proofs.YtlpmmmhfceeiaaaW.PrintLast Go.Proofs.YtlpmmmhfceeiaaaW.PrintMore
attribute [local go_sem] max2_int min2_int max_two min_two max_three min_three max_four min_four   -- for this text's walks alone
set_option linter.unusedVariables false
set_option linter.unusedSimpArgs false
set_option maxHeartbeats 4000000 in
set_option maxRecDepth 100000 in
theorem impl_Rule_115.gen (p : S141 → Option Bool) (g : Nat) (lb : Array Value) (eg : ∀ args w, (callFunc g args).run Try.prog w = .ok (.enter g args) w) (A : Option Addr) (c : Nat) (l : List S141) (r : Int) (w : World) (hr : Kd.C k141 w A l.length l)
  (hp : ∀ (W : World) (x : S141) (b : Bool), x ∈ l → Below w.heap.size w W → p x = some b → Calls Try.prog g (#[.agg #[.int .i64 x.f0, .int .i64 x.f1, .int .i64 x.f2.f0, .int .i64 x.f2.f1, .int .i64 x.f3.f0, .int .i64 x.f3.f1, .int .i64 x.f4, .int .i64 x.f5]] ++ lb) W fun e w' => e = .returned (.bool b) ∧ Below w.heap.size w w') (h : findO p l 0 = some r) :
  Calls Try.prog 115 #[.slice A l.length c, .func (.func g) #[] lb] w fun e w' => e = .returned (.int .i64 r) ∧ Below w.heap.size w w' := by
 have hu := Try.underlying141
 have HR := Aside0.mk hr
 have HM := Aside0.mk hr.2.1
 have HP := Aside0.mk hp
 have H0 := Aside0.mk h
 clear hr hp h
 go_enter Try.func115, Try.ntmps115
 go_wp2
 go_loopg [5, 8] l.length (fun gg _ s8 wr => ∃ kk : Nat, kk ≤ l.length ∧ Aside0 (l.length - kk ≤ gg) ∧ s8 = .int .i64 kk ∧ Aside0 (Below w.heap.size w wr) ∧ Aside0 (findO p (l.drop kk) kk = some r))
 case atStart => exact ⟨0, Nat.zero_le _, ⟨by omega⟩, rfl, ⟨Below.refl _ w⟩, ⟨H0.out⟩⟩
 case round =>
  clear H0
  obtain ⟨kk, hkk, hg, rfl, BW, A0⟩ := hrel
  have hml := HM.out
  by_cases hlt : kk < l.length
  ·have hltz : (kk : Int) < (l.length : Int) := by omega
   obtain ⟨ad, e, h0, h1, h2, h3, h4, h5, h6, h7⟩ := at_T141 HR.out (kk : Int) (by omega) hltz
   have hx : rd_T141 l (kk : Int) = l[kk] := by
    unfold rd_T141
    rw [List.getD_eq_getElem?_getD, Int.toNat_natCast, List.getElem?_eq_getElem hlt]
    rfl
   rw [hx] at h0 h1 h2 h3 h4 h5 h6 h7
   rw [Int.toNat_natCast] at h0 h1 h2 h3 h4 h5 h6 h7
   have HX := am (List.getElem_mem hlt)
   have A1 := A0.out
   rw [List.drop_eq_getElem_cons hlt] at A1
   clear A0 hx
   generalize l[kk] = y at h0 h1 h2 h3 h4 h5 h6 h7 HX A1
   cases e
   replace h0 := (BW.out.cell (World.block_lt_of_cell? w _ h0)).trans h0
   replace h1 := (BW.out.cell (World.block_lt_of_cell? w _ h1)).trans h1
   replace h2 := (BW.out.cell (World.block_lt_of_cell? w _ h2)).trans h2
   replace h3 := (BW.out.cell (World.block_lt_of_cell? w _ h3)).trans h3
   replace h4 := (BW.out.cell (World.block_lt_of_cell? w _ h4)).trans h4
   replace h5 := (BW.out.cell (World.block_lt_of_cell? w _ h5)).trans h5
   replace h6 := (BW.out.cell (World.block_lt_of_cell? w _ h6)).trans h6
   replace h7 := (BW.out.cell (World.block_lt_of_cell? w _ h7)).trans h7
   simp only [findO, Option.bind_eq_some_iff] at A1
   obtain ⟨b, hb, A1⟩ := A1
   have hcall := HP.out wr y b HX.out BW.out hb
   have A2 := Aside0.mk A1
   clear A1 hb HX
   cases b with
   | true =>
    go_wp2_with (go_at_fn g; refine hcall.mono ?_; rintro e w' ⟨rfl, hb'⟩)
    go_ret
    have A1 := A2.out
    simp only [if_true, Option.some.injEq] at A1
    subst A1
    exact ⟨rfl, hb'⟩
   | false =>
    go_wp2_with (go_at_fn g; refine hcall.mono ?_; rintro e w' ⟨rfl, hb'⟩)
    go_roundg (l.length - (kk + 1))
    case measure => have := hg.out; omega
    case rel => exact ⟨kk + 1, by omega, ⟨by omega⟩, by go_num, ⟨hb'⟩, ⟨by have A1 := A2.out; simp only [Bool.false_eq_true, if_false] at A1; exact A1⟩⟩
  ·have hltz : ¬ (kk : Int) < (l.length : Int) := by omega
   have : kk = l.length := by omega
   have A1 := A0.out
   rw [this, List.drop_length] at A1
   have A2 := Aside0.mk A1
   clear A0 A1
   go_wp2
   go_ret
   have A1 := A2.out
   simp only [findO, Option.some.injEq] at A1
   subst A1
   exact ⟨rfl, BW.out⟩
set_option maxHeartbeats 4000000 in
set_option maxRecDepth 100000 in
theorem impl_Rule_134.gen (p : S141 → Option Bool) (g : Nat) (lb : Array Value) (eg : ∀ args w, (callFunc g args).run Try.prog w = .ok (.enter g args) w) (A : Option Addr) (c : Nat) (l : List S141) (r : Bool) (w : World) (hr : Kd.C k141 w A l.length l)
  (hp : ∀ (W : World) (x : S141) (b : Bool), x ∈ l → Below w.heap.size w W → p x = some b → Calls Try.prog g (#[.agg #[.int .i64 x.f0, .int .i64 x.f1, .int .i64 x.f2.f0, .int .i64 x.f2.f1, .int .i64 x.f3.f0, .int .i64 x.f3.f1, .int .i64 x.f4, .int .i64 x.f5]] ++ lb) W fun e w' => e = .returned (.bool b) ∧ Below w.heap.size w w') (h : anyO p l = some r) :
  Calls Try.prog 134 #[.slice A l.length c, .func (.func g) #[] lb] w fun e w' => e = .returned (.bool r) ∧ Below w.heap.size w w' := by
 obtain ⟨v, hv, hd⟩ := findO_any p l 0 r (by omega) h
 have hc := fun w0 (hw : w0 = w) => impl_Rule_115.gen p g lb eg A c l v w hr hp hv
 have HC := am (hc w rfl)
 have HD := Aside0.mk hd
 clear hr hp h hv hd hc
 go_enter Try.func134, Try.ntmps134
 go_wp2_with (go_at_call 115; refine HC.out.mono ?_; rintro e w' ⟨rfl, hb⟩)
 go_ret
 have hd := HD.out
 subst hd
 exact ⟨rfl, hb⟩
def impl_RulesOk.bad (k : Nat) (x : S141) : Option Bool := (impl_Rule_right.f k x.f0 x.f1 x.f2.f0 x.f2.f1 x.f3.f0 x.f3.f1 x.f4 x.f5).bind fun b => some (!b)
set_option maxHeartbeats 4000000 in
set_option maxRecDepth 100000 in
theorem impl_RulesOk.one (k : Nat) (W : World) (x : S141) (b : Bool) (h : impl_RulesOk.bad k x = some b) :
  Calls Try.prog 135 #[.agg #[.int .i64 x.f0, .int .i64 x.f1, .int .i64 x.f2.f0, .int .i64 x.f2.f1, .int .i64 x.f3.f0, .int .i64 x.f3.f1, .int .i64 x.f4, .int .i64 x.f5]] W fun e w' => e = .returned (.bool b) ∧ Below W.heap.size W w' := by
 simp only [impl_RulesOk.bad, Option.bind_eq_some_iff] at h
 obtain ⟨c, hc, h⟩ := h
 obtain rfl := Option.some.inj h
 have HC := Aside0.mk hc
 clear hc h
 have hu := Try.underlying141
 go_enter Try.func135, Try.ntmps135
 go_wp2_with (go_at_call 136; refine (impl_Rule_right.calls k x.f0 x.f1 x.f2.f0 x.f2.f1 x.f3.f0 x.f3.f1 x.f4 x.f5 c _ HC.out).mono ?_; rintro e w' ⟨rfl, hb⟩)
 go_ret
 exact ⟨rfl, ((Below.refl _ _).alloc (Nat.le_refl _) _).trans (hb.mono (by simp))⟩
set_option maxHeartbeats 4000000 in
set_option maxRecDepth 100000 in
theorem impl_Seen_138.gen (p : S136 → Option Bool) (g : Nat) (lb : Array Value) (eg : ∀ args w, (callFunc g args).run Try.prog w = .ok (.enter g args) w) (A : Option Addr) (c : Nat) (l : List S136) (r : Int) (w : World) (hr : Kd.C k136 w A l.length l)
  (hp : ∀ (W : World) (x : S136) (b : Bool), x ∈ l → Below w.heap.size w W → p x = some b → Calls Try.prog g (#[.agg #[.int .i64 x.f0.f0, .int .i64 x.f0.f1, .int .i64 x.f0.f2, .int .i64 x.f1]] ++ lb) W fun e w' => e = .returned (.bool b) ∧ Below w.heap.size w w') (h : findO p l 0 = some r) :
  Calls Try.prog 138 #[.slice A l.length c, .func (.func g) #[] lb] w fun e w' => e = .returned (.int .i64 r) ∧ Below w.heap.size w w' := by
 have hu := Try.underlying136
 have HR := Aside0.mk hr
 have HM := Aside0.mk hr.2.1
 have HP := Aside0.mk hp
 have H0 := Aside0.mk h
 clear hr hp h
 go_enter Try.func138, Try.ntmps138
 go_wp2
 go_loopg [5, 8] l.length (fun gg _ s8 wr => ∃ kk : Nat, kk ≤ l.length ∧ Aside0 (l.length - kk ≤ gg) ∧ s8 = .int .i64 kk ∧ Aside0 (Below w.heap.size w wr) ∧ Aside0 (findO p (l.drop kk) kk = some r))
 case atStart => exact ⟨0, Nat.zero_le _, ⟨by omega⟩, rfl, ⟨Below.refl _ w⟩, ⟨H0.out⟩⟩
 case round =>
  clear H0
  obtain ⟨kk, hkk, hg, rfl, BW, A0⟩ := hrel
  have hml := HM.out
  by_cases hlt : kk < l.length
  ·have hltz : (kk : Int) < (l.length : Int) := by omega
   obtain ⟨ad, e, h0, h1, h2, h3⟩ := at_T136 HR.out (kk : Int) (by omega) hltz
   have hx : rd_T136 l (kk : Int) = l[kk] := by
    unfold rd_T136
    rw [List.getD_eq_getElem?_getD, Int.toNat_natCast, List.getElem?_eq_getElem hlt]
    rfl
   rw [hx] at h0 h1 h2 h3
   rw [Int.toNat_natCast] at h0 h1 h2 h3
   have HX := am (List.getElem_mem hlt)
   have A1 := A0.out
   rw [List.drop_eq_getElem_cons hlt] at A1
   clear A0 hx
   generalize l[kk] = y at h0 h1 h2 h3 HX A1
   cases e
   replace h0 := (BW.out.cell (World.block_lt_of_cell? w _ h0)).trans h0
   replace h1 := (BW.out.cell (World.block_lt_of_cell? w _ h1)).trans h1
   replace h2 := (BW.out.cell (World.block_lt_of_cell? w _ h2)).trans h2
   replace h3 := (BW.out.cell (World.block_lt_of_cell? w _ h3)).trans h3
   simp only [findO, Option.bind_eq_some_iff] at A1
   obtain ⟨b, hb, A1⟩ := A1
   have hcall := HP.out wr y b HX.out BW.out hb
   have A2 := Aside0.mk A1
   clear A1 hb HX
   cases b with
   | true =>
    go_wp2_with (go_at_fn g; refine hcall.mono ?_; rintro e w' ⟨rfl, hb'⟩)
    go_ret
    have A1 := A2.out
    simp only [if_true, Option.some.injEq] at A1
    subst A1
    exact ⟨rfl, hb'⟩
   | false =>
    go_wp2_with (go_at_fn g; refine hcall.mono ?_; rintro e w' ⟨rfl, hb'⟩)
    go_roundg (l.length - (kk + 1))
    case measure => have := hg.out; omega
    case rel => exact ⟨kk + 1, by omega, ⟨by omega⟩, by go_num, ⟨hb'⟩, ⟨by have A1 := A2.out; simp only [Bool.false_eq_true, if_false] at A1; exact A1⟩⟩
  ·have hltz : ¬ (kk : Int) < (l.length : Int) := by omega
   have : kk = l.length := by omega
   have A1 := A0.out
   rw [this, List.drop_length] at A1
   have A2 := Aside0.mk A1
   clear A0 A1
   go_wp2
   go_ret
   have A1 := A2.out
   simp only [findO, Option.some.injEq] at A1
   subst A1
   exact ⟨rfl, BW.out⟩
end Go.Proofs.Ytlpmmmhfceeiaaa.PAll
end
section
namespace Go.Proofs.Ytlpmmmhfceeiaaa.PAll
open Go.RowKit Go.Proofs.YtlpmmmhfceeiaaaW.PrintWords Go.Proofs.YtlpmmmhfceeiaaaW.PrintLast Go.Proofs.YtlpmmmhfceeiaaaW.PrintMore
attribute [local go_sem] max2_int min2_int max_two min_two max_three min_three max_four min_four   -- for this text's walks alone
set_option linter.unusedVariables false
set_option linter.unusedSimpArgs false
attribute [local go_sem high] eqA107
set_option maxHeartbeats 4000000 in
set_option maxRecDepth 100000 in
theorem slices_ContainsFunc_Seen.gen (p : S136 → Option Bool) (g : Nat) (lb : Array Value) (eg : ∀ args w, (callFunc g args).run Try.prog w = .ok (.enter g args) w) (A : Option Addr) (c : Nat) (l : List S136) (r : Bool) (w : World) (hr : Kd.C k136 w A l.length l)
  (hp : ∀ (W : World) (x : S136) (b : Bool), x ∈ l → Below w.heap.size w W → p x = some b → Calls Try.prog g (#[.agg #[.int .i64 x.f0.f0, .int .i64 x.f0.f1, .int .i64 x.f0.f2, .int .i64 x.f1]] ++ lb) W fun e w' => e = .returned (.bool b) ∧ Below w.heap.size w w') (h : anyO p l = some r) :
  Calls Try.prog 110 #[.slice A l.length c, .func (.func g) #[] lb] w fun e w' => e = .returned (.bool r) ∧ Below w.heap.size w w' := by
 obtain ⟨v, hv, hd⟩ := findO_any p l 0 r (by omega) h
 have hc := fun w0 (hw : w0 = w) => impl_Seen_138.gen p g lb eg A c l v w hr hp hv
 have HC := am (hc w rfl)
 have HD := Aside0.mk hd
 clear hr hp h hv hd hc
 go_enter Try.func110, Try.ntmps110
 go_wp2_with (go_at_call 138; refine HC.out.mono ?_; rintro e w' ⟨rfl, hb⟩)
 go_ret
 have hd := HD.out
 subst hd
 exact ⟨rfl, hb⟩
def slices_ContainsFunc_Seen.is (a1_0 a1_1 a1_2 : Int) (x : S136) : Bool := x.f0.f0 == a1_0 && (x.f0.f1 == a1_1 && (x.f0.f2 == a1_2))
set_option maxHeartbeats 4000000 in
set_option maxRecDepth 100000 in
theorem slices_ContainsFunc_Seen.one (a1_0 a1_1 a1_2 a1_3 : Int) (B : Nat) (W : World) (x : S136) (hB : W.heap[B]? = some (.cells #[.int .i64 a1_0, .int .i64 a1_1, .int .i64 a1_2, .int .i64 a1_3] 136 (0, 0))) :
  Calls Try.prog 108 #[.agg #[.int .i64 x.f0.f0, .int .i64 x.f0.f1, .int .i64 x.f0.f2, .int .i64 x.f1], .pointer (some ⟨B, 0, none⟩)] W fun e w' => e = .returned (.bool (slices_ContainsFunc_Seen.is a1_0 a1_1 a1_2 x)) ∧ Below W.heap.size W w' := by
 have hlt : B < W.heap.size := (Array.getElem?_eq_some_iff.1 hB).1
 have hc0 : W.cell? ⟨B, 0, none⟩ = some (.int .i64 a1_0) := (blk_cell hB 0).trans rfl
 have hc1 : W.cell? ⟨B, 1, none⟩ = some (.int .i64 a1_1) := (blk_cell hB 1).trans rfl
 have hc2 : W.cell? ⟨B, 2, none⟩ = some (.int .i64 a1_2) := (blk_cell hB 2).trans rfl
 clear hB
 have hu := Try.underlying136
 have hu2 := Try.underlying107
 go_enter Try.func108, Try.ntmps108
 go_wp2
 go_ret
 exact ⟨rfl, (Below.refl _ _).alloc (Nat.le_refl _) _⟩
end Go.Proofs.Ytlpmmmhfceeiaaa.PAll
end
section
namespace Go.Proofs.Ytlpmmmhfceeiaaa.PAll
open Go.RowKit Go.Proofs.YtlpmmmhfceeiaaaW.PrintWords Go.Proofs.YtlpmmmhfceeiaaaW.PrintLast Go.Proofs.YtlpmmmhfceeiaaaW.PrintMore
attribute [local go_sem] max2_int min2_int max_two min_two max_three min_three max_four min_four   -- for this text's walks alone
set_option linter.unusedVariables false
set_option linter.unusedSimpArgs false
def impl_first.is (a1_0 a1_1 a1_2 : Int) (x : S141) : Option Bool := impl_Rule_matches.f x.f0 x.f1 x.f2.f0 x.f2.f1 x.f3.f0 x.f3.f1 x.f4 x.f5 a1_0 a1_1 a1_2
def impl_first.f (l0 : List S141) (a1_0 : Int) (a1_1 : Int) (a1_2 : Int) : Option (Int) := findO (impl_first.is a1_0 a1_1 a1_2) l0 0
set_option maxHeartbeats 4000000 in
set_option maxRecDepth 100000 in
theorem impl_first.one (a1_0 a1_1 a1_2 : Int) (B : Nat) (W : World) (x : S141) (b : Bool) (hB : W.heap[B]? = some (.cells #[.int .i64 a1_0, .int .i64 a1_1, .int .i64 a1_2] 107 (0, 0))) (h : impl_first.is a1_0 a1_1 a1_2 x = some b) :
  Calls Try.prog 116 #[.agg #[.int .i64 x.f0, .int .i64 x.f1, .int .i64 x.f2.f0, .int .i64 x.f2.f1, .int .i64 x.f3.f0, .int .i64 x.f3.f1, .int .i64 x.f4, .int .i64 x.f5], .pointer (some ⟨B, 0, none⟩)] W fun e w' => e = .returned (.bool b) ∧ Below W.heap.size W w' := by
 have HC := Aside0.mk h
 have hlt : B < W.heap.size := (Array.getElem?_eq_some_iff.1 hB).1
 have hc0 : W.cell? ⟨B, 0, none⟩ = some (.int .i64 a1_0) := (blk_cell hB 0).trans rfl
 have hc1 : W.cell? ⟨B, 1, none⟩ = some (.int .i64 a1_1) := (blk_cell hB 1).trans rfl
 have hc2 : W.cell? ⟨B, 2, none⟩ = some (.int .i64 a1_2) := (blk_cell hB 2).trans rfl
 clear h hB
 have hu := Try.underlying141
 have hu2 := Try.underlying107
 go_enter Try.func116, Try.ntmps116
 go_wp2_with (go_at_call 117; refine (impl_Rule_matches.calls x.f0 x.f1 x.f2.f0 x.f2.f1 x.f3.f0 x.f3.f1 x.f4 x.f5 a1_0 a1_1 a1_2 b _ HC.out).mono ?_; rintro e w' ⟨rfl, hb⟩)
 go_ret
 exact ⟨rfl, ((Below.refl _ _).alloc (Nat.le_refl _) _).trans (hb.mono (by simp))⟩
end Go.Proofs.Ytlpmmmhfceeiaaa.PAll
end
