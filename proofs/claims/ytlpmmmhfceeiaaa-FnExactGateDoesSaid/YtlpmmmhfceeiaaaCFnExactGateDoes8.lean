/- Contracts of the functions that the statement reaches, printed by a program out of the translation and joined with the plain laws. -/
import Derived.WalkKit
import Derived.Shelf.Abstract
import Derived.Test.YtlpmmmhfceeiaaaCFnExactGateDoes3
import Derived.Test.YtlpmmmhfceeiaaaCFnExactGateDoes4
import Derived.Test.YtlpmmmhfceeiaaaCFnExactGateDoes5
import Derived.Test.YtlpmmmhfceeiaaaCFnExactGateDoes7
section
namespace Go.Proofs.Ytlpmmmhfceeiaaa.PAll
open Go.RowKit Go.Proofs.YtlpmmmhfceeiaaaW.PrintWords Go.Proofs.YtlpmmmhfceeiaaaW.PrintLast Go.Proofs.YtlpmmmhfceeiaaaW.PrintMore
attribute [local go_sem] max2_int min2_int max_two min_two max_three min_three max_four min_four   -- for this text's walks alone
set_option linter.unusedVariables false
set_option linter.unusedSimpArgs false
set_option maxHeartbeats 4000000 in
set_option maxRecDepth 100000 in
theorem impl_Rule_115.gen (p : S141 → Option Bool) (g : Nat) (lb : Array Value) (eg : ∀ args w, (callFunc g args).run Try.prog w = .ok (.enter g args) w) (A : Option Addr) (c : Nat) (l : List S141) (r : Int) (w : World) (hr : Kd.C k141 w A l.length l)
  (hp : ∀ (W : World) (x : S141) (b : Bool), x ∈ l → Below w.heap.size w W → p x = some b → Calls Try.prog g (#[.agg #[.int .i64 x.f0, .int .i64 x.f1, .int .i64 x.f2.f0, .int .i64 x.f2.f1, .int .i64 x.f3.f0, .int .i64 x.f3.f1, .int .i64 x.f4, .int .i64 x.f5]] ++ lb) W fun e w' => e = .returned (.bool b) ∧ Below w.heap.size w w') (h : findO p l 0 = some r) :
  Calls Try.prog 115 #[.slice A l.length c, .func (.func g) #[] lb] w fun e w' => e = .returned (.int .i64 r) ∧ Below w.heap.size w w' := by
 have hu := Try.underlying141
 have HR := Aside0.mk hr
 have HM := Aside0.mk hr.2.1
 have HP := Aside0.mk hp
 have H0 := Aside0.mk h
 clear hr hp h
 go_enter Try.func115, Try.ntmps115
 go_wp2
 go_loopg [5, 8] l.length (fun gg _ s8 wr => ∃ kk : Nat, kk ≤ l.length ∧ Aside0 (l.length - kk ≤ gg) ∧ s8 = .int .i64 kk ∧ Aside0 (Below w.heap.size w wr) ∧ Aside0 (findO p (l.drop kk) kk = some r))
 case atStart => exact ⟨0, Nat.zero_le _, ⟨by omega⟩, rfl, ⟨Below.refl _ w⟩, ⟨H0.out⟩⟩
 case round =>
  clear H0
  obtain ⟨kk, hkk, hg, rfl, BW, A0⟩ := hrel
  have hml := HM.out
  by_cases hlt : kk < l.length
  ·have hltz : (kk : Int) < (l.length : Int) := by omega
   obtain ⟨ad, e, h0, h1, h2, h3, h4, h5, h6, h7⟩ := at_T141 HR.out (kk : Int) (by omega) hltz
   have hx : rd_T141 l (kk : Int) = l[kk] := by
    unfold rd_T141
    rw [List.getD_eq_getElem?_getD, Int.toNat_natCast, List.getElem?_eq_getElem hlt]
    rfl
   rw [hx] at h0 h1 h2 h3 h4 h5 h6 h7
   rw [Int.toNat_natCast] at h0 h1 h2 h3 h4 h5 h6 h7
   have HX := am (List.getElem_mem hlt)
   have A1 := A0.out
   rw [List.drop_eq_getElem_cons hlt] at A1
   clear A0 hx
   generalize l[kk] = y at h0 h1 h2 h3 h4 h5 h6 h7 HX A1
   cases e
   replace h0 := (BW.out.cell (World.block_lt_of_cell? w _ h0)).trans h0
   replace h1 := (BW.out.cell (World.block_lt_of_cell? w _ h1)).trans h1
   replace h2 := (BW.out.cell (World.block_lt_of_cell? w _ h2)).trans h2
   replace h3 := (BW.out.cell (World.block_lt_of_cell? w _ h3)).trans h3
   replace h4 := (BW.out.cell (World.block_lt_of_cell? w _ h4)).trans h4
   replace h5 := (BW.out.cell (World.block_lt_of_cell? w _ h5)).trans h5
   replace h6 := (BW.out.cell (World.block_lt_of_cell? w _ h6)).trans h6
   replace h7 := (BW.out.cell (World.block_lt_of_cell? w _ h7)).trans h7
   simp only [findO, Option.bind_eq_some_iff] at A1
   obtain ⟨b, hb, A1⟩ := A1
   have hcall := HP.out wr y b HX.out BW.out hb
   have A2 := Aside0.mk A1
   clear A1 hb HX
   cases b with
   | true =>
    go_wp2_with (go_at_fn g; refine hcall.mono ?_; rintro e w' ⟨rfl, hb'⟩)
    go_ret
    have A1 := A2.out
    simp only [if_true, Option.some.injEq] at A1
    subst A1
    exact ⟨rfl, hb'⟩
   | false =>
    go_wp2_with (go_at_fn g; refine hcall.mono ?_; rintro e w' ⟨rfl, hb'⟩)
    go_roundg (l.length - (kk + 1))
    case measure => have := hg.out; omega
    case rel => exact ⟨kk + 1, by omega, ⟨by omega⟩, by go_num, ⟨hb'⟩, ⟨by have A1 := A2.out; simp only [Bool.false_eq_true, if_false] at A1; exact A1⟩⟩
  ·have hltz : ¬ (kk : Int) < (l.length : Int) := by omega
   have : kk = l.length := by omega
   have A1 := A0.out
   rw [this, List.drop_length] at A1
   have A2 := Aside0.mk A1
   clear A0 A1
   go_wp2
   go_ret
   have A1 := A2.out
   simp only [findO, Option.some.injEq] at A1
   subst A1
   exact ⟨rfl, BW.out⟩
set_option maxHeartbeats 4000000 in
set_option maxRecDepth 100000 in
theorem impl_Rule_134.gen (p : S141 → Option Bool) (g : Nat) (lb : Array Value) (eg : ∀ args w, (callFunc g args).run Try.prog w = .ok (.enter g args) w) (A : Option Addr) (c : Nat) (l : List S141) (r : Bool) (w : World) (hr : Kd.C k141 w A l.length l)
  (hp : ∀ (W : World) (x : S141) (b : Bool), x ∈ l → Below w.heap.size w W → p x = some b → Calls Try.prog g (#[.agg #[.int .i64 x.f0, .int .i64 x.f1, .int .i64 x.f2.f0, .int .i64 x.f2.f1, .int .i64 x.f3.f0, .int .i64 x.f3.f1, .int .i64 x.f4, .int .i64 x.f5]] ++ lb) W fun e w' => e = .returned (.bool b) ∧ Below w.heap.size w w') (h : anyO p l = some r) :
  Calls Try.prog 134 #[.slice A l.length c, .func (.func g) #[] lb] w fun e w' => e = .returned (.bool r) ∧ Below w.heap.size w w' := by
 obtain ⟨v, hv, hd⟩ := findO_any p l 0 r (by omega) h
 have hc := fun w0 (hw : w0 = w) => impl_Rule_115.gen p g lb eg A c l v w hr hp hv
 have HC := am (hc w rfl)
 have HD := Aside0.mk hd
 clear hr hp h hv hd hc
 go_enter Try.func134, Try.ntmps134
 go_wp2_with (go_at_call 115; refine HC.out.mono ?_; rintro e w' ⟨rfl, hb⟩)
 go_ret
 have hd := HD.out
 subst hd
 exact ⟨rfl, hb⟩
def impl_RulesOk.bad (k : Nat) (x : S141) : Option Bool := (impl_Rule_right.f k x.f0 x.f1 x.f2.f0 x.f2.f1 x.f3.f0 x.f3.f1 x.f4 x.f5).bind fun b => some (!b)
def impl_RulesOk.f (k : Nat) (l0 : List S141) : Option (Bool) := if (l0.length : Int) ≤ 8 then (anyO (impl_RulesOk.bad k ) l0).bind fun b => some (!b) else some false
set_option maxHeartbeats 4000000 in
set_option maxRecDepth 100000 in
theorem impl_RulesOk.one (k : Nat) (W : World) (x : S141) (b : Bool) (h : impl_RulesOk.bad k x = some b) :
  Calls Try.prog 135 #[.agg #[.int .i64 x.f0, .int .i64 x.f1, .int .i64 x.f2.f0, .int .i64 x.f2.f1, .int .i64 x.f3.f0, .int .i64 x.f3.f1, .int .i64 x.f4, .int .i64 x.f5]] W fun e w' => e = .returned (.bool b) ∧ Below W.heap.size W w' := by
 simp only [impl_RulesOk.bad, Option.bind_eq_some_iff] at h
 obtain ⟨c, hc, h⟩ := h
 obtain rfl := Option.some.inj h
 have HC := Aside0.mk hc
 clear hc h
 have hu := Try.underlying141
 go_enter Try.func135, Try.ntmps135
 go_wp2_with (go_at_call 136; refine (impl_Rule_right.calls k x.f0 x.f1 x.f2.f0 x.f2.f1 x.f3.f0 x.f3.f1 x.f4 x.f5 c _ HC.out).mono ?_; rintro e w' ⟨rfl, hb⟩)
 go_ret
 exact ⟨rfl, ((Below.refl _ _).alloc (Nat.le_refl _) _).trans (hb.mono (by simp))⟩
set_option maxHeartbeats 4000000 in
set_option maxRecDepth 100000 in
theorem impl_RulesOk.calls (k : Nat) (A0 : Option Addr) (c0 : Nat) (l0 : List (S141)) (r : Bool) (w : World) (hr0 : Kd.C k141 w A0 l0.length l0) (hc0 : l0.length ≤ c0) (h : impl_RulesOk.f k l0 = some r) :
  Calls Try.prog 107 #[.slice A0 l0.length c0] w fun e w' => e = .returned (.bool r) ∧ Below w.heap.size w w' := by
 have hm := hr0.2.1
 have eg := enters_of Try.func135 (by kernel_rfl) rfl
 unfold impl_RulesOk.f at h
 by_cases c : (l0.length : Int) ≤ 8
 ·rw [if_pos c, Option.bind_eq_some_iff] at h
  obtain ⟨b, hb, h⟩ := h
  obtain rfl := Option.some.inj h
  have HC := am (impl_Rule_134.gen (impl_RulesOk.bad k ) 135 #[] eg A0 c0 l0 b w hr0 (fun W x b _ hB hx => (impl_RulesOk.one k W x b hx).mono fun e w' ⟨he, hw⟩ => ⟨he, hB.trans (hw.mono hB.size)⟩) hb)
  clear hr0 hc0 hb h
  have cb : decide ((l0.length : Int) ≤ 8) = true := decide_eq_true c
  go_enter Try.func107, Try.ntmps107
  go_wp2_with (go_at_call 134; refine HC.out.mono ?_; rintro e w' ⟨rfl, hb⟩)
  go_ret
  exact ⟨rfl, hb⟩
 ·rw [if_neg c] at h
  obtain rfl := Option.some.inj h
  clear hr0 hc0
  have cb : decide ((l0.length : Int) ≤ 8) = false := decide_eq_false c
  go_enter Try.func107, Try.ntmps107
  go_wp2
  go_ret
  exact ⟨rfl, Below.refl _ _⟩
set_option maxHeartbeats 4000000 in
set_option maxRecDepth 100000 in
theorem impl_Seen_138.gen (p : S136 → Option Bool) (g : Nat) (lb : Array Value) (eg : ∀ args w, (callFunc g args).run Try.prog w = .ok (.enter g args) w) (A : Option Addr) (c : Nat) (l : List S136) (r : Int) (w : World) (hr : Kd.C k136 w A l.length l)
  (hp : ∀ (W : World) (x : S136) (b : Bool), x ∈ l → Below w.heap.size w W → p x = some b → Calls Try.prog g (#[.agg #[.int .i64 x.f0.f0, .int .i64 x.f0.f1, .int .i64 x.f0.f2, .int .i64 x.f1]] ++ lb) W fun e w' => e = .returned (.bool b) ∧ Below w.heap.size w w') (h : findO p l 0 = some r) :
  Calls Try.prog 138 #[.slice A l.length c, .func (.func g) #[] lb] w fun e w' => e = .returned (.int .i64 r) ∧ Below w.heap.size w w' := by
 have hu := Try.underlying136
 have HR := Aside0.mk hr
 have HM := Aside0.mk hr.2.1
 have HP := Aside0.mk hp
 have H0 := Aside0.mk h
 clear hr hp h
 go_enter Try.func138, Try.ntmps138
 go_wp2
 go_loopg [5, 8] l.length (fun gg _ s8 wr => ∃ kk : Nat, kk ≤ l.length ∧ Aside0 (l.length - kk ≤ gg) ∧ s8 = .int .i64 kk ∧ Aside0 (Below w.heap.size w wr) ∧ Aside0 (findO p (l.drop kk) kk = some r))
 case atStart => exact ⟨0, Nat.zero_le _, ⟨by omega⟩, rfl, ⟨Below.refl _ w⟩, ⟨H0.out⟩⟩
 case round =>
  clear H0
  obtain ⟨kk, hkk, hg, rfl, BW, A0⟩ := hrel
  have hml := HM.out
  by_cases hlt : kk < l.length
  ·have hltz : (kk : Int) < (l.length : Int) := by omega
   obtain ⟨ad, e, h0, h1, h2, h3⟩ := at_T136 HR.out (kk : Int) (by omega) hltz
   have hx : rd_T136 l (kk : Int) = l[kk] := by
    unfold rd_T136
    rw [List.getD_eq_getElem?_getD, Int.toNat_natCast, List.getElem?_eq_getElem hlt]
    rfl
   rw [hx] at h0 h1 h2 h3
   rw [Int.toNat_natCast] at h0 h1 h2 h3
   have HX := am (List.getElem_mem hlt)
   have A1 := A0.out
   rw [List.drop_eq_getElem_cons hlt] at A1
   clear A0 hx
   generalize l[kk] = y at h0 h1 h2 h3 HX A1
   cases e
   replace h0 := (BW.out.cell (World.block_lt_of_cell? w _ h0)).trans h0
   replace h1 := (BW.out.cell (World.block_lt_of_cell? w _ h1)).trans h1
   replace h2 := (BW.out.cell (World.block_lt_of_cell? w _ h2)).trans h2
   replace h3 := (BW.out.cell (World.block_lt_of_cell? w _ h3)).trans h3
   simp only [findO, Option.bind_eq_some_iff] at A1
   obtain ⟨b, hb, A1⟩ := A1
   have hcall := HP.out wr y b HX.out BW.out hb
   have A2 := Aside0.mk A1
   clear A1 hb HX
   cases b with
   | true =>
    go_wp2_with (go_at_fn g; refine hcall.mono ?_; rintro e w' ⟨rfl, hb'⟩)
    go_ret
    have A1 := A2.out
    simp only [if_true, Option.some.injEq] at A1
    subst A1
    exact ⟨rfl, hb'⟩
   | false =>
    go_wp2_with (go_at_fn g; refine hcall.mono ?_; rintro e w' ⟨rfl, hb'⟩)
    go_roundg (l.length - (kk + 1))
    case measure => have := hg.out; omega
    case rel => exact ⟨kk + 1, by omega, ⟨by omega⟩, by go_num, ⟨hb'⟩, ⟨by have A1 := A2.out; simp only [Bool.false_eq_true, if_false] at A1; exact A1⟩⟩
  ·have hltz : ¬ (kk : Int) < (l.length : Int) := by omega
   have : kk = l.length := by omega
   have A1 := A0.out
   rw [this, List.drop_length] at A1
   have A2 := Aside0.mk A1
   clear A0 A1
   go_wp2
   go_ret
   have A1 := A2.out
   simp only [findO, Option.some.injEq] at A1
   subst A1
   exact ⟨rfl, BW.out⟩
end Go.Proofs.Ytlpmmmhfceeiaaa.PAll
end
section
namespace Go.Proofs.Ytlpmmmhfceeiaaa.PAll
open Go.RowKit Go.Proofs.YtlpmmmhfceeiaaaW.PrintWords Go.Proofs.YtlpmmmhfceeiaaaW.PrintLast Go.Proofs.YtlpmmmhfceeiaaaW.PrintMore
attribute [local go_sem] max2_int min2_int max_two min_two max_three min_three max_four min_four   -- for this text's walks alone
set_option linter.unusedVariables false
set_option linter.unusedSimpArgs false
attribute [local go_sem high] eqA107
set_option maxHeartbeats 4000000 in
set_option maxRecDepth 100000 in
theorem slices_ContainsFunc_Seen.gen (p : S136 → Option Bool) (g : Nat) (lb : Array Value) (eg : ∀ args w, (callFunc g args).run Try.prog w = .ok (.enter g args) w) (A : Option Addr) (c : Nat) (l : List S136) (r : Bool) (w : World) (hr : Kd.C k136 w A l.length l)
  (hp : ∀ (W : World) (x : S136) (b : Bool), x ∈ l → Below w.heap.size w W → p x = some b → Calls Try.prog g (#[.agg #[.int .i64 x.f0.f0, .int .i64 x.f0.f1, .int .i64 x.f0.f2, .int .i64 x.f1]] ++ lb) W fun e w' => e = .returned (.bool b) ∧ Below w.heap.size w w') (h : anyO p l = some r) :
  Calls Try.prog 110 #[.slice A l.length c, .func (.func g) #[] lb] w fun e w' => e = .returned (.bool r) ∧ Below w.heap.size w w' := by
 obtain ⟨v, hv, hd⟩ := findO_any p l 0 r (by omega) h
 have hc := fun w0 (hw : w0 = w) => impl_Seen_138.gen p g lb eg A c l v w hr hp hv
 have HC := am (hc w rfl)
 have HD := Aside0.mk hd
 clear hr hp h hv hd hc
 go_enter Try.func110, Try.ntmps110
 go_wp2_with (go_at_call 138; refine HC.out.mono ?_; rintro e w' ⟨rfl, hb⟩)
 go_ret
 have hd := HD.out
 subst hd
 exact ⟨rfl, hb⟩
def slices_ContainsFunc_Seen.is (a1_0 a1_1 a1_2 : Int) (x : S136) : Bool := x.f0.f0 == a1_0 && (x.f0.f1 == a1_1 && (x.f0.f2 == a1_2))
theorem anyO_some {α : Type} (q : α → Bool) : ∀ l : List α, anyO (fun x => some (q x)) l = some (l.any q)
 | [] => rfl
 | x :: l => by simp only [anyO, Option.bind_some, anyO_some q l, List.any_cons]; cases q x <;> simp
def slices_ContainsFunc_Seen.f (l0 : List S136) (a1_0 a1_1 a1_2 a1_3 : Int) : Option Bool := some (l0.any (slices_ContainsFunc_Seen.is a1_0 a1_1 a1_2))
set_option maxHeartbeats 4000000 in
set_option maxRecDepth 100000 in
theorem slices_ContainsFunc_Seen.one (a1_0 a1_1 a1_2 a1_3 : Int) (B : Nat) (W : World) (x : S136) (hB : W.heap[B]? = some (.cells #[.int .i64 a1_0, .int .i64 a1_1, .int .i64 a1_2, .int .i64 a1_3] 136 (0, 0))) :
  Calls Try.prog 108 #[.agg #[.int .i64 x.f0.f0, .int .i64 x.f0.f1, .int .i64 x.f0.f2, .int .i64 x.f1], .pointer (some ⟨B, 0, none⟩)] W fun e w' => e = .returned (.bool (slices_ContainsFunc_Seen.is a1_0 a1_1 a1_2 x)) ∧ Below W.heap.size W w' := by
 have hlt : B < W.heap.size := (Array.getElem?_eq_some_iff.1 hB).1
 have hc0 : W.cell? ⟨B, 0, none⟩ = some (.int .i64 a1_0) := (blk_cell hB 0).trans rfl
 have hc1 : W.cell? ⟨B, 1, none⟩ = some (.int .i64 a1_1) := (blk_cell hB 1).trans rfl
 have hc2 : W.cell? ⟨B, 2, none⟩ = some (.int .i64 a1_2) := (blk_cell hB 2).trans rfl
 clear hB
 have hu := Try.underlying136
 have hu2 := Try.underlying107
 go_enter Try.func108, Try.ntmps108
 go_wp2
 go_ret
 exact ⟨rfl, (Below.refl _ _).alloc (Nat.le_refl _) _⟩
set_option maxHeartbeats 4000000 in
set_option maxRecDepth 100000 in
theorem slices_ContainsFunc_Seen.calls (A0 : Option Addr) (c0 : Nat) (l0 : List S136) (a1_0 a1_1 a1_2 a1_3 : Int) (B : Nat) (r : Bool) (w : World) (hr0 : Kd.C k136 w A0 l0.length l0) (hc0 : l0.length ≤ c0) (hB : w.heap[B]? = some (.cells #[.int .i64 a1_0, .int .i64 a1_1, .int .i64 a1_2, .int .i64 a1_3] 136 (0, 0))) (h : slices_ContainsFunc_Seen.f l0 a1_0 a1_1 a1_2 a1_3 = some r) :
  Calls Try.prog 110 #[.slice A0 l0.length c0, .func (.func 108) #[] #[.pointer (some ⟨B, 0, none⟩)]] w fun e w' => e = .returned (.bool r) ∧ Below w.heap.size w w' := by
 have eg := enters_of Try.func108 (by kernel_rfl) rfl
 refine slices_ContainsFunc_Seen.gen (fun x => some (slices_ContainsFunc_Seen.is a1_0 a1_1 a1_2 x)) 108 #[.pointer (some ⟨B, 0, none⟩)] eg A0 c0 l0 r w hr0 (fun W x b _ hW hx => ?_) ((anyO_some _ l0).trans h)
 obtain rfl := Option.some.inj hx
 exact (slices_ContainsFunc_Seen.one a1_0 a1_1 a1_2 a1_3 B W x ((hW.block B (Array.getElem?_eq_some_iff.1 hB).1).trans hB)).mono fun e w' ⟨he, hw⟩ => ⟨he, hW.trans (hw.mono hW.size)⟩
end Go.Proofs.Ytlpmmmhfceeiaaa.PAll
end
section
namespace Go.Proofs.Ytlpmmmhfceeiaaa.PAll
open Go.RowKit Go.Proofs.YtlpmmmhfceeiaaaW.PrintWords Go.Proofs.YtlpmmmhfceeiaaaW.PrintLast Go.Proofs.YtlpmmmhfceeiaaaW.PrintMore
attribute [local go_sem] max2_int min2_int max_two min_two max_three min_three max_four min_four   -- for this text's walks alone
set_option linter.unusedVariables false
set_option linter.unusedSimpArgs false
def impl_first.is (a1_0 a1_1 a1_2 : Int) (x : S141) : Option Bool := impl_Rule_matches.f x.f0 x.f1 x.f2.f0 x.f2.f1 x.f3.f0 x.f3.f1 x.f4 x.f5 a1_0 a1_1 a1_2
def impl_first.f (l0 : List S141) (a1_0 : Int) (a1_1 : Int) (a1_2 : Int) : Option (Int) := findO (impl_first.is a1_0 a1_1 a1_2) l0 0
set_option maxHeartbeats 4000000 in
set_option maxRecDepth 100000 in
theorem impl_first.one (a1_0 a1_1 a1_2 : Int) (B : Nat) (W : World) (x : S141) (b : Bool) (hB : W.heap[B]? = some (.cells #[.int .i64 a1_0, .int .i64 a1_1, .int .i64 a1_2] 107 (0, 0))) (h : impl_first.is a1_0 a1_1 a1_2 x = some b) :
  Calls Try.prog 116 #[.agg #[.int .i64 x.f0, .int .i64 x.f1, .int .i64 x.f2.f0, .int .i64 x.f2.f1, .int .i64 x.f3.f0, .int .i64 x.f3.f1, .int .i64 x.f4, .int .i64 x.f5], .pointer (some ⟨B, 0, none⟩)] W fun e w' => e = .returned (.bool b) ∧ Below W.heap.size W w' := by
 have HC := Aside0.mk h
 have hlt : B < W.heap.size := (Array.getElem?_eq_some_iff.1 hB).1
 have hc0 : W.cell? ⟨B, 0, none⟩ = some (.int .i64 a1_0) := (blk_cell hB 0).trans rfl
 have hc1 : W.cell? ⟨B, 1, none⟩ = some (.int .i64 a1_1) := (blk_cell hB 1).trans rfl
 have hc2 : W.cell? ⟨B, 2, none⟩ = some (.int .i64 a1_2) := (blk_cell hB 2).trans rfl
 clear h hB
 have hu := Try.underlying141
 have hu2 := Try.underlying107
 go_enter Try.func116, Try.ntmps116
 go_wp2_with (go_at_call 117; refine (impl_Rule_matches.calls x.f0 x.f1 x.f2.f0 x.f2.f1 x.f3.f0 x.f3.f1 x.f4 x.f5 a1_0 a1_1 a1_2 b _ HC.out).mono ?_; rintro e w' ⟨rfl, hb⟩)
 go_ret
 exact ⟨rfl, ((Below.refl _ _).alloc (Nat.le_refl _) _).trans (hb.mono (by simp))⟩
set_option maxHeartbeats 4000000 in
set_option maxRecDepth 100000 in
theorem impl_first.calls (A0 : Option Addr) (c0 : Nat) (l0 : List (S141)) (a1_0 : Int) (a1_1 : Int) (a1_2 : Int) (r : Int) (w : World) (hr0 : Kd.C k141 w A0 l0.length l0) (hc0 : l0.length ≤ c0) (h : impl_first.f l0 a1_0 a1_1 a1_2 = some r) :
  Calls Try.prog 77 #[.slice A0 l0.length c0, .agg #[.int .i64 a1_0, .int .i64 a1_1, .int .i64 a1_2]] w fun e w' => e = .returned (.int .i64 r) ∧ Below w.heap.size w w' := by
 have eg := enters_of Try.func116 (by kernel_rfl) rfl
 have hu2 := Try.underlying107
 have HC := am (fun (w1 : World) (hb : Below w.heap.size w w1) (B : Nat) (hB : w1.heap[B]? = some (.cells #[.int .i64 a1_0, .int .i64 a1_1, .int .i64 a1_2] 107 (0, 0))) =>
  impl_Rule_115.gen (impl_first.is a1_0 a1_1 a1_2) 116 #[.pointer (some ⟨B, 0, none⟩)] eg A0 c0 l0 r w1 (Kd.C_below hr0 hb) (fun W x b _ hW hx => (impl_first.one a1_0 a1_1 a1_2 B W x b ((hW.block B (Array.getElem?_eq_some_iff.1 hB).1).trans hB) hx).mono fun e w' ⟨he, hw⟩ => ⟨he, hW.trans (hw.mono hW.size)⟩) h)
 clear hr0 hc0 h
 go_enter Try.func77, Try.ntmps77
 go_wp2_with (go_at_call 115; refine (HC.out _ ((Below.refl _ _).alloc (Nat.le_refl _) _) w.heap.size (by first | exact heap_alloc_new _ _ | simpa using heap_alloc_new _ _)).mono ?_; rintro e w' ⟨rfl, hb⟩)
 go_ret
 exact ⟨rfl, ((Below.refl _ _).alloc (Nat.le_refl _) _).trans (hb.mono (by simp))⟩
mutual
def impl_CacheOk.j0 : Nat → List (S141) → Bool → Int → List (S136) → Option (Bool)
 | 0, _, _, _, _ => none
 | k + 1, x0, x24, x102000, x102001 => if x24 = true then (some false) else (impl_CacheOk.l0 k x0 x102001 (x102001.length : Int) 0 x102000 x102001)
def impl_CacheOk.l0 : Nat → List (S141) → List (S136) → Int → Int → Int → List (S136) → Option (Bool)
 | 0, _, _, _, _, _, _ => none
 | k + 1, x0, x26, x27, x28, x102000, x102001 => if x28 < x27 then (if 0 ≤ x28 then (if x28 < (x26.length : Int) then ((impl_isCall.f ((rd_T136 x26 x28).f0.f0) ((rd_T136 x26 x28).f0.f1) ((rd_T136 x26 x28).f0.f2)).bind fun t106 => (if t106 = true then ((impl_first.f x0 ((rd_T136 x26 x28).f0.f0) ((rd_T136 x26 x28).f0.f1) ((rd_T136 x26 x28).f0.f2)).bind fun t107 => (if ((rd_T136 x26 x28).f1) = t107 then (if x28 ≤ (x102001.length : Int) then ((slices_ContainsFunc_Seen.f (x102001.take (x28 : Int).toNat) ((rd_T136 x26 x28).f0.f0) ((rd_T136 x26 x28).f0.f1) ((rd_T136 x26 x28).f0.f2) ((rd_T136 x26 x28).f1)).bind fun t112 => (if t112 = true then (some false) else (impl_CacheOk.l0 k x0 x26 x27 (wrap64 (x28 + 1)) x102000 x102001))) else (none)) else (some false))) else (some false))) else (none)) else (none)) else (some true)
end
def impl_CacheOk.f (k : Nat) (l0 : List (S141)) (a1_0 : Int) (l1_1 : List (S136)) : Option (Bool) := (impl_RulesOk.f k l0).bind fun t102 => (if t102 = true then ((impl_in.f a1_0 0 16).bind fun t103 => (if t103 = true then (impl_CacheOk.j0 k l0 (decide ((l1_1.length : Int) > a1_0)) a1_0 l1_1) else (impl_CacheOk.j0 k l0 true a1_0 l1_1))) else (impl_CacheOk.j0 k l0 true a1_0 l1_1))
def impl_CacheOk.T7 : Bool × List (List Nat × List Nat) := (true, [([], []), ([0], [0]), ([1], [1]), ([2], [2]), ([3, 2], [3]), ([4], [4]), ([5, 4], [4, 5]), ([4], [4]), ([4], [4]), ([8, 4], [4, 8]), ([7, 9, 4, 4], [4, 7, 9]), ([6, 10, 4], [4, 6, 10]), ([4, 11], [4, 11]), ([12, 10], [12]), ([13], [13]), ([14, 13], [13, 14]), ([13], [13]), ([15, 16, 13], [13, 15, 16]), ([13], [13]), ([17, 18, 13, 13], [13, 17, 18]), ([13, 19], [13, 19])])
def impl_CacheOk.B7 : List Nat := [0, 1, 3, 7, 15, 31, 63, 31, 31, 287, 927, 2047, 4095, 8191, 16383, 32767, 16383, 131071, 16383, 524287, 1048575]
theorem impl_CacheOk.tab7 : rtab .any (opsOf Try.f65 7) = impl_CacheOk.T7 := by kernel_rfl
theorem impl_CacheOk.bits7 : waitsOk impl_CacheOk.T7.2 impl_CacheOk.B7 = true := by kernel_rfl
set_option maxHeartbeats 8000000 in
set_option maxRecDepth 100000 in
theorem impl_CacheOk.calls (k : Nat) (A0 : Option Addr) (c0 : Nat) (l0 : List (S141)) (a1_0 : Int) (A1_1 : Option Addr) (c1_1 : Nat) (l1_1 : List (S136)) (r : Bool) (w : World) (hr0 : Kd.C k141 w A0 l0.length l0) (hc0 : l0.length ≤ c0) (hr1_1 : Kd.C k136 w A1_1 l1_1.length l1_1) (hc1_1 : l1_1.length ≤ c1_1) (h : impl_CacheOk.f k l0 a1_0 l1_1 = some r) :
  Calls Try.prog 65 #[.slice A0 l0.length c0, .agg #[.int .i64 a1_0, .slice A1_1 l1_1.length c1_1]] w fun e w' => e = .returned (.bool r) ∧ Below w.heap.size w w' := by
 have hu54 := Try.underlying54
 have hu136 := Try.underlying136
 have hu107 := Try.underlying107
 have HR0 := Aside0.mk hr0
 have HC0 := Aside0.mk hc0
 clear hr0 hc0
 have HR1_1 := Aside0.mk hr1_1
 have HC1_1 := Aside0.mk hc1_1
 clear hr1_1 hc1_1
 have HB := am (Below.refl w.heap.size w)
 have H : ((impl_RulesOk.f k l0).bind fun t102 => (if t102 = true then ((impl_in.f a1_0 0 16).bind fun t103 => (if t103 = true then (impl_CacheOk.j0 k l0 (decide ((l1_1.length : Int) > a1_0)) a1_0 l1_1) else (impl_CacheOk.j0 k l0 true a1_0 l1_1))) else (impl_CacheOk.j0 k l0 true a1_0 l1_1))) = some r := h
 clear h
 have HC3 := Aside0.mk H
 clear H
 go_enter Try.func65, Try.ntmps65
 go_upto_region 1 with (first | ((with_reducible refine gate_dst (N := 3) rfl ?_); (try (refine gate_guard (by rfl) ?_; dsimp only)); refine box_event rfl (N := 3) rfl (cs := #[.int .i64 a1_0, .slice A1_1 l1_1.length c1_1]) (t := 54) BX ?_; intro gb101 hg w4 hbox hb; have BK101 := am (hbox); have GW101 := am (GH HB hg); have GE101 := GW101; replace HB := am (below_step (KL HB) hb); clear hb hbox hg))
 (try simp only [Act.put, List.setIfInBounds_toArray, List.set_cons_zero, List.set_cons_succ])
 go_cut [24] (fun v24 wc => ∃ (kq : Nat) (x24_2 : Bool), v24 = .bool x24_2 ∧ Aside0 (impl_CacheOk.j0 kq l0 x24_2 a1_0 l1_1 = some r) ∧ Aside0 (kq ≤ k) ∧ Aside0 (wc.heap[gb101]? = some (.cells #[.int .i64 a1_0, (.slice A1_1 l1_1.length c1_1)] 54 (0, 0))) ∧ Aside0 (Below w.heap.size w wc))
 case first =>
  have H := HC3.out
  clear HC3
  replace H := Option.bind_eq_some_iff.mp H
  obtain ⟨t102, A50, H⟩ := H
  replace H : (if t102 = true then ((impl_in.f a1_0 0 16).bind fun t103 => (if t103 = true then (impl_CacheOk.j0 k l0 (decide ((l1_1.length : Int) > a1_0)) a1_0 l1_1) else (impl_CacheOk.j0 k l0 true a1_0 l1_1))) else (impl_CacheOk.j0 k l0 true a1_0 l1_1)) = some r := H
  have A5 := Aside0.mk A50
  clear A50
  by_cases c6 : t102 = true
  ·subst c6
   have H1 : ((impl_in.f a1_0 0 16).bind fun t103 => (if t103 = true then (impl_CacheOk.j0 k l0 (decide ((l1_1.length : Int) > a1_0)) a1_0 l1_1) else (impl_CacheOk.j0 k l0 true a1_0 l1_1))) = some r := by rw [if_pos rfl] at H; exact H
   clear H
   have H := H1
   clear H1
   replace H := Option.bind_eq_some_iff.mp H
   obtain ⟨t103, A70, H⟩ := H
   replace H : (if t103 = true then (impl_CacheOk.j0 k l0 (decide ((l1_1.length : Int) > a1_0)) a1_0 l1_1) else (impl_CacheOk.j0 k l0 true a1_0 l1_1)) = some r := H
   have A7 := Aside0.mk A70
   clear A70
   by_cases c8 : t103 = true
   ·subst c8
    have H1 : (impl_CacheOk.j0 k l0 (decide ((l1_1.length : Int) > a1_0)) a1_0 l1_1) = some r := by rw [if_pos rfl] at H; exact H
    clear H
    have H := H1
    clear H1
    have H' := Aside0.mk H
    clear H
    go_wp2_with (first | ((with_reducible refine gate_callee (f := 107) rfl ?_); refine goesL_ (some 9) rfl rfl Try.func107 (by kernel_rfl) rfl #[.slice A0 l0.length c0] rfl MT ?_; (with_reducible refine (impl_RulesOk.calls k _ _ l0 true _ ?side1 ?side2 A5.out).mono ?_); (case side1 => exact KD HR0 HB); (case side2 => exact HC0.out); rintro e w9 ⟨rfl, hb⟩; refine ⟨_, rfl, ?_⟩; replace BK101 := am (BB BK101 hb); replace HB := am (below_step (K1 HB GE101.out) hb); (try clear hb); obtain ⟨hcz10_0, hcz10_1, hfz10_0⟩ := y2 w9 BK101.out) | (go_at_call 49; (with_reducible refine (impl_in.calls a1_0 0 16 true _ A7.out).mono ?_); rintro e w' ⟨rfl, ⟨nd, rfl⟩⟩))
    go_meet
    case rel => exact ⟨_, (decide ((l1_1.length : Int) > a1_0)), (by first | rfl | (simp; done) | (simp [*]; done)), H', ⟨by first | omega | exact Nat.le_refl _⟩, ⟨KB BK101⟩, ⟨K1 HB GE101.out⟩⟩
   ·replace c8 := Bool.eq_false_iff.mpr c8
    subst c8
    have H1 : (impl_CacheOk.j0 k l0 true a1_0 l1_1) = some r := by rw [if_neg (show ¬ (false = true) by decide)] at H; exact H
    clear H
    have H := H1
    clear H1
    have H' := Aside0.mk H
    clear H
    go_wp2_with (first | ((with_reducible refine gate_callee (f := 107) rfl ?_); refine goesL_ (some 9) rfl rfl Try.func107 (by kernel_rfl) rfl #[.slice A0 l0.length c0] rfl MT ?_; (with_reducible refine (impl_RulesOk.calls k _ _ l0 true _ ?side1 ?side2 A5.out).mono ?_); (case side1 => exact KD HR0 HB); (case side2 => exact HC0.out); rintro e w11 ⟨rfl, hb⟩; refine ⟨_, rfl, ?_⟩; replace BK101 := am (BB BK101 hb); replace HB := am (below_step (K1 HB GE101.out) hb); (try clear hb); obtain ⟨hcz12_0, hcz12_1, hfz12_0⟩ := y2 w11 BK101.out) | (go_at_call 49; (with_reducible refine (impl_in.calls a1_0 0 16 false _ A7.out).mono ?_); rintro e w' ⟨rfl, ⟨nd, rfl⟩⟩))
    go_meet
    case rel => exact ⟨_, (true), (by first | rfl | (simp; done) | (simp [*]; done)), H', ⟨by first | omega | exact Nat.le_refl _⟩, ⟨KB BK101⟩, ⟨K1 HB GE101.out⟩⟩
  ·replace c6 := Bool.eq_false_iff.mpr c6
   subst c6
   have H1 : (impl_CacheOk.j0 k l0 true a1_0 l1_1) = some r := by rw [if_neg (show ¬ (false = true) by decide)] at H; exact H
   clear H
   have H := H1
   clear H1
   have H' := Aside0.mk H
   clear H
   go_wp2_with (first | ((with_reducible refine gate_callee (f := 107) rfl ?_); refine goesL_ (some 9) rfl rfl Try.func107 (by kernel_rfl) rfl #[.slice A0 l0.length c0] rfl MT ?_; (with_reducible refine (impl_RulesOk.calls k _ _ l0 false _ ?side1 ?side2 A5.out).mono ?_); (case side1 => exact KD HR0 HB); (case side2 => exact HC0.out); rintro e w13 ⟨rfl, hb⟩; refine ⟨_, rfl, ?_⟩; replace BK101 := am (BB BK101 hb); replace HB := am (below_step (K1 HB GE101.out) hb); (try clear hb)))
   go_meet
   case rel => exact ⟨_, (true), (by first | rfl | (simp; done) | (simp [*]; done)), H', ⟨by first | omega | exact Nat.le_refl _⟩, ⟨KB BK101⟩, ⟨K1 HB GE101.out⟩⟩
 case rest =>
  clear HC3
  try clear c1
  try clear p2
  try clear c6
  try clear c8
  try clear c10
  try clear hcz10_0 hcz10_1 hfz10_0
  try clear hcz12_0 hcz12_1 hfz12_0
  obtain ⟨kq, x24_2, rfl, HA, HJ2, BK101, HB⟩ := hcut
  cases kq with
  | zero => exact absurd HA.out (by simp [impl_CacheOk.j0])
  | succ kj2 =>
   have H := HA.out
   clear HA
   simp only [impl_CacheOk.j0] at H
   by_cases c14 : x24_2 = true
   ·subst c14
    have H1 : (some false) = some r := by rw [if_pos rfl] at H; exact H
    clear H
    have H := H1
    clear H1
    obtain rfl := Option.some.inj H
    go_wp2
    go_ret
    exact ⟨ER, K1 HB GE101.out⟩
   ·replace c14 := Bool.eq_false_iff.mpr c14
    subst c14
    have H1 : (impl_CacheOk.l0 kj2 l0 l1_1 (l1_1.length : Int) 0 a1_0 l1_1) = some r := by rw [if_neg (show ¬ (false = true) by decide)] at H; exact H
    clear H
    have H := H1
    clear H1
    have H' := Aside0.mk H
    clear H
    obtain ⟨hcz15_0, hcz15_1, hfz15_0⟩ := y2 wc BK101.out
    go_wp2
    go_loopg [28] kj2 (fun kq v28 w' => ∃ (x28_2 : Int), v28 = .int .i64 x28_2 ∧ Aside0 (impl_CacheOk.l0 kq l0 l1_1 (l1_1.length : Int) x28_2 a1_0 l1_1 = some r) ∧ Aside0 (kq ≤ kj2) ∧ Aside0 (w'.heap[gb101]? = some (.cells #[.int .i64 a1_0, (.slice A1_1 l1_1.length c1_1)] 54 (0, 0))) ∧ Aside0 (Below w.heap.size w w'))
    case atStart => exact ⟨(0), (by first | rfl | (simp; done) | (simp [*]; done)), H', ⟨Nat.le_refl _⟩, ⟨KB BK101⟩, ⟨K1 HB GE101.out⟩⟩
    case round =>
     clear H'
     try clear c1
     try clear p2
     try clear c6
     try clear c8
     try clear c10
     try clear c14
     try clear hcz10_0 hcz10_1 hfz10_0
     try clear hcz12_0 hcz12_1 hfz12_0
     try clear hcz15_0 hcz15_1 hfz15_0
     try clear p2
     obtain ⟨x28_2, rfl, HA, HK2, BK101, HB⟩ := hrel
     cases gk with
     | zero => exact absurd HA.out (by simp [impl_CacheOk.l0])
     | succ k2 =>
      have H := HA.out
      clear HA
      simp only [impl_CacheOk.l0] at H
      by_cases c16 : x28_2 < (l1_1.length : Int)
      ·rw [if_pos c16] at H
       have c16b0 : decide (x28_2 < (l1_1.length : Int)) = true := decide_eq_true c16
       clear c16
       by_cases c17 : 0 ≤ x28_2
       ·rw [if_pos c17] at H
        have c17b0 : decide (0 ≤ x28_2) = true := decide_eq_true c17
        clear c17
        by_cases c18 : x28_2 < (l1_1.length : Int)
        ·rw [if_pos c18] at H
         have c18b0 : decide (x28_2 < (l1_1.length : Int)) = true := decide_eq_true c18
         clear c18
         replace H := Option.bind_eq_some_iff.mp H
         obtain ⟨t106, A190, H⟩ := H
         replace H : (if t106 = true then ((impl_first.f l0 ((rd_T136 l1_1 x28_2).f0.f0) ((rd_T136 l1_1 x28_2).f0.f1) ((rd_T136 l1_1 x28_2).f0.f2)).bind fun t107 => (if ((rd_T136 l1_1 x28_2).f1) = t107 then (if x28_2 ≤ (l1_1.length : Int) then ((slices_ContainsFunc_Seen.f (l1_1.take (x28_2 : Int).toNat) ((rd_T136 l1_1 x28_2).f0.f0) ((rd_T136 l1_1 x28_2).f0.f1) ((rd_T136 l1_1 x28_2).f0.f2) ((rd_T136 l1_1 x28_2).f1)).bind fun t112 => (if t112 = true then (some false) else (impl_CacheOk.l0 k2 l0 l1_1 (l1_1.length : Int) (wrap64 (x28_2 + 1)) a1_0 l1_1))) else (none)) else (some false))) else (some false)) = some r := H
         have A19 := Aside0.mk A190
         clear A190
         by_cases c20 : t106 = true
         ·subst c20
          have H1 : ((impl_first.f l0 ((rd_T136 l1_1 x28_2).f0.f0) ((rd_T136 l1_1 x28_2).f0.f1) ((rd_T136 l1_1 x28_2).f0.f2)).bind fun t107 => (if ((rd_T136 l1_1 x28_2).f1) = t107 then (if x28_2 ≤ (l1_1.length : Int) then ((slices_ContainsFunc_Seen.f (l1_1.take (x28_2 : Int).toNat) ((rd_T136 l1_1 x28_2).f0.f0) ((rd_T136 l1_1 x28_2).f0.f1) ((rd_T136 l1_1 x28_2).f0.f2) ((rd_T136 l1_1 x28_2).f1)).bind fun t112 => (if t112 = true then (some false) else (impl_CacheOk.l0 k2 l0 l1_1 (l1_1.length : Int) (wrap64 (x28_2 + 1)) a1_0 l1_1))) else (none)) else (some false))) = some r := by rw [if_pos rfl] at H; exact H
          clear H
          have H := H1
          clear H1
          replace H := Option.bind_eq_some_iff.mp H
          obtain ⟨t107, A210, H⟩ := H
          replace H : (if ((rd_T136 l1_1 x28_2).f1) = t107 then (if x28_2 ≤ (l1_1.length : Int) then ((slices_ContainsFunc_Seen.f (l1_1.take (x28_2 : Int).toNat) ((rd_T136 l1_1 x28_2).f0.f0) ((rd_T136 l1_1 x28_2).f0.f1) ((rd_T136 l1_1 x28_2).f0.f2) ((rd_T136 l1_1 x28_2).f1)).bind fun t112 => (if t112 = true then (some false) else (impl_CacheOk.l0 k2 l0 l1_1 (l1_1.length : Int) (wrap64 (x28_2 + 1)) a1_0 l1_1))) else (none)) else (some false)) = some r := H
          have A21 := Aside0.mk A210
          clear A210
          by_cases c22 : ((rd_T136 l1_1 x28_2).f1) = t107
          ·rw [if_pos c22] at H
           have c22b0 : (((rd_T136 l1_1 x28_2).f1) == t107) = true := beq_iff_eq.mpr c22
           have c22b1 : (((rd_T136 l1_1 x28_2).f1) != t107) = false := bne_eq_false_iff_eq.mpr c22
           clear c22
           have c23b0 := eq_true (OD : 0 ≤ x28_2)
           by_cases c24 : x28_2 ≤ (l1_1.length : Int)
           ·rw [if_pos c24] at H
            have c24b0 := eq_true c24
            have c24b1 : decide (x28_2 ≤ (l1_1.length : Int)) = true := decide_eq_true c24
            clear c24
            obtain ⟨y108, hy108⟩ : ∃ y_ : List (S136), y_ = (l1_1.take (x28_2 : Int).toNat) := ⟨_, rfl⟩
            replace H : ((slices_ContainsFunc_Seen.f y108 ((rd_T136 l1_1 x28_2).f0.f0) ((rd_T136 l1_1 x28_2).f0.f1) ((rd_T136 l1_1 x28_2).f0.f2) ((rd_T136 l1_1 x28_2).f1)).bind fun t112 => (if t112 = true then (some false) else (impl_CacheOk.l0 k2 l0 l1_1 (l1_1.length : Int) (wrap64 (x28_2 + 1)) a1_0 l1_1))) = some r := by first | (rw [hy108]; with_reducible exact H) | (have H2_ := (Option.bind_some _ _).symm.trans H; rw [hy108]; with_reducible exact H2_) | (have H2_ := (Option.bind_some _ _).symm.trans H; with_reducible exact H2_) | with_reducible exact H | (rw [hy108]; exact H) | exact H
            have Ny108 := Aside0.mk hy108
            clear hy108
            replace H := Option.bind_eq_some_iff.mp H
            obtain ⟨t112, A250, H⟩ := H
            replace H : (if t112 = true then (some false) else (impl_CacheOk.l0 k2 l0 l1_1 (l1_1.length : Int) (wrap64 (x28_2 + 1)) a1_0 l1_1)) = some r := H
            have A25 := Aside0.mk A250
            clear A250
            by_cases c26 : t112 = true
            ·subst c26
             have H1 : (some false) = some r := by rw [if_pos rfl] at H; exact H
             clear H
             have H := H1
             clear H1
             obtain rfl := Option.some.inj H
             have p104 : 0 ≤ (x28_2 : Int) := OD
             have q104 : x28_2 < (l1_1.length : Int) := OD
             obtain ⟨ad104, e104, hx104_0, hx104_1, hx104_2, hx104_3⟩ := at_T136 HR1_1.out x28_2 p104 q104
             cases e104
             replace hx104_0 := CX HB.out hx104_0
             replace hx104_1 := CX HB.out hx104_1
             replace hx104_2 := CX HB.out hx104_2
             replace hx104_3 := CX HB.out hx104_3
             replace p104 := eq_true p104
             replace q104 := eq_true q104
             try go_wp2_with (first | ((with_reducible refine gate_dst (N := 6) rfl ?_); (try (refine gate_guard (by rfl) ?_; dsimp only)); refine box_event rfl (N := 6) rfl (cs := #[.int .i64 0, .int .i64 0, .int .i64 0, .int .i64 0]) (t := 136) BX ?_; intro gb105 hg w27 hbox hb; have BK105 := am (hbox); have GW105 := am (GH1 HB GE101.out hg); have GE105 := GW105; replace HB := am (below_step (K1 HB GE101.out) hb); have NB101_105 := am (NL BK101 hg); have NB105_101 := am (NG BK101 hg); replace BK101 := am (BB BK101 hb); clear hb hbox hg; have hnb28 := NB105_101.out; have hnc28 := NB101_105.out; obtain ⟨hcz29_0, hcz29_1, hcz29_2, hcz29_3, hfz29_0⟩ := y4 w27 BK105.out))
             generalize hq_ : ((((w27.setCell ⟨gb105, 0, none⟩ (.int .i64 ((rd_T136 l1_1 x28_2).f0.f0))).setCell ⟨gb105, 1, none⟩ (.int .i64 ((rd_T136 l1_1 x28_2).f0.f1))).setCell ⟨gb105, 2, none⟩ (.int .i64 ((rd_T136 l1_1 x28_2).f0.f2))).setCell ⟨gb105, 3, none⟩ (.int .i64 ((rd_T136 l1_1 x28_2).f1))) = w30
             have n0_ : Aside0 (w30.heap[gb101]? = some (.cells #[.int .i64 a1_0, .slice (some ad104) l1_1.length c1_1] 54 (0, 0))) := ⟨by rw [← hq_]; (with_reducible repeat (first | refine blk_drewN ?_ _ | refine blk_drew ?_ | refine blk_alloc ?_ _)); refine blk_far ?_ NB101_105.out _; (with_reducible repeat (first | refine blk_drewN ?_ _ | refine blk_drew ?_ | refine blk_alloc ?_ _)); refine blk_far ?_ NB101_105.out _; (with_reducible repeat (first | refine blk_drewN ?_ _ | refine blk_drew ?_ | refine blk_alloc ?_ _)); refine blk_far ?_ NB101_105.out _; (with_reducible repeat (first | refine blk_drewN ?_ _ | refine blk_drew ?_ | refine blk_alloc ?_ _)); refine blk_far ?_ NB101_105.out _; (with_reducible repeat (first | refine blk_drewN ?_ _ | refine blk_drew ?_ | refine blk_alloc ?_ _)); exact BK101.out⟩
             have n1_ : Aside0 (w30.heap[gb105]? = some (.cells #[.int .i64 ((rd_T136 l1_1 x28_2).f0.f0), .int .i64 ((rd_T136 l1_1 x28_2).f0.f1), .int .i64 ((rd_T136 l1_1 x28_2).f0.f2), .int .i64 ((rd_T136 l1_1 x28_2).f1)] 136 (0, 0))) := ⟨by rw [← hq_]; exact P4 BK105⟩
             have n2_ : Aside0 (Below w.heap.size w w30) := ⟨by rw [← hq_]; exact K2 HB GE101.out GE105.out⟩
             clear hq_
             (try clear BK101)
             (try clear BK105)
             (try clear HB)
             have BK101 := n0_
             have BK105 := n1_
             have HB := n2_
             clear n0_ n1_ n2_
             replace BK101 := am (blk_drew BK101.out)
             replace BK105 := am (blk_drew BK105.out)
             replace HB := am (below_drew1 HB.out)
             refine start_ (n := 21) (S := fun w' => ce4 w' gb105 (.int .i64 ((rd_T136 l1_1 x28_2).f0.f0)) (.int .i64 ((rd_T136 l1_1 x28_2).f0.f1)) (.int .i64 ((rd_T136 l1_1 x28_2).f0.f2)) (.int .i64 ((rd_T136 l1_1 x28_2).f1)) (de2 w' gb101 (.int .i64 a1_0) (.slice (some ad104) l1_1.length c1_1))) (ds := []) (tf 0 21) (by kernel_rfl) rfl rfl ⟨z0 _ BK105.out, z1 _ BK105.out, z2 _ BK105.out, z3 _ BK105.out, z0 _ BK101.out, z1 _ BK101.out⟩ (fun hHeld => ?_); refine with_tabW impl_CacheOk.tab7 impl_CacheOk.bits7 (fun HT_ HW_ => ?_)
             generalize w30.drew = w31 at BK101 BK105 HB hHeld ⊢
             refine pv HT_ 0 34 (tf 1 20) ?_
             refine tk 1 (some 35) (tf 2 19) (take_ofW HT_.out HW_.out (by kernel_rfl)) hHeld ?_
             refine one_ (i := 2) (N := some 36) (tf 3 18) rfl rfl (one_of HT_.out (by kernel_rfl)) (by decide) (fun K hK => ?_)
             refine goes_ Try.func109 (by kernel_rfl) rfl #[.agg #[.int .i64 ((rd_T136 l1_1 x28_2).f0.f0), .int .i64 ((rd_T136 l1_1 x28_2).f0.f1), .int .i64 ((rd_T136 l1_1 x28_2).f0.f2)]] (by rfl) rfl rfl MT ?_
             with_reducible refine (impl_isCall.calls ((rd_T136 l1_1 x28_2).f0.f0) ((rd_T136 l1_1 x28_2).f0.f1) ((rd_T136 l1_1 x28_2).f0.f2) true _ A19.out).mono ?_
             rintro e w32 ⟨rfl, hb⟩
             refine ⟨_, rfl, ?_⟩
             replace BK101 := am (BB BK101 hb)
             replace BK105 := am (BB BK105 hb)
             replace HB := am (below_step (K2 HB GE101.out GE105.out) hb)
             (try clear hb)
             (try clear hb2)
             (try clear hk)
             (try clear hi)
             refine hK.out _ _ ⟨z0 _ BK105.out, z1 _ BK105.out, z2 _ BK105.out, z3 _ BK105.out, z0 _ BK101.out, z1 _ BK101.out⟩ (fun hHeld => ?_)
             clear hK K
             refine norm_ (a' := ?_) ?_ ?_
             rotate_left
             ·show Act.put _ (some 36) _ = _
              simp only [Act.put, List.setIfInBounds_toArray, List.set_cons_zero, List.set_cons_succ, i64_w, i32_w]
              rfl
             refine pv HT_ 3 37 (tf 4 17) ?_
             refine pv HT_ 4 38 (tf 5 16) ?_
             refine pv HT_ 5 39 (tf 6 15) ?_
             refine pv HT_ 7 41 (tr [6, 1, 1, 13]) ?_
             refine pv HT_ 8 42 (tr [6, 1, 2, 12]) ?_
             refine tk 6 (some 40) (tf 9 12) (take_ofW HT_.out HW_.out (by kernel_rfl)) hHeld ?_
             refine tk 9 (some 43) (tf 10 11) (take_ofW HT_.out HW_.out (by kernel_rfl)) hHeld ?_
             refine one_ (i := 10) (N := some 44) (tf 11 10) rfl rfl (one_of HT_.out (by kernel_rfl)) (by decide) (fun K hK => ?_)
             refine goes_ Try.func77 (by kernel_rfl) rfl #[.slice A0 l0.length c0, .agg #[.int .i64 ((rd_T136 l1_1 x28_2).f0.f0), .int .i64 ((rd_T136 l1_1 x28_2).f0.f1), .int .i64 ((rd_T136 l1_1 x28_2).f0.f2)]] (by rfl) rfl rfl MT ?_
             with_reducible refine (impl_first.calls _ _ l0 ((rd_T136 l1_1 x28_2).f0.f0) ((rd_T136 l1_1 x28_2).f0.f1) ((rd_T136 l1_1 x28_2).f0.f2) t107 _ ?side1 ?side2 A21.out).mono ?_
             (case side1 => exact KD HR0 HB)
             (case side2 => exact HC0.out)
             rintro e w33 ⟨rfl, hb⟩
             refine ⟨_, rfl, ?_⟩
             replace BK101 := am (BB BK101 hb)
             replace BK105 := am (BB BK105 hb)
             replace HB := am (below_step (K2 HB GE101.out GE105.out) hb)
             (try clear hb)
             (try clear hb2)
             (try clear hk)
             (try clear hi)
             have q34 : (x28_2 : Int) ≤ ((l1_1.length : Int) : Int) := OD
             obtain ⟨i034, hi034, _, hsz34, _⟩ := info_parts info136
             have hroom34 : l1_1.length ≤ c1_1 := HC1_1.out
             have hC34 : Kd.C k136 _ (some ad104) l1_1.length l1_1 := HR1_1.out
             have hcut34 := cut_to (P := Try.prog) 52 136 .i64 Try.underlying52 hi034 (some ad104) l1_1.length c1_1 x28_2 (OD) q34 hroom34
             have hr34 := Kd.C_take (m := (x28_2 : Int).toNat) hC34 (by omega)
             have hy34 : y108.length = (x28_2 : Int).toNat := (by rw [Ny108.out, List.length_take]; omega)
             rw [← Ny108.out] at hr34
             rw [← hy34] at hcut34
             have HR111 := Aside0.mk hr34
             have HC111 := am (show y108.length ≤ c1_1 from by omega)
             clear hr34 hC34 hroom34 hi034 hsz34
             have KY34 := Aside0.mk hy34
             clear hy34
             replace q34 := eq_true q34
             refine hK.out _ _ ⟨z0 _ BK105.out, z1 _ BK105.out, z2 _ BK105.out, z3 _ BK105.out, z0 _ BK101.out, z1 _ BK101.out⟩ (fun hHeld => ?_)
             clear hK K
             refine norm_ (a' := ?_) ?_ ?_
             rotate_left
             ·show Act.put _ (some 44) _ = _
              simp only [Act.put, List.setIfInBounds_toArray, List.set_cons_zero, List.set_cons_succ, i64_w, i32_w]
              rfl
             refine pv HT_ 11 45 (tf 12 9) ?_
             refine pv HT_ 12 46 (tf 13 8) ?_
             refine pv HT_ 13 47 (tf 14 7) ?_
             refine pv HT_ 14 48 (tf 15 6) ?_
             refine pv HT_ 16 50 (tr [15, 1, 1, 4]) ?_
             refine pv HT_ 18 52 (tr [15, 1, 1, 1, 1, 2]) ?_
             refine tk 15 (some 49) (tr [17, 1, 1, 2]) (take_ofW HT_.out HW_.out (by kernel_rfl)) hHeld ?_
             refine pv HT_ 17 51 (tf 19 2) ?_
             refine one_ (i := 19) (N := some 53) (tf 20 1) rfl rfl (one_of HT_.out (by kernel_rfl)) (by decide) (fun K hK => ?_)
             refine goes_ Try.func110 (by kernel_rfl) rfl #[.slice (some ad104) y108.length c1_1, .func (.func 108) #[] #[.pointer (some ⟨gb105, 0, none⟩)]] (by rfl) rfl rfl MT ?_
             with_reducible refine (slices_ContainsFunc_Seen.calls _ _ y108 ((rd_T136 l1_1 x28_2).f0.f0) ((rd_T136 l1_1 x28_2).f0.f1) ((rd_T136 l1_1 x28_2).f0.f2) ((rd_T136 l1_1 x28_2).f1) gb105 true _ ?side1 ?side2 ?side3 A25.out).mono ?_
             (case side1 => exact KD HR111 HB)
             (case side2 => exact HC111.out)
             (case side3 => exact (KB BK105))
             rintro e w35 ⟨rfl, hb⟩
             refine ⟨_, rfl, ?_⟩
             replace BK101 := am (BB BK101 hb)
             replace BK105 := am (BB BK105 hb)
             replace HB := am (below_step (K2 HB GE101.out GE105.out) hb)
             (try clear hb)
             (try clear hb2)
             (try clear hk)
             (try clear hi)
             refine hK.out _ _ ⟨z0 _ BK105.out, z1 _ BK105.out, z2 _ BK105.out, z3 _ BK105.out, z0 _ BK101.out, z1 _ BK101.out⟩ (fun hHeld => ?_)
             clear hK K
             refine norm_ (a' := ?_) ?_ ?_
             rotate_left
             ·show Act.put _ (some 53) _ = _
              simp only [Act.put, List.setIfInBounds_toArray, List.set_cons_zero, List.set_cons_succ, i64_w, i32_w]
              rfl
             refine pv HT_ 20 54 (tf 21 0) ?_
             refine done_ (done_of HT_.out (by kernel_rfl)) ?_
             try go_wp2
             go_ret
             exact ⟨ER, K2 HB GE101.out GE105.out⟩
            ·replace c26 := Bool.eq_false_iff.mpr c26
             subst c26
             have H1 : (impl_CacheOk.l0 k2 l0 l1_1 (l1_1.length : Int) (wrap64 (x28_2 + 1)) a1_0 l1_1) = some r := by rw [if_neg (show ¬ (false = true) by decide)] at H; exact H
             clear H
             have H := H1
             clear H1
             have H' := Aside0.mk H
             clear H
             have p104 : 0 ≤ (x28_2 : Int) := OD
             have q104 : x28_2 < (l1_1.length : Int) := OD
             obtain ⟨ad104, e104, hx104_0, hx104_1, hx104_2, hx104_3⟩ := at_T136 HR1_1.out x28_2 p104 q104
             cases e104
             replace hx104_0 := CX HB.out hx104_0
             replace hx104_1 := CX HB.out hx104_1
             replace hx104_2 := CX HB.out hx104_2
             replace hx104_3 := CX HB.out hx104_3
             replace p104 := eq_true p104
             replace q104 := eq_true q104
             try go_wp2_with (first | ((with_reducible refine gate_dst (N := 6) rfl ?_); (try (refine gate_guard (by rfl) ?_; dsimp only)); refine box_event rfl (N := 6) rfl (cs := #[.int .i64 0, .int .i64 0, .int .i64 0, .int .i64 0]) (t := 136) BX ?_; intro gb105 hg w36 hbox hb; have BK105 := am (hbox); have GW105 := am (GH1 HB GE101.out hg); have GE105 := GW105; replace HB := am (below_step (K1 HB GE101.out) hb); have NB101_105 := am (NL BK101 hg); have NB105_101 := am (NG BK101 hg); replace BK101 := am (BB BK101 hb); clear hb hbox hg; have hnb37 := NB105_101.out; have hnc37 := NB101_105.out; obtain ⟨hcz38_0, hcz38_1, hcz38_2, hcz38_3, hfz38_0⟩ := y4 w36 BK105.out))
             generalize hq_ : ((((w36.setCell ⟨gb105, 0, none⟩ (.int .i64 ((rd_T136 l1_1 x28_2).f0.f0))).setCell ⟨gb105, 1, none⟩ (.int .i64 ((rd_T136 l1_1 x28_2).f0.f1))).setCell ⟨gb105, 2, none⟩ (.int .i64 ((rd_T136 l1_1 x28_2).f0.f2))).setCell ⟨gb105, 3, none⟩ (.int .i64 ((rd_T136 l1_1 x28_2).f1))) = w39
             have n0_ : Aside0 (w39.heap[gb101]? = some (.cells #[.int .i64 a1_0, .slice (some ad104) l1_1.length c1_1] 54 (0, 0))) := ⟨by rw [← hq_]; (with_reducible repeat (first | refine blk_drewN ?_ _ | refine blk_drew ?_ | refine blk_alloc ?_ _)); refine blk_far ?_ NB101_105.out _; (with_reducible repeat (first | refine blk_drewN ?_ _ | refine blk_drew ?_ | refine blk_alloc ?_ _)); refine blk_far ?_ NB101_105.out _; (with_reducible repeat (first | refine blk_drewN ?_ _ | refine blk_drew ?_ | refine blk_alloc ?_ _)); refine blk_far ?_ NB101_105.out _; (with_reducible repeat (first | refine blk_drewN ?_ _ | refine blk_drew ?_ | refine blk_alloc ?_ _)); refine blk_far ?_ NB101_105.out _; (with_reducible repeat (first | refine blk_drewN ?_ _ | refine blk_drew ?_ | refine blk_alloc ?_ _)); exact BK101.out⟩
             have n1_ : Aside0 (w39.heap[gb105]? = some (.cells #[.int .i64 ((rd_T136 l1_1 x28_2).f0.f0), .int .i64 ((rd_T136 l1_1 x28_2).f0.f1), .int .i64 ((rd_T136 l1_1 x28_2).f0.f2), .int .i64 ((rd_T136 l1_1 x28_2).f1)] 136 (0, 0))) := ⟨by rw [← hq_]; exact P4 BK105⟩
             have n2_ : Aside0 (Below w.heap.size w w39) := ⟨by rw [← hq_]; exact K2 HB GE101.out GE105.out⟩
             clear hq_
             (try clear BK101)
             (try clear BK105)
             (try clear HB)
             have BK101 := n0_
             have BK105 := n1_
             have HB := n2_
             clear n0_ n1_ n2_
             replace BK101 := am (blk_drew BK101.out)
             replace BK105 := am (blk_drew BK105.out)
             replace HB := am (below_drew1 HB.out)
             refine start_ (n := 21) (S := fun w' => ce4 w' gb105 (.int .i64 ((rd_T136 l1_1 x28_2).f0.f0)) (.int .i64 ((rd_T136 l1_1 x28_2).f0.f1)) (.int .i64 ((rd_T136 l1_1 x28_2).f0.f2)) (.int .i64 ((rd_T136 l1_1 x28_2).f1)) (de2 w' gb101 (.int .i64 a1_0) (.slice (some ad104) l1_1.length c1_1))) (ds := []) (tf 0 21) (by kernel_rfl) rfl rfl ⟨z0 _ BK105.out, z1 _ BK105.out, z2 _ BK105.out, z3 _ BK105.out, z0 _ BK101.out, z1 _ BK101.out⟩ (fun hHeld => ?_); refine with_tabW impl_CacheOk.tab7 impl_CacheOk.bits7 (fun HT_ HW_ => ?_)
             generalize w39.drew = w40 at BK101 BK105 HB hHeld ⊢
             refine pv HT_ 0 34 (tf 1 20) ?_
             refine tk 1 (some 35) (tf 2 19) (take_ofW HT_.out HW_.out (by kernel_rfl)) hHeld ?_
             refine one_ (i := 2) (N := some 36) (tf 3 18) rfl rfl (one_of HT_.out (by kernel_rfl)) (by decide) (fun K hK => ?_)
             refine goes_ Try.func109 (by kernel_rfl) rfl #[.agg #[.int .i64 ((rd_T136 l1_1 x28_2).f0.f0), .int .i64 ((rd_T136 l1_1 x28_2).f0.f1), .int .i64 ((rd_T136 l1_1 x28_2).f0.f2)]] (by rfl) rfl rfl MT ?_
             with_reducible refine (impl_isCall.calls ((rd_T136 l1_1 x28_2).f0.f0) ((rd_T136 l1_1 x28_2).f0.f1) ((rd_T136 l1_1 x28_2).f0.f2) true _ A19.out).mono ?_
             rintro e w41 ⟨rfl, hb⟩
             refine ⟨_, rfl, ?_⟩
             replace BK101 := am (BB BK101 hb)
             replace BK105 := am (BB BK105 hb)
             replace HB := am (below_step (K2 HB GE101.out GE105.out) hb)
             (try clear hb)
             (try clear hb2)
             (try clear hk)
             (try clear hi)
             refine hK.out _ _ ⟨z0 _ BK105.out, z1 _ BK105.out, z2 _ BK105.out, z3 _ BK105.out, z0 _ BK101.out, z1 _ BK101.out⟩ (fun hHeld => ?_)
             clear hK K
             refine norm_ (a' := ?_) ?_ ?_
             rotate_left
             ·show Act.put _ (some 36) _ = _
              simp only [Act.put, List.setIfInBounds_toArray, List.set_cons_zero, List.set_cons_succ, i64_w, i32_w]
              rfl
             refine pv HT_ 3 37 (tf 4 17) ?_
             refine pv HT_ 4 38 (tf 5 16) ?_
             refine pv HT_ 5 39 (tf 6 15) ?_
             refine pv HT_ 7 41 (tr [6, 1, 1, 13]) ?_
             refine pv HT_ 8 42 (tr [6, 1, 2, 12]) ?_
             refine tk 6 (some 40) (tf 9 12) (take_ofW HT_.out HW_.out (by kernel_rfl)) hHeld ?_
             refine tk 9 (some 43) (tf 10 11) (take_ofW HT_.out HW_.out (by kernel_rfl)) hHeld ?_
             refine one_ (i := 10) (N := some 44) (tf 11 10) rfl rfl (one_of HT_.out (by kernel_rfl)) (by decide) (fun K hK => ?_)
             refine goes_ Try.func77 (by kernel_rfl) rfl #[.slice A0 l0.length c0, .agg #[.int .i64 ((rd_T136 l1_1 x28_2).f0.f0), .int .i64 ((rd_T136 l1_1 x28_2).f0.f1), .int .i64 ((rd_T136 l1_1 x28_2).f0.f2)]] (by rfl) rfl rfl MT ?_
             with_reducible refine (impl_first.calls _ _ l0 ((rd_T136 l1_1 x28_2).f0.f0) ((rd_T136 l1_1 x28_2).f0.f1) ((rd_T136 l1_1 x28_2).f0.f2) t107 _ ?side1 ?side2 A21.out).mono ?_
             (case side1 => exact KD HR0 HB)
             (case side2 => exact HC0.out)
             rintro e w42 ⟨rfl, hb⟩
             refine ⟨_, rfl, ?_⟩
             replace BK101 := am (BB BK101 hb)
             replace BK105 := am (BB BK105 hb)
             replace HB := am (below_step (K2 HB GE101.out GE105.out) hb)
             (try clear hb)
             (try clear hb2)
             (try clear hk)
             (try clear hi)
             have q43 : (x28_2 : Int) ≤ ((l1_1.length : Int) : Int) := OD
             obtain ⟨i043, hi043, _, hsz43, _⟩ := info_parts info136
             have hroom43 : l1_1.length ≤ c1_1 := HC1_1.out
             have hC43 : Kd.C k136 _ (some ad104) l1_1.length l1_1 := HR1_1.out
             have hcut43 := cut_to (P := Try.prog) 52 136 .i64 Try.underlying52 hi043 (some ad104) l1_1.length c1_1 x28_2 (OD) q43 hroom43
             have hr43 := Kd.C_take (m := (x28_2 : Int).toNat) hC43 (by omega)
             have hy43 : y108.length = (x28_2 : Int).toNat := (by rw [Ny108.out, List.length_take]; omega)
             rw [← Ny108.out] at hr43
             rw [← hy43] at hcut43
             have HR111 := Aside0.mk hr43
             have HC111 := am (show y108.length ≤ c1_1 from by omega)
             clear hr43 hC43 hroom43 hi043 hsz43
             have KY43 := Aside0.mk hy43
             clear hy43
             replace q43 := eq_true q43
             refine hK.out _ _ ⟨z0 _ BK105.out, z1 _ BK105.out, z2 _ BK105.out, z3 _ BK105.out, z0 _ BK101.out, z1 _ BK101.out⟩ (fun hHeld => ?_)
             clear hK K
             refine norm_ (a' := ?_) ?_ ?_
             rotate_left
             ·show Act.put _ (some 44) _ = _
              simp only [Act.put, List.setIfInBounds_toArray, List.set_cons_zero, List.set_cons_succ, i64_w, i32_w]
              rfl
             refine pv HT_ 11 45 (tf 12 9) ?_
             refine pv HT_ 12 46 (tf 13 8) ?_
             refine pv HT_ 13 47 (tf 14 7) ?_
             refine pv HT_ 14 48 (tf 15 6) ?_
             refine pv HT_ 16 50 (tr [15, 1, 1, 4]) ?_
             refine pv HT_ 18 52 (tr [15, 1, 1, 1, 1, 2]) ?_
             refine tk 15 (some 49) (tr [17, 1, 1, 2]) (take_ofW HT_.out HW_.out (by kernel_rfl)) hHeld ?_
             refine pv HT_ 17 51 (tf 19 2) ?_
             refine one_ (i := 19) (N := some 53) (tf 20 1) rfl rfl (one_of HT_.out (by kernel_rfl)) (by decide) (fun K hK => ?_)
             refine goes_ Try.func110 (by kernel_rfl) rfl #[.slice (some ad104) y108.length c1_1, .func (.func 108) #[] #[.pointer (some ⟨gb105, 0, none⟩)]] (by rfl) rfl rfl MT ?_
             with_reducible refine (slices_ContainsFunc_Seen.calls _ _ y108 ((rd_T136 l1_1 x28_2).f0.f0) ((rd_T136 l1_1 x28_2).f0.f1) ((rd_T136 l1_1 x28_2).f0.f2) ((rd_T136 l1_1 x28_2).f1) gb105 false _ ?side1 ?side2 ?side3 A25.out).mono ?_
             (case side1 => exact KD HR111 HB)
             (case side2 => exact HC111.out)
             (case side3 => exact (KB BK105))
             rintro e w44 ⟨rfl, hb⟩
             refine ⟨_, rfl, ?_⟩
             replace BK101 := am (BB BK101 hb)
             replace BK105 := am (BB BK105 hb)
             replace HB := am (below_step (K2 HB GE101.out GE105.out) hb)
             (try clear hb)
             (try clear hb2)
             (try clear hk)
             (try clear hi)
             refine hK.out _ _ ⟨z0 _ BK105.out, z1 _ BK105.out, z2 _ BK105.out, z3 _ BK105.out, z0 _ BK101.out, z1 _ BK101.out⟩ (fun hHeld => ?_)
             clear hK K
             refine norm_ (a' := ?_) ?_ ?_
             rotate_left
             ·show Act.put _ (some 53) _ = _
              simp only [Act.put, List.setIfInBounds_toArray, List.set_cons_zero, List.set_cons_succ, i64_w, i32_w]
              rfl
             refine pv HT_ 20 54 (tf 21 0) ?_
             refine done_ (done_of HT_.out (by kernel_rfl)) ?_
             try go_wp2
             go_roundg k2
             case measure => have := HJ2.out; have := HK2.out; omega
             case rel => exact ⟨(wrap64 (x28_2 + 1)), (by first | rfl | (simp; done) | (simp [*]; done)), H', ⟨by have := HJ2.out; have := HK2.out; omega⟩, ⟨KB BK101⟩, ⟨K2 HB GE101.out GE105.out⟩⟩
           ·rw [if_neg c24] at H
            exact absurd H (by simp)
          ·rw [if_neg c22] at H
           have c22b0 : (((rd_T136 l1_1 x28_2).f1) == t107) = false := beq_eq_false_iff_ne.mpr c22
           have c22b1 : (((rd_T136 l1_1 x28_2).f1) != t107) = true := bne_iff_ne.mpr c22
           obtain rfl := Option.some.inj H
           have p104 : 0 ≤ (x28_2 : Int) := OD
           have q104 : x28_2 < (l1_1.length : Int) := OD
           obtain ⟨ad104, e104, hx104_0, hx104_1, hx104_2, hx104_3⟩ := at_T136 HR1_1.out x28_2 p104 q104
           cases e104
           replace hx104_0 := CX HB.out hx104_0
           replace hx104_1 := CX HB.out hx104_1
           replace hx104_2 := CX HB.out hx104_2
           replace hx104_3 := CX HB.out hx104_3
           replace p104 := eq_true p104
           replace q104 := eq_true q104
           try go_wp2_with (first | ((with_reducible refine gate_dst (N := 6) rfl ?_); (try (refine gate_guard (by rfl) ?_; dsimp only)); refine box_event rfl (N := 6) rfl (cs := #[.int .i64 0, .int .i64 0, .int .i64 0, .int .i64 0]) (t := 136) BX ?_; intro gb105 hg w45 hbox hb; have BK105 := am (hbox); have GW105 := am (GH1 HB GE101.out hg); have GE105 := GW105; replace HB := am (below_step (K1 HB GE101.out) hb); have NB101_105 := am (NL BK101 hg); have NB105_101 := am (NG BK101 hg); replace BK101 := am (BB BK101 hb); clear hb hbox hg; have hnb46 := NB105_101.out; have hnc46 := NB101_105.out; obtain ⟨hcz47_0, hcz47_1, hcz47_2, hcz47_3, hfz47_0⟩ := y4 w45 BK105.out))
           generalize hq_ : ((((w45.setCell ⟨gb105, 0, none⟩ (.int .i64 ((rd_T136 l1_1 x28_2).f0.f0))).setCell ⟨gb105, 1, none⟩ (.int .i64 ((rd_T136 l1_1 x28_2).f0.f1))).setCell ⟨gb105, 2, none⟩ (.int .i64 ((rd_T136 l1_1 x28_2).f0.f2))).setCell ⟨gb105, 3, none⟩ (.int .i64 ((rd_T136 l1_1 x28_2).f1))) = w48
           have n0_ : Aside0 (w48.heap[gb101]? = some (.cells #[.int .i64 a1_0, .slice (some ad104) l1_1.length c1_1] 54 (0, 0))) := ⟨by rw [← hq_]; (with_reducible repeat (first | refine blk_drewN ?_ _ | refine blk_drew ?_ | refine blk_alloc ?_ _)); refine blk_far ?_ NB101_105.out _; (with_reducible repeat (first | refine blk_drewN ?_ _ | refine blk_drew ?_ | refine blk_alloc ?_ _)); refine blk_far ?_ NB101_105.out _; (with_reducible repeat (first | refine blk_drewN ?_ _ | refine blk_drew ?_ | refine blk_alloc ?_ _)); refine blk_far ?_ NB101_105.out _; (with_reducible repeat (first | refine blk_drewN ?_ _ | refine blk_drew ?_ | refine blk_alloc ?_ _)); refine blk_far ?_ NB101_105.out _; (with_reducible repeat (first | refine blk_drewN ?_ _ | refine blk_drew ?_ | refine blk_alloc ?_ _)); exact BK101.out⟩
           have n1_ : Aside0 (w48.heap[gb105]? = some (.cells #[.int .i64 ((rd_T136 l1_1 x28_2).f0.f0), .int .i64 ((rd_T136 l1_1 x28_2).f0.f1), .int .i64 ((rd_T136 l1_1 x28_2).f0.f2), .int .i64 ((rd_T136 l1_1 x28_2).f1)] 136 (0, 0))) := ⟨by rw [← hq_]; exact P4 BK105⟩
           have n2_ : Aside0 (Below w.heap.size w w48) := ⟨by rw [← hq_]; exact K2 HB GE101.out GE105.out⟩
           clear hq_
           (try clear BK101)
           (try clear BK105)
           (try clear HB)
           have BK101 := n0_
           have BK105 := n1_
           have HB := n2_
           clear n0_ n1_ n2_
           replace BK101 := am (blk_drew BK101.out)
           replace BK105 := am (blk_drew BK105.out)
           replace HB := am (below_drew1 HB.out)
           refine start_ (n := 21) (S := fun w' => de4 w' gb105 (.int .i64 ((rd_T136 l1_1 x28_2).f0.f0)) (.int .i64 ((rd_T136 l1_1 x28_2).f0.f1)) (.int .i64 ((rd_T136 l1_1 x28_2).f0.f2)) (.int .i64 ((rd_T136 l1_1 x28_2).f1))) (ds := []) (tf 0 21) (by kernel_rfl) rfl rfl ⟨z0 _ BK105.out, z1 _ BK105.out, z2 _ BK105.out, z3 _ BK105.out⟩ (fun hHeld => ?_); refine with_tabW impl_CacheOk.tab7 impl_CacheOk.bits7 (fun HT_ HW_ => ?_)
           generalize w48.drew = w49 at BK101 BK105 HB hHeld ⊢
           refine pv HT_ 0 34 (tf 1 20) ?_
           refine tk 1 (some 35) (tf 2 19) (take_ofW HT_.out HW_.out (by kernel_rfl)) hHeld ?_
           refine one_ (i := 2) (N := some 36) (tf 3 18) rfl rfl (one_of HT_.out (by kernel_rfl)) (by decide) (fun K hK => ?_)
           refine goes_ Try.func109 (by kernel_rfl) rfl #[.agg #[.int .i64 ((rd_T136 l1_1 x28_2).f0.f0), .int .i64 ((rd_T136 l1_1 x28_2).f0.f1), .int .i64 ((rd_T136 l1_1 x28_2).f0.f2)]] (by rfl) rfl rfl MT ?_
           with_reducible refine (impl_isCall.calls ((rd_T136 l1_1 x28_2).f0.f0) ((rd_T136 l1_1 x28_2).f0.f1) ((rd_T136 l1_1 x28_2).f0.f2) true _ A19.out).mono ?_
           rintro e w50 ⟨rfl, hb⟩
           refine ⟨_, rfl, ?_⟩
           replace BK101 := am (BB BK101 hb)
           replace BK105 := am (BB BK105 hb)
           replace HB := am (below_step (K2 HB GE101.out GE105.out) hb)
           (try clear hb)
           (try clear hb2)
           (try clear hk)
           (try clear hi)
           refine hK.out _ _ ⟨z0 _ BK105.out, z1 _ BK105.out, z2 _ BK105.out, z3 _ BK105.out⟩ (fun hHeld => ?_)
           clear hK K
           refine norm_ (a' := ?_) ?_ ?_
           rotate_left
           ·show Act.put _ (some 36) _ = _
            simp only [Act.put, List.setIfInBounds_toArray, List.set_cons_zero, List.set_cons_succ, i64_w, i32_w]
            rfl
           refine pv HT_ 3 37 (tf 4 17) ?_
           refine pv HT_ 4 38 (tf 5 16) ?_
           refine pv HT_ 5 39 (tf 6 15) ?_
           refine pv HT_ 7 41 (tr [6, 1, 1, 13]) ?_
           refine pv HT_ 8 42 (tr [6, 1, 2, 12]) ?_
           refine tk 6 (some 40) (tf 9 12) (take_ofW HT_.out HW_.out (by kernel_rfl)) hHeld ?_
           refine tk 9 (some 43) (tf 10 11) (take_ofW HT_.out HW_.out (by kernel_rfl)) hHeld ?_
           refine one_ (i := 10) (N := some 44) (tf 11 10) rfl rfl (one_of HT_.out (by kernel_rfl)) (by decide) (fun K hK => ?_)
           refine goes_ Try.func77 (by kernel_rfl) rfl #[.slice A0 l0.length c0, .agg #[.int .i64 ((rd_T136 l1_1 x28_2).f0.f0), .int .i64 ((rd_T136 l1_1 x28_2).f0.f1), .int .i64 ((rd_T136 l1_1 x28_2).f0.f2)]] (by rfl) rfl rfl MT ?_
           with_reducible refine (impl_first.calls _ _ l0 ((rd_T136 l1_1 x28_2).f0.f0) ((rd_T136 l1_1 x28_2).f0.f1) ((rd_T136 l1_1 x28_2).f0.f2) t107 _ ?side1 ?side2 A21.out).mono ?_
           (case side1 => exact KD HR0 HB)
           (case side2 => exact HC0.out)
           rintro e w51 ⟨rfl, hb⟩
           refine ⟨_, rfl, ?_⟩
           replace BK101 := am (BB BK101 hb)
           replace BK105 := am (BB BK105 hb)
           replace HB := am (below_step (K2 HB GE101.out GE105.out) hb)
           (try clear hb)
           (try clear hb2)
           (try clear hk)
           (try clear hi)
           refine hK.out _ _ ⟨z0 _ BK105.out, z1 _ BK105.out, z2 _ BK105.out, z3 _ BK105.out⟩ (fun hHeld => ?_)
           clear hK K
           refine norm_ (a' := ?_) ?_ ?_
           rotate_left
           ·show Act.put _ (some 44) _ = _
            simp only [Act.put, List.setIfInBounds_toArray, List.set_cons_zero, List.set_cons_succ, i64_w, i32_w]
            rfl
           refine pv HT_ 11 45 (tf 12 9) ?_
           refine pv HT_ 12 46 (tf 13 8) ?_
           refine pv HT_ 13 47 (tf 14 7) ?_
           refine pw HT_ 14 48 (tf 15 6) ?_
           refine pw HT_ 15 49 (tf 16 5) ?_
           refine pw HT_ 16 50 (tf 17 4) ?_
           refine pw HT_ 17 51 (tf 18 3) ?_
           refine pw HT_ 18 52 (tf 19 2) ?_
           refine pw HT_ 19 53 (tf 20 1) ?_
           refine pv HT_ 20 54 (tf 21 0) ?_
           refine done_ (done_of HT_.out (by kernel_rfl)) ?_
           try go_wp2
           go_ret
           exact ⟨ER, K2 HB GE101.out GE105.out⟩
         ·replace c20 := Bool.eq_false_iff.mpr c20
          subst c20
          have H1 : (some false) = some r := by rw [if_neg (show ¬ (false = true) by decide)] at H; exact H
          clear H
          have H := H1
          clear H1
          obtain rfl := Option.some.inj H
          have p104 : 0 ≤ (x28_2 : Int) := OD
          have q104 : x28_2 < (l1_1.length : Int) := OD
          obtain ⟨ad104, e104, hx104_0, hx104_1, hx104_2, hx104_3⟩ := at_T136 HR1_1.out x28_2 p104 q104
          cases e104
          replace hx104_0 := CX HB.out hx104_0
          replace hx104_1 := CX HB.out hx104_1
          replace hx104_2 := CX HB.out hx104_2
          replace hx104_3 := CX HB.out hx104_3
          replace p104 := eq_true p104
          replace q104 := eq_true q104
          try go_wp2_with (first | ((with_reducible refine gate_dst (N := 6) rfl ?_); (try (refine gate_guard (by rfl) ?_; dsimp only)); refine box_event rfl (N := 6) rfl (cs := #[.int .i64 0, .int .i64 0, .int .i64 0, .int .i64 0]) (t := 136) BX ?_; intro gb105 hg w52 hbox hb; have BK105 := am (hbox); have GW105 := am (GH1 HB GE101.out hg); have GE105 := GW105; replace HB := am (below_step (K1 HB GE101.out) hb); have NB101_105 := am (NL BK101 hg); have NB105_101 := am (NG BK101 hg); replace BK101 := am (BB BK101 hb); clear hb hbox hg; have hnb53 := NB105_101.out; have hnc53 := NB101_105.out; obtain ⟨hcz54_0, hcz54_1, hcz54_2, hcz54_3, hfz54_0⟩ := y4 w52 BK105.out))
          generalize hq_ : ((((w52.setCell ⟨gb105, 0, none⟩ (.int .i64 ((rd_T136 l1_1 x28_2).f0.f0))).setCell ⟨gb105, 1, none⟩ (.int .i64 ((rd_T136 l1_1 x28_2).f0.f1))).setCell ⟨gb105, 2, none⟩ (.int .i64 ((rd_T136 l1_1 x28_2).f0.f2))).setCell ⟨gb105, 3, none⟩ (.int .i64 ((rd_T136 l1_1 x28_2).f1))) = w55
          have n0_ : Aside0 (w55.heap[gb101]? = some (.cells #[.int .i64 a1_0, .slice (some ad104) l1_1.length c1_1] 54 (0, 0))) := ⟨by rw [← hq_]; (with_reducible repeat (first | refine blk_drewN ?_ _ | refine blk_drew ?_ | refine blk_alloc ?_ _)); refine blk_far ?_ NB101_105.out _; (with_reducible repeat (first | refine blk_drewN ?_ _ | refine blk_drew ?_ | refine blk_alloc ?_ _)); refine blk_far ?_ NB101_105.out _; (with_reducible repeat (first | refine blk_drewN ?_ _ | refine blk_drew ?_ | refine blk_alloc ?_ _)); refine blk_far ?_ NB101_105.out _; (with_reducible repeat (first | refine blk_drewN ?_ _ | refine blk_drew ?_ | refine blk_alloc ?_ _)); refine blk_far ?_ NB101_105.out _; (with_reducible repeat (first | refine blk_drewN ?_ _ | refine blk_drew ?_ | refine blk_alloc ?_ _)); exact BK101.out⟩
          have n1_ : Aside0 (w55.heap[gb105]? = some (.cells #[.int .i64 ((rd_T136 l1_1 x28_2).f0.f0), .int .i64 ((rd_T136 l1_1 x28_2).f0.f1), .int .i64 ((rd_T136 l1_1 x28_2).f0.f2), .int .i64 ((rd_T136 l1_1 x28_2).f1)] 136 (0, 0))) := ⟨by rw [← hq_]; exact P4 BK105⟩
          have n2_ : Aside0 (Below w.heap.size w w55) := ⟨by rw [← hq_]; exact K2 HB GE101.out GE105.out⟩
          clear hq_
          (try clear BK101)
          (try clear BK105)
          (try clear HB)
          have BK101 := n0_
          have BK105 := n1_
          have HB := n2_
          clear n0_ n1_ n2_
          replace BK101 := am (blk_drew BK101.out)
          replace BK105 := am (blk_drew BK105.out)
          replace HB := am (below_drew1 HB.out)
          refine start_ (n := 21) (S := fun w' => de4 w' gb105 (.int .i64 ((rd_T136 l1_1 x28_2).f0.f0)) (.int .i64 ((rd_T136 l1_1 x28_2).f0.f1)) (.int .i64 ((rd_T136 l1_1 x28_2).f0.f2)) (.int .i64 ((rd_T136 l1_1 x28_2).f1))) (ds := []) (tf 0 21) (by kernel_rfl) rfl rfl ⟨z0 _ BK105.out, z1 _ BK105.out, z2 _ BK105.out, z3 _ BK105.out⟩ (fun hHeld => ?_); refine with_tabW impl_CacheOk.tab7 impl_CacheOk.bits7 (fun HT_ HW_ => ?_)
          generalize w55.drew = w56 at BK101 BK105 HB hHeld ⊢
          refine pv HT_ 0 34 (tf 1 20) ?_
          refine tk 1 (some 35) (tf 2 19) (take_ofW HT_.out HW_.out (by kernel_rfl)) hHeld ?_
          refine one_ (i := 2) (N := some 36) (tf 3 18) rfl rfl (one_of HT_.out (by kernel_rfl)) (by decide) (fun K hK => ?_)
          refine goes_ Try.func109 (by kernel_rfl) rfl #[.agg #[.int .i64 ((rd_T136 l1_1 x28_2).f0.f0), .int .i64 ((rd_T136 l1_1 x28_2).f0.f1), .int .i64 ((rd_T136 l1_1 x28_2).f0.f2)]] (by rfl) rfl rfl MT ?_
          with_reducible refine (impl_isCall.calls ((rd_T136 l1_1 x28_2).f0.f0) ((rd_T136 l1_1 x28_2).f0.f1) ((rd_T136 l1_1 x28_2).f0.f2) false _ A19.out).mono ?_
          rintro e w57 ⟨rfl, hb⟩
          refine ⟨_, rfl, ?_⟩
          replace BK101 := am (BB BK101 hb)
          replace BK105 := am (BB BK105 hb)
          replace HB := am (below_step (K2 HB GE101.out GE105.out) hb)
          (try clear hb)
          (try clear hb2)
          (try clear hk)
          (try clear hi)
          refine hK.out _ _ ⟨z0 _ BK105.out, z1 _ BK105.out, z2 _ BK105.out, z3 _ BK105.out⟩ (fun hHeld => ?_)
          clear hK K
          refine norm_ (a' := ?_) ?_ ?_
          rotate_left
          ·show Act.put _ (some 36) _ = _
           simp only [Act.put, List.setIfInBounds_toArray, List.set_cons_zero, List.set_cons_succ, i64_w, i32_w]
           rfl
          refine pv HT_ 3 37 (tf 4 17) ?_
          refine pv HT_ 4 38 (tf 5 16) ?_
          refine pw HT_ 5 39 (tf 6 15) ?_
          refine pw HT_ 6 40 (tf 7 14) ?_
          refine pw HT_ 7 41 (tf 8 13) ?_
          refine pw HT_ 8 42 (tf 9 12) ?_
          refine pw HT_ 9 43 (tf 10 11) ?_
          refine pw HT_ 10 44 (tf 11 10) ?_
          refine pw HT_ 11 45 (tf 12 9) ?_
          refine pv HT_ 12 46 (tf 13 8) ?_
          refine pv HT_ 13 47 (tf 14 7) ?_
          refine pw HT_ 14 48 (tf 15 6) ?_
          refine pw HT_ 15 49 (tf 16 5) ?_
          refine pw HT_ 16 50 (tf 17 4) ?_
          refine pw HT_ 17 51 (tf 18 3) ?_
          refine pw HT_ 18 52 (tf 19 2) ?_
          refine pw HT_ 19 53 (tf 20 1) ?_
          refine pv HT_ 20 54 (tf 21 0) ?_
          refine done_ (done_of HT_.out (by kernel_rfl)) ?_
          try go_wp2
          go_ret
          exact ⟨ER, K2 HB GE101.out GE105.out⟩
        ·rw [if_neg c18] at H
         exact absurd H (by simp)
       ·rw [if_neg c17] at H
        exact absurd H (by simp)
      ·rw [if_neg c16] at H
       have c16b0 : decide (x28_2 < (l1_1.length : Int)) = false := decide_eq_false c16
       clear c16
       obtain rfl := Option.some.inj H
       go_wp2
       go_ret
       exact ⟨ER, K1 HB GE101.out⟩
end Go.Proofs.Ytlpmmmhfceeiaaa.PAll
end
