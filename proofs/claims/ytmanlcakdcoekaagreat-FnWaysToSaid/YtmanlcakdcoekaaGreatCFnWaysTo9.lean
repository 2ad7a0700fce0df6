/- Contracts of the functions that the statement reaches, printed by a program out of the translation and joined with the plain laws. -/
import Derived.WalkKit
import Derived.Shelf.Abstract
import Derived.Test.YtmanlcakdcoekaaGreatCFnWaysTo3
import Derived.Test.YtmanlcakdcoekaaGreatCFnWaysTo4
import Derived.Test.YtmanlcakdcoekaaGreatCFnWaysTo7
section
namespace Go.Proofs.YtmanlcakdcoekaaGreat.PAll
open Go.RowKit Go.Proofs.YtmanlcakdcoekaaGreatW.PrintWords Go.Proofs.YtmanlcakdcoekaaGreatW.PrintLast Go.Proofs.YtmanlcakdcoekaaGreatW.PrintMore
attribute [local go_sem] max2_int min2_int max_two min_two max_three min_three max_four min_four   -- for this text's walks alone
set_option linter.unusedVariables false
set_option linter.unusedSimpArgs false
set_option maxHeartbeats 4000000 in
set_option maxRecDepth 100000 in
theorem impl_Block_55.gen (p : S32 → Option Bool) (g : Nat) (lb : Array Value) (eg : ∀ args w, (callFunc g args).run Tryz.prog w = .ok (.enter g args) w) (A : Option Addr) (c : Nat) (l : List S32) (r : Int) (w : World) (hr : Kd.C k32 w A l.length l)
  (hp : ∀ (W : World) (x : S32) (b : Bool), x ∈ l → Below w.heap.size w W → p x = some b → Calls Tryz.prog g (#[.agg #[.int .i64 x.f0, .int .i64 x.f1]] ++ lb) W fun e w' => e = .returned (.bool b) ∧ Below w.heap.size w w') (h : findO p l 0 = some r) :
  Calls Tryz.prog 55 #[.slice A l.length c, .func (.func g) #[] lb] w fun e w' => e = .returned (.int .i64 r) ∧ Below w.heap.size w w' := by
 have hu := Tryz.underlying32
 have HR := Aside0.mk hr
 have HM := Aside0.mk hr.2.1
 have HP := Aside0.mk hp
 have H0 := Aside0.mk h
 clear hr hp h
 go_enter Tryz.func55, Tryz.ntmps55
 go_wp2
 go_loopg [5, 8] l.length (fun gg _ s8 wr => ∃ kk : Nat, kk ≤ l.length ∧ Aside0 (l.length - kk ≤ gg) ∧ s8 = .int .i64 kk ∧ Aside0 (Below w.heap.size w wr) ∧ Aside0 (findO p (l.drop kk) kk = some r))
 case atStart => exact ⟨0, Nat.zero_le _, ⟨by omega⟩, rfl, ⟨Below.refl _ w⟩, ⟨H0.out⟩⟩
 case round =>
  clear H0
  obtain ⟨kk, hkk, hg, rfl, BW, A0⟩ := hrel
  have hml := HM.out
  by_cases hlt : kk < l.length
  ·have hltz : (kk : Int) < (l.length : Int) := by omega
   obtain ⟨ad, e, h0, h1⟩ := at_T32 HR.out (kk : Int) (by omega) hltz
   have hx : rd_T32 l (kk : Int) = l[kk] := by
    unfold rd_T32
    rw [List.getD_eq_getElem?_getD, Int.toNat_natCast, List.getElem?_eq_getElem hlt]
    rfl
   rw [hx] at h0 h1
   rw [Int.toNat_natCast] at h0 h1
   have HX := am (List.getElem_mem hlt)
   have A1 := A0.out
   rw [List.drop_eq_getElem_cons hlt] at A1
   clear A0 hx
   generalize l[kk] = y at h0 h1 HX A1
   cases e
   replace h0 := (BW.out.cell (World.block_lt_of_cell? w _ h0)).trans h0
   replace h1 := (BW.out.cell (World.block_lt_of_cell? w _ h1)).trans h1
   simp only [findO, Option.bind_eq_some_iff] at A1
   obtain ⟨b, hb, A1⟩ := A1
   have hcall := HP.out wr y b HX.out BW.out hb
   have A2 := Aside0.mk A1
   clear A1 hb HX
   cases b with
   | true =>
    go_wp2_with (go_at_fn g; refine hcall.mono ?_; rintro e w' ⟨rfl, hb'⟩)
    go_ret
    have A1 := A2.out
    simp only [if_true, Option.some.injEq] at A1
    subst A1
    exact ⟨rfl, hb'⟩
   | false =>
    go_wp2_with (go_at_fn g; refine hcall.mono ?_; rintro e w' ⟨rfl, hb'⟩)
    go_roundg (l.length - (kk + 1))
    case measure => have := hg.out; omega
    case rel => exact ⟨kk + 1, by omega, ⟨by omega⟩, by go_num, ⟨hb'⟩, ⟨by have A1 := A2.out; simp only [Bool.false_eq_true, if_false] at A1; exact A1⟩⟩
  ·have hltz : ¬ (kk : Int) < (l.length : Int) := by omega
   have : kk = l.length := by omega
   have A1 := A0.out
   rw [this, List.drop_length] at A1
   have A2 := Aside0.mk A1
   clear A0 A1
   go_wp2
   go_ret
   have A1 := A2.out
   simp only [findO, Option.some.injEq] at A1
   subst A1
   exact ⟨rfl, BW.out⟩
set_option maxHeartbeats 4000000 in
set_option maxRecDepth 100000 in
theorem impl_Block_34.gen (p : S32 → Option Bool) (g : Nat) (lb : Array Value) (eg : ∀ args w, (callFunc g args).run Tryz.prog w = .ok (.enter g args) w) (A : Option Addr) (c : Nat) (l : List S32) (r : Bool) (w : World) (hr : Kd.C k32 w A l.length l)
  (hp : ∀ (W : World) (x : S32) (b : Bool), x ∈ l → Below w.heap.size w W → p x = some b → Calls Tryz.prog g (#[.agg #[.int .i64 x.f0, .int .i64 x.f1]] ++ lb) W fun e w' => e = .returned (.bool b) ∧ Below w.heap.size w w') (h : anyO p l = some r) :
  Calls Tryz.prog 34 #[.slice A l.length c, .func (.func g) #[] lb] w fun e w' => e = .returned (.bool r) ∧ Below w.heap.size w w' := by
 obtain ⟨v, hv, hd⟩ := findO_any p l 0 r (by omega) h
 have hc := fun w0 (hw : w0 = w) => impl_Block_55.gen p g lb eg A c l v w hr hp hv
 have HC := am (hc w rfl)
 have HD := Aside0.mk hd
 clear hr hp h hv hd hc
 go_enter Tryz.func34, Tryz.ntmps34
 go_wp2_with (go_at_call 55; refine HC.out.mono ?_; rintro e w' ⟨rfl, hb⟩)
 go_ret
 have hd := HD.out
 subst hd
 exact ⟨rfl, hb⟩
def impl_blocksOk.bad (x : S32) : Option Bool := (impl_BlockOk.f x.f0 x.f1).bind fun b => some (!b)
def impl_blocksOk.f (l0 : List S32) : Option (Bool) := if (l0.length : Int) ≤ 64 then (anyO impl_blocksOk.bad l0).bind fun b => some (!b) else some false
set_option maxHeartbeats 4000000 in
set_option maxRecDepth 100000 in
theorem impl_blocksOk.one (W : World) (x : S32) (b : Bool) (h : impl_blocksOk.bad x = some b) :
  Calls Tryz.prog 54 #[.agg #[.int .i64 x.f0, .int .i64 x.f1]] W fun e w' => e = .returned (.bool b) ∧ Below W.heap.size W w' := by
 simp only [impl_blocksOk.bad, Option.bind_eq_some_iff] at h
 obtain ⟨c, hc, h⟩ := h
 obtain rfl := Option.some.inj h
 have HC := Aside0.mk hc
 clear hc h
 have hu := Tryz.underlying32
 go_enter Tryz.func54, Tryz.ntmps54
 go_wp2_with (go_at_call 40; refine (impl_BlockOk.calls x.f0 x.f1 c _ HC.out).mono ?_; rintro e w' ⟨rfl, hb⟩)
 go_ret
 exact ⟨rfl, ((Below.refl _ _).alloc (Nat.le_refl _) _).trans (hb.mono (by simp))⟩
set_option maxHeartbeats 4000000 in
set_option maxRecDepth 100000 in
theorem impl_blocksOk.calls (A0 : Option Addr) (c0 : Nat) (l0 : List (S32)) (r : Bool) (w : World) (hr0 : Kd.C k32 w A0 l0.length l0) (hc0 : l0.length ≤ c0) (h : impl_blocksOk.f l0 = some r) :
  Calls Tryz.prog 31 #[.slice A0 l0.length c0] w fun e w' => e = .returned (.bool r) ∧ Below w.heap.size w w' := by
 have hm := hr0.2.1
 have eg := enters_of Tryz.func54 (by kernel_rfl) rfl
 unfold impl_blocksOk.f at h
 by_cases c : (l0.length : Int) ≤ 64
 ·rw [if_pos c, Option.bind_eq_some_iff] at h
  obtain ⟨b, hb, h⟩ := h
  obtain rfl := Option.some.inj h
  have HC := am (impl_Block_34.gen impl_blocksOk.bad 54 #[] eg A0 c0 l0 b w hr0 (fun W x b _ hB hx => (impl_blocksOk.one W x b hx).mono fun e w' ⟨he, hw⟩ => ⟨he, hB.trans (hw.mono hB.size)⟩) hb)
  clear hr0 hc0 hb h
  have cb : decide ((l0.length : Int) ≤ 64) = true := decide_eq_true c
  go_enter Tryz.func31, Tryz.ntmps31
  go_wp2_with (go_at_call 34; refine HC.out.mono ?_; rintro e w' ⟨rfl, hb⟩)
  go_ret
  exact ⟨rfl, hb⟩
 ·rw [if_neg c] at h
  obtain rfl := Option.some.inj h
  clear hr0 hc0
  have cb : decide ((l0.length : Int) ≤ 64) = false := decide_eq_false c
  go_enter Tryz.func31, Tryz.ntmps31
  go_wp2
  go_ret
  exact ⟨rfl, Below.refl _ _⟩
end Go.Proofs.YtmanlcakdcoekaaGreat.PAll
end
