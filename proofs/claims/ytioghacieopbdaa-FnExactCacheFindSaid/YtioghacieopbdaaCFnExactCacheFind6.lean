/- Contracts of the functions that the statement reaches, printed by a program out of the translation and joined with the plain laws. -/
import Derived.WalkKit
import Derived.Shelf.Abstract
import Derived.Test.YtioghacieopbdaaCFnExactCacheFind3
import Derived.Test.YtioghacieopbdaaCFnExactCacheFind4
import Derived.Test.YtioghacieopbdaaCFnExactCacheFind5
section
namespace Go.Proofs.Ytioghacieopbdaa.PAll
open Go.RowKit Go.Proofs.YtioghacieopbdaaW.PrintWords Go.Proofs.YtioghacieopbdaaW.PrintLast Go.Proofs.YtioghacieopbdaaW.PrintMore
attribute [local go_sem] max2_int min2_int max_two min_two max_three min_three max_four min_four   -- for this text's walks alone
set_option linter.unusedVariables false
set_option linter.unusedSimpArgs false
set_option maxHeartbeats 4000000 in
set_option maxRecDepth 100000 in
theorem impl_Rule_125.gen (p : S34 → Option Bool) (g : Nat) (lb : Array Value) (eg : ∀ args w, (callFunc g args).run Try.prog w = .ok (.enter g args) w) (A : Option Addr) (c : Nat) (l : List S34) (r : Int) (w : World) (hr : Kd.C k34 w A l.length l)
  (hp : ∀ (W : World) (x : S34) (b : Bool), x ∈ l → Below w.heap.size w W → p x = some b → Calls Try.prog g (#[.agg #[.int .i64 x.f0, .int .i64 x.f1, .int .i64 x.f2.f0, .int .i64 x.f2.f1, .int .i64 x.f3.f0, .int .i64 x.f3.f1, .int .i64 x.f4, .int .i64 x.f5]] ++ lb) W fun e w' => e = .returned (.bool b) ∧ Below w.heap.size w w') (h : findO p l 0 = some r) :
  Calls Try.prog 125 #[.slice A l.length c, .func (.func g) #[] lb] w fun e w' => e = .returned (.int .i64 r) ∧ Below w.heap.size w w' := by
 have hu := Try.underlying34
 have HR := Aside0.mk hr
 have HM := Aside0.mk hr.2.1
 have HP := Aside0.mk hp
 have H0 := Aside0.mk h
 clear hr hp h
 go_enter Try.func125, Try.ntmps125
 go_wp2
 go_loopg [5, 8] l.length (fun gg _ s8 wr => ∃ kk : Nat, kk ≤ l.length ∧ Aside0 (l.length - kk ≤ gg) ∧ s8 = .int .i64 kk ∧ Aside0 (Below w.heap.size w wr) ∧ Aside0 (findO p (l.drop kk) kk = some r))
 case atStart => exact ⟨0, Nat.zero_le _, ⟨by omega⟩, rfl, ⟨Below.refl _ w⟩, ⟨H0.out⟩⟩
 case round =>
  clear H0
  obtain ⟨kk, hkk, hg, rfl, BW, A0⟩ := hrel
  have hml := HM.out
  by_cases hlt : kk < l.length
  ·have hltz : (kk : Int) < (l.length : Int) := by omega
   obtain ⟨ad, e, h0, h1, h2, h3, h4, h5, h6, h7⟩ := at_T34 HR.out (kk : Int) (by omega) hltz
   have hx : rd_T34 l (kk : Int) = l[kk] := by
    unfold rd_T34
    rw [List.getD_eq_getElem?_getD, Int.toNat_natCast, List.getElem?_eq_getElem hlt]
    rfl
   rw [hx] at h0 h1 h2 h3 h4 h5 h6 h7
   rw [Int.toNat_natCast] at h0 h1 h2 h3 h4 h5 h6 h7
   have HX := am (List.getElem_mem hlt)
   have A1 := A0.out
   rw [List.drop_eq_getElem_cons hlt] at A1
   clear A0 hx
   generalize l[kk] = y at h0 h1 h2 h3 h4 h5 h6 h7 HX A1
   cases e
   replace h0 := (BW.out.cell (World.block_lt_of_cell? w _ h0)).trans h0
   replace h1 := (BW.out.cell (World.block_lt_of_cell? w _ h1)).trans h1
   replace h2 := (BW.out.cell (World.block_lt_of_cell? w _ h2)).trans h2
   replace h3 := (BW.out.cell (World.block_lt_of_cell? w _ h3)).trans h3
   replace h4 := (BW.out.cell (World.block_lt_of_cell? w _ h4)).trans h4
   replace h5 := (BW.out.cell (World.block_lt_of_cell? w _ h5)).trans h5
   replace h6 := (BW.out.cell (World.block_lt_of_cell? w _ h6)).trans h6
   replace h7 := (BW.out.cell (World.block_lt_of_cell? w _ h7)).trans h7
   simp only [findO, Option.bind_eq_some_iff] at A1
   obtain ⟨b, hb, A1⟩ := A1
   have hcall := HP.out wr y b HX.out BW.out hb
   have A2 := Aside0.mk A1
   clear A1 hb HX
   cases b with
   | true =>
    go_wp2_with (go_at_fn g; refine hcall.mono ?_; rintro e w' ⟨rfl, hb'⟩)
    go_ret
    have A1 := A2.out
    simp only [if_true, Option.some.injEq] at A1
    subst A1
    exact ⟨rfl, hb'⟩
   | false =>
    go_wp2_with (go_at_fn g; refine hcall.mono ?_; rintro e w' ⟨rfl, hb'⟩)
    go_roundg (l.length - (kk + 1))
    case measure => have := hg.out; omega
    case rel => exact ⟨kk + 1, by omega, ⟨by omega⟩, by go_num, ⟨hb'⟩, ⟨by have A1 := A2.out; simp only [Bool.false_eq_true, if_false] at A1; exact A1⟩⟩
  ·have hltz : ¬ (kk : Int) < (l.length : Int) := by omega
   have : kk = l.length := by omega
   have A1 := A0.out
   rw [this, List.drop_length] at A1
   have A2 := Aside0.mk A1
   clear A0 A1
   go_wp2
   go_ret
   have A1 := A2.out
   simp only [findO, Option.some.injEq] at A1
   subst A1
   exact ⟨rfl, BW.out⟩
set_option maxHeartbeats 4000000 in
set_option maxRecDepth 100000 in
theorem impl_Rule_77.gen (p : S34 → Option Bool) (g : Nat) (lb : Array Value) (eg : ∀ args w, (callFunc g args).run Try.prog w = .ok (.enter g args) w) (A : Option Addr) (c : Nat) (l : List S34) (r : Bool) (w : World) (hr : Kd.C k34 w A l.length l)
  (hp : ∀ (W : World) (x : S34) (b : Bool), x ∈ l → Below w.heap.size w W → p x = some b → Calls Try.prog g (#[.agg #[.int .i64 x.f0, .int .i64 x.f1, .int .i64 x.f2.f0, .int .i64 x.f2.f1, .int .i64 x.f3.f0, .int .i64 x.f3.f1, .int .i64 x.f4, .int .i64 x.f5]] ++ lb) W fun e w' => e = .returned (.bool b) ∧ Below w.heap.size w w') (h : anyO p l = some r) :
  Calls Try.prog 77 #[.slice A l.length c, .func (.func g) #[] lb] w fun e w' => e = .returned (.bool r) ∧ Below w.heap.size w w' := by
 obtain ⟨v, hv, hd⟩ := findO_any p l 0 r (by omega) h
 have hc := fun w0 (hw : w0 = w) => impl_Rule_125.gen p g lb eg A c l v w hr hp hv
 have HC := am (hc w rfl)
 have HD := Aside0.mk hd
 clear hr hp h hv hd hc
 go_enter Try.func77, Try.ntmps77
 go_wp2_with (go_at_call 125; refine HC.out.mono ?_; rintro e w' ⟨rfl, hb⟩)
 go_ret
 have hd := HD.out
 subst hd
 exact ⟨rfl, hb⟩
def impl_RulesOk.bad (k : Nat) (x : S34) : Option Bool := (impl_Rule_right.f k x.f0 x.f1 x.f2.f0 x.f2.f1 x.f3.f0 x.f3.f1 x.f4 x.f5).bind fun b => some (!b)
def impl_RulesOk.f (k : Nat) (l0 : List S34) : Option (Bool) := if (l0.length : Int) ≤ 8 then (anyO (impl_RulesOk.bad k ) l0).bind fun b => some (!b) else some false
set_option maxHeartbeats 4000000 in
set_option maxRecDepth 100000 in
theorem impl_RulesOk.one (k : Nat) (W : World) (x : S34) (b : Bool) (h : impl_RulesOk.bad k x = some b) :
  Calls Try.prog 78 #[.agg #[.int .i64 x.f0, .int .i64 x.f1, .int .i64 x.f2.f0, .int .i64 x.f2.f1, .int .i64 x.f3.f0, .int .i64 x.f3.f1, .int .i64 x.f4, .int .i64 x.f5]] W fun e w' => e = .returned (.bool b) ∧ Below W.heap.size W w' := by
 simp only [impl_RulesOk.bad, Option.bind_eq_some_iff] at h
 obtain ⟨c, hc, h⟩ := h
 obtain rfl := Option.some.inj h
 have HC := Aside0.mk hc
 clear hc h
 have hu := Try.underlying34
 go_enter Try.func78, Try.ntmps78
 go_wp2_with (go_at_call 79; refine (impl_Rule_right.calls k x.f0 x.f1 x.f2.f0 x.f2.f1 x.f3.f0 x.f3.f1 x.f4 x.f5 c _ HC.out).mono ?_; rintro e w' ⟨rfl, hb⟩)
 go_ret
 exact ⟨rfl, ((Below.refl _ _).alloc (Nat.le_refl _) _).trans (hb.mono (by simp))⟩
set_option maxHeartbeats 4000000 in
set_option maxRecDepth 100000 in
theorem impl_RulesOk.calls (k : Nat) (A0 : Option Addr) (c0 : Nat) (l0 : List (S34)) (r : Bool) (w : World) (hr0 : Kd.C k34 w A0 l0.length l0) (hc0 : l0.length ≤ c0) (h : impl_RulesOk.f k l0 = some r) :
  Calls Try.prog 18 #[.slice A0 l0.length c0] w fun e w' => e = .returned (.bool r) ∧ Below w.heap.size w w' := by
 have hm := hr0.2.1
 have eg := enters_of Try.func78 (by kernel_rfl) rfl
 unfold impl_RulesOk.f at h
 by_cases c : (l0.length : Int) ≤ 8
 ·rw [if_pos c, Option.bind_eq_some_iff] at h
  obtain ⟨b, hb, h⟩ := h
  obtain rfl := Option.some.inj h
  have HC := am (impl_Rule_77.gen (impl_RulesOk.bad k ) 78 #[] eg A0 c0 l0 b w hr0 (fun W x b _ hB hx => (impl_RulesOk.one k W x b hx).mono fun e w' ⟨he, hw⟩ => ⟨he, hB.trans (hw.mono hB.size)⟩) hb)
  clear hr0 hc0 hb h
  have cb : decide ((l0.length : Int) ≤ 8) = true := decide_eq_true c
  go_enter Try.func18, Try.ntmps18
  go_wp2_with (go_at_call 77; refine HC.out.mono ?_; rintro e w' ⟨rfl, hb⟩)
  go_ret
  exact ⟨rfl, hb⟩
 ·rw [if_neg c] at h
  obtain rfl := Option.some.inj h
  clear hr0 hc0
  have cb : decide ((l0.length : Int) ≤ 8) = false := decide_eq_false c
  go_enter Try.func18, Try.ntmps18
  go_wp2
  go_ret
  exact ⟨rfl, Below.refl _ _⟩
def impl_first.is (a1_0 a1_1 a1_2 : Int) (x : S34) : Option Bool := impl_Rule_matches.f x.f0 x.f1 x.f2.f0 x.f2.f1 x.f3.f0 x.f3.f1 x.f4 x.f5 a1_0 a1_1 a1_2
def impl_first.f (l0 : List S34) (a1_0 : Int) (a1_1 : Int) (a1_2 : Int) : Option (Int) := findO (impl_first.is a1_0 a1_1 a1_2) l0 0
set_option maxHeartbeats 4000000 in
set_option maxRecDepth 100000 in
theorem impl_first.one (a1_0 a1_1 a1_2 : Int) (B : Nat) (W : World) (x : S34) (b : Bool) (hB : W.heap[B]? = some (.cells #[.int .i64 a1_0, .int .i64 a1_1, .int .i64 a1_2] 25 (0, 0))) (h : impl_first.is a1_0 a1_1 a1_2 x = some b) :
  Calls Try.prog 126 #[.agg #[.int .i64 x.f0, .int .i64 x.f1, .int .i64 x.f2.f0, .int .i64 x.f2.f1, .int .i64 x.f3.f0, .int .i64 x.f3.f1, .int .i64 x.f4, .int .i64 x.f5], .pointer (some ⟨B, 0, none⟩)] W fun e w' => e = .returned (.bool b) ∧ Below W.heap.size W w' := by
 have HC := Aside0.mk h
 have hlt : B < W.heap.size := (Array.getElem?_eq_some_iff.1 hB).1
 have hc0 : W.cell? ⟨B, 0, none⟩ = some (.int .i64 a1_0) := (blk_cell hB 0).trans rfl
 have hc1 : W.cell? ⟨B, 1, none⟩ = some (.int .i64 a1_1) := (blk_cell hB 1).trans rfl
 have hc2 : W.cell? ⟨B, 2, none⟩ = some (.int .i64 a1_2) := (blk_cell hB 2).trans rfl
 clear h hB
 have hu := Try.underlying34
 have hu2 := Try.underlying25
 go_enter Try.func126, Try.ntmps126
 go_wp2_with (go_at_call 127; refine (impl_Rule_matches.calls x.f0 x.f1 x.f2.f0 x.f2.f1 x.f3.f0 x.f3.f1 x.f4 x.f5 a1_0 a1_1 a1_2 b _ HC.out).mono ?_; rintro e w' ⟨rfl, hb⟩)
 go_ret
 exact ⟨rfl, ((Below.refl _ _).alloc (Nat.le_refl _) _).trans (hb.mono (by simp))⟩
set_option maxHeartbeats 4000000 in
set_option maxRecDepth 100000 in
theorem impl_first.calls (A0 : Option Addr) (c0 : Nat) (l0 : List (S34)) (a1_0 : Int) (a1_1 : Int) (a1_2 : Int) (r : Int) (w : World) (hr0 : Kd.C k34 w A0 l0.length l0) (hc0 : l0.length ≤ c0) (h : impl_first.f l0 a1_0 a1_1 a1_2 = some r) :
  Calls Try.prog 74 #[.slice A0 l0.length c0, .agg #[.int .i64 a1_0, .int .i64 a1_1, .int .i64 a1_2]] w fun e w' => e = .returned (.int .i64 r) ∧ Below w.heap.size w w' := by
 have eg := enters_of Try.func126 (by kernel_rfl) rfl
 have hu2 := Try.underlying25
 have HC := am (fun (w1 : World) (hb : Below w.heap.size w w1) (B : Nat) (hB : w1.heap[B]? = some (.cells #[.int .i64 a1_0, .int .i64 a1_1, .int .i64 a1_2] 25 (0, 0))) =>
  impl_Rule_125.gen (impl_first.is a1_0 a1_1 a1_2) 126 #[.pointer (some ⟨B, 0, none⟩)] eg A0 c0 l0 r w1 (Kd.C_below hr0 hb) (fun W x b _ hW hx => (impl_first.one a1_0 a1_1 a1_2 B W x b ((hW.block B (Array.getElem?_eq_some_iff.1 hB).1).trans hB) hx).mono fun e w' ⟨he, hw⟩ => ⟨he, hW.trans (hw.mono hW.size)⟩) h)
 clear hr0 hc0 h
 go_enter Try.func74, Try.ntmps74
 go_wp2_with (go_at_call 125; refine (HC.out _ ((Below.refl _ _).alloc (Nat.le_refl _) _) w.heap.size (by first | exact heap_alloc_new _ _ | simpa using heap_alloc_new _ _)).mono ?_; rintro e w' ⟨rfl, hb⟩)
 go_ret
 exact ⟨rfl, ((Below.refl _ _).alloc (Nat.le_refl _) _).trans (hb.mono (by simp))⟩
set_option maxHeartbeats 4000000 in
set_option maxRecDepth 100000 in
theorem impl_Seen_131.gen (p : S108 → Option Bool) (g : Nat) (lb : Array Value) (eg : ∀ args w, (callFunc g args).run Try.prog w = .ok (.enter g args) w) (A : Option Addr) (c : Nat) (l : List S108) (r : Int) (w : World) (hr : Kd.C k108 w A l.length l)
  (hp : ∀ (W : World) (x : S108) (b : Bool), x ∈ l → Below w.heap.size w W → p x = some b → Calls Try.prog g (#[.agg #[.int .i64 x.f0.f0, .int .i64 x.f0.f1, .int .i64 x.f0.f2, .int .i64 x.f1]] ++ lb) W fun e w' => e = .returned (.bool b) ∧ Below w.heap.size w w') (h : findO p l 0 = some r) :
  Calls Try.prog 131 #[.slice A l.length c, .func (.func g) #[] lb] w fun e w' => e = .returned (.int .i64 r) ∧ Below w.heap.size w w' := by
 have hu := Try.underlying108
 have HR := Aside0.mk hr
 have HM := Aside0.mk hr.2.1
 have HP := Aside0.mk hp
 have H0 := Aside0.mk h
 clear hr hp h
 go_enter Try.func131, Try.ntmps131
 go_wp2
 go_loopg [5, 8] l.length (fun gg _ s8 wr => ∃ kk : Nat, kk ≤ l.length ∧ Aside0 (l.length - kk ≤ gg) ∧ s8 = .int .i64 kk ∧ Aside0 (Below w.heap.size w wr) ∧ Aside0 (findO p (l.drop kk) kk = some r))
 case atStart => exact ⟨0, Nat.zero_le _, ⟨by omega⟩, rfl, ⟨Below.refl _ w⟩, ⟨H0.out⟩⟩
 case round =>
  clear H0
  obtain ⟨kk, hkk, hg, rfl, BW, A0⟩ := hrel
  have hml := HM.out
  by_cases hlt : kk < l.length
  ·have hltz : (kk : Int) < (l.length : Int) := by omega
   obtain ⟨ad, e, h0, h1, h2, h3⟩ := at_T108 HR.out (kk : Int) (by omega) hltz
   have hx : rd_T108 l (kk : Int) = l[kk] := by
    unfold rd_T108
    rw [List.getD_eq_getElem?_getD, Int.toNat_natCast, List.getElem?_eq_getElem hlt]
    rfl
   rw [hx] at h0 h1 h2 h3
   rw [Int.toNat_natCast] at h0 h1 h2 h3
   have HX := am (List.getElem_mem hlt)
   have A1 := A0.out
   rw [List.drop_eq_getElem_cons hlt] at A1
   clear A0 hx
   generalize l[kk] = y at h0 h1 h2 h3 HX A1
   cases e
   replace h0 := (BW.out.cell (World.block_lt_of_cell? w _ h0)).trans h0
   replace h1 := (BW.out.cell (World.block_lt_of_cell? w _ h1)).trans h1
   replace h2 := (BW.out.cell (World.block_lt_of_cell? w _ h2)).trans h2
   replace h3 := (BW.out.cell (World.block_lt_of_cell? w _ h3)).trans h3
   simp only [findO, Option.bind_eq_some_iff] at A1
   obtain ⟨b, hb, A1⟩ := A1
   have hcall := HP.out wr y b HX.out BW.out hb
   have A2 := Aside0.mk A1
   clear A1 hb HX
   cases b with
   | true =>
    go_wp2_with (go_at_fn g; refine hcall.mono ?_; rintro e w' ⟨rfl, hb'⟩)
    go_ret
    have A1 := A2.out
    simp only [if_true, Option.some.injEq] at A1
    subst A1
    exact ⟨rfl, hb'⟩
   | false =>
    go_wp2_with (go_at_fn g; refine hcall.mono ?_; rintro e w' ⟨rfl, hb'⟩)
    go_roundg (l.length - (kk + 1))
    case measure => have := hg.out; omega
    case rel => exact ⟨kk + 1, by omega, ⟨by omega⟩, by go_num, ⟨hb'⟩, ⟨by have A1 := A2.out; simp only [Bool.false_eq_true, if_false] at A1; exact A1⟩⟩
  ·have hltz : ¬ (kk : Int) < (l.length : Int) := by omega
   have : kk = l.length := by omega
   have A1 := A0.out
   rw [this, List.drop_length] at A1
   have A2 := Aside0.mk A1
   clear A0 A1
   go_wp2
   go_ret
   have A1 := A2.out
   simp only [findO, Option.some.injEq] at A1
   subst A1
   exact ⟨rfl, BW.out⟩
end Go.Proofs.Ytioghacieopbdaa.PAll
end
section
namespace Go.Proofs.Ytioghacieopbdaa.PAll
open Go.RowKit Go.Proofs.YtioghacieopbdaaW.PrintWords Go.Proofs.YtioghacieopbdaaW.PrintLast Go.Proofs.YtioghacieopbdaaW.PrintMore
attribute [local go_sem] max2_int min2_int max_two min_two max_three min_three max_four min_four   -- for this text's walks alone
set_option linter.unusedVariables false
set_option linter.unusedSimpArgs false
attribute [local go_sem high] eqA25
set_option maxHeartbeats 4000000 in
set_option maxRecDepth 100000 in
theorem slices_ContainsFunc_Seen.gen (p : S108 → Option Bool) (g : Nat) (lb : Array Value) (eg : ∀ args w, (callFunc g args).run Try.prog w = .ok (.enter g args) w) (A : Option Addr) (c : Nat) (l : List S108) (r : Bool) (w : World) (hr : Kd.C k108 w A l.length l)
  (hp : ∀ (W : World) (x : S108) (b : Bool), x ∈ l → Below w.heap.size w W → p x = some b → Calls Try.prog g (#[.agg #[.int .i64 x.f0.f0, .int .i64 x.f0.f1, .int .i64 x.f0.f2, .int .i64 x.f1]] ++ lb) W fun e w' => e = .returned (.bool b) ∧ Below w.heap.size w w') (h : anyO p l = some r) :
  Calls Try.prog 87 #[.slice A l.length c, .func (.func g) #[] lb] w fun e w' => e = .returned (.bool r) ∧ Below w.heap.size w w' := by
 obtain ⟨v, hv, hd⟩ := findO_any p l 0 r (by omega) h
 have hc := fun w0 (hw : w0 = w) => impl_Seen_131.gen p g lb eg A c l v w hr hp hv
 have HC := am (hc w rfl)
 have HD := Aside0.mk hd
 clear hr hp h hv hd hc
 go_enter Try.func87, Try.ntmps87
 go_wp2_with (go_at_call 131; refine HC.out.mono ?_; rintro e w' ⟨rfl, hb⟩)
 go_ret
 have hd := HD.out
 subst hd
 exact ⟨rfl, hb⟩
def slices_ContainsFunc_Seen.is (a1_0 a1_1 a1_2 : Int) (x : S108) : Bool := x.f0.f0 == a1_0 && (x.f0.f1 == a1_1 && (x.f0.f2 == a1_2))
theorem anyO_some {α : Type} (q : α → Bool) : ∀ l : List α, anyO (fun x => some (q x)) l = some (l.any q)
 | [] => rfl
 | x :: l => by simp only [anyO, Option.bind_some, anyO_some q l, List.any_cons]; cases q x <;> simp
def slices_ContainsFunc_Seen.f (l0 : List S108) (a1_0 a1_1 a1_2 a1_3 : Int) : Option Bool := some (l0.any (slices_ContainsFunc_Seen.is a1_0 a1_1 a1_2))
set_option maxHeartbeats 4000000 in
set_option maxRecDepth 100000 in
theorem slices_ContainsFunc_Seen.one (a1_0 a1_1 a1_2 a1_3 : Int) (B : Nat) (W : World) (x : S108) (hB : W.heap[B]? = some (.cells #[.int .i64 a1_0, .int .i64 a1_1, .int .i64 a1_2, .int .i64 a1_3] 108 (0, 0))) :
  Calls Try.prog 86 #[.agg #[.int .i64 x.f0.f0, .int .i64 x.f0.f1, .int .i64 x.f0.f2, .int .i64 x.f1], .pointer (some ⟨B, 0, none⟩)] W fun e w' => e = .returned (.bool (slices_ContainsFunc_Seen.is a1_0 a1_1 a1_2 x)) ∧ Below W.heap.size W w' := by
 have hlt : B < W.heap.size := (Array.getElem?_eq_some_iff.1 hB).1
 have hc0 : W.cell? ⟨B, 0, none⟩ = some (.int .i64 a1_0) := (blk_cell hB 0).trans rfl
 have hc1 : W.cell? ⟨B, 1, none⟩ = some (.int .i64 a1_1) := (blk_cell hB 1).trans rfl
 have hc2 : W.cell? ⟨B, 2, none⟩ = some (.int .i64 a1_2) := (blk_cell hB 2).trans rfl
 clear hB
 have hu := Try.underlying108
 have hu2 := Try.underlying25
 go_enter Try.func86, Try.ntmps86
 go_wp2
 go_ret
 exact ⟨rfl, (Below.refl _ _).alloc (Nat.le_refl _) _⟩
set_option maxHeartbeats 4000000 in
set_option maxRecDepth 100000 in
theorem slices_ContainsFunc_Seen.calls (A0 : Option Addr) (c0 : Nat) (l0 : List S108) (a1_0 a1_1 a1_2 a1_3 : Int) (B : Nat) (r : Bool) (w : World) (hr0 : Kd.C k108 w A0 l0.length l0) (hc0 : l0.length ≤ c0) (hB : w.heap[B]? = some (.cells #[.int .i64 a1_0, .int .i64 a1_1, .int .i64 a1_2, .int .i64 a1_3] 108 (0, 0))) (h : slices_ContainsFunc_Seen.f l0 a1_0 a1_1 a1_2 a1_3 = some r) :
  Calls Try.prog 87 #[.slice A0 l0.length c0, .func (.func 86) #[] #[.pointer (some ⟨B, 0, none⟩)]] w fun e w' => e = .returned (.bool r) ∧ Below w.heap.size w w' := by
 have eg := enters_of Try.func86 (by kernel_rfl) rfl
 refine slices_ContainsFunc_Seen.gen (fun x => some (slices_ContainsFunc_Seen.is a1_0 a1_1 a1_2 x)) 86 #[.pointer (some ⟨B, 0, none⟩)] eg A0 c0 l0 r w hr0 (fun W x b _ hW hx => ?_) ((anyO_some _ l0).trans h)
 obtain rfl := Option.some.inj hx
 exact (slices_ContainsFunc_Seen.one a1_0 a1_1 a1_2 a1_3 B W x ((hW.block B (Array.getElem?_eq_some_iff.1 hB).1).trans hB)).mono fun e w' ⟨he, hw⟩ => ⟨he, hW.trans (hw.mono hW.size)⟩
end Go.Proofs.Ytioghacieopbdaa.PAll
end
section
namespace Go.Proofs.Ytioghacieopbdaa.PAll
open Go.RowKit Go.Proofs.YtioghacieopbdaaW.PrintWords Go.Proofs.YtioghacieopbdaaW.PrintLast Go.Proofs.YtioghacieopbdaaW.PrintMore
attribute [local go_sem] max2_int min2_int max_two min_two max_three min_three max_four min_four   -- for this text's walks alone
set_option linter.unusedVariables false
set_option linter.unusedSimpArgs false
mutual
def impl_CacheOk.j0 : Nat → List (S34) → Bool → Int → List (S108) → Option (Bool)
 | 0, _, _, _, _ => none
 | k + 1, x0, x24, x102000, x102001 => if x24 = true then (some false) else (impl_CacheOk.l0 k x0 x102001 (x102001.length : Int) 0 x102000 x102001)
def impl_CacheOk.l0 : Nat → List (S34) → List (S108) → Int → Int → Int → List (S108) → Option (Bool)
 | 0, _, _, _, _, _, _ => none
 | k + 1, x0, x26, x27, x28, x102000, x102001 => if x28 < x27 then (if 0 ≤ x28 then (if x28 < (x26.length : Int) then ((impl_isCall.f ((rd_T108 x26 x28).f0.f0) ((rd_T108 x26 x28).f0.f1) ((rd_T108 x26 x28).f0.f2)).bind fun t106 => (if t106 = true then ((impl_first.f x0 ((rd_T108 x26 x28).f0.f0) ((rd_T108 x26 x28).f0.f1) ((rd_T108 x26 x28).f0.f2)).bind fun t107 => (if ((rd_T108 x26 x28).f1) = t107 then (if x28 ≤ (x102001.length : Int) then ((slices_ContainsFunc_Seen.f (x102001.take (x28 : Int).toNat) ((rd_T108 x26 x28).f0.f0) ((rd_T108 x26 x28).f0.f1) ((rd_T108 x26 x28).f0.f2) ((rd_T108 x26 x28).f1)).bind fun t112 => (if t112 = true then (some false) else (impl_CacheOk.l0 k x0 x26 x27 (wrap64 (x28 + 1)) x102000 x102001))) else (none)) else (some false))) else (some false))) else (none)) else (none)) else (some true)
end
def impl_CacheOk.f (k : Nat) (l0 : List (S34)) (a1_0 : Int) (l1_1 : List (S108)) : Option (Bool) := (impl_RulesOk.f k l0).bind fun t102 => (if t102 = true then ((impl_in.f a1_0 0 16).bind fun t103 => (if t103 = true then (impl_CacheOk.j0 k l0 (decide ((l1_1.length : Int) > a1_0)) a1_0 l1_1) else (impl_CacheOk.j0 k l0 true a1_0 l1_1))) else (impl_CacheOk.j0 k l0 true a1_0 l1_1))
def impl_CacheOk.T7 : Bool × List (List Nat × List Nat) := (true, [([], []), ([0], [0]), ([1], [1]), ([2], [2]), ([3, 2], [3]), ([4], [4]), ([5, 4], [4, 5]), ([4], [4]), ([4], [4]), ([8, 4], [4, 8]), ([7, 9, 4, 4], [4, 7, 9]), ([6, 10, 4], [4, 6, 10]), ([4, 11], [4, 11]), ([12, 10], [12]), ([13], [13]), ([14, 13], [13, 14]), ([13], [13]), ([15, 16, 13], [13, 15, 16]), ([13], [13]), ([17, 18, 13, 13], [13, 17, 18]), ([13, 19], [13, 19])])
def impl_CacheOk.B7 : List Nat := [0, 1, 3, 7, 15, 31, 63, 31, 31, 287, 927, 2047, 4095, 8191, 16383, 32767, 16383, 131071, 16383, 524287, 1048575]
theorem impl_CacheOk.tab7 : rtab .any (opsOf Try.f26 7) = impl_CacheOk.T7 := by kernel_rfl
theorem impl_CacheOk.bits7 : waitsOk impl_CacheOk.T7.2 impl_CacheOk.B7 = true := by kernel_rfl
set_option maxHeartbeats 8000000 in
set_option maxRecDepth 100000 in
theorem impl_CacheOk.calls (k : Nat) (A0 : Option Addr) (c0 : Nat) (l0 : List (S34)) (a1_0 : Int) (A1_1 : Option Addr) (c1_1 : Nat) (l1_1 : List (S108)) (r : Bool) (w : World) (hr0 : Kd.C k34 w A0 l0.length l0) (hc0 : l0.length ≤ c0) (hr1_1 : Kd.C k108 w A1_1 l1_1.length l1_1) (hc1_1 : l1_1.length ≤ c1_1) (h : impl_CacheOk.f k l0 a1_0 l1_1 = some r) :
  Calls Try.prog 26 #[.slice A0 l0.length c0, .agg #[.int .i64 a1_0, .slice A1_1 l1_1.length c1_1]] w fun e w' => e = .returned (.bool r) ∧ Below w.heap.size w w' := by
 have hu46 := Try.underlying46
 have hu108 := Try.underlying108
 have hu25 := Try.underlying25
 have HR0 := Aside0.mk hr0
 have HC0 := Aside0.mk hc0
 clear hr0 hc0
 have HR1_1 := Aside0.mk hr1_1
 have HC1_1 := Aside0.mk hc1_1
 clear hr1_1 hc1_1
 have HB := am (Below.refl w.heap.size w)
 have H : ((impl_RulesOk.f k l0).bind fun t102 => (if t102 = true then ((impl_in.f a1_0 0 16).bind fun t103 => (if t103 = true then (impl_CacheOk.j0 k l0 (decide ((l1_1.length : Int) > a1_0)) a1_0 l1_1) else (impl_CacheOk.j0 k l0 true a1_0 l1_1))) else (impl_CacheOk.j0 k l0 true a1_0 l1_1))) = some r := h
 clear h
 have HC3 := Aside0.mk H
 clear H
 go_enter Try.func26, Try.ntmps26
 go_upto_region 1 with (first | ((with_reducible refine gate_dst (N := 3) rfl ?_); (try (refine gate_guard (by rfl) ?_; dsimp only)); refine box_event rfl (N := 3) rfl (cs := #[.int .i64 a1_0, .slice A1_1 l1_1.length c1_1]) (t := 46) BX ?_; intro gb101 hg w4 hbox hb; have BK101 := am (hbox); have GW101 := am (GH HB hg); have GE101 := GW101; replace HB := am (below_step (KL HB) hb); clear hb hbox hg))
 (try simp only [Act.put, List.setIfInBounds_toArray, List.set_cons_zero, List.set_cons_succ])
 go_cut [24] (fun v24 wc => ∃ (kq : Nat) (x24_2 : Bool), v24 = .bool x24_2 ∧ Aside0 (impl_CacheOk.j0 kq l0 x24_2 a1_0 l1_1 = some r) ∧ Aside0 (kq ≤ k) ∧ Aside0 (wc.heap[gb101]? = some (.cells #[.int .i64 a1_0, (.slice A1_1 l1_1.length c1_1)] 46 (0, 0))) ∧ Aside0 (Below w.heap.size w wc))
 case first =>
  have H := HC3.out
  clear HC3
  replace H := Option.bind_eq_some_iff.mp H
  obtain ⟨t102, A50, H⟩ := H
  replace H : (if t102 = true then ((impl_in.f a1_0 0 16).bind fun t103 => (if t103 = true then (impl_CacheOk.j0 k l0 (decide ((l1_1.length : Int) > a1_0)) a1_0 l1_1) else (impl_CacheOk.j0 k l0 true a1_0 l1_1))) else (impl_CacheOk.j0 k l0 true a1_0 l1_1)) = some r := H
  have A5 := Aside0.mk A50
  clear A50
  by_cases c6 : t102 = true
  ·subst c6
   have H1 : ((impl_in.f a1_0 0 16).bind fun t103 => (if t103 = true then (impl_CacheOk.j0 k l0 (decide ((l1_1.length : Int) > a1_0)) a1_0 l1_1) else (impl_CacheOk.j0 k l0 true a1_0 l1_1))) = some r := by rw [if_pos rfl] at H; exact H
   clear H
   have H := H1
   clear H1
   replace H := Option.bind_eq_some_iff.mp H
   obtain ⟨t103, A70, H⟩ := H
   replace H : (if t103 = true then (impl_CacheOk.j0 k l0 (decide ((l1_1.length : Int) > a1_0)) a1_0 l1_1) else (impl_CacheOk.j0 k l0 true a1_0 l1_1)) = some r := H
   have A7 := Aside0.mk A70
   clear A70
   by_cases c8 : t103 = true
   ·subst c8
    have H1 : (impl_CacheOk.j0 k l0 (decide ((l1_1.length : Int) > a1_0)) a1_0 l1_1) = some r := by rw [if_pos rfl] at H; exact H
    clear H
    have H := H1
    clear H1
    have H' := Aside0.mk H
    clear H
    go_wp2_with (first | ((with_reducible refine gate_callee (f := 18) rfl ?_); refine goesL_ (some 9) rfl rfl Try.func18 (by kernel_rfl) rfl #[.slice A0 l0.length c0] rfl MT ?_; (with_reducible refine (impl_RulesOk.calls k _ _ l0 true _ ?side1 ?side2 A5.out).mono ?_); (case side1 => exact KC (Kd.C_below HR0.out HB.out)); (case side2 => exact HC0.out); rintro e w9 ⟨rfl, hb⟩; refine ⟨_, rfl, ?_⟩; replace BK101 := am (BB BK101 hb); replace HB := am (below_step (K1 HB GE101.out) hb); (try clear hb); (try clear hb2); (try clear hk); (try clear hi); obtain ⟨hcz10_0, hcz10_1, hfz10_0⟩ := y2 w9 BK101.out) | (go_at_call 85; (with_reducible refine (impl_in.calls a1_0 0 16 true _ A7.out).mono ?_); rintro e w' ⟨rfl, ⟨nd, rfl⟩⟩))
    go_meet
    case rel => exact ⟨_, (decide ((l1_1.length : Int) > a1_0)), (by first | rfl | (simp; done) | (simp [*]; done)), H', ⟨by first | omega | exact Nat.le_refl _⟩, ⟨KB BK101⟩, ⟨K1 HB GE101.out⟩⟩
   ·replace c8 := Bool.eq_false_iff.mpr c8
    subst c8
    have H1 : (impl_CacheOk.j0 k l0 true a1_0 l1_1) = some r := by rw [if_neg (show ¬ (false = true) by decide)] at H; exact H
    clear H
    have H := H1
    clear H1
    have H' := Aside0.mk H
    clear H
    go_wp2_with (first | ((with_reducible refine gate_callee (f := 18) rfl ?_); refine goesL_ (some 9) rfl rfl Try.func18 (by kernel_rfl) rfl #[.slice A0 l0.length c0] rfl MT ?_; (with_reducible refine (impl_RulesOk.calls k _ _ l0 true _ ?side1 ?side2 A5.out).mono ?_); (case side1 => exact KC (Kd.C_below HR0.out HB.out)); (case side2 => exact HC0.out); rintro e w11 ⟨rfl, hb⟩; refine ⟨_, rfl, ?_⟩; replace BK101 := am (BB BK101 hb); replace HB := am (below_step (K1 HB GE101.out) hb); (try clear hb); (try clear hb2); (try clear hk); (try clear hi); obtain ⟨hcz12_0, hcz12_1, hfz12_0⟩ := y2 w11 BK101.out) | (go_at_call 85; (with_reducible refine (impl_in.calls a1_0 0 16 false _ A7.out).mono ?_); rintro e w' ⟨rfl, ⟨nd, rfl⟩⟩))
    go_meet
    case rel => exact ⟨_, (true), (by first | rfl | (simp; done) | (simp [*]; done)), H', ⟨by first | omega | exact Nat.le_refl _⟩, ⟨KB BK101⟩, ⟨K1 HB GE101.out⟩⟩
  ·replace c6 := Bool.eq_false_iff.mpr c6
   subst c6
   have H1 : (impl_CacheOk.j0 k l0 true a1_0 l1_1) = some r := by rw [if_neg (show ¬ (false = true) by decide)] at H; exact H
   clear H
   have H := H1
   clear H1
   have H' := Aside0.mk H
   clear H
   go_wp2_with (first | ((with_reducible refine gate_callee (f := 18) rfl ?_); refine goesL_ (some 9) rfl rfl Try.func18 (by kernel_rfl) rfl #[.slice A0 l0.length c0] rfl MT ?_; (with_reducible refine (impl_RulesOk.calls k _ _ l0 false _ ?side1 ?side2 A5.out).mono ?_); (case side1 => exact KC (Kd.C_below HR0.out HB.out)); (case side2 => exact HC0.out); rintro e w13 ⟨rfl, hb⟩; refine ⟨_, rfl, ?_⟩; replace BK101 := am (BB BK101 hb); replace HB := am (below_step (K1 HB GE101.out) hb); (try clear hb); (try clear hb2); (try clear hk); (try clear hi)))
   go_meet
   case rel => exact ⟨_, (true), (by first | rfl | (simp; done) | (simp [*]; done)), H', ⟨by first | omega | exact Nat.le_refl _⟩, ⟨KB BK101⟩, ⟨K1 HB GE101.out⟩⟩
 case rest =>
  clear HC3
  try clear c1
  try clear c2
  try clear p2
  try clear c6
  try clear c8
  try clear hcz10_0
  try clear hcz10_1
  try clear hcz12_0
  try clear hcz12_1
  try clear hfz10_0
  try clear hfz12_0
  obtain ⟨kq, x24_2, rfl, HA, HJ2, BK101, HB⟩ := hcut
  cases kq with
  | zero => exact absurd HA.out (by simp [impl_CacheOk.j0])
  | succ kj2 =>
   have H := HA.out
   clear HA
   simp only [impl_CacheOk.j0] at H
   by_cases c14 : x24_2 = true
   ·subst c14
    have H1 : (some false) = some r := by rw [if_pos rfl] at H; exact H
    clear H
    have H := H1
    clear H1
    obtain rfl := Option.some.inj H
    go_wp2
    go_ret
    exact ⟨ER, K1 HB GE101.out⟩
   ·replace c14 := Bool.eq_false_iff.mpr c14
    subst c14
    have H1 : (impl_CacheOk.l0 kj2 l0 l1_1 (l1_1.length : Int) 0 a1_0 l1_1) = some r := by rw [if_neg (show ¬ (false = true) by decide)] at H; exact H
    clear H
    have H := H1
    clear H1
    have H' := Aside0.mk H
    clear H
    obtain ⟨hcz15_0, hcz15_1, hfz15_0⟩ := y2 wc BK101.out
    go_wp2
    go_loopg [28] kj2 (fun kq v28 w' => ∃ (x28_2 : Int), v28 = .int .i64 x28_2 ∧ Aside0 (impl_CacheOk.l0 kq l0 l1_1 (l1_1.length : Int) x28_2 a1_0 l1_1 = some r) ∧ Aside0 (kq ≤ kj2) ∧ Aside0 (w'.heap[gb101]? = some (.cells #[.int .i64 a1_0, (.slice A1_1 l1_1.length c1_1)] 46 (0, 0))) ∧ Aside0 (Below w.heap.size w w'))
    case atStart => exact ⟨(0), (by first | rfl | (simp; done) | (simp [*]; done)), H', ⟨Nat.le_refl _⟩, ⟨KB BK101⟩, ⟨K1 HB GE101.out⟩⟩
    case round =>
     clear H'
     try clear c1
     try clear c2
     try clear p2
     try clear c6
     try clear c8
     try clear c14
     try clear hcz10_0
     try clear hcz10_1
     try clear hcz12_0
     try clear hcz12_1
     try clear hcz15_0
     try clear hcz15_1
     try clear hfz10_0
     try clear hfz12_0
     try clear hfz15_0
     try clear p2
     obtain ⟨x28_2, rfl, HA, HK2, BK101, HB⟩ := hrel
     cases gk with
     | zero => exact absurd HA.out (by simp [impl_CacheOk.l0])
     | succ k2 =>
      have H := HA.out
      clear HA
      simp only [impl_CacheOk.l0] at H
      by_cases c16 : x28_2 < (l1_1.length : Int)
      ·rw [if_pos c16] at H
       have c16b0 : decide (x28_2 < (l1_1.length : Int)) = true := decide_eq_true c16
       clear c16
       by_cases c17 : 0 ≤ x28_2
       ·rw [if_pos c17] at H
        have c17b0 : decide (0 ≤ x28_2) = true := decide_eq_true c17
        clear c17
        by_cases c18 : x28_2 < (l1_1.length : Int)
        ·rw [if_pos c18] at H
         have c18b0 : decide (x28_2 < (l1_1.length : Int)) = true := decide_eq_true c18
         clear c18
         replace H := Option.bind_eq_some_iff.mp H
         obtain ⟨t106, A190, H⟩ := H
         replace H : (if t106 = true then ((impl_first.f l0 ((rd_T108 l1_1 x28_2).f0.f0) ((rd_T108 l1_1 x28_2).f0.f1) ((rd_T108 l1_1 x28_2).f0.f2)).bind fun t107 => (if ((rd_T108 l1_1 x28_2).f1) = t107 then (if x28_2 ≤ (l1_1.length : Int) then ((slices_ContainsFunc_Seen.f (l1_1.take (x28_2 : Int).toNat) ((rd_T108 l1_1 x28_2).f0.f0) ((rd_T108 l1_1 x28_2).f0.f1) ((rd_T108 l1_1 x28_2).f0.f2) ((rd_T108 l1_1 x28_2).f1)).bind fun t112 => (if t112 = true then (some false) else (impl_CacheOk.l0 k2 l0 l1_1 (l1_1.length : Int) (wrap64 (x28_2 + 1)) a1_0 l1_1))) else (none)) else (some false))) else (some false)) = some r := H
         have A19 := Aside0.mk A190
         clear A190
         by_cases c20 : t106 = true
         ·subst c20
          have H1 : ((impl_first.f l0 ((rd_T108 l1_1 x28_2).f0.f0) ((rd_T108 l1_1 x28_2).f0.f1) ((rd_T108 l1_1 x28_2).f0.f2)).bind fun t107 => (if ((rd_T108 l1_1 x28_2).f1) = t107 then (if x28_2 ≤ (l1_1.length : Int) then ((slices_ContainsFunc_Seen.f (l1_1.take (x28_2 : Int).toNat) ((rd_T108 l1_1 x28_2).f0.f0) ((rd_T108 l1_1 x28_2).f0.f1) ((rd_T108 l1_1 x28_2).f0.f2) ((rd_T108 l1_1 x28_2).f1)).bind fun t112 => (if t112 = true then (some false) else (impl_CacheOk.l0 k2 l0 l1_1 (l1_1.length : Int) (wrap64 (x28_2 + 1)) a1_0 l1_1))) else (none)) else (some false))) = some r := by rw [if_pos rfl] at H; exact H
          clear H
          have H := H1
          clear H1
          replace H := Option.bind_eq_some_iff.mp H
          obtain ⟨t107, A210, H⟩ := H
          replace H : (if ((rd_T108 l1_1 x28_2).f1) = t107 then (if x28_2 ≤ (l1_1.length : Int) then ((slices_ContainsFunc_Seen.f (l1_1.take (x28_2 : Int).toNat) ((rd_T108 l1_1 x28_2).f0.f0) ((rd_T108 l1_1 x28_2).f0.f1) ((rd_T108 l1_1 x28_2).f0.f2) ((rd_T108 l1_1 x28_2).f1)).bind fun t112 => (if t112 = true then (some false) else (impl_CacheOk.l0 k2 l0 l1_1 (l1_1.length : Int) (wrap64 (x28_2 + 1)) a1_0 l1_1))) else (none)) else (some false)) = some r := H
          have A21 := Aside0.mk A210
          clear A210
          by_cases c22 : ((rd_T108 l1_1 x28_2).f1) = t107
          ·rw [if_pos c22] at H
           have c22b0 : (((rd_T108 l1_1 x28_2).f1) == t107) = true := beq_iff_eq.mpr c22
           have c22b1 : (((rd_T108 l1_1 x28_2).f1) != t107) = false := bne_eq_false_iff_eq.mpr c22
           clear c22
           have c23b0 := eq_true (OD : 0 ≤ x28_2)
           by_cases c24 : x28_2 ≤ (l1_1.length : Int)
           ·rw [if_pos c24] at H
            have c24b0 := eq_true c24
            have c24b1 : decide (x28_2 ≤ (l1_1.length : Int)) = true := decide_eq_true c24
            clear c24
            obtain ⟨y108, hy108⟩ : ∃ y_ : List (S108), y_ = (l1_1.take (x28_2 : Int).toNat) := ⟨_, rfl⟩
            replace H : ((slices_ContainsFunc_Seen.f y108 ((rd_T108 l1_1 x28_2).f0.f0) ((rd_T108 l1_1 x28_2).f0.f1) ((rd_T108 l1_1 x28_2).f0.f2) ((rd_T108 l1_1 x28_2).f1)).bind fun t112 => (if t112 = true then (some false) else (impl_CacheOk.l0 k2 l0 l1_1 (l1_1.length : Int) (wrap64 (x28_2 + 1)) a1_0 l1_1))) = some r := by first | (rw [hy108]; with_reducible exact H) | (have H2_ := (Option.bind_some _ _).symm.trans H; rw [hy108]; with_reducible exact H2_) | (have H2_ := (Option.bind_some _ _).symm.trans H; with_reducible exact H2_) | with_reducible exact H | (rw [hy108]; exact H) | exact H
            have Ny108 := Aside0.mk hy108
            clear hy108
            replace H := Option.bind_eq_some_iff.mp H
            obtain ⟨t112, A250, H⟩ := H
            replace H : (if t112 = true then (some false) else (impl_CacheOk.l0 k2 l0 l1_1 (l1_1.length : Int) (wrap64 (x28_2 + 1)) a1_0 l1_1)) = some r := H
            have A25 := Aside0.mk A250
            clear A250
            by_cases c26 : t112 = true
            ·subst c26
             have H1 : (some false) = some r := by rw [if_pos rfl] at H; exact H
             clear H
             have H := H1
             clear H1
             obtain rfl := Option.some.inj H
             have p104 : 0 ≤ (x28_2 : Int) := OD
             have q104 : x28_2 < (l1_1.length : Int) := OD
             obtain ⟨ad104, e104, hx104_0, hx104_1, hx104_2, hx104_3⟩ := at_T108 HR1_1.out x28_2 p104 q104
             cases e104
             replace hx104_0 := CX HB.out hx104_0
             replace hx104_1 := CX HB.out hx104_1
             replace hx104_2 := CX HB.out hx104_2
             replace hx104_3 := CX HB.out hx104_3
             replace p104 := eq_true p104
             replace q104 := eq_true q104
             try go_wp2_with (first | ((with_reducible refine gate_dst (N := 6) rfl ?_); (try (refine gate_guard (by rfl) ?_; dsimp only)); refine box_event rfl (N := 6) rfl (cs := #[.int .i64 0, .int .i64 0, .int .i64 0, .int .i64 0]) (t := 108) BX ?_; intro gb105 hg w27 hbox hb; have BK105 := am (hbox); have GW105 := am (GH1 HB GE101.out hg); have GE105 := GW105; replace HB := am (below_step (K1 HB GE101.out) hb); have NB101_105 := am (NL BK101 hg); have NB105_101 := am (NG BK101 hg); replace BK101 := am (BB BK101 hb); clear hb hbox hg; have hnb28 := NB105_101.out; have hnc28 := NB101_105.out; obtain ⟨hcz29_0, hcz29_1, hcz29_2, hcz29_3, hfz29_0⟩ := y4 w27 BK105.out))
             have n0_ : Aside0 (((((w27.setCell ⟨gb105, 0, none⟩ (.int .i64 ((rd_T108 l1_1 x28_2).f0.f0))).setCell ⟨gb105, 1, none⟩ (.int .i64 ((rd_T108 l1_1 x28_2).f0.f1))).setCell ⟨gb105, 2, none⟩ (.int .i64 ((rd_T108 l1_1 x28_2).f0.f2))).setCell ⟨gb105, 3, none⟩ (.int .i64 ((rd_T108 l1_1 x28_2).f1))).heap[gb101]? = some (.cells #[.int .i64 a1_0, .slice (some ad104) l1_1.length c1_1] 46 (0, 0))) := ⟨by (with_reducible repeat (first | refine blk_drewN ?_ _ | refine blk_drew ?_ | refine blk_alloc ?_ _)); refine blk_far ?_ NB101_105.out _; (with_reducible repeat (first | refine blk_drewN ?_ _ | refine blk_drew ?_ | refine blk_alloc ?_ _)); refine blk_far ?_ NB101_105.out _; (with_reducible repeat (first | refine blk_drewN ?_ _ | refine blk_drew ?_ | refine blk_alloc ?_ _)); refine blk_far ?_ NB101_105.out _; (with_reducible repeat (first | refine blk_drewN ?_ _ | refine blk_drew ?_ | refine blk_alloc ?_ _)); refine blk_far ?_ NB101_105.out _; (with_reducible repeat (first | refine blk_drewN ?_ _ | refine blk_drew ?_ | refine blk_alloc ?_ _)); exact BK101.out⟩
             have n1_ : Aside0 (((((w27.setCell ⟨gb105, 0, none⟩ (.int .i64 ((rd_T108 l1_1 x28_2).f0.f0))).setCell ⟨gb105, 1, none⟩ (.int .i64 ((rd_T108 l1_1 x28_2).f0.f1))).setCell ⟨gb105, 2, none⟩ (.int .i64 ((rd_T108 l1_1 x28_2).f0.f2))).setCell ⟨gb105, 3, none⟩ (.int .i64 ((rd_T108 l1_1 x28_2).f1))).heap[gb105]? = some (.cells #[.int .i64 ((rd_T108 l1_1 x28_2).f0.f0), .int .i64 ((rd_T108 l1_1 x28_2).f0.f1), .int .i64 ((rd_T108 l1_1 x28_2).f0.f2), .int .i64 ((rd_T108 l1_1 x28_2).f1)] 108 (0, 0))) := ⟨by (with_reducible repeat (first | refine blk_drewN ?_ _ | refine blk_drew ?_ | refine blk_alloc ?_ _)); refine blk_put (cs := #[.int .i64 ((rd_T108 l1_1 x28_2).f0.f0), .int .i64 ((rd_T108 l1_1 x28_2).f0.f1), .int .i64 ((rd_T108 l1_1 x28_2).f0.f2), .int .i64 0]) ?_ 3 _ rfl; (with_reducible repeat (first | refine blk_drewN ?_ _ | refine blk_drew ?_ | refine blk_alloc ?_ _)); refine blk_put (cs := #[.int .i64 ((rd_T108 l1_1 x28_2).f0.f0), .int .i64 ((rd_T108 l1_1 x28_2).f0.f1), .int .i64 0, .int .i64 0]) ?_ 2 _ rfl; (with_reducible repeat (first | refine blk_drewN ?_ _ | refine blk_drew ?_ | refine blk_alloc ?_ _)); refine blk_put (cs := #[.int .i64 ((rd_T108 l1_1 x28_2).f0.f0), .int .i64 0, .int .i64 0, .int .i64 0]) ?_ 1 _ rfl; (with_reducible repeat (first | refine blk_drewN ?_ _ | refine blk_drew ?_ | refine blk_alloc ?_ _)); refine blk_put (cs := #[.int .i64 0, .int .i64 0, .int .i64 0, .int .i64 0]) ?_ 0 _ rfl; (with_reducible repeat (first | refine blk_drewN ?_ _ | refine blk_drew ?_ | refine blk_alloc ?_ _)); exact BK105.out⟩
             have n2_ : Aside0 (Below w.heap.size w ((((w27.setCell ⟨gb105, 0, none⟩ (.int .i64 ((rd_T108 l1_1 x28_2).f0.f0))).setCell ⟨gb105, 1, none⟩ (.int .i64 ((rd_T108 l1_1 x28_2).f0.f1))).setCell ⟨gb105, 2, none⟩ (.int .i64 ((rd_T108 l1_1 x28_2).f0.f2))).setCell ⟨gb105, 3, none⟩ (.int .i64 ((rd_T108 l1_1 x28_2).f1)))) := ⟨K2 HB GE101.out GE105.out⟩
             (try clear BK101)
             (try clear BK105)
             (try clear HB)
             generalize ((((w27.setCell ⟨gb105, 0, none⟩ (.int .i64 ((rd_T108 l1_1 x28_2).f0.f0))).setCell ⟨gb105, 1, none⟩ (.int .i64 ((rd_T108 l1_1 x28_2).f0.f1))).setCell ⟨gb105, 2, none⟩ (.int .i64 ((rd_T108 l1_1 x28_2).f0.f2))).setCell ⟨gb105, 3, none⟩ (.int .i64 ((rd_T108 l1_1 x28_2).f1))) = w30 at n0_ n1_ n2_ ⊢
             have BK101 := n0_
             have BK105 := n1_
             have HB := n2_
             clear n0_ n1_ n2_
             replace BK101 := am (blk_drew BK101.out)
             replace BK105 := am (blk_drew BK105.out)
             replace HB := am (below_drew1 HB.out)
             refine start_ (n := 21) (S := fun w' => ce4 w' gb105 (.int .i64 ((rd_T108 l1_1 x28_2).f0.f0)) (.int .i64 ((rd_T108 l1_1 x28_2).f0.f1)) (.int .i64 ((rd_T108 l1_1 x28_2).f0.f2)) (.int .i64 ((rd_T108 l1_1 x28_2).f1)) (de2 w' gb101 (.int .i64 a1_0) (.slice (some ad104) l1_1.length c1_1))) (ds := []) (tf 0 21) (by kernel_rfl) rfl rfl ⟨z0 _ BK105.out, z1 _ BK105.out, z2 _ BK105.out, z3 _ BK105.out, z0 _ BK101.out, z1 _ BK101.out⟩ (fun hHeld => ?_); refine with_tabW impl_CacheOk.tab7 impl_CacheOk.bits7 (fun HT_ HW_ => ?_)
             generalize w30.drew = w31 at BK101 BK105 HB hHeld ⊢
             refine pv HT_ 0 34 (tf 1 20) ?_
             refine tk 1 (some 35) (tf 2 19) (take_ofW HT_.out HW_.out (by kernel_rfl)) hHeld ?_
             refine one_ (i := 2) (N := some 36) (tf 3 18) rfl rfl (one_of HT_.out (by kernel_rfl)) (by decide) (fun K hK => ?_)
             refine goes_ Try.func73 (by kernel_rfl) rfl #[.agg #[.int .i64 ((rd_T108 l1_1 x28_2).f0.f0), .int .i64 ((rd_T108 l1_1 x28_2).f0.f1), .int .i64 ((rd_T108 l1_1 x28_2).f0.f2)]] (by rfl) rfl rfl MT ?_
             with_reducible refine (impl_isCall.calls ((rd_T108 l1_1 x28_2).f0.f0) ((rd_T108 l1_1 x28_2).f0.f1) ((rd_T108 l1_1 x28_2).f0.f2) true _ A19.out).mono ?_
             rintro e w32 ⟨rfl, hb⟩
             refine ⟨_, rfl, ?_⟩
             replace BK101 := am (BB BK101 hb)
             replace BK105 := am (BB BK105 hb)
             replace HB := am (below_step (K2 HB GE101.out GE105.out) hb)
             (try clear hb)
             (try clear hb2)
             (try clear hk)
             (try clear hi)
             refine hK.out _ _ ⟨z0 _ BK105.out, z1 _ BK105.out, z2 _ BK105.out, z3 _ BK105.out, z0 _ BK101.out, z1 _ BK101.out⟩ (fun hHeld => ?_)
             clear hK K
             refine norm_ (a' := ?_) ?_ ?_
             rotate_left
             ·show Act.put _ (some 36) _ = _
              simp only [Act.put, List.setIfInBounds_toArray, List.set_cons_zero, List.set_cons_succ, i64_w, i32_w]
              rfl
             refine pv HT_ 3 37 (tf 4 17) ?_
             refine pv HT_ 4 38 (tf 5 16) ?_
             refine pv HT_ 5 39 (tf 6 15) ?_
             refine pv HT_ 7 41 (tr [6, 1, 1, 13]) ?_
             refine pv HT_ 8 42 (tr [6, 1, 2, 12]) ?_
             refine tk 6 (some 40) (tf 9 12) (take_ofW HT_.out HW_.out (by kernel_rfl)) hHeld ?_
             refine tk 9 (some 43) (tf 10 11) (take_ofW HT_.out HW_.out (by kernel_rfl)) hHeld ?_
             refine one_ (i := 10) (N := some 44) (tf 11 10) rfl rfl (one_of HT_.out (by kernel_rfl)) (by decide) (fun K hK => ?_)
             refine goes_ Try.func74 (by kernel_rfl) rfl #[.slice A0 l0.length c0, .agg #[.int .i64 ((rd_T108 l1_1 x28_2).f0.f0), .int .i64 ((rd_T108 l1_1 x28_2).f0.f1), .int .i64 ((rd_T108 l1_1 x28_2).f0.f2)]] (by rfl) rfl rfl MT ?_
             with_reducible refine (impl_first.calls _ _ l0 ((rd_T108 l1_1 x28_2).f0.f0) ((rd_T108 l1_1 x28_2).f0.f1) ((rd_T108 l1_1 x28_2).f0.f2) t107 _ ?side1 ?side2 A21.out).mono ?_
             (case side1 => exact KC (Kd.C_below HR0.out HB.out))
             (case side2 => exact HC0.out)
             rintro e w33 ⟨rfl, hb⟩
             refine ⟨_, rfl, ?_⟩
             replace BK101 := am (BB BK101 hb)
             replace BK105 := am (BB BK105 hb)
             replace HB := am (below_step (K2 HB GE101.out GE105.out) hb)
             (try clear hb)
             (try clear hb2)
             (try clear hk)
             (try clear hi)
             have q34 : (x28_2 : Int) ≤ ((l1_1.length : Int) : Int) := OD
             obtain ⟨i034, hi034, _, hsz34, _⟩ := info_parts info108
             have hroom34 : l1_1.length ≤ c1_1 := HC1_1.out
             have hC34 : Kd.C k108 _ (some ad104) l1_1.length l1_1 := HR1_1.out
             have hcut34 := cut_to (P := Try.prog) 44 108 .i64 Try.underlying44 hi034 (some ad104) l1_1.length c1_1 x28_2 (OD) q34 hroom34
             have hr34 := Kd.C_take (m := (x28_2 : Int).toNat) hC34 (by omega)
             have hy34 : y108.length = (x28_2 : Int).toNat := (by rw [Ny108.out, List.length_take]; omega)
             rw [← Ny108.out] at hr34
             rw [← hy34] at hcut34
             have HR111 := Aside0.mk hr34
             have HC111 := am (show y108.length ≤ c1_1 from by omega)
             clear hr34 hC34 hroom34 hi034 hsz34
             have KY34 := Aside0.mk hy34
             clear hy34
             replace q34 := eq_true q34
             refine hK.out _ _ ⟨z0 _ BK105.out, z1 _ BK105.out, z2 _ BK105.out, z3 _ BK105.out, z0 _ BK101.out, z1 _ BK101.out⟩ (fun hHeld => ?_)
             clear hK K
             refine norm_ (a' := ?_) ?_ ?_
             rotate_left
             ·show Act.put _ (some 44) _ = _
              simp only [Act.put, List.setIfInBounds_toArray, List.set_cons_zero, List.set_cons_succ, i64_w, i32_w]
              rfl
             refine pv HT_ 11 45 (tf 12 9) ?_
             refine pv HT_ 12 46 (tf 13 8) ?_
             refine pv HT_ 13 47 (tf 14 7) ?_
             refine pv HT_ 14 48 (tf 15 6) ?_
             refine pv HT_ 16 50 (tr [15, 1, 1, 4]) ?_
             refine pv HT_ 18 52 (tr [15, 1, 1, 1, 1, 2]) ?_
             refine tk 15 (some 49) (tr [17, 1, 1, 2]) (take_ofW HT_.out HW_.out (by kernel_rfl)) hHeld ?_
             refine pv HT_ 17 51 (tf 19 2) ?_
             refine one_ (i := 19) (N := some 53) (tf 20 1) rfl rfl (one_of HT_.out (by kernel_rfl)) (by decide) (fun K hK => ?_)
             refine goes_ Try.func87 (by kernel_rfl) rfl #[.slice (some ad104) y108.length c1_1, .func (.func 86) #[] #[.pointer (some ⟨gb105, 0, none⟩)]] (by rfl) rfl rfl MT ?_
             with_reducible refine (slices_ContainsFunc_Seen.calls _ _ y108 ((rd_T108 l1_1 x28_2).f0.f0) ((rd_T108 l1_1 x28_2).f0.f1) ((rd_T108 l1_1 x28_2).f0.f2) ((rd_T108 l1_1 x28_2).f1) gb105 true _ ?side1 ?side2 ?side3 A25.out).mono ?_
             (case side1 => exact KC (Kd.C_below HR111.out HB.out))
             (case side2 => exact HC111.out)
             (case side3 => exact (KB BK105))
             rintro e w35 ⟨rfl, hb⟩
             refine ⟨_, rfl, ?_⟩
             replace BK101 := am (BB BK101 hb)
             replace BK105 := am (BB BK105 hb)
             replace HB := am (below_step (K2 HB GE101.out GE105.out) hb)
             (try clear hb)
             (try clear hb2)
             (try clear hk)
             (try clear hi)
             refine hK.out _ _ ⟨z0 _ BK105.out, z1 _ BK105.out, z2 _ BK105.out, z3 _ BK105.out, z0 _ BK101.out, z1 _ BK101.out⟩ (fun hHeld => ?_)
             clear hK K
             refine norm_ (a' := ?_) ?_ ?_
             rotate_left
             ·show Act.put _ (some 53) _ = _
              simp only [Act.put, List.setIfInBounds_toArray, List.set_cons_zero, List.set_cons_succ, i64_w, i32_w]
              rfl
             refine pv HT_ 20 54 (tf 21 0) ?_
             refine done_ (done_of HT_.out (by kernel_rfl)) ?_
             try go_wp2
             go_ret
             exact ⟨ER, K2 HB GE101.out GE105.out⟩
            ·replace c26 := Bool.eq_false_iff.mpr c26
             subst c26
             have H1 : (impl_CacheOk.l0 k2 l0 l1_1 (l1_1.length : Int) (wrap64 (x28_2 + 1)) a1_0 l1_1) = some r := by rw [if_neg (show ¬ (false = true) by decide)] at H; exact H
             clear H
             have H := H1
             clear H1
             have H' := Aside0.mk H
             clear H
             have p104 : 0 ≤ (x28_2 : Int) := OD
             have q104 : x28_2 < (l1_1.length : Int) := OD
             obtain ⟨ad104, e104, hx104_0, hx104_1, hx104_2, hx104_3⟩ := at_T108 HR1_1.out x28_2 p104 q104
             cases e104
             replace hx104_0 := CX HB.out hx104_0
             replace hx104_1 := CX HB.out hx104_1
             replace hx104_2 := CX HB.out hx104_2
             replace hx104_3 := CX HB.out hx104_3
             replace p104 := eq_true p104
             replace q104 := eq_true q104
             try go_wp2_with (first | ((with_reducible refine gate_dst (N := 6) rfl ?_); (try (refine gate_guard (by rfl) ?_; dsimp only)); refine box_event rfl (N := 6) rfl (cs := #[.int .i64 0, .int .i64 0, .int .i64 0, .int .i64 0]) (t := 108) BX ?_; intro gb105 hg w36 hbox hb; have BK105 := am (hbox); have GW105 := am (GH1 HB GE101.out hg); have GE105 := GW105; replace HB := am (below_step (K1 HB GE101.out) hb); have NB101_105 := am (NL BK101 hg); have NB105_101 := am (NG BK101 hg); replace BK101 := am (BB BK101 hb); clear hb hbox hg; have hnb37 := NB105_101.out; have hnc37 := NB101_105.out; obtain ⟨hcz38_0, hcz38_1, hcz38_2, hcz38_3, hfz38_0⟩ := y4 w36 BK105.out))
             have n0_ : Aside0 (((((w36.setCell ⟨gb105, 0, none⟩ (.int .i64 ((rd_T108 l1_1 x28_2).f0.f0))).setCell ⟨gb105, 1, none⟩ (.int .i64 ((rd_T108 l1_1 x28_2).f0.f1))).setCell ⟨gb105, 2, none⟩ (.int .i64 ((rd_T108 l1_1 x28_2).f0.f2))).setCell ⟨gb105, 3, none⟩ (.int .i64 ((rd_T108 l1_1 x28_2).f1))).heap[gb101]? = some (.cells #[.int .i64 a1_0, .slice (some ad104) l1_1.length c1_1] 46 (0, 0))) := ⟨by (with_reducible repeat (first | refine blk_drewN ?_ _ | refine blk_drew ?_ | refine blk_alloc ?_ _)); refine blk_far ?_ NB101_105.out _; (with_reducible repeat (first | refine blk_drewN ?_ _ | refine blk_drew ?_ | refine blk_alloc ?_ _)); refine blk_far ?_ NB101_105.out _; (with_reducible repeat (first | refine blk_drewN ?_ _ | refine blk_drew ?_ | refine blk_alloc ?_ _)); refine blk_far ?_ NB101_105.out _; (with_reducible repeat (first | refine blk_drewN ?_ _ | refine blk_drew ?_ | refine blk_alloc ?_ _)); refine blk_far ?_ NB101_105.out _; (with_reducible repeat (first | refine blk_drewN ?_ _ | refine blk_drew ?_ | refine blk_alloc ?_ _)); exact BK101.out⟩
             have n1_ : Aside0 (((((w36.setCell ⟨gb105, 0, none⟩ (.int .i64 ((rd_T108 l1_1 x28_2).f0.f0))).setCell ⟨gb105, 1, none⟩ (.int .i64 ((rd_T108 l1_1 x28_2).f0.f1))).setCell ⟨gb105, 2, none⟩ (.int .i64 ((rd_T108 l1_1 x28_2).f0.f2))).setCell ⟨gb105, 3, none⟩ (.int .i64 ((rd_T108 l1_1 x28_2).f1))).heap[gb105]? = some (.cells #[.int .i64 ((rd_T108 l1_1 x28_2).f0.f0), .int .i64 ((rd_T108 l1_1 x28_2).f0.f1), .int .i64 ((rd_T108 l1_1 x28_2).f0.f2), .int .i64 ((rd_T108 l1_1 x28_2).f1)] 108 (0, 0))) := ⟨by (with_reducible repeat (first | refine blk_drewN ?_ _ | refine blk_drew ?_ | refine blk_alloc ?_ _)); refine blk_put (cs := #[.int .i64 ((rd_T108 l1_1 x28_2).f0.f0), .int .i64 ((rd_T108 l1_1 x28_2).f0.f1), .int .i64 ((rd_T108 l1_1 x28_2).f0.f2), .int .i64 0]) ?_ 3 _ rfl; (with_reducible repeat (first | refine blk_drewN ?_ _ | refine blk_drew ?_ | refine blk_alloc ?_ _)); refine blk_put (cs := #[.int .i64 ((rd_T108 l1_1 x28_2).f0.f0), .int .i64 ((rd_T108 l1_1 x28_2).f0.f1), .int .i64 0, .int .i64 0]) ?_ 2 _ rfl; (with_reducible repeat (first | refine blk_drewN ?_ _ | refine blk_drew ?_ | refine blk_alloc ?_ _)); refine blk_put (cs := #[.int .i64 ((rd_T108 l1_1 x28_2).f0.f0), .int .i64 0, .int .i64 0, .int .i64 0]) ?_ 1 _ rfl; (with_reducible repeat (first | refine blk_drewN ?_ _ | refine blk_drew ?_ | refine blk_alloc ?_ _)); refine blk_put (cs := #[.int .i64 0, .int .i64 0, .int .i64 0, .int .i64 0]) ?_ 0 _ rfl; (with_reducible repeat (first | refine blk_drewN ?_ _ | refine blk_drew ?_ | refine blk_alloc ?_ _)); exact BK105.out⟩
             have n2_ : Aside0 (Below w.heap.size w ((((w36.setCell ⟨gb105, 0, none⟩ (.int .i64 ((rd_T108 l1_1 x28_2).f0.f0))).setCell ⟨gb105, 1, none⟩ (.int .i64 ((rd_T108 l1_1 x28_2).f0.f1))).setCell ⟨gb105, 2, none⟩ (.int .i64 ((rd_T108 l1_1 x28_2).f0.f2))).setCell ⟨gb105, 3, none⟩ (.int .i64 ((rd_T108 l1_1 x28_2).f1)))) := ⟨K2 HB GE101.out GE105.out⟩
             (try clear BK101)
             (try clear BK105)
             (try clear HB)
             generalize ((((w36.setCell ⟨gb105, 0, none⟩ (.int .i64 ((rd_T108 l1_1 x28_2).f0.f0))).setCell ⟨gb105, 1, none⟩ (.int .i64 ((rd_T108 l1_1 x28_2).f0.f1))).setCell ⟨gb105, 2, none⟩ (.int .i64 ((rd_T108 l1_1 x28_2).f0.f2))).setCell ⟨gb105, 3, none⟩ (.int .i64 ((rd_T108 l1_1 x28_2).f1))) = w39 at n0_ n1_ n2_ ⊢
             have BK101 := n0_
             have BK105 := n1_
             have HB := n2_
             clear n0_ n1_ n2_
             replace BK101 := am (blk_drew BK101.out)
             replace BK105 := am (blk_drew BK105.out)
             replace HB := am (below_drew1 HB.out)
             refine start_ (n := 21) (S := fun w' => ce4 w' gb105 (.int .i64 ((rd_T108 l1_1 x28_2).f0.f0)) (.int .i64 ((rd_T108 l1_1 x28_2).f0.f1)) (.int .i64 ((rd_T108 l1_1 x28_2).f0.f2)) (.int .i64 ((rd_T108 l1_1 x28_2).f1)) (de2 w' gb101 (.int .i64 a1_0) (.slice (some ad104) l1_1.length c1_1))) (ds := []) (tf 0 21) (by kernel_rfl) rfl rfl ⟨z0 _ BK105.out, z1 _ BK105.out, z2 _ BK105.out, z3 _ BK105.out, z0 _ BK101.out, z1 _ BK101.out⟩ (fun hHeld => ?_); refine with_tabW impl_CacheOk.tab7 impl_CacheOk.bits7 (fun HT_ HW_ => ?_)
             generalize w39.drew = w40 at BK101 BK105 HB hHeld ⊢
             refine pv HT_ 0 34 (tf 1 20) ?_
             refine tk 1 (some 35) (tf 2 19) (take_ofW HT_.out HW_.out (by kernel_rfl)) hHeld ?_
             refine one_ (i := 2) (N := some 36) (tf 3 18) rfl rfl (one_of HT_.out (by kernel_rfl)) (by decide) (fun K hK => ?_)
             refine goes_ Try.func73 (by kernel_rfl) rfl #[.agg #[.int .i64 ((rd_T108 l1_1 x28_2).f0.f0), .int .i64 ((rd_T108 l1_1 x28_2).f0.f1), .int .i64 ((rd_T108 l1_1 x28_2).f0.f2)]] (by rfl) rfl rfl MT ?_
             with_reducible refine (impl_isCall.calls ((rd_T108 l1_1 x28_2).f0.f0) ((rd_T108 l1_1 x28_2).f0.f1) ((rd_T108 l1_1 x28_2).f0.f2) true _ A19.out).mono ?_
             rintro e w41 ⟨rfl, hb⟩
             refine ⟨_, rfl, ?_⟩
             replace BK101 := am (BB BK101 hb)
             replace BK105 := am (BB BK105 hb)
             replace HB := am (below_step (K2 HB GE101.out GE105.out) hb)
             (try clear hb)
             (try clear hb2)
             (try clear hk)
             (try clear hi)
             refine hK.out _ _ ⟨z0 _ BK105.out, z1 _ BK105.out, z2 _ BK105.out, z3 _ BK105.out, z0 _ BK101.out, z1 _ BK101.out⟩ (fun hHeld => ?_)
             clear hK K
             refine norm_ (a' := ?_) ?_ ?_
             rotate_left
             ·show Act.put _ (some 36) _ = _
              simp only [Act.put, List.setIfInBounds_toArray, List.set_cons_zero, List.set_cons_succ, i64_w, i32_w]
              rfl
             refine pv HT_ 3 37 (tf 4 17) ?_
             refine pv HT_ 4 38 (tf 5 16) ?_
             refine pv HT_ 5 39 (tf 6 15) ?_
             refine pv HT_ 7 41 (tr [6, 1, 1, 13]) ?_
             refine pv HT_ 8 42 (tr [6, 1, 2, 12]) ?_
             refine tk 6 (some 40) (tf 9 12) (take_ofW HT_.out HW_.out (by kernel_rfl)) hHeld ?_
             refine tk 9 (some 43) (tf 10 11) (take_ofW HT_.out HW_.out (by kernel_rfl)) hHeld ?_
             refine one_ (i := 10) (N := some 44) (tf 11 10) rfl rfl (one_of HT_.out (by kernel_rfl)) (by decide) (fun K hK => ?_)
             refine goes_ Try.func74 (by kernel_rfl) rfl #[.slice A0 l0.length c0, .agg #[.int .i64 ((rd_T108 l1_1 x28_2).f0.f0), .int .i64 ((rd_T108 l1_1 x28_2).f0.f1), .int .i64 ((rd_T108 l1_1 x28_2).f0.f2)]] (by rfl) rfl rfl MT ?_
             with_reducible refine (impl_first.calls _ _ l0 ((rd_T108 l1_1 x28_2).f0.f0) ((rd_T108 l1_1 x28_2).f0.f1) ((rd_T108 l1_1 x28_2).f0.f2) t107 _ ?side1 ?side2 A21.out).mono ?_
             (case side1 => exact KC (Kd.C_below HR0.out HB.out))
             (case side2 => exact HC0.out)
             rintro e w42 ⟨rfl, hb⟩
             refine ⟨_, rfl, ?_⟩
             replace BK101 := am (BB BK101 hb)
             replace BK105 := am (BB BK105 hb)
             replace HB := am (below_step (K2 HB GE101.out GE105.out) hb)
             (try clear hb)
             (try clear hb2)
             (try clear hk)
             (try clear hi)
             have q43 : (x28_2 : Int) ≤ ((l1_1.length : Int) : Int) := OD
             obtain ⟨i043, hi043, _, hsz43, _⟩ := info_parts info108
             have hroom43 : l1_1.length ≤ c1_1 := HC1_1.out
             have hC43 : Kd.C k108 _ (some ad104) l1_1.length l1_1 := HR1_1.out
             have hcut43 := cut_to (P := Try.prog) 44 108 .i64 Try.underlying44 hi043 (some ad104) l1_1.length c1_1 x28_2 (OD) q43 hroom43
             have hr43 := Kd.C_take (m := (x28_2 : Int).toNat) hC43 (by omega)
             have hy43 : y108.length = (x28_2 : Int).toNat := (by rw [Ny108.out, List.length_take]; omega)
             rw [← Ny108.out] at hr43
             rw [← hy43] at hcut43
             have HR111 := Aside0.mk hr43
             have HC111 := am (show y108.length ≤ c1_1 from by omega)
             clear hr43 hC43 hroom43 hi043 hsz43
             have KY43 := Aside0.mk hy43
             clear hy43
             replace q43 := eq_true q43
             refine hK.out _ _ ⟨z0 _ BK105.out, z1 _ BK105.out, z2 _ BK105.out, z3 _ BK105.out, z0 _ BK101.out, z1 _ BK101.out⟩ (fun hHeld => ?_)
             clear hK K
             refine norm_ (a' := ?_) ?_ ?_
             rotate_left
             ·show Act.put _ (some 44) _ = _
              simp only [Act.put, List.setIfInBounds_toArray, List.set_cons_zero, List.set_cons_succ, i64_w, i32_w]
              rfl
             refine pv HT_ 11 45 (tf 12 9) ?_
             refine pv HT_ 12 46 (tf 13 8) ?_
             refine pv HT_ 13 47 (tf 14 7) ?_
             refine pv HT_ 14 48 (tf 15 6) ?_
             refine pv HT_ 16 50 (tr [15, 1, 1, 4]) ?_
             refine pv HT_ 18 52 (tr [15, 1, 1, 1, 1, 2]) ?_
             refine tk 15 (some 49) (tr [17, 1, 1, 2]) (take_ofW HT_.out HW_.out (by kernel_rfl)) hHeld ?_
             refine pv HT_ 17 51 (tf 19 2) ?_
             refine one_ (i := 19) (N := some 53) (tf 20 1) rfl rfl (one_of HT_.out (by kernel_rfl)) (by decide) (fun K hK => ?_)
             refine goes_ Try.func87 (by kernel_rfl) rfl #[.slice (some ad104) y108.length c1_1, .func (.func 86) #[] #[.pointer (some ⟨gb105, 0, none⟩)]] (by rfl) rfl rfl MT ?_
             with_reducible refine (slices_ContainsFunc_Seen.calls _ _ y108 ((rd_T108 l1_1 x28_2).f0.f0) ((rd_T108 l1_1 x28_2).f0.f1) ((rd_T108 l1_1 x28_2).f0.f2) ((rd_T108 l1_1 x28_2).f1) gb105 false _ ?side1 ?side2 ?side3 A25.out).mono ?_
             (case side1 => exact KC (Kd.C_below HR111.out HB.out))
             (case side2 => exact HC111.out)
             (case side3 => exact (KB BK105))
             rintro e w44 ⟨rfl, hb⟩
             refine ⟨_, rfl, ?_⟩
             replace BK101 := am (BB BK101 hb)
             replace BK105 := am (BB BK105 hb)
             replace HB := am (below_step (K2 HB GE101.out GE105.out) hb)
             (try clear hb)
             (try clear hb2)
             (try clear hk)
             (try clear hi)
             refine hK.out _ _ ⟨z0 _ BK105.out, z1 _ BK105.out, z2 _ BK105.out, z3 _ BK105.out, z0 _ BK101.out, z1 _ BK101.out⟩ (fun hHeld => ?_)
             clear hK K
             refine norm_ (a' := ?_) ?_ ?_
             rotate_left
             ·show Act.put _ (some 53) _ = _
              simp only [Act.put, List.setIfInBounds_toArray, List.set_cons_zero, List.set_cons_succ, i64_w, i32_w]
              rfl
             refine pv HT_ 20 54 (tf 21 0) ?_
             refine done_ (done_of HT_.out (by kernel_rfl)) ?_
             try go_wp2
             go_roundg k2
             case measure => have := HJ2.out; have := HK2.out; omega
             case rel => exact ⟨(wrap64 (x28_2 + 1)), (by first | rfl | (simp; done) | (simp [*]; done)), H', ⟨by have := HJ2.out; have := HK2.out; omega⟩, ⟨KB BK101⟩, ⟨K2 HB GE101.out GE105.out⟩⟩
           ·rw [if_neg c24] at H
            exact absurd H (by simp)
          ·rw [if_neg c22] at H
           have c22b0 : (((rd_T108 l1_1 x28_2).f1) == t107) = false := beq_eq_false_iff_ne.mpr c22
           have c22b1 : (((rd_T108 l1_1 x28_2).f1) != t107) = true := bne_iff_ne.mpr c22
           obtain rfl := Option.some.inj H
           have p104 : 0 ≤ (x28_2 : Int) := OD
           have q104 : x28_2 < (l1_1.length : Int) := OD
           obtain ⟨ad104, e104, hx104_0, hx104_1, hx104_2, hx104_3⟩ := at_T108 HR1_1.out x28_2 p104 q104
           cases e104
           replace hx104_0 := CX HB.out hx104_0
           replace hx104_1 := CX HB.out hx104_1
           replace hx104_2 := CX HB.out hx104_2
           replace hx104_3 := CX HB.out hx104_3
           replace p104 := eq_true p104
           replace q104 := eq_true q104
           try go_wp2_with (first | ((with_reducible refine gate_dst (N := 6) rfl ?_); (try (refine gate_guard (by rfl) ?_; dsimp only)); refine box_event rfl (N := 6) rfl (cs := #[.int .i64 0, .int .i64 0, .int .i64 0, .int .i64 0]) (t := 108) BX ?_; intro gb105 hg w45 hbox hb; have BK105 := am (hbox); have GW105 := am (GH1 HB GE101.out hg); have GE105 := GW105; replace HB := am (below_step (K1 HB GE101.out) hb); have NB101_105 := am (NL BK101 hg); have NB105_101 := am (NG BK101 hg); replace BK101 := am (BB BK101 hb); clear hb hbox hg; have hnb46 := NB105_101.out; have hnc46 := NB101_105.out; obtain ⟨hcz47_0, hcz47_1, hcz47_2, hcz47_3, hfz47_0⟩ := y4 w45 BK105.out))
           have n0_ : Aside0 (((((w45.setCell ⟨gb105, 0, none⟩ (.int .i64 ((rd_T108 l1_1 x28_2).f0.f0))).setCell ⟨gb105, 1, none⟩ (.int .i64 ((rd_T108 l1_1 x28_2).f0.f1))).setCell ⟨gb105, 2, none⟩ (.int .i64 ((rd_T108 l1_1 x28_2).f0.f2))).setCell ⟨gb105, 3, none⟩ (.int .i64 ((rd_T108 l1_1 x28_2).f1))).heap[gb101]? = some (.cells #[.int .i64 a1_0, .slice (some ad104) l1_1.length c1_1] 46 (0, 0))) := ⟨by (with_reducible repeat (first | refine blk_drewN ?_ _ | refine blk_drew ?_ | refine blk_alloc ?_ _)); refine blk_far ?_ NB101_105.out _; (with_reducible repeat (first | refine blk_drewN ?_ _ | refine blk_drew ?_ | refine blk_alloc ?_ _)); refine blk_far ?_ NB101_105.out _; (with_reducible repeat (first | refine blk_drewN ?_ _ | refine blk_drew ?_ | refine blk_alloc ?_ _)); refine blk_far ?_ NB101_105.out _; (with_reducible repeat (first | refine blk_drewN ?_ _ | refine blk_drew ?_ | refine blk_alloc ?_ _)); refine blk_far ?_ NB101_105.out _; (with_reducible repeat (first | refine blk_drewN ?_ _ | refine blk_drew ?_ | refine blk_alloc ?_ _)); exact BK101.out⟩
           have n1_ : Aside0 (((((w45.setCell ⟨gb105, 0, none⟩ (.int .i64 ((rd_T108 l1_1 x28_2).f0.f0))).setCell ⟨gb105, 1, none⟩ (.int .i64 ((rd_T108 l1_1 x28_2).f0.f1))).setCell ⟨gb105, 2, none⟩ (.int .i64 ((rd_T108 l1_1 x28_2).f0.f2))).setCell ⟨gb105, 3, none⟩ (.int .i64 ((rd_T108 l1_1 x28_2).f1))).heap[gb105]? = some (.cells #[.int .i64 ((rd_T108 l1_1 x28_2).f0.f0), .int .i64 ((rd_T108 l1_1 x28_2).f0.f1), .int .i64 ((rd_T108 l1_1 x28_2).f0.f2), .int .i64 ((rd_T108 l1_1 x28_2).f1)] 108 (0, 0))) := ⟨by (with_reducible repeat (first | refine blk_drewN ?_ _ | refine blk_drew ?_ | refine blk_alloc ?_ _)); refine blk_put (cs := #[.int .i64 ((rd_T108 l1_1 x28_2).f0.f0), .int .i64 ((rd_T108 l1_1 x28_2).f0.f1), .int .i64 ((rd_T108 l1_1 x28_2).f0.f2), .int .i64 0]) ?_ 3 _ rfl; (with_reducible repeat (first | refine blk_drewN ?_ _ | refine blk_drew ?_ | refine blk_alloc ?_ _)); refine blk_put (cs := #[.int .i64 ((rd_T108 l1_1 x28_2).f0.f0), .int .i64 ((rd_T108 l1_1 x28_2).f0.f1), .int .i64 0, .int .i64 0]) ?_ 2 _ rfl; (with_reducible repeat (first | refine blk_drewN ?_ _ | refine blk_drew ?_ | refine blk_alloc ?_ _)); refine blk_put (cs := #[.int .i64 ((rd_T108 l1_1 x28_2).f0.f0), .int .i64 0, .int .i64 0, .int .i64 0]) ?_ 1 _ rfl; (with_reducible repeat (first | refine blk_drewN ?_ _ | refine blk_drew ?_ | refine blk_alloc ?_ _)); refine blk_put (cs := #[.int .i64 0, .int .i64 0, .int .i64 0, .int .i64 0]) ?_ 0 _ rfl; (with_reducible repeat (first | refine blk_drewN ?_ _ | refine blk_drew ?_ | refine blk_alloc ?_ _)); exact BK105.out⟩
           have n2_ : Aside0 (Below w.heap.size w ((((w45.setCell ⟨gb105, 0, none⟩ (.int .i64 ((rd_T108 l1_1 x28_2).f0.f0))).setCell ⟨gb105, 1, none⟩ (.int .i64 ((rd_T108 l1_1 x28_2).f0.f1))).setCell ⟨gb105, 2, none⟩ (.int .i64 ((rd_T108 l1_1 x28_2).f0.f2))).setCell ⟨gb105, 3, none⟩ (.int .i64 ((rd_T108 l1_1 x28_2).f1)))) := ⟨K2 HB GE101.out GE105.out⟩
           (try clear BK101)
           (try clear BK105)
           (try clear HB)
           generalize ((((w45.setCell ⟨gb105, 0, none⟩ (.int .i64 ((rd_T108 l1_1 x28_2).f0.f0))).setCell ⟨gb105, 1, none⟩ (.int .i64 ((rd_T108 l1_1 x28_2).f0.f1))).setCell ⟨gb105, 2, none⟩ (.int .i64 ((rd_T108 l1_1 x28_2).f0.f2))).setCell ⟨gb105, 3, none⟩ (.int .i64 ((rd_T108 l1_1 x28_2).f1))) = w48 at n0_ n1_ n2_ ⊢
           have BK101 := n0_
           have BK105 := n1_
           have HB := n2_
           clear n0_ n1_ n2_
           replace BK101 := am (blk_drew BK101.out)
           replace BK105 := am (blk_drew BK105.out)
           replace HB := am (below_drew1 HB.out)
           refine start_ (n := 21) (S := fun w' => de4 w' gb105 (.int .i64 ((rd_T108 l1_1 x28_2).f0.f0)) (.int .i64 ((rd_T108 l1_1 x28_2).f0.f1)) (.int .i64 ((rd_T108 l1_1 x28_2).f0.f2)) (.int .i64 ((rd_T108 l1_1 x28_2).f1))) (ds := []) (tf 0 21) (by kernel_rfl) rfl rfl ⟨z0 _ BK105.out, z1 _ BK105.out, z2 _ BK105.out, z3 _ BK105.out⟩ (fun hHeld => ?_); refine with_tabW impl_CacheOk.tab7 impl_CacheOk.bits7 (fun HT_ HW_ => ?_)
           generalize w48.drew = w49 at BK101 BK105 HB hHeld ⊢
           refine pv HT_ 0 34 (tf 1 20) ?_
           refine tk 1 (some 35) (tf 2 19) (take_ofW HT_.out HW_.out (by kernel_rfl)) hHeld ?_
           refine one_ (i := 2) (N := some 36) (tf 3 18) rfl rfl (one_of HT_.out (by kernel_rfl)) (by decide) (fun K hK => ?_)
           refine goes_ Try.func73 (by kernel_rfl) rfl #[.agg #[.int .i64 ((rd_T108 l1_1 x28_2).f0.f0), .int .i64 ((rd_T108 l1_1 x28_2).f0.f1), .int .i64 ((rd_T108 l1_1 x28_2).f0.f2)]] (by rfl) rfl rfl MT ?_
           with_reducible refine (impl_isCall.calls ((rd_T108 l1_1 x28_2).f0.f0) ((rd_T108 l1_1 x28_2).f0.f1) ((rd_T108 l1_1 x28_2).f0.f2) true _ A19.out).mono ?_
           rintro e w50 ⟨rfl, hb⟩
           refine ⟨_, rfl, ?_⟩
           replace BK101 := am (BB BK101 hb)
           replace BK105 := am (BB BK105 hb)
           replace HB := am (below_step (K2 HB GE101.out GE105.out) hb)
           (try clear hb)
           (try clear hb2)
           (try clear hk)
           (try clear hi)
           refine hK.out _ _ ⟨z0 _ BK105.out, z1 _ BK105.out, z2 _ BK105.out, z3 _ BK105.out⟩ (fun hHeld => ?_)
           clear hK K
           refine norm_ (a' := ?_) ?_ ?_
           rotate_left
           ·show Act.put _ (some 36) _ = _
            simp only [Act.put, List.setIfInBounds_toArray, List.set_cons_zero, List.set_cons_succ, i64_w, i32_w]
            rfl
           refine pv HT_ 3 37 (tf 4 17) ?_
           refine pv HT_ 4 38 (tf 5 16) ?_
           refine pv HT_ 5 39 (tf 6 15) ?_
           refine pv HT_ 7 41 (tr [6, 1, 1, 13]) ?_
           refine pv HT_ 8 42 (tr [6, 1, 2, 12]) ?_
           refine tk 6 (some 40) (tf 9 12) (take_ofW HT_.out HW_.out (by kernel_rfl)) hHeld ?_
           refine tk 9 (some 43) (tf 10 11) (take_ofW HT_.out HW_.out (by kernel_rfl)) hHeld ?_
           refine one_ (i := 10) (N := some 44) (tf 11 10) rfl rfl (one_of HT_.out (by kernel_rfl)) (by decide) (fun K hK => ?_)
           refine goes_ Try.func74 (by kernel_rfl) rfl #[.slice A0 l0.length c0, .agg #[.int .i64 ((rd_T108 l1_1 x28_2).f0.f0), .int .i64 ((rd_T108 l1_1 x28_2).f0.f1), .int .i64 ((rd_T108 l1_1 x28_2).f0.f2)]] (by rfl) rfl rfl MT ?_
           with_reducible refine (impl_first.calls _ _ l0 ((rd_T108 l1_1 x28_2).f0.f0) ((rd_T108 l1_1 x28_2).f0.f1) ((rd_T108 l1_1 x28_2).f0.f2) t107 _ ?side1 ?side2 A21.out).mono ?_
           (case side1 => exact KC (Kd.C_below HR0.out HB.out))
           (case side2 => exact HC0.out)
           rintro e w51 ⟨rfl, hb⟩
           refine ⟨_, rfl, ?_⟩
           replace BK101 := am (BB BK101 hb)
           replace BK105 := am (BB BK105 hb)
           replace HB := am (below_step (K2 HB GE101.out GE105.out) hb)
           (try clear hb)
           (try clear hb2)
           (try clear hk)
           (try clear hi)
           refine hK.out _ _ ⟨z0 _ BK105.out, z1 _ BK105.out, z2 _ BK105.out, z3 _ BK105.out⟩ (fun hHeld => ?_)
           clear hK K
           refine norm_ (a' := ?_) ?_ ?_
           rotate_left
           ·show Act.put _ (some 44) _ = _
            simp only [Act.put, List.setIfInBounds_toArray, List.set_cons_zero, List.set_cons_succ, i64_w, i32_w]
            rfl
           refine pv HT_ 11 45 (tf 12 9) ?_
           refine pv HT_ 12 46 (tf 13 8) ?_
           refine pv HT_ 13 47 (tf 14 7) ?_
           refine pw HT_ 14 48 (tf 15 6) ?_
           refine pw HT_ 15 49 (tf 16 5) ?_
           refine pw HT_ 16 50 (tf 17 4) ?_
           refine pw HT_ 17 51 (tf 18 3) ?_
           refine pw HT_ 18 52 (tf 19 2) ?_
           refine pw HT_ 19 53 (tf 20 1) ?_
           refine pv HT_ 20 54 (tf 21 0) ?_
           refine done_ (done_of HT_.out (by kernel_rfl)) ?_
           try go_wp2
           go_ret
           exact ⟨ER, K2 HB GE101.out GE105.out⟩
         ·replace c20 := Bool.eq_false_iff.mpr c20
          subst c20
          have H1 : (some false) = some r := by rw [if_neg (show ¬ (false = true) by decide)] at H; exact H
          clear H
          have H := H1
          clear H1
          obtain rfl := Option.some.inj H
          have p104 : 0 ≤ (x28_2 : Int) := OD
          have q104 : x28_2 < (l1_1.length : Int) := OD
          obtain ⟨ad104, e104, hx104_0, hx104_1, hx104_2, hx104_3⟩ := at_T108 HR1_1.out x28_2 p104 q104
          cases e104
          replace hx104_0 := CX HB.out hx104_0
          replace hx104_1 := CX HB.out hx104_1
          replace hx104_2 := CX HB.out hx104_2
          replace hx104_3 := CX HB.out hx104_3
          replace p104 := eq_true p104
          replace q104 := eq_true q104
          try go_wp2_with (first | ((with_reducible refine gate_dst (N := 6) rfl ?_); (try (refine gate_guard (by rfl) ?_; dsimp only)); refine box_event rfl (N := 6) rfl (cs := #[.int .i64 0, .int .i64 0, .int .i64 0, .int .i64 0]) (t := 108) BX ?_; intro gb105 hg w52 hbox hb; have BK105 := am (hbox); have GW105 := am (GH1 HB GE101.out hg); have GE105 := GW105; replace HB := am (below_step (K1 HB GE101.out) hb); have NB101_105 := am (NL BK101 hg); have NB105_101 := am (NG BK101 hg); replace BK101 := am (BB BK101 hb); clear hb hbox hg; have hnb53 := NB105_101.out; have hnc53 := NB101_105.out; obtain ⟨hcz54_0, hcz54_1, hcz54_2, hcz54_3, hfz54_0⟩ := y4 w52 BK105.out))
          have n0_ : Aside0 (((((w52.setCell ⟨gb105, 0, none⟩ (.int .i64 ((rd_T108 l1_1 x28_2).f0.f0))).setCell ⟨gb105, 1, none⟩ (.int .i64 ((rd_T108 l1_1 x28_2).f0.f1))).setCell ⟨gb105, 2, none⟩ (.int .i64 ((rd_T108 l1_1 x28_2).f0.f2))).setCell ⟨gb105, 3, none⟩ (.int .i64 ((rd_T108 l1_1 x28_2).f1))).heap[gb101]? = some (.cells #[.int .i64 a1_0, .slice (some ad104) l1_1.length c1_1] 46 (0, 0))) := ⟨by (with_reducible repeat (first | refine blk_drewN ?_ _ | refine blk_drew ?_ | refine blk_alloc ?_ _)); refine blk_far ?_ NB101_105.out _; (with_reducible repeat (first | refine blk_drewN ?_ _ | refine blk_drew ?_ | refine blk_alloc ?_ _)); refine blk_far ?_ NB101_105.out _; (with_reducible repeat (first | refine blk_drewN ?_ _ | refine blk_drew ?_ | refine blk_alloc ?_ _)); refine blk_far ?_ NB101_105.out _; (with_reducible repeat (first | refine blk_drewN ?_ _ | refine blk_drew ?_ | refine blk_alloc ?_ _)); refine blk_far ?_ NB101_105.out _; (with_reducible repeat (first | refine blk_drewN ?_ _ | refine blk_drew ?_ | refine blk_alloc ?_ _)); exact BK101.out⟩
          have n1_ : Aside0 (((((w52.setCell ⟨gb105, 0, none⟩ (.int .i64 ((rd_T108 l1_1 x28_2).f0.f0))).setCell ⟨gb105, 1, none⟩ (.int .i64 ((rd_T108 l1_1 x28_2).f0.f1))).setCell ⟨gb105, 2, none⟩ (.int .i64 ((rd_T108 l1_1 x28_2).f0.f2))).setCell ⟨gb105, 3, none⟩ (.int .i64 ((rd_T108 l1_1 x28_2).f1))).heap[gb105]? = some (.cells #[.int .i64 ((rd_T108 l1_1 x28_2).f0.f0), .int .i64 ((rd_T108 l1_1 x28_2).f0.f1), .int .i64 ((rd_T108 l1_1 x28_2).f0.f2), .int .i64 ((rd_T108 l1_1 x28_2).f1)] 108 (0, 0))) := ⟨by (with_reducible repeat (first | refine blk_drewN ?_ _ | refine blk_drew ?_ | refine blk_alloc ?_ _)); refine blk_put (cs := #[.int .i64 ((rd_T108 l1_1 x28_2).f0.f0), .int .i64 ((rd_T108 l1_1 x28_2).f0.f1), .int .i64 ((rd_T108 l1_1 x28_2).f0.f2), .int .i64 0]) ?_ 3 _ rfl; (with_reducible repeat (first | refine blk_drewN ?_ _ | refine blk_drew ?_ | refine blk_alloc ?_ _)); refine blk_put (cs := #[.int .i64 ((rd_T108 l1_1 x28_2).f0.f0), .int .i64 ((rd_T108 l1_1 x28_2).f0.f1), .int .i64 0, .int .i64 0]) ?_ 2 _ rfl; (with_reducible repeat (first | refine blk_drewN ?_ _ | refine blk_drew ?_ | refine blk_alloc ?_ _)); refine blk_put (cs := #[.int .i64 ((rd_T108 l1_1 x28_2).f0.f0), .int .i64 0, .int .i64 0, .int .i64 0]) ?_ 1 _ rfl; (with_reducible repeat (first | refine blk_drewN ?_ _ | refine blk_drew ?_ | refine blk_alloc ?_ _)); refine blk_put (cs := #[.int .i64 0, .int .i64 0, .int .i64 0, .int .i64 0]) ?_ 0 _ rfl; (with_reducible repeat (first | refine blk_drewN ?_ _ | refine blk_drew ?_ | refine blk_alloc ?_ _)); exact BK105.out⟩
          have n2_ : Aside0 (Below w.heap.size w ((((w52.setCell ⟨gb105, 0, none⟩ (.int .i64 ((rd_T108 l1_1 x28_2).f0.f0))).setCell ⟨gb105, 1, none⟩ (.int .i64 ((rd_T108 l1_1 x28_2).f0.f1))).setCell ⟨gb105, 2, none⟩ (.int .i64 ((rd_T108 l1_1 x28_2).f0.f2))).setCell ⟨gb105, 3, none⟩ (.int .i64 ((rd_T108 l1_1 x28_2).f1)))) := ⟨K2 HB GE101.out GE105.out⟩
          (try clear BK101)
          (try clear BK105)
          (try clear HB)
          generalize ((((w52.setCell ⟨gb105, 0, none⟩ (.int .i64 ((rd_T108 l1_1 x28_2).f0.f0))).setCell ⟨gb105, 1, none⟩ (.int .i64 ((rd_T108 l1_1 x28_2).f0.f1))).setCell ⟨gb105, 2, none⟩ (.int .i64 ((rd_T108 l1_1 x28_2).f0.f2))).setCell ⟨gb105, 3, none⟩ (.int .i64 ((rd_T108 l1_1 x28_2).f1))) = w55 at n0_ n1_ n2_ ⊢
          have BK101 := n0_
          have BK105 := n1_
          have HB := n2_
          clear n0_ n1_ n2_
          replace BK101 := am (blk_drew BK101.out)
          replace BK105 := am (blk_drew BK105.out)
          replace HB := am (below_drew1 HB.out)
          refine start_ (n := 21) (S := fun w' => de4 w' gb105 (.int .i64 ((rd_T108 l1_1 x28_2).f0.f0)) (.int .i64 ((rd_T108 l1_1 x28_2).f0.f1)) (.int .i64 ((rd_T108 l1_1 x28_2).f0.f2)) (.int .i64 ((rd_T108 l1_1 x28_2).f1))) (ds := []) (tf 0 21) (by kernel_rfl) rfl rfl ⟨z0 _ BK105.out, z1 _ BK105.out, z2 _ BK105.out, z3 _ BK105.out⟩ (fun hHeld => ?_); refine with_tabW impl_CacheOk.tab7 impl_CacheOk.bits7 (fun HT_ HW_ => ?_)
          generalize w55.drew = w56 at BK101 BK105 HB hHeld ⊢
          refine pv HT_ 0 34 (tf 1 20) ?_
          refine tk 1 (some 35) (tf 2 19) (take_ofW HT_.out HW_.out (by kernel_rfl)) hHeld ?_
          refine one_ (i := 2) (N := some 36) (tf 3 18) rfl rfl (one_of HT_.out (by kernel_rfl)) (by decide) (fun K hK => ?_)
          refine goes_ Try.func73 (by kernel_rfl) rfl #[.agg #[.int .i64 ((rd_T108 l1_1 x28_2).f0.f0), .int .i64 ((rd_T108 l1_1 x28_2).f0.f1), .int .i64 ((rd_T108 l1_1 x28_2).f0.f2)]] (by rfl) rfl rfl MT ?_
          with_reducible refine (impl_isCall.calls ((rd_T108 l1_1 x28_2).f0.f0) ((rd_T108 l1_1 x28_2).f0.f1) ((rd_T108 l1_1 x28_2).f0.f2) false _ A19.out).mono ?_
          rintro e w57 ⟨rfl, hb⟩
          refine ⟨_, rfl, ?_⟩
          replace BK101 := am (BB BK101 hb)
          replace BK105 := am (BB BK105 hb)
          replace HB := am (below_step (K2 HB GE101.out GE105.out) hb)
          (try clear hb)
          (try clear hb2)
          (try clear hk)
          (try clear hi)
          refine hK.out _ _ ⟨z0 _ BK105.out, z1 _ BK105.out, z2 _ BK105.out, z3 _ BK105.out⟩ (fun hHeld => ?_)
          clear hK K
          refine norm_ (a' := ?_) ?_ ?_
          rotate_left
          ·show Act.put _ (some 36) _ = _
           simp only [Act.put, List.setIfInBounds_toArray, List.set_cons_zero, List.set_cons_succ, i64_w, i32_w]
           rfl
          refine pv HT_ 3 37 (tf 4 17) ?_
          refine pv HT_ 4 38 (tf 5 16) ?_
          refine pw HT_ 5 39 (tf 6 15) ?_
          refine pw HT_ 6 40 (tf 7 14) ?_
          refine pw HT_ 7 41 (tf 8 13) ?_
          refine pw HT_ 8 42 (tf 9 12) ?_
          refine pw HT_ 9 43 (tf 10 11) ?_
          refine pw HT_ 10 44 (tf 11 10) ?_
          refine pw HT_ 11 45 (tf 12 9) ?_
          refine pv HT_ 12 46 (tf 13 8) ?_
          refine pv HT_ 13 47 (tf 14 7) ?_
          refine pw HT_ 14 48 (tf 15 6) ?_
          refine pw HT_ 15 49 (tf 16 5) ?_
          refine pw HT_ 16 50 (tf 17 4) ?_
          refine pw HT_ 17 51 (tf 18 3) ?_
          refine pw HT_ 18 52 (tf 19 2) ?_
          refine pw HT_ 19 53 (tf 20 1) ?_
          refine pv HT_ 20 54 (tf 21 0) ?_
          refine done_ (done_of HT_.out (by kernel_rfl)) ?_
          try go_wp2
          go_ret
          exact ⟨ER, K2 HB GE101.out GE105.out⟩
        ·rw [if_neg c18] at H
         exact absurd H (by simp)
       ·rw [if_neg c17] at H
        exact absurd H (by simp)
      ·rw [if_neg c16] at H
       have c16b0 : decide (x28_2 < (l1_1.length : Int)) = false := decide_eq_false c16
       clear c16
       obtain rfl := Option.some.inj H
       go_wp2
       go_ret
       exact ⟨ER, K1 HB GE101.out⟩
end Go.Proofs.Ytioghacieopbdaa.PAll
end
section
namespace Go.Proofs.Ytioghacieopbdaa.PAll
open Go.RowKit Go.Proofs.YtioghacieopbdaaW.PrintWords Go.Proofs.YtioghacieopbdaaW.PrintLast Go.Proofs.YtioghacieopbdaaW.PrintMore
attribute [local go_sem] max2_int min2_int max_two min_two max_three min_three max_four min_four   -- for this text's walks alone
set_option linter.unusedVariables false
set_option linter.unusedSimpArgs false
attribute [local go_sem high] eqA25
def impl_Cache_look.l0 : Nat → Int → List (S108) → List (S108) → Int → Int → Int → List (S108) → Int → Int → Int → Option (Int × (List (S108)) × Int)
 | 0, _, _, _, _, _, _, _, _, _, _ => none
 | k + 1, x8, x9, x20, x21, x22, x102000, x102001, x103000, x103001, x103002 => if x22 < x21 then (if 0 ≤ x22 then (if x22 < (x20.length : Int) then (if (!(((rd_T108 x20 x22).f0.f0) == x103000) || (!(((rd_T108 x20 x22).f0.f1) == x103001) || (!(((rd_T108 x20 x22).f0.f2) == x103002)))) = true then (if x9.length < 4398046511104 then (impl_Cache_look.l0 k x8 (x9 ++ [(⟨(⟨(rd_T108 x20 x22).f0.f0, (rd_T108 x20 x22).f0.f1, (rd_T108 x20 x22).f0.f2⟩ : S25), (rd_T108 x20 x22).f1⟩ : S108)]) x20 x21 (wrap64 (x22 + 1)) x102000 x102001 x103000 x103001 x103002) else (none)) else (impl_Cache_look.l0 k x8 x9 x20 x21 (wrap64 (x22 + 1)) x102000 x102001 x103000 x103001 x103002)) else (none)) else (none)) else (if 0 ≤ (mn (x9.length : Int) x102000) then (if (mn (x9.length : Int) x102000) ≤ (x9.length : Int) then ((slices_Clone_Seen.f (x9.take ((mn (x9.length : Int) x102000) : Int).toNat)).bind fun t117 => (some (x102000, t117, x8))) else (none)) else (none))
def impl_Cache_look.f (k : Nat) (a0_0 : Int) (l0_1 : List (S108)) (l1 : List (S34)) (a2_0 : Int) (a2_1 : Int) (a2_2 : Int) : Option (Int × (List (S108)) × Int) := (impl_first.f l1 a2_0 a2_1 a2_2).bind fun t104 => (impl_Cache_look.l0 k t104 (([(⟨(⟨a2_0, a2_1, a2_2⟩ : S25), t104⟩ : S108)] : List (S108))) l0_1 (l0_1.length : Int) 0 a0_0 l0_1 a2_0 a2_1 a2_2)
def impl_Cache_look.T9 : Bool × List (List Nat × List Nat) := (true, [([], []), ([0], [0]), ([], []), ([], []), ([3], [3]), ([], []), ([5], [5]), ([4, 6], [4, 6]), ([2, 7], [2, 7]), ([8], [8]), ([1, 9], [1, 9]), ([], []), ([10, 9, 0, 1, 2, 3, 4, 5, 6, 7, 8, 9, 10], [10]), ([11, 12, 0, 1, 2, 3, 4, 5, 6, 7, 8, 9, 10, 11, 12], [11])])
def impl_Cache_look.B9 : List Nat := [0, 1, 0, 0, 8, 0, 32, 120, 252, 508, 1023, 0, 2047, 8191]
theorem impl_Cache_look.tab9 : rtab .any (opsOf Try.f93 9) = impl_Cache_look.T9 := by kernel_rfl
theorem impl_Cache_look.bits9 : waitsOk impl_Cache_look.T9.2 impl_Cache_look.B9 = true := by kernel_rfl
set_option maxHeartbeats 8000000 in
set_option maxRecDepth 100000 in
theorem impl_Cache_look.calls (k : Nat) (a0_0 : Int) (A0_1 : Option Addr) (c0_1 : Nat) (l0_1 : List (S108)) (A1 : Option Addr) (c1 : Nat) (l1 : List (S34)) (a2_0 : Int) (a2_1 : Int) (a2_2 : Int) (r1 : Int) (r2 : List (S108)) (r3 : Int) (w : World) (hr0_1 : Kd.C k108 w A0_1 l0_1.length l0_1) (hc0_1 : l0_1.length ≤ c0_1) (hr1 : Kd.C k34 w A1 l1.length l1) (hc1 : l1.length ≤ c1) (h : impl_Cache_look.f k a0_0 l0_1 l1 a2_0 a2_1 a2_2 = some (r1, r2, r3)) :
  Calls Try.prog 93 #[.agg #[.int .i64 a0_0, .slice A0_1 l0_1.length c0_1], .slice A1 l1.length c1, .agg #[.int .i64 a2_0, .int .i64 a2_1, .int .i64 a2_2]] w fun e w' => ∃ v1_ : Value, e = .returned (.tuple #[.agg #[.int .i64 r1, v1_], .int .i64 r3]) ∧ Kd.R k108 108 w' w.heap.size (fun _ => True) v1_ r2 ∧ Below w.heap.size w w' := by
 have hu46 := Try.underlying46
 have hu25 := Try.underlying25
 have hu108 := Try.underlying108
 have HR0_1 := Aside0.mk hr0_1
 have HC0_1 := Aside0.mk hc0_1
 clear hr0_1 hc0_1
 have HR1 := Aside0.mk hr1
 have HC1 := Aside0.mk hc1
 clear hr1 hc1
 have HB := am (Below.refl w.heap.size w)
 have H : ((impl_first.f l1 a2_0 a2_1 a2_2).bind fun t104 => (impl_Cache_look.l0 k t104 (([(⟨(⟨a2_0, a2_1, a2_2⟩ : S25), t104⟩ : S108)] : List (S108))) l0_1 (l0_1.length : Int) 0 a0_0 l0_1 a2_0 a2_1 a2_2)) = some (r1, r2, r3) := h
 clear h
 replace H := Option.bind_eq_some_iff.mp H
 obtain ⟨t104, A40, H⟩ := H
 replace H : (impl_Cache_look.l0 k t104 (([(⟨(⟨a2_0, a2_1, a2_2⟩ : S25), t104⟩ : S108)] : List (S108))) l0_1 (l0_1.length : Int) 0 a0_0 l0_1 a2_0 a2_1 a2_2) = some (r1, r2, r3) := H
 have A4 := Aside0.mk A40
 clear A40
 obtain ⟨y105, hy105⟩ : ∃ y_ : List (S108), y_ = (([(⟨(⟨a2_0, a2_1, a2_2⟩ : S25), t104⟩ : S108)] : List (S108))) := ⟨_, rfl⟩
 replace H : (impl_Cache_look.l0 k t104 y105 l0_1 (l0_1.length : Int) 0 a0_0 l0_1 a2_0 a2_1 a2_2) = some (r1, r2, r3) := by first | (rw [hy105]; with_reducible exact H) | (have H2_ := (Option.bind_some _ _).symm.trans H; rw [hy105]; with_reducible exact H2_) | (have H2_ := (Option.bind_some _ _).symm.trans H; with_reducible exact H2_) | with_reducible exact H | (rw [hy105]; exact H) | exact H
 have Ny105 := Aside0.mk hy105
 clear hy105
 have H' := Aside0.mk H
 clear H
 go_enter Try.func93, Try.ntmps93
 go_wp2_with (first | ((with_reducible refine gate_dst (N := 3) rfl ?_); refine box_event rfl (N := 3) rfl (cs := #[.int .i64 a0_0, .slice A0_1 l0_1.length c0_1]) (t := 46) BX ?_; intro gb101 hg w5 hbox hb; have BK101 := am (hbox); have GW101 := am (GH HB hg); have GE101 := GW101; replace HB := am (below_step (KL HB) hb); clear hb hbox hg) | ((with_reducible refine gate_dst (N := 5) rfl ?_); refine box_event rfl (N := 5) rfl (cs := #[.int .i64 a2_0, .int .i64 a2_1, .int .i64 a2_2]) (t := 25) BX ?_; intro gb102 hg w6 hbox hb; have BK102 := am (hbox); have GW102 := am (GH1 HB GE101.out hg); have GE102 := GW102; replace HB := am (below_step (K1 HB GE101.out) hb); have NB101_102 := am (NL BK101 hg); have NB102_101 := am (NG BK101 hg); replace BK101 := am (BB BK101 hb); clear hb hbox hg) | ((with_reducible refine gate_dst (N := 6) rfl ?_); refine box_event rfl (N := 6) rfl (cs := #[.int .i64 0, .slice none 0 0]) (t := 46) BX ?_; intro gb103 hg w7 hbox hb; have BK103 := am (hbox); have GW103 := am (GH2 HB GE101.out GE102.out hg); have GE103 := GW103; replace HB := am (below_step (K2 HB GE101.out GE102.out) hb); have NB101_103 := am (NL BK101 hg); have NB103_101 := am (NG BK101 hg); replace BK101 := am (BB BK101 hb); have NB102_103 := am (NL BK102 hg); have NB103_102 := am (NG BK102 hg); replace BK102 := am (BB BK102 hb); clear hb hbox hg; have hnb8 := NB102_101.out; have hnc8 := NB101_102.out; have hnb9 := NB102_103.out; have hnc9 := NB103_102.out; obtain ⟨hcz10_0, hcz10_1, hcz10_2, hfz10_0⟩ := y3 w7 BK102.out) | ((with_reducible refine gate_callee (f := 74) rfl ?_); refine goesL_ (some 14) rfl rfl Try.func74 (by kernel_rfl) rfl #[.slice A1 l1.length c1, .agg #[.int .i64 a2_0, .int .i64 a2_1, .int .i64 a2_2]] rfl MT ?_; (with_reducible refine (impl_first.calls _ _ l1 a2_0 a2_1 a2_2 t104 _ ?side1 ?side2 A4.out).mono ?_); (case side1 => exact KC (Kd.C_below HR1.out HB.out)); (case side2 => exact HC1.out); rintro e w11 ⟨rfl, hb⟩; refine ⟨_, rfl, ?_⟩; replace BK101 := am (BB BK101 hb); replace BK102 := am (BB BK102 hb); replace BK103 := am (BB BK103 hb); replace HB := am (below_step (K3 HB GE101.out GE102.out GE103.out) hb); (try clear hb); (try clear hb2); (try clear hk); (try clear hi); obtain ⟨hcz12_0, hcz12_1, hcz12_2, hfz12_0⟩ := y3 w11 BK102.out) | ((with_reducible refine gate_dst (N := 18) rfl ?_); refine Kd.R_lit k108 _ 108 ?hg (N := 18) ?hd (xs := ([(⟨(⟨a2_0, a2_1, a2_2⟩ : S25), t104⟩ : S108)] : List (S108))) (inner := [.int .i64 a2_0, .int .i64 a2_1, .int .i64 a2_2, .int .i64 t104]) (ok := fun _ => True) (okp := fun _ => True) ?hr ?hp (fun _ hk => hk) trivial (Below.refl _ _) (Nat.le_refl _) (by simp) ?_; (case hd => rfl); (case hg => rfl); (case hr => first | (go_simp; done) | (go_simp; rfl)); (case hp => exact (Reps.c4 (show Kd.M k108 _ _ _ (⟨(⟨a2_0, a2_1, a2_2⟩ : S25), t104⟩ : S108) [.int .i64 a2_0, .int .i64 a2_1, .int .i64 a2_2, .int .i64 t104] from (k108_mkM _ _ _ (⟨(⟨a2_0, a2_1, a2_2⟩ : S25), t104⟩ : S108) )) (Reps.none _ _))); intro v106 w13 ho14 hb hg_ hnew_; clear hg_ hnew_; (first | rw [← Ny105.out] at ho14 | (simp only [Int.reduceToNat] at ho14; rw [← Ny105.out] at ho14)); have HO107 := am (Kd.R_lower ho14 (below_size (K3 HB GE101.out GE102.out GE103.out))); replace BK101 := am (BB BK101 hb); replace BK102 := am (BB BK102 hb); replace BK103 := am (BB BK103 hb); replace HB := am (below_step (K3 HB GE101.out GE102.out GE103.out) hb); clear hb ho14; have hnb15 := NB101_103.out; have hnc15 := NB103_101.out; obtain ⟨hcz16_0, hcz16_1, hfz16_0⟩ := y2 w13 BK101.out))
 go_loopg [9, 22] k (fun kq v9 v22 w' => ∃ (x9_1 : List (S108)) (x22_1 : Int), v22 = .int .i64 x22_1 ∧ Aside0 (impl_Cache_look.l0 kq t104 x9_1 l0_1 (l0_1.length : Int) x22_1 a0_0 l0_1 a2_0 a2_1 a2_2 = some (r1, r2, r3)) ∧ Aside0 (kq ≤ k) ∧ Aside0 (Kd.R k108 108 w' w.heap.size (fun _ => True) v9 x9_1) ∧ Aside0 (w'.heap[gb101]? = some (.cells #[.int .i64 a0_0, (.slice A0_1 l0_1.length c0_1)] 46 (0, 0))) ∧ Aside0 (w'.heap[gb102]? = some (.cells #[.int .i64 a2_0, .int .i64 a2_1, .int .i64 a2_2] 25 (0, 0))) ∧ Aside0 (w'.heap[gb103]? = some (.cells #[.int .i64 0, (.slice none 0 0)] 46 (0, 0))) ∧ Aside0 (Below w.heap.size w w'))
 case atStart => exact ⟨(y105), (0), (by first | rfl | (simp; done) | (simp [*]; done)), H', ⟨Nat.le_refl _⟩, ⟨KR HO107⟩, ⟨KB BK101⟩, ⟨KB BK102⟩, ⟨KB BK103⟩, ⟨K3 HB GE101.out GE102.out GE103.out⟩⟩
 case round =>
  clear H'
  try clear c1
  try clear p2
  try clear c4
  try clear c7
  try clear c8
  try clear c9
  try clear c15
  try clear hcz10_0
  try clear hcz10_1
  try clear hcz10_2
  try clear hcz12_0
  try clear hcz12_1
  try clear hcz12_2
  try clear hcz16_0
  try clear hcz16_1
  try clear hfz10_0
  try clear hfz12_0
  try clear hfz16_0
  obtain ⟨x9_1, x22_1, rfl, HA, HK1, HO_9, BK101, BK102, BK103, HB⟩ := hrel
  cases gk with
  | zero => exact absurd HA.out (by simp [impl_Cache_look.l0])
  | succ k1 =>
   have H := HA.out
   clear HA
   simp only [impl_Cache_look.l0] at H
   by_cases c17 : x22_1 < (l0_1.length : Int)
   ·rw [if_pos c17] at H
    have c17b0 : decide (x22_1 < (l0_1.length : Int)) = true := decide_eq_true c17
    clear c17
    by_cases c18 : 0 ≤ x22_1
    ·rw [if_pos c18] at H
     have c18b0 : decide (0 ≤ x22_1) = true := decide_eq_true c18
     clear c18
     by_cases c19 : x22_1 < (l0_1.length : Int)
     ·rw [if_pos c19] at H
      have c19b0 : decide (x22_1 < (l0_1.length : Int)) = true := decide_eq_true c19
      clear c19
      by_cases c20 : (!(((rd_T108 l0_1 x22_1).f0.f0) == a2_0) || (!(((rd_T108 l0_1 x22_1).f0.f1) == a2_1) || (!(((rd_T108 l0_1 x22_1).f0.f2) == a2_2)))) = true
      ·rw [if_pos c20] at H
       have c20b0 : (!(((rd_T108 l0_1 x22_1).f0.f0) == a2_0) || (!(((rd_T108 l0_1 x22_1).f0.f1) == a2_1) || (!(((rd_T108 l0_1 x22_1).f0.f2) == a2_2)))) = true := c20
       clear c20
       by_cases c21 : x9_1.length < 4398046511104
       ·rw [if_pos c21] at H
        have LMc21 := Aside0.mk c21
        clear c21
        obtain ⟨y110, hy110⟩ : ∃ y_ : List (S108), y_ = (x9_1 ++ [(⟨(⟨(rd_T108 l0_1 x22_1).f0.f0, (rd_T108 l0_1 x22_1).f0.f1, (rd_T108 l0_1 x22_1).f0.f2⟩ : S25), (rd_T108 l0_1 x22_1).f1⟩ : S108)]) := ⟨_, rfl⟩
        replace H : (impl_Cache_look.l0 k1 t104 y110 l0_1 (l0_1.length : Int) (wrap64 (x22_1 + 1)) a0_0 l0_1 a2_0 a2_1 a2_2) = some (r1, r2, r3) := by first | (rw [hy110]; with_reducible exact H) | (have H2_ := (Option.bind_some _ _).symm.trans H; rw [hy110]; with_reducible exact H2_) | (have H2_ := (Option.bind_some _ _).symm.trans H; with_reducible exact H2_) | with_reducible exact H | (rw [hy110]; exact H) | exact H
        have Ny110 := Aside0.mk hy110
        clear hy110
        have H' := Aside0.mk H
        clear H
        have p108 : 0 ≤ (x22_1 : Int) := OD
        have q108 : x22_1 < (l0_1.length : Int) := OD
        obtain ⟨ad108, e108, hx108_0, hx108_1, hx108_2, hx108_3⟩ := at_T108 HR0_1.out x22_1 p108 q108
        cases e108
        replace hx108_0 := CX HB.out hx108_0
        replace hx108_1 := CX HB.out hx108_1
        replace hx108_2 := CX HB.out hx108_2
        replace hx108_3 := CX HB.out hx108_3
        replace p108 := eq_true p108
        replace q108 := eq_true q108
        go_wp2_with (first | ((with_reducible refine gate_dst (N := 11) rfl ?_); refine box_event rfl (N := 11) rfl (cs := #[.int .i64 0, .int .i64 0, .int .i64 0, .int .i64 0]) (t := 108) BX ?_; intro gb109 hg w22 hbox hb; replace HO_9 := am (Kd.R_below (Kd.R_elderB (KR HO_9) gb109 (Nat.le_of_eq hg.symm)) hb); have BK109 := am (hbox); have GW109 := am (GH3 HB GE101.out GE102.out GE103.out hg); have GE109 := GW109; replace HB := am (below_step (K3 HB GE101.out GE102.out GE103.out) hb); have NB101_109 := am (NL BK101 hg); have NB109_101 := am (NG BK101 hg); replace BK101 := am (BB BK101 hb); have NB102_109 := am (NL BK102 hg); have NB109_102 := am (NG BK102 hg); replace BK102 := am (BB BK102 hb); have NB103_109 := am (NL BK103 hg); have NB109_103 := am (NG BK103 hg); replace BK103 := am (BB BK103 hb); clear hb hbox hg; have hnb23 := NB109_101.out; have hnc23 := NB101_109.out; have hnb24 := NB109_102.out; have hnc24 := NB102_109.out; have hnb25 := NB109_103.out; have hnc25 := NB103_109.out; obtain ⟨hcz26_0, hcz26_1, hcz26_2, hcz26_3, hfz26_0⟩ := y4 w22 BK109.out; have hnb27 := NB102_101.out; have hnc27 := NB101_102.out; have hnb28 := NB102_103.out; have hnc28 := NB103_102.out; obtain ⟨hcz29_0, hcz29_1, hcz29_2, hfz29_0⟩ := y3 w22 BK102.out) | ((with_reducible refine gate_builtin (b := .append) (xs := #[.tmp 30, .tmp 32]) rfl ?_); at_builtin; refine Kd.R_append k108 (w0 := w) w.heap.size rfl (.tmp 30) (.tmp 32) 44 108 (.agg #[(.int .i64 0), (.int .i64 0), (.int .i64 0), (.int .i64 0)]) 32 rfl Try.underlying44 info108 rfl (by decide) (by omega) u9 x9_1 (⟨(⟨(rd_T108 l0_1 x22_1).f0.f0, (rd_T108 l0_1 x22_1).f0.f1, (rd_T108 l0_1 x22_1).f0.f2⟩ : S25), (rd_T108 l0_1 x22_1).f1⟩ : S108) [.int .i64 ((rd_T108 l0_1 x22_1).f0.f0), .int .i64 ((rd_T108 l0_1 x22_1).f0.f1), .int .i64 ((rd_T108 l0_1 x22_1).f0.f2), .int .i64 ((rd_T108 l0_1 x22_1).f1)] (fun k_ => k_ ≠ gb109) (fun _ => False) rfl (by first | (go_simp; done) | (go_simp; rfl)) ?aP (fun _ hk => hk.elim) ?aF ?aO ?aB ?aS ?aL ?_; (case aP => exact k108_mkM _ _ _ (⟨(⟨(rd_T108 l0_1 x22_1).f0.f0, (rd_T108 l0_1 x22_1).f0.f1, (rd_T108 l0_1 x22_1).f0.f2⟩ : S25), (rd_T108 l0_1 x22_1).f1⟩ : S108)); (case aB => exact (K4 HB GE101.out GE102.out GE103.out GE109.out)); (case aF => exact (fun k_ hk => Kd.freshB (g := gb109) (o := .cells #[.int .i64 ((rd_T108 l0_1 x22_1).f0.f0), .int .i64 ((rd_T108 l0_1 x22_1).f0.f1), .int .i64 ((rd_T108 l0_1 x22_1).f0.f2), .int .i64 ((rd_T108 l0_1 x22_1).f1)] 108 (0, 0)) (by (with_reducible repeat (first | refine blk_drewN ?_ _ | refine blk_drew ?_ | refine blk_alloc ?_ _)); refine blk_put (cs := #[.int .i64 ((rd_T108 l0_1 x22_1).f0.f0), .int .i64 ((rd_T108 l0_1 x22_1).f0.f1), .int .i64 ((rd_T108 l0_1 x22_1).f0.f2), .int .i64 0]) ?_ 3 _ rfl; (with_reducible repeat (first | refine blk_drewN ?_ _ | refine blk_drew ?_ | refine blk_alloc ?_ _)); refine blk_put (cs := #[.int .i64 ((rd_T108 l0_1 x22_1).f0.f0), .int .i64 ((rd_T108 l0_1 x22_1).f0.f1), .int .i64 0, .int .i64 0]) ?_ 2 _ rfl; (with_reducible repeat (first | refine blk_drewN ?_ _ | refine blk_drew ?_ | refine blk_alloc ?_ _)); refine blk_put (cs := #[.int .i64 ((rd_T108 l0_1 x22_1).f0.f0), .int .i64 0, .int .i64 0, .int .i64 0]) ?_ 1 _ rfl; (with_reducible repeat (first | refine blk_drewN ?_ _ | refine blk_drew ?_ | refine blk_alloc ?_ _)); refine blk_put (cs := #[.int .i64 0, .int .i64 0, .int .i64 0, .int .i64 0]) ?_ 0 _ rfl; (with_reducible repeat (first | refine blk_drewN ?_ _ | refine blk_drew ?_ | refine blk_alloc ?_ _)); exact BK109.out) k_ hk)); (case aO => exact (by (with_reducible repeat (first | apply Kd.R_alloc | apply Kd.R_drewN | apply Kd.R_drew)); exact Kd.R_mono (Kd.R_far (p := ⟨gb109, 3, none⟩) (Kd.R_far (p := ⟨gb109, 2, none⟩) (Kd.R_far (p := ⟨gb109, 1, none⟩) (Kd.R_far (p := ⟨gb109, 0, none⟩) (Kd.R_mono HO_9.out (fun k_ hk => (⟨hk, hk.2⟩ : _ ∧ k_ ≠ gb109))) (fun _ hk => hk.2) (.int .i64 ((rd_T108 l0_1 x22_1).f0.f0))) (fun _ hk => hk.2) (.int .i64 ((rd_T108 l0_1 x22_1).f0.f1))) (fun _ hk => hk.2) (.int .i64 ((rd_T108 l0_1 x22_1).f0.f2))) (fun _ hk => hk.2) (.int .i64 ((rd_T108 l0_1 x22_1).f1))) (fun _ hk => hk.1.2))); (case aS => exact (below_size (K4 HB GE101.out GE102.out GE103.out GE109.out))); (case aL => have := LMc21.out; omega); intro v111 w30 ho hb hg hat; rw [← Ny110.out] at ho; replace BK101 := am (blk_grown (g := gb101) (o := .cells #[.int .i64 a0_0, .slice (some ad108) l0_1.length c0_1] 46 (0, 0)) (by (with_reducible repeat (first | refine blk_drewN ?_ _ | refine blk_drew ?_ | refine blk_alloc ?_ _)); refine blk_far ?_ NB101_109.out _; (with_reducible repeat (first | refine blk_drewN ?_ _ | refine blk_drew ?_ | refine blk_alloc ?_ _)); refine blk_far ?_ NB101_109.out _; (with_reducible repeat (first | refine blk_drewN ?_ _ | refine blk_drew ?_ | refine blk_alloc ?_ _)); refine blk_far ?_ NB101_109.out _; (with_reducible repeat (first | refine blk_drewN ?_ _ | refine blk_drew ?_ | refine blk_alloc ?_ _)); refine blk_far ?_ NB101_109.out _; (with_reducible repeat (first | refine blk_drewN ?_ _ | refine blk_drew ?_ | refine blk_alloc ?_ _)); exact BK101.out) hg (Kd.R_ne HO_9.out BK101.out (by decide))); replace BK102 := am (blk_grown (g := gb102) (o := .cells #[.int .i64 a2_0, .int .i64 a2_1, .int .i64 a2_2] 25 (0, 0)) (by (with_reducible repeat (first | refine blk_drewN ?_ _ | refine blk_drew ?_ | refine blk_alloc ?_ _)); refine blk_far ?_ NB102_109.out _; (with_reducible repeat (first | refine blk_drewN ?_ _ | refine blk_drew ?_ | refine blk_alloc ?_ _)); refine blk_far ?_ NB102_109.out _; (with_reducible repeat (first | refine blk_drewN ?_ _ | refine blk_drew ?_ | refine blk_alloc ?_ _)); refine blk_far ?_ NB102_109.out _; (with_reducible repeat (first | refine blk_drewN ?_ _ | refine blk_drew ?_ | refine blk_alloc ?_ _)); refine blk_far ?_ NB102_109.out _; (with_reducible repeat (first | refine blk_drewN ?_ _ | refine blk_drew ?_ | refine blk_alloc ?_ _)); exact BK102.out) hg (Kd.R_ne HO_9.out BK102.out (by decide))); replace BK103 := am (blk_grown (g := gb103) (o := .cells #[.int .i64 0, .slice none 0 0] 46 (0, 0)) (by (with_reducible repeat (first | refine blk_drewN ?_ _ | refine blk_drew ?_ | refine blk_alloc ?_ _)); refine blk_far ?_ NB103_109.out _; (with_reducible repeat (first | refine blk_drewN ?_ _ | refine blk_drew ?_ | refine blk_alloc ?_ _)); refine blk_far ?_ NB103_109.out _; (with_reducible repeat (first | refine blk_drewN ?_ _ | refine blk_drew ?_ | refine blk_alloc ?_ _)); refine blk_far ?_ NB103_109.out _; (with_reducible repeat (first | refine blk_drewN ?_ _ | refine blk_drew ?_ | refine blk_alloc ?_ _)); refine blk_far ?_ NB103_109.out _; (with_reducible repeat (first | refine blk_drewN ?_ _ | refine blk_drew ?_ | refine blk_alloc ?_ _)); exact BK103.out) hg (Kd.R_ne HO_9.out BK103.out (by decide))); replace BK109 := am (blk_grown (g := gb109) (o := .cells #[.int .i64 ((rd_T108 l0_1 x22_1).f0.f0), .int .i64 ((rd_T108 l0_1 x22_1).f0.f1), .int .i64 ((rd_T108 l0_1 x22_1).f0.f2), .int .i64 ((rd_T108 l0_1 x22_1).f1)] 108 (0, 0)) (by (with_reducible repeat (first | refine blk_drewN ?_ _ | refine blk_drew ?_ | refine blk_alloc ?_ _)); refine blk_put (cs := #[.int .i64 ((rd_T108 l0_1 x22_1).f0.f0), .int .i64 ((rd_T108 l0_1 x22_1).f0.f1), .int .i64 ((rd_T108 l0_1 x22_1).f0.f2), .int .i64 0]) ?_ 3 _ rfl; (with_reducible repeat (first | refine blk_drewN ?_ _ | refine blk_drew ?_ | refine blk_alloc ?_ _)); refine blk_put (cs := #[.int .i64 ((rd_T108 l0_1 x22_1).f0.f0), .int .i64 ((rd_T108 l0_1 x22_1).f0.f1), .int .i64 0, .int .i64 0]) ?_ 2 _ rfl; (with_reducible repeat (first | refine blk_drewN ?_ _ | refine blk_drew ?_ | refine blk_alloc ?_ _)); refine blk_put (cs := #[.int .i64 ((rd_T108 l0_1 x22_1).f0.f0), .int .i64 0, .int .i64 0, .int .i64 0]) ?_ 1 _ rfl; (with_reducible repeat (first | refine blk_drewN ?_ _ | refine blk_drew ?_ | refine blk_alloc ?_ _)); refine blk_put (cs := #[.int .i64 0, .int .i64 0, .int .i64 0, .int .i64 0]) ?_ 0 _ rfl; (with_reducible repeat (first | refine blk_drewN ?_ _ | refine blk_drew ?_ | refine blk_alloc ?_ _)); exact BK109.out) hg (Kd.R_away HO_9.out (fun _ hk => hk.2))); replace HB := am (hb); have HO112 := am (ho); clear HO_9; clear ho hb hg hat))
        go_roundg k1
        case measure => have := HK1.out; omega
        case rel => exact ⟨(y110), (wrap64 (x22_1 + 1)), (by first | rfl | (simp; done) | (simp [*]; done)), H', ⟨by have := HK1.out; omega⟩, ⟨by (with_reducible repeat (first | apply Kd.R_alloc | apply Kd.R_drewN | apply Kd.R_drew)); exact Kd.R_mono HO112.out (fun _ hk => trivial)⟩, ⟨KB BK101⟩, ⟨KB BK102⟩, ⟨KB BK103⟩, ⟨K4 HB GE101.out GE102.out GE103.out GE109.out⟩⟩
       ·rw [if_neg c21] at H
        exact absurd H (by simp)
      ·rw [if_neg c20] at H
       have c20b0 : (!(((rd_T108 l0_1 x22_1).f0.f0) == a2_0) || (!(((rd_T108 l0_1 x22_1).f0.f1) == a2_1) || (!(((rd_T108 l0_1 x22_1).f0.f2) == a2_2)))) = false := by simpa using c20
       clear c20
       have H' := Aside0.mk H
       clear H
       have p108 : 0 ≤ (x22_1 : Int) := OD
       have q108 : x22_1 < (l0_1.length : Int) := OD
       obtain ⟨ad108, e108, hx108_0, hx108_1, hx108_2, hx108_3⟩ := at_T108 HR0_1.out x22_1 p108 q108
       cases e108
       replace hx108_0 := CX HB.out hx108_0
       replace hx108_1 := CX HB.out hx108_1
       replace hx108_2 := CX HB.out hx108_2
       replace hx108_3 := CX HB.out hx108_3
       replace p108 := eq_true p108
       replace q108 := eq_true q108
       go_wp2_with (first | ((with_reducible refine gate_dst (N := 11) rfl ?_); refine box_event rfl (N := 11) rfl (cs := #[.int .i64 0, .int .i64 0, .int .i64 0, .int .i64 0]) (t := 108) BX ?_; intro gb109 hg w31 hbox hb; replace HO_9 := am (Kd.R_below (Kd.R_elderB (KR HO_9) gb109 (Nat.le_of_eq hg.symm)) hb); have BK109 := am (hbox); have GW109 := am (GH3 HB GE101.out GE102.out GE103.out hg); have GE109 := GW109; replace HB := am (below_step (K3 HB GE101.out GE102.out GE103.out) hb); have NB101_109 := am (NL BK101 hg); have NB109_101 := am (NG BK101 hg); replace BK101 := am (BB BK101 hb); have NB102_109 := am (NL BK102 hg); have NB109_102 := am (NG BK102 hg); replace BK102 := am (BB BK102 hb); have NB103_109 := am (NL BK103 hg); have NB109_103 := am (NG BK103 hg); replace BK103 := am (BB BK103 hb); clear hb hbox hg; have hnb32 := NB109_101.out; have hnc32 := NB101_109.out; have hnb33 := NB109_102.out; have hnc33 := NB102_109.out; have hnb34 := NB109_103.out; have hnc34 := NB103_109.out; obtain ⟨hcz35_0, hcz35_1, hcz35_2, hcz35_3, hfz35_0⟩ := y4 w31 BK109.out; have hnb36 := NB102_101.out; have hnc36 := NB101_102.out; have hnb37 := NB102_103.out; have hnc37 := NB103_102.out; obtain ⟨hcz38_0, hcz38_1, hcz38_2, hfz38_0⟩ := y3 w31 BK102.out))
       go_roundg k1
       case measure => have := HK1.out; omega
       case rel => exact ⟨(x9_1), (wrap64 (x22_1 + 1)), (by first | rfl | (simp; done) | (simp [*]; done)), H', ⟨by have := HK1.out; omega⟩, ⟨by (with_reducible repeat (first | apply Kd.R_alloc | apply Kd.R_drewN | apply Kd.R_drew)); exact Kd.R_mono (Kd.R_far (p := ⟨gb109, 3, none⟩) (Kd.R_far (p := ⟨gb109, 2, none⟩) (Kd.R_far (p := ⟨gb109, 1, none⟩) (Kd.R_far (p := ⟨gb109, 0, none⟩) (Kd.R_mono HO_9.out (fun k_ hk => (⟨hk, hk.2⟩ : _ ∧ k_ ≠ gb109))) (fun _ hk => hk.2) (.int .i64 ((rd_T108 l0_1 x22_1).f0.f0))) (fun _ hk => hk.2) (.int .i64 ((rd_T108 l0_1 x22_1).f0.f1))) (fun _ hk => hk.2) (.int .i64 ((rd_T108 l0_1 x22_1).f0.f2))) (fun _ hk => hk.2) (.int .i64 ((rd_T108 l0_1 x22_1).f1))) (fun _ hk => trivial)⟩, ⟨by (with_reducible repeat (first | refine blk_drewN ?_ _ | refine blk_drew ?_ | refine blk_alloc ?_ _)); refine blk_far ?_ NB101_109.out _; (with_reducible repeat (first | refine blk_drewN ?_ _ | refine blk_drew ?_ | refine blk_alloc ?_ _)); refine blk_far ?_ NB101_109.out _; (with_reducible repeat (first | refine blk_drewN ?_ _ | refine blk_drew ?_ | refine blk_alloc ?_ _)); refine blk_far ?_ NB101_109.out _; (with_reducible repeat (first | refine blk_drewN ?_ _ | refine blk_drew ?_ | refine blk_alloc ?_ _)); refine blk_far ?_ NB101_109.out _; (with_reducible repeat (first | refine blk_drewN ?_ _ | refine blk_drew ?_ | refine blk_alloc ?_ _)); exact BK101.out⟩, ⟨by (with_reducible repeat (first | refine blk_drewN ?_ _ | refine blk_drew ?_ | refine blk_alloc ?_ _)); refine blk_far ?_ NB102_109.out _; (with_reducible repeat (first | refine blk_drewN ?_ _ | refine blk_drew ?_ | refine blk_alloc ?_ _)); refine blk_far ?_ NB102_109.out _; (with_reducible repeat (first | refine blk_drewN ?_ _ | refine blk_drew ?_ | refine blk_alloc ?_ _)); refine blk_far ?_ NB102_109.out _; (with_reducible repeat (first | refine blk_drewN ?_ _ | refine blk_drew ?_ | refine blk_alloc ?_ _)); refine blk_far ?_ NB102_109.out _; (with_reducible repeat (first | refine blk_drewN ?_ _ | refine blk_drew ?_ | refine blk_alloc ?_ _)); exact BK102.out⟩, ⟨by (with_reducible repeat (first | refine blk_drewN ?_ _ | refine blk_drew ?_ | refine blk_alloc ?_ _)); refine blk_far ?_ NB103_109.out _; (with_reducible repeat (first | refine blk_drewN ?_ _ | refine blk_drew ?_ | refine blk_alloc ?_ _)); refine blk_far ?_ NB103_109.out _; (with_reducible repeat (first | refine blk_drewN ?_ _ | refine blk_drew ?_ | refine blk_alloc ?_ _)); refine blk_far ?_ NB103_109.out _; (with_reducible repeat (first | refine blk_drewN ?_ _ | refine blk_drew ?_ | refine blk_alloc ?_ _)); refine blk_far ?_ NB103_109.out _; (with_reducible repeat (first | refine blk_drewN ?_ _ | refine blk_drew ?_ | refine blk_alloc ?_ _)); exact BK103.out⟩, ⟨K4 HB GE101.out GE102.out GE103.out GE109.out⟩⟩
     ·rw [if_neg c19] at H
      exact absurd H (by simp)
    ·rw [if_neg c18] at H
     exact absurd H (by simp)
   ·rw [if_neg c17] at H
    have c17b0 : decide (x22_1 < (l0_1.length : Int)) = false := decide_eq_false c17
    clear c17
    obtain ⟨ji39, hji39⟩ : ∃ j_ : Int, (mn (x9_1.length : Int) a0_0) = j_ := ⟨_, rfl⟩
    replace H : (if 0 ≤ (ji39) then (if (ji39) ≤ (x9_1.length : Int) then ((slices_Clone_Seen.f (x9_1.take ((ji39) : Int).toNat)).bind fun t117 => (some (a0_0, t117, t104))) else (none)) else (none)) = some (r1, r2, r3) := by first | (rw [hji39] at H; exact H) | (simp only [hji39] at H ⊢; exact H)
    have hji39_ : (if a0_0 < (x9_1.length : Int) then a0_0 else (x9_1.length : Int)) = ji39 := hji39
    by_cases c40 : 0 ≤ (ji39)
    ·rw [if_pos c40] at H
     have c40b0 := eq_true c40
     have c40b1 : decide (0 ≤ (ji39)) = true := decide_eq_true c40
     clear c40
     by_cases c41 : (ji39) ≤ (x9_1.length : Int)
     ·rw [if_pos c41] at H
      have c41b0 := eq_true c41
      have c41b1 : decide ((ji39) ≤ (x9_1.length : Int)) = true := decide_eq_true c41
      clear c41
      obtain ⟨y113, hy113⟩ : ∃ y_ : List (S108), y_ = (x9_1.take ((ji39) : Int).toNat) := ⟨_, rfl⟩
      replace H : ((slices_Clone_Seen.f y113).bind fun t117 => (some (a0_0, t117, t104))) = some (r1, r2, r3) := by first | (rw [hy113]; with_reducible exact H) | (have H2_ := (Option.bind_some _ _).symm.trans H; rw [hy113]; with_reducible exact H2_) | (have H2_ := (Option.bind_some _ _).symm.trans H; with_reducible exact H2_) | with_reducible exact H | (rw [hy113]; exact H) | exact H
      have Ny113 := Aside0.mk hy113
      clear hy113
      replace H := Option.bind_eq_some_iff.mp H
      obtain ⟨t117, A420, H⟩ := H
      replace H : (some (a0_0, t117, t104)) = some (r1, r2, r3) := H
      have A42 := Aside0.mk A420
      clear A420
      simp only [Option.some.injEq, Prod.mk.injEq] at H
      obtain ⟨rfl, rfl, rfl⟩ := H
      try go_wp2
      replace HO_9 := am (Kd.R_drew HO_9.out)
      replace BK101 := am (blk_drew BK101.out)
      replace BK102 := am (blk_drew BK102.out)
      replace BK103 := am (blk_drew BK103.out)
      replace HB := am (below_drew1 HB.out)
      obtain ⟨Ao44, co44, eo44⟩ := Kd.R_slice HO_9.out
      (first | subst eo44 | (injection eo44 with f1_ f2_ f3_; have f4_ := f1_.symm; have f5_ := f3_.symm; clear f1_ f2_ f3_; subst f4_; subst f5_))
      have q45 : ((ji39) : Int) ≤ ((x9_1.length : Int) : Int) := OD
      obtain ⟨i045, hi045, _, hsz45, _⟩ := info_parts info108
      have hroom45 : x9_1.length ≤ co44 := (Kd.R_reads' HO_9.out).2.1
      have hC45 : Kd.C k108 _ Ao44 x9_1.length x9_1 := (Kd.R_reads' HO_9.out).2.2
      have hcut45 := cut_to (P := Try.prog) 44 108 .i64 Try.underlying44 hi045 Ao44 x9_1.length co44 (ji39) (OD) q45 hroom45
      have hr45 := Kd.C_take (m := ((ji39) : Int).toNat) hC45 (by omega)
      have hy45 : y113.length = ((ji39) : Int).toNat := (by rw [Ny113.out, List.length_take]; omega)
      rw [← Ny113.out] at hr45
      rw [← hy45] at hcut45
      have HR116 := Aside0.mk hr45
      have HC116 := am (show y113.length ≤ co44 from by omega)
      clear hr45 hC45 hroom45 hi045 hsz45
      have KY45 := Aside0.mk hy45
      clear hy45
      have KL45 := am (show ((ji39) : Int).toNat ≤ x9_1.length from by omega)
      replace q45 := eq_true q45
      refine start_ (n := 14) (S := fun w' => de2 w' gb101 (.int .i64 a0_0) (.slice A0_1 l0_1.length c0_1)) (ds := []) (tf 0 14) (by kernel_rfl) rfl rfl ⟨z0 _ BK101.out, z1 _ BK101.out⟩ (fun hHeld => ?_); refine with_tabW impl_Cache_look.tab9 impl_Cache_look.bits9 (fun HT_ HW_ => ?_)
      generalize wr.drew = w43 at HO_9 BK101 BK102 BK103 HB HR116 hHeld ⊢
      refine pv HT_ 0 35 (tf 1 13) ?_
      refine pv HT_ 2 37 (tr [1, 1, 1, 11]) ?_
      refine pv HT_ 3 38 (tr [1, 1, 2, 10]) ?_
      refine pv HT_ 4 39 (tr [1, 1, 3, 9]) ?_
      refine pv HT_ 5 40 (tr [1, 1, 4, 8]) ?_
      refine pv HT_ 11 46 (tr [1, 1, 4, 5, 1, 2]) ?_
      refine tk 1 (some 36) (tr [6, 5, 1, 2]) (take_ofW HT_.out HW_.out (by kernel_rfl)) hHeld ?_
      refine tk 6 (some 41) (tr [7, 4, 1, 2]) (take_ofW HT_.out HW_.out (by kernel_rfl)) hHeld ?_
      refine pv HT_ 7 42 (tr [8, 3, 1, 2]) ?_
      refine pv HT_ 8 43 (tr [9, 2, 1, 2]) ?_
      refine one_ (i := 9) (N := some 44) (tr [10, 1, 1, 2]) rfl rfl (one_of HT_.out (by kernel_rfl)) (by decide) (fun K hK => ?_)
      refine goes_ Try.func92 (by kernel_rfl) rfl #[.slice Ao44 y113.length co44] (by rfl) rfl rfl MT ?_
      with_reducible refine (slices_Clone_Seen.calls _ _ y113 t117 _ ?side1 ?side2 A42.out).mono ?_
      (case side1 => repeat (first | exact (by repeat (first | (with_reducible exact HR116.out) | (with_reducible refine Kd.C_alloc ?_ _) | (with_reducible refine Kd.C_drewN ?_ _) | (with_reducible refine Kd.C_drew ?_) | exact HR116.out)) | (with_reducible refine Kd.C_alloc ?_ _) | (with_reducible refine Kd.C_drewN ?_ _) | (with_reducible refine Kd.C_drew ?_)))
      (case side2 => exact HC116.out)
      rintro e w46 ⟨v118, rfl, ho0, hb⟩
      refine ⟨_, rfl, ?_⟩
      have HO119 := am (Kd.R_lower (Kd.R_new' ho0 (Kd.R_lt (KR HO_9))) (below_size (K3 HB GE101.out GE102.out GE103.out)))
      replace HO_9 := am (Kd.R_elder' (KR HO_9) (Kd.R_base ho0) hb)
      replace BK101 := am (BB BK101 hb)
      replace BK102 := am (BB BK102 hb)
      replace BK103 := am (BB BK103 hb)
      replace HR116 := am (Kd.C_below (by repeat (first | (with_reducible exact HR116.out) | (with_reducible refine Kd.C_alloc ?_ _) | (with_reducible refine Kd.C_drewN ?_ _) | (with_reducible refine Kd.C_drew ?_) | exact HR116.out)) hb)
      replace HB := am (below_step (K3 HB GE101.out GE102.out GE103.out) hb)
      (try clear hb)
      (try clear hb2)
      (try clear hk)
      (try clear hi)
      (try clear ho0)
      obtain ⟨Ao47, co47, eo47⟩ := Kd.R_slice HO119.out
      (first | subst eo47 | (injection eo47 with f1_ f2_ f3_; have f4_ := f1_.symm; have f5_ := f3_.symm; clear f1_ f2_ f3_; subst f4_; subst f5_))
      refine hK.out _ _ ⟨z0 _ BK101.out, z1 _ BK101.out⟩ (fun hHeld => ?_)
      clear hK K
      refine norm_ (a' := ?_) ?_ ?_
      rotate_left
      ·show Act.put _ (some 44) _ = _
       simp only [Act.put, List.setIfInBounds_toArray, List.set_cons_zero, List.set_cons_succ, i64_w, i32_w]
       rfl
      refine pv HT_ 10 45 (tf 12 2) ?_
      refine one_ (i := 12) (N := none) (tf 13 1) rfl rfl (one_of HT_.out (by kernel_rfl)) (by decide) (fun K hK => ?_)
      have hs48 : w46.cell? ⟨gb103, 0, none⟩ = some (.int .i64 0) := z0 _ BK103.out
      have hfs48 := blk_frozen BK103.out 0
      have hns48_0 := NB101_103.out
      have hns48_1 := NB102_103.out
      have hms48_0 := NB103_101.out
      have hms48_1 := NB103_102.out
      have hs49 : w46.cell? ⟨gb103, 1, none⟩ = some (.slice none 0 0) := z1 _ BK103.out
      have hfs49 := blk_frozen BK103.out 1
      have hns49_0 := NB101_103.out
      have hns49_1 := NB102_103.out
      have hms49_0 := NB103_101.out
      have hms49_1 := NB103_102.out
      refine skip_ (w1 := ?_) (by rfl) rfl ?_ ?_
      rotate_left
      ·go_simp
       rfl
      refine hK.out _ _ ⟨((cell_far (p := ⟨gb103, _, none⟩) NB101_103.out _).trans (((cell_far (p := ⟨gb103, _, none⟩) NB101_103.out _).trans (hHeld.1)))), ((cell_far (p := ⟨gb103, _, none⟩) NB101_103.out _).trans (((cell_far (p := ⟨gb103, _, none⟩) NB101_103.out _).trans (hHeld.2))))⟩ (fun hHeld => ?_)
      clear hK K
      refine pv HT_ 13 7 (tf 14 0) ?_
      refine done_ (done_of HT_.out (by kernel_rfl)) ?_
      try go_wp2
      refine bodyPost_ret (results_ct rfl _ _ gb103 46 #[.int .i64 a0_0, .slice Ao47 t117.length co47] (0, 0) _ rfl (by (with_reducible repeat (first | refine blk_drewN ?_ _ | refine blk_drew ?_ | refine blk_alloc ?_ _)); refine blk_put (cs := #[.int .i64 a0_0, .slice none 0 0]) ?_ 1 _ rfl; (with_reducible repeat (first | refine blk_drewN ?_ _ | refine blk_drew ?_ | refine blk_alloc ?_ _)); refine blk_put (cs := #[.int .i64 0, .slice none 0 0]) ?_ 0 _ rfl; (with_reducible repeat (first | refine blk_drewN ?_ _ | refine blk_drew ?_ | refine blk_alloc ?_ _)); exact BK103.out) Try.underlying46 rfl (by kernel_rfl)) rfl ?_
      exact ⟨_, by first | rfl | (simp [errW_none, errW_some] <;> rfl) | (simp only [← hji39]; first | rfl | (simp [errW_none, errW_some] <;> rfl)) | (simp [*, errW_none, errW_some] <;> rfl), by (with_reducible repeat (first | apply Kd.R_alloc | apply Kd.R_drewN | apply Kd.R_drew)); exact Kd.R_mono (Kd.R_far (p := ⟨gb103, 1, none⟩) (Kd.R_far (p := ⟨gb103, 0, none⟩) (Kd.R_types HO119.out BK103.out (by decide)) (fun _ hk => hk.2) (.int .i64 a0_0)) (fun _ hk => hk.2) (.slice Ao47 t117.length co47)) (fun _ hk => trivial), K3 HB GE101.out GE102.out GE103.out⟩
     ·rw [if_neg c41] at H
      exact absurd H (by simp)
    ·rw [if_neg c40] at H
     exact absurd H (by simp)
end Go.Proofs.Ytioghacieopbdaa.PAll
end
section
namespace Go.Proofs.Ytioghacieopbdaa.PAll
open Go.RowKit Go.Proofs.YtioghacieopbdaaW.PrintWords Go.Proofs.YtioghacieopbdaaW.PrintLast Go.Proofs.YtioghacieopbdaaW.PrintMore
attribute [local go_sem] max2_int min2_int max_two min_two max_three min_three max_four min_four   -- for this text's walks alone
set_option linter.unusedVariables false
set_option linter.unusedSimpArgs false
def impl_CacheFind.f (k : Nat) (l0 : List (S34)) (a1_0 : Int) (l1_1 : List (S108)) (a2_0 : Int) (a2_1 : Int) (a2_2 : Int) : Option (Int × (List (S108)) × Int) := (impl_CacheOk.f k l0 a1_0 l1_1).bind fun t104 => (if t104 = true then ((impl_isCall.f a2_0 a2_1 a2_2).bind fun t105 => (if t105 = true then ((impl_Cache_look.f k a1_0 l1_1 l0 a2_0 a2_1 a2_2).bind fun bt106 => (some (bt106.1, bt106.2.1, bt106.2.2))) else ((slices_Clone_Seen.f l1_1).bind fun t111 => (some (a1_0, t111, (-1)))))) else (some (0, ([] : List (S108)), (-1))))
def impl_CacheFind.T4 : Bool × List (List Nat × List Nat) := (true, [([], []), ([0], [0]), ([], []), ([2], [2]), ([3], [3]), ([1, 4], [1, 4]), ([5, 4, 0, 1, 2, 3, 4, 5], [5]), ([6, 0, 1, 2, 3, 4, 5, 6], [])])
def impl_CacheFind.B4 : List Nat := [0, 1, 0, 4, 12, 31, 63, 127]
theorem impl_CacheFind.tab4 : rtab .any (opsOf Try.f30 4) = impl_CacheFind.T4 := by kernel_rfl
theorem impl_CacheFind.bits4 : waitsOk impl_CacheFind.T4.2 impl_CacheFind.B4 = true := by kernel_rfl
set_option maxHeartbeats 8000000 in
set_option maxRecDepth 100000 in
theorem impl_CacheFind.calls (k : Nat) (A0 : Option Addr) (c0 : Nat) (l0 : List (S34)) (a1_0 : Int) (A1_1 : Option Addr) (c1_1 : Nat) (l1_1 : List (S108)) (a2_0 : Int) (a2_1 : Int) (a2_2 : Int) (r1 : Int) (r2 : List (S108)) (r3 : Int) (w : World) (hr0 : Kd.C k34 w A0 l0.length l0) (hc0 : l0.length ≤ c0) (hr1_1 : Kd.C k108 w A1_1 l1_1.length l1_1) (hc1_1 : l1_1.length ≤ c1_1) (h : impl_CacheFind.f k l0 a1_0 l1_1 a2_0 a2_1 a2_2 = some (r1, r2, r3)) :
  Calls Try.prog 30 #[.slice A0 l0.length c0, .agg #[.int .i64 a1_0, .slice A1_1 l1_1.length c1_1], .agg #[.int .i64 a2_0, .int .i64 a2_1, .int .i64 a2_2]] w fun e w' => ∃ v1_ : Value, e = .returned (.tuple #[.agg #[.int .i64 r1, v1_], .int .i64 r3]) ∧ Kd.R k108 108 w' w.heap.size (fun _ => True) v1_ r2 ∧ Below w.heap.size w w' := by
 have hu46 := Try.underlying46
 have hu25 := Try.underlying25
 have HR0 := Aside0.mk hr0
 have HC0 := Aside0.mk hc0
 clear hr0 hc0
 have HR1_1 := Aside0.mk hr1_1
 have HC1_1 := Aside0.mk hc1_1
 clear hr1_1 hc1_1
 have HB := am (Below.refl w.heap.size w)
 have H : ((impl_CacheOk.f k l0 a1_0 l1_1).bind fun t104 => (if t104 = true then ((impl_isCall.f a2_0 a2_1 a2_2).bind fun t105 => (if t105 = true then ((impl_Cache_look.f k a1_0 l1_1 l0 a2_0 a2_1 a2_2).bind fun bt106 => (some (bt106.1, bt106.2.1, bt106.2.2))) else ((slices_Clone_Seen.f l1_1).bind fun t111 => (some (a1_0, t111, (-1)))))) else (some (0, ([] : List (S108)), (-1))))) = some (r1, r2, r3) := h
 clear h
 replace H := Option.bind_eq_some_iff.mp H
 obtain ⟨t104, A40, H⟩ := H
 replace H : (if t104 = true then ((impl_isCall.f a2_0 a2_1 a2_2).bind fun t105 => (if t105 = true then ((impl_Cache_look.f k a1_0 l1_1 l0 a2_0 a2_1 a2_2).bind fun bt106 => (some (bt106.1, bt106.2.1, bt106.2.2))) else ((slices_Clone_Seen.f l1_1).bind fun t111 => (some (a1_0, t111, (-1)))))) else (some (0, ([] : List (S108)), (-1)))) = some (r1, r2, r3) := H
 have A4 := Aside0.mk A40
 clear A40
 by_cases c5 : t104 = true
 ·subst c5
  have H1 : ((impl_isCall.f a2_0 a2_1 a2_2).bind fun t105 => (if t105 = true then ((impl_Cache_look.f k a1_0 l1_1 l0 a2_0 a2_1 a2_2).bind fun bt106 => (some (bt106.1, bt106.2.1, bt106.2.2))) else ((slices_Clone_Seen.f l1_1).bind fun t111 => (some (a1_0, t111, (-1)))))) = some (r1, r2, r3) := by rw [if_pos rfl] at H; exact H
  clear H
  have H := H1
  clear H1
  replace H := Option.bind_eq_some_iff.mp H
  obtain ⟨t105, A60, H⟩ := H
  replace H : (if t105 = true then ((impl_Cache_look.f k a1_0 l1_1 l0 a2_0 a2_1 a2_2).bind fun bt106 => (some (bt106.1, bt106.2.1, bt106.2.2))) else ((slices_Clone_Seen.f l1_1).bind fun t111 => (some (a1_0, t111, (-1))))) = some (r1, r2, r3) := H
  have A6 := Aside0.mk A60
  clear A60
  by_cases c7 : t105 = true
  ·subst c7
   have H1 : ((impl_Cache_look.f k a1_0 l1_1 l0 a2_0 a2_1 a2_2).bind fun bt106 => (some (bt106.1, bt106.2.1, bt106.2.2))) = some (r1, r2, r3) := by rw [if_pos rfl] at H; exact H
   clear H
   have H := H1
   clear H1
   replace H := Option.bind_eq_some_iff.mp H
   obtain ⟨⟨t106, t107, t110⟩, A80, H⟩ := H
   replace H : (some (t106, t107, t110)) = some (r1, r2, r3) := H
   have A8 := Aside0.mk A80
   clear A80
   simp only [Option.some.injEq, Prod.mk.injEq] at H
   obtain ⟨rfl, rfl, rfl⟩ := H
   go_enter Try.func30, Try.ntmps30
   go_wp2_with (first | ((with_reducible refine gate_dst (N := 4) rfl ?_); refine box_event rfl (N := 4) rfl (cs := #[.int .i64 a1_0, .slice A1_1 l1_1.length c1_1]) (t := 46) BX ?_; intro gb101 hg w9 hbox hb; have BK101 := am (hbox); have GW101 := am (GH HB hg); have GE101 := GW101; replace HB := am (below_step (KL HB) hb); clear hb hbox hg) | ((with_reducible refine gate_dst (N := 5) rfl ?_); refine box_event rfl (N := 5) rfl (cs := #[.int .i64 a2_0, .int .i64 a2_1, .int .i64 a2_2]) (t := 25) BX ?_; intro gb102 hg w10 hbox hb; have BK102 := am (hbox); have GW102 := am (GH1 HB GE101.out hg); have GE102 := GW102; replace HB := am (below_step (K1 HB GE101.out) hb); have NB101_102 := am (NL BK101 hg); have NB102_101 := am (NG BK101 hg); replace BK101 := am (BB BK101 hb); clear hb hbox hg) | ((with_reducible refine gate_dst (N := 6) rfl ?_); refine box_event rfl (N := 6) rfl (cs := #[.int .i64 0, .slice none 0 0]) (t := 46) BX ?_; intro gb103 hg w11 hbox hb; have BK103 := am (hbox); have GW103 := am (GH2 HB GE101.out GE102.out hg); have GE103 := GW103; replace HB := am (below_step (K2 HB GE101.out GE102.out) hb); have NB101_103 := am (NL BK101 hg); have NB103_101 := am (NG BK101 hg); replace BK101 := am (BB BK101 hb); have NB102_103 := am (NL BK102 hg); have NB103_102 := am (NG BK102 hg); replace BK102 := am (BB BK102 hb); clear hb hbox hg; have hnb12 := NB101_102.out; have hnc12 := NB102_101.out; have hnb13 := NB101_103.out; have hnc13 := NB103_101.out; obtain ⟨hcz14_0, hcz14_1, hfz14_0⟩ := y2 w11 BK101.out) | ((with_reducible refine gate_callee (f := 26) rfl ?_); refine goesL_ (some 10) rfl rfl Try.func26 (by kernel_rfl) rfl #[.slice A0 l0.length c0, .agg #[.int .i64 a1_0, .slice A1_1 l1_1.length c1_1]] rfl MT ?_; (with_reducible refine (impl_CacheOk.calls k _ _ l0 a1_0 _ _ l1_1 true _ ?side1 ?side2 ?side3 ?side4 A4.out).mono ?_); (case side1 => exact KC (Kd.C_below HR0.out HB.out)); (case side2 => exact HC0.out); (case side3 => exact KC (Kd.C_below HR1_1.out HB.out)); (case side4 => exact HC1_1.out); rintro e w15 ⟨rfl, hb⟩; refine ⟨_, rfl, ?_⟩; replace BK101 := am (BB BK101 hb); replace BK102 := am (BB BK102 hb); replace BK103 := am (BB BK103 hb); replace HB := am (below_step (K3 HB GE101.out GE102.out GE103.out) hb); (try clear hb); (try clear hb2); (try clear hk); (try clear hi); have hnb16 := NB102_103.out; have hnc16 := NB103_102.out; obtain ⟨hcz17_0, hcz17_1, hcz17_2, hfz17_0⟩ := y3 w15 BK102.out) | ((with_reducible refine gate_callee (f := 73) rfl ?_); refine goesL_ (some 14) rfl rfl Try.func73 (by kernel_rfl) rfl #[.agg #[.int .i64 a2_0, .int .i64 a2_1, .int .i64 a2_2]] rfl MT ?_; (with_reducible refine (impl_isCall.calls a2_0 a2_1 a2_2 true _ A6.out).mono ?_); rintro e w18 ⟨rfl, hb⟩; refine ⟨_, rfl, ?_⟩; replace BK101 := am (BB BK101 hb); replace BK102 := am (BB BK102 hb); replace BK103 := am (BB BK103 hb); replace HB := am (below_step (K3 HB GE101.out GE102.out GE103.out) hb); (try clear hb); (try clear hb2); (try clear hk); (try clear hi); obtain ⟨hcz19_0, hcz19_1, hfz19_0⟩ := y2 w18 BK101.out; obtain ⟨hcz20_0, hcz20_1, hcz20_2, hfz20_0⟩ := y3 w18 BK102.out) | ((with_reducible refine gate_callee (f := 93) rfl ?_); refine goesL_ (some 25) rfl rfl Try.func93 (by kernel_rfl) rfl #[.agg #[.int .i64 a1_0, .slice A1_1 l1_1.length c1_1], .slice A0 l0.length c0, .agg #[.int .i64 a2_0, .int .i64 a2_1, .int .i64 a2_2]] rfl MT ?_; (with_reducible refine (impl_Cache_look.calls k a1_0 _ _ l1_1 _ _ l0 a2_0 a2_1 a2_2 t106 t107 t110 _ ?side1 ?side2 ?side3 ?side4 A8.out).mono ?_); (case side1 => exact KC (Kd.C_below HR1_1.out HB.out)); (case side2 => exact HC1_1.out); (case side3 => exact KC (Kd.C_below HR0.out HB.out)); (case side4 => exact HC0.out); rintro e w21 ⟨v108, rfl, ho0, hb⟩; refine ⟨_, rfl, ?_⟩; have HO109 := am (Kd.R_lower ho0 (below_size (K3 HB GE101.out GE102.out GE103.out))); replace BK101 := am (BB BK101 hb); replace BK102 := am (BB BK102 hb); replace BK103 := am (BB BK103 hb); replace HB := am (below_step (K3 HB GE101.out GE102.out GE103.out) hb); (try clear hb); (try clear hb2); (try clear hk); (try clear hi); (try clear ho0); obtain ⟨hcz22_0, hcz22_1, hfz22_0⟩ := y2 w21 BK103.out; obtain ⟨Ao23, co23, eo23⟩ := Kd.R_slice HO109.out; subst eo23))
   refine bodyPost_ret (results_ct rfl _ _ gb103 46 #[.int .i64 t106, .slice Ao23 t107.length co23] (0, 0) _ rfl (by (with_reducible repeat (first | refine blk_drewN ?_ _ | refine blk_drew ?_ | refine blk_alloc ?_ _)); refine blk_put (cs := #[.int .i64 t106, .slice none 0 0]) ?_ 1 _ rfl; (with_reducible repeat (first | refine blk_drewN ?_ _ | refine blk_drew ?_ | refine blk_alloc ?_ _)); refine blk_put (cs := #[.int .i64 0, .slice none 0 0]) ?_ 0 _ rfl; (with_reducible repeat (first | refine blk_drewN ?_ _ | refine blk_drew ?_ | refine blk_alloc ?_ _)); exact BK103.out) Try.underlying46 rfl (by kernel_rfl)) rfl ?_
   exact ⟨_, ER, by (with_reducible repeat (first | apply Kd.R_alloc | apply Kd.R_drewN | apply Kd.R_drew)); exact Kd.R_mono (Kd.R_far (p := ⟨gb103, 1, none⟩) (Kd.R_far (p := ⟨gb103, 0, none⟩) (Kd.R_types HO109.out BK103.out (by decide)) (fun _ hk => hk.2) (.int .i64 t106)) (fun _ hk => hk.2) (.slice Ao23 t107.length co23)) (fun _ hk => trivial), K3 HB GE101.out GE102.out GE103.out⟩
  ·replace c7 := Bool.eq_false_iff.mpr c7
   subst c7
   have H1 : ((slices_Clone_Seen.f l1_1).bind fun t111 => (some (a1_0, t111, (-1)))) = some (r1, r2, r3) := by rw [if_neg (show ¬ (false = true) by decide)] at H; exact H
   clear H
   have H := H1
   clear H1
   replace H := Option.bind_eq_some_iff.mp H
   obtain ⟨t111, A240, H⟩ := H
   replace H : (some (a1_0, t111, (-1))) = some (r1, r2, r3) := H
   have A24 := Aside0.mk A240
   clear A240
   simp only [Option.some.injEq, Prod.mk.injEq] at H
   obtain ⟨rfl, rfl, rfl⟩ := H
   go_enter Try.func30, Try.ntmps30
   try go_wp2_with (first | ((with_reducible refine gate_dst (N := 4) rfl ?_); refine box_event rfl (N := 4) rfl (cs := #[.int .i64 a1_0, .slice A1_1 l1_1.length c1_1]) (t := 46) BX ?_; intro gb101 hg w25 hbox hb; have BK101 := am (hbox); have GW101 := am (GH HB hg); have GE101 := GW101; replace HB := am (below_step (KL HB) hb); clear hb hbox hg) | ((with_reducible refine gate_dst (N := 5) rfl ?_); refine box_event rfl (N := 5) rfl (cs := #[.int .i64 a2_0, .int .i64 a2_1, .int .i64 a2_2]) (t := 25) BX ?_; intro gb102 hg w26 hbox hb; have BK102 := am (hbox); have GW102 := am (GH1 HB GE101.out hg); have GE102 := GW102; replace HB := am (below_step (K1 HB GE101.out) hb); have NB101_102 := am (NL BK101 hg); have NB102_101 := am (NG BK101 hg); replace BK101 := am (BB BK101 hb); clear hb hbox hg) | ((with_reducible refine gate_dst (N := 6) rfl ?_); refine box_event rfl (N := 6) rfl (cs := #[.int .i64 0, .slice none 0 0]) (t := 46) BX ?_; intro gb103 hg w27 hbox hb; have BK103 := am (hbox); have GW103 := am (GH2 HB GE101.out GE102.out hg); have GE103 := GW103; replace HB := am (below_step (K2 HB GE101.out GE102.out) hb); have NB101_103 := am (NL BK101 hg); have NB103_101 := am (NG BK101 hg); replace BK101 := am (BB BK101 hb); have NB102_103 := am (NL BK102 hg); have NB103_102 := am (NG BK102 hg); replace BK102 := am (BB BK102 hb); clear hb hbox hg; have hnb28 := NB101_102.out; have hnc28 := NB102_101.out; have hnb29 := NB101_103.out; have hnc29 := NB103_101.out; obtain ⟨hcz30_0, hcz30_1, hfz30_0⟩ := y2 w27 BK101.out) | ((with_reducible refine gate_callee (f := 26) rfl ?_); refine goesL_ (some 10) rfl rfl Try.func26 (by kernel_rfl) rfl #[.slice A0 l0.length c0, .agg #[.int .i64 a1_0, .slice A1_1 l1_1.length c1_1]] rfl MT ?_; (with_reducible refine (impl_CacheOk.calls k _ _ l0 a1_0 _ _ l1_1 true _ ?side1 ?side2 ?side3 ?side4 A4.out).mono ?_); (case side1 => exact KC (Kd.C_below HR0.out HB.out)); (case side2 => exact HC0.out); (case side3 => exact KC (Kd.C_below HR1_1.out HB.out)); (case side4 => exact HC1_1.out); rintro e w31 ⟨rfl, hb⟩; refine ⟨_, rfl, ?_⟩; replace BK101 := am (BB BK101 hb); replace BK102 := am (BB BK102 hb); replace BK103 := am (BB BK103 hb); replace HB := am (below_step (K3 HB GE101.out GE102.out GE103.out) hb); (try clear hb); (try clear hb2); (try clear hk); (try clear hi); have hnb32 := NB102_103.out; have hnc32 := NB103_102.out; obtain ⟨hcz33_0, hcz33_1, hcz33_2, hfz33_0⟩ := y3 w31 BK102.out) | ((with_reducible refine gate_callee (f := 73) rfl ?_); refine goesL_ (some 14) rfl rfl Try.func73 (by kernel_rfl) rfl #[.agg #[.int .i64 a2_0, .int .i64 a2_1, .int .i64 a2_2]] rfl MT ?_; (with_reducible refine (impl_isCall.calls a2_0 a2_1 a2_2 false _ A6.out).mono ?_); rintro e w34 ⟨rfl, hb⟩; refine ⟨_, rfl, ?_⟩; replace BK101 := am (BB BK101 hb); replace BK102 := am (BB BK102 hb); replace BK103 := am (BB BK103 hb); replace HB := am (below_step (K3 HB GE101.out GE102.out GE103.out) hb); (try clear hb); (try clear hb2); (try clear hk); (try clear hi)))
   replace BK101 := am (blk_drew BK101.out)
   replace BK102 := am (blk_drew BK102.out)
   replace BK103 := am (blk_drew BK103.out)
   replace HB := am (below_drew1 HB.out)
   refine start_ (n := 8) (S := fun w' => de2 w' gb101 (.int .i64 a1_0) (.slice A1_1 l1_1.length c1_1)) (ds := []) (tf 0 8) (by kernel_rfl) rfl rfl ⟨z0 _ BK101.out, z1 _ BK101.out⟩ (fun hHeld => ?_); refine with_tabW impl_CacheFind.tab4 impl_CacheFind.bits4 (fun HT_ HW_ => ?_)
   generalize w34.drew = w35 at BK101 BK102 BK103 HB hHeld ⊢
   refine pv HT_ 0 16 (tf 1 7) ?_
   refine pv HT_ 2 18 (tr [1, 1, 1, 5]) ?_
   refine tk 1 (some 17) (tf 3 5) (take_ofW HT_.out HW_.out (by kernel_rfl)) hHeld ?_
   refine tk 3 (some 19) (tf 4 4) (take_ofW HT_.out HW_.out (by kernel_rfl)) hHeld ?_
   refine one_ (i := 4) (N := some 20) (tf 5 3) rfl rfl (one_of HT_.out (by kernel_rfl)) (by decide) (fun K hK => ?_)
   refine goes_ Try.func92 (by kernel_rfl) rfl #[.slice A1_1 l1_1.length c1_1] (by rfl) rfl rfl MT ?_
   with_reducible refine (slices_Clone_Seen.calls _ _ l1_1 t111 _ ?side1 ?side2 A24.out).mono ?_
   (case side1 => exact KC (Kd.C_below HR1_1.out HB.out))
   (case side2 => exact HC1_1.out)
   rintro e w36 ⟨v112, rfl, ho0, hb⟩
   refine ⟨_, rfl, ?_⟩
   have HO113 := am (Kd.R_lower ho0 (below_size (K3 HB GE101.out GE102.out GE103.out)))
   replace BK101 := am (BB BK101 hb)
   replace BK102 := am (BB BK102 hb)
   replace BK103 := am (BB BK103 hb)
   replace HB := am (below_step (K3 HB GE101.out GE102.out GE103.out) hb)
   (try clear hb)
   (try clear hb2)
   (try clear hk)
   (try clear hi)
   (try clear ho0)
   obtain ⟨Ao37, co37, eo37⟩ := Kd.R_slice HO113.out
   (first | subst eo37 | (injection eo37 with f1_ f2_ f3_; have f4_ := f1_.symm; have f5_ := f3_.symm; clear f1_ f2_ f3_; subst f4_; subst f5_))
   refine hK.out _ _ ⟨z0 _ BK101.out, z1 _ BK101.out⟩ (fun hHeld => ?_)
   clear hK K
   refine norm_ (a' := ?_) ?_ ?_
   rotate_left
   ·show Act.put _ (some 20) _ = _
    simp only [Act.put, List.setIfInBounds_toArray, List.set_cons_zero, List.set_cons_succ, i64_w, i32_w]
    rfl
   refine pv HT_ 5 21 (tf 6 2) ?_
   refine one_ (i := 6) (N := none) (tf 7 1) rfl rfl (one_of HT_.out (by kernel_rfl)) (by decide) (fun K hK => ?_)
   have hs38 : w36.cell? ⟨gb103, 0, none⟩ = some (.int .i64 0) := z0 _ BK103.out
   have hfs38 := blk_frozen BK103.out 0
   have hns38_0 := NB101_103.out
   have hns38_1 := NB102_103.out
   have hms38_0 := NB103_101.out
   have hms38_1 := NB103_102.out
   have hs39 : w36.cell? ⟨gb103, 1, none⟩ = some (.slice none 0 0) := z1 _ BK103.out
   have hfs39 := blk_frozen BK103.out 1
   have hns39_0 := NB101_103.out
   have hns39_1 := NB102_103.out
   have hms39_0 := NB103_101.out
   have hms39_1 := NB103_102.out
   refine skip_ (w1 := ?_) (by rfl) rfl ?_ ?_
   rotate_left
   ·go_simp
    rfl
   refine hK.out _ _ ⟨((cell_far (p := ⟨gb103, _, none⟩) NB101_103.out _).trans (((cell_far (p := ⟨gb103, _, none⟩) NB101_103.out _).trans (hHeld.1)))), ((cell_far (p := ⟨gb103, _, none⟩) NB101_103.out _).trans (((cell_far (p := ⟨gb103, _, none⟩) NB101_103.out _).trans (hHeld.2))))⟩ (fun hHeld => ?_)
   clear hK K
   refine pv HT_ 7 7 (tf 8 0) ?_
   refine done_ (done_of HT_.out (by kernel_rfl)) ?_
   try go_wp2
   refine bodyPost_ret (results_ct rfl _ _ gb103 46 #[.int .i64 a1_0, .slice Ao37 t111.length co37] (0, 0) _ rfl (by (with_reducible repeat (first | refine blk_drewN ?_ _ | refine blk_drew ?_ | refine blk_alloc ?_ _)); refine blk_put (cs := #[.int .i64 a1_0, .slice none 0 0]) ?_ 1 _ rfl; (with_reducible repeat (first | refine blk_drewN ?_ _ | refine blk_drew ?_ | refine blk_alloc ?_ _)); refine blk_put (cs := #[.int .i64 0, .slice none 0 0]) ?_ 0 _ rfl; (with_reducible repeat (first | refine blk_drewN ?_ _ | refine blk_drew ?_ | refine blk_alloc ?_ _)); exact BK103.out) Try.underlying46 rfl (by kernel_rfl)) rfl ?_
   exact ⟨_, ER, by (with_reducible repeat (first | apply Kd.R_alloc | apply Kd.R_drewN | apply Kd.R_drew)); exact Kd.R_mono (Kd.R_far (p := ⟨gb103, 1, none⟩) (Kd.R_far (p := ⟨gb103, 0, none⟩) (Kd.R_types HO113.out BK103.out (by decide)) (fun _ hk => hk.2) (.int .i64 a1_0)) (fun _ hk => hk.2) (.slice Ao37 t111.length co37)) (fun _ hk => trivial), K3 HB GE101.out GE102.out GE103.out⟩
 ·replace c5 := Bool.eq_false_iff.mpr c5
  subst c5
  have H1 : (some (0, ([] : List (S108)), (-1))) = some (r1, r2, r3) := by rw [if_neg (show ¬ (false = true) by decide)] at H; exact H
  clear H
  have H := H1
  clear H1
  simp only [Option.some.injEq, Prod.mk.injEq] at H
  obtain ⟨rfl, rfl, rfl⟩ := H
  go_enter Try.func30, Try.ntmps30
  go_wp2_with (first | ((with_reducible refine gate_dst (N := 4) rfl ?_); refine box_event rfl (N := 4) rfl (cs := #[.int .i64 a1_0, .slice A1_1 l1_1.length c1_1]) (t := 46) BX ?_; intro gb101 hg w40 hbox hb; have BK101 := am (hbox); have GW101 := am (GH HB hg); have GE101 := GW101; replace HB := am (below_step (KL HB) hb); clear hb hbox hg) | ((with_reducible refine gate_dst (N := 5) rfl ?_); refine box_event rfl (N := 5) rfl (cs := #[.int .i64 a2_0, .int .i64 a2_1, .int .i64 a2_2]) (t := 25) BX ?_; intro gb102 hg w41 hbox hb; have BK102 := am (hbox); have GW102 := am (GH1 HB GE101.out hg); have GE102 := GW102; replace HB := am (below_step (K1 HB GE101.out) hb); have NB101_102 := am (NL BK101 hg); have NB102_101 := am (NG BK101 hg); replace BK101 := am (BB BK101 hb); clear hb hbox hg) | ((with_reducible refine gate_dst (N := 6) rfl ?_); refine box_event rfl (N := 6) rfl (cs := #[.int .i64 0, .slice none 0 0]) (t := 46) BX ?_; intro gb103 hg w42 hbox hb; have BK103 := am (hbox); have GW103 := am (GH2 HB GE101.out GE102.out hg); have GE103 := GW103; replace HB := am (below_step (K2 HB GE101.out GE102.out) hb); have NB101_103 := am (NL BK101 hg); have NB103_101 := am (NG BK101 hg); replace BK101 := am (BB BK101 hb); have NB102_103 := am (NL BK102 hg); have NB103_102 := am (NG BK102 hg); replace BK102 := am (BB BK102 hb); clear hb hbox hg; have hnb43 := NB101_102.out; have hnc43 := NB102_101.out; have hnb44 := NB101_103.out; have hnc44 := NB103_101.out; obtain ⟨hcz45_0, hcz45_1, hfz45_0⟩ := y2 w42 BK101.out) | ((with_reducible refine gate_callee (f := 26) rfl ?_); refine goesL_ (some 10) rfl rfl Try.func26 (by kernel_rfl) rfl #[.slice A0 l0.length c0, .agg #[.int .i64 a1_0, .slice A1_1 l1_1.length c1_1]] rfl MT ?_; (with_reducible refine (impl_CacheOk.calls k _ _ l0 a1_0 _ _ l1_1 false _ ?side1 ?side2 ?side3 ?side4 A4.out).mono ?_); (case side1 => exact KC (Kd.C_below HR0.out HB.out)); (case side2 => exact HC0.out); (case side3 => exact KC (Kd.C_below HR1_1.out HB.out)); (case side4 => exact HC1_1.out); rintro e w46 ⟨rfl, hb⟩; refine ⟨_, rfl, ?_⟩; replace BK101 := am (BB BK101 hb); replace BK102 := am (BB BK102 hb); replace BK103 := am (BB BK103 hb); replace HB := am (below_step (K3 HB GE101.out GE102.out GE103.out) hb); (try clear hb); (try clear hb2); (try clear hk); (try clear hi); have hnb47 := NB103_102.out; have hnc47 := NB102_103.out; obtain ⟨hcz48_0, hcz48_1, hfz48_0⟩ := y2 w46 BK103.out))
  refine bodyPost_ret (results_ct rfl _ _ gb103 46 #[.int .i64 0, .slice none 0 0] (0, 0) _ rfl (by (with_reducible repeat (first | refine blk_drewN ?_ _ | refine blk_drew ?_ | refine blk_alloc ?_ _)); refine blk_put (cs := #[.int .i64 0, .slice none 0 0]) ?_ 1 _ rfl; (with_reducible repeat (first | refine blk_drewN ?_ _ | refine blk_drew ?_ | refine blk_alloc ?_ _)); refine blk_put (cs := #[.int .i64 0, .slice none 0 0]) ?_ 0 _ rfl; (with_reducible repeat (first | refine blk_drewN ?_ _ | refine blk_drew ?_ | refine blk_alloc ?_ _)); exact BK103.out) Try.underlying46 rfl (by kernel_rfl)) rfl ?_
  exact ⟨_, ER, by first | exact Kd.R_nil _ _ _ _ _ | exact Kd.N_nil _ _ _ _ _ | exact Kd.V_nil _ _ _ _ _ | exact Kd.Q_nil _ _ _ _ _ | exact Kd.S_nil _ _ _ _ _, K3 HB GE101.out GE102.out GE103.out⟩
end Go.Proofs.Ytioghacieopbdaa.PAll
end
