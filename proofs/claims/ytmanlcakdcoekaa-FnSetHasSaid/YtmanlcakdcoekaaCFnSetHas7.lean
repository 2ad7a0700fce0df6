/- Contracts of the functions that the statement reaches, printed by a program out of the translation and joined with the plain laws. -/
import Derived.WalkKit
import Derived.Shelf.Abstract
import Derived.Test.YtmanlcakdcoekaaCFnSetHas3
import Derived.Test.YtmanlcakdcoekaaCFnSetHas4
import Derived.Test.YtmanlcakdcoekaaCFnSetHas5
import Derived.Test.YtmanlcakdcoekaaCFnSetHas6
section
namespace Go.Proofs.Ytmanlcakdcoekaa.PAll
open Go.RowKit Go.Proofs.YtmanlcakdcoekaaW.PrintWords Go.Proofs.YtmanlcakdcoekaaW.PrintLast Go.Proofs.YtmanlcakdcoekaaW.PrintMore
attribute [local go_sem] max2_int min2_int max_two min_two max_three min_three max_four min_four   -- for this text's walks alone
set_option linter.unusedVariables false
set_option linter.unusedSimpArgs false
def impl_blocksOk.bad (x : S40) : Option Bool := (impl_BlockOk.f x.f0 x.f1).bind fun b => some (!b)
def impl_blocksOk.f (l0 : List S40) : Option (Bool) := if (l0.length : Int) ≤ 64 then (anyO impl_blocksOk.bad l0).bind fun b => some (!b) else some false
set_option maxHeartbeats 4000000 in
set_option maxRecDepth 100000 in
theorem impl_blocksOk.one (W : World) (x : S40) (b : Bool) (h : impl_blocksOk.bad x = some b) :
  Calls Try.prog 91 #[.agg #[.int .i64 x.f0, .int .i64 x.f1]] W fun e w' => e = .returned (.bool b) ∧ Below W.heap.size W w' := by
 simp only [impl_blocksOk.bad, Option.bind_eq_some_iff] at h
 obtain ⟨c, hc, h⟩ := h
 obtain rfl := Option.some.inj h
 have HC := Aside0.mk hc
 clear hc h
 have hu := Try.underlying40
 go_enter Try.func91, Try.ntmps91
 go_wp2_with (go_at_call 68; refine (impl_BlockOk.calls x.f0 x.f1 c _ HC.out).mono ?_; rintro e w' ⟨rfl, hb⟩)
 go_ret
 exact ⟨rfl, ((Below.refl _ _).alloc (Nat.le_refl _) _).trans (hb.mono (by simp))⟩
set_option maxHeartbeats 4000000 in
set_option maxRecDepth 100000 in
theorem impl_blocksOk.calls (A0 : Option Addr) (c0 : Nat) (l0 : List (S40)) (r : Bool) (w : World) (hr0 : Kd.C k40 w A0 l0.length l0) (hc0 : l0.length ≤ c0) (h : impl_blocksOk.f l0 = some r) :
  Calls Try.prog 50 #[.slice A0 l0.length c0] w fun e w' => e = .returned (.bool r) ∧ Below w.heap.size w w' := by
 have hm := hr0.2.1
 have eg := enters_of Try.func91 (by kernel_rfl) rfl
 unfold impl_blocksOk.f at h
 by_cases c : (l0.length : Int) ≤ 64
 ·rw [if_pos c, Option.bind_eq_some_iff] at h
  obtain ⟨b, hb, h⟩ := h
  obtain rfl := Option.some.inj h
  have HC := am (impl_Block_55.gen impl_blocksOk.bad 91 #[] eg A0 c0 l0 b w hr0 (fun W x b _ hB hx => (impl_blocksOk.one W x b hx).mono fun e w' ⟨he, hw⟩ => ⟨he, hB.trans (hw.mono hB.size)⟩) hb)
  clear hr0 hc0 hb h
  have cb : decide ((l0.length : Int) ≤ 64) = true := decide_eq_true c
  go_enter Try.func50, Try.ntmps50
  go_wp2_with (go_at_call 55; refine HC.out.mono ?_; rintro e w' ⟨rfl, hb⟩)
  go_ret
  exact ⟨rfl, hb⟩
 ·rw [if_neg c] at h
  obtain rfl := Option.some.inj h
  clear hr0 hc0
  have cb : decide ((l0.length : Int) ≤ 64) = false := decide_eq_false c
  go_enter Try.func50, Try.ntmps50
  go_wp2
  go_ret
  exact ⟨rfl, Below.refl _ _⟩
end Go.Proofs.Ytmanlcakdcoekaa.PAll
end
