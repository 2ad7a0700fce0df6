/- Contracts of the functions that the statement reaches, printed by a program out of the translation and joined with the plain laws. -/
import Derived.WalkKit
import Derived.Shelf.Abstract
import Derived.Test.YtmanlcakdcoekaaCFnExactWaysTo3
import Derived.Test.YtmanlcakdcoekaaCFnExactWaysTo4
import Derived.Test.YtmanlcakdcoekaaCFnExactWaysTo6
section
namespace Go.Proofs.Ytmanlcakdcoekaa.PAll
open Go.RowKit Go.Proofs.YtmanlcakdcoekaaW.PrintWords Go.Proofs.YtmanlcakdcoekaaW.PrintLast Go.Proofs.YtmanlcakdcoekaaW.PrintMore
attribute [local go_sem] max2_int min2_int max_two min_two max_three min_three max_four min_four   -- for this text's walks alone
set_option linter.unusedVariables false
set_option linter.unusedSimpArgs false
def impl_blocksOk.bad (x : S40) : Option Bool := (impl_BlockOk.f x.f0 x.f1).bind fun b => some (!b)
def impl_blocksOk.f (l0 : List S40) : Option (Bool) := if (l0.length : Int) ≤ 64 then (anyO impl_blocksOk.bad l0).bind fun b => some (!b) else some false
set_option maxHeartbeats 4000000 in
set_option maxRecDepth 100000 in
theorem impl_blocksOk.one (W : World) (x : S40) (b : Bool) (h : impl_blocksOk.bad x = some b) :
  Calls Try.prog 91 #[.agg #[.int .i64 x.f0, .int .i64 x.f1]] W fun e w' => e = .returned (.bool b) ∧ Below W.heap.size W w' := by
 simp only [impl_blocksOk.bad, Option.bind_eq_some_iff] at h
 obtain ⟨c, hc, h⟩ := h
 obtain rfl := Option.some.inj h
 have HC := Aside0.mk hc
 clear hc h
 have hu := Try.underlying40
 go_enter Try.func91, Try.ntmps91
 go_wp2_with (go_at_call 68; refine (impl_BlockOk.calls x.f0 x.f1 c _ HC.out).mono ?_; rintro e w' ⟨rfl, hb⟩)
 go_ret
 exact ⟨rfl, ((Below.refl _ _).alloc (Nat.le_refl _) _).trans (hb.mono (by simp))⟩
end Go.Proofs.Ytmanlcakdcoekaa.PAll
end
