/- Contracts of the functions that the statement reaches, printed by a program out of the translation and joined with the plain laws. -/
import Derived.WalkKit
import Derived.Shelf.Abstract
import Derived.Test.YtmanlcakdcoekaaCFnExactWaysTo3
import Derived.Test.YtmanlcakdcoekaaCFnExactWaysTo4
import Derived.Test.YtmanlcakdcoekaaCFnExactWaysTo5
import Derived.Test.YtmanlcakdcoekaaCFnExactWaysTo6
import Derived.Test.YtmanlcakdcoekaaCFnExactWaysTo8
import Derived.Test.YtmanlcakdcoekaaCFnExactWaysTo13
section
namespace Go.Proofs.Ytmanlcakdcoekaa.PAll
open Go.RowKit Go.Proofs.YtmanlcakdcoekaaW.PrintWords Go.Proofs.YtmanlcakdcoekaaW.PrintLast Go.Proofs.YtmanlcakdcoekaaW.PrintMore
attribute [local go_sem] max2_int min2_int max_two min_two max_three min_three max_four min_four   -- for this text's walks alone
set_option linter.unusedVariables false
set_option linter.unusedSimpArgs false
def impl_SetHas.is (a1 : Int) (x : S40) : Option Bool := impl_Block_has.f x.f0 x.f1 a1
set_option maxHeartbeats 4000000 in
set_option maxRecDepth 100000 in
theorem impl_SetHas.one (a1 : Int) (B : Nat) (W : World) (x : S40) (b : Bool) (hB : W.heap[B]? = some (.cells #[.int .i64 a1] 3 (0, 0))) (h : impl_SetHas.is a1 x = some b) :
  Calls Try.prog 56 #[.agg #[.int .i64 x.f0, .int .i64 x.f1], .pointer (some ⟨B, 0, none⟩)] W fun e w' => e = .returned (.bool b) ∧ Below W.heap.size W w' := by
 have HC := Aside0.mk h
 have hlt : B < W.heap.size := (Array.getElem?_eq_some_iff.1 hB).1
 have hc0 : W.cell? ⟨B, 0, none⟩ = some (.int .i64 a1) := (blk_cell hB 0).trans rfl
 clear h hB
 have hu := Try.underlying40
 go_enter Try.func56, Try.ntmps56
 go_wp2_with (go_at_call 57; refine (impl_Block_has.calls x.f0 x.f1 a1 b _ HC.out).mono ?_; rintro e w' ⟨rfl, hb⟩)
 go_ret
 exact ⟨rfl, ((Below.refl _ _).alloc (Nat.le_refl _) _).trans (hb.mono (by simp))⟩
end Go.Proofs.Ytmanlcakdcoekaa.PAll
end
