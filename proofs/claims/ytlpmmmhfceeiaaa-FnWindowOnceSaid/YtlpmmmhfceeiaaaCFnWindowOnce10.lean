/- Contracts of the functions that the statement reaches, printed by a program out of the translation and joined with the plain laws. -/
import Derived.WalkKit
import Derived.Shelf.Abstract
import Derived.Test.YtlpmmmhfceeiaaaCFnWindowOnce3
import Derived.Test.YtlpmmmhfceeiaaaCFnWindowOnce4
import Derived.Test.YtlpmmmhfceeiaaaCFnWindowOnce8
import Derived.Test.YtlpmmmhfceeiaaaCFnWindowOnce9
section
namespace Go.Proofs.Ytlpmmmhfceeiaaa.PAll
open Go.RowKit Go.Proofs.YtlpmmmhfceeiaaaW.PrintWords Go.Proofs.YtlpmmmhfceeiaaaW.PrintLast Go.Proofs.YtlpmmmhfceeiaaaW.PrintMore
attribute [local go_sem] max2_int min2_int max_two min_two max_three min_three max_four min_four   -- for this text's walks alone
set_option linter.unusedVariables false
set_option linter.unusedSimpArgs false
def impl_RulesOk.bad (k : Nat) (x : S141) : Option Bool := (impl_Rule_right.f k x.f0 x.f1 x.f2.f0 x.f2.f1 x.f3.f0 x.f3.f1 x.f4 x.f5).bind fun b => some (!b)
set_option maxHeartbeats 4000000 in
set_option maxRecDepth 100000 in
theorem impl_RulesOk.one (k : Nat) (W : World) (x : S141) (b : Bool) (h : impl_RulesOk.bad k x = some b) :
  Calls Try.prog 135 #[.agg #[.int .i64 x.f0, .int .i64 x.f1, .int .i64 x.f2.f0, .int .i64 x.f2.f1, .int .i64 x.f3.f0, .int .i64 x.f3.f1, .int .i64 x.f4, .int .i64 x.f5]] W fun e w' => e = .returned (.bool b) ∧ Below W.heap.size W w' := by
 simp only [impl_RulesOk.bad, Option.bind_eq_some_iff] at h
 obtain ⟨c, hc, h⟩ := h
 obtain rfl := Option.some.inj h
 have HC := Aside0.mk hc
 clear hc h
 have hu := Try.underlying141
 go_enter Try.func135, Try.ntmps135
 go_wp2_with (go_at_call 136; refine (impl_Rule_right.calls k x.f0 x.f1 x.f2.f0 x.f2.f1 x.f3.f0 x.f3.f1 x.f4 x.f5 c _ HC.out).mono ?_; rintro e w' ⟨rfl, hb⟩)
 go_ret
 exact ⟨rfl, ((Below.refl _ _).alloc (Nat.le_refl _) _).trans (hb.mono (by simp))⟩
def impl_first.is (a1_0 a1_1 a1_2 : Int) (x : S141) : Option Bool := impl_Rule_matches.f x.f0 x.f1 x.f2.f0 x.f2.f1 x.f3.f0 x.f3.f1 x.f4 x.f5 a1_0 a1_1 a1_2
def impl_first.f (l0 : List S141) (a1_0 : Int) (a1_1 : Int) (a1_2 : Int) : Option (Int) := findO (impl_first.is a1_0 a1_1 a1_2) l0 0
set_option maxHeartbeats 4000000 in
set_option maxRecDepth 100000 in
theorem impl_first.one (a1_0 a1_1 a1_2 : Int) (B : Nat) (W : World) (x : S141) (b : Bool) (hB : W.heap[B]? = some (.cells #[.int .i64 a1_0, .int .i64 a1_1, .int .i64 a1_2] 107 (0, 0))) (h : impl_first.is a1_0 a1_1 a1_2 x = some b) :
  Calls Try.prog 116 #[.agg #[.int .i64 x.f0, .int .i64 x.f1, .int .i64 x.f2.f0, .int .i64 x.f2.f1, .int .i64 x.f3.f0, .int .i64 x.f3.f1, .int .i64 x.f4, .int .i64 x.f5], .pointer (some ⟨B, 0, none⟩)] W fun e w' => e = .returned (.bool b) ∧ Below W.heap.size W w' := by
 have HC := Aside0.mk h
 have hlt : B < W.heap.size := (Array.getElem?_eq_some_iff.1 hB).1
 have hc0 : W.cell? ⟨B, 0, none⟩ = some (.int .i64 a1_0) := (blk_cell hB 0).trans rfl
 have hc1 : W.cell? ⟨B, 1, none⟩ = some (.int .i64 a1_1) := (blk_cell hB 1).trans rfl
 have hc2 : W.cell? ⟨B, 2, none⟩ = some (.int .i64 a1_2) := (blk_cell hB 2).trans rfl
 clear h hB
 have hu := Try.underlying141
 have hu2 := Try.underlying107
 go_enter Try.func116, Try.ntmps116
 go_wp2_with (go_at_call 117; refine (impl_Rule_matches.calls x.f0 x.f1 x.f2.f0 x.f2.f1 x.f3.f0 x.f3.f1 x.f4 x.f5 a1_0 a1_1 a1_2 b _ HC.out).mono ?_; rintro e w' ⟨rfl, hb⟩)
 go_ret
 exact ⟨rfl, ((Below.refl _ _).alloc (Nat.le_refl _) _).trans (hb.mono (by simp))⟩
end Go.Proofs.Ytlpmmmhfceeiaaa.PAll
end
