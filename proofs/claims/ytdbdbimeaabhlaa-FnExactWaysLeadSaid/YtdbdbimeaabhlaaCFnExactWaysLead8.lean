/- Contracts of the functions that the statement reaches, printed by a program out of the translation and joined with the plain laws. -/
import Derived.Test.YtdbdbimeaabhlaaCFnExactWaysLead6
import Derived.Test.YtdbdbimeaabhlaaCFnExactWaysLead7
section
namespace Go.Proofs.Ytdbdbimeaabhlaa.Pure
open Go Go.RowKit Go.Proofs.Ytdbdbimeaabhlaa.PAll Go.Proofs.YtdbdbimeaabhlaaW.PrintWords Go.Proofs.YtdbdbimeaabhlaaW.PrintLast Go.Proofs.YtdbdbimeaabhlaaW.PrintMore Go.Proofs.Ytdbdbimeaabhlaa.Z
set_option linter.unusedVariables false
set_option linter.unusedSimpArgs false
theorem FnExactWaysLead : laws_FnExactWaysLead.Pure := by
  intro l a hl ha
  have hm : l.length ≤ 9223372036854775807 := by have := hl.1; unfold maxLen at this; exact this
  by_cases c : (l.length : Int) ≤ 1048576
  · obtain ⟨K1, e1⟩ := toWays l (by omega)
    obtain ⟨K2, e2⟩ := impl_waysLead (l.map convW) a (by simp; omega)
    obtain ⟨K3, e3⟩ := spec_waysLead (l.map convW) a (by simp; omega)
    obtain ⟨K4, e4⟩ := eqWays_self (l.map convW) (by simp; omega)
    refine ⟨K1 + K2 + K3 + K4, ?_⟩
    simp only [laws_FnExactWaysLead.f]
    rw [szWays l hm, if_pos c, Option.bind_some, if_neg (by omega), e1 _ (by omega), Option.bind_some, e3 _ (by omega), Option.bind_some, Option.bind_some, e2 _ (by omega), Option.bind_some, if_pos rfl, Option.bind_some, e4 _ (by omega), Option.bind_some, if_pos rfl]
  · refine ⟨0, ?_⟩
    simp only [laws_FnExactWaysLead.f]
    rw [szWays l hm, if_neg c, Option.bind_some, if_pos (by omega)]
end Go.Proofs.Ytdbdbimeaabhlaa.Pure
end
