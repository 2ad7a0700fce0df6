/- Contracts of the functions that the statement reaches, printed by a program out of the translation and joined with the plain laws. -/
import Derived.Test.YtioghacieopbdaaCFnExactWaysLess6
import Derived.Test.YtioghacieopbdaaCFnExactWaysLess7
section
namespace Go.Proofs.Ytioghacieopbdaa.Pure
open Go Go.RowKit Go.Proofs.Ytioghacieopbdaa.PAll Go.Proofs.YtioghacieopbdaaW.PrintWords Go.Proofs.YtioghacieopbdaaW.PrintLast Go.Proofs.YtioghacieopbdaaW.PrintMore Go.Proofs.Ytioghacieopbdaa.Z
set_option linter.unusedVariables false
set_option linter.unusedSimpArgs false
theorem FnExactWaysLess : laws_FnExactWaysLess.Pure := by
  intro l hl
  suffices h : (∃ K_, ∀ k, K_ ≤ k → laws_FnExactWaysLess.f k l = some true) by obtain ⟨K, h⟩ := h; exact ⟨K, h K (Nat.le_refl _)⟩
  have hm : l.length ≤ 9223372036854775807 := by have := hl.1; unfold maxLen at this; exact this
  simp only [laws_FnExactWaysLess.f]
  refine evS (szWay l hm) ?_
  by_cases c : (l.length : Int) ≤ 1048576
  · rw [if_pos c]
    have hn : (l.map convWay).length ≤ 1048576 := by simp; omega
    have hn2 := waysLess_len (l.map convWay)
    have e1 := toWay l (by omega)
    have e2 := spec_waysLess (l.map convWay) (by omega)
    have e3 := impl_waysLess (l.map convWay) (by omega)
    have e4 := eqWay (waysLessF (l.map convWay)) (by omega)
    have e5 := eqWay (l.map convWay) (by omega)
    obtain ⟨⟨k1, m1⟩, e6, h1, _, _⟩ := markWay (l.map convWay) 1 (by omega) (by omega) (by omega)
    obtain ⟨⟨k2, m2⟩, e7, h2, h3, h4⟩ := markWay (waysLessF (l.map convWay)) 1 (by omega) (by omega) (by omega)
    simp only [] at h1 h2 h3 h4
    have e8 := heldWay m2 1 (by omega) (by omega) (by omega) h4
    rw [h3, ← h2] at e8
    refine evN (by omega) (evB e1 (evB e2 (evB e1 (evB e3 (evB e4 (evP rfl (evB e1 (evB e5 (evP rfl (evB e6 ?_))))))))))
    simp only []
    refine evN (by omega) (evB e4 (ev1 ?_))
    simp only [laws_FnExactWaysLess.j0]
    refine evN (by simp) (evB e7 ?_)
    simp only []
    exact evB e8 (evN (by omega) (evP rfl (evB e1 (evB e3 (evB e4 (evP rfl (evB e8 (evN (by omega) (evP rfl (evR rfl))))))))))
  · rw [if_neg c]
    exact evP (by omega) (evR rfl)
end Go.Proofs.Ytioghacieopbdaa.Pure
end
