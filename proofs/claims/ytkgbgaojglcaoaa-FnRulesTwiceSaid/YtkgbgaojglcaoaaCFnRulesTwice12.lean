/- Contracts of the functions that the statement reaches, printed by a program out of the translation and joined with the plain laws. -/
import Derived.Test.YtkgbgaojglcaoaaCFnRulesTwice3
import Derived.Test.YtkgbgaojglcaoaaCFnRulesTwice4
import Derived.Test.YtkgbgaojglcaoaaCFnRulesTwice6
section
namespace Go.Proofs.Ytkgbgaojglcaoaa.PAll
open Go.RowKit Go.Proofs.YtkgbgaojglcaoaaW.PrintWords Go.Proofs.YtkgbgaojglcaoaaW.PrintLast Go.Proofs.YtkgbgaojglcaoaaW.PrintMore
attribute [local go_sem] max2_int min2_int max_two min_two max_three min_three max_four min_four   -- for this text's walks alone
set_option linter.unusedVariables false
set_option linter.unusedSimpArgs false
def spec_l12AnyRules.l0 : Nat → List (S71) → List Int → Int → Option ((List (S71)) × Int)
 | 0, _, _, _ => none
 | k + 1, x3, x1000, x1001 => (spec_l1Rd_pick.f k x1000 x1001 2).bind fun bt131 => (if (x3.length : Int) < (wrap64 (8 + bt131.1)) then ((spec_l12Rule.f k x1000 bt131.2).bind fun bt133 => (if x3.length < 2199023255552 then (spec_l12AnyRules.l0 k (x3 ++ [(⟨bt133.1, bt133.2.1, (⟨bt133.2.2.1, bt133.2.2.2.1⟩ : S43), (⟨bt133.2.2.2.2.1, bt133.2.2.2.2.2.1⟩ : S43), bt133.2.2.2.2.2.2.1, bt133.2.2.2.2.2.2.2.1⟩ : S71)]) x1000 bt133.2.2.2.2.2.2.2.2) else (none))) else (some (x3, bt131.2)))
def spec_l12AnyRules.f (k : Nat) (s0_0 : List Int) (s0_1 : Int) : Option ((List (S71)) × Int) := (spec_l12Rules.f k s0_0 s0_1).bind fun bt101 => (if (bt101.1.length : Int) = 0 then (some (bt101.1, bt101.2)) else ((spec_l1Rd_pick.f k s0_0 bt101.2 (bt101.1.length : Int)).bind fun bt105 => ((spec_l1Rd_pick.f k s0_0 bt105.2 20).bind fun bt107 => (if bt107.1 = 0 then ((spec_l1Rd_one.f k s0_0 bt107.2 (([(-1), 3, 0] : List Int))).bind fun bt112 => (if 0 ≤ bt105.1 then (if bt105.1 < (bt101.1.length : Int) then (some ((bt101.1.set (bt105.1 : Int).toNat (⟨bt112.1, (rd_T71 bt101.1 bt105.1).f1, (⟨(rd_T71 bt101.1 bt105.1).f2.f0, (rd_T71 bt101.1 bt105.1).f2.f1⟩ : S43), (⟨(rd_T71 bt101.1 bt105.1).f3.f0, (rd_T71 bt101.1 bt105.1).f3.f1⟩ : S43), (rd_T71 bt101.1 bt105.1).f4, (rd_T71 bt101.1 bt105.1).f5⟩ : S71)), bt112.2)) else (none)) else (none))) else (if bt107.1 = 1 then ((spec_l1Rd_one.f k s0_0 bt107.2 (([(-1), 4, 1] : List Int))).bind fun bt118 => (if 0 ≤ bt105.1 then (if bt105.1 < (bt101.1.length : Int) then (some ((bt101.1.set (bt105.1 : Int).toNat (⟨(rd_T71 bt101.1 bt105.1).f0, bt118.1, (⟨(rd_T71 bt101.1 bt105.1).f2.f0, (rd_T71 bt101.1 bt105.1).f2.f1⟩ : S43), (⟨(rd_T71 bt101.1 bt105.1).f3.f0, (rd_T71 bt101.1 bt105.1).f3.f1⟩ : S43), (rd_T71 bt101.1 bt105.1).f4, (rd_T71 bt101.1 bt105.1).f5⟩ : S71)), bt118.2)) else (none)) else (none))) else (if bt107.1 = 2 then ((spec_l1Rd_one.f k s0_0 bt107.2 (([(-1), 65536] : List Int))).bind fun bt124 => (if 0 ≤ bt105.1 then (if bt105.1 < (bt101.1.length : Int) then (some ((bt101.1.set (bt105.1 : Int).toNat (⟨(rd_T71 bt101.1 bt105.1).f0, (rd_T71 bt101.1 bt105.1).f1, (⟨(rd_T71 bt101.1 bt105.1).f2.f0, (rd_T71 bt101.1 bt105.1).f2.f1⟩ : S43), (⟨(rd_T71 bt101.1 bt105.1).f3.f0, (rd_T71 bt101.1 bt105.1).f3.f1⟩ : S43), bt124.1, (rd_T71 bt101.1 bt105.1).f5⟩ : S71)), bt124.2)) else (none)) else (none))) else (if bt107.1 = 3 then ((spec_l12AnyBlock.f k s0_0 bt107.2).bind fun bt127 => (if 0 ≤ bt105.1 then (if bt105.1 < (bt101.1.length : Int) then (some ((bt101.1.set (bt105.1 : Int).toNat (⟨(rd_T71 bt101.1 bt105.1).f0, (rd_T71 bt101.1 bt105.1).f1, (⟨bt127.1, bt127.2.1⟩ : S43), (⟨(rd_T71 bt101.1 bt105.1).f3.f0, (rd_T71 bt101.1 bt105.1).f3.f1⟩ : S43), (rd_T71 bt101.1 bt105.1).f4, (rd_T71 bt101.1 bt105.1).f5⟩ : S71)), bt127.2.2)) else (none)) else (none))) else (if bt107.1 = 4 then (spec_l12AnyRules.l0 k bt101.1 s0_0 bt107.2) else (some (bt101.1, bt107.2))))))))))
set_option maxHeartbeats 8000000 in
set_option maxRecDepth 100000 in
theorem spec_l12AnyRules.calls (k : Nat) (g : Nat) (s0_0 : List Int) (s0_1 : Int) (r1 : List (S71)) (r2 : Int) (w0 w : World) (hI : IsS140 w0 w g s0_0 s0_1) (hB : Below w0.heap.size w0 w) (h : spec_l12AnyRules.f k s0_0 s0_1 = some (r1, r2)) :
  Calls Try.prog 95 #[.pointer (some ⟨g, 0, none⟩)] w fun e w' => ∃ v0_ : Value, e = .returned (v0_) ∧ Kd.R k71 71 w' w.heap.size (fun _ => True) v0_ r1 ∧ IsS140 w0 w' g s0_0 r2 ∧ Below w0.heap.size w0 w' ∧ KeepBut w w' g none := by
 have hu43 := Try.underlying43
 have HI0 := Aside0.mk hI
 have HK := am (KeepBut.refl w g none)
 have HL := Aside0.mk hB.size
 clear hI
 have HW0 := Aside0.mk hB.size
 have HB := Aside0.mk hB
 clear hB
 have H : ((spec_l12Rules.f k s0_0 s0_1).bind fun bt101 => (if (bt101.1.length : Int) = 0 then (some (bt101.1, bt101.2)) else ((spec_l1Rd_pick.f k s0_0 bt101.2 (bt101.1.length : Int)).bind fun bt105 => ((spec_l1Rd_pick.f k s0_0 bt105.2 20).bind fun bt107 => (if bt107.1 = 0 then ((spec_l1Rd_one.f k s0_0 bt107.2 (([(-1), 3, 0] : List Int))).bind fun bt112 => (if 0 ≤ bt105.1 then (if bt105.1 < (bt101.1.length : Int) then (some ((bt101.1.set (bt105.1 : Int).toNat (⟨bt112.1, (rd_T71 bt101.1 bt105.1).f1, (⟨(rd_T71 bt101.1 bt105.1).f2.f0, (rd_T71 bt101.1 bt105.1).f2.f1⟩ : S43), (⟨(rd_T71 bt101.1 bt105.1).f3.f0, (rd_T71 bt101.1 bt105.1).f3.f1⟩ : S43), (rd_T71 bt101.1 bt105.1).f4, (rd_T71 bt101.1 bt105.1).f5⟩ : S71)), bt112.2)) else (none)) else (none))) else (if bt107.1 = 1 then ((spec_l1Rd_one.f k s0_0 bt107.2 (([(-1), 4, 1] : List Int))).bind fun bt118 => (if 0 ≤ bt105.1 then (if bt105.1 < (bt101.1.length : Int) then (some ((bt101.1.set (bt105.1 : Int).toNat (⟨(rd_T71 bt101.1 bt105.1).f0, bt118.1, (⟨(rd_T71 bt101.1 bt105.1).f2.f0, (rd_T71 bt101.1 bt105.1).f2.f1⟩ : S43), (⟨(rd_T71 bt101.1 bt105.1).f3.f0, (rd_T71 bt101.1 bt105.1).f3.f1⟩ : S43), (rd_T71 bt101.1 bt105.1).f4, (rd_T71 bt101.1 bt105.1).f5⟩ : S71)), bt118.2)) else (none)) else (none))) else (if bt107.1 = 2 then ((spec_l1Rd_one.f k s0_0 bt107.2 (([(-1), 65536] : List Int))).bind fun bt124 => (if 0 ≤ bt105.1 then (if bt105.1 < (bt101.1.length : Int) then (some ((bt101.1.set (bt105.1 : Int).toNat (⟨(rd_T71 bt101.1 bt105.1).f0, (rd_T71 bt101.1 bt105.1).f1, (⟨(rd_T71 bt101.1 bt105.1).f2.f0, (rd_T71 bt101.1 bt105.1).f2.f1⟩ : S43), (⟨(rd_T71 bt101.1 bt105.1).f3.f0, (rd_T71 bt101.1 bt105.1).f3.f1⟩ : S43), bt124.1, (rd_T71 bt101.1 bt105.1).f5⟩ : S71)), bt124.2)) else (none)) else (none))) else (if bt107.1 = 3 then ((spec_l12AnyBlock.f k s0_0 bt107.2).bind fun bt127 => (if 0 ≤ bt105.1 then (if bt105.1 < (bt101.1.length : Int) then (some ((bt101.1.set (bt105.1 : Int).toNat (⟨(rd_T71 bt101.1 bt105.1).f0, (rd_T71 bt101.1 bt105.1).f1, (⟨bt127.1, bt127.2.1⟩ : S43), (⟨(rd_T71 bt101.1 bt105.1).f3.f0, (rd_T71 bt101.1 bt105.1).f3.f1⟩ : S43), (rd_T71 bt101.1 bt105.1).f4, (rd_T71 bt101.1 bt105.1).f5⟩ : S71)), bt127.2.2)) else (none)) else (none))) else (if bt107.1 = 4 then (spec_l12AnyRules.l0 k bt101.1 s0_0 bt107.2) else (some (bt101.1, bt107.2))))))))))) = some (r1, r2) := h
 clear h
 replace H := Option.bind_eq_some_iff.mp H
 obtain ⟨⟨t101, t104⟩, A20, H⟩ := H
 replace H : (if (t101.length : Int) = 0 then (some (t101, t104)) else ((spec_l1Rd_pick.f k s0_0 t104 (t101.length : Int)).bind fun bt105 => ((spec_l1Rd_pick.f k s0_0 bt105.2 20).bind fun bt107 => (if bt107.1 = 0 then ((spec_l1Rd_one.f k s0_0 bt107.2 (([(-1), 3, 0] : List Int))).bind fun bt112 => (if 0 ≤ bt105.1 then (if bt105.1 < (t101.length : Int) then (some ((t101.set (bt105.1 : Int).toNat (⟨bt112.1, (rd_T71 t101 bt105.1).f1, (⟨(rd_T71 t101 bt105.1).f2.f0, (rd_T71 t101 bt105.1).f2.f1⟩ : S43), (⟨(rd_T71 t101 bt105.1).f3.f0, (rd_T71 t101 bt105.1).f3.f1⟩ : S43), (rd_T71 t101 bt105.1).f4, (rd_T71 t101 bt105.1).f5⟩ : S71)), bt112.2)) else (none)) else (none))) else (if bt107.1 = 1 then ((spec_l1Rd_one.f k s0_0 bt107.2 (([(-1), 4, 1] : List Int))).bind fun bt118 => (if 0 ≤ bt105.1 then (if bt105.1 < (t101.length : Int) then (some ((t101.set (bt105.1 : Int).toNat (⟨(rd_T71 t101 bt105.1).f0, bt118.1, (⟨(rd_T71 t101 bt105.1).f2.f0, (rd_T71 t101 bt105.1).f2.f1⟩ : S43), (⟨(rd_T71 t101 bt105.1).f3.f0, (rd_T71 t101 bt105.1).f3.f1⟩ : S43), (rd_T71 t101 bt105.1).f4, (rd_T71 t101 bt105.1).f5⟩ : S71)), bt118.2)) else (none)) else (none))) else (if bt107.1 = 2 then ((spec_l1Rd_one.f k s0_0 bt107.2 (([(-1), 65536] : List Int))).bind fun bt124 => (if 0 ≤ bt105.1 then (if bt105.1 < (t101.length : Int) then (some ((t101.set (bt105.1 : Int).toNat (⟨(rd_T71 t101 bt105.1).f0, (rd_T71 t101 bt105.1).f1, (⟨(rd_T71 t101 bt105.1).f2.f0, (rd_T71 t101 bt105.1).f2.f1⟩ : S43), (⟨(rd_T71 t101 bt105.1).f3.f0, (rd_T71 t101 bt105.1).f3.f1⟩ : S43), bt124.1, (rd_T71 t101 bt105.1).f5⟩ : S71)), bt124.2)) else (none)) else (none))) else (if bt107.1 = 3 then ((spec_l12AnyBlock.f k s0_0 bt107.2).bind fun bt127 => (if 0 ≤ bt105.1 then (if bt105.1 < (t101.length : Int) then (some ((t101.set (bt105.1 : Int).toNat (⟨(rd_T71 t101 bt105.1).f0, (rd_T71 t101 bt105.1).f1, (⟨bt127.1, bt127.2.1⟩ : S43), (⟨(rd_T71 t101 bt105.1).f3.f0, (rd_T71 t101 bt105.1).f3.f1⟩ : S43), (rd_T71 t101 bt105.1).f4, (rd_T71 t101 bt105.1).f5⟩ : S71)), bt127.2.2)) else (none)) else (none))) else (if bt107.1 = 4 then (spec_l12AnyRules.l0 k t101 s0_0 bt107.2) else (some (t101, bt107.2)))))))))) = some (r1, r2) := H
 have A2 := Aside0.mk A20
 clear A20
 by_cases c3 : (t101.length : Int) = 0
 ·rw [if_pos c3] at H
  have c3b0 : ((t101.length : Int) == 0) = true := beq_iff_eq.mpr c3
  have c3b1 : ((t101.length : Int) != 0) = false := bne_eq_false_iff_eq.mpr c3
  clear c3
  simp only [Option.some.injEq, Prod.mk.injEq] at H
  obtain ⟨rfl, rfl⟩ := H
  go_enter Try.func95, Try.ntmps95
  go_wp2_with (first | ((with_reducible refine gate_callee (f := 132) rfl ?_); refine goesL_ (some 6) rfl rfl Try.func132 (by kernel_rfl) rfl #[.pointer (some ⟨g, 0, none⟩)] rfl MT ?_; (with_reducible refine (spec_l12Rules.calls k g s0_0 s0_1 t101 t104 w0 _ ?side1 ?side2 A2.out).mono ?_); (case side1 => exact I140_0 HI0); (case side2 => exact K1 HB (IsS140.ge HI0.out)); rintro e w4 ⟨v102, rfl, ho0, hi, hb, hk⟩; refine ⟨_, rfl, ?_⟩; have HO103 := am (Kd.R_lower ho0 (keep_size (w := w) (g := g) (row := none) (J0 HK))); replace HK := am (KeepBut.trans (J0 HK) hk (.inl rfl)); replace HB := am (hb); replace HI0 := am (hi); (try clear hb); (try clear hk); (try clear hi); (try clear ho0); obtain ⟨Ao5, co5, eo5⟩ := Kd.R_slice HO103.out; subst eo5))
  go_ret
  exact ⟨_, ER, by (with_reducible repeat (first | apply Kd.R_alloc | apply Kd.R_drewN | apply Kd.R_drew)); exact HO103.out, I140_0 HI0, K1 HB (IsS140.ge HI0.out), J0 HK⟩
 ·rw [if_neg c3] at H
  have c3b0 : ((t101.length : Int) == 0) = false := beq_eq_false_iff_ne.mpr c3
  have c3b1 : ((t101.length : Int) != 0) = true := bne_iff_ne.mpr c3
  have c3b2 : ¬ (t101 = []) := fun h_ => c3 (by rw [h_]; rfl)
  replace H := Option.bind_eq_some_iff.mp H
  obtain ⟨⟨t105, t106⟩, A60, H⟩ := H
  replace H : ((spec_l1Rd_pick.f k s0_0 t106 20).bind fun bt107 => (if bt107.1 = 0 then ((spec_l1Rd_one.f k s0_0 bt107.2 (([(-1), 3, 0] : List Int))).bind fun bt112 => (if 0 ≤ t105 then (if t105 < (t101.length : Int) then (some ((t101.set (t105 : Int).toNat (⟨bt112.1, (rd_T71 t101 t105).f1, (⟨(rd_T71 t101 t105).f2.f0, (rd_T71 t101 t105).f2.f1⟩ : S43), (⟨(rd_T71 t101 t105).f3.f0, (rd_T71 t101 t105).f3.f1⟩ : S43), (rd_T71 t101 t105).f4, (rd_T71 t101 t105).f5⟩ : S71)), bt112.2)) else (none)) else (none))) else (if bt107.1 = 1 then ((spec_l1Rd_one.f k s0_0 bt107.2 (([(-1), 4, 1] : List Int))).bind fun bt118 => (if 0 ≤ t105 then (if t105 < (t101.length : Int) then (some ((t101.set (t105 : Int).toNat (⟨(rd_T71 t101 t105).f0, bt118.1, (⟨(rd_T71 t101 t105).f2.f0, (rd_T71 t101 t105).f2.f1⟩ : S43), (⟨(rd_T71 t101 t105).f3.f0, (rd_T71 t101 t105).f3.f1⟩ : S43), (rd_T71 t101 t105).f4, (rd_T71 t101 t105).f5⟩ : S71)), bt118.2)) else (none)) else (none))) else (if bt107.1 = 2 then ((spec_l1Rd_one.f k s0_0 bt107.2 (([(-1), 65536] : List Int))).bind fun bt124 => (if 0 ≤ t105 then (if t105 < (t101.length : Int) then (some ((t101.set (t105 : Int).toNat (⟨(rd_T71 t101 t105).f0, (rd_T71 t101 t105).f1, (⟨(rd_T71 t101 t105).f2.f0, (rd_T71 t101 t105).f2.f1⟩ : S43), (⟨(rd_T71 t101 t105).f3.f0, (rd_T71 t101 t105).f3.f1⟩ : S43), bt124.1, (rd_T71 t101 t105).f5⟩ : S71)), bt124.2)) else (none)) else (none))) else (if bt107.1 = 3 then ((spec_l12AnyBlock.f k s0_0 bt107.2).bind fun bt127 => (if 0 ≤ t105 then (if t105 < (t101.length : Int) then (some ((t101.set (t105 : Int).toNat (⟨(rd_T71 t101 t105).f0, (rd_T71 t101 t105).f1, (⟨bt127.1, bt127.2.1⟩ : S43), (⟨(rd_T71 t101 t105).f3.f0, (rd_T71 t101 t105).f3.f1⟩ : S43), (rd_T71 t101 t105).f4, (rd_T71 t101 t105).f5⟩ : S71)), bt127.2.2)) else (none)) else (none))) else (if bt107.1 = 4 then (spec_l12AnyRules.l0 k t101 s0_0 bt107.2) else (some (t101, bt107.2)))))))) = some (r1, r2) := H
  have A6 := Aside0.mk A60
  clear A60
  replace H := Option.bind_eq_some_iff.mp H
  obtain ⟨⟨t107, t108⟩, A70, H⟩ := H
  replace H : (if t107 = 0 then ((spec_l1Rd_one.f k s0_0 t108 (([(-1), 3, 0] : List Int))).bind fun bt112 => (if 0 ≤ t105 then (if t105 < (t101.length : Int) then (some ((t101.set (t105 : Int).toNat (⟨bt112.1, (rd_T71 t101 t105).f1, (⟨(rd_T71 t101 t105).f2.f0, (rd_T71 t101 t105).f2.f1⟩ : S43), (⟨(rd_T71 t101 t105).f3.f0, (rd_T71 t101 t105).f3.f1⟩ : S43), (rd_T71 t101 t105).f4, (rd_T71 t101 t105).f5⟩ : S71)), bt112.2)) else (none)) else (none))) else (if t107 = 1 then ((spec_l1Rd_one.f k s0_0 t108 (([(-1), 4, 1] : List Int))).bind fun bt118 => (if 0 ≤ t105 then (if t105 < (t101.length : Int) then (some ((t101.set (t105 : Int).toNat (⟨(rd_T71 t101 t105).f0, bt118.1, (⟨(rd_T71 t101 t105).f2.f0, (rd_T71 t101 t105).f2.f1⟩ : S43), (⟨(rd_T71 t101 t105).f3.f0, (rd_T71 t101 t105).f3.f1⟩ : S43), (rd_T71 t101 t105).f4, (rd_T71 t101 t105).f5⟩ : S71)), bt118.2)) else (none)) else (none))) else (if t107 = 2 then ((spec_l1Rd_one.f k s0_0 t108 (([(-1), 65536] : List Int))).bind fun bt124 => (if 0 ≤ t105 then (if t105 < (t101.length : Int) then (some ((t101.set (t105 : Int).toNat (⟨(rd_T71 t101 t105).f0, (rd_T71 t101 t105).f1, (⟨(rd_T71 t101 t105).f2.f0, (rd_T71 t101 t105).f2.f1⟩ : S43), (⟨(rd_T71 t101 t105).f3.f0, (rd_T71 t101 t105).f3.f1⟩ : S43), bt124.1, (rd_T71 t101 t105).f5⟩ : S71)), bt124.2)) else (none)) else (none))) else (if t107 = 3 then ((spec_l12AnyBlock.f k s0_0 t108).bind fun bt127 => (if 0 ≤ t105 then (if t105 < (t101.length : Int) then (some ((t101.set (t105 : Int).toNat (⟨(rd_T71 t101 t105).f0, (rd_T71 t101 t105).f1, (⟨bt127.1, bt127.2.1⟩ : S43), (⟨(rd_T71 t101 t105).f3.f0, (rd_T71 t101 t105).f3.f1⟩ : S43), (rd_T71 t101 t105).f4, (rd_T71 t101 t105).f5⟩ : S71)), bt127.2.2)) else (none)) else (none))) else (if t107 = 4 then (spec_l12AnyRules.l0 k t101 s0_0 t108) else (some (t101, t108))))))) = some (r1, r2) := H
  have A7 := Aside0.mk A70
  clear A70
  by_cases c8 : t107 = 0
  ·rw [if_pos c8] at H
   have c8b0 : (t107 == 0) = true := beq_iff_eq.mpr c8
   have c8b1 : (t107 != 0) = false := bne_eq_false_iff_eq.mpr c8
   clear c8
   obtain ⟨y109, hy109⟩ : ∃ y_ : List Int, y_ = (([(-1), 3, 0] : List Int)) := ⟨_, rfl⟩
   replace H : ((spec_l1Rd_one.f k s0_0 t108 y109).bind fun bt112 => (if 0 ≤ t105 then (if t105 < (t101.length : Int) then (some ((t101.set (t105 : Int).toNat (⟨bt112.1, (rd_T71 t101 t105).f1, (⟨(rd_T71 t101 t105).f2.f0, (rd_T71 t101 t105).f2.f1⟩ : S43), (⟨(rd_T71 t101 t105).f3.f0, (rd_T71 t101 t105).f3.f1⟩ : S43), (rd_T71 t101 t105).f4, (rd_T71 t101 t105).f5⟩ : S71)), bt112.2)) else (none)) else (none))) = some (r1, r2) := by first | (rw [hy109]; with_reducible exact H) | (have H2_ := (Option.bind_some _ _).symm.trans H; rw [hy109]; with_reducible exact H2_) | (have H2_ := (Option.bind_some _ _).symm.trans H; with_reducible exact H2_) | with_reducible exact H | (rw [hy109]; exact H) | exact H
   have Ny109 := Aside0.mk hy109
   clear hy109
   replace H := Option.bind_eq_some_iff.mp H
   obtain ⟨⟨t112, t113⟩, A90, H⟩ := H
   replace H : (if 0 ≤ t105 then (if t105 < (t101.length : Int) then (some ((t101.set (t105 : Int).toNat (⟨t112, (rd_T71 t101 t105).f1, (⟨(rd_T71 t101 t105).f2.f0, (rd_T71 t101 t105).f2.f1⟩ : S43), (⟨(rd_T71 t101 t105).f3.f0, (rd_T71 t101 t105).f3.f1⟩ : S43), (rd_T71 t101 t105).f4, (rd_T71 t101 t105).f5⟩ : S71)), t113)) else (none)) else (none)) = some (r1, r2) := H
   have A9 := Aside0.mk A90
   clear A90
   by_cases c10 : 0 ≤ t105
   ·rw [if_pos c10] at H
    have c10b0 : decide (0 ≤ t105) = true := decide_eq_true c10
    clear c10
    by_cases c11 : t105 < (t101.length : Int)
    ·rw [if_pos c11] at H
     have c11b0 : decide (t105 < (t101.length : Int)) = true := decide_eq_true c11
     clear c11
     obtain ⟨y114, hy114⟩ : ∃ y_ : List (S71), y_ = (t101.set (t105 : Int).toNat (⟨t112, (rd_T71 t101 t105).f1, (⟨(rd_T71 t101 t105).f2.f0, (rd_T71 t101 t105).f2.f1⟩ : S43), (⟨(rd_T71 t101 t105).f3.f0, (rd_T71 t101 t105).f3.f1⟩ : S43), (rd_T71 t101 t105).f4, (rd_T71 t101 t105).f5⟩ : S71)) := ⟨_, rfl⟩
     replace H : (some (y114, t113)) = some (r1, r2) := by first | (rw [hy114]; with_reducible exact H) | (have H2_ := (Option.bind_some _ _).symm.trans H; rw [hy114]; with_reducible exact H2_) | (have H2_ := (Option.bind_some _ _).symm.trans H; with_reducible exact H2_) | with_reducible exact H | (rw [hy114]; exact H) | exact H
     have Ny114 := Aside0.mk hy114
     clear hy114
     simp only [Option.some.injEq, Prod.mk.injEq] at H
     obtain ⟨rfl, rfl⟩ := H
     go_enter Try.func95, Try.ntmps95
     go_wp2_with (first | ((with_reducible refine gate_callee (f := 132) rfl ?_); refine goesL_ (some 6) rfl rfl Try.func132 (by kernel_rfl) rfl #[.pointer (some ⟨g, 0, none⟩)] rfl MT ?_; (with_reducible refine (spec_l12Rules.calls k g s0_0 s0_1 t101 t104 w0 _ ?side1 ?side2 A2.out).mono ?_); (case side1 => exact I140_0 HI0); (case side2 => exact K1 HB (IsS140.ge HI0.out)); rintro e w13 ⟨v102, rfl, ho0, hi, hb, hk⟩; refine ⟨_, rfl, ?_⟩; have HO103 := am (Kd.R_lower ho0 (keep_size (w := w) (g := g) (row := none) (J0 HK))); replace HK := am (KeepBut.trans (J0 HK) hk (.inl rfl)); replace HB := am (hb); replace HI0 := am (hi); (try clear hb); (try clear hk); (try clear hi); (try clear ho0); obtain ⟨Ao14, co14, eo14⟩ := Kd.R_slice HO103.out; subst eo14) | ((with_reducible refine gate_callee (f := 69) rfl ?_); refine goesL_ (some 14) rfl rfl Try.func69 (by kernel_rfl) rfl #[.pointer (some ⟨g, 0, none⟩), .int .i64 (t101.length : Int)] rfl MT ?_; (with_reducible refine (spec_l1Rd_pick.calls k g s0_0 t104 (t101.length : Int) t105 t106 w0 _ ?side1 ?side2 A6.out).mono ?_); (case side1 => exact I140_0 HI0); (case side2 => exact K1 HB (IsS140.ge HI0.out)); rintro e w15 ⟨rfl, hi, hb, hk⟩; refine ⟨_, rfl, ?_⟩; replace HO103 := am (Kd.R_mono (Kd.R_keep (IsS140.apart (show IsS140 w0 _ g s0_0 t104 from I140_0 HI0) (KR HO103) (by decide)) hk (fun _ h => h.2)) (fun _ h => h.1)); replace HK := am (KeepBut.trans (J0 HK) hk (.inl rfl)); replace HB := am (hb); replace HI0 := am (hi); (try clear hb); (try clear hk); (try clear hi)) | ((with_reducible refine gate_callee (f := 69) rfl ?_); refine goesL_ (some 16) rfl rfl Try.func69 (by kernel_rfl) rfl #[.pointer (some ⟨g, 0, none⟩), .int .i64 20] rfl MT ?_; (with_reducible refine (spec_l1Rd_pick.calls k g s0_0 t106 20 t107 t108 w0 _ ?side1 ?side2 A7.out).mono ?_); (case side1 => exact I140_0 HI0); (case side2 => exact K1 HB (IsS140.ge HI0.out)); rintro e w16 ⟨rfl, hi, hb, hk⟩; refine ⟨_, rfl, ?_⟩; replace HO103 := am (Kd.R_mono (Kd.R_keep (IsS140.apart (show IsS140 w0 _ g s0_0 t106 from I140_0 HI0) (KR HO103) (by decide)) hk (fun _ h => h.2)) (fun _ h => h.1)); replace HK := am (KeepBut.trans (J0 HK) hk (.inl rfl)); replace HB := am (hb); replace HI0 := am (hi); (try clear hb); (try clear hk); (try clear hi)) | ((with_reducible refine gate_dst (N := 22) rfl ?_); refine Kd.R_lit (Kd.int .i64) _ 3 ?hg (N := 22) ?hd (xs := ([(-1), 3, 0] : List Int)) (inner := [.int .i64 (-1), .int .i64 3, .int .i64 0]) (ok := fun _ => True) (okp := fun _ => True) ?hr ?hp (fun _ hk => hk) trivial (Below.refl _ _) (Nat.le_refl _) (by simp) ?_; (case hd => rfl); (case hg => rfl); (case hr => first | (go_simp; done) | (go_simp; rfl)); (case hp => exact (Reps.one (show Kd.M (Kd.int .i64) _ _ _ (-1) [.int .i64 (-1)] from rfl) (Reps.one (show Kd.M (Kd.int .i64) _ _ _ 3 [.int .i64 3] from rfl) (Reps.one (show Kd.M (Kd.int .i64) _ _ _ 0 [.int .i64 0] from rfl) (Reps.none _ _))))); intro v110 w17 ho18 hb hg_ hnew_; clear hg_ hnew_; (first | rw [← Ny109.out] at ho18 | (simp only [Int.reduceToNat] at ho18; rw [← Ny109.out] at ho18)); replace HO103 := am (Kd.R_below (KR HO103) hb); have HO111 := am (Kd.R_lower ho18 (keep_size (w := w) (g := g) (row := none) (J0 HK))); replace HK := am (KeepBut.trans (J0 HK) (KeepBut.of_below hb g none) (.inl rfl)); replace HB := am (below_step (K1 HB (IsS140.ge HI0.out)) hb); replace HI0 := am (IsS140.below (I140_0 HI0) hb); clear hb ho18; obtain ⟨Ao19, co19, eo19⟩ := Kd.R_slice HO111.out; subst eo19) | ((with_reducible refine gate_callee (f := 115) rfl ?_); refine goesL_ (some 23) rfl rfl Try.func115 (by kernel_rfl) rfl #[.pointer (some ⟨g, 0, none⟩), .slice Ao19 y109.length co19] rfl MT ?_; (with_reducible refine (spec_l1Rd_one.calls k g s0_0 t108 _ _ y109 t112 t113 w0 _ ?side1 ?side2 ?side3 ?side4 ?side5 A9.out).mono ?_); (case side1 => exact I140_0 HI0); (case side2 => exact K1 HB (IsS140.ge HI0.out)); (case side3 => exact KC (Kd.R_reads' HO111.out).2.2); (case side4 => exact (Kd.R_reads' HO111.out).2.1); (case side5 => exact far_slice (IsS140.own_ne HI0.out HO111.out (by decide))); rintro e w20 ⟨rfl, hi, hb, hk⟩; refine ⟨_, rfl, ?_⟩; replace HO103 := am (Kd.R_mono (Kd.R_keep (IsS140.apart (show IsS140 w0 _ g s0_0 t108 from I140_0 HI0) (KR HO103) (by decide)) hk (fun _ h => h.2)) (fun _ h => h.1)); replace HO111 := am (Kd.R_mono (Kd.R_keep (IsS140.apart (show IsS140 w0 _ g s0_0 t108 from I140_0 HI0) (KR HO111) (by decide)) hk (fun _ h => h.2)) (fun _ h => h.1)); replace HK := am (KeepBut.trans (J0 HK) hk (.inl rfl)); replace HB := am (hb); replace HI0 := am (hi); (try clear hb); (try clear hk); (try clear hi); have p12 : 0 ≤ (t105 : Int) := OD; have q12 : (t105 : Int) < ((t101.length : Int) : Int) := OD; obtain ⟨go12, co12, eo12, gb12, gl12, cl12, HG12⟩ := Kd.R_form HO103.out (by omega); (first | cases eo12 | (injection eo12 with ea_ en_ ec_; (first | subst ea_ | (injection ea_ with ea_; subst ea_)); subst ec_; clear en_)); have GB12 := Aside0.mk gb12; have GG12 := Aside0.mk HG12; clear gb12 gl12 HG12; obtain ⟨ce12, hcl12, hM12, hcc12, hfr12⟩ := Kd.R_elem HO103.out z71 (t105 : Int) p12 q12; obtain rfl := k71_openM hM12; have hx12_0 : w20.cell? ⟨go12, (t105 : Int).toNat * 8, none⟩ = some (.int .i64 ((rd_T71 t101 t105).f0)) := hcc12 0 _ rfl; have hx12_1 : w20.cell? ⟨go12, (t105 : Int).toNat * 8 + 1, none⟩ = some (.int .i64 ((rd_T71 t101 t105).f1)) := hcc12 1 _ rfl; have hx12_2 : w20.cell? ⟨go12, (t105 : Int).toNat * 8 + 2, none⟩ = some (.int .i64 ((rd_T71 t101 t105).f2.f0)) := hcc12 2 _ rfl; have hx12_3 : w20.cell? ⟨go12, (t105 : Int).toNat * 8 + 3, none⟩ = some (.int .i64 ((rd_T71 t101 t105).f2.f1)) := hcc12 3 _ rfl; have hx12_4 : w20.cell? ⟨go12, (t105 : Int).toNat * 8 + 4, none⟩ = some (.int .i64 ((rd_T71 t101 t105).f3.f0)) := hcc12 4 _ rfl; have hx12_5 : w20.cell? ⟨go12, (t105 : Int).toNat * 8 + 5, none⟩ = some (.int .i64 ((rd_T71 t101 t105).f3.f1)) := hcc12 5 _ rfl; have hx12_6 : w20.cell? ⟨go12, (t105 : Int).toNat * 8 + 6, none⟩ = some (.int .i64 ((rd_T71 t101 t105).f4)) := hcc12 6 _ rfl; have hx12_7 : w20.cell? ⟨go12, (t105 : Int).toNat * 8 + 7, none⟩ = some (.int .i64 ((rd_T71 t101 t105).f5)) := hcc12 7 _ rfl; have hf12_0 : w20.frozen? ⟨go12, (t105 : Int).toNat * 8, none⟩ = false := hfr12 0; have hf12_1 : w20.frozen? ⟨go12, (t105 : Int).toNat * 8 + 1, none⟩ = false := hfr12 1; have hf12_2 : w20.frozen? ⟨go12, (t105 : Int).toNat * 8 + 2, none⟩ = false := hfr12 2; have hf12_3 : w20.frozen? ⟨go12, (t105 : Int).toNat * 8 + 3, none⟩ = false := hfr12 3; have hf12_4 : w20.frozen? ⟨go12, (t105 : Int).toNat * 8 + 4, none⟩ = false := hfr12 4; have hf12_5 : w20.frozen? ⟨go12, (t105 : Int).toNat * 8 + 5, none⟩ = false := hfr12 5; have hf12_6 : w20.frozen? ⟨go12, (t105 : Int).toNat * 8 + 6, none⟩ = false := hfr12 6; have hf12_7 : w20.frozen? ⟨go12, (t105 : Int).toNat * 8 + 7, none⟩ = false := hfr12 7; clear hcl12 hcc12 hfr12 hM12; replace p12 := eq_true p12; replace q12 := eq_true q12; have HX21 := am (show Kd.R k71 71 w20 w.heap.size (fun _ => True) (.slice (some ⟨go12, 0, none⟩) t101.length co14) t101 from (KR HO103)); obtain ⟨ce21, hcl21, hM21, hcc21, hfr21⟩ := Kd.R_elem HX21.out z71 (t105 : Int) (OD) (by have h_ : (t105 : Int) < ((t101.length : Int) : Int) := OD; first | exact h_ | (have e_ := (Kd.R_reads' HO103.out).1; omega) | simpa using h_); obtain rfl := k71_openM hM21; have HP21 := Kd.R_seg HX21.out (t105 : Int) (OD) (by have h_ : (t105 : Int) < ((t101.length : Int) : Int) := OD; first | exact h_ | (have e_ := (Kd.R_reads' HO103.out).1; omega) | simpa using h_) (seg := [.int .i64 t112]) (j := 0) hcl21 hcc21 (show 1 ≤ 8 from by decide) (x' := (⟨t112, (rd_T71 t101 t105).f1, (⟨(rd_T71 t101 t105).f2.f0, (rd_T71 t101 t105).f2.f1⟩ : S43), (⟨(rd_T71 t101 t105).f3.f0, (rd_T71 t101 t105).f3.f1⟩ : S43), (rd_T71 t101 t105).f4, (rd_T71 t101 t105).f5⟩ : S71)) (k71_mkM _ _ _ (⟨t112, (rd_T71 t101 t105).f1, (⟨(rd_T71 t101 t105).f2.f0, (rd_T71 t101 t105).f2.f1⟩ : S43), (⟨(rd_T71 t101 t105).f3.f0, (rd_T71 t101 t105).f3.f1⟩ : S43), (rd_T71 t101 t105).f4, (rd_T71 t101 t105).f5⟩ : S71) ) (fun _ hk => hk); have hx21_0 := hcc21 0 _ rfl; (try simp only [show (k71).sz = 8 from rfl, Nat.mul_one, Nat.add_zero] at hx21_0); have hf21_0 := hfr21 0; (try simp only [show (k71).sz = 8 from rfl, Nat.mul_one, Nat.add_zero] at hf21_0); clear hcl21 hcc21 hfr21 hM21) | ((with_reducible refine gate_store (t := 3) (p := 25) rfl ?_); refine store_event (t := 3) (p := 25) (v := ?vo_w22) (w1 := (w20.setCell ⟨go12, (t105 : Int).toNat * 8, none⟩ (.int .i64 t112))) ?hg ?ho ?hn ?hr ?_; (case ho => rfl); (case hg => rfl); (case hn => rfl); (case hr => first | (go_simp; done) | (go_simp; rfl)); intro w22 hw; have hg : w20.grownBy w22 (some go12) := (by rw [hw]; exact HP21.2); have hp_ : Kd.R k71 71 w22 w.heap.size (fun _ => True) (.slice (some ⟨go12, 0, none⟩) t101.length co14) y114 := (by rw [hw, Ny114.out]; exact HP21.1); clear HP21; replace HI0 := am (IsS140.grown (I140_0 HI0) hg (IsS140.own_ne HI0.out HO103.out (by decide))); replace HO111 := am (Kd.R_over' (v := (.slice (some ⟨go12, 0, none⟩) t101.length co14)) (KR HO111) (Kd.R_typed HO103.out) (by decide) hg); replace HB := am ((by rw [hw]; exact below_set (HB.out) (Nat.le_trans HL.out GB12.out) : Below w0.heap.size w0 w22)); replace HK := am (KeepBut.trans (J0 HK) (KeepBut.of_grown hg g) (Kd.R_base2 HO103.out)); replace HO103 := am (hp_); clear hg hw hp_))
     go_ret
     exact ⟨_, ER, by (with_reducible repeat (first | apply Kd.R_alloc | apply Kd.R_drewN | apply Kd.R_drew)); exact HO103.out, I140_0 HI0, K1 HB (IsS140.ge HI0.out), J0 HK⟩
    ·rw [if_neg c11] at H
     exact absurd H (by simp)
   ·rw [if_neg c10] at H
    exact absurd H (by simp)
  ·rw [if_neg c8] at H
   have c8b0 : (t107 == 0) = false := beq_eq_false_iff_ne.mpr c8
   have c8b1 : (t107 != 0) = true := bne_iff_ne.mpr c8
   by_cases c23 : t107 = 1
   ·rw [if_pos c23] at H
    have c23b0 : (t107 == 1) = true := beq_iff_eq.mpr c23
    have c23b1 : (t107 != 1) = false := bne_eq_false_iff_eq.mpr c23
    clear c23
    obtain ⟨y115, hy115⟩ : ∃ y_ : List Int, y_ = (([(-1), 4, 1] : List Int)) := ⟨_, rfl⟩
    replace H : ((spec_l1Rd_one.f k s0_0 t108 y115).bind fun bt118 => (if 0 ≤ t105 then (if t105 < (t101.length : Int) then (some ((t101.set (t105 : Int).toNat (⟨(rd_T71 t101 t105).f0, bt118.1, (⟨(rd_T71 t101 t105).f2.f0, (rd_T71 t101 t105).f2.f1⟩ : S43), (⟨(rd_T71 t101 t105).f3.f0, (rd_T71 t101 t105).f3.f1⟩ : S43), (rd_T71 t101 t105).f4, (rd_T71 t101 t105).f5⟩ : S71)), bt118.2)) else (none)) else (none))) = some (r1, r2) := by first | (rw [hy115]; with_reducible exact H) | (have H2_ := (Option.bind_some _ _).symm.trans H; rw [hy115]; with_reducible exact H2_) | (have H2_ := (Option.bind_some _ _).symm.trans H; with_reducible exact H2_) | with_reducible exact H | (rw [hy115]; exact H) | exact H
    have Ny115 := Aside0.mk hy115
    clear hy115
    replace H := Option.bind_eq_some_iff.mp H
    obtain ⟨⟨t118, t119⟩, A240, H⟩ := H
    replace H : (if 0 ≤ t105 then (if t105 < (t101.length : Int) then (some ((t101.set (t105 : Int).toNat (⟨(rd_T71 t101 t105).f0, t118, (⟨(rd_T71 t101 t105).f2.f0, (rd_T71 t101 t105).f2.f1⟩ : S43), (⟨(rd_T71 t101 t105).f3.f0, (rd_T71 t101 t105).f3.f1⟩ : S43), (rd_T71 t101 t105).f4, (rd_T71 t101 t105).f5⟩ : S71)), t119)) else (none)) else (none)) = some (r1, r2) := H
    have A24 := Aside0.mk A240
    clear A240
    by_cases c25 : 0 ≤ t105
    ·rw [if_pos c25] at H
     have c25b0 : decide (0 ≤ t105) = true := decide_eq_true c25
     clear c25
     by_cases c26 : t105 < (t101.length : Int)
     ·rw [if_pos c26] at H
      have c26b0 : decide (t105 < (t101.length : Int)) = true := decide_eq_true c26
      clear c26
      obtain ⟨y120, hy120⟩ : ∃ y_ : List (S71), y_ = (t101.set (t105 : Int).toNat (⟨(rd_T71 t101 t105).f0, t118, (⟨(rd_T71 t101 t105).f2.f0, (rd_T71 t101 t105).f2.f1⟩ : S43), (⟨(rd_T71 t101 t105).f3.f0, (rd_T71 t101 t105).f3.f1⟩ : S43), (rd_T71 t101 t105).f4, (rd_T71 t101 t105).f5⟩ : S71)) := ⟨_, rfl⟩
      replace H : (some (y120, t119)) = some (r1, r2) := by first | (rw [hy120]; with_reducible exact H) | (have H2_ := (Option.bind_some _ _).symm.trans H; rw [hy120]; with_reducible exact H2_) | (have H2_ := (Option.bind_some _ _).symm.trans H; with_reducible exact H2_) | with_reducible exact H | (rw [hy120]; exact H) | exact H
      have Ny120 := Aside0.mk hy120
      clear hy120
      simp only [Option.some.injEq, Prod.mk.injEq] at H
      obtain ⟨rfl, rfl⟩ := H
      go_enter Try.func95, Try.ntmps95
      go_wp2_with (first | ((with_reducible refine gate_callee (f := 132) rfl ?_); refine goesL_ (some 6) rfl rfl Try.func132 (by kernel_rfl) rfl #[.pointer (some ⟨g, 0, none⟩)] rfl MT ?_; (with_reducible refine (spec_l12Rules.calls k g s0_0 s0_1 t101 t104 w0 _ ?side1 ?side2 A2.out).mono ?_); (case side1 => exact I140_0 HI0); (case side2 => exact K1 HB (IsS140.ge HI0.out)); rintro e w28 ⟨v102, rfl, ho0, hi, hb, hk⟩; refine ⟨_, rfl, ?_⟩; have HO103 := am (Kd.R_lower ho0 (keep_size (w := w) (g := g) (row := none) (J0 HK))); replace HK := am (KeepBut.trans (J0 HK) hk (.inl rfl)); replace HB := am (hb); replace HI0 := am (hi); (try clear hb); (try clear hk); (try clear hi); (try clear ho0); obtain ⟨Ao29, co29, eo29⟩ := Kd.R_slice HO103.out; subst eo29) | ((with_reducible refine gate_callee (f := 69) rfl ?_); refine goesL_ (some 14) rfl rfl Try.func69 (by kernel_rfl) rfl #[.pointer (some ⟨g, 0, none⟩), .int .i64 (t101.length : Int)] rfl MT ?_; (with_reducible refine (spec_l1Rd_pick.calls k g s0_0 t104 (t101.length : Int) t105 t106 w0 _ ?side1 ?side2 A6.out).mono ?_); (case side1 => exact I140_0 HI0); (case side2 => exact K1 HB (IsS140.ge HI0.out)); rintro e w30 ⟨rfl, hi, hb, hk⟩; refine ⟨_, rfl, ?_⟩; replace HO103 := am (Kd.R_mono (Kd.R_keep (IsS140.apart (show IsS140 w0 _ g s0_0 t104 from I140_0 HI0) (KR HO103) (by decide)) hk (fun _ h => h.2)) (fun _ h => h.1)); replace HK := am (KeepBut.trans (J0 HK) hk (.inl rfl)); replace HB := am (hb); replace HI0 := am (hi); (try clear hb); (try clear hk); (try clear hi)) | ((with_reducible refine gate_callee (f := 69) rfl ?_); refine goesL_ (some 16) rfl rfl Try.func69 (by kernel_rfl) rfl #[.pointer (some ⟨g, 0, none⟩), .int .i64 20] rfl MT ?_; (with_reducible refine (spec_l1Rd_pick.calls k g s0_0 t106 20 t107 t108 w0 _ ?side1 ?side2 A7.out).mono ?_); (case side1 => exact I140_0 HI0); (case side2 => exact K1 HB (IsS140.ge HI0.out)); rintro e w31 ⟨rfl, hi, hb, hk⟩; refine ⟨_, rfl, ?_⟩; replace HO103 := am (Kd.R_mono (Kd.R_keep (IsS140.apart (show IsS140 w0 _ g s0_0 t106 from I140_0 HI0) (KR HO103) (by decide)) hk (fun _ h => h.2)) (fun _ h => h.1)); replace HK := am (KeepBut.trans (J0 HK) hk (.inl rfl)); replace HB := am (hb); replace HI0 := am (hi); (try clear hb); (try clear hk); (try clear hi)) | ((with_reducible refine gate_dst (N := 31) rfl ?_); refine Kd.R_lit (Kd.int .i64) _ 3 ?hg (N := 31) ?hd (xs := ([(-1), 4, 1] : List Int)) (inner := [.int .i64 (-1), .int .i64 4, .int .i64 1]) (ok := fun _ => True) (okp := fun _ => True) ?hr ?hp (fun _ hk => hk) trivial (Below.refl _ _) (Nat.le_refl _) (by simp) ?_; (case hd => rfl); (case hg => rfl); (case hr => first | (go_simp; done) | (go_simp; rfl)); (case hp => exact (Reps.one (show Kd.M (Kd.int .i64) _ _ _ (-1) [.int .i64 (-1)] from rfl) (Reps.one (show Kd.M (Kd.int .i64) _ _ _ 4 [.int .i64 4] from rfl) (Reps.one (show Kd.M (Kd.int .i64) _ _ _ 1 [.int .i64 1] from rfl) (Reps.none _ _))))); intro v116 w32 ho33 hb hg_ hnew_; clear hg_ hnew_; (first | rw [← Ny115.out] at ho33 | (simp only [Int.reduceToNat] at ho33; rw [← Ny115.out] at ho33)); replace HO103 := am (Kd.R_below (KR HO103) hb); have HO117 := am (Kd.R_lower ho33 (keep_size (w := w) (g := g) (row := none) (J0 HK))); replace HK := am (KeepBut.trans (J0 HK) (KeepBut.of_below hb g none) (.inl rfl)); replace HB := am (below_step (K1 HB (IsS140.ge HI0.out)) hb); replace HI0 := am (IsS140.below (I140_0 HI0) hb); clear hb ho33; obtain ⟨Ao34, co34, eo34⟩ := Kd.R_slice HO117.out; subst eo34) | ((with_reducible refine gate_callee (f := 115) rfl ?_); refine goesL_ (some 32) rfl rfl Try.func115 (by kernel_rfl) rfl #[.pointer (some ⟨g, 0, none⟩), .slice Ao34 y115.length co34] rfl MT ?_; (with_reducible refine (spec_l1Rd_one.calls k g s0_0 t108 _ _ y115 t118 t119 w0 _ ?side1 ?side2 ?side3 ?side4 ?side5 A24.out).mono ?_); (case side1 => exact I140_0 HI0); (case side2 => exact K1 HB (IsS140.ge HI0.out)); (case side3 => exact KC (Kd.R_reads' HO117.out).2.2); (case side4 => exact (Kd.R_reads' HO117.out).2.1); (case side5 => exact far_slice (IsS140.own_ne HI0.out HO117.out (by decide))); rintro e w35 ⟨rfl, hi, hb, hk⟩; refine ⟨_, rfl, ?_⟩; replace HO103 := am (Kd.R_mono (Kd.R_keep (IsS140.apart (show IsS140 w0 _ g s0_0 t108 from I140_0 HI0) (KR HO103) (by decide)) hk (fun _ h => h.2)) (fun _ h => h.1)); replace HO117 := am (Kd.R_mono (Kd.R_keep (IsS140.apart (show IsS140 w0 _ g s0_0 t108 from I140_0 HI0) (KR HO117) (by decide)) hk (fun _ h => h.2)) (fun _ h => h.1)); replace HK := am (KeepBut.trans (J0 HK) hk (.inl rfl)); replace HB := am (hb); replace HI0 := am (hi); (try clear hb); (try clear hk); (try clear hi); have p27 : 0 ≤ (t105 : Int) := OD; have q27 : (t105 : Int) < ((t101.length : Int) : Int) := OD; obtain ⟨go27, co27, eo27, gb27, gl27, cl27, HG27⟩ := Kd.R_form HO103.out (by omega); (first | cases eo27 | (injection eo27 with ea_ en_ ec_; (first | subst ea_ | (injection ea_ with ea_; subst ea_)); subst ec_; clear en_)); have GB27 := Aside0.mk gb27; have GG27 := Aside0.mk HG27; clear gb27 gl27 HG27; obtain ⟨ce27, hcl27, hM27, hcc27, hfr27⟩ := Kd.R_elem HO103.out z71 (t105 : Int) p27 q27; obtain rfl := k71_openM hM27; have hx27_0 : w35.cell? ⟨go27, (t105 : Int).toNat * 8, none⟩ = some (.int .i64 ((rd_T71 t101 t105).f0)) := hcc27 0 _ rfl; have hx27_1 : w35.cell? ⟨go27, (t105 : Int).toNat * 8 + 1, none⟩ = some (.int .i64 ((rd_T71 t101 t105).f1)) := hcc27 1 _ rfl; have hx27_2 : w35.cell? ⟨go27, (t105 : Int).toNat * 8 + 2, none⟩ = some (.int .i64 ((rd_T71 t101 t105).f2.f0)) := hcc27 2 _ rfl; have hx27_3 : w35.cell? ⟨go27, (t105 : Int).toNat * 8 + 3, none⟩ = some (.int .i64 ((rd_T71 t101 t105).f2.f1)) := hcc27 3 _ rfl; have hx27_4 : w35.cell? ⟨go27, (t105 : Int).toNat * 8 + 4, none⟩ = some (.int .i64 ((rd_T71 t101 t105).f3.f0)) := hcc27 4 _ rfl; have hx27_5 : w35.cell? ⟨go27, (t105 : Int).toNat * 8 + 5, none⟩ = some (.int .i64 ((rd_T71 t101 t105).f3.f1)) := hcc27 5 _ rfl; have hx27_6 : w35.cell? ⟨go27, (t105 : Int).toNat * 8 + 6, none⟩ = some (.int .i64 ((rd_T71 t101 t105).f4)) := hcc27 6 _ rfl; have hx27_7 : w35.cell? ⟨go27, (t105 : Int).toNat * 8 + 7, none⟩ = some (.int .i64 ((rd_T71 t101 t105).f5)) := hcc27 7 _ rfl; have hf27_0 : w35.frozen? ⟨go27, (t105 : Int).toNat * 8, none⟩ = false := hfr27 0; have hf27_1 : w35.frozen? ⟨go27, (t105 : Int).toNat * 8 + 1, none⟩ = false := hfr27 1; have hf27_2 : w35.frozen? ⟨go27, (t105 : Int).toNat * 8 + 2, none⟩ = false := hfr27 2; have hf27_3 : w35.frozen? ⟨go27, (t105 : Int).toNat * 8 + 3, none⟩ = false := hfr27 3; have hf27_4 : w35.frozen? ⟨go27, (t105 : Int).toNat * 8 + 4, none⟩ = false := hfr27 4; have hf27_5 : w35.frozen? ⟨go27, (t105 : Int).toNat * 8 + 5, none⟩ = false := hfr27 5; have hf27_6 : w35.frozen? ⟨go27, (t105 : Int).toNat * 8 + 6, none⟩ = false := hfr27 6; have hf27_7 : w35.frozen? ⟨go27, (t105 : Int).toNat * 8 + 7, none⟩ = false := hfr27 7; clear hcl27 hcc27 hfr27 hM27; replace p27 := eq_true p27; replace q27 := eq_true q27; have HX36 := am (show Kd.R k71 71 w35 w.heap.size (fun _ => True) (.slice (some ⟨go27, 0, none⟩) t101.length co29) t101 from (KR HO103)); obtain ⟨ce36, hcl36, hM36, hcc36, hfr36⟩ := Kd.R_elem HX36.out z71 (t105 : Int) (OD) (by have h_ : (t105 : Int) < ((t101.length : Int) : Int) := OD; first | exact h_ | (have e_ := (Kd.R_reads' HO103.out).1; omega) | simpa using h_); obtain rfl := k71_openM hM36; have HP36 := Kd.R_seg HX36.out (t105 : Int) (OD) (by have h_ : (t105 : Int) < ((t101.length : Int) : Int) := OD; first | exact h_ | (have e_ := (Kd.R_reads' HO103.out).1; omega) | simpa using h_) (seg := [.int .i64 t118]) (j := 1) hcl36 hcc36 (show 2 ≤ 8 from by decide) (x' := (⟨(rd_T71 t101 t105).f0, t118, (⟨(rd_T71 t101 t105).f2.f0, (rd_T71 t101 t105).f2.f1⟩ : S43), (⟨(rd_T71 t101 t105).f3.f0, (rd_T71 t101 t105).f3.f1⟩ : S43), (rd_T71 t101 t105).f4, (rd_T71 t101 t105).f5⟩ : S71)) (k71_mkM _ _ _ (⟨(rd_T71 t101 t105).f0, t118, (⟨(rd_T71 t101 t105).f2.f0, (rd_T71 t101 t105).f2.f1⟩ : S43), (⟨(rd_T71 t101 t105).f3.f0, (rd_T71 t101 t105).f3.f1⟩ : S43), (rd_T71 t101 t105).f4, (rd_T71 t101 t105).f5⟩ : S71) ) (fun _ hk => hk); have hx36_1 := hcc36 1 _ rfl; (try simp only [show (k71).sz = 8 from rfl, Nat.mul_one, Nat.add_zero] at hx36_1); have hf36_1 := hfr36 1; (try simp only [show (k71).sz = 8 from rfl, Nat.mul_one, Nat.add_zero] at hf36_1); clear hcl36 hcc36 hfr36 hM36) | ((with_reducible refine gate_store (t := 3) (p := 34) rfl ?_); refine store_event (t := 3) (p := 34) (v := ?vo_w37) (w1 := (w35.setCell ⟨go27, (t105 : Int).toNat * 8 + 1, none⟩ (.int .i64 t118))) ?hg ?ho ?hn ?hr ?_; (case ho => rfl); (case hg => rfl); (case hn => rfl); (case hr => first | (go_simp; done) | (go_simp; rfl)); intro w37 hw; have hg : w35.grownBy w37 (some go27) := (by rw [hw]; exact HP36.2); have hp_ : Kd.R k71 71 w37 w.heap.size (fun _ => True) (.slice (some ⟨go27, 0, none⟩) t101.length co29) y120 := (by rw [hw, Ny120.out]; exact HP36.1); clear HP36; replace HI0 := am (IsS140.grown (I140_0 HI0) hg (IsS140.own_ne HI0.out HO103.out (by decide))); replace HO117 := am (Kd.R_over' (v := (.slice (some ⟨go27, 0, none⟩) t101.length co29)) (KR HO117) (Kd.R_typed HO103.out) (by decide) hg); replace HB := am ((by rw [hw]; exact below_set (HB.out) (Nat.le_trans HL.out GB27.out) : Below w0.heap.size w0 w37)); replace HK := am (KeepBut.trans (J0 HK) (KeepBut.of_grown hg g) (Kd.R_base2 HO103.out)); replace HO103 := am (hp_); clear hg hw hp_))
      go_ret
      exact ⟨_, ER, by (with_reducible repeat (first | apply Kd.R_alloc | apply Kd.R_drewN | apply Kd.R_drew)); exact HO103.out, I140_0 HI0, K1 HB (IsS140.ge HI0.out), J0 HK⟩
     ·rw [if_neg c26] at H
      exact absurd H (by simp)
    ·rw [if_neg c25] at H
     exact absurd H (by simp)
   ·rw [if_neg c23] at H
    have c23b0 : (t107 == 1) = false := beq_eq_false_iff_ne.mpr c23
    have c23b1 : (t107 != 1) = true := bne_iff_ne.mpr c23
    by_cases c38 : t107 = 2
    ·rw [if_pos c38] at H
     have c38b0 : (t107 == 2) = true := beq_iff_eq.mpr c38
     have c38b1 : (t107 != 2) = false := bne_eq_false_iff_eq.mpr c38
     clear c38
     obtain ⟨y121, hy121⟩ : ∃ y_ : List Int, y_ = (([(-1), 65536] : List Int)) := ⟨_, rfl⟩
     replace H : ((spec_l1Rd_one.f k s0_0 t108 y121).bind fun bt124 => (if 0 ≤ t105 then (if t105 < (t101.length : Int) then (some ((t101.set (t105 : Int).toNat (⟨(rd_T71 t101 t105).f0, (rd_T71 t101 t105).f1, (⟨(rd_T71 t101 t105).f2.f0, (rd_T71 t101 t105).f2.f1⟩ : S43), (⟨(rd_T71 t101 t105).f3.f0, (rd_T71 t101 t105).f3.f1⟩ : S43), bt124.1, (rd_T71 t101 t105).f5⟩ : S71)), bt124.2)) else (none)) else (none))) = some (r1, r2) := by first | (rw [hy121]; with_reducible exact H) | (have H2_ := (Option.bind_some _ _).symm.trans H; rw [hy121]; with_reducible exact H2_) | (have H2_ := (Option.bind_some _ _).symm.trans H; with_reducible exact H2_) | with_reducible exact H | (rw [hy121]; exact H) | exact H
     have Ny121 := Aside0.mk hy121
     clear hy121
     replace H := Option.bind_eq_some_iff.mp H
     obtain ⟨⟨t124, t125⟩, A390, H⟩ := H
     replace H : (if 0 ≤ t105 then (if t105 < (t101.length : Int) then (some ((t101.set (t105 : Int).toNat (⟨(rd_T71 t101 t105).f0, (rd_T71 t101 t105).f1, (⟨(rd_T71 t101 t105).f2.f0, (rd_T71 t101 t105).f2.f1⟩ : S43), (⟨(rd_T71 t101 t105).f3.f0, (rd_T71 t101 t105).f3.f1⟩ : S43), t124, (rd_T71 t101 t105).f5⟩ : S71)), t125)) else (none)) else (none)) = some (r1, r2) := H
     have A39 := Aside0.mk A390
     clear A390
     by_cases c40 : 0 ≤ t105
     ·rw [if_pos c40] at H
      have c40b0 : decide (0 ≤ t105) = true := decide_eq_true c40
      clear c40
      by_cases c41 : t105 < (t101.length : Int)
      ·rw [if_pos c41] at H
       have c41b0 : decide (t105 < (t101.length : Int)) = true := decide_eq_true c41
       clear c41
       obtain ⟨y126, hy126⟩ : ∃ y_ : List (S71), y_ = (t101.set (t105 : Int).toNat (⟨(rd_T71 t101 t105).f0, (rd_T71 t101 t105).f1, (⟨(rd_T71 t101 t105).f2.f0, (rd_T71 t101 t105).f2.f1⟩ : S43), (⟨(rd_T71 t101 t105).f3.f0, (rd_T71 t101 t105).f3.f1⟩ : S43), t124, (rd_T71 t101 t105).f5⟩ : S71)) := ⟨_, rfl⟩
       replace H : (some (y126, t125)) = some (r1, r2) := by first | (rw [hy126]; with_reducible exact H) | (have H2_ := (Option.bind_some _ _).symm.trans H; rw [hy126]; with_reducible exact H2_) | (have H2_ := (Option.bind_some _ _).symm.trans H; with_reducible exact H2_) | with_reducible exact H | (rw [hy126]; exact H) | exact H
       have Ny126 := Aside0.mk hy126
       clear hy126
       simp only [Option.some.injEq, Prod.mk.injEq] at H
       obtain ⟨rfl, rfl⟩ := H
       go_enter Try.func95, Try.ntmps95
       go_wp2_with (first | ((with_reducible refine gate_callee (f := 132) rfl ?_); refine goesL_ (some 6) rfl rfl Try.func132 (by kernel_rfl) rfl #[.pointer (some ⟨g, 0, none⟩)] rfl MT ?_; (with_reducible refine (spec_l12Rules.calls k g s0_0 s0_1 t101 t104 w0 _ ?side1 ?side2 A2.out).mono ?_); (case side1 => exact I140_0 HI0); (case side2 => exact K1 HB (IsS140.ge HI0.out)); rintro e w43 ⟨v102, rfl, ho0, hi, hb, hk⟩; refine ⟨_, rfl, ?_⟩; have HO103 := am (Kd.R_lower ho0 (keep_size (w := w) (g := g) (row := none) (J0 HK))); replace HK := am (KeepBut.trans (J0 HK) hk (.inl rfl)); replace HB := am (hb); replace HI0 := am (hi); (try clear hb); (try clear hk); (try clear hi); (try clear ho0); obtain ⟨Ao44, co44, eo44⟩ := Kd.R_slice HO103.out; subst eo44) | ((with_reducible refine gate_callee (f := 69) rfl ?_); refine goesL_ (some 14) rfl rfl Try.func69 (by kernel_rfl) rfl #[.pointer (some ⟨g, 0, none⟩), .int .i64 (t101.length : Int)] rfl MT ?_; (with_reducible refine (spec_l1Rd_pick.calls k g s0_0 t104 (t101.length : Int) t105 t106 w0 _ ?side1 ?side2 A6.out).mono ?_); (case side1 => exact I140_0 HI0); (case side2 => exact K1 HB (IsS140.ge HI0.out)); rintro e w45 ⟨rfl, hi, hb, hk⟩; refine ⟨_, rfl, ?_⟩; replace HO103 := am (Kd.R_mono (Kd.R_keep (IsS140.apart (show IsS140 w0 _ g s0_0 t104 from I140_0 HI0) (KR HO103) (by decide)) hk (fun _ h => h.2)) (fun _ h => h.1)); replace HK := am (KeepBut.trans (J0 HK) hk (.inl rfl)); replace HB := am (hb); replace HI0 := am (hi); (try clear hb); (try clear hk); (try clear hi)) | ((with_reducible refine gate_callee (f := 69) rfl ?_); refine goesL_ (some 16) rfl rfl Try.func69 (by kernel_rfl) rfl #[.pointer (some ⟨g, 0, none⟩), .int .i64 20] rfl MT ?_; (with_reducible refine (spec_l1Rd_pick.calls k g s0_0 t106 20 t107 t108 w0 _ ?side1 ?side2 A7.out).mono ?_); (case side1 => exact I140_0 HI0); (case side2 => exact K1 HB (IsS140.ge HI0.out)); rintro e w46 ⟨rfl, hi, hb, hk⟩; refine ⟨_, rfl, ?_⟩; replace HO103 := am (Kd.R_mono (Kd.R_keep (IsS140.apart (show IsS140 w0 _ g s0_0 t106 from I140_0 HI0) (KR HO103) (by decide)) hk (fun _ h => h.2)) (fun _ h => h.1)); replace HK := am (KeepBut.trans (J0 HK) hk (.inl rfl)); replace HB := am (hb); replace HI0 := am (hi); (try clear hb); (try clear hk); (try clear hi)) | ((with_reducible refine gate_dst (N := 40) rfl ?_); refine Kd.R_lit (Kd.int .i64) _ 3 ?hg (N := 40) ?hd (xs := ([(-1), 65536] : List Int)) (inner := [.int .i64 (-1), .int .i64 65536]) (ok := fun _ => True) (okp := fun _ => True) ?hr ?hp (fun _ hk => hk) trivial (Below.refl _ _) (Nat.le_refl _) (by simp) ?_; (case hd => rfl); (case hg => rfl); (case hr => first | (go_simp; done) | (go_simp; rfl)); (case hp => exact (Reps.one (show Kd.M (Kd.int .i64) _ _ _ (-1) [.int .i64 (-1)] from rfl) (Reps.one (show Kd.M (Kd.int .i64) _ _ _ 65536 [.int .i64 65536] from rfl) (Reps.none _ _)))); intro v122 w47 ho48 hb hg_ hnew_; clear hg_ hnew_; (first | rw [← Ny121.out] at ho48 | (simp only [Int.reduceToNat] at ho48; rw [← Ny121.out] at ho48)); replace HO103 := am (Kd.R_below (KR HO103) hb); have HO123 := am (Kd.R_lower ho48 (keep_size (w := w) (g := g) (row := none) (J0 HK))); replace HK := am (KeepBut.trans (J0 HK) (KeepBut.of_below hb g none) (.inl rfl)); replace HB := am (below_step (K1 HB (IsS140.ge HI0.out)) hb); replace HI0 := am (IsS140.below (I140_0 HI0) hb); clear hb ho48; obtain ⟨Ao49, co49, eo49⟩ := Kd.R_slice HO123.out; subst eo49) | ((with_reducible refine gate_callee (f := 115) rfl ?_); refine goesL_ (some 41) rfl rfl Try.func115 (by kernel_rfl) rfl #[.pointer (some ⟨g, 0, none⟩), .slice Ao49 y121.length co49] rfl MT ?_; (with_reducible refine (spec_l1Rd_one.calls k g s0_0 t108 _ _ y121 t124 t125 w0 _ ?side1 ?side2 ?side3 ?side4 ?side5 A39.out).mono ?_); (case side1 => exact I140_0 HI0); (case side2 => exact K1 HB (IsS140.ge HI0.out)); (case side3 => exact KC (Kd.R_reads' HO123.out).2.2); (case side4 => exact (Kd.R_reads' HO123.out).2.1); (case side5 => exact far_slice (IsS140.own_ne HI0.out HO123.out (by decide))); rintro e w50 ⟨rfl, hi, hb, hk⟩; refine ⟨_, rfl, ?_⟩; replace HO103 := am (Kd.R_mono (Kd.R_keep (IsS140.apart (show IsS140 w0 _ g s0_0 t108 from I140_0 HI0) (KR HO103) (by decide)) hk (fun _ h => h.2)) (fun _ h => h.1)); replace HO123 := am (Kd.R_mono (Kd.R_keep (IsS140.apart (show IsS140 w0 _ g s0_0 t108 from I140_0 HI0) (KR HO123) (by decide)) hk (fun _ h => h.2)) (fun _ h => h.1)); replace HK := am (KeepBut.trans (J0 HK) hk (.inl rfl)); replace HB := am (hb); replace HI0 := am (hi); (try clear hb); (try clear hk); (try clear hi); have p42 : 0 ≤ (t105 : Int) := OD; have q42 : (t105 : Int) < ((t101.length : Int) : Int) := OD; obtain ⟨go42, co42, eo42, gb42, gl42, cl42, HG42⟩ := Kd.R_form HO103.out (by omega); (first | cases eo42 | (injection eo42 with ea_ en_ ec_; (first | subst ea_ | (injection ea_ with ea_; subst ea_)); subst ec_; clear en_)); have GB42 := Aside0.mk gb42; have GG42 := Aside0.mk HG42; clear gb42 gl42 HG42; obtain ⟨ce42, hcl42, hM42, hcc42, hfr42⟩ := Kd.R_elem HO103.out z71 (t105 : Int) p42 q42; obtain rfl := k71_openM hM42; have hx42_0 : w50.cell? ⟨go42, (t105 : Int).toNat * 8, none⟩ = some (.int .i64 ((rd_T71 t101 t105).f0)) := hcc42 0 _ rfl; have hx42_1 : w50.cell? ⟨go42, (t105 : Int).toNat * 8 + 1, none⟩ = some (.int .i64 ((rd_T71 t101 t105).f1)) := hcc42 1 _ rfl; have hx42_2 : w50.cell? ⟨go42, (t105 : Int).toNat * 8 + 2, none⟩ = some (.int .i64 ((rd_T71 t101 t105).f2.f0)) := hcc42 2 _ rfl; have hx42_3 : w50.cell? ⟨go42, (t105 : Int).toNat * 8 + 3, none⟩ = some (.int .i64 ((rd_T71 t101 t105).f2.f1)) := hcc42 3 _ rfl; have hx42_4 : w50.cell? ⟨go42, (t105 : Int).toNat * 8 + 4, none⟩ = some (.int .i64 ((rd_T71 t101 t105).f3.f0)) := hcc42 4 _ rfl; have hx42_5 : w50.cell? ⟨go42, (t105 : Int).toNat * 8 + 5, none⟩ = some (.int .i64 ((rd_T71 t101 t105).f3.f1)) := hcc42 5 _ rfl; have hx42_6 : w50.cell? ⟨go42, (t105 : Int).toNat * 8 + 6, none⟩ = some (.int .i64 ((rd_T71 t101 t105).f4)) := hcc42 6 _ rfl; have hx42_7 : w50.cell? ⟨go42, (t105 : Int).toNat * 8 + 7, none⟩ = some (.int .i64 ((rd_T71 t101 t105).f5)) := hcc42 7 _ rfl; have hf42_0 : w50.frozen? ⟨go42, (t105 : Int).toNat * 8, none⟩ = false := hfr42 0; have hf42_1 : w50.frozen? ⟨go42, (t105 : Int).toNat * 8 + 1, none⟩ = false := hfr42 1; have hf42_2 : w50.frozen? ⟨go42, (t105 : Int).toNat * 8 + 2, none⟩ = false := hfr42 2; have hf42_3 : w50.frozen? ⟨go42, (t105 : Int).toNat * 8 + 3, none⟩ = false := hfr42 3; have hf42_4 : w50.frozen? ⟨go42, (t105 : Int).toNat * 8 + 4, none⟩ = false := hfr42 4; have hf42_5 : w50.frozen? ⟨go42, (t105 : Int).toNat * 8 + 5, none⟩ = false := hfr42 5; have hf42_6 : w50.frozen? ⟨go42, (t105 : Int).toNat * 8 + 6, none⟩ = false := hfr42 6; have hf42_7 : w50.frozen? ⟨go42, (t105 : Int).toNat * 8 + 7, none⟩ = false := hfr42 7; clear hcl42 hcc42 hfr42 hM42; replace p42 := eq_true p42; replace q42 := eq_true q42; have HX51 := am (show Kd.R k71 71 w50 w.heap.size (fun _ => True) (.slice (some ⟨go42, 0, none⟩) t101.length co44) t101 from (KR HO103)); obtain ⟨ce51, hcl51, hM51, hcc51, hfr51⟩ := Kd.R_elem HX51.out z71 (t105 : Int) (OD) (by have h_ : (t105 : Int) < ((t101.length : Int) : Int) := OD; first | exact h_ | (have e_ := (Kd.R_reads' HO103.out).1; omega) | simpa using h_); obtain rfl := k71_openM hM51; have HP51 := Kd.R_seg HX51.out (t105 : Int) (OD) (by have h_ : (t105 : Int) < ((t101.length : Int) : Int) := OD; first | exact h_ | (have e_ := (Kd.R_reads' HO103.out).1; omega) | simpa using h_) (seg := [.int .i64 t124]) (j := 6) hcl51 hcc51 (show 7 ≤ 8 from by decide) (x' := (⟨(rd_T71 t101 t105).f0, (rd_T71 t101 t105).f1, (⟨(rd_T71 t101 t105).f2.f0, (rd_T71 t101 t105).f2.f1⟩ : S43), (⟨(rd_T71 t101 t105).f3.f0, (rd_T71 t101 t105).f3.f1⟩ : S43), t124, (rd_T71 t101 t105).f5⟩ : S71)) (k71_mkM _ _ _ (⟨(rd_T71 t101 t105).f0, (rd_T71 t101 t105).f1, (⟨(rd_T71 t101 t105).f2.f0, (rd_T71 t101 t105).f2.f1⟩ : S43), (⟨(rd_T71 t101 t105).f3.f0, (rd_T71 t101 t105).f3.f1⟩ : S43), t124, (rd_T71 t101 t105).f5⟩ : S71) ) (fun _ hk => hk); have hx51_6 := hcc51 6 _ rfl; (try simp only [show (k71).sz = 8 from rfl, Nat.mul_one, Nat.add_zero] at hx51_6); have hf51_6 := hfr51 6; (try simp only [show (k71).sz = 8 from rfl, Nat.mul_one, Nat.add_zero] at hf51_6); clear hcl51 hcc51 hfr51 hM51) | ((with_reducible refine gate_store (t := 3) (p := 43) rfl ?_); refine store_event (t := 3) (p := 43) (v := ?vo_w52) (w1 := (w50.setCell ⟨go42, (t105 : Int).toNat * 8 + 6, none⟩ (.int .i64 t124))) ?hg ?ho ?hn ?hr ?_; (case ho => rfl); (case hg => rfl); (case hn => rfl); (case hr => first | (go_simp; done) | (go_simp; rfl)); intro w52 hw; have hg : w50.grownBy w52 (some go42) := (by rw [hw]; exact HP51.2); have hp_ : Kd.R k71 71 w52 w.heap.size (fun _ => True) (.slice (some ⟨go42, 0, none⟩) t101.length co44) y126 := (by rw [hw, Ny126.out]; exact HP51.1); clear HP51; replace HI0 := am (IsS140.grown (I140_0 HI0) hg (IsS140.own_ne HI0.out HO103.out (by decide))); replace HO123 := am (Kd.R_over' (v := (.slice (some ⟨go42, 0, none⟩) t101.length co44)) (KR HO123) (Kd.R_typed HO103.out) (by decide) hg); replace HB := am ((by rw [hw]; exact below_set (HB.out) (Nat.le_trans HL.out GB42.out) : Below w0.heap.size w0 w52)); replace HK := am (KeepBut.trans (J0 HK) (KeepBut.of_grown hg g) (Kd.R_base2 HO103.out)); replace HO103 := am (hp_); clear hg hw hp_))
       go_ret
       exact ⟨_, ER, by (with_reducible repeat (first | apply Kd.R_alloc | apply Kd.R_drewN | apply Kd.R_drew)); exact HO103.out, I140_0 HI0, K1 HB (IsS140.ge HI0.out), J0 HK⟩
      ·rw [if_neg c41] at H
       exact absurd H (by simp)
     ·rw [if_neg c40] at H
      exact absurd H (by simp)
    ·rw [if_neg c38] at H
     have c38b0 : (t107 == 2) = false := beq_eq_false_iff_ne.mpr c38
     have c38b1 : (t107 != 2) = true := bne_iff_ne.mpr c38
     by_cases c53 : t107 = 3
     ·rw [if_pos c53] at H
      have c53b0 : (t107 == 3) = true := beq_iff_eq.mpr c53
      have c53b1 : (t107 != 3) = false := bne_eq_false_iff_eq.mpr c53
      clear c53
      replace H := Option.bind_eq_some_iff.mp H
      obtain ⟨⟨t127, t128, t129⟩, A540, H⟩ := H
      replace H : (if 0 ≤ t105 then (if t105 < (t101.length : Int) then (some ((t101.set (t105 : Int).toNat (⟨(rd_T71 t101 t105).f0, (rd_T71 t101 t105).f1, (⟨t127, t128⟩ : S43), (⟨(rd_T71 t101 t105).f3.f0, (rd_T71 t101 t105).f3.f1⟩ : S43), (rd_T71 t101 t105).f4, (rd_T71 t101 t105).f5⟩ : S71)), t129)) else (none)) else (none)) = some (r1, r2) := H
      have A54 := Aside0.mk A540
      clear A540
      by_cases c55 : 0 ≤ t105
      ·rw [if_pos c55] at H
       have c55b0 : decide (0 ≤ t105) = true := decide_eq_true c55
       clear c55
       by_cases c56 : t105 < (t101.length : Int)
       ·rw [if_pos c56] at H
        have c56b0 : decide (t105 < (t101.length : Int)) = true := decide_eq_true c56
        clear c56
        obtain ⟨y130, hy130⟩ : ∃ y_ : List (S71), y_ = (t101.set (t105 : Int).toNat (⟨(rd_T71 t101 t105).f0, (rd_T71 t101 t105).f1, (⟨t127, t128⟩ : S43), (⟨(rd_T71 t101 t105).f3.f0, (rd_T71 t101 t105).f3.f1⟩ : S43), (rd_T71 t101 t105).f4, (rd_T71 t101 t105).f5⟩ : S71)) := ⟨_, rfl⟩
        replace H : (some (y130, t129)) = some (r1, r2) := by first | (rw [hy130]; with_reducible exact H) | (have H2_ := (Option.bind_some _ _).symm.trans H; rw [hy130]; with_reducible exact H2_) | (have H2_ := (Option.bind_some _ _).symm.trans H; with_reducible exact H2_) | with_reducible exact H | (rw [hy130]; exact H) | exact H
        have Ny130 := Aside0.mk hy130
        clear hy130
        simp only [Option.some.injEq, Prod.mk.injEq] at H
        obtain ⟨rfl, rfl⟩ := H
        go_enter Try.func95, Try.ntmps95
        go_wp2_with (first | ((with_reducible refine gate_callee (f := 132) rfl ?_); refine goesL_ (some 6) rfl rfl Try.func132 (by kernel_rfl) rfl #[.pointer (some ⟨g, 0, none⟩)] rfl MT ?_; (with_reducible refine (spec_l12Rules.calls k g s0_0 s0_1 t101 t104 w0 _ ?side1 ?side2 A2.out).mono ?_); (case side1 => exact I140_0 HI0); (case side2 => exact K1 HB (IsS140.ge HI0.out)); rintro e w58 ⟨v102, rfl, ho0, hi, hb, hk⟩; refine ⟨_, rfl, ?_⟩; have HO103 := am (Kd.R_lower ho0 (keep_size (w := w) (g := g) (row := none) (J0 HK))); replace HK := am (KeepBut.trans (J0 HK) hk (.inl rfl)); replace HB := am (hb); replace HI0 := am (hi); (try clear hb); (try clear hk); (try clear hi); (try clear ho0); obtain ⟨Ao59, co59, eo59⟩ := Kd.R_slice HO103.out; subst eo59) | ((with_reducible refine gate_callee (f := 69) rfl ?_); refine goesL_ (some 14) rfl rfl Try.func69 (by kernel_rfl) rfl #[.pointer (some ⟨g, 0, none⟩), .int .i64 (t101.length : Int)] rfl MT ?_; (with_reducible refine (spec_l1Rd_pick.calls k g s0_0 t104 (t101.length : Int) t105 t106 w0 _ ?side1 ?side2 A6.out).mono ?_); (case side1 => exact I140_0 HI0); (case side2 => exact K1 HB (IsS140.ge HI0.out)); rintro e w60 ⟨rfl, hi, hb, hk⟩; refine ⟨_, rfl, ?_⟩; replace HO103 := am (Kd.R_mono (Kd.R_keep (IsS140.apart (show IsS140 w0 _ g s0_0 t104 from I140_0 HI0) (KR HO103) (by decide)) hk (fun _ h => h.2)) (fun _ h => h.1)); replace HK := am (KeepBut.trans (J0 HK) hk (.inl rfl)); replace HB := am (hb); replace HI0 := am (hi); (try clear hb); (try clear hk); (try clear hi)) | ((with_reducible refine gate_callee (f := 69) rfl ?_); refine goesL_ (some 16) rfl rfl Try.func69 (by kernel_rfl) rfl #[.pointer (some ⟨g, 0, none⟩), .int .i64 20] rfl MT ?_; (with_reducible refine (spec_l1Rd_pick.calls k g s0_0 t106 20 t107 t108 w0 _ ?side1 ?side2 A7.out).mono ?_); (case side1 => exact I140_0 HI0); (case side2 => exact K1 HB (IsS140.ge HI0.out)); rintro e w61 ⟨rfl, hi, hb, hk⟩; refine ⟨_, rfl, ?_⟩; replace HO103 := am (Kd.R_mono (Kd.R_keep (IsS140.apart (show IsS140 w0 _ g s0_0 t106 from I140_0 HI0) (KR HO103) (by decide)) hk (fun _ h => h.2)) (fun _ h => h.1)); replace HK := am (KeepBut.trans (J0 HK) hk (.inl rfl)); replace HB := am (hb); replace HI0 := am (hi); (try clear hb); (try clear hk); (try clear hi)) | ((with_reducible refine gate_callee (f := 116) rfl ?_); refine goesL_ (some 49) rfl rfl Try.func116 (by kernel_rfl) rfl #[.pointer (some ⟨g, 0, none⟩)] rfl MT ?_; (with_reducible refine (spec_l12AnyBlock.calls k g s0_0 t108 t127 t128 t129 w0 _ ?side1 ?side2 A54.out).mono ?_); (case side1 => exact I140_0 HI0); (case side2 => exact K1 HB (IsS140.ge HI0.out)); rintro e w62 ⟨rfl, hi, hb, hk⟩; refine ⟨_, rfl, ?_⟩; replace HO103 := am (Kd.R_mono (Kd.R_keep (IsS140.apart (show IsS140 w0 _ g s0_0 t108 from I140_0 HI0) (KR HO103) (by decide)) hk (fun _ h => h.2)) (fun _ h => h.1)); replace HK := am (KeepBut.trans (J0 HK) hk (.inl rfl)); replace HB := am (hb); replace HI0 := am (hi); (try clear hb); (try clear hk); (try clear hi); have p57 : 0 ≤ (t105 : Int) := OD; have q57 : (t105 : Int) < ((t101.length : Int) : Int) := OD; obtain ⟨go57, co57, eo57, gb57, gl57, cl57, HG57⟩ := Kd.R_form HO103.out (by omega); (first | cases eo57 | (injection eo57 with ea_ en_ ec_; (first | subst ea_ | (injection ea_ with ea_; subst ea_)); subst ec_; clear en_)); have GB57 := Aside0.mk gb57; have GG57 := Aside0.mk HG57; clear gb57 gl57 HG57; obtain ⟨ce57, hcl57, hM57, hcc57, hfr57⟩ := Kd.R_elem HO103.out z71 (t105 : Int) p57 q57; obtain rfl := k71_openM hM57; have hx57_0 : w62.cell? ⟨go57, (t105 : Int).toNat * 8, none⟩ = some (.int .i64 ((rd_T71 t101 t105).f0)) := hcc57 0 _ rfl; have hx57_1 : w62.cell? ⟨go57, (t105 : Int).toNat * 8 + 1, none⟩ = some (.int .i64 ((rd_T71 t101 t105).f1)) := hcc57 1 _ rfl; have hx57_2 : w62.cell? ⟨go57, (t105 : Int).toNat * 8 + 2, none⟩ = some (.int .i64 ((rd_T71 t101 t105).f2.f0)) := hcc57 2 _ rfl; have hx57_3 : w62.cell? ⟨go57, (t105 : Int).toNat * 8 + 3, none⟩ = some (.int .i64 ((rd_T71 t101 t105).f2.f1)) := hcc57 3 _ rfl; have hx57_4 : w62.cell? ⟨go57, (t105 : Int).toNat * 8 + 4, none⟩ = some (.int .i64 ((rd_T71 t101 t105).f3.f0)) := hcc57 4 _ rfl; have hx57_5 : w62.cell? ⟨go57, (t105 : Int).toNat * 8 + 5, none⟩ = some (.int .i64 ((rd_T71 t101 t105).f3.f1)) := hcc57 5 _ rfl; have hx57_6 : w62.cell? ⟨go57, (t105 : Int).toNat * 8 + 6, none⟩ = some (.int .i64 ((rd_T71 t101 t105).f4)) := hcc57 6 _ rfl; have hx57_7 : w62.cell? ⟨go57, (t105 : Int).toNat * 8 + 7, none⟩ = some (.int .i64 ((rd_T71 t101 t105).f5)) := hcc57 7 _ rfl; have hf57_0 : w62.frozen? ⟨go57, (t105 : Int).toNat * 8, none⟩ = false := hfr57 0; have hf57_1 : w62.frozen? ⟨go57, (t105 : Int).toNat * 8 + 1, none⟩ = false := hfr57 1; have hf57_2 : w62.frozen? ⟨go57, (t105 : Int).toNat * 8 + 2, none⟩ = false := hfr57 2; have hf57_3 : w62.frozen? ⟨go57, (t105 : Int).toNat * 8 + 3, none⟩ = false := hfr57 3; have hf57_4 : w62.frozen? ⟨go57, (t105 : Int).toNat * 8 + 4, none⟩ = false := hfr57 4; have hf57_5 : w62.frozen? ⟨go57, (t105 : Int).toNat * 8 + 5, none⟩ = false := hfr57 5; have hf57_6 : w62.frozen? ⟨go57, (t105 : Int).toNat * 8 + 6, none⟩ = false := hfr57 6; have hf57_7 : w62.frozen? ⟨go57, (t105 : Int).toNat * 8 + 7, none⟩ = false := hfr57 7; clear hcl57 hcc57 hfr57 hM57; replace p57 := eq_true p57; replace q57 := eq_true q57; have HX63 := am (show Kd.R k71 71 w62 w.heap.size (fun _ => True) (.slice (some ⟨go57, 0, none⟩) t101.length co59) t101 from (KR HO103)); obtain ⟨ce63, hcl63, hM63, hcc63, hfr63⟩ := Kd.R_elem HX63.out z71 (t105 : Int) (OD) (by have h_ : (t105 : Int) < ((t101.length : Int) : Int) := OD; first | exact h_ | (have e_ := (Kd.R_reads' HO103.out).1; omega) | simpa using h_); obtain rfl := k71_openM hM63; have HP63 := Kd.R_seg HX63.out (t105 : Int) (OD) (by have h_ : (t105 : Int) < ((t101.length : Int) : Int) := OD; first | exact h_ | (have e_ := (Kd.R_reads' HO103.out).1; omega) | simpa using h_) (seg := [.int .i64 t127, .int .i64 t128]) (j := 2) hcl63 hcc63 (show 4 ≤ 8 from by decide) (x' := (⟨(rd_T71 t101 t105).f0, (rd_T71 t101 t105).f1, (⟨t127, t128⟩ : S43), (⟨(rd_T71 t101 t105).f3.f0, (rd_T71 t101 t105).f3.f1⟩ : S43), (rd_T71 t101 t105).f4, (rd_T71 t101 t105).f5⟩ : S71)) (k71_mkM _ _ _ (⟨(rd_T71 t101 t105).f0, (rd_T71 t101 t105).f1, (⟨t127, t128⟩ : S43), (⟨(rd_T71 t101 t105).f3.f0, (rd_T71 t101 t105).f3.f1⟩ : S43), (rd_T71 t101 t105).f4, (rd_T71 t101 t105).f5⟩ : S71) ) (fun _ hk => hk); have hx63_2 := hcc63 2 _ rfl; (try simp only [show (k71).sz = 8 from rfl, Nat.mul_one, Nat.add_zero] at hx63_2); have hf63_2 := hfr63 2; (try simp only [show (k71).sz = 8 from rfl, Nat.mul_one, Nat.add_zero] at hf63_2); have hx63_3 := hcc63 3 _ rfl; (try simp only [show (k71).sz = 8 from rfl, Nat.mul_one, Nat.add_zero] at hx63_3); have hf63_3 := hfr63 3; (try simp only [show (k71).sz = 8 from rfl, Nat.mul_one, Nat.add_zero] at hf63_3); clear hcl63 hcc63 hfr63 hM63) | ((with_reducible refine gate_store (t := 43) (p := 51) rfl ?_); refine store_event (t := 43) (p := 51) (v := ?vo_w64) (w1 := ((w62.setCell ⟨go57, (t105 : Int).toNat * 8 + 2, none⟩ (.int .i64 t127)).setCell ⟨go57, (t105 : Int).toNat * 8 + 3, none⟩ (.int .i64 t128))) ?hg ?ho ?hn ?hr ?_; (case ho => rfl); (case hg => rfl); (case hn => rfl); (case hr => first | (go_simp; done) | (go_simp; rfl)); intro w64 hw; have hg : w62.grownBy w64 (some go57) := (by rw [hw]; exact HP63.2); have hp_ : Kd.R k71 71 w64 w.heap.size (fun _ => True) (.slice (some ⟨go57, 0, none⟩) t101.length co59) y130 := (by rw [hw, Ny130.out]; exact HP63.1); clear HP63; replace HI0 := am (IsS140.grown (I140_0 HI0) hg (IsS140.own_ne HI0.out HO103.out (by decide))); replace HB := am ((by rw [hw]; exact below_set (below_set (HB.out) (Nat.le_trans HL.out GB57.out)) (Nat.le_trans HL.out GB57.out) : Below w0.heap.size w0 w64)); replace HK := am (KeepBut.trans (J0 HK) (KeepBut.of_grown hg g) (Kd.R_base2 HO103.out)); replace HO103 := am (hp_); clear hg hw hp_))
        go_ret
        exact ⟨_, ER, by (with_reducible repeat (first | apply Kd.R_alloc | apply Kd.R_drewN | apply Kd.R_drew)); exact HO103.out, I140_0 HI0, K1 HB (IsS140.ge HI0.out), J0 HK⟩
       ·rw [if_neg c56] at H
        exact absurd H (by simp)
      ·rw [if_neg c55] at H
       exact absurd H (by simp)
     ·rw [if_neg c53] at H
      have c53b0 : (t107 == 3) = false := beq_eq_false_iff_ne.mpr c53
      have c53b1 : (t107 != 3) = true := bne_iff_ne.mpr c53
      by_cases c65 : t107 = 4
      ·rw [if_pos c65] at H
       have c65b0 : (t107 == 4) = true := beq_iff_eq.mpr c65
       have c65b1 : (t107 != 4) = false := bne_eq_false_iff_eq.mpr c65
       clear c65
       have H' := Aside0.mk H
       clear H
       go_enter Try.func95, Try.ntmps95
       go_wp2_with (first | ((with_reducible refine gate_callee (f := 132) rfl ?_); refine goesL_ (some 6) rfl rfl Try.func132 (by kernel_rfl) rfl #[.pointer (some ⟨g, 0, none⟩)] rfl MT ?_; (with_reducible refine (spec_l12Rules.calls k g s0_0 s0_1 t101 t104 w0 _ ?side1 ?side2 A2.out).mono ?_); (case side1 => exact I140_0 HI0); (case side2 => exact K1 HB (IsS140.ge HI0.out)); rintro e w66 ⟨v102, rfl, ho0, hi, hb, hk⟩; refine ⟨_, rfl, ?_⟩; have HO103 := am (Kd.R_lower ho0 (keep_size (w := w) (g := g) (row := none) (J0 HK))); replace HK := am (KeepBut.trans (J0 HK) hk (.inl rfl)); replace HB := am (hb); replace HI0 := am (hi); (try clear hb); (try clear hk); (try clear hi); (try clear ho0); obtain ⟨Ao67, co67, eo67⟩ := Kd.R_slice HO103.out; subst eo67) | ((with_reducible refine gate_callee (f := 69) rfl ?_); refine goesL_ (some 14) rfl rfl Try.func69 (by kernel_rfl) rfl #[.pointer (some ⟨g, 0, none⟩), .int .i64 (t101.length : Int)] rfl MT ?_; (with_reducible refine (spec_l1Rd_pick.calls k g s0_0 t104 (t101.length : Int) t105 t106 w0 _ ?side1 ?side2 A6.out).mono ?_); (case side1 => exact I140_0 HI0); (case side2 => exact K1 HB (IsS140.ge HI0.out)); rintro e w68 ⟨rfl, hi, hb, hk⟩; refine ⟨_, rfl, ?_⟩; replace HO103 := am (Kd.R_mono (Kd.R_keep (IsS140.apart (show IsS140 w0 _ g s0_0 t104 from I140_0 HI0) (KR HO103) (by decide)) hk (fun _ h => h.2)) (fun _ h => h.1)); replace HK := am (KeepBut.trans (J0 HK) hk (.inl rfl)); replace HB := am (hb); replace HI0 := am (hi); (try clear hb); (try clear hk); (try clear hi)) | ((with_reducible refine gate_callee (f := 69) rfl ?_); refine goesL_ (some 16) rfl rfl Try.func69 (by kernel_rfl) rfl #[.pointer (some ⟨g, 0, none⟩), .int .i64 20] rfl MT ?_; (with_reducible refine (spec_l1Rd_pick.calls k g s0_0 t106 20 t107 t108 w0 _ ?side1 ?side2 A7.out).mono ?_); (case side1 => exact I140_0 HI0); (case side2 => exact K1 HB (IsS140.ge HI0.out)); rintro e w69 ⟨rfl, hi, hb, hk⟩; refine ⟨_, rfl, ?_⟩; replace HO103 := am (Kd.R_mono (Kd.R_keep (IsS140.apart (show IsS140 w0 _ g s0_0 t106 from I140_0 HI0) (KR HO103) (by decide)) hk (fun _ h => h.2)) (fun _ h => h.1)); replace HK := am (KeepBut.trans (J0 HK) hk (.inl rfl)); replace HB := am (hb); replace HI0 := am (hi); (try clear hb); (try clear hk); (try clear hi)))
       go_loopg [3] k (fun kq v3 w' => ∃ (x3_1 : List (S71)) (x1001_1 : Int), Aside0 (spec_l12AnyRules.l0 kq x3_1 s0_0 x1001_1 = some (r1, r2)) ∧ Aside0 (kq ≤ k) ∧ Aside0 (Kd.R k71 71 w' w.heap.size (fun _ => True) v3 x3_1) ∧ Aside0 (IsS140 w0 w' g s0_0 x1001_1) ∧ Aside0 (KeepBut w w' g none) ∧ Aside0 (Below w0.heap.size w0 w'))
       case atStart => exact ⟨(t101), (t108), H', ⟨Nat.le_refl _⟩, ⟨KR HO103⟩, ⟨I140_0 HI0⟩, ⟨J0 HK⟩, ⟨K1 HB (IsS140.ge HI0.out)⟩⟩
       case round =>
        clear H'
        try clear c1
        try clear p1
        try clear q1
        try clear hx1
        try clear hf1
        try clear c2
        try clear p2
        try clear q2
        try clear hx2
        try clear hf2
        try clear c3
        try clear c3b0
        try clear c3b1
        try clear c3b2
        try clear hx3
        try clear hf3
        try clear c4
        try clear p4
        try clear q4
        try clear hx4
        try clear hf4
        try clear c5
        try clear p5
        try clear q5
        try clear hx5
        try clear hf5
        try clear c6
        try clear hx6
        try clear hf6
        try clear c8
        try clear c8b0
        try clear c8b1
        try clear c9
        try clear c10
        try clear c10b0
        try clear c11
        try clear c11b0
        try clear c12
        try clear p12
        try clear q12
        try clear hx12
        try clear hf12
        try clear c13
        try clear c21
        try clear hx21
        try clear hf21
        try clear c23
        try clear c23b0
        try clear c23b1
        try clear c25
        try clear c25b0
        try clear c26
        try clear c26b0
        try clear c27
        try clear p27
        try clear q27
        try clear hx27
        try clear hf27
        try clear c36
        try clear hx36
        try clear hf36
        try clear c38
        try clear c38b0
        try clear c38b1
        try clear c40
        try clear c40b0
        try clear c41
        try clear c41b0
        try clear c42
        try clear p42
        try clear q42
        try clear hx42
        try clear hf42
        try clear c51
        try clear hx51
        try clear hf51
        try clear c53
        try clear c53b0
        try clear c53b1
        try clear c55
        try clear c55b0
        try clear c56
        try clear c56b0
        try clear c57
        try clear p57
        try clear q57
        try clear hx57
        try clear hf57
        try clear c63
        try clear hx63
        try clear hf63
        try clear c65
        try clear c65b0
        try clear c65b1
        try clear c69
        try clear hx12_0
        try clear hx12_1
        try clear hx12_2
        try clear hx12_3
        try clear hx12_4
        try clear hx12_5
        try clear hx12_6
        try clear hx12_7
        try clear hx21_0
        try clear hx27_0
        try clear hx27_1
        try clear hx27_2
        try clear hx27_3
        try clear hx27_4
        try clear hx27_5
        try clear hx27_6
        try clear hx27_7
        try clear hx36_1
        try clear hx42_0
        try clear hx42_1
        try clear hx42_2
        try clear hx42_3
        try clear hx42_4
        try clear hx42_5
        try clear hx42_6
        try clear hx42_7
        try clear hx51_6
        try clear hx57_0
        try clear hx57_1
        try clear hx57_2
        try clear hx57_3
        try clear hx57_4
        try clear hx57_5
        try clear hx57_6
        try clear hx57_7
        try clear hx63_2
        try clear hx63_3
        try clear p12
        try clear p27
        try clear p42
        try clear p57
        try clear q12
        try clear q27
        try clear q42
        try clear q57
        obtain ⟨x3_1, x1001_1, HA, HK1, HO_3, HI0, HK, HB⟩ := hrel
        cases gk with
        | zero => exact absurd HA.out (by simp [spec_l12AnyRules.l0])
        | succ k1 =>
         have H := HA.out
         clear HA
         simp only [spec_l12AnyRules.l0] at H
         replace H := Option.bind_eq_some_iff.mp H
         obtain ⟨⟨t131, t132⟩, A700, H⟩ := H
         replace H : (if (x3_1.length : Int) < (wrap64 (8 + t131)) then ((spec_l12Rule.f k1 s0_0 t132).bind fun bt133 => (if x3_1.length < 2199023255552 then (spec_l12AnyRules.l0 k1 (x3_1 ++ [(⟨bt133.1, bt133.2.1, (⟨bt133.2.2.1, bt133.2.2.2.1⟩ : S43), (⟨bt133.2.2.2.2.1, bt133.2.2.2.2.2.1⟩ : S43), bt133.2.2.2.2.2.2.1, bt133.2.2.2.2.2.2.2.1⟩ : S71)]) s0_0 bt133.2.2.2.2.2.2.2.2) else (none))) else (some (x3_1, t132))) = some (r1, r2) := H
         have A70 := Aside0.mk A700
         clear A700
         by_cases c71 : (x3_1.length : Int) < (wrap64 (8 + t131))
         ·rw [if_pos c71] at H
          have c71b0 : decide ((x3_1.length : Int) < (wrap64 (8 + t131))) = true := decide_eq_true c71
          clear c71
          replace H := Option.bind_eq_some_iff.mp H
          obtain ⟨⟨t133, t134, t135, t136, t137, t138, t139, t140, t141⟩, A720, H⟩ := H
          replace H : (if x3_1.length < 2199023255552 then (spec_l12AnyRules.l0 k1 (x3_1 ++ [(⟨t133, t134, (⟨t135, t136⟩ : S43), (⟨t137, t138⟩ : S43), t139, t140⟩ : S71)]) s0_0 t141) else (none)) = some (r1, r2) := H
          have A72 := Aside0.mk A720
          clear A720
          by_cases c73 : x3_1.length < 2199023255552
          ·rw [if_pos c73] at H
           have LMc73 := Aside0.mk c73
           clear c73
           obtain ⟨y142, hy142⟩ : ∃ y_ : List (S71), y_ = (x3_1 ++ [(⟨t133, t134, (⟨t135, t136⟩ : S43), (⟨t137, t138⟩ : S43), t139, t140⟩ : S71)]) := ⟨_, rfl⟩
           replace H : (spec_l12AnyRules.l0 k1 y142 s0_0 t141) = some (r1, r2) := by first | (rw [hy142]; with_reducible exact H) | (have H2_ := (Option.bind_some _ _).symm.trans H; rw [hy142]; with_reducible exact H2_) | (have H2_ := (Option.bind_some _ _).symm.trans H; with_reducible exact H2_) | with_reducible exact H | (rw [hy142]; exact H) | exact H
           have Ny142 := Aside0.mk hy142
           clear hy142
           have H' := Aside0.mk H
           clear H
           obtain ⟨Ao74, co74, eo74⟩ := Kd.R_slice HO_3.out
           subst eo74
           go_wp2_with (first | ((with_reducible refine gate_callee (f := 69) rfl ?_); refine goesL_ (some 57) rfl rfl Try.func69 (by kernel_rfl) rfl #[.pointer (some ⟨g, 0, none⟩), .int .i64 2] rfl MT ?_; (with_reducible refine (spec_l1Rd_pick.calls k1 g s0_0 x1001_1 2 t131 t132 w0 _ ?side1 ?side2 A70.out).mono ?_); (case side1 => exact I140_0 HI0); (case side2 => exact K1 HB (IsS140.ge HI0.out)); rintro e w75 ⟨rfl, hi, hb, hk⟩; refine ⟨_, rfl, ?_⟩; replace HO_3 := am (Kd.R_mono (Kd.R_keep (IsS140.apart (show IsS140 w0 _ g s0_0 x1001_1 from I140_0 HI0) (KR HO_3) (by decide)) hk (fun _ h => h.2)) (fun _ h => h.1)); replace HK := am (KeepBut.trans (J0 HK) hk (.inl rfl)); replace HB := am (hb); replace HI0 := am (hi); (try clear hb); (try clear hk); (try clear hi)) | ((with_reducible refine gate_callee (f := 133) rfl ?_); refine goesL_ (some 62) rfl rfl Try.func133 (by kernel_rfl) rfl #[.pointer (some ⟨g, 0, none⟩)] rfl MT ?_; (with_reducible refine (spec_l12Rule.calls k1 g s0_0 t132 t133 t134 t135 t136 t137 t138 t139 t140 t141 w0 _ ?side1 ?side2 A72.out).mono ?_); (case side1 => exact I140_0 HI0); (case side2 => exact K1 HB (IsS140.ge HI0.out)); rintro e w76 ⟨rfl, hi, hb, hk⟩; refine ⟨_, rfl, ?_⟩; replace HO_3 := am (Kd.R_mono (Kd.R_keep (IsS140.apart (show IsS140 w0 _ g s0_0 t132 from I140_0 HI0) (KR HO_3) (by decide)) hk (fun _ h => h.2)) (fun _ h => h.1)); replace HK := am (KeepBut.trans (J0 HK) hk (.inl rfl)); replace HB := am (hb); replace HI0 := am (hi); (try clear hb); (try clear hk); (try clear hi)) | ((with_reducible refine gate_builtin (b := .append) (xs := #[.tmp 60, .tmp 63]) rfl ?_); at_builtin; refine Kd.R_append k71 w.heap.size rfl (.tmp 60) (.tmp 63) 52 71 (.agg #[(.int .i64 0), (.int .i64 0), (.int .i64 0), (.int .i64 0), (.int .i64 0), (.int .i64 0), (.int .i64 0), (.int .i64 0)]) 64 rfl Try.underlying52 info71 rfl (by decide) (by omega) (.slice Ao74 x3_1.length co74) x3_1 (⟨t133, t134, (⟨t135, t136⟩ : S43), (⟨t137, t138⟩ : S43), t139, t140⟩ : S71) [.int .i64 t133, .int .i64 t134, .int .i64 t135, .int .i64 t136, .int .i64 t137, .int .i64 t138, .int .i64 t139, .int .i64 t140] (fun _ => True) (fun _ => False) rfl rfl ?aP (fun _ hk => hk.elim) ?aF ?aO (Below.refl _ _) ?aS ?aL ?_; (case aP => exact k71_mkM _ _ _ (⟨t133, t134, (⟨t135, t136⟩ : S43), (⟨t137, t138⟩ : S43), t139, t140⟩ : S71)); (case aF => exact (fun _ _ => trivial)); (case aO => exact (KR HO_3)); (case aS => exact (keep_size (w := w) (g := g) (row := none) (J0 HK))); (case aL => have := LMc73.out; omega); intro v143 w77 ho hb hg hat; rw [← Ny142.out] at ho; replace HB := am (below_weaken (K1 HB (IsS140.ge HI0.out)) HL.out hb); replace HI0 := am (IsS140.grown (I140_0 HI0) hg (IsS140.own_ne HI0.out HO_3.out (by decide))); replace HK := am (KeepBut.trans (J0 HK) (KeepBut.of_grown hg g) (Kd.R_base2 HO_3.out)); have HO144 := am (ho); clear HO_3; clear ho hb hg hat))
           go_roundg k1
           case measure => have := HK1.out; omega
           case rel => exact ⟨(y142), (t141), H', ⟨by have := HK1.out; omega⟩, ⟨KR HO144⟩, ⟨I140_0 HI0⟩, ⟨J0 HK⟩, ⟨K1 HB (IsS140.ge HI0.out)⟩⟩
          ·rw [if_neg c73] at H
           exact absurd H (by simp)
         ·rw [if_neg c71] at H
          have c71b0 : decide ((x3_1.length : Int) < (wrap64 (8 + t131))) = false := decide_eq_false c71
          clear c71
          simp only [Option.some.injEq, Prod.mk.injEq] at H
          obtain ⟨rfl, rfl⟩ := H
          obtain ⟨Ao78, co78, eo78⟩ := Kd.R_slice HO_3.out
          subst eo78
          go_wp2_with (first | ((with_reducible refine gate_callee (f := 69) rfl ?_); refine goesL_ (some 57) rfl rfl Try.func69 (by kernel_rfl) rfl #[.pointer (some ⟨g, 0, none⟩), .int .i64 2] rfl MT ?_; (with_reducible refine (spec_l1Rd_pick.calls k1 g s0_0 x1001_1 2 t131 t132 w0 _ ?side1 ?side2 A70.out).mono ?_); (case side1 => exact I140_0 HI0); (case side2 => exact K1 HB (IsS140.ge HI0.out)); rintro e w79 ⟨rfl, hi, hb, hk⟩; refine ⟨_, rfl, ?_⟩; replace HO_3 := am (Kd.R_mono (Kd.R_keep (IsS140.apart (show IsS140 w0 _ g s0_0 x1001_1 from I140_0 HI0) (KR HO_3) (by decide)) hk (fun _ h => h.2)) (fun _ h => h.1)); replace HK := am (KeepBut.trans (J0 HK) hk (.inl rfl)); replace HB := am (hb); replace HI0 := am (hi); (try clear hb); (try clear hk); (try clear hi)))
          go_ret
          exact ⟨_, ER, by (with_reducible repeat (first | apply Kd.R_alloc | apply Kd.R_drewN | apply Kd.R_drew)); exact HO_3.out, I140_0 HI0, K1 HB (IsS140.ge HI0.out), J0 HK⟩
      ·rw [if_neg c65] at H
       have c65b0 : (t107 == 4) = false := beq_eq_false_iff_ne.mpr c65
       have c65b1 : (t107 != 4) = true := bne_iff_ne.mpr c65
       simp only [Option.some.injEq, Prod.mk.injEq] at H
       obtain ⟨rfl, rfl⟩ := H
       go_enter Try.func95, Try.ntmps95
       go_wp2_with (first | ((with_reducible refine gate_callee (f := 132) rfl ?_); refine goesL_ (some 6) rfl rfl Try.func132 (by kernel_rfl) rfl #[.pointer (some ⟨g, 0, none⟩)] rfl MT ?_; (with_reducible refine (spec_l12Rules.calls k g s0_0 s0_1 t101 t104 w0 _ ?side1 ?side2 A2.out).mono ?_); (case side1 => exact I140_0 HI0); (case side2 => exact K1 HB (IsS140.ge HI0.out)); rintro e w80 ⟨v102, rfl, ho0, hi, hb, hk⟩; refine ⟨_, rfl, ?_⟩; have HO103 := am (Kd.R_lower ho0 (keep_size (w := w) (g := g) (row := none) (J0 HK))); replace HK := am (KeepBut.trans (J0 HK) hk (.inl rfl)); replace HB := am (hb); replace HI0 := am (hi); (try clear hb); (try clear hk); (try clear hi); (try clear ho0); obtain ⟨Ao81, co81, eo81⟩ := Kd.R_slice HO103.out; subst eo81) | ((with_reducible refine gate_callee (f := 69) rfl ?_); refine goesL_ (some 14) rfl rfl Try.func69 (by kernel_rfl) rfl #[.pointer (some ⟨g, 0, none⟩), .int .i64 (t101.length : Int)] rfl MT ?_; (with_reducible refine (spec_l1Rd_pick.calls k g s0_0 t104 (t101.length : Int) t105 t106 w0 _ ?side1 ?side2 A6.out).mono ?_); (case side1 => exact I140_0 HI0); (case side2 => exact K1 HB (IsS140.ge HI0.out)); rintro e w82 ⟨rfl, hi, hb, hk⟩; refine ⟨_, rfl, ?_⟩; replace HO103 := am (Kd.R_mono (Kd.R_keep (IsS140.apart (show IsS140 w0 _ g s0_0 t104 from I140_0 HI0) (KR HO103) (by decide)) hk (fun _ h => h.2)) (fun _ h => h.1)); replace HK := am (KeepBut.trans (J0 HK) hk (.inl rfl)); replace HB := am (hb); replace HI0 := am (hi); (try clear hb); (try clear hk); (try clear hi)) | ((with_reducible refine gate_callee (f := 69) rfl ?_); refine goesL_ (some 16) rfl rfl Try.func69 (by kernel_rfl) rfl #[.pointer (some ⟨g, 0, none⟩), .int .i64 20] rfl MT ?_; (with_reducible refine (spec_l1Rd_pick.calls k g s0_0 t106 20 t107 t108 w0 _ ?side1 ?side2 A7.out).mono ?_); (case side1 => exact I140_0 HI0); (case side2 => exact K1 HB (IsS140.ge HI0.out)); rintro e w83 ⟨rfl, hi, hb, hk⟩; refine ⟨_, rfl, ?_⟩; replace HO103 := am (Kd.R_mono (Kd.R_keep (IsS140.apart (show IsS140 w0 _ g s0_0 t106 from I140_0 HI0) (KR HO103) (by decide)) hk (fun _ h => h.2)) (fun _ h => h.1)); replace HK := am (KeepBut.trans (J0 HK) hk (.inl rfl)); replace HB := am (hb); replace HI0 := am (hi); (try clear hb); (try clear hk); (try clear hi)))
       go_ret
       exact ⟨_, ER, by (with_reducible repeat (first | apply Kd.R_alloc | apply Kd.R_drewN | apply Kd.R_drew)); exact HO103.out, I140_0 HI0, K1 HB (IsS140.ge HI0.out), J0 HK⟩
def spec_DrawRulesOk.f (k : Nat) (l0 : List Int) : Option ((List (S71))) := (spec_l1Open.f l0).bind fun bt101 => ((spec_l12AnyRules.f k bt101.1 bt101.2).bind fun bt104 => (some bt104.1))
set_option maxHeartbeats 8000000 in
set_option maxRecDepth 100000 in
theorem spec_DrawRulesOk.calls (k : Nat) (A0 : Option Addr) (c0 : Nat) (l0 : List Int) (r : List (S71)) (w : World) (hr0 : Kd.C (Kd.int .u8) w A0 l0.length l0) (hc0 : l0.length ≤ c0) (h : spec_DrawRulesOk.f k l0 = some r) :
  Calls Try.prog 42 #[.slice A0 l0.length c0] w fun e w' => ∃ v0_ : Value, e = .returned (v0_) ∧ Kd.R k71 71 w' w.heap.size (fun _ => True) v0_ r ∧ Below w.heap.size w w' := by
 have HR0 := Aside0.mk hr0
 have HC0 := Aside0.mk hc0
 clear hr0 hc0
 have HB := am (Below.refl w.heap.size w)
 have H : ((spec_l1Open.f l0).bind fun bt101 => ((spec_l12AnyRules.f k bt101.1 bt101.2).bind fun bt104 => (some bt104.1))) = some r := h
 clear h
 replace H := Option.bind_eq_some_iff.mp H
 obtain ⟨⟨t101, t102⟩, A20, H⟩ := H
 replace H : ((spec_l12AnyRules.f k t101 t102).bind fun bt104 => (some bt104.1)) = some r := H
 have A2 := Aside0.mk A20
 clear A20
 replace H := Option.bind_eq_some_iff.mp H
 obtain ⟨⟨t104, t107⟩, A30, H⟩ := H
 replace H : (some t104) = some r := H
 have A3 := Aside0.mk A30
 clear A30
 obtain rfl := Option.some.inj H
 go_enter Try.func42, Try.ntmps42
 go_wp2_with (first | ((with_reducible refine gate_callee (f := 67) rfl ?_); refine goesL_ (some 4) rfl rfl Try.func67 (by kernel_rfl) rfl #[.slice A0 l0.length c0] rfl MT ?_; (with_reducible refine (spec_l1Open.calls _ _ l0 t101 t102 w _ ?side1 ?side2 ?side3 A2.out).mono ?_); (case side1 => exact KL HB); (case side2 => exact HR0.out); (case side3 => exact HC0.out); rintro e w4 ⟨g103, rfl, hi, hb, hb2⟩; refine ⟨_, rfl, ?_⟩; replace HB := am (hb); have HI103 := am (hi); (try clear hb); (try clear hb2); (try clear hi)) | ((with_reducible refine gate_callee (f := 95) rfl ?_); refine goesL_ (some 5) rfl rfl Try.func95 (by kernel_rfl) rfl #[.pointer (some ⟨g103, 0, none⟩)] rfl MT ?_; (with_reducible refine (spec_l12AnyRules.calls k g103 t101 t102 t104 t107 w _ ?side1 ?side2 A3.out).mono ?_); (case side1 => exact I140_0 HI103); (case side2 => exact K1 HB (IsS140.ge HI103.out)); rintro e w5 ⟨v105, rfl, ho0, hi, hb, hk⟩; refine ⟨_, rfl, ?_⟩; have HO106 := am (Kd.R_lower ho0 (below_size (K1 HB (IsS140.ge HI103.out)))); replace HB := am (hb); replace HI103 := am (hi); (try clear hb); (try clear hk); (try clear hi); (try clear ho0)))
 go_ret
 exact ⟨_, ER, by (with_reducible repeat (first | apply Kd.R_alloc | apply Kd.R_drewN | apply Kd.R_drew)); exact HO106.out, K1 HB (IsS140.ge HI103.out)⟩
def laws_ovInts.l0 : Nat → List Int → List Int → Int → Option (Bool)
 | 0, _, _, _ => none
 | k + 1, x0, x1, x5 => if x5 < (x0.length : Int) then (if 0 ≤ x5 then (if x5 < (x1.length : Int) then (if (rd x0 x5) = (rd x1 x5) then (laws_ovInts.l0 k x0 x1 (wrap64 (x5 + 1))) else (some false)) else (none)) else (none)) else (some true)
def laws_ovInts.f (k : Nat) (l0 : List Int) (l1 : List Int) : Option (Bool) := if (l0.length : Int) = (l1.length : Int) then (laws_ovInts.l0 k l0 l1 0) else (some false)
set_option maxHeartbeats 8000000 in
set_option maxRecDepth 100000 in
theorem laws_ovInts.calls (k : Nat) (A0 : Option Addr) (c0 : Nat) (l0 : List Int) (A1 : Option Addr) (c1 : Nat) (l1 : List Int) (r : Bool) (w : World) (hr0 : Kd.C (Kd.int .i64) w A0 l0.length l0) (hc0 : l0.length ≤ c0) (hr1 : Kd.C (Kd.int .i64) w A1 l1.length l1) (hc1 : l1.length ≤ c1) (h : laws_ovInts.f k l0 l1 = some r) :
  Calls Try.prog 45 #[.slice A0 l0.length c0, .slice A1 l1.length c1] w fun e w' => e = .returned (.bool r) ∧ Drawn0 w w' := by
 have HR0 := Aside0.mk hr0
 have HC0 := Aside0.mk hc0
 clear hr0 hc0
 have HR1 := Aside0.mk hr1
 have HC1 := Aside0.mk hc1
 clear hr1 hc1
 have H : (if (l0.length : Int) = (l1.length : Int) then (laws_ovInts.l0 k l0 l1 0) else (some false)) = some r := h
 clear h
 by_cases c3 : (l0.length : Int) = (l1.length : Int)
 ·rw [if_pos c3] at H
  have c3b0 : ((l0.length : Int) == (l1.length : Int)) = true := beq_iff_eq.mpr c3
  have c3b1 : ((l0.length : Int) != (l1.length : Int)) = false := bne_eq_false_iff_eq.mpr c3
  have c3b2 : (l0.length == l1.length) = true := by first | simpa using c3 | (simp at c3 ⊢; omega)
  clear c3
  have H' := Aside0.mk H
  clear H
  go_enter Try.func45, Try.ntmps45
  go_wp2
  repeat (go_quiet (fail); try go_wp2)
  go_loopg [5] k (fun kq v5 w' => ∃ (x5_1 : Int), v5 = .int .i64 x5_1 ∧ Aside0 (laws_ovInts.l0 kq l0 l1 x5_1 = some r) ∧ Aside0 (kq ≤ k) ∧ Drawn0 w w')
  case atStart => exact ⟨(0), (by first | rfl | (simp; done) | (simp [*]; done)), H', ⟨Nat.le_refl _⟩, by repeat (first | exact Drawn0.refl _ | apply Drawn0.step)⟩
  case round =>
   clear H'
   try clear c1
   try clear p2
   try clear c3
   try clear c3b0
   try clear c3b1
   try clear c3b2
   obtain ⟨x5_1, rfl, HA, HK1, ⟨m1, rfl⟩⟩ := hrel
   cases gk with
   | zero => exact absurd HA.out (by simp [laws_ovInts.l0])
   | succ k1 =>
    have H := HA.out
    clear HA
    simp only [laws_ovInts.l0] at H
    by_cases c4 : x5_1 < (l0.length : Int)
    ·rw [if_pos c4] at H
     have c4b0 : decide (x5_1 < (l0.length : Int)) = true := decide_eq_true c4
     clear c4
     by_cases c5 : 0 ≤ x5_1
     ·rw [if_pos c5] at H
      have c5b0 : decide (0 ≤ x5_1) = true := decide_eq_true c5
      clear c5
      by_cases c6 : x5_1 < (l1.length : Int)
      ·rw [if_pos c6] at H
       have c6b0 : decide (x5_1 < (l1.length : Int)) = true := decide_eq_true c6
       clear c6
       by_cases c7 : (rd l0 x5_1) = (rd l1 x5_1)
       ·rw [if_pos c7] at H
        have c7b0 : ((rd l0 x5_1) == (rd l1 x5_1)) = true := beq_iff_eq.mpr c7
        have c7b1 : ((rd l0 x5_1) != (rd l1 x5_1)) = false := bne_eq_false_iff_eq.mpr c7
        clear c7
        have H' := Aside0.mk H
        clear H
        have p101 : 0 ≤ (x5_1 : Int) := OD
        have q101 : x5_1 < (l0.length : Int) := OD
        obtain ⟨ad101, e101, hx101_0⟩ := Kd.at_int HR0.out x5_1 p101 q101
        cases e101
        replace p101 := eq_true p101
        replace q101 := eq_true q101
        have p102 : 0 ≤ (x5_1 : Int) := OD
        have q102 : x5_1 < (l1.length : Int) := OD
        obtain ⟨ad102, e102, hx102_0⟩ := Kd.at_int HR1.out x5_1 p102 q102
        cases e102
        replace p102 := eq_true p102
        replace q102 := eq_true q102
        go_wp2
        repeat (go_quiet (fail); try go_wp2)
        go_roundg k1
        case measure => have := HK1.out; omega
        case rel => exact ⟨(wrap64 (x5_1 + 1)), (by first | rfl | (simp; done) | (simp [*]; done)), H', ⟨by have := HK1.out; omega⟩, by repeat (first | exact Drawn0.refl _ | apply Drawn0.step)⟩
       ·rw [if_neg c7] at H
        have c7b0 : ((rd l0 x5_1) == (rd l1 x5_1)) = false := beq_eq_false_iff_ne.mpr c7
        have c7b1 : ((rd l0 x5_1) != (rd l1 x5_1)) = true := bne_iff_ne.mpr c7
        obtain rfl := Option.some.inj H
        have p101 : 0 ≤ (x5_1 : Int) := OD
        have q101 : x5_1 < (l0.length : Int) := OD
        obtain ⟨ad101, e101, hx101_0⟩ := Kd.at_int HR0.out x5_1 p101 q101
        cases e101
        replace p101 := eq_true p101
        replace q101 := eq_true q101
        have p102 : 0 ≤ (x5_1 : Int) := OD
        have q102 : x5_1 < (l1.length : Int) := OD
        obtain ⟨ad102, e102, hx102_0⟩ := Kd.at_int HR1.out x5_1 p102 q102
        cases e102
        replace p102 := eq_true p102
        replace q102 := eq_true q102
        go_wp2
        repeat (go_quiet (fail); try go_wp2)
        go_ret
        exact ⟨by first | rfl | (simp; done) | (simp [*]; done), by repeat (first | exact Drawn0.refl _ | apply Drawn0.step)⟩
      ·rw [if_neg c6] at H
       exact absurd H (by simp)
     ·rw [if_neg c5] at H
      exact absurd H (by simp)
    ·rw [if_neg c4] at H
     have c4b0 : decide (x5_1 < (l0.length : Int)) = false := decide_eq_false c4
     clear c4
     obtain rfl := Option.some.inj H
     go_wp2
     repeat (go_quiet (fail); try go_wp2)
     go_ret
     exact ⟨by first | rfl | (simp; done) | (simp [*]; done), by repeat (first | exact Drawn0.refl _ | apply Drawn0.step)⟩
 ·rw [if_neg c3] at H
  have c3b0 : ((l0.length : Int) == (l1.length : Int)) = false := beq_eq_false_iff_ne.mpr c3
  have c3b1 : ((l0.length : Int) != (l1.length : Int)) = true := bne_iff_ne.mpr c3
  have c3b2 : (l0.length == l1.length) = false := by first | simpa using c3 | (simp at c3 ⊢; omega)
  obtain rfl := Option.some.inj H
  go_enter Try.func45, Try.ntmps45
  go_wp2
  repeat (go_quiet (fail); try go_wp2)
  go_ret
  exact ⟨by first | rfl | (simp; done) | (simp [*]; done), by repeat (first | exact Drawn0.refl _ | apply Drawn0.step)⟩
end Go.Proofs.Ytkgbgaojglcaoaa.PAll
end
