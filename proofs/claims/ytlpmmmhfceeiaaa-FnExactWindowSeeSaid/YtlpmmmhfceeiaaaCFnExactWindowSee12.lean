/- FnExactWindowSee: the program's WindowSee returns what the reference's returns, leaves its arguments alone, and returns memory of its own. For all arguments. -/
import Derived.Test.YtlpmmmhfceeiaaaRows
import Derived.WalkKit
import Derived.ProofKit
import Derived.OpenShut
import Derived.ShutString
import Derived.ChangeOld
import Derived.Below
import Derived.SizedLaws
import Derived.Test.YtlpmmmhfceeiaaaCFnExactWindowSee4
import Derived.Test.YtlpmmmhfceeiaaaCFnExactWindowSee7
import Derived.Test.YtlpmmmhfceeiaaaCFnExactWindowSee11
section
namespace Go.Proofs.Ytlpmmmhfceeiaaa.fnExactWindowSee
open Go.ChangeShapes Go.WideShapes Go.ChangeAt Go.RowKit Go.Proofs.Ytlpmmmhfceeiaaa.PAll Go.Proofs.YtlpmmmhfceeiaaaW.PrintWords Go.Proofs.YtlpmmmhfceeiaaaW.PrintLast Go.Proofs.YtlpmmmhfceeiaaaW.PrintMore
open Go.ChangeMaps (open_string shut_string)
set_option linter.unusedVariables false
theorem own : ownKnob Try.prog.godebug = none := by kernel_rfl
theorem laidOut : laidOutB Try.prog = true := by kernel_rfl
set_option maxRecDepth 100000 in
theorem lifted (os : Os) (started : os.Started) (H : Type) (enc : TypeId × Value → H) :
  ReturnsInHanded {} Try.checked os 6 .any (Rows.fnExactWindowSeeSpec.pre6 enc Try.prog Try.f6 Rows.fnExactWindowSeeRow.domain false) (Rows.fnExactWindowSeeSpec.post enc Try.prog Try.f6 false true false false) := by
 refine returnsInHanded_of_change_sized (C := Try.checked) own started (by kernel_rfl) Try.func6
  (ChangeSpec.witness6 (enc := enc) (C := Try.checked) false ⟨#[], #[.agg #[.int .i64 0, .slice none 0 0], .int .i64 0], []⟩ 8 (by kernel_rfl) (by kernel_rfl) (by kernel_rfl) (by kernel_rfl)) ?_
 intro W base args ds gs before hval0 hW hcnd hsz0 _
 have hval : ∀ (j : Nat) t v, Try.f6.params[j]? = some t → args[j]? = some v → Value.okWide Try.prog W .any base t v := hval0
 have hW' := hW
 obtain ⟨p, q, hA0, hV, rfl, hfz, hnd⟩ := hW
 have hA : DataW.TrodAll enc Try.prog W 0 (fun _ => true) true Try.f6.params.toList args.toList ds p := hA0
 rw [Try.params6] at hA hval
 obtain ⟨v0, vs0, d0, ds0, p0, q0, hargs, rfl, rfl, h0, r0⟩ := trodAll_cons hA
 obtain ⟨v1, vs1, d1, ds1, p1, q1, rfl, rfl, rfl, h1, r1⟩ := trodAll_cons r0
 obtain ⟨rfl, rfl, rfl⟩ := trodAll_nil r1
 obtain rfl : args = #[v0, v1] := by cases args; simp_all
 obtain ⟨rfl, rfl⟩ := trodVars_none hV
 obtain ⟨cs0, rfl, hn0⟩ := okWide_struct Try.underlying37 (hval 0 37 v0 rfl rfl)
 have k0 := h0
 have lt0 : ∀ x ∈ p0, x.block < W.heap.size := by obtain ⟨m, hm⟩ := k0; exact DataW.trod_lt m _ _ _ hm
 obtain ⟨fu0, hf0⟩ := h0
 obtain ⟨x0, K0, w0⟩ := Rdr.get (rdr_T37 W) _ hf0
 obtain ⟨A0_1, c0_1, e0, hc0_1, hr0_1⟩ := k37_open K0
 obtain ⟨cs0⟩ := cs0
 obtain rfl : cs0 = _ := e0
 obtain ⟨a1, rfl, rfl, rfl, w1⟩ := open_int Try.underlying3 (hval 1 3 v1 rfl rfl) h1
 clear hA0 hval0 hsz0
 refine (laws_FnExactWindowSee.walk Pure.FnExactWindowSee x0.f0 _ _ x0.f1 a1 W hr0_1 hc0_1 (w0.1) (w0.2) w1).mono fun e W' ⟨he, bel⟩ => ?_
 subst he
 exact ⟨_, rfl, _, _, _, [], _, [], hW', trodAll_mk1 (shut_bool Try.underlying4 _), (trodAll_cons_mk (Below.trod laidOut (by kernel_rfl) (of_decide_eq_true (by kernel_rfl)) k0 bel lt0) (trodAll_cons_mk (shut_int Try.underlying3 w1) trodAll_mk0)), rfl, bel.frame _, fun h => by cases h⟩
theorem over : Rows.fnExactWindowSeeRow.holds Try.pinned (OpenSpec.ofChange Rows.fnExactWindowSeeSpec) :=
 OpenClaim.holds_of_wide 6 Try.f6 rfl rfl rfl rfl rfl rfl rfl ⟨rfl, rfl, rfl, rfl, rfl⟩ rfl rfl rfl rfl rfl (by kernel_rfl) Try.func6 (by kernel_rfl)
  (of_decide_eq_true (by kernel_rfl)) (by unfold Func.isWrapper; first | (rw [if_pos (by decide +kernel)]; kernel_rfl) | (rw [if_neg (by decide +kernel)]; exact ⟨rfl, rfl⟩))
  (fun os started H enc _ => lifted os started H enc)
theorem proved : Rows.FnExactWindowSeeSaid := over
#print axioms proved
end Go.Proofs.Ytlpmmmhfceeiaaa.fnExactWindowSee
namespace Go.Proofs.Ytlpmmmhfceeiaaa
/-- The row, under a short name, for the claim. -/
theorem fnExactWindowSee_holds : Rows.FnExactWindowSeeSaid := fnExactWindowSee.proved
end Go.Proofs.Ytlpmmmhfceeiaaa
end
