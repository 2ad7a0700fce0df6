/- FnExactWorldSafe: the program's WorldSafe returns what the reference's returns, and leaves its argument alone. For all arguments. -/
import Derived.Test.YtgjbbnmjeblcgaaGreatRows
import Derived.WalkKit
import Derived.ProofKit
import Derived.OpenShut
import Derived.ShutString
import Derived.ChangeOld
import Derived.Below
import Derived.SizedLaws
import Derived.Test.YtgjbbnmjeblcgaaGreatCFnExactWorldSafe4
import Derived.Test.YtgjbbnmjeblcgaaGreatCFnExactWorldSafe10
import Derived.Test.YtgjbbnmjeblcgaaGreatCFnExactWorldSafe11
set_option maxRecDepth 100000
section
namespace Go.Proofs.YtgjbbnmjeblcgaaGreat.fnExactWorldSafe
open Go.ChangeShapes Go.WideShapes Go.ChangeAt Go.RowKit Go.Proofs.YtgjbbnmjeblcgaaGreat.PAll Go.Proofs.YtgjbbnmjeblcgaaGreatW.PrintWords Go.Proofs.YtgjbbnmjeblcgaaGreatW.PrintLast Go.Proofs.YtgjbbnmjeblcgaaGreatW.PrintMore
open Go.ChangeMaps (open_string shut_string)
set_option linter.unusedVariables false
theorem own : ownKnob Tryz.prog.godebug = none := by kernel_rfl
theorem laidOut : laidOutB Tryz.prog = true := by kernel_rfl
theorem lifted (os : Os) (started : os.Started) (H : Type) (enc : TypeId × Value → H) :
  ReturnsInHanded {} Tryz.checked os 3 .any (Rows.fnExactWorldSafeSpec.pre6 enc Tryz.prog Tryz.f3 Rows.fnExactWorldSafeRow.domain false) (Rows.fnExactWorldSafeSpec.post enc Tryz.prog Tryz.f3 false true false false) := by
 refine returnsInHanded_of_change_sized (C := Tryz.checked) own started (by kernel_rfl) Tryz.func3
  (ChangeSpec.witness6 (enc := enc) (C := Tryz.checked) false ⟨#[], #[.agg #[.int .i64 0, .slice none 0 0, .int .i64 0, .slice none 0 0, .slice none 0 0, .slice none 0 0, .int .i64 0, .slice none 0 0, .int .i64 0, .slice none 0 0, .slice none 0 0, .slice none 0 0, .slice none 0 0, .slice none 0 0, .slice none 0 0]], []⟩ 8 (by kernel_rfl) (by kernel_rfl) (by kernel_rfl) (by kernel_rfl)) ?_
 intro W base args ds gs before hval0 hW hcnd hsz0 _
 have hval : ∀ (j : Nat) t v, Tryz.f3.params[j]? = some t → args[j]? = some v → Value.okWide Tryz.prog W .any base t v := hval0
 have hW' := hW
 obtain ⟨p, q, hA0, hV, rfl, hfz, hnd⟩ := hW
 have hA : DataW.TrodAll enc Tryz.prog W 0 (fun _ => true) true Tryz.f3.params.toList args.toList ds p := hA0
 rw [Tryz.params3] at hA hval
 obtain ⟨v0, vs0, d0, ds0, p0, q0, hargs, rfl, rfl, h0, r0⟩ := trodAll_cons hA
 obtain ⟨rfl, rfl, rfl⟩ := trodAll_nil r0
 obtain rfl : args = #[v0] := by cases args; simp_all
 obtain ⟨rfl, rfl⟩ := trodVars_none hV
 obtain ⟨cs0, rfl, hn0⟩ := okWide_struct Tryz.underlying32 (hval 0 32 v0 rfl rfl)
 have k0 := h0
 have lt0 : ∀ x ∈ p0, x.block < W.heap.size := by obtain ⟨m, hm⟩ := k0; exact DataW.trod_lt m _ _ _ hm
 obtain ⟨fu0, hf0⟩ := h0
 obtain ⟨x0, K0, w0⟩ := Rdr.get (rdr_T32 W) _ hf0
 obtain ⟨A0_1, c0_1, A0_3, c0_3, A0_4, c0_4, A0_5, c0_5, A0_7, c0_7, A0_9, c0_9, A0_10, c0_10, A0_11, c0_11, A0_12, c0_12, A0_13, c0_13, A0_14, c0_14, e0, hc0_1, hr0_1, hc0_3, hr0_3, hc0_4, hr0_4, hc0_5, hr0_5, hc0_7, hr0_7, hc0_9, hr0_9, hc0_10, hr0_10, hc0_11, hr0_11, hc0_12, hr0_12, hc0_13, hr0_13, hc0_14, hr0_14⟩ := k32_open K0
 obtain ⟨cs0⟩ := cs0
 obtain rfl : cs0 = _ := e0
 clear hA0 hval0 hsz0
 refine (laws_FnExactWorldSafe.walk Pure.FnExactWorldSafe x0.f0.f0 _ _ x0.f0.f1 x0.f0.f2.f0 _ _ x0.f0.f2.f1 _ _ x0.f0.f3 _ _ x0.f0.f4 x0.f1.f0 _ _ x0.f1.f1 x0.f1.f2.f0 _ _ x0.f1.f2.f1 _ _ x0.f1.f3 _ _ x0.f1.f4 _ _ x0.f2 _ _ x0.f3 _ _ x0.f4 W hr0_1 hc0_1 hr0_3 hc0_3 hr0_4 hc0_4 hr0_5 hc0_5 hr0_7 hc0_7 hr0_9 hc0_9 hr0_10 hc0_10 hr0_11 hc0_11 hr0_12 hc0_12 hr0_13 hc0_13 hr0_14 hc0_14 (w0.1.1) (w0.1.2.1) (w0.1.2.2.1.1) (w0.1.2.2.1.2) (w0.1.2.2.2.1) (w0.1.2.2.2.2) (w0.2.1.1) (w0.2.1.2.1) (w0.2.1.2.2.1.1) (w0.2.1.2.2.1.2) (w0.2.1.2.2.2.1) (w0.2.1.2.2.2.2) (w0.2.2.1) (w0.2.2.2.1) (w0.2.2.2.2)).mono fun e W' ⟨he, bel⟩ => ?_
 subst he
 exact ⟨_, rfl, _, _, _, [], _, [], hW', trodAll_mk1 (shut_bool Tryz.underlying4 _), (trodAll_cons_mk (Below.trod laidOut (by kernel_rfl) (of_decide_eq_true (by kernel_rfl)) k0 bel lt0) trodAll_mk0), rfl, bel.frame _, fun h => by cases h⟩
theorem over : Rows.fnExactWorldSafeRow.holds Tryz.pinned (OpenSpec.ofChange Rows.fnExactWorldSafeSpec) :=
 OpenClaim.holds_of_wide 3 Tryz.f3 rfl rfl rfl rfl rfl rfl rfl ⟨rfl, rfl, rfl, rfl, rfl⟩ rfl rfl rfl rfl rfl (by kernel_rfl) Tryz.func3 (by kernel_rfl)
  (of_decide_eq_true (by kernel_rfl)) (by unfold Func.isWrapper; first | (rw [if_pos (by decide +kernel)]; kernel_rfl) | (rw [if_neg (by decide +kernel)]; exact ⟨rfl, rfl⟩))
  (fun os started H enc _ => lifted os started H enc)
theorem proved : Rows.FnExactWorldSafeSaid := over
#print axioms proved
end Go.Proofs.YtgjbbnmjeblcgaaGreat.fnExactWorldSafe
namespace Go.Proofs.YtgjbbnmjeblcgaaGreat
/-- The row, under a short name, for the claim. -/
theorem fnExactWorldSafe_holds : Rows.FnExactWorldSafeSaid := fnExactWorldSafe.proved
end Go.Proofs.YtgjbbnmjeblcgaaGreat
end
