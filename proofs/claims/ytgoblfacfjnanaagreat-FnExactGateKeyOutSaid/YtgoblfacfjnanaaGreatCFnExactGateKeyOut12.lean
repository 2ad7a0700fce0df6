/- FnExactGateKeyOut: the program's GateKeyOut returns what the reference's returns, leaves its arguments alone, and returns memory of its own. For all arguments. -/
import Derived.Test.YtgoblfacfjnanaaGreatRows
import Derived.WalkKit
import Derived.ProofKit
import Derived.OpenShut
import Derived.ShutString
import Derived.ChangeOld
import Derived.Below
import Derived.SizedLaws
import Derived.Test.YtgoblfacfjnanaaGreatCFnExactGateKeyOut4
import Derived.Test.YtgoblfacfjnanaaGreatCFnExactGateKeyOut10
import Derived.Test.YtgoblfacfjnanaaGreatCFnExactGateKeyOut11
set_option maxRecDepth 100000
section
namespace Go.Proofs.YtgoblfacfjnanaaGreat.fnExactGateKeyOut
open Go.ChangeShapes Go.WideShapes Go.ChangeAt Go.RowKit Go.Proofs.YtgoblfacfjnanaaGreat.PAll Go.Proofs.YtgoblfacfjnanaaGreatW.PrintWords Go.Proofs.YtgoblfacfjnanaaGreatW.PrintLast Go.Proofs.YtgoblfacfjnanaaGreatW.PrintMore
open Go.ChangeMaps (open_string shut_string)
set_option linter.unusedVariables false
theorem own : ownKnob Tryz.prog.godebug = none := by kernel_rfl
theorem laidOut : laidOutB Tryz.prog = true := by kernel_rfl
theorem lifted (os : Os) (started : os.Started) (H : Type) (enc : TypeId × Value → H) :
  ReturnsInHanded {} Tryz.checked os 4 .any (Rows.fnExactGateKeyOutSpec.pre6 enc Tryz.prog Tryz.f4 Rows.fnExactGateKeyOutRow.domain false) (Rows.fnExactGateKeyOutSpec.post enc Tryz.prog Tryz.f4 false true false false) := by
 refine returnsInHanded_of_change_sized (C := Tryz.checked) own started (by kernel_rfl) Tryz.func4
  (ChangeSpec.witness6 (enc := enc) (C := Tryz.checked) false ⟨#[], #[.agg #[.int .i64 0, .slice none 0 0, .int .i64 0, .slice none 0 0, .slice none 0 0, .slice none 0 0], .agg #[.int .i64 0, .int .i64 0, .string ByteArray.empty, .string ByteArray.empty, .int .i64 0, .int .i64 0, .int .i64 0, .int .i64 0, .int .i64 0, .int .i64 0, .slice none 0 0]], []⟩ 8 (by kernel_rfl) (by kernel_rfl) (by kernel_rfl) (by kernel_rfl)) ?_
 intro W base args ds gs before hval0 hW hcnd hsz0 _; have hval : ∀ (j : Nat) t v, Tryz.f4.params[j]? = some t → args[j]? = some v → Value.okWide Tryz.prog W .any base t v := hval0; have hW' := hW; obtain ⟨p, q, hA0, hV, rfl, hfz, hnd⟩ := hW; have hA : DataW.TrodAll enc Tryz.prog W 0 (fun _ => true) true Tryz.f4.params.toList args.toList ds p := hA0; rw [Tryz.params4] at hA hval; obtain ⟨v0, vs0, d0, ds0, p0, q0, hargs, rfl, rfl, h0, r0⟩ := trodAll_cons hA; obtain ⟨v1, vs1, d1, ds1, p1, q1, rfl, rfl, rfl, h1, r1⟩ := trodAll_cons r0; obtain ⟨rfl, rfl, rfl⟩ := trodAll_nil r1; obtain rfl : args = #[v0, v1] := by cases args; simp_all
 obtain ⟨rfl, rfl⟩ := trodVars_none hV; obtain ⟨cs0, rfl, hn0⟩ := okWide_struct Tryz.underlying28 (hval 0 28 v0 rfl rfl); have k0 := h0; have lt0 : ∀ x ∈ p0, x.block < W.heap.size := by obtain ⟨m, hm⟩ := k0; exact DataW.trod_lt m _ _ _ hm
 obtain ⟨fu0, hf0⟩ := h0; obtain ⟨x0, K0, w0⟩ := Rdr.get (rdr_T28 W) _ hf0; obtain ⟨A0_1, c0_1, A0_3, c0_3, A0_4, c0_4, A0_5, c0_5, e0, hc0_1, hr0_1, hc0_3, hr0_3, hc0_4, hr0_4, hc0_5, hr0_5⟩ := k28_open K0; obtain ⟨cs0⟩ := cs0; obtain rfl : cs0 = _ := e0; obtain ⟨cs1, rfl, hn1⟩ := okWide_struct Tryz.underlying33 (hval 1 33 v1 rfl rfl); have k1 := h1; have lt1 : ∀ x ∈ p1, x.block < W.heap.size := by obtain ⟨m, hm⟩ := k1; exact DataW.trod_lt m _ _ _ hm
 obtain ⟨fu1, hf1⟩ := h1; obtain ⟨x1, K1, w1⟩ := Rdr.get (rdr_T33 W) _ hf1; obtain ⟨A1_10, c1_10, e1, hc1_10, hr1_10⟩ := k33_open K1; obtain ⟨cs1⟩ := cs1; obtain rfl : cs1 = _ := e1; clear hA0 hval0 hsz0; refine (laws_FnExactGateKeyOut.walk Pure.FnExactGateKeyOut x0.f0 _ _ x0.f1 x0.f2.f0 _ _ x0.f2.f1 _ _ x0.f3 _ _ x0.f4 x1.f0 x1.f1 x1.f2 x1.f3 x1.f4 x1.f5 x1.f6 x1.f7 x1.f8 x1.f9.f0 _ _ x1.f9.f1 W hr0_1 hc0_1 hr0_3 hc0_3 hr0_4 hc0_4 hr0_5 hc0_5 hr1_10 hc1_10 (w0.1) (w0.2.1) (w0.2.2.1.1) (w0.2.2.1.2) (w0.2.2.2.1) (w0.2.2.2.2) (w1.1) (w1.2.1) (w1.2.2.1) (w1.2.2.2.1) (w1.2.2.2.2.1) (w1.2.2.2.2.2.1) (w1.2.2.2.2.2.2.1) (w1.2.2.2.2.2.2.2.1) (w1.2.2.2.2.2.2.2.2.1) (w1.2.2.2.2.2.2.2.2.2.1) (w1.2.2.2.2.2.2.2.2.2.2)).mono fun e W' ⟨he, bel⟩ => ?_
 subst he; exact ⟨_, rfl, _, _, _, [], _, [], hW', trodAll_mk1 (shut_bool Tryz.underlying4 _), (trodAll_cons_mk (Below.trod laidOut (by kernel_rfl) (of_decide_eq_true (by kernel_rfl)) k0 bel lt0) (trodAll_cons_mk (Below.trod laidOut (by kernel_rfl) (of_decide_eq_true (by kernel_rfl)) k1 bel lt1) trodAll_mk0)), rfl, bel.frame _, fun h => by cases h⟩
theorem over : Rows.fnExactGateKeyOutRow.holds Tryz.pinned (OpenSpec.ofChange Rows.fnExactGateKeyOutSpec) :=
 OpenClaim.holds_of_wide 4 Tryz.f4 rfl rfl rfl rfl rfl rfl rfl ⟨rfl, rfl, rfl, rfl, rfl⟩ rfl rfl rfl rfl rfl (by kernel_rfl) Tryz.func4 (by kernel_rfl)
  (of_decide_eq_true (by kernel_rfl)) (by unfold Func.isWrapper; first | (rw [if_pos (by decide +kernel)]; kernel_rfl) | (rw [if_neg (by decide +kernel)]; exact ⟨rfl, rfl⟩))
  (fun os started H enc _ => lifted os started H enc)
theorem proved : Rows.FnExactGateKeyOutSaid := over
#print axioms proved
end Go.Proofs.YtgoblfacfjnanaaGreat.fnExactGateKeyOut
namespace Go.Proofs.YtgoblfacfjnanaaGreat
/-- The row, under a short name, for the claim. -/
theorem fnExactGateKeyOut_holds : Rows.FnExactGateKeyOutSaid := fnExactGateKeyOut.proved
end Go.Proofs.YtgoblfacfjnanaaGreat
end
