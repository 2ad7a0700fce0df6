/- FnExactGateLoad: the program's GateLoad returns what the reference's returns, leaves its arguments alone, and returns memory of its own. For all arguments. -/
import Derived.Test.YtaehmhbpdpdefaaGreatRows
import Derived.WalkKit
import Derived.ProofKit
import Derived.OpenShut
import Derived.ShutString
import Derived.ChangeOld
import Derived.Below
import Derived.SizedLaws
import Derived.Test.YtaehmhbpdpdefaaGreatCFnExactGateLoad4
import Derived.Test.YtaehmhbpdpdefaaGreatCFnExactGateLoad13
import Derived.Test.YtaehmhbpdpdefaaGreatCFnExactGateLoad14
set_option maxRecDepth 100000
section
namespace Go.Proofs.YtaehmhbpdpdefaaGreat.fnExactGateLoad
open Go.ChangeShapes Go.WideShapes Go.ChangeAt Go.RowKit Go.Proofs.YtaehmhbpdpdefaaGreat.PAll Go.Proofs.YtaehmhbpdpdefaaGreatW.PrintWords Go.Proofs.YtaehmhbpdpdefaaGreatW.PrintLast Go.Proofs.YtaehmhbpdpdefaaGreatW.PrintMore
open Go.ChangeMaps (open_string shut_string)
set_option linter.unusedVariables false
theorem own : ownKnob Tryz.prog.godebug = none := by kernel_rfl
theorem laidOut : laidOutB Tryz.prog = true := by kernel_rfl
theorem lifted (os : Os) (started : os.Started) (H : Type) (enc : TypeId × Value → H) :
  ReturnsInHanded {} Tryz.checked os 3 .any (Rows.fnExactGateLoadSpec.pre6 enc Tryz.prog Tryz.f3 Rows.fnExactGateLoadRow.domain false) (Rows.fnExactGateLoadSpec.post enc Tryz.prog Tryz.f3 false true false false) := by
 refine returnsInHanded_of_change_sized (C := Tryz.checked) own started (by kernel_rfl) Tryz.func3
  (ChangeSpec.witness6 (enc := enc) (C := Tryz.checked) false ⟨#[], #[.agg #[.int .i64 0, .slice none 0 0, .int .i64 0, .slice none 0 0, .slice none 0 0, .slice none 0 0], .slice none 0 0], []⟩ 8 (by kernel_rfl) (by kernel_rfl) (by kernel_rfl) (by kernel_rfl)) ?_
 intro W base args ds gs before hval0 hW hcnd hsz0 _; have hval : ∀ (j : Nat) t v, Tryz.f3.params[j]? = some t → args[j]? = some v → Value.okWide Tryz.prog W .any base t v := hval0; have hW' := hW; obtain ⟨p, q, hA0, hV, rfl, hfz, hnd⟩ := hW; have hA : DataW.TrodAll enc Tryz.prog W 0 (fun _ => true) true Tryz.f3.params.toList args.toList ds p := hA0; rw [Tryz.params3] at hA hval; obtain ⟨v0, vs0, d0, ds0, p0, q0, hargs, rfl, rfl, h0, r0⟩ := trodAll_cons hA; obtain ⟨v1, vs1, d1, ds1, p1, q1, rfl, rfl, rfl, h1, r1⟩ := trodAll_cons r0; obtain ⟨rfl, rfl, rfl⟩ := trodAll_nil r1; obtain rfl : args = #[v0, v1] := by cases args; simp_all
 obtain ⟨rfl, rfl⟩ := trodVars_none hV; obtain ⟨cs0, rfl, hn0⟩ := okWide_struct Tryz.underlying28 (hval 0 28 v0 rfl rfl); have k0 := h0; have lt0 : ∀ x ∈ p0, x.block < W.heap.size := by obtain ⟨m, hm⟩ := k0; exact DataW.trod_lt m _ _ _ hm
 obtain ⟨fu0, hf0⟩ := h0; obtain ⟨x0, K0, w0⟩ := Rdr.get (rdr_T28 W) _ hf0; obtain ⟨A0_1, c0_1, A0_3, c0_3, A0_4, c0_4, A0_5, c0_5, e0, hc0_1, hr0_1, hc0_3, hr0_3, hc0_4, hr0_4, hc0_5, hr0_5⟩ := k28_open K0; obtain ⟨cs0⟩ := cs0; obtain rfl : cs0 = _ := e0; obtain ⟨a1_, len1_, cap1_, rfl⟩ := okWide_slice Tryz.underlying22 (hval 1 22 v1 rfl rfl); have k1 := h1; have lt1 : ∀ x ∈ p1, x.block < W.heap.size := by obtain ⟨m, hm⟩ := k1; exact DataW.trod_lt m _ _ _ hm
 obtain ⟨fu1, hf1⟩ := h1; obtain ⟨l1, ⟨A1, c1, e1, hc1, hr1⟩, w1⟩ := Rdr.get (rdr_slice (z63 : S63) Tryz.underlying22 (by kernel_rfl) (rdr_T63 W)) _ hf1; simp only [Value.cells, List.cons.injEq, Value.slice.injEq, and_true] at e1; obtain ⟨rfl, rfl, rfl⟩ := e1; clear hA0 hval0 hsz0; refine (laws_FnExactGateLoad.walk Pure.FnExactGateLoad x0.f0 _ _ x0.f1 x0.f2.f0 _ _ x0.f2.f1 _ _ x0.f3 _ _ x0.f4 _ _ l1 W hr0_1 hc0_1 hr0_3 hc0_3 hr0_4 hc0_4 hr0_5 hc0_5 hr1 hc1 (w0.1) (w0.2.1) (w0.2.2.1.1) (w0.2.2.1.2) (w0.2.2.2.1) (w0.2.2.2.2) w1).mono fun e W' ⟨he, bel⟩ => ?_
 subst he; exact ⟨_, rfl, _, _, _, [], _, [], hW', trodAll_mk1 (shut_bool Tryz.underlying4 _), (trodAll_cons_mk (Below.trod laidOut (by kernel_rfl) (of_decide_eq_true (by kernel_rfl)) k0 bel lt0) (trodAll_cons_mk (Below.trod laidOut (by kernel_rfl) (of_decide_eq_true (by kernel_rfl)) k1 bel lt1) trodAll_mk0)), rfl, bel.frame _, fun h => by cases h⟩
theorem over : Rows.fnExactGateLoadRow.holds Tryz.pinned (OpenSpec.ofChange Rows.fnExactGateLoadSpec) :=
 OpenClaim.holds_of_wide 3 Tryz.f3 rfl rfl rfl rfl rfl rfl rfl ⟨rfl, rfl, rfl, rfl, rfl⟩ rfl rfl rfl rfl rfl (by kernel_rfl) Tryz.func3 (by kernel_rfl)
  (of_decide_eq_true (by kernel_rfl)) (by unfold Func.isWrapper; first | (rw [if_pos (by decide +kernel)]; kernel_rfl) | (rw [if_neg (by decide +kernel)]; exact ⟨rfl, rfl⟩))
  (fun os started H enc _ => lifted os started H enc)
theorem proved : Rows.FnExactGateLoadSaid := over
#print axioms proved
end Go.Proofs.YtaehmhbpdpdefaaGreat.fnExactGateLoad
namespace Go.Proofs.YtaehmhbpdpdefaaGreat
/-- The row, under a short name, for the claim. -/
theorem fnExactGateLoad_holds : Rows.FnExactGateLoadSaid := fnExactGateLoad.proved
end Go.Proofs.YtaehmhbpdpdefaaGreat
end
