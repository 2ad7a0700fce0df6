/- FnExactCacheFind: the program's CacheFind returns what the reference's returns, leaves its arguments alone, and returns memory of its own. For all arguments. -/
import Derived.Test.YtioghacieopbdaaRows
import Derived.WalkKit
import Derived.ProofKit
import Derived.OpenShut
import Derived.ShutString
import Derived.ChangeOld
import Derived.Below
import Derived.SizedLaws
import Derived.Test.YtioghacieopbdaaCFnExactCacheFind4
import Derived.Test.YtioghacieopbdaaCFnExactCacheFind8
import Derived.Test.YtioghacieopbdaaCFnExactCacheFind9
section
namespace Go.Proofs.Ytioghacieopbdaa.fnExactCacheFind
open Go.ChangeShapes Go.WideShapes Go.ChangeAt Go.RowKit Go.Proofs.Ytioghacieopbdaa.PAll Go.Proofs.YtioghacieopbdaaW.PrintWords Go.Proofs.YtioghacieopbdaaW.PrintLast Go.Proofs.YtioghacieopbdaaW.PrintMore
open Go.ChangeMaps (open_string shut_string)
set_option linter.unusedVariables false
theorem own : ownKnob Try.prog.godebug = none := by kernel_rfl
theorem laidOut : laidOutB Try.prog = true := by kernel_rfl
set_option maxRecDepth 100000 in
theorem lifted (os : Os) (started : os.Started) (H : Type) (enc : TypeId × Value → H) :
  ReturnsInHanded {} Try.checked os 9 .any (Rows.fnExactCacheFindSpec.pre6 enc Try.prog Try.f9 Rows.fnExactCacheFindRow.domain false) (Rows.fnExactCacheFindSpec.post enc Try.prog Try.f9 false true false false) := by
 refine returnsInHanded_of_change_sized (C := Try.checked) own started (by kernel_rfl) Try.func9
  (ChangeSpec.witness6 (enc := enc) (C := Try.checked) false ⟨#[], #[.slice none 0 0, .agg #[.int .i64 0, .slice none 0 0], .agg #[.int .i64 0, .int .i64 0, .int .i64 0]], []⟩ 8 (by kernel_rfl) (by kernel_rfl) (by kernel_rfl) (by kernel_rfl)) ?_
 intro W base args ds gs before hval0 hW hcnd hsz0 _
 have hval : ∀ (j : Nat) t v, Try.f9.params[j]? = some t → args[j]? = some v → Value.okWide Try.prog W .any base t v := hval0
 have hW' := hW
 obtain ⟨p, q, hA0, hV, rfl, hfz, hnd⟩ := hW
 have hA : DataW.TrodAll enc Try.prog W 0 (fun _ => true) true Try.f9.params.toList args.toList ds p := hA0
 rw [Try.params9] at hA hval
 obtain ⟨v0, vs0, d0, ds0, p0, q0, hargs, rfl, rfl, h0, r0⟩ := trodAll_cons hA
 obtain ⟨v1, vs1, d1, ds1, p1, q1, rfl, rfl, rfl, h1, r1⟩ := trodAll_cons r0
 obtain ⟨v2, vs2, d2, ds2, p2, q2, rfl, rfl, rfl, h2, r2⟩ := trodAll_cons r1
 obtain ⟨rfl, rfl, rfl⟩ := trodAll_nil r2
 obtain rfl : args = #[v0, v1, v2] := by cases args; simp_all
 obtain ⟨rfl, rfl⟩ := trodVars_none hV
 obtain ⟨a0_, len0_, cap0_, rfl⟩ := okWide_slice Try.underlying36 (hval 0 36 v0 rfl rfl)
 have k0 := h0
 have lt0 : ∀ x ∈ p0, x.block < W.heap.size := by obtain ⟨m, hm⟩ := k0; exact DataW.trod_lt m _ _ _ hm
 obtain ⟨fu0, hf0⟩ := h0
 obtain ⟨l0, ⟨A0, c0, e0, hc0, hr0⟩, w0⟩ := Rdr.get (rdr_slice (z112 : S112) Try.underlying36 (by kernel_rfl) (rdr_T112 W)) _ hf0
 simp only [Value.cells, List.cons.injEq, Value.slice.injEq, and_true] at e0
 obtain ⟨rfl, rfl, rfl⟩ := e0
 obtain ⟨cs1, rfl, hn1⟩ := okWide_struct Try.underlying39 (hval 1 39 v1 rfl rfl)
 have k1 := h1
 have lt1 : ∀ x ∈ p1, x.block < W.heap.size := by obtain ⟨m, hm⟩ := k1; exact DataW.trod_lt m _ _ _ hm
 obtain ⟨fu1, hf1⟩ := h1
 obtain ⟨x1, K1, w1⟩ := Rdr.get (rdr_T39 W) _ hf1
 obtain ⟨A1_1, c1_1, e1, hc1_1, hr1_1⟩ := k39_open K1
 obtain ⟨cs1⟩ := cs1
 obtain rfl : cs1 = _ := e1
 obtain ⟨cs2, rfl, hn2⟩ := okWide_struct Try.underlying69 (hval 2 69 v2 rfl rfl)
 have k2 := h2
 have lt2 : ∀ x ∈ p2, x.block < W.heap.size := by obtain ⟨m, hm⟩ := k2; exact DataW.trod_lt m _ _ _ hm
 obtain ⟨fu2, hf2⟩ := h2
 obtain ⟨x2, K2, w2⟩ := Rdr.get (rdr_T69 W) _ hf2
 have e2 := k69_open K2
 obtain ⟨cs2⟩ := cs2
 obtain rfl : cs2 = _ := e2
 clear hA0 hval0 hsz0
 refine (laws_FnExactCacheFind.walk Pure.FnExactCacheFind _ _ l0 x1.f0 _ _ x1.f1 x2.f0 x2.f1 x2.f2 W hr0 hc0 hr1_1 hc1_1 w0 (w1.1) (w1.2) (w2.1) (w2.2.1) (w2.2.2)).mono fun e W' ⟨he, bel⟩ => ?_
 subst he
 exact ⟨_, rfl, _, _, _, [], _, [], hW', trodAll_mk1 (shut_bool Try.underlying4 _), (trodAll_cons_mk (Below.trod laidOut (by kernel_rfl) (of_decide_eq_true (by kernel_rfl)) k0 bel lt0) (trodAll_cons_mk (Below.trod laidOut (by kernel_rfl) (of_decide_eq_true (by kernel_rfl)) k1 bel lt1) (trodAll_cons_mk (Below.trod laidOut (by kernel_rfl) (of_decide_eq_true (by kernel_rfl)) k2 bel lt2) trodAll_mk0))), rfl, bel.frame _, fun h => by cases h⟩
theorem over : Rows.fnExactCacheFindRow.holds Try.pinned (OpenSpec.ofChange Rows.fnExactCacheFindSpec) :=
 OpenClaim.holds_of_wide 9 Try.f9 rfl rfl rfl rfl rfl rfl rfl ⟨rfl, rfl, rfl, rfl, rfl⟩ rfl rfl rfl rfl rfl (by kernel_rfl) Try.func9 (by kernel_rfl)
  (of_decide_eq_true (by kernel_rfl)) (by unfold Func.isWrapper; first | (rw [if_pos (by decide +kernel)]; kernel_rfl) | (rw [if_neg (by decide +kernel)]; exact ⟨rfl, rfl⟩))
  (fun os started H enc _ => lifted os started H enc)
theorem proved : Rows.FnExactCacheFindSaid := over
#print axioms proved
end Go.Proofs.Ytioghacieopbdaa.fnExactCacheFind
namespace Go.Proofs.Ytioghacieopbdaa
/-- The row, under a short name, for the claim. -/
theorem fnExactCacheFind_holds : Rows.FnExactCacheFindSaid := fnExactCacheFind.proved
end Go.Proofs.Ytioghacieopbdaa
end
