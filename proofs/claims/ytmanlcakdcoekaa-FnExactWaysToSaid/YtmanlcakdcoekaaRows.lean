/-
  No cell of these rows narrows 'for every input' (looked for: loops, veiled, ifaces, maps, wideKeys, modest, calm, conditions, laid).
  DERIVED. THE GIVEN ROWS OF THIS SEAT. 6 by the template 'for every input the law returns true; each argument reads behind the call as it read before'; 0 by the template 'total and deterministic' (their statements: YtmanlcakdcoekaaTotals.lean).
  GIVEN WITH THE SEED: the statements are not yours to turn. If you find one false, say at which input.
  Laid BY PROGRAM, IN A SANDBOX (cutbox-rows.mjs): the forced cells as the released guide's own fill.sh prints them over the translation bd943a313b68a60f… (all of the seat's roots in one cut). By AI agents, Wed Nov 11 2026. No macro, syntax, notation, axiom, sorry.
-/
import Derived.Test.YtmanlcakdcoekaaChecked
import GoSem.Claim
import GoSem.ClaimJoined
import GoSem.ClaimMapViews
import Derived.JoinedTies
import Derived.KernelRfl
namespace Go.Proofs.Ytmanlcakdcoekaa
/- THE CELL 'sum', in the pinned program and in every row, IS THE sha256 OF THE DUMP (.gsa) THAT YtmanlcakdcoekaaProg.lean LOADS. Nothing in Lean hashes anything: it is a label: what it is worth is what the hold of that sum in a sandbox is worth. -/
noncomputable def Try.pinned : Pinned := { name := "ytmanlcakdcoekaa", sum := "bd943a313b68a60ff4e913b1b2c6df11a87093dee7e606265c4baf0099a10c14", checked := Try.checked }
namespace Rows
def none {H : Type} : Left H := { results := [], args := [] }

/-- 'laws.FnSetSpan': WHATEVER THE INPUT: true; the input reads as it did. -/
def fnSetSpanSpec : ChangeSpec := { name := "fnSetSpan", fn := fun _ => fun
  | [d] => { results := [.lit (.bool true)], args := [d] }
  | _ => none }
def fnSetSpanRow : OpenClaim := { program := "ytmanlcakdcoekaa", sum := "bd943a313b68a60ff4e913b1b2c6df11a87093dee7e606265c4baf0099a10c14", func := "loop.example/overfare/laws.FnSetSpan", spec := "fnSetSpan", unfollowed := true, recurses := true, apart := false }
def FnSetSpanSaid : Prop := fnSetSpanRow.holds Try.pinned (OpenSpec.ofChange fnSetSpanSpec)

/-- ITS FALSE NEIGHBOUR: 'it returns false'. Refute it at one input. -/
def fnSetSpanWrong : ChangeSpec := { name := "fnSetSpan", fn := fun _ => fun
  | [d] => { results := [.lit (.bool false)], args := [d] }
  | _ => none }
def FnSetSpanWrongFalsely : Prop := fnSetSpanRow.holds Try.pinned (OpenSpec.ofChange fnSetSpanWrong)

/-- 'laws.FnExactSetHas': WHATEVER THE INPUT: true; the input reads as it did. -/
def fnExactSetHasSpec : ChangeSpec := { name := "fnExactSetHas", fn := fun _ => fun
  | [d1, d2] => { results := [.lit (.bool true)], args := [d1, d2] }
  | _ => none }
def fnExactSetHasRow : OpenClaim := { program := "ytmanlcakdcoekaa", sum := "bd943a313b68a60ff4e913b1b2c6df11a87093dee7e606265c4baf0099a10c14", func := "loop.example/overfare/laws.FnExactSetHas", spec := "fnExactSetHas", unfollowed := true, recurses := true, apart := false }
def FnExactSetHasSaid : Prop := fnExactSetHasRow.holds Try.pinned (OpenSpec.ofChange fnExactSetHasSpec)

/-- ITS FALSE NEIGHBOUR: 'it returns false'. Refute it at one input. -/
def fnExactSetHasWrong : ChangeSpec := { name := "fnExactSetHas", fn := fun _ => fun
  | [d1, d2] => { results := [.lit (.bool false)], args := [d1, d2] }
  | _ => none }
def FnExactSetHasWrongFalsely : Prop := fnExactSetHasRow.holds Try.pinned (OpenSpec.ofChange fnExactSetHasWrong)

/-- 'laws.FnSetOf': WHATEVER THE INPUT: true; the input reads as it did. -/
def fnSetOfSpec : ChangeSpec := { name := "fnSetOf", fn := fun _ => fun
  | [d] => { results := [.lit (.bool true)], args := [d] }
  | _ => none }
def fnSetOfRow : OpenClaim := { program := "ytmanlcakdcoekaa", sum := "bd943a313b68a60ff4e913b1b2c6df11a87093dee7e606265c4baf0099a10c14", func := "loop.example/overfare/laws.FnSetOf", spec := "fnSetOf", unfollowed := true, recurses := true, apart := false }
def FnSetOfSaid : Prop := fnSetOfRow.holds Try.pinned (OpenSpec.ofChange fnSetOfSpec)

/-- ITS FALSE NEIGHBOUR: 'it returns false'. Refute it at one input. -/
def fnSetOfWrong : ChangeSpec := { name := "fnSetOf", fn := fun _ => fun
  | [d] => { results := [.lit (.bool false)], args := [d] }
  | _ => none }
def FnSetOfWrongFalsely : Prop := fnSetOfRow.holds Try.pinned (OpenSpec.ofChange fnSetOfWrong)

/-- 'laws.FnSetHas': WHATEVER THE INPUT: true; the input reads as it did. -/
def fnSetHasSpec : ChangeSpec := { name := "fnSetHas", fn := fun _ => fun
  | [d] => { results := [.lit (.bool true)], args := [d] }
  | _ => none }
def fnSetHasRow : OpenClaim := { program := "ytmanlcakdcoekaa", sum := "bd943a313b68a60ff4e913b1b2c6df11a87093dee7e606265c4baf0099a10c14", func := "loop.example/overfare/laws.FnSetHas", spec := "fnSetHas", unfollowed := true, recurses := true, apart := false }
def FnSetHasSaid : Prop := fnSetHasRow.holds Try.pinned (OpenSpec.ofChange fnSetHasSpec)

/-- ITS FALSE NEIGHBOUR: 'it returns false'. Refute it at one input. -/
def fnSetHasWrong : ChangeSpec := { name := "fnSetHas", fn := fun _ => fun
  | [d] => { results := [.lit (.bool false)], args := [d] }
  | _ => none }
def FnSetHasWrongFalsely : Prop := fnSetHasRow.holds Try.pinned (OpenSpec.ofChange fnSetHasWrong)

/-- 'laws.FnSetLess': WHATEVER THE INPUT: true; the input reads as it did. -/
def fnSetLessSpec : ChangeSpec := { name := "fnSetLess", fn := fun _ => fun
  | [d1, d2] => { results := [.lit (.bool true)], args := [d1, d2] }
  | _ => none }
def fnSetLessRow : OpenClaim := { program := "ytmanlcakdcoekaa", sum := "bd943a313b68a60ff4e913b1b2c6df11a87093dee7e606265c4baf0099a10c14", func := "loop.example/overfare/laws.FnSetLess", spec := "fnSetLess", unfollowed := true, recurses := true, apart := false }
def FnSetLessSaid : Prop := fnSetLessRow.holds Try.pinned (OpenSpec.ofChange fnSetLessSpec)

/-- ITS FALSE NEIGHBOUR: 'it returns false'. Refute it at one input. -/
def fnSetLessWrong : ChangeSpec := { name := "fnSetLess", fn := fun _ => fun
  | [d1, d2] => { results := [.lit (.bool false)], args := [d1, d2] }
  | _ => none }
def FnSetLessWrongFalsely : Prop := fnSetLessRow.holds Try.pinned (OpenSpec.ofChange fnSetLessWrong)

/-- 'laws.FnExactWaysTo': WHATEVER THE INPUT: true; the input reads as it did. -/
def fnExactWaysToSpec : ChangeSpec := { name := "fnExactWaysTo", fn := fun _ => fun
  | [d1, d2] => { results := [.lit (.bool true)], args := [d1, d2] }
  | _ => none }
def fnExactWaysToRow : OpenClaim := { program := "ytmanlcakdcoekaa", sum := "bd943a313b68a60ff4e913b1b2c6df11a87093dee7e606265c4baf0099a10c14", func := "loop.example/overfare/laws.FnExactWaysTo", spec := "fnExactWaysTo", unfollowed := true, recurses := true, apart := false }
def FnExactWaysToSaid : Prop := fnExactWaysToRow.holds Try.pinned (OpenSpec.ofChange fnExactWaysToSpec)

/-- ITS FALSE NEIGHBOUR: 'it returns false'. Refute it at one input. -/
def fnExactWaysToWrong : ChangeSpec := { name := "fnExactWaysTo", fn := fun _ => fun
  | [d1, d2] => { results := [.lit (.bool false)], args := [d1, d2] }
  | _ => none }
def FnExactWaysToWrongFalsely : Prop := fnExactWaysToRow.holds Try.pinned (OpenSpec.ofChange fnExactWaysToWrong)

/- THE SECOND FORM. 'bulk': how many values and letters a reading holds, each counted each time it is reached (what is shared counts as often as it is met; a slice's spare places count too). A statement '..UptoSaid' is the law's where the arguments, and the package variables that the reading takes, are together of bulk at most 1048576: NARROWER than '..Said'. Prove '..Said' where nothing that the law and all that it calls make is longer than what came in: it says more and counts as full. Else prove '..UptoSaid'. A law counts once. -/
mutual
def uptoBulk {H : Type} : DataW H → Nat
  | .lit (.string bytes) => bytes.length + 1
  | .lit _ => 1
  | .nil => 1
  | .ptr d => uptoBulk d + 1
  | .slice elems spare => uptoBulkAll elems + uptoBulkAll spare + 1
  | .agg parts => uptoBulkAll parts + 1
  | .iface _ d => uptoBulk d + 1
  | .map entries => uptoBulkEntries entries + 1
  | .held _ => 1
def uptoBulkAll {H : Type} : List (DataW H) → Nat
  | [] => 0
  | d :: r => uptoBulk d + uptoBulkAll r
def uptoBulkEntries {H : Type} : List (Lit × DataW H) → Nat
  | [] => 0
  | x :: r => uptoBulkEntry x + uptoBulkEntries r
def uptoBulkEntry {H : Type} : Lit × DataW H → Nat
  | (.string bytes, d) => bytes.length + uptoBulk d + 1
  | (_, d) => uptoBulk d + 1
 end
def uptoSmall : (H : Type) → List (DataW H) → Bool := fun _ ds => decide (uptoBulkAll ds ≤ 1048576)
def OpenSpec.upto (s : _root_.Go.ChangeSpec) : _root_.Go.OpenSpec := { _root_.Go.OpenSpec.ofChange s with cond := some uptoSmall }

/-- 'laws.FnSetSpan', WHERE WHAT IT READS IS OF BULK AT MOST 1048576: true; the input reads as it did. -/
def fnSetSpanUptoRow : OpenClaim := { program := "ytmanlcakdcoekaa", sum := "bd943a313b68a60ff4e913b1b2c6df11a87093dee7e606265c4baf0099a10c14", func := "loop.example/overfare/laws.FnSetSpan", spec := "fnSetSpan", unfollowed := true, recurses := true, apart := false, narrowed := true }
def FnSetSpanUptoSaid : Prop := fnSetSpanUptoRow.holds Try.pinned (OpenSpec.upto fnSetSpanSpec)

/-- 'laws.FnExactSetHas', WHERE WHAT IT READS IS OF BULK AT MOST 1048576: true; the input reads as it did. -/
def fnExactSetHasUptoRow : OpenClaim := { program := "ytmanlcakdcoekaa", sum := "bd943a313b68a60ff4e913b1b2c6df11a87093dee7e606265c4baf0099a10c14", func := "loop.example/overfare/laws.FnExactSetHas", spec := "fnExactSetHas", unfollowed := true, recurses := true, apart := false, narrowed := true }
def FnExactSetHasUptoSaid : Prop := fnExactSetHasUptoRow.holds Try.pinned (OpenSpec.upto fnExactSetHasSpec)

/-- 'laws.FnSetOf', WHERE WHAT IT READS IS OF BULK AT MOST 1048576: true; the input reads as it did. -/
def fnSetOfUptoRow : OpenClaim := { program := "ytmanlcakdcoekaa", sum := "bd943a313b68a60ff4e913b1b2c6df11a87093dee7e606265c4baf0099a10c14", func := "loop.example/overfare/laws.FnSetOf", spec := "fnSetOf", unfollowed := true, recurses := true, apart := false, narrowed := true }
def FnSetOfUptoSaid : Prop := fnSetOfUptoRow.holds Try.pinned (OpenSpec.upto fnSetOfSpec)

/-- 'laws.FnSetHas', WHERE WHAT IT READS IS OF BULK AT MOST 1048576: true; the input reads as it did. -/
def fnSetHasUptoRow : OpenClaim := { program := "ytmanlcakdcoekaa", sum := "bd943a313b68a60ff4e913b1b2c6df11a87093dee7e606265c4baf0099a10c14", func := "loop.example/overfare/laws.FnSetHas", spec := "fnSetHas", unfollowed := true, recurses := true, apart := false, narrowed := true }
def FnSetHasUptoSaid : Prop := fnSetHasUptoRow.holds Try.pinned (OpenSpec.upto fnSetHasSpec)

/-- 'laws.FnSetLess', WHERE WHAT IT READS IS OF BULK AT MOST 1048576: true; the input reads as it did. -/
def fnSetLessUptoRow : OpenClaim := { program := "ytmanlcakdcoekaa", sum := "bd943a313b68a60ff4e913b1b2c6df11a87093dee7e606265c4baf0099a10c14", func := "loop.example/overfare/laws.FnSetLess", spec := "fnSetLess", unfollowed := true, recurses := true, apart := false, narrowed := true }
def FnSetLessUptoSaid : Prop := fnSetLessUptoRow.holds Try.pinned (OpenSpec.upto fnSetLessSpec)

/-- 'laws.FnExactWaysTo', WHERE WHAT IT READS IS OF BULK AT MOST 1048576: true; the input reads as it did. -/
def fnExactWaysToUptoRow : OpenClaim := { program := "ytmanlcakdcoekaa", sum := "bd943a313b68a60ff4e913b1b2c6df11a87093dee7e606265c4baf0099a10c14", func := "loop.example/overfare/laws.FnExactWaysTo", spec := "fnExactWaysTo", unfollowed := true, recurses := true, apart := false, narrowed := true }
def FnExactWaysToUptoSaid : Prop := fnExactWaysToUptoRow.holds Try.pinned (OpenSpec.upto fnExactWaysToSpec)

end Rows
end Go.Proofs.Ytmanlcakdcoekaa
