/-
  No cell of these rows narrows 'for every input' (looked for: loops, veiled, ifaces, maps, wideKeys, modest, calm, conditions, laid).
  DERIVED. THE GIVEN ROWS OF THIS SEAT. 11 by the template 'for every input the law returns true; each argument reads behind the call as it read before'; 0 by the template 'total and deterministic' (their statements: YtkgbgaojglcaoaaTotals.lean).
  GIVEN WITH THE SEED: the statements are not yours to turn. If you find one false, say at which input.
  Laid BY PROGRAM, IN A SANDBOX (cutbox-rows.mjs): the forced cells as the released guide's own fill.sh prints them over the translation de3130899b80ec7d… (all of the seat's roots in one cut). By AI agents, Wed Nov 11 2026. No macro, syntax, notation, axiom, sorry.
-/
import Derived.Test.YtkgbgaojglcaoaaChecked
import GoSem.Claim
import GoSem.ClaimJoined
import GoSem.ClaimMapViews
import Derived.JoinedTies
import Derived.KernelRfl
namespace Go.Proofs.Ytkgbgaojglcaoaa
/- THE CELL 'sum', in the pinned program and in every row, IS THE sha256 OF THE DUMP (.gsa) THAT YtkgbgaojglcaoaaProg.lean LOADS. Nothing in Lean hashes anything: it is a label: what it is worth is what the hold of that sum in a sandbox is worth. -/
noncomputable def Try.pinned : Pinned := { name := "ytkgbgaojglcaoaa", sum := "de3130899b80ec7dfc49022b10b2b24d553159d6abf3f767babd1afb437857cc", checked := Try.checked }
namespace Rows
def none {H : Type} : Left H := { results := [], args := [] }

/-- 'laws.FnExactWaysDiffer': WHATEVER THE INPUT: true; the input reads as it did. -/
def fnExactWaysDifferSpec : ChangeSpec := { name := "fnExactWaysDiffer", fn := fun _ => fun
  | [d1, d2] => { results := [.lit (.bool true)], args := [d1, d2] }
  | _ => none }
def fnExactWaysDifferRow : OpenClaim := { program := "ytkgbgaojglcaoaa", sum := "de3130899b80ec7dfc49022b10b2b24d553159d6abf3f767babd1afb437857cc", func := "loop.example/overfare/laws.FnExactWaysDiffer", spec := "fnExactWaysDiffer", recurses := true, apart := false }
def FnExactWaysDifferSaid : Prop := fnExactWaysDifferRow.holds Try.pinned (OpenSpec.ofChange fnExactWaysDifferSpec)

/-- ITS FALSE NEIGHBOUR: 'it returns false'. Refute it at one input. -/
def fnExactWaysDifferWrong : ChangeSpec := { name := "fnExactWaysDiffer", fn := fun _ => fun
  | [d1, d2] => { results := [.lit (.bool false)], args := [d1, d2] }
  | _ => none }
def FnExactWaysDifferWrongFalsely : Prop := fnExactWaysDifferRow.holds Try.pinned (OpenSpec.ofChange fnExactWaysDifferWrong)

/-- 'laws.FnWaysDiffer': WHATEVER THE INPUT: true; the input reads as it did. -/
def fnWaysDifferSpec : ChangeSpec := { name := "fnWaysDiffer", fn := fun _ => fun
  | [d1, d2] => { results := [.lit (.bool true)], args := [d1, d2] }
  | _ => none }
def fnWaysDifferRow : OpenClaim := { program := "ytkgbgaojglcaoaa", sum := "de3130899b80ec7dfc49022b10b2b24d553159d6abf3f767babd1afb437857cc", func := "loop.example/overfare/laws.FnWaysDiffer", spec := "fnWaysDiffer", recurses := true, apart := false }
def FnWaysDifferSaid : Prop := fnWaysDifferRow.holds Try.pinned (OpenSpec.ofChange fnWaysDifferSpec)

/-- ITS FALSE NEIGHBOUR: 'it returns false'. Refute it at one input. -/
def fnWaysDifferWrong : ChangeSpec := { name := "fnWaysDiffer", fn := fun _ => fun
  | [d1, d2] => { results := [.lit (.bool false)], args := [d1, d2] }
  | _ => none }
def FnWaysDifferWrongFalsely : Prop := fnWaysDifferRow.holds Try.pinned (OpenSpec.ofChange fnWaysDifferWrong)

/-- 'laws.FnWaysLess': WHATEVER THE INPUT: true; the input reads as it did. -/
def fnWaysLessSpec : ChangeSpec := { name := "fnWaysLess", fn := fun _ => fun
  | [d] => { results := [.lit (.bool true)], args := [d] }
  | _ => none }
def fnWaysLessRow : OpenClaim := { program := "ytkgbgaojglcaoaa", sum := "de3130899b80ec7dfc49022b10b2b24d553159d6abf3f767babd1afb437857cc", func := "loop.example/overfare/laws.FnWaysLess", spec := "fnWaysLess", unfollowed := true, recurses := true, apart := false }
def FnWaysLessSaid : Prop := fnWaysLessRow.holds Try.pinned (OpenSpec.ofChange fnWaysLessSpec)

/-- ITS FALSE NEIGHBOUR: 'it returns false'. Refute it at one input. -/
def fnWaysLessWrong : ChangeSpec := { name := "fnWaysLess", fn := fun _ => fun
  | [d] => { results := [.lit (.bool false)], args := [d] }
  | _ => none }
def FnWaysLessWrongFalsely : Prop := fnWaysLessRow.holds Try.pinned (OpenSpec.ofChange fnWaysLessWrong)

/-- 'laws.FnExactRulesDead': WHATEVER THE INPUT: true; the input reads as it did. -/
def fnExactRulesDeadSpec : ChangeSpec := { name := "fnExactRulesDead", fn := fun _ => fun
  | [d] => { results := [.lit (.bool true)], args := [d] }
  | _ => none }
def fnExactRulesDeadRow : OpenClaim := { program := "ytkgbgaojglcaoaa", sum := "de3130899b80ec7dfc49022b10b2b24d553159d6abf3f767babd1afb437857cc", func := "loop.example/overfare/laws.FnExactRulesDead", spec := "fnExactRulesDead", unfollowed := true, recurses := true, apart := false }
def FnExactRulesDeadSaid : Prop := fnExactRulesDeadRow.holds Try.pinned (OpenSpec.ofChange fnExactRulesDeadSpec)

/-- ITS FALSE NEIGHBOUR: 'it returns false'. Refute it at one input. -/
def fnExactRulesDeadWrong : ChangeSpec := { name := "fnExactRulesDead", fn := fun _ => fun
  | [d] => { results := [.lit (.bool false)], args := [d] }
  | _ => none }
def FnExactRulesDeadWrongFalsely : Prop := fnExactRulesDeadRow.holds Try.pinned (OpenSpec.ofChange fnExactRulesDeadWrong)

/-- 'laws.FnExactRulesDiffer': WHATEVER THE INPUT: true; the input reads as it did. -/
def fnExactRulesDifferSpec : ChangeSpec := { name := "fnExactRulesDiffer", fn := fun _ => fun
  | [d1, d2] => { results := [.lit (.bool true)], args := [d1, d2] }
  | _ => none }
def fnExactRulesDifferRow : OpenClaim := { program := "ytkgbgaojglcaoaa", sum := "de3130899b80ec7dfc49022b10b2b24d553159d6abf3f767babd1afb437857cc", func := "loop.example/overfare/laws.FnExactRulesDiffer", spec := "fnExactRulesDiffer", unfollowed := true, recurses := true, apart := false }
def FnExactRulesDifferSaid : Prop := fnExactRulesDifferRow.holds Try.pinned (OpenSpec.ofChange fnExactRulesDifferSpec)

/-- ITS FALSE NEIGHBOUR: 'it returns false'. Refute it at one input. -/
def fnExactRulesDifferWrong : ChangeSpec := { name := "fnExactRulesDiffer", fn := fun _ => fun
  | [d1, d2] => { results := [.lit (.bool false)], args := [d1, d2] }
  | _ => none }
def FnExactRulesDifferWrongFalsely : Prop := fnExactRulesDifferRow.holds Try.pinned (OpenSpec.ofChange fnExactRulesDifferWrong)

/-- 'laws.FnRulesTwice': WHATEVER THE INPUT: true; the input reads as it did. -/
def fnRulesTwiceSpec : ChangeSpec := { name := "fnRulesTwice", fn := fun _ => fun
  | [d] => { results := [.lit (.bool true)], args := [d] }
  | _ => none }
def fnRulesTwiceRow : OpenClaim := { program := "ytkgbgaojglcaoaa", sum := "de3130899b80ec7dfc49022b10b2b24d553159d6abf3f767babd1afb437857cc", func := "loop.example/overfare/laws.FnRulesTwice", spec := "fnRulesTwice", unfollowed := true, recurses := true, apart := false }
def FnRulesTwiceSaid : Prop := fnRulesTwiceRow.holds Try.pinned (OpenSpec.ofChange fnRulesTwiceSpec)

/-- ITS FALSE NEIGHBOUR: 'it returns false'. Refute it at one input. -/
def fnRulesTwiceWrong : ChangeSpec := { name := "fnRulesTwice", fn := fun _ => fun
  | [d] => { results := [.lit (.bool false)], args := [d] }
  | _ => none }
def FnRulesTwiceWrongFalsely : Prop := fnRulesTwiceRow.holds Try.pinned (OpenSpec.ofChange fnRulesTwiceWrong)

/-- 'laws.FnRulesTail': WHATEVER THE INPUT: true; the input reads as it did. -/
def fnRulesTailSpec : ChangeSpec := { name := "fnRulesTail", fn := fun _ => fun
  | [d] => { results := [.lit (.bool true)], args := [d] }
  | _ => none }
def fnRulesTailRow : OpenClaim := { program := "ytkgbgaojglcaoaa", sum := "de3130899b80ec7dfc49022b10b2b24d553159d6abf3f767babd1afb437857cc", func := "loop.example/overfare/laws.FnRulesTail", spec := "fnRulesTail", unfollowed := true, recurses := true, apart := false }
def FnRulesTailSaid : Prop := fnRulesTailRow.holds Try.pinned (OpenSpec.ofChange fnRulesTailSpec)

/-- ITS FALSE NEIGHBOUR: 'it returns false'. Refute it at one input. -/
def fnRulesTailWrong : ChangeSpec := { name := "fnRulesTail", fn := fun _ => fun
  | [d] => { results := [.lit (.bool false)], args := [d] }
  | _ => none }
def FnRulesTailWrongFalsely : Prop := fnRulesTailRow.holds Try.pinned (OpenSpec.ofChange fnRulesTailWrong)

/-- 'laws.FnRulesDead': WHATEVER THE INPUT: true; the input reads as it did. -/
def fnRulesDeadSpec : ChangeSpec := { name := "fnRulesDead", fn := fun _ => fun
  | [d1, d2] => { results := [.lit (.bool true)], args := [d1, d2] }
  | _ => none }
def fnRulesDeadRow : OpenClaim := { program := "ytkgbgaojglcaoaa", sum := "de3130899b80ec7dfc49022b10b2b24d553159d6abf3f767babd1afb437857cc", func := "loop.example/overfare/laws.FnRulesDead", spec := "fnRulesDead", unfollowed := true, recurses := true, apart := false }
def FnRulesDeadSaid : Prop := fnRulesDeadRow.holds Try.pinned (OpenSpec.ofChange fnRulesDeadSpec)

/-- ITS FALSE NEIGHBOUR: 'it returns false'. Refute it at one input. -/
def fnRulesDeadWrong : ChangeSpec := { name := "fnRulesDead", fn := fun _ => fun
  | [d1, d2] => { results := [.lit (.bool false)], args := [d1, d2] }
  | _ => none }
def FnRulesDeadWrongFalsely : Prop := fnRulesDeadRow.holds Try.pinned (OpenSpec.ofChange fnRulesDeadWrong)

/-- 'laws.FnRulesDiffer': WHATEVER THE INPUT: true; the input reads as it did. -/
def fnRulesDifferSpec : ChangeSpec := { name := "fnRulesDiffer", fn := fun _ => fun
  | [d1, d2] => { results := [.lit (.bool true)], args := [d1, d2] }
  | _ => none }
def fnRulesDifferRow : OpenClaim := { program := "ytkgbgaojglcaoaa", sum := "de3130899b80ec7dfc49022b10b2b24d553159d6abf3f767babd1afb437857cc", func := "loop.example/overfare/laws.FnRulesDiffer", spec := "fnRulesDiffer", unfollowed := true, recurses := true, apart := false }
def FnRulesDifferSaid : Prop := fnRulesDifferRow.holds Try.pinned (OpenSpec.ofChange fnRulesDifferSpec)

/-- ITS FALSE NEIGHBOUR: 'it returns false'. Refute it at one input. -/
def fnRulesDifferWrong : ChangeSpec := { name := "fnRulesDiffer", fn := fun _ => fun
  | [d1, d2] => { results := [.lit (.bool false)], args := [d1, d2] }
  | _ => none }
def FnRulesDifferWrongFalsely : Prop := fnRulesDifferRow.holds Try.pinned (OpenSpec.ofChange fnRulesDifferWrong)

/-- 'laws.FnExactCells': WHATEVER THE INPUT: true; the input reads as it did. -/
def fnExactCellsSpec : ChangeSpec := { name := "fnExactCells", fn := fun _ => fun
  | [d] => { results := [.lit (.bool true)], args := [d] }
  | _ => none }
def fnExactCellsRow : OpenClaim := { program := "ytkgbgaojglcaoaa", sum := "de3130899b80ec7dfc49022b10b2b24d553159d6abf3f767babd1afb437857cc", func := "loop.example/overfare/laws.FnExactCells", spec := "fnExactCells", unfollowed := true, recurses := true, apart := false }
def FnExactCellsSaid : Prop := fnExactCellsRow.holds Try.pinned (OpenSpec.ofChange fnExactCellsSpec)

/-- ITS FALSE NEIGHBOUR: 'it returns false'. Refute it at one input. -/
def fnExactCellsWrong : ChangeSpec := { name := "fnExactCells", fn := fun _ => fun
  | [d] => { results := [.lit (.bool false)], args := [d] }
  | _ => none }
def FnExactCellsWrongFalsely : Prop := fnExactCellsRow.holds Try.pinned (OpenSpec.ofChange fnExactCellsWrong)

/-- 'laws.FnCells': WHATEVER THE INPUT: true; the input reads as it did. -/
def fnCellsSpec : ChangeSpec := { name := "fnCells", fn := fun _ => fun
  | [d1, d2] => { results := [.lit (.bool true)], args := [d1, d2] }
  | _ => none }
def fnCellsRow : OpenClaim := { program := "ytkgbgaojglcaoaa", sum := "de3130899b80ec7dfc49022b10b2b24d553159d6abf3f767babd1afb437857cc", func := "loop.example/overfare/laws.FnCells", spec := "fnCells", unfollowed := true, recurses := true, apart := false }
def FnCellsSaid : Prop := fnCellsRow.holds Try.pinned (OpenSpec.ofChange fnCellsSpec)

/-- ITS FALSE NEIGHBOUR: 'it returns false'. Refute it at one input. -/
def fnCellsWrong : ChangeSpec := { name := "fnCells", fn := fun _ => fun
  | [d1, d2] => { results := [.lit (.bool false)], args := [d1, d2] }
  | _ => none }
def FnCellsWrongFalsely : Prop := fnCellsRow.holds Try.pinned (OpenSpec.ofChange fnCellsWrong)

/- THE SECOND FORM. 'bulk': how many values and letters a reading holds, each counted each time it is reached (what is shared counts as often as it is met; a slice's spare places count too). A statement '..UptoSaid' is the law's where the arguments, and the package variables that the reading takes, are together of bulk at most 1048576: NARROWER than '..Said'. Prove '..Said' where nothing that the law and all that it calls make is longer than what came in: it says more and counts as full. Else prove '..UptoSaid'. A law counts once. -/
mutual
def uptoBulk {H : Type} : DataW H → Nat
  | .lit (.string bytes) => bytes.length + 1
  | .lit _ => 1
  | .nil => 1
  | .ptr d => uptoBulk d + 1
  | .slice elems spare => uptoBulkAll elems + uptoBulkAll spare + 1
  | .agg parts => uptoBulkAll parts + 1
  | .iface _ d => uptoBulk d + 1
  | .map entries => uptoBulkEntries entries + 1
  | .held _ => 1
def uptoBulkAll {H : Type} : List (DataW H) → Nat
  | [] => 0
  | d :: r => uptoBulk d + uptoBulkAll r
def uptoBulkEntries {H : Type} : List (Lit × DataW H) → Nat
  | [] => 0
  | x :: r => uptoBulkEntry x + uptoBulkEntries r
def uptoBulkEntry {H : Type} : Lit × DataW H → Nat
  | (.string bytes, d) => bytes.length + uptoBulk d + 1
  | (_, d) => uptoBulk d + 1
 end
def uptoSmall : (H : Type) → List (DataW H) → Bool := fun _ ds => decide (uptoBulkAll ds ≤ 1048576)
def OpenSpec.upto (s : _root_.Go.ChangeSpec) : _root_.Go.OpenSpec := { _root_.Go.OpenSpec.ofChange s with cond := some uptoSmall }

/-- 'laws.FnExactWaysDiffer', WHERE WHAT IT READS IS OF BULK AT MOST 1048576: true; the input reads as it did. -/
def fnExactWaysDifferUptoRow : OpenClaim := { program := "ytkgbgaojglcaoaa", sum := "de3130899b80ec7dfc49022b10b2b24d553159d6abf3f767babd1afb437857cc", func := "loop.example/overfare/laws.FnExactWaysDiffer", spec := "fnExactWaysDiffer", recurses := true, apart := false, narrowed := true }
def FnExactWaysDifferUptoSaid : Prop := fnExactWaysDifferUptoRow.holds Try.pinned (OpenSpec.upto fnExactWaysDifferSpec)

/-- 'laws.FnWaysDiffer', WHERE WHAT IT READS IS OF BULK AT MOST 1048576: true; the input reads as it did. -/
def fnWaysDifferUptoRow : OpenClaim := { program := "ytkgbgaojglcaoaa", sum := "de3130899b80ec7dfc49022b10b2b24d553159d6abf3f767babd1afb437857cc", func := "loop.example/overfare/laws.FnWaysDiffer", spec := "fnWaysDiffer", recurses := true, apart := false, narrowed := true }
def FnWaysDifferUptoSaid : Prop := fnWaysDifferUptoRow.holds Try.pinned (OpenSpec.upto fnWaysDifferSpec)

/-- 'laws.FnWaysLess', WHERE WHAT IT READS IS OF BULK AT MOST 1048576: true; the input reads as it did. -/
def fnWaysLessUptoRow : OpenClaim := { program := "ytkgbgaojglcaoaa", sum := "de3130899b80ec7dfc49022b10b2b24d553159d6abf3f767babd1afb437857cc", func := "loop.example/overfare/laws.FnWaysLess", spec := "fnWaysLess", unfollowed := true, recurses := true, apart := false, narrowed := true }
def FnWaysLessUptoSaid : Prop := fnWaysLessUptoRow.holds Try.pinned (OpenSpec.upto fnWaysLessSpec)

/-- 'laws.FnExactRulesDead', WHERE WHAT IT READS IS OF BULK AT MOST 1048576: true; the input reads as it did. -/
def fnExactRulesDeadUptoRow : OpenClaim := { program := "ytkgbgaojglcaoaa", sum := "de3130899b80ec7dfc49022b10b2b24d553159d6abf3f767babd1afb437857cc", func := "loop.example/overfare/laws.FnExactRulesDead", spec := "fnExactRulesDead", unfollowed := true, recurses := true, apart := false, narrowed := true }
def FnExactRulesDeadUptoSaid : Prop := fnExactRulesDeadUptoRow.holds Try.pinned (OpenSpec.upto fnExactRulesDeadSpec)

/-- 'laws.FnExactRulesDiffer', WHERE WHAT IT READS IS OF BULK AT MOST 1048576: true; the input reads as it did. -/
def fnExactRulesDifferUptoRow : OpenClaim := { program := "ytkgbgaojglcaoaa", sum := "de3130899b80ec7dfc49022b10b2b24d553159d6abf3f767babd1afb437857cc", func := "loop.example/overfare/laws.FnExactRulesDiffer", spec := "fnExactRulesDiffer", unfollowed := true, recurses := true, apart := false, narrowed := true }
def FnExactRulesDifferUptoSaid : Prop := fnExactRulesDifferUptoRow.holds Try.pinned (OpenSpec.upto fnExactRulesDifferSpec)

/-- 'laws.FnRulesTwice', WHERE WHAT IT READS IS OF BULK AT MOST 1048576: true; the input reads as it did. -/
def fnRulesTwiceUptoRow : OpenClaim := { program := "ytkgbgaojglcaoaa", sum := "de3130899b80ec7dfc49022b10b2b24d553159d6abf3f767babd1afb437857cc", func := "loop.example/overfare/laws.FnRulesTwice", spec := "fnRulesTwice", unfollowed := true, recurses := true, apart := false, narrowed := true }
def FnRulesTwiceUptoSaid : Prop := fnRulesTwiceUptoRow.holds Try.pinned (OpenSpec.upto fnRulesTwiceSpec)

/-- 'laws.FnRulesTail', WHERE WHAT IT READS IS OF BULK AT MOST 1048576: true; the input reads as it did. -/
def fnRulesTailUptoRow : OpenClaim := { program := "ytkgbgaojglcaoaa", sum := "de3130899b80ec7dfc49022b10b2b24d553159d6abf3f767babd1afb437857cc", func := "loop.example/overfare/laws.FnRulesTail", spec := "fnRulesTail", unfollowed := true, recurses := true, apart := false, narrowed := true }
def FnRulesTailUptoSaid : Prop := fnRulesTailUptoRow.holds Try.pinned (OpenSpec.upto fnRulesTailSpec)

/-- 'laws.FnRulesDead', WHERE WHAT IT READS IS OF BULK AT MOST 1048576: true; the input reads as it did. -/
def fnRulesDeadUptoRow : OpenClaim := { program := "ytkgbgaojglcaoaa", sum := "de3130899b80ec7dfc49022b10b2b24d553159d6abf3f767babd1afb437857cc", func := "loop.example/overfare/laws.FnRulesDead", spec := "fnRulesDead", unfollowed := true, recurses := true, apart := false, narrowed := true }
def FnRulesDeadUptoSaid : Prop := fnRulesDeadUptoRow.holds Try.pinned (OpenSpec.upto fnRulesDeadSpec)

/-- 'laws.FnRulesDiffer', WHERE WHAT IT READS IS OF BULK AT MOST 1048576: true; the input reads as it did. -/
def fnRulesDifferUptoRow : OpenClaim := { program := "ytkgbgaojglcaoaa", sum := "de3130899b80ec7dfc49022b10b2b24d553159d6abf3f767babd1afb437857cc", func := "loop.example/overfare/laws.FnRulesDiffer", spec := "fnRulesDiffer", unfollowed := true, recurses := true, apart := false, narrowed := true }
def FnRulesDifferUptoSaid : Prop := fnRulesDifferUptoRow.holds Try.pinned (OpenSpec.upto fnRulesDifferSpec)

/-- 'laws.FnExactCells', WHERE WHAT IT READS IS OF BULK AT MOST 1048576: true; the input reads as it did. -/
def fnExactCellsUptoRow : OpenClaim := { program := "ytkgbgaojglcaoaa", sum := "de3130899b80ec7dfc49022b10b2b24d553159d6abf3f767babd1afb437857cc", func := "loop.example/overfare/laws.FnExactCells", spec := "fnExactCells", unfollowed := true, recurses := true, apart := false, narrowed := true }
def FnExactCellsUptoSaid : Prop := fnExactCellsUptoRow.holds Try.pinned (OpenSpec.upto fnExactCellsSpec)

/-- 'laws.FnCells', WHERE WHAT IT READS IS OF BULK AT MOST 1048576: true; the input reads as it did. -/
def fnCellsUptoRow : OpenClaim := { program := "ytkgbgaojglcaoaa", sum := "de3130899b80ec7dfc49022b10b2b24d553159d6abf3f767babd1afb437857cc", func := "loop.example/overfare/laws.FnCells", spec := "fnCells", unfollowed := true, recurses := true, apart := false, narrowed := true }
def FnCellsUptoSaid : Prop := fnCellsUptoRow.holds Try.pinned (OpenSpec.upto fnCellsSpec)

end Rows
end Go.Proofs.Ytkgbgaojglcaoaa
