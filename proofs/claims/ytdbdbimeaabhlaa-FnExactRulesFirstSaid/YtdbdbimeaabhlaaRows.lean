/-
  No cell of these rows narrows 'for every input' (looked for: loops, veiled, ifaces, maps, wideKeys, modest, calm, conditions, laid).
  DERIVED. THE GIVEN ROWS OF THIS SEAT. 6 by the template 'for every input the law returns true; each argument reads behind the call as it read before'; 0 by the template 'total and deterministic' (their statements: YtdbdbimeaabhlaaTotals.lean).
  GIVEN WITH THE SEED: the statements are not yours to turn. If you find one false, say at which input.
  Laid BY PROGRAM, IN A SANDBOX (cutbox-rows.mjs): the forced cells as the released guide's own fill.sh prints them over the translation a9e34d49a6f34d73… (all of the seat's roots in one cut). By AI agents, Wed Nov 11 2026. No macro, syntax, notation, axiom, sorry.
-/
import Derived.Test.YtdbdbimeaabhlaaChecked
import GoSem.Claim
import GoSem.ClaimJoined
import GoSem.ClaimMapViews
import Derived.JoinedTies
import Derived.KernelRfl
namespace Go.Proofs.Ytdbdbimeaabhlaa
/- THE CELL 'sum', in the pinned program and in every row, IS THE sha256 OF THE DUMP (.gsa) THAT YtdbdbimeaabhlaaProg.lean LOADS. Nothing in Lean hashes anything: it is a label: what it is worth is what the hold of that sum in a sandbox is worth. -/
noncomputable def Try.pinned : Pinned := { name := "ytdbdbimeaabhlaa", sum := "a9e34d49a6f34d73852a46a998a8f43284b0a9ab43ffaf610b9de6cf03f862f7", checked := Try.checked }
namespace Rows
def none {H : Type} : Left H := { results := [], args := [] }

/-- 'laws.FnBlockHas': WHATEVER THE INPUT: true; the input reads as it did. -/
def fnBlockHasSpec : ChangeSpec := { name := "fnBlockHas", fn := fun _ => fun
  | [d] => { results := [.lit (.bool true)], args := [d] }
  | _ => none }
def fnBlockHasRow : OpenClaim := { program := "ytdbdbimeaabhlaa", sum := "a9e34d49a6f34d73852a46a998a8f43284b0a9ab43ffaf610b9de6cf03f862f7", func := "loop.example/overfare/laws.FnBlockHas", spec := "fnBlockHas", apart := false }
def FnBlockHasSaid : Prop := fnBlockHasRow.holds Try.pinned (OpenSpec.ofChange fnBlockHasSpec)

/-- ITS FALSE NEIGHBOUR: 'it returns false'. Refute it at one input. -/
def fnBlockHasWrong : ChangeSpec := { name := "fnBlockHas", fn := fun _ => fun
  | [d] => { results := [.lit (.bool false)], args := [d] }
  | _ => none }
def FnBlockHasWrongFalsely : Prop := fnBlockHasRow.holds Try.pinned (OpenSpec.ofChange fnBlockHasWrong)

/-- 'laws.FnBlockHalves': WHATEVER THE INPUT: true; the input reads as it did. -/
def fnBlockHalvesSpec : ChangeSpec := { name := "fnBlockHalves", fn := fun _ => fun
  | [d] => { results := [.lit (.bool true)], args := [d] }
  | _ => none }
def fnBlockHalvesRow : OpenClaim := { program := "ytdbdbimeaabhlaa", sum := "a9e34d49a6f34d73852a46a998a8f43284b0a9ab43ffaf610b9de6cf03f862f7", func := "loop.example/overfare/laws.FnBlockHalves", spec := "fnBlockHalves", apart := false }
def FnBlockHalvesSaid : Prop := fnBlockHalvesRow.holds Try.pinned (OpenSpec.ofChange fnBlockHalvesSpec)

/-- ITS FALSE NEIGHBOUR: 'it returns false'. Refute it at one input. -/
def fnBlockHalvesWrong : ChangeSpec := { name := "fnBlockHalves", fn := fun _ => fun
  | [d] => { results := [.lit (.bool false)], args := [d] }
  | _ => none }
def FnBlockHalvesWrongFalsely : Prop := fnBlockHalvesRow.holds Try.pinned (OpenSpec.ofChange fnBlockHalvesWrong)

/-- 'laws.FnBlockOver': WHATEVER THE INPUT: true; the input reads as it did. -/
def fnBlockOverSpec : ChangeSpec := { name := "fnBlockOver", fn := fun _ => fun
  | [d] => { results := [.lit (.bool true)], args := [d] }
  | _ => none }
def fnBlockOverRow : OpenClaim := { program := "ytdbdbimeaabhlaa", sum := "a9e34d49a6f34d73852a46a998a8f43284b0a9ab43ffaf610b9de6cf03f862f7", func := "loop.example/overfare/laws.FnBlockOver", spec := "fnBlockOver", apart := false }
def FnBlockOverSaid : Prop := fnBlockOverRow.holds Try.pinned (OpenSpec.ofChange fnBlockOverSpec)

/-- ITS FALSE NEIGHBOUR: 'it returns false'. Refute it at one input. -/
def fnBlockOverWrong : ChangeSpec := { name := "fnBlockOver", fn := fun _ => fun
  | [d] => { results := [.lit (.bool false)], args := [d] }
  | _ => none }
def FnBlockOverWrongFalsely : Prop := fnBlockOverRow.holds Try.pinned (OpenSpec.ofChange fnBlockOverWrong)

/-- 'laws.FnBlockMeets': WHATEVER THE INPUT: true; the input reads as it did. -/
def fnBlockMeetsSpec : ChangeSpec := { name := "fnBlockMeets", fn := fun _ => fun
  | [d] => { results := [.lit (.bool true)], args := [d] }
  | _ => none }
def fnBlockMeetsRow : OpenClaim := { program := "ytdbdbimeaabhlaa", sum := "a9e34d49a6f34d73852a46a998a8f43284b0a9ab43ffaf610b9de6cf03f862f7", func := "loop.example/overfare/laws.FnBlockMeets", spec := "fnBlockMeets", apart := false }
def FnBlockMeetsSaid : Prop := fnBlockMeetsRow.holds Try.pinned (OpenSpec.ofChange fnBlockMeetsSpec)

/-- ITS FALSE NEIGHBOUR: 'it returns false'. Refute it at one input. -/
def fnBlockMeetsWrong : ChangeSpec := { name := "fnBlockMeets", fn := fun _ => fun
  | [d] => { results := [.lit (.bool false)], args := [d] }
  | _ => none }
def FnBlockMeetsWrongFalsely : Prop := fnBlockMeetsRow.holds Try.pinned (OpenSpec.ofChange fnBlockMeetsWrong)

/-- 'laws.FnExactWaysLead': WHATEVER THE INPUT: true; the input reads as it did. -/
def fnExactWaysLeadSpec : ChangeSpec := { name := "fnExactWaysLead", fn := fun _ => fun
  | [d1, d2] => { results := [.lit (.bool true)], args := [d1, d2] }
  | _ => none }
def fnExactWaysLeadRow : OpenClaim := { program := "ytdbdbimeaabhlaa", sum := "a9e34d49a6f34d73852a46a998a8f43284b0a9ab43ffaf610b9de6cf03f862f7", func := "loop.example/overfare/laws.FnExactWaysLead", spec := "fnExactWaysLead", apart := false }
def FnExactWaysLeadSaid : Prop := fnExactWaysLeadRow.holds Try.pinned (OpenSpec.ofChange fnExactWaysLeadSpec)

/-- ITS FALSE NEIGHBOUR: 'it returns false'. Refute it at one input. -/
def fnExactWaysLeadWrong : ChangeSpec := { name := "fnExactWaysLead", fn := fun _ => fun
  | [d1, d2] => { results := [.lit (.bool false)], args := [d1, d2] }
  | _ => none }
def FnExactWaysLeadWrongFalsely : Prop := fnExactWaysLeadRow.holds Try.pinned (OpenSpec.ofChange fnExactWaysLeadWrong)

/-- 'laws.FnExactRulesFirst': WHATEVER THE INPUT: true; the input reads as it did. -/
def fnExactRulesFirstSpec : ChangeSpec := { name := "fnExactRulesFirst", fn := fun _ => fun
  | [d1, d2] => { results := [.lit (.bool true)], args := [d1, d2] }
  | _ => none }
def fnExactRulesFirstRow : OpenClaim := { program := "ytdbdbimeaabhlaa", sum := "a9e34d49a6f34d73852a46a998a8f43284b0a9ab43ffaf610b9de6cf03f862f7", func := "loop.example/overfare/laws.FnExactRulesFirst", spec := "fnExactRulesFirst", unfollowed := true, recurses := true, apart := false }
def FnExactRulesFirstSaid : Prop := fnExactRulesFirstRow.holds Try.pinned (OpenSpec.ofChange fnExactRulesFirstSpec)

/-- ITS FALSE NEIGHBOUR: 'it returns false'. Refute it at one input. -/
def fnExactRulesFirstWrong : ChangeSpec := { name := "fnExactRulesFirst", fn := fun _ => fun
  | [d1, d2] => { results := [.lit (.bool false)], args := [d1, d2] }
  | _ => none }
def FnExactRulesFirstWrongFalsely : Prop := fnExactRulesFirstRow.holds Try.pinned (OpenSpec.ofChange fnExactRulesFirstWrong)

/- THE SECOND FORM. 'bulk': how many values and letters a reading holds, each counted each time it is reached (what is shared counts as often as it is met; a slice's spare places count too). A statement '..UptoSaid' is the law's where the arguments, and the package variables that the reading takes, are together of bulk at most 1048576: NARROWER than '..Said'. Prove '..Said' where nothing that the law and all that it calls make is longer than what came in: it says more and counts as full. Else prove '..UptoSaid'. A law counts once. -/
mutual
def uptoBulk {H : Type} : DataW H → Nat
  | .lit (.string bytes) => bytes.length + 1
  | .lit _ => 1
  | .nil => 1
  | .ptr d => uptoBulk d + 1
  | .slice elems spare => uptoBulkAll elems + uptoBulkAll spare + 1
  | .agg parts => uptoBulkAll parts + 1
  | .iface _ d => uptoBulk d + 1
  | .map entries => uptoBulkEntries entries + 1
  | .held _ => 1
def uptoBulkAll {H : Type} : List (DataW H) → Nat
  | [] => 0
  | d :: r => uptoBulk d + uptoBulkAll r
def uptoBulkEntries {H : Type} : List (Lit × DataW H) → Nat
  | [] => 0
  | x :: r => uptoBulkEntry x + uptoBulkEntries r
def uptoBulkEntry {H : Type} : Lit × DataW H → Nat
  | (.string bytes, d) => bytes.length + uptoBulk d + 1
  | (_, d) => uptoBulk d + 1
 end
def uptoSmall : (H : Type) → List (DataW H) → Bool := fun _ ds => decide (uptoBulkAll ds ≤ 1048576)
def OpenSpec.upto (s : _root_.Go.ChangeSpec) : _root_.Go.OpenSpec := { _root_.Go.OpenSpec.ofChange s with cond := some uptoSmall }

/-- 'laws.FnBlockHas', WHERE WHAT IT READS IS OF BULK AT MOST 1048576: true; the input reads as it did. -/
def fnBlockHasUptoRow : OpenClaim := { program := "ytdbdbimeaabhlaa", sum := "a9e34d49a6f34d73852a46a998a8f43284b0a9ab43ffaf610b9de6cf03f862f7", func := "loop.example/overfare/laws.FnBlockHas", spec := "fnBlockHas", apart := false, narrowed := true }
def FnBlockHasUptoSaid : Prop := fnBlockHasUptoRow.holds Try.pinned (OpenSpec.upto fnBlockHasSpec)

/-- 'laws.FnBlockHalves', WHERE WHAT IT READS IS OF BULK AT MOST 1048576: true; the input reads as it did. -/
def fnBlockHalvesUptoRow : OpenClaim := { program := "ytdbdbimeaabhlaa", sum := "a9e34d49a6f34d73852a46a998a8f43284b0a9ab43ffaf610b9de6cf03f862f7", func := "loop.example/overfare/laws.FnBlockHalves", spec := "fnBlockHalves", apart := false, narrowed := true }
def FnBlockHalvesUptoSaid : Prop := fnBlockHalvesUptoRow.holds Try.pinned (OpenSpec.upto fnBlockHalvesSpec)

/-- 'laws.FnBlockOver', WHERE WHAT IT READS IS OF BULK AT MOST 1048576: true; the input reads as it did. -/
def fnBlockOverUptoRow : OpenClaim := { program := "ytdbdbimeaabhlaa", sum := "a9e34d49a6f34d73852a46a998a8f43284b0a9ab43ffaf610b9de6cf03f862f7", func := "loop.example/overfare/laws.FnBlockOver", spec := "fnBlockOver", apart := false, narrowed := true }
def FnBlockOverUptoSaid : Prop := fnBlockOverUptoRow.holds Try.pinned (OpenSpec.upto fnBlockOverSpec)

/-- 'laws.FnBlockMeets', WHERE WHAT IT READS IS OF BULK AT MOST 1048576: true; the input reads as it did. -/
def fnBlockMeetsUptoRow : OpenClaim := { program := "ytdbdbimeaabhlaa", sum := "a9e34d49a6f34d73852a46a998a8f43284b0a9ab43ffaf610b9de6cf03f862f7", func := "loop.example/overfare/laws.FnBlockMeets", spec := "fnBlockMeets", apart := false, narrowed := true }
def FnBlockMeetsUptoSaid : Prop := fnBlockMeetsUptoRow.holds Try.pinned (OpenSpec.upto fnBlockMeetsSpec)

/-- 'laws.FnExactWaysLead', WHERE WHAT IT READS IS OF BULK AT MOST 1048576: true; the input reads as it did. -/
def fnExactWaysLeadUptoRow : OpenClaim := { program := "ytdbdbimeaabhlaa", sum := "a9e34d49a6f34d73852a46a998a8f43284b0a9ab43ffaf610b9de6cf03f862f7", func := "loop.example/overfare/laws.FnExactWaysLead", spec := "fnExactWaysLead", apart := false, narrowed := true }
def FnExactWaysLeadUptoSaid : Prop := fnExactWaysLeadUptoRow.holds Try.pinned (OpenSpec.upto fnExactWaysLeadSpec)

/-- 'laws.FnExactRulesFirst', WHERE WHAT IT READS IS OF BULK AT MOST 1048576: true; the input reads as it did. -/
def fnExactRulesFirstUptoRow : OpenClaim := { program := "ytdbdbimeaabhlaa", sum := "a9e34d49a6f34d73852a46a998a8f43284b0a9ab43ffaf610b9de6cf03f862f7", func := "loop.example/overfare/laws.FnExactRulesFirst", spec := "fnExactRulesFirst", unfollowed := true, recurses := true, apart := false, narrowed := true }
def FnExactRulesFirstUptoSaid : Prop := fnExactRulesFirstUptoRow.holds Try.pinned (OpenSpec.upto fnExactRulesFirstSpec)

end Rows
end Go.Proofs.Ytdbdbimeaabhlaa
