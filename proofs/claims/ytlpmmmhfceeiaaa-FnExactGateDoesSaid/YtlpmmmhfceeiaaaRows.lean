/-
  No cell of these rows narrows 'for every input' (looked for: loops, veiled, ifaces, maps, wideKeys, modest, calm, conditions, laid).
  DERIVED. THE GIVEN ROWS OF THIS SEAT. 7 by the template 'for every input the law returns true; each argument reads behind the call as it read before'; 0 by the template 'total and deterministic' (their statements: YtlpmmmhfceeiaaaTotals.lean).
  GIVEN WITH THE SEED: the statements are not yours to turn. If you find one false, say at which input.
  Laid BY PROGRAM, IN A SANDBOX (cutbox-rows.mjs): the forced cells as the released guide's own fill.sh prints them over the translation e2aef49c79d8aee4… (all of the seat's roots in one cut). By AI agents, Wed Nov 11 2026. No macro, syntax, notation, axiom, sorry.
-/
import Derived.Test.YtlpmmmhfceeiaaaChecked
import GoSem.Claim
import GoSem.ClaimJoined
import GoSem.ClaimMapViews
import Derived.JoinedTies
import Derived.KernelRfl
namespace Go.Proofs.Ytlpmmmhfceeiaaa
/- THE CELL 'sum', in the pinned program and in every row, IS THE sha256 OF THE DUMP (.gsa) THAT YtlpmmmhfceeiaaaProg.lean LOADS. Nothing in Lean hashes anything: it is a label: what it is worth is what the hold of that sum in a sandbox is worth. -/
noncomputable def Try.pinned : Pinned := { name := "ytlpmmmhfceeiaaa", sum := "e2aef49c79d8aee4f55a4729fc3add6233d0a252416ebd644b1edc7c02b01b51", checked := Try.checked }
namespace Rows
def none {H : Type} : Left H := { results := [], args := [] }

/-- 'laws.FnExactWindowRun': WHATEVER THE INPUT: true; the input reads as it did. -/
def fnExactWindowRunSpec : ChangeSpec := { name := "fnExactWindowRun", fn := fun _ => fun
  | [d] => { results := [.lit (.bool true)], args := [d] }
  | _ => none }
def fnExactWindowRunRow : OpenClaim := { program := "ytlpmmmhfceeiaaa", sum := "e2aef49c79d8aee4f55a4729fc3add6233d0a252416ebd644b1edc7c02b01b51", func := "loop.example/overfare/laws.FnExactWindowRun", spec := "fnExactWindowRun", inPlace := ["slices.overlaps[int]"], unfollowed := true, recurses := true, apart := false }
def FnExactWindowRunSaid : Prop := fnExactWindowRunRow.holds Try.pinned (OpenSpec.ofChange fnExactWindowRunSpec)

/-- ITS FALSE NEIGHBOUR: 'it returns false'. Refute it at one input. -/
def fnExactWindowRunWrong : ChangeSpec := { name := "fnExactWindowRun", fn := fun _ => fun
  | [d] => { results := [.lit (.bool false)], args := [d] }
  | _ => none }
def FnExactWindowRunWrongFalsely : Prop := fnExactWindowRunRow.holds Try.pinned (OpenSpec.ofChange fnExactWindowRunWrong)

/-- 'laws.FnWindowOnce': WHATEVER THE INPUT: true; the input reads as it did. -/
def fnWindowOnceSpec : ChangeSpec := { name := "fnWindowOnce", fn := fun _ => fun
  | [d] => { results := [.lit (.bool true)], args := [d] }
  | _ => none }
def fnWindowOnceRow : OpenClaim := { program := "ytlpmmmhfceeiaaa", sum := "e2aef49c79d8aee4f55a4729fc3add6233d0a252416ebd644b1edc7c02b01b51", func := "loop.example/overfare/laws.FnWindowOnce", spec := "fnWindowOnce", inPlace := ["slices.overlaps[int]"], unfollowed := true, recurses := true, apart := false }
def FnWindowOnceSaid : Prop := fnWindowOnceRow.holds Try.pinned (OpenSpec.ofChange fnWindowOnceSpec)

/-- ITS FALSE NEIGHBOUR: 'it returns false'. Refute it at one input. -/
def fnWindowOnceWrong : ChangeSpec := { name := "fnWindowOnce", fn := fun _ => fun
  | [d] => { results := [.lit (.bool false)], args := [d] }
  | _ => none }
def FnWindowOnceWrongFalsely : Prop := fnWindowOnceRow.holds Try.pinned (OpenSpec.ofChange fnWindowOnceWrong)

/-- 'laws.FnWindowSee': WHATEVER THE INPUT: true; the input reads as it did. -/
def fnWindowSeeSpec : ChangeSpec := { name := "fnWindowSee", fn := fun _ => fun
  | [d] => { results := [.lit (.bool true)], args := [d] }
  | _ => none }
def fnWindowSeeRow : OpenClaim := { program := "ytlpmmmhfceeiaaa", sum := "e2aef49c79d8aee4f55a4729fc3add6233d0a252416ebd644b1edc7c02b01b51", func := "loop.example/overfare/laws.FnWindowSee", spec := "fnWindowSee", inPlace := ["slices.overlaps[int]"], unfollowed := true, recurses := true, apart := false }
def FnWindowSeeSaid : Prop := fnWindowSeeRow.holds Try.pinned (OpenSpec.ofChange fnWindowSeeSpec)

/-- ITS FALSE NEIGHBOUR: 'it returns false'. Refute it at one input. -/
def fnWindowSeeWrong : ChangeSpec := { name := "fnWindowSee", fn := fun _ => fun
  | [d] => { results := [.lit (.bool false)], args := [d] }
  | _ => none }
def FnWindowSeeWrongFalsely : Prop := fnWindowSeeRow.holds Try.pinned (OpenSpec.ofChange fnWindowSeeWrong)

/-- 'laws.FnExactWindowSee': WHATEVER THE INPUT: true; the input reads as it did. -/
def fnExactWindowSeeSpec : ChangeSpec := { name := "fnExactWindowSee", fn := fun _ => fun
  | [d1, d2] => { results := [.lit (.bool true)], args := [d1, d2] }
  | _ => none }
def fnExactWindowSeeRow : OpenClaim := { program := "ytlpmmmhfceeiaaa", sum := "e2aef49c79d8aee4f55a4729fc3add6233d0a252416ebd644b1edc7c02b01b51", func := "loop.example/overfare/laws.FnExactWindowSee", spec := "fnExactWindowSee", inPlace := ["slices.overlaps[int]"], unfollowed := true, recurses := true, apart := false }
def FnExactWindowSeeSaid : Prop := fnExactWindowSeeRow.holds Try.pinned (OpenSpec.ofChange fnExactWindowSeeSpec)

/-- ITS FALSE NEIGHBOUR: 'it returns false'. Refute it at one input. -/
def fnExactWindowSeeWrong : ChangeSpec := { name := "fnExactWindowSee", fn := fun _ => fun
  | [d1, d2] => { results := [.lit (.bool false)], args := [d1, d2] }
  | _ => none }
def FnExactWindowSeeWrongFalsely : Prop := fnExactWindowSeeRow.holds Try.pinned (OpenSpec.ofChange fnExactWindowSeeWrong)

/-- 'laws.FnExactGateOk': WHATEVER THE INPUT: true; the input reads as it did. -/
def fnExactGateOkSpec : ChangeSpec := { name := "fnExactGateOk", fn := fun _ => fun
  | [d] => { results := [.lit (.bool true)], args := [d] }
  | _ => none }
def fnExactGateOkRow : OpenClaim := { program := "ytlpmmmhfceeiaaa", sum := "e2aef49c79d8aee4f55a4729fc3add6233d0a252416ebd644b1edc7c02b01b51", func := "loop.example/overfare/laws.FnExactGateOk", spec := "fnExactGateOk", unfollowed := true, recurses := true, apart := false }
def FnExactGateOkSaid : Prop := fnExactGateOkRow.holds Try.pinned (OpenSpec.ofChange fnExactGateOkSpec)

/-- ITS FALSE NEIGHBOUR: 'it returns false'. Refute it at one input. -/
def fnExactGateOkWrong : ChangeSpec := { name := "fnExactGateOk", fn := fun _ => fun
  | [d] => { results := [.lit (.bool false)], args := [d] }
  | _ => none }
def FnExactGateOkWrongFalsely : Prop := fnExactGateOkRow.holds Try.pinned (OpenSpec.ofChange fnExactGateOkWrong)

/-- 'laws.FnExactGateDoes': WHATEVER THE INPUT: true; the input reads as it did. -/
def fnExactGateDoesSpec : ChangeSpec := { name := "fnExactGateDoes", fn := fun _ => fun
  | [d1, d2] => { results := [.lit (.bool true)], args := [d1, d2] }
  | _ => none }
def fnExactGateDoesRow : OpenClaim := { program := "ytlpmmmhfceeiaaa", sum := "e2aef49c79d8aee4f55a4729fc3add6233d0a252416ebd644b1edc7c02b01b51", func := "loop.example/overfare/laws.FnExactGateDoes", spec := "fnExactGateDoes", unfollowed := true, recurses := true, apart := false }
def FnExactGateDoesSaid : Prop := fnExactGateDoesRow.holds Try.pinned (OpenSpec.ofChange fnExactGateDoesSpec)

/-- ITS FALSE NEIGHBOUR: 'it returns false'. Refute it at one input. -/
def fnExactGateDoesWrong : ChangeSpec := { name := "fnExactGateDoes", fn := fun _ => fun
  | [d1, d2] => { results := [.lit (.bool false)], args := [d1, d2] }
  | _ => none }
def FnExactGateDoesWrongFalsely : Prop := fnExactGateDoesRow.holds Try.pinned (OpenSpec.ofChange fnExactGateDoesWrong)

/-- 'laws.FnExactWorldNew': WHATEVER THE INPUT: true; the input reads as it did. -/
def fnExactWorldNewSpec : ChangeSpec := { name := "fnExactWorldNew", fn := fun _ => fun
  | [] => { results := [.lit (.bool true)], args := [] }
  | _ => none }
def fnExactWorldNewRow : OpenClaim := { program := "ytlpmmmhfceeiaaa", sum := "e2aef49c79d8aee4f55a4729fc3add6233d0a252416ebd644b1edc7c02b01b51", func := "loop.example/overfare/laws.FnExactWorldNew", spec := "fnExactWorldNew", apart := false }
def FnExactWorldNewSaid : Prop := fnExactWorldNewRow.holds Try.pinned (OpenSpec.ofChange fnExactWorldNewSpec)

/-- ITS FALSE NEIGHBOUR: 'it returns false'. Refute it at one input. -/
def fnExactWorldNewWrong : ChangeSpec := { name := "fnExactWorldNew", fn := fun _ => fun
  | [] => { results := [.lit (.bool false)], args := [] }
  | _ => none }
def FnExactWorldNewWrongFalsely : Prop := fnExactWorldNewRow.holds Try.pinned (OpenSpec.ofChange fnExactWorldNewWrong)

/- THE SECOND FORM. 'bulk': how many values and letters a reading holds, each counted each time it is reached (what is shared counts as often as it is met; a slice's spare places count too). A statement '..UptoSaid' is the law's where the arguments, and the package variables that the reading takes, are together of bulk at most 1048576: NARROWER than '..Said'. Prove '..Said' where nothing that the law and all that it calls make is longer than what came in: it says more and counts as full. Else prove '..UptoSaid'. A law counts once. -/
mutual
def uptoBulk {H : Type} : DataW H → Nat
  | .lit (.string bytes) => bytes.length + 1
  | .lit _ => 1
  | .nil => 1
  | .ptr d => uptoBulk d + 1
  | .slice elems spare => uptoBulkAll elems + uptoBulkAll spare + 1
  | .agg parts => uptoBulkAll parts + 1
  | .iface _ d => uptoBulk d + 1
  | .map entries => uptoBulkEntries entries + 1
  | .held _ => 1
def uptoBulkAll {H : Type} : List (DataW H) → Nat
  | [] => 0
  | d :: r => uptoBulk d + uptoBulkAll r
def uptoBulkEntries {H : Type} : List (Lit × DataW H) → Nat
  | [] => 0
  | x :: r => uptoBulkEntry x + uptoBulkEntries r
def uptoBulkEntry {H : Type} : Lit × DataW H → Nat
  | (.string bytes, d) => bytes.length + uptoBulk d + 1
  | (_, d) => uptoBulk d + 1
 end
def uptoSmall : (H : Type) → List (DataW H) → Bool := fun _ ds => decide (uptoBulkAll ds ≤ 1048576)
def OpenSpec.upto (s : _root_.Go.ChangeSpec) : _root_.Go.OpenSpec := { _root_.Go.OpenSpec.ofChange s with cond := some uptoSmall }

/-- 'laws.FnExactWindowRun', WHERE WHAT IT READS IS OF BULK AT MOST 1048576: true; the input reads as it did. -/
def fnExactWindowRunUptoRow : OpenClaim := { program := "ytlpmmmhfceeiaaa", sum := "e2aef49c79d8aee4f55a4729fc3add6233d0a252416ebd644b1edc7c02b01b51", func := "loop.example/overfare/laws.FnExactWindowRun", spec := "fnExactWindowRun", inPlace := ["slices.overlaps[int]"], unfollowed := true, recurses := true, apart := false, narrowed := true }
def FnExactWindowRunUptoSaid : Prop := fnExactWindowRunUptoRow.holds Try.pinned (OpenSpec.upto fnExactWindowRunSpec)

/-- 'laws.FnWindowOnce', WHERE WHAT IT READS IS OF BULK AT MOST 1048576: true; the input reads as it did. -/
def fnWindowOnceUptoRow : OpenClaim := { program := "ytlpmmmhfceeiaaa", sum := "e2aef49c79d8aee4f55a4729fc3add6233d0a252416ebd644b1edc7c02b01b51", func := "loop.example/overfare/laws.FnWindowOnce", spec := "fnWindowOnce", inPlace := ["slices.overlaps[int]"], unfollowed := true, recurses := true, apart := false, narrowed := true }
def FnWindowOnceUptoSaid : Prop := fnWindowOnceUptoRow.holds Try.pinned (OpenSpec.upto fnWindowOnceSpec)

/-- 'laws.FnWindowSee', WHERE WHAT IT READS IS OF BULK AT MOST 1048576: true; the input reads as it did. -/
def fnWindowSeeUptoRow : OpenClaim := { program := "ytlpmmmhfceeiaaa", sum := "e2aef49c79d8aee4f55a4729fc3add6233d0a252416ebd644b1edc7c02b01b51", func := "loop.example/overfare/laws.FnWindowSee", spec := "fnWindowSee", inPlace := ["slices.overlaps[int]"], unfollowed := true, recurses := true, apart := false, narrowed := true }
def FnWindowSeeUptoSaid : Prop := fnWindowSeeUptoRow.holds Try.pinned (OpenSpec.upto fnWindowSeeSpec)

/-- 'laws.FnExactWindowSee', WHERE WHAT IT READS IS OF BULK AT MOST 1048576: true; the input reads as it did. -/
def fnExactWindowSeeUptoRow : OpenClaim := { program := "ytlpmmmhfceeiaaa", sum := "e2aef49c79d8aee4f55a4729fc3add6233d0a252416ebd644b1edc7c02b01b51", func := "loop.example/overfare/laws.FnExactWindowSee", spec := "fnExactWindowSee", inPlace := ["slices.overlaps[int]"], unfollowed := true, recurses := true, apart := false, narrowed := true }
def FnExactWindowSeeUptoSaid : Prop := fnExactWindowSeeUptoRow.holds Try.pinned (OpenSpec.upto fnExactWindowSeeSpec)

/-- 'laws.FnExactGateOk', WHERE WHAT IT READS IS OF BULK AT MOST 1048576: true; the input reads as it did. -/
def fnExactGateOkUptoRow : OpenClaim := { program := "ytlpmmmhfceeiaaa", sum := "e2aef49c79d8aee4f55a4729fc3add6233d0a252416ebd644b1edc7c02b01b51", func := "loop.example/overfare/laws.FnExactGateOk", spec := "fnExactGateOk", unfollowed := true, recurses := true, apart := false, narrowed := true }
def FnExactGateOkUptoSaid : Prop := fnExactGateOkUptoRow.holds Try.pinned (OpenSpec.upto fnExactGateOkSpec)

/-- 'laws.FnExactGateDoes', WHERE WHAT IT READS IS OF BULK AT MOST 1048576: true; the input reads as it did. -/
def fnExactGateDoesUptoRow : OpenClaim := { program := "ytlpmmmhfceeiaaa", sum := "e2aef49c79d8aee4f55a4729fc3add6233d0a252416ebd644b1edc7c02b01b51", func := "loop.example/overfare/laws.FnExactGateDoes", spec := "fnExactGateDoes", unfollowed := true, recurses := true, apart := false, narrowed := true }
def FnExactGateDoesUptoSaid : Prop := fnExactGateDoesUptoRow.holds Try.pinned (OpenSpec.upto fnExactGateDoesSpec)

/-- 'laws.FnExactWorldNew', WHERE WHAT IT READS IS OF BULK AT MOST 1048576: true; the input reads as it did. -/
def fnExactWorldNewUptoRow : OpenClaim := { program := "ytlpmmmhfceeiaaa", sum := "e2aef49c79d8aee4f55a4729fc3add6233d0a252416ebd644b1edc7c02b01b51", func := "loop.example/overfare/laws.FnExactWorldNew", spec := "fnExactWorldNew", apart := false, narrowed := true }
def FnExactWorldNewUptoSaid : Prop := fnExactWorldNewUptoRow.holds Try.pinned (OpenSpec.upto fnExactWorldNewSpec)

end Rows
end Go.Proofs.Ytlpmmmhfceeiaaa
