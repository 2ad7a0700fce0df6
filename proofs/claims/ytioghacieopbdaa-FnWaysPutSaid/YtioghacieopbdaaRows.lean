/-
  No cell of these rows narrows 'for every input' (looked for: loops, veiled, ifaces, maps, wideKeys, modest, calm, conditions, laid).
  DERIVED. THE GIVEN ROWS OF THIS SEAT. 12 by the template 'for every input the law returns true; each argument reads behind the call as it read before'; 0 by the template 'total and deterministic' (their statements: YtioghacieopbdaaTotals.lean).
  GIVEN WITH THE SEED: the statements are not yours to turn. If you find one false, say at which input.
  Laid BY PROGRAM, IN A SANDBOX (cutbox-rows.mjs): the forced cells as the released guide's own fill.sh prints them over the translation 6bc90bb35f30db65… (all of the seat's roots in one cut). By AI agents, Wed Nov 11 2026. No macro, syntax, notation, axiom, sorry.
-/
import Derived.Test.YtioghacieopbdaaChecked
import GoSem.Claim
import GoSem.ClaimJoined
import GoSem.ClaimMapViews
import Derived.JoinedTies
import Derived.KernelRfl
namespace Go.Proofs.Ytioghacieopbdaa
/- THE CELL 'sum', in the pinned program and in every row, IS THE sha256 OF THE DUMP (.gsa) THAT YtioghacieopbdaaProg.lean LOADS. Nothing in Lean hashes anything: it is a label: what it is worth is what the hold of that sum in a sandbox is worth. -/
noncomputable def Try.pinned : Pinned := { name := "ytioghacieopbdaa", sum := "6bc90bb35f30db651ac2ad7041e0b658533c9405d63dcb87a5e2f50c1a2d1c45", checked := Try.checked }
namespace Rows
def none {H : Type} : Left H := { results := [], args := [] }

/-- 'laws.FnRulesFirst': WHATEVER THE INPUT: true; the input reads as it did. -/
def fnRulesFirstSpec : ChangeSpec := { name := "fnRulesFirst", fn := fun _ => fun
  | [d] => { results := [.lit (.bool true)], args := [d] }
  | _ => none }
def fnRulesFirstRow : OpenClaim := { program := "ytioghacieopbdaa", sum := "6bc90bb35f30db651ac2ad7041e0b658533c9405d63dcb87a5e2f50c1a2d1c45", func := "loop.example/overfare/laws.FnRulesFirst", spec := "fnRulesFirst", unfollowed := true, recurses := true, apart := false }
def FnRulesFirstSaid : Prop := fnRulesFirstRow.holds Try.pinned (OpenSpec.ofChange fnRulesFirstSpec)

/-- ITS FALSE NEIGHBOUR: 'it returns false'. Refute it at one input. -/
def fnRulesFirstWrong : ChangeSpec := { name := "fnRulesFirst", fn := fun _ => fun
  | [d] => { results := [.lit (.bool false)], args := [d] }
  | _ => none }
def FnRulesFirstWrongFalsely : Prop := fnRulesFirstRow.holds Try.pinned (OpenSpec.ofChange fnRulesFirstWrong)

/-- 'laws.FnExactCacheOk': WHATEVER THE INPUT: true; the input reads as it did. -/
def fnExactCacheOkSpec : ChangeSpec := { name := "fnExactCacheOk", fn := fun _ => fun
  | [d1, d2] => { results := [.lit (.bool true)], args := [d1, d2] }
  | _ => none }
def fnExactCacheOkRow : OpenClaim := { program := "ytioghacieopbdaa", sum := "6bc90bb35f30db651ac2ad7041e0b658533c9405d63dcb87a5e2f50c1a2d1c45", func := "loop.example/overfare/laws.FnExactCacheOk", spec := "fnExactCacheOk", unfollowed := true, recurses := true, apart := false }
def FnExactCacheOkSaid : Prop := fnExactCacheOkRow.holds Try.pinned (OpenSpec.ofChange fnExactCacheOkSpec)

/-- ITS FALSE NEIGHBOUR: 'it returns false'. Refute it at one input. -/
def fnExactCacheOkWrong : ChangeSpec := { name := "fnExactCacheOk", fn := fun _ => fun
  | [d1, d2] => { results := [.lit (.bool false)], args := [d1, d2] }
  | _ => none }
def FnExactCacheOkWrongFalsely : Prop := fnExactCacheOkRow.holds Try.pinned (OpenSpec.ofChange fnExactCacheOkWrong)

/-- 'laws.FnCacheAgain': WHATEVER THE INPUT: true; the input reads as it did. -/
def fnCacheAgainSpec : ChangeSpec := { name := "fnCacheAgain", fn := fun _ => fun
  | [d] => { results := [.lit (.bool true)], args := [d] }
  | _ => none }
def fnCacheAgainRow : OpenClaim := { program := "ytioghacieopbdaa", sum := "6bc90bb35f30db651ac2ad7041e0b658533c9405d63dcb87a5e2f50c1a2d1c45", func := "loop.example/overfare/laws.FnCacheAgain", spec := "fnCacheAgain", unfollowed := true, recurses := true, apart := false }
def FnCacheAgainSaid : Prop := fnCacheAgainRow.holds Try.pinned (OpenSpec.ofChange fnCacheAgainSpec)

/-- ITS FALSE NEIGHBOUR: 'it returns false'. Refute it at one input. -/
def fnCacheAgainWrong : ChangeSpec := { name := "fnCacheAgain", fn := fun _ => fun
  | [d] => { results := [.lit (.bool false)], args := [d] }
  | _ => none }
def FnCacheAgainWrongFalsely : Prop := fnCacheAgainRow.holds Try.pinned (OpenSpec.ofChange fnCacheAgainWrong)

/-- 'laws.FnCacheFind': WHATEVER THE INPUT: true; the input reads as it did. -/
def fnCacheFindSpec : ChangeSpec := { name := "fnCacheFind", fn := fun _ => fun
  | [d] => { results := [.lit (.bool true)], args := [d] }
  | _ => none }
def fnCacheFindRow : OpenClaim := { program := "ytioghacieopbdaa", sum := "6bc90bb35f30db651ac2ad7041e0b658533c9405d63dcb87a5e2f50c1a2d1c45", func := "loop.example/overfare/laws.FnCacheFind", spec := "fnCacheFind", unfollowed := true, recurses := true, apart := false }
def FnCacheFindSaid : Prop := fnCacheFindRow.holds Try.pinned (OpenSpec.ofChange fnCacheFindSpec)

/-- ITS FALSE NEIGHBOUR: 'it returns false'. Refute it at one input. -/
def fnCacheFindWrong : ChangeSpec := { name := "fnCacheFind", fn := fun _ => fun
  | [d] => { results := [.lit (.bool false)], args := [d] }
  | _ => none }
def FnCacheFindWrongFalsely : Prop := fnCacheFindRow.holds Try.pinned (OpenSpec.ofChange fnCacheFindWrong)

/-- 'laws.FnCacheRun': WHATEVER THE INPUT: true; the input reads as it did. -/
def fnCacheRunSpec : ChangeSpec := { name := "fnCacheRun", fn := fun _ => fun
  | [d] => { results := [.lit (.bool true)], args := [d] }
  | _ => none }
def fnCacheRunRow : OpenClaim := { program := "ytioghacieopbdaa", sum := "6bc90bb35f30db651ac2ad7041e0b658533c9405d63dcb87a5e2f50c1a2d1c45", func := "loop.example/overfare/laws.FnCacheRun", spec := "fnCacheRun", unfollowed := true, recurses := true, apart := false }
def FnCacheRunSaid : Prop := fnCacheRunRow.holds Try.pinned (OpenSpec.ofChange fnCacheRunSpec)

/-- ITS FALSE NEIGHBOUR: 'it returns false'. Refute it at one input. -/
def fnCacheRunWrong : ChangeSpec := { name := "fnCacheRun", fn := fun _ => fun
  | [d] => { results := [.lit (.bool false)], args := [d] }
  | _ => none }
def FnCacheRunWrongFalsely : Prop := fnCacheRunRow.holds Try.pinned (OpenSpec.ofChange fnCacheRunWrong)

/-- 'laws.FnExactCacheRun': WHATEVER THE INPUT: true; the input reads as it did. -/
def fnExactCacheRunSpec : ChangeSpec := { name := "fnExactCacheRun", fn := fun _ => fun
  | [d1, d2, d3] => { results := [.lit (.bool true)], args := [d1, d2, d3] }
  | _ => none }
def fnExactCacheRunRow : OpenClaim := { program := "ytioghacieopbdaa", sum := "6bc90bb35f30db651ac2ad7041e0b658533c9405d63dcb87a5e2f50c1a2d1c45", func := "loop.example/overfare/laws.FnExactCacheRun", spec := "fnExactCacheRun", unfollowed := true, recurses := true, apart := false }
def FnExactCacheRunSaid : Prop := fnExactCacheRunRow.holds Try.pinned (OpenSpec.ofChange fnExactCacheRunSpec)

/-- ITS FALSE NEIGHBOUR: 'it returns false'. Refute it at one input. -/
def fnExactCacheRunWrong : ChangeSpec := { name := "fnExactCacheRun", fn := fun _ => fun
  | [d1, d2, d3] => { results := [.lit (.bool false)], args := [d1, d2, d3] }
  | _ => none }
def FnExactCacheRunWrongFalsely : Prop := fnExactCacheRunRow.holds Try.pinned (OpenSpec.ofChange fnExactCacheRunWrong)

/-- 'laws.FnExactCacheFind': WHATEVER THE INPUT: true; the input reads as it did. -/
def fnExactCacheFindSpec : ChangeSpec := { name := "fnExactCacheFind", fn := fun _ => fun
  | [d1, d2, d3] => { results := [.lit (.bool true)], args := [d1, d2, d3] }
  | _ => none }
def fnExactCacheFindRow : OpenClaim := { program := "ytioghacieopbdaa", sum := "6bc90bb35f30db651ac2ad7041e0b658533c9405d63dcb87a5e2f50c1a2d1c45", func := "loop.example/overfare/laws.FnExactCacheFind", spec := "fnExactCacheFind", unfollowed := true, recurses := true, apart := false }
def FnExactCacheFindSaid : Prop := fnExactCacheFindRow.holds Try.pinned (OpenSpec.ofChange fnExactCacheFindSpec)

/-- ITS FALSE NEIGHBOUR: 'it returns false'. Refute it at one input. -/
def fnExactCacheFindWrong : ChangeSpec := { name := "fnExactCacheFind", fn := fun _ => fun
  | [d1, d2, d3] => { results := [.lit (.bool false)], args := [d1, d2, d3] }
  | _ => none }
def FnExactCacheFindWrongFalsely : Prop := fnExactCacheFindRow.holds Try.pinned (OpenSpec.ofChange fnExactCacheFindWrong)

/-- 'laws.FnExactWaysLess': WHATEVER THE INPUT: true; the input reads as it did. -/
def fnExactWaysLessSpec : ChangeSpec := { name := "fnExactWaysLess", fn := fun _ => fun
  | [d] => { results := [.lit (.bool true)], args := [d] }
  | _ => none }
def fnExactWaysLessRow : OpenClaim := { program := "ytioghacieopbdaa", sum := "6bc90bb35f30db651ac2ad7041e0b658533c9405d63dcb87a5e2f50c1a2d1c45", func := "loop.example/overfare/laws.FnExactWaysLess", spec := "fnExactWaysLess", apart := false }
def FnExactWaysLessSaid : Prop := fnExactWaysLessRow.holds Try.pinned (OpenSpec.ofChange fnExactWaysLessSpec)

/-- ITS FALSE NEIGHBOUR: 'it returns false'. Refute it at one input. -/
def fnExactWaysLessWrong : ChangeSpec := { name := "fnExactWaysLess", fn := fun _ => fun
  | [d] => { results := [.lit (.bool false)], args := [d] }
  | _ => none }
def FnExactWaysLessWrongFalsely : Prop := fnExactWaysLessRow.holds Try.pinned (OpenSpec.ofChange fnExactWaysLessWrong)

/-- 'laws.FnWaysLead': WHATEVER THE INPUT: true; the input reads as it did. -/
def fnWaysLeadSpec : ChangeSpec := { name := "fnWaysLead", fn := fun _ => fun
  | [d] => { results := [.lit (.bool true)], args := [d] }
  | _ => none }
def fnWaysLeadRow : OpenClaim := { program := "ytioghacieopbdaa", sum := "6bc90bb35f30db651ac2ad7041e0b658533c9405d63dcb87a5e2f50c1a2d1c45", func := "loop.example/overfare/laws.FnWaysLead", spec := "fnWaysLead", apart := false }
def FnWaysLeadSaid : Prop := fnWaysLeadRow.holds Try.pinned (OpenSpec.ofChange fnWaysLeadSpec)

/-- ITS FALSE NEIGHBOUR: 'it returns false'. Refute it at one input. -/
def fnWaysLeadWrong : ChangeSpec := { name := "fnWaysLead", fn := fun _ => fun
  | [d] => { results := [.lit (.bool false)], args := [d] }
  | _ => none }
def FnWaysLeadWrongFalsely : Prop := fnWaysLeadRow.holds Try.pinned (OpenSpec.ofChange fnWaysLeadWrong)

/-- 'laws.FnWaysAgain': WHATEVER THE INPUT: true; the input reads as it did. -/
def fnWaysAgainSpec : ChangeSpec := { name := "fnWaysAgain", fn := fun _ => fun
  | [d] => { results := [.lit (.bool true)], args := [d] }
  | _ => none }
def fnWaysAgainRow : OpenClaim := { program := "ytioghacieopbdaa", sum := "6bc90bb35f30db651ac2ad7041e0b658533c9405d63dcb87a5e2f50c1a2d1c45", func := "loop.example/overfare/laws.FnWaysAgain", spec := "fnWaysAgain", apart := false }
def FnWaysAgainSaid : Prop := fnWaysAgainRow.holds Try.pinned (OpenSpec.ofChange fnWaysAgainSpec)

/-- ITS FALSE NEIGHBOUR: 'it returns false'. Refute it at one input. -/
def fnWaysAgainWrong : ChangeSpec := { name := "fnWaysAgain", fn := fun _ => fun
  | [d] => { results := [.lit (.bool false)], args := [d] }
  | _ => none }
def FnWaysAgainWrongFalsely : Prop := fnWaysAgainRow.holds Try.pinned (OpenSpec.ofChange fnWaysAgainWrong)

/-- 'laws.FnWaysGone': WHATEVER THE INPUT: true; the input reads as it did. -/
def fnWaysGoneSpec : ChangeSpec := { name := "fnWaysGone", fn := fun _ => fun
  | [d1, d2] => { results := [.lit (.bool true)], args := [d1, d2] }
  | _ => none }
def fnWaysGoneRow : OpenClaim := { program := "ytioghacieopbdaa", sum := "6bc90bb35f30db651ac2ad7041e0b658533c9405d63dcb87a5e2f50c1a2d1c45", func := "loop.example/overfare/laws.FnWaysGone", spec := "fnWaysGone", unfollowed := true, recurses := true, apart := false }
def FnWaysGoneSaid : Prop := fnWaysGoneRow.holds Try.pinned (OpenSpec.ofChange fnWaysGoneSpec)

/-- ITS FALSE NEIGHBOUR: 'it returns false'. Refute it at one input. -/
def fnWaysGoneWrong : ChangeSpec := { name := "fnWaysGone", fn := fun _ => fun
  | [d1, d2] => { results := [.lit (.bool false)], args := [d1, d2] }
  | _ => none }
def FnWaysGoneWrongFalsely : Prop := fnWaysGoneRow.holds Try.pinned (OpenSpec.ofChange fnWaysGoneWrong)

/-- 'laws.FnWaysPut': WHATEVER THE INPUT: true; the input reads as it did. -/
def fnWaysPutSpec : ChangeSpec := { name := "fnWaysPut", fn := fun _ => fun
  | [d] => { results := [.lit (.bool true)], args := [d] }
  | _ => none }
def fnWaysPutRow : OpenClaim := { program := "ytioghacieopbdaa", sum := "6bc90bb35f30db651ac2ad7041e0b658533c9405d63dcb87a5e2f50c1a2d1c45", func := "loop.example/overfare/laws.FnWaysPut", spec := "fnWaysPut", inPlace := ["slices.overlaps[loop.example/overfare/impl.Way]"], unfollowed := true, recurses := true, apart := false }
def FnWaysPutSaid : Prop := fnWaysPutRow.holds Try.pinned (OpenSpec.ofChange fnWaysPutSpec)

/-- ITS FALSE NEIGHBOUR: 'it returns false'. Refute it at one input. -/
def fnWaysPutWrong : ChangeSpec := { name := "fnWaysPut", fn := fun _ => fun
  | [d] => { results := [.lit (.bool false)], args := [d] }
  | _ => none }
def FnWaysPutWrongFalsely : Prop := fnWaysPutRow.holds Try.pinned (OpenSpec.ofChange fnWaysPutWrong)

/- THE SECOND FORM. 'bulk': how many values and letters a reading holds, each counted each time it is reached (what is shared counts as often as it is met; a slice's spare places count too). A statement '..UptoSaid' is the law's where the arguments, and the package variables that the reading takes, are together of bulk at most 1048576: NARROWER than '..Said'. Prove '..Said' where nothing that the law and all that it calls make is longer than what came in: it says more and counts as full. Else prove '..UptoSaid'. A law counts once. -/
mutual
def uptoBulk {H : Type} : DataW H → Nat
  | .lit (.string bytes) => bytes.length + 1
  | .lit _ => 1
  | .nil => 1
  | .ptr d => uptoBulk d + 1
  | .slice elems spare => uptoBulkAll elems + uptoBulkAll spare + 1
  | .agg parts => uptoBulkAll parts + 1
  | .iface _ d => uptoBulk d + 1
  | .map entries => uptoBulkEntries entries + 1
  | .held _ => 1
def uptoBulkAll {H : Type} : List (DataW H) → Nat
  | [] => 0
  | d :: r => uptoBulk d + uptoBulkAll r
def uptoBulkEntries {H : Type} : List (Lit × DataW H) → Nat
  | [] => 0
  | x :: r => uptoBulkEntry x + uptoBulkEntries r
def uptoBulkEntry {H : Type} : Lit × DataW H → Nat
  | (.string bytes, d) => bytes.length + uptoBulk d + 1
  | (_, d) => uptoBulk d + 1
 end
def uptoSmall : (H : Type) → List (DataW H) → Bool := fun _ ds => decide (uptoBulkAll ds ≤ 1048576)
def OpenSpec.upto (s : _root_.Go.ChangeSpec) : _root_.Go.OpenSpec := { _root_.Go.OpenSpec.ofChange s with cond := some uptoSmall }

/-- 'laws.FnRulesFirst', WHERE WHAT IT READS IS OF BULK AT MOST 1048576: true; the input reads as it did. -/
def fnRulesFirstUptoRow : OpenClaim := { program := "ytioghacieopbdaa", sum := "6bc90bb35f30db651ac2ad7041e0b658533c9405d63dcb87a5e2f50c1a2d1c45", func := "loop.example/overfare/laws.FnRulesFirst", spec := "fnRulesFirst", unfollowed := true, recurses := true, apart := false, narrowed := true }
def FnRulesFirstUptoSaid : Prop := fnRulesFirstUptoRow.holds Try.pinned (OpenSpec.upto fnRulesFirstSpec)

/-- 'laws.FnExactCacheOk', WHERE WHAT IT READS IS OF BULK AT MOST 1048576: true; the input reads as it did. -/
def fnExactCacheOkUptoRow : OpenClaim := { program := "ytioghacieopbdaa", sum := "6bc90bb35f30db651ac2ad7041e0b658533c9405d63dcb87a5e2f50c1a2d1c45", func := "loop.example/overfare/laws.FnExactCacheOk", spec := "fnExactCacheOk", unfollowed := true, recurses := true, apart := false, narrowed := true }
def FnExactCacheOkUptoSaid : Prop := fnExactCacheOkUptoRow.holds Try.pinned (OpenSpec.upto fnExactCacheOkSpec)

/-- 'laws.FnCacheAgain', WHERE WHAT IT READS IS OF BULK AT MOST 1048576: true; the input reads as it did. -/
def fnCacheAgainUptoRow : OpenClaim := { program := "ytioghacieopbdaa", sum := "6bc90bb35f30db651ac2ad7041e0b658533c9405d63dcb87a5e2f50c1a2d1c45", func := "loop.example/overfare/laws.FnCacheAgain", spec := "fnCacheAgain", unfollowed := true, recurses := true, apart := false, narrowed := true }
def FnCacheAgainUptoSaid : Prop := fnCacheAgainUptoRow.holds Try.pinned (OpenSpec.upto fnCacheAgainSpec)

/-- 'laws.FnCacheFind', WHERE WHAT IT READS IS OF BULK AT MOST 1048576: true; the input reads as it did. -/
def fnCacheFindUptoRow : OpenClaim := { program := "ytioghacieopbdaa", sum := "6bc90bb35f30db651ac2ad7041e0b658533c9405d63dcb87a5e2f50c1a2d1c45", func := "loop.example/overfare/laws.FnCacheFind", spec := "fnCacheFind", unfollowed := true, recurses := true, apart := false, narrowed := true }
def FnCacheFindUptoSaid : Prop := fnCacheFindUptoRow.holds Try.pinned (OpenSpec.upto fnCacheFindSpec)

/-- 'laws.FnCacheRun', WHERE WHAT IT READS IS OF BULK AT MOST 1048576: true; the input reads as it did. -/
def fnCacheRunUptoRow : OpenClaim := { program := "ytioghacieopbdaa", sum := "6bc90bb35f30db651ac2ad7041e0b658533c9405d63dcb87a5e2f50c1a2d1c45", func := "loop.example/overfare/laws.FnCacheRun", spec := "fnCacheRun", unfollowed := true, recurses := true, apart := false, narrowed := true }
def FnCacheRunUptoSaid : Prop := fnCacheRunUptoRow.holds Try.pinned (OpenSpec.upto fnCacheRunSpec)

/-- 'laws.FnExactCacheRun', WHERE WHAT IT READS IS OF BULK AT MOST 1048576: true; the input reads as it did. -/
def fnExactCacheRunUptoRow : OpenClaim := { program := "ytioghacieopbdaa", sum := "6bc90bb35f30db651ac2ad7041e0b658533c9405d63dcb87a5e2f50c1a2d1c45", func := "loop.example/overfare/laws.FnExactCacheRun", spec := "fnExactCacheRun", unfollowed := true, recurses := true, apart := false, narrowed := true }
def FnExactCacheRunUptoSaid : Prop := fnExactCacheRunUptoRow.holds Try.pinned (OpenSpec.upto fnExactCacheRunSpec)

/-- 'laws.FnExactCacheFind', WHERE WHAT IT READS IS OF BULK AT MOST 1048576: true; the input reads as it did. -/
def fnExactCacheFindUptoRow : OpenClaim := { program := "ytioghacieopbdaa", sum := "6bc90bb35f30db651ac2ad7041e0b658533c9405d63dcb87a5e2f50c1a2d1c45", func := "loop.example/overfare/laws.FnExactCacheFind", spec := "fnExactCacheFind", unfollowed := true, recurses := true, apart := false, narrowed := true }
def FnExactCacheFindUptoSaid : Prop := fnExactCacheFindUptoRow.holds Try.pinned (OpenSpec.upto fnExactCacheFindSpec)

/-- 'laws.FnExactWaysLess', WHERE WHAT IT READS IS OF BULK AT MOST 1048576: true; the input reads as it did. -/
def fnExactWaysLessUptoRow : OpenClaim := { program := "ytioghacieopbdaa", sum := "6bc90bb35f30db651ac2ad7041e0b658533c9405d63dcb87a5e2f50c1a2d1c45", func := "loop.example/overfare/laws.FnExactWaysLess", spec := "fnExactWaysLess", apart := false, narrowed := true }
def FnExactWaysLessUptoSaid : Prop := fnExactWaysLessUptoRow.holds Try.pinned (OpenSpec.upto fnExactWaysLessSpec)

/-- 'laws.FnWaysLead', WHERE WHAT IT READS IS OF BULK AT MOST 1048576: true; the input reads as it did. -/
def fnWaysLeadUptoRow : OpenClaim := { program := "ytioghacieopbdaa", sum := "6bc90bb35f30db651ac2ad7041e0b658533c9405d63dcb87a5e2f50c1a2d1c45", func := "loop.example/overfare/laws.FnWaysLead", spec := "fnWaysLead", apart := false, narrowed := true }
def FnWaysLeadUptoSaid : Prop := fnWaysLeadUptoRow.holds Try.pinned (OpenSpec.upto fnWaysLeadSpec)

/-- 'laws.FnWaysAgain', WHERE WHAT IT READS IS OF BULK AT MOST 1048576: true; the input reads as it did. -/
def fnWaysAgainUptoRow : OpenClaim := { program := "ytioghacieopbdaa", sum := "6bc90bb35f30db651ac2ad7041e0b658533c9405d63dcb87a5e2f50c1a2d1c45", func := "loop.example/overfare/laws.FnWaysAgain", spec := "fnWaysAgain", apart := false, narrowed := true }
def FnWaysAgainUptoSaid : Prop := fnWaysAgainUptoRow.holds Try.pinned (OpenSpec.upto fnWaysAgainSpec)

/-- 'laws.FnWaysGone', WHERE WHAT IT READS IS OF BULK AT MOST 1048576: true; the input reads as it did. -/
def fnWaysGoneUptoRow : OpenClaim := { program := "ytioghacieopbdaa", sum := "6bc90bb35f30db651ac2ad7041e0b658533c9405d63dcb87a5e2f50c1a2d1c45", func := "loop.example/overfare/laws.FnWaysGone", spec := "fnWaysGone", unfollowed := true, recurses := true, apart := false, narrowed := true }
def FnWaysGoneUptoSaid : Prop := fnWaysGoneUptoRow.holds Try.pinned (OpenSpec.upto fnWaysGoneSpec)

/-- 'laws.FnWaysPut', WHERE WHAT IT READS IS OF BULK AT MOST 1048576: true; the input reads as it did. -/
def fnWaysPutUptoRow : OpenClaim := { program := "ytioghacieopbdaa", sum := "6bc90bb35f30db651ac2ad7041e0b658533c9405d63dcb87a5e2f50c1a2d1c45", func := "loop.example/overfare/laws.FnWaysPut", spec := "fnWaysPut", inPlace := ["slices.overlaps[loop.example/overfare/impl.Way]"], unfollowed := true, recurses := true, apart := false, narrowed := true }
def FnWaysPutUptoSaid : Prop := fnWaysPutUptoRow.holds Try.pinned (OpenSpec.upto fnWaysPutSpec)

end Rows
end Go.Proofs.Ytioghacieopbdaa
