/-
  No cell of these rows narrows 'for every input' (looked for: loops, veiled, ifaces, maps, wideKeys, modest, calm, conditions, laid).
  DERIVED. THE GIVEN ROWS OF THIS SEAT. 12 by the template 'for every input the law returns true; each argument reads behind the call as it read before'; 0 by the template 'total and deterministic' (their statements: YthkngbdijoeolaaTotals.lean).
  GIVEN WITH THE SEED: the statements are not yours to turn. If you find one false, say at which input.
  Laid BY PROGRAM, IN A SANDBOX (cutbox-rows.mjs): the forced cells as the released guide's own fill.sh prints them over the translation 8361d5060f1d5054… (all of the seat's roots in one cut). By AI agents, Wed Nov 11 2026. No macro, syntax, notation, axiom, sorry.
-/
import Derived.Test.YthkngbdijoeolaaChecked
import GoSem.Claim
import GoSem.ClaimJoined
import GoSem.ClaimMapViews
import Derived.JoinedTies
import Derived.KernelRfl
namespace Go.Proofs.Ythkngbdijoeolaa
/- THE CELL 'sum', in the pinned program and in every row, IS THE sha256 OF THE DUMP (.gsa) THAT YthkngbdijoeolaaProg.lean LOADS. Nothing in Lean hashes anything: it is a label: what it is worth is what the hold of that sum in a sandbox is worth. -/
noncomputable def Try.pinned : Pinned := { name := "ythkngbdijoeolaa", sum := "8361d5060f1d5054f3a3209b5335e99d2dfc9c70a685b8c9f5412ff58fd5020d", checked := Try.checked }
namespace Rows
def none {H : Type} : Left H := { results := [], args := [] }

/-- 'laws.FnFrontsGone': WHATEVER THE INPUT: true; the input reads as it did. -/
def fnFrontsGoneSpec : ChangeSpec := { name := "fnFrontsGone", fn := fun _ => fun
  | [d] => { results := [.lit (.bool true)], args := [d] }
  | _ => none }
def fnFrontsGoneRow : OpenClaim := { program := "ythkngbdijoeolaa", sum := "8361d5060f1d5054f3a3209b5335e99d2dfc9c70a685b8c9f5412ff58fd5020d", func := "loop.example/firingnets/laws.FnFrontsGone", spec := "fnFrontsGone", apart := false }
def FnFrontsGoneSaid : Prop := fnFrontsGoneRow.holds Try.pinned (OpenSpec.ofChange fnFrontsGoneSpec)

/-- ITS FALSE NEIGHBOUR: 'it returns false'. Refute it at one input. -/
def fnFrontsGoneWrong : ChangeSpec := { name := "fnFrontsGone", fn := fun _ => fun
  | [d] => { results := [.lit (.bool false)], args := [d] }
  | _ => none }
def FnFrontsGoneWrongFalsely : Prop := fnFrontsGoneRow.holds Try.pinned (OpenSpec.ofChange fnFrontsGoneWrong)

/-- 'laws.FnFrontRow': WHATEVER THE INPUT: true; the input reads as it did. -/
def fnFrontRowSpec : ChangeSpec := { name := "fnFrontRow", fn := fun _ => fun
  | [d] => { results := [.lit (.bool true)], args := [d] }
  | _ => none }
def fnFrontRowRow : OpenClaim := { program := "ythkngbdijoeolaa", sum := "8361d5060f1d5054f3a3209b5335e99d2dfc9c70a685b8c9f5412ff58fd5020d", func := "loop.example/firingnets/laws.FnFrontRow", spec := "fnFrontRow", apart := false }
def FnFrontRowSaid : Prop := fnFrontRowRow.holds Try.pinned (OpenSpec.ofChange fnFrontRowSpec)

/-- ITS FALSE NEIGHBOUR: 'it returns false'. Refute it at one input. -/
def fnFrontRowWrong : ChangeSpec := { name := "fnFrontRow", fn := fun _ => fun
  | [d] => { results := [.lit (.bool false)], args := [d] }
  | _ => none }
def FnFrontRowWrongFalsely : Prop := fnFrontRowRow.holds Try.pinned (OpenSpec.ofChange fnFrontRowWrong)

/-- 'laws.FnNeedsOk': WHATEVER THE INPUT: true; the input reads as it did. -/
def fnNeedsOkSpec : ChangeSpec := { name := "fnNeedsOk", fn := fun _ => fun
  | [d] => { results := [.lit (.bool true)], args := [d] }
  | _ => none }
def fnNeedsOkRow : OpenClaim := { program := "ythkngbdijoeolaa", sum := "8361d5060f1d5054f3a3209b5335e99d2dfc9c70a685b8c9f5412ff58fd5020d", func := "loop.example/firingnets/laws.FnNeedsOk", spec := "fnNeedsOk", apart := false }
def FnNeedsOkSaid : Prop := fnNeedsOkRow.holds Try.pinned (OpenSpec.ofChange fnNeedsOkSpec)

/-- ITS FALSE NEIGHBOUR: 'it returns false'. Refute it at one input. -/
def fnNeedsOkWrong : ChangeSpec := { name := "fnNeedsOk", fn := fun _ => fun
  | [d] => { results := [.lit (.bool false)], args := [d] }
  | _ => none }
def FnNeedsOkWrongFalsely : Prop := fnNeedsOkRow.holds Try.pinned (OpenSpec.ofChange fnNeedsOkWrong)

/-- 'laws.FnFrontCount': WHATEVER THE INPUT: true; the input reads as it did. -/
def fnFrontCountSpec : ChangeSpec := { name := "fnFrontCount", fn := fun _ => fun
  | [d] => { results := [.lit (.bool true)], args := [d] }
  | _ => none }
def fnFrontCountRow : OpenClaim := { program := "ythkngbdijoeolaa", sum := "8361d5060f1d5054f3a3209b5335e99d2dfc9c70a685b8c9f5412ff58fd5020d", func := "loop.example/firingnets/laws.FnFrontCount", spec := "fnFrontCount", apart := false }
def FnFrontCountSaid : Prop := fnFrontCountRow.holds Try.pinned (OpenSpec.ofChange fnFrontCountSpec)

/-- ITS FALSE NEIGHBOUR: 'it returns false'. Refute it at one input. -/
def fnFrontCountWrong : ChangeSpec := { name := "fnFrontCount", fn := fun _ => fun
  | [d] => { results := [.lit (.bool false)], args := [d] }
  | _ => none }
def FnFrontCountWrongFalsely : Prop := fnFrontCountRow.holds Try.pinned (OpenSpec.ofChange fnFrontCountWrong)

/-- 'laws.FnStateOfFronts': WHATEVER THE INPUT: true; the input reads as it did. -/
def fnStateOfFrontsSpec : ChangeSpec := { name := "fnStateOfFronts", fn := fun _ => fun
  | [d] => { results := [.lit (.bool true)], args := [d] }
  | _ => none }
def fnStateOfFrontsRow : OpenClaim := { program := "ythkngbdijoeolaa", sum := "8361d5060f1d5054f3a3209b5335e99d2dfc9c70a685b8c9f5412ff58fd5020d", func := "loop.example/firingnets/laws.FnStateOfFronts", spec := "fnStateOfFronts", apart := false }
def FnStateOfFrontsSaid : Prop := fnStateOfFrontsRow.holds Try.pinned (OpenSpec.ofChange fnStateOfFrontsSpec)

/-- ITS FALSE NEIGHBOUR: 'it returns false'. Refute it at one input. -/
def fnStateOfFrontsWrong : ChangeSpec := { name := "fnStateOfFronts", fn := fun _ => fun
  | [d] => { results := [.lit (.bool false)], args := [d] }
  | _ => none }
def FnStateOfFrontsWrongFalsely : Prop := fnStateOfFrontsRow.holds Try.pinned (OpenSpec.ofChange fnStateOfFrontsWrong)

/-- 'laws.FnFrontStep': WHATEVER THE INPUT: true; the input reads as it did. -/
def fnFrontStepSpec : ChangeSpec := { name := "fnFrontStep", fn := fun _ => fun
  | [d] => { results := [.lit (.bool true)], args := [d] }
  | _ => none }
def fnFrontStepRow : OpenClaim := { program := "ythkngbdijoeolaa", sum := "8361d5060f1d5054f3a3209b5335e99d2dfc9c70a685b8c9f5412ff58fd5020d", func := "loop.example/firingnets/laws.FnFrontStep", spec := "fnFrontStep", apart := false }
def FnFrontStepSaid : Prop := fnFrontStepRow.holds Try.pinned (OpenSpec.ofChange fnFrontStepSpec)

/-- ITS FALSE NEIGHBOUR: 'it returns false'. Refute it at one input. -/
def fnFrontStepWrong : ChangeSpec := { name := "fnFrontStep", fn := fun _ => fun
  | [d] => { results := [.lit (.bool false)], args := [d] }
  | _ => none }
def FnFrontStepWrongFalsely : Prop := fnFrontStepRow.holds Try.pinned (OpenSpec.ofChange fnFrontStepWrong)

/-- 'laws.FnExactSpreadSet': WHATEVER THE INPUT: true; the input reads as it did. -/
def fnExactSpreadSetSpec : ChangeSpec := { name := "fnExactSpreadSet", fn := fun _ => fun
  | [d1, d2, d3] => { results := [.lit (.bool true)], args := [d1, d2, d3] }
  | _ => none }
def fnExactSpreadSetRow : OpenClaim := { program := "ythkngbdijoeolaa", sum := "8361d5060f1d5054f3a3209b5335e99d2dfc9c70a685b8c9f5412ff58fd5020d", func := "loop.example/firingnets/laws.FnExactSpreadSet", spec := "fnExactSpreadSet", apart := false }
def FnExactSpreadSetSaid : Prop := fnExactSpreadSetRow.holds Try.pinned (OpenSpec.ofChange fnExactSpreadSetSpec)

/-- ITS FALSE NEIGHBOUR: 'it returns false'. Refute it at one input. -/
def fnExactSpreadSetWrong : ChangeSpec := { name := "fnExactSpreadSet", fn := fun _ => fun
  | [d1, d2, d3] => { results := [.lit (.bool false)], args := [d1, d2, d3] }
  | _ => none }
def FnExactSpreadSetWrongFalsely : Prop := fnExactSpreadSetRow.holds Try.pinned (OpenSpec.ofChange fnExactSpreadSetWrong)

/-- 'laws.FnExactNeedStep': WHATEVER THE INPUT: true; the input reads as it did. -/
def fnExactNeedStepSpec : ChangeSpec := { name := "fnExactNeedStep", fn := fun _ => fun
  | [d1, d2, d3, d4] => { results := [.lit (.bool true)], args := [d1, d2, d3, d4] }
  | _ => none }
def fnExactNeedStepRow : OpenClaim := { program := "ythkngbdijoeolaa", sum := "8361d5060f1d5054f3a3209b5335e99d2dfc9c70a685b8c9f5412ff58fd5020d", func := "loop.example/firingnets/laws.FnExactNeedStep", spec := "fnExactNeedStep", apart := false }
def FnExactNeedStepSaid : Prop := fnExactNeedStepRow.holds Try.pinned (OpenSpec.ofChange fnExactNeedStepSpec)

/-- ITS FALSE NEIGHBOUR: 'it returns false'. Refute it at one input. -/
def fnExactNeedStepWrong : ChangeSpec := { name := "fnExactNeedStep", fn := fun _ => fun
  | [d1, d2, d3, d4] => { results := [.lit (.bool false)], args := [d1, d2, d3, d4] }
  | _ => none }
def FnExactNeedStepWrongFalsely : Prop := fnExactNeedStepRow.holds Try.pinned (OpenSpec.ofChange fnExactNeedStepWrong)

/-- 'laws.FnExactOneByOne': WHATEVER THE INPUT: true; the input reads as it did. -/
def fnExactOneByOneSpec : ChangeSpec := { name := "fnExactOneByOne", fn := fun _ => fun
  | [d1, d2, d3, d4] => { results := [.lit (.bool true)], args := [d1, d2, d3, d4] }
  | _ => none }
def fnExactOneByOneRow : OpenClaim := { program := "ythkngbdijoeolaa", sum := "8361d5060f1d5054f3a3209b5335e99d2dfc9c70a685b8c9f5412ff58fd5020d", func := "loop.example/firingnets/laws.FnExactOneByOne", spec := "fnExactOneByOne", apart := false }
def FnExactOneByOneSaid : Prop := fnExactOneByOneRow.holds Try.pinned (OpenSpec.ofChange fnExactOneByOneSpec)

/-- ITS FALSE NEIGHBOUR: 'it returns false'. Refute it at one input. -/
def fnExactOneByOneWrong : ChangeSpec := { name := "fnExactOneByOne", fn := fun _ => fun
  | [d1, d2, d3, d4] => { results := [.lit (.bool false)], args := [d1, d2, d3, d4] }
  | _ => none }
def FnExactOneByOneWrongFalsely : Prop := fnExactOneByOneRow.holds Try.pinned (OpenSpec.ofChange fnExactOneByOneWrong)

/-- 'laws.FnExactLeastSpark': WHATEVER THE INPUT: true; the input reads as it did. -/
def fnExactLeastSparkSpec : ChangeSpec := { name := "fnExactLeastSpark", fn := fun _ => fun
  | [d1, d2] => { results := [.lit (.bool true)], args := [d1, d2] }
  | _ => none }
def fnExactLeastSparkRow : OpenClaim := { program := "ythkngbdijoeolaa", sum := "8361d5060f1d5054f3a3209b5335e99d2dfc9c70a685b8c9f5412ff58fd5020d", func := "loop.example/firingnets/laws.FnExactLeastSpark", spec := "fnExactLeastSpark", apart := false }
def FnExactLeastSparkSaid : Prop := fnExactLeastSparkRow.holds Try.pinned (OpenSpec.ofChange fnExactLeastSparkSpec)

/-- ITS FALSE NEIGHBOUR: 'it returns false'. Refute it at one input. -/
def fnExactLeastSparkWrong : ChangeSpec := { name := "fnExactLeastSpark", fn := fun _ => fun
  | [d1, d2] => { results := [.lit (.bool false)], args := [d1, d2] }
  | _ => none }
def FnExactLeastSparkWrongFalsely : Prop := fnExactLeastSparkRow.holds Try.pinned (OpenSpec.ofChange fnExactLeastSparkWrong)

/-- 'laws.FnExactNeedRun': WHATEVER THE INPUT: true; the input reads as it did. -/
def fnExactNeedRunSpec : ChangeSpec := { name := "fnExactNeedRun", fn := fun _ => fun
  | [d1, d2, d3, d4, d5] => { results := [.lit (.bool true)], args := [d1, d2, d3, d4, d5] }
  | _ => none }
def fnExactNeedRunRow : OpenClaim := { program := "ythkngbdijoeolaa", sum := "8361d5060f1d5054f3a3209b5335e99d2dfc9c70a685b8c9f5412ff58fd5020d", func := "loop.example/firingnets/laws.FnExactNeedRun", spec := "fnExactNeedRun", apart := false }
def FnExactNeedRunSaid : Prop := fnExactNeedRunRow.holds Try.pinned (OpenSpec.ofChange fnExactNeedRunSpec)

/-- ITS FALSE NEIGHBOUR: 'it returns false'. Refute it at one input. -/
def fnExactNeedRunWrong : ChangeSpec := { name := "fnExactNeedRun", fn := fun _ => fun
  | [d1, d2, d3, d4, d5] => { results := [.lit (.bool false)], args := [d1, d2, d3, d4, d5] }
  | _ => none }
def FnExactNeedRunWrongFalsely : Prop := fnExactNeedRunRow.holds Try.pinned (OpenSpec.ofChange fnExactNeedRunWrong)

/-- 'laws.FnSpreadSet': WHATEVER THE INPUT: true; the input reads as it did. -/
def fnSpreadSetSpec : ChangeSpec := { name := "fnSpreadSet", fn := fun _ => fun
  | [d1, d2] => { results := [.lit (.bool true)], args := [d1, d2] }
  | _ => none }
def fnSpreadSetRow : OpenClaim := { program := "ythkngbdijoeolaa", sum := "8361d5060f1d5054f3a3209b5335e99d2dfc9c70a685b8c9f5412ff58fd5020d", func := "loop.example/firingnets/laws.FnSpreadSet", spec := "fnSpreadSet", apart := false }
def FnSpreadSetSaid : Prop := fnSpreadSetRow.holds Try.pinned (OpenSpec.ofChange fnSpreadSetSpec)

/-- ITS FALSE NEIGHBOUR: 'it returns false'. Refute it at one input. -/
def fnSpreadSetWrong : ChangeSpec := { name := "fnSpreadSet", fn := fun _ => fun
  | [d1, d2] => { results := [.lit (.bool false)], args := [d1, d2] }
  | _ => none }
def FnSpreadSetWrongFalsely : Prop := fnSpreadSetRow.holds Try.pinned (OpenSpec.ofChange fnSpreadSetWrong)

/- THE SECOND FORM. 'bulk': how many values and letters a reading holds, each counted each time it is reached (what is shared counts as often as it is met; a slice's spare places count too). A statement '..UptoSaid' is the law's where the arguments, and the package variables that the reading takes, are together of bulk at most 1048576: NARROWER than '..Said'. Prove '..Said' where nothing that the law and all that it calls make is longer than what came in: it says more and counts as full. Else prove '..UptoSaid'. A law counts once. -/
mutual
def uptoBulk {H : Type} : DataW H → Nat
  | .lit (.string bytes) => bytes.length + 1
  | .lit _ => 1
  | .nil => 1
  | .ptr d => uptoBulk d + 1
  | .slice elems spare => uptoBulkAll elems + uptoBulkAll spare + 1
  | .agg parts => uptoBulkAll parts + 1
  | .iface _ d => uptoBulk d + 1
  | .map entries => uptoBulkEntries entries + 1
  | .held _ => 1
def uptoBulkAll {H : Type} : List (DataW H) → Nat
  | [] => 0
  | d :: r => uptoBulk d + uptoBulkAll r
def uptoBulkEntries {H : Type} : List (Lit × DataW H) → Nat
  | [] => 0
  | x :: r => uptoBulkEntry x + uptoBulkEntries r
def uptoBulkEntry {H : Type} : Lit × DataW H → Nat
  | (.string bytes, d) => bytes.length + uptoBulk d + 1
  | (_, d) => uptoBulk d + 1
 end
def uptoSmall : (H : Type) → List (DataW H) → Bool := fun _ ds => decide (uptoBulkAll ds ≤ 1048576)
def OpenSpec.upto (s : _root_.Go.ChangeSpec) : _root_.Go.OpenSpec := { _root_.Go.OpenSpec.ofChange s with cond := some uptoSmall }

/-- 'laws.FnFrontsGone', WHERE WHAT IT READS IS OF BULK AT MOST 1048576: true; the input reads as it did. -/
def fnFrontsGoneUptoRow : OpenClaim := { program := "ythkngbdijoeolaa", sum := "8361d5060f1d5054f3a3209b5335e99d2dfc9c70a685b8c9f5412ff58fd5020d", func := "loop.example/firingnets/laws.FnFrontsGone", spec := "fnFrontsGone", apart := false, narrowed := true }
def FnFrontsGoneUptoSaid : Prop := fnFrontsGoneUptoRow.holds Try.pinned (OpenSpec.upto fnFrontsGoneSpec)

/-- 'laws.FnFrontRow', WHERE WHAT IT READS IS OF BULK AT MOST 1048576: true; the input reads as it did. -/
def fnFrontRowUptoRow : OpenClaim := { program := "ythkngbdijoeolaa", sum := "8361d5060f1d5054f3a3209b5335e99d2dfc9c70a685b8c9f5412ff58fd5020d", func := "loop.example/firingnets/laws.FnFrontRow", spec := "fnFrontRow", apart := false, narrowed := true }
def FnFrontRowUptoSaid : Prop := fnFrontRowUptoRow.holds Try.pinned (OpenSpec.upto fnFrontRowSpec)

/-- 'laws.FnNeedsOk', WHERE WHAT IT READS IS OF BULK AT MOST 1048576: true; the input reads as it did. -/
def fnNeedsOkUptoRow : OpenClaim := { program := "ythkngbdijoeolaa", sum := "8361d5060f1d5054f3a3209b5335e99d2dfc9c70a685b8c9f5412ff58fd5020d", func := "loop.example/firingnets/laws.FnNeedsOk", spec := "fnNeedsOk", apart := false, narrowed := true }
def FnNeedsOkUptoSaid : Prop := fnNeedsOkUptoRow.holds Try.pinned (OpenSpec.upto fnNeedsOkSpec)

/-- 'laws.FnFrontCount', WHERE WHAT IT READS IS OF BULK AT MOST 1048576: true; the input reads as it did. -/
def fnFrontCountUptoRow : OpenClaim := { program := "ythkngbdijoeolaa", sum := "8361d5060f1d5054f3a3209b5335e99d2dfc9c70a685b8c9f5412ff58fd5020d", func := "loop.example/firingnets/laws.FnFrontCount", spec := "fnFrontCount", apart := false, narrowed := true }
def FnFrontCountUptoSaid : Prop := fnFrontCountUptoRow.holds Try.pinned (OpenSpec.upto fnFrontCountSpec)

/-- 'laws.FnStateOfFronts', WHERE WHAT IT READS IS OF BULK AT MOST 1048576: true; the input reads as it did. -/
def fnStateOfFrontsUptoRow : OpenClaim := { program := "ythkngbdijoeolaa", sum := "8361d5060f1d5054f3a3209b5335e99d2dfc9c70a685b8c9f5412ff58fd5020d", func := "loop.example/firingnets/laws.FnStateOfFronts", spec := "fnStateOfFronts", apart := false, narrowed := true }
def FnStateOfFrontsUptoSaid : Prop := fnStateOfFrontsUptoRow.holds Try.pinned (OpenSpec.upto fnStateOfFrontsSpec)

/-- 'laws.FnFrontStep', WHERE WHAT IT READS IS OF BULK AT MOST 1048576: true; the input reads as it did. -/
def fnFrontStepUptoRow : OpenClaim := { program := "ythkngbdijoeolaa", sum := "8361d5060f1d5054f3a3209b5335e99d2dfc9c70a685b8c9f5412ff58fd5020d", func := "loop.example/firingnets/laws.FnFrontStep", spec := "fnFrontStep", apart := false, narrowed := true }
def FnFrontStepUptoSaid : Prop := fnFrontStepUptoRow.holds Try.pinned (OpenSpec.upto fnFrontStepSpec)

/-- 'laws.FnExactSpreadSet', WHERE WHAT IT READS IS OF BULK AT MOST 1048576: true; the input reads as it did. -/
def fnExactSpreadSetUptoRow : OpenClaim := { program := "ythkngbdijoeolaa", sum := "8361d5060f1d5054f3a3209b5335e99d2dfc9c70a685b8c9f5412ff58fd5020d", func := "loop.example/firingnets/laws.FnExactSpreadSet", spec := "fnExactSpreadSet", apart := false, narrowed := true }
def FnExactSpreadSetUptoSaid : Prop := fnExactSpreadSetUptoRow.holds Try.pinned (OpenSpec.upto fnExactSpreadSetSpec)

/-- 'laws.FnExactNeedStep', WHERE WHAT IT READS IS OF BULK AT MOST 1048576: true; the input reads as it did. -/
def fnExactNeedStepUptoRow : OpenClaim := { program := "ythkngbdijoeolaa", sum := "8361d5060f1d5054f3a3209b5335e99d2dfc9c70a685b8c9f5412ff58fd5020d", func := "loop.example/firingnets/laws.FnExactNeedStep", spec := "fnExactNeedStep", apart := false, narrowed := true }
def FnExactNeedStepUptoSaid : Prop := fnExactNeedStepUptoRow.holds Try.pinned (OpenSpec.upto fnExactNeedStepSpec)

/-- 'laws.FnExactOneByOne', WHERE WHAT IT READS IS OF BULK AT MOST 1048576: true; the input reads as it did. -/
def fnExactOneByOneUptoRow : OpenClaim := { program := "ythkngbdijoeolaa", sum := "8361d5060f1d5054f3a3209b5335e99d2dfc9c70a685b8c9f5412ff58fd5020d", func := "loop.example/firingnets/laws.FnExactOneByOne", spec := "fnExactOneByOne", apart := false, narrowed := true }
def FnExactOneByOneUptoSaid : Prop := fnExactOneByOneUptoRow.holds Try.pinned (OpenSpec.upto fnExactOneByOneSpec)

/-- 'laws.FnExactLeastSpark', WHERE WHAT IT READS IS OF BULK AT MOST 1048576: true; the input reads as it did. -/
def fnExactLeastSparkUptoRow : OpenClaim := { program := "ythkngbdijoeolaa", sum := "8361d5060f1d5054f3a3209b5335e99d2dfc9c70a685b8c9f5412ff58fd5020d", func := "loop.example/firingnets/laws.FnExactLeastSpark", spec := "fnExactLeastSpark", apart := false, narrowed := true }
def FnExactLeastSparkUptoSaid : Prop := fnExactLeastSparkUptoRow.holds Try.pinned (OpenSpec.upto fnExactLeastSparkSpec)

/-- 'laws.FnExactNeedRun', WHERE WHAT IT READS IS OF BULK AT MOST 1048576: true; the input reads as it did. -/
def fnExactNeedRunUptoRow : OpenClaim := { program := "ythkngbdijoeolaa", sum := "8361d5060f1d5054f3a3209b5335e99d2dfc9c70a685b8c9f5412ff58fd5020d", func := "loop.example/firingnets/laws.FnExactNeedRun", spec := "fnExactNeedRun", apart := false, narrowed := true }
def FnExactNeedRunUptoSaid : Prop := fnExactNeedRunUptoRow.holds Try.pinned (OpenSpec.upto fnExactNeedRunSpec)

/-- 'laws.FnSpreadSet', WHERE WHAT IT READS IS OF BULK AT MOST 1048576: true; the input reads as it did. -/
def fnSpreadSetUptoRow : OpenClaim := { program := "ythkngbdijoeolaa", sum := "8361d5060f1d5054f3a3209b5335e99d2dfc9c70a685b8c9f5412ff58fd5020d", func := "loop.example/firingnets/laws.FnSpreadSet", spec := "fnSpreadSet", apart := false, narrowed := true }
def FnSpreadSetUptoSaid : Prop := fnSpreadSetUptoRow.holds Try.pinned (OpenSpec.upto fnSpreadSetSpec)

end Rows
end Go.Proofs.Ythkngbdijoeolaa
