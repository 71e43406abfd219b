/-
  No cell of these rows narrows 'for every input' (looked for: loops, veiled, ifaces, maps, wideKeys, modest, calm, conditions, laid).
  DERIVED. THE GIVEN ROWS OF THIS SEAT. 12 by the template 'for every input the law returns true; each argument reads behind the call as it read before'; 0 by the template 'total and deterministic' (their statements: YtfhkahlfpchhpaaTotals.lean).
  GIVEN WITH THE SEED: the statements are not yours to turn. If you find one false, say at which input.
  Laid BY PROGRAM, IN A SANDBOX (cutbox-rows.mjs): the forced cells as the released guide's own fill.sh prints them over the translation 49ae78b12dd7abc1… (all of the seat's roots in one cut). By AI agents, Wed Nov 11 2026. No macro, syntax, notation, axiom, sorry.
-/
import Derived.Test.YtfhkahlfpchhpaaChecked
import GoSem.Claim
import GoSem.ClaimJoined
import GoSem.ClaimMapViews
import Derived.JoinedTies
import Derived.KernelRfl
namespace Go.Proofs.Ytfhkahlfpchhpaa
/- THE CELL 'sum', in the pinned program and in every row, IS THE sha256 OF THE DUMP (.gsa) THAT YtfhkahlfpchhpaaProg.lean LOADS. Nothing in Lean hashes anything: it is a label: what it is worth is what the hold of that sum in a sandbox is worth. -/
noncomputable def Try.pinned : Pinned := { name := "ytfhkahlfpchhpaa", sum := "49ae78b12dd7abc123b8630d5fae7e0b62487eeefad3d20038fd8e1c59b7da33", checked := Try.checked }
namespace Rows
def none {H : Type} : Left H := { results := [], args := [] }

/-- 'laws.FnNeedMore': WHATEVER THE INPUT: true; the input reads as it did. -/
def fnNeedMoreSpec : ChangeSpec := { name := "fnNeedMore", fn := fun _ => fun
  | [d] => { results := [.lit (.bool true)], args := [d] }
  | _ => none }
def fnNeedMoreRow : OpenClaim := { program := "ytfhkahlfpchhpaa", sum := "49ae78b12dd7abc123b8630d5fae7e0b62487eeefad3d20038fd8e1c59b7da33", func := "loop.example/firingnets/laws.FnNeedMore", spec := "fnNeedMore", apart := false }
def FnNeedMoreSaid : Prop := fnNeedMoreRow.holds Try.pinned (OpenSpec.ofChange fnNeedMoreSpec)

/-- ITS FALSE NEIGHBOUR: 'it returns false'. Refute it at one input. -/
def fnNeedMoreWrong : ChangeSpec := { name := "fnNeedMore", fn := fun _ => fun
  | [d] => { results := [.lit (.bool false)], args := [d] }
  | _ => none }
def FnNeedMoreWrongFalsely : Prop := fnNeedMoreRow.holds Try.pinned (OpenSpec.ofChange fnNeedMoreWrong)

/-- 'laws.FnSpreadWave': WHATEVER THE INPUT: true; the input reads as it did. -/
def fnSpreadWaveSpec : ChangeSpec := { name := "fnSpreadWave", fn := fun _ => fun
  | [d] => { results := [.lit (.bool true)], args := [d] }
  | _ => none }
def fnSpreadWaveRow : OpenClaim := { program := "ytfhkahlfpchhpaa", sum := "49ae78b12dd7abc123b8630d5fae7e0b62487eeefad3d20038fd8e1c59b7da33", func := "loop.example/firingnets/laws.FnSpreadWave", spec := "fnSpreadWave", apart := false }
def FnSpreadWaveSaid : Prop := fnSpreadWaveRow.holds Try.pinned (OpenSpec.ofChange fnSpreadWaveSpec)

/-- ITS FALSE NEIGHBOUR: 'it returns false'. Refute it at one input. -/
def fnSpreadWaveWrong : ChangeSpec := { name := "fnSpreadWave", fn := fun _ => fun
  | [d] => { results := [.lit (.bool false)], args := [d] }
  | _ => none }
def FnSpreadWaveWrongFalsely : Prop := fnSpreadWaveRow.holds Try.pinned (OpenSpec.ofChange fnSpreadWaveWrong)

/-- 'laws.FnNeedStep': WHATEVER THE INPUT: true; the input reads as it did. -/
def fnNeedStepSpec : ChangeSpec := { name := "fnNeedStep", fn := fun _ => fun
  | [d] => { results := [.lit (.bool true)], args := [d] }
  | _ => none }
def fnNeedStepRow : OpenClaim := { program := "ytfhkahlfpchhpaa", sum := "49ae78b12dd7abc123b8630d5fae7e0b62487eeefad3d20038fd8e1c59b7da33", func := "loop.example/firingnets/laws.FnNeedStep", spec := "fnNeedStep", apart := false }
def FnNeedStepSaid : Prop := fnNeedStepRow.holds Try.pinned (OpenSpec.ofChange fnNeedStepSpec)

/-- ITS FALSE NEIGHBOUR: 'it returns false'. Refute it at one input. -/
def fnNeedStepWrong : ChangeSpec := { name := "fnNeedStep", fn := fun _ => fun
  | [d] => { results := [.lit (.bool false)], args := [d] }
  | _ => none }
def FnNeedStepWrongFalsely : Prop := fnNeedStepRow.holds Try.pinned (OpenSpec.ofChange fnNeedStepWrong)

/-- 'laws.FnOneByOne': WHATEVER THE INPUT: true; the input reads as it did. -/
def fnOneByOneSpec : ChangeSpec := { name := "fnOneByOne", fn := fun _ => fun
  | [d] => { results := [.lit (.bool true)], args := [d] }
  | _ => none }
def fnOneByOneRow : OpenClaim := { program := "ytfhkahlfpchhpaa", sum := "49ae78b12dd7abc123b8630d5fae7e0b62487eeefad3d20038fd8e1c59b7da33", func := "loop.example/firingnets/laws.FnOneByOne", spec := "fnOneByOne", apart := false }
def FnOneByOneSaid : Prop := fnOneByOneRow.holds Try.pinned (OpenSpec.ofChange fnOneByOneSpec)

/-- ITS FALSE NEIGHBOUR: 'it returns false'. Refute it at one input. -/
def fnOneByOneWrong : ChangeSpec := { name := "fnOneByOne", fn := fun _ => fun
  | [d] => { results := [.lit (.bool false)], args := [d] }
  | _ => none }
def FnOneByOneWrongFalsely : Prop := fnOneByOneRow.holds Try.pinned (OpenSpec.ofChange fnOneByOneWrong)

/-- 'laws.FnLeastSpark': WHATEVER THE INPUT: true; the input reads as it did. -/
def fnLeastSparkSpec : ChangeSpec := { name := "fnLeastSpark", fn := fun _ => fun
  | [d] => { results := [.lit (.bool true)], args := [d] }
  | _ => none }
def fnLeastSparkRow : OpenClaim := { program := "ytfhkahlfpchhpaa", sum := "49ae78b12dd7abc123b8630d5fae7e0b62487eeefad3d20038fd8e1c59b7da33", func := "loop.example/firingnets/laws.FnLeastSpark", spec := "fnLeastSpark", apart := false }
def FnLeastSparkSaid : Prop := fnLeastSparkRow.holds Try.pinned (OpenSpec.ofChange fnLeastSparkSpec)

/-- ITS FALSE NEIGHBOUR: 'it returns false'. Refute it at one input. -/
def fnLeastSparkWrong : ChangeSpec := { name := "fnLeastSpark", fn := fun _ => fun
  | [d] => { results := [.lit (.bool false)], args := [d] }
  | _ => none }
def FnLeastSparkWrongFalsely : Prop := fnLeastSparkRow.holds Try.pinned (OpenSpec.ofChange fnLeastSparkWrong)

/-- 'laws.FnNeedRun': WHATEVER THE INPUT: true; the input reads as it did. -/
def fnNeedRunSpec : ChangeSpec := { name := "fnNeedRun", fn := fun _ => fun
  | [d] => { results := [.lit (.bool true)], args := [d] }
  | _ => none }
def fnNeedRunRow : OpenClaim := { program := "ytfhkahlfpchhpaa", sum := "49ae78b12dd7abc123b8630d5fae7e0b62487eeefad3d20038fd8e1c59b7da33", func := "loop.example/firingnets/laws.FnNeedRun", spec := "fnNeedRun", apart := false }
def FnNeedRunSaid : Prop := fnNeedRunRow.holds Try.pinned (OpenSpec.ofChange fnNeedRunSpec)

/-- ITS FALSE NEIGHBOUR: 'it returns false'. Refute it at one input. -/
def fnNeedRunWrong : ChangeSpec := { name := "fnNeedRun", fn := fun _ => fun
  | [d] => { results := [.lit (.bool false)], args := [d] }
  | _ => none }
def FnNeedRunWrongFalsely : Prop := fnNeedRunRow.holds Try.pinned (OpenSpec.ofChange fnNeedRunWrong)

/-- 'laws.FnExactFiredRow': WHATEVER THE INPUT: true; the input reads as it did. -/
def fnExactFiredRowSpec : ChangeSpec := { name := "fnExactFiredRow", fn := fun _ => fun
  | [d1, d2, d3, d4] => { results := [.lit (.bool true)], args := [d1, d2, d3, d4] }
  | _ => none }
def fnExactFiredRowRow : OpenClaim := { program := "ytfhkahlfpchhpaa", sum := "49ae78b12dd7abc123b8630d5fae7e0b62487eeefad3d20038fd8e1c59b7da33", func := "loop.example/firingnets/laws.FnExactFiredRow", spec := "fnExactFiredRow", apart := false }
def FnExactFiredRowSaid : Prop := fnExactFiredRowRow.holds Try.pinned (OpenSpec.ofChange fnExactFiredRowSpec)

/-- ITS FALSE NEIGHBOUR: 'it returns false'. Refute it at one input. -/
def fnExactFiredRowWrong : ChangeSpec := { name := "fnExactFiredRow", fn := fun _ => fun
  | [d1, d2, d3, d4] => { results := [.lit (.bool false)], args := [d1, d2, d3, d4] }
  | _ => none }
def FnExactFiredRowWrongFalsely : Prop := fnExactFiredRowRow.holds Try.pinned (OpenSpec.ofChange fnExactFiredRowWrong)

/-- 'laws.FnExactScriptRun': WHATEVER THE INPUT: true; the input reads as it did. -/
def fnExactScriptRunSpec : ChangeSpec := { name := "fnExactScriptRun", fn := fun _ => fun
  | [d1, d2, d3, d4, d5] => { results := [.lit (.bool true)], args := [d1, d2, d3, d4, d5] }
  | _ => none }
def fnExactScriptRunRow : OpenClaim := { program := "ytfhkahlfpchhpaa", sum := "49ae78b12dd7abc123b8630d5fae7e0b62487eeefad3d20038fd8e1c59b7da33", func := "loop.example/firingnets/laws.FnExactScriptRun", spec := "fnExactScriptRun", apart := false }
def FnExactScriptRunSaid : Prop := fnExactScriptRunRow.holds Try.pinned (OpenSpec.ofChange fnExactScriptRunSpec)

/-- ITS FALSE NEIGHBOUR: 'it returns false'. Refute it at one input. -/
def fnExactScriptRunWrong : ChangeSpec := { name := "fnExactScriptRun", fn := fun _ => fun
  | [d1, d2, d3, d4, d5] => { results := [.lit (.bool false)], args := [d1, d2, d3, d4, d5] }
  | _ => none }
def FnExactScriptRunWrongFalsely : Prop := fnExactScriptRunRow.holds Try.pinned (OpenSpec.ofChange fnExactScriptRunWrong)

/-- 'laws.FnExactScriptFired': WHATEVER THE INPUT: true; the input reads as it did. -/
def fnExactScriptFiredSpec : ChangeSpec := { name := "fnExactScriptFired", fn := fun _ => fun
  | [d1, d2, d3, d4, d5] => { results := [.lit (.bool true)], args := [d1, d2, d3, d4, d5] }
  | _ => none }
def fnExactScriptFiredRow : OpenClaim := { program := "ytfhkahlfpchhpaa", sum := "49ae78b12dd7abc123b8630d5fae7e0b62487eeefad3d20038fd8e1c59b7da33", func := "loop.example/firingnets/laws.FnExactScriptFired", spec := "fnExactScriptFired", apart := false }
def FnExactScriptFiredSaid : Prop := fnExactScriptFiredRow.holds Try.pinned (OpenSpec.ofChange fnExactScriptFiredSpec)

/-- ITS FALSE NEIGHBOUR: 'it returns false'. Refute it at one input. -/
def fnExactScriptFiredWrong : ChangeSpec := { name := "fnExactScriptFired", fn := fun _ => fun
  | [d1, d2, d3, d4, d5] => { results := [.lit (.bool false)], args := [d1, d2, d3, d4, d5] }
  | _ => none }
def FnExactScriptFiredWrongFalsely : Prop := fnExactScriptFiredRow.holds Try.pinned (OpenSpec.ofChange fnExactScriptFiredWrong)

/-- 'laws.FnScriptOk': WHATEVER THE INPUT: true; the input reads as it did. -/
def fnScriptOkSpec : ChangeSpec := { name := "fnScriptOk", fn := fun _ => fun
  | [d] => { results := [.lit (.bool true)], args := [d] }
  | _ => none }
def fnScriptOkRow : OpenClaim := { program := "ytfhkahlfpchhpaa", sum := "49ae78b12dd7abc123b8630d5fae7e0b62487eeefad3d20038fd8e1c59b7da33", func := "loop.example/firingnets/laws.FnScriptOk", spec := "fnScriptOk", apart := false }
def FnScriptOkSaid : Prop := fnScriptOkRow.holds Try.pinned (OpenSpec.ofChange fnScriptOkSpec)

/-- ITS FALSE NEIGHBOUR: 'it returns false'. Refute it at one input. -/
def fnScriptOkWrong : ChangeSpec := { name := "fnScriptOk", fn := fun _ => fun
  | [d] => { results := [.lit (.bool false)], args := [d] }
  | _ => none }
def FnScriptOkWrongFalsely : Prop := fnScriptOkRow.holds Try.pinned (OpenSpec.ofChange fnScriptOkWrong)

/-- 'laws.FnScriptWave': WHATEVER THE INPUT: true; the input reads as it did. -/
def fnScriptWaveSpec : ChangeSpec := { name := "fnScriptWave", fn := fun _ => fun
  | [d] => { results := [.lit (.bool true)], args := [d] }
  | _ => none }
def fnScriptWaveRow : OpenClaim := { program := "ytfhkahlfpchhpaa", sum := "49ae78b12dd7abc123b8630d5fae7e0b62487eeefad3d20038fd8e1c59b7da33", func := "loop.example/firingnets/laws.FnScriptWave", spec := "fnScriptWave", apart := false }
def FnScriptWaveSaid : Prop := fnScriptWaveRow.holds Try.pinned (OpenSpec.ofChange fnScriptWaveSpec)

/-- ITS FALSE NEIGHBOUR: 'it returns false'. Refute it at one input. -/
def fnScriptWaveWrong : ChangeSpec := { name := "fnScriptWave", fn := fun _ => fun
  | [d] => { results := [.lit (.bool false)], args := [d] }
  | _ => none }
def FnScriptWaveWrongFalsely : Prop := fnScriptWaveRow.holds Try.pinned (OpenSpec.ofChange fnScriptWaveWrong)

/-- 'laws.FnPulseScript': WHATEVER THE INPUT: true; the input reads as it did. -/
def fnPulseScriptSpec : ChangeSpec := { name := "fnPulseScript", fn := fun _ => fun
  | [d1, d2] => { results := [.lit (.bool true)], args := [d1, d2] }
  | _ => none }
def fnPulseScriptRow : OpenClaim := { program := "ytfhkahlfpchhpaa", sum := "49ae78b12dd7abc123b8630d5fae7e0b62487eeefad3d20038fd8e1c59b7da33", func := "loop.example/firingnets/laws.FnPulseScript", spec := "fnPulseScript", apart := false }
def FnPulseScriptSaid : Prop := fnPulseScriptRow.holds Try.pinned (OpenSpec.ofChange fnPulseScriptSpec)

/-- ITS FALSE NEIGHBOUR: 'it returns false'. Refute it at one input. -/
def fnPulseScriptWrong : ChangeSpec := { name := "fnPulseScript", fn := fun _ => fun
  | [d1, d2] => { results := [.lit (.bool false)], args := [d1, d2] }
  | _ => none }
def FnPulseScriptWrongFalsely : Prop := fnPulseScriptRow.holds Try.pinned (OpenSpec.ofChange fnPulseScriptWrong)

/- THE SECOND FORM. 'bulk': how many values and letters a reading holds, each counted each time it is reached (what is shared counts as often as it is met; a slice's spare places count too). A statement '..UptoSaid' is the law's where the arguments, and the package variables that the reading takes, are together of bulk at most 1048576: NARROWER than '..Said'. Prove '..Said' where nothing that the law and all that it calls make is longer than what came in: it says more and counts as full. Else prove '..UptoSaid'. A law counts once. -/
mutual
def uptoBulk {H : Type} : DataW H → Nat
  | .lit (.string bytes) => bytes.length + 1
  | .lit _ => 1
  | .nil => 1
  | .ptr d => uptoBulk d + 1
  | .slice elems spare => uptoBulkAll elems + uptoBulkAll spare + 1
  | .agg parts => uptoBulkAll parts + 1
  | .iface _ d => uptoBulk d + 1
  | .map entries => uptoBulkEntries entries + 1
  | .held _ => 1
def uptoBulkAll {H : Type} : List (DataW H) → Nat
  | [] => 0
  | d :: r => uptoBulk d + uptoBulkAll r
def uptoBulkEntries {H : Type} : List (Lit × DataW H) → Nat
  | [] => 0
  | x :: r => uptoBulkEntry x + uptoBulkEntries r
def uptoBulkEntry {H : Type} : Lit × DataW H → Nat
  | (.string bytes, d) => bytes.length + uptoBulk d + 1
  | (_, d) => uptoBulk d + 1
 end
def uptoSmall : (H : Type) → List (DataW H) → Bool := fun _ ds => decide (uptoBulkAll ds ≤ 1048576)
def OpenSpec.upto (s : _root_.Go.ChangeSpec) : _root_.Go.OpenSpec := { _root_.Go.OpenSpec.ofChange s with cond := some uptoSmall }

/-- 'laws.FnNeedMore', WHERE WHAT IT READS IS OF BULK AT MOST 1048576: true; the input reads as it did. -/
def fnNeedMoreUptoRow : OpenClaim := { program := "ytfhkahlfpchhpaa", sum := "49ae78b12dd7abc123b8630d5fae7e0b62487eeefad3d20038fd8e1c59b7da33", func := "loop.example/firingnets/laws.FnNeedMore", spec := "fnNeedMore", apart := false, narrowed := true }
def FnNeedMoreUptoSaid : Prop := fnNeedMoreUptoRow.holds Try.pinned (OpenSpec.upto fnNeedMoreSpec)

/-- 'laws.FnSpreadWave', WHERE WHAT IT READS IS OF BULK AT MOST 1048576: true; the input reads as it did. -/
def fnSpreadWaveUptoRow : OpenClaim := { program := "ytfhkahlfpchhpaa", sum := "49ae78b12dd7abc123b8630d5fae7e0b62487eeefad3d20038fd8e1c59b7da33", func := "loop.example/firingnets/laws.FnSpreadWave", spec := "fnSpreadWave", apart := false, narrowed := true }
def FnSpreadWaveUptoSaid : Prop := fnSpreadWaveUptoRow.holds Try.pinned (OpenSpec.upto fnSpreadWaveSpec)

/-- 'laws.FnNeedStep', WHERE WHAT IT READS IS OF BULK AT MOST 1048576: true; the input reads as it did. -/
def fnNeedStepUptoRow : OpenClaim := { program := "ytfhkahlfpchhpaa", sum := "49ae78b12dd7abc123b8630d5fae7e0b62487eeefad3d20038fd8e1c59b7da33", func := "loop.example/firingnets/laws.FnNeedStep", spec := "fnNeedStep", apart := false, narrowed := true }
def FnNeedStepUptoSaid : Prop := fnNeedStepUptoRow.holds Try.pinned (OpenSpec.upto fnNeedStepSpec)

/-- 'laws.FnOneByOne', WHERE WHAT IT READS IS OF BULK AT MOST 1048576: true; the input reads as it did. -/
def fnOneByOneUptoRow : OpenClaim := { program := "ytfhkahlfpchhpaa", sum := "49ae78b12dd7abc123b8630d5fae7e0b62487eeefad3d20038fd8e1c59b7da33", func := "loop.example/firingnets/laws.FnOneByOne", spec := "fnOneByOne", apart := false, narrowed := true }
def FnOneByOneUptoSaid : Prop := fnOneByOneUptoRow.holds Try.pinned (OpenSpec.upto fnOneByOneSpec)

/-- 'laws.FnLeastSpark', WHERE WHAT IT READS IS OF BULK AT MOST 1048576: true; the input reads as it did. -/
def fnLeastSparkUptoRow : OpenClaim := { program := "ytfhkahlfpchhpaa", sum := "49ae78b12dd7abc123b8630d5fae7e0b62487eeefad3d20038fd8e1c59b7da33", func := "loop.example/firingnets/laws.FnLeastSpark", spec := "fnLeastSpark", apart := false, narrowed := true }
def FnLeastSparkUptoSaid : Prop := fnLeastSparkUptoRow.holds Try.pinned (OpenSpec.upto fnLeastSparkSpec)

/-- 'laws.FnNeedRun', WHERE WHAT IT READS IS OF BULK AT MOST 1048576: true; the input reads as it did. -/
def fnNeedRunUptoRow : OpenClaim := { program := "ytfhkahlfpchhpaa", sum := "49ae78b12dd7abc123b8630d5fae7e0b62487eeefad3d20038fd8e1c59b7da33", func := "loop.example/firingnets/laws.FnNeedRun", spec := "fnNeedRun", apart := false, narrowed := true }
def FnNeedRunUptoSaid : Prop := fnNeedRunUptoRow.holds Try.pinned (OpenSpec.upto fnNeedRunSpec)

/-- 'laws.FnExactFiredRow', WHERE WHAT IT READS IS OF BULK AT MOST 1048576: true; the input reads as it did. -/
def fnExactFiredRowUptoRow : OpenClaim := { program := "ytfhkahlfpchhpaa", sum := "49ae78b12dd7abc123b8630d5fae7e0b62487eeefad3d20038fd8e1c59b7da33", func := "loop.example/firingnets/laws.FnExactFiredRow", spec := "fnExactFiredRow", apart := false, narrowed := true }
def FnExactFiredRowUptoSaid : Prop := fnExactFiredRowUptoRow.holds Try.pinned (OpenSpec.upto fnExactFiredRowSpec)

/-- 'laws.FnExactScriptRun', WHERE WHAT IT READS IS OF BULK AT MOST 1048576: true; the input reads as it did. -/
def fnExactScriptRunUptoRow : OpenClaim := { program := "ytfhkahlfpchhpaa", sum := "49ae78b12dd7abc123b8630d5fae7e0b62487eeefad3d20038fd8e1c59b7da33", func := "loop.example/firingnets/laws.FnExactScriptRun", spec := "fnExactScriptRun", apart := false, narrowed := true }
def FnExactScriptRunUptoSaid : Prop := fnExactScriptRunUptoRow.holds Try.pinned (OpenSpec.upto fnExactScriptRunSpec)

/-- 'laws.FnExactScriptFired', WHERE WHAT IT READS IS OF BULK AT MOST 1048576: true; the input reads as it did. -/
def fnExactScriptFiredUptoRow : OpenClaim := { program := "ytfhkahlfpchhpaa", sum := "49ae78b12dd7abc123b8630d5fae7e0b62487eeefad3d20038fd8e1c59b7da33", func := "loop.example/firingnets/laws.FnExactScriptFired", spec := "fnExactScriptFired", apart := false, narrowed := true }
def FnExactScriptFiredUptoSaid : Prop := fnExactScriptFiredUptoRow.holds Try.pinned (OpenSpec.upto fnExactScriptFiredSpec)

/-- 'laws.FnScriptOk', WHERE WHAT IT READS IS OF BULK AT MOST 1048576: true; the input reads as it did. -/
def fnScriptOkUptoRow : OpenClaim := { program := "ytfhkahlfpchhpaa", sum := "49ae78b12dd7abc123b8630d5fae7e0b62487eeefad3d20038fd8e1c59b7da33", func := "loop.example/firingnets/laws.FnScriptOk", spec := "fnScriptOk", apart := false, narrowed := true }
def FnScriptOkUptoSaid : Prop := fnScriptOkUptoRow.holds Try.pinned (OpenSpec.upto fnScriptOkSpec)

/-- 'laws.FnScriptWave', WHERE WHAT IT READS IS OF BULK AT MOST 1048576: true; the input reads as it did. -/
def fnScriptWaveUptoRow : OpenClaim := { program := "ytfhkahlfpchhpaa", sum := "49ae78b12dd7abc123b8630d5fae7e0b62487eeefad3d20038fd8e1c59b7da33", func := "loop.example/firingnets/laws.FnScriptWave", spec := "fnScriptWave", apart := false, narrowed := true }
def FnScriptWaveUptoSaid : Prop := fnScriptWaveUptoRow.holds Try.pinned (OpenSpec.upto fnScriptWaveSpec)

/-- 'laws.FnPulseScript', WHERE WHAT IT READS IS OF BULK AT MOST 1048576: true; the input reads as it did. -/
def fnPulseScriptUptoRow : OpenClaim := { program := "ytfhkahlfpchhpaa", sum := "49ae78b12dd7abc123b8630d5fae7e0b62487eeefad3d20038fd8e1c59b7da33", func := "loop.example/firingnets/laws.FnPulseScript", spec := "fnPulseScript", apart := false, narrowed := true }
def FnPulseScriptUptoSaid : Prop := fnPulseScriptUptoRow.holds Try.pinned (OpenSpec.upto fnPulseScriptSpec)

end Rows
end Go.Proofs.Ytfhkahlfpchhpaa
