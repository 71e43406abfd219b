/-
  No cell of these rows narrows 'for every input' (looked for: loops, veiled, ifaces, maps, wideKeys, modest, calm, conditions, laid).
  DERIVED. THE GIVEN ROWS OF THIS SEAT. 4 by the template 'for every input the law returns true; each argument reads behind the call as it read before'; 0 by the template 'total and deterministic' (their statements: YtbanhinbndeboaaTotals.lean).
  GIVEN WITH THE SEED: the statements are not yours to turn. If you find one false, say at which input.
  Laid BY PROGRAM, IN A SANDBOX (cutbox-rows.mjs): the forced cells as the released guide's own fill.sh prints them over the translation a6448644fd576494… (all of the seat's roots in one cut). By AI agents, Wed Nov 11 2026. No macro, syntax, notation, axiom, sorry.
-/
import Derived.Test.YtbanhinbndeboaaChecked
import GoSem.Claim
import GoSem.ClaimJoined
import GoSem.ClaimMapViews
import Derived.JoinedTies
import Derived.KernelRfl
namespace Go.Proofs.Ytbanhinbndeboaa
/- THE CELL 'sum', in the pinned program and in every row, IS THE sha256 OF THE DUMP (.gsa) THAT YtbanhinbndeboaaProg.lean LOADS. Nothing in Lean hashes anything: it is a label: what it is worth is what the hold of that sum in a sandbox is worth. -/
noncomputable def Try.pinned : Pinned := { name := "ytbanhinbndeboaa", sum := "a6448644fd576494a391240de8514e948cf1c51901237ed1360af88d4f8a4b12", checked := Try.checked }
namespace Rows
def none {H : Type} : Left H := { results := [], args := [] }

/-- 'laws.FnFiredRow': WHATEVER THE INPUT: true; the input reads as it did. -/
def fnFiredRowSpec : ChangeSpec := { name := "fnFiredRow", fn := fun _ => fun
  | [d] => { results := [.lit (.bool true)], args := [d] }
  | _ => none }
def fnFiredRowRow : OpenClaim := { program := "ytbanhinbndeboaa", sum := "a6448644fd576494a391240de8514e948cf1c51901237ed1360af88d4f8a4b12", func := "loop.example/firingnets/laws.FnFiredRow", spec := "fnFiredRow", apart := false }
def FnFiredRowSaid : Prop := fnFiredRowRow.holds Try.pinned (OpenSpec.ofChange fnFiredRowSpec)

/-- ITS FALSE NEIGHBOUR: 'it returns false'. Refute it at one input. -/
def fnFiredRowWrong : ChangeSpec := { name := "fnFiredRow", fn := fun _ => fun
  | [d] => { results := [.lit (.bool false)], args := [d] }
  | _ => none }
def FnFiredRowWrongFalsely : Prop := fnFiredRowRow.holds Try.pinned (OpenSpec.ofChange fnFiredRowWrong)

/-- 'laws.FnArrivalRow': WHATEVER THE INPUT: true; the input reads as it did. -/
def fnArrivalRowSpec : ChangeSpec := { name := "fnArrivalRow", fn := fun _ => fun
  | [d] => { results := [.lit (.bool true)], args := [d] }
  | _ => none }
def fnArrivalRowRow : OpenClaim := { program := "ytbanhinbndeboaa", sum := "a6448644fd576494a391240de8514e948cf1c51901237ed1360af88d4f8a4b12", func := "loop.example/firingnets/laws.FnArrivalRow", spec := "fnArrivalRow", apart := false }
def FnArrivalRowSaid : Prop := fnArrivalRowRow.holds Try.pinned (OpenSpec.ofChange fnArrivalRowSpec)

/-- ITS FALSE NEIGHBOUR: 'it returns false'. Refute it at one input. -/
def fnArrivalRowWrong : ChangeSpec := { name := "fnArrivalRow", fn := fun _ => fun
  | [d] => { results := [.lit (.bool false)], args := [d] }
  | _ => none }
def FnArrivalRowWrongFalsely : Prop := fnArrivalRowRow.holds Try.pinned (OpenSpec.ofChange fnArrivalRowWrong)

/-- 'laws.FnScriptRun': WHATEVER THE INPUT: true; the input reads as it did. -/
def fnScriptRunSpec : ChangeSpec := { name := "fnScriptRun", fn := fun _ => fun
  | [d] => { results := [.lit (.bool true)], args := [d] }
  | _ => none }
def fnScriptRunRow : OpenClaim := { program := "ytbanhinbndeboaa", sum := "a6448644fd576494a391240de8514e948cf1c51901237ed1360af88d4f8a4b12", func := "loop.example/firingnets/laws.FnScriptRun", spec := "fnScriptRun", apart := false }
def FnScriptRunSaid : Prop := fnScriptRunRow.holds Try.pinned (OpenSpec.ofChange fnScriptRunSpec)

/-- ITS FALSE NEIGHBOUR: 'it returns false'. Refute it at one input. -/
def fnScriptRunWrong : ChangeSpec := { name := "fnScriptRun", fn := fun _ => fun
  | [d] => { results := [.lit (.bool false)], args := [d] }
  | _ => none }
def FnScriptRunWrongFalsely : Prop := fnScriptRunRow.holds Try.pinned (OpenSpec.ofChange fnScriptRunWrong)

/-- 'laws.FnScriptFired': WHATEVER THE INPUT: true; the input reads as it did. -/
def fnScriptFiredSpec : ChangeSpec := { name := "fnScriptFired", fn := fun _ => fun
  | [d] => { results := [.lit (.bool true)], args := [d] }
  | _ => none }
def fnScriptFiredRow : OpenClaim := { program := "ytbanhinbndeboaa", sum := "a6448644fd576494a391240de8514e948cf1c51901237ed1360af88d4f8a4b12", func := "loop.example/firingnets/laws.FnScriptFired", spec := "fnScriptFired", apart := false }
def FnScriptFiredSaid : Prop := fnScriptFiredRow.holds Try.pinned (OpenSpec.ofChange fnScriptFiredSpec)

/-- ITS FALSE NEIGHBOUR: 'it returns false'. Refute it at one input. -/
def fnScriptFiredWrong : ChangeSpec := { name := "fnScriptFired", fn := fun _ => fun
  | [d] => { results := [.lit (.bool false)], args := [d] }
  | _ => none }
def FnScriptFiredWrongFalsely : Prop := fnScriptFiredRow.holds Try.pinned (OpenSpec.ofChange fnScriptFiredWrong)

/- THE SECOND FORM. 'bulk': how many values and letters a reading holds, each counted each time it is reached (what is shared counts as often as it is met; a slice's spare places count too). A statement '..UptoSaid' is the law's where the arguments, and the package variables that the reading takes, are together of bulk at most 1048576: NARROWER than '..Said'. Prove '..Said' where nothing that the law and all that it calls make is longer than what came in: it says more and counts as full. Else prove '..UptoSaid'. A law counts once. -/
mutual
def uptoBulk {H : Type} : DataW H → Nat
  | .lit (.string bytes) => bytes.length + 1
  | .lit _ => 1
  | .nil => 1
  | .ptr d => uptoBulk d + 1
  | .slice elems spare => uptoBulkAll elems + uptoBulkAll spare + 1
  | .agg parts => uptoBulkAll parts + 1
  | .iface _ d => uptoBulk d + 1
  | .map entries => uptoBulkEntries entries + 1
  | .held _ => 1
def uptoBulkAll {H : Type} : List (DataW H) → Nat
  | [] => 0
  | d :: r => uptoBulk d + uptoBulkAll r
def uptoBulkEntries {H : Type} : List (Lit × DataW H) → Nat
  | [] => 0
  | x :: r => uptoBulkEntry x + uptoBulkEntries r
def uptoBulkEntry {H : Type} : Lit × DataW H → Nat
  | (.string bytes, d) => bytes.length + uptoBulk d + 1
  | (_, d) => uptoBulk d + 1
 end
def uptoSmall : (H : Type) → List (DataW H) → Bool := fun _ ds => decide (uptoBulkAll ds ≤ 1048576)
def OpenSpec.upto (s : _root_.Go.ChangeSpec) : _root_.Go.OpenSpec := { _root_.Go.OpenSpec.ofChange s with cond := some uptoSmall }

/-- 'laws.FnFiredRow', WHERE WHAT IT READS IS OF BULK AT MOST 1048576: true; the input reads as it did. -/
def fnFiredRowUptoRow : OpenClaim := { program := "ytbanhinbndeboaa", sum := "a6448644fd576494a391240de8514e948cf1c51901237ed1360af88d4f8a4b12", func := "loop.example/firingnets/laws.FnFiredRow", spec := "fnFiredRow", apart := false, narrowed := true }
def FnFiredRowUptoSaid : Prop := fnFiredRowUptoRow.holds Try.pinned (OpenSpec.upto fnFiredRowSpec)

/-- 'laws.FnArrivalRow', WHERE WHAT IT READS IS OF BULK AT MOST 1048576: true; the input reads as it did. -/
def fnArrivalRowUptoRow : OpenClaim := { program := "ytbanhinbndeboaa", sum := "a6448644fd576494a391240de8514e948cf1c51901237ed1360af88d4f8a4b12", func := "loop.example/firingnets/laws.FnArrivalRow", spec := "fnArrivalRow", apart := false, narrowed := true }
def FnArrivalRowUptoSaid : Prop := fnArrivalRowUptoRow.holds Try.pinned (OpenSpec.upto fnArrivalRowSpec)

/-- 'laws.FnScriptRun', WHERE WHAT IT READS IS OF BULK AT MOST 1048576: true; the input reads as it did. -/
def fnScriptRunUptoRow : OpenClaim := { program := "ytbanhinbndeboaa", sum := "a6448644fd576494a391240de8514e948cf1c51901237ed1360af88d4f8a4b12", func := "loop.example/firingnets/laws.FnScriptRun", spec := "fnScriptRun", apart := false, narrowed := true }
def FnScriptRunUptoSaid : Prop := fnScriptRunUptoRow.holds Try.pinned (OpenSpec.upto fnScriptRunSpec)

/-- 'laws.FnScriptFired', WHERE WHAT IT READS IS OF BULK AT MOST 1048576: true; the input reads as it did. -/
def fnScriptFiredUptoRow : OpenClaim := { program := "ytbanhinbndeboaa", sum := "a6448644fd576494a391240de8514e948cf1c51901237ed1360af88d4f8a4b12", func := "loop.example/firingnets/laws.FnScriptFired", spec := "fnScriptFired", apart := false, narrowed := true }
def FnScriptFiredUptoSaid : Prop := fnScriptFiredUptoRow.holds Try.pinned (OpenSpec.upto fnScriptFiredSpec)

end Rows
end Go.Proofs.Ytbanhinbndeboaa
