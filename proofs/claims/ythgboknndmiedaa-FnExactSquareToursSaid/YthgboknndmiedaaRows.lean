/-
  No cell of these rows narrows 'for every input' (looked for: loops, veiled, ifaces, maps, wideKeys, modest, calm, conditions, laid).
  DERIVED. THE GIVEN ROWS OF THIS SEAT. 6 by the template 'for every input the law returns true; each argument reads behind the call as it read before'; 0 by the template 'total and deterministic' (their statements: YthgboknndmiedaaTotals.lean).
  GIVEN WITH THE SEED: the statements are not yours to turn. If you find one false, say at which input.
  Laid BY PROGRAM, IN A SANDBOX (cutbox-rows.mjs): the forced cells as the released guide's own fill.sh prints them over the translation 0394010b05d8fb35… (all of the seat's roots in one cut). By AI agents, Wed Nov 11 2026. No macro, syntax, notation, axiom, sorry.
-/
import Derived.Test.YthgboknndmiedaaChecked
import GoSem.Claim
import GoSem.ClaimJoined
import GoSem.ClaimMapViews
import Derived.JoinedTies
import Derived.KernelRfl
namespace Go.Proofs.Ythgboknndmiedaa
/- THE CELL 'sum', in the pinned program and in every row, IS THE sha256 OF THE DUMP (.gsa) THAT YthgboknndmiedaaProg.lean LOADS. Nothing in Lean hashes anything: it is a label: what it is worth is what the hold of that sum in a sandbox is worth. -/
noncomputable def Try.pinned : Pinned := { name := "ythgboknndmiedaa", sum := "0394010b05d8fb35477bdf3f3ee788730fe94794b4b483b46a061a1cccd8298d", checked := Try.checked }
namespace Rows
def none {H : Type} : Left H := { results := [], args := [] }

/-- 'laws.FnExactScriptOk': WHATEVER THE INPUT: true; the input reads as it did. -/
def fnExactScriptOkSpec : ChangeSpec := { name := "fnExactScriptOk", fn := fun _ => fun
  | [d1, d2] => { results := [.lit (.bool true)], args := [d1, d2] }
  | _ => none }
def fnExactScriptOkRow : OpenClaim := { program := "ythgboknndmiedaa", sum := "0394010b05d8fb35477bdf3f3ee788730fe94794b4b483b46a061a1cccd8298d", func := "loop.example/firingnets/laws.FnExactScriptOk", spec := "fnExactScriptOk", apart := false }
def FnExactScriptOkSaid : Prop := fnExactScriptOkRow.holds Try.pinned (OpenSpec.ofChange fnExactScriptOkSpec)

/-- ITS FALSE NEIGHBOUR: 'it returns false'. Refute it at one input. -/
def fnExactScriptOkWrong : ChangeSpec := { name := "fnExactScriptOk", fn := fun _ => fun
  | [d1, d2] => { results := [.lit (.bool false)], args := [d1, d2] }
  | _ => none }
def FnExactScriptOkWrongFalsely : Prop := fnExactScriptOkRow.holds Try.pinned (OpenSpec.ofChange fnExactScriptOkWrong)

/-- 'laws.FnExactPulseScript': WHATEVER THE INPUT: true; the input reads as it did. -/
def fnExactPulseScriptSpec : ChangeSpec := { name := "fnExactPulseScript", fn := fun _ => fun
  | [d1, d2, d3] => { results := [.lit (.bool true)], args := [d1, d2, d3] }
  | _ => none }
def fnExactPulseScriptRow : OpenClaim := { program := "ythgboknndmiedaa", sum := "0394010b05d8fb35477bdf3f3ee788730fe94794b4b483b46a061a1cccd8298d", func := "loop.example/firingnets/laws.FnExactPulseScript", spec := "fnExactPulseScript", apart := false }
def FnExactPulseScriptSaid : Prop := fnExactPulseScriptRow.holds Try.pinned (OpenSpec.ofChange fnExactPulseScriptSpec)

/-- ITS FALSE NEIGHBOUR: 'it returns false'. Refute it at one input. -/
def fnExactPulseScriptWrong : ChangeSpec := { name := "fnExactPulseScript", fn := fun _ => fun
  | [d1, d2, d3] => { results := [.lit (.bool false)], args := [d1, d2, d3] }
  | _ => none }
def FnExactPulseScriptWrongFalsely : Prop := fnExactPulseScriptRow.holds Try.pinned (OpenSpec.ofChange fnExactPulseScriptWrong)

/-- 'laws.FnExactNeedsOk': WHATEVER THE INPUT: true; the input reads as it did. -/
def fnExactNeedsOkSpec : ChangeSpec := { name := "fnExactNeedsOk", fn := fun _ => fun
  | [d1, d2] => { results := [.lit (.bool true)], args := [d1, d2] }
  | _ => none }
def fnExactNeedsOkRow : OpenClaim := { program := "ythgboknndmiedaa", sum := "0394010b05d8fb35477bdf3f3ee788730fe94794b4b483b46a061a1cccd8298d", func := "loop.example/firingnets/laws.FnExactNeedsOk", spec := "fnExactNeedsOk", apart := false }
def FnExactNeedsOkSaid : Prop := fnExactNeedsOkRow.holds Try.pinned (OpenSpec.ofChange fnExactNeedsOkSpec)

/-- ITS FALSE NEIGHBOUR: 'it returns false'. Refute it at one input. -/
def fnExactNeedsOkWrong : ChangeSpec := { name := "fnExactNeedsOk", fn := fun _ => fun
  | [d1, d2] => { results := [.lit (.bool false)], args := [d1, d2] }
  | _ => none }
def FnExactNeedsOkWrongFalsely : Prop := fnExactNeedsOkRow.holds Try.pinned (OpenSpec.ofChange fnExactNeedsOkWrong)

/-- 'laws.FnExactBorderTour': WHATEVER THE INPUT: true; the input reads as it did. -/
def fnExactBorderTourSpec : ChangeSpec := { name := "fnExactBorderTour", fn := fun _ => fun
  | [d1, d2] => { results := [.lit (.bool true)], args := [d1, d2] }
  | _ => none }
def fnExactBorderTourRow : OpenClaim := { program := "ythgboknndmiedaa", sum := "0394010b05d8fb35477bdf3f3ee788730fe94794b4b483b46a061a1cccd8298d", func := "loop.example/firingnets/laws.FnExactBorderTour", spec := "fnExactBorderTour", apart := false }
def FnExactBorderTourSaid : Prop := fnExactBorderTourRow.holds Try.pinned (OpenSpec.ofChange fnExactBorderTourSpec)

/-- ITS FALSE NEIGHBOUR: 'it returns false'. Refute it at one input. -/
def fnExactBorderTourWrong : ChangeSpec := { name := "fnExactBorderTour", fn := fun _ => fun
  | [d1, d2] => { results := [.lit (.bool false)], args := [d1, d2] }
  | _ => none }
def FnExactBorderTourWrongFalsely : Prop := fnExactBorderTourRow.holds Try.pinned (OpenSpec.ofChange fnExactBorderTourWrong)

/-- 'laws.FnExactGridNet': WHATEVER THE INPUT: true; the input reads as it did. -/
def fnExactGridNetSpec : ChangeSpec := { name := "fnExactGridNet", fn := fun _ => fun
  | [d1, d2] => { results := [.lit (.bool true)], args := [d1, d2] }
  | _ => none }
def fnExactGridNetRow : OpenClaim := { program := "ythgboknndmiedaa", sum := "0394010b05d8fb35477bdf3f3ee788730fe94794b4b483b46a061a1cccd8298d", func := "loop.example/firingnets/laws.FnExactGridNet", spec := "fnExactGridNet", unfollowed := true, recurses := true, apart := false }
def FnExactGridNetSaid : Prop := fnExactGridNetRow.holds Try.pinned (OpenSpec.ofChange fnExactGridNetSpec)

/-- ITS FALSE NEIGHBOUR: 'it returns false'. Refute it at one input. -/
def fnExactGridNetWrong : ChangeSpec := { name := "fnExactGridNet", fn := fun _ => fun
  | [d1, d2] => { results := [.lit (.bool false)], args := [d1, d2] }
  | _ => none }
def FnExactGridNetWrongFalsely : Prop := fnExactGridNetRow.holds Try.pinned (OpenSpec.ofChange fnExactGridNetWrong)

/-- 'laws.FnExactSquareTours': WHATEVER THE INPUT: true; the input reads as it did. -/
def fnExactSquareToursSpec : ChangeSpec := { name := "fnExactSquareTours", fn := fun _ => fun
  | [d1, d2] => { results := [.lit (.bool true)], args := [d1, d2] }
  | _ => none }
def fnExactSquareToursRow : OpenClaim := { program := "ythgboknndmiedaa", sum := "0394010b05d8fb35477bdf3f3ee788730fe94794b4b483b46a061a1cccd8298d", func := "loop.example/firingnets/laws.FnExactSquareTours", spec := "fnExactSquareTours", apart := false }
def FnExactSquareToursSaid : Prop := fnExactSquareToursRow.holds Try.pinned (OpenSpec.ofChange fnExactSquareToursSpec)

/-- ITS FALSE NEIGHBOUR: 'it returns false'. Refute it at one input. -/
def fnExactSquareToursWrong : ChangeSpec := { name := "fnExactSquareTours", fn := fun _ => fun
  | [d1, d2] => { results := [.lit (.bool false)], args := [d1, d2] }
  | _ => none }
def FnExactSquareToursWrongFalsely : Prop := fnExactSquareToursRow.holds Try.pinned (OpenSpec.ofChange fnExactSquareToursWrong)

/- THE SECOND FORM. 'bulk': how many values and letters a reading holds, each counted each time it is reached (what is shared counts as often as it is met; a slice's spare places count too). A statement '..UptoSaid' is the law's where the arguments, and the package variables that the reading takes, are together of bulk at most 1048576: NARROWER than '..Said'. Prove '..Said' where nothing that the law and all that it calls make is longer than what came in: it says more and counts as full. Else prove '..UptoSaid'. A law counts once. -/
mutual
def uptoBulk {H : Type} : DataW H → Nat
  | .lit (.string bytes) => bytes.length + 1
  | .lit _ => 1
  | .nil => 1
  | .ptr d => uptoBulk d + 1
  | .slice elems spare => uptoBulkAll elems + uptoBulkAll spare + 1
  | .agg parts => uptoBulkAll parts + 1
  | .iface _ d => uptoBulk d + 1
  | .map entries => uptoBulkEntries entries + 1
  | .held _ => 1
def uptoBulkAll {H : Type} : List (DataW H) → Nat
  | [] => 0
  | d :: r => uptoBulk d + uptoBulkAll r
def uptoBulkEntries {H : Type} : List (Lit × DataW H) → Nat
  | [] => 0
  | x :: r => uptoBulkEntry x + uptoBulkEntries r
def uptoBulkEntry {H : Type} : Lit × DataW H → Nat
  | (.string bytes, d) => bytes.length + uptoBulk d + 1
  | (_, d) => uptoBulk d + 1
 end
def uptoSmall : (H : Type) → List (DataW H) → Bool := fun _ ds => decide (uptoBulkAll ds ≤ 1048576)
def OpenSpec.upto (s : _root_.Go.ChangeSpec) : _root_.Go.OpenSpec := { _root_.Go.OpenSpec.ofChange s with cond := some uptoSmall }

/-- 'laws.FnExactScriptOk', WHERE WHAT IT READS IS OF BULK AT MOST 1048576: true; the input reads as it did. -/
def fnExactScriptOkUptoRow : OpenClaim := { program := "ythgboknndmiedaa", sum := "0394010b05d8fb35477bdf3f3ee788730fe94794b4b483b46a061a1cccd8298d", func := "loop.example/firingnets/laws.FnExactScriptOk", spec := "fnExactScriptOk", apart := false, narrowed := true }
def FnExactScriptOkUptoSaid : Prop := fnExactScriptOkUptoRow.holds Try.pinned (OpenSpec.upto fnExactScriptOkSpec)

/-- 'laws.FnExactPulseScript', WHERE WHAT IT READS IS OF BULK AT MOST 1048576: true; the input reads as it did. -/
def fnExactPulseScriptUptoRow : OpenClaim := { program := "ythgboknndmiedaa", sum := "0394010b05d8fb35477bdf3f3ee788730fe94794b4b483b46a061a1cccd8298d", func := "loop.example/firingnets/laws.FnExactPulseScript", spec := "fnExactPulseScript", apart := false, narrowed := true }
def FnExactPulseScriptUptoSaid : Prop := fnExactPulseScriptUptoRow.holds Try.pinned (OpenSpec.upto fnExactPulseScriptSpec)

/-- 'laws.FnExactNeedsOk', WHERE WHAT IT READS IS OF BULK AT MOST 1048576: true; the input reads as it did. -/
def fnExactNeedsOkUptoRow : OpenClaim := { program := "ythgboknndmiedaa", sum := "0394010b05d8fb35477bdf3f3ee788730fe94794b4b483b46a061a1cccd8298d", func := "loop.example/firingnets/laws.FnExactNeedsOk", spec := "fnExactNeedsOk", apart := false, narrowed := true }
def FnExactNeedsOkUptoSaid : Prop := fnExactNeedsOkUptoRow.holds Try.pinned (OpenSpec.upto fnExactNeedsOkSpec)

/-- 'laws.FnExactBorderTour', WHERE WHAT IT READS IS OF BULK AT MOST 1048576: true; the input reads as it did. -/
def fnExactBorderTourUptoRow : OpenClaim := { program := "ythgboknndmiedaa", sum := "0394010b05d8fb35477bdf3f3ee788730fe94794b4b483b46a061a1cccd8298d", func := "loop.example/firingnets/laws.FnExactBorderTour", spec := "fnExactBorderTour", apart := false, narrowed := true }
def FnExactBorderTourUptoSaid : Prop := fnExactBorderTourUptoRow.holds Try.pinned (OpenSpec.upto fnExactBorderTourSpec)

/-- 'laws.FnExactGridNet', WHERE WHAT IT READS IS OF BULK AT MOST 1048576: true; the input reads as it did. -/
def fnExactGridNetUptoRow : OpenClaim := { program := "ythgboknndmiedaa", sum := "0394010b05d8fb35477bdf3f3ee788730fe94794b4b483b46a061a1cccd8298d", func := "loop.example/firingnets/laws.FnExactGridNet", spec := "fnExactGridNet", unfollowed := true, recurses := true, apart := false, narrowed := true }
def FnExactGridNetUptoSaid : Prop := fnExactGridNetUptoRow.holds Try.pinned (OpenSpec.upto fnExactGridNetSpec)

/-- 'laws.FnExactSquareTours', WHERE WHAT IT READS IS OF BULK AT MOST 1048576: true; the input reads as it did. -/
def fnExactSquareToursUptoRow : OpenClaim := { program := "ythgboknndmiedaa", sum := "0394010b05d8fb35477bdf3f3ee788730fe94794b4b483b46a061a1cccd8298d", func := "loop.example/firingnets/laws.FnExactSquareTours", spec := "fnExactSquareTours", apart := false, narrowed := true }
def FnExactSquareToursUptoSaid : Prop := fnExactSquareToursUptoRow.holds Try.pinned (OpenSpec.upto fnExactSquareToursSpec)

end Rows
end Go.Proofs.Ythgboknndmiedaa
