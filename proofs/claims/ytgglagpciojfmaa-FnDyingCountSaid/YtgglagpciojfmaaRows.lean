/-
  No cell of these rows narrows 'for every input' (looked for: loops, veiled, ifaces, maps, wideKeys, modest, calm, conditions, laid).
  DERIVED. THE GIVEN ROWS OF THIS SEAT. 12 by the template 'for every input the law returns true; each argument reads behind the call as it read before'; 0 by the template 'total and deterministic' (their statements: YtgglagpciojfmaaTotals.lean).
  GIVEN WITH THE SEED: the statements are not yours to turn. If you find one false, say at which input.
  Laid BY PROGRAM, IN A SANDBOX (cutbox-rows.mjs): the forced cells as the released guide's own fill.sh prints them over the translation f971b40314786ffa… (all of the seat's roots in one cut). By AI agents, Wed Nov 11 2026. No macro, syntax, notation, axiom, sorry.
-/
import Derived.Test.YtgglagpciojfmaaChecked
import GoSem.Claim
import GoSem.ClaimJoined
import GoSem.ClaimMapViews
import Derived.JoinedTies
import Derived.KernelRfl
namespace Go.Proofs.Ytgglagpciojfmaa
/- THE CELL 'sum', in the pinned program and in every row, IS THE sha256 OF THE DUMP (.gsa) THAT YtgglagpciojfmaaProg.lean LOADS. Nothing in Lean hashes anything: it is a label: what it is worth is what the hold of that sum in a sandbox is worth. -/
noncomputable def Try.pinned : Pinned := { name := "ytgglagpciojfmaa", sum := "f971b40314786ffad9db12c768e7d24d1f08e62233ec646fd591b6d6f3e9d713", checked := Try.checked }
namespace Rows
def none {H : Type} : Left H := { results := [], args := [] }

/-- 'laws.FnExactBeforeCount': WHATEVER THE INPUT: true; the input reads as it did. -/
def fnExactBeforeCountSpec : ChangeSpec := { name := "fnExactBeforeCount", fn := fun _ => fun
  | [d1, d2, d3] => { results := [.lit (.bool true)], args := [d1, d2, d3] }
  | _ => none }
def fnExactBeforeCountRow : OpenClaim := { program := "ytgglagpciojfmaa", sum := "f971b40314786ffad9db12c768e7d24d1f08e62233ec646fd591b6d6f3e9d713", func := "loop.example/firingnets/laws.FnExactBeforeCount", spec := "fnExactBeforeCount", unfollowed := true, recurses := true, apart := false }
def FnExactBeforeCountSaid : Prop := fnExactBeforeCountRow.holds Try.pinned (OpenSpec.ofChange fnExactBeforeCountSpec)

/-- ITS FALSE NEIGHBOUR: 'it returns false'. Refute it at one input. -/
def fnExactBeforeCountWrong : ChangeSpec := { name := "fnExactBeforeCount", fn := fun _ => fun
  | [d1, d2, d3] => { results := [.lit (.bool false)], args := [d1, d2, d3] }
  | _ => none }
def FnExactBeforeCountWrongFalsely : Prop := fnExactBeforeCountRow.holds Try.pinned (OpenSpec.ofChange fnExactBeforeCountWrong)

/-- 'laws.FnExactEdenCount': WHATEVER THE INPUT: true; the input reads as it did. -/
def fnExactEdenCountSpec : ChangeSpec := { name := "fnExactEdenCount", fn := fun _ => fun
  | [d1, d2] => { results := [.lit (.bool true)], args := [d1, d2] }
  | _ => none }
def fnExactEdenCountRow : OpenClaim := { program := "ytgglagpciojfmaa", sum := "f971b40314786ffad9db12c768e7d24d1f08e62233ec646fd591b6d6f3e9d713", func := "loop.example/firingnets/laws.FnExactEdenCount", spec := "fnExactEdenCount", unfollowed := true, recurses := true, apart := false }
def FnExactEdenCountSaid : Prop := fnExactEdenCountRow.holds Try.pinned (OpenSpec.ofChange fnExactEdenCountSpec)

/-- ITS FALSE NEIGHBOUR: 'it returns false'. Refute it at one input. -/
def fnExactEdenCountWrong : ChangeSpec := { name := "fnExactEdenCount", fn := fun _ => fun
  | [d1, d2] => { results := [.lit (.bool false)], args := [d1, d2] }
  | _ => none }
def FnExactEdenCountWrongFalsely : Prop := fnExactEdenCountRow.holds Try.pinned (OpenSpec.ofChange fnExactEdenCountWrong)

/-- 'laws.FnExactFlatCount': WHATEVER THE INPUT: true; the input reads as it did. -/
def fnExactFlatCountSpec : ChangeSpec := { name := "fnExactFlatCount", fn := fun _ => fun
  | [d] => { results := [.lit (.bool true)], args := [d] }
  | _ => none }
def fnExactFlatCountRow : OpenClaim := { program := "ytgglagpciojfmaa", sum := "f971b40314786ffad9db12c768e7d24d1f08e62233ec646fd591b6d6f3e9d713", func := "loop.example/firingnets/laws.FnExactFlatCount", spec := "fnExactFlatCount", unfollowed := true, recurses := true, apart := false }
def FnExactFlatCountSaid : Prop := fnExactFlatCountRow.holds Try.pinned (OpenSpec.ofChange fnExactFlatCountSpec)

/-- ITS FALSE NEIGHBOUR: 'it returns false'. Refute it at one input. -/
def fnExactFlatCountWrong : ChangeSpec := { name := "fnExactFlatCount", fn := fun _ => fun
  | [d] => { results := [.lit (.bool false)], args := [d] }
  | _ => none }
def FnExactFlatCountWrongFalsely : Prop := fnExactFlatCountRow.holds Try.pinned (OpenSpec.ofChange fnExactFlatCountWrong)

/-- 'laws.FnExactLoopCount': WHATEVER THE INPUT: true; the input reads as it did. -/
def fnExactLoopCountSpec : ChangeSpec := { name := "fnExactLoopCount", fn := fun _ => fun
  | [d1, d2] => { results := [.lit (.bool true)], args := [d1, d2] }
  | _ => none }
def fnExactLoopCountRow : OpenClaim := { program := "ytgglagpciojfmaa", sum := "f971b40314786ffad9db12c768e7d24d1f08e62233ec646fd591b6d6f3e9d713", func := "loop.example/firingnets/laws.FnExactLoopCount", spec := "fnExactLoopCount", unfollowed := true, recurses := true, apart := false }
def FnExactLoopCountSaid : Prop := fnExactLoopCountRow.holds Try.pinned (OpenSpec.ofChange fnExactLoopCountSpec)

/-- ITS FALSE NEIGHBOUR: 'it returns false'. Refute it at one input. -/
def fnExactLoopCountWrong : ChangeSpec := { name := "fnExactLoopCount", fn := fun _ => fun
  | [d1, d2] => { results := [.lit (.bool false)], args := [d1, d2] }
  | _ => none }
def FnExactLoopCountWrongFalsely : Prop := fnExactLoopCountRow.holds Try.pinned (OpenSpec.ofChange fnExactLoopCountWrong)

/-- 'laws.FnExactDyingCount': WHATEVER THE INPUT: true; the input reads as it did. -/
def fnExactDyingCountSpec : ChangeSpec := { name := "fnExactDyingCount", fn := fun _ => fun
  | [d1, d2] => { results := [.lit (.bool true)], args := [d1, d2] }
  | _ => none }
def fnExactDyingCountRow : OpenClaim := { program := "ytgglagpciojfmaa", sum := "f971b40314786ffad9db12c768e7d24d1f08e62233ec646fd591b6d6f3e9d713", func := "loop.example/firingnets/laws.FnExactDyingCount", spec := "fnExactDyingCount", unfollowed := true, recurses := true, apart := false }
def FnExactDyingCountSaid : Prop := fnExactDyingCountRow.holds Try.pinned (OpenSpec.ofChange fnExactDyingCountSpec)

/-- ITS FALSE NEIGHBOUR: 'it returns false'. Refute it at one input. -/
def fnExactDyingCountWrong : ChangeSpec := { name := "fnExactDyingCount", fn := fun _ => fun
  | [d1, d2] => { results := [.lit (.bool false)], args := [d1, d2] }
  | _ => none }
def FnExactDyingCountWrongFalsely : Prop := fnExactDyingCountRow.holds Try.pinned (OpenSpec.ofChange fnExactDyingCountWrong)

/-- 'laws.FnNoneBefore': WHATEVER THE INPUT: true; the input reads as it did. -/
def fnNoneBeforeSpec : ChangeSpec := { name := "fnNoneBefore", fn := fun _ => fun
  | [d] => { results := [.lit (.bool true)], args := [d] }
  | _ => none }
def fnNoneBeforeRow : OpenClaim := { program := "ytgglagpciojfmaa", sum := "f971b40314786ffad9db12c768e7d24d1f08e62233ec646fd591b6d6f3e9d713", func := "loop.example/firingnets/laws.FnNoneBefore", spec := "fnNoneBefore", unfollowed := true, recurses := true, apart := false }
def FnNoneBeforeSaid : Prop := fnNoneBeforeRow.holds Try.pinned (OpenSpec.ofChange fnNoneBeforeSpec)

/-- ITS FALSE NEIGHBOUR: 'it returns false'. Refute it at one input. -/
def fnNoneBeforeWrong : ChangeSpec := { name := "fnNoneBefore", fn := fun _ => fun
  | [d] => { results := [.lit (.bool false)], args := [d] }
  | _ => none }
def FnNoneBeforeWrongFalsely : Prop := fnNoneBeforeRow.holds Try.pinned (OpenSpec.ofChange fnNoneBeforeWrong)

/-- 'laws.FnEdenCount': WHATEVER THE INPUT: true; the input reads as it did. -/
def fnEdenCountSpec : ChangeSpec := { name := "fnEdenCount", fn := fun _ => fun
  | [d] => { results := [.lit (.bool true)], args := [d] }
  | _ => none }
def fnEdenCountRow : OpenClaim := { program := "ytgglagpciojfmaa", sum := "f971b40314786ffad9db12c768e7d24d1f08e62233ec646fd591b6d6f3e9d713", func := "loop.example/firingnets/laws.FnEdenCount", spec := "fnEdenCount", unfollowed := true, recurses := true, apart := false }
def FnEdenCountSaid : Prop := fnEdenCountRow.holds Try.pinned (OpenSpec.ofChange fnEdenCountSpec)

/-- ITS FALSE NEIGHBOUR: 'it returns false'. Refute it at one input. -/
def fnEdenCountWrong : ChangeSpec := { name := "fnEdenCount", fn := fun _ => fun
  | [d] => { results := [.lit (.bool false)], args := [d] }
  | _ => none }
def FnEdenCountWrongFalsely : Prop := fnEdenCountRow.holds Try.pinned (OpenSpec.ofChange fnEdenCountWrong)

/-- 'laws.FnBeforeCount': WHATEVER THE INPUT: true; the input reads as it did. -/
def fnBeforeCountSpec : ChangeSpec := { name := "fnBeforeCount", fn := fun _ => fun
  | [d] => { results := [.lit (.bool true)], args := [d] }
  | _ => none }
def fnBeforeCountRow : OpenClaim := { program := "ytgglagpciojfmaa", sum := "f971b40314786ffad9db12c768e7d24d1f08e62233ec646fd591b6d6f3e9d713", func := "loop.example/firingnets/laws.FnBeforeCount", spec := "fnBeforeCount", unfollowed := true, recurses := true, apart := false }
def FnBeforeCountSaid : Prop := fnBeforeCountRow.holds Try.pinned (OpenSpec.ofChange fnBeforeCountSpec)

/-- ITS FALSE NEIGHBOUR: 'it returns false'. Refute it at one input. -/
def fnBeforeCountWrong : ChangeSpec := { name := "fnBeforeCount", fn := fun _ => fun
  | [d] => { results := [.lit (.bool false)], args := [d] }
  | _ => none }
def FnBeforeCountWrongFalsely : Prop := fnBeforeCountRow.holds Try.pinned (OpenSpec.ofChange fnBeforeCountWrong)

/-- 'laws.FnFlatCount': WHATEVER THE INPUT: true; the input reads as it did. -/
def fnFlatCountSpec : ChangeSpec := { name := "fnFlatCount", fn := fun _ => fun
  | [d] => { results := [.lit (.bool true)], args := [d] }
  | _ => none }
def fnFlatCountRow : OpenClaim := { program := "ytgglagpciojfmaa", sum := "f971b40314786ffad9db12c768e7d24d1f08e62233ec646fd591b6d6f3e9d713", func := "loop.example/firingnets/laws.FnFlatCount", spec := "fnFlatCount", unfollowed := true, recurses := true, apart := false }
def FnFlatCountSaid : Prop := fnFlatCountRow.holds Try.pinned (OpenSpec.ofChange fnFlatCountSpec)

/-- ITS FALSE NEIGHBOUR: 'it returns false'. Refute it at one input. -/
def fnFlatCountWrong : ChangeSpec := { name := "fnFlatCount", fn := fun _ => fun
  | [d] => { results := [.lit (.bool false)], args := [d] }
  | _ => none }
def FnFlatCountWrongFalsely : Prop := fnFlatCountRow.holds Try.pinned (OpenSpec.ofChange fnFlatCountWrong)

/-- 'laws.FnLoopCount': WHATEVER THE INPUT: true; the input reads as it did. -/
def fnLoopCountSpec : ChangeSpec := { name := "fnLoopCount", fn := fun _ => fun
  | [d] => { results := [.lit (.bool true)], args := [d] }
  | _ => none }
def fnLoopCountRow : OpenClaim := { program := "ytgglagpciojfmaa", sum := "f971b40314786ffad9db12c768e7d24d1f08e62233ec646fd591b6d6f3e9d713", func := "loop.example/firingnets/laws.FnLoopCount", spec := "fnLoopCount", unfollowed := true, recurses := true, apart := false }
def FnLoopCountSaid : Prop := fnLoopCountRow.holds Try.pinned (OpenSpec.ofChange fnLoopCountSpec)

/-- ITS FALSE NEIGHBOUR: 'it returns false'. Refute it at one input. -/
def fnLoopCountWrong : ChangeSpec := { name := "fnLoopCount", fn := fun _ => fun
  | [d] => { results := [.lit (.bool false)], args := [d] }
  | _ => none }
def FnLoopCountWrongFalsely : Prop := fnLoopCountRow.holds Try.pinned (OpenSpec.ofChange fnLoopCountWrong)

/-- 'laws.FnDyingCount': WHATEVER THE INPUT: true; the input reads as it did. -/
def fnDyingCountSpec : ChangeSpec := { name := "fnDyingCount", fn := fun _ => fun
  | [d] => { results := [.lit (.bool true)], args := [d] }
  | _ => none }
def fnDyingCountRow : OpenClaim := { program := "ytgglagpciojfmaa", sum := "f971b40314786ffad9db12c768e7d24d1f08e62233ec646fd591b6d6f3e9d713", func := "loop.example/firingnets/laws.FnDyingCount", spec := "fnDyingCount", unfollowed := true, recurses := true, apart := false }
def FnDyingCountSaid : Prop := fnDyingCountRow.holds Try.pinned (OpenSpec.ofChange fnDyingCountSpec)

/-- ITS FALSE NEIGHBOUR: 'it returns false'. Refute it at one input. -/
def fnDyingCountWrong : ChangeSpec := { name := "fnDyingCount", fn := fun _ => fun
  | [d] => { results := [.lit (.bool false)], args := [d] }
  | _ => none }
def FnDyingCountWrongFalsely : Prop := fnDyingCountRow.holds Try.pinned (OpenSpec.ofChange fnDyingCountWrong)

/-- 'laws.FnRingWinding': WHATEVER THE INPUT: true; the input reads as it did. -/
def fnRingWindingSpec : ChangeSpec := { name := "fnRingWinding", fn := fun _ => fun
  | [d] => { results := [.lit (.bool true)], args := [d] }
  | _ => none }
def fnRingWindingRow : OpenClaim := { program := "ytgglagpciojfmaa", sum := "f971b40314786ffad9db12c768e7d24d1f08e62233ec646fd591b6d6f3e9d713", func := "loop.example/firingnets/laws.FnRingWinding", spec := "fnRingWinding", apart := false }
def FnRingWindingSaid : Prop := fnRingWindingRow.holds Try.pinned (OpenSpec.ofChange fnRingWindingSpec)

/-- ITS FALSE NEIGHBOUR: 'it returns false'. Refute it at one input. -/
def fnRingWindingWrong : ChangeSpec := { name := "fnRingWinding", fn := fun _ => fun
  | [d] => { results := [.lit (.bool false)], args := [d] }
  | _ => none }
def FnRingWindingWrongFalsely : Prop := fnRingWindingRow.holds Try.pinned (OpenSpec.ofChange fnRingWindingWrong)

/- THE SECOND FORM. 'bulk': how many values and letters a reading holds, each counted each time it is reached (what is shared counts as often as it is met; a slice's spare places count too). A statement '..UptoSaid' is the law's where the arguments, and the package variables that the reading takes, are together of bulk at most 1048576: NARROWER than '..Said'. Prove '..Said' where nothing that the law and all that it calls make is longer than what came in: it says more and counts as full. Else prove '..UptoSaid'. A law counts once. -/
mutual
def uptoBulk {H : Type} : DataW H → Nat
  | .lit (.string bytes) => bytes.length + 1
  | .lit _ => 1
  | .nil => 1
  | .ptr d => uptoBulk d + 1
  | .slice elems spare => uptoBulkAll elems + uptoBulkAll spare + 1
  | .agg parts => uptoBulkAll parts + 1
  | .iface _ d => uptoBulk d + 1
  | .map entries => uptoBulkEntries entries + 1
  | .held _ => 1
def uptoBulkAll {H : Type} : List (DataW H) → Nat
  | [] => 0
  | d :: r => uptoBulk d + uptoBulkAll r
def uptoBulkEntries {H : Type} : List (Lit × DataW H) → Nat
  | [] => 0
  | x :: r => uptoBulkEntry x + uptoBulkEntries r
def uptoBulkEntry {H : Type} : Lit × DataW H → Nat
  | (.string bytes, d) => bytes.length + uptoBulk d + 1
  | (_, d) => uptoBulk d + 1
 end
def uptoSmall : (H : Type) → List (DataW H) → Bool := fun _ ds => decide (uptoBulkAll ds ≤ 1048576)
def OpenSpec.upto (s : _root_.Go.ChangeSpec) : _root_.Go.OpenSpec := { _root_.Go.OpenSpec.ofChange s with cond := some uptoSmall }

/-- 'laws.FnExactBeforeCount', WHERE WHAT IT READS IS OF BULK AT MOST 1048576: true; the input reads as it did. -/
def fnExactBeforeCountUptoRow : OpenClaim := { program := "ytgglagpciojfmaa", sum := "f971b40314786ffad9db12c768e7d24d1f08e62233ec646fd591b6d6f3e9d713", func := "loop.example/firingnets/laws.FnExactBeforeCount", spec := "fnExactBeforeCount", unfollowed := true, recurses := true, apart := false, narrowed := true }
def FnExactBeforeCountUptoSaid : Prop := fnExactBeforeCountUptoRow.holds Try.pinned (OpenSpec.upto fnExactBeforeCountSpec)

/-- 'laws.FnExactEdenCount', WHERE WHAT IT READS IS OF BULK AT MOST 1048576: true; the input reads as it did. -/
def fnExactEdenCountUptoRow : OpenClaim := { program := "ytgglagpciojfmaa", sum := "f971b40314786ffad9db12c768e7d24d1f08e62233ec646fd591b6d6f3e9d713", func := "loop.example/firingnets/laws.FnExactEdenCount", spec := "fnExactEdenCount", unfollowed := true, recurses := true, apart := false, narrowed := true }
def FnExactEdenCountUptoSaid : Prop := fnExactEdenCountUptoRow.holds Try.pinned (OpenSpec.upto fnExactEdenCountSpec)

/-- 'laws.FnExactFlatCount', WHERE WHAT IT READS IS OF BULK AT MOST 1048576: true; the input reads as it did. -/
def fnExactFlatCountUptoRow : OpenClaim := { program := "ytgglagpciojfmaa", sum := "f971b40314786ffad9db12c768e7d24d1f08e62233ec646fd591b6d6f3e9d713", func := "loop.example/firingnets/laws.FnExactFlatCount", spec := "fnExactFlatCount", unfollowed := true, recurses := true, apart := false, narrowed := true }
def FnExactFlatCountUptoSaid : Prop := fnExactFlatCountUptoRow.holds Try.pinned (OpenSpec.upto fnExactFlatCountSpec)

/-- 'laws.FnExactLoopCount', WHERE WHAT IT READS IS OF BULK AT MOST 1048576: true; the input reads as it did. -/
def fnExactLoopCountUptoRow : OpenClaim := { program := "ytgglagpciojfmaa", sum := "f971b40314786ffad9db12c768e7d24d1f08e62233ec646fd591b6d6f3e9d713", func := "loop.example/firingnets/laws.FnExactLoopCount", spec := "fnExactLoopCount", unfollowed := true, recurses := true, apart := false, narrowed := true }
def FnExactLoopCountUptoSaid : Prop := fnExactLoopCountUptoRow.holds Try.pinned (OpenSpec.upto fnExactLoopCountSpec)

/-- 'laws.FnExactDyingCount', WHERE WHAT IT READS IS OF BULK AT MOST 1048576: true; the input reads as it did. -/
def fnExactDyingCountUptoRow : OpenClaim := { program := "ytgglagpciojfmaa", sum := "f971b40314786ffad9db12c768e7d24d1f08e62233ec646fd591b6d6f3e9d713", func := "loop.example/firingnets/laws.FnExactDyingCount", spec := "fnExactDyingCount", unfollowed := true, recurses := true, apart := false, narrowed := true }
def FnExactDyingCountUptoSaid : Prop := fnExactDyingCountUptoRow.holds Try.pinned (OpenSpec.upto fnExactDyingCountSpec)

/-- 'laws.FnNoneBefore', WHERE WHAT IT READS IS OF BULK AT MOST 1048576: true; the input reads as it did. -/
def fnNoneBeforeUptoRow : OpenClaim := { program := "ytgglagpciojfmaa", sum := "f971b40314786ffad9db12c768e7d24d1f08e62233ec646fd591b6d6f3e9d713", func := "loop.example/firingnets/laws.FnNoneBefore", spec := "fnNoneBefore", unfollowed := true, recurses := true, apart := false, narrowed := true }
def FnNoneBeforeUptoSaid : Prop := fnNoneBeforeUptoRow.holds Try.pinned (OpenSpec.upto fnNoneBeforeSpec)

/-- 'laws.FnEdenCount', WHERE WHAT IT READS IS OF BULK AT MOST 1048576: true; the input reads as it did. -/
def fnEdenCountUptoRow : OpenClaim := { program := "ytgglagpciojfmaa", sum := "f971b40314786ffad9db12c768e7d24d1f08e62233ec646fd591b6d6f3e9d713", func := "loop.example/firingnets/laws.FnEdenCount", spec := "fnEdenCount", unfollowed := true, recurses := true, apart := false, narrowed := true }
def FnEdenCountUptoSaid : Prop := fnEdenCountUptoRow.holds Try.pinned (OpenSpec.upto fnEdenCountSpec)

/-- 'laws.FnBeforeCount', WHERE WHAT IT READS IS OF BULK AT MOST 1048576: true; the input reads as it did. -/
def fnBeforeCountUptoRow : OpenClaim := { program := "ytgglagpciojfmaa", sum := "f971b40314786ffad9db12c768e7d24d1f08e62233ec646fd591b6d6f3e9d713", func := "loop.example/firingnets/laws.FnBeforeCount", spec := "fnBeforeCount", unfollowed := true, recurses := true, apart := false, narrowed := true }
def FnBeforeCountUptoSaid : Prop := fnBeforeCountUptoRow.holds Try.pinned (OpenSpec.upto fnBeforeCountSpec)

/-- 'laws.FnFlatCount', WHERE WHAT IT READS IS OF BULK AT MOST 1048576: true; the input reads as it did. -/
def fnFlatCountUptoRow : OpenClaim := { program := "ytgglagpciojfmaa", sum := "f971b40314786ffad9db12c768e7d24d1f08e62233ec646fd591b6d6f3e9d713", func := "loop.example/firingnets/laws.FnFlatCount", spec := "fnFlatCount", unfollowed := true, recurses := true, apart := false, narrowed := true }
def FnFlatCountUptoSaid : Prop := fnFlatCountUptoRow.holds Try.pinned (OpenSpec.upto fnFlatCountSpec)

/-- 'laws.FnLoopCount', WHERE WHAT IT READS IS OF BULK AT MOST 1048576: true; the input reads as it did. -/
def fnLoopCountUptoRow : OpenClaim := { program := "ytgglagpciojfmaa", sum := "f971b40314786ffad9db12c768e7d24d1f08e62233ec646fd591b6d6f3e9d713", func := "loop.example/firingnets/laws.FnLoopCount", spec := "fnLoopCount", unfollowed := true, recurses := true, apart := false, narrowed := true }
def FnLoopCountUptoSaid : Prop := fnLoopCountUptoRow.holds Try.pinned (OpenSpec.upto fnLoopCountSpec)

/-- 'laws.FnDyingCount', WHERE WHAT IT READS IS OF BULK AT MOST 1048576: true; the input reads as it did. -/
def fnDyingCountUptoRow : OpenClaim := { program := "ytgglagpciojfmaa", sum := "f971b40314786ffad9db12c768e7d24d1f08e62233ec646fd591b6d6f3e9d713", func := "loop.example/firingnets/laws.FnDyingCount", spec := "fnDyingCount", unfollowed := true, recurses := true, apart := false, narrowed := true }
def FnDyingCountUptoSaid : Prop := fnDyingCountUptoRow.holds Try.pinned (OpenSpec.upto fnDyingCountSpec)

/-- 'laws.FnRingWinding', WHERE WHAT IT READS IS OF BULK AT MOST 1048576: true; the input reads as it did. -/
def fnRingWindingUptoRow : OpenClaim := { program := "ytgglagpciojfmaa", sum := "f971b40314786ffad9db12c768e7d24d1f08e62233ec646fd591b6d6f3e9d713", func := "loop.example/firingnets/laws.FnRingWinding", spec := "fnRingWinding", apart := false, narrowed := true }
def FnRingWindingUptoSaid : Prop := fnRingWindingUptoRow.holds Try.pinned (OpenSpec.upto fnRingWindingSpec)

end Rows
end Go.Proofs.Ytgglagpciojfmaa
