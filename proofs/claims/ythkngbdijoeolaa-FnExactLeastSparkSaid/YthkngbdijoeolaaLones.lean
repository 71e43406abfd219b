/- Plain laws on what the functions compute. -/
import Derived.Test.YthkngbdijoeolaaKit
import Derived.Test.YthkngbdijoeolaaLsets
import Derived.Test.YthkngbdijoeolaaF30
set_option linter.unusedVariables false
set_option linter.unusedSimpArgs false
namespace Go.Proofs.Ythkngbdijoeolaa.Pure
open Go Go.RowKit Go.Proofs.Ythkngbdijoeolaa.PAll Go.Proofs.YthkngbdijoeolaaW.PrintWords Go.Proofs.YthkngbdijoeolaaW.PrintLast Go.Proofs.YthkngbdijoeolaaW.PrintMore Go.Proofs.Ythkngbdijoeolaa.Kit
/-! ### bits.OnesCount, for small numbers -/
theorem ones_fin : ∀ x : Fin 64, bits_OnesCount.f (IntKind.u64.wrap (x.val : Int)) = some ((pcn x.val : Nat) : Int) := by decide +kernel
theorem ones {x : Nat} (h : x < 64) : bits_OnesCount.f (IntKind.u64.wrap (x : Int)) = some ((pcn x : Nat) : Int) := ones_fin ⟨x, h⟩
end Go.Proofs.Ythkngbdijoeolaa.Pure
