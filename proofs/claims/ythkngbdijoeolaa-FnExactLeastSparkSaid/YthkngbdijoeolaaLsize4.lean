/- Plain laws on what the functions compute. -/
import Derived.Test.YthkngbdijoeolaaKit
import Derived.Test.YthkngbdijoeolaaLsets
import Derived.Test.YthkngbdijoeolaaF25
set_option linter.unusedVariables false
set_option linter.unusedSimpArgs false
namespace Go.Proofs.Ythkngbdijoeolaa.Pure
open Go Go.RowKit Go.Proofs.Ythkngbdijoeolaa.PAll Go.Proofs.YthkngbdijoeolaaW.PrintWords Go.Proofs.YthkngbdijoeolaaW.PrintLast Go.Proofs.YthkngbdijoeolaaW.PrintMore Go.Proofs.Ythkngbdijoeolaa.Kit
theorem size4_fin : ∀ x : Fin 64, spec_l4Size.f 8 (x.val : Int) = some ((pcn x.val : Nat) : Int) := by decide +kernel
theorem size4 {x : Nat} (h : x < 64) : Ev (fun k => spec_l4Size.f k (x : Int)) ((pcn x : Nat) : Int) := Ev.of (spec_l4Size.mono x) (size4_fin ⟨x, h⟩)
end Go.Proofs.Ythkngbdijoeolaa.Pure
