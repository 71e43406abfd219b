/- Plain laws on what the functions compute. -/
import Derived.Test.YthkngbdijoeolaaKit
import Derived.Test.YthkngbdijoeolaaLspark
import Derived.Test.YthkngbdijoeolaaLints
import Derived.Test.YthkngbdijoeolaaFFnExactLeastSpark
set_option linter.unusedVariables false
set_option linter.unusedSimpArgs false
namespace Go.Proofs.Ythkngbdijoeolaa.Pure
open Go Go.RowKit Go.Proofs.Ythkngbdijoeolaa.PAll Go.Proofs.YthkngbdijoeolaaW.PrintWords Go.Proofs.YthkngbdijoeolaaW.PrintLast Go.Proofs.YthkngbdijoeolaaW.PrintMore Go.Proofs.Ythkngbdijoeolaa.Kit
theorem FnExactLeastSpark : laws_FnExactLeastSpark.Pure := by
  intro l0 l1 _ _ _ _ _ _
  refine Ev.rounds (g := fun k => laws_FnExactLeastSpark.f k l0 l1) ?_
  unfold laws_FnExactLeastSpark.f
  refine Ev.iteS (fun _ => Ev.now _) (fun h0 => Ev.iteS (fun _ => Ev.now _) (fun h1 => ?_))
  have t0 := toIntS l0 (by omega)
  have t1 := toIntS l1 (by omega)
  have e0 := eqIntS l0 l0 (by omega)
  have e1 := eqIntS l1 l1 (by omega)
  have i0 := iLeastSpark l0 l1 (by omega)
  have s0 := sLeastSpark l0 l1 (by omega)
  repeat (first | exact Ev.now _ | (refine Ev.bnd t0 ?_) | (refine Ev.bnd t1 ?_) | (refine Ev.bnd i0 ?_) | (refine Ev.bnd s0 ?_) | (refine Ev.bnd e0 ?_) | (refine Ev.bnd e1 ?_) | (refine Ev.pos (by first | rfl | omega | (simp; done)) ?_) | (refine Ev.neg (by first | omega | (simp; done)) ?_))
end Go.Proofs.Ythkngbdijoeolaa.Pure
