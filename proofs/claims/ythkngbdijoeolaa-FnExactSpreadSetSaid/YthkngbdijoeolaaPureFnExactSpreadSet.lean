/- Plain laws on what the functions compute. -/
import Derived.Test.YthkngbdijoeolaaKit
import Derived.Test.YthkngbdijoeolaaLspread2
import Derived.Test.YthkngbdijoeolaaLints
import Derived.Test.YthkngbdijoeolaaFFnExactSpreadSet
set_option linter.unusedVariables false
set_option linter.unusedSimpArgs false
namespace Go.Proofs.Ythkngbdijoeolaa.Pure
open Go Go.RowKit Go.Proofs.Ythkngbdijoeolaa.PAll Go.Proofs.YthkngbdijoeolaaW.PrintWords Go.Proofs.YthkngbdijoeolaaW.PrintLast Go.Proofs.YthkngbdijoeolaaW.PrintMore Go.Proofs.Ythkngbdijoeolaa.Kit
theorem FnExactSpreadSet : laws_FnExactSpreadSet.Pure := by
  intro l0 l1 a _ _ _ _ _ _ _
  refine Ev.rounds (g := fun k => laws_FnExactSpreadSet.f k l0 l1 a) ?_
  unfold laws_FnExactSpreadSet.f
  refine Ev.iteS (fun _ => Ev.now _) (fun h0 => Ev.iteS (fun _ => Ev.now _) (fun h1 => ?_))
  have t0 := toIntS l0 (by omega)
  have t1 := toIntS l1 (by omega)
  have e0 := eqIntS l0 l0 (by omega)
  have e1 := eqIntS l1 l1 (by omega)
  have i0 := iSpreadSet l0 l1 a (by omega)
  have s0 := sSpreadSet l0 l1 a (by omega)
  have j0 : Ev (fun k => laws_FnExactSpreadSet.j0 k l0 l1 l0 l1 ((spreadR l0 l1 a).2 != (spreadR l0 l1 a).2)) true := by
    refine Ev.step (fun k => by rw [laws_FnExactSpreadSet.j0]) (Ev.neg (by simp) ?_)
    repeat (first | exact Ev.now _ | (refine Ev.bnd t0 ?_) | (refine Ev.bnd t1 ?_) | (refine Ev.bnd e0 ?_) | (refine Ev.bnd e1 ?_) | (refine Ev.pos (by first | rfl | omega | (simp; done)) ?_) | (refine Ev.neg (by first | omega | (simp; done)) ?_))
  repeat (first | exact Ev.now _ | (refine Ev.bnd t0 ?_) | (refine Ev.bnd t1 ?_) | (refine Ev.bnd i0 ?_) | (refine Ev.bnd s0 ?_) | (refine Ev.pos (by first | rfl | omega | (simp; done)) ?_) | (refine Ev.neg (by first | omega | (simp; done)) ?_))
  exact j0
end Go.Proofs.Ythkngbdijoeolaa.Pure
