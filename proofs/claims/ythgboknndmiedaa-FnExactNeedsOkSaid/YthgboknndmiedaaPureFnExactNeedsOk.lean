/- Plain laws on what the functions compute. -/
import Derived.Test.YthgboknndmiedaaKit
import Derived.Test.YthgboknndmiedaaLneedsok
import Derived.Test.YthgboknndmiedaaLints
import Derived.Test.YthgboknndmiedaaFFnExactNeedsOk
set_option linter.unusedVariables false
set_option linter.unusedSimpArgs false
namespace Go.Proofs.Ythgboknndmiedaa.Pure
open Go Go.RowKit Go.Proofs.Ythgboknndmiedaa.PAll Go.Proofs.YthgboknndmiedaaW.PrintWords Go.Proofs.YthgboknndmiedaaW.PrintLast Go.Proofs.YthgboknndmiedaaW.PrintMore Go.Proofs.Ythgboknndmiedaa.Kit
theorem FnExactNeedsOk : laws_FnExactNeedsOk.Pure := by
  intro l0 l1 _ _ _ _ _ _
  refine Ev.rounds (g := fun k => laws_FnExactNeedsOk.f k l0 l1) ?_
  unfold laws_FnExactNeedsOk.f
  refine Ev.iteS (fun _ => Ev.now _) (fun h0 => Ev.iteS (fun _ => Ev.now _) (fun h1 => ?_))
  have t0 := toIntS l0 (by omega)
  have t1 := toIntS l1 (by omega)
  refine Ev.bnd t0 (Ev.bnd t1 (Ev.bnd (sNeedsOk l0 l1 (by omega)) (Ev.bnd t0 (Ev.bnd t1 (Ev.bnd (iNeedsOk l0 l1 (by omega)) (Ev.neg (by simp) (Ev.bnd t0 (Ev.bnd (eqIntS l0 l0 (by omega)) (Ev.pos (by simp) (Ev.bnd t1 (Ev.bnd (eqIntS l1 l1 (by omega)) (Ev.pos (by simp) (Ev.now _)))))))))))))
end Go.Proofs.Ythgboknndmiedaa.Pure
