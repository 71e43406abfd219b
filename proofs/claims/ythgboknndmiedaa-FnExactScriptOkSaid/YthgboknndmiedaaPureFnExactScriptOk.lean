/- Plain laws on what the functions compute. -/
import Derived.Test.YthgboknndmiedaaKit
import Derived.Test.YthgboknndmiedaaLscriptok
import Derived.Test.YthgboknndmiedaaLtolights
import Derived.Test.YthgboknndmiedaaFFnExactScriptOk
set_option linter.unusedVariables false
set_option linter.unusedSimpArgs false
namespace Go.Proofs.Ythgboknndmiedaa.Pure
open Go Go.RowKit Go.Proofs.Ythgboknndmiedaa.PAll Go.Proofs.YthgboknndmiedaaW.PrintWords Go.Proofs.YthgboknndmiedaaW.PrintLast Go.Proofs.YthgboknndmiedaaW.PrintMore Go.Proofs.Ythgboknndmiedaa.Kit
def FnExactScriptOkPure : Prop := ∀ (a0 : Int) (l : List S45), l.length ≤ 9223372036854775807 → ∃ k, laws_FnExactScriptOk.f k a0 l = some true
theorem FnExactScriptOk : FnExactScriptOkPure := by
  intro a l hn
  refine Ev.rounds (g := fun k => laws_FnExactScriptOk.f k a l) ?_
  unfold laws_FnExactScriptOk.f
  refine Ev.bnd0 (szLightS l (by omega)) ?_
  by_cases h : l.length ≤ 1048576
  · rw [if_pos h]
    have ht := toLightS l h
    have hl := toL_len l
    refine Ev.neg (by omega) (Ev.bnd ht (Ev.bnd (sScriptOk a (toL l) (by omega)) (Ev.bnd ht (Ev.bnd (iScriptOk a (toL l) (by omega)) (Ev.neg (by simp) (Ev.bnd ht (Ev.bnd (eqLightS_self (toL l) (by omega)) (Ev.pos rfl (Ev.now _)))))))))
  · rw [if_neg h]
    exact Ev.pos (by omega) (Ev.now _)
end Go.Proofs.Ythgboknndmiedaa.Pure
