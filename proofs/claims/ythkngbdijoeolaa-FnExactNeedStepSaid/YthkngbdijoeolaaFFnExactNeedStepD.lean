/- Own text of this session, written by a program of this session (wip/t/own.py) out of what the kit tells of the functions: each Go function as a Lean function, and the walk through its code. -/
import Derived.Test.YthkngbdijoeolaaT
import Derived.Test.YthkngbdijoeolaaF27
import Derived.Test.YthkngbdijoeolaaF33
import Derived.Test.YthkngbdijoeolaaF35
namespace Go.Proofs.Ythkngbdijoeolaa.PAll
open Go.RowKit Go.Proofs.YthkngbdijoeolaaW.PrintWords Go.Proofs.YthkngbdijoeolaaW.PrintLast Go.Proofs.YthkngbdijoeolaaW.PrintMore
attribute [local go_sem] max2_int min2_int max_two min_two max_three min_three max_four min_four   -- for this text's walks alone
set_option linter.unusedVariables false
set_option linter.unusedSimpArgs false

/-! ### laws_FnExactNeedStep: function 10 -/
def laws_FnExactNeedStep.j0 : Nat → List Int → Int → List Int → List Int → List Int → List Int → Bool → Option (Bool)
  | 0, _, _, _, _, _, _, _ => none
  | k + 1, x0, x1, x2, x3, x9, x13, x81 => if x81 = true then (some false) else ((laws_markIntS.f k x13 1).bind fun bt692 => ((laws_heldIntS.f k bt692.2 1).bind fun t694 => (if t694 < 0 then (some false) else (if t694 = bt692.1 then ((laws_toIntS.f k x0).bind fun t695 => ((laws_toIntS.f k x2).bind fun t698 => ((laws_toIntS.f k x3).bind fun t701 => ((impl_NeedStep.f k t695 x1 t698 t701).bind fun t704 => ((laws_eqIntS.f k t704 x9).bind fun t707 => (if t707 = true then ((laws_heldIntS.f k bt692.2 1).bind fun t708 => (if t708 < 0 then (some false) else (if t708 = bt692.1 then (some true) else (some false)))) else (some false))))))) else (some false)))))
def laws_FnExactNeedStep.f (k : Nat) (l0 : List Int) (a1 : Int) (l2 : List Int) (l3 : List Int) : Option (Bool) := if (l0.length : Int) > 1048576 then (some true) else (if (l2.length : Int) > 1048576 then (some true) else (if (l3.length : Int) > 1048576 then (some true) else ((laws_toIntS.f k l0).bind fun t648 => ((laws_toIntS.f k l2).bind fun t651 => ((laws_toIntS.f k l3).bind fun t654 => ((spec_NeedStep.f k t648 a1 t651 t654).bind fun t657 => ((laws_toIntS.f k l0).bind fun t660 => ((laws_toIntS.f k l2).bind fun t663 => ((laws_toIntS.f k l3).bind fun t666 => ((impl_NeedStep.f k t660 a1 t663 t666).bind fun t669 => ((laws_eqIntS.f k t669 t657).bind fun t672 => (if t672 = true then ((laws_toIntS.f k l0).bind fun t673 => ((laws_eqIntS.f k t660 t673).bind fun t676 => (if t676 = true then ((laws_toIntS.f k l2).bind fun t677 => ((laws_eqIntS.f k t663 t677).bind fun t680 => (if t680 = true then ((laws_toIntS.f k l3).bind fun t681 => ((laws_eqIntS.f k t666 t681).bind fun t684 => (if t684 = true then ((laws_markIntS.f k t660 1).bind fun bt685 => ((laws_markIntS.f k t663 bt685.1).bind fun bt687 => ((laws_markIntS.f k t666 bt687.1).bind fun bt689 => (if bt689.1 < 0 then (laws_FnExactNeedStep.j0 k l0 a1 l2 l3 t657 t669 true) else ((laws_eqIntS.f k t669 t657).bind fun t691 => (laws_FnExactNeedStep.j0 k l0 a1 l2 l3 t657 t669 (!t691))))))) else (some false)))) else (some false)))) else (some false)))) else (some false)))))))))))))
theorem laws_FnExactNeedStep.mono_l : ∀ k, (∀ y0 y1 y2 y3 y4 y5 y6, LeO (laws_FnExactNeedStep.j0 k y0 y1 y2 y3 y4 y5 y6) (laws_FnExactNeedStep.j0 (k + 1) y0 y1 y2 y3 y4 y5 y6))
  | 0 => fun _ _ _ _ _ _ _ r h => by simp [laws_FnExactNeedStep.j0] at h
  | k + 1 => by
    have ih0 := laws_FnExactNeedStep.mono_l k
    · intro y0 y1 y2 y3 y4 y5 y6
      unfold laws_FnExactNeedStep.j0
      repeat' first
      | (with_reducible exact ih0 _ _ _ _ _ _ _)
      | (with_reducible exact impl_NeedStep.mono _ _ _ _ _)
      | (with_reducible exact laws_eqIntS.mono _ _ _)
      | (with_reducible exact laws_heldIntS.mono _ _ _)
      | (with_reducible exact laws_markIntS.mono _ _ _)
      | (with_reducible exact laws_toIntS.mono _ _)
      | (with_reducible exact spec_NeedStep.mono _ _ _ _ _)
      | (with_reducible exact LeO.refl _)
      | (with_reducible exact LeO.none _)
      | (with_reducible refine LeO.ite ?_ ?_)
      | (with_reducible refine LeO.bind ?_ (fun _ => ?_))
      | exact ih0 _ _ _ _ _ _ _
      | exact impl_NeedStep.mono _ _ _ _ _
      | exact laws_eqIntS.mono _ _ _
      | exact laws_heldIntS.mono _ _ _
      | exact laws_markIntS.mono _ _ _
      | exact laws_toIntS.mono _ _
      | exact spec_NeedStep.mono _ _ _ _ _
      | exact LeO.none _
      | refine LeO.ite ?_ ?_
      | refine LeO.bind ?_ (fun _ => ?_)
theorem laws_FnExactNeedStep.mono : ∀ a0 a1 a2 a3 k, LeO (laws_FnExactNeedStep.f k a0 a1 a2 a3) (laws_FnExactNeedStep.f (k + 1) a0 a1 a2 a3) := by
  intro a0 a1 a2 a3 k
  have ih0 := laws_FnExactNeedStep.mono_l k
  unfold laws_FnExactNeedStep.f
  repeat' first
      | (with_reducible exact ih0 _ _ _ _ _ _ _)
      | (with_reducible exact impl_NeedStep.mono _ _ _ _ _)
      | (with_reducible exact laws_eqIntS.mono _ _ _)
      | (with_reducible exact laws_heldIntS.mono _ _ _)
      | (with_reducible exact laws_markIntS.mono _ _ _)
      | (with_reducible exact laws_toIntS.mono _ _)
      | (with_reducible exact spec_NeedStep.mono _ _ _ _ _)
      | (with_reducible exact LeO.refl _)
      | (with_reducible exact LeO.none _)
      | (with_reducible refine LeO.ite ?_ ?_)
      | (with_reducible refine LeO.bind ?_ (fun _ => ?_))
      | exact ih0 _ _ _ _ _ _ _
      | exact impl_NeedStep.mono _ _ _ _ _
      | exact laws_eqIntS.mono _ _ _
      | exact laws_heldIntS.mono _ _ _
      | exact laws_markIntS.mono _ _ _
      | exact laws_toIntS.mono _ _
      | exact spec_NeedStep.mono _ _ _ _ _
      | exact LeO.none _
      | refine LeO.ite ?_ ?_
      | refine LeO.bind ?_ (fun _ => ?_)

end Go.Proofs.Ythkngbdijoeolaa.PAll
