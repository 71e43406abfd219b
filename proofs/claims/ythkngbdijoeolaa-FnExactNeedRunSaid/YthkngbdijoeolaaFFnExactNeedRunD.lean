/- Own text of this session, written by a program of this session (wip/t/own.py) out of what the kit tells of the functions: each Go function as a Lean function, and the walk through its code. -/
import Derived.Test.YthkngbdijoeolaaT
import Derived.Test.YthkngbdijoeolaaF27
import Derived.Test.YthkngbdijoeolaaF33
import Derived.Test.YthkngbdijoeolaaF41
namespace Go.Proofs.Ythkngbdijoeolaa.PAll
open Go.RowKit Go.Proofs.YthkngbdijoeolaaW.PrintWords Go.Proofs.YthkngbdijoeolaaW.PrintLast Go.Proofs.YthkngbdijoeolaaW.PrintMore
attribute [local go_sem] max2_int min2_int max_two min_two max_three min_three max_four min_four   -- for this text's walks alone
set_option linter.unusedVariables false
set_option linter.unusedSimpArgs false

/-! ### laws_FnExactNeedRun: function 13 -/
def laws_FnExactNeedRun.j0 : Nat → List Int → Int → List Int → List Int → Int → List Int → List Int → Bool → Option (Bool)
  | 0, _, _, _, _, _, _, _, _ => none
  | k + 1, x0, x1, x2, x3, x4, x11, x15, x85 => if x85 = true then (some false) else ((laws_markIntS.f k x15 1).bind fun bt865 => ((laws_heldIntS.f k bt865.2 1).bind fun t867 => (if t867 < 0 then (some false) else (if t867 = bt865.1 then ((laws_toIntS.f k x0).bind fun t868 => ((laws_toIntS.f k x2).bind fun t871 => ((laws_toIntS.f k x3).bind fun t874 => ((impl_NeedRun.f k t868 x1 t871 t874 x4).bind fun t877 => ((laws_eqIntS.f k t877 x11).bind fun t880 => (if t880 = true then ((laws_heldIntS.f k bt865.2 1).bind fun t881 => (if t881 < 0 then (some false) else (if t881 = bt865.1 then (some true) else (some false)))) else (some false))))))) else (some false)))))
def laws_FnExactNeedRun.f (k : Nat) (l0 : List Int) (a1 : Int) (l2 : List Int) (l3 : List Int) (a4 : Int) : Option (Bool) := if (l0.length : Int) > 1048576 then (some true) else (if (l2.length : Int) > 1048576 then (some true) else (if (l3.length : Int) > 1048576 then (some true) else ((laws_toIntS.f k l0).bind fun t821 => ((laws_toIntS.f k l2).bind fun t824 => ((laws_toIntS.f k l3).bind fun t827 => ((spec_NeedRun.f k t821 a1 t824 t827 a4).bind fun t830 => ((laws_toIntS.f k l0).bind fun t833 => ((laws_toIntS.f k l2).bind fun t836 => ((laws_toIntS.f k l3).bind fun t839 => ((impl_NeedRun.f k t833 a1 t836 t839 a4).bind fun t842 => ((laws_eqIntS.f k t842 t830).bind fun t845 => (if t845 = true then ((laws_toIntS.f k l0).bind fun t846 => ((laws_eqIntS.f k t833 t846).bind fun t849 => (if t849 = true then ((laws_toIntS.f k l2).bind fun t850 => ((laws_eqIntS.f k t836 t850).bind fun t853 => (if t853 = true then ((laws_toIntS.f k l3).bind fun t854 => ((laws_eqIntS.f k t839 t854).bind fun t857 => (if t857 = true then ((laws_markIntS.f k t833 1).bind fun bt858 => ((laws_markIntS.f k t836 bt858.1).bind fun bt860 => ((laws_markIntS.f k t839 bt860.1).bind fun bt862 => (if bt862.1 < 0 then (laws_FnExactNeedRun.j0 k l0 a1 l2 l3 a4 t830 t842 true) else ((laws_eqIntS.f k t842 t830).bind fun t864 => (laws_FnExactNeedRun.j0 k l0 a1 l2 l3 a4 t830 t842 (!t864))))))) else (some false)))) else (some false)))) else (some false)))) else (some false)))))))))))))
theorem laws_FnExactNeedRun.mono_l : ∀ k, (∀ y0 y1 y2 y3 y4 y5 y6 y7, LeO (laws_FnExactNeedRun.j0 k y0 y1 y2 y3 y4 y5 y6 y7) (laws_FnExactNeedRun.j0 (k + 1) y0 y1 y2 y3 y4 y5 y6 y7))
  | 0 => fun _ _ _ _ _ _ _ _ r h => by simp [laws_FnExactNeedRun.j0] at h
  | k + 1 => by
    have ih0 := laws_FnExactNeedRun.mono_l k
    · intro y0 y1 y2 y3 y4 y5 y6 y7
      unfold laws_FnExactNeedRun.j0
      repeat' first
      | (with_reducible exact ih0 _ _ _ _ _ _ _ _)
      | (with_reducible exact impl_NeedRun.mono _ _ _ _ _ _)
      | (with_reducible exact laws_eqIntS.mono _ _ _)
      | (with_reducible exact laws_heldIntS.mono _ _ _)
      | (with_reducible exact laws_markIntS.mono _ _ _)
      | (with_reducible exact laws_toIntS.mono _ _)
      | (with_reducible exact spec_NeedRun.mono _ _ _ _ _ _)
      | (with_reducible exact LeO.refl _)
      | (with_reducible exact LeO.none _)
      | (with_reducible refine LeO.ite ?_ ?_)
      | (with_reducible refine LeO.bind ?_ (fun _ => ?_))
      | exact ih0 _ _ _ _ _ _ _ _
      | exact impl_NeedRun.mono _ _ _ _ _ _
      | exact laws_eqIntS.mono _ _ _
      | exact laws_heldIntS.mono _ _ _
      | exact laws_markIntS.mono _ _ _
      | exact laws_toIntS.mono _ _
      | exact spec_NeedRun.mono _ _ _ _ _ _
      | exact LeO.none _
      | refine LeO.ite ?_ ?_
      | refine LeO.bind ?_ (fun _ => ?_)
theorem laws_FnExactNeedRun.mono : ∀ a0 a1 a2 a3 a4 k, LeO (laws_FnExactNeedRun.f k a0 a1 a2 a3 a4) (laws_FnExactNeedRun.f (k + 1) a0 a1 a2 a3 a4) := by
  intro a0 a1 a2 a3 a4 k
  have ih0 := laws_FnExactNeedRun.mono_l k
  unfold laws_FnExactNeedRun.f
  repeat' first
      | (with_reducible exact ih0 _ _ _ _ _ _ _ _)
      | (with_reducible exact impl_NeedRun.mono _ _ _ _ _ _)
      | (with_reducible exact laws_eqIntS.mono _ _ _)
      | (with_reducible exact laws_heldIntS.mono _ _ _)
      | (with_reducible exact laws_markIntS.mono _ _ _)
      | (with_reducible exact laws_toIntS.mono _ _)
      | (with_reducible exact spec_NeedRun.mono _ _ _ _ _ _)
      | (with_reducible exact LeO.refl _)
      | (with_reducible exact LeO.none _)
      | (with_reducible refine LeO.ite ?_ ?_)
      | (with_reducible refine LeO.bind ?_ (fun _ => ?_))
      | exact ih0 _ _ _ _ _ _ _ _
      | exact impl_NeedRun.mono _ _ _ _ _ _
      | exact laws_eqIntS.mono _ _ _
      | exact laws_heldIntS.mono _ _ _
      | exact laws_markIntS.mono _ _ _
      | exact laws_toIntS.mono _ _
      | exact spec_NeedRun.mono _ _ _ _ _ _
      | exact LeO.none _
      | refine LeO.ite ?_ ?_
      | refine LeO.bind ?_ (fun _ => ?_)

end Go.Proofs.Ythkngbdijoeolaa.PAll
