/- Own text of this session, written by a program of this session (wip/t/own.py) out of what the kit tells of the functions: each Go function as a Lean function, and the walk through its code. -/
import Derived.Test.YtfhkahlfpchhpaaT
import Derived.Test.YtfhkahlfpchhpaaF28
import Derived.Test.YtfhkahlfpchhpaaF32
import Derived.Test.YtfhkahlfpchhpaaF34
import Derived.Test.YtfhkahlfpchhpaaF38
namespace Go.Proofs.Ytfhkahlfpchhpaa.PAll
open Go.RowKit Go.Proofs.YtfhkahlfpchhpaaW.PrintWords Go.Proofs.YtfhkahlfpchhpaaW.PrintLast Go.Proofs.YtfhkahlfpchhpaaW.PrintMore
attribute [local go_sem] max2_int min2_int max_two min_two max_three min_three max_four min_four   -- for this text's walks alone
set_option linter.unusedVariables false
set_option linter.unusedSimpArgs false

/-! ### laws_FnExactScriptFired: function 11 -/
def laws_FnExactScriptFired.j0 : Nat → List Int → Int → List Int → List (S87) → Int → List Int → List Int → Bool → Option (Bool)
  | 0, _, _, _, _, _, _, _, _ => none
  | k + 1, x0, x1, x2, x3, x4, x12, x16, x88 => if x88 = true then (some false) else ((laws_markIntS.f k x16 1).bind fun bt1016 => ((laws_heldIntS.f k bt1016.2 1).bind fun t1018 => (if t1018 < 0 then (some false) else (if t1018 = bt1016.1 then ((laws_toIntS.f k x0).bind fun t1019 => ((laws_toIntS.f k x2).bind fun t1022 => ((laws_toLightS.f k x3).bind fun t1025 => ((impl_ScriptFired.f k t1019 x1 t1022 t1025 x4).bind fun t1028 => ((laws_eqIntS.f k t1028 x12).bind fun t1031 => (if t1031 = true then ((laws_heldIntS.f k bt1016.2 1).bind fun t1032 => (if t1032 < 0 then (some false) else (if t1032 = bt1016.1 then (some true) else (some false)))) else (some false))))))) else (some false)))))
def laws_FnExactScriptFired.f (k : Nat) (l0 : List Int) (a1 : Int) (l2 : List Int) (l3 : List (S87)) (a4 : Int) : Option (Bool) := if (l0.length : Int) > 1048576 then (some true) else (if (l2.length : Int) > 1048576 then (some true) else ((laws_szLightS.f l3 1048576).bind fun t971 => (if t971 < 0 then (some true) else ((laws_toIntS.f k l0).bind fun t972 => ((laws_toIntS.f k l2).bind fun t975 => ((laws_toLightS.f k l3).bind fun t978 => ((spec_ScriptFired.f k t972 a1 t975 t978 a4).bind fun t981 => ((laws_toIntS.f k l0).bind fun t984 => ((laws_toIntS.f k l2).bind fun t987 => ((laws_toLightS.f k l3).bind fun t990 => ((impl_ScriptFired.f k t984 a1 t987 t990 a4).bind fun t993 => ((laws_eqIntS.f k t993 t981).bind fun t996 => (if t996 = true then ((laws_toIntS.f k l0).bind fun t997 => ((laws_eqIntS.f k t984 t997).bind fun t1000 => (if t1000 = true then ((laws_toIntS.f k l2).bind fun t1001 => ((laws_eqIntS.f k t987 t1001).bind fun t1004 => (if t1004 = true then ((laws_toLightS.f k l3).bind fun t1005 => ((laws_eqLightS.f k t990 t1005).bind fun t1008 => (if t1008 = true then ((laws_markIntS.f k t984 1).bind fun bt1009 => ((laws_markIntS.f k t987 bt1009.1).bind fun bt1011 => ((laws_markLightS.f k t990 bt1011.1).bind fun bt1013 => (if bt1013.1 < 0 then (laws_FnExactScriptFired.j0 k l0 a1 l2 l3 a4 t981 t993 true) else ((laws_eqIntS.f k t993 t981).bind fun t1015 => (laws_FnExactScriptFired.j0 k l0 a1 l2 l3 a4 t981 t993 (!t1015))))))) else (some false)))) else (some false)))) else (some false)))) else (some false))))))))))))))
theorem laws_FnExactScriptFired.mono_l : ∀ k, (∀ y0 y1 y2 y3 y4 y5 y6 y7, LeO (laws_FnExactScriptFired.j0 k y0 y1 y2 y3 y4 y5 y6 y7) (laws_FnExactScriptFired.j0 (k + 1) y0 y1 y2 y3 y4 y5 y6 y7))
  | 0 => fun _ _ _ _ _ _ _ _ r h => by simp [laws_FnExactScriptFired.j0] at h
  | k + 1 => by
    have ih0 := laws_FnExactScriptFired.mono_l k
    · intro y0 y1 y2 y3 y4 y5 y6 y7
      unfold laws_FnExactScriptFired.j0
      repeat' first
      | (with_reducible exact ih0 _ _ _ _ _ _ _ _)
      | (with_reducible exact impl_ScriptFired.mono _ _ _ _ _ _)
      | (with_reducible exact laws_eqIntS.mono _ _ _)
      | (with_reducible exact laws_eqLightS.mono _ _ _)
      | (with_reducible exact laws_heldIntS.mono _ _ _)
      | (with_reducible exact laws_markIntS.mono _ _ _)
      | (with_reducible exact laws_markLightS.mono _ _ _)
      | (with_reducible exact laws_toIntS.mono _ _)
      | (with_reducible exact laws_toLightS.mono _ _)
      | (with_reducible exact spec_ScriptFired.mono _ _ _ _ _ _)
      | (with_reducible exact LeO.refl _)
      | (with_reducible exact LeO.none _)
      | (with_reducible refine LeO.ite ?_ ?_)
      | (with_reducible refine LeO.bind ?_ (fun _ => ?_))
      | exact ih0 _ _ _ _ _ _ _ _
      | exact impl_ScriptFired.mono _ _ _ _ _ _
      | exact laws_eqIntS.mono _ _ _
      | exact laws_eqLightS.mono _ _ _
      | exact laws_heldIntS.mono _ _ _
      | exact laws_markIntS.mono _ _ _
      | exact laws_markLightS.mono _ _ _
      | exact laws_toIntS.mono _ _
      | exact laws_toLightS.mono _ _
      | exact spec_ScriptFired.mono _ _ _ _ _ _
      | exact LeO.none _
      | refine LeO.ite ?_ ?_
      | refine LeO.bind ?_ (fun _ => ?_)
theorem laws_FnExactScriptFired.mono : ∀ a0 a1 a2 a3 a4 k, LeO (laws_FnExactScriptFired.f k a0 a1 a2 a3 a4) (laws_FnExactScriptFired.f (k + 1) a0 a1 a2 a3 a4) := by
  intro a0 a1 a2 a3 a4 k
  have ih0 := laws_FnExactScriptFired.mono_l k
  unfold laws_FnExactScriptFired.f
  repeat' first
      | (with_reducible exact ih0 _ _ _ _ _ _ _ _)
      | (with_reducible exact impl_ScriptFired.mono _ _ _ _ _ _)
      | (with_reducible exact laws_eqIntS.mono _ _ _)
      | (with_reducible exact laws_eqLightS.mono _ _ _)
      | (with_reducible exact laws_heldIntS.mono _ _ _)
      | (with_reducible exact laws_markIntS.mono _ _ _)
      | (with_reducible exact laws_markLightS.mono _ _ _)
      | (with_reducible exact laws_toIntS.mono _ _)
      | (with_reducible exact laws_toLightS.mono _ _)
      | (with_reducible exact spec_ScriptFired.mono _ _ _ _ _ _)
      | (with_reducible exact LeO.refl _)
      | (with_reducible exact LeO.none _)
      | (with_reducible refine LeO.ite ?_ ?_)
      | (with_reducible refine LeO.bind ?_ (fun _ => ?_))
      | exact ih0 _ _ _ _ _ _ _ _
      | exact impl_ScriptFired.mono _ _ _ _ _ _
      | exact laws_eqIntS.mono _ _ _
      | exact laws_eqLightS.mono _ _ _
      | exact laws_heldIntS.mono _ _ _
      | exact laws_markIntS.mono _ _ _
      | exact laws_markLightS.mono _ _ _
      | exact laws_toIntS.mono _ _
      | exact laws_toLightS.mono _ _
      | exact spec_ScriptFired.mono _ _ _ _ _ _
      | exact LeO.none _
      | refine LeO.ite ?_ ?_
      | refine LeO.bind ?_ (fun _ => ?_)

end Go.Proofs.Ytfhkahlfpchhpaa.PAll
