/- Own text of this session, written by a program of this session (wip/t/own.py) out of what the kit tells of the functions: each Go function as a Lean function, and the walk through its code. -/
import Derived.Test.YtfhkahlfpchhpaaT
import Derived.Test.YtfhkahlfpchhpaaF28
import Derived.Test.YtfhkahlfpchhpaaF34
import Derived.Test.YtfhkahlfpchhpaaF36
namespace Go.Proofs.Ytfhkahlfpchhpaa.PAll
open Go.RowKit Go.Proofs.YtfhkahlfpchhpaaW.PrintWords Go.Proofs.YtfhkahlfpchhpaaW.PrintLast Go.Proofs.YtfhkahlfpchhpaaW.PrintMore
attribute [local go_sem] max2_int min2_int max_two min_two max_three min_three max_four min_four   -- for this text's walks alone
set_option linter.unusedVariables false
set_option linter.unusedSimpArgs false

/-! ### laws_FnExactScriptRun: function 10 -/
def laws_FnExactScriptRun.j0 : Nat → List Int → Int → List Int → List (S87) → Int → List Int → List Int → Bool → Option (Bool)
  | 0, _, _, _, _, _, _, _, _ => none
  | k + 1, x0, x1, x2, x3, x4, x12, x16, x88 => if x88 = true then (some false) else ((laws_markIntS.f k x16 1).bind fun bt923 => ((laws_heldIntS.f k bt923.2 1).bind fun t925 => (if t925 < 0 then (some false) else (if t925 = bt923.1 then ((laws_toIntS.f k x0).bind fun t926 => ((laws_toIntS.f k x2).bind fun t929 => ((laws_toLightS.f k x3).bind fun t932 => ((impl_ScriptRun.f k t926 x1 t929 t932 x4).bind fun t935 => ((laws_eqIntS.f k t935 x12).bind fun t938 => (if t938 = true then ((laws_heldIntS.f k bt923.2 1).bind fun t939 => (if t939 < 0 then (some false) else (if t939 = bt923.1 then (some true) else (some false)))) else (some false))))))) else (some false)))))
def laws_FnExactScriptRun.f (k : Nat) (l0 : List Int) (a1 : Int) (l2 : List Int) (l3 : List (S87)) (a4 : Int) : Option (Bool) := if (l0.length : Int) > 1048576 then (some true) else (if (l2.length : Int) > 1048576 then (some true) else ((laws_szLightS.f l3 1048576).bind fun t878 => (if t878 < 0 then (some true) else ((laws_toIntS.f k l0).bind fun t879 => ((laws_toIntS.f k l2).bind fun t882 => ((laws_toLightS.f k l3).bind fun t885 => ((spec_ScriptRun.f k t879 a1 t882 t885 a4).bind fun t888 => ((laws_toIntS.f k l0).bind fun t891 => ((laws_toIntS.f k l2).bind fun t894 => ((laws_toLightS.f k l3).bind fun t897 => ((impl_ScriptRun.f k t891 a1 t894 t897 a4).bind fun t900 => ((laws_eqIntS.f k t900 t888).bind fun t903 => (if t903 = true then ((laws_toIntS.f k l0).bind fun t904 => ((laws_eqIntS.f k t891 t904).bind fun t907 => (if t907 = true then ((laws_toIntS.f k l2).bind fun t908 => ((laws_eqIntS.f k t894 t908).bind fun t911 => (if t911 = true then ((laws_toLightS.f k l3).bind fun t912 => ((laws_eqLightS.f k t897 t912).bind fun t915 => (if t915 = true then ((laws_markIntS.f k t891 1).bind fun bt916 => ((laws_markIntS.f k t894 bt916.1).bind fun bt918 => ((laws_markLightS.f k t897 bt918.1).bind fun bt920 => (if bt920.1 < 0 then (laws_FnExactScriptRun.j0 k l0 a1 l2 l3 a4 t888 t900 true) else ((laws_eqIntS.f k t900 t888).bind fun t922 => (laws_FnExactScriptRun.j0 k l0 a1 l2 l3 a4 t888 t900 (!t922))))))) else (some false)))) else (some false)))) else (some false)))) else (some false))))))))))))))
theorem laws_FnExactScriptRun.mono_l : ∀ k, (∀ y0 y1 y2 y3 y4 y5 y6 y7, LeO (laws_FnExactScriptRun.j0 k y0 y1 y2 y3 y4 y5 y6 y7) (laws_FnExactScriptRun.j0 (k + 1) y0 y1 y2 y3 y4 y5 y6 y7))
  | 0 => fun _ _ _ _ _ _ _ _ r h => by simp [laws_FnExactScriptRun.j0] at h
  | k + 1 => by
    have ih0 := laws_FnExactScriptRun.mono_l k
    · intro y0 y1 y2 y3 y4 y5 y6 y7
      unfold laws_FnExactScriptRun.j0
      repeat' first
      | (with_reducible exact ih0 _ _ _ _ _ _ _ _)
      | (with_reducible exact impl_ScriptRun.mono _ _ _ _ _ _)
      | (with_reducible exact laws_eqIntS.mono _ _ _)
      | (with_reducible exact laws_eqLightS.mono _ _ _)
      | (with_reducible exact laws_heldIntS.mono _ _ _)
      | (with_reducible exact laws_markIntS.mono _ _ _)
      | (with_reducible exact laws_markLightS.mono _ _ _)
      | (with_reducible exact laws_toIntS.mono _ _)
      | (with_reducible exact laws_toLightS.mono _ _)
      | (with_reducible exact spec_ScriptRun.mono _ _ _ _ _ _)
      | (with_reducible exact LeO.refl _)
      | (with_reducible exact LeO.none _)
      | (with_reducible refine LeO.ite ?_ ?_)
      | (with_reducible refine LeO.bind ?_ (fun _ => ?_))
      | exact ih0 _ _ _ _ _ _ _ _
      | exact impl_ScriptRun.mono _ _ _ _ _ _
      | exact laws_eqIntS.mono _ _ _
      | exact laws_eqLightS.mono _ _ _
      | exact laws_heldIntS.mono _ _ _
      | exact laws_markIntS.mono _ _ _
      | exact laws_markLightS.mono _ _ _
      | exact laws_toIntS.mono _ _
      | exact laws_toLightS.mono _ _
      | exact spec_ScriptRun.mono _ _ _ _ _ _
      | exact LeO.none _
      | refine LeO.ite ?_ ?_
      | refine LeO.bind ?_ (fun _ => ?_)
theorem laws_FnExactScriptRun.mono : ∀ a0 a1 a2 a3 a4 k, LeO (laws_FnExactScriptRun.f k a0 a1 a2 a3 a4) (laws_FnExactScriptRun.f (k + 1) a0 a1 a2 a3 a4) := by
  intro a0 a1 a2 a3 a4 k
  have ih0 := laws_FnExactScriptRun.mono_l k
  unfold laws_FnExactScriptRun.f
  repeat' first
      | (with_reducible exact ih0 _ _ _ _ _ _ _ _)
      | (with_reducible exact impl_ScriptRun.mono _ _ _ _ _ _)
      | (with_reducible exact laws_eqIntS.mono _ _ _)
      | (with_reducible exact laws_eqLightS.mono _ _ _)
      | (with_reducible exact laws_heldIntS.mono _ _ _)
      | (with_reducible exact laws_markIntS.mono _ _ _)
      | (with_reducible exact laws_markLightS.mono _ _ _)
      | (with_reducible exact laws_toIntS.mono _ _)
      | (with_reducible exact laws_toLightS.mono _ _)
      | (with_reducible exact spec_ScriptRun.mono _ _ _ _ _ _)
      | (with_reducible exact LeO.refl _)
      | (with_reducible exact LeO.none _)
      | (with_reducible refine LeO.ite ?_ ?_)
      | (with_reducible refine LeO.bind ?_ (fun _ => ?_))
      | exact ih0 _ _ _ _ _ _ _ _
      | exact impl_ScriptRun.mono _ _ _ _ _ _
      | exact laws_eqIntS.mono _ _ _
      | exact laws_eqLightS.mono _ _ _
      | exact laws_heldIntS.mono _ _ _
      | exact laws_markIntS.mono _ _ _
      | exact laws_markLightS.mono _ _ _
      | exact laws_toIntS.mono _ _
      | exact laws_toLightS.mono _ _
      | exact spec_ScriptRun.mono _ _ _ _ _ _
      | exact LeO.none _
      | refine LeO.ite ?_ ?_
      | refine LeO.bind ?_ (fun _ => ?_)

end Go.Proofs.Ytfhkahlfpchhpaa.PAll
