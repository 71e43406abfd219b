/- Own text of this session, written by a program of this session (wip/t/own.py) out of what the kit tells of the functions: each Go function as a Lean function, and the walk through its code. -/
import Derived.Test.YtmkakbimlnigbaaDoorT
import Derived.Test.YtmkakbimlnigbaaDoorF1
import Derived.Test.YtmkakbimlnigbaaDoorF15
import Derived.Test.YtmkakbimlnigbaaDoorF18
import Derived.Test.YtmkakbimlnigbaaDoorF19
namespace Go.Proofs.YtmkakbimlnigbaaDoor.PAll
open Go.RowKit Go.Proofs.YtmkakbimlnigbaaDoorW.PrintWords Go.Proofs.YtmkakbimlnigbaaDoorW.PrintLast Go.Proofs.YtmkakbimlnigbaaDoorW.PrintMore
attribute [local go_sem] max2_int min2_int max_two min_two max_three min_three max_four min_four   -- for this text's walks alone
set_option linter.unusedVariables false
set_option linter.unusedSimpArgs false

attribute [local go_sem high] eqA43
/-! ### laws_FnScriptText: function 5 -/
def laws_FnScriptText.f (k : Nat) (l0 : List Int) : Option (Bool) := if (l0.length : Int) > 1048576 then (some true) else ((spec_DrawScriptText.f k l0).bind fun bt358 => ((impl_ScriptText.f k bt358.1 bt358.2).bind fun t362 => ((spec_ScriptText.f k bt358.1 bt358.2).bind fun t363 => (if t362.toList = t363.toList then (if t362.toList = ([] : List UInt8) then ((impl_ScriptOk.f k bt358.1 bt358.2).bind fun t364 => (if t364 = true then (some false) else ((laws_alive.f k).bind fun t365 => (some t365)))) else ((impl_ReadScript.f k bt358.1 t362).bind fun bt366 => (if bt366.2 = true then ((laws_sameLights.f k bt366.1 bt358.2).bind fun t370 => (some t370)) else (some false)))) else (some false)))))
theorem laws_FnScriptText.mono : ∀ a0 k, LeO (laws_FnScriptText.f k a0) (laws_FnScriptText.f (k + 1) a0) := by
 intro a0 k
 unfold laws_FnScriptText.f
 repeat' first
   | (with_reducible exact impl_ReadScript.mono _ _ _)
   | (with_reducible exact impl_ScriptOk.mono _ _ _)
   | (with_reducible exact impl_ScriptText.mono _ _ _)
   | (with_reducible exact laws_alive.mono _)
   | (with_reducible exact laws_sameLights.mono _ _ _)
   | (with_reducible exact spec_DrawScriptText.mono _ _)
   | (with_reducible exact spec_ScriptText.mono _ _ _)
   | (with_reducible exact LeO.refl _)
   | (with_reducible exact LeO.none _)
   | (with_reducible refine LeO.ite ?_ ?_)
   | (with_reducible refine LeO.bind ?_ (fun _ => ?_))
   | exact impl_ReadScript.mono _ _ _
   | exact impl_ScriptOk.mono _ _ _
   | exact impl_ScriptText.mono _ _ _
   | exact laws_alive.mono _
   | exact laws_sameLights.mono _ _ _
   | exact spec_DrawScriptText.mono _ _
   | exact spec_ScriptText.mono _ _ _
   | exact LeO.none _
   | refine LeO.ite ?_ ?_
   | refine LeO.bind ?_ (fun _ => ?_)
set_option maxHeartbeats 8000000 in
set_option maxRecDepth 100000 in
theorem laws_FnScriptText.calls (k : Nat) (A0 : Option Addr) (c0 : Nat) (l0 : List Int) (r : Bool) (w : World) (hv : Vars w) (hr0 : Kd.C (Kd.int .u8) w A0 l0.length l0) (hc0 : l0.length ≤ c0) (h : laws_FnScriptText.f k l0 = some r) :
  Calls Tryd.prog 5 #[.slice A0 l0.length c0] w fun e w' => e = .returned (.bool r) ∧ Below w.heap.size w w' := by
 have HV := Aside0.mk hv
 clear hv
 have HR0 := Aside0.mk hr0
 have HC0 := Aside0.mk hc0
 clear hr0 hc0
 have HB := Aside0.mk (Below.refl w.heap.size w)
 have H : (if (l0.length : Int) > 1048576 then (some true) else ((spec_DrawScriptText.f k l0).bind fun bt358 => ((impl_ScriptText.f k bt358.1 bt358.2).bind fun t362 => ((spec_ScriptText.f k bt358.1 bt358.2).bind fun t363 => (if t362.toList = t363.toList then (if t362.toList = ([] : List UInt8) then ((impl_ScriptOk.f k bt358.1 bt358.2).bind fun t364 => (if t364 = true then (some false) else ((laws_alive.f k).bind fun t365 => (some t365)))) else ((impl_ReadScript.f k bt358.1 t362).bind fun bt366 => (if bt366.2 = true then ((laws_sameLights.f k bt366.1 bt358.2).bind fun t370 => (some t370)) else (some false)))) else (some false)))))) = some r := h
 clear h
 by_cases c2 : (l0.length : Int) > 1048576
 ·rw [if_pos c2] at H
  have c2b0 : decide (1048576 < (l0.length : Int)) = true := decide_eq_true c2
  have c2b1 : decide (1048576 < l0.length) = true := decide_eq_true (by omega)
  clear c2
  obtain rfl := Option.some.inj H
  go_enter Tryd.func5, Tryd.ntmps5
  go_wp2
  go_ret
  exact ⟨by first | rfl | (simp [errW_none, errW_some] <;> rfl) | (simp [*, errW_none, errW_some] <;> rfl), zB HB.out⟩
 ·rw [if_neg c2] at H
  have c2b0 : decide (1048576 < (l0.length : Int)) = false := decide_eq_false c2
  have c2b1 : decide (1048576 < l0.length) = false := decide_eq_false (by omega)
  clear c2
  replace H := Option.bind_eq_some_iff.mp H
  obtain ⟨⟨t358, t359⟩, A30, H⟩ := H
  replace H : ((impl_ScriptText.f k t358 t359).bind fun t362 => ((spec_ScriptText.f k t358 t359).bind fun t363 => (if t362.toList = t363.toList then (if t362.toList = ([] : List UInt8) then ((impl_ScriptOk.f k t358 t359).bind fun t364 => (if t364 = true then (some false) else ((laws_alive.f k).bind fun t365 => (some t365)))) else ((impl_ReadScript.f k t358 t362).bind fun bt366 => (if bt366.2 = true then ((laws_sameLights.f k bt366.1 t359).bind fun t370 => (some t370)) else (some false)))) else (some false)))) = some r := H
  have A3 := Aside0.mk A30
  clear A30
  replace H := Option.bind_eq_some_iff.mp H
  obtain ⟨t362, A40, H⟩ := H
  replace H : ((spec_ScriptText.f k t358 t359).bind fun t363 => (if t362.toList = t363.toList then (if t362.toList = ([] : List UInt8) then ((impl_ScriptOk.f k t358 t359).bind fun t364 => (if t364 = true then (some false) else ((laws_alive.f k).bind fun t365 => (some t365)))) else ((impl_ReadScript.f k t358 t362).bind fun bt366 => (if bt366.2 = true then ((laws_sameLights.f k bt366.1 t359).bind fun t370 => (some t370)) else (some false)))) else (some false))) = some r := H
  have A4 := Aside0.mk A40
  clear A40
  replace H := Option.bind_eq_some_iff.mp H
  obtain ⟨t363, A50, H⟩ := H
  replace H : (if t362.toList = t363.toList then (if t362.toList = ([] : List UInt8) then ((impl_ScriptOk.f k t358 t359).bind fun t364 => (if t364 = true then (some false) else ((laws_alive.f k).bind fun t365 => (some t365)))) else ((impl_ReadScript.f k t358 t362).bind fun bt366 => (if bt366.2 = true then ((laws_sameLights.f k bt366.1 t359).bind fun t370 => (some t370)) else (some false)))) else (some false)) = some r := H
  have A5 := Aside0.mk A50
  clear A50
  by_cases c6 : t362.toList = t363.toList
  ·rw [if_pos c6] at H
   have c6b0 : (t362.toList == t363.toList) = true := beq_iff_eq.mpr c6
   have c6b1 : (t362.toList != t363.toList) = false := bne_eq_false_iff_eq.mpr c6
   clear c6
   by_cases c7 : t362.toList = ([] : List UInt8)
   ·rw [if_pos c7] at H
    have c7b0 : (t362.toList == ([] : List UInt8)) = true := beq_iff_eq.mpr c7
    have c7b1 : (t362.toList != ([] : List UInt8)) = false := bne_eq_false_iff_eq.mpr c7
    clear c7
    replace H := Option.bind_eq_some_iff.mp H
    obtain ⟨t364, A80, H⟩ := H
    replace H : (if t364 = true then (some false) else ((laws_alive.f k).bind fun t365 => (some t365))) = some r := H
    have A8 := Aside0.mk A80
    clear A80
    by_cases c9 : t364 = true
    ·subst c9
     have H1 : (some false) = some r := by rw [if_pos rfl] at H; exact H
     clear H
     have H := H1
     clear H1
     obtain rfl := Option.some.inj H
     go_enter Tryd.func5, Tryd.ntmps5
     go_wp2_with (first | ((with_reducible refine gate_callee (f := 16) rfl ?_); refine goesL_ (some 13) rfl rfl Tryd.func16 (by kernel_rfl) rfl #[.slice A0 l0.length c0] rfl zA ?_; (with_reducible refine (spec_DrawScriptText.calls k _ _ l0 t358 t359 _ ?side1 ?side2 A3.out).mono ?_); (case side1 => exact zC HR0.out); (case side2 => exact HC0.out); rintro e w10 ⟨v360, rfl, ho0, hb⟩; refine ⟨_, rfl, ?_⟩; have n0_ := Aside0.mk (Kd.R_lower ho0 (below_size (zB HB.out))); have n1_ := Aside0.mk (below_step (zB HB.out) hb); clear HB; have HO361 := n0_; have HB := n1_; clear n0_ n1_; (try clear hb); (try clear hb2); (try clear hk); (try clear hi); (try clear ho0); obtain ⟨Ao11, co11, eo11⟩ := Kd.R_slice HO361.out; subst eo11) | ((with_reducible refine gate_callee (f := 10) rfl ?_); refine goesL_ (some 18) rfl rfl Tryd.func10 (by kernel_rfl) rfl #[.int .i64 t358, .slice Ao11 t359.length co11] rfl zA ?_; (with_reducible refine (impl_ScriptText.calls k t358 _ _ t359 t362 _ ?side1 ?side2 A4.out).mono ?_); (case side1 => exact zC (Kd.R_reads' HO361.out).2.2); (case side2 => exact (Kd.R_reads' HO361.out).2.1); rintro e w12 ⟨rfl, hb⟩; refine ⟨_, rfl, ?_⟩; have n0_ := Aside0.mk (Kd.R_below (zR HO361.out) hb); have n1_ := Aside0.mk (below_step (zB HB.out) hb); clear HO361; clear HB; have HO361 := n0_; have HB := n1_; clear n0_ n1_; (try clear hb); (try clear hb2); (try clear hk); (try clear hi)) | ((with_reducible refine gate_callee (f := 8) rfl ?_); refine goesL_ (some 22) rfl rfl Tryd.func8 (by kernel_rfl) rfl #[.int .i64 t358, .slice Ao11 t359.length co11] rfl zA ?_; (with_reducible refine (spec_ScriptText.calls k t358 _ _ t359 t363 _ ?side1 ?side2 A5.out).mono ?_); (case side1 => exact zC (Kd.R_reads' HO361.out).2.2); (case side2 => exact (Kd.R_reads' HO361.out).2.1); rintro e w13 ⟨rfl, hb⟩; refine ⟨_, rfl, ?_⟩; have n0_ := Aside0.mk (Kd.R_below (zR HO361.out) hb); have n1_ := Aside0.mk (below_step (zB HB.out) hb); clear HO361; clear HB; have HO361 := n0_; have HB := n1_; clear n0_ n1_; (try clear hb); (try clear hb2); (try clear hk); (try clear hi)) | ((with_reducible refine gate_callee (f := 17) rfl ?_); refine goesL_ (some 28) rfl rfl Tryd.func17 (by kernel_rfl) rfl #[.int .i64 t358, .slice Ao11 t359.length co11] rfl zA ?_; (with_reducible refine (impl_ScriptOk.calls k t358 _ _ t359 true _ ?side1 ?side2 A8.out).mono ?_); (case side1 => exact zC (Kd.R_reads' HO361.out).2.2); (case side2 => exact (Kd.R_reads' HO361.out).2.1); rintro e w14 ⟨rfl, hb⟩; refine ⟨_, rfl, ?_⟩; have n0_ := Aside0.mk (Kd.R_below (zR HO361.out) hb); have n1_ := Aside0.mk (below_step (zB HB.out) hb); clear HO361; clear HB; have HO361 := n0_; have HB := n1_; clear n0_ n1_; (try clear hb); (try clear hb2); (try clear hk); (try clear hi)))
     go_ret
     exact ⟨by first | rfl | (simp [errW_none, errW_some] <;> rfl) | (simp [*, errW_none, errW_some] <;> rfl), zB HB.out⟩
    ·replace c9 := Bool.eq_false_iff.mpr c9
     subst c9
     have H1 : ((laws_alive.f k).bind fun t365 => (some t365)) = some r := by rw [if_neg (show ¬ (false = true) by decide)] at H; exact H
     clear H
     have H := H1
     clear H1
     replace H := Option.bind_eq_some_iff.mp H
     obtain ⟨t365, A150, H⟩ := H
     replace H : (some t365) = some r := H
     have A15 := Aside0.mk A150
     clear A150
     obtain rfl := Option.some.inj H
     go_enter Tryd.func5, Tryd.ntmps5
     go_wp2_with (first | ((with_reducible refine gate_callee (f := 16) rfl ?_); refine goesL_ (some 13) rfl rfl Tryd.func16 (by kernel_rfl) rfl #[.slice A0 l0.length c0] rfl zA ?_; (with_reducible refine (spec_DrawScriptText.calls k _ _ l0 t358 t359 _ ?side1 ?side2 A3.out).mono ?_); (case side1 => exact zC HR0.out); (case side2 => exact HC0.out); rintro e w16 ⟨v360, rfl, ho0, hb⟩; refine ⟨_, rfl, ?_⟩; have n0_ := Aside0.mk (Kd.R_lower ho0 (below_size (zB HB.out))); have n1_ := Aside0.mk (below_step (zB HB.out) hb); clear HB; have HO361 := n0_; have HB := n1_; clear n0_ n1_; (try clear hb); (try clear hb2); (try clear hk); (try clear hi); (try clear ho0); obtain ⟨Ao17, co17, eo17⟩ := Kd.R_slice HO361.out; subst eo17) | ((with_reducible refine gate_callee (f := 10) rfl ?_); refine goesL_ (some 18) rfl rfl Tryd.func10 (by kernel_rfl) rfl #[.int .i64 t358, .slice Ao17 t359.length co17] rfl zA ?_; (with_reducible refine (impl_ScriptText.calls k t358 _ _ t359 t362 _ ?side1 ?side2 A4.out).mono ?_); (case side1 => exact zC (Kd.R_reads' HO361.out).2.2); (case side2 => exact (Kd.R_reads' HO361.out).2.1); rintro e w18 ⟨rfl, hb⟩; refine ⟨_, rfl, ?_⟩; have n0_ := Aside0.mk (Kd.R_below (zR HO361.out) hb); have n1_ := Aside0.mk (below_step (zB HB.out) hb); clear HO361; clear HB; have HO361 := n0_; have HB := n1_; clear n0_ n1_; (try clear hb); (try clear hb2); (try clear hk); (try clear hi)) | ((with_reducible refine gate_callee (f := 8) rfl ?_); refine goesL_ (some 22) rfl rfl Tryd.func8 (by kernel_rfl) rfl #[.int .i64 t358, .slice Ao17 t359.length co17] rfl zA ?_; (with_reducible refine (spec_ScriptText.calls k t358 _ _ t359 t363 _ ?side1 ?side2 A5.out).mono ?_); (case side1 => exact zC (Kd.R_reads' HO361.out).2.2); (case side2 => exact (Kd.R_reads' HO361.out).2.1); rintro e w19 ⟨rfl, hb⟩; refine ⟨_, rfl, ?_⟩; have n0_ := Aside0.mk (Kd.R_below (zR HO361.out) hb); have n1_ := Aside0.mk (below_step (zB HB.out) hb); clear HO361; clear HB; have HO361 := n0_; have HB := n1_; clear n0_ n1_; (try clear hb); (try clear hb2); (try clear hk); (try clear hi)) | ((with_reducible refine gate_callee (f := 17) rfl ?_); refine goesL_ (some 28) rfl rfl Tryd.func17 (by kernel_rfl) rfl #[.int .i64 t358, .slice Ao17 t359.length co17] rfl zA ?_; (with_reducible refine (impl_ScriptOk.calls k t358 _ _ t359 false _ ?side1 ?side2 A8.out).mono ?_); (case side1 => exact zC (Kd.R_reads' HO361.out).2.2); (case side2 => exact (Kd.R_reads' HO361.out).2.1); rintro e w20 ⟨rfl, hb⟩; refine ⟨_, rfl, ?_⟩; have n0_ := Aside0.mk (Kd.R_below (zR HO361.out) hb); have n1_ := Aside0.mk (below_step (zB HB.out) hb); clear HO361; clear HB; have HO361 := n0_; have HB := n1_; clear n0_ n1_; (try clear hb); (try clear hb2); (try clear hk); (try clear hi)) | (go_at_call 18; (with_reducible refine (laws_alive.calls k  t365 _ A15.out).mono ?_); rintro e w21 ⟨rfl, hb⟩; have n0_ := Aside0.mk (Kd.R_below (zR HO361.out) hb); have n1_ := Aside0.mk (below_step (zB HB.out) hb); clear HO361; clear HB; have HO361 := n0_; have HB := n1_; clear n0_ n1_; (try clear hb); (try clear hb2); (try clear hk); (try clear hi)))
     go_ret
     exact ⟨by first | rfl | (simp [errW_none, errW_some] <;> rfl) | (simp [*, errW_none, errW_some] <;> rfl), zB HB.out⟩
   ·rw [if_neg c7] at H
    have c7b0 : (t362.toList == ([] : List UInt8)) = false := beq_eq_false_iff_ne.mpr c7
    have c7b1 : (t362.toList != ([] : List UInt8)) = true := bne_iff_ne.mpr c7
    replace H := Option.bind_eq_some_iff.mp H
    obtain ⟨⟨t366, t367⟩, A220, H⟩ := H
    replace H : (if t367 = true then ((laws_sameLights.f k t366 t359).bind fun t370 => (some t370)) else (some false)) = some r := H
    have A22 := Aside0.mk A220
    clear A220
    by_cases c23 : t367 = true
    ·subst c23
     have H1 : ((laws_sameLights.f k t366 t359).bind fun t370 => (some t370)) = some r := by rw [if_pos rfl] at H; exact H
     clear H
     have H := H1
     clear H1
     replace H := Option.bind_eq_some_iff.mp H
     obtain ⟨t370, A240, H⟩ := H
     replace H : (some t370) = some r := H
     have A24 := Aside0.mk A240
     clear A240
     obtain rfl := Option.some.inj H
     go_enter Tryd.func5, Tryd.ntmps5
     go_wp2_with (first | ((with_reducible refine gate_callee (f := 16) rfl ?_); refine goesL_ (some 13) rfl rfl Tryd.func16 (by kernel_rfl) rfl #[.slice A0 l0.length c0] rfl zA ?_; (with_reducible refine (spec_DrawScriptText.calls k _ _ l0 t358 t359 _ ?side1 ?side2 A3.out).mono ?_); (case side1 => exact zC HR0.out); (case side2 => exact HC0.out); rintro e w25 ⟨v360, rfl, ho0, hb⟩; refine ⟨_, rfl, ?_⟩; have n0_ := Aside0.mk (Kd.R_lower ho0 (below_size (zB HB.out))); have n1_ := Aside0.mk (below_step (zB HB.out) hb); clear HB; have HO361 := n0_; have HB := n1_; clear n0_ n1_; (try clear hb); (try clear hb2); (try clear hk); (try clear hi); (try clear ho0); obtain ⟨Ao26, co26, eo26⟩ := Kd.R_slice HO361.out; subst eo26) | ((with_reducible refine gate_callee (f := 10) rfl ?_); refine goesL_ (some 18) rfl rfl Tryd.func10 (by kernel_rfl) rfl #[.int .i64 t358, .slice Ao26 t359.length co26] rfl zA ?_; (with_reducible refine (impl_ScriptText.calls k t358 _ _ t359 t362 _ ?side1 ?side2 A4.out).mono ?_); (case side1 => exact zC (Kd.R_reads' HO361.out).2.2); (case side2 => exact (Kd.R_reads' HO361.out).2.1); rintro e w27 ⟨rfl, hb⟩; refine ⟨_, rfl, ?_⟩; have n0_ := Aside0.mk (Kd.R_below (zR HO361.out) hb); have n1_ := Aside0.mk (below_step (zB HB.out) hb); clear HO361; clear HB; have HO361 := n0_; have HB := n1_; clear n0_ n1_; (try clear hb); (try clear hb2); (try clear hk); (try clear hi)) | ((with_reducible refine gate_callee (f := 8) rfl ?_); refine goesL_ (some 22) rfl rfl Tryd.func8 (by kernel_rfl) rfl #[.int .i64 t358, .slice Ao26 t359.length co26] rfl zA ?_; (with_reducible refine (spec_ScriptText.calls k t358 _ _ t359 t363 _ ?side1 ?side2 A5.out).mono ?_); (case side1 => exact zC (Kd.R_reads' HO361.out).2.2); (case side2 => exact (Kd.R_reads' HO361.out).2.1); rintro e w28 ⟨rfl, hb⟩; refine ⟨_, rfl, ?_⟩; have n0_ := Aside0.mk (Kd.R_below (zR HO361.out) hb); have n1_ := Aside0.mk (below_step (zB HB.out) hb); clear HO361; clear HB; have HO361 := n0_; have HB := n1_; clear n0_ n1_; (try clear hb); (try clear hb2); (try clear hk); (try clear hi)) | ((with_reducible refine gate_callee (f := 13) rfl ?_); refine goesL_ (some 36) rfl rfl Tryd.func13 (by kernel_rfl) rfl #[.int .i64 t358, .string t362] rfl zA ?_; (with_reducible refine (impl_ReadScript.calls k t358 t362 t366 true _ (HV.out.below (zB HB.out)) A22.out).mono ?_); rintro e w29 ⟨v368, rfl, ho0, hb⟩; refine ⟨_, rfl, ?_⟩; have n0_ := Aside0.mk (Kd.R_elder' (zR HO361.out) (Kd.R_base ho0) hb); have n1_ := Aside0.mk (Kd.R_lower (Kd.R_new' ho0 (Kd.R_lt (zR HO361.out))) (below_size (zB HB.out))); have n2_ := Aside0.mk (below_step (zB HB.out) hb); clear HO361; clear HB; have HO361 := n0_; have HO369 := n1_; have HB := n2_; clear n0_ n1_ n2_; (try clear hb); (try clear hb2); (try clear hk); (try clear hi); (try clear ho0); obtain ⟨Ao30, co30, eo30⟩ := Kd.R_slice HO369.out; subst eo30) | (go_at_call 19; (with_reducible refine (laws_sameLights.calls k _ _ t366 _ _ t359 t370 _ ?side1 ?side2 ?side3 ?side4 A24.out).mono ?_); (case side1 => exact zC (Kd.R_reads' HO369.out).2.2); (case side2 => exact (Kd.R_reads' HO369.out).2.1); (case side3 => exact zC (Kd.R_reads' HO361.out).2.2); (case side4 => exact (Kd.R_reads' HO361.out).2.1); rintro e w' ⟨rfl, ⟨nd, rfl⟩⟩))
     go_ret
     exact ⟨by first | rfl | (simp [errW_none, errW_some] <;> rfl) | (simp [*, errW_none, errW_some] <;> rfl), zB HB.out⟩
    ·replace c23 := Bool.eq_false_iff.mpr c23
     subst c23
     have H1 : (some false) = some r := by rw [if_neg (show ¬ (false = true) by decide)] at H; exact H
     clear H
     have H := H1
     clear H1
     obtain rfl := Option.some.inj H
     go_enter Tryd.func5, Tryd.ntmps5
     go_wp2_with (first | ((with_reducible refine gate_callee (f := 16) rfl ?_); refine goesL_ (some 13) rfl rfl Tryd.func16 (by kernel_rfl) rfl #[.slice A0 l0.length c0] rfl zA ?_; (with_reducible refine (spec_DrawScriptText.calls k _ _ l0 t358 t359 _ ?side1 ?side2 A3.out).mono ?_); (case side1 => exact zC HR0.out); (case side2 => exact HC0.out); rintro e w31 ⟨v360, rfl, ho0, hb⟩; refine ⟨_, rfl, ?_⟩; have n0_ := Aside0.mk (Kd.R_lower ho0 (below_size (zB HB.out))); have n1_ := Aside0.mk (below_step (zB HB.out) hb); clear HB; have HO361 := n0_; have HB := n1_; clear n0_ n1_; (try clear hb); (try clear hb2); (try clear hk); (try clear hi); (try clear ho0); obtain ⟨Ao32, co32, eo32⟩ := Kd.R_slice HO361.out; subst eo32) | ((with_reducible refine gate_callee (f := 10) rfl ?_); refine goesL_ (some 18) rfl rfl Tryd.func10 (by kernel_rfl) rfl #[.int .i64 t358, .slice Ao32 t359.length co32] rfl zA ?_; (with_reducible refine (impl_ScriptText.calls k t358 _ _ t359 t362 _ ?side1 ?side2 A4.out).mono ?_); (case side1 => exact zC (Kd.R_reads' HO361.out).2.2); (case side2 => exact (Kd.R_reads' HO361.out).2.1); rintro e w33 ⟨rfl, hb⟩; refine ⟨_, rfl, ?_⟩; have n0_ := Aside0.mk (Kd.R_below (zR HO361.out) hb); have n1_ := Aside0.mk (below_step (zB HB.out) hb); clear HO361; clear HB; have HO361 := n0_; have HB := n1_; clear n0_ n1_; (try clear hb); (try clear hb2); (try clear hk); (try clear hi)) | ((with_reducible refine gate_callee (f := 8) rfl ?_); refine goesL_ (some 22) rfl rfl Tryd.func8 (by kernel_rfl) rfl #[.int .i64 t358, .slice Ao32 t359.length co32] rfl zA ?_; (with_reducible refine (spec_ScriptText.calls k t358 _ _ t359 t363 _ ?side1 ?side2 A5.out).mono ?_); (case side1 => exact zC (Kd.R_reads' HO361.out).2.2); (case side2 => exact (Kd.R_reads' HO361.out).2.1); rintro e w34 ⟨rfl, hb⟩; refine ⟨_, rfl, ?_⟩; have n0_ := Aside0.mk (Kd.R_below (zR HO361.out) hb); have n1_ := Aside0.mk (below_step (zB HB.out) hb); clear HO361; clear HB; have HO361 := n0_; have HB := n1_; clear n0_ n1_; (try clear hb); (try clear hb2); (try clear hk); (try clear hi)) | ((with_reducible refine gate_callee (f := 13) rfl ?_); refine goesL_ (some 36) rfl rfl Tryd.func13 (by kernel_rfl) rfl #[.int .i64 t358, .string t362] rfl zA ?_; (with_reducible refine (impl_ReadScript.calls k t358 t362 t366 false _ (HV.out.below (zB HB.out)) A22.out).mono ?_); rintro e w35 ⟨v368, rfl, ho0, hb⟩; refine ⟨_, rfl, ?_⟩; have n0_ := Aside0.mk (Kd.R_elder' (zR HO361.out) (Kd.R_base ho0) hb); have n1_ := Aside0.mk (Kd.R_lower (Kd.R_new' ho0 (Kd.R_lt (zR HO361.out))) (below_size (zB HB.out))); have n2_ := Aside0.mk (below_step (zB HB.out) hb); clear HO361; clear HB; have HO361 := n0_; have HO369 := n1_; have HB := n2_; clear n0_ n1_ n2_; (try clear hb); (try clear hb2); (try clear hk); (try clear hi); (try clear ho0)))
     go_ret
     exact ⟨by first | rfl | (simp [errW_none, errW_some] <;> rfl) | (simp [*, errW_none, errW_some] <;> rfl), zB HB.out⟩
  ·rw [if_neg c6] at H
   have c6b0 : (t362.toList == t363.toList) = false := beq_eq_false_iff_ne.mpr c6
   have c6b1 : (t362.toList != t363.toList) = true := bne_iff_ne.mpr c6
   obtain rfl := Option.some.inj H
   go_enter Tryd.func5, Tryd.ntmps5
   go_wp2_with (first | ((with_reducible refine gate_callee (f := 16) rfl ?_); refine goesL_ (some 13) rfl rfl Tryd.func16 (by kernel_rfl) rfl #[.slice A0 l0.length c0] rfl zA ?_; (with_reducible refine (spec_DrawScriptText.calls k _ _ l0 t358 t359 _ ?side1 ?side2 A3.out).mono ?_); (case side1 => exact zC HR0.out); (case side2 => exact HC0.out); rintro e w36 ⟨v360, rfl, ho0, hb⟩; refine ⟨_, rfl, ?_⟩; have n0_ := Aside0.mk (Kd.R_lower ho0 (below_size (zB HB.out))); have n1_ := Aside0.mk (below_step (zB HB.out) hb); clear HB; have HO361 := n0_; have HB := n1_; clear n0_ n1_; (try clear hb); (try clear hb2); (try clear hk); (try clear hi); (try clear ho0); obtain ⟨Ao37, co37, eo37⟩ := Kd.R_slice HO361.out; subst eo37) | ((with_reducible refine gate_callee (f := 10) rfl ?_); refine goesL_ (some 18) rfl rfl Tryd.func10 (by kernel_rfl) rfl #[.int .i64 t358, .slice Ao37 t359.length co37] rfl zA ?_; (with_reducible refine (impl_ScriptText.calls k t358 _ _ t359 t362 _ ?side1 ?side2 A4.out).mono ?_); (case side1 => exact zC (Kd.R_reads' HO361.out).2.2); (case side2 => exact (Kd.R_reads' HO361.out).2.1); rintro e w38 ⟨rfl, hb⟩; refine ⟨_, rfl, ?_⟩; have n0_ := Aside0.mk (Kd.R_below (zR HO361.out) hb); have n1_ := Aside0.mk (below_step (zB HB.out) hb); clear HO361; clear HB; have HO361 := n0_; have HB := n1_; clear n0_ n1_; (try clear hb); (try clear hb2); (try clear hk); (try clear hi)) | ((with_reducible refine gate_callee (f := 8) rfl ?_); refine goesL_ (some 22) rfl rfl Tryd.func8 (by kernel_rfl) rfl #[.int .i64 t358, .slice Ao37 t359.length co37] rfl zA ?_; (with_reducible refine (spec_ScriptText.calls k t358 _ _ t359 t363 _ ?side1 ?side2 A5.out).mono ?_); (case side1 => exact zC (Kd.R_reads' HO361.out).2.2); (case side2 => exact (Kd.R_reads' HO361.out).2.1); rintro e w39 ⟨rfl, hb⟩; refine ⟨_, rfl, ?_⟩; have n0_ := Aside0.mk (Kd.R_below (zR HO361.out) hb); have n1_ := Aside0.mk (below_step (zB HB.out) hb); clear HO361; clear HB; have HO361 := n0_; have HB := n1_; clear n0_ n1_; (try clear hb); (try clear hb2); (try clear hk); (try clear hi)))
   go_ret
   exact ⟨by first | rfl | (simp [errW_none, errW_some] <;> rfl) | (simp [*, errW_none, errW_some] <;> rfl), zB HB.out⟩

/-- THE ONE PURE STATEMENT of laws_FnScriptText: yours. -/
def laws_FnScriptText.Pure : Prop := ∀ (l0 : List Int), l0.length ≤ maxLen → l0.length * 1 ≤ 140737488351232 → (∀ x ∈ l0, (Lit.int .u8 x).wf = true) → ∃ k, laws_FnScriptText.f k l0 = some true
theorem laws_FnScriptText.walk (P : laws_FnScriptText.Pure) (a0 : Option Addr) (len0 cap0 : Nat) (z0 : List Int) (w : World) (hv : Vars w) (w0 : (a0 = none ∧ len0 = 0 ∧ cap0 = 0 ∧ z0 = []) ∨ ∃ x, a0 = some x ∧ len0 ≤ cap0 ∧ cap0 ≤ maxLen ∧ z0.length = cap0 ∧ (∀ i, i < z0.length → w.cell? (x.add i) = some (.int .u8 (z0.getD i 0))) ∧ ∀ n ∈ z0, (Lit.int .u8 n).wf = true) (y0 : len0 * 1 ≤ 140737488351232) :
  Calls Tryd.prog 5 #[.slice a0 len0 cap0] w fun e w' => e = .returned (.bool true) ∧ Below w.heap.size w w' := by
 obtain ⟨l0, rfl, hr0, hm0, hw0, hc0⟩ := ReadsInt.ofRowC w0
 obtain ⟨k, h⟩ := P l0 hm0 y0 hw0
 refine (laws_FnScriptText.calls k _ _ l0 true w hv (Kd.C_of_reads (d := (0 : Int)) (h1 := fun _ => rfl) hr0) hc0 h).mono ?_
 rintro e w' ⟨rfl, hd⟩
 exact ⟨rfl, hd⟩

end Go.Proofs.YtmkakbimlnigbaaDoor.PAll
