/- Own text of this session, written by a program of this session (wip/t/own.py) out of what the kit tells of the functions: each Go function as a Lean function, and the walk through its code. -/
import Derived.Test.YtbanhinbndeboaaT
import Derived.Test.YtbanhinbndeboaaF0
import Derived.Test.YtbanhinbndeboaaF10
import Derived.Test.YtbanhinbndeboaaF3
import Derived.Test.YtbanhinbndeboaaF5
namespace Go.Proofs.Ytbanhinbndeboaa.PAll
open Go.RowKit Go.Proofs.YtbanhinbndeboaaW.PrintWords Go.Proofs.YtbanhinbndeboaaW.PrintLast Go.Proofs.YtbanhinbndeboaaW.PrintMore
attribute [local go_sem] max2_int min2_int max_two min_two max_three min_three max_four min_four   -- for this text's walks alone
set_option linter.unusedVariables false
set_option linter.unusedSimpArgs false

/-! ### laws_FnScriptRun: function 5 -/
def laws_FnScriptRun.l0 : Nat → List Int → Int → List Int → List (S40) → Int → List Int → List (S40) → Int → Option (Bool)
 | 0, _, _, _, _, _, _, _, _ => none
 | k + 1, x3, x4, x5, x6, x7, x8, x9, x10 => if x10 < (x6.length : Int) then (if 0 ≤ x10 then (if ((rd_T40 x6 x10).f0) < x7 then (if x9.length < 8796093022208 then (laws_FnScriptRun.l0 k x3 x4 x5 x6 x7 x8 (x9 ++ [(⟨(rd_T40 x6 x10).f0, (rd_T40 x6 x10).f1⟩ : S40)]) (wrap64 (x10 + 1))) else (none)) else (laws_FnScriptRun.l0 k x3 x4 x5 x6 x7 x8 x9 (wrap64 (x10 + 1)))) else (none)) else ((impl_ScriptRun.f k x3 x4 x5 (([] : List (S40))) x7).bind fun t632 => ((impl_FireRun.f k x3 x4 x5 x7).bind fun t635 => ((laws_sameInts.f k t632 t635).bind fun t638 => (if t638 = true then ((impl_ScriptRun.f k x3 x4 x5 x9 x7).bind fun t639 => ((laws_sameInts.f k t639 x8).bind fun t642 => (if t642 = true then ((impl_StateOk.f k x4 x8).bind fun t643 => (some t643)) else (some false)))) else (some false)))))
def laws_FnScriptRun.f (k : Nat) (l0 : List Int) : Option (Bool) := if (l0.length : Int) > 1048576 then (some true) else ((spec_DrawScriptRun.f k l0).bind fun bt602 => ((impl_ScriptRun.f k bt602.1 bt602.2.1 bt602.2.2.1 bt602.2.2.2.1 bt602.2.2.2.2).bind fun t613 => ((spec_ScriptRun.f k bt602.1 bt602.2.1 bt602.2.2.1 bt602.2.2.2.1 bt602.2.2.2.2).bind fun t616 => ((laws_sameInts.f k t613 t616).bind fun t619 => (if t619 = true then (if (t613.length : Int) = 0 then ((laws_alive.f k).bind fun t620 => (some t620)) else (laws_FnScriptRun.l0 k bt602.1 bt602.2.1 bt602.2.2.1 bt602.2.2.2.1 bt602.2.2.2.2 t613 (([] : List (S40))) 0)) else (some false))))))
theorem laws_FnScriptRun.mono_l : ∀ k, (∀ y0 y1 y2 y3 y4 y5 y6 y7, LeO (laws_FnScriptRun.l0 k y0 y1 y2 y3 y4 y5 y6 y7) (laws_FnScriptRun.l0 (k + 1) y0 y1 y2 y3 y4 y5 y6 y7))
 | 0 => fun _ _ _ _ _ _ _ _ r h => by simp [laws_FnScriptRun.l0] at h
 | k + 1 => by
  have ih0 := laws_FnScriptRun.mono_l k
  ·intro y0 y1 y2 y3 y4 y5 y6 y7
   unfold laws_FnScriptRun.l0
   repeat' first
   | (with_reducible exact ih0 _ _ _ _ _ _ _ _)
   | (with_reducible exact impl_FireRun.mono _ _ _ _ _)
   | (with_reducible exact impl_ScriptRun.mono _ _ _ _ _ _)
   | (with_reducible exact impl_StateOk.mono _ _ _)
   | (with_reducible exact laws_alive.mono _)
   | (with_reducible exact laws_sameInts.mono _ _ _)
   | (with_reducible exact spec_DrawScriptRun.mono _ _)
   | (with_reducible exact spec_ScriptRun.mono _ _ _ _ _ _)
   | (with_reducible exact LeO.refl _)
   | (with_reducible exact LeO.none _)
   | (with_reducible refine LeO.ite ?_ ?_)
   | (with_reducible refine LeO.bind ?_ (fun _ => ?_))
   | exact ih0 _ _ _ _ _ _ _ _
   | exact impl_FireRun.mono _ _ _ _ _
   | exact impl_ScriptRun.mono _ _ _ _ _ _
   | exact impl_StateOk.mono _ _ _
   | exact laws_alive.mono _
   | exact laws_sameInts.mono _ _ _
   | exact spec_DrawScriptRun.mono _ _
   | exact spec_ScriptRun.mono _ _ _ _ _ _
   | exact LeO.none _
   | refine LeO.ite ?_ ?_
   | refine LeO.bind ?_ (fun _ => ?_)
theorem laws_FnScriptRun.mono : ∀ a0 k, LeO (laws_FnScriptRun.f k a0) (laws_FnScriptRun.f (k + 1) a0) := by
 intro a0 k
 have ih0 := laws_FnScriptRun.mono_l k
 unfold laws_FnScriptRun.f
 repeat' first
   | (with_reducible exact ih0 _ _ _ _ _ _ _ _)
   | (with_reducible exact impl_FireRun.mono _ _ _ _ _)
   | (with_reducible exact impl_ScriptRun.mono _ _ _ _ _ _)
   | (with_reducible exact impl_StateOk.mono _ _ _)
   | (with_reducible exact laws_alive.mono _)
   | (with_reducible exact laws_sameInts.mono _ _ _)
   | (with_reducible exact spec_DrawScriptRun.mono _ _)
   | (with_reducible exact spec_ScriptRun.mono _ _ _ _ _ _)
   | (with_reducible exact LeO.refl _)
   | (with_reducible exact LeO.none _)
   | (with_reducible refine LeO.ite ?_ ?_)
   | (with_reducible refine LeO.bind ?_ (fun _ => ?_))
   | exact ih0 _ _ _ _ _ _ _ _
   | exact impl_FireRun.mono _ _ _ _ _
   | exact impl_ScriptRun.mono _ _ _ _ _ _
   | exact impl_StateOk.mono _ _ _
   | exact laws_alive.mono _
   | exact laws_sameInts.mono _ _ _
   | exact spec_DrawScriptRun.mono _ _
   | exact spec_ScriptRun.mono _ _ _ _ _ _
   | exact LeO.none _
   | refine LeO.ite ?_ ?_
   | refine LeO.bind ?_ (fun _ => ?_)
set_option maxHeartbeats 8000000 in
set_option maxRecDepth 100000 in
theorem laws_FnScriptRun.calls (k : Nat) (A0 : Option Addr) (c0 : Nat) (l0 : List Int) (r : Bool) (w : World) (hr0 : Kd.C (Kd.int .u8) w A0 l0.length l0) (hc0 : l0.length ≤ c0) (h : laws_FnScriptRun.f k l0 = some r) :
  Calls Try.prog 5 #[.slice A0 l0.length c0] w fun e w' => e = .returned (.bool r) ∧ Below w.heap.size w w' := by
 have hu40 := Try.underlying40
 have HR0 := Aside0.mk hr0
 have HC0 := Aside0.mk hc0
 clear hr0 hc0
 have HB := Aside0.mk (Below.refl w.heap.size w)
 have H : (if (l0.length : Int) > 1048576 then (some true) else ((spec_DrawScriptRun.f k l0).bind fun bt602 => ((impl_ScriptRun.f k bt602.1 bt602.2.1 bt602.2.2.1 bt602.2.2.2.1 bt602.2.2.2.2).bind fun t613 => ((spec_ScriptRun.f k bt602.1 bt602.2.1 bt602.2.2.1 bt602.2.2.2.1 bt602.2.2.2.2).bind fun t616 => ((laws_sameInts.f k t613 t616).bind fun t619 => (if t619 = true then (if (t613.length : Int) = 0 then ((laws_alive.f k).bind fun t620 => (some t620)) else (laws_FnScriptRun.l0 k bt602.1 bt602.2.1 bt602.2.2.1 bt602.2.2.2.1 bt602.2.2.2.2 t613 (([] : List (S40))) 0)) else (some false))))))) = some r := h
 clear h
 by_cases c2 : (l0.length : Int) > 1048576
 ·rw [if_pos c2] at H
  have c2b0 : decide (1048576 < (l0.length : Int)) = true := decide_eq_true c2
  have c2b1 : decide (1048576 < l0.length) = true := decide_eq_true (by omega)
  clear c2
  obtain rfl := Option.some.inj H
  go_enter Try.func5, Try.ntmps5
  go_wp2
  go_ret
  exact ⟨by first | rfl | (simp [errW_none, errW_some] <;> rfl) | (simp [*, errW_none, errW_some] <;> rfl), zB HB.out⟩
 ·rw [if_neg c2] at H
  have c2b0 : decide (1048576 < (l0.length : Int)) = false := decide_eq_false c2
  have c2b1 : decide (1048576 < l0.length) = false := decide_eq_false (by omega)
  clear c2
  replace H := Option.bind_eq_some_iff.mp H
  obtain ⟨⟨t602, t603, t604, t605, t606⟩, A30, H⟩ := H
  replace H : ((impl_ScriptRun.f k t602 t603 t604 t605 t606).bind fun t613 => ((spec_ScriptRun.f k t602 t603 t604 t605 t606).bind fun t616 => ((laws_sameInts.f k t613 t616).bind fun t619 => (if t619 = true then (if (t613.length : Int) = 0 then ((laws_alive.f k).bind fun t620 => (some t620)) else (laws_FnScriptRun.l0 k t602 t603 t604 t605 t606 t613 (([] : List (S40))) 0)) else (some false))))) = some r := H
  have A3 := Aside0.mk A30
  clear A30
  replace H := Option.bind_eq_some_iff.mp H
  obtain ⟨t613, A40, H⟩ := H
  replace H : ((spec_ScriptRun.f k t602 t603 t604 t605 t606).bind fun t616 => ((laws_sameInts.f k t613 t616).bind fun t619 => (if t619 = true then (if (t613.length : Int) = 0 then ((laws_alive.f k).bind fun t620 => (some t620)) else (laws_FnScriptRun.l0 k t602 t603 t604 t605 t606 t613 (([] : List (S40))) 0)) else (some false)))) = some r := H
  have A4 := Aside0.mk A40
  clear A40
  replace H := Option.bind_eq_some_iff.mp H
  obtain ⟨t616, A50, H⟩ := H
  replace H : ((laws_sameInts.f k t613 t616).bind fun t619 => (if t619 = true then (if (t613.length : Int) = 0 then ((laws_alive.f k).bind fun t620 => (some t620)) else (laws_FnScriptRun.l0 k t602 t603 t604 t605 t606 t613 (([] : List (S40))) 0)) else (some false))) = some r := H
  have A5 := Aside0.mk A50
  clear A50
  replace H := Option.bind_eq_some_iff.mp H
  obtain ⟨t619, A60, H⟩ := H
  replace H : (if t619 = true then (if (t613.length : Int) = 0 then ((laws_alive.f k).bind fun t620 => (some t620)) else (laws_FnScriptRun.l0 k t602 t603 t604 t605 t606 t613 (([] : List (S40))) 0)) else (some false)) = some r := H
  have A6 := Aside0.mk A60
  clear A60
  by_cases c7 : t619 = true
  ·subst c7
   have H1 : (if (t613.length : Int) = 0 then ((laws_alive.f k).bind fun t620 => (some t620)) else (laws_FnScriptRun.l0 k t602 t603 t604 t605 t606 t613 (([] : List (S40))) 0)) = some r := by rw [if_pos rfl] at H; exact H
   clear H
   have H := H1
   clear H1
   by_cases c8 : (t613.length : Int) = 0
   ·rw [if_pos c8] at H
    have c8b0 : ((t613.length : Int) == 0) = true := beq_iff_eq.mpr c8
    have c8b1 : ((t613.length : Int) != 0) = false := bne_eq_false_iff_eq.mpr c8
    clear c8
    replace H := Option.bind_eq_some_iff.mp H
    obtain ⟨t620, A90, H⟩ := H
    replace H : (some t620) = some r := H
    have A9 := Aside0.mk A90
    clear A90
    obtain rfl := Option.some.inj H
    go_enter Try.func5, Try.ntmps5
    go_wp2_with (first | ((with_reducible refine gate_callee (f := 18) rfl ?_); refine goesL_ (some 16) rfl rfl Try.func18 (by kernel_rfl) rfl #[.slice A0 l0.length c0] rfl zA ?_; (with_reducible refine (spec_DrawScriptRun.calls k _ _ l0 t602 t603 t604 t605 t606 _ ?side1 ?side2 A3.out).mono ?_); (case side1 => exact zC HR0.out); (case side2 => exact HC0.out); rintro e w10 ⟨v607, v609, v611, rfl, ho0, ho1, ho2, hb⟩; refine ⟨_, rfl, ?_⟩; have n0_ := Aside0.mk (Kd.R_lower ho0 (below_size (zB HB.out))); have n1_ := Aside0.mk (Kd.R_lower ho1 (below_size (zB HB.out))); have n2_ := Aside0.mk (Kd.R_lower ho2 (below_size (zB HB.out))); have n3_ := Aside0.mk (below_step (zB HB.out) hb); clear HB; have HO608 := n0_; have HO610 := n1_; have HO612 := n2_; have HB := n3_; clear n0_ n1_ n2_ n3_; (try clear hb); (try clear hb2); (try clear hk); (try clear hi); (try clear ho0); (try clear ho1); (try clear ho2); obtain ⟨Ao11, co11, eo11⟩ := Kd.R_slice HO608.out; subst eo11; obtain ⟨Ao12, co12, eo12⟩ := Kd.R_slice HO610.out; subst eo12; obtain ⟨Ao13, co13, eo13⟩ := Kd.R_slice HO612.out; subst eo13) | ((with_reducible refine gate_callee (f := 19) rfl ?_); refine goesL_ (some 27) rfl rfl Try.func19 (by kernel_rfl) rfl #[.slice Ao11 t602.length co11, .int .i64 t603, .slice Ao12 t604.length co12, .slice Ao13 t605.length co13, .int .i64 t606] rfl zA ?_; (with_reducible refine (impl_ScriptRun.calls k _ _ t602 t603 _ _ t604 _ _ t605 t606 t613 _ ?side1 ?side2 ?side3 ?side4 ?side5 ?side6 A4.out).mono ?_); (case side1 => exact zC (Kd.R_reads' HO608.out).2.2); (case side2 => exact (Kd.R_reads' HO608.out).2.1); (case side3 => exact zC (Kd.R_reads' HO610.out).2.2); (case side4 => exact (Kd.R_reads' HO610.out).2.1); (case side5 => exact zC (Kd.R_reads' HO612.out).2.2); (case side6 => exact (Kd.R_reads' HO612.out).2.1); rintro e w14 ⟨v614, rfl, ho0, hb⟩; refine ⟨_, rfl, ?_⟩; have n0_ := Aside0.mk (Kd.R_elder' (zR HO608.out) (Kd.R_base ho0) hb); have n1_ := Aside0.mk (Kd.R_elder' (zR HO610.out) (Kd.R_base ho0) hb); have n2_ := Aside0.mk (Kd.R_below (zR HO612.out) hb); have n3_ := Aside0.mk (Kd.R_lower (Kd.R_new' (Kd.R_new' ho0 (Kd.R_lt (zR HO608.out))) (Kd.R_lt (zR HO610.out))) (below_size (zB HB.out))); have n4_ := Aside0.mk (below_step (zB HB.out) hb); clear HO608; clear HO610; clear HO612; clear HB; have HO608 := n0_; have HO610 := n1_; have HO612 := n2_; have HO615 := n3_; have HB := n4_; clear n0_ n1_ n2_ n3_ n4_; (try clear hb); (try clear hb2); (try clear hk); (try clear hi); (try clear ho0)) | ((with_reducible refine gate_callee (f := 20) rfl ?_); refine goesL_ (some 34) rfl rfl Try.func20 (by kernel_rfl) rfl #[.slice Ao11 t602.length co11, .int .i64 t603, .slice Ao12 t604.length co12, .slice Ao13 t605.length co13, .int .i64 t606] rfl zA ?_; (with_reducible refine (spec_ScriptRun.calls k _ _ t602 t603 _ _ t604 _ _ t605 t606 t616 _ ?side1 ?side2 ?side3 ?side4 ?side5 ?side6 A5.out).mono ?_); (case side1 => exact zC (Kd.R_reads' HO608.out).2.2); (case side2 => exact (Kd.R_reads' HO608.out).2.1); (case side3 => exact zC (Kd.R_reads' HO610.out).2.2); (case side4 => exact (Kd.R_reads' HO610.out).2.1); (case side5 => exact zC (Kd.R_reads' HO612.out).2.2); (case side6 => exact (Kd.R_reads' HO612.out).2.1); rintro e w15 ⟨v617, rfl, ho0, hb⟩; refine ⟨_, rfl, ?_⟩; have n0_ := Aside0.mk (Kd.R_elder' (zR HO608.out) (Kd.R_base ho0) hb); have n1_ := Aside0.mk (Kd.R_elder' (zR HO610.out) (Kd.R_base ho0) hb); have n2_ := Aside0.mk (Kd.R_below (zR HO612.out) hb); have n3_ := Aside0.mk (Kd.R_elder' (zR HO615.out) (Kd.R_base ho0) hb); have n4_ := Aside0.mk (Kd.R_lower (Kd.R_new' (Kd.R_new' (Kd.R_new' ho0 (Kd.R_lt (zR HO608.out))) (Kd.R_lt (zR HO610.out))) (Kd.R_lt (zR HO615.out))) (below_size (zB HB.out))); have n5_ := Aside0.mk (below_step (zB HB.out) hb); clear HO608; clear HO610; clear HO612; clear HO615; clear HB; have HO608 := n0_; have HO610 := n1_; have HO612 := n2_; have HO615 := n3_; have HO618 := n4_; have HB := n5_; clear n0_ n1_ n2_ n3_ n4_ n5_; (try clear hb); (try clear hb2); (try clear hk); (try clear hi); (try clear ho0); obtain ⟨Ao16, co16, eo16⟩ := Kd.R_slice HO615.out; subst eo16; obtain ⟨Ao17, co17, eo17⟩ := Kd.R_slice HO618.out; subst eo17) | ((with_reducible refine gate_callee (f := 9) rfl ?_); refine goesL_ (some 35) rfl rfl Try.func9 (by kernel_rfl) rfl #[.slice Ao16 t613.length co16, .slice Ao17 t616.length co17] rfl zA ?_; (with_reducible refine (laws_sameInts.calls k _ _ t613 _ _ t616 true _ ?side1 ?side2 ?side3 ?side4 A6.out).mono ?_); (case side1 => exact zC (Kd.R_reads' HO615.out).2.2); (case side2 => exact (Kd.R_reads' HO615.out).2.1); (case side3 => exact zC (Kd.R_reads' HO618.out).2.2); (case side4 => exact (Kd.R_reads' HO618.out).2.1); rintro e w' ⟨rfl, ⟨nd, rfl⟩⟩; refine ⟨_, rfl, ?_⟩) | ((with_reducible refine gate_callee (f := 11) rfl ?_); refine goesL_ (some 40) rfl rfl Try.func11 (by kernel_rfl) rfl #[] rfl zA ?_; (with_reducible refine (laws_alive.calls k  t620 _ A9.out).mono ?_); rintro e w18 ⟨rfl, hb⟩; refine ⟨_, rfl, ?_⟩; have n0_ := Aside0.mk (Kd.R_below (zR HO608.out) hb); have n1_ := Aside0.mk (Kd.R_below (zR HO610.out) hb); have n2_ := Aside0.mk (Kd.R_below (zR HO612.out) hb); have n3_ := Aside0.mk (Kd.R_below (zR HO615.out) hb); have n4_ := Aside0.mk (Kd.R_below (zR HO618.out) hb); have n5_ := Aside0.mk (below_step (zB HB.out) hb); clear HO608; clear HO610; clear HO612; clear HO615; clear HO618; clear HB; have HO608 := n0_; have HO610 := n1_; have HO612 := n2_; have HO615 := n3_; have HO618 := n4_; have HB := n5_; clear n0_ n1_ n2_ n3_ n4_ n5_; (try clear hb); (try clear hb2); (try clear hk); (try clear hi)))
    go_ret
    exact ⟨by first | rfl | (simp [errW_none, errW_some] <;> rfl) | (simp [*, errW_none, errW_some] <;> rfl), zB HB.out⟩
   ·rw [if_neg c8] at H
    have c8b0 : ((t613.length : Int) == 0) = false := beq_eq_false_iff_ne.mpr c8
    have c8b1 : ((t613.length : Int) != 0) = true := bne_iff_ne.mpr c8
    have c8b2 : ¬ (t613 = []) := fun h_ => c8 (by rw [h_]; rfl)
    obtain ⟨y621, hy621⟩ : ∃ y_ : List (S40), y_ = (([] : List (S40))) := ⟨_, rfl⟩
    replace H : (laws_FnScriptRun.l0 k t602 t603 t604 t605 t606 t613 y621 0) = some r := by first | (rw [hy621]; with_reducible exact H) | (have H2_ := (Option.bind_some _ _).symm.trans H; rw [hy621]; with_reducible exact H2_) | (have H2_ := (Option.bind_some _ _).symm.trans H; with_reducible exact H2_) | with_reducible exact H | (rw [hy621]; exact H) | exact H
    have Ny621 := Aside0.mk hy621
    clear hy621
    have H' := Aside0.mk H
    clear H
    go_enter Try.func5, Try.ntmps5
    go_wp2_with (first | ((with_reducible refine gate_callee (f := 18) rfl ?_); refine goesL_ (some 16) rfl rfl Try.func18 (by kernel_rfl) rfl #[.slice A0 l0.length c0] rfl zA ?_; (with_reducible refine (spec_DrawScriptRun.calls k _ _ l0 t602 t603 t604 t605 t606 _ ?side1 ?side2 A3.out).mono ?_); (case side1 => exact zC HR0.out); (case side2 => exact HC0.out); rintro e w19 ⟨v607, v609, v611, rfl, ho0, ho1, ho2, hb⟩; refine ⟨_, rfl, ?_⟩; have n0_ := Aside0.mk (Kd.R_lower ho0 (below_size (zB HB.out))); have n1_ := Aside0.mk (Kd.R_lower ho1 (below_size (zB HB.out))); have n2_ := Aside0.mk (Kd.R_lower ho2 (below_size (zB HB.out))); have n3_ := Aside0.mk (below_step (zB HB.out) hb); clear HB; have HO608 := n0_; have HO610 := n1_; have HO612 := n2_; have HB := n3_; clear n0_ n1_ n2_ n3_; (try clear hb); (try clear hb2); (try clear hk); (try clear hi); (try clear ho0); (try clear ho1); (try clear ho2); obtain ⟨Ao20, co20, eo20⟩ := Kd.R_slice HO608.out; subst eo20; obtain ⟨Ao21, co21, eo21⟩ := Kd.R_slice HO610.out; subst eo21; obtain ⟨Ao22, co22, eo22⟩ := Kd.R_slice HO612.out; subst eo22) | ((with_reducible refine gate_callee (f := 19) rfl ?_); refine goesL_ (some 27) rfl rfl Try.func19 (by kernel_rfl) rfl #[.slice Ao20 t602.length co20, .int .i64 t603, .slice Ao21 t604.length co21, .slice Ao22 t605.length co22, .int .i64 t606] rfl zA ?_; (with_reducible refine (impl_ScriptRun.calls k _ _ t602 t603 _ _ t604 _ _ t605 t606 t613 _ ?side1 ?side2 ?side3 ?side4 ?side5 ?side6 A4.out).mono ?_); (case side1 => exact zC (Kd.R_reads' HO608.out).2.2); (case side2 => exact (Kd.R_reads' HO608.out).2.1); (case side3 => exact zC (Kd.R_reads' HO610.out).2.2); (case side4 => exact (Kd.R_reads' HO610.out).2.1); (case side5 => exact zC (Kd.R_reads' HO612.out).2.2); (case side6 => exact (Kd.R_reads' HO612.out).2.1); rintro e w23 ⟨v614, rfl, ho0, hb⟩; refine ⟨_, rfl, ?_⟩; have n0_ := Aside0.mk (Kd.R_elder' (zR HO608.out) (Kd.R_base ho0) hb); have n1_ := Aside0.mk (Kd.R_elder' (zR HO610.out) (Kd.R_base ho0) hb); have n2_ := Aside0.mk (Kd.R_below (zR HO612.out) hb); have n3_ := Aside0.mk (Kd.R_lower (Kd.R_new' (Kd.R_new' ho0 (Kd.R_lt (zR HO608.out))) (Kd.R_lt (zR HO610.out))) (below_size (zB HB.out))); have n4_ := Aside0.mk (below_step (zB HB.out) hb); clear HO608; clear HO610; clear HO612; clear HB; have HO608 := n0_; have HO610 := n1_; have HO612 := n2_; have HO615 := n3_; have HB := n4_; clear n0_ n1_ n2_ n3_ n4_; (try clear hb); (try clear hb2); (try clear hk); (try clear hi); (try clear ho0)) | ((with_reducible refine gate_callee (f := 20) rfl ?_); refine goesL_ (some 34) rfl rfl Try.func20 (by kernel_rfl) rfl #[.slice Ao20 t602.length co20, .int .i64 t603, .slice Ao21 t604.length co21, .slice Ao22 t605.length co22, .int .i64 t606] rfl zA ?_; (with_reducible refine (spec_ScriptRun.calls k _ _ t602 t603 _ _ t604 _ _ t605 t606 t616 _ ?side1 ?side2 ?side3 ?side4 ?side5 ?side6 A5.out).mono ?_); (case side1 => exact zC (Kd.R_reads' HO608.out).2.2); (case side2 => exact (Kd.R_reads' HO608.out).2.1); (case side3 => exact zC (Kd.R_reads' HO610.out).2.2); (case side4 => exact (Kd.R_reads' HO610.out).2.1); (case side5 => exact zC (Kd.R_reads' HO612.out).2.2); (case side6 => exact (Kd.R_reads' HO612.out).2.1); rintro e w24 ⟨v617, rfl, ho0, hb⟩; refine ⟨_, rfl, ?_⟩; have n0_ := Aside0.mk (Kd.R_elder' (zR HO608.out) (Kd.R_base ho0) hb); have n1_ := Aside0.mk (Kd.R_elder' (zR HO610.out) (Kd.R_base ho0) hb); have n2_ := Aside0.mk (Kd.R_below (zR HO612.out) hb); have n3_ := Aside0.mk (Kd.R_elder' (zR HO615.out) (Kd.R_base ho0) hb); have n4_ := Aside0.mk (Kd.R_lower (Kd.R_new' (Kd.R_new' (Kd.R_new' ho0 (Kd.R_lt (zR HO608.out))) (Kd.R_lt (zR HO610.out))) (Kd.R_lt (zR HO615.out))) (below_size (zB HB.out))); have n5_ := Aside0.mk (below_step (zB HB.out) hb); clear HO608; clear HO610; clear HO612; clear HO615; clear HB; have HO608 := n0_; have HO610 := n1_; have HO612 := n2_; have HO615 := n3_; have HO618 := n4_; have HB := n5_; clear n0_ n1_ n2_ n3_ n4_ n5_; (try clear hb); (try clear hb2); (try clear hk); (try clear hi); (try clear ho0); obtain ⟨Ao25, co25, eo25⟩ := Kd.R_slice HO615.out; subst eo25; obtain ⟨Ao26, co26, eo26⟩ := Kd.R_slice HO618.out; subst eo26) | ((with_reducible refine gate_callee (f := 9) rfl ?_); refine goesL_ (some 35) rfl rfl Try.func9 (by kernel_rfl) rfl #[.slice Ao25 t613.length co25, .slice Ao26 t616.length co26] rfl zA ?_; (with_reducible refine (laws_sameInts.calls k _ _ t613 _ _ t616 true _ ?side1 ?side2 ?side3 ?side4 A6.out).mono ?_); (case side1 => exact zC (Kd.R_reads' HO615.out).2.2); (case side2 => exact (Kd.R_reads' HO615.out).2.1); (case side3 => exact zC (Kd.R_reads' HO618.out).2.2); (case side4 => exact (Kd.R_reads' HO618.out).2.1); rintro e w' ⟨rfl, ⟨nd, rfl⟩⟩; refine ⟨_, rfl, ?_⟩) | ((with_reducible refine gate_dst (N := 41) rfl ?_); refine Kd.R_lit k40 _ 40 ?hg (N := 41) ?hd (xs := ([] : List (S40))) (inner := []) (ok := fun _ => True) (okp := fun _ => True) ?hr ?hp (fun _ hk => hk) trivial (Below.refl _ _) (Nat.le_refl _) (by simp) ?_; (case hd => rfl); (case hg => rfl); (case hr => first | (go_simp; done) | (go_simp; rfl)); (case hp => exact (Reps.none _ _)); intro v622 w27 ho28 hb hg_ hnew_; clear hg_ hnew_; (first | rw [← Ny621.out] at ho28 | (simp only [Int.reduceToNat] at ho28; rw [← Ny621.out] at ho28)); have n0_ := Aside0.mk (Kd.R_below (zR HO608.out) hb); have n1_ := Aside0.mk (Kd.R_below (zR HO610.out) hb); have n2_ := Aside0.mk (Kd.R_elder' (zR HO612.out) (Kd.R_base ho28) hb); have n3_ := Aside0.mk (Kd.R_below (zR HO615.out) hb); have n4_ := Aside0.mk (Kd.R_below (zR HO618.out) hb); have n5_ := Aside0.mk (Kd.R_lower (Kd.R_new' ho28 (Kd.R_lt (zR HO612.out))) (below_size (zB HB.out))); have n6_ := Aside0.mk (below_step (zB HB.out) hb); clear HO608; clear HO610; clear HO612; clear HO615; clear HO618; clear HB; have HO608 := n0_; have HO610 := n1_; have HO612 := n2_; have HO615 := n3_; have HO618 := n4_; have HO623 := n5_; have HB := n6_; clear n0_ n1_ n2_ n3_ n4_ n5_ n6_; clear hb ho28))
    go_loopg [9, 10] k (fun kq v9 v10 w' => ∃ (x9_1 : List (S40)) (x10_1 : Int), v10 = .int .i64 x10_1 ∧ Aside0 (laws_FnScriptRun.l0 kq t602 t603 t604 t605 t606 t613 x9_1 x10_1 = some r) ∧ Aside0 (kq ≤ k) ∧ Aside0 (Kd.R (Kd.int .i64) 3 w' w.heap.size (fun k_ => some k_ ≠ ((.slice Ao21 t604.length co21) : Value).ownBlock ∧ some k_ ≠ ((.slice Ao25 t613.length co25) : Value).ownBlock) (.slice Ao20 t602.length co20) t602) ∧ Aside0 (Kd.R (Kd.int .i64) 3 w' w.heap.size (fun k_ => some k_ ≠ ((.slice Ao20 t602.length co20) : Value).ownBlock ∧ some k_ ≠ ((.slice Ao25 t613.length co25) : Value).ownBlock) (.slice Ao21 t604.length co21) t604) ∧ Aside0 (Kd.R k40 40 w' w.heap.size (fun k_ => some k_ ≠ (v9 : Value).ownBlock) (.slice Ao22 t605.length co22) t605) ∧ Aside0 (Kd.R (Kd.int .i64) 3 w' w.heap.size (fun k_ => some k_ ≠ ((.slice Ao20 t602.length co20) : Value).ownBlock ∧ some k_ ≠ ((.slice Ao21 t604.length co21) : Value).ownBlock) (.slice Ao25 t613.length co25) t613) ∧ Aside0 (Kd.R k40 40 w' w.heap.size (fun k_ => some k_ ≠ ((.slice Ao22 t605.length co22) : Value).ownBlock) v9 x9_1) ∧ Aside0 (Below w.heap.size w w'))
    case atStart => exact ⟨(y621), (0), (by first | rfl | (simp; done) | (simp [*]; done)), H', ⟨Nat.le_refl _⟩, ⟨by (with_reducible repeat (first | apply Kd.R_alloc | apply Kd.R_drewN | apply Kd.R_drew)); exact Kd.R_mono HO608.out (fun _ hk => ⟨hk.1.1, hk.1.2⟩)⟩, ⟨by (with_reducible repeat (first | apply Kd.R_alloc | apply Kd.R_drewN | apply Kd.R_drew)); exact Kd.R_mono HO610.out (fun _ hk => ⟨hk.1.1, hk.1.2⟩)⟩, ⟨by (with_reducible repeat (first | apply Kd.R_alloc | apply Kd.R_drewN | apply Kd.R_drew)); exact Kd.R_mono HO612.out (fun _ hk => hk.2)⟩, ⟨by (with_reducible repeat (first | apply Kd.R_alloc | apply Kd.R_drewN | apply Kd.R_drew)); exact Kd.R_mono HO615.out (fun _ hk => ⟨hk.1.1.2, hk.1.2⟩)⟩, ⟨by (with_reducible repeat (first | apply Kd.R_alloc | apply Kd.R_drewN | apply Kd.R_drew)); exact Kd.R_mono HO623.out (fun _ hk => hk.2)⟩, ⟨zB HB.out⟩⟩
    case round =>
     clear H'
     try clear c1
     try clear c2
     try clear c2b0
     try clear c2b1
     try clear p2
     try clear c5
     try clear c7
     try clear c8
     try clear c8b0
     try clear c8b1
     try clear c8b2
     try clear c9
     try clear c11
     try clear c18
     try clear c19
     try clear c20
     obtain ⟨x9_1, x10_1, rfl, HA, HK1, HO_3, HO_5, HO_6, HO_8, HO_9, HB⟩ := hrel
     cases gk with
     | zero => exact absurd HA.out (by simp [laws_FnScriptRun.l0])
     | succ k1 =>
      have H := HA.out
      clear HA
      simp only [laws_FnScriptRun.l0] at H
      by_cases c29 : x10_1 < (t605.length : Int)
      ·rw [if_pos c29] at H
       have c29b0 : decide (x10_1 < (t605.length : Int)) = true := decide_eq_true c29
       clear c29
       by_cases c30 : 0 ≤ x10_1
       ·rw [if_pos c30] at H
        have c30b0 : decide (0 ≤ x10_1) = true := decide_eq_true c30
        clear c30
        by_cases c31 : ((rd_T40 t605 x10_1).f0) < t606
        ·rw [if_pos c31] at H
         have c31b0 : decide (((rd_T40 t605 x10_1).f0) < t606) = true := decide_eq_true c31
         clear c31
         by_cases c32 : x9_1.length < 8796093022208
         ·rw [if_pos c32] at H
          have LMc32 := Aside0.mk c32
          clear c32
          obtain ⟨y626, hy626⟩ : ∃ y_ : List (S40), y_ = (x9_1 ++ [(⟨(rd_T40 t605 x10_1).f0, (rd_T40 t605 x10_1).f1⟩ : S40)]) := ⟨_, rfl⟩
          replace H : (laws_FnScriptRun.l0 k1 t602 t603 t604 t605 t606 t613 y626 (wrap64 (x10_1 + 1))) = some r := by first | (rw [hy626]; with_reducible exact H) | (have H2_ := (Option.bind_some _ _).symm.trans H; rw [hy626]; with_reducible exact H2_) | (have H2_ := (Option.bind_some _ _).symm.trans H; with_reducible exact H2_) | with_reducible exact H | (rw [hy626]; exact H) | exact H
          have Ny626 := Aside0.mk hy626
          clear hy626
          have H' := Aside0.mk H
          clear H
          have p624 : 0 ≤ (x10_1 : Int) := zD
          have q624 : x10_1 < (t605.length : Int) := zD
          obtain ⟨ad624, e624, hx624_0, hx624_1⟩ := at_T40 (Kd.R_reads' HO_6.out).2.2 x10_1 p624 q624
          cases e624
          replace p624 := eq_true p624
          replace q624 := eq_true q624
          have p625 : 0 ≤ (x10_1 : Int) := zD
          have q625 : x10_1 < (t605.length : Int) := zD
          obtain ⟨ad625, e625, hx625_0, hx625_1⟩ := at_T40 (Kd.R_reads' HO_6.out).2.2 x10_1 p625 q625
          obtain rfl : ad624 = ad625 := (by injection e625)
          replace p625 := eq_true p625
          replace q625 := eq_true q625
          go_wp2_with (first | ((with_reducible refine gate_builtin (b := .append) (xs := #[.tmp 55, .tmp 60]) rfl ?_); at_builtin; refine Kd.R_append k40 (w0 := w) w.heap.size rfl (.tmp 55) (.tmp 60) 35 40 (.agg #[(.int .i64 0), (.int .i64 0)]) 16 rfl Try.underlying35 info40 rfl (by decide) (by omega) u9 x9_1 (⟨(rd_T40 t605 x10_1).f0, (rd_T40 t605 x10_1).f1⟩ : S40) [.int .i64 ((rd_T40 t605 x10_1).f0), .int .i64 ((rd_T40 t605 x10_1).f1)] (fun k_ => some k_ ≠ (.slice (some ad624) t605.length co22 : Value).ownBlock) (fun _ => False) rfl rfl ?aP (fun _ hk => hk.elim) ?aF ?aO ?aB ?aS ?aL ?_; (case aP => exact k40_mkM _ _ _ (⟨(rd_T40 t605 x10_1).f0, (rd_T40 t605 x10_1).f1⟩ : S40)); (case aB => exact (zB HB.out)); (case aF => exact (fun k_ hk => Kd.fresh' (Kd.R_lt (zR HO_6.out)) k_ hk)); (case aO => exact (zR HO_9.out)); (case aS => exact (below_size (zB HB.out))); (case aL => have := LMc32.out; omega); intro v627 w33 ho hb hg hat; rw [← Ny626.out] at ho; have n0_ := Aside0.mk (Kd.R_over' (zR HO_3.out) (Kd.R_typed (zR HO_9.out)) (by decide) hg); have n1_ := Aside0.mk (Kd.R_over' (zR HO_5.out) (Kd.R_typed (zR HO_9.out)) (by decide) hg); have n2_ := Aside0.mk (Kd.R_after (ok := (fun _ => True)) (by (with_reducible repeat (first | apply Kd.R_alloc | apply Kd.R_drewN | apply Kd.R_drew)); exact Kd.R_mono HO_6.out (fun _ hk => ⟨trivial, hk⟩)) hg hat); have n3_ := Aside0.mk (Kd.R_over' (zR HO_8.out) (Kd.R_typed (zR HO_9.out)) (by decide) hg); have n4_ := Aside0.mk (hb); have n5_ := Aside0.mk (ho); clear HO_3; clear HO_5; clear HO_6; clear HO_8; clear HB; clear HO_9; have HO_3 := n0_; have HO_5 := n1_; have HO_6 := n2_; have HO_8 := n3_; have HB := n4_; have HO628 := n5_; clear n0_ n1_ n2_ n3_ n4_ n5_; clear ho hb hg hat))
          go_roundg k1
          case measure => have := HK1.out; omega
          case rel => exact ⟨(y626), (wrap64 (x10_1 + 1)), (by first | rfl | (simp; done) | (simp [*]; done)), H', ⟨by have := HK1.out; omega⟩, ⟨by (with_reducible repeat (first | apply Kd.R_alloc | apply Kd.R_drewN | apply Kd.R_drew)); exact HO_3.out⟩, ⟨by (with_reducible repeat (first | apply Kd.R_alloc | apply Kd.R_drewN | apply Kd.R_drew)); exact HO_5.out⟩, ⟨by (with_reducible repeat (first | apply Kd.R_alloc | apply Kd.R_drewN | apply Kd.R_drew)); exact Kd.R_mono HO_6.out (fun _ hk => hk.2)⟩, ⟨by (with_reducible repeat (first | apply Kd.R_alloc | apply Kd.R_drewN | apply Kd.R_drew)); exact HO_8.out⟩, ⟨by (with_reducible repeat (first | apply Kd.R_alloc | apply Kd.R_drewN | apply Kd.R_drew)); exact HO628.out⟩, ⟨zB HB.out⟩⟩
         ·rw [if_neg c32] at H
          exact absurd H (by simp)
        ·rw [if_neg c31] at H
         have c31b0 : decide (((rd_T40 t605 x10_1).f0) < t606) = false := decide_eq_false c31
         clear c31
         have H' := Aside0.mk H
         clear H
         have p624 : 0 ≤ (x10_1 : Int) := zD
         have q624 : x10_1 < (t605.length : Int) := zD
         obtain ⟨ad624, e624, hx624_0, hx624_1⟩ := at_T40 (Kd.R_reads' HO_6.out).2.2 x10_1 p624 q624
         cases e624
         replace p624 := eq_true p624
         replace q624 := eq_true q624
         go_wp2
         go_roundg k1
         case measure => have := HK1.out; omega
         case rel => exact ⟨(x9_1), (wrap64 (x10_1 + 1)), (by first | rfl | (simp; done) | (simp [*]; done)), H', ⟨by have := HK1.out; omega⟩, ⟨by (with_reducible repeat (first | apply Kd.R_alloc | apply Kd.R_drewN | apply Kd.R_drew)); exact HO_3.out⟩, ⟨by (with_reducible repeat (first | apply Kd.R_alloc | apply Kd.R_drewN | apply Kd.R_drew)); exact HO_5.out⟩, ⟨by (with_reducible repeat (first | apply Kd.R_alloc | apply Kd.R_drewN | apply Kd.R_drew)); exact HO_6.out⟩, ⟨by (with_reducible repeat (first | apply Kd.R_alloc | apply Kd.R_drewN | apply Kd.R_drew)); exact HO_8.out⟩, ⟨by (with_reducible repeat (first | apply Kd.R_alloc | apply Kd.R_drewN | apply Kd.R_drew)); exact HO_9.out⟩, ⟨zB HB.out⟩⟩
       ·rw [if_neg c30] at H
        exact absurd H (by simp)
      ·rw [if_neg c29] at H
       have c29b0 : decide (x10_1 < (t605.length : Int)) = false := decide_eq_false c29
       clear c29
       obtain ⟨y629, hy629⟩ : ∃ y_ : List (S40), y_ = (([] : List (S40))) := ⟨_, rfl⟩
       replace H : ((impl_ScriptRun.f k1 t602 t603 t604 y629 t606).bind fun t632 => ((impl_FireRun.f k1 t602 t603 t604 t606).bind fun t635 => ((laws_sameInts.f k1 t632 t635).bind fun t638 => (if t638 = true then ((impl_ScriptRun.f k1 t602 t603 t604 x9_1 t606).bind fun t639 => ((laws_sameInts.f k1 t639 t613).bind fun t642 => (if t642 = true then ((impl_StateOk.f k1 t603 t613).bind fun t643 => (some t643)) else (some false)))) else (some false))))) = some r := by first | (rw [hy629]; with_reducible exact H) | (have H2_ := (Option.bind_some _ _).symm.trans H; rw [hy629]; with_reducible exact H2_) | (have H2_ := (Option.bind_some _ _).symm.trans H; with_reducible exact H2_) | with_reducible exact H | (rw [hy629]; exact H) | exact H
       have Ny629 := Aside0.mk hy629
       clear hy629
       replace H := Option.bind_eq_some_iff.mp H
       obtain ⟨t632, A340, H⟩ := H
       replace H : ((impl_FireRun.f k1 t602 t603 t604 t606).bind fun t635 => ((laws_sameInts.f k1 t632 t635).bind fun t638 => (if t638 = true then ((impl_ScriptRun.f k1 t602 t603 t604 x9_1 t606).bind fun t639 => ((laws_sameInts.f k1 t639 t613).bind fun t642 => (if t642 = true then ((impl_StateOk.f k1 t603 t613).bind fun t643 => (some t643)) else (some false)))) else (some false)))) = some r := H
       have A34 := Aside0.mk A340
       clear A340
       replace H := Option.bind_eq_some_iff.mp H
       obtain ⟨t635, A350, H⟩ := H
       replace H : ((laws_sameInts.f k1 t632 t635).bind fun t638 => (if t638 = true then ((impl_ScriptRun.f k1 t602 t603 t604 x9_1 t606).bind fun t639 => ((laws_sameInts.f k1 t639 t613).bind fun t642 => (if t642 = true then ((impl_StateOk.f k1 t603 t613).bind fun t643 => (some t643)) else (some false)))) else (some false))) = some r := H
       have A35 := Aside0.mk A350
       clear A350
       replace H := Option.bind_eq_some_iff.mp H
       obtain ⟨t638, A360, H⟩ := H
       replace H : (if t638 = true then ((impl_ScriptRun.f k1 t602 t603 t604 x9_1 t606).bind fun t639 => ((laws_sameInts.f k1 t639 t613).bind fun t642 => (if t642 = true then ((impl_StateOk.f k1 t603 t613).bind fun t643 => (some t643)) else (some false)))) else (some false)) = some r := H
       have A36 := Aside0.mk A360
       clear A360
       by_cases c37 : t638 = true
       ·subst c37
        have H1 : ((impl_ScriptRun.f k1 t602 t603 t604 x9_1 t606).bind fun t639 => ((laws_sameInts.f k1 t639 t613).bind fun t642 => (if t642 = true then ((impl_StateOk.f k1 t603 t613).bind fun t643 => (some t643)) else (some false)))) = some r := by rw [if_pos rfl] at H; exact H
        clear H
        have H := H1
        clear H1
        replace H := Option.bind_eq_some_iff.mp H
        obtain ⟨t639, A380, H⟩ := H
        replace H : ((laws_sameInts.f k1 t639 t613).bind fun t642 => (if t642 = true then ((impl_StateOk.f k1 t603 t613).bind fun t643 => (some t643)) else (some false))) = some r := H
        have A38 := Aside0.mk A380
        clear A380
        replace H := Option.bind_eq_some_iff.mp H
        obtain ⟨t642, A390, H⟩ := H
        replace H : (if t642 = true then ((impl_StateOk.f k1 t603 t613).bind fun t643 => (some t643)) else (some false)) = some r := H
        have A39 := Aside0.mk A390
        clear A390
        by_cases c40 : t642 = true
        ·subst c40
         have H1 : ((impl_StateOk.f k1 t603 t613).bind fun t643 => (some t643)) = some r := by rw [if_pos rfl] at H; exact H
         clear H
         have H := H1
         clear H1
         replace H := Option.bind_eq_some_iff.mp H
         obtain ⟨t643, A410, H⟩ := H
         replace H : (some t643) = some r := H
         have A41 := Aside0.mk A410
         clear A410
         obtain rfl := Option.some.inj H
         go_wp2_with (first | ((with_reducible refine gate_dst (N := 65) rfl ?_); refine Kd.R_lit k40 _ 40 ?hg (N := 65) ?hd (xs := ([] : List (S40))) (inner := []) (ok := fun _ => True) (okp := fun _ => True) ?hr ?hp (fun _ hk => hk) trivial (Below.refl _ _) (Nat.le_refl _) (by simp) ?_; (case hd => rfl); (case hg => rfl); (case hr => first | (go_simp; done) | (go_simp; rfl)); (case hp => exact (Reps.none _ _)); intro v630 w42 ho43 hb hg_ hnew_; clear hg_ hnew_; (first | rw [← Ny629.out] at ho43 | (simp only [Int.reduceToNat] at ho43; rw [← Ny629.out] at ho43)); have n0_ := Aside0.mk (Kd.R_below (zR HO_3.out) hb); have n1_ := Aside0.mk (Kd.R_below (zR HO_5.out) hb); have n2_ := Aside0.mk (Kd.R_elder' (zR HO_6.out) (Kd.R_base ho43) hb); have n3_ := Aside0.mk (Kd.R_below (zR HO_8.out) hb); have n4_ := Aside0.mk (Kd.R_elder' (zR HO_9.out) (Kd.R_base ho43) hb); have n5_ := Aside0.mk (Kd.R_lower (Kd.R_new' (Kd.R_new' ho43 (Kd.R_lt (zR HO_6.out))) (Kd.R_lt (zR HO_9.out))) (below_size (zB HB.out))); have n6_ := Aside0.mk (below_step (zB HB.out) hb); clear HO_3; clear HO_5; clear HO_6; clear HO_8; clear HO_9; clear HB; have HO_3 := n0_; have HO_5 := n1_; have HO_6 := n2_; have HO_8 := n3_; have HO_9 := n4_; have HO631 := n5_; have HB := n6_; clear n0_ n1_ n2_ n3_ n4_ n5_ n6_; clear hb ho43; obtain ⟨Ao44, co44, eo44⟩ := Kd.R_slice HO631.out; subst eo44) | ((with_reducible refine gate_callee (f := 19) rfl ?_); refine goesL_ (some 67) rfl rfl Try.func19 (by kernel_rfl) rfl #[.slice Ao20 t602.length co20, .int .i64 t603, .slice Ao21 t604.length co21, .slice Ao44 y629.length co44, .int .i64 t606] rfl zA ?_; (with_reducible refine (impl_ScriptRun.calls k1 _ _ t602 t603 _ _ t604 _ _ y629 t606 t632 _ ?side1 ?side2 ?side3 ?side4 ?side5 ?side6 A34.out).mono ?_); (case side1 => exact zC (Kd.R_reads' HO_3.out).2.2); (case side2 => exact (Kd.R_reads' HO_3.out).2.1); (case side3 => exact zC (Kd.R_reads' HO_5.out).2.2); (case side4 => exact (Kd.R_reads' HO_5.out).2.1); (case side5 => exact zC (Kd.R_reads' HO631.out).2.2); (case side6 => exact (Kd.R_reads' HO631.out).2.1); rintro e w45 ⟨v633, rfl, ho0, hb⟩; refine ⟨_, rfl, ?_⟩; have n0_ := Aside0.mk (Kd.R_elder' (zR HO_3.out) (Kd.R_base ho0) hb); have n1_ := Aside0.mk (Kd.R_elder' (zR HO_5.out) (Kd.R_base ho0) hb); have n2_ := Aside0.mk (Kd.R_below (zR HO_6.out) hb); have n3_ := Aside0.mk (Kd.R_elder' (zR HO_8.out) (Kd.R_base ho0) hb); have n4_ := Aside0.mk (Kd.R_below (zR HO_9.out) hb); have n5_ := Aside0.mk (Kd.R_below (zR HO631.out) hb); have n6_ := Aside0.mk (Kd.R_lower (Kd.R_new' (Kd.R_new' (Kd.R_new' ho0 (Kd.R_lt (zR HO_3.out))) (Kd.R_lt (zR HO_5.out))) (Kd.R_lt (zR HO_8.out))) (below_size (zB HB.out))); have n7_ := Aside0.mk (below_step (zB HB.out) hb); clear HO_3; clear HO_5; clear HO_6; clear HO_8; clear HO_9; clear HO631; clear HB; have HO_3 := n0_; have HO_5 := n1_; have HO_6 := n2_; have HO_8 := n3_; have HO_9 := n4_; have HO631 := n5_; have HO634 := n6_; have HB := n7_; clear n0_ n1_ n2_ n3_ n4_ n5_ n6_ n7_; (try clear hb); (try clear hb2); (try clear hk); (try clear hi); (try clear ho0)) | ((with_reducible refine gate_callee (f := 12) rfl ?_); refine goesL_ (some 72) rfl rfl Try.func12 (by kernel_rfl) rfl #[.slice Ao20 t602.length co20, .int .i64 t603, .slice Ao21 t604.length co21, .int .i64 t606] rfl zA ?_; (with_reducible refine (impl_FireRun.calls k1 _ _ t602 t603 _ _ t604 t606 t635 _ ?side1 ?side2 ?side3 ?side4 A35.out).mono ?_); (case side1 => exact zC (Kd.R_reads' HO_3.out).2.2); (case side2 => exact (Kd.R_reads' HO_3.out).2.1); (case side3 => exact zC (Kd.R_reads' HO_5.out).2.2); (case side4 => exact (Kd.R_reads' HO_5.out).2.1); rintro e w46 ⟨v636, rfl, ho0, hb⟩; refine ⟨_, rfl, ?_⟩; have n0_ := Aside0.mk (Kd.R_elder' (zR HO_3.out) (Kd.R_base ho0) hb); have n1_ := Aside0.mk (Kd.R_elder' (zR HO_5.out) (Kd.R_base ho0) hb); have n2_ := Aside0.mk (Kd.R_below (zR HO_6.out) hb); have n3_ := Aside0.mk (Kd.R_elder' (zR HO_8.out) (Kd.R_base ho0) hb); have n4_ := Aside0.mk (Kd.R_below (zR HO_9.out) hb); have n5_ := Aside0.mk (Kd.R_below (zR HO631.out) hb); have n6_ := Aside0.mk (Kd.R_elder' (zR HO634.out) (Kd.R_base ho0) hb); have n7_ := Aside0.mk (Kd.R_lower (Kd.R_new' (Kd.R_new' (Kd.R_new' (Kd.R_new' ho0 (Kd.R_lt (zR HO_3.out))) (Kd.R_lt (zR HO_5.out))) (Kd.R_lt (zR HO_8.out))) (Kd.R_lt (zR HO634.out))) (below_size (zB HB.out))); have n8_ := Aside0.mk (below_step (zB HB.out) hb); clear HO_3; clear HO_5; clear HO_6; clear HO_8; clear HO_9; clear HO631; clear HO634; clear HB; have HO_3 := n0_; have HO_5 := n1_; have HO_6 := n2_; have HO_8 := n3_; have HO_9 := n4_; have HO631 := n5_; have HO634 := n6_; have HO637 := n7_; have HB := n8_; clear n0_ n1_ n2_ n3_ n4_ n5_ n6_ n7_ n8_; (try clear hb); (try clear hb2); (try clear hk); (try clear hi); (try clear ho0); obtain ⟨Ao47, co47, eo47⟩ := Kd.R_slice HO634.out; subst eo47; obtain ⟨Ao48, co48, eo48⟩ := Kd.R_slice HO637.out; subst eo48) | ((with_reducible refine gate_callee (f := 9) rfl ?_); refine goesL_ (some 73) rfl rfl Try.func9 (by kernel_rfl) rfl #[.slice Ao47 t632.length co47, .slice Ao48 t635.length co48] rfl zA ?_; (with_reducible refine (laws_sameInts.calls k1 _ _ t632 _ _ t635 true _ ?side1 ?side2 ?side3 ?side4 A36.out).mono ?_); (case side1 => exact zC (Kd.R_reads' HO634.out).2.2); (case side2 => exact (Kd.R_reads' HO634.out).2.1); (case side3 => exact zC (Kd.R_reads' HO637.out).2.2); (case side4 => exact (Kd.R_reads' HO637.out).2.1); rintro e w' ⟨rfl, ⟨nd, rfl⟩⟩; refine ⟨_, rfl, ?_⟩; obtain ⟨Ao49, co49, eo49⟩ := Kd.R_slice HO_9.out; subst eo49) | (go_at_call 19; (with_reducible refine (impl_ScriptRun.calls k1 _ _ t602 t603 _ _ t604 _ _ x9_1 t606 t639 _ ?side1 ?side2 ?side3 ?side4 ?side5 ?side6 A38.out).mono ?_); (case side1 => exact zC (Kd.R_reads' HO_3.out).2.2); (case side2 => exact (Kd.R_reads' HO_3.out).2.1); (case side3 => exact zC (Kd.R_reads' HO_5.out).2.2); (case side4 => exact (Kd.R_reads' HO_5.out).2.1); (case side5 => exact zC (Kd.R_reads' HO_9.out).2.2); (case side6 => exact (Kd.R_reads' HO_9.out).2.1); rintro e w50 ⟨v640, rfl, ho0, hb⟩; have n0_ := Aside0.mk (Kd.R_elder' (zR HO_3.out) (Kd.R_base ho0) hb); have n1_ := Aside0.mk (Kd.R_elder' (zR HO_5.out) (Kd.R_base ho0) hb); have n2_ := Aside0.mk (Kd.R_below (zR HO_6.out) hb); have n3_ := Aside0.mk (Kd.R_elder' (zR HO_8.out) (Kd.R_base ho0) hb); have n4_ := Aside0.mk (Kd.R_below (zR HO_9.out) hb); have n5_ := Aside0.mk (Kd.R_below (zR HO631.out) hb); have n6_ := Aside0.mk (Kd.R_elder' (zR HO634.out) (Kd.R_base ho0) hb); have n7_ := Aside0.mk (Kd.R_elder' (zR HO637.out) (Kd.R_base ho0) hb); have n8_ := Aside0.mk (Kd.R_lower (Kd.R_new' (Kd.R_new' (Kd.R_new' (Kd.R_new' (Kd.R_new' ho0 (Kd.R_lt (zR HO_3.out))) (Kd.R_lt (zR HO_5.out))) (Kd.R_lt (zR HO_8.out))) (Kd.R_lt (zR HO634.out))) (Kd.R_lt (zR HO637.out))) (below_size (zB HB.out))); have n9_ := Aside0.mk (below_step (zB HB.out) hb); clear HO_3; clear HO_5; clear HO_6; clear HO_8; clear HO_9; clear HO631; clear HO634; clear HO637; clear HB; have HO_3 := n0_; have HO_5 := n1_; have HO_6 := n2_; have HO_8 := n3_; have HO_9 := n4_; have HO631 := n5_; have HO634 := n6_; have HO637 := n7_; have HO641 := n8_; have HB := n9_; clear n0_ n1_ n2_ n3_ n4_ n5_ n6_ n7_ n8_ n9_; (try clear hb); (try clear hb2); (try clear hk); (try clear hi); (try clear ho0); obtain ⟨Ao51, co51, eo51⟩ := Kd.R_slice HO641.out; subst eo51) | (go_at_call 9; (with_reducible refine (laws_sameInts.calls k1 _ _ t639 _ _ t613 true _ ?side1 ?side2 ?side3 ?side4 A39.out).mono ?_); (case side1 => exact zC (Kd.R_reads' HO641.out).2.2); (case side2 => exact (Kd.R_reads' HO641.out).2.1); (case side3 => exact zC (Kd.R_reads' HO_8.out).2.2); (case side4 => exact (Kd.R_reads' HO_8.out).2.1); rintro e w' ⟨rfl, ⟨nd, rfl⟩⟩) | (go_at_call 21; (with_reducible refine (impl_StateOk.calls k1 t603 _ _ t613 t643 _ ?side1 ?side2 A41.out).mono ?_); (case side1 => exact zC (Kd.R_reads' HO_8.out).2.2); (case side2 => exact (Kd.R_reads' HO_8.out).2.1); rintro e w' ⟨rfl, ⟨nd, rfl⟩⟩))
         go_ret
         exact ⟨by first | rfl | (simp [errW_none, errW_some] <;> rfl) | (simp [*, errW_none, errW_some] <;> rfl), zB HB.out⟩
        ·replace c40 := Bool.eq_false_iff.mpr c40
         subst c40
         have H1 : (some false) = some r := by rw [if_neg (show ¬ (false = true) by decide)] at H; exact H
         clear H
         have H := H1
         clear H1
         obtain rfl := Option.some.inj H
         go_wp2_with (first | ((with_reducible refine gate_dst (N := 65) rfl ?_); refine Kd.R_lit k40 _ 40 ?hg (N := 65) ?hd (xs := ([] : List (S40))) (inner := []) (ok := fun _ => True) (okp := fun _ => True) ?hr ?hp (fun _ hk => hk) trivial (Below.refl _ _) (Nat.le_refl _) (by simp) ?_; (case hd => rfl); (case hg => rfl); (case hr => first | (go_simp; done) | (go_simp; rfl)); (case hp => exact (Reps.none _ _)); intro v630 w52 ho53 hb hg_ hnew_; clear hg_ hnew_; (first | rw [← Ny629.out] at ho53 | (simp only [Int.reduceToNat] at ho53; rw [← Ny629.out] at ho53)); have n0_ := Aside0.mk (Kd.R_below (zR HO_3.out) hb); have n1_ := Aside0.mk (Kd.R_below (zR HO_5.out) hb); have n2_ := Aside0.mk (Kd.R_elder' (zR HO_6.out) (Kd.R_base ho53) hb); have n3_ := Aside0.mk (Kd.R_below (zR HO_8.out) hb); have n4_ := Aside0.mk (Kd.R_elder' (zR HO_9.out) (Kd.R_base ho53) hb); have n5_ := Aside0.mk (Kd.R_lower (Kd.R_new' (Kd.R_new' ho53 (Kd.R_lt (zR HO_6.out))) (Kd.R_lt (zR HO_9.out))) (below_size (zB HB.out))); have n6_ := Aside0.mk (below_step (zB HB.out) hb); clear HO_3; clear HO_5; clear HO_6; clear HO_8; clear HO_9; clear HB; have HO_3 := n0_; have HO_5 := n1_; have HO_6 := n2_; have HO_8 := n3_; have HO_9 := n4_; have HO631 := n5_; have HB := n6_; clear n0_ n1_ n2_ n3_ n4_ n5_ n6_; clear hb ho53; obtain ⟨Ao54, co54, eo54⟩ := Kd.R_slice HO631.out; subst eo54) | ((with_reducible refine gate_callee (f := 19) rfl ?_); refine goesL_ (some 67) rfl rfl Try.func19 (by kernel_rfl) rfl #[.slice Ao20 t602.length co20, .int .i64 t603, .slice Ao21 t604.length co21, .slice Ao54 y629.length co54, .int .i64 t606] rfl zA ?_; (with_reducible refine (impl_ScriptRun.calls k1 _ _ t602 t603 _ _ t604 _ _ y629 t606 t632 _ ?side1 ?side2 ?side3 ?side4 ?side5 ?side6 A34.out).mono ?_); (case side1 => exact zC (Kd.R_reads' HO_3.out).2.2); (case side2 => exact (Kd.R_reads' HO_3.out).2.1); (case side3 => exact zC (Kd.R_reads' HO_5.out).2.2); (case side4 => exact (Kd.R_reads' HO_5.out).2.1); (case side5 => exact zC (Kd.R_reads' HO631.out).2.2); (case side6 => exact (Kd.R_reads' HO631.out).2.1); rintro e w55 ⟨v633, rfl, ho0, hb⟩; refine ⟨_, rfl, ?_⟩; have n0_ := Aside0.mk (Kd.R_elder' (zR HO_3.out) (Kd.R_base ho0) hb); have n1_ := Aside0.mk (Kd.R_elder' (zR HO_5.out) (Kd.R_base ho0) hb); have n2_ := Aside0.mk (Kd.R_below (zR HO_6.out) hb); have n3_ := Aside0.mk (Kd.R_elder' (zR HO_8.out) (Kd.R_base ho0) hb); have n4_ := Aside0.mk (Kd.R_below (zR HO_9.out) hb); have n5_ := Aside0.mk (Kd.R_below (zR HO631.out) hb); have n6_ := Aside0.mk (Kd.R_lower (Kd.R_new' (Kd.R_new' (Kd.R_new' ho0 (Kd.R_lt (zR HO_3.out))) (Kd.R_lt (zR HO_5.out))) (Kd.R_lt (zR HO_8.out))) (below_size (zB HB.out))); have n7_ := Aside0.mk (below_step (zB HB.out) hb); clear HO_3; clear HO_5; clear HO_6; clear HO_8; clear HO_9; clear HO631; clear HB; have HO_3 := n0_; have HO_5 := n1_; have HO_6 := n2_; have HO_8 := n3_; have HO_9 := n4_; have HO631 := n5_; have HO634 := n6_; have HB := n7_; clear n0_ n1_ n2_ n3_ n4_ n5_ n6_ n7_; (try clear hb); (try clear hb2); (try clear hk); (try clear hi); (try clear ho0)) | ((with_reducible refine gate_callee (f := 12) rfl ?_); refine goesL_ (some 72) rfl rfl Try.func12 (by kernel_rfl) rfl #[.slice Ao20 t602.length co20, .int .i64 t603, .slice Ao21 t604.length co21, .int .i64 t606] rfl zA ?_; (with_reducible refine (impl_FireRun.calls k1 _ _ t602 t603 _ _ t604 t606 t635 _ ?side1 ?side2 ?side3 ?side4 A35.out).mono ?_); (case side1 => exact zC (Kd.R_reads' HO_3.out).2.2); (case side2 => exact (Kd.R_reads' HO_3.out).2.1); (case side3 => exact zC (Kd.R_reads' HO_5.out).2.2); (case side4 => exact (Kd.R_reads' HO_5.out).2.1); rintro e w56 ⟨v636, rfl, ho0, hb⟩; refine ⟨_, rfl, ?_⟩; have n0_ := Aside0.mk (Kd.R_elder' (zR HO_3.out) (Kd.R_base ho0) hb); have n1_ := Aside0.mk (Kd.R_elder' (zR HO_5.out) (Kd.R_base ho0) hb); have n2_ := Aside0.mk (Kd.R_below (zR HO_6.out) hb); have n3_ := Aside0.mk (Kd.R_elder' (zR HO_8.out) (Kd.R_base ho0) hb); have n4_ := Aside0.mk (Kd.R_below (zR HO_9.out) hb); have n5_ := Aside0.mk (Kd.R_below (zR HO631.out) hb); have n6_ := Aside0.mk (Kd.R_elder' (zR HO634.out) (Kd.R_base ho0) hb); have n7_ := Aside0.mk (Kd.R_lower (Kd.R_new' (Kd.R_new' (Kd.R_new' (Kd.R_new' ho0 (Kd.R_lt (zR HO_3.out))) (Kd.R_lt (zR HO_5.out))) (Kd.R_lt (zR HO_8.out))) (Kd.R_lt (zR HO634.out))) (below_size (zB HB.out))); have n8_ := Aside0.mk (below_step (zB HB.out) hb); clear HO_3; clear HO_5; clear HO_6; clear HO_8; clear HO_9; clear HO631; clear HO634; clear HB; have HO_3 := n0_; have HO_5 := n1_; have HO_6 := n2_; have HO_8 := n3_; have HO_9 := n4_; have HO631 := n5_; have HO634 := n6_; have HO637 := n7_; have HB := n8_; clear n0_ n1_ n2_ n3_ n4_ n5_ n6_ n7_ n8_; (try clear hb); (try clear hb2); (try clear hk); (try clear hi); (try clear ho0); obtain ⟨Ao57, co57, eo57⟩ := Kd.R_slice HO634.out; subst eo57; obtain ⟨Ao58, co58, eo58⟩ := Kd.R_slice HO637.out; subst eo58) | ((with_reducible refine gate_callee (f := 9) rfl ?_); refine goesL_ (some 73) rfl rfl Try.func9 (by kernel_rfl) rfl #[.slice Ao57 t632.length co57, .slice Ao58 t635.length co58] rfl zA ?_; (with_reducible refine (laws_sameInts.calls k1 _ _ t632 _ _ t635 true _ ?side1 ?side2 ?side3 ?side4 A36.out).mono ?_); (case side1 => exact zC (Kd.R_reads' HO634.out).2.2); (case side2 => exact (Kd.R_reads' HO634.out).2.1); (case side3 => exact zC (Kd.R_reads' HO637.out).2.2); (case side4 => exact (Kd.R_reads' HO637.out).2.1); rintro e w' ⟨rfl, ⟨nd, rfl⟩⟩; refine ⟨_, rfl, ?_⟩; obtain ⟨Ao59, co59, eo59⟩ := Kd.R_slice HO_9.out; subst eo59) | (go_at_call 19; (with_reducible refine (impl_ScriptRun.calls k1 _ _ t602 t603 _ _ t604 _ _ x9_1 t606 t639 _ ?side1 ?side2 ?side3 ?side4 ?side5 ?side6 A38.out).mono ?_); (case side1 => exact zC (Kd.R_reads' HO_3.out).2.2); (case side2 => exact (Kd.R_reads' HO_3.out).2.1); (case side3 => exact zC (Kd.R_reads' HO_5.out).2.2); (case side4 => exact (Kd.R_reads' HO_5.out).2.1); (case side5 => exact zC (Kd.R_reads' HO_9.out).2.2); (case side6 => exact (Kd.R_reads' HO_9.out).2.1); rintro e w60 ⟨v640, rfl, ho0, hb⟩; have n0_ := Aside0.mk (Kd.R_elder' (zR HO_3.out) (Kd.R_base ho0) hb); have n1_ := Aside0.mk (Kd.R_elder' (zR HO_5.out) (Kd.R_base ho0) hb); have n2_ := Aside0.mk (Kd.R_below (zR HO_6.out) hb); have n3_ := Aside0.mk (Kd.R_elder' (zR HO_8.out) (Kd.R_base ho0) hb); have n4_ := Aside0.mk (Kd.R_below (zR HO_9.out) hb); have n5_ := Aside0.mk (Kd.R_below (zR HO631.out) hb); have n6_ := Aside0.mk (Kd.R_elder' (zR HO634.out) (Kd.R_base ho0) hb); have n7_ := Aside0.mk (Kd.R_elder' (zR HO637.out) (Kd.R_base ho0) hb); have n8_ := Aside0.mk (Kd.R_lower (Kd.R_new' (Kd.R_new' (Kd.R_new' (Kd.R_new' (Kd.R_new' ho0 (Kd.R_lt (zR HO_3.out))) (Kd.R_lt (zR HO_5.out))) (Kd.R_lt (zR HO_8.out))) (Kd.R_lt (zR HO634.out))) (Kd.R_lt (zR HO637.out))) (below_size (zB HB.out))); have n9_ := Aside0.mk (below_step (zB HB.out) hb); clear HO_3; clear HO_5; clear HO_6; clear HO_8; clear HO_9; clear HO631; clear HO634; clear HO637; clear HB; have HO_3 := n0_; have HO_5 := n1_; have HO_6 := n2_; have HO_8 := n3_; have HO_9 := n4_; have HO631 := n5_; have HO634 := n6_; have HO637 := n7_; have HO641 := n8_; have HB := n9_; clear n0_ n1_ n2_ n3_ n4_ n5_ n6_ n7_ n8_ n9_; (try clear hb); (try clear hb2); (try clear hk); (try clear hi); (try clear ho0); obtain ⟨Ao61, co61, eo61⟩ := Kd.R_slice HO641.out; subst eo61) | (go_at_call 9; (with_reducible refine (laws_sameInts.calls k1 _ _ t639 _ _ t613 false _ ?side1 ?side2 ?side3 ?side4 A39.out).mono ?_); (case side1 => exact zC (Kd.R_reads' HO641.out).2.2); (case side2 => exact (Kd.R_reads' HO641.out).2.1); (case side3 => exact zC (Kd.R_reads' HO_8.out).2.2); (case side4 => exact (Kd.R_reads' HO_8.out).2.1); rintro e w' ⟨rfl, ⟨nd, rfl⟩⟩))
         go_ret
         exact ⟨by first | rfl | (simp [errW_none, errW_some] <;> rfl) | (simp [*, errW_none, errW_some] <;> rfl), zB HB.out⟩
       ·replace c37 := Bool.eq_false_iff.mpr c37
        subst c37
        have H1 : (some false) = some r := by rw [if_neg (show ¬ (false = true) by decide)] at H; exact H
        clear H
        have H := H1
        clear H1
        obtain rfl := Option.some.inj H
        go_wp2_with (first | ((with_reducible refine gate_dst (N := 65) rfl ?_); refine Kd.R_lit k40 _ 40 ?hg (N := 65) ?hd (xs := ([] : List (S40))) (inner := []) (ok := fun _ => True) (okp := fun _ => True) ?hr ?hp (fun _ hk => hk) trivial (Below.refl _ _) (Nat.le_refl _) (by simp) ?_; (case hd => rfl); (case hg => rfl); (case hr => first | (go_simp; done) | (go_simp; rfl)); (case hp => exact (Reps.none _ _)); intro v630 w62 ho63 hb hg_ hnew_; clear hg_ hnew_; (first | rw [← Ny629.out] at ho63 | (simp only [Int.reduceToNat] at ho63; rw [← Ny629.out] at ho63)); have n0_ := Aside0.mk (Kd.R_below (zR HO_3.out) hb); have n1_ := Aside0.mk (Kd.R_below (zR HO_5.out) hb); have n2_ := Aside0.mk (Kd.R_elder' (zR HO_6.out) (Kd.R_base ho63) hb); have n3_ := Aside0.mk (Kd.R_below (zR HO_8.out) hb); have n4_ := Aside0.mk (Kd.R_elder' (zR HO_9.out) (Kd.R_base ho63) hb); have n5_ := Aside0.mk (Kd.R_lower (Kd.R_new' (Kd.R_new' ho63 (Kd.R_lt (zR HO_6.out))) (Kd.R_lt (zR HO_9.out))) (below_size (zB HB.out))); have n6_ := Aside0.mk (below_step (zB HB.out) hb); clear HO_3; clear HO_5; clear HO_6; clear HO_8; clear HO_9; clear HB; have HO_3 := n0_; have HO_5 := n1_; have HO_6 := n2_; have HO_8 := n3_; have HO_9 := n4_; have HO631 := n5_; have HB := n6_; clear n0_ n1_ n2_ n3_ n4_ n5_ n6_; clear hb ho63; obtain ⟨Ao64, co64, eo64⟩ := Kd.R_slice HO631.out; subst eo64) | ((with_reducible refine gate_callee (f := 19) rfl ?_); refine goesL_ (some 67) rfl rfl Try.func19 (by kernel_rfl) rfl #[.slice Ao20 t602.length co20, .int .i64 t603, .slice Ao21 t604.length co21, .slice Ao64 y629.length co64, .int .i64 t606] rfl zA ?_; (with_reducible refine (impl_ScriptRun.calls k1 _ _ t602 t603 _ _ t604 _ _ y629 t606 t632 _ ?side1 ?side2 ?side3 ?side4 ?side5 ?side6 A34.out).mono ?_); (case side1 => exact zC (Kd.R_reads' HO_3.out).2.2); (case side2 => exact (Kd.R_reads' HO_3.out).2.1); (case side3 => exact zC (Kd.R_reads' HO_5.out).2.2); (case side4 => exact (Kd.R_reads' HO_5.out).2.1); (case side5 => exact zC (Kd.R_reads' HO631.out).2.2); (case side6 => exact (Kd.R_reads' HO631.out).2.1); rintro e w65 ⟨v633, rfl, ho0, hb⟩; refine ⟨_, rfl, ?_⟩; have n0_ := Aside0.mk (Kd.R_elder' (zR HO_3.out) (Kd.R_base ho0) hb); have n1_ := Aside0.mk (Kd.R_elder' (zR HO_5.out) (Kd.R_base ho0) hb); have n2_ := Aside0.mk (Kd.R_below (zR HO_6.out) hb); have n3_ := Aside0.mk (Kd.R_elder' (zR HO_8.out) (Kd.R_base ho0) hb); have n4_ := Aside0.mk (Kd.R_below (zR HO_9.out) hb); have n5_ := Aside0.mk (Kd.R_below (zR HO631.out) hb); have n6_ := Aside0.mk (Kd.R_lower (Kd.R_new' (Kd.R_new' (Kd.R_new' ho0 (Kd.R_lt (zR HO_3.out))) (Kd.R_lt (zR HO_5.out))) (Kd.R_lt (zR HO_8.out))) (below_size (zB HB.out))); have n7_ := Aside0.mk (below_step (zB HB.out) hb); clear HO_3; clear HO_5; clear HO_6; clear HO_8; clear HO_9; clear HO631; clear HB; have HO_3 := n0_; have HO_5 := n1_; have HO_6 := n2_; have HO_8 := n3_; have HO_9 := n4_; have HO631 := n5_; have HO634 := n6_; have HB := n7_; clear n0_ n1_ n2_ n3_ n4_ n5_ n6_ n7_; (try clear hb); (try clear hb2); (try clear hk); (try clear hi); (try clear ho0)) | ((with_reducible refine gate_callee (f := 12) rfl ?_); refine goesL_ (some 72) rfl rfl Try.func12 (by kernel_rfl) rfl #[.slice Ao20 t602.length co20, .int .i64 t603, .slice Ao21 t604.length co21, .int .i64 t606] rfl zA ?_; (with_reducible refine (impl_FireRun.calls k1 _ _ t602 t603 _ _ t604 t606 t635 _ ?side1 ?side2 ?side3 ?side4 A35.out).mono ?_); (case side1 => exact zC (Kd.R_reads' HO_3.out).2.2); (case side2 => exact (Kd.R_reads' HO_3.out).2.1); (case side3 => exact zC (Kd.R_reads' HO_5.out).2.2); (case side4 => exact (Kd.R_reads' HO_5.out).2.1); rintro e w66 ⟨v636, rfl, ho0, hb⟩; refine ⟨_, rfl, ?_⟩; have n0_ := Aside0.mk (Kd.R_elder' (zR HO_3.out) (Kd.R_base ho0) hb); have n1_ := Aside0.mk (Kd.R_elder' (zR HO_5.out) (Kd.R_base ho0) hb); have n2_ := Aside0.mk (Kd.R_below (zR HO_6.out) hb); have n3_ := Aside0.mk (Kd.R_elder' (zR HO_8.out) (Kd.R_base ho0) hb); have n4_ := Aside0.mk (Kd.R_below (zR HO_9.out) hb); have n5_ := Aside0.mk (Kd.R_below (zR HO631.out) hb); have n6_ := Aside0.mk (Kd.R_elder' (zR HO634.out) (Kd.R_base ho0) hb); have n7_ := Aside0.mk (Kd.R_lower (Kd.R_new' (Kd.R_new' (Kd.R_new' (Kd.R_new' ho0 (Kd.R_lt (zR HO_3.out))) (Kd.R_lt (zR HO_5.out))) (Kd.R_lt (zR HO_8.out))) (Kd.R_lt (zR HO634.out))) (below_size (zB HB.out))); have n8_ := Aside0.mk (below_step (zB HB.out) hb); clear HO_3; clear HO_5; clear HO_6; clear HO_8; clear HO_9; clear HO631; clear HO634; clear HB; have HO_3 := n0_; have HO_5 := n1_; have HO_6 := n2_; have HO_8 := n3_; have HO_9 := n4_; have HO631 := n5_; have HO634 := n6_; have HO637 := n7_; have HB := n8_; clear n0_ n1_ n2_ n3_ n4_ n5_ n6_ n7_ n8_; (try clear hb); (try clear hb2); (try clear hk); (try clear hi); (try clear ho0); obtain ⟨Ao67, co67, eo67⟩ := Kd.R_slice HO634.out; subst eo67; obtain ⟨Ao68, co68, eo68⟩ := Kd.R_slice HO637.out; subst eo68) | ((with_reducible refine gate_callee (f := 9) rfl ?_); refine goesL_ (some 73) rfl rfl Try.func9 (by kernel_rfl) rfl #[.slice Ao67 t632.length co67, .slice Ao68 t635.length co68] rfl zA ?_; (with_reducible refine (laws_sameInts.calls k1 _ _ t632 _ _ t635 false _ ?side1 ?side2 ?side3 ?side4 A36.out).mono ?_); (case side1 => exact zC (Kd.R_reads' HO634.out).2.2); (case side2 => exact (Kd.R_reads' HO634.out).2.1); (case side3 => exact zC (Kd.R_reads' HO637.out).2.2); (case side4 => exact (Kd.R_reads' HO637.out).2.1); rintro e w' ⟨rfl, ⟨nd, rfl⟩⟩; refine ⟨_, rfl, ?_⟩))
        go_ret
        exact ⟨by first | rfl | (simp [errW_none, errW_some] <;> rfl) | (simp [*, errW_none, errW_some] <;> rfl), zB HB.out⟩
  ·replace c7 := Bool.eq_false_iff.mpr c7
   subst c7
   have H1 : (some false) = some r := by rw [if_neg (show ¬ (false = true) by decide)] at H; exact H
   clear H
   have H := H1
   clear H1
   obtain rfl := Option.some.inj H
   go_enter Try.func5, Try.ntmps5
   go_wp2_with (first | ((with_reducible refine gate_callee (f := 18) rfl ?_); refine goesL_ (some 16) rfl rfl Try.func18 (by kernel_rfl) rfl #[.slice A0 l0.length c0] rfl zA ?_; (with_reducible refine (spec_DrawScriptRun.calls k _ _ l0 t602 t603 t604 t605 t606 _ ?side1 ?side2 A3.out).mono ?_); (case side1 => exact zC HR0.out); (case side2 => exact HC0.out); rintro e w69 ⟨v607, v609, v611, rfl, ho0, ho1, ho2, hb⟩; refine ⟨_, rfl, ?_⟩; have n0_ := Aside0.mk (Kd.R_lower ho0 (below_size (zB HB.out))); have n1_ := Aside0.mk (Kd.R_lower ho1 (below_size (zB HB.out))); have n2_ := Aside0.mk (Kd.R_lower ho2 (below_size (zB HB.out))); have n3_ := Aside0.mk (below_step (zB HB.out) hb); clear HB; have HO608 := n0_; have HO610 := n1_; have HO612 := n2_; have HB := n3_; clear n0_ n1_ n2_ n3_; (try clear hb); (try clear hb2); (try clear hk); (try clear hi); (try clear ho0); (try clear ho1); (try clear ho2); obtain ⟨Ao70, co70, eo70⟩ := Kd.R_slice HO608.out; subst eo70; obtain ⟨Ao71, co71, eo71⟩ := Kd.R_slice HO610.out; subst eo71; obtain ⟨Ao72, co72, eo72⟩ := Kd.R_slice HO612.out; subst eo72) | ((with_reducible refine gate_callee (f := 19) rfl ?_); refine goesL_ (some 27) rfl rfl Try.func19 (by kernel_rfl) rfl #[.slice Ao70 t602.length co70, .int .i64 t603, .slice Ao71 t604.length co71, .slice Ao72 t605.length co72, .int .i64 t606] rfl zA ?_; (with_reducible refine (impl_ScriptRun.calls k _ _ t602 t603 _ _ t604 _ _ t605 t606 t613 _ ?side1 ?side2 ?side3 ?side4 ?side5 ?side6 A4.out).mono ?_); (case side1 => exact zC (Kd.R_reads' HO608.out).2.2); (case side2 => exact (Kd.R_reads' HO608.out).2.1); (case side3 => exact zC (Kd.R_reads' HO610.out).2.2); (case side4 => exact (Kd.R_reads' HO610.out).2.1); (case side5 => exact zC (Kd.R_reads' HO612.out).2.2); (case side6 => exact (Kd.R_reads' HO612.out).2.1); rintro e w73 ⟨v614, rfl, ho0, hb⟩; refine ⟨_, rfl, ?_⟩; have n0_ := Aside0.mk (Kd.R_elder' (zR HO608.out) (Kd.R_base ho0) hb); have n1_ := Aside0.mk (Kd.R_elder' (zR HO610.out) (Kd.R_base ho0) hb); have n2_ := Aside0.mk (Kd.R_below (zR HO612.out) hb); have n3_ := Aside0.mk (Kd.R_lower (Kd.R_new' (Kd.R_new' ho0 (Kd.R_lt (zR HO608.out))) (Kd.R_lt (zR HO610.out))) (below_size (zB HB.out))); have n4_ := Aside0.mk (below_step (zB HB.out) hb); clear HO608; clear HO610; clear HO612; clear HB; have HO608 := n0_; have HO610 := n1_; have HO612 := n2_; have HO615 := n3_; have HB := n4_; clear n0_ n1_ n2_ n3_ n4_; (try clear hb); (try clear hb2); (try clear hk); (try clear hi); (try clear ho0)) | ((with_reducible refine gate_callee (f := 20) rfl ?_); refine goesL_ (some 34) rfl rfl Try.func20 (by kernel_rfl) rfl #[.slice Ao70 t602.length co70, .int .i64 t603, .slice Ao71 t604.length co71, .slice Ao72 t605.length co72, .int .i64 t606] rfl zA ?_; (with_reducible refine (spec_ScriptRun.calls k _ _ t602 t603 _ _ t604 _ _ t605 t606 t616 _ ?side1 ?side2 ?side3 ?side4 ?side5 ?side6 A5.out).mono ?_); (case side1 => exact zC (Kd.R_reads' HO608.out).2.2); (case side2 => exact (Kd.R_reads' HO608.out).2.1); (case side3 => exact zC (Kd.R_reads' HO610.out).2.2); (case side4 => exact (Kd.R_reads' HO610.out).2.1); (case side5 => exact zC (Kd.R_reads' HO612.out).2.2); (case side6 => exact (Kd.R_reads' HO612.out).2.1); rintro e w74 ⟨v617, rfl, ho0, hb⟩; refine ⟨_, rfl, ?_⟩; have n0_ := Aside0.mk (Kd.R_elder' (zR HO608.out) (Kd.R_base ho0) hb); have n1_ := Aside0.mk (Kd.R_elder' (zR HO610.out) (Kd.R_base ho0) hb); have n2_ := Aside0.mk (Kd.R_below (zR HO612.out) hb); have n3_ := Aside0.mk (Kd.R_elder' (zR HO615.out) (Kd.R_base ho0) hb); have n4_ := Aside0.mk (Kd.R_lower (Kd.R_new' (Kd.R_new' (Kd.R_new' ho0 (Kd.R_lt (zR HO608.out))) (Kd.R_lt (zR HO610.out))) (Kd.R_lt (zR HO615.out))) (below_size (zB HB.out))); have n5_ := Aside0.mk (below_step (zB HB.out) hb); clear HO608; clear HO610; clear HO612; clear HO615; clear HB; have HO608 := n0_; have HO610 := n1_; have HO612 := n2_; have HO615 := n3_; have HO618 := n4_; have HB := n5_; clear n0_ n1_ n2_ n3_ n4_ n5_; (try clear hb); (try clear hb2); (try clear hk); (try clear hi); (try clear ho0); obtain ⟨Ao75, co75, eo75⟩ := Kd.R_slice HO615.out; subst eo75; obtain ⟨Ao76, co76, eo76⟩ := Kd.R_slice HO618.out; subst eo76) | ((with_reducible refine gate_callee (f := 9) rfl ?_); refine goesL_ (some 35) rfl rfl Try.func9 (by kernel_rfl) rfl #[.slice Ao75 t613.length co75, .slice Ao76 t616.length co76] rfl zA ?_; (with_reducible refine (laws_sameInts.calls k _ _ t613 _ _ t616 false _ ?side1 ?side2 ?side3 ?side4 A6.out).mono ?_); (case side1 => exact zC (Kd.R_reads' HO615.out).2.2); (case side2 => exact (Kd.R_reads' HO615.out).2.1); (case side3 => exact zC (Kd.R_reads' HO618.out).2.2); (case side4 => exact (Kd.R_reads' HO618.out).2.1); rintro e w' ⟨rfl, ⟨nd, rfl⟩⟩; refine ⟨_, rfl, ?_⟩))
   go_ret
   exact ⟨by first | rfl | (simp [errW_none, errW_some] <;> rfl) | (simp [*, errW_none, errW_some] <;> rfl), zB HB.out⟩

/-- THE ONE PURE STATEMENT of laws_FnScriptRun: yours. -/
def laws_FnScriptRun.Pure : Prop := ∀ (l0 : List Int), l0.length ≤ maxLen → l0.length * 1 ≤ 140737488351232 → (∀ x ∈ l0, (Lit.int .u8 x).wf = true) → ∃ k, laws_FnScriptRun.f k l0 = some true
theorem laws_FnScriptRun.walk (P : laws_FnScriptRun.Pure) (a0 : Option Addr) (len0 cap0 : Nat) (z0 : List Int) (w : World) (w0 : (a0 = none ∧ len0 = 0 ∧ cap0 = 0 ∧ z0 = []) ∨ ∃ x, a0 = some x ∧ len0 ≤ cap0 ∧ cap0 ≤ maxLen ∧ z0.length = cap0 ∧ (∀ i, i < z0.length → w.cell? (x.add i) = some (.int .u8 (z0.getD i 0))) ∧ ∀ n ∈ z0, (Lit.int .u8 n).wf = true) (y0 : len0 * 1 ≤ 140737488351232) :
  Calls Try.prog 5 #[.slice a0 len0 cap0] w fun e w' => e = .returned (.bool true) ∧ Below w.heap.size w w' := by
 obtain ⟨l0, rfl, hr0, hm0, hw0, hc0⟩ := ReadsInt.ofRowC w0
 obtain ⟨k, h⟩ := P l0 hm0 y0 hw0
 refine (laws_FnScriptRun.calls k _ _ l0 true w (Kd.C_of_reads (d := (0 : Int)) (h1 := fun _ => rfl) hr0) hc0 h).mono ?_
 rintro e w' ⟨rfl, hd⟩
 exact ⟨rfl, hd⟩

end Go.Proofs.Ytbanhinbndeboaa.PAll
