/- Own text of this session, written by a program of this session (wip/t/own.py) out of what the kit tells of the functions: each Go function as a Lean function, and the walk through its code. -/
import Derived.Test.YtgglagpciojfmaaT
import Derived.Test.YtgglagpciojfmaaF28
import Derived.Test.YtgglagpciojfmaaF31
import Derived.Test.YtgglagpciojfmaaF5
import Derived.Test.YtgglagpciojfmaaF9
namespace Go.Proofs.Ytgglagpciojfmaa.PAll
open Go.RowKit Go.Proofs.YtgglagpciojfmaaW.PrintWords Go.Proofs.YtgglagpciojfmaaW.PrintLast Go.Proofs.YtgglagpciojfmaaW.PrintMore
attribute [local go_sem] max2_int min2_int max_two min_two max_three min_three max_four min_four   -- for this text's walks alone
set_option linter.unusedVariables false
set_option linter.unusedSimpArgs false

/-! ### laws_FnNoneBefore: function 8 -/
mutual
def laws_FnNoneBefore.l0 : Nat → List Int → List Int → Int → Int → Option (Bool)
 | 0, _, _, _, _ => none
 | k + 1, x3, x5, x6, x7 => if x7 < (x3.length : Int) then (laws_FnNoneBefore.l1 k x3 x5 x6 x7 false 0) else ((laws_alive.f k).bind fun t509 => (some t509))
def laws_FnNoneBefore.l1 : Nat → List Int → List Int → Int → Int → Bool → Int → Option (Bool)
 | 0, _, _, _, _, _, _ => none
 | k + 1, x3, x5, x6, x7, x8, x9 => if x9 < (x3.length : Int) then (if x8 = true then (laws_FnNoneBefore.l1 k x3 x5 x6 x7 true (wrap64 (x9 + 1))) else (if 0 ≤ x7 then (if x7 < (x3.length : Int) then (if 0 ≤ x9 then (if (Int.tmod (shr .i64 (rd x3 x7) x9) 2) = 1 then (if x9 < (x5.length : Int) then (laws_FnNoneBefore.l1 k x3 x5 x6 x7 ((rd x5 x9) == 2) (wrap64 (x9 + 1))) else (none)) else (laws_FnNoneBefore.l1 k x3 x5 x6 x7 false (wrap64 (x9 + 1)))) else (none)) else (none)) else (none))) else (if 0 ≤ x7 then (if x7 < (x5.length : Int) then (if (rd x5 x7) = 1 then (if x8 = true then (laws_FnNoneBefore.l0 k x3 x5 x6 (wrap64 (x7 + 1))) else (if x6 = 0 then (laws_FnNoneBefore.l0 k x3 x5 x6 (wrap64 (x7 + 1))) else (some false))) else (laws_FnNoneBefore.l0 k x3 x5 x6 (wrap64 (x7 + 1)))) else (none)) else (none))
end
def laws_FnNoneBefore.f (k : Nat) (l0 : List Int) : Option (Bool) := if (l0.length : Int) > 1048576 then (some true) else ((spec_DrawBeforeCount.f k l0).bind fun bt499 => ((impl_BeforeCount.f k bt499.1 bt499.2.1 bt499.2.2).bind fun t506 => (if t506 < 0 then ((spec_BeforeCount.f k bt499.1 bt499.2.1 bt499.2.2).bind fun t507 => (if t507 = t506 then ((laws_alive.f k).bind fun t508 => (some t508)) else (some false))) else (laws_FnNoneBefore.l0 k bt499.1 bt499.2.2 t506 0))))
theorem laws_FnNoneBefore.mono_l : ∀ k, (∀ y0 y1 y2 y3, LeO (laws_FnNoneBefore.l0 k y0 y1 y2 y3) (laws_FnNoneBefore.l0 (k + 1) y0 y1 y2 y3)) ∧ (∀ y0 y1 y2 y3 y4 y5, LeO (laws_FnNoneBefore.l1 k y0 y1 y2 y3 y4 y5) (laws_FnNoneBefore.l1 (k + 1) y0 y1 y2 y3 y4 y5))
 | 0 => ⟨fun _ _ _ _ r h => by simp [laws_FnNoneBefore.l0] at h, fun _ _ _ _ _ _ r h => by simp [laws_FnNoneBefore.l1] at h⟩
 | k + 1 => by
  obtain ⟨ih0, ih1⟩ := laws_FnNoneBefore.mono_l k
  refine ⟨?_, ?_⟩
  ·intro y0 y1 y2 y3
   unfold laws_FnNoneBefore.l0
   repeat' first
   | (with_reducible exact ih0 _ _ _ _)
   | (with_reducible exact ih1 _ _ _ _ _ _)
   | (with_reducible exact impl_BeforeCount.mono _ _ _ _)
   | (with_reducible exact laws_alive.mono _)
   | (with_reducible exact spec_BeforeCount.mono _ _ _ _)
   | (with_reducible exact spec_DrawBeforeCount.mono _ _)
   | (with_reducible exact LeO.refl _)
   | (with_reducible exact LeO.none _)
   | (with_reducible refine LeO.ite ?_ ?_)
   | (with_reducible refine LeO.bind ?_ (fun _ => ?_))
   | exact ih0 _ _ _ _
   | exact ih1 _ _ _ _ _ _
   | exact impl_BeforeCount.mono _ _ _ _
   | exact laws_alive.mono _
   | exact spec_BeforeCount.mono _ _ _ _
   | exact spec_DrawBeforeCount.mono _ _
   | exact LeO.none _
   | refine LeO.ite ?_ ?_
   | refine LeO.bind ?_ (fun _ => ?_)
  ·intro y0 y1 y2 y3 y4 y5
   unfold laws_FnNoneBefore.l1
   repeat' first
   | (with_reducible exact ih0 _ _ _ _)
   | (with_reducible exact ih1 _ _ _ _ _ _)
   | (with_reducible exact impl_BeforeCount.mono _ _ _ _)
   | (with_reducible exact laws_alive.mono _)
   | (with_reducible exact spec_BeforeCount.mono _ _ _ _)
   | (with_reducible exact spec_DrawBeforeCount.mono _ _)
   | (with_reducible exact LeO.refl _)
   | (with_reducible exact LeO.none _)
   | (with_reducible refine LeO.ite ?_ ?_)
   | (with_reducible refine LeO.bind ?_ (fun _ => ?_))
   | exact ih0 _ _ _ _
   | exact ih1 _ _ _ _ _ _
   | exact impl_BeforeCount.mono _ _ _ _
   | exact laws_alive.mono _
   | exact spec_BeforeCount.mono _ _ _ _
   | exact spec_DrawBeforeCount.mono _ _
   | exact LeO.none _
   | refine LeO.ite ?_ ?_
   | refine LeO.bind ?_ (fun _ => ?_)
theorem laws_FnNoneBefore.mono : ∀ a0 k, LeO (laws_FnNoneBefore.f k a0) (laws_FnNoneBefore.f (k + 1) a0) := by
 intro a0 k
 obtain ⟨ih0, ih1⟩ := laws_FnNoneBefore.mono_l k
 unfold laws_FnNoneBefore.f
 repeat' first
   | (with_reducible exact ih0 _ _ _ _)
   | (with_reducible exact ih1 _ _ _ _ _ _)
   | (with_reducible exact impl_BeforeCount.mono _ _ _ _)
   | (with_reducible exact laws_alive.mono _)
   | (with_reducible exact spec_BeforeCount.mono _ _ _ _)
   | (with_reducible exact spec_DrawBeforeCount.mono _ _)
   | (with_reducible exact LeO.refl _)
   | (with_reducible exact LeO.none _)
   | (with_reducible refine LeO.ite ?_ ?_)
   | (with_reducible refine LeO.bind ?_ (fun _ => ?_))
   | exact ih0 _ _ _ _
   | exact ih1 _ _ _ _ _ _
   | exact impl_BeforeCount.mono _ _ _ _
   | exact laws_alive.mono _
   | exact spec_BeforeCount.mono _ _ _ _
   | exact spec_DrawBeforeCount.mono _ _
   | exact LeO.none _
   | refine LeO.ite ?_ ?_
   | refine LeO.bind ?_ (fun _ => ?_)
set_option maxHeartbeats 8000000 in
set_option maxRecDepth 100000 in
theorem laws_FnNoneBefore.calls (k : Nat) (A0 : Option Addr) (c0 : Nat) (l0 : List Int) (r : Bool) (w : World) (hr0 : Kd.C (Kd.int .u8) w A0 l0.length l0) (hc0 : l0.length ≤ c0) (h : laws_FnNoneBefore.f k l0 = some r) :
  Calls Try.prog 8 #[.slice A0 l0.length c0] w fun e w' => e = .returned (.bool r) ∧ Below w.heap.size w w' := by
 have HR0 := Aside0.mk hr0
 have HC0 := Aside0.mk hc0
 clear hr0 hc0
 have HB := Aside0.mk (Below.refl w.heap.size w)
 have H : (if (l0.length : Int) > 1048576 then (some true) else ((spec_DrawBeforeCount.f k l0).bind fun bt499 => ((impl_BeforeCount.f k bt499.1 bt499.2.1 bt499.2.2).bind fun t506 => (if t506 < 0 then ((spec_BeforeCount.f k bt499.1 bt499.2.1 bt499.2.2).bind fun t507 => (if t507 = t506 then ((laws_alive.f k).bind fun t508 => (some t508)) else (some false))) else (laws_FnNoneBefore.l0 k bt499.1 bt499.2.2 t506 0))))) = some r := h
 clear h
 by_cases c2 : (l0.length : Int) > 1048576
 ·rw [if_pos c2] at H
  have c2b0 : decide (1048576 < (l0.length : Int)) = true := decide_eq_true c2
  have c2b1 : decide (1048576 < l0.length) = true := decide_eq_true (by omega)
  clear c2
  obtain rfl := Option.some.inj H
  go_enter Try.func8, Try.ntmps8
  go_wp2
  go_ret
  exact ⟨by first | rfl | (simp [errW_none, errW_some] <;> rfl) | (simp [*, errW_none, errW_some] <;> rfl), zB HB.out⟩
 ·rw [if_neg c2] at H
  have c2b0 : decide (1048576 < (l0.length : Int)) = false := decide_eq_false c2
  have c2b1 : decide (1048576 < l0.length) = false := decide_eq_false (by omega)
  clear c2
  replace H := Option.bind_eq_some_iff.mp H
  obtain ⟨⟨t499, t500, t501⟩, A30, H⟩ := H
  replace H : ((impl_BeforeCount.f k t499 t500 t501).bind fun t506 => (if t506 < 0 then ((spec_BeforeCount.f k t499 t500 t501).bind fun t507 => (if t507 = t506 then ((laws_alive.f k).bind fun t508 => (some t508)) else (some false))) else (laws_FnNoneBefore.l0 k t499 t501 t506 0))) = some r := H
  have A3 := Aside0.mk A30
  clear A30
  replace H := Option.bind_eq_some_iff.mp H
  obtain ⟨t506, A40, H⟩ := H
  replace H : (if t506 < 0 then ((spec_BeforeCount.f k t499 t500 t501).bind fun t507 => (if t507 = t506 then ((laws_alive.f k).bind fun t508 => (some t508)) else (some false))) else (laws_FnNoneBefore.l0 k t499 t501 t506 0)) = some r := H
  have A4 := Aside0.mk A40
  clear A40
  by_cases c5 : t506 < 0
  ·rw [if_pos c5] at H
   have c5b0 : decide (t506 < 0) = true := decide_eq_true c5
   clear c5
   replace H := Option.bind_eq_some_iff.mp H
   obtain ⟨t507, A60, H⟩ := H
   replace H : (if t507 = t506 then ((laws_alive.f k).bind fun t508 => (some t508)) else (some false)) = some r := H
   have A6 := Aside0.mk A60
   clear A60
   by_cases c7 : t507 = t506
   ·rw [if_pos c7] at H
    have c7b0 : (t507 == t506) = true := beq_iff_eq.mpr c7
    have c7b1 : (t507 != t506) = false := bne_eq_false_iff_eq.mpr c7
    clear c7
    replace H := Option.bind_eq_some_iff.mp H
    obtain ⟨t508, A80, H⟩ := H
    replace H : (some t508) = some r := H
    have A8 := Aside0.mk A80
    clear A80
    obtain rfl := Option.some.inj H
    go_enter Try.func8, Try.ntmps8
    go_wp2_with (first | ((with_reducible refine gate_callee (f := 27) rfl ?_); refine goesL_ (some 15) rfl rfl Try.func27 (by kernel_rfl) rfl #[.slice A0 l0.length c0] rfl zA ?_; (with_reducible refine (spec_DrawBeforeCount.calls k _ _ l0 t499 t500 t501 _ ?side1 ?side2 A3.out).mono ?_); (case side1 => exact zC HR0.out); (case side2 => exact HC0.out); rintro e w9 ⟨v502, v504, rfl, ho0, ho1, hb⟩; refine ⟨_, rfl, ?_⟩; have n0_ := Aside0.mk (Kd.R_lower ho0 (below_size (zB HB.out))); have n1_ := Aside0.mk (Kd.R_lower ho1 (below_size (zB HB.out))); have n2_ := Aside0.mk (below_step (zB HB.out) hb); clear HB; have HO503 := n0_; have HO505 := n1_; have HB := n2_; clear n0_ n1_ n2_; (try clear hb); (try clear hb2); (try clear hk); (try clear hi); (try clear ho0); (try clear ho1); obtain ⟨Ao10, co10, eo10⟩ := Kd.R_slice HO503.out; subst eo10; obtain ⟨Ao11, co11, eo11⟩ := Kd.R_slice HO505.out; subst eo11) | ((with_reducible refine gate_callee (f := 17) rfl ?_); refine goesL_ (some 22) rfl rfl Try.func17 (by kernel_rfl) rfl #[.slice Ao10 t499.length co10, .int .i64 t500, .slice Ao11 t501.length co11] rfl zA ?_; (with_reducible refine (impl_BeforeCount.calls k _ _ t499 t500 _ _ t501 t506 _ ?side1 ?side2 ?side3 ?side4 A4.out).mono ?_); (case side1 => exact zC (Kd.R_reads' HO503.out).2.2); (case side2 => exact (Kd.R_reads' HO503.out).2.1); (case side3 => exact zC (Kd.R_reads' HO505.out).2.2); (case side4 => exact (Kd.R_reads' HO505.out).2.1); rintro e w12 ⟨rfl, hb⟩; refine ⟨_, rfl, ?_⟩; have n0_ := Aside0.mk (Kd.R_below (zR HO503.out) hb); have n1_ := Aside0.mk (Kd.R_below (zR HO505.out) hb); have n2_ := Aside0.mk (below_step (zB HB.out) hb); clear HO503; clear HO505; clear HB; have HO503 := n0_; have HO505 := n1_; have HB := n2_; clear n0_ n1_ n2_; (try clear hb); (try clear hb2); (try clear hk); (try clear hi)) | ((with_reducible refine gate_callee (f := 15) rfl ?_); refine goesL_ (some 28) rfl rfl Try.func15 (by kernel_rfl) rfl #[.slice Ao10 t499.length co10, .int .i64 t500, .slice Ao11 t501.length co11] rfl zA ?_; (with_reducible refine (spec_BeforeCount.calls k _ _ t499 t500 _ _ t501 t507 _ ?side1 ?side2 ?side3 ?side4 A6.out).mono ?_); (case side1 => exact zC (Kd.R_reads' HO503.out).2.2); (case side2 => exact (Kd.R_reads' HO503.out).2.1); (case side3 => exact zC (Kd.R_reads' HO505.out).2.2); (case side4 => exact (Kd.R_reads' HO505.out).2.1); rintro e w13 ⟨rfl, hb⟩; refine ⟨_, rfl, ?_⟩; have n0_ := Aside0.mk (Kd.R_below (zR HO503.out) hb); have n1_ := Aside0.mk (Kd.R_below (zR HO505.out) hb); have n2_ := Aside0.mk (below_step (zB HB.out) hb); clear HO503; clear HO505; clear HB; have HO503 := n0_; have HO505 := n1_; have HB := n2_; clear n0_ n1_ n2_; (try clear hb); (try clear hb2); (try clear hk); (try clear hi)) | (go_at_call 28; (with_reducible refine (laws_alive.calls k  t508 _ A8.out).mono ?_); rintro e w14 ⟨rfl, hb⟩; have n0_ := Aside0.mk (Kd.R_below (zR HO503.out) hb); have n1_ := Aside0.mk (Kd.R_below (zR HO505.out) hb); have n2_ := Aside0.mk (below_step (zB HB.out) hb); clear HO503; clear HO505; clear HB; have HO503 := n0_; have HO505 := n1_; have HB := n2_; clear n0_ n1_ n2_; (try clear hb); (try clear hb2); (try clear hk); (try clear hi)))
    go_ret
    exact ⟨by first | rfl | (simp [errW_none, errW_some] <;> rfl) | (simp [*, errW_none, errW_some] <;> rfl), zB HB.out⟩
   ·rw [if_neg c7] at H
    have c7b0 : (t507 == t506) = false := beq_eq_false_iff_ne.mpr c7
    have c7b1 : (t507 != t506) = true := bne_iff_ne.mpr c7
    obtain rfl := Option.some.inj H
    go_enter Try.func8, Try.ntmps8
    go_wp2_with (first | ((with_reducible refine gate_callee (f := 27) rfl ?_); refine goesL_ (some 15) rfl rfl Try.func27 (by kernel_rfl) rfl #[.slice A0 l0.length c0] rfl zA ?_; (with_reducible refine (spec_DrawBeforeCount.calls k _ _ l0 t499 t500 t501 _ ?side1 ?side2 A3.out).mono ?_); (case side1 => exact zC HR0.out); (case side2 => exact HC0.out); rintro e w15 ⟨v502, v504, rfl, ho0, ho1, hb⟩; refine ⟨_, rfl, ?_⟩; have n0_ := Aside0.mk (Kd.R_lower ho0 (below_size (zB HB.out))); have n1_ := Aside0.mk (Kd.R_lower ho1 (below_size (zB HB.out))); have n2_ := Aside0.mk (below_step (zB HB.out) hb); clear HB; have HO503 := n0_; have HO505 := n1_; have HB := n2_; clear n0_ n1_ n2_; (try clear hb); (try clear hb2); (try clear hk); (try clear hi); (try clear ho0); (try clear ho1); obtain ⟨Ao16, co16, eo16⟩ := Kd.R_slice HO503.out; subst eo16; obtain ⟨Ao17, co17, eo17⟩ := Kd.R_slice HO505.out; subst eo17) | ((with_reducible refine gate_callee (f := 17) rfl ?_); refine goesL_ (some 22) rfl rfl Try.func17 (by kernel_rfl) rfl #[.slice Ao16 t499.length co16, .int .i64 t500, .slice Ao17 t501.length co17] rfl zA ?_; (with_reducible refine (impl_BeforeCount.calls k _ _ t499 t500 _ _ t501 t506 _ ?side1 ?side2 ?side3 ?side4 A4.out).mono ?_); (case side1 => exact zC (Kd.R_reads' HO503.out).2.2); (case side2 => exact (Kd.R_reads' HO503.out).2.1); (case side3 => exact zC (Kd.R_reads' HO505.out).2.2); (case side4 => exact (Kd.R_reads' HO505.out).2.1); rintro e w18 ⟨rfl, hb⟩; refine ⟨_, rfl, ?_⟩; have n0_ := Aside0.mk (Kd.R_below (zR HO503.out) hb); have n1_ := Aside0.mk (Kd.R_below (zR HO505.out) hb); have n2_ := Aside0.mk (below_step (zB HB.out) hb); clear HO503; clear HO505; clear HB; have HO503 := n0_; have HO505 := n1_; have HB := n2_; clear n0_ n1_ n2_; (try clear hb); (try clear hb2); (try clear hk); (try clear hi)) | ((with_reducible refine gate_callee (f := 15) rfl ?_); refine goesL_ (some 28) rfl rfl Try.func15 (by kernel_rfl) rfl #[.slice Ao16 t499.length co16, .int .i64 t500, .slice Ao17 t501.length co17] rfl zA ?_; (with_reducible refine (spec_BeforeCount.calls k _ _ t499 t500 _ _ t501 t507 _ ?side1 ?side2 ?side3 ?side4 A6.out).mono ?_); (case side1 => exact zC (Kd.R_reads' HO503.out).2.2); (case side2 => exact (Kd.R_reads' HO503.out).2.1); (case side3 => exact zC (Kd.R_reads' HO505.out).2.2); (case side4 => exact (Kd.R_reads' HO505.out).2.1); rintro e w19 ⟨rfl, hb⟩; refine ⟨_, rfl, ?_⟩; have n0_ := Aside0.mk (Kd.R_below (zR HO503.out) hb); have n1_ := Aside0.mk (Kd.R_below (zR HO505.out) hb); have n2_ := Aside0.mk (below_step (zB HB.out) hb); clear HO503; clear HO505; clear HB; have HO503 := n0_; have HO505 := n1_; have HB := n2_; clear n0_ n1_ n2_; (try clear hb); (try clear hb2); (try clear hk); (try clear hi)))
    go_ret
    exact ⟨by first | rfl | (simp [errW_none, errW_some] <;> rfl) | (simp [*, errW_none, errW_some] <;> rfl), zB HB.out⟩
  ·rw [if_neg c5] at H
   have c5b0 : decide (t506 < 0) = false := decide_eq_false c5
   clear c5
   have H' := Aside0.mk H
   clear H
   go_enter Try.func8, Try.ntmps8
   go_wp2_with (first | ((with_reducible refine gate_callee (f := 27) rfl ?_); refine goesL_ (some 15) rfl rfl Try.func27 (by kernel_rfl) rfl #[.slice A0 l0.length c0] rfl zA ?_; (with_reducible refine (spec_DrawBeforeCount.calls k _ _ l0 t499 t500 t501 _ ?side1 ?side2 A3.out).mono ?_); (case side1 => exact zC HR0.out); (case side2 => exact HC0.out); rintro e w20 ⟨v502, v504, rfl, ho0, ho1, hb⟩; refine ⟨_, rfl, ?_⟩; have n0_ := Aside0.mk (Kd.R_lower ho0 (below_size (zB HB.out))); have n1_ := Aside0.mk (Kd.R_lower ho1 (below_size (zB HB.out))); have n2_ := Aside0.mk (below_step (zB HB.out) hb); clear HB; have HO503 := n0_; have HO505 := n1_; have HB := n2_; clear n0_ n1_ n2_; (try clear hb); (try clear hb2); (try clear hk); (try clear hi); (try clear ho0); (try clear ho1); obtain ⟨Ao21, co21, eo21⟩ := Kd.R_slice HO503.out; subst eo21; obtain ⟨Ao22, co22, eo22⟩ := Kd.R_slice HO505.out; subst eo22) | ((with_reducible refine gate_callee (f := 17) rfl ?_); refine goesL_ (some 22) rfl rfl Try.func17 (by kernel_rfl) rfl #[.slice Ao21 t499.length co21, .int .i64 t500, .slice Ao22 t501.length co22] rfl zA ?_; (with_reducible refine (impl_BeforeCount.calls k _ _ t499 t500 _ _ t501 t506 _ ?side1 ?side2 ?side3 ?side4 A4.out).mono ?_); (case side1 => exact zC (Kd.R_reads' HO503.out).2.2); (case side2 => exact (Kd.R_reads' HO503.out).2.1); (case side3 => exact zC (Kd.R_reads' HO505.out).2.2); (case side4 => exact (Kd.R_reads' HO505.out).2.1); rintro e w23 ⟨rfl, hb⟩; refine ⟨_, rfl, ?_⟩; have n0_ := Aside0.mk (Kd.R_below (zR HO503.out) hb); have n1_ := Aside0.mk (Kd.R_below (zR HO505.out) hb); have n2_ := Aside0.mk (below_step (zB HB.out) hb); clear HO503; clear HO505; clear HB; have HO503 := n0_; have HO505 := n1_; have HB := n2_; clear n0_ n1_ n2_; (try clear hb); (try clear hb2); (try clear hk); (try clear hi)))
   go_loopg [7] k (fun kq v7 w' => ∃ (x7_1 : Int), v7 = .int .i64 x7_1 ∧ Aside0 (laws_FnNoneBefore.l0 kq t499 t501 t506 x7_1 = some r) ∧ Aside0 (kq ≤ k) ∧ Aside0 (Kd.R (Kd.int .i64) 3 w' w.heap.size (fun k_ => some k_ ≠ ((.slice Ao22 t501.length co22) : Value).ownBlock) (.slice Ao21 t499.length co21) t499) ∧ Aside0 (Kd.R (Kd.int .i64) 3 w' w.heap.size (fun k_ => some k_ ≠ ((.slice Ao21 t499.length co21) : Value).ownBlock) (.slice Ao22 t501.length co22) t501) ∧ Aside0 (Below w.heap.size w w'))
   case atStart => exact ⟨(0), (by first | rfl | (simp; done) | (simp [*]; done)), H', ⟨Nat.le_refl _⟩, ⟨by (with_reducible repeat (first | apply Kd.R_alloc | apply Kd.R_drewN | apply Kd.R_drew)); exact HO503.out⟩, ⟨by (with_reducible repeat (first | apply Kd.R_alloc | apply Kd.R_drewN | apply Kd.R_drew)); exact HO505.out⟩, ⟨zB HB.out⟩⟩
   case round =>
    clear H'
    try clear c1
    try clear c2
    try clear c2b0
    try clear c2b1
    try clear p2
    try clear c5
    try clear c5b0
    try clear c7
    try clear c7b0
    try clear c7b1
    try clear c8
    try clear c15
    try clear c17
    obtain ⟨x7_1, rfl, HA, HK1, HO_3, HO_5, HB⟩ := hrel
    cases gk with
    | zero => exact absurd HA.out (by simp [laws_FnNoneBefore.l0])
    | succ k1 =>
     have H := HA.out
     clear HA
     simp only [laws_FnNoneBefore.l0] at H
     by_cases c24 : x7_1 < (t499.length : Int)
     ·rw [if_pos c24] at H
      have c24b0 : decide (x7_1 < (t499.length : Int)) = true := decide_eq_true c24
      clear c24
      have H' := Aside0.mk H
      clear H
      go_wp2
      go_loopg [8, 9] k1 (fun kq v8 v9 w' => ∃ (x8_2 : Bool) (x9_2 : Int), v8 = .bool x8_2 ∧ v9 = .int .i64 x9_2 ∧ Aside0 (laws_FnNoneBefore.l1 kq t499 t501 t506 x7_1 x8_2 x9_2 = some r) ∧ Aside0 (kq ≤ k1) ∧ Aside0 (Kd.R (Kd.int .i64) 3 w' w.heap.size (fun k_ => some k_ ≠ ((.slice Ao22 t501.length co22) : Value).ownBlock) (.slice Ao21 t499.length co21) t499) ∧ Aside0 (Kd.R (Kd.int .i64) 3 w' w.heap.size (fun k_ => some k_ ≠ ((.slice Ao21 t499.length co21) : Value).ownBlock) (.slice Ao22 t501.length co22) t501) ∧ Aside0 (Below w.heap.size w w'))
      case atStart => exact ⟨(false), (0), (by first | rfl | (simp; done) | (simp [*]; done)), (by first | rfl | (simp; done) | (simp [*]; done)), H', ⟨Nat.le_refl _⟩, ⟨by (with_reducible repeat (first | apply Kd.R_alloc | apply Kd.R_drewN | apply Kd.R_drew)); exact HO_3.out⟩, ⟨by (with_reducible repeat (first | apply Kd.R_alloc | apply Kd.R_drewN | apply Kd.R_drew)); exact HO_5.out⟩, ⟨zB HB.out⟩⟩
      case round =>
       clear H'
       try clear c1
       try clear c2
       try clear c2b0
       try clear c2b1
       try clear p2
       try clear c5
       try clear c5b0
       try clear c7
       try clear c7b0
       try clear c7b1
       try clear c8
       try clear c15
       try clear c17
       try clear c24
       try clear c24b0
       try clear p2
       obtain ⟨x8_2, x9_2, rfl, rfl, HA, HK2, HO_3, HO_5, HB⟩ := hrel
       cases gk with
       | zero => exact absurd HA.out (by simp [laws_FnNoneBefore.l1])
       | succ k2 =>
        have H := HA.out
        clear HA
        simp only [laws_FnNoneBefore.l1] at H
        by_cases c25 : x9_2 < (t499.length : Int)
        ·rw [if_pos c25] at H
         have c25b0 : decide (x9_2 < (t499.length : Int)) = true := decide_eq_true c25
         clear c25
         by_cases c26 : x8_2 = true
         ·subst c26
          have H1 : (laws_FnNoneBefore.l1 k2 t499 t501 t506 x7_1 true (wrap64 (x9_2 + 1))) = some r := by rw [if_pos rfl] at H; exact H
          clear H
          have H := H1
          clear H1
          have H' := Aside0.mk H
          clear H
          go_wp2
          go_roundg k2
          case measure => have := HK1.out; have := HK2.out; omega
          case rel => exact ⟨(true), (wrap64 (x9_2 + 1)), (by first | rfl | (simp; done) | (simp [*]; done)), (by first | rfl | (simp; done) | (simp [*]; done)), H', ⟨by have := HK1.out; have := HK2.out; omega⟩, ⟨by (with_reducible repeat (first | apply Kd.R_alloc | apply Kd.R_drewN | apply Kd.R_drew)); exact HO_3.out⟩, ⟨by (with_reducible repeat (first | apply Kd.R_alloc | apply Kd.R_drewN | apply Kd.R_drew)); exact HO_5.out⟩, ⟨zB HB.out⟩⟩
         ·replace c26 := Bool.eq_false_iff.mpr c26
          subst c26
          have H1 : (if 0 ≤ x7_1 then (if x7_1 < (t499.length : Int) then (if 0 ≤ x9_2 then (if (Int.tmod (shr .i64 (rd t499 x7_1) x9_2) 2) = 1 then (if x9_2 < (t501.length : Int) then (laws_FnNoneBefore.l1 k2 t499 t501 t506 x7_1 ((rd t501 x9_2) == 2) (wrap64 (x9_2 + 1))) else (none)) else (laws_FnNoneBefore.l1 k2 t499 t501 t506 x7_1 false (wrap64 (x9_2 + 1)))) else (none)) else (none)) else (none)) = some r := by rw [if_neg (show ¬ (false = true) by decide)] at H; exact H
          clear H
          have H := H1
          clear H1
          by_cases c27 : 0 ≤ x7_1
          ·rw [if_pos c27] at H
           have c27b0 : decide (0 ≤ x7_1) = true := decide_eq_true c27
           clear c27
           by_cases c28 : x7_1 < (t499.length : Int)
           ·rw [if_pos c28] at H
            have c28b0 : decide (x7_1 < (t499.length : Int)) = true := decide_eq_true c28
            clear c28
            by_cases c29 : 0 ≤ x9_2
            ·rw [if_pos c29] at H
             have c29b0 := eq_true c29
             have c29b1 : decide (0 ≤ x9_2) = true := decide_eq_true c29
             clear c29
             obtain ⟨ji30, hji30⟩ : ∃ j_ : Int, (shr .i64 (rd t499 x7_1) x9_2) = j_ := ⟨_, rfl⟩
             replace H : (if (Int.tmod (ji30) 2) = 1 then (if x9_2 < (t501.length : Int) then (laws_FnNoneBefore.l1 k2 t499 t501 t506 x7_1 ((rd t501 x9_2) == 2) (wrap64 (x9_2 + 1))) else (none)) else (laws_FnNoneBefore.l1 k2 t499 t501 t506 x7_1 false (wrap64 (x9_2 + 1)))) = some r := by first | (rw [hji30] at H; exact H) | (simp only [hji30] at H ⊢; exact H)
             have hji30_ : ((rd t499 x7_1) / 2 ^ min x9_2.toNat 64) = ji30 := hji30
             have hji30z : x9_2 ≤ 64 → ((rd t499 x7_1) / 2 ^ x9_2.toNat) = ji30 := shr_small hji30
             by_cases c31 : (Int.tmod (ji30) 2) = 1
             ·rw [if_pos c31] at H
              have c31b0 : ((Int.tmod (ji30) 2) == 1) = true := beq_iff_eq.mpr c31
              have c31b1 : ((Int.tmod (ji30) 2) != 1) = false := bne_eq_false_iff_eq.mpr c31
              clear c31
              by_cases c32 : x9_2 < (t501.length : Int)
              ·rw [if_pos c32] at H
               have c32b0 : decide (x9_2 < (t501.length : Int)) = true := decide_eq_true c32
               clear c32
               have H' := Aside0.mk H
               clear H
               have p510 : 0 ≤ (x7_1 : Int) := zD
               have q510 : x7_1 < (t499.length : Int) := zD
               obtain ⟨ad510, e510, hx510_0⟩ := Kd.at_int (Kd.R_reads' HO_3.out).2.2 x7_1 p510 q510
               cases e510
               replace p510 := eq_true p510
               replace q510 := eq_true q510
               have p511 : 0 ≤ (x9_2 : Int) := zD
               have q511 : x9_2 < (t501.length : Int) := zD
               obtain ⟨ad511, e511, hx511_0⟩ := Kd.at_int (Kd.R_reads' HO_5.out).2.2 x9_2 p511 q511
               cases e511
               replace p511 := eq_true p511
               replace q511 := eq_true q511
               go_wp2
               go_roundg k2
               case measure => have := HK1.out; have := HK2.out; omega
               case rel => exact ⟨(((rd t501 x9_2) == 2)), (wrap64 (x9_2 + 1)), (by first | rfl | (simp; done) | (simp [*]; done)), (by first | rfl | (simp; done) | (simp [*]; done)), H', ⟨by have := HK1.out; have := HK2.out; omega⟩, ⟨by (with_reducible repeat (first | apply Kd.R_alloc | apply Kd.R_drewN | apply Kd.R_drew)); exact HO_3.out⟩, ⟨by (with_reducible repeat (first | apply Kd.R_alloc | apply Kd.R_drewN | apply Kd.R_drew)); exact HO_5.out⟩, ⟨zB HB.out⟩⟩
              ·rw [if_neg c32] at H
               exact absurd H (by simp)
             ·rw [if_neg c31] at H
              have c31b0 : ((Int.tmod (ji30) 2) == 1) = false := beq_eq_false_iff_ne.mpr c31
              have c31b1 : ((Int.tmod (ji30) 2) != 1) = true := bne_iff_ne.mpr c31
              have H' := Aside0.mk H
              clear H
              have p510 : 0 ≤ (x7_1 : Int) := zD
              have q510 : x7_1 < (t499.length : Int) := zD
              obtain ⟨ad510, e510, hx510_0⟩ := Kd.at_int (Kd.R_reads' HO_3.out).2.2 x7_1 p510 q510
              cases e510
              replace p510 := eq_true p510
              replace q510 := eq_true q510
              go_wp2
              go_roundg k2
              case measure => have := HK1.out; have := HK2.out; omega
              case rel => exact ⟨(false), (wrap64 (x9_2 + 1)), (by first | rfl | (simp; done) | (simp [*]; done)), (by first | rfl | (simp; done) | (simp [*]; done)), H', ⟨by have := HK1.out; have := HK2.out; omega⟩, ⟨by (with_reducible repeat (first | apply Kd.R_alloc | apply Kd.R_drewN | apply Kd.R_drew)); exact HO_3.out⟩, ⟨by (with_reducible repeat (first | apply Kd.R_alloc | apply Kd.R_drewN | apply Kd.R_drew)); exact HO_5.out⟩, ⟨zB HB.out⟩⟩
            ·rw [if_neg c29] at H
             exact absurd H (by simp)
           ·rw [if_neg c28] at H
            exact absurd H (by simp)
          ·rw [if_neg c27] at H
           exact absurd H (by simp)
        ·rw [if_neg c25] at H
         have c25b0 : decide (x9_2 < (t499.length : Int)) = false := decide_eq_false c25
         clear c25
         by_cases c33 : 0 ≤ x7_1
         ·rw [if_pos c33] at H
          have c33b0 : decide (0 ≤ x7_1) = true := decide_eq_true c33
          clear c33
          by_cases c34 : x7_1 < (t501.length : Int)
          ·rw [if_pos c34] at H
           have c34b0 : decide (x7_1 < (t501.length : Int)) = true := decide_eq_true c34
           clear c34
           by_cases c35 : (rd t501 x7_1) = 1
           ·rw [if_pos c35] at H
            have c35b0 : ((rd t501 x7_1) == 1) = true := beq_iff_eq.mpr c35
            have c35b1 : ((rd t501 x7_1) != 1) = false := bne_eq_false_iff_eq.mpr c35
            clear c35
            by_cases c36 : x8_2 = true
            ·subst c36
             have H1 : (laws_FnNoneBefore.l0 k2 t499 t501 t506 (wrap64 (x7_1 + 1))) = some r := by rw [if_pos rfl] at H; exact H
             clear H
             have H := H1
             clear H1
             have H' := Aside0.mk H
             clear H
             have p512 : 0 ≤ (x7_1 : Int) := zD
             have q512 : x7_1 < (t501.length : Int) := zD
             obtain ⟨ad512, e512, hx512_0⟩ := Kd.at_int (Kd.R_reads' HO_5.out).2.2 x7_1 p512 q512
             cases e512
             replace p512 := eq_true p512
             replace q512 := eq_true q512
             go_wp2
             go_roundg k2
             case measure => have := HK1.out; have := HK2.out; omega
             case rel => exact ⟨(wrap64 (x7_1 + 1)), (by first | rfl | (simp; done) | (simp [*]; done)), H', ⟨by have := HK1.out; have := HK2.out; omega⟩, ⟨by (with_reducible repeat (first | apply Kd.R_alloc | apply Kd.R_drewN | apply Kd.R_drew)); exact HO_3.out⟩, ⟨by (with_reducible repeat (first | apply Kd.R_alloc | apply Kd.R_drewN | apply Kd.R_drew)); exact HO_5.out⟩, ⟨zB HB.out⟩⟩
            ·replace c36 := Bool.eq_false_iff.mpr c36
             subst c36
             have H1 : (if t506 = 0 then (laws_FnNoneBefore.l0 k2 t499 t501 t506 (wrap64 (x7_1 + 1))) else (some false)) = some r := by rw [if_neg (show ¬ (false = true) by decide)] at H; exact H
             clear H
             have H := H1
             clear H1
             by_cases c37 : t506 = 0
             ·rw [if_pos c37] at H
              have c37b0 : (t506 == 0) = true := beq_iff_eq.mpr c37
              have c37b1 : (t506 != 0) = false := bne_eq_false_iff_eq.mpr c37
              clear c37
              have H' := Aside0.mk H
              clear H
              have p512 : 0 ≤ (x7_1 : Int) := zD
              have q512 : x7_1 < (t501.length : Int) := zD
              obtain ⟨ad512, e512, hx512_0⟩ := Kd.at_int (Kd.R_reads' HO_5.out).2.2 x7_1 p512 q512
              cases e512
              replace p512 := eq_true p512
              replace q512 := eq_true q512
              go_wp2
              go_roundg k2
              case measure => have := HK1.out; have := HK2.out; omega
              case rel => exact ⟨(wrap64 (x7_1 + 1)), (by first | rfl | (simp; done) | (simp [*]; done)), H', ⟨by have := HK1.out; have := HK2.out; omega⟩, ⟨by (with_reducible repeat (first | apply Kd.R_alloc | apply Kd.R_drewN | apply Kd.R_drew)); exact HO_3.out⟩, ⟨by (with_reducible repeat (first | apply Kd.R_alloc | apply Kd.R_drewN | apply Kd.R_drew)); exact HO_5.out⟩, ⟨zB HB.out⟩⟩
             ·rw [if_neg c37] at H
              have c37b0 : (t506 == 0) = false := beq_eq_false_iff_ne.mpr c37
              have c37b1 : (t506 != 0) = true := bne_iff_ne.mpr c37
              obtain rfl := Option.some.inj H
              have p512 : 0 ≤ (x7_1 : Int) := zD
              have q512 : x7_1 < (t501.length : Int) := zD
              obtain ⟨ad512, e512, hx512_0⟩ := Kd.at_int (Kd.R_reads' HO_5.out).2.2 x7_1 p512 q512
              cases e512
              replace p512 := eq_true p512
              replace q512 := eq_true q512
              go_wp2
              go_ret
              exact ⟨by first | rfl | (simp [errW_none, errW_some] <;> rfl) | (simp [*, errW_none, errW_some] <;> rfl), zB HB.out⟩
           ·rw [if_neg c35] at H
            have c35b0 : ((rd t501 x7_1) == 1) = false := beq_eq_false_iff_ne.mpr c35
            have c35b1 : ((rd t501 x7_1) != 1) = true := bne_iff_ne.mpr c35
            have H' := Aside0.mk H
            clear H
            have p512 : 0 ≤ (x7_1 : Int) := zD
            have q512 : x7_1 < (t501.length : Int) := zD
            obtain ⟨ad512, e512, hx512_0⟩ := Kd.at_int (Kd.R_reads' HO_5.out).2.2 x7_1 p512 q512
            cases e512
            replace p512 := eq_true p512
            replace q512 := eq_true q512
            go_wp2
            go_roundg k2
            case measure => have := HK1.out; have := HK2.out; omega
            case rel => exact ⟨(wrap64 (x7_1 + 1)), (by first | rfl | (simp; done) | (simp [*]; done)), H', ⟨by have := HK1.out; have := HK2.out; omega⟩, ⟨by (with_reducible repeat (first | apply Kd.R_alloc | apply Kd.R_drewN | apply Kd.R_drew)); exact HO_3.out⟩, ⟨by (with_reducible repeat (first | apply Kd.R_alloc | apply Kd.R_drewN | apply Kd.R_drew)); exact HO_5.out⟩, ⟨zB HB.out⟩⟩
          ·rw [if_neg c34] at H
           exact absurd H (by simp)
         ·rw [if_neg c33] at H
          exact absurd H (by simp)
     ·rw [if_neg c24] at H
      have c24b0 : decide (x7_1 < (t499.length : Int)) = false := decide_eq_false c24
      clear c24
      replace H := Option.bind_eq_some_iff.mp H
      obtain ⟨t509, A380, H⟩ := H
      replace H : (some t509) = some r := H
      have A38 := Aside0.mk A380
      clear A380
      obtain rfl := Option.some.inj H
      go_wp2_with (first | ((with_reducible refine gate_callee (f := 28) rfl ?_); refine goesL_ (some 77) rfl rfl Try.func28 (by kernel_rfl) rfl #[] rfl zA ?_; (with_reducible refine (laws_alive.calls k1  t509 _ A38.out).mono ?_); rintro e w39 ⟨rfl, hb⟩; refine ⟨_, rfl, ?_⟩; have n0_ := Aside0.mk (Kd.R_below (zR HO_3.out) hb); have n1_ := Aside0.mk (Kd.R_below (zR HO_5.out) hb); have n2_ := Aside0.mk (below_step (zB HB.out) hb); clear HO_3; clear HO_5; clear HB; have HO_3 := n0_; have HO_5 := n1_; have HB := n2_; clear n0_ n1_ n2_; (try clear hb); (try clear hb2); (try clear hk); (try clear hi)))
      go_ret
      exact ⟨by first | rfl | (simp [errW_none, errW_some] <;> rfl) | (simp [*, errW_none, errW_some] <;> rfl), zB HB.out⟩

/-- THE ONE PURE STATEMENT of laws_FnNoneBefore: yours. -/
def laws_FnNoneBefore.Pure : Prop := ∀ (l0 : List Int), l0.length ≤ maxLen → l0.length * 1 ≤ 140737488351232 → (∀ x ∈ l0, (Lit.int .u8 x).wf = true) → ∃ k, laws_FnNoneBefore.f k l0 = some true
theorem laws_FnNoneBefore.walk (P : laws_FnNoneBefore.Pure) (a0 : Option Addr) (len0 cap0 : Nat) (z0 : List Int) (w : World) (w0 : (a0 = none ∧ len0 = 0 ∧ cap0 = 0 ∧ z0 = []) ∨ ∃ x, a0 = some x ∧ len0 ≤ cap0 ∧ cap0 ≤ maxLen ∧ z0.length = cap0 ∧ (∀ i, i < z0.length → w.cell? (x.add i) = some (.int .u8 (z0.getD i 0))) ∧ ∀ n ∈ z0, (Lit.int .u8 n).wf = true) (y0 : len0 * 1 ≤ 140737488351232) :
  Calls Try.prog 8 #[.slice a0 len0 cap0] w fun e w' => e = .returned (.bool true) ∧ Below w.heap.size w w' := by
 obtain ⟨l0, rfl, hr0, hm0, hw0, hc0⟩ := ReadsInt.ofRowC w0
 obtain ⟨k, h⟩ := P l0 hm0 y0 hw0
 refine (laws_FnNoneBefore.calls k _ _ l0 true w (Kd.C_of_reads (d := (0 : Int)) (h1 := fun _ => rfl) hr0) hc0 h).mono ?_
 rintro e w' ⟨rfl, hd⟩
 exact ⟨rfl, hd⟩

end Go.Proofs.Ytgglagpciojfmaa.PAll
