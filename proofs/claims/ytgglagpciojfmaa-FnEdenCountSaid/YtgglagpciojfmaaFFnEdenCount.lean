/- Own text of this session, written by a program of this session (wip/t/own.py) out of what the kit tells of the functions: each Go function as a Lean function, and the walk through its code. -/
import Derived.Test.YtgglagpciojfmaaT
import Derived.Test.YtgglagpciojfmaaF1
import Derived.Test.YtgglagpciojfmaaF11
import Derived.Test.YtgglagpciojfmaaF14
import Derived.Test.YtgglagpciojfmaaF28
import Derived.Test.YtgglagpciojfmaaF33
import Derived.Test.YtgglagpciojfmaaF34
import Derived.Test.YtgglagpciojfmaaF9
namespace Go.Proofs.Ytgglagpciojfmaa.PAll
open Go.RowKit Go.Proofs.YtgglagpciojfmaaW.PrintWords Go.Proofs.YtgglagpciojfmaaW.PrintLast Go.Proofs.YtgglagpciojfmaaW.PrintMore
attribute [local go_sem] max2_int min2_int max_two min_two max_three min_three max_four min_four   -- for this text's walks alone
set_option linter.unusedVariables false
set_option linter.unusedSimpArgs false

/-! ### laws_FnEdenCount: function 9 -/
mutual
def laws_FnEdenCount.l0 : Nat → List Int → Int → Int → Int → Int → Int → Option (Bool)
 | 0, _, _, _, _, _, _ => none
 | k + 1, x3, x4, x5, x6, x7, x8 => if x8 < x6 then (laws_FnEdenCount.j1 k x3 x4 x5 x6 x7 x8 (decide (x6 ≤ 81))) else (laws_FnEdenCount.j1 k x3 x4 x5 x6 x7 x8 false)
def laws_FnEdenCount.j1 : Nat → List Int → Int → Int → Int → Int → Int → Bool → Option (Bool)
 | 0, _, _, _, _, _, _, _ => none
 | k + 1, x3, x4, x5, x6, x7, x8, x42 => if x42 = true then ((impl_StateOf.f k (x3.length : Int) x4 x8).bind fun t540 => ((impl_BeforeCount.f k x3 x4 t540).bind fun t543 => (if t543 = 0 then (laws_FnEdenCount.l0 k x3 x4 x5 x6 (wrap64 (x7 + 1)) (wrap64 (x8 + 1))) else (laws_FnEdenCount.l0 k x3 x4 x5 x6 x7 (wrap64 (x8 + 1)))))) else (if x6 > 81 then ((impl_EdenCount.f k (([0] : List Int)) x4).bind fun t535 => (if t535 = 1 then (some (decide (x5 < x6))) else (some false))) else (if x7 = x5 then ((impl_EdenCount.f k (([0] : List Int)) x4).bind fun t539 => (if t539 = 1 then (some (decide (x5 < x6))) else (some false))) else (some false)))
end
def laws_FnEdenCount.f (k : Nat) (l0 : List Int) : Option (Bool) := if (l0.length : Int) > 1048576 then (some true) else ((spec_DrawEdenCount.f k l0).bind fun bt524 => ((impl_EdenCount.f k bt524.1 bt524.2).bind fun t528 => ((spec_EdenCount.f k bt524.1 bt524.2).bind fun t529 => (if t528 = t529 then (if t528 < 0 then (if t528 = (-1) then ((laws_alive.f k).bind fun t530 => (some t530)) else (some false)) else ((laws_powerOf.f k bt524.2 (bt524.1.length : Int)).bind fun t531 => (laws_FnEdenCount.l0 k bt524.1 bt524.2 t528 t531 0 0))) else (some false)))))
theorem laws_FnEdenCount.mono_l : ∀ k, (∀ y0 y1 y2 y3 y4 y5, LeO (laws_FnEdenCount.l0 k y0 y1 y2 y3 y4 y5) (laws_FnEdenCount.l0 (k + 1) y0 y1 y2 y3 y4 y5)) ∧ (∀ y0 y1 y2 y3 y4 y5 y6, LeO (laws_FnEdenCount.j1 k y0 y1 y2 y3 y4 y5 y6) (laws_FnEdenCount.j1 (k + 1) y0 y1 y2 y3 y4 y5 y6))
 | 0 => ⟨fun _ _ _ _ _ _ r h => by simp [laws_FnEdenCount.l0] at h, fun _ _ _ _ _ _ _ r h => by simp [laws_FnEdenCount.j1] at h⟩
 | k + 1 => by
  obtain ⟨ih0, ih1⟩ := laws_FnEdenCount.mono_l k
  refine ⟨?_, ?_⟩
  ·intro y0 y1 y2 y3 y4 y5
   unfold laws_FnEdenCount.l0
   repeat' first
   | (with_reducible exact ih0 _ _ _ _ _ _)
   | (with_reducible exact ih1 _ _ _ _ _ _ _)
   | (with_reducible exact impl_BeforeCount.mono _ _ _ _)
   | (with_reducible exact impl_EdenCount.mono _ _ _)
   | (with_reducible exact impl_StateOf.mono _ _ _ _)
   | (with_reducible exact laws_alive.mono _)
   | (with_reducible exact laws_powerOf.mono _ _ _)
   | (with_reducible exact spec_DrawEdenCount.mono _ _)
   | (with_reducible exact spec_EdenCount.mono _ _ _)
   | (with_reducible exact LeO.refl _)
   | (with_reducible exact LeO.none _)
   | (with_reducible refine LeO.ite ?_ ?_)
   | (with_reducible refine LeO.bind ?_ (fun _ => ?_))
   | exact ih0 _ _ _ _ _ _
   | exact ih1 _ _ _ _ _ _ _
   | exact impl_BeforeCount.mono _ _ _ _
   | exact impl_EdenCount.mono _ _ _
   | exact impl_StateOf.mono _ _ _ _
   | exact laws_alive.mono _
   | exact laws_powerOf.mono _ _ _
   | exact spec_DrawEdenCount.mono _ _
   | exact spec_EdenCount.mono _ _ _
   | exact LeO.none _
   | refine LeO.ite ?_ ?_
   | refine LeO.bind ?_ (fun _ => ?_)
  ·intro y0 y1 y2 y3 y4 y5 y6
   unfold laws_FnEdenCount.j1
   repeat' first
   | (with_reducible exact ih0 _ _ _ _ _ _)
   | (with_reducible exact ih1 _ _ _ _ _ _ _)
   | (with_reducible exact impl_BeforeCount.mono _ _ _ _)
   | (with_reducible exact impl_EdenCount.mono _ _ _)
   | (with_reducible exact impl_StateOf.mono _ _ _ _)
   | (with_reducible exact laws_alive.mono _)
   | (with_reducible exact laws_powerOf.mono _ _ _)
   | (with_reducible exact spec_DrawEdenCount.mono _ _)
   | (with_reducible exact spec_EdenCount.mono _ _ _)
   | (with_reducible exact LeO.refl _)
   | (with_reducible exact LeO.none _)
   | (with_reducible refine LeO.ite ?_ ?_)
   | (with_reducible refine LeO.bind ?_ (fun _ => ?_))
   | exact ih0 _ _ _ _ _ _
   | exact ih1 _ _ _ _ _ _ _
   | exact impl_BeforeCount.mono _ _ _ _
   | exact impl_EdenCount.mono _ _ _
   | exact impl_StateOf.mono _ _ _ _
   | exact laws_alive.mono _
   | exact laws_powerOf.mono _ _ _
   | exact spec_DrawEdenCount.mono _ _
   | exact spec_EdenCount.mono _ _ _
   | exact LeO.none _
   | refine LeO.ite ?_ ?_
   | refine LeO.bind ?_ (fun _ => ?_)
theorem laws_FnEdenCount.mono : ∀ a0 k, LeO (laws_FnEdenCount.f k a0) (laws_FnEdenCount.f (k + 1) a0) := by
 intro a0 k
 obtain ⟨ih0, ih1⟩ := laws_FnEdenCount.mono_l k
 unfold laws_FnEdenCount.f
 repeat' first
   | (with_reducible exact ih0 _ _ _ _ _ _)
   | (with_reducible exact ih1 _ _ _ _ _ _ _)
   | (with_reducible exact impl_BeforeCount.mono _ _ _ _)
   | (with_reducible exact impl_EdenCount.mono _ _ _)
   | (with_reducible exact impl_StateOf.mono _ _ _ _)
   | (with_reducible exact laws_alive.mono _)
   | (with_reducible exact laws_powerOf.mono _ _ _)
   | (with_reducible exact spec_DrawEdenCount.mono _ _)
   | (with_reducible exact spec_EdenCount.mono _ _ _)
   | (with_reducible exact LeO.refl _)
   | (with_reducible exact LeO.none _)
   | (with_reducible refine LeO.ite ?_ ?_)
   | (with_reducible refine LeO.bind ?_ (fun _ => ?_))
   | exact ih0 _ _ _ _ _ _
   | exact ih1 _ _ _ _ _ _ _
   | exact impl_BeforeCount.mono _ _ _ _
   | exact impl_EdenCount.mono _ _ _
   | exact impl_StateOf.mono _ _ _ _
   | exact laws_alive.mono _
   | exact laws_powerOf.mono _ _ _
   | exact spec_DrawEdenCount.mono _ _
   | exact spec_EdenCount.mono _ _ _
   | exact LeO.none _
   | refine LeO.ite ?_ ?_
   | refine LeO.bind ?_ (fun _ => ?_)
set_option maxHeartbeats 8000000 in
set_option maxRecDepth 100000 in
theorem laws_FnEdenCount.calls (k : Nat) (A0 : Option Addr) (c0 : Nat) (l0 : List Int) (r : Bool) (w : World) (hr0 : Kd.C (Kd.int .u8) w A0 l0.length l0) (hc0 : l0.length ≤ c0) (h : laws_FnEdenCount.f k l0 = some r) :
  Calls Try.prog 9 #[.slice A0 l0.length c0] w fun e w' => e = .returned (.bool r) ∧ Below w.heap.size w w' := by
 have HR0 := Aside0.mk hr0
 have HC0 := Aside0.mk hc0
 clear hr0 hc0
 have HB := Aside0.mk (Below.refl w.heap.size w)
 have H : (if (l0.length : Int) > 1048576 then (some true) else ((spec_DrawEdenCount.f k l0).bind fun bt524 => ((impl_EdenCount.f k bt524.1 bt524.2).bind fun t528 => ((spec_EdenCount.f k bt524.1 bt524.2).bind fun t529 => (if t528 = t529 then (if t528 < 0 then (if t528 = (-1) then ((laws_alive.f k).bind fun t530 => (some t530)) else (some false)) else ((laws_powerOf.f k bt524.2 (bt524.1.length : Int)).bind fun t531 => (laws_FnEdenCount.l0 k bt524.1 bt524.2 t528 t531 0 0))) else (some false)))))) = some r := h
 clear h
 by_cases c2 : (l0.length : Int) > 1048576
 ·rw [if_pos c2] at H
  have c2b0 : decide (1048576 < (l0.length : Int)) = true := decide_eq_true c2
  have c2b1 : decide (1048576 < l0.length) = true := decide_eq_true (by omega)
  clear c2
  obtain rfl := Option.some.inj H
  go_enter Try.func9, Try.ntmps9
  go_wp2
  go_ret
  exact ⟨by first | rfl | (simp [errW_none, errW_some] <;> rfl) | (simp [*, errW_none, errW_some] <;> rfl), zB HB.out⟩
 ·rw [if_neg c2] at H
  have c2b0 : decide (1048576 < (l0.length : Int)) = false := decide_eq_false c2
  have c2b1 : decide (1048576 < l0.length) = false := decide_eq_false (by omega)
  clear c2
  replace H := Option.bind_eq_some_iff.mp H
  obtain ⟨⟨t524, t525⟩, A30, H⟩ := H
  replace H : ((impl_EdenCount.f k t524 t525).bind fun t528 => ((spec_EdenCount.f k t524 t525).bind fun t529 => (if t528 = t529 then (if t528 < 0 then (if t528 = (-1) then ((laws_alive.f k).bind fun t530 => (some t530)) else (some false)) else ((laws_powerOf.f k t525 (t524.length : Int)).bind fun t531 => (laws_FnEdenCount.l0 k t524 t525 t528 t531 0 0))) else (some false)))) = some r := H
  have A3 := Aside0.mk A30
  clear A30
  replace H := Option.bind_eq_some_iff.mp H
  obtain ⟨t528, A40, H⟩ := H
  replace H : ((spec_EdenCount.f k t524 t525).bind fun t529 => (if t528 = t529 then (if t528 < 0 then (if t528 = (-1) then ((laws_alive.f k).bind fun t530 => (some t530)) else (some false)) else ((laws_powerOf.f k t525 (t524.length : Int)).bind fun t531 => (laws_FnEdenCount.l0 k t524 t525 t528 t531 0 0))) else (some false))) = some r := H
  have A4 := Aside0.mk A40
  clear A40
  replace H := Option.bind_eq_some_iff.mp H
  obtain ⟨t529, A50, H⟩ := H
  replace H : (if t528 = t529 then (if t528 < 0 then (if t528 = (-1) then ((laws_alive.f k).bind fun t530 => (some t530)) else (some false)) else ((laws_powerOf.f k t525 (t524.length : Int)).bind fun t531 => (laws_FnEdenCount.l0 k t524 t525 t528 t531 0 0))) else (some false)) = some r := H
  have A5 := Aside0.mk A50
  clear A50
  by_cases c6 : t528 = t529
  ·rw [if_pos c6] at H
   have c6b0 : (t528 == t529) = true := beq_iff_eq.mpr c6
   have c6b1 : (t528 != t529) = false := bne_eq_false_iff_eq.mpr c6
   clear c6
   by_cases c7 : t528 < 0
   ·rw [if_pos c7] at H
    have c7b0 : decide (t528 < 0) = true := decide_eq_true c7
    clear c7
    by_cases c8 : t528 = (-1)
    ·rw [if_pos c8] at H
     have c8b0 : (t528 == (-1)) = true := beq_iff_eq.mpr c8
     have c8b1 : (t528 != (-1)) = false := bne_eq_false_iff_eq.mpr c8
     clear c8
     replace H := Option.bind_eq_some_iff.mp H
     obtain ⟨t530, A90, H⟩ := H
     replace H : (some t530) = some r := H
     have A9 := Aside0.mk A90
     clear A90
     obtain rfl := Option.some.inj H
     go_enter Try.func9, Try.ntmps9
     go_wp2_with (first | ((with_reducible refine gate_callee (f := 29) rfl ?_); refine goesL_ (some 14) rfl rfl Try.func29 (by kernel_rfl) rfl #[.slice A0 l0.length c0] rfl zA ?_; (with_reducible refine (spec_DrawEdenCount.calls k _ _ l0 t524 t525 _ ?side1 ?side2 A3.out).mono ?_); (case side1 => exact zC HR0.out); (case side2 => exact HC0.out); rintro e w10 ⟨v526, rfl, ho0, hb⟩; refine ⟨_, rfl, ?_⟩; have n0_ := Aside0.mk (Kd.R_lower ho0 (below_size (zB HB.out))); have n1_ := Aside0.mk (below_step (zB HB.out) hb); clear HB; have HO527 := n0_; have HB := n1_; clear n0_ n1_; (try clear hb); (try clear hb2); (try clear hk); (try clear hi); (try clear ho0); obtain ⟨Ao11, co11, eo11⟩ := Kd.R_slice HO527.out; subst eo11) | ((with_reducible refine gate_callee (f := 20) rfl ?_); refine goesL_ (some 19) rfl rfl Try.func20 (by kernel_rfl) rfl #[.slice Ao11 t524.length co11, .int .i64 t525] rfl zA ?_; (with_reducible refine (impl_EdenCount.calls k _ _ t524 t525 t528 _ ?side1 ?side2 A4.out).mono ?_); (case side1 => exact zC (Kd.R_reads' HO527.out).2.2); (case side2 => exact (Kd.R_reads' HO527.out).2.1); rintro e w12 ⟨rfl, hb⟩; refine ⟨_, rfl, ?_⟩; have n0_ := Aside0.mk (Kd.R_below (zR HO527.out) hb); have n1_ := Aside0.mk (below_step (zB HB.out) hb); clear HO527; clear HB; have HO527 := n0_; have HB := n1_; clear n0_ n1_; (try clear hb); (try clear hb2); (try clear hk); (try clear hi)) | ((with_reducible refine gate_callee (f := 19) rfl ?_); refine goesL_ (some 23) rfl rfl Try.func19 (by kernel_rfl) rfl #[.slice Ao11 t524.length co11, .int .i64 t525] rfl zA ?_; (with_reducible refine (spec_EdenCount.calls k _ _ t524 t525 t529 _ ?side1 ?side2 A5.out).mono ?_); (case side1 => exact zC (Kd.R_reads' HO527.out).2.2); (case side2 => exact (Kd.R_reads' HO527.out).2.1); rintro e w13 ⟨rfl, hb⟩; refine ⟨_, rfl, ?_⟩; have n0_ := Aside0.mk (Kd.R_below (zR HO527.out) hb); have n1_ := Aside0.mk (below_step (zB HB.out) hb); clear HO527; clear HB; have HO527 := n0_; have HB := n1_; clear n0_ n1_; (try clear hb); (try clear hb2); (try clear hk); (try clear hi)) | (go_at_call 28; (with_reducible refine (laws_alive.calls k  t530 _ A9.out).mono ?_); rintro e w14 ⟨rfl, hb⟩; have n0_ := Aside0.mk (Kd.R_below (zR HO527.out) hb); have n1_ := Aside0.mk (below_step (zB HB.out) hb); clear HO527; clear HB; have HO527 := n0_; have HB := n1_; clear n0_ n1_; (try clear hb); (try clear hb2); (try clear hk); (try clear hi)))
     go_ret
     exact ⟨by first | rfl | (simp [errW_none, errW_some] <;> rfl) | (simp [*, errW_none, errW_some] <;> rfl), zB HB.out⟩
    ·rw [if_neg c8] at H
     have c8b0 : (t528 == (-1)) = false := beq_eq_false_iff_ne.mpr c8
     have c8b1 : (t528 != (-1)) = true := bne_iff_ne.mpr c8
     obtain rfl := Option.some.inj H
     go_enter Try.func9, Try.ntmps9
     go_wp2_with (first | ((with_reducible refine gate_callee (f := 29) rfl ?_); refine goesL_ (some 14) rfl rfl Try.func29 (by kernel_rfl) rfl #[.slice A0 l0.length c0] rfl zA ?_; (with_reducible refine (spec_DrawEdenCount.calls k _ _ l0 t524 t525 _ ?side1 ?side2 A3.out).mono ?_); (case side1 => exact zC HR0.out); (case side2 => exact HC0.out); rintro e w15 ⟨v526, rfl, ho0, hb⟩; refine ⟨_, rfl, ?_⟩; have n0_ := Aside0.mk (Kd.R_lower ho0 (below_size (zB HB.out))); have n1_ := Aside0.mk (below_step (zB HB.out) hb); clear HB; have HO527 := n0_; have HB := n1_; clear n0_ n1_; (try clear hb); (try clear hb2); (try clear hk); (try clear hi); (try clear ho0); obtain ⟨Ao16, co16, eo16⟩ := Kd.R_slice HO527.out; subst eo16) | ((with_reducible refine gate_callee (f := 20) rfl ?_); refine goesL_ (some 19) rfl rfl Try.func20 (by kernel_rfl) rfl #[.slice Ao16 t524.length co16, .int .i64 t525] rfl zA ?_; (with_reducible refine (impl_EdenCount.calls k _ _ t524 t525 t528 _ ?side1 ?side2 A4.out).mono ?_); (case side1 => exact zC (Kd.R_reads' HO527.out).2.2); (case side2 => exact (Kd.R_reads' HO527.out).2.1); rintro e w17 ⟨rfl, hb⟩; refine ⟨_, rfl, ?_⟩; have n0_ := Aside0.mk (Kd.R_below (zR HO527.out) hb); have n1_ := Aside0.mk (below_step (zB HB.out) hb); clear HO527; clear HB; have HO527 := n0_; have HB := n1_; clear n0_ n1_; (try clear hb); (try clear hb2); (try clear hk); (try clear hi)) | ((with_reducible refine gate_callee (f := 19) rfl ?_); refine goesL_ (some 23) rfl rfl Try.func19 (by kernel_rfl) rfl #[.slice Ao16 t524.length co16, .int .i64 t525] rfl zA ?_; (with_reducible refine (spec_EdenCount.calls k _ _ t524 t525 t529 _ ?side1 ?side2 A5.out).mono ?_); (case side1 => exact zC (Kd.R_reads' HO527.out).2.2); (case side2 => exact (Kd.R_reads' HO527.out).2.1); rintro e w18 ⟨rfl, hb⟩; refine ⟨_, rfl, ?_⟩; have n0_ := Aside0.mk (Kd.R_below (zR HO527.out) hb); have n1_ := Aside0.mk (below_step (zB HB.out) hb); clear HO527; clear HB; have HO527 := n0_; have HB := n1_; clear n0_ n1_; (try clear hb); (try clear hb2); (try clear hk); (try clear hi)))
     go_ret
     exact ⟨by first | rfl | (simp [errW_none, errW_some] <;> rfl) | (simp [*, errW_none, errW_some] <;> rfl), zB HB.out⟩
   ·rw [if_neg c7] at H
    have c7b0 : decide (t528 < 0) = false := decide_eq_false c7
    clear c7
    replace H := Option.bind_eq_some_iff.mp H
    obtain ⟨t531, A190, H⟩ := H
    replace H : (laws_FnEdenCount.l0 k t524 t525 t528 t531 0 0) = some r := H
    have A19 := Aside0.mk A190
    clear A190
    have H' := Aside0.mk H
    clear H
    go_enter Try.func9, Try.ntmps9
    go_wp2_with (first | ((with_reducible refine gate_callee (f := 29) rfl ?_); refine goesL_ (some 14) rfl rfl Try.func29 (by kernel_rfl) rfl #[.slice A0 l0.length c0] rfl zA ?_; (with_reducible refine (spec_DrawEdenCount.calls k _ _ l0 t524 t525 _ ?side1 ?side2 A3.out).mono ?_); (case side1 => exact zC HR0.out); (case side2 => exact HC0.out); rintro e w20 ⟨v526, rfl, ho0, hb⟩; refine ⟨_, rfl, ?_⟩; have n0_ := Aside0.mk (Kd.R_lower ho0 (below_size (zB HB.out))); have n1_ := Aside0.mk (below_step (zB HB.out) hb); clear HB; have HO527 := n0_; have HB := n1_; clear n0_ n1_; (try clear hb); (try clear hb2); (try clear hk); (try clear hi); (try clear ho0); obtain ⟨Ao21, co21, eo21⟩ := Kd.R_slice HO527.out; subst eo21) | ((with_reducible refine gate_callee (f := 20) rfl ?_); refine goesL_ (some 19) rfl rfl Try.func20 (by kernel_rfl) rfl #[.slice Ao21 t524.length co21, .int .i64 t525] rfl zA ?_; (with_reducible refine (impl_EdenCount.calls k _ _ t524 t525 t528 _ ?side1 ?side2 A4.out).mono ?_); (case side1 => exact zC (Kd.R_reads' HO527.out).2.2); (case side2 => exact (Kd.R_reads' HO527.out).2.1); rintro e w22 ⟨rfl, hb⟩; refine ⟨_, rfl, ?_⟩; have n0_ := Aside0.mk (Kd.R_below (zR HO527.out) hb); have n1_ := Aside0.mk (below_step (zB HB.out) hb); clear HO527; clear HB; have HO527 := n0_; have HB := n1_; clear n0_ n1_; (try clear hb); (try clear hb2); (try clear hk); (try clear hi)) | ((with_reducible refine gate_callee (f := 19) rfl ?_); refine goesL_ (some 23) rfl rfl Try.func19 (by kernel_rfl) rfl #[.slice Ao21 t524.length co21, .int .i64 t525] rfl zA ?_; (with_reducible refine (spec_EdenCount.calls k _ _ t524 t525 t529 _ ?side1 ?side2 A5.out).mono ?_); (case side1 => exact zC (Kd.R_reads' HO527.out).2.2); (case side2 => exact (Kd.R_reads' HO527.out).2.1); rintro e w23 ⟨rfl, hb⟩; refine ⟨_, rfl, ?_⟩; have n0_ := Aside0.mk (Kd.R_below (zR HO527.out) hb); have n1_ := Aside0.mk (below_step (zB HB.out) hb); clear HO527; clear HB; have HO527 := n0_; have HB := n1_; clear n0_ n1_; (try clear hb); (try clear hb2); (try clear hk); (try clear hi)) | ((with_reducible refine gate_callee (f := 30) rfl ?_); refine goesL_ (some 35) rfl rfl Try.func30 (by kernel_rfl) rfl #[.int .i64 t525, .int .i64 (t524.length : Int)] rfl zA ?_; (with_reducible refine (laws_powerOf.calls k t525 (t524.length : Int) t531 _ A19.out).mono ?_); rintro e w' ⟨rfl, ⟨nd, rfl⟩⟩; refine ⟨_, rfl, ?_⟩))
    go_loopg [7, 8] k (fun kq v7 v8 w' => ∃ (x7_1 : Int) (x8_1 : Int), v7 = .int .i64 x7_1 ∧ v8 = .int .i64 x8_1 ∧ Aside0 (laws_FnEdenCount.l0 kq t524 t525 t528 t531 x7_1 x8_1 = some r) ∧ Aside0 (kq ≤ k) ∧ Aside0 (Kd.R (Kd.int .i64) 3 w' w.heap.size (fun _ => True) (.slice Ao21 t524.length co21) t524) ∧ Aside0 (Below w.heap.size w w'))
    case atStart => exact ⟨(0), (0), (by first | rfl | (simp; done) | (simp [*]; done)), (by first | rfl | (simp; done) | (simp [*]; done)), H', ⟨Nat.le_refl _⟩, ⟨by (with_reducible repeat (first | apply Kd.R_alloc | apply Kd.R_drewN | apply Kd.R_drew)); exact HO527.out⟩, ⟨zB HB.out⟩⟩
    case round =>
     clear H'
     try clear c1
     try clear c2
     try clear c2b0
     try clear c2b1
     try clear p2
     try clear c3
     try clear c6
     try clear c6b0
     try clear c6b1
     try clear c7
     try clear c7b0
     try clear c8
     try clear c8b0
     try clear c8b1
     try clear c9
     try clear c19
     try clear c20
     obtain ⟨x7_1, x8_1, rfl, rfl, HA, HK1, HO_3, HB⟩ := hrel
     cases gk with
     | zero => exact absurd HA.out (by simp [laws_FnEdenCount.l0])
     | succ k1 =>
      have H := HA.out
      clear HA
      simp only [laws_FnEdenCount.l0] at H
      have HC24 := Aside0.mk H
      clear H
      go_upto_region 12 with (fail)
      go_cut [42] (fun v42 wc => ∃ (kq : Nat) (x42_23 : Bool), v42 = .bool x42_23 ∧ Aside0 (laws_FnEdenCount.j1 kq t524 t525 t528 t531 x7_1 x8_1 x42_23 = some r) ∧ Aside0 (kq ≤ k1) ∧ Aside0 (Kd.R (Kd.int .i64) 3 wc w.heap.size (fun _ => True) (.slice Ao21 t524.length co21) t524) ∧ Aside0 (Below w.heap.size w wc))
      case first =>
       have H := HC24.out
       clear HC24
       by_cases c25 : x8_1 < t531
       ·rw [if_pos c25] at H
        have c25b0 : decide (x8_1 < t531) = true := decide_eq_true c25
        clear c25
        (first | rw [c25b0] | (simp only [i64_w, i32_w]; rw [c25b0]) | skip)
        have H' := Aside0.mk H
        clear H
        go_wp2
        go_meet
        case rel => exact ⟨_, (decide (t531 ≤ 81)), (by first | rfl | (simp; done) | (simp [*]; done)), H', ⟨by have := HK1.out; first | omega | exact Nat.le_refl _⟩, ⟨by (with_reducible repeat (first | apply Kd.R_alloc | apply Kd.R_drewN | apply Kd.R_drew)); exact HO_3.out⟩, ⟨zB HB.out⟩⟩
       ·rw [if_neg c25] at H
        have c25b0 : decide (x8_1 < t531) = false := decide_eq_false c25
        clear c25
        (first | rw [c25b0] | (simp only [i64_w, i32_w]; rw [c25b0]) | skip)
        have H' := Aside0.mk H
        clear H
        go_wp2
        go_meet
        case rel => exact ⟨_, (false), (by first | rfl | (simp; done) | (simp [*]; done)), H', ⟨by have := HK1.out; first | omega | exact Nat.le_refl _⟩, ⟨by (with_reducible repeat (first | apply Kd.R_alloc | apply Kd.R_drewN | apply Kd.R_drew)); exact HO_3.out⟩, ⟨zB HB.out⟩⟩
      case rest =>
       clear HC24
       try clear c1
       try clear c2
       try clear c2b0
       try clear c2b1
       try clear p2
       try clear c3
       try clear c6
       try clear c6b0
       try clear c6b1
       try clear c7
       try clear c7b0
       try clear c8
       try clear c8b0
       try clear c8b1
       try clear c9
       try clear c19
       try clear c20
       try clear c25
       try clear c25b0
       try clear p2
       obtain ⟨kq, x42_23, rfl, HA, HJ23, HO_3, HB⟩ := hcut
       cases kq with
       | zero => exact absurd HA.out (by simp [laws_FnEdenCount.j1])
       | succ kj23 =>
        have H := HA.out
        clear HA
        simp only [laws_FnEdenCount.j1] at H
        by_cases c26 : x42_23 = true
        ·subst c26
         have H1 : ((impl_StateOf.f kj23 (t524.length : Int) t525 x8_1).bind fun t540 => ((impl_BeforeCount.f kj23 t524 t525 t540).bind fun t543 => (if t543 = 0 then (laws_FnEdenCount.l0 kj23 t524 t525 t528 t531 (wrap64 (x7_1 + 1)) (wrap64 (x8_1 + 1))) else (laws_FnEdenCount.l0 kj23 t524 t525 t528 t531 x7_1 (wrap64 (x8_1 + 1)))))) = some r := by rw [if_pos rfl] at H; exact H
         clear H
         have H := H1
         clear H1
         replace H := Option.bind_eq_some_iff.mp H
         obtain ⟨t540, A270, H⟩ := H
         replace H : ((impl_BeforeCount.f kj23 t524 t525 t540).bind fun t543 => (if t543 = 0 then (laws_FnEdenCount.l0 kj23 t524 t525 t528 t531 (wrap64 (x7_1 + 1)) (wrap64 (x8_1 + 1))) else (laws_FnEdenCount.l0 kj23 t524 t525 t528 t531 x7_1 (wrap64 (x8_1 + 1))))) = some r := H
         have A27 := Aside0.mk A270
         clear A270
         replace H := Option.bind_eq_some_iff.mp H
         obtain ⟨t543, A280, H⟩ := H
         replace H : (if t543 = 0 then (laws_FnEdenCount.l0 kj23 t524 t525 t528 t531 (wrap64 (x7_1 + 1)) (wrap64 (x8_1 + 1))) else (laws_FnEdenCount.l0 kj23 t524 t525 t528 t531 x7_1 (wrap64 (x8_1 + 1)))) = some r := H
         have A28 := Aside0.mk A280
         clear A280
         by_cases c29 : t543 = 0
         ·rw [if_pos c29] at H
          have c29b0 : (t543 == 0) = true := beq_iff_eq.mpr c29
          have c29b1 : (t543 != 0) = false := bne_eq_false_iff_eq.mpr c29
          clear c29
          have H' := Aside0.mk H
          clear H
          go_wp2_with (first | ((with_reducible refine gate_callee (f := 31) rfl ?_); refine goesL_ (some 51) rfl rfl Try.func31 (by kernel_rfl) rfl #[.int .i64 (t524.length : Int), .int .i64 t525, .int .i64 x8_1] rfl zA ?_; (with_reducible refine (impl_StateOf.calls kj23 (t524.length : Int) t525 x8_1 t540 _ A27.out).mono ?_); rintro e w30 ⟨v541, rfl, ho0, hb⟩; refine ⟨_, rfl, ?_⟩; have n0_ := Aside0.mk (Kd.R_elder' (zR HO_3.out) (Kd.R_base ho0) hb); have n1_ := Aside0.mk (Kd.R_lower (Kd.R_new' ho0 (Kd.R_lt (zR HO_3.out))) (below_size (zB HB.out))); have n2_ := Aside0.mk (below_step (zB HB.out) hb); clear HO_3; clear HB; have HO_3 := n0_; have HO542 := n1_; have HB := n2_; clear n0_ n1_ n2_; (try clear hb); (try clear hb2); (try clear hk); (try clear hi); (try clear ho0); obtain ⟨Ao31, co31, eo31⟩ := Kd.R_slice HO542.out; subst eo31) | ((with_reducible refine gate_callee (f := 17) rfl ?_); refine goesL_ (some 52) rfl rfl Try.func17 (by kernel_rfl) rfl #[.slice Ao21 t524.length co21, .int .i64 t525, .slice Ao31 t540.length co31] rfl zA ?_; (with_reducible refine (impl_BeforeCount.calls kj23 _ _ t524 t525 _ _ t540 t543 _ ?side1 ?side2 ?side3 ?side4 A28.out).mono ?_); (case side1 => exact zC (Kd.R_reads' HO_3.out).2.2); (case side2 => exact (Kd.R_reads' HO_3.out).2.1); (case side3 => exact zC (Kd.R_reads' HO542.out).2.2); (case side4 => exact (Kd.R_reads' HO542.out).2.1); rintro e w32 ⟨rfl, hb⟩; refine ⟨_, rfl, ?_⟩; have n0_ := Aside0.mk (Kd.R_below (zR HO_3.out) hb); have n1_ := Aside0.mk (Kd.R_below (zR HO542.out) hb); have n2_ := Aside0.mk (below_step (zB HB.out) hb); clear HO_3; clear HO542; clear HB; have HO_3 := n0_; have HO542 := n1_; have HB := n2_; clear n0_ n1_ n2_; (try clear hb); (try clear hb2); (try clear hk); (try clear hi)))
          go_roundg kj23
          case measure => have := HK1.out; have := HJ23.out; omega
          case rel => exact ⟨(wrap64 (x7_1 + 1)), (wrap64 (x8_1 + 1)), (by first | rfl | (simp; done) | (simp [*]; done)), (by first | rfl | (simp; done) | (simp [*]; done)), H', ⟨by have := HK1.out; have := HJ23.out; omega⟩, ⟨by (with_reducible repeat (first | apply Kd.R_alloc | apply Kd.R_drewN | apply Kd.R_drew)); exact Kd.R_mono HO_3.out (fun _ hk => trivial)⟩, ⟨zB HB.out⟩⟩
         ·rw [if_neg c29] at H
          have c29b0 : (t543 == 0) = false := beq_eq_false_iff_ne.mpr c29
          have c29b1 : (t543 != 0) = true := bne_iff_ne.mpr c29
          have H' := Aside0.mk H
          clear H
          go_wp2_with (first | ((with_reducible refine gate_callee (f := 31) rfl ?_); refine goesL_ (some 51) rfl rfl Try.func31 (by kernel_rfl) rfl #[.int .i64 (t524.length : Int), .int .i64 t525, .int .i64 x8_1] rfl zA ?_; (with_reducible refine (impl_StateOf.calls kj23 (t524.length : Int) t525 x8_1 t540 _ A27.out).mono ?_); rintro e w33 ⟨v541, rfl, ho0, hb⟩; refine ⟨_, rfl, ?_⟩; have n0_ := Aside0.mk (Kd.R_elder' (zR HO_3.out) (Kd.R_base ho0) hb); have n1_ := Aside0.mk (Kd.R_lower (Kd.R_new' ho0 (Kd.R_lt (zR HO_3.out))) (below_size (zB HB.out))); have n2_ := Aside0.mk (below_step (zB HB.out) hb); clear HO_3; clear HB; have HO_3 := n0_; have HO542 := n1_; have HB := n2_; clear n0_ n1_ n2_; (try clear hb); (try clear hb2); (try clear hk); (try clear hi); (try clear ho0); obtain ⟨Ao34, co34, eo34⟩ := Kd.R_slice HO542.out; subst eo34) | ((with_reducible refine gate_callee (f := 17) rfl ?_); refine goesL_ (some 52) rfl rfl Try.func17 (by kernel_rfl) rfl #[.slice Ao21 t524.length co21, .int .i64 t525, .slice Ao34 t540.length co34] rfl zA ?_; (with_reducible refine (impl_BeforeCount.calls kj23 _ _ t524 t525 _ _ t540 t543 _ ?side1 ?side2 ?side3 ?side4 A28.out).mono ?_); (case side1 => exact zC (Kd.R_reads' HO_3.out).2.2); (case side2 => exact (Kd.R_reads' HO_3.out).2.1); (case side3 => exact zC (Kd.R_reads' HO542.out).2.2); (case side4 => exact (Kd.R_reads' HO542.out).2.1); rintro e w35 ⟨rfl, hb⟩; refine ⟨_, rfl, ?_⟩; have n0_ := Aside0.mk (Kd.R_below (zR HO_3.out) hb); have n1_ := Aside0.mk (Kd.R_below (zR HO542.out) hb); have n2_ := Aside0.mk (below_step (zB HB.out) hb); clear HO_3; clear HO542; clear HB; have HO_3 := n0_; have HO542 := n1_; have HB := n2_; clear n0_ n1_ n2_; (try clear hb); (try clear hb2); (try clear hk); (try clear hi)))
          go_roundg kj23
          case measure => have := HK1.out; have := HJ23.out; omega
          case rel => exact ⟨(x7_1), (wrap64 (x8_1 + 1)), (by first | rfl | (simp; done) | (simp [*]; done)), (by first | rfl | (simp; done) | (simp [*]; done)), H', ⟨by have := HK1.out; have := HJ23.out; omega⟩, ⟨by (with_reducible repeat (first | apply Kd.R_alloc | apply Kd.R_drewN | apply Kd.R_drew)); exact Kd.R_mono HO_3.out (fun _ hk => trivial)⟩, ⟨zB HB.out⟩⟩
        ·replace c26 := Bool.eq_false_iff.mpr c26
         subst c26
         have H1 : (if t531 > 81 then ((impl_EdenCount.f kj23 (([0] : List Int)) t525).bind fun t535 => (if t535 = 1 then (some (decide (t528 < t531))) else (some false))) else (if x7_1 = t528 then ((impl_EdenCount.f kj23 (([0] : List Int)) t525).bind fun t539 => (if t539 = 1 then (some (decide (t528 < t531))) else (some false))) else (some false))) = some r := by rw [if_neg (show ¬ (false = true) by decide)] at H; exact H
         clear H
         have H := H1
         clear H1
         by_cases c36 : t531 > 81
         ·rw [if_pos c36] at H
          have c36b0 : decide (81 < t531) = true := decide_eq_true c36
          clear c36
          obtain ⟨y532, hy532⟩ : ∃ y_ : List Int, y_ = (([0] : List Int)) := ⟨_, rfl⟩
          replace H : ((impl_EdenCount.f kj23 y532 t525).bind fun t535 => (if t535 = 1 then (some (decide (t528 < t531))) else (some false))) = some r := by first | (rw [hy532]; with_reducible exact H) | (have H2_ := (Option.bind_some _ _).symm.trans H; rw [hy532]; with_reducible exact H2_) | (have H2_ := (Option.bind_some _ _).symm.trans H; with_reducible exact H2_) | with_reducible exact H | (rw [hy532]; exact H) | exact H
          have Ny532 := Aside0.mk hy532
          clear hy532
          replace H := Option.bind_eq_some_iff.mp H
          obtain ⟨t535, A370, H⟩ := H
          replace H : (if t535 = 1 then (some (decide (t528 < t531))) else (some false)) = some r := H
          have A37 := Aside0.mk A370
          clear A370
          by_cases c38 : t535 = 1
          ·rw [if_pos c38] at H
           have c38b0 : (t535 == 1) = true := beq_iff_eq.mpr c38
           have c38b1 : (t535 != 1) = false := bne_eq_false_iff_eq.mpr c38
           clear c38
           obtain rfl := Option.some.inj H
           go_wp2_with (first | ((with_reducible refine gate_dst (N := 64) rfl ?_); (try (refine gate_guard (by rfl) ?_; dsimp only)); refine Kd.R_lit (Kd.int .i64) _ 3 ?hg (N := 64) ?hd (xs := ([0] : List Int)) (inner := [.int .i64 0]) (ok := fun _ => True) (okp := fun _ => True) ?hr ?hp (fun _ hk => hk) trivial (Below.refl _ _) (Nat.le_refl _) (by simp) ?_; (case hd => rfl); (case hg => rfl); (case hr => first | (go_simp; done) | (go_simp; rfl)); (case hp => exact (Reps.one (show Kd.M (Kd.int .i64) _ _ _ 0 [.int .i64 0] from rfl) (Reps.none _ _))); intro v533 w39 ho40 hb hg_ hnew_; clear hg_ hnew_; (first | rw [← Ny532.out] at ho40 | (simp only [Int.reduceToNat] at ho40; rw [← Ny532.out] at ho40)); have n0_ := Aside0.mk (Kd.R_elder' (zR HO_3.out) (Kd.R_base ho40) hb); have n1_ := Aside0.mk (Kd.R_lower (Kd.R_new' ho40 (Kd.R_lt (zR HO_3.out))) (below_size (zB HB.out))); have n2_ := Aside0.mk (below_step (zB HB.out) hb); clear HO_3; clear HB; have HO_3 := n0_; have HO534 := n1_; have HB := n2_; clear n0_ n1_ n2_; clear hb ho40; obtain ⟨Ao41, co41, eo41⟩ := Kd.R_slice HO534.out; subst eo41) | (go_at_call 20; (with_reducible refine (impl_EdenCount.calls kj23 _ _ y532 t525 t535 _ ?side1 ?side2 A37.out).mono ?_); (case side1 => exact zC (Kd.R_reads' HO534.out).2.2); (case side2 => exact (Kd.R_reads' HO534.out).2.1); rintro e w42 ⟨rfl, hb⟩; have n0_ := Aside0.mk (Kd.R_below (zR HO_3.out) hb); have n1_ := Aside0.mk (Kd.R_below (zR HO534.out) hb); have n2_ := Aside0.mk (below_step (zB HB.out) hb); clear HO_3; clear HO534; clear HB; have HO_3 := n0_; have HO534 := n1_; have HB := n2_; clear n0_ n1_ n2_; (try clear hb); (try clear hb2); (try clear hk); (try clear hi)))
           go_ret
           exact ⟨by first | rfl | (simp [errW_none, errW_some] <;> rfl) | (simp [*, errW_none, errW_some] <;> rfl), zB HB.out⟩
          ·rw [if_neg c38] at H
           have c38b0 : (t535 == 1) = false := beq_eq_false_iff_ne.mpr c38
           have c38b1 : (t535 != 1) = true := bne_iff_ne.mpr c38
           obtain rfl := Option.some.inj H
           go_wp2_with (first | ((with_reducible refine gate_dst (N := 64) rfl ?_); (try (refine gate_guard (by rfl) ?_; dsimp only)); refine Kd.R_lit (Kd.int .i64) _ 3 ?hg (N := 64) ?hd (xs := ([0] : List Int)) (inner := [.int .i64 0]) (ok := fun _ => True) (okp := fun _ => True) ?hr ?hp (fun _ hk => hk) trivial (Below.refl _ _) (Nat.le_refl _) (by simp) ?_; (case hd => rfl); (case hg => rfl); (case hr => first | (go_simp; done) | (go_simp; rfl)); (case hp => exact (Reps.one (show Kd.M (Kd.int .i64) _ _ _ 0 [.int .i64 0] from rfl) (Reps.none _ _))); intro v533 w43 ho44 hb hg_ hnew_; clear hg_ hnew_; (first | rw [← Ny532.out] at ho44 | (simp only [Int.reduceToNat] at ho44; rw [← Ny532.out] at ho44)); have n0_ := Aside0.mk (Kd.R_elder' (zR HO_3.out) (Kd.R_base ho44) hb); have n1_ := Aside0.mk (Kd.R_lower (Kd.R_new' ho44 (Kd.R_lt (zR HO_3.out))) (below_size (zB HB.out))); have n2_ := Aside0.mk (below_step (zB HB.out) hb); clear HO_3; clear HB; have HO_3 := n0_; have HO534 := n1_; have HB := n2_; clear n0_ n1_ n2_; clear hb ho44; obtain ⟨Ao45, co45, eo45⟩ := Kd.R_slice HO534.out; subst eo45) | (go_at_call 20; (with_reducible refine (impl_EdenCount.calls kj23 _ _ y532 t525 t535 _ ?side1 ?side2 A37.out).mono ?_); (case side1 => exact zC (Kd.R_reads' HO534.out).2.2); (case side2 => exact (Kd.R_reads' HO534.out).2.1); rintro e w46 ⟨rfl, hb⟩; have n0_ := Aside0.mk (Kd.R_below (zR HO_3.out) hb); have n1_ := Aside0.mk (Kd.R_below (zR HO534.out) hb); have n2_ := Aside0.mk (below_step (zB HB.out) hb); clear HO_3; clear HO534; clear HB; have HO_3 := n0_; have HO534 := n1_; have HB := n2_; clear n0_ n1_ n2_; (try clear hb); (try clear hb2); (try clear hk); (try clear hi)))
           go_ret
           exact ⟨by first | rfl | (simp [errW_none, errW_some] <;> rfl) | (simp [*, errW_none, errW_some] <;> rfl), zB HB.out⟩
         ·rw [if_neg c36] at H
          have c36b0 : decide (81 < t531) = false := decide_eq_false c36
          clear c36
          by_cases c47 : x7_1 = t528
          ·rw [if_pos c47] at H
           have c47b0 : (x7_1 == t528) = true := beq_iff_eq.mpr c47
           have c47b1 : (x7_1 != t528) = false := bne_eq_false_iff_eq.mpr c47
           clear c47
           obtain ⟨y536, hy536⟩ : ∃ y_ : List Int, y_ = (([0] : List Int)) := ⟨_, rfl⟩
           replace H : ((impl_EdenCount.f kj23 y536 t525).bind fun t539 => (if t539 = 1 then (some (decide (t528 < t531))) else (some false))) = some r := by first | (rw [hy536]; with_reducible exact H) | (have H2_ := (Option.bind_some _ _).symm.trans H; rw [hy536]; with_reducible exact H2_) | (have H2_ := (Option.bind_some _ _).symm.trans H; with_reducible exact H2_) | with_reducible exact H | (rw [hy536]; exact H) | exact H
           have Ny536 := Aside0.mk hy536
           clear hy536
           replace H := Option.bind_eq_some_iff.mp H
           obtain ⟨t539, A480, H⟩ := H
           replace H : (if t539 = 1 then (some (decide (t528 < t531))) else (some false)) = some r := H
           have A48 := Aside0.mk A480
           clear A480
           by_cases c49 : t539 = 1
           ·rw [if_pos c49] at H
            have c49b0 : (t539 == 1) = true := beq_iff_eq.mpr c49
            have c49b1 : (t539 != 1) = false := bne_eq_false_iff_eq.mpr c49
            clear c49
            obtain rfl := Option.some.inj H
            go_wp2_with (first | ((with_reducible refine gate_dst (N := 64) rfl ?_); (try (refine gate_guard (by rfl) ?_; dsimp only)); refine Kd.R_lit (Kd.int .i64) _ 3 ?hg (N := 64) ?hd (xs := ([0] : List Int)) (inner := [.int .i64 0]) (ok := fun _ => True) (okp := fun _ => True) ?hr ?hp (fun _ hk => hk) trivial (Below.refl _ _) (Nat.le_refl _) (by simp) ?_; (case hd => rfl); (case hg => rfl); (case hr => first | (go_simp; done) | (go_simp; rfl)); (case hp => exact (Reps.one (show Kd.M (Kd.int .i64) _ _ _ 0 [.int .i64 0] from rfl) (Reps.none _ _))); intro v537 w50 ho51 hb hg_ hnew_; clear hg_ hnew_; (first | rw [← Ny536.out] at ho51 | (simp only [Int.reduceToNat] at ho51; rw [← Ny536.out] at ho51)); have n0_ := Aside0.mk (Kd.R_elder' (zR HO_3.out) (Kd.R_base ho51) hb); have n1_ := Aside0.mk (Kd.R_lower (Kd.R_new' ho51 (Kd.R_lt (zR HO_3.out))) (below_size (zB HB.out))); have n2_ := Aside0.mk (below_step (zB HB.out) hb); clear HO_3; clear HB; have HO_3 := n0_; have HO538 := n1_; have HB := n2_; clear n0_ n1_ n2_; clear hb ho51; obtain ⟨Ao52, co52, eo52⟩ := Kd.R_slice HO538.out; subst eo52) | (go_at_call 20; (with_reducible refine (impl_EdenCount.calls kj23 _ _ y536 t525 t539 _ ?side1 ?side2 A48.out).mono ?_); (case side1 => exact zC (Kd.R_reads' HO538.out).2.2); (case side2 => exact (Kd.R_reads' HO538.out).2.1); rintro e w53 ⟨rfl, hb⟩; have n0_ := Aside0.mk (Kd.R_below (zR HO_3.out) hb); have n1_ := Aside0.mk (Kd.R_below (zR HO538.out) hb); have n2_ := Aside0.mk (below_step (zB HB.out) hb); clear HO_3; clear HO538; clear HB; have HO_3 := n0_; have HO538 := n1_; have HB := n2_; clear n0_ n1_ n2_; (try clear hb); (try clear hb2); (try clear hk); (try clear hi)))
            go_ret
            exact ⟨by first | rfl | (simp [errW_none, errW_some] <;> rfl) | (simp [*, errW_none, errW_some] <;> rfl), zB HB.out⟩
           ·rw [if_neg c49] at H
            have c49b0 : (t539 == 1) = false := beq_eq_false_iff_ne.mpr c49
            have c49b1 : (t539 != 1) = true := bne_iff_ne.mpr c49
            obtain rfl := Option.some.inj H
            go_wp2_with (first | ((with_reducible refine gate_dst (N := 64) rfl ?_); (try (refine gate_guard (by rfl) ?_; dsimp only)); refine Kd.R_lit (Kd.int .i64) _ 3 ?hg (N := 64) ?hd (xs := ([0] : List Int)) (inner := [.int .i64 0]) (ok := fun _ => True) (okp := fun _ => True) ?hr ?hp (fun _ hk => hk) trivial (Below.refl _ _) (Nat.le_refl _) (by simp) ?_; (case hd => rfl); (case hg => rfl); (case hr => first | (go_simp; done) | (go_simp; rfl)); (case hp => exact (Reps.one (show Kd.M (Kd.int .i64) _ _ _ 0 [.int .i64 0] from rfl) (Reps.none _ _))); intro v537 w54 ho55 hb hg_ hnew_; clear hg_ hnew_; (first | rw [← Ny536.out] at ho55 | (simp only [Int.reduceToNat] at ho55; rw [← Ny536.out] at ho55)); have n0_ := Aside0.mk (Kd.R_elder' (zR HO_3.out) (Kd.R_base ho55) hb); have n1_ := Aside0.mk (Kd.R_lower (Kd.R_new' ho55 (Kd.R_lt (zR HO_3.out))) (below_size (zB HB.out))); have n2_ := Aside0.mk (below_step (zB HB.out) hb); clear HO_3; clear HB; have HO_3 := n0_; have HO538 := n1_; have HB := n2_; clear n0_ n1_ n2_; clear hb ho55; obtain ⟨Ao56, co56, eo56⟩ := Kd.R_slice HO538.out; subst eo56) | (go_at_call 20; (with_reducible refine (impl_EdenCount.calls kj23 _ _ y536 t525 t539 _ ?side1 ?side2 A48.out).mono ?_); (case side1 => exact zC (Kd.R_reads' HO538.out).2.2); (case side2 => exact (Kd.R_reads' HO538.out).2.1); rintro e w57 ⟨rfl, hb⟩; have n0_ := Aside0.mk (Kd.R_below (zR HO_3.out) hb); have n1_ := Aside0.mk (Kd.R_below (zR HO538.out) hb); have n2_ := Aside0.mk (below_step (zB HB.out) hb); clear HO_3; clear HO538; clear HB; have HO_3 := n0_; have HO538 := n1_; have HB := n2_; clear n0_ n1_ n2_; (try clear hb); (try clear hb2); (try clear hk); (try clear hi)))
            go_ret
            exact ⟨by first | rfl | (simp [errW_none, errW_some] <;> rfl) | (simp [*, errW_none, errW_some] <;> rfl), zB HB.out⟩
          ·rw [if_neg c47] at H
           have c47b0 : (x7_1 == t528) = false := beq_eq_false_iff_ne.mpr c47
           have c47b1 : (x7_1 != t528) = true := bne_iff_ne.mpr c47
           obtain rfl := Option.some.inj H
           go_wp2
           go_ret
           exact ⟨by first | rfl | (simp [errW_none, errW_some] <;> rfl) | (simp [*, errW_none, errW_some] <;> rfl), zB HB.out⟩
  ·rw [if_neg c6] at H
   have c6b0 : (t528 == t529) = false := beq_eq_false_iff_ne.mpr c6
   have c6b1 : (t528 != t529) = true := bne_iff_ne.mpr c6
   obtain rfl := Option.some.inj H
   go_enter Try.func9, Try.ntmps9
   go_wp2_with (first | ((with_reducible refine gate_callee (f := 29) rfl ?_); refine goesL_ (some 14) rfl rfl Try.func29 (by kernel_rfl) rfl #[.slice A0 l0.length c0] rfl zA ?_; (with_reducible refine (spec_DrawEdenCount.calls k _ _ l0 t524 t525 _ ?side1 ?side2 A3.out).mono ?_); (case side1 => exact zC HR0.out); (case side2 => exact HC0.out); rintro e w58 ⟨v526, rfl, ho0, hb⟩; refine ⟨_, rfl, ?_⟩; have n0_ := Aside0.mk (Kd.R_lower ho0 (below_size (zB HB.out))); have n1_ := Aside0.mk (below_step (zB HB.out) hb); clear HB; have HO527 := n0_; have HB := n1_; clear n0_ n1_; (try clear hb); (try clear hb2); (try clear hk); (try clear hi); (try clear ho0); obtain ⟨Ao59, co59, eo59⟩ := Kd.R_slice HO527.out; subst eo59) | ((with_reducible refine gate_callee (f := 20) rfl ?_); refine goesL_ (some 19) rfl rfl Try.func20 (by kernel_rfl) rfl #[.slice Ao59 t524.length co59, .int .i64 t525] rfl zA ?_; (with_reducible refine (impl_EdenCount.calls k _ _ t524 t525 t528 _ ?side1 ?side2 A4.out).mono ?_); (case side1 => exact zC (Kd.R_reads' HO527.out).2.2); (case side2 => exact (Kd.R_reads' HO527.out).2.1); rintro e w60 ⟨rfl, hb⟩; refine ⟨_, rfl, ?_⟩; have n0_ := Aside0.mk (Kd.R_below (zR HO527.out) hb); have n1_ := Aside0.mk (below_step (zB HB.out) hb); clear HO527; clear HB; have HO527 := n0_; have HB := n1_; clear n0_ n1_; (try clear hb); (try clear hb2); (try clear hk); (try clear hi)) | ((with_reducible refine gate_callee (f := 19) rfl ?_); refine goesL_ (some 23) rfl rfl Try.func19 (by kernel_rfl) rfl #[.slice Ao59 t524.length co59, .int .i64 t525] rfl zA ?_; (with_reducible refine (spec_EdenCount.calls k _ _ t524 t525 t529 _ ?side1 ?side2 A5.out).mono ?_); (case side1 => exact zC (Kd.R_reads' HO527.out).2.2); (case side2 => exact (Kd.R_reads' HO527.out).2.1); rintro e w61 ⟨rfl, hb⟩; refine ⟨_, rfl, ?_⟩; have n0_ := Aside0.mk (Kd.R_below (zR HO527.out) hb); have n1_ := Aside0.mk (below_step (zB HB.out) hb); clear HO527; clear HB; have HO527 := n0_; have HB := n1_; clear n0_ n1_; (try clear hb); (try clear hb2); (try clear hk); (try clear hi)))
   go_ret
   exact ⟨by first | rfl | (simp [errW_none, errW_some] <;> rfl) | (simp [*, errW_none, errW_some] <;> rfl), zB HB.out⟩

/-- THE ONE PURE STATEMENT of laws_FnEdenCount: yours. -/
def laws_FnEdenCount.Pure : Prop := ∀ (l0 : List Int), l0.length ≤ maxLen → l0.length * 1 ≤ 140737488351232 → (∀ x ∈ l0, (Lit.int .u8 x).wf = true) → ∃ k, laws_FnEdenCount.f k l0 = some true
theorem laws_FnEdenCount.walk (P : laws_FnEdenCount.Pure) (a0 : Option Addr) (len0 cap0 : Nat) (z0 : List Int) (w : World) (w0 : (a0 = none ∧ len0 = 0 ∧ cap0 = 0 ∧ z0 = []) ∨ ∃ x, a0 = some x ∧ len0 ≤ cap0 ∧ cap0 ≤ maxLen ∧ z0.length = cap0 ∧ (∀ i, i < z0.length → w.cell? (x.add i) = some (.int .u8 (z0.getD i 0))) ∧ ∀ n ∈ z0, (Lit.int .u8 n).wf = true) (y0 : len0 * 1 ≤ 140737488351232) :
  Calls Try.prog 9 #[.slice a0 len0 cap0] w fun e w' => e = .returned (.bool true) ∧ Below w.heap.size w w' := by
 obtain ⟨l0, rfl, hr0, hm0, hw0, hc0⟩ := ReadsInt.ofRowC w0
 obtain ⟨k, h⟩ := P l0 hm0 y0 hw0
 refine (laws_FnEdenCount.calls k _ _ l0 true w (Kd.C_of_reads (d := (0 : Int)) (h1 := fun _ => rfl) hr0) hc0 h).mono ?_
 rintro e w' ⟨rfl, hd⟩
 exact ⟨rfl, hd⟩

end Go.Proofs.Ytgglagpciojfmaa.PAll
