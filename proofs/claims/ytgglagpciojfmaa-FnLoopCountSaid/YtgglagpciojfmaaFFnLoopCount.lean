/- Own text of this session, written by a program of this session (wip/t/own.py) out of what the kit tells of the functions: each Go function as a Lean function, and the walk through its code. -/
import Derived.Test.YtgglagpciojfmaaT
import Derived.Test.YtgglagpciojfmaaF14
import Derived.Test.YtgglagpciojfmaaF22
import Derived.Test.YtgglagpciojfmaaF26
import Derived.Test.YtgglagpciojfmaaF28
import Derived.Test.YtgglagpciojfmaaF34
import Derived.Test.YtgglagpciojfmaaF42
namespace Go.Proofs.Ytgglagpciojfmaa.PAll
open Go.RowKit Go.Proofs.YtgglagpciojfmaaW.PrintWords Go.Proofs.YtgglagpciojfmaaW.PrintLast Go.Proofs.YtgglagpciojfmaaW.PrintMore
attribute [local go_sem] max2_int min2_int max_two min_two max_three min_three max_four min_four   -- for this text's walks alone
set_option linter.unusedVariables false
set_option linter.unusedSimpArgs false

/-! ### laws_FnLoopCount: function 12 -/
def laws_FnLoopCount.f (k : Nat) (l0 : List Int) : Option (Bool) := if (l0.length : Int) > 1048576 then (some true) else ((spec_DrawLoopCount.f k l0).bind fun bt618 => ((impl_LoopCount.f k bt618.1 bt618.2).bind fun t622 => ((spec_LoopCount.f k bt618.1 bt618.2).bind fun t623 => (if t622 = t623 then (if t622 < 0 then (if t622 = (-1) then ((laws_alive.f k).bind fun t624 => (some t624)) else (some false)) else ((laws_powerOf.f k bt618.2 (bt618.1.length : Int)).bind fun t625 => (if t622 ≥ 1 then ((impl_EdenCount.f k bt618.1 bt618.2).bind fun t626 => (if t622 ≤ (wrap64 (t625 - t626)) then ((impl_DyingCount.f k bt618.1 bt618.2).bind fun t627 => (some ((t622 == 1) == (t627 == t625)))) else (some false))) else (some false)))) else (some false)))))
theorem laws_FnLoopCount.mono : ∀ a0 k, LeO (laws_FnLoopCount.f k a0) (laws_FnLoopCount.f (k + 1) a0) := by
 intro a0 k
 unfold laws_FnLoopCount.f
 repeat' first
   | (with_reducible exact impl_DyingCount.mono _ _ _)
   | (with_reducible exact impl_EdenCount.mono _ _ _)
   | (with_reducible exact impl_LoopCount.mono _ _ _)
   | (with_reducible exact laws_alive.mono _)
   | (with_reducible exact laws_powerOf.mono _ _ _)
   | (with_reducible exact spec_DrawLoopCount.mono _ _)
   | (with_reducible exact spec_LoopCount.mono _ _ _)
   | (with_reducible exact LeO.refl _)
   | (with_reducible exact LeO.none _)
   | (with_reducible refine LeO.ite ?_ ?_)
   | (with_reducible refine LeO.bind ?_ (fun _ => ?_))
   | exact impl_DyingCount.mono _ _ _
   | exact impl_EdenCount.mono _ _ _
   | exact impl_LoopCount.mono _ _ _
   | exact laws_alive.mono _
   | exact laws_powerOf.mono _ _ _
   | exact spec_DrawLoopCount.mono _ _
   | exact spec_LoopCount.mono _ _ _
   | exact LeO.none _
   | refine LeO.ite ?_ ?_
   | refine LeO.bind ?_ (fun _ => ?_)
set_option maxHeartbeats 8000000 in
set_option maxRecDepth 100000 in
theorem laws_FnLoopCount.calls (k : Nat) (A0 : Option Addr) (c0 : Nat) (l0 : List Int) (r : Bool) (w : World) (hr0 : Kd.C (Kd.int .u8) w A0 l0.length l0) (hc0 : l0.length ≤ c0) (h : laws_FnLoopCount.f k l0 = some r) :
  Calls Try.prog 12 #[.slice A0 l0.length c0] w fun e w' => e = .returned (.bool r) ∧ Below w.heap.size w w' := by
 have HR0 := Aside0.mk hr0
 have HC0 := Aside0.mk hc0
 clear hr0 hc0
 have HB := Aside0.mk (Below.refl w.heap.size w)
 have H : (if (l0.length : Int) > 1048576 then (some true) else ((spec_DrawLoopCount.f k l0).bind fun bt618 => ((impl_LoopCount.f k bt618.1 bt618.2).bind fun t622 => ((spec_LoopCount.f k bt618.1 bt618.2).bind fun t623 => (if t622 = t623 then (if t622 < 0 then (if t622 = (-1) then ((laws_alive.f k).bind fun t624 => (some t624)) else (some false)) else ((laws_powerOf.f k bt618.2 (bt618.1.length : Int)).bind fun t625 => (if t622 ≥ 1 then ((impl_EdenCount.f k bt618.1 bt618.2).bind fun t626 => (if t622 ≤ (wrap64 (t625 - t626)) then ((impl_DyingCount.f k bt618.1 bt618.2).bind fun t627 => (some ((t622 == 1) == (t627 == t625)))) else (some false))) else (some false)))) else (some false)))))) = some r := h
 clear h
 by_cases c2 : (l0.length : Int) > 1048576
 ·rw [if_pos c2] at H
  have c2b0 : decide (1048576 < (l0.length : Int)) = true := decide_eq_true c2
  have c2b1 : decide (1048576 < l0.length) = true := decide_eq_true (by omega)
  clear c2
  obtain rfl := Option.some.inj H
  go_enter Try.func12, Try.ntmps12
  go_wp2
  go_ret
  exact ⟨by first | rfl | (simp [errW_none, errW_some] <;> rfl) | (simp [*, errW_none, errW_some] <;> rfl), zB HB.out⟩
 ·rw [if_neg c2] at H
  have c2b0 : decide (1048576 < (l0.length : Int)) = false := decide_eq_false c2
  have c2b1 : decide (1048576 < l0.length) = false := decide_eq_false (by omega)
  clear c2
  replace H := Option.bind_eq_some_iff.mp H
  obtain ⟨⟨t618, t619⟩, A30, H⟩ := H
  replace H : ((impl_LoopCount.f k t618 t619).bind fun t622 => ((spec_LoopCount.f k t618 t619).bind fun t623 => (if t622 = t623 then (if t622 < 0 then (if t622 = (-1) then ((laws_alive.f k).bind fun t624 => (some t624)) else (some false)) else ((laws_powerOf.f k t619 (t618.length : Int)).bind fun t625 => (if t622 ≥ 1 then ((impl_EdenCount.f k t618 t619).bind fun t626 => (if t622 ≤ (wrap64 (t625 - t626)) then ((impl_DyingCount.f k t618 t619).bind fun t627 => (some ((t622 == 1) == (t627 == t625)))) else (some false))) else (some false)))) else (some false)))) = some r := H
  have A3 := Aside0.mk A30
  clear A30
  replace H := Option.bind_eq_some_iff.mp H
  obtain ⟨t622, A40, H⟩ := H
  replace H : ((spec_LoopCount.f k t618 t619).bind fun t623 => (if t622 = t623 then (if t622 < 0 then (if t622 = (-1) then ((laws_alive.f k).bind fun t624 => (some t624)) else (some false)) else ((laws_powerOf.f k t619 (t618.length : Int)).bind fun t625 => (if t622 ≥ 1 then ((impl_EdenCount.f k t618 t619).bind fun t626 => (if t622 ≤ (wrap64 (t625 - t626)) then ((impl_DyingCount.f k t618 t619).bind fun t627 => (some ((t622 == 1) == (t627 == t625)))) else (some false))) else (some false)))) else (some false))) = some r := H
  have A4 := Aside0.mk A40
  clear A40
  replace H := Option.bind_eq_some_iff.mp H
  obtain ⟨t623, A50, H⟩ := H
  replace H : (if t622 = t623 then (if t622 < 0 then (if t622 = (-1) then ((laws_alive.f k).bind fun t624 => (some t624)) else (some false)) else ((laws_powerOf.f k t619 (t618.length : Int)).bind fun t625 => (if t622 ≥ 1 then ((impl_EdenCount.f k t618 t619).bind fun t626 => (if t622 ≤ (wrap64 (t625 - t626)) then ((impl_DyingCount.f k t618 t619).bind fun t627 => (some ((t622 == 1) == (t627 == t625)))) else (some false))) else (some false)))) else (some false)) = some r := H
  have A5 := Aside0.mk A50
  clear A50
  by_cases c6 : t622 = t623
  ·rw [if_pos c6] at H
   have c6b0 : (t622 == t623) = true := beq_iff_eq.mpr c6
   have c6b1 : (t622 != t623) = false := bne_eq_false_iff_eq.mpr c6
   clear c6
   by_cases c7 : t622 < 0
   ·rw [if_pos c7] at H
    have c7b0 : decide (t622 < 0) = true := decide_eq_true c7
    clear c7
    by_cases c8 : t622 = (-1)
    ·rw [if_pos c8] at H
     have c8b0 : (t622 == (-1)) = true := beq_iff_eq.mpr c8
     have c8b1 : (t622 != (-1)) = false := bne_eq_false_iff_eq.mpr c8
     clear c8
     replace H := Option.bind_eq_some_iff.mp H
     obtain ⟨t624, A90, H⟩ := H
     replace H : (some t624) = some r := H
     have A9 := Aside0.mk A90
     clear A90
     obtain rfl := Option.some.inj H
     go_enter Try.func12, Try.ntmps12
     go_wp2_with (first | ((with_reducible refine gate_callee (f := 37) rfl ?_); refine goesL_ (some 12) rfl rfl Try.func37 (by kernel_rfl) rfl #[.slice A0 l0.length c0] rfl zA ?_; (with_reducible refine (spec_DrawLoopCount.calls k _ _ l0 t618 t619 _ ?side1 ?side2 A3.out).mono ?_); (case side1 => exact zC HR0.out); (case side2 => exact HC0.out); rintro e w10 ⟨v620, rfl, ho0, hb⟩; refine ⟨_, rfl, ?_⟩; have n0_ := Aside0.mk (Kd.R_lower ho0 (below_size (zB HB.out))); have n1_ := Aside0.mk (below_step (zB HB.out) hb); clear HB; have HO621 := n0_; have HB := n1_; clear n0_ n1_; (try clear hb); (try clear hb2); (try clear hk); (try clear hi); (try clear ho0); obtain ⟨Ao11, co11, eo11⟩ := Kd.R_slice HO621.out; subst eo11) | ((with_reducible refine gate_callee (f := 24) rfl ?_); refine goesL_ (some 17) rfl rfl Try.func24 (by kernel_rfl) rfl #[.slice Ao11 t618.length co11, .int .i64 t619] rfl zA ?_; (with_reducible refine (impl_LoopCount.calls k _ _ t618 t619 t622 _ ?side1 ?side2 A4.out).mono ?_); (case side1 => exact zC (Kd.R_reads' HO621.out).2.2); (case side2 => exact (Kd.R_reads' HO621.out).2.1); rintro e w12 ⟨rfl, hb⟩; refine ⟨_, rfl, ?_⟩; have n0_ := Aside0.mk (Kd.R_below (zR HO621.out) hb); have n1_ := Aside0.mk (below_step (zB HB.out) hb); clear HO621; clear HB; have HO621 := n0_; have HB := n1_; clear n0_ n1_; (try clear hb); (try clear hb2); (try clear hk); (try clear hi)) | ((with_reducible refine gate_callee (f := 23) rfl ?_); refine goesL_ (some 21) rfl rfl Try.func23 (by kernel_rfl) rfl #[.slice Ao11 t618.length co11, .int .i64 t619] rfl zA ?_; (with_reducible refine (spec_LoopCount.calls k _ _ t618 t619 t623 _ ?side1 ?side2 A5.out).mono ?_); (case side1 => exact zC (Kd.R_reads' HO621.out).2.2); (case side2 => exact (Kd.R_reads' HO621.out).2.1); rintro e w13 ⟨rfl, hb⟩; refine ⟨_, rfl, ?_⟩; have n0_ := Aside0.mk (Kd.R_below (zR HO621.out) hb); have n1_ := Aside0.mk (below_step (zB HB.out) hb); clear HO621; clear HB; have HO621 := n0_; have HB := n1_; clear n0_ n1_; (try clear hb); (try clear hb2); (try clear hk); (try clear hi)) | (go_at_call 28; (with_reducible refine (laws_alive.calls k  t624 _ A9.out).mono ?_); rintro e w14 ⟨rfl, hb⟩; have n0_ := Aside0.mk (Kd.R_below (zR HO621.out) hb); have n1_ := Aside0.mk (below_step (zB HB.out) hb); clear HO621; clear HB; have HO621 := n0_; have HB := n1_; clear n0_ n1_; (try clear hb); (try clear hb2); (try clear hk); (try clear hi)))
     go_ret
     exact ⟨by first | rfl | (simp [errW_none, errW_some] <;> rfl) | (simp [*, errW_none, errW_some] <;> rfl), zB HB.out⟩
    ·rw [if_neg c8] at H
     have c8b0 : (t622 == (-1)) = false := beq_eq_false_iff_ne.mpr c8
     have c8b1 : (t622 != (-1)) = true := bne_iff_ne.mpr c8
     obtain rfl := Option.some.inj H
     go_enter Try.func12, Try.ntmps12
     go_wp2_with (first | ((with_reducible refine gate_callee (f := 37) rfl ?_); refine goesL_ (some 12) rfl rfl Try.func37 (by kernel_rfl) rfl #[.slice A0 l0.length c0] rfl zA ?_; (with_reducible refine (spec_DrawLoopCount.calls k _ _ l0 t618 t619 _ ?side1 ?side2 A3.out).mono ?_); (case side1 => exact zC HR0.out); (case side2 => exact HC0.out); rintro e w15 ⟨v620, rfl, ho0, hb⟩; refine ⟨_, rfl, ?_⟩; have n0_ := Aside0.mk (Kd.R_lower ho0 (below_size (zB HB.out))); have n1_ := Aside0.mk (below_step (zB HB.out) hb); clear HB; have HO621 := n0_; have HB := n1_; clear n0_ n1_; (try clear hb); (try clear hb2); (try clear hk); (try clear hi); (try clear ho0); obtain ⟨Ao16, co16, eo16⟩ := Kd.R_slice HO621.out; subst eo16) | ((with_reducible refine gate_callee (f := 24) rfl ?_); refine goesL_ (some 17) rfl rfl Try.func24 (by kernel_rfl) rfl #[.slice Ao16 t618.length co16, .int .i64 t619] rfl zA ?_; (with_reducible refine (impl_LoopCount.calls k _ _ t618 t619 t622 _ ?side1 ?side2 A4.out).mono ?_); (case side1 => exact zC (Kd.R_reads' HO621.out).2.2); (case side2 => exact (Kd.R_reads' HO621.out).2.1); rintro e w17 ⟨rfl, hb⟩; refine ⟨_, rfl, ?_⟩; have n0_ := Aside0.mk (Kd.R_below (zR HO621.out) hb); have n1_ := Aside0.mk (below_step (zB HB.out) hb); clear HO621; clear HB; have HO621 := n0_; have HB := n1_; clear n0_ n1_; (try clear hb); (try clear hb2); (try clear hk); (try clear hi)) | ((with_reducible refine gate_callee (f := 23) rfl ?_); refine goesL_ (some 21) rfl rfl Try.func23 (by kernel_rfl) rfl #[.slice Ao16 t618.length co16, .int .i64 t619] rfl zA ?_; (with_reducible refine (spec_LoopCount.calls k _ _ t618 t619 t623 _ ?side1 ?side2 A5.out).mono ?_); (case side1 => exact zC (Kd.R_reads' HO621.out).2.2); (case side2 => exact (Kd.R_reads' HO621.out).2.1); rintro e w18 ⟨rfl, hb⟩; refine ⟨_, rfl, ?_⟩; have n0_ := Aside0.mk (Kd.R_below (zR HO621.out) hb); have n1_ := Aside0.mk (below_step (zB HB.out) hb); clear HO621; clear HB; have HO621 := n0_; have HB := n1_; clear n0_ n1_; (try clear hb); (try clear hb2); (try clear hk); (try clear hi)))
     go_ret
     exact ⟨by first | rfl | (simp [errW_none, errW_some] <;> rfl) | (simp [*, errW_none, errW_some] <;> rfl), zB HB.out⟩
   ·rw [if_neg c7] at H
    have c7b0 : decide (t622 < 0) = false := decide_eq_false c7
    clear c7
    replace H := Option.bind_eq_some_iff.mp H
    obtain ⟨t625, A190, H⟩ := H
    replace H : (if t622 ≥ 1 then ((impl_EdenCount.f k t618 t619).bind fun t626 => (if t622 ≤ (wrap64 (t625 - t626)) then ((impl_DyingCount.f k t618 t619).bind fun t627 => (some ((t622 == 1) == (t627 == t625)))) else (some false))) else (some false)) = some r := H
    have A19 := Aside0.mk A190
    clear A190
    by_cases c20 : t622 ≥ 1
    ·rw [if_pos c20] at H
     have c20b0 : decide (1 ≤ t622) = true := decide_eq_true c20
     clear c20
     replace H := Option.bind_eq_some_iff.mp H
     obtain ⟨t626, A210, H⟩ := H
     replace H : (if t622 ≤ (wrap64 (t625 - t626)) then ((impl_DyingCount.f k t618 t619).bind fun t627 => (some ((t622 == 1) == (t627 == t625)))) else (some false)) = some r := H
     have A21 := Aside0.mk A210
     clear A210
     by_cases c22 : t622 ≤ (wrap64 (t625 - t626))
     ·rw [if_pos c22] at H
      have c22b0 : decide (t622 ≤ (wrap64 (t625 - t626))) = true := decide_eq_true c22
      clear c22
      replace H := Option.bind_eq_some_iff.mp H
      obtain ⟨t627, A230, H⟩ := H
      replace H : (some ((t622 == 1) == (t627 == t625))) = some r := H
      have A23 := Aside0.mk A230
      clear A230
      obtain rfl := Option.some.inj H
      go_enter Try.func12, Try.ntmps12
      go_wp2_with (first | ((with_reducible refine gate_callee (f := 37) rfl ?_); refine goesL_ (some 12) rfl rfl Try.func37 (by kernel_rfl) rfl #[.slice A0 l0.length c0] rfl zA ?_; (with_reducible refine (spec_DrawLoopCount.calls k _ _ l0 t618 t619 _ ?side1 ?side2 A3.out).mono ?_); (case side1 => exact zC HR0.out); (case side2 => exact HC0.out); rintro e w24 ⟨v620, rfl, ho0, hb⟩; refine ⟨_, rfl, ?_⟩; have n0_ := Aside0.mk (Kd.R_lower ho0 (below_size (zB HB.out))); have n1_ := Aside0.mk (below_step (zB HB.out) hb); clear HB; have HO621 := n0_; have HB := n1_; clear n0_ n1_; (try clear hb); (try clear hb2); (try clear hk); (try clear hi); (try clear ho0); obtain ⟨Ao25, co25, eo25⟩ := Kd.R_slice HO621.out; subst eo25) | ((with_reducible refine gate_callee (f := 24) rfl ?_); refine goesL_ (some 17) rfl rfl Try.func24 (by kernel_rfl) rfl #[.slice Ao25 t618.length co25, .int .i64 t619] rfl zA ?_; (with_reducible refine (impl_LoopCount.calls k _ _ t618 t619 t622 _ ?side1 ?side2 A4.out).mono ?_); (case side1 => exact zC (Kd.R_reads' HO621.out).2.2); (case side2 => exact (Kd.R_reads' HO621.out).2.1); rintro e w26 ⟨rfl, hb⟩; refine ⟨_, rfl, ?_⟩; have n0_ := Aside0.mk (Kd.R_below (zR HO621.out) hb); have n1_ := Aside0.mk (below_step (zB HB.out) hb); clear HO621; clear HB; have HO621 := n0_; have HB := n1_; clear n0_ n1_; (try clear hb); (try clear hb2); (try clear hk); (try clear hi)) | ((with_reducible refine gate_callee (f := 23) rfl ?_); refine goesL_ (some 21) rfl rfl Try.func23 (by kernel_rfl) rfl #[.slice Ao25 t618.length co25, .int .i64 t619] rfl zA ?_; (with_reducible refine (spec_LoopCount.calls k _ _ t618 t619 t623 _ ?side1 ?side2 A5.out).mono ?_); (case side1 => exact zC (Kd.R_reads' HO621.out).2.2); (case side2 => exact (Kd.R_reads' HO621.out).2.1); rintro e w27 ⟨rfl, hb⟩; refine ⟨_, rfl, ?_⟩; have n0_ := Aside0.mk (Kd.R_below (zR HO621.out) hb); have n1_ := Aside0.mk (below_step (zB HB.out) hb); clear HO621; clear HB; have HO621 := n0_; have HB := n1_; clear n0_ n1_; (try clear hb); (try clear hb2); (try clear hk); (try clear hi)) | ((with_reducible refine gate_callee (f := 30) rfl ?_); refine goesL_ (some 33) rfl rfl Try.func30 (by kernel_rfl) rfl #[.int .i64 t619, .int .i64 (t618.length : Int)] rfl zA ?_; (with_reducible refine (laws_powerOf.calls k t619 (t618.length : Int) t625 _ A19.out).mono ?_); rintro e w' ⟨rfl, ⟨nd, rfl⟩⟩; refine ⟨_, rfl, ?_⟩) | (go_at_call 20; (with_reducible refine (impl_EdenCount.calls k _ _ t618 t619 t626 _ ?side1 ?side2 A21.out).mono ?_); (case side1 => exact zC (Kd.R_reads' HO621.out).2.2); (case side2 => exact (Kd.R_reads' HO621.out).2.1); rintro e w28 ⟨rfl, hb⟩; have n0_ := Aside0.mk (Kd.R_below (zR HO621.out) hb); have n1_ := Aside0.mk (below_step (zB HB.out) hb); clear HO621; clear HB; have HO621 := n0_; have HB := n1_; clear n0_ n1_; (try clear hb); (try clear hb2); (try clear hk); (try clear hi)) | (go_at_call 26; (with_reducible refine (impl_DyingCount.calls k _ _ t618 t619 t627 _ ?side1 ?side2 A23.out).mono ?_); (case side1 => exact zC (Kd.R_reads' HO621.out).2.2); (case side2 => exact (Kd.R_reads' HO621.out).2.1); rintro e w29 ⟨rfl, hb⟩; have n0_ := Aside0.mk (Kd.R_below (zR HO621.out) hb); have n1_ := Aside0.mk (below_step (zB HB.out) hb); clear HO621; clear HB; have HO621 := n0_; have HB := n1_; clear n0_ n1_; (try clear hb); (try clear hb2); (try clear hk); (try clear hi)))
      go_ret
      exact ⟨by first | rfl | (simp [errW_none, errW_some] <;> rfl) | (simp [*, errW_none, errW_some] <;> rfl), zB HB.out⟩
     ·rw [if_neg c22] at H
      have c22b0 : decide (t622 ≤ (wrap64 (t625 - t626))) = false := decide_eq_false c22
      clear c22
      obtain rfl := Option.some.inj H
      go_enter Try.func12, Try.ntmps12
      go_wp2_with (first | ((with_reducible refine gate_callee (f := 37) rfl ?_); refine goesL_ (some 12) rfl rfl Try.func37 (by kernel_rfl) rfl #[.slice A0 l0.length c0] rfl zA ?_; (with_reducible refine (spec_DrawLoopCount.calls k _ _ l0 t618 t619 _ ?side1 ?side2 A3.out).mono ?_); (case side1 => exact zC HR0.out); (case side2 => exact HC0.out); rintro e w30 ⟨v620, rfl, ho0, hb⟩; refine ⟨_, rfl, ?_⟩; have n0_ := Aside0.mk (Kd.R_lower ho0 (below_size (zB HB.out))); have n1_ := Aside0.mk (below_step (zB HB.out) hb); clear HB; have HO621 := n0_; have HB := n1_; clear n0_ n1_; (try clear hb); (try clear hb2); (try clear hk); (try clear hi); (try clear ho0); obtain ⟨Ao31, co31, eo31⟩ := Kd.R_slice HO621.out; subst eo31) | ((with_reducible refine gate_callee (f := 24) rfl ?_); refine goesL_ (some 17) rfl rfl Try.func24 (by kernel_rfl) rfl #[.slice Ao31 t618.length co31, .int .i64 t619] rfl zA ?_; (with_reducible refine (impl_LoopCount.calls k _ _ t618 t619 t622 _ ?side1 ?side2 A4.out).mono ?_); (case side1 => exact zC (Kd.R_reads' HO621.out).2.2); (case side2 => exact (Kd.R_reads' HO621.out).2.1); rintro e w32 ⟨rfl, hb⟩; refine ⟨_, rfl, ?_⟩; have n0_ := Aside0.mk (Kd.R_below (zR HO621.out) hb); have n1_ := Aside0.mk (below_step (zB HB.out) hb); clear HO621; clear HB; have HO621 := n0_; have HB := n1_; clear n0_ n1_; (try clear hb); (try clear hb2); (try clear hk); (try clear hi)) | ((with_reducible refine gate_callee (f := 23) rfl ?_); refine goesL_ (some 21) rfl rfl Try.func23 (by kernel_rfl) rfl #[.slice Ao31 t618.length co31, .int .i64 t619] rfl zA ?_; (with_reducible refine (spec_LoopCount.calls k _ _ t618 t619 t623 _ ?side1 ?side2 A5.out).mono ?_); (case side1 => exact zC (Kd.R_reads' HO621.out).2.2); (case side2 => exact (Kd.R_reads' HO621.out).2.1); rintro e w33 ⟨rfl, hb⟩; refine ⟨_, rfl, ?_⟩; have n0_ := Aside0.mk (Kd.R_below (zR HO621.out) hb); have n1_ := Aside0.mk (below_step (zB HB.out) hb); clear HO621; clear HB; have HO621 := n0_; have HB := n1_; clear n0_ n1_; (try clear hb); (try clear hb2); (try clear hk); (try clear hi)) | ((with_reducible refine gate_callee (f := 30) rfl ?_); refine goesL_ (some 33) rfl rfl Try.func30 (by kernel_rfl) rfl #[.int .i64 t619, .int .i64 (t618.length : Int)] rfl zA ?_; (with_reducible refine (laws_powerOf.calls k t619 (t618.length : Int) t625 _ A19.out).mono ?_); rintro e w' ⟨rfl, ⟨nd, rfl⟩⟩; refine ⟨_, rfl, ?_⟩) | (go_at_call 20; (with_reducible refine (impl_EdenCount.calls k _ _ t618 t619 t626 _ ?side1 ?side2 A21.out).mono ?_); (case side1 => exact zC (Kd.R_reads' HO621.out).2.2); (case side2 => exact (Kd.R_reads' HO621.out).2.1); rintro e w34 ⟨rfl, hb⟩; have n0_ := Aside0.mk (Kd.R_below (zR HO621.out) hb); have n1_ := Aside0.mk (below_step (zB HB.out) hb); clear HO621; clear HB; have HO621 := n0_; have HB := n1_; clear n0_ n1_; (try clear hb); (try clear hb2); (try clear hk); (try clear hi)))
      go_ret
      exact ⟨by first | rfl | (simp [errW_none, errW_some] <;> rfl) | (simp [*, errW_none, errW_some] <;> rfl), zB HB.out⟩
    ·rw [if_neg c20] at H
     have c20b0 : decide (1 ≤ t622) = false := decide_eq_false c20
     clear c20
     obtain rfl := Option.some.inj H
     go_enter Try.func12, Try.ntmps12
     go_wp2_with (first | ((with_reducible refine gate_callee (f := 37) rfl ?_); refine goesL_ (some 12) rfl rfl Try.func37 (by kernel_rfl) rfl #[.slice A0 l0.length c0] rfl zA ?_; (with_reducible refine (spec_DrawLoopCount.calls k _ _ l0 t618 t619 _ ?side1 ?side2 A3.out).mono ?_); (case side1 => exact zC HR0.out); (case side2 => exact HC0.out); rintro e w35 ⟨v620, rfl, ho0, hb⟩; refine ⟨_, rfl, ?_⟩; have n0_ := Aside0.mk (Kd.R_lower ho0 (below_size (zB HB.out))); have n1_ := Aside0.mk (below_step (zB HB.out) hb); clear HB; have HO621 := n0_; have HB := n1_; clear n0_ n1_; (try clear hb); (try clear hb2); (try clear hk); (try clear hi); (try clear ho0); obtain ⟨Ao36, co36, eo36⟩ := Kd.R_slice HO621.out; subst eo36) | ((with_reducible refine gate_callee (f := 24) rfl ?_); refine goesL_ (some 17) rfl rfl Try.func24 (by kernel_rfl) rfl #[.slice Ao36 t618.length co36, .int .i64 t619] rfl zA ?_; (with_reducible refine (impl_LoopCount.calls k _ _ t618 t619 t622 _ ?side1 ?side2 A4.out).mono ?_); (case side1 => exact zC (Kd.R_reads' HO621.out).2.2); (case side2 => exact (Kd.R_reads' HO621.out).2.1); rintro e w37 ⟨rfl, hb⟩; refine ⟨_, rfl, ?_⟩; have n0_ := Aside0.mk (Kd.R_below (zR HO621.out) hb); have n1_ := Aside0.mk (below_step (zB HB.out) hb); clear HO621; clear HB; have HO621 := n0_; have HB := n1_; clear n0_ n1_; (try clear hb); (try clear hb2); (try clear hk); (try clear hi)) | ((with_reducible refine gate_callee (f := 23) rfl ?_); refine goesL_ (some 21) rfl rfl Try.func23 (by kernel_rfl) rfl #[.slice Ao36 t618.length co36, .int .i64 t619] rfl zA ?_; (with_reducible refine (spec_LoopCount.calls k _ _ t618 t619 t623 _ ?side1 ?side2 A5.out).mono ?_); (case side1 => exact zC (Kd.R_reads' HO621.out).2.2); (case side2 => exact (Kd.R_reads' HO621.out).2.1); rintro e w38 ⟨rfl, hb⟩; refine ⟨_, rfl, ?_⟩; have n0_ := Aside0.mk (Kd.R_below (zR HO621.out) hb); have n1_ := Aside0.mk (below_step (zB HB.out) hb); clear HO621; clear HB; have HO621 := n0_; have HB := n1_; clear n0_ n1_; (try clear hb); (try clear hb2); (try clear hk); (try clear hi)) | ((with_reducible refine gate_callee (f := 30) rfl ?_); refine goesL_ (some 33) rfl rfl Try.func30 (by kernel_rfl) rfl #[.int .i64 t619, .int .i64 (t618.length : Int)] rfl zA ?_; (with_reducible refine (laws_powerOf.calls k t619 (t618.length : Int) t625 _ A19.out).mono ?_); rintro e w' ⟨rfl, ⟨nd, rfl⟩⟩; refine ⟨_, rfl, ?_⟩))
     go_ret
     exact ⟨by first | rfl | (simp [errW_none, errW_some] <;> rfl) | (simp [*, errW_none, errW_some] <;> rfl), zB HB.out⟩
  ·rw [if_neg c6] at H
   have c6b0 : (t622 == t623) = false := beq_eq_false_iff_ne.mpr c6
   have c6b1 : (t622 != t623) = true := bne_iff_ne.mpr c6
   obtain rfl := Option.some.inj H
   go_enter Try.func12, Try.ntmps12
   go_wp2_with (first | ((with_reducible refine gate_callee (f := 37) rfl ?_); refine goesL_ (some 12) rfl rfl Try.func37 (by kernel_rfl) rfl #[.slice A0 l0.length c0] rfl zA ?_; (with_reducible refine (spec_DrawLoopCount.calls k _ _ l0 t618 t619 _ ?side1 ?side2 A3.out).mono ?_); (case side1 => exact zC HR0.out); (case side2 => exact HC0.out); rintro e w39 ⟨v620, rfl, ho0, hb⟩; refine ⟨_, rfl, ?_⟩; have n0_ := Aside0.mk (Kd.R_lower ho0 (below_size (zB HB.out))); have n1_ := Aside0.mk (below_step (zB HB.out) hb); clear HB; have HO621 := n0_; have HB := n1_; clear n0_ n1_; (try clear hb); (try clear hb2); (try clear hk); (try clear hi); (try clear ho0); obtain ⟨Ao40, co40, eo40⟩ := Kd.R_slice HO621.out; subst eo40) | ((with_reducible refine gate_callee (f := 24) rfl ?_); refine goesL_ (some 17) rfl rfl Try.func24 (by kernel_rfl) rfl #[.slice Ao40 t618.length co40, .int .i64 t619] rfl zA ?_; (with_reducible refine (impl_LoopCount.calls k _ _ t618 t619 t622 _ ?side1 ?side2 A4.out).mono ?_); (case side1 => exact zC (Kd.R_reads' HO621.out).2.2); (case side2 => exact (Kd.R_reads' HO621.out).2.1); rintro e w41 ⟨rfl, hb⟩; refine ⟨_, rfl, ?_⟩; have n0_ := Aside0.mk (Kd.R_below (zR HO621.out) hb); have n1_ := Aside0.mk (below_step (zB HB.out) hb); clear HO621; clear HB; have HO621 := n0_; have HB := n1_; clear n0_ n1_; (try clear hb); (try clear hb2); (try clear hk); (try clear hi)) | ((with_reducible refine gate_callee (f := 23) rfl ?_); refine goesL_ (some 21) rfl rfl Try.func23 (by kernel_rfl) rfl #[.slice Ao40 t618.length co40, .int .i64 t619] rfl zA ?_; (with_reducible refine (spec_LoopCount.calls k _ _ t618 t619 t623 _ ?side1 ?side2 A5.out).mono ?_); (case side1 => exact zC (Kd.R_reads' HO621.out).2.2); (case side2 => exact (Kd.R_reads' HO621.out).2.1); rintro e w42 ⟨rfl, hb⟩; refine ⟨_, rfl, ?_⟩; have n0_ := Aside0.mk (Kd.R_below (zR HO621.out) hb); have n1_ := Aside0.mk (below_step (zB HB.out) hb); clear HO621; clear HB; have HO621 := n0_; have HB := n1_; clear n0_ n1_; (try clear hb); (try clear hb2); (try clear hk); (try clear hi)))
   go_ret
   exact ⟨by first | rfl | (simp [errW_none, errW_some] <;> rfl) | (simp [*, errW_none, errW_some] <;> rfl), zB HB.out⟩

/-- THE ONE PURE STATEMENT of laws_FnLoopCount: yours. -/
def laws_FnLoopCount.Pure : Prop := ∀ (l0 : List Int), l0.length ≤ maxLen → l0.length * 1 ≤ 140737488351232 → (∀ x ∈ l0, (Lit.int .u8 x).wf = true) → ∃ k, laws_FnLoopCount.f k l0 = some true
theorem laws_FnLoopCount.walk (P : laws_FnLoopCount.Pure) (a0 : Option Addr) (len0 cap0 : Nat) (z0 : List Int) (w : World) (w0 : (a0 = none ∧ len0 = 0 ∧ cap0 = 0 ∧ z0 = []) ∨ ∃ x, a0 = some x ∧ len0 ≤ cap0 ∧ cap0 ≤ maxLen ∧ z0.length = cap0 ∧ (∀ i, i < z0.length → w.cell? (x.add i) = some (.int .u8 (z0.getD i 0))) ∧ ∀ n ∈ z0, (Lit.int .u8 n).wf = true) (y0 : len0 * 1 ≤ 140737488351232) :
  Calls Try.prog 12 #[.slice a0 len0 cap0] w fun e w' => e = .returned (.bool true) ∧ Below w.heap.size w w' := by
 obtain ⟨l0, rfl, hr0, hm0, hw0, hc0⟩ := ReadsInt.ofRowC w0
 obtain ⟨k, h⟩ := P l0 hm0 y0 hw0
 refine (laws_FnLoopCount.calls k _ _ l0 true w (Kd.C_of_reads (d := (0 : Int)) (h1 := fun _ => rfl) hr0) hc0 h).mono ?_
 rintro e w' ⟨rfl, hd⟩
 exact ⟨rfl, hd⟩

end Go.Proofs.Ytgglagpciojfmaa.PAll
