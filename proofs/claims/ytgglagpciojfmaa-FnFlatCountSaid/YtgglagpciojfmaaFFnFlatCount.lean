/- Own text of this session, written by a program of this session (wip/t/own.py) out of what the kit tells of the functions: each Go function as a Lean function, and the walk through its code. -/
import Derived.Test.YtgglagpciojfmaaT
import Derived.Test.YtgglagpciojfmaaF17
import Derived.Test.YtgglagpciojfmaaF19
import Derived.Test.YtgglagpciojfmaaF28
import Derived.Test.YtgglagpciojfmaaF34
import Derived.Test.YtgglagpciojfmaaF38
import Derived.Test.YtgglagpciojfmaaF39
import Derived.Test.YtgglagpciojfmaaF40
namespace Go.Proofs.Ytgglagpciojfmaa.PAll
open Go.RowKit Go.Proofs.YtgglagpciojfmaaW.PrintWords Go.Proofs.YtgglagpciojfmaaW.PrintLast Go.Proofs.YtgglagpciojfmaaW.PrintMore
attribute [local go_sem] max2_int min2_int max_two min_two max_three min_three max_four min_four   -- for this text's walks alone
set_option linter.unusedVariables false
set_option linter.unusedSimpArgs false

/-! ### laws_FnFlatCount: function 11 -/
def laws_FnFlatCount.f (k : Nat) (l0 : List Int) : Option (Bool) := if (l0.length : Int) > 1048576 then (some true) else ((spec_DrawFlatCount.f k l0).bind fun t598 => ((impl_FlatCount.f k t598).bind fun t601 => ((spec_FlatCount.f k t598).bind fun t602 => (if t601 = t602 then (if t601 < 0 then (if t601 = (-1) then ((laws_alive.f k).bind fun t603 => (some t603)) else (some false)) else (if t601 ≥ 3 then ((impl_PathNet.f k (t598.length : Int)).bind fun t604 => ((impl_FlatCount.f k t604).bind fun t607 => ((laws_powerOf.f k 3 (t598.length : Int)).bind fun t608 => (if t607 = t608 then (if (t598.length : Int) < 3 then (some true) else ((impl_RingNet.f k (t598.length : Int)).bind fun t609 => ((impl_FlatCount.f k t609).bind fun t612 => ((impl_RingStates.f k (t598.length : Int) 0).bind fun t613 => (some (t612 == t613)))))) else (some false))))) else (some false))) else (some false)))))
theorem laws_FnFlatCount.mono : ∀ a0 k, LeO (laws_FnFlatCount.f k a0) (laws_FnFlatCount.f (k + 1) a0) := by
 intro a0 k
 unfold laws_FnFlatCount.f
 repeat' first
   | (with_reducible exact impl_FlatCount.mono _ _)
   | (with_reducible exact impl_PathNet.mono _ _)
   | (with_reducible exact impl_RingNet.mono _ _)
   | (with_reducible exact impl_RingStates.mono _ _ _)
   | (with_reducible exact laws_alive.mono _)
   | (with_reducible exact laws_powerOf.mono _ _ _)
   | (with_reducible exact spec_DrawFlatCount.mono _ _)
   | (with_reducible exact spec_FlatCount.mono _ _)
   | (with_reducible exact LeO.refl _)
   | (with_reducible exact LeO.none _)
   | (with_reducible refine LeO.ite ?_ ?_)
   | (with_reducible refine LeO.bind ?_ (fun _ => ?_))
   | exact impl_FlatCount.mono _ _
   | exact impl_PathNet.mono _ _
   | exact impl_RingNet.mono _ _
   | exact impl_RingStates.mono _ _ _
   | exact laws_alive.mono _
   | exact laws_powerOf.mono _ _ _
   | exact spec_DrawFlatCount.mono _ _
   | exact spec_FlatCount.mono _ _
   | exact LeO.none _
   | refine LeO.ite ?_ ?_
   | refine LeO.bind ?_ (fun _ => ?_)
set_option maxHeartbeats 8000000 in
set_option maxRecDepth 100000 in
theorem laws_FnFlatCount.calls (k : Nat) (A0 : Option Addr) (c0 : Nat) (l0 : List Int) (r : Bool) (w : World) (hr0 : Kd.C (Kd.int .u8) w A0 l0.length l0) (hc0 : l0.length ≤ c0) (h : laws_FnFlatCount.f k l0 = some r) :
  Calls Try.prog 11 #[.slice A0 l0.length c0] w fun e w' => e = .returned (.bool r) ∧ Below w.heap.size w w' := by
 have HR0 := Aside0.mk hr0
 have HC0 := Aside0.mk hc0
 clear hr0 hc0
 have HB := Aside0.mk (Below.refl w.heap.size w)
 have H : (if (l0.length : Int) > 1048576 then (some true) else ((spec_DrawFlatCount.f k l0).bind fun t598 => ((impl_FlatCount.f k t598).bind fun t601 => ((spec_FlatCount.f k t598).bind fun t602 => (if t601 = t602 then (if t601 < 0 then (if t601 = (-1) then ((laws_alive.f k).bind fun t603 => (some t603)) else (some false)) else (if t601 ≥ 3 then ((impl_PathNet.f k (t598.length : Int)).bind fun t604 => ((impl_FlatCount.f k t604).bind fun t607 => ((laws_powerOf.f k 3 (t598.length : Int)).bind fun t608 => (if t607 = t608 then (if (t598.length : Int) < 3 then (some true) else ((impl_RingNet.f k (t598.length : Int)).bind fun t609 => ((impl_FlatCount.f k t609).bind fun t612 => ((impl_RingStates.f k (t598.length : Int) 0).bind fun t613 => (some (t612 == t613)))))) else (some false))))) else (some false))) else (some false)))))) = some r := h
 clear h
 by_cases c2 : (l0.length : Int) > 1048576
 ·rw [if_pos c2] at H
  have c2b0 : decide (1048576 < (l0.length : Int)) = true := decide_eq_true c2
  have c2b1 : decide (1048576 < l0.length) = true := decide_eq_true (by omega)
  clear c2
  obtain rfl := Option.some.inj H
  go_enter Try.func11, Try.ntmps11
  go_wp2
  go_ret
  exact ⟨by first | rfl | (simp [errW_none, errW_some] <;> rfl) | (simp [*, errW_none, errW_some] <;> rfl), zB HB.out⟩
 ·rw [if_neg c2] at H
  have c2b0 : decide (1048576 < (l0.length : Int)) = false := decide_eq_false c2
  have c2b1 : decide (1048576 < l0.length) = false := decide_eq_false (by omega)
  clear c2
  replace H := Option.bind_eq_some_iff.mp H
  obtain ⟨t598, A30, H⟩ := H
  replace H : ((impl_FlatCount.f k t598).bind fun t601 => ((spec_FlatCount.f k t598).bind fun t602 => (if t601 = t602 then (if t601 < 0 then (if t601 = (-1) then ((laws_alive.f k).bind fun t603 => (some t603)) else (some false)) else (if t601 ≥ 3 then ((impl_PathNet.f k (t598.length : Int)).bind fun t604 => ((impl_FlatCount.f k t604).bind fun t607 => ((laws_powerOf.f k 3 (t598.length : Int)).bind fun t608 => (if t607 = t608 then (if (t598.length : Int) < 3 then (some true) else ((impl_RingNet.f k (t598.length : Int)).bind fun t609 => ((impl_FlatCount.f k t609).bind fun t612 => ((impl_RingStates.f k (t598.length : Int) 0).bind fun t613 => (some (t612 == t613)))))) else (some false))))) else (some false))) else (some false)))) = some r := H
  have A3 := Aside0.mk A30
  clear A30
  replace H := Option.bind_eq_some_iff.mp H
  obtain ⟨t601, A40, H⟩ := H
  replace H : ((spec_FlatCount.f k t598).bind fun t602 => (if t601 = t602 then (if t601 < 0 then (if t601 = (-1) then ((laws_alive.f k).bind fun t603 => (some t603)) else (some false)) else (if t601 ≥ 3 then ((impl_PathNet.f k (t598.length : Int)).bind fun t604 => ((impl_FlatCount.f k t604).bind fun t607 => ((laws_powerOf.f k 3 (t598.length : Int)).bind fun t608 => (if t607 = t608 then (if (t598.length : Int) < 3 then (some true) else ((impl_RingNet.f k (t598.length : Int)).bind fun t609 => ((impl_FlatCount.f k t609).bind fun t612 => ((impl_RingStates.f k (t598.length : Int) 0).bind fun t613 => (some (t612 == t613)))))) else (some false))))) else (some false))) else (some false))) = some r := H
  have A4 := Aside0.mk A40
  clear A40
  replace H := Option.bind_eq_some_iff.mp H
  obtain ⟨t602, A50, H⟩ := H
  replace H : (if t601 = t602 then (if t601 < 0 then (if t601 = (-1) then ((laws_alive.f k).bind fun t603 => (some t603)) else (some false)) else (if t601 ≥ 3 then ((impl_PathNet.f k (t598.length : Int)).bind fun t604 => ((impl_FlatCount.f k t604).bind fun t607 => ((laws_powerOf.f k 3 (t598.length : Int)).bind fun t608 => (if t607 = t608 then (if (t598.length : Int) < 3 then (some true) else ((impl_RingNet.f k (t598.length : Int)).bind fun t609 => ((impl_FlatCount.f k t609).bind fun t612 => ((impl_RingStates.f k (t598.length : Int) 0).bind fun t613 => (some (t612 == t613)))))) else (some false))))) else (some false))) else (some false)) = some r := H
  have A5 := Aside0.mk A50
  clear A50
  by_cases c6 : t601 = t602
  ·rw [if_pos c6] at H
   have c6b0 : (t601 == t602) = true := beq_iff_eq.mpr c6
   have c6b1 : (t601 != t602) = false := bne_eq_false_iff_eq.mpr c6
   clear c6
   by_cases c7 : t601 < 0
   ·rw [if_pos c7] at H
    have c7b0 : decide (t601 < 0) = true := decide_eq_true c7
    clear c7
    by_cases c8 : t601 = (-1)
    ·rw [if_pos c8] at H
     have c8b0 : (t601 == (-1)) = true := beq_iff_eq.mpr c8
     have c8b1 : (t601 != (-1)) = false := bne_eq_false_iff_eq.mpr c8
     clear c8
     replace H := Option.bind_eq_some_iff.mp H
     obtain ⟨t603, A90, H⟩ := H
     replace H : (some t603) = some r := H
     have A9 := Aside0.mk A90
     clear A90
     obtain rfl := Option.some.inj H
     go_enter Try.func11, Try.ntmps11
     go_wp2_with (first | ((with_reducible refine gate_callee (f := 33) rfl ?_); refine goesL_ (some 10) rfl rfl Try.func33 (by kernel_rfl) rfl #[.slice A0 l0.length c0] rfl zA ?_; (with_reducible refine (spec_DrawFlatCount.calls k _ _ l0 t598 _ ?side1 ?side2 A3.out).mono ?_); (case side1 => exact zC HR0.out); (case side2 => exact HC0.out); rintro e w10 ⟨v599, rfl, ho0, hb⟩; refine ⟨_, rfl, ?_⟩; have n0_ := Aside0.mk (Kd.R_lower ho0 (below_size (zB HB.out))); have n1_ := Aside0.mk (below_step (zB HB.out) hb); clear HB; have HO600 := n0_; have HB := n1_; clear n0_ n1_; (try clear hb); (try clear hb2); (try clear hk); (try clear hi); (try clear ho0); obtain ⟨Ao11, co11, eo11⟩ := Kd.R_slice HO600.out; subst eo11) | ((with_reducible refine gate_callee (f := 22) rfl ?_); refine goesL_ (some 12) rfl rfl Try.func22 (by kernel_rfl) rfl #[.slice Ao11 t598.length co11] rfl zA ?_; (with_reducible refine (impl_FlatCount.calls k _ _ t598 t601 _ ?side1 ?side2 A4.out).mono ?_); (case side1 => exact zC (Kd.R_reads' HO600.out).2.2); (case side2 => exact (Kd.R_reads' HO600.out).2.1); rintro e w12 ⟨rfl, hb⟩; refine ⟨_, rfl, ?_⟩; have n0_ := Aside0.mk (Kd.R_below (zR HO600.out) hb); have n1_ := Aside0.mk (below_step (zB HB.out) hb); clear HO600; clear HB; have HO600 := n0_; have HB := n1_; clear n0_ n1_; (try clear hb); (try clear hb2); (try clear hk); (try clear hi)) | ((with_reducible refine gate_callee (f := 21) rfl ?_); refine goesL_ (some 15) rfl rfl Try.func21 (by kernel_rfl) rfl #[.slice Ao11 t598.length co11] rfl zA ?_; (with_reducible refine (spec_FlatCount.calls k _ _ t598 t602 _ ?side1 ?side2 A5.out).mono ?_); (case side1 => exact zC (Kd.R_reads' HO600.out).2.2); (case side2 => exact (Kd.R_reads' HO600.out).2.1); rintro e w13 ⟨rfl, hb⟩; refine ⟨_, rfl, ?_⟩; have n0_ := Aside0.mk (Kd.R_below (zR HO600.out) hb); have n1_ := Aside0.mk (below_step (zB HB.out) hb); clear HO600; clear HB; have HO600 := n0_; have HB := n1_; clear n0_ n1_; (try clear hb); (try clear hb2); (try clear hk); (try clear hi)) | (go_at_call 28; (with_reducible refine (laws_alive.calls k  t603 _ A9.out).mono ?_); rintro e w14 ⟨rfl, hb⟩; have n0_ := Aside0.mk (Kd.R_below (zR HO600.out) hb); have n1_ := Aside0.mk (below_step (zB HB.out) hb); clear HO600; clear HB; have HO600 := n0_; have HB := n1_; clear n0_ n1_; (try clear hb); (try clear hb2); (try clear hk); (try clear hi)))
     go_ret
     exact ⟨by first | rfl | (simp [errW_none, errW_some] <;> rfl) | (simp [*, errW_none, errW_some] <;> rfl), zB HB.out⟩
    ·rw [if_neg c8] at H
     have c8b0 : (t601 == (-1)) = false := beq_eq_false_iff_ne.mpr c8
     have c8b1 : (t601 != (-1)) = true := bne_iff_ne.mpr c8
     obtain rfl := Option.some.inj H
     go_enter Try.func11, Try.ntmps11
     go_wp2_with (first | ((with_reducible refine gate_callee (f := 33) rfl ?_); refine goesL_ (some 10) rfl rfl Try.func33 (by kernel_rfl) rfl #[.slice A0 l0.length c0] rfl zA ?_; (with_reducible refine (spec_DrawFlatCount.calls k _ _ l0 t598 _ ?side1 ?side2 A3.out).mono ?_); (case side1 => exact zC HR0.out); (case side2 => exact HC0.out); rintro e w15 ⟨v599, rfl, ho0, hb⟩; refine ⟨_, rfl, ?_⟩; have n0_ := Aside0.mk (Kd.R_lower ho0 (below_size (zB HB.out))); have n1_ := Aside0.mk (below_step (zB HB.out) hb); clear HB; have HO600 := n0_; have HB := n1_; clear n0_ n1_; (try clear hb); (try clear hb2); (try clear hk); (try clear hi); (try clear ho0); obtain ⟨Ao16, co16, eo16⟩ := Kd.R_slice HO600.out; subst eo16) | ((with_reducible refine gate_callee (f := 22) rfl ?_); refine goesL_ (some 12) rfl rfl Try.func22 (by kernel_rfl) rfl #[.slice Ao16 t598.length co16] rfl zA ?_; (with_reducible refine (impl_FlatCount.calls k _ _ t598 t601 _ ?side1 ?side2 A4.out).mono ?_); (case side1 => exact zC (Kd.R_reads' HO600.out).2.2); (case side2 => exact (Kd.R_reads' HO600.out).2.1); rintro e w17 ⟨rfl, hb⟩; refine ⟨_, rfl, ?_⟩; have n0_ := Aside0.mk (Kd.R_below (zR HO600.out) hb); have n1_ := Aside0.mk (below_step (zB HB.out) hb); clear HO600; clear HB; have HO600 := n0_; have HB := n1_; clear n0_ n1_; (try clear hb); (try clear hb2); (try clear hk); (try clear hi)) | ((with_reducible refine gate_callee (f := 21) rfl ?_); refine goesL_ (some 15) rfl rfl Try.func21 (by kernel_rfl) rfl #[.slice Ao16 t598.length co16] rfl zA ?_; (with_reducible refine (spec_FlatCount.calls k _ _ t598 t602 _ ?side1 ?side2 A5.out).mono ?_); (case side1 => exact zC (Kd.R_reads' HO600.out).2.2); (case side2 => exact (Kd.R_reads' HO600.out).2.1); rintro e w18 ⟨rfl, hb⟩; refine ⟨_, rfl, ?_⟩; have n0_ := Aside0.mk (Kd.R_below (zR HO600.out) hb); have n1_ := Aside0.mk (below_step (zB HB.out) hb); clear HO600; clear HB; have HO600 := n0_; have HB := n1_; clear n0_ n1_; (try clear hb); (try clear hb2); (try clear hk); (try clear hi)))
     go_ret
     exact ⟨by first | rfl | (simp [errW_none, errW_some] <;> rfl) | (simp [*, errW_none, errW_some] <;> rfl), zB HB.out⟩
   ·rw [if_neg c7] at H
    have c7b0 : decide (t601 < 0) = false := decide_eq_false c7
    clear c7
    by_cases c19 : t601 ≥ 3
    ·rw [if_pos c19] at H
     have c19b0 : decide (3 ≤ t601) = true := decide_eq_true c19
     clear c19
     replace H := Option.bind_eq_some_iff.mp H
     obtain ⟨t604, A200, H⟩ := H
     replace H : ((impl_FlatCount.f k t604).bind fun t607 => ((laws_powerOf.f k 3 (t598.length : Int)).bind fun t608 => (if t607 = t608 then (if (t598.length : Int) < 3 then (some true) else ((impl_RingNet.f k (t598.length : Int)).bind fun t609 => ((impl_FlatCount.f k t609).bind fun t612 => ((impl_RingStates.f k (t598.length : Int) 0).bind fun t613 => (some (t612 == t613)))))) else (some false)))) = some r := H
     have A20 := Aside0.mk A200
     clear A200
     replace H := Option.bind_eq_some_iff.mp H
     obtain ⟨t607, A210, H⟩ := H
     replace H : ((laws_powerOf.f k 3 (t598.length : Int)).bind fun t608 => (if t607 = t608 then (if (t598.length : Int) < 3 then (some true) else ((impl_RingNet.f k (t598.length : Int)).bind fun t609 => ((impl_FlatCount.f k t609).bind fun t612 => ((impl_RingStates.f k (t598.length : Int) 0).bind fun t613 => (some (t612 == t613)))))) else (some false))) = some r := H
     have A21 := Aside0.mk A210
     clear A210
     replace H := Option.bind_eq_some_iff.mp H
     obtain ⟨t608, A220, H⟩ := H
     replace H : (if t607 = t608 then (if (t598.length : Int) < 3 then (some true) else ((impl_RingNet.f k (t598.length : Int)).bind fun t609 => ((impl_FlatCount.f k t609).bind fun t612 => ((impl_RingStates.f k (t598.length : Int) 0).bind fun t613 => (some (t612 == t613)))))) else (some false)) = some r := H
     have A22 := Aside0.mk A220
     clear A220
     by_cases c23 : t607 = t608
     ·rw [if_pos c23] at H
      have c23b0 : (t607 == t608) = true := beq_iff_eq.mpr c23
      have c23b1 : (t607 != t608) = false := bne_eq_false_iff_eq.mpr c23
      clear c23
      by_cases c24 : (t598.length : Int) < 3
      ·rw [if_pos c24] at H
       have c24b0 : decide ((t598.length : Int) < 3) = true := decide_eq_true c24
       have c24b1 : decide (t598.length < 3) = true := decide_eq_true (by omega)
       clear c24
       obtain rfl := Option.some.inj H
       go_enter Try.func11, Try.ntmps11
       go_wp2_with (first | ((with_reducible refine gate_callee (f := 33) rfl ?_); refine goesL_ (some 10) rfl rfl Try.func33 (by kernel_rfl) rfl #[.slice A0 l0.length c0] rfl zA ?_; (with_reducible refine (spec_DrawFlatCount.calls k _ _ l0 t598 _ ?side1 ?side2 A3.out).mono ?_); (case side1 => exact zC HR0.out); (case side2 => exact HC0.out); rintro e w25 ⟨v599, rfl, ho0, hb⟩; refine ⟨_, rfl, ?_⟩; have n0_ := Aside0.mk (Kd.R_lower ho0 (below_size (zB HB.out))); have n1_ := Aside0.mk (below_step (zB HB.out) hb); clear HB; have HO600 := n0_; have HB := n1_; clear n0_ n1_; (try clear hb); (try clear hb2); (try clear hk); (try clear hi); (try clear ho0); obtain ⟨Ao26, co26, eo26⟩ := Kd.R_slice HO600.out; subst eo26) | ((with_reducible refine gate_callee (f := 22) rfl ?_); refine goesL_ (some 12) rfl rfl Try.func22 (by kernel_rfl) rfl #[.slice Ao26 t598.length co26] rfl zA ?_; (with_reducible refine (impl_FlatCount.calls k _ _ t598 t601 _ ?side1 ?side2 A4.out).mono ?_); (case side1 => exact zC (Kd.R_reads' HO600.out).2.2); (case side2 => exact (Kd.R_reads' HO600.out).2.1); rintro e w27 ⟨rfl, hb⟩; refine ⟨_, rfl, ?_⟩; have n0_ := Aside0.mk (Kd.R_below (zR HO600.out) hb); have n1_ := Aside0.mk (below_step (zB HB.out) hb); clear HO600; clear HB; have HO600 := n0_; have HB := n1_; clear n0_ n1_; (try clear hb); (try clear hb2); (try clear hk); (try clear hi)) | ((with_reducible refine gate_callee (f := 21) rfl ?_); refine goesL_ (some 15) rfl rfl Try.func21 (by kernel_rfl) rfl #[.slice Ao26 t598.length co26] rfl zA ?_; (with_reducible refine (spec_FlatCount.calls k _ _ t598 t602 _ ?side1 ?side2 A5.out).mono ?_); (case side1 => exact zC (Kd.R_reads' HO600.out).2.2); (case side2 => exact (Kd.R_reads' HO600.out).2.1); rintro e w28 ⟨rfl, hb⟩; refine ⟨_, rfl, ?_⟩; have n0_ := Aside0.mk (Kd.R_below (zR HO600.out) hb); have n1_ := Aside0.mk (below_step (zB HB.out) hb); clear HO600; clear HB; have HO600 := n0_; have HB := n1_; clear n0_ n1_; (try clear hb); (try clear hb2); (try clear hk); (try clear hi)) | (go_at_call 34; (with_reducible refine (impl_PathNet.calls k (t598.length : Int) t604 _ A20.out).mono ?_); rintro e w29 ⟨v605, rfl, ho0, hb⟩; have n0_ := Aside0.mk (Kd.R_elder' (zR HO600.out) (Kd.R_base ho0) hb); have n1_ := Aside0.mk (Kd.R_lower (Kd.R_new' ho0 (Kd.R_lt (zR HO600.out))) (below_size (zB HB.out))); have n2_ := Aside0.mk (below_step (zB HB.out) hb); clear HO600; clear HB; have HO600 := n0_; have HO606 := n1_; have HB := n2_; clear n0_ n1_ n2_; (try clear hb); (try clear hb2); (try clear hk); (try clear hi); (try clear ho0); obtain ⟨Ao30, co30, eo30⟩ := Kd.R_slice HO606.out; subst eo30) | (go_at_call 22; (with_reducible refine (impl_FlatCount.calls k _ _ t604 t607 _ ?side1 ?side2 A21.out).mono ?_); (case side1 => exact zC (Kd.R_reads' HO606.out).2.2); (case side2 => exact (Kd.R_reads' HO606.out).2.1); rintro e w31 ⟨rfl, hb⟩; have n0_ := Aside0.mk (Kd.R_below (zR HO600.out) hb); have n1_ := Aside0.mk (Kd.R_below (zR HO606.out) hb); have n2_ := Aside0.mk (below_step (zB HB.out) hb); clear HO600; clear HO606; clear HB; have HO600 := n0_; have HO606 := n1_; have HB := n2_; clear n0_ n1_ n2_; (try clear hb); (try clear hb2); (try clear hk); (try clear hi)) | (go_at_call 30; (with_reducible refine (laws_powerOf.calls k 3 (t598.length : Int) t608 _ A22.out).mono ?_); rintro e w' ⟨rfl, ⟨nd, rfl⟩⟩))
       go_ret
       exact ⟨by first | rfl | (simp [errW_none, errW_some] <;> rfl) | (simp [*, errW_none, errW_some] <;> rfl), zB HB.out⟩
      ·rw [if_neg c24] at H
       have c24b0 : decide ((t598.length : Int) < 3) = false := decide_eq_false c24
       have c24b1 : decide (t598.length < 3) = false := decide_eq_false (by omega)
       clear c24
       replace H := Option.bind_eq_some_iff.mp H
       obtain ⟨t609, A320, H⟩ := H
       replace H : ((impl_FlatCount.f k t609).bind fun t612 => ((impl_RingStates.f k (t598.length : Int) 0).bind fun t613 => (some (t612 == t613)))) = some r := H
       have A32 := Aside0.mk A320
       clear A320
       replace H := Option.bind_eq_some_iff.mp H
       obtain ⟨t612, A330, H⟩ := H
       replace H : ((impl_RingStates.f k (t598.length : Int) 0).bind fun t613 => (some (t612 == t613))) = some r := H
       have A33 := Aside0.mk A330
       clear A330
       replace H := Option.bind_eq_some_iff.mp H
       obtain ⟨t613, A340, H⟩ := H
       replace H : (some (t612 == t613)) = some r := H
       have A34 := Aside0.mk A340
       clear A340
       obtain rfl := Option.some.inj H
       go_enter Try.func11, Try.ntmps11
       go_wp2_with (first | ((with_reducible refine gate_callee (f := 33) rfl ?_); refine goesL_ (some 10) rfl rfl Try.func33 (by kernel_rfl) rfl #[.slice A0 l0.length c0] rfl zA ?_; (with_reducible refine (spec_DrawFlatCount.calls k _ _ l0 t598 _ ?side1 ?side2 A3.out).mono ?_); (case side1 => exact zC HR0.out); (case side2 => exact HC0.out); rintro e w35 ⟨v599, rfl, ho0, hb⟩; refine ⟨_, rfl, ?_⟩; have n0_ := Aside0.mk (Kd.R_lower ho0 (below_size (zB HB.out))); have n1_ := Aside0.mk (below_step (zB HB.out) hb); clear HB; have HO600 := n0_; have HB := n1_; clear n0_ n1_; (try clear hb); (try clear hb2); (try clear hk); (try clear hi); (try clear ho0); obtain ⟨Ao36, co36, eo36⟩ := Kd.R_slice HO600.out; subst eo36) | ((with_reducible refine gate_callee (f := 22) rfl ?_); refine goesL_ (some 12) rfl rfl Try.func22 (by kernel_rfl) rfl #[.slice Ao36 t598.length co36] rfl zA ?_; (with_reducible refine (impl_FlatCount.calls k _ _ t598 t601 _ ?side1 ?side2 A4.out).mono ?_); (case side1 => exact zC (Kd.R_reads' HO600.out).2.2); (case side2 => exact (Kd.R_reads' HO600.out).2.1); rintro e w37 ⟨rfl, hb⟩; refine ⟨_, rfl, ?_⟩; have n0_ := Aside0.mk (Kd.R_below (zR HO600.out) hb); have n1_ := Aside0.mk (below_step (zB HB.out) hb); clear HO600; clear HB; have HO600 := n0_; have HB := n1_; clear n0_ n1_; (try clear hb); (try clear hb2); (try clear hk); (try clear hi)) | ((with_reducible refine gate_callee (f := 21) rfl ?_); refine goesL_ (some 15) rfl rfl Try.func21 (by kernel_rfl) rfl #[.slice Ao36 t598.length co36] rfl zA ?_; (with_reducible refine (spec_FlatCount.calls k _ _ t598 t602 _ ?side1 ?side2 A5.out).mono ?_); (case side1 => exact zC (Kd.R_reads' HO600.out).2.2); (case side2 => exact (Kd.R_reads' HO600.out).2.1); rintro e w38 ⟨rfl, hb⟩; refine ⟨_, rfl, ?_⟩; have n0_ := Aside0.mk (Kd.R_below (zR HO600.out) hb); have n1_ := Aside0.mk (below_step (zB HB.out) hb); clear HO600; clear HB; have HO600 := n0_; have HB := n1_; clear n0_ n1_; (try clear hb); (try clear hb2); (try clear hk); (try clear hi)) | (go_at_call 34; (with_reducible refine (impl_PathNet.calls k (t598.length : Int) t604 _ A20.out).mono ?_); rintro e w39 ⟨v605, rfl, ho0, hb⟩; have n0_ := Aside0.mk (Kd.R_elder' (zR HO600.out) (Kd.R_base ho0) hb); have n1_ := Aside0.mk (Kd.R_lower (Kd.R_new' ho0 (Kd.R_lt (zR HO600.out))) (below_size (zB HB.out))); have n2_ := Aside0.mk (below_step (zB HB.out) hb); clear HO600; clear HB; have HO600 := n0_; have HO606 := n1_; have HB := n2_; clear n0_ n1_ n2_; (try clear hb); (try clear hb2); (try clear hk); (try clear hi); (try clear ho0); obtain ⟨Ao40, co40, eo40⟩ := Kd.R_slice HO606.out; subst eo40) | (go_at_call 22; (with_reducible refine (impl_FlatCount.calls k _ _ t604 t607 _ ?side1 ?side2 A21.out).mono ?_); (case side1 => exact zC (Kd.R_reads' HO606.out).2.2); (case side2 => exact (Kd.R_reads' HO606.out).2.1); rintro e w41 ⟨rfl, hb⟩; have n0_ := Aside0.mk (Kd.R_below (zR HO600.out) hb); have n1_ := Aside0.mk (Kd.R_below (zR HO606.out) hb); have n2_ := Aside0.mk (below_step (zB HB.out) hb); clear HO600; clear HO606; clear HB; have HO600 := n0_; have HO606 := n1_; have HB := n2_; clear n0_ n1_ n2_; (try clear hb); (try clear hb2); (try clear hk); (try clear hi)) | (go_at_call 30; (with_reducible refine (laws_powerOf.calls k 3 (t598.length : Int) t608 _ A22.out).mono ?_); rintro e w' ⟨rfl, ⟨nd, rfl⟩⟩) | (go_at_call 35; (with_reducible refine (impl_RingNet.calls k (t598.length : Int) t609 _ A32.out).mono ?_); rintro e w42 ⟨v610, rfl, ho0, hb⟩; have n0_ := Aside0.mk (Kd.R_elder' (zR HO600.out) (Kd.R_base ho0) hb); have n1_ := Aside0.mk (Kd.R_elder' (zR HO606.out) (Kd.R_base ho0) hb); have n2_ := Aside0.mk (Kd.R_lower (Kd.R_new' (Kd.R_new' ho0 (Kd.R_lt (zR HO600.out))) (Kd.R_lt (zR HO606.out))) (below_size (zB HB.out))); have n3_ := Aside0.mk (below_step (zB HB.out) hb); clear HO600; clear HO606; clear HB; have HO600 := n0_; have HO606 := n1_; have HO611 := n2_; have HB := n3_; clear n0_ n1_ n2_ n3_; (try clear hb); (try clear hb2); (try clear hk); (try clear hi); (try clear ho0); obtain ⟨Ao43, co43, eo43⟩ := Kd.R_slice HO611.out; subst eo43) | (go_at_call 22; (with_reducible refine (impl_FlatCount.calls k _ _ t609 t612 _ ?side1 ?side2 A33.out).mono ?_); (case side1 => exact zC (Kd.R_reads' HO611.out).2.2); (case side2 => exact (Kd.R_reads' HO611.out).2.1); rintro e w44 ⟨rfl, hb⟩; have n0_ := Aside0.mk (Kd.R_below (zR HO600.out) hb); have n1_ := Aside0.mk (Kd.R_below (zR HO606.out) hb); have n2_ := Aside0.mk (Kd.R_below (zR HO611.out) hb); have n3_ := Aside0.mk (below_step (zB HB.out) hb); clear HO600; clear HO606; clear HO611; clear HB; have HO600 := n0_; have HO606 := n1_; have HO611 := n2_; have HB := n3_; clear n0_ n1_ n2_ n3_; (try clear hb); (try clear hb2); (try clear hk); (try clear hi)) | (go_at_call 36; (with_reducible refine (impl_RingStates.calls k (t598.length : Int) 0 t613 _ A34.out).mono ?_); rintro e w' ⟨rfl, hb⟩; have n3_ := Aside0.mk (below_step (zB HB.out) hb); clear HB; have HB := n3_; clear n3_; (try clear hb)))
       go_ret
       exact ⟨by first | rfl | (simp [errW_none, errW_some] <;> rfl) | (simp [*, errW_none, errW_some] <;> rfl), zB HB.out⟩
     ·rw [if_neg c23] at H
      have c23b0 : (t607 == t608) = false := beq_eq_false_iff_ne.mpr c23
      have c23b1 : (t607 != t608) = true := bne_iff_ne.mpr c23
      obtain rfl := Option.some.inj H
      go_enter Try.func11, Try.ntmps11
      go_wp2_with (first | ((with_reducible refine gate_callee (f := 33) rfl ?_); refine goesL_ (some 10) rfl rfl Try.func33 (by kernel_rfl) rfl #[.slice A0 l0.length c0] rfl zA ?_; (with_reducible refine (spec_DrawFlatCount.calls k _ _ l0 t598 _ ?side1 ?side2 A3.out).mono ?_); (case side1 => exact zC HR0.out); (case side2 => exact HC0.out); rintro e w45 ⟨v599, rfl, ho0, hb⟩; refine ⟨_, rfl, ?_⟩; have n0_ := Aside0.mk (Kd.R_lower ho0 (below_size (zB HB.out))); have n1_ := Aside0.mk (below_step (zB HB.out) hb); clear HB; have HO600 := n0_; have HB := n1_; clear n0_ n1_; (try clear hb); (try clear hb2); (try clear hk); (try clear hi); (try clear ho0); obtain ⟨Ao46, co46, eo46⟩ := Kd.R_slice HO600.out; subst eo46) | ((with_reducible refine gate_callee (f := 22) rfl ?_); refine goesL_ (some 12) rfl rfl Try.func22 (by kernel_rfl) rfl #[.slice Ao46 t598.length co46] rfl zA ?_; (with_reducible refine (impl_FlatCount.calls k _ _ t598 t601 _ ?side1 ?side2 A4.out).mono ?_); (case side1 => exact zC (Kd.R_reads' HO600.out).2.2); (case side2 => exact (Kd.R_reads' HO600.out).2.1); rintro e w47 ⟨rfl, hb⟩; refine ⟨_, rfl, ?_⟩; have n0_ := Aside0.mk (Kd.R_below (zR HO600.out) hb); have n1_ := Aside0.mk (below_step (zB HB.out) hb); clear HO600; clear HB; have HO600 := n0_; have HB := n1_; clear n0_ n1_; (try clear hb); (try clear hb2); (try clear hk); (try clear hi)) | ((with_reducible refine gate_callee (f := 21) rfl ?_); refine goesL_ (some 15) rfl rfl Try.func21 (by kernel_rfl) rfl #[.slice Ao46 t598.length co46] rfl zA ?_; (with_reducible refine (spec_FlatCount.calls k _ _ t598 t602 _ ?side1 ?side2 A5.out).mono ?_); (case side1 => exact zC (Kd.R_reads' HO600.out).2.2); (case side2 => exact (Kd.R_reads' HO600.out).2.1); rintro e w48 ⟨rfl, hb⟩; refine ⟨_, rfl, ?_⟩; have n0_ := Aside0.mk (Kd.R_below (zR HO600.out) hb); have n1_ := Aside0.mk (below_step (zB HB.out) hb); clear HO600; clear HB; have HO600 := n0_; have HB := n1_; clear n0_ n1_; (try clear hb); (try clear hb2); (try clear hk); (try clear hi)) | (go_at_call 34; (with_reducible refine (impl_PathNet.calls k (t598.length : Int) t604 _ A20.out).mono ?_); rintro e w49 ⟨v605, rfl, ho0, hb⟩; have n0_ := Aside0.mk (Kd.R_elder' (zR HO600.out) (Kd.R_base ho0) hb); have n1_ := Aside0.mk (Kd.R_lower (Kd.R_new' ho0 (Kd.R_lt (zR HO600.out))) (below_size (zB HB.out))); have n2_ := Aside0.mk (below_step (zB HB.out) hb); clear HO600; clear HB; have HO600 := n0_; have HO606 := n1_; have HB := n2_; clear n0_ n1_ n2_; (try clear hb); (try clear hb2); (try clear hk); (try clear hi); (try clear ho0); obtain ⟨Ao50, co50, eo50⟩ := Kd.R_slice HO606.out; subst eo50) | (go_at_call 22; (with_reducible refine (impl_FlatCount.calls k _ _ t604 t607 _ ?side1 ?side2 A21.out).mono ?_); (case side1 => exact zC (Kd.R_reads' HO606.out).2.2); (case side2 => exact (Kd.R_reads' HO606.out).2.1); rintro e w51 ⟨rfl, hb⟩; have n0_ := Aside0.mk (Kd.R_below (zR HO600.out) hb); have n1_ := Aside0.mk (Kd.R_below (zR HO606.out) hb); have n2_ := Aside0.mk (below_step (zB HB.out) hb); clear HO600; clear HO606; clear HB; have HO600 := n0_; have HO606 := n1_; have HB := n2_; clear n0_ n1_ n2_; (try clear hb); (try clear hb2); (try clear hk); (try clear hi)) | (go_at_call 30; (with_reducible refine (laws_powerOf.calls k 3 (t598.length : Int) t608 _ A22.out).mono ?_); rintro e w' ⟨rfl, ⟨nd, rfl⟩⟩))
      go_ret
      exact ⟨by first | rfl | (simp [errW_none, errW_some] <;> rfl) | (simp [*, errW_none, errW_some] <;> rfl), zB HB.out⟩
    ·rw [if_neg c19] at H
     have c19b0 : decide (3 ≤ t601) = false := decide_eq_false c19
     clear c19
     obtain rfl := Option.some.inj H
     go_enter Try.func11, Try.ntmps11
     go_wp2_with (first | ((with_reducible refine gate_callee (f := 33) rfl ?_); refine goesL_ (some 10) rfl rfl Try.func33 (by kernel_rfl) rfl #[.slice A0 l0.length c0] rfl zA ?_; (with_reducible refine (spec_DrawFlatCount.calls k _ _ l0 t598 _ ?side1 ?side2 A3.out).mono ?_); (case side1 => exact zC HR0.out); (case side2 => exact HC0.out); rintro e w52 ⟨v599, rfl, ho0, hb⟩; refine ⟨_, rfl, ?_⟩; have n0_ := Aside0.mk (Kd.R_lower ho0 (below_size (zB HB.out))); have n1_ := Aside0.mk (below_step (zB HB.out) hb); clear HB; have HO600 := n0_; have HB := n1_; clear n0_ n1_; (try clear hb); (try clear hb2); (try clear hk); (try clear hi); (try clear ho0); obtain ⟨Ao53, co53, eo53⟩ := Kd.R_slice HO600.out; subst eo53) | ((with_reducible refine gate_callee (f := 22) rfl ?_); refine goesL_ (some 12) rfl rfl Try.func22 (by kernel_rfl) rfl #[.slice Ao53 t598.length co53] rfl zA ?_; (with_reducible refine (impl_FlatCount.calls k _ _ t598 t601 _ ?side1 ?side2 A4.out).mono ?_); (case side1 => exact zC (Kd.R_reads' HO600.out).2.2); (case side2 => exact (Kd.R_reads' HO600.out).2.1); rintro e w54 ⟨rfl, hb⟩; refine ⟨_, rfl, ?_⟩; have n0_ := Aside0.mk (Kd.R_below (zR HO600.out) hb); have n1_ := Aside0.mk (below_step (zB HB.out) hb); clear HO600; clear HB; have HO600 := n0_; have HB := n1_; clear n0_ n1_; (try clear hb); (try clear hb2); (try clear hk); (try clear hi)) | ((with_reducible refine gate_callee (f := 21) rfl ?_); refine goesL_ (some 15) rfl rfl Try.func21 (by kernel_rfl) rfl #[.slice Ao53 t598.length co53] rfl zA ?_; (with_reducible refine (spec_FlatCount.calls k _ _ t598 t602 _ ?side1 ?side2 A5.out).mono ?_); (case side1 => exact zC (Kd.R_reads' HO600.out).2.2); (case side2 => exact (Kd.R_reads' HO600.out).2.1); rintro e w55 ⟨rfl, hb⟩; refine ⟨_, rfl, ?_⟩; have n0_ := Aside0.mk (Kd.R_below (zR HO600.out) hb); have n1_ := Aside0.mk (below_step (zB HB.out) hb); clear HO600; clear HB; have HO600 := n0_; have HB := n1_; clear n0_ n1_; (try clear hb); (try clear hb2); (try clear hk); (try clear hi)))
     go_ret
     exact ⟨by first | rfl | (simp [errW_none, errW_some] <;> rfl) | (simp [*, errW_none, errW_some] <;> rfl), zB HB.out⟩
  ·rw [if_neg c6] at H
   have c6b0 : (t601 == t602) = false := beq_eq_false_iff_ne.mpr c6
   have c6b1 : (t601 != t602) = true := bne_iff_ne.mpr c6
   obtain rfl := Option.some.inj H
   go_enter Try.func11, Try.ntmps11
   go_wp2_with (first | ((with_reducible refine gate_callee (f := 33) rfl ?_); refine goesL_ (some 10) rfl rfl Try.func33 (by kernel_rfl) rfl #[.slice A0 l0.length c0] rfl zA ?_; (with_reducible refine (spec_DrawFlatCount.calls k _ _ l0 t598 _ ?side1 ?side2 A3.out).mono ?_); (case side1 => exact zC HR0.out); (case side2 => exact HC0.out); rintro e w56 ⟨v599, rfl, ho0, hb⟩; refine ⟨_, rfl, ?_⟩; have n0_ := Aside0.mk (Kd.R_lower ho0 (below_size (zB HB.out))); have n1_ := Aside0.mk (below_step (zB HB.out) hb); clear HB; have HO600 := n0_; have HB := n1_; clear n0_ n1_; (try clear hb); (try clear hb2); (try clear hk); (try clear hi); (try clear ho0); obtain ⟨Ao57, co57, eo57⟩ := Kd.R_slice HO600.out; subst eo57) | ((with_reducible refine gate_callee (f := 22) rfl ?_); refine goesL_ (some 12) rfl rfl Try.func22 (by kernel_rfl) rfl #[.slice Ao57 t598.length co57] rfl zA ?_; (with_reducible refine (impl_FlatCount.calls k _ _ t598 t601 _ ?side1 ?side2 A4.out).mono ?_); (case side1 => exact zC (Kd.R_reads' HO600.out).2.2); (case side2 => exact (Kd.R_reads' HO600.out).2.1); rintro e w58 ⟨rfl, hb⟩; refine ⟨_, rfl, ?_⟩; have n0_ := Aside0.mk (Kd.R_below (zR HO600.out) hb); have n1_ := Aside0.mk (below_step (zB HB.out) hb); clear HO600; clear HB; have HO600 := n0_; have HB := n1_; clear n0_ n1_; (try clear hb); (try clear hb2); (try clear hk); (try clear hi)) | ((with_reducible refine gate_callee (f := 21) rfl ?_); refine goesL_ (some 15) rfl rfl Try.func21 (by kernel_rfl) rfl #[.slice Ao57 t598.length co57] rfl zA ?_; (with_reducible refine (spec_FlatCount.calls k _ _ t598 t602 _ ?side1 ?side2 A5.out).mono ?_); (case side1 => exact zC (Kd.R_reads' HO600.out).2.2); (case side2 => exact (Kd.R_reads' HO600.out).2.1); rintro e w59 ⟨rfl, hb⟩; refine ⟨_, rfl, ?_⟩; have n0_ := Aside0.mk (Kd.R_below (zR HO600.out) hb); have n1_ := Aside0.mk (below_step (zB HB.out) hb); clear HO600; clear HB; have HO600 := n0_; have HB := n1_; clear n0_ n1_; (try clear hb); (try clear hb2); (try clear hk); (try clear hi)))
   go_ret
   exact ⟨by first | rfl | (simp [errW_none, errW_some] <;> rfl) | (simp [*, errW_none, errW_some] <;> rfl), zB HB.out⟩

/-- THE ONE PURE STATEMENT of laws_FnFlatCount: yours. -/
def laws_FnFlatCount.Pure : Prop := ∀ (l0 : List Int), l0.length ≤ maxLen → l0.length * 1 ≤ 140737488351232 → (∀ x ∈ l0, (Lit.int .u8 x).wf = true) → ∃ k, laws_FnFlatCount.f k l0 = some true
theorem laws_FnFlatCount.walk (P : laws_FnFlatCount.Pure) (a0 : Option Addr) (len0 cap0 : Nat) (z0 : List Int) (w : World) (w0 : (a0 = none ∧ len0 = 0 ∧ cap0 = 0 ∧ z0 = []) ∨ ∃ x, a0 = some x ∧ len0 ≤ cap0 ∧ cap0 ≤ maxLen ∧ z0.length = cap0 ∧ (∀ i, i < z0.length → w.cell? (x.add i) = some (.int .u8 (z0.getD i 0))) ∧ ∀ n ∈ z0, (Lit.int .u8 n).wf = true) (y0 : len0 * 1 ≤ 140737488351232) :
  Calls Try.prog 11 #[.slice a0 len0 cap0] w fun e w' => e = .returned (.bool true) ∧ Below w.heap.size w w' := by
 obtain ⟨l0, rfl, hr0, hm0, hw0, hc0⟩ := ReadsInt.ofRowC w0
 obtain ⟨k, h⟩ := P l0 hm0 y0 hw0
 refine (laws_FnFlatCount.calls k _ _ l0 true w (Kd.C_of_reads (d := (0 : Int)) (h1 := fun _ => rfl) hr0) hc0 h).mono ?_
 rintro e w' ⟨rfl, hd⟩
 exact ⟨rfl, hd⟩

end Go.Proofs.Ytgglagpciojfmaa.PAll
