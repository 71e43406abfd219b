/- Own text of this session, written by a program of this session (wip/t/own.py) out of what the kit tells of the functions: each Go function as a Lean function, and the walk through its code. -/
import Derived.Test.YtgglagpciojfmaaT
import Derived.Test.YtgglagpciojfmaaF19
import Derived.Test.YtgglagpciojfmaaF24
import Derived.Test.YtgglagpciojfmaaF26
import Derived.Test.YtgglagpciojfmaaF28
import Derived.Test.YtgglagpciojfmaaF34
import Derived.Test.YtgglagpciojfmaaF39
import Derived.Test.YtgglagpciojfmaaF44
namespace Go.Proofs.Ytgglagpciojfmaa.PAll
open Go.RowKit Go.Proofs.YtgglagpciojfmaaW.PrintWords Go.Proofs.YtgglagpciojfmaaW.PrintLast Go.Proofs.YtgglagpciojfmaaW.PrintMore
attribute [local go_sem] max2_int min2_int max_two min_two max_three min_three max_four min_four   -- for this text's walks alone
set_option linter.unusedVariables false
set_option linter.unusedSimpArgs false

/-! ### laws_FnDyingCount: function 13 -/
def laws_FnDyingCount.f (k : Nat) (l0 : List Int) : Option (Bool) := if (l0.length : Int) > 1048576 then (some true) else ((spec_DrawDyingCount.f k l0).bind fun bt632 => ((impl_DyingCount.f k bt632.1 bt632.2).bind fun t636 => ((spec_DyingCount.f k bt632.1 bt632.2).bind fun t637 => (if t636 = t637 then (if t636 < 0 then (if t636 = (-1) then ((laws_alive.f k).bind fun t638 => (some t638)) else (some false)) else (if t636 ≥ 1 then ((laws_powerOf.f k bt632.2 (bt632.1.length : Int)).bind fun t639 => (if t636 ≤ t639 then (if bt632.2 = 3 then ((impl_FlatCount.f k bt632.1).bind fun t640 => (if t636 = t640 then ((impl_PathNet.f k (bt632.1.length : Int)).bind fun t641 => ((impl_DyingCount.f k t641 3).bind fun t644 => ((laws_powerOf.f k 3 (bt632.1.length : Int)).bind fun t645 => (some (t644 == t645))))) else (some false))) else ((impl_PathNet.f k (bt632.1.length : Int)).bind fun t646 => ((impl_DyingCount.f k t646 3).bind fun t649 => ((laws_powerOf.f k 3 (bt632.1.length : Int)).bind fun t650 => (some (t649 == t650)))))) else (some false))) else (some false))) else (some false)))))
theorem laws_FnDyingCount.mono : ∀ a0 k, LeO (laws_FnDyingCount.f k a0) (laws_FnDyingCount.f (k + 1) a0) := by
 intro a0 k
 unfold laws_FnDyingCount.f
 repeat' first
   | (with_reducible exact impl_DyingCount.mono _ _ _)
   | (with_reducible exact impl_FlatCount.mono _ _)
   | (with_reducible exact impl_PathNet.mono _ _)
   | (with_reducible exact laws_alive.mono _)
   | (with_reducible exact laws_powerOf.mono _ _ _)
   | (with_reducible exact spec_DrawDyingCount.mono _ _)
   | (with_reducible exact spec_DyingCount.mono _ _ _)
   | (with_reducible exact LeO.refl _)
   | (with_reducible exact LeO.none _)
   | (with_reducible refine LeO.ite ?_ ?_)
   | (with_reducible refine LeO.bind ?_ (fun _ => ?_))
   | exact impl_DyingCount.mono _ _ _
   | exact impl_FlatCount.mono _ _
   | exact impl_PathNet.mono _ _
   | exact laws_alive.mono _
   | exact laws_powerOf.mono _ _ _
   | exact spec_DrawDyingCount.mono _ _
   | exact spec_DyingCount.mono _ _ _
   | exact LeO.none _
   | refine LeO.ite ?_ ?_
   | refine LeO.bind ?_ (fun _ => ?_)
set_option maxHeartbeats 8000000 in
set_option maxRecDepth 100000 in
theorem laws_FnDyingCount.calls (k : Nat) (A0 : Option Addr) (c0 : Nat) (l0 : List Int) (r : Bool) (w : World) (hr0 : Kd.C (Kd.int .u8) w A0 l0.length l0) (hc0 : l0.length ≤ c0) (h : laws_FnDyingCount.f k l0 = some r) :
  Calls Try.prog 13 #[.slice A0 l0.length c0] w fun e w' => e = .returned (.bool r) ∧ Below w.heap.size w w' := by
 have HR0 := Aside0.mk hr0
 have HC0 := Aside0.mk hc0
 clear hr0 hc0
 have HB := Aside0.mk (Below.refl w.heap.size w)
 have H : (if (l0.length : Int) > 1048576 then (some true) else ((spec_DrawDyingCount.f k l0).bind fun bt632 => ((impl_DyingCount.f k bt632.1 bt632.2).bind fun t636 => ((spec_DyingCount.f k bt632.1 bt632.2).bind fun t637 => (if t636 = t637 then (if t636 < 0 then (if t636 = (-1) then ((laws_alive.f k).bind fun t638 => (some t638)) else (some false)) else (if t636 ≥ 1 then ((laws_powerOf.f k bt632.2 (bt632.1.length : Int)).bind fun t639 => (if t636 ≤ t639 then (if bt632.2 = 3 then ((impl_FlatCount.f k bt632.1).bind fun t640 => (if t636 = t640 then ((impl_PathNet.f k (bt632.1.length : Int)).bind fun t641 => ((impl_DyingCount.f k t641 3).bind fun t644 => ((laws_powerOf.f k 3 (bt632.1.length : Int)).bind fun t645 => (some (t644 == t645))))) else (some false))) else ((impl_PathNet.f k (bt632.1.length : Int)).bind fun t646 => ((impl_DyingCount.f k t646 3).bind fun t649 => ((laws_powerOf.f k 3 (bt632.1.length : Int)).bind fun t650 => (some (t649 == t650)))))) else (some false))) else (some false))) else (some false)))))) = some r := h
 clear h
 by_cases c2 : (l0.length : Int) > 1048576
 ·rw [if_pos c2] at H
  have c2b0 : decide (1048576 < (l0.length : Int)) = true := decide_eq_true c2
  have c2b1 : decide (1048576 < l0.length) = true := decide_eq_true (by omega)
  clear c2
  obtain rfl := Option.some.inj H
  go_enter Try.func13, Try.ntmps13
  go_wp2
  go_ret
  exact ⟨by first | rfl | (simp [errW_none, errW_some] <;> rfl) | (simp [*, errW_none, errW_some] <;> rfl), zB HB.out⟩
 ·rw [if_neg c2] at H
  have c2b0 : decide (1048576 < (l0.length : Int)) = false := decide_eq_false c2
  have c2b1 : decide (1048576 < l0.length) = false := decide_eq_false (by omega)
  clear c2
  replace H := Option.bind_eq_some_iff.mp H
  obtain ⟨⟨t632, t633⟩, A30, H⟩ := H
  replace H : ((impl_DyingCount.f k t632 t633).bind fun t636 => ((spec_DyingCount.f k t632 t633).bind fun t637 => (if t636 = t637 then (if t636 < 0 then (if t636 = (-1) then ((laws_alive.f k).bind fun t638 => (some t638)) else (some false)) else (if t636 ≥ 1 then ((laws_powerOf.f k t633 (t632.length : Int)).bind fun t639 => (if t636 ≤ t639 then (if t633 = 3 then ((impl_FlatCount.f k t632).bind fun t640 => (if t636 = t640 then ((impl_PathNet.f k (t632.length : Int)).bind fun t641 => ((impl_DyingCount.f k t641 3).bind fun t644 => ((laws_powerOf.f k 3 (t632.length : Int)).bind fun t645 => (some (t644 == t645))))) else (some false))) else ((impl_PathNet.f k (t632.length : Int)).bind fun t646 => ((impl_DyingCount.f k t646 3).bind fun t649 => ((laws_powerOf.f k 3 (t632.length : Int)).bind fun t650 => (some (t649 == t650)))))) else (some false))) else (some false))) else (some false)))) = some r := H
  have A3 := Aside0.mk A30
  clear A30
  replace H := Option.bind_eq_some_iff.mp H
  obtain ⟨t636, A40, H⟩ := H
  replace H : ((spec_DyingCount.f k t632 t633).bind fun t637 => (if t636 = t637 then (if t636 < 0 then (if t636 = (-1) then ((laws_alive.f k).bind fun t638 => (some t638)) else (some false)) else (if t636 ≥ 1 then ((laws_powerOf.f k t633 (t632.length : Int)).bind fun t639 => (if t636 ≤ t639 then (if t633 = 3 then ((impl_FlatCount.f k t632).bind fun t640 => (if t636 = t640 then ((impl_PathNet.f k (t632.length : Int)).bind fun t641 => ((impl_DyingCount.f k t641 3).bind fun t644 => ((laws_powerOf.f k 3 (t632.length : Int)).bind fun t645 => (some (t644 == t645))))) else (some false))) else ((impl_PathNet.f k (t632.length : Int)).bind fun t646 => ((impl_DyingCount.f k t646 3).bind fun t649 => ((laws_powerOf.f k 3 (t632.length : Int)).bind fun t650 => (some (t649 == t650)))))) else (some false))) else (some false))) else (some false))) = some r := H
  have A4 := Aside0.mk A40
  clear A40
  replace H := Option.bind_eq_some_iff.mp H
  obtain ⟨t637, A50, H⟩ := H
  replace H : (if t636 = t637 then (if t636 < 0 then (if t636 = (-1) then ((laws_alive.f k).bind fun t638 => (some t638)) else (some false)) else (if t636 ≥ 1 then ((laws_powerOf.f k t633 (t632.length : Int)).bind fun t639 => (if t636 ≤ t639 then (if t633 = 3 then ((impl_FlatCount.f k t632).bind fun t640 => (if t636 = t640 then ((impl_PathNet.f k (t632.length : Int)).bind fun t641 => ((impl_DyingCount.f k t641 3).bind fun t644 => ((laws_powerOf.f k 3 (t632.length : Int)).bind fun t645 => (some (t644 == t645))))) else (some false))) else ((impl_PathNet.f k (t632.length : Int)).bind fun t646 => ((impl_DyingCount.f k t646 3).bind fun t649 => ((laws_powerOf.f k 3 (t632.length : Int)).bind fun t650 => (some (t649 == t650)))))) else (some false))) else (some false))) else (some false)) = some r := H
  have A5 := Aside0.mk A50
  clear A50
  by_cases c6 : t636 = t637
  ·rw [if_pos c6] at H
   have c6b0 : (t636 == t637) = true := beq_iff_eq.mpr c6
   have c6b1 : (t636 != t637) = false := bne_eq_false_iff_eq.mpr c6
   clear c6
   by_cases c7 : t636 < 0
   ·rw [if_pos c7] at H
    have c7b0 : decide (t636 < 0) = true := decide_eq_true c7
    clear c7
    by_cases c8 : t636 = (-1)
    ·rw [if_pos c8] at H
     have c8b0 : (t636 == (-1)) = true := beq_iff_eq.mpr c8
     have c8b1 : (t636 != (-1)) = false := bne_eq_false_iff_eq.mpr c8
     clear c8
     replace H := Option.bind_eq_some_iff.mp H
     obtain ⟨t638, A90, H⟩ := H
     replace H : (some t638) = some r := H
     have A9 := Aside0.mk A90
     clear A90
     obtain rfl := Option.some.inj H
     go_enter Try.func13, Try.ntmps13
     go_wp2_with (first | ((with_reducible refine gate_callee (f := 38) rfl ?_); refine goesL_ (some 12) rfl rfl Try.func38 (by kernel_rfl) rfl #[.slice A0 l0.length c0] rfl zA ?_; (with_reducible refine (spec_DrawDyingCount.calls k _ _ l0 t632 t633 _ ?side1 ?side2 A3.out).mono ?_); (case side1 => exact zC HR0.out); (case side2 => exact HC0.out); rintro e w10 ⟨v634, rfl, ho0, hb⟩; refine ⟨_, rfl, ?_⟩; have n0_ := Aside0.mk (Kd.R_lower ho0 (below_size (zB HB.out))); have n1_ := Aside0.mk (below_step (zB HB.out) hb); clear HB; have HO635 := n0_; have HB := n1_; clear n0_ n1_; (try clear hb); (try clear hb2); (try clear hk); (try clear hi); (try clear ho0); obtain ⟨Ao11, co11, eo11⟩ := Kd.R_slice HO635.out; subst eo11) | ((with_reducible refine gate_callee (f := 26) rfl ?_); refine goesL_ (some 17) rfl rfl Try.func26 (by kernel_rfl) rfl #[.slice Ao11 t632.length co11, .int .i64 t633] rfl zA ?_; (with_reducible refine (impl_DyingCount.calls k _ _ t632 t633 t636 _ ?side1 ?side2 A4.out).mono ?_); (case side1 => exact zC (Kd.R_reads' HO635.out).2.2); (case side2 => exact (Kd.R_reads' HO635.out).2.1); rintro e w12 ⟨rfl, hb⟩; refine ⟨_, rfl, ?_⟩; have n0_ := Aside0.mk (Kd.R_below (zR HO635.out) hb); have n1_ := Aside0.mk (below_step (zB HB.out) hb); clear HO635; clear HB; have HO635 := n0_; have HB := n1_; clear n0_ n1_; (try clear hb); (try clear hb2); (try clear hk); (try clear hi)) | ((with_reducible refine gate_callee (f := 25) rfl ?_); refine goesL_ (some 21) rfl rfl Try.func25 (by kernel_rfl) rfl #[.slice Ao11 t632.length co11, .int .i64 t633] rfl zA ?_; (with_reducible refine (spec_DyingCount.calls k _ _ t632 t633 t637 _ ?side1 ?side2 A5.out).mono ?_); (case side1 => exact zC (Kd.R_reads' HO635.out).2.2); (case side2 => exact (Kd.R_reads' HO635.out).2.1); rintro e w13 ⟨rfl, hb⟩; refine ⟨_, rfl, ?_⟩; have n0_ := Aside0.mk (Kd.R_below (zR HO635.out) hb); have n1_ := Aside0.mk (below_step (zB HB.out) hb); clear HO635; clear HB; have HO635 := n0_; have HB := n1_; clear n0_ n1_; (try clear hb); (try clear hb2); (try clear hk); (try clear hi)) | (go_at_call 28; (with_reducible refine (laws_alive.calls k  t638 _ A9.out).mono ?_); rintro e w14 ⟨rfl, hb⟩; have n0_ := Aside0.mk (Kd.R_below (zR HO635.out) hb); have n1_ := Aside0.mk (below_step (zB HB.out) hb); clear HO635; clear HB; have HO635 := n0_; have HB := n1_; clear n0_ n1_; (try clear hb); (try clear hb2); (try clear hk); (try clear hi)))
     go_ret
     exact ⟨by first | rfl | (simp [errW_none, errW_some] <;> rfl) | (simp [*, errW_none, errW_some] <;> rfl), zB HB.out⟩
    ·rw [if_neg c8] at H
     have c8b0 : (t636 == (-1)) = false := beq_eq_false_iff_ne.mpr c8
     have c8b1 : (t636 != (-1)) = true := bne_iff_ne.mpr c8
     obtain rfl := Option.some.inj H
     go_enter Try.func13, Try.ntmps13
     go_wp2_with (first | ((with_reducible refine gate_callee (f := 38) rfl ?_); refine goesL_ (some 12) rfl rfl Try.func38 (by kernel_rfl) rfl #[.slice A0 l0.length c0] rfl zA ?_; (with_reducible refine (spec_DrawDyingCount.calls k _ _ l0 t632 t633 _ ?side1 ?side2 A3.out).mono ?_); (case side1 => exact zC HR0.out); (case side2 => exact HC0.out); rintro e w15 ⟨v634, rfl, ho0, hb⟩; refine ⟨_, rfl, ?_⟩; have n0_ := Aside0.mk (Kd.R_lower ho0 (below_size (zB HB.out))); have n1_ := Aside0.mk (below_step (zB HB.out) hb); clear HB; have HO635 := n0_; have HB := n1_; clear n0_ n1_; (try clear hb); (try clear hb2); (try clear hk); (try clear hi); (try clear ho0); obtain ⟨Ao16, co16, eo16⟩ := Kd.R_slice HO635.out; subst eo16) | ((with_reducible refine gate_callee (f := 26) rfl ?_); refine goesL_ (some 17) rfl rfl Try.func26 (by kernel_rfl) rfl #[.slice Ao16 t632.length co16, .int .i64 t633] rfl zA ?_; (with_reducible refine (impl_DyingCount.calls k _ _ t632 t633 t636 _ ?side1 ?side2 A4.out).mono ?_); (case side1 => exact zC (Kd.R_reads' HO635.out).2.2); (case side2 => exact (Kd.R_reads' HO635.out).2.1); rintro e w17 ⟨rfl, hb⟩; refine ⟨_, rfl, ?_⟩; have n0_ := Aside0.mk (Kd.R_below (zR HO635.out) hb); have n1_ := Aside0.mk (below_step (zB HB.out) hb); clear HO635; clear HB; have HO635 := n0_; have HB := n1_; clear n0_ n1_; (try clear hb); (try clear hb2); (try clear hk); (try clear hi)) | ((with_reducible refine gate_callee (f := 25) rfl ?_); refine goesL_ (some 21) rfl rfl Try.func25 (by kernel_rfl) rfl #[.slice Ao16 t632.length co16, .int .i64 t633] rfl zA ?_; (with_reducible refine (spec_DyingCount.calls k _ _ t632 t633 t637 _ ?side1 ?side2 A5.out).mono ?_); (case side1 => exact zC (Kd.R_reads' HO635.out).2.2); (case side2 => exact (Kd.R_reads' HO635.out).2.1); rintro e w18 ⟨rfl, hb⟩; refine ⟨_, rfl, ?_⟩; have n0_ := Aside0.mk (Kd.R_below (zR HO635.out) hb); have n1_ := Aside0.mk (below_step (zB HB.out) hb); clear HO635; clear HB; have HO635 := n0_; have HB := n1_; clear n0_ n1_; (try clear hb); (try clear hb2); (try clear hk); (try clear hi)))
     go_ret
     exact ⟨by first | rfl | (simp [errW_none, errW_some] <;> rfl) | (simp [*, errW_none, errW_some] <;> rfl), zB HB.out⟩
   ·rw [if_neg c7] at H
    have c7b0 : decide (t636 < 0) = false := decide_eq_false c7
    clear c7
    by_cases c19 : t636 ≥ 1
    ·rw [if_pos c19] at H
     have c19b0 : decide (1 ≤ t636) = true := decide_eq_true c19
     clear c19
     replace H := Option.bind_eq_some_iff.mp H
     obtain ⟨t639, A200, H⟩ := H
     replace H : (if t636 ≤ t639 then (if t633 = 3 then ((impl_FlatCount.f k t632).bind fun t640 => (if t636 = t640 then ((impl_PathNet.f k (t632.length : Int)).bind fun t641 => ((impl_DyingCount.f k t641 3).bind fun t644 => ((laws_powerOf.f k 3 (t632.length : Int)).bind fun t645 => (some (t644 == t645))))) else (some false))) else ((impl_PathNet.f k (t632.length : Int)).bind fun t646 => ((impl_DyingCount.f k t646 3).bind fun t649 => ((laws_powerOf.f k 3 (t632.length : Int)).bind fun t650 => (some (t649 == t650)))))) else (some false)) = some r := H
     have A20 := Aside0.mk A200
     clear A200
     by_cases c21 : t636 ≤ t639
     ·rw [if_pos c21] at H
      have c21b0 : decide (t636 ≤ t639) = true := decide_eq_true c21
      clear c21
      by_cases c22 : t633 = 3
      ·rw [if_pos c22] at H
       have c22b0 : (t633 == 3) = true := beq_iff_eq.mpr c22
       have c22b1 : (t633 != 3) = false := bne_eq_false_iff_eq.mpr c22
       clear c22
       replace H := Option.bind_eq_some_iff.mp H
       obtain ⟨t640, A230, H⟩ := H
       replace H : (if t636 = t640 then ((impl_PathNet.f k (t632.length : Int)).bind fun t641 => ((impl_DyingCount.f k t641 3).bind fun t644 => ((laws_powerOf.f k 3 (t632.length : Int)).bind fun t645 => (some (t644 == t645))))) else (some false)) = some r := H
       have A23 := Aside0.mk A230
       clear A230
       by_cases c24 : t636 = t640
       ·rw [if_pos c24] at H
        have c24b0 : (t636 == t640) = true := beq_iff_eq.mpr c24
        have c24b1 : (t636 != t640) = false := bne_eq_false_iff_eq.mpr c24
        clear c24
        replace H := Option.bind_eq_some_iff.mp H
        obtain ⟨t641, A250, H⟩ := H
        replace H : ((impl_DyingCount.f k t641 3).bind fun t644 => ((laws_powerOf.f k 3 (t632.length : Int)).bind fun t645 => (some (t644 == t645)))) = some r := H
        have A25 := Aside0.mk A250
        clear A250
        replace H := Option.bind_eq_some_iff.mp H
        obtain ⟨t644, A260, H⟩ := H
        replace H : ((laws_powerOf.f k 3 (t632.length : Int)).bind fun t645 => (some (t644 == t645))) = some r := H
        have A26 := Aside0.mk A260
        clear A260
        replace H := Option.bind_eq_some_iff.mp H
        obtain ⟨t645, A270, H⟩ := H
        replace H : (some (t644 == t645)) = some r := H
        have A27 := Aside0.mk A270
        clear A270
        obtain rfl := Option.some.inj H
        go_enter Try.func13, Try.ntmps13
        go_wp2_with (first | ((with_reducible refine gate_callee (f := 38) rfl ?_); refine goesL_ (some 12) rfl rfl Try.func38 (by kernel_rfl) rfl #[.slice A0 l0.length c0] rfl zA ?_; (with_reducible refine (spec_DrawDyingCount.calls k _ _ l0 t632 t633 _ ?side1 ?side2 A3.out).mono ?_); (case side1 => exact zC HR0.out); (case side2 => exact HC0.out); rintro e w28 ⟨v634, rfl, ho0, hb⟩; refine ⟨_, rfl, ?_⟩; have n0_ := Aside0.mk (Kd.R_lower ho0 (below_size (zB HB.out))); have n1_ := Aside0.mk (below_step (zB HB.out) hb); clear HB; have HO635 := n0_; have HB := n1_; clear n0_ n1_; (try clear hb); (try clear hb2); (try clear hk); (try clear hi); (try clear ho0); obtain ⟨Ao29, co29, eo29⟩ := Kd.R_slice HO635.out; subst eo29) | ((with_reducible refine gate_callee (f := 26) rfl ?_); refine goesL_ (some 17) rfl rfl Try.func26 (by kernel_rfl) rfl #[.slice Ao29 t632.length co29, .int .i64 t633] rfl zA ?_; (with_reducible refine (impl_DyingCount.calls k _ _ t632 t633 t636 _ ?side1 ?side2 A4.out).mono ?_); (case side1 => exact zC (Kd.R_reads' HO635.out).2.2); (case side2 => exact (Kd.R_reads' HO635.out).2.1); rintro e w30 ⟨rfl, hb⟩; refine ⟨_, rfl, ?_⟩; have n0_ := Aside0.mk (Kd.R_below (zR HO635.out) hb); have n1_ := Aside0.mk (below_step (zB HB.out) hb); clear HO635; clear HB; have HO635 := n0_; have HB := n1_; clear n0_ n1_; (try clear hb); (try clear hb2); (try clear hk); (try clear hi)) | ((with_reducible refine gate_callee (f := 25) rfl ?_); refine goesL_ (some 21) rfl rfl Try.func25 (by kernel_rfl) rfl #[.slice Ao29 t632.length co29, .int .i64 t633] rfl zA ?_; (with_reducible refine (spec_DyingCount.calls k _ _ t632 t633 t637 _ ?side1 ?side2 A5.out).mono ?_); (case side1 => exact zC (Kd.R_reads' HO635.out).2.2); (case side2 => exact (Kd.R_reads' HO635.out).2.1); rintro e w31 ⟨rfl, hb⟩; refine ⟨_, rfl, ?_⟩; have n0_ := Aside0.mk (Kd.R_below (zR HO635.out) hb); have n1_ := Aside0.mk (below_step (zB HB.out) hb); clear HO635; clear HB; have HO635 := n0_; have HB := n1_; clear n0_ n1_; (try clear hb); (try clear hb2); (try clear hk); (try clear hi)) | (go_at_call 30; (with_reducible refine (laws_powerOf.calls k t633 (t632.length : Int) t639 _ A20.out).mono ?_); rintro e w' ⟨rfl, ⟨nd, rfl⟩⟩) | (go_at_call 22; (with_reducible refine (impl_FlatCount.calls k _ _ t632 t640 _ ?side1 ?side2 A23.out).mono ?_); (case side1 => exact zC (Kd.R_reads' HO635.out).2.2); (case side2 => exact (Kd.R_reads' HO635.out).2.1); rintro e w32 ⟨rfl, hb⟩; have n0_ := Aside0.mk (Kd.R_below (zR HO635.out) hb); have n1_ := Aside0.mk (below_step (zB HB.out) hb); clear HO635; clear HB; have HO635 := n0_; have HB := n1_; clear n0_ n1_; (try clear hb); (try clear hb2); (try clear hk); (try clear hi)) | (go_at_call 34; (with_reducible refine (impl_PathNet.calls k (t632.length : Int) t641 _ A25.out).mono ?_); rintro e w33 ⟨v642, rfl, ho0, hb⟩; have n0_ := Aside0.mk (Kd.R_elder' (zR HO635.out) (Kd.R_base ho0) hb); have n1_ := Aside0.mk (Kd.R_lower (Kd.R_new' ho0 (Kd.R_lt (zR HO635.out))) (below_size (zB HB.out))); have n2_ := Aside0.mk (below_step (zB HB.out) hb); clear HO635; clear HB; have HO635 := n0_; have HO643 := n1_; have HB := n2_; clear n0_ n1_ n2_; (try clear hb); (try clear hb2); (try clear hk); (try clear hi); (try clear ho0); obtain ⟨Ao34, co34, eo34⟩ := Kd.R_slice HO643.out; subst eo34) | (go_at_call 26; (with_reducible refine (impl_DyingCount.calls k _ _ t641 3 t644 _ ?side1 ?side2 A26.out).mono ?_); (case side1 => exact zC (Kd.R_reads' HO643.out).2.2); (case side2 => exact (Kd.R_reads' HO643.out).2.1); rintro e w35 ⟨rfl, hb⟩; have n0_ := Aside0.mk (Kd.R_below (zR HO635.out) hb); have n1_ := Aside0.mk (Kd.R_below (zR HO643.out) hb); have n2_ := Aside0.mk (below_step (zB HB.out) hb); clear HO635; clear HO643; clear HB; have HO635 := n0_; have HO643 := n1_; have HB := n2_; clear n0_ n1_ n2_; (try clear hb); (try clear hb2); (try clear hk); (try clear hi)) | (go_at_call 30; (with_reducible refine (laws_powerOf.calls k 3 (t632.length : Int) t645 _ A27.out).mono ?_); rintro e w' ⟨rfl, ⟨nd, rfl⟩⟩))
        go_ret
        exact ⟨by first | rfl | (simp [errW_none, errW_some] <;> rfl) | (simp [*, errW_none, errW_some] <;> rfl), zB HB.out⟩
       ·rw [if_neg c24] at H
        have c24b0 : (t636 == t640) = false := beq_eq_false_iff_ne.mpr c24
        have c24b1 : (t636 != t640) = true := bne_iff_ne.mpr c24
        obtain rfl := Option.some.inj H
        go_enter Try.func13, Try.ntmps13
        go_wp2_with (first | ((with_reducible refine gate_callee (f := 38) rfl ?_); refine goesL_ (some 12) rfl rfl Try.func38 (by kernel_rfl) rfl #[.slice A0 l0.length c0] rfl zA ?_; (with_reducible refine (spec_DrawDyingCount.calls k _ _ l0 t632 t633 _ ?side1 ?side2 A3.out).mono ?_); (case side1 => exact zC HR0.out); (case side2 => exact HC0.out); rintro e w36 ⟨v634, rfl, ho0, hb⟩; refine ⟨_, rfl, ?_⟩; have n0_ := Aside0.mk (Kd.R_lower ho0 (below_size (zB HB.out))); have n1_ := Aside0.mk (below_step (zB HB.out) hb); clear HB; have HO635 := n0_; have HB := n1_; clear n0_ n1_; (try clear hb); (try clear hb2); (try clear hk); (try clear hi); (try clear ho0); obtain ⟨Ao37, co37, eo37⟩ := Kd.R_slice HO635.out; subst eo37) | ((with_reducible refine gate_callee (f := 26) rfl ?_); refine goesL_ (some 17) rfl rfl Try.func26 (by kernel_rfl) rfl #[.slice Ao37 t632.length co37, .int .i64 t633] rfl zA ?_; (with_reducible refine (impl_DyingCount.calls k _ _ t632 t633 t636 _ ?side1 ?side2 A4.out).mono ?_); (case side1 => exact zC (Kd.R_reads' HO635.out).2.2); (case side2 => exact (Kd.R_reads' HO635.out).2.1); rintro e w38 ⟨rfl, hb⟩; refine ⟨_, rfl, ?_⟩; have n0_ := Aside0.mk (Kd.R_below (zR HO635.out) hb); have n1_ := Aside0.mk (below_step (zB HB.out) hb); clear HO635; clear HB; have HO635 := n0_; have HB := n1_; clear n0_ n1_; (try clear hb); (try clear hb2); (try clear hk); (try clear hi)) | ((with_reducible refine gate_callee (f := 25) rfl ?_); refine goesL_ (some 21) rfl rfl Try.func25 (by kernel_rfl) rfl #[.slice Ao37 t632.length co37, .int .i64 t633] rfl zA ?_; (with_reducible refine (spec_DyingCount.calls k _ _ t632 t633 t637 _ ?side1 ?side2 A5.out).mono ?_); (case side1 => exact zC (Kd.R_reads' HO635.out).2.2); (case side2 => exact (Kd.R_reads' HO635.out).2.1); rintro e w39 ⟨rfl, hb⟩; refine ⟨_, rfl, ?_⟩; have n0_ := Aside0.mk (Kd.R_below (zR HO635.out) hb); have n1_ := Aside0.mk (below_step (zB HB.out) hb); clear HO635; clear HB; have HO635 := n0_; have HB := n1_; clear n0_ n1_; (try clear hb); (try clear hb2); (try clear hk); (try clear hi)) | (go_at_call 30; (with_reducible refine (laws_powerOf.calls k t633 (t632.length : Int) t639 _ A20.out).mono ?_); rintro e w' ⟨rfl, ⟨nd, rfl⟩⟩) | (go_at_call 22; (with_reducible refine (impl_FlatCount.calls k _ _ t632 t640 _ ?side1 ?side2 A23.out).mono ?_); (case side1 => exact zC (Kd.R_reads' HO635.out).2.2); (case side2 => exact (Kd.R_reads' HO635.out).2.1); rintro e w40 ⟨rfl, hb⟩; have n0_ := Aside0.mk (Kd.R_below (zR HO635.out) hb); have n1_ := Aside0.mk (below_step (zB HB.out) hb); clear HO635; clear HB; have HO635 := n0_; have HB := n1_; clear n0_ n1_; (try clear hb); (try clear hb2); (try clear hk); (try clear hi)))
        go_ret
        exact ⟨by first | rfl | (simp [errW_none, errW_some] <;> rfl) | (simp [*, errW_none, errW_some] <;> rfl), zB HB.out⟩
      ·rw [if_neg c22] at H
       have c22b0 : (t633 == 3) = false := beq_eq_false_iff_ne.mpr c22
       have c22b1 : (t633 != 3) = true := bne_iff_ne.mpr c22
       replace H := Option.bind_eq_some_iff.mp H
       obtain ⟨t646, A410, H⟩ := H
       replace H : ((impl_DyingCount.f k t646 3).bind fun t649 => ((laws_powerOf.f k 3 (t632.length : Int)).bind fun t650 => (some (t649 == t650)))) = some r := H
       have A41 := Aside0.mk A410
       clear A410
       replace H := Option.bind_eq_some_iff.mp H
       obtain ⟨t649, A420, H⟩ := H
       replace H : ((laws_powerOf.f k 3 (t632.length : Int)).bind fun t650 => (some (t649 == t650))) = some r := H
       have A42 := Aside0.mk A420
       clear A420
       replace H := Option.bind_eq_some_iff.mp H
       obtain ⟨t650, A430, H⟩ := H
       replace H : (some (t649 == t650)) = some r := H
       have A43 := Aside0.mk A430
       clear A430
       obtain rfl := Option.some.inj H
       go_enter Try.func13, Try.ntmps13
       go_wp2_with (first | ((with_reducible refine gate_callee (f := 38) rfl ?_); refine goesL_ (some 12) rfl rfl Try.func38 (by kernel_rfl) rfl #[.slice A0 l0.length c0] rfl zA ?_; (with_reducible refine (spec_DrawDyingCount.calls k _ _ l0 t632 t633 _ ?side1 ?side2 A3.out).mono ?_); (case side1 => exact zC HR0.out); (case side2 => exact HC0.out); rintro e w44 ⟨v634, rfl, ho0, hb⟩; refine ⟨_, rfl, ?_⟩; have n0_ := Aside0.mk (Kd.R_lower ho0 (below_size (zB HB.out))); have n1_ := Aside0.mk (below_step (zB HB.out) hb); clear HB; have HO635 := n0_; have HB := n1_; clear n0_ n1_; (try clear hb); (try clear hb2); (try clear hk); (try clear hi); (try clear ho0); obtain ⟨Ao45, co45, eo45⟩ := Kd.R_slice HO635.out; subst eo45) | ((with_reducible refine gate_callee (f := 26) rfl ?_); refine goesL_ (some 17) rfl rfl Try.func26 (by kernel_rfl) rfl #[.slice Ao45 t632.length co45, .int .i64 t633] rfl zA ?_; (with_reducible refine (impl_DyingCount.calls k _ _ t632 t633 t636 _ ?side1 ?side2 A4.out).mono ?_); (case side1 => exact zC (Kd.R_reads' HO635.out).2.2); (case side2 => exact (Kd.R_reads' HO635.out).2.1); rintro e w46 ⟨rfl, hb⟩; refine ⟨_, rfl, ?_⟩; have n0_ := Aside0.mk (Kd.R_below (zR HO635.out) hb); have n1_ := Aside0.mk (below_step (zB HB.out) hb); clear HO635; clear HB; have HO635 := n0_; have HB := n1_; clear n0_ n1_; (try clear hb); (try clear hb2); (try clear hk); (try clear hi)) | ((with_reducible refine gate_callee (f := 25) rfl ?_); refine goesL_ (some 21) rfl rfl Try.func25 (by kernel_rfl) rfl #[.slice Ao45 t632.length co45, .int .i64 t633] rfl zA ?_; (with_reducible refine (spec_DyingCount.calls k _ _ t632 t633 t637 _ ?side1 ?side2 A5.out).mono ?_); (case side1 => exact zC (Kd.R_reads' HO635.out).2.2); (case side2 => exact (Kd.R_reads' HO635.out).2.1); rintro e w47 ⟨rfl, hb⟩; refine ⟨_, rfl, ?_⟩; have n0_ := Aside0.mk (Kd.R_below (zR HO635.out) hb); have n1_ := Aside0.mk (below_step (zB HB.out) hb); clear HO635; clear HB; have HO635 := n0_; have HB := n1_; clear n0_ n1_; (try clear hb); (try clear hb2); (try clear hk); (try clear hi)) | (go_at_call 30; (with_reducible refine (laws_powerOf.calls k t633 (t632.length : Int) t639 _ A20.out).mono ?_); rintro e w' ⟨rfl, ⟨nd, rfl⟩⟩) | (go_at_call 34; (with_reducible refine (impl_PathNet.calls k (t632.length : Int) t646 _ A41.out).mono ?_); rintro e w48 ⟨v647, rfl, ho0, hb⟩; have n0_ := Aside0.mk (Kd.R_elder' (zR HO635.out) (Kd.R_base ho0) hb); have n1_ := Aside0.mk (Kd.R_lower (Kd.R_new' ho0 (Kd.R_lt (zR HO635.out))) (below_size (zB HB.out))); have n2_ := Aside0.mk (below_step (zB HB.out) hb); clear HO635; clear HB; have HO635 := n0_; have HO648 := n1_; have HB := n2_; clear n0_ n1_ n2_; (try clear hb); (try clear hb2); (try clear hk); (try clear hi); (try clear ho0); obtain ⟨Ao49, co49, eo49⟩ := Kd.R_slice HO648.out; subst eo49) | (go_at_call 26; (with_reducible refine (impl_DyingCount.calls k _ _ t646 3 t649 _ ?side1 ?side2 A42.out).mono ?_); (case side1 => exact zC (Kd.R_reads' HO648.out).2.2); (case side2 => exact (Kd.R_reads' HO648.out).2.1); rintro e w50 ⟨rfl, hb⟩; have n0_ := Aside0.mk (Kd.R_below (zR HO635.out) hb); have n1_ := Aside0.mk (Kd.R_below (zR HO648.out) hb); have n2_ := Aside0.mk (below_step (zB HB.out) hb); clear HO635; clear HO648; clear HB; have HO635 := n0_; have HO648 := n1_; have HB := n2_; clear n0_ n1_ n2_; (try clear hb); (try clear hb2); (try clear hk); (try clear hi)) | (go_at_call 30; (with_reducible refine (laws_powerOf.calls k 3 (t632.length : Int) t650 _ A43.out).mono ?_); rintro e w' ⟨rfl, ⟨nd, rfl⟩⟩))
       go_ret
       exact ⟨by first | rfl | (simp [errW_none, errW_some] <;> rfl) | (simp [*, errW_none, errW_some] <;> rfl), zB HB.out⟩
     ·rw [if_neg c21] at H
      have c21b0 : decide (t636 ≤ t639) = false := decide_eq_false c21
      clear c21
      obtain rfl := Option.some.inj H
      go_enter Try.func13, Try.ntmps13
      go_wp2_with (first | ((with_reducible refine gate_callee (f := 38) rfl ?_); refine goesL_ (some 12) rfl rfl Try.func38 (by kernel_rfl) rfl #[.slice A0 l0.length c0] rfl zA ?_; (with_reducible refine (spec_DrawDyingCount.calls k _ _ l0 t632 t633 _ ?side1 ?side2 A3.out).mono ?_); (case side1 => exact zC HR0.out); (case side2 => exact HC0.out); rintro e w51 ⟨v634, rfl, ho0, hb⟩; refine ⟨_, rfl, ?_⟩; have n0_ := Aside0.mk (Kd.R_lower ho0 (below_size (zB HB.out))); have n1_ := Aside0.mk (below_step (zB HB.out) hb); clear HB; have HO635 := n0_; have HB := n1_; clear n0_ n1_; (try clear hb); (try clear hb2); (try clear hk); (try clear hi); (try clear ho0); obtain ⟨Ao52, co52, eo52⟩ := Kd.R_slice HO635.out; subst eo52) | ((with_reducible refine gate_callee (f := 26) rfl ?_); refine goesL_ (some 17) rfl rfl Try.func26 (by kernel_rfl) rfl #[.slice Ao52 t632.length co52, .int .i64 t633] rfl zA ?_; (with_reducible refine (impl_DyingCount.calls k _ _ t632 t633 t636 _ ?side1 ?side2 A4.out).mono ?_); (case side1 => exact zC (Kd.R_reads' HO635.out).2.2); (case side2 => exact (Kd.R_reads' HO635.out).2.1); rintro e w53 ⟨rfl, hb⟩; refine ⟨_, rfl, ?_⟩; have n0_ := Aside0.mk (Kd.R_below (zR HO635.out) hb); have n1_ := Aside0.mk (below_step (zB HB.out) hb); clear HO635; clear HB; have HO635 := n0_; have HB := n1_; clear n0_ n1_; (try clear hb); (try clear hb2); (try clear hk); (try clear hi)) | ((with_reducible refine gate_callee (f := 25) rfl ?_); refine goesL_ (some 21) rfl rfl Try.func25 (by kernel_rfl) rfl #[.slice Ao52 t632.length co52, .int .i64 t633] rfl zA ?_; (with_reducible refine (spec_DyingCount.calls k _ _ t632 t633 t637 _ ?side1 ?side2 A5.out).mono ?_); (case side1 => exact zC (Kd.R_reads' HO635.out).2.2); (case side2 => exact (Kd.R_reads' HO635.out).2.1); rintro e w54 ⟨rfl, hb⟩; refine ⟨_, rfl, ?_⟩; have n0_ := Aside0.mk (Kd.R_below (zR HO635.out) hb); have n1_ := Aside0.mk (below_step (zB HB.out) hb); clear HO635; clear HB; have HO635 := n0_; have HB := n1_; clear n0_ n1_; (try clear hb); (try clear hb2); (try clear hk); (try clear hi)) | (go_at_call 30; (with_reducible refine (laws_powerOf.calls k t633 (t632.length : Int) t639 _ A20.out).mono ?_); rintro e w' ⟨rfl, ⟨nd, rfl⟩⟩))
      go_ret
      exact ⟨by first | rfl | (simp [errW_none, errW_some] <;> rfl) | (simp [*, errW_none, errW_some] <;> rfl), zB HB.out⟩
    ·rw [if_neg c19] at H
     have c19b0 : decide (1 ≤ t636) = false := decide_eq_false c19
     clear c19
     obtain rfl := Option.some.inj H
     go_enter Try.func13, Try.ntmps13
     go_wp2_with (first | ((with_reducible refine gate_callee (f := 38) rfl ?_); refine goesL_ (some 12) rfl rfl Try.func38 (by kernel_rfl) rfl #[.slice A0 l0.length c0] rfl zA ?_; (with_reducible refine (spec_DrawDyingCount.calls k _ _ l0 t632 t633 _ ?side1 ?side2 A3.out).mono ?_); (case side1 => exact zC HR0.out); (case side2 => exact HC0.out); rintro e w55 ⟨v634, rfl, ho0, hb⟩; refine ⟨_, rfl, ?_⟩; have n0_ := Aside0.mk (Kd.R_lower ho0 (below_size (zB HB.out))); have n1_ := Aside0.mk (below_step (zB HB.out) hb); clear HB; have HO635 := n0_; have HB := n1_; clear n0_ n1_; (try clear hb); (try clear hb2); (try clear hk); (try clear hi); (try clear ho0); obtain ⟨Ao56, co56, eo56⟩ := Kd.R_slice HO635.out; subst eo56) | ((with_reducible refine gate_callee (f := 26) rfl ?_); refine goesL_ (some 17) rfl rfl Try.func26 (by kernel_rfl) rfl #[.slice Ao56 t632.length co56, .int .i64 t633] rfl zA ?_; (with_reducible refine (impl_DyingCount.calls k _ _ t632 t633 t636 _ ?side1 ?side2 A4.out).mono ?_); (case side1 => exact zC (Kd.R_reads' HO635.out).2.2); (case side2 => exact (Kd.R_reads' HO635.out).2.1); rintro e w57 ⟨rfl, hb⟩; refine ⟨_, rfl, ?_⟩; have n0_ := Aside0.mk (Kd.R_below (zR HO635.out) hb); have n1_ := Aside0.mk (below_step (zB HB.out) hb); clear HO635; clear HB; have HO635 := n0_; have HB := n1_; clear n0_ n1_; (try clear hb); (try clear hb2); (try clear hk); (try clear hi)) | ((with_reducible refine gate_callee (f := 25) rfl ?_); refine goesL_ (some 21) rfl rfl Try.func25 (by kernel_rfl) rfl #[.slice Ao56 t632.length co56, .int .i64 t633] rfl zA ?_; (with_reducible refine (spec_DyingCount.calls k _ _ t632 t633 t637 _ ?side1 ?side2 A5.out).mono ?_); (case side1 => exact zC (Kd.R_reads' HO635.out).2.2); (case side2 => exact (Kd.R_reads' HO635.out).2.1); rintro e w58 ⟨rfl, hb⟩; refine ⟨_, rfl, ?_⟩; have n0_ := Aside0.mk (Kd.R_below (zR HO635.out) hb); have n1_ := Aside0.mk (below_step (zB HB.out) hb); clear HO635; clear HB; have HO635 := n0_; have HB := n1_; clear n0_ n1_; (try clear hb); (try clear hb2); (try clear hk); (try clear hi)))
     go_ret
     exact ⟨by first | rfl | (simp [errW_none, errW_some] <;> rfl) | (simp [*, errW_none, errW_some] <;> rfl), zB HB.out⟩
  ·rw [if_neg c6] at H
   have c6b0 : (t636 == t637) = false := beq_eq_false_iff_ne.mpr c6
   have c6b1 : (t636 != t637) = true := bne_iff_ne.mpr c6
   obtain rfl := Option.some.inj H
   go_enter Try.func13, Try.ntmps13
   go_wp2_with (first | ((with_reducible refine gate_callee (f := 38) rfl ?_); refine goesL_ (some 12) rfl rfl Try.func38 (by kernel_rfl) rfl #[.slice A0 l0.length c0] rfl zA ?_; (with_reducible refine (spec_DrawDyingCount.calls k _ _ l0 t632 t633 _ ?side1 ?side2 A3.out).mono ?_); (case side1 => exact zC HR0.out); (case side2 => exact HC0.out); rintro e w59 ⟨v634, rfl, ho0, hb⟩; refine ⟨_, rfl, ?_⟩; have n0_ := Aside0.mk (Kd.R_lower ho0 (below_size (zB HB.out))); have n1_ := Aside0.mk (below_step (zB HB.out) hb); clear HB; have HO635 := n0_; have HB := n1_; clear n0_ n1_; (try clear hb); (try clear hb2); (try clear hk); (try clear hi); (try clear ho0); obtain ⟨Ao60, co60, eo60⟩ := Kd.R_slice HO635.out; subst eo60) | ((with_reducible refine gate_callee (f := 26) rfl ?_); refine goesL_ (some 17) rfl rfl Try.func26 (by kernel_rfl) rfl #[.slice Ao60 t632.length co60, .int .i64 t633] rfl zA ?_; (with_reducible refine (impl_DyingCount.calls k _ _ t632 t633 t636 _ ?side1 ?side2 A4.out).mono ?_); (case side1 => exact zC (Kd.R_reads' HO635.out).2.2); (case side2 => exact (Kd.R_reads' HO635.out).2.1); rintro e w61 ⟨rfl, hb⟩; refine ⟨_, rfl, ?_⟩; have n0_ := Aside0.mk (Kd.R_below (zR HO635.out) hb); have n1_ := Aside0.mk (below_step (zB HB.out) hb); clear HO635; clear HB; have HO635 := n0_; have HB := n1_; clear n0_ n1_; (try clear hb); (try clear hb2); (try clear hk); (try clear hi)) | ((with_reducible refine gate_callee (f := 25) rfl ?_); refine goesL_ (some 21) rfl rfl Try.func25 (by kernel_rfl) rfl #[.slice Ao60 t632.length co60, .int .i64 t633] rfl zA ?_; (with_reducible refine (spec_DyingCount.calls k _ _ t632 t633 t637 _ ?side1 ?side2 A5.out).mono ?_); (case side1 => exact zC (Kd.R_reads' HO635.out).2.2); (case side2 => exact (Kd.R_reads' HO635.out).2.1); rintro e w62 ⟨rfl, hb⟩; refine ⟨_, rfl, ?_⟩; have n0_ := Aside0.mk (Kd.R_below (zR HO635.out) hb); have n1_ := Aside0.mk (below_step (zB HB.out) hb); clear HO635; clear HB; have HO635 := n0_; have HB := n1_; clear n0_ n1_; (try clear hb); (try clear hb2); (try clear hk); (try clear hi)))
   go_ret
   exact ⟨by first | rfl | (simp [errW_none, errW_some] <;> rfl) | (simp [*, errW_none, errW_some] <;> rfl), zB HB.out⟩

/-- THE ONE PURE STATEMENT of laws_FnDyingCount: yours. -/
def laws_FnDyingCount.Pure : Prop := ∀ (l0 : List Int), l0.length ≤ maxLen → l0.length * 1 ≤ 140737488351232 → (∀ x ∈ l0, (Lit.int .u8 x).wf = true) → ∃ k, laws_FnDyingCount.f k l0 = some true
theorem laws_FnDyingCount.walk (P : laws_FnDyingCount.Pure) (a0 : Option Addr) (len0 cap0 : Nat) (z0 : List Int) (w : World) (w0 : (a0 = none ∧ len0 = 0 ∧ cap0 = 0 ∧ z0 = []) ∨ ∃ x, a0 = some x ∧ len0 ≤ cap0 ∧ cap0 ≤ maxLen ∧ z0.length = cap0 ∧ (∀ i, i < z0.length → w.cell? (x.add i) = some (.int .u8 (z0.getD i 0))) ∧ ∀ n ∈ z0, (Lit.int .u8 n).wf = true) (y0 : len0 * 1 ≤ 140737488351232) :
  Calls Try.prog 13 #[.slice a0 len0 cap0] w fun e w' => e = .returned (.bool true) ∧ Below w.heap.size w w' := by
 obtain ⟨l0, rfl, hr0, hm0, hw0, hc0⟩ := ReadsInt.ofRowC w0
 obtain ⟨k, h⟩ := P l0 hm0 y0 hw0
 refine (laws_FnDyingCount.calls k _ _ l0 true w (Kd.C_of_reads (d := (0 : Int)) (h1 := fun _ => rfl) hr0) hc0 h).mono ?_
 rintro e w' ⟨rfl, hd⟩
 exact ⟨rfl, hd⟩

end Go.Proofs.Ytgglagpciojfmaa.PAll
