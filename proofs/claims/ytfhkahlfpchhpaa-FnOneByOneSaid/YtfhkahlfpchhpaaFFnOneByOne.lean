/- Own text of this session, written by a program of this session (wip/t/own.py) out of what the kit tells of the functions: each Go function as a Lean function, and the walk through its code. -/
import Derived.Test.YtfhkahlfpchhpaaT
import Derived.Test.YtfhkahlfpchhpaaF0
import Derived.Test.YtfhkahlfpchhpaaF21
import Derived.Test.YtfhkahlfpchhpaaF8
namespace Go.Proofs.Ytfhkahlfpchhpaa.PAll
open Go.RowKit Go.Proofs.YtfhkahlfpchhpaaW.PrintWords Go.Proofs.YtfhkahlfpchhpaaW.PrintLast Go.Proofs.YtfhkahlfpchhpaaW.PrintMore
attribute [local go_sem] max2_int min2_int max_two min_two max_three min_three max_four min_four   -- for this text's walks alone
set_option linter.unusedVariables false
set_option linter.unusedSimpArgs false

/-! ### laws_FnOneByOne: function 6 -/
def laws_FnOneByOne.f (k : Nat) (l0 : List Int) : Option (Bool) := if (l0.length : Int) > 1048576 then (some true) else ((spec_DrawOneByOne.f k l0).bind fun bt527 => ((impl_OneByOne.f k bt527.1 bt527.2.1 bt527.2.2.1 bt527.2.2.2).bind fun t537 => ((spec_OneByOne.f k bt527.1 bt527.2.1 bt527.2.2.1 bt527.2.2.2).bind fun t538 => (if t537 = t538 then (if t537 < 0 then (if t537 = (-1) then ((laws_alive.f k).bind fun t539 => (some t539)) else (some false)) else ((impl_SpreadSet.f k bt527.1 bt527.2.1 bt527.2.2.1).bind fun bt540 => (some (bt540.1 == t537)))) else (some false)))))
theorem laws_FnOneByOne.mono : ∀ a0 k, LeO (laws_FnOneByOne.f k a0) (laws_FnOneByOne.f (k + 1) a0) := by
  intro a0 k
  unfold laws_FnOneByOne.f
  repeat' first
      | (with_reducible exact impl_OneByOne.mono _ _ _ _ _)
      | (with_reducible exact impl_SpreadSet.mono _ _ _ _)
      | (with_reducible exact laws_alive.mono _)
      | (with_reducible exact spec_DrawOneByOne.mono _ _)
      | (with_reducible exact spec_OneByOne.mono _ _ _ _ _)
      | (with_reducible exact LeO.refl _)
      | (with_reducible exact LeO.none _)
      | (with_reducible refine LeO.ite ?_ ?_)
      | (with_reducible refine LeO.bind ?_ (fun _ => ?_))
      | exact impl_OneByOne.mono _ _ _ _ _
      | exact impl_SpreadSet.mono _ _ _ _
      | exact laws_alive.mono _
      | exact spec_DrawOneByOne.mono _ _
      | exact spec_OneByOne.mono _ _ _ _ _
      | exact LeO.none _
      | refine LeO.ite ?_ ?_
      | refine LeO.bind ?_ (fun _ => ?_)
set_option maxHeartbeats 8000000 in
set_option maxRecDepth 100000 in
theorem laws_FnOneByOne.calls (k : Nat) (A0 : Option Addr) (c0 : Nat) (l0 : List Int) (r : Bool) (w : World) (hr0 : Kd.C (Kd.int .u8) w A0 l0.length l0) (hc0 : l0.length ≤ c0) (h : laws_FnOneByOne.f k l0 = some r) :
    Calls Try.prog 6 #[.slice A0 l0.length c0] w fun e w' => e = .returned (.bool r) ∧ Below w.heap.size w w' := by
  have HR0 := Aside0.mk hr0
  have HC0 := Aside0.mk hc0
  clear hr0 hc0
  have HB := Aside0.mk (Below.refl w.heap.size w)
  have H : (if (l0.length : Int) > 1048576 then (some true) else ((spec_DrawOneByOne.f k l0).bind fun bt527 => ((impl_OneByOne.f k bt527.1 bt527.2.1 bt527.2.2.1 bt527.2.2.2).bind fun t537 => ((spec_OneByOne.f k bt527.1 bt527.2.1 bt527.2.2.1 bt527.2.2.2).bind fun t538 => (if t537 = t538 then (if t537 < 0 then (if t537 = (-1) then ((laws_alive.f k).bind fun t539 => (some t539)) else (some false)) else ((impl_SpreadSet.f k bt527.1 bt527.2.1 bt527.2.2.1).bind fun bt540 => (some (bt540.1 == t537)))) else (some false)))))) = some r := h
  clear h
  by_cases c2 : (l0.length : Int) > 1048576
  · rw [if_pos c2] at H
    have c2b0 : decide (1048576 < (l0.length : Int)) = true := decide_eq_true c2
    have c2b1 : decide (1048576 < l0.length) = true := decide_eq_true (by omega)
    clear c2
    obtain rfl := Option.some.inj H
    go_enter Try.func6, Try.ntmps6
    go_wp2
    go_ret
    exact ⟨by first | rfl | (simp [errW_none, errW_some] <;> rfl) | (simp [*, errW_none, errW_some] <;> rfl), zB HB.out⟩
  · rw [if_neg c2] at H
    have c2b0 : decide (1048576 < (l0.length : Int)) = false := decide_eq_false c2
    have c2b1 : decide (1048576 < l0.length) = false := decide_eq_false (by omega)
    clear c2
    replace H := Option.bind_eq_some_iff.mp H
    obtain ⟨⟨t527, t528, t529, t530⟩, A30, H⟩ := H
    replace H : ((impl_OneByOne.f k t527 t528 t529 t530).bind fun t537 => ((spec_OneByOne.f k t527 t528 t529 t530).bind fun t538 => (if t537 = t538 then (if t537 < 0 then (if t537 = (-1) then ((laws_alive.f k).bind fun t539 => (some t539)) else (some false)) else ((impl_SpreadSet.f k t527 t528 t529).bind fun bt540 => (some (bt540.1 == t537)))) else (some false)))) = some r := H
    have A3 := Aside0.mk A30
    clear A30
    replace H := Option.bind_eq_some_iff.mp H
    obtain ⟨t537, A40, H⟩ := H
    replace H : ((spec_OneByOne.f k t527 t528 t529 t530).bind fun t538 => (if t537 = t538 then (if t537 < 0 then (if t537 = (-1) then ((laws_alive.f k).bind fun t539 => (some t539)) else (some false)) else ((impl_SpreadSet.f k t527 t528 t529).bind fun bt540 => (some (bt540.1 == t537)))) else (some false))) = some r := H
    have A4 := Aside0.mk A40
    clear A40
    replace H := Option.bind_eq_some_iff.mp H
    obtain ⟨t538, A50, H⟩ := H
    replace H : (if t537 = t538 then (if t537 < 0 then (if t537 = (-1) then ((laws_alive.f k).bind fun t539 => (some t539)) else (some false)) else ((impl_SpreadSet.f k t527 t528 t529).bind fun bt540 => (some (bt540.1 == t537)))) else (some false)) = some r := H
    have A5 := Aside0.mk A50
    clear A50
    by_cases c6 : t537 = t538
    · rw [if_pos c6] at H
      have c6b0 : (t537 == t538) = true := beq_iff_eq.mpr c6
      have c6b1 : (t537 != t538) = false := bne_eq_false_iff_eq.mpr c6
      clear c6
      by_cases c7 : t537 < 0
      · rw [if_pos c7] at H
        have c7b0 : decide (t537 < 0) = true := decide_eq_true c7
        clear c7
        by_cases c8 : t537 = (-1)
        · rw [if_pos c8] at H
          have c8b0 : (t537 == (-1)) = true := beq_iff_eq.mpr c8
          have c8b1 : (t537 != (-1)) = false := bne_eq_false_iff_eq.mpr c8
          clear c8
          replace H := Option.bind_eq_some_iff.mp H
          obtain ⟨t539, A90, H⟩ := H
          replace H : (some t539) = some r := H
          have A9 := Aside0.mk A90
          clear A90
          obtain rfl := Option.some.inj H
          go_enter Try.func6, Try.ntmps6
          go_wp2_with (first | ((with_reducible refine gate_callee (f := 27) rfl ?_); refine goesL_ (some 15) rfl rfl Try.func27 (by kernel_rfl) rfl #[.slice A0 l0.length c0] rfl zA ?_; (with_reducible refine (spec_DrawOneByOne.calls k _ _ l0 t527 t528 t529 t530 _ ?side1 ?side2 A3.out).mono ?_); (case side1 => exact zC HR0.out); (case side2 => exact HC0.out); rintro e w10 ⟨v531, v533, v535, rfl, ho0, ho1, ho2, hb⟩; refine ⟨_, rfl, ?_⟩; have n0_ := Aside0.mk (Kd.R_lower ho0 (below_size (zB HB.out))); have n1_ := Aside0.mk (Kd.R_lower ho1 (below_size (zB HB.out))); have n2_ := Aside0.mk (Kd.R_lower ho2 (below_size (zB HB.out))); have n3_ := Aside0.mk (below_step (zB HB.out) hb); clear HB; have HO532 := n0_; have HO534 := n1_; have HO536 := n2_; have HB := n3_; clear n0_ n1_ n2_ n3_; (try clear hb); (try clear hb2); (try clear hk); (try clear hi); (try clear ho0); (try clear ho1); (try clear ho2); obtain ⟨Ao11, co11, eo11⟩ := Kd.R_slice HO532.out; subst eo11; obtain ⟨Ao12, co12, eo12⟩ := Kd.R_slice HO534.out; subst eo12; obtain ⟨Ao13, co13, eo13⟩ := Kd.R_slice HO536.out; subst eo13) | ((with_reducible refine gate_callee (f := 28) rfl ?_); refine goesL_ (some 24) rfl rfl Try.func28 (by kernel_rfl) rfl #[.slice Ao11 t527.length co11, .slice Ao12 t528.length co12, .int .i64 t529, .slice Ao13 t530.length co13] rfl zA ?_; (with_reducible refine (impl_OneByOne.calls k _ _ t527 _ _ t528 t529 _ _ t530 t537 _ ?side1 ?side2 ?side3 ?side4 ?side5 ?side6 A4.out).mono ?_); (case side1 => exact zC (Kd.R_reads' HO532.out).2.2); (case side2 => exact (Kd.R_reads' HO532.out).2.1); (case side3 => exact zC (Kd.R_reads' HO534.out).2.2); (case side4 => exact (Kd.R_reads' HO534.out).2.1); (case side5 => exact zC (Kd.R_reads' HO536.out).2.2); (case side6 => exact (Kd.R_reads' HO536.out).2.1); rintro e w' ⟨rfl, ⟨nd, rfl⟩⟩; refine ⟨_, rfl, ?_⟩) | ((with_reducible refine gate_callee (f := 29) rfl ?_); refine goesL_ (some 30) rfl rfl Try.func29 (by kernel_rfl) rfl #[.slice Ao11 t527.length co11, .slice Ao12 t528.length co12, .int .i64 t529, .slice Ao13 t530.length co13] rfl zA ?_; (with_reducible refine (spec_OneByOne.calls k _ _ t527 _ _ t528 t529 _ _ t530 t538 _ ?side1 ?side2 ?side3 ?side4 ?side5 ?side6 A5.out).mono ?_); (case side1 => exact zC (Kd.R_reads' HO532.out).2.2); (case side2 => exact (Kd.R_reads' HO532.out).2.1); (case side3 => exact zC (Kd.R_reads' HO534.out).2.2); (case side4 => exact (Kd.R_reads' HO534.out).2.1); (case side5 => exact zC (Kd.R_reads' HO536.out).2.2); (case side6 => exact (Kd.R_reads' HO536.out).2.1); rintro e w' ⟨rfl, ⟨nd, rfl⟩⟩; refine ⟨_, rfl, ?_⟩) | (go_at_call 18; (with_reducible refine (laws_alive.calls k  t539 _ A9.out).mono ?_); rintro e w14 ⟨rfl, hb⟩; have n0_ := Aside0.mk (Kd.R_below (zR HO532.out) hb); have n1_ := Aside0.mk (Kd.R_below (zR HO534.out) hb); have n2_ := Aside0.mk (Kd.R_below (zR HO536.out) hb); have n3_ := Aside0.mk (below_step (zB HB.out) hb); clear HO532; clear HO534; clear HO536; clear HB; have HO532 := n0_; have HO534 := n1_; have HO536 := n2_; have HB := n3_; clear n0_ n1_ n2_ n3_; (try clear hb); (try clear hb2); (try clear hk); (try clear hi)))
          go_ret
          exact ⟨by first | rfl | (simp [errW_none, errW_some] <;> rfl) | (simp [*, errW_none, errW_some] <;> rfl), zB HB.out⟩
        · rw [if_neg c8] at H
          have c8b0 : (t537 == (-1)) = false := beq_eq_false_iff_ne.mpr c8
          have c8b1 : (t537 != (-1)) = true := bne_iff_ne.mpr c8
          obtain rfl := Option.some.inj H
          go_enter Try.func6, Try.ntmps6
          go_wp2_with (first | ((with_reducible refine gate_callee (f := 27) rfl ?_); refine goesL_ (some 15) rfl rfl Try.func27 (by kernel_rfl) rfl #[.slice A0 l0.length c0] rfl zA ?_; (with_reducible refine (spec_DrawOneByOne.calls k _ _ l0 t527 t528 t529 t530 _ ?side1 ?side2 A3.out).mono ?_); (case side1 => exact zC HR0.out); (case side2 => exact HC0.out); rintro e w15 ⟨v531, v533, v535, rfl, ho0, ho1, ho2, hb⟩; refine ⟨_, rfl, ?_⟩; have n0_ := Aside0.mk (Kd.R_lower ho0 (below_size (zB HB.out))); have n1_ := Aside0.mk (Kd.R_lower ho1 (below_size (zB HB.out))); have n2_ := Aside0.mk (Kd.R_lower ho2 (below_size (zB HB.out))); have n3_ := Aside0.mk (below_step (zB HB.out) hb); clear HB; have HO532 := n0_; have HO534 := n1_; have HO536 := n2_; have HB := n3_; clear n0_ n1_ n2_ n3_; (try clear hb); (try clear hb2); (try clear hk); (try clear hi); (try clear ho0); (try clear ho1); (try clear ho2); obtain ⟨Ao16, co16, eo16⟩ := Kd.R_slice HO532.out; subst eo16; obtain ⟨Ao17, co17, eo17⟩ := Kd.R_slice HO534.out; subst eo17; obtain ⟨Ao18, co18, eo18⟩ := Kd.R_slice HO536.out; subst eo18) | ((with_reducible refine gate_callee (f := 28) rfl ?_); refine goesL_ (some 24) rfl rfl Try.func28 (by kernel_rfl) rfl #[.slice Ao16 t527.length co16, .slice Ao17 t528.length co17, .int .i64 t529, .slice Ao18 t530.length co18] rfl zA ?_; (with_reducible refine (impl_OneByOne.calls k _ _ t527 _ _ t528 t529 _ _ t530 t537 _ ?side1 ?side2 ?side3 ?side4 ?side5 ?side6 A4.out).mono ?_); (case side1 => exact zC (Kd.R_reads' HO532.out).2.2); (case side2 => exact (Kd.R_reads' HO532.out).2.1); (case side3 => exact zC (Kd.R_reads' HO534.out).2.2); (case side4 => exact (Kd.R_reads' HO534.out).2.1); (case side5 => exact zC (Kd.R_reads' HO536.out).2.2); (case side6 => exact (Kd.R_reads' HO536.out).2.1); rintro e w' ⟨rfl, ⟨nd, rfl⟩⟩; refine ⟨_, rfl, ?_⟩) | ((with_reducible refine gate_callee (f := 29) rfl ?_); refine goesL_ (some 30) rfl rfl Try.func29 (by kernel_rfl) rfl #[.slice Ao16 t527.length co16, .slice Ao17 t528.length co17, .int .i64 t529, .slice Ao18 t530.length co18] rfl zA ?_; (with_reducible refine (spec_OneByOne.calls k _ _ t527 _ _ t528 t529 _ _ t530 t538 _ ?side1 ?side2 ?side3 ?side4 ?side5 ?side6 A5.out).mono ?_); (case side1 => exact zC (Kd.R_reads' HO532.out).2.2); (case side2 => exact (Kd.R_reads' HO532.out).2.1); (case side3 => exact zC (Kd.R_reads' HO534.out).2.2); (case side4 => exact (Kd.R_reads' HO534.out).2.1); (case side5 => exact zC (Kd.R_reads' HO536.out).2.2); (case side6 => exact (Kd.R_reads' HO536.out).2.1); rintro e w' ⟨rfl, ⟨nd, rfl⟩⟩; refine ⟨_, rfl, ?_⟩))
          go_ret
          exact ⟨by first | rfl | (simp [errW_none, errW_some] <;> rfl) | (simp [*, errW_none, errW_some] <;> rfl), zB HB.out⟩
      · rw [if_neg c7] at H
        have c7b0 : decide (t537 < 0) = false := decide_eq_false c7
        clear c7
        replace H := Option.bind_eq_some_iff.mp H
        obtain ⟨⟨t540, t541⟩, A190, H⟩ := H
        replace H : (some (t540 == t537)) = some r := H
        have A19 := Aside0.mk A190
        clear A190
        obtain rfl := Option.some.inj H
        go_enter Try.func6, Try.ntmps6
        go_wp2_with (first | ((with_reducible refine gate_callee (f := 27) rfl ?_); refine goesL_ (some 15) rfl rfl Try.func27 (by kernel_rfl) rfl #[.slice A0 l0.length c0] rfl zA ?_; (with_reducible refine (spec_DrawOneByOne.calls k _ _ l0 t527 t528 t529 t530 _ ?side1 ?side2 A3.out).mono ?_); (case side1 => exact zC HR0.out); (case side2 => exact HC0.out); rintro e w20 ⟨v531, v533, v535, rfl, ho0, ho1, ho2, hb⟩; refine ⟨_, rfl, ?_⟩; have n0_ := Aside0.mk (Kd.R_lower ho0 (below_size (zB HB.out))); have n1_ := Aside0.mk (Kd.R_lower ho1 (below_size (zB HB.out))); have n2_ := Aside0.mk (Kd.R_lower ho2 (below_size (zB HB.out))); have n3_ := Aside0.mk (below_step (zB HB.out) hb); clear HB; have HO532 := n0_; have HO534 := n1_; have HO536 := n2_; have HB := n3_; clear n0_ n1_ n2_ n3_; (try clear hb); (try clear hb2); (try clear hk); (try clear hi); (try clear ho0); (try clear ho1); (try clear ho2); obtain ⟨Ao21, co21, eo21⟩ := Kd.R_slice HO532.out; subst eo21; obtain ⟨Ao22, co22, eo22⟩ := Kd.R_slice HO534.out; subst eo22; obtain ⟨Ao23, co23, eo23⟩ := Kd.R_slice HO536.out; subst eo23) | ((with_reducible refine gate_callee (f := 28) rfl ?_); refine goesL_ (some 24) rfl rfl Try.func28 (by kernel_rfl) rfl #[.slice Ao21 t527.length co21, .slice Ao22 t528.length co22, .int .i64 t529, .slice Ao23 t530.length co23] rfl zA ?_; (with_reducible refine (impl_OneByOne.calls k _ _ t527 _ _ t528 t529 _ _ t530 t537 _ ?side1 ?side2 ?side3 ?side4 ?side5 ?side6 A4.out).mono ?_); (case side1 => exact zC (Kd.R_reads' HO532.out).2.2); (case side2 => exact (Kd.R_reads' HO532.out).2.1); (case side3 => exact zC (Kd.R_reads' HO534.out).2.2); (case side4 => exact (Kd.R_reads' HO534.out).2.1); (case side5 => exact zC (Kd.R_reads' HO536.out).2.2); (case side6 => exact (Kd.R_reads' HO536.out).2.1); rintro e w' ⟨rfl, ⟨nd, rfl⟩⟩; refine ⟨_, rfl, ?_⟩) | ((with_reducible refine gate_callee (f := 29) rfl ?_); refine goesL_ (some 30) rfl rfl Try.func29 (by kernel_rfl) rfl #[.slice Ao21 t527.length co21, .slice Ao22 t528.length co22, .int .i64 t529, .slice Ao23 t530.length co23] rfl zA ?_; (with_reducible refine (spec_OneByOne.calls k _ _ t527 _ _ t528 t529 _ _ t530 t538 _ ?side1 ?side2 ?side3 ?side4 ?side5 ?side6 A5.out).mono ?_); (case side1 => exact zC (Kd.R_reads' HO532.out).2.2); (case side2 => exact (Kd.R_reads' HO532.out).2.1); (case side3 => exact zC (Kd.R_reads' HO534.out).2.2); (case side4 => exact (Kd.R_reads' HO534.out).2.1); (case side5 => exact zC (Kd.R_reads' HO536.out).2.2); (case side6 => exact (Kd.R_reads' HO536.out).2.1); rintro e w' ⟨rfl, ⟨nd, rfl⟩⟩; refine ⟨_, rfl, ?_⟩) | ((with_reducible refine gate_callee (f := 16) rfl ?_); refine goesL_ (some 43) rfl rfl Try.func16 (by kernel_rfl) rfl #[.slice Ao21 t527.length co21, .slice Ao22 t528.length co22, .int .i64 t529] rfl zA ?_; (with_reducible refine (impl_SpreadSet.calls k _ _ t527 _ _ t528 t529 t540 t541 _ ?side1 ?side2 ?side3 ?side4 A19.out).mono ?_); (case side1 => exact zC (Kd.R_reads' HO532.out).2.2); (case side2 => exact (Kd.R_reads' HO532.out).2.1); (case side3 => exact zC (Kd.R_reads' HO534.out).2.2); (case side4 => exact (Kd.R_reads' HO534.out).2.1); rintro e w' ⟨rfl, ⟨nd, rfl⟩⟩; refine ⟨_, rfl, ?_⟩))
        go_ret
        exact ⟨by first | rfl | (simp [errW_none, errW_some] <;> rfl) | (simp [*, errW_none, errW_some] <;> rfl), zB HB.out⟩
    · rw [if_neg c6] at H
      have c6b0 : (t537 == t538) = false := beq_eq_false_iff_ne.mpr c6
      have c6b1 : (t537 != t538) = true := bne_iff_ne.mpr c6
      obtain rfl := Option.some.inj H
      go_enter Try.func6, Try.ntmps6
      go_wp2_with (first | ((with_reducible refine gate_callee (f := 27) rfl ?_); refine goesL_ (some 15) rfl rfl Try.func27 (by kernel_rfl) rfl #[.slice A0 l0.length c0] rfl zA ?_; (with_reducible refine (spec_DrawOneByOne.calls k _ _ l0 t527 t528 t529 t530 _ ?side1 ?side2 A3.out).mono ?_); (case side1 => exact zC HR0.out); (case side2 => exact HC0.out); rintro e w24 ⟨v531, v533, v535, rfl, ho0, ho1, ho2, hb⟩; refine ⟨_, rfl, ?_⟩; have n0_ := Aside0.mk (Kd.R_lower ho0 (below_size (zB HB.out))); have n1_ := Aside0.mk (Kd.R_lower ho1 (below_size (zB HB.out))); have n2_ := Aside0.mk (Kd.R_lower ho2 (below_size (zB HB.out))); have n3_ := Aside0.mk (below_step (zB HB.out) hb); clear HB; have HO532 := n0_; have HO534 := n1_; have HO536 := n2_; have HB := n3_; clear n0_ n1_ n2_ n3_; (try clear hb); (try clear hb2); (try clear hk); (try clear hi); (try clear ho0); (try clear ho1); (try clear ho2); obtain ⟨Ao25, co25, eo25⟩ := Kd.R_slice HO532.out; subst eo25; obtain ⟨Ao26, co26, eo26⟩ := Kd.R_slice HO534.out; subst eo26; obtain ⟨Ao27, co27, eo27⟩ := Kd.R_slice HO536.out; subst eo27) | ((with_reducible refine gate_callee (f := 28) rfl ?_); refine goesL_ (some 24) rfl rfl Try.func28 (by kernel_rfl) rfl #[.slice Ao25 t527.length co25, .slice Ao26 t528.length co26, .int .i64 t529, .slice Ao27 t530.length co27] rfl zA ?_; (with_reducible refine (impl_OneByOne.calls k _ _ t527 _ _ t528 t529 _ _ t530 t537 _ ?side1 ?side2 ?side3 ?side4 ?side5 ?side6 A4.out).mono ?_); (case side1 => exact zC (Kd.R_reads' HO532.out).2.2); (case side2 => exact (Kd.R_reads' HO532.out).2.1); (case side3 => exact zC (Kd.R_reads' HO534.out).2.2); (case side4 => exact (Kd.R_reads' HO534.out).2.1); (case side5 => exact zC (Kd.R_reads' HO536.out).2.2); (case side6 => exact (Kd.R_reads' HO536.out).2.1); rintro e w' ⟨rfl, ⟨nd, rfl⟩⟩; refine ⟨_, rfl, ?_⟩) | ((with_reducible refine gate_callee (f := 29) rfl ?_); refine goesL_ (some 30) rfl rfl Try.func29 (by kernel_rfl) rfl #[.slice Ao25 t527.length co25, .slice Ao26 t528.length co26, .int .i64 t529, .slice Ao27 t530.length co27] rfl zA ?_; (with_reducible refine (spec_OneByOne.calls k _ _ t527 _ _ t528 t529 _ _ t530 t538 _ ?side1 ?side2 ?side3 ?side4 ?side5 ?side6 A5.out).mono ?_); (case side1 => exact zC (Kd.R_reads' HO532.out).2.2); (case side2 => exact (Kd.R_reads' HO532.out).2.1); (case side3 => exact zC (Kd.R_reads' HO534.out).2.2); (case side4 => exact (Kd.R_reads' HO534.out).2.1); (case side5 => exact zC (Kd.R_reads' HO536.out).2.2); (case side6 => exact (Kd.R_reads' HO536.out).2.1); rintro e w' ⟨rfl, ⟨nd, rfl⟩⟩; refine ⟨_, rfl, ?_⟩))
      go_ret
      exact ⟨by first | rfl | (simp [errW_none, errW_some] <;> rfl) | (simp [*, errW_none, errW_some] <;> rfl), zB HB.out⟩

/-- THE ONE PURE STATEMENT of laws_FnOneByOne: yours. -/
def laws_FnOneByOne.Pure : Prop := ∀ (l0 : List Int), l0.length ≤ maxLen → l0.length * 1 ≤ 140737488351232 → (∀ x ∈ l0, (Lit.int .u8 x).wf = true) → ∃ k, laws_FnOneByOne.f k l0 = some true
theorem laws_FnOneByOne.walk (P : laws_FnOneByOne.Pure) (a0 : Option Addr) (len0 cap0 : Nat) (z0 : List Int) (w : World) (w0 : (a0 = none ∧ len0 = 0 ∧ cap0 = 0 ∧ z0 = []) ∨ ∃ x, a0 = some x ∧ len0 ≤ cap0 ∧ cap0 ≤ maxLen ∧ z0.length = cap0 ∧ (∀ i, i < z0.length → w.cell? (x.add i) = some (.int .u8 (z0.getD i 0))) ∧ ∀ n ∈ z0, (Lit.int .u8 n).wf = true) (y0 : len0 * 1 ≤ 140737488351232) :
    Calls Try.prog 6 #[.slice a0 len0 cap0] w fun e w' => e = .returned (.bool true) ∧ Below w.heap.size w w' := by
  obtain ⟨l0, rfl, hr0, hm0, hw0, hc0⟩ := ReadsInt.ofRowC w0
  obtain ⟨k, h⟩ := P l0 hm0 y0 hw0
  refine (laws_FnOneByOne.calls k _ _ l0 true w (Kd.C_of_reads (d := (0 : Int)) (h1 := fun _ => rfl) hr0) hc0 h).mono ?_
  rintro e w' ⟨rfl, hd⟩
  exact ⟨rfl, hd⟩

end Go.Proofs.Ytfhkahlfpchhpaa.PAll
