/- Own text of this session, written by a program of this session (wip/t/own.py) out of what the kit tells of the functions: each Go function as a Lean function, and the walk through its code. -/
import Derived.Test.YtbanhinbndeboaaT
import Derived.Test.YtbanhinbndeboaaF3
import Derived.Test.YtbanhinbndeboaaF4
import Derived.Test.YtbanhinbndeboaaF7
namespace Go.Proofs.Ytbanhinbndeboaa.PAll
open Go.RowKit Go.Proofs.YtbanhinbndeboaaW.PrintWords Go.Proofs.YtbanhinbndeboaaW.PrintLast Go.Proofs.YtbanhinbndeboaaW.PrintMore
attribute [local go_sem] max2_int min2_int max_two min_two max_three min_three max_four min_four   -- for this text's walks alone
set_option linter.unusedVariables false
set_option linter.unusedSimpArgs false

/-! ### laws_FnArrivalRow: function 4 -/
mutual
def laws_FnArrivalRow.l0 : Nat → List Int → Int → List Int → List Int → Int → Option (Bool)
 | 0, _, _, _, _, _ => none
 | k + 1, x3, x5, x6, x7, x8 => if x8 < (x3.length : Int) then (laws_FnArrivalRow.j1 k x3 x5 x6 x7 x8 ((x7.length : Int) == (x3.length : Int))) else (laws_FnArrivalRow.j1 k x3 x5 x6 x7 x8 false)
def laws_FnArrivalRow.j1 : Nat → List Int → Int → List Int → List Int → Int → Bool → Option (Bool)
 | 0, _, _, _, _, _, _ => none
 | k + 1, x3, x5, x6, x7, x8, x51 => if x51 = true then (if 0 ≤ x8 then (if x8 < (x6.length : Int) then (if (rd x6 x8) > 0 then (if x8 < (x7.length : Int) then (if (rd x7 x8) = 1 then (laws_FnArrivalRow.l0 k x3 x5 x6 x7 (wrap64 (x8 + 1))) else (some false)) else (none)) else (if x8 < (x7.length : Int) then (if (rd x7 x8) = 0 then (laws_FnArrivalRow.l0 k x3 x5 x6 x7 (wrap64 (x8 + 1))) else (some false)) else (none))) else (none)) else (none)) else ((impl_DistancesFrom.f k x3 x5).bind fun t486 => ((laws_sameInts.f k x6 t486).bind fun t489 => (if t489 = true then (some ((x7.length : Int) == (x3.length : Int))) else (some false))))
end
def laws_FnArrivalRow.f (k : Nat) (l0 : List Int) : Option (Bool) := if (l0.length : Int) > 1048576 then (some true) else ((spec_DrawArrivalRow.f k l0).bind fun bt467 => ((impl_ArrivalRow.f k bt467.1 bt467.2.1 bt467.2.2).bind fun t472 => ((spec_ArrivalRow.f k bt467.1 bt467.2.1 bt467.2.2).bind fun t475 => ((laws_sameInts.f k t472 t475).bind fun t478 => (if t478 = true then (if (t472.length : Int) = 0 then ((laws_alive.f k).bind fun t479 => (some t479)) else ((impl_LitState.f k (bt467.1.length : Int) bt467.2.2).bind fun t480 => ((impl_FiredRow.f k bt467.1 bt467.2.1 t480 12).bind fun t483 => (laws_FnArrivalRow.l0 k bt467.1 bt467.2.2 t472 t483 0)))) else (some false))))))
theorem laws_FnArrivalRow.mono_l : ∀ k, (∀ y0 y1 y2 y3 y4, LeO (laws_FnArrivalRow.l0 k y0 y1 y2 y3 y4) (laws_FnArrivalRow.l0 (k + 1) y0 y1 y2 y3 y4)) ∧ (∀ y0 y1 y2 y3 y4 y5, LeO (laws_FnArrivalRow.j1 k y0 y1 y2 y3 y4 y5) (laws_FnArrivalRow.j1 (k + 1) y0 y1 y2 y3 y4 y5))
 | 0 => ⟨fun _ _ _ _ _ r h => by simp [laws_FnArrivalRow.l0] at h, fun _ _ _ _ _ _ r h => by simp [laws_FnArrivalRow.j1] at h⟩
 | k + 1 => by
  obtain ⟨ih0, ih1⟩ := laws_FnArrivalRow.mono_l k
  refine ⟨?_, ?_⟩
  ·intro y0 y1 y2 y3 y4
   unfold laws_FnArrivalRow.l0
   repeat' first
   | (with_reducible exact ih0 _ _ _ _ _)
   | (with_reducible exact ih1 _ _ _ _ _ _)
   | (with_reducible exact impl_ArrivalRow.mono _ _ _ _)
   | (with_reducible exact impl_DistancesFrom.mono _ _ _)
   | (with_reducible exact impl_FiredRow.mono _ _ _ _ _)
   | (with_reducible exact impl_LitState.mono _ _ _)
   | (with_reducible exact laws_alive.mono _)
   | (with_reducible exact laws_sameInts.mono _ _ _)
   | (with_reducible exact spec_ArrivalRow.mono _ _ _ _)
   | (with_reducible exact spec_DrawArrivalRow.mono _ _)
   | (with_reducible exact LeO.refl _)
   | (with_reducible exact LeO.none _)
   | (with_reducible refine LeO.ite ?_ ?_)
   | (with_reducible refine LeO.bind ?_ (fun _ => ?_))
   | exact ih0 _ _ _ _ _
   | exact ih1 _ _ _ _ _ _
   | exact impl_ArrivalRow.mono _ _ _ _
   | exact impl_DistancesFrom.mono _ _ _
   | exact impl_FiredRow.mono _ _ _ _ _
   | exact impl_LitState.mono _ _ _
   | exact laws_alive.mono _
   | exact laws_sameInts.mono _ _ _
   | exact spec_ArrivalRow.mono _ _ _ _
   | exact spec_DrawArrivalRow.mono _ _
   | exact LeO.none _
   | refine LeO.ite ?_ ?_
   | refine LeO.bind ?_ (fun _ => ?_)
  ·intro y0 y1 y2 y3 y4 y5
   unfold laws_FnArrivalRow.j1
   repeat' first
   | (with_reducible exact ih0 _ _ _ _ _)
   | (with_reducible exact ih1 _ _ _ _ _ _)
   | (with_reducible exact impl_ArrivalRow.mono _ _ _ _)
   | (with_reducible exact impl_DistancesFrom.mono _ _ _)
   | (with_reducible exact impl_FiredRow.mono _ _ _ _ _)
   | (with_reducible exact impl_LitState.mono _ _ _)
   | (with_reducible exact laws_alive.mono _)
   | (with_reducible exact laws_sameInts.mono _ _ _)
   | (with_reducible exact spec_ArrivalRow.mono _ _ _ _)
   | (with_reducible exact spec_DrawArrivalRow.mono _ _)
   | (with_reducible exact LeO.refl _)
   | (with_reducible exact LeO.none _)
   | (with_reducible refine LeO.ite ?_ ?_)
   | (with_reducible refine LeO.bind ?_ (fun _ => ?_))
   | exact ih0 _ _ _ _ _
   | exact ih1 _ _ _ _ _ _
   | exact impl_ArrivalRow.mono _ _ _ _
   | exact impl_DistancesFrom.mono _ _ _
   | exact impl_FiredRow.mono _ _ _ _ _
   | exact impl_LitState.mono _ _ _
   | exact laws_alive.mono _
   | exact laws_sameInts.mono _ _ _
   | exact spec_ArrivalRow.mono _ _ _ _
   | exact spec_DrawArrivalRow.mono _ _
   | exact LeO.none _
   | refine LeO.ite ?_ ?_
   | refine LeO.bind ?_ (fun _ => ?_)
theorem laws_FnArrivalRow.mono : ∀ a0 k, LeO (laws_FnArrivalRow.f k a0) (laws_FnArrivalRow.f (k + 1) a0) := by
 intro a0 k
 obtain ⟨ih0, ih1⟩ := laws_FnArrivalRow.mono_l k
 unfold laws_FnArrivalRow.f
 repeat' first
   | (with_reducible exact ih0 _ _ _ _ _)
   | (with_reducible exact ih1 _ _ _ _ _ _)
   | (with_reducible exact impl_ArrivalRow.mono _ _ _ _)
   | (with_reducible exact impl_DistancesFrom.mono _ _ _)
   | (with_reducible exact impl_FiredRow.mono _ _ _ _ _)
   | (with_reducible exact impl_LitState.mono _ _ _)
   | (with_reducible exact laws_alive.mono _)
   | (with_reducible exact laws_sameInts.mono _ _ _)
   | (with_reducible exact spec_ArrivalRow.mono _ _ _ _)
   | (with_reducible exact spec_DrawArrivalRow.mono _ _)
   | (with_reducible exact LeO.refl _)
   | (with_reducible exact LeO.none _)
   | (with_reducible refine LeO.ite ?_ ?_)
   | (with_reducible refine LeO.bind ?_ (fun _ => ?_))
   | exact ih0 _ _ _ _ _
   | exact ih1 _ _ _ _ _ _
   | exact impl_ArrivalRow.mono _ _ _ _
   | exact impl_DistancesFrom.mono _ _ _
   | exact impl_FiredRow.mono _ _ _ _ _
   | exact impl_LitState.mono _ _ _
   | exact laws_alive.mono _
   | exact laws_sameInts.mono _ _ _
   | exact spec_ArrivalRow.mono _ _ _ _
   | exact spec_DrawArrivalRow.mono _ _
   | exact LeO.none _
   | refine LeO.ite ?_ ?_
   | refine LeO.bind ?_ (fun _ => ?_)
set_option maxHeartbeats 8000000 in
set_option maxRecDepth 100000 in
theorem laws_FnArrivalRow.calls (k : Nat) (A0 : Option Addr) (c0 : Nat) (l0 : List Int) (r : Bool) (w : World) (hr0 : Kd.C (Kd.int .u8) w A0 l0.length l0) (hc0 : l0.length ≤ c0) (h : laws_FnArrivalRow.f k l0 = some r) :
  Calls Try.prog 4 #[.slice A0 l0.length c0] w fun e w' => e = .returned (.bool r) ∧ Below w.heap.size w w' := by
 have HR0 := Aside0.mk hr0
 have HC0 := Aside0.mk hc0
 clear hr0 hc0
 have HB := Aside0.mk (Below.refl w.heap.size w)
 have H : (if (l0.length : Int) > 1048576 then (some true) else ((spec_DrawArrivalRow.f k l0).bind fun bt467 => ((impl_ArrivalRow.f k bt467.1 bt467.2.1 bt467.2.2).bind fun t472 => ((spec_ArrivalRow.f k bt467.1 bt467.2.1 bt467.2.2).bind fun t475 => ((laws_sameInts.f k t472 t475).bind fun t478 => (if t478 = true then (if (t472.length : Int) = 0 then ((laws_alive.f k).bind fun t479 => (some t479)) else ((impl_LitState.f k (bt467.1.length : Int) bt467.2.2).bind fun t480 => ((impl_FiredRow.f k bt467.1 bt467.2.1 t480 12).bind fun t483 => (laws_FnArrivalRow.l0 k bt467.1 bt467.2.2 t472 t483 0)))) else (some false))))))) = some r := h
 clear h
 by_cases c2 : (l0.length : Int) > 1048576
 ·rw [if_pos c2] at H
  have c2b0 : decide (1048576 < (l0.length : Int)) = true := decide_eq_true c2
  have c2b1 : decide (1048576 < l0.length) = true := decide_eq_true (by omega)
  clear c2
  obtain rfl := Option.some.inj H
  go_enter Try.func4, Try.ntmps4
  go_wp2
  go_ret
  exact ⟨by first | rfl | (simp [errW_none, errW_some] <;> rfl) | (simp [*, errW_none, errW_some] <;> rfl), zB HB.out⟩
 ·rw [if_neg c2] at H
  have c2b0 : decide (1048576 < (l0.length : Int)) = false := decide_eq_false c2
  have c2b1 : decide (1048576 < l0.length) = false := decide_eq_false (by omega)
  clear c2
  replace H := Option.bind_eq_some_iff.mp H
  obtain ⟨⟨t467, t468, t469⟩, A30, H⟩ := H
  replace H : ((impl_ArrivalRow.f k t467 t468 t469).bind fun t472 => ((spec_ArrivalRow.f k t467 t468 t469).bind fun t475 => ((laws_sameInts.f k t472 t475).bind fun t478 => (if t478 = true then (if (t472.length : Int) = 0 then ((laws_alive.f k).bind fun t479 => (some t479)) else ((impl_LitState.f k (t467.length : Int) t469).bind fun t480 => ((impl_FiredRow.f k t467 t468 t480 12).bind fun t483 => (laws_FnArrivalRow.l0 k t467 t469 t472 t483 0)))) else (some false))))) = some r := H
  have A3 := Aside0.mk A30
  clear A30
  replace H := Option.bind_eq_some_iff.mp H
  obtain ⟨t472, A40, H⟩ := H
  replace H : ((spec_ArrivalRow.f k t467 t468 t469).bind fun t475 => ((laws_sameInts.f k t472 t475).bind fun t478 => (if t478 = true then (if (t472.length : Int) = 0 then ((laws_alive.f k).bind fun t479 => (some t479)) else ((impl_LitState.f k (t467.length : Int) t469).bind fun t480 => ((impl_FiredRow.f k t467 t468 t480 12).bind fun t483 => (laws_FnArrivalRow.l0 k t467 t469 t472 t483 0)))) else (some false)))) = some r := H
  have A4 := Aside0.mk A40
  clear A40
  replace H := Option.bind_eq_some_iff.mp H
  obtain ⟨t475, A50, H⟩ := H
  replace H : ((laws_sameInts.f k t472 t475).bind fun t478 => (if t478 = true then (if (t472.length : Int) = 0 then ((laws_alive.f k).bind fun t479 => (some t479)) else ((impl_LitState.f k (t467.length : Int) t469).bind fun t480 => ((impl_FiredRow.f k t467 t468 t480 12).bind fun t483 => (laws_FnArrivalRow.l0 k t467 t469 t472 t483 0)))) else (some false))) = some r := H
  have A5 := Aside0.mk A50
  clear A50
  replace H := Option.bind_eq_some_iff.mp H
  obtain ⟨t478, A60, H⟩ := H
  replace H : (if t478 = true then (if (t472.length : Int) = 0 then ((laws_alive.f k).bind fun t479 => (some t479)) else ((impl_LitState.f k (t467.length : Int) t469).bind fun t480 => ((impl_FiredRow.f k t467 t468 t480 12).bind fun t483 => (laws_FnArrivalRow.l0 k t467 t469 t472 t483 0)))) else (some false)) = some r := H
  have A6 := Aside0.mk A60
  clear A60
  by_cases c7 : t478 = true
  ·subst c7
   have H1 : (if (t472.length : Int) = 0 then ((laws_alive.f k).bind fun t479 => (some t479)) else ((impl_LitState.f k (t467.length : Int) t469).bind fun t480 => ((impl_FiredRow.f k t467 t468 t480 12).bind fun t483 => (laws_FnArrivalRow.l0 k t467 t469 t472 t483 0)))) = some r := by rw [if_pos rfl] at H; exact H
   clear H
   have H := H1
   clear H1
   by_cases c8 : (t472.length : Int) = 0
   ·rw [if_pos c8] at H
    have c8b0 : ((t472.length : Int) == 0) = true := beq_iff_eq.mpr c8
    have c8b1 : ((t472.length : Int) != 0) = false := bne_eq_false_iff_eq.mpr c8
    clear c8
    replace H := Option.bind_eq_some_iff.mp H
    obtain ⟨t479, A90, H⟩ := H
    replace H : (some t479) = some r := H
    have A9 := Aside0.mk A90
    clear A90
    obtain rfl := Option.some.inj H
    go_enter Try.func4, Try.ntmps4
    go_wp2_with (first | ((with_reducible refine gate_callee (f := 13) rfl ?_); refine goesL_ (some 15) rfl rfl Try.func13 (by kernel_rfl) rfl #[.slice A0 l0.length c0] rfl zA ?_; (with_reducible refine (spec_DrawArrivalRow.calls k _ _ l0 t467 t468 t469 _ ?side1 ?side2 A3.out).mono ?_); (case side1 => exact zC HR0.out); (case side2 => exact HC0.out); rintro e w10 ⟨v470, rfl, ho0, hb⟩; refine ⟨_, rfl, ?_⟩; have n0_ := Aside0.mk (Kd.R_lower ho0 (below_size (zB HB.out))); have n1_ := Aside0.mk (below_step (zB HB.out) hb); clear HB; have HO471 := n0_; have HB := n1_; clear n0_ n1_; (try clear hb); (try clear hb2); (try clear hk); (try clear hi); (try clear ho0); obtain ⟨Ao11, co11, eo11⟩ := Kd.R_slice HO471.out; subst eo11) | ((with_reducible refine gate_callee (f := 14) rfl ?_); refine goesL_ (some 22) rfl rfl Try.func14 (by kernel_rfl) rfl #[.slice Ao11 t467.length co11, .int .i64 t468, .int .i64 t469] rfl zA ?_; (with_reducible refine (impl_ArrivalRow.calls k _ _ t467 t468 t469 t472 _ ?side1 ?side2 A4.out).mono ?_); (case side1 => exact zC (Kd.R_reads' HO471.out).2.2); (case side2 => exact (Kd.R_reads' HO471.out).2.1); rintro e w12 ⟨v473, rfl, ho0, hb⟩; refine ⟨_, rfl, ?_⟩; have n0_ := Aside0.mk (Kd.R_elder' (zR HO471.out) (Kd.R_base ho0) hb); have n1_ := Aside0.mk (Kd.R_lower (Kd.R_new' ho0 (Kd.R_lt (zR HO471.out))) (below_size (zB HB.out))); have n2_ := Aside0.mk (below_step (zB HB.out) hb); clear HO471; clear HB; have HO471 := n0_; have HO474 := n1_; have HB := n2_; clear n0_ n1_ n2_; (try clear hb); (try clear hb2); (try clear hk); (try clear hi); (try clear ho0)) | ((with_reducible refine gate_callee (f := 15) rfl ?_); refine goesL_ (some 27) rfl rfl Try.func15 (by kernel_rfl) rfl #[.slice Ao11 t467.length co11, .int .i64 t468, .int .i64 t469] rfl zA ?_; (with_reducible refine (spec_ArrivalRow.calls k _ _ t467 t468 t469 t475 _ ?side1 ?side2 A5.out).mono ?_); (case side1 => exact zC (Kd.R_reads' HO471.out).2.2); (case side2 => exact (Kd.R_reads' HO471.out).2.1); rintro e w13 ⟨v476, rfl, ho0, hb⟩; refine ⟨_, rfl, ?_⟩; have n0_ := Aside0.mk (Kd.R_elder' (zR HO471.out) (Kd.R_base ho0) hb); have n1_ := Aside0.mk (Kd.R_elder' (zR HO474.out) (Kd.R_base ho0) hb); have n2_ := Aside0.mk (Kd.R_lower (Kd.R_new' (Kd.R_new' ho0 (Kd.R_lt (zR HO471.out))) (Kd.R_lt (zR HO474.out))) (below_size (zB HB.out))); have n3_ := Aside0.mk (below_step (zB HB.out) hb); clear HO471; clear HO474; clear HB; have HO471 := n0_; have HO474 := n1_; have HO477 := n2_; have HB := n3_; clear n0_ n1_ n2_ n3_; (try clear hb); (try clear hb2); (try clear hk); (try clear hi); (try clear ho0); obtain ⟨Ao14, co14, eo14⟩ := Kd.R_slice HO474.out; subst eo14; obtain ⟨Ao15, co15, eo15⟩ := Kd.R_slice HO477.out; subst eo15) | ((with_reducible refine gate_callee (f := 9) rfl ?_); refine goesL_ (some 28) rfl rfl Try.func9 (by kernel_rfl) rfl #[.slice Ao14 t472.length co14, .slice Ao15 t475.length co15] rfl zA ?_; (with_reducible refine (laws_sameInts.calls k _ _ t472 _ _ t475 true _ ?side1 ?side2 ?side3 ?side4 A6.out).mono ?_); (case side1 => exact zC (Kd.R_reads' HO474.out).2.2); (case side2 => exact (Kd.R_reads' HO474.out).2.1); (case side3 => exact zC (Kd.R_reads' HO477.out).2.2); (case side4 => exact (Kd.R_reads' HO477.out).2.1); rintro e w' ⟨rfl, ⟨nd, rfl⟩⟩; refine ⟨_, rfl, ?_⟩) | ((with_reducible refine gate_callee (f := 11) rfl ?_); refine goesL_ (some 33) rfl rfl Try.func11 (by kernel_rfl) rfl #[] rfl zA ?_; (with_reducible refine (laws_alive.calls k  t479 _ A9.out).mono ?_); rintro e w16 ⟨rfl, hb⟩; refine ⟨_, rfl, ?_⟩; have n0_ := Aside0.mk (Kd.R_below (zR HO471.out) hb); have n1_ := Aside0.mk (Kd.R_below (zR HO474.out) hb); have n2_ := Aside0.mk (Kd.R_below (zR HO477.out) hb); have n3_ := Aside0.mk (below_step (zB HB.out) hb); clear HO471; clear HO474; clear HO477; clear HB; have HO471 := n0_; have HO474 := n1_; have HO477 := n2_; have HB := n3_; clear n0_ n1_ n2_ n3_; (try clear hb); (try clear hb2); (try clear hk); (try clear hi)))
    go_ret
    exact ⟨by first | rfl | (simp [errW_none, errW_some] <;> rfl) | (simp [*, errW_none, errW_some] <;> rfl), zB HB.out⟩
   ·rw [if_neg c8] at H
    have c8b0 : ((t472.length : Int) == 0) = false := beq_eq_false_iff_ne.mpr c8
    have c8b1 : ((t472.length : Int) != 0) = true := bne_iff_ne.mpr c8
    have c8b2 : ¬ (t472 = []) := fun h_ => c8 (by rw [h_]; rfl)
    replace H := Option.bind_eq_some_iff.mp H
    obtain ⟨t480, A170, H⟩ := H
    replace H : ((impl_FiredRow.f k t467 t468 t480 12).bind fun t483 => (laws_FnArrivalRow.l0 k t467 t469 t472 t483 0)) = some r := H
    have A17 := Aside0.mk A170
    clear A170
    replace H := Option.bind_eq_some_iff.mp H
    obtain ⟨t483, A180, H⟩ := H
    replace H : (laws_FnArrivalRow.l0 k t467 t469 t472 t483 0) = some r := H
    have A18 := Aside0.mk A180
    clear A180
    have H' := Aside0.mk H
    clear H
    go_enter Try.func4, Try.ntmps4
    go_wp2_with (first | ((with_reducible refine gate_callee (f := 13) rfl ?_); refine goesL_ (some 15) rfl rfl Try.func13 (by kernel_rfl) rfl #[.slice A0 l0.length c0] rfl zA ?_; (with_reducible refine (spec_DrawArrivalRow.calls k _ _ l0 t467 t468 t469 _ ?side1 ?side2 A3.out).mono ?_); (case side1 => exact zC HR0.out); (case side2 => exact HC0.out); rintro e w19 ⟨v470, rfl, ho0, hb⟩; refine ⟨_, rfl, ?_⟩; have n0_ := Aside0.mk (Kd.R_lower ho0 (below_size (zB HB.out))); have n1_ := Aside0.mk (below_step (zB HB.out) hb); clear HB; have HO471 := n0_; have HB := n1_; clear n0_ n1_; (try clear hb); (try clear hb2); (try clear hk); (try clear hi); (try clear ho0); obtain ⟨Ao20, co20, eo20⟩ := Kd.R_slice HO471.out; subst eo20) | ((with_reducible refine gate_callee (f := 14) rfl ?_); refine goesL_ (some 22) rfl rfl Try.func14 (by kernel_rfl) rfl #[.slice Ao20 t467.length co20, .int .i64 t468, .int .i64 t469] rfl zA ?_; (with_reducible refine (impl_ArrivalRow.calls k _ _ t467 t468 t469 t472 _ ?side1 ?side2 A4.out).mono ?_); (case side1 => exact zC (Kd.R_reads' HO471.out).2.2); (case side2 => exact (Kd.R_reads' HO471.out).2.1); rintro e w21 ⟨v473, rfl, ho0, hb⟩; refine ⟨_, rfl, ?_⟩; have n0_ := Aside0.mk (Kd.R_elder' (zR HO471.out) (Kd.R_base ho0) hb); have n1_ := Aside0.mk (Kd.R_lower (Kd.R_new' ho0 (Kd.R_lt (zR HO471.out))) (below_size (zB HB.out))); have n2_ := Aside0.mk (below_step (zB HB.out) hb); clear HO471; clear HB; have HO471 := n0_; have HO474 := n1_; have HB := n2_; clear n0_ n1_ n2_; (try clear hb); (try clear hb2); (try clear hk); (try clear hi); (try clear ho0)) | ((with_reducible refine gate_callee (f := 15) rfl ?_); refine goesL_ (some 27) rfl rfl Try.func15 (by kernel_rfl) rfl #[.slice Ao20 t467.length co20, .int .i64 t468, .int .i64 t469] rfl zA ?_; (with_reducible refine (spec_ArrivalRow.calls k _ _ t467 t468 t469 t475 _ ?side1 ?side2 A5.out).mono ?_); (case side1 => exact zC (Kd.R_reads' HO471.out).2.2); (case side2 => exact (Kd.R_reads' HO471.out).2.1); rintro e w22 ⟨v476, rfl, ho0, hb⟩; refine ⟨_, rfl, ?_⟩; have n0_ := Aside0.mk (Kd.R_elder' (zR HO471.out) (Kd.R_base ho0) hb); have n1_ := Aside0.mk (Kd.R_elder' (zR HO474.out) (Kd.R_base ho0) hb); have n2_ := Aside0.mk (Kd.R_lower (Kd.R_new' (Kd.R_new' ho0 (Kd.R_lt (zR HO471.out))) (Kd.R_lt (zR HO474.out))) (below_size (zB HB.out))); have n3_ := Aside0.mk (below_step (zB HB.out) hb); clear HO471; clear HO474; clear HB; have HO471 := n0_; have HO474 := n1_; have HO477 := n2_; have HB := n3_; clear n0_ n1_ n2_ n3_; (try clear hb); (try clear hb2); (try clear hk); (try clear hi); (try clear ho0); obtain ⟨Ao23, co23, eo23⟩ := Kd.R_slice HO474.out; subst eo23; obtain ⟨Ao24, co24, eo24⟩ := Kd.R_slice HO477.out; subst eo24) | ((with_reducible refine gate_callee (f := 9) rfl ?_); refine goesL_ (some 28) rfl rfl Try.func9 (by kernel_rfl) rfl #[.slice Ao23 t472.length co23, .slice Ao24 t475.length co24] rfl zA ?_; (with_reducible refine (laws_sameInts.calls k _ _ t472 _ _ t475 true _ ?side1 ?side2 ?side3 ?side4 A6.out).mono ?_); (case side1 => exact zC (Kd.R_reads' HO474.out).2.2); (case side2 => exact (Kd.R_reads' HO474.out).2.1); (case side3 => exact zC (Kd.R_reads' HO477.out).2.2); (case side4 => exact (Kd.R_reads' HO477.out).2.1); rintro e w' ⟨rfl, ⟨nd, rfl⟩⟩; refine ⟨_, rfl, ?_⟩) | ((with_reducible refine gate_callee (f := 16) rfl ?_); refine goesL_ (some 39) rfl rfl Try.func16 (by kernel_rfl) rfl #[.int .i64 (t467.length : Int), .int .i64 t469] rfl zA ?_; (with_reducible refine (impl_LitState.calls k (t467.length : Int) t469 t480 _ A17.out).mono ?_); rintro e w25 ⟨v481, rfl, ho0, hb⟩; refine ⟨_, rfl, ?_⟩; have n0_ := Aside0.mk (Kd.R_elder' (zR HO471.out) (Kd.R_base ho0) hb); have n1_ := Aside0.mk (Kd.R_elder' (zR HO474.out) (Kd.R_base ho0) hb); have n2_ := Aside0.mk (Kd.R_elder' (zR HO477.out) (Kd.R_base ho0) hb); have n3_ := Aside0.mk (Kd.R_lower (Kd.R_new' (Kd.R_new' (Kd.R_new' ho0 (Kd.R_lt (zR HO471.out))) (Kd.R_lt (zR HO474.out))) (Kd.R_lt (zR HO477.out))) (below_size (zB HB.out))); have n4_ := Aside0.mk (below_step (zB HB.out) hb); clear HO471; clear HO474; clear HO477; clear HB; have HO471 := n0_; have HO474 := n1_; have HO477 := n2_; have HO482 := n3_; have HB := n4_; clear n0_ n1_ n2_ n3_ n4_; (try clear hb); (try clear hb2); (try clear hk); (try clear hi); (try clear ho0); obtain ⟨Ao26, co26, eo26⟩ := Kd.R_slice HO482.out; subst eo26) | ((with_reducible refine gate_callee (f := 8) rfl ?_); refine goesL_ (some 40) rfl rfl Try.func8 (by kernel_rfl) rfl #[.slice Ao20 t467.length co20, .int .i64 t468, .slice Ao26 t480.length co26, .int .i64 12] rfl zA ?_; (with_reducible refine (impl_FiredRow.calls k _ _ t467 t468 _ _ t480 12 t483 _ ?side1 ?side2 ?side3 ?side4 A18.out).mono ?_); (case side1 => exact zC (Kd.R_reads' HO471.out).2.2); (case side2 => exact (Kd.R_reads' HO471.out).2.1); (case side3 => exact zC (Kd.R_reads' HO482.out).2.2); (case side4 => exact (Kd.R_reads' HO482.out).2.1); rintro e w27 ⟨v484, rfl, ho0, hb⟩; refine ⟨_, rfl, ?_⟩; have n0_ := Aside0.mk (Kd.R_elder' (zR HO471.out) (Kd.R_base ho0) hb); have n1_ := Aside0.mk (Kd.R_elder' (zR HO474.out) (Kd.R_base ho0) hb); have n2_ := Aside0.mk (Kd.R_elder' (zR HO477.out) (Kd.R_base ho0) hb); have n3_ := Aside0.mk (Kd.R_elder' (zR HO482.out) (Kd.R_base ho0) hb); have n4_ := Aside0.mk (Kd.R_lower (Kd.R_new' (Kd.R_new' (Kd.R_new' (Kd.R_new' ho0 (Kd.R_lt (zR HO471.out))) (Kd.R_lt (zR HO474.out))) (Kd.R_lt (zR HO477.out))) (Kd.R_lt (zR HO482.out))) (below_size (zB HB.out))); have n5_ := Aside0.mk (below_step (zB HB.out) hb); clear HO471; clear HO474; clear HO477; clear HO482; clear HB; have HO471 := n0_; have HO474 := n1_; have HO477 := n2_; have HO482 := n3_; have HO485 := n4_; have HB := n5_; clear n0_ n1_ n2_ n3_ n4_ n5_; (try clear hb); (try clear hb2); (try clear hk); (try clear hi); (try clear ho0)))
    go_loopg [8] k (fun kq v8 w' => ∃ (x8_1 : Int), v8 = .int .i64 x8_1 ∧ Aside0 (laws_FnArrivalRow.l0 kq t467 t469 t472 t483 x8_1 = some r) ∧ Aside0 (kq ≤ k) ∧ Aside0 (Kd.R (Kd.int .i64) 3 w' w.heap.size (fun k_ => some k_ ≠ ((.slice Ao23 t472.length co23) : Value).ownBlock ∧ some k_ ≠ (v484 : Value).ownBlock) (.slice Ao20 t467.length co20) t467) ∧ Aside0 (Kd.R (Kd.int .i64) 3 w' w.heap.size (fun k_ => some k_ ≠ ((.slice Ao20 t467.length co20) : Value).ownBlock ∧ some k_ ≠ (v484 : Value).ownBlock) (.slice Ao23 t472.length co23) t472) ∧ Aside0 (Kd.R (Kd.int .i64) 3 w' w.heap.size (fun k_ => some k_ ≠ ((.slice Ao20 t467.length co20) : Value).ownBlock ∧ some k_ ≠ ((.slice Ao23 t472.length co23) : Value).ownBlock) v484 t483) ∧ Aside0 (Below w.heap.size w w'))
    case atStart => exact ⟨(0), (by first | rfl | (simp; done) | (simp [*]; done)), H', ⟨Nat.le_refl _⟩, ⟨by (with_reducible repeat (first | apply Kd.R_alloc | apply Kd.R_drewN | apply Kd.R_drew)); exact Kd.R_mono HO471.out (fun _ hk => ⟨hk.1.1.1.2, hk.2⟩)⟩, ⟨by (with_reducible repeat (first | apply Kd.R_alloc | apply Kd.R_drewN | apply Kd.R_drew)); exact Kd.R_mono HO474.out (fun _ hk => ⟨hk.1.1.1.2, hk.2⟩)⟩, ⟨by (with_reducible repeat (first | apply Kd.R_alloc | apply Kd.R_drewN | apply Kd.R_drew)); exact Kd.R_mono HO485.out (fun _ hk => ⟨hk.1.1.1.2, hk.1.1.2⟩)⟩, ⟨zB HB.out⟩⟩
    case round =>
     clear H'
     try clear c1
     try clear c2
     try clear c2b0
     try clear c2b1
     try clear p2
     try clear c4
     try clear c7
     try clear c8
     try clear c8b0
     try clear c8b1
     try clear c8b2
     try clear c9
     try clear c11
     try clear c13
     try clear c14
     try clear c15
     try clear c16
     obtain ⟨x8_1, rfl, HA, HK1, HO_3, HO_6, HO_7, HB⟩ := hrel
     cases gk with
     | zero => exact absurd HA.out (by simp [laws_FnArrivalRow.l0])
     | succ k1 =>
      have H := HA.out
      clear HA
      simp only [laws_FnArrivalRow.l0] at H
      have HC28 := Aside0.mk H
      clear H
      go_upto_region 11 with (fail)
      go_cut [51] (fun v51 wc => ∃ (kq : Nat) (x51_27 : Bool), v51 = .bool x51_27 ∧ Aside0 (laws_FnArrivalRow.j1 kq t467 t469 t472 t483 x8_1 x51_27 = some r) ∧ Aside0 (kq ≤ k1) ∧ Aside0 (Kd.R (Kd.int .i64) 3 wc w.heap.size (fun k_ => some k_ ≠ ((.slice Ao23 t472.length co23) : Value).ownBlock ∧ some k_ ≠ (v484 : Value).ownBlock) (.slice Ao20 t467.length co20) t467) ∧ Aside0 (Kd.R (Kd.int .i64) 3 wc w.heap.size (fun k_ => some k_ ≠ ((.slice Ao20 t467.length co20) : Value).ownBlock ∧ some k_ ≠ (v484 : Value).ownBlock) (.slice Ao23 t472.length co23) t472) ∧ Aside0 (Kd.R (Kd.int .i64) 3 wc w.heap.size (fun k_ => some k_ ≠ ((.slice Ao20 t467.length co20) : Value).ownBlock ∧ some k_ ≠ ((.slice Ao23 t472.length co23) : Value).ownBlock) v484 t483) ∧ Aside0 (Below w.heap.size w wc))
      case first =>
       have H := HC28.out
       clear HC28
       by_cases c29 : x8_1 < (t467.length : Int)
       ·rw [if_pos c29] at H
        have c29b0 : decide (x8_1 < (t467.length : Int)) = true := decide_eq_true c29
        clear c29
        (first | rw [c29b0] | (simp only [i64_w, i32_w]; rw [c29b0]) | skip)
        have H' := Aside0.mk H
        clear H
        obtain ⟨Ao30, co30, eo30⟩ := Kd.R_slice HO_7.out
        subst eo30
        go_wp2
        go_meet
        case rel => exact ⟨_, (((t483.length : Int) == (t467.length : Int))), (by first | rfl | (simp; done) | (simp [*]; done)), H', ⟨by have := HK1.out; first | omega | exact Nat.le_refl _⟩, ⟨by (with_reducible repeat (first | apply Kd.R_alloc | apply Kd.R_drewN | apply Kd.R_drew)); exact HO_3.out⟩, ⟨by (with_reducible repeat (first | apply Kd.R_alloc | apply Kd.R_drewN | apply Kd.R_drew)); exact HO_6.out⟩, ⟨by (with_reducible repeat (first | apply Kd.R_alloc | apply Kd.R_drewN | apply Kd.R_drew)); exact HO_7.out⟩, ⟨zB HB.out⟩⟩
       ·rw [if_neg c29] at H
        have c29b0 : decide (x8_1 < (t467.length : Int)) = false := decide_eq_false c29
        clear c29
        (first | rw [c29b0] | (simp only [i64_w, i32_w]; rw [c29b0]) | skip)
        have H' := Aside0.mk H
        clear H
        go_wp2
        go_meet
        case rel => exact ⟨_, (false), (by first | rfl | (simp; done) | (simp [*]; done)), H', ⟨by have := HK1.out; first | omega | exact Nat.le_refl _⟩, ⟨by (with_reducible repeat (first | apply Kd.R_alloc | apply Kd.R_drewN | apply Kd.R_drew)); exact HO_3.out⟩, ⟨by (with_reducible repeat (first | apply Kd.R_alloc | apply Kd.R_drewN | apply Kd.R_drew)); exact HO_6.out⟩, ⟨by (with_reducible repeat (first | apply Kd.R_alloc | apply Kd.R_drewN | apply Kd.R_drew)); exact HO_7.out⟩, ⟨zB HB.out⟩⟩
      case rest =>
       clear HC28
       try clear c1
       try clear c2
       try clear c2b0
       try clear c2b1
       try clear p2
       try clear c4
       try clear c7
       try clear c8
       try clear c8b0
       try clear c8b1
       try clear c8b2
       try clear c9
       try clear c11
       try clear c13
       try clear c14
       try clear c15
       try clear c16
       try clear c29
       try clear c29b0
       try clear p2
       obtain ⟨kq, x51_27, rfl, HA, HJ27, HO_3, HO_6, HO_7, HB⟩ := hcut
       cases kq with
       | zero => exact absurd HA.out (by simp [laws_FnArrivalRow.j1])
       | succ kj27 =>
        have H := HA.out
        clear HA
        simp only [laws_FnArrivalRow.j1] at H
        by_cases c31 : x51_27 = true
        ·subst c31
         have H1 : (if 0 ≤ x8_1 then (if x8_1 < (t472.length : Int) then (if (rd t472 x8_1) > 0 then (if x8_1 < (t483.length : Int) then (if (rd t483 x8_1) = 1 then (laws_FnArrivalRow.l0 kj27 t467 t469 t472 t483 (wrap64 (x8_1 + 1))) else (some false)) else (none)) else (if x8_1 < (t483.length : Int) then (if (rd t483 x8_1) = 0 then (laws_FnArrivalRow.l0 kj27 t467 t469 t472 t483 (wrap64 (x8_1 + 1))) else (some false)) else (none))) else (none)) else (none)) = some r := by rw [if_pos rfl] at H; exact H
         clear H
         have H := H1
         clear H1
         by_cases c32 : 0 ≤ x8_1
         ·rw [if_pos c32] at H
          have c32b0 : decide (0 ≤ x8_1) = true := decide_eq_true c32
          clear c32
          by_cases c33 : x8_1 < (t472.length : Int)
          ·rw [if_pos c33] at H
           have c33b0 : decide (x8_1 < (t472.length : Int)) = true := decide_eq_true c33
           clear c33
           by_cases c34 : (rd t472 x8_1) > 0
           ·rw [if_pos c34] at H
            have c34b0 : decide (0 < (rd t472 x8_1)) = true := decide_eq_true c34
            clear c34
            by_cases c35 : x8_1 < (t483.length : Int)
            ·rw [if_pos c35] at H
             have c35b0 : decide (x8_1 < (t483.length : Int)) = true := decide_eq_true c35
             clear c35
             by_cases c36 : (rd t483 x8_1) = 1
             ·rw [if_pos c36] at H
              have c36b0 : ((rd t483 x8_1) == 1) = true := beq_iff_eq.mpr c36
              have c36b1 : ((rd t483 x8_1) != 1) = false := bne_eq_false_iff_eq.mpr c36
              clear c36
              have H' := Aside0.mk H
              clear H
              have p490 : 0 ≤ (x8_1 : Int) := zD
              have q490 : x8_1 < (t472.length : Int) := zD
              obtain ⟨ad490, e490, hx490_0⟩ := Kd.at_int (Kd.R_reads' HO_6.out).2.2 x8_1 p490 q490
              cases e490
              replace p490 := eq_true p490
              replace q490 := eq_true q490
              obtain ⟨Ao37, co37, eo37⟩ := Kd.R_slice HO_7.out
              subst eo37
              have p491 : 0 ≤ (x8_1 : Int) := zD
              have q491 : x8_1 < (t483.length : Int) := zD
              obtain ⟨ad491, e491, hx491_0⟩ := Kd.at_int (Kd.R_reads' HO_7.out).2.2 x8_1 p491 q491
              cases e491
              replace p491 := eq_true p491
              replace q491 := eq_true q491
              go_wp2
              go_roundg kj27
              case measure => have := HK1.out; have := HJ27.out; omega
              case rel => exact ⟨(wrap64 (x8_1 + 1)), (by first | rfl | (simp; done) | (simp [*]; done)), H', ⟨by have := HK1.out; have := HJ27.out; omega⟩, ⟨by (with_reducible repeat (first | apply Kd.R_alloc | apply Kd.R_drewN | apply Kd.R_drew)); exact HO_3.out⟩, ⟨by (with_reducible repeat (first | apply Kd.R_alloc | apply Kd.R_drewN | apply Kd.R_drew)); exact HO_6.out⟩, ⟨by (with_reducible repeat (first | apply Kd.R_alloc | apply Kd.R_drewN | apply Kd.R_drew)); exact HO_7.out⟩, ⟨zB HB.out⟩⟩
             ·rw [if_neg c36] at H
              have c36b0 : ((rd t483 x8_1) == 1) = false := beq_eq_false_iff_ne.mpr c36
              have c36b1 : ((rd t483 x8_1) != 1) = true := bne_iff_ne.mpr c36
              obtain rfl := Option.some.inj H
              have p490 : 0 ≤ (x8_1 : Int) := zD
              have q490 : x8_1 < (t472.length : Int) := zD
              obtain ⟨ad490, e490, hx490_0⟩ := Kd.at_int (Kd.R_reads' HO_6.out).2.2 x8_1 p490 q490
              cases e490
              replace p490 := eq_true p490
              replace q490 := eq_true q490
              obtain ⟨Ao38, co38, eo38⟩ := Kd.R_slice HO_7.out
              subst eo38
              have p491 : 0 ≤ (x8_1 : Int) := zD
              have q491 : x8_1 < (t483.length : Int) := zD
              obtain ⟨ad491, e491, hx491_0⟩ := Kd.at_int (Kd.R_reads' HO_7.out).2.2 x8_1 p491 q491
              cases e491
              replace p491 := eq_true p491
              replace q491 := eq_true q491
              go_wp2
              go_ret
              exact ⟨by first | rfl | (simp [errW_none, errW_some] <;> rfl) | (simp [*, errW_none, errW_some] <;> rfl), zB HB.out⟩
            ·rw [if_neg c35] at H
             exact absurd H (by simp)
           ·rw [if_neg c34] at H
            have c34b0 : decide (0 < (rd t472 x8_1)) = false := decide_eq_false c34
            clear c34
            by_cases c39 : x8_1 < (t483.length : Int)
            ·rw [if_pos c39] at H
             have c39b0 : decide (x8_1 < (t483.length : Int)) = true := decide_eq_true c39
             clear c39
             by_cases c40 : (rd t483 x8_1) = 0
             ·rw [if_pos c40] at H
              have c40b0 : ((rd t483 x8_1) == 0) = true := beq_iff_eq.mpr c40
              have c40b1 : ((rd t483 x8_1) != 0) = false := bne_eq_false_iff_eq.mpr c40
              clear c40
              have H' := Aside0.mk H
              clear H
              have p490 : 0 ≤ (x8_1 : Int) := zD
              have q490 : x8_1 < (t472.length : Int) := zD
              obtain ⟨ad490, e490, hx490_0⟩ := Kd.at_int (Kd.R_reads' HO_6.out).2.2 x8_1 p490 q490
              cases e490
              replace p490 := eq_true p490
              replace q490 := eq_true q490
              obtain ⟨Ao41, co41, eo41⟩ := Kd.R_slice HO_7.out
              subst eo41
              have p492 : 0 ≤ (x8_1 : Int) := zD
              have q492 : x8_1 < (t483.length : Int) := zD
              obtain ⟨ad492, e492, hx492_0⟩ := Kd.at_int (Kd.R_reads' HO_7.out).2.2 x8_1 p492 q492
              cases e492
              replace p492 := eq_true p492
              replace q492 := eq_true q492
              go_wp2
              go_roundg kj27
              case measure => have := HK1.out; have := HJ27.out; omega
              case rel => exact ⟨(wrap64 (x8_1 + 1)), (by first | rfl | (simp; done) | (simp [*]; done)), H', ⟨by have := HK1.out; have := HJ27.out; omega⟩, ⟨by (with_reducible repeat (first | apply Kd.R_alloc | apply Kd.R_drewN | apply Kd.R_drew)); exact HO_3.out⟩, ⟨by (with_reducible repeat (first | apply Kd.R_alloc | apply Kd.R_drewN | apply Kd.R_drew)); exact HO_6.out⟩, ⟨by (with_reducible repeat (first | apply Kd.R_alloc | apply Kd.R_drewN | apply Kd.R_drew)); exact HO_7.out⟩, ⟨zB HB.out⟩⟩
             ·rw [if_neg c40] at H
              have c40b0 : ((rd t483 x8_1) == 0) = false := beq_eq_false_iff_ne.mpr c40
              have c40b1 : ((rd t483 x8_1) != 0) = true := bne_iff_ne.mpr c40
              obtain rfl := Option.some.inj H
              have p490 : 0 ≤ (x8_1 : Int) := zD
              have q490 : x8_1 < (t472.length : Int) := zD
              obtain ⟨ad490, e490, hx490_0⟩ := Kd.at_int (Kd.R_reads' HO_6.out).2.2 x8_1 p490 q490
              cases e490
              replace p490 := eq_true p490
              replace q490 := eq_true q490
              obtain ⟨Ao42, co42, eo42⟩ := Kd.R_slice HO_7.out
              subst eo42
              have p492 : 0 ≤ (x8_1 : Int) := zD
              have q492 : x8_1 < (t483.length : Int) := zD
              obtain ⟨ad492, e492, hx492_0⟩ := Kd.at_int (Kd.R_reads' HO_7.out).2.2 x8_1 p492 q492
              cases e492
              replace p492 := eq_true p492
              replace q492 := eq_true q492
              go_wp2
              go_ret
              exact ⟨by first | rfl | (simp [errW_none, errW_some] <;> rfl) | (simp [*, errW_none, errW_some] <;> rfl), zB HB.out⟩
            ·rw [if_neg c39] at H
             exact absurd H (by simp)
          ·rw [if_neg c33] at H
           exact absurd H (by simp)
         ·rw [if_neg c32] at H
          exact absurd H (by simp)
        ·replace c31 := Bool.eq_false_iff.mpr c31
         subst c31
         have H1 : ((impl_DistancesFrom.f kj27 t467 t469).bind fun t486 => ((laws_sameInts.f kj27 t472 t486).bind fun t489 => (if t489 = true then (some ((t483.length : Int) == (t467.length : Int))) else (some false)))) = some r := by rw [if_neg (show ¬ (false = true) by decide)] at H; exact H
         clear H
         have H := H1
         clear H1
         replace H := Option.bind_eq_some_iff.mp H
         obtain ⟨t486, A430, H⟩ := H
         replace H : ((laws_sameInts.f kj27 t472 t486).bind fun t489 => (if t489 = true then (some ((t483.length : Int) == (t467.length : Int))) else (some false))) = some r := H
         have A43 := Aside0.mk A430
         clear A430
         replace H := Option.bind_eq_some_iff.mp H
         obtain ⟨t489, A440, H⟩ := H
         replace H : (if t489 = true then (some ((t483.length : Int) == (t467.length : Int))) else (some false)) = some r := H
         have A44 := Aside0.mk A440
         clear A440
         by_cases c45 : t489 = true
         ·subst c45
          have H1 : (some ((t483.length : Int) == (t467.length : Int))) = some r := by rw [if_pos rfl] at H; exact H
          clear H
          have H := H1
          clear H1
          obtain rfl := Option.some.inj H
          go_wp2_with (first | ((with_reducible refine gate_callee (f := 17) rfl ?_); refine goesL_ (some 68) rfl rfl Try.func17 (by kernel_rfl) rfl #[.slice Ao20 t467.length co20, .int .i64 t469] rfl zA ?_; (with_reducible refine (impl_DistancesFrom.calls kj27 _ _ t467 t469 t486 _ ?side1 ?side2 A43.out).mono ?_); (case side1 => exact zC (Kd.R_reads' HO_3.out).2.2); (case side2 => exact (Kd.R_reads' HO_3.out).2.1); rintro e w46 ⟨v487, rfl, ho0, hb⟩; refine ⟨_, rfl, ?_⟩; have n0_ := Aside0.mk (Kd.R_elder' (zR HO_3.out) (Kd.R_base ho0) hb); have n1_ := Aside0.mk (Kd.R_elder' (zR HO_6.out) (Kd.R_base ho0) hb); have n2_ := Aside0.mk (Kd.R_elder' (zR HO_7.out) (Kd.R_base ho0) hb); have n3_ := Aside0.mk (Kd.R_lower (Kd.R_new' (Kd.R_new' (Kd.R_new' ho0 (Kd.R_lt (zR HO_3.out))) (Kd.R_lt (zR HO_6.out))) (Kd.R_lt (zR HO_7.out))) (below_size (zB HB.out))); have n4_ := Aside0.mk (below_step (zB HB.out) hb); clear HO_3; clear HO_6; clear HO_7; clear HB; have HO_3 := n0_; have HO_6 := n1_; have HO_7 := n2_; have HO488 := n3_; have HB := n4_; clear n0_ n1_ n2_ n3_ n4_; (try clear hb); (try clear hb2); (try clear hk); (try clear hi); (try clear ho0); obtain ⟨Ao47, co47, eo47⟩ := Kd.R_slice HO488.out; subst eo47) | ((with_reducible refine gate_callee (f := 9) rfl ?_); refine goesL_ (some 69) rfl rfl Try.func9 (by kernel_rfl) rfl #[.slice Ao23 t472.length co23, .slice Ao47 t486.length co47] rfl zA ?_; (with_reducible refine (laws_sameInts.calls kj27 _ _ t472 _ _ t486 true _ ?side1 ?side2 ?side3 ?side4 A44.out).mono ?_); (case side1 => exact zC (Kd.R_reads' HO_6.out).2.2); (case side2 => exact (Kd.R_reads' HO_6.out).2.1); (case side3 => exact zC (Kd.R_reads' HO488.out).2.2); (case side4 => exact (Kd.R_reads' HO488.out).2.1); rintro e w' ⟨rfl, ⟨nd, rfl⟩⟩; refine ⟨_, rfl, ?_⟩; obtain ⟨Ao48, co48, eo48⟩ := Kd.R_slice HO_7.out; subst eo48))
          go_ret
          exact ⟨by first | rfl | (simp [errW_none, errW_some] <;> rfl) | (simp [*, errW_none, errW_some] <;> rfl), zB HB.out⟩
         ·replace c45 := Bool.eq_false_iff.mpr c45
          subst c45
          have H1 : (some false) = some r := by rw [if_neg (show ¬ (false = true) by decide)] at H; exact H
          clear H
          have H := H1
          clear H1
          obtain rfl := Option.some.inj H
          go_wp2_with (first | ((with_reducible refine gate_callee (f := 17) rfl ?_); refine goesL_ (some 68) rfl rfl Try.func17 (by kernel_rfl) rfl #[.slice Ao20 t467.length co20, .int .i64 t469] rfl zA ?_; (with_reducible refine (impl_DistancesFrom.calls kj27 _ _ t467 t469 t486 _ ?side1 ?side2 A43.out).mono ?_); (case side1 => exact zC (Kd.R_reads' HO_3.out).2.2); (case side2 => exact (Kd.R_reads' HO_3.out).2.1); rintro e w49 ⟨v487, rfl, ho0, hb⟩; refine ⟨_, rfl, ?_⟩; have n0_ := Aside0.mk (Kd.R_elder' (zR HO_3.out) (Kd.R_base ho0) hb); have n1_ := Aside0.mk (Kd.R_elder' (zR HO_6.out) (Kd.R_base ho0) hb); have n2_ := Aside0.mk (Kd.R_elder' (zR HO_7.out) (Kd.R_base ho0) hb); have n3_ := Aside0.mk (Kd.R_lower (Kd.R_new' (Kd.R_new' (Kd.R_new' ho0 (Kd.R_lt (zR HO_3.out))) (Kd.R_lt (zR HO_6.out))) (Kd.R_lt (zR HO_7.out))) (below_size (zB HB.out))); have n4_ := Aside0.mk (below_step (zB HB.out) hb); clear HO_3; clear HO_6; clear HO_7; clear HB; have HO_3 := n0_; have HO_6 := n1_; have HO_7 := n2_; have HO488 := n3_; have HB := n4_; clear n0_ n1_ n2_ n3_ n4_; (try clear hb); (try clear hb2); (try clear hk); (try clear hi); (try clear ho0); obtain ⟨Ao50, co50, eo50⟩ := Kd.R_slice HO488.out; subst eo50) | ((with_reducible refine gate_callee (f := 9) rfl ?_); refine goesL_ (some 69) rfl rfl Try.func9 (by kernel_rfl) rfl #[.slice Ao23 t472.length co23, .slice Ao50 t486.length co50] rfl zA ?_; (with_reducible refine (laws_sameInts.calls kj27 _ _ t472 _ _ t486 false _ ?side1 ?side2 ?side3 ?side4 A44.out).mono ?_); (case side1 => exact zC (Kd.R_reads' HO_6.out).2.2); (case side2 => exact (Kd.R_reads' HO_6.out).2.1); (case side3 => exact zC (Kd.R_reads' HO488.out).2.2); (case side4 => exact (Kd.R_reads' HO488.out).2.1); rintro e w' ⟨rfl, ⟨nd, rfl⟩⟩; refine ⟨_, rfl, ?_⟩))
          go_ret
          exact ⟨by first | rfl | (simp [errW_none, errW_some] <;> rfl) | (simp [*, errW_none, errW_some] <;> rfl), zB HB.out⟩
  ·replace c7 := Bool.eq_false_iff.mpr c7
   subst c7
   have H1 : (some false) = some r := by rw [if_neg (show ¬ (false = true) by decide)] at H; exact H
   clear H
   have H := H1
   clear H1
   obtain rfl := Option.some.inj H
   go_enter Try.func4, Try.ntmps4
   go_wp2_with (first | ((with_reducible refine gate_callee (f := 13) rfl ?_); refine goesL_ (some 15) rfl rfl Try.func13 (by kernel_rfl) rfl #[.slice A0 l0.length c0] rfl zA ?_; (with_reducible refine (spec_DrawArrivalRow.calls k _ _ l0 t467 t468 t469 _ ?side1 ?side2 A3.out).mono ?_); (case side1 => exact zC HR0.out); (case side2 => exact HC0.out); rintro e w51 ⟨v470, rfl, ho0, hb⟩; refine ⟨_, rfl, ?_⟩; have n0_ := Aside0.mk (Kd.R_lower ho0 (below_size (zB HB.out))); have n1_ := Aside0.mk (below_step (zB HB.out) hb); clear HB; have HO471 := n0_; have HB := n1_; clear n0_ n1_; (try clear hb); (try clear hb2); (try clear hk); (try clear hi); (try clear ho0); obtain ⟨Ao52, co52, eo52⟩ := Kd.R_slice HO471.out; subst eo52) | ((with_reducible refine gate_callee (f := 14) rfl ?_); refine goesL_ (some 22) rfl rfl Try.func14 (by kernel_rfl) rfl #[.slice Ao52 t467.length co52, .int .i64 t468, .int .i64 t469] rfl zA ?_; (with_reducible refine (impl_ArrivalRow.calls k _ _ t467 t468 t469 t472 _ ?side1 ?side2 A4.out).mono ?_); (case side1 => exact zC (Kd.R_reads' HO471.out).2.2); (case side2 => exact (Kd.R_reads' HO471.out).2.1); rintro e w53 ⟨v473, rfl, ho0, hb⟩; refine ⟨_, rfl, ?_⟩; have n0_ := Aside0.mk (Kd.R_elder' (zR HO471.out) (Kd.R_base ho0) hb); have n1_ := Aside0.mk (Kd.R_lower (Kd.R_new' ho0 (Kd.R_lt (zR HO471.out))) (below_size (zB HB.out))); have n2_ := Aside0.mk (below_step (zB HB.out) hb); clear HO471; clear HB; have HO471 := n0_; have HO474 := n1_; have HB := n2_; clear n0_ n1_ n2_; (try clear hb); (try clear hb2); (try clear hk); (try clear hi); (try clear ho0)) | ((with_reducible refine gate_callee (f := 15) rfl ?_); refine goesL_ (some 27) rfl rfl Try.func15 (by kernel_rfl) rfl #[.slice Ao52 t467.length co52, .int .i64 t468, .int .i64 t469] rfl zA ?_; (with_reducible refine (spec_ArrivalRow.calls k _ _ t467 t468 t469 t475 _ ?side1 ?side2 A5.out).mono ?_); (case side1 => exact zC (Kd.R_reads' HO471.out).2.2); (case side2 => exact (Kd.R_reads' HO471.out).2.1); rintro e w54 ⟨v476, rfl, ho0, hb⟩; refine ⟨_, rfl, ?_⟩; have n0_ := Aside0.mk (Kd.R_elder' (zR HO471.out) (Kd.R_base ho0) hb); have n1_ := Aside0.mk (Kd.R_elder' (zR HO474.out) (Kd.R_base ho0) hb); have n2_ := Aside0.mk (Kd.R_lower (Kd.R_new' (Kd.R_new' ho0 (Kd.R_lt (zR HO471.out))) (Kd.R_lt (zR HO474.out))) (below_size (zB HB.out))); have n3_ := Aside0.mk (below_step (zB HB.out) hb); clear HO471; clear HO474; clear HB; have HO471 := n0_; have HO474 := n1_; have HO477 := n2_; have HB := n3_; clear n0_ n1_ n2_ n3_; (try clear hb); (try clear hb2); (try clear hk); (try clear hi); (try clear ho0); obtain ⟨Ao55, co55, eo55⟩ := Kd.R_slice HO474.out; subst eo55; obtain ⟨Ao56, co56, eo56⟩ := Kd.R_slice HO477.out; subst eo56) | ((with_reducible refine gate_callee (f := 9) rfl ?_); refine goesL_ (some 28) rfl rfl Try.func9 (by kernel_rfl) rfl #[.slice Ao55 t472.length co55, .slice Ao56 t475.length co56] rfl zA ?_; (with_reducible refine (laws_sameInts.calls k _ _ t472 _ _ t475 false _ ?side1 ?side2 ?side3 ?side4 A6.out).mono ?_); (case side1 => exact zC (Kd.R_reads' HO474.out).2.2); (case side2 => exact (Kd.R_reads' HO474.out).2.1); (case side3 => exact zC (Kd.R_reads' HO477.out).2.2); (case side4 => exact (Kd.R_reads' HO477.out).2.1); rintro e w' ⟨rfl, ⟨nd, rfl⟩⟩; refine ⟨_, rfl, ?_⟩))
   go_ret
   exact ⟨by first | rfl | (simp [errW_none, errW_some] <;> rfl) | (simp [*, errW_none, errW_some] <;> rfl), zB HB.out⟩

/-- THE ONE PURE STATEMENT of laws_FnArrivalRow: yours. -/
def laws_FnArrivalRow.Pure : Prop := ∀ (l0 : List Int), l0.length ≤ maxLen → l0.length * 1 ≤ 140737488351232 → (∀ x ∈ l0, (Lit.int .u8 x).wf = true) → ∃ k, laws_FnArrivalRow.f k l0 = some true
theorem laws_FnArrivalRow.walk (P : laws_FnArrivalRow.Pure) (a0 : Option Addr) (len0 cap0 : Nat) (z0 : List Int) (w : World) (w0 : (a0 = none ∧ len0 = 0 ∧ cap0 = 0 ∧ z0 = []) ∨ ∃ x, a0 = some x ∧ len0 ≤ cap0 ∧ cap0 ≤ maxLen ∧ z0.length = cap0 ∧ (∀ i, i < z0.length → w.cell? (x.add i) = some (.int .u8 (z0.getD i 0))) ∧ ∀ n ∈ z0, (Lit.int .u8 n).wf = true) (y0 : len0 * 1 ≤ 140737488351232) :
  Calls Try.prog 4 #[.slice a0 len0 cap0] w fun e w' => e = .returned (.bool true) ∧ Below w.heap.size w w' := by
 obtain ⟨l0, rfl, hr0, hm0, hw0, hc0⟩ := ReadsInt.ofRowC w0
 obtain ⟨k, h⟩ := P l0 hm0 y0 hw0
 refine (laws_FnArrivalRow.calls k _ _ l0 true w (Kd.C_of_reads (d := (0 : Int)) (h1 := fun _ => rfl) hr0) hc0 h).mono ?_
 rintro e w' ⟨rfl, hd⟩
 exact ⟨rfl, hd⟩

end Go.Proofs.Ytbanhinbndeboaa.PAll
