/- Own text of this session, written by a program of this session (wip/t/own.py) out of what the kit tells of the functions: each Go function as a Lean function, and the walk through its code. -/
import Derived.Test.YtbanhinbndeboaaT
import Derived.Test.YtbanhinbndeboaaF2
import Derived.Test.YtbanhinbndeboaaF3
import Derived.Test.YtbanhinbndeboaaF4
import Derived.Test.YtbanhinbndeboaaF5
namespace Go.Proofs.Ytbanhinbndeboaa.PAll
open Go.RowKit Go.Proofs.YtbanhinbndeboaaW.PrintWords Go.Proofs.YtbanhinbndeboaaW.PrintLast Go.Proofs.YtbanhinbndeboaaW.PrintMore
attribute [local go_sem] max2_int min2_int max_two min_two max_three min_three max_four min_four   -- for this text's walks alone
set_option linter.unusedVariables false
set_option linter.unusedSimpArgs false

/-! ### laws_FnFiredRow: function 3 -/
def laws_FnFiredRow.l0 : Nat → List Int → Int → Int → List Int → List Int → List Int → Int → Option (Bool)
 | 0, _, _, _, _, _, _, _ => none
 | k + 1, x3, x4, x6, x7, x8, x9, x10 => if x10 < (x3.length : Int) then (if (x8.length : Int) = (x3.length : Int) then (if (x9.length : Int) = (x3.length : Int) then (if 0 ≤ x10 then (if x10 < (x8.length : Int) then (if x10 < (x9.length : Int) then (if x10 < (x7.length : Int) then (if (wrap64 ((rd x8 x10) + (rd x9 x10))) = (rd x7 x10) then (if x4 = 0 then (none) else (if (rd x7 x10) > (wrap64 ((wrap64 (Int.tdiv (wrap64 (x6 + 1)) x4)) + 1)) then (some false) else (if (rd x3 x10) = 0 then (if (rd x7 x10) = 0 then (laws_FnFiredRow.l0 k x3 x4 x6 x7 x8 x9 (wrap64 (x10 + 1))) else (some false)) else (laws_FnFiredRow.l0 k x3 x4 x6 x7 x8 x9 (wrap64 (x10 + 1)))))) else (some false)) else (none)) else (none)) else (none)) else (none)) else (some false)) else (some false)) else (some ((x7.length : Int) == (x3.length : Int)))
def laws_FnFiredRow.f (k : Nat) (l0 : List Int) : Option (Bool) := if (l0.length : Int) > 1048576 then (some true) else ((spec_DrawFiredRow.f k l0).bind fun bt354 => ((impl_FiredRow.f k bt354.1 bt354.2.1 bt354.2.2.1 bt354.2.2.2).bind fun t362 => ((spec_FiredRow.f k bt354.1 bt354.2.1 bt354.2.2.1 bt354.2.2.2).bind fun t365 => ((laws_sameInts.f k t362 t365).bind fun t368 => (if t368 = true then (if (t362.length : Int) = 0 then ((laws_alive.f k).bind fun t369 => (some t369)) else ((impl_FiredRow.f k bt354.1 bt354.2.1 bt354.2.2.1 (wrap64 (Int.tdiv bt354.2.2.2 2))).bind fun t370 => ((impl_FireRun.f k bt354.1 bt354.2.1 bt354.2.2.1 (wrap64 (Int.tdiv bt354.2.2.2 2))).bind fun t373 => ((impl_FiredRow.f k bt354.1 bt354.2.1 t373 (wrap64 (bt354.2.2.2 - (wrap64 (Int.tdiv bt354.2.2.2 2))))).bind fun t376 => (laws_FnFiredRow.l0 k bt354.1 bt354.2.1 bt354.2.2.2 t362 t370 t376 0))))) else (some false))))))
theorem laws_FnFiredRow.mono_l : ∀ k, (∀ y0 y1 y2 y3 y4 y5 y6, LeO (laws_FnFiredRow.l0 k y0 y1 y2 y3 y4 y5 y6) (laws_FnFiredRow.l0 (k + 1) y0 y1 y2 y3 y4 y5 y6))
 | 0 => fun _ _ _ _ _ _ _ r h => by simp [laws_FnFiredRow.l0] at h
 | k + 1 => by
  have ih0 := laws_FnFiredRow.mono_l k
  ·intro y0 y1 y2 y3 y4 y5 y6
   unfold laws_FnFiredRow.l0
   repeat' first
   | (with_reducible exact ih0 _ _ _ _ _ _ _)
   | (with_reducible exact impl_FireRun.mono _ _ _ _ _)
   | (with_reducible exact impl_FiredRow.mono _ _ _ _ _)
   | (with_reducible exact laws_alive.mono _)
   | (with_reducible exact laws_sameInts.mono _ _ _)
   | (with_reducible exact spec_DrawFiredRow.mono _ _)
   | (with_reducible exact spec_FiredRow.mono _ _ _ _ _)
   | (with_reducible exact LeO.refl _)
   | (with_reducible exact LeO.none _)
   | (with_reducible refine LeO.ite ?_ ?_)
   | (with_reducible refine LeO.bind ?_ (fun _ => ?_))
   | exact ih0 _ _ _ _ _ _ _
   | exact impl_FireRun.mono _ _ _ _ _
   | exact impl_FiredRow.mono _ _ _ _ _
   | exact laws_alive.mono _
   | exact laws_sameInts.mono _ _ _
   | exact spec_DrawFiredRow.mono _ _
   | exact spec_FiredRow.mono _ _ _ _ _
   | exact LeO.none _
   | refine LeO.ite ?_ ?_
   | refine LeO.bind ?_ (fun _ => ?_)
theorem laws_FnFiredRow.mono : ∀ a0 k, LeO (laws_FnFiredRow.f k a0) (laws_FnFiredRow.f (k + 1) a0) := by
 intro a0 k
 have ih0 := laws_FnFiredRow.mono_l k
 unfold laws_FnFiredRow.f
 repeat' first
   | (with_reducible exact ih0 _ _ _ _ _ _ _)
   | (with_reducible exact impl_FireRun.mono _ _ _ _ _)
   | (with_reducible exact impl_FiredRow.mono _ _ _ _ _)
   | (with_reducible exact laws_alive.mono _)
   | (with_reducible exact laws_sameInts.mono _ _ _)
   | (with_reducible exact spec_DrawFiredRow.mono _ _)
   | (with_reducible exact spec_FiredRow.mono _ _ _ _ _)
   | (with_reducible exact LeO.refl _)
   | (with_reducible exact LeO.none _)
   | (with_reducible refine LeO.ite ?_ ?_)
   | (with_reducible refine LeO.bind ?_ (fun _ => ?_))
   | exact ih0 _ _ _ _ _ _ _
   | exact impl_FireRun.mono _ _ _ _ _
   | exact impl_FiredRow.mono _ _ _ _ _
   | exact laws_alive.mono _
   | exact laws_sameInts.mono _ _ _
   | exact spec_DrawFiredRow.mono _ _
   | exact spec_FiredRow.mono _ _ _ _ _
   | exact LeO.none _
   | refine LeO.ite ?_ ?_
   | refine LeO.bind ?_ (fun _ => ?_)
set_option maxHeartbeats 8000000 in
set_option maxRecDepth 100000 in
theorem laws_FnFiredRow.calls (k : Nat) (A0 : Option Addr) (c0 : Nat) (l0 : List Int) (r : Bool) (w : World) (hr0 : Kd.C (Kd.int .u8) w A0 l0.length l0) (hc0 : l0.length ≤ c0) (h : laws_FnFiredRow.f k l0 = some r) :
  Calls Try.prog 3 #[.slice A0 l0.length c0] w fun e w' => e = .returned (.bool r) ∧ Below w.heap.size w w' := by
 have HR0 := Aside0.mk hr0
 have HC0 := Aside0.mk hc0
 clear hr0 hc0
 have HB := Aside0.mk (Below.refl w.heap.size w)
 have H : (if (l0.length : Int) > 1048576 then (some true) else ((spec_DrawFiredRow.f k l0).bind fun bt354 => ((impl_FiredRow.f k bt354.1 bt354.2.1 bt354.2.2.1 bt354.2.2.2).bind fun t362 => ((spec_FiredRow.f k bt354.1 bt354.2.1 bt354.2.2.1 bt354.2.2.2).bind fun t365 => ((laws_sameInts.f k t362 t365).bind fun t368 => (if t368 = true then (if (t362.length : Int) = 0 then ((laws_alive.f k).bind fun t369 => (some t369)) else ((impl_FiredRow.f k bt354.1 bt354.2.1 bt354.2.2.1 (wrap64 (Int.tdiv bt354.2.2.2 2))).bind fun t370 => ((impl_FireRun.f k bt354.1 bt354.2.1 bt354.2.2.1 (wrap64 (Int.tdiv bt354.2.2.2 2))).bind fun t373 => ((impl_FiredRow.f k bt354.1 bt354.2.1 t373 (wrap64 (bt354.2.2.2 - (wrap64 (Int.tdiv bt354.2.2.2 2))))).bind fun t376 => (laws_FnFiredRow.l0 k bt354.1 bt354.2.1 bt354.2.2.2 t362 t370 t376 0))))) else (some false))))))) = some r := h
 clear h
 by_cases c2 : (l0.length : Int) > 1048576
 ·rw [if_pos c2] at H
  have c2b0 : decide (1048576 < (l0.length : Int)) = true := decide_eq_true c2
  have c2b1 : decide (1048576 < l0.length) = true := decide_eq_true (by omega)
  clear c2
  obtain rfl := Option.some.inj H
  go_enter Try.func3, Try.ntmps3
  go_wp2
  repeat (go_quiet (fail); try go_wp2)
  go_ret
  exact ⟨by first | rfl | (simp [errW_none, errW_some] <;> rfl) | (simp [*, errW_none, errW_some] <;> rfl), zB HB.out⟩
 ·rw [if_neg c2] at H
  have c2b0 : decide (1048576 < (l0.length : Int)) = false := decide_eq_false c2
  have c2b1 : decide (1048576 < l0.length) = false := decide_eq_false (by omega)
  clear c2
  replace H := Option.bind_eq_some_iff.mp H
  obtain ⟨⟨t354, t355, t356, t357⟩, A30, H⟩ := H
  replace H : ((impl_FiredRow.f k t354 t355 t356 t357).bind fun t362 => ((spec_FiredRow.f k t354 t355 t356 t357).bind fun t365 => ((laws_sameInts.f k t362 t365).bind fun t368 => (if t368 = true then (if (t362.length : Int) = 0 then ((laws_alive.f k).bind fun t369 => (some t369)) else ((impl_FiredRow.f k t354 t355 t356 (wrap64 (Int.tdiv t357 2))).bind fun t370 => ((impl_FireRun.f k t354 t355 t356 (wrap64 (Int.tdiv t357 2))).bind fun t373 => ((impl_FiredRow.f k t354 t355 t373 (wrap64 (t357 - (wrap64 (Int.tdiv t357 2))))).bind fun t376 => (laws_FnFiredRow.l0 k t354 t355 t357 t362 t370 t376 0))))) else (some false))))) = some r := H
  have A3 := Aside0.mk A30
  clear A30
  replace H := Option.bind_eq_some_iff.mp H
  obtain ⟨t362, A40, H⟩ := H
  replace H : ((spec_FiredRow.f k t354 t355 t356 t357).bind fun t365 => ((laws_sameInts.f k t362 t365).bind fun t368 => (if t368 = true then (if (t362.length : Int) = 0 then ((laws_alive.f k).bind fun t369 => (some t369)) else ((impl_FiredRow.f k t354 t355 t356 (wrap64 (Int.tdiv t357 2))).bind fun t370 => ((impl_FireRun.f k t354 t355 t356 (wrap64 (Int.tdiv t357 2))).bind fun t373 => ((impl_FiredRow.f k t354 t355 t373 (wrap64 (t357 - (wrap64 (Int.tdiv t357 2))))).bind fun t376 => (laws_FnFiredRow.l0 k t354 t355 t357 t362 t370 t376 0))))) else (some false)))) = some r := H
  have A4 := Aside0.mk A40
  clear A40
  replace H := Option.bind_eq_some_iff.mp H
  obtain ⟨t365, A50, H⟩ := H
  replace H : ((laws_sameInts.f k t362 t365).bind fun t368 => (if t368 = true then (if (t362.length : Int) = 0 then ((laws_alive.f k).bind fun t369 => (some t369)) else ((impl_FiredRow.f k t354 t355 t356 (wrap64 (Int.tdiv t357 2))).bind fun t370 => ((impl_FireRun.f k t354 t355 t356 (wrap64 (Int.tdiv t357 2))).bind fun t373 => ((impl_FiredRow.f k t354 t355 t373 (wrap64 (t357 - (wrap64 (Int.tdiv t357 2))))).bind fun t376 => (laws_FnFiredRow.l0 k t354 t355 t357 t362 t370 t376 0))))) else (some false))) = some r := H
  have A5 := Aside0.mk A50
  clear A50
  replace H := Option.bind_eq_some_iff.mp H
  obtain ⟨t368, A60, H⟩ := H
  replace H : (if t368 = true then (if (t362.length : Int) = 0 then ((laws_alive.f k).bind fun t369 => (some t369)) else ((impl_FiredRow.f k t354 t355 t356 (wrap64 (Int.tdiv t357 2))).bind fun t370 => ((impl_FireRun.f k t354 t355 t356 (wrap64 (Int.tdiv t357 2))).bind fun t373 => ((impl_FiredRow.f k t354 t355 t373 (wrap64 (t357 - (wrap64 (Int.tdiv t357 2))))).bind fun t376 => (laws_FnFiredRow.l0 k t354 t355 t357 t362 t370 t376 0))))) else (some false)) = some r := H
  have A6 := Aside0.mk A60
  clear A60
  by_cases c7 : t368 = true
  ·subst c7
   have H1 : (if (t362.length : Int) = 0 then ((laws_alive.f k).bind fun t369 => (some t369)) else ((impl_FiredRow.f k t354 t355 t356 (wrap64 (Int.tdiv t357 2))).bind fun t370 => ((impl_FireRun.f k t354 t355 t356 (wrap64 (Int.tdiv t357 2))).bind fun t373 => ((impl_FiredRow.f k t354 t355 t373 (wrap64 (t357 - (wrap64 (Int.tdiv t357 2))))).bind fun t376 => (laws_FnFiredRow.l0 k t354 t355 t357 t362 t370 t376 0))))) = some r := by rw [if_pos rfl] at H; exact H
   clear H
   have H := H1
   clear H1
   by_cases c8 : (t362.length : Int) = 0
   ·rw [if_pos c8] at H
    have c8b0 : ((t362.length : Int) == 0) = true := beq_iff_eq.mpr c8
    have c8b1 : ((t362.length : Int) != 0) = false := bne_eq_false_iff_eq.mpr c8
    clear c8
    replace H := Option.bind_eq_some_iff.mp H
    obtain ⟨t369, A90, H⟩ := H
    replace H : (some t369) = some r := H
    have A9 := Aside0.mk A90
    clear A90
    obtain rfl := Option.some.inj H
    go_enter Try.func3, Try.ntmps3
    go_wp2_with (first | (go_at_call 7; (with_reducible refine (spec_DrawFiredRow.calls k _ _ l0 t354 t355 t356 t357 _ ?side1 ?side2 A3.out).mono ?_); (case side1 => exact zC HR0.out); (case side2 => exact HC0.out); rintro e w10 ⟨v358, v360, rfl, ho0, ho1, hb⟩; have n0_ := Aside0.mk (Kd.R_lower ho0 (below_size (zB HB.out))); have n1_ := Aside0.mk (Kd.R_lower ho1 (below_size (zB HB.out))); have n2_ := Aside0.mk (below_step (zB HB.out) hb); clear HB; have HO359 := n0_; have HO361 := n1_; have HB := n2_; clear n0_ n1_ n2_; (try clear hb); (try clear hb2); (try clear hk); (try clear hi); (try clear ho0); (try clear ho1); obtain ⟨Ao11, co11, eo11⟩ := Kd.R_slice HO359.out; subst eo11; obtain ⟨Ao12, co12, eo12⟩ := Kd.R_slice HO361.out; subst eo12) | (go_at_call 8; (with_reducible refine (impl_FiredRow.calls k _ _ t354 t355 _ _ t356 t357 t362 _ ?side1 ?side2 ?side3 ?side4 A4.out).mono ?_); (case side1 => exact zC (Kd.R_reads' HO359.out).2.2); (case side2 => exact (Kd.R_reads' HO359.out).2.1); (case side3 => exact zC (Kd.R_reads' HO361.out).2.2); (case side4 => exact (Kd.R_reads' HO361.out).2.1); rintro e w13 ⟨v363, rfl, ho0, hb⟩; have n0_ := Aside0.mk (Kd.R_elder' (zR HO359.out) (Kd.R_base ho0) hb); have n1_ := Aside0.mk (Kd.R_elder' (zR HO361.out) (Kd.R_base ho0) hb); have n2_ := Aside0.mk (Kd.R_lower (Kd.R_new' (Kd.R_new' ho0 (Kd.R_lt (zR HO359.out))) (Kd.R_lt (zR HO361.out))) (below_size (zB HB.out))); have n3_ := Aside0.mk (below_step (zB HB.out) hb); clear HO359; clear HO361; clear HB; have HO359 := n0_; have HO361 := n1_; have HO364 := n2_; have HB := n3_; clear n0_ n1_ n2_ n3_; (try clear hb); (try clear hb2); (try clear hk); (try clear hi); (try clear ho0)) | (go_at_call 10; (with_reducible refine (spec_FiredRow.calls k _ _ t354 t355 _ _ t356 t357 t365 _ ?side1 ?side2 ?side3 ?side4 A5.out).mono ?_); (case side1 => exact zC (Kd.R_reads' HO359.out).2.2); (case side2 => exact (Kd.R_reads' HO359.out).2.1); (case side3 => exact zC (Kd.R_reads' HO361.out).2.2); (case side4 => exact (Kd.R_reads' HO361.out).2.1); rintro e w14 ⟨v366, rfl, ho0, hb⟩; have n0_ := Aside0.mk (Kd.R_elder' (zR HO359.out) (Kd.R_base ho0) hb); have n1_ := Aside0.mk (Kd.R_elder' (zR HO361.out) (Kd.R_base ho0) hb); have n2_ := Aside0.mk (Kd.R_elder' (zR HO364.out) (Kd.R_base ho0) hb); have n3_ := Aside0.mk (Kd.R_lower (Kd.R_new' (Kd.R_new' (Kd.R_new' ho0 (Kd.R_lt (zR HO359.out))) (Kd.R_lt (zR HO361.out))) (Kd.R_lt (zR HO364.out))) (below_size (zB HB.out))); have n4_ := Aside0.mk (below_step (zB HB.out) hb); clear HO359; clear HO361; clear HO364; clear HB; have HO359 := n0_; have HO361 := n1_; have HO364 := n2_; have HO367 := n3_; have HB := n4_; clear n0_ n1_ n2_ n3_ n4_; (try clear hb); (try clear hb2); (try clear hk); (try clear hi); (try clear ho0); obtain ⟨Ao15, co15, eo15⟩ := Kd.R_slice HO364.out; subst eo15; obtain ⟨Ao16, co16, eo16⟩ := Kd.R_slice HO367.out; subst eo16) | (go_at_call 9; (with_reducible refine (laws_sameInts.calls k _ _ t362 _ _ t365 true _ ?side1 ?side2 ?side3 ?side4 A6.out).mono ?_); (case side1 => exact zC (Kd.R_reads' HO364.out).2.2); (case side2 => exact (Kd.R_reads' HO364.out).2.1); (case side3 => exact zC (Kd.R_reads' HO367.out).2.2); (case side4 => exact (Kd.R_reads' HO367.out).2.1); rintro e w' ⟨rfl, ⟨nd, rfl⟩⟩; (try first | exact ⟨rfl, _, World.drewN_drewN _ _ _⟩ | exact ⟨rfl, _, Eq.trans (World.drewN_drewN _ _ _) (congrArg (World.drewN _) (Nat.add_assoc _ _ _))⟩)) | (go_at_call 11; (with_reducible refine (laws_alive.calls k  t369 _ A9.out).mono ?_); rintro e w17 ⟨rfl, hb⟩; have n0_ := Aside0.mk (Kd.R_below (zR HO359.out) hb); have n1_ := Aside0.mk (Kd.R_below (zR HO361.out) hb); have n2_ := Aside0.mk (Kd.R_below (zR HO364.out) hb); have n3_ := Aside0.mk (Kd.R_below (zR HO367.out) hb); have n4_ := Aside0.mk (below_step (zB HB.out) hb); clear HO359; clear HO361; clear HO364; clear HO367; clear HB; have HO359 := n0_; have HO361 := n1_; have HO364 := n2_; have HO367 := n3_; have HB := n4_; clear n0_ n1_ n2_ n3_ n4_; (try clear hb); (try clear hb2); (try clear hk); (try clear hi)))
    repeat (go_quiet (first | (go_at_call 7; (with_reducible refine (spec_DrawFiredRow.calls k _ _ l0 t354 t355 t356 t357 _ ?side1 ?side2 A3.out).mono ?_); (case side1 => exact zC HR0.out); (case side2 => exact HC0.out); rintro e w10 ⟨v358, v360, rfl, ho0, ho1, hb⟩; have n0_ := Aside0.mk (Kd.R_lower ho0 (below_size (zB HB.out))); have n1_ := Aside0.mk (Kd.R_lower ho1 (below_size (zB HB.out))); have n2_ := Aside0.mk (below_step (zB HB.out) hb); clear HB; have HO359 := n0_; have HO361 := n1_; have HB := n2_; clear n0_ n1_ n2_; (try clear hb); (try clear hb2); (try clear hk); (try clear hi); (try clear ho0); (try clear ho1); obtain ⟨Ao11, co11, eo11⟩ := Kd.R_slice HO359.out; subst eo11; obtain ⟨Ao12, co12, eo12⟩ := Kd.R_slice HO361.out; subst eo12) | (go_at_call 8; (with_reducible refine (impl_FiredRow.calls k _ _ t354 t355 _ _ t356 t357 t362 _ ?side1 ?side2 ?side3 ?side4 A4.out).mono ?_); (case side1 => exact zC (Kd.R_reads' HO359.out).2.2); (case side2 => exact (Kd.R_reads' HO359.out).2.1); (case side3 => exact zC (Kd.R_reads' HO361.out).2.2); (case side4 => exact (Kd.R_reads' HO361.out).2.1); rintro e w13 ⟨v363, rfl, ho0, hb⟩; have n0_ := Aside0.mk (Kd.R_elder' (zR HO359.out) (Kd.R_base ho0) hb); have n1_ := Aside0.mk (Kd.R_elder' (zR HO361.out) (Kd.R_base ho0) hb); have n2_ := Aside0.mk (Kd.R_lower (Kd.R_new' (Kd.R_new' ho0 (Kd.R_lt (zR HO359.out))) (Kd.R_lt (zR HO361.out))) (below_size (zB HB.out))); have n3_ := Aside0.mk (below_step (zB HB.out) hb); clear HO359; clear HO361; clear HB; have HO359 := n0_; have HO361 := n1_; have HO364 := n2_; have HB := n3_; clear n0_ n1_ n2_ n3_; (try clear hb); (try clear hb2); (try clear hk); (try clear hi); (try clear ho0)) | (go_at_call 10; (with_reducible refine (spec_FiredRow.calls k _ _ t354 t355 _ _ t356 t357 t365 _ ?side1 ?side2 ?side3 ?side4 A5.out).mono ?_); (case side1 => exact zC (Kd.R_reads' HO359.out).2.2); (case side2 => exact (Kd.R_reads' HO359.out).2.1); (case side3 => exact zC (Kd.R_reads' HO361.out).2.2); (case side4 => exact (Kd.R_reads' HO361.out).2.1); rintro e w14 ⟨v366, rfl, ho0, hb⟩; have n0_ := Aside0.mk (Kd.R_elder' (zR HO359.out) (Kd.R_base ho0) hb); have n1_ := Aside0.mk (Kd.R_elder' (zR HO361.out) (Kd.R_base ho0) hb); have n2_ := Aside0.mk (Kd.R_elder' (zR HO364.out) (Kd.R_base ho0) hb); have n3_ := Aside0.mk (Kd.R_lower (Kd.R_new' (Kd.R_new' (Kd.R_new' ho0 (Kd.R_lt (zR HO359.out))) (Kd.R_lt (zR HO361.out))) (Kd.R_lt (zR HO364.out))) (below_size (zB HB.out))); have n4_ := Aside0.mk (below_step (zB HB.out) hb); clear HO359; clear HO361; clear HO364; clear HB; have HO359 := n0_; have HO361 := n1_; have HO364 := n2_; have HO367 := n3_; have HB := n4_; clear n0_ n1_ n2_ n3_ n4_; (try clear hb); (try clear hb2); (try clear hk); (try clear hi); (try clear ho0); obtain ⟨Ao15, co15, eo15⟩ := Kd.R_slice HO364.out; subst eo15; obtain ⟨Ao16, co16, eo16⟩ := Kd.R_slice HO367.out; subst eo16) | (go_at_call 9; (with_reducible refine (laws_sameInts.calls k _ _ t362 _ _ t365 true _ ?side1 ?side2 ?side3 ?side4 A6.out).mono ?_); (case side1 => exact zC (Kd.R_reads' HO364.out).2.2); (case side2 => exact (Kd.R_reads' HO364.out).2.1); (case side3 => exact zC (Kd.R_reads' HO367.out).2.2); (case side4 => exact (Kd.R_reads' HO367.out).2.1); rintro e w' ⟨rfl, ⟨nd, rfl⟩⟩; (try first | exact ⟨rfl, _, World.drewN_drewN _ _ _⟩ | exact ⟨rfl, _, Eq.trans (World.drewN_drewN _ _ _) (congrArg (World.drewN _) (Nat.add_assoc _ _ _))⟩)) | (go_at_call 11; (with_reducible refine (laws_alive.calls k  t369 _ A9.out).mono ?_); rintro e w17 ⟨rfl, hb⟩; have n0_ := Aside0.mk (Kd.R_below (zR HO359.out) hb); have n1_ := Aside0.mk (Kd.R_below (zR HO361.out) hb); have n2_ := Aside0.mk (Kd.R_below (zR HO364.out) hb); have n3_ := Aside0.mk (Kd.R_below (zR HO367.out) hb); have n4_ := Aside0.mk (below_step (zB HB.out) hb); clear HO359; clear HO361; clear HO364; clear HO367; clear HB; have HO359 := n0_; have HO361 := n1_; have HO364 := n2_; have HO367 := n3_; have HB := n4_; clear n0_ n1_ n2_ n3_ n4_; (try clear hb); (try clear hb2); (try clear hk); (try clear hi))); try go_wp2_with (first | (go_at_call 7; (with_reducible refine (spec_DrawFiredRow.calls k _ _ l0 t354 t355 t356 t357 _ ?side1 ?side2 A3.out).mono ?_); (case side1 => exact zC HR0.out); (case side2 => exact HC0.out); rintro e w10 ⟨v358, v360, rfl, ho0, ho1, hb⟩; have n0_ := Aside0.mk (Kd.R_lower ho0 (below_size (zB HB.out))); have n1_ := Aside0.mk (Kd.R_lower ho1 (below_size (zB HB.out))); have n2_ := Aside0.mk (below_step (zB HB.out) hb); clear HB; have HO359 := n0_; have HO361 := n1_; have HB := n2_; clear n0_ n1_ n2_; (try clear hb); (try clear hb2); (try clear hk); (try clear hi); (try clear ho0); (try clear ho1); obtain ⟨Ao11, co11, eo11⟩ := Kd.R_slice HO359.out; subst eo11; obtain ⟨Ao12, co12, eo12⟩ := Kd.R_slice HO361.out; subst eo12) | (go_at_call 8; (with_reducible refine (impl_FiredRow.calls k _ _ t354 t355 _ _ t356 t357 t362 _ ?side1 ?side2 ?side3 ?side4 A4.out).mono ?_); (case side1 => exact zC (Kd.R_reads' HO359.out).2.2); (case side2 => exact (Kd.R_reads' HO359.out).2.1); (case side3 => exact zC (Kd.R_reads' HO361.out).2.2); (case side4 => exact (Kd.R_reads' HO361.out).2.1); rintro e w13 ⟨v363, rfl, ho0, hb⟩; have n0_ := Aside0.mk (Kd.R_elder' (zR HO359.out) (Kd.R_base ho0) hb); have n1_ := Aside0.mk (Kd.R_elder' (zR HO361.out) (Kd.R_base ho0) hb); have n2_ := Aside0.mk (Kd.R_lower (Kd.R_new' (Kd.R_new' ho0 (Kd.R_lt (zR HO359.out))) (Kd.R_lt (zR HO361.out))) (below_size (zB HB.out))); have n3_ := Aside0.mk (below_step (zB HB.out) hb); clear HO359; clear HO361; clear HB; have HO359 := n0_; have HO361 := n1_; have HO364 := n2_; have HB := n3_; clear n0_ n1_ n2_ n3_; (try clear hb); (try clear hb2); (try clear hk); (try clear hi); (try clear ho0)) | (go_at_call 10; (with_reducible refine (spec_FiredRow.calls k _ _ t354 t355 _ _ t356 t357 t365 _ ?side1 ?side2 ?side3 ?side4 A5.out).mono ?_); (case side1 => exact zC (Kd.R_reads' HO359.out).2.2); (case side2 => exact (Kd.R_reads' HO359.out).2.1); (case side3 => exact zC (Kd.R_reads' HO361.out).2.2); (case side4 => exact (Kd.R_reads' HO361.out).2.1); rintro e w14 ⟨v366, rfl, ho0, hb⟩; have n0_ := Aside0.mk (Kd.R_elder' (zR HO359.out) (Kd.R_base ho0) hb); have n1_ := Aside0.mk (Kd.R_elder' (zR HO361.out) (Kd.R_base ho0) hb); have n2_ := Aside0.mk (Kd.R_elder' (zR HO364.out) (Kd.R_base ho0) hb); have n3_ := Aside0.mk (Kd.R_lower (Kd.R_new' (Kd.R_new' (Kd.R_new' ho0 (Kd.R_lt (zR HO359.out))) (Kd.R_lt (zR HO361.out))) (Kd.R_lt (zR HO364.out))) (below_size (zB HB.out))); have n4_ := Aside0.mk (below_step (zB HB.out) hb); clear HO359; clear HO361; clear HO364; clear HB; have HO359 := n0_; have HO361 := n1_; have HO364 := n2_; have HO367 := n3_; have HB := n4_; clear n0_ n1_ n2_ n3_ n4_; (try clear hb); (try clear hb2); (try clear hk); (try clear hi); (try clear ho0); obtain ⟨Ao15, co15, eo15⟩ := Kd.R_slice HO364.out; subst eo15; obtain ⟨Ao16, co16, eo16⟩ := Kd.R_slice HO367.out; subst eo16) | (go_at_call 9; (with_reducible refine (laws_sameInts.calls k _ _ t362 _ _ t365 true _ ?side1 ?side2 ?side3 ?side4 A6.out).mono ?_); (case side1 => exact zC (Kd.R_reads' HO364.out).2.2); (case side2 => exact (Kd.R_reads' HO364.out).2.1); (case side3 => exact zC (Kd.R_reads' HO367.out).2.2); (case side4 => exact (Kd.R_reads' HO367.out).2.1); rintro e w' ⟨rfl, ⟨nd, rfl⟩⟩; (try first | exact ⟨rfl, _, World.drewN_drewN _ _ _⟩ | exact ⟨rfl, _, Eq.trans (World.drewN_drewN _ _ _) (congrArg (World.drewN _) (Nat.add_assoc _ _ _))⟩)) | (go_at_call 11; (with_reducible refine (laws_alive.calls k  t369 _ A9.out).mono ?_); rintro e w17 ⟨rfl, hb⟩; have n0_ := Aside0.mk (Kd.R_below (zR HO359.out) hb); have n1_ := Aside0.mk (Kd.R_below (zR HO361.out) hb); have n2_ := Aside0.mk (Kd.R_below (zR HO364.out) hb); have n3_ := Aside0.mk (Kd.R_below (zR HO367.out) hb); have n4_ := Aside0.mk (below_step (zB HB.out) hb); clear HO359; clear HO361; clear HO364; clear HO367; clear HB; have HO359 := n0_; have HO361 := n1_; have HO364 := n2_; have HO367 := n3_; have HB := n4_; clear n0_ n1_ n2_ n3_ n4_; (try clear hb); (try clear hb2); (try clear hk); (try clear hi))))
    go_ret
    exact ⟨by first | rfl | (simp [errW_none, errW_some] <;> rfl) | (simp [*, errW_none, errW_some] <;> rfl), zB HB.out⟩
   ·rw [if_neg c8] at H
    have c8b0 : ((t362.length : Int) == 0) = false := beq_eq_false_iff_ne.mpr c8
    have c8b1 : ((t362.length : Int) != 0) = true := bne_iff_ne.mpr c8
    have c8b2 : ¬ (t362 = []) := fun h_ => c8 (by rw [h_]; rfl)
    replace H := Option.bind_eq_some_iff.mp H
    obtain ⟨t370, A180, H⟩ := H
    replace H : ((impl_FireRun.f k t354 t355 t356 (wrap64 (Int.tdiv t357 2))).bind fun t373 => ((impl_FiredRow.f k t354 t355 t373 (wrap64 (t357 - (wrap64 (Int.tdiv t357 2))))).bind fun t376 => (laws_FnFiredRow.l0 k t354 t355 t357 t362 t370 t376 0))) = some r := H
    have A18 := Aside0.mk A180
    clear A180
    replace H := Option.bind_eq_some_iff.mp H
    obtain ⟨t373, A190, H⟩ := H
    replace H : ((impl_FiredRow.f k t354 t355 t373 (wrap64 (t357 - (wrap64 (Int.tdiv t357 2))))).bind fun t376 => (laws_FnFiredRow.l0 k t354 t355 t357 t362 t370 t376 0)) = some r := H
    have A19 := Aside0.mk A190
    clear A190
    replace H := Option.bind_eq_some_iff.mp H
    obtain ⟨t376, A200, H⟩ := H
    replace H : (laws_FnFiredRow.l0 k t354 t355 t357 t362 t370 t376 0) = some r := H
    have A20 := Aside0.mk A200
    clear A200
    have H' := Aside0.mk H
    clear H
    go_enter Try.func3, Try.ntmps3
    go_wp2_with (first | (go_at_call 7; (with_reducible refine (spec_DrawFiredRow.calls k _ _ l0 t354 t355 t356 t357 _ ?side1 ?side2 A3.out).mono ?_); (case side1 => exact zC HR0.out); (case side2 => exact HC0.out); rintro e w21 ⟨v358, v360, rfl, ho0, ho1, hb⟩; have n0_ := Aside0.mk (Kd.R_lower ho0 (below_size (zB HB.out))); have n1_ := Aside0.mk (Kd.R_lower ho1 (below_size (zB HB.out))); have n2_ := Aside0.mk (below_step (zB HB.out) hb); clear HB; have HO359 := n0_; have HO361 := n1_; have HB := n2_; clear n0_ n1_ n2_; (try clear hb); (try clear hb2); (try clear hk); (try clear hi); (try clear ho0); (try clear ho1); obtain ⟨Ao22, co22, eo22⟩ := Kd.R_slice HO359.out; subst eo22; obtain ⟨Ao23, co23, eo23⟩ := Kd.R_slice HO361.out; subst eo23) | (go_at_call 8; (with_reducible refine (impl_FiredRow.calls k _ _ t354 t355 _ _ t356 t357 t362 _ ?side1 ?side2 ?side3 ?side4 A4.out).mono ?_); (case side1 => exact zC (Kd.R_reads' HO359.out).2.2); (case side2 => exact (Kd.R_reads' HO359.out).2.1); (case side3 => exact zC (Kd.R_reads' HO361.out).2.2); (case side4 => exact (Kd.R_reads' HO361.out).2.1); rintro e w24 ⟨v363, rfl, ho0, hb⟩; have n0_ := Aside0.mk (Kd.R_elder' (zR HO359.out) (Kd.R_base ho0) hb); have n1_ := Aside0.mk (Kd.R_elder' (zR HO361.out) (Kd.R_base ho0) hb); have n2_ := Aside0.mk (Kd.R_lower (Kd.R_new' (Kd.R_new' ho0 (Kd.R_lt (zR HO359.out))) (Kd.R_lt (zR HO361.out))) (below_size (zB HB.out))); have n3_ := Aside0.mk (below_step (zB HB.out) hb); clear HO359; clear HO361; clear HB; have HO359 := n0_; have HO361 := n1_; have HO364 := n2_; have HB := n3_; clear n0_ n1_ n2_ n3_; (try clear hb); (try clear hb2); (try clear hk); (try clear hi); (try clear ho0)) | (go_at_call 10; (with_reducible refine (spec_FiredRow.calls k _ _ t354 t355 _ _ t356 t357 t365 _ ?side1 ?side2 ?side3 ?side4 A5.out).mono ?_); (case side1 => exact zC (Kd.R_reads' HO359.out).2.2); (case side2 => exact (Kd.R_reads' HO359.out).2.1); (case side3 => exact zC (Kd.R_reads' HO361.out).2.2); (case side4 => exact (Kd.R_reads' HO361.out).2.1); rintro e w25 ⟨v366, rfl, ho0, hb⟩; have n0_ := Aside0.mk (Kd.R_elder' (zR HO359.out) (Kd.R_base ho0) hb); have n1_ := Aside0.mk (Kd.R_elder' (zR HO361.out) (Kd.R_base ho0) hb); have n2_ := Aside0.mk (Kd.R_elder' (zR HO364.out) (Kd.R_base ho0) hb); have n3_ := Aside0.mk (Kd.R_lower (Kd.R_new' (Kd.R_new' (Kd.R_new' ho0 (Kd.R_lt (zR HO359.out))) (Kd.R_lt (zR HO361.out))) (Kd.R_lt (zR HO364.out))) (below_size (zB HB.out))); have n4_ := Aside0.mk (below_step (zB HB.out) hb); clear HO359; clear HO361; clear HO364; clear HB; have HO359 := n0_; have HO361 := n1_; have HO364 := n2_; have HO367 := n3_; have HB := n4_; clear n0_ n1_ n2_ n3_ n4_; (try clear hb); (try clear hb2); (try clear hk); (try clear hi); (try clear ho0); obtain ⟨Ao26, co26, eo26⟩ := Kd.R_slice HO364.out; subst eo26; obtain ⟨Ao27, co27, eo27⟩ := Kd.R_slice HO367.out; subst eo27) | (go_at_call 9; (with_reducible refine (laws_sameInts.calls k _ _ t362 _ _ t365 true _ ?side1 ?side2 ?side3 ?side4 A6.out).mono ?_); (case side1 => exact zC (Kd.R_reads' HO364.out).2.2); (case side2 => exact (Kd.R_reads' HO364.out).2.1); (case side3 => exact zC (Kd.R_reads' HO367.out).2.2); (case side4 => exact (Kd.R_reads' HO367.out).2.1); rintro e w' ⟨rfl, ⟨nd, rfl⟩⟩; (try first | exact ⟨rfl, _, World.drewN_drewN _ _ _⟩ | exact ⟨rfl, _, Eq.trans (World.drewN_drewN _ _ _) (congrArg (World.drewN _) (Nat.add_assoc _ _ _))⟩)) | (go_at_call 8; (with_reducible refine (impl_FiredRow.calls k _ _ t354 t355 _ _ t356 (wrap64 (Int.tdiv t357 2)) t370 _ ?side1 ?side2 ?side3 ?side4 A18.out).mono ?_); (case side1 => exact zC (Kd.R_reads' HO359.out).2.2); (case side2 => exact (Kd.R_reads' HO359.out).2.1); (case side3 => exact zC (Kd.R_reads' HO361.out).2.2); (case side4 => exact (Kd.R_reads' HO361.out).2.1); rintro e w28 ⟨v371, rfl, ho0, hb⟩; have n0_ := Aside0.mk (Kd.R_elder' (zR HO359.out) (Kd.R_base ho0) hb); have n1_ := Aside0.mk (Kd.R_elder' (zR HO361.out) (Kd.R_base ho0) hb); have n2_ := Aside0.mk (Kd.R_elder' (zR HO364.out) (Kd.R_base ho0) hb); have n3_ := Aside0.mk (Kd.R_elder' (zR HO367.out) (Kd.R_base ho0) hb); have n4_ := Aside0.mk (Kd.R_lower (Kd.R_new' (Kd.R_new' (Kd.R_new' (Kd.R_new' ho0 (Kd.R_lt (zR HO359.out))) (Kd.R_lt (zR HO361.out))) (Kd.R_lt (zR HO364.out))) (Kd.R_lt (zR HO367.out))) (below_size (zB HB.out))); have n5_ := Aside0.mk (below_step (zB HB.out) hb); clear HO359; clear HO361; clear HO364; clear HO367; clear HB; have HO359 := n0_; have HO361 := n1_; have HO364 := n2_; have HO367 := n3_; have HO372 := n4_; have HB := n5_; clear n0_ n1_ n2_ n3_ n4_ n5_; (try clear hb); (try clear hb2); (try clear hk); (try clear hi); (try clear ho0)) | (go_at_call 12; (with_reducible refine (impl_FireRun.calls k _ _ t354 t355 _ _ t356 (wrap64 (Int.tdiv t357 2)) t373 _ ?side1 ?side2 ?side3 ?side4 A19.out).mono ?_); (case side1 => exact zC (Kd.R_reads' HO359.out).2.2); (case side2 => exact (Kd.R_reads' HO359.out).2.1); (case side3 => exact zC (Kd.R_reads' HO361.out).2.2); (case side4 => exact (Kd.R_reads' HO361.out).2.1); rintro e w29 ⟨v374, rfl, ho0, hb⟩; have n0_ := Aside0.mk (Kd.R_elder' (zR HO359.out) (Kd.R_base ho0) hb); have n1_ := Aside0.mk (Kd.R_elder' (zR HO361.out) (Kd.R_base ho0) hb); have n2_ := Aside0.mk (Kd.R_elder' (zR HO364.out) (Kd.R_base ho0) hb); have n3_ := Aside0.mk (Kd.R_elder' (zR HO367.out) (Kd.R_base ho0) hb); have n4_ := Aside0.mk (Kd.R_elder' (zR HO372.out) (Kd.R_base ho0) hb); have n5_ := Aside0.mk (Kd.R_lower (Kd.R_new' (Kd.R_new' (Kd.R_new' (Kd.R_new' (Kd.R_new' ho0 (Kd.R_lt (zR HO359.out))) (Kd.R_lt (zR HO361.out))) (Kd.R_lt (zR HO364.out))) (Kd.R_lt (zR HO367.out))) (Kd.R_lt (zR HO372.out))) (below_size (zB HB.out))); have n6_ := Aside0.mk (below_step (zB HB.out) hb); clear HO359; clear HO361; clear HO364; clear HO367; clear HO372; clear HB; have HO359 := n0_; have HO361 := n1_; have HO364 := n2_; have HO367 := n3_; have HO372 := n4_; have HO375 := n5_; have HB := n6_; clear n0_ n1_ n2_ n3_ n4_ n5_ n6_; (try clear hb); (try clear hb2); (try clear hk); (try clear hi); (try clear ho0); obtain ⟨Ao30, co30, eo30⟩ := Kd.R_slice HO375.out; subst eo30) | (go_at_call 8; (with_reducible refine (impl_FiredRow.calls k _ _ t354 t355 _ _ t373 (wrap64 (t357 - (wrap64 (Int.tdiv t357 2)))) t376 _ ?side1 ?side2 ?side3 ?side4 A20.out).mono ?_); (case side1 => exact zC (Kd.R_reads' HO359.out).2.2); (case side2 => exact (Kd.R_reads' HO359.out).2.1); (case side3 => exact zC (Kd.R_reads' HO375.out).2.2); (case side4 => exact (Kd.R_reads' HO375.out).2.1); rintro e w31 ⟨v377, rfl, ho0, hb⟩; have n0_ := Aside0.mk (Kd.R_elder' (zR HO359.out) (Kd.R_base ho0) hb); have n1_ := Aside0.mk (Kd.R_elder' (zR HO361.out) (Kd.R_base ho0) hb); have n2_ := Aside0.mk (Kd.R_elder' (zR HO364.out) (Kd.R_base ho0) hb); have n3_ := Aside0.mk (Kd.R_elder' (zR HO367.out) (Kd.R_base ho0) hb); have n4_ := Aside0.mk (Kd.R_elder' (zR HO372.out) (Kd.R_base ho0) hb); have n5_ := Aside0.mk (Kd.R_elder' (zR HO375.out) (Kd.R_base ho0) hb); have n6_ := Aside0.mk (Kd.R_lower (Kd.R_new' (Kd.R_new' (Kd.R_new' (Kd.R_new' (Kd.R_new' (Kd.R_new' ho0 (Kd.R_lt (zR HO359.out))) (Kd.R_lt (zR HO361.out))) (Kd.R_lt (zR HO364.out))) (Kd.R_lt (zR HO367.out))) (Kd.R_lt (zR HO372.out))) (Kd.R_lt (zR HO375.out))) (below_size (zB HB.out))); have n7_ := Aside0.mk (below_step (zB HB.out) hb); clear HO359; clear HO361; clear HO364; clear HO367; clear HO372; clear HO375; clear HB; have HO359 := n0_; have HO361 := n1_; have HO364 := n2_; have HO367 := n3_; have HO372 := n4_; have HO375 := n5_; have HO378 := n6_; have HB := n7_; clear n0_ n1_ n2_ n3_ n4_ n5_ n6_ n7_; (try clear hb); (try clear hb2); (try clear hk); (try clear hi); (try clear ho0)))
    repeat (go_quiet (first | (go_at_call 7; (with_reducible refine (spec_DrawFiredRow.calls k _ _ l0 t354 t355 t356 t357 _ ?side1 ?side2 A3.out).mono ?_); (case side1 => exact zC HR0.out); (case side2 => exact HC0.out); rintro e w21 ⟨v358, v360, rfl, ho0, ho1, hb⟩; have n0_ := Aside0.mk (Kd.R_lower ho0 (below_size (zB HB.out))); have n1_ := Aside0.mk (Kd.R_lower ho1 (below_size (zB HB.out))); have n2_ := Aside0.mk (below_step (zB HB.out) hb); clear HB; have HO359 := n0_; have HO361 := n1_; have HB := n2_; clear n0_ n1_ n2_; (try clear hb); (try clear hb2); (try clear hk); (try clear hi); (try clear ho0); (try clear ho1); obtain ⟨Ao22, co22, eo22⟩ := Kd.R_slice HO359.out; subst eo22; obtain ⟨Ao23, co23, eo23⟩ := Kd.R_slice HO361.out; subst eo23) | (go_at_call 8; (with_reducible refine (impl_FiredRow.calls k _ _ t354 t355 _ _ t356 t357 t362 _ ?side1 ?side2 ?side3 ?side4 A4.out).mono ?_); (case side1 => exact zC (Kd.R_reads' HO359.out).2.2); (case side2 => exact (Kd.R_reads' HO359.out).2.1); (case side3 => exact zC (Kd.R_reads' HO361.out).2.2); (case side4 => exact (Kd.R_reads' HO361.out).2.1); rintro e w24 ⟨v363, rfl, ho0, hb⟩; have n0_ := Aside0.mk (Kd.R_elder' (zR HO359.out) (Kd.R_base ho0) hb); have n1_ := Aside0.mk (Kd.R_elder' (zR HO361.out) (Kd.R_base ho0) hb); have n2_ := Aside0.mk (Kd.R_lower (Kd.R_new' (Kd.R_new' ho0 (Kd.R_lt (zR HO359.out))) (Kd.R_lt (zR HO361.out))) (below_size (zB HB.out))); have n3_ := Aside0.mk (below_step (zB HB.out) hb); clear HO359; clear HO361; clear HB; have HO359 := n0_; have HO361 := n1_; have HO364 := n2_; have HB := n3_; clear n0_ n1_ n2_ n3_; (try clear hb); (try clear hb2); (try clear hk); (try clear hi); (try clear ho0)) | (go_at_call 10; (with_reducible refine (spec_FiredRow.calls k _ _ t354 t355 _ _ t356 t357 t365 _ ?side1 ?side2 ?side3 ?side4 A5.out).mono ?_); (case side1 => exact zC (Kd.R_reads' HO359.out).2.2); (case side2 => exact (Kd.R_reads' HO359.out).2.1); (case side3 => exact zC (Kd.R_reads' HO361.out).2.2); (case side4 => exact (Kd.R_reads' HO361.out).2.1); rintro e w25 ⟨v366, rfl, ho0, hb⟩; have n0_ := Aside0.mk (Kd.R_elder' (zR HO359.out) (Kd.R_base ho0) hb); have n1_ := Aside0.mk (Kd.R_elder' (zR HO361.out) (Kd.R_base ho0) hb); have n2_ := Aside0.mk (Kd.R_elder' (zR HO364.out) (Kd.R_base ho0) hb); have n3_ := Aside0.mk (Kd.R_lower (Kd.R_new' (Kd.R_new' (Kd.R_new' ho0 (Kd.R_lt (zR HO359.out))) (Kd.R_lt (zR HO361.out))) (Kd.R_lt (zR HO364.out))) (below_size (zB HB.out))); have n4_ := Aside0.mk (below_step (zB HB.out) hb); clear HO359; clear HO361; clear HO364; clear HB; have HO359 := n0_; have HO361 := n1_; have HO364 := n2_; have HO367 := n3_; have HB := n4_; clear n0_ n1_ n2_ n3_ n4_; (try clear hb); (try clear hb2); (try clear hk); (try clear hi); (try clear ho0); obtain ⟨Ao26, co26, eo26⟩ := Kd.R_slice HO364.out; subst eo26; obtain ⟨Ao27, co27, eo27⟩ := Kd.R_slice HO367.out; subst eo27) | (go_at_call 9; (with_reducible refine (laws_sameInts.calls k _ _ t362 _ _ t365 true _ ?side1 ?side2 ?side3 ?side4 A6.out).mono ?_); (case side1 => exact zC (Kd.R_reads' HO364.out).2.2); (case side2 => exact (Kd.R_reads' HO364.out).2.1); (case side3 => exact zC (Kd.R_reads' HO367.out).2.2); (case side4 => exact (Kd.R_reads' HO367.out).2.1); rintro e w' ⟨rfl, ⟨nd, rfl⟩⟩; (try first | exact ⟨rfl, _, World.drewN_drewN _ _ _⟩ | exact ⟨rfl, _, Eq.trans (World.drewN_drewN _ _ _) (congrArg (World.drewN _) (Nat.add_assoc _ _ _))⟩)) | (go_at_call 8; (with_reducible refine (impl_FiredRow.calls k _ _ t354 t355 _ _ t356 (wrap64 (Int.tdiv t357 2)) t370 _ ?side1 ?side2 ?side3 ?side4 A18.out).mono ?_); (case side1 => exact zC (Kd.R_reads' HO359.out).2.2); (case side2 => exact (Kd.R_reads' HO359.out).2.1); (case side3 => exact zC (Kd.R_reads' HO361.out).2.2); (case side4 => exact (Kd.R_reads' HO361.out).2.1); rintro e w28 ⟨v371, rfl, ho0, hb⟩; have n0_ := Aside0.mk (Kd.R_elder' (zR HO359.out) (Kd.R_base ho0) hb); have n1_ := Aside0.mk (Kd.R_elder' (zR HO361.out) (Kd.R_base ho0) hb); have n2_ := Aside0.mk (Kd.R_elder' (zR HO364.out) (Kd.R_base ho0) hb); have n3_ := Aside0.mk (Kd.R_elder' (zR HO367.out) (Kd.R_base ho0) hb); have n4_ := Aside0.mk (Kd.R_lower (Kd.R_new' (Kd.R_new' (Kd.R_new' (Kd.R_new' ho0 (Kd.R_lt (zR HO359.out))) (Kd.R_lt (zR HO361.out))) (Kd.R_lt (zR HO364.out))) (Kd.R_lt (zR HO367.out))) (below_size (zB HB.out))); have n5_ := Aside0.mk (below_step (zB HB.out) hb); clear HO359; clear HO361; clear HO364; clear HO367; clear HB; have HO359 := n0_; have HO361 := n1_; have HO364 := n2_; have HO367 := n3_; have HO372 := n4_; have HB := n5_; clear n0_ n1_ n2_ n3_ n4_ n5_; (try clear hb); (try clear hb2); (try clear hk); (try clear hi); (try clear ho0)) | (go_at_call 12; (with_reducible refine (impl_FireRun.calls k _ _ t354 t355 _ _ t356 (wrap64 (Int.tdiv t357 2)) t373 _ ?side1 ?side2 ?side3 ?side4 A19.out).mono ?_); (case side1 => exact zC (Kd.R_reads' HO359.out).2.2); (case side2 => exact (Kd.R_reads' HO359.out).2.1); (case side3 => exact zC (Kd.R_reads' HO361.out).2.2); (case side4 => exact (Kd.R_reads' HO361.out).2.1); rintro e w29 ⟨v374, rfl, ho0, hb⟩; have n0_ := Aside0.mk (Kd.R_elder' (zR HO359.out) (Kd.R_base ho0) hb); have n1_ := Aside0.mk (Kd.R_elder' (zR HO361.out) (Kd.R_base ho0) hb); have n2_ := Aside0.mk (Kd.R_elder' (zR HO364.out) (Kd.R_base ho0) hb); have n3_ := Aside0.mk (Kd.R_elder' (zR HO367.out) (Kd.R_base ho0) hb); have n4_ := Aside0.mk (Kd.R_elder' (zR HO372.out) (Kd.R_base ho0) hb); have n5_ := Aside0.mk (Kd.R_lower (Kd.R_new' (Kd.R_new' (Kd.R_new' (Kd.R_new' (Kd.R_new' ho0 (Kd.R_lt (zR HO359.out))) (Kd.R_lt (zR HO361.out))) (Kd.R_lt (zR HO364.out))) (Kd.R_lt (zR HO367.out))) (Kd.R_lt (zR HO372.out))) (below_size (zB HB.out))); have n6_ := Aside0.mk (below_step (zB HB.out) hb); clear HO359; clear HO361; clear HO364; clear HO367; clear HO372; clear HB; have HO359 := n0_; have HO361 := n1_; have HO364 := n2_; have HO367 := n3_; have HO372 := n4_; have HO375 := n5_; have HB := n6_; clear n0_ n1_ n2_ n3_ n4_ n5_ n6_; (try clear hb); (try clear hb2); (try clear hk); (try clear hi); (try clear ho0); obtain ⟨Ao30, co30, eo30⟩ := Kd.R_slice HO375.out; subst eo30) | (go_at_call 8; (with_reducible refine (impl_FiredRow.calls k _ _ t354 t355 _ _ t373 (wrap64 (t357 - (wrap64 (Int.tdiv t357 2)))) t376 _ ?side1 ?side2 ?side3 ?side4 A20.out).mono ?_); (case side1 => exact zC (Kd.R_reads' HO359.out).2.2); (case side2 => exact (Kd.R_reads' HO359.out).2.1); (case side3 => exact zC (Kd.R_reads' HO375.out).2.2); (case side4 => exact (Kd.R_reads' HO375.out).2.1); rintro e w31 ⟨v377, rfl, ho0, hb⟩; have n0_ := Aside0.mk (Kd.R_elder' (zR HO359.out) (Kd.R_base ho0) hb); have n1_ := Aside0.mk (Kd.R_elder' (zR HO361.out) (Kd.R_base ho0) hb); have n2_ := Aside0.mk (Kd.R_elder' (zR HO364.out) (Kd.R_base ho0) hb); have n3_ := Aside0.mk (Kd.R_elder' (zR HO367.out) (Kd.R_base ho0) hb); have n4_ := Aside0.mk (Kd.R_elder' (zR HO372.out) (Kd.R_base ho0) hb); have n5_ := Aside0.mk (Kd.R_elder' (zR HO375.out) (Kd.R_base ho0) hb); have n6_ := Aside0.mk (Kd.R_lower (Kd.R_new' (Kd.R_new' (Kd.R_new' (Kd.R_new' (Kd.R_new' (Kd.R_new' ho0 (Kd.R_lt (zR HO359.out))) (Kd.R_lt (zR HO361.out))) (Kd.R_lt (zR HO364.out))) (Kd.R_lt (zR HO367.out))) (Kd.R_lt (zR HO372.out))) (Kd.R_lt (zR HO375.out))) (below_size (zB HB.out))); have n7_ := Aside0.mk (below_step (zB HB.out) hb); clear HO359; clear HO361; clear HO364; clear HO367; clear HO372; clear HO375; clear HB; have HO359 := n0_; have HO361 := n1_; have HO364 := n2_; have HO367 := n3_; have HO372 := n4_; have HO375 := n5_; have HO378 := n6_; have HB := n7_; clear n0_ n1_ n2_ n3_ n4_ n5_ n6_ n7_; (try clear hb); (try clear hb2); (try clear hk); (try clear hi); (try clear ho0))); try go_wp2_with (first | (go_at_call 7; (with_reducible refine (spec_DrawFiredRow.calls k _ _ l0 t354 t355 t356 t357 _ ?side1 ?side2 A3.out).mono ?_); (case side1 => exact zC HR0.out); (case side2 => exact HC0.out); rintro e w21 ⟨v358, v360, rfl, ho0, ho1, hb⟩; have n0_ := Aside0.mk (Kd.R_lower ho0 (below_size (zB HB.out))); have n1_ := Aside0.mk (Kd.R_lower ho1 (below_size (zB HB.out))); have n2_ := Aside0.mk (below_step (zB HB.out) hb); clear HB; have HO359 := n0_; have HO361 := n1_; have HB := n2_; clear n0_ n1_ n2_; (try clear hb); (try clear hb2); (try clear hk); (try clear hi); (try clear ho0); (try clear ho1); obtain ⟨Ao22, co22, eo22⟩ := Kd.R_slice HO359.out; subst eo22; obtain ⟨Ao23, co23, eo23⟩ := Kd.R_slice HO361.out; subst eo23) | (go_at_call 8; (with_reducible refine (impl_FiredRow.calls k _ _ t354 t355 _ _ t356 t357 t362 _ ?side1 ?side2 ?side3 ?side4 A4.out).mono ?_); (case side1 => exact zC (Kd.R_reads' HO359.out).2.2); (case side2 => exact (Kd.R_reads' HO359.out).2.1); (case side3 => exact zC (Kd.R_reads' HO361.out).2.2); (case side4 => exact (Kd.R_reads' HO361.out).2.1); rintro e w24 ⟨v363, rfl, ho0, hb⟩; have n0_ := Aside0.mk (Kd.R_elder' (zR HO359.out) (Kd.R_base ho0) hb); have n1_ := Aside0.mk (Kd.R_elder' (zR HO361.out) (Kd.R_base ho0) hb); have n2_ := Aside0.mk (Kd.R_lower (Kd.R_new' (Kd.R_new' ho0 (Kd.R_lt (zR HO359.out))) (Kd.R_lt (zR HO361.out))) (below_size (zB HB.out))); have n3_ := Aside0.mk (below_step (zB HB.out) hb); clear HO359; clear HO361; clear HB; have HO359 := n0_; have HO361 := n1_; have HO364 := n2_; have HB := n3_; clear n0_ n1_ n2_ n3_; (try clear hb); (try clear hb2); (try clear hk); (try clear hi); (try clear ho0)) | (go_at_call 10; (with_reducible refine (spec_FiredRow.calls k _ _ t354 t355 _ _ t356 t357 t365 _ ?side1 ?side2 ?side3 ?side4 A5.out).mono ?_); (case side1 => exact zC (Kd.R_reads' HO359.out).2.2); (case side2 => exact (Kd.R_reads' HO359.out).2.1); (case side3 => exact zC (Kd.R_reads' HO361.out).2.2); (case side4 => exact (Kd.R_reads' HO361.out).2.1); rintro e w25 ⟨v366, rfl, ho0, hb⟩; have n0_ := Aside0.mk (Kd.R_elder' (zR HO359.out) (Kd.R_base ho0) hb); have n1_ := Aside0.mk (Kd.R_elder' (zR HO361.out) (Kd.R_base ho0) hb); have n2_ := Aside0.mk (Kd.R_elder' (zR HO364.out) (Kd.R_base ho0) hb); have n3_ := Aside0.mk (Kd.R_lower (Kd.R_new' (Kd.R_new' (Kd.R_new' ho0 (Kd.R_lt (zR HO359.out))) (Kd.R_lt (zR HO361.out))) (Kd.R_lt (zR HO364.out))) (below_size (zB HB.out))); have n4_ := Aside0.mk (below_step (zB HB.out) hb); clear HO359; clear HO361; clear HO364; clear HB; have HO359 := n0_; have HO361 := n1_; have HO364 := n2_; have HO367 := n3_; have HB := n4_; clear n0_ n1_ n2_ n3_ n4_; (try clear hb); (try clear hb2); (try clear hk); (try clear hi); (try clear ho0); obtain ⟨Ao26, co26, eo26⟩ := Kd.R_slice HO364.out; subst eo26; obtain ⟨Ao27, co27, eo27⟩ := Kd.R_slice HO367.out; subst eo27) | (go_at_call 9; (with_reducible refine (laws_sameInts.calls k _ _ t362 _ _ t365 true _ ?side1 ?side2 ?side3 ?side4 A6.out).mono ?_); (case side1 => exact zC (Kd.R_reads' HO364.out).2.2); (case side2 => exact (Kd.R_reads' HO364.out).2.1); (case side3 => exact zC (Kd.R_reads' HO367.out).2.2); (case side4 => exact (Kd.R_reads' HO367.out).2.1); rintro e w' ⟨rfl, ⟨nd, rfl⟩⟩; (try first | exact ⟨rfl, _, World.drewN_drewN _ _ _⟩ | exact ⟨rfl, _, Eq.trans (World.drewN_drewN _ _ _) (congrArg (World.drewN _) (Nat.add_assoc _ _ _))⟩)) | (go_at_call 8; (with_reducible refine (impl_FiredRow.calls k _ _ t354 t355 _ _ t356 (wrap64 (Int.tdiv t357 2)) t370 _ ?side1 ?side2 ?side3 ?side4 A18.out).mono ?_); (case side1 => exact zC (Kd.R_reads' HO359.out).2.2); (case side2 => exact (Kd.R_reads' HO359.out).2.1); (case side3 => exact zC (Kd.R_reads' HO361.out).2.2); (case side4 => exact (Kd.R_reads' HO361.out).2.1); rintro e w28 ⟨v371, rfl, ho0, hb⟩; have n0_ := Aside0.mk (Kd.R_elder' (zR HO359.out) (Kd.R_base ho0) hb); have n1_ := Aside0.mk (Kd.R_elder' (zR HO361.out) (Kd.R_base ho0) hb); have n2_ := Aside0.mk (Kd.R_elder' (zR HO364.out) (Kd.R_base ho0) hb); have n3_ := Aside0.mk (Kd.R_elder' (zR HO367.out) (Kd.R_base ho0) hb); have n4_ := Aside0.mk (Kd.R_lower (Kd.R_new' (Kd.R_new' (Kd.R_new' (Kd.R_new' ho0 (Kd.R_lt (zR HO359.out))) (Kd.R_lt (zR HO361.out))) (Kd.R_lt (zR HO364.out))) (Kd.R_lt (zR HO367.out))) (below_size (zB HB.out))); have n5_ := Aside0.mk (below_step (zB HB.out) hb); clear HO359; clear HO361; clear HO364; clear HO367; clear HB; have HO359 := n0_; have HO361 := n1_; have HO364 := n2_; have HO367 := n3_; have HO372 := n4_; have HB := n5_; clear n0_ n1_ n2_ n3_ n4_ n5_; (try clear hb); (try clear hb2); (try clear hk); (try clear hi); (try clear ho0)) | (go_at_call 12; (with_reducible refine (impl_FireRun.calls k _ _ t354 t355 _ _ t356 (wrap64 (Int.tdiv t357 2)) t373 _ ?side1 ?side2 ?side3 ?side4 A19.out).mono ?_); (case side1 => exact zC (Kd.R_reads' HO359.out).2.2); (case side2 => exact (Kd.R_reads' HO359.out).2.1); (case side3 => exact zC (Kd.R_reads' HO361.out).2.2); (case side4 => exact (Kd.R_reads' HO361.out).2.1); rintro e w29 ⟨v374, rfl, ho0, hb⟩; have n0_ := Aside0.mk (Kd.R_elder' (zR HO359.out) (Kd.R_base ho0) hb); have n1_ := Aside0.mk (Kd.R_elder' (zR HO361.out) (Kd.R_base ho0) hb); have n2_ := Aside0.mk (Kd.R_elder' (zR HO364.out) (Kd.R_base ho0) hb); have n3_ := Aside0.mk (Kd.R_elder' (zR HO367.out) (Kd.R_base ho0) hb); have n4_ := Aside0.mk (Kd.R_elder' (zR HO372.out) (Kd.R_base ho0) hb); have n5_ := Aside0.mk (Kd.R_lower (Kd.R_new' (Kd.R_new' (Kd.R_new' (Kd.R_new' (Kd.R_new' ho0 (Kd.R_lt (zR HO359.out))) (Kd.R_lt (zR HO361.out))) (Kd.R_lt (zR HO364.out))) (Kd.R_lt (zR HO367.out))) (Kd.R_lt (zR HO372.out))) (below_size (zB HB.out))); have n6_ := Aside0.mk (below_step (zB HB.out) hb); clear HO359; clear HO361; clear HO364; clear HO367; clear HO372; clear HB; have HO359 := n0_; have HO361 := n1_; have HO364 := n2_; have HO367 := n3_; have HO372 := n4_; have HO375 := n5_; have HB := n6_; clear n0_ n1_ n2_ n3_ n4_ n5_ n6_; (try clear hb); (try clear hb2); (try clear hk); (try clear hi); (try clear ho0); obtain ⟨Ao30, co30, eo30⟩ := Kd.R_slice HO375.out; subst eo30) | (go_at_call 8; (with_reducible refine (impl_FiredRow.calls k _ _ t354 t355 _ _ t373 (wrap64 (t357 - (wrap64 (Int.tdiv t357 2)))) t376 _ ?side1 ?side2 ?side3 ?side4 A20.out).mono ?_); (case side1 => exact zC (Kd.R_reads' HO359.out).2.2); (case side2 => exact (Kd.R_reads' HO359.out).2.1); (case side3 => exact zC (Kd.R_reads' HO375.out).2.2); (case side4 => exact (Kd.R_reads' HO375.out).2.1); rintro e w31 ⟨v377, rfl, ho0, hb⟩; have n0_ := Aside0.mk (Kd.R_elder' (zR HO359.out) (Kd.R_base ho0) hb); have n1_ := Aside0.mk (Kd.R_elder' (zR HO361.out) (Kd.R_base ho0) hb); have n2_ := Aside0.mk (Kd.R_elder' (zR HO364.out) (Kd.R_base ho0) hb); have n3_ := Aside0.mk (Kd.R_elder' (zR HO367.out) (Kd.R_base ho0) hb); have n4_ := Aside0.mk (Kd.R_elder' (zR HO372.out) (Kd.R_base ho0) hb); have n5_ := Aside0.mk (Kd.R_elder' (zR HO375.out) (Kd.R_base ho0) hb); have n6_ := Aside0.mk (Kd.R_lower (Kd.R_new' (Kd.R_new' (Kd.R_new' (Kd.R_new' (Kd.R_new' (Kd.R_new' ho0 (Kd.R_lt (zR HO359.out))) (Kd.R_lt (zR HO361.out))) (Kd.R_lt (zR HO364.out))) (Kd.R_lt (zR HO367.out))) (Kd.R_lt (zR HO372.out))) (Kd.R_lt (zR HO375.out))) (below_size (zB HB.out))); have n7_ := Aside0.mk (below_step (zB HB.out) hb); clear HO359; clear HO361; clear HO364; clear HO367; clear HO372; clear HO375; clear HB; have HO359 := n0_; have HO361 := n1_; have HO364 := n2_; have HO367 := n3_; have HO372 := n4_; have HO375 := n5_; have HO378 := n6_; have HB := n7_; clear n0_ n1_ n2_ n3_ n4_ n5_ n6_ n7_; (try clear hb); (try clear hb2); (try clear hk); (try clear hi); (try clear ho0))))
    go_loopg [10] k (fun kq v10 w' => ∃ (x10_1 : Int), v10 = .int .i64 x10_1 ∧ Aside0 (laws_FnFiredRow.l0 kq t354 t355 t357 t362 t370 t376 x10_1 = some r) ∧ Aside0 (kq ≤ k) ∧ Aside0 (Kd.R (Kd.int .i64) 3 w' w.heap.size (fun k_ => some k_ ≠ ((.slice Ao26 t362.length co26) : Value).ownBlock ∧ some k_ ≠ (v371 : Value).ownBlock ∧ some k_ ≠ (v377 : Value).ownBlock) (.slice Ao22 t354.length co22) t354) ∧ Aside0 (Kd.R (Kd.int .i64) 3 w' w.heap.size (fun k_ => some k_ ≠ ((.slice Ao22 t354.length co22) : Value).ownBlock ∧ some k_ ≠ (v371 : Value).ownBlock ∧ some k_ ≠ (v377 : Value).ownBlock) (.slice Ao26 t362.length co26) t362) ∧ Aside0 (Kd.R (Kd.int .i64) 3 w' w.heap.size (fun k_ => some k_ ≠ ((.slice Ao22 t354.length co22) : Value).ownBlock ∧ some k_ ≠ ((.slice Ao26 t362.length co26) : Value).ownBlock ∧ some k_ ≠ (v377 : Value).ownBlock) v371 t370) ∧ Aside0 (Kd.R (Kd.int .i64) 3 w' w.heap.size (fun k_ => some k_ ≠ ((.slice Ao22 t354.length co22) : Value).ownBlock ∧ some k_ ≠ ((.slice Ao26 t362.length co26) : Value).ownBlock ∧ some k_ ≠ (v371 : Value).ownBlock) v377 t376) ∧ Aside0 (Below w.heap.size w w'))
    case atStart => exact ⟨(0), (by first | rfl | (simp; done) | (simp [*]; done)), H', ⟨Nat.le_refl _⟩, ⟨by (with_reducible repeat (first | apply Kd.R_alloc | apply Kd.R_drewN | apply Kd.R_drew)); exact Kd.R_mono HO359.out (fun _ hk => ⟨hk.1.1.1.1.2, ⟨hk.1.1.2, hk.2⟩⟩)⟩, ⟨by (with_reducible repeat (first | apply Kd.R_alloc | apply Kd.R_drewN | apply Kd.R_drew)); exact Kd.R_mono HO364.out (fun _ hk => ⟨hk.1.1.1.1.1.2, ⟨hk.1.1.2, hk.2⟩⟩)⟩, ⟨by (with_reducible repeat (first | apply Kd.R_alloc | apply Kd.R_drewN | apply Kd.R_drew)); exact Kd.R_mono HO372.out (fun _ hk => ⟨hk.1.1.1.1.1.2, ⟨hk.1.1.1.2, hk.2⟩⟩)⟩, ⟨by (with_reducible repeat (first | apply Kd.R_alloc | apply Kd.R_drewN | apply Kd.R_drew)); exact Kd.R_mono HO378.out (fun _ hk => ⟨hk.1.1.1.1.1.2, ⟨hk.1.1.1.2, hk.1.2⟩⟩)⟩, ⟨zB HB.out⟩⟩
    case round =>
     clear H'
     try clear c2
     try clear c2b0
     try clear c2b1
     try clear p2
     try clear c3
     try clear p6
     try clear c7
     try clear c8
     try clear c8b0
     try clear c8b1
     try clear c8b2
     obtain ⟨x10_1, rfl, HA, HK1, HO_3, HO_7, HO_8, HO_9, HB⟩ := hrel
     cases gk with
     | zero => exact absurd HA.out (by simp [laws_FnFiredRow.l0])
     | succ k1 =>
      have H := HA.out
      clear HA
      simp only [laws_FnFiredRow.l0] at H
      by_cases c32 : x10_1 < (t354.length : Int)
      ·rw [if_pos c32] at H
       have c32b0 : decide (x10_1 < (t354.length : Int)) = true := decide_eq_true c32
       clear c32
       by_cases c33 : (t370.length : Int) = (t354.length : Int)
       ·rw [if_pos c33] at H
        have c33b0 : ((t370.length : Int) == (t354.length : Int)) = true := beq_iff_eq.mpr c33
        have c33b1 : ((t370.length : Int) != (t354.length : Int)) = false := bne_eq_false_iff_eq.mpr c33
        have c33b2 : (t370.length == t354.length) = true := by first | simpa using c33 | (simp at c33 ⊢; omega)
        clear c33
        by_cases c34 : (t376.length : Int) = (t354.length : Int)
        ·rw [if_pos c34] at H
         have c34b0 : ((t376.length : Int) == (t354.length : Int)) = true := beq_iff_eq.mpr c34
         have c34b1 : ((t376.length : Int) != (t354.length : Int)) = false := bne_eq_false_iff_eq.mpr c34
         have c34b2 : (t376.length == t354.length) = true := by first | simpa using c34 | (simp at c34 ⊢; omega)
         clear c34
         by_cases c35 : 0 ≤ x10_1
         ·rw [if_pos c35] at H
          have c35b0 : decide (0 ≤ x10_1) = true := decide_eq_true c35
          clear c35
          by_cases c36 : x10_1 < (t370.length : Int)
          ·rw [if_pos c36] at H
           have c36b0 : decide (x10_1 < (t370.length : Int)) = true := decide_eq_true c36
           clear c36
           by_cases c37 : x10_1 < (t376.length : Int)
           ·rw [if_pos c37] at H
            have c37b0 : decide (x10_1 < (t376.length : Int)) = true := decide_eq_true c37
            clear c37
            by_cases c38 : x10_1 < (t362.length : Int)
            ·rw [if_pos c38] at H
             have c38b0 : decide (x10_1 < (t362.length : Int)) = true := decide_eq_true c38
             clear c38
             by_cases c39 : (wrap64 ((rd t370 x10_1) + (rd t376 x10_1))) = (rd t362 x10_1)
             ·rw [if_pos c39] at H
              have c39b0 : ((wrap64 ((rd t370 x10_1) + (rd t376 x10_1))) == (rd t362 x10_1)) = true := beq_iff_eq.mpr c39
              have c39b1 : ((wrap64 ((rd t370 x10_1) + (rd t376 x10_1))) != (rd t362 x10_1)) = false := bne_eq_false_iff_eq.mpr c39
              clear c39
              by_cases c40 : t355 = 0
              ·rw [if_pos c40] at H
               exact absurd H (by simp)
              ·rw [if_neg c40] at H
               have c40b0 : (t355 == 0) = false := beq_eq_false_iff_ne.mpr c40
               have c40b1 : (t355 != 0) = true := bne_iff_ne.mpr c40
               by_cases c41 : (rd t362 x10_1) > (wrap64 ((wrap64 (Int.tdiv (wrap64 (t357 + 1)) t355)) + 1))
               ·rw [if_pos c41] at H
                have c41b0 : decide ((wrap64 ((wrap64 (Int.tdiv (wrap64 (t357 + 1)) t355)) + 1)) < (rd t362 x10_1)) = true := decide_eq_true c41
                clear c41
                obtain rfl := Option.some.inj H
                obtain ⟨Ao42, co42, eo42⟩ := Kd.R_slice HO_8.out
                subst eo42
                obtain ⟨Ao43, co43, eo43⟩ := Kd.R_slice HO_9.out
                subst eo43
                have p379 : 0 ≤ (x10_1 : Int) := zD
                have q379 : x10_1 < (t370.length : Int) := zD
                obtain ⟨ad379, e379, hx379_0⟩ := Kd.at_int (Kd.R_reads' HO_8.out).2.2 x10_1 p379 q379
                cases e379
                replace p379 := eq_true p379
                replace q379 := eq_true q379
                have p380 : 0 ≤ (x10_1 : Int) := zD
                have q380 : x10_1 < (t376.length : Int) := zD
                obtain ⟨ad380, e380, hx380_0⟩ := Kd.at_int (Kd.R_reads' HO_9.out).2.2 x10_1 p380 q380
                cases e380
                replace p380 := eq_true p380
                replace q380 := eq_true q380
                have p381 : 0 ≤ (x10_1 : Int) := zD
                have q381 : x10_1 < (t362.length : Int) := zD
                obtain ⟨ad381, e381, hx381_0⟩ := Kd.at_int (Kd.R_reads' HO_7.out).2.2 x10_1 p381 q381
                cases e381
                replace p381 := eq_true p381
                replace q381 := eq_true q381
                have p382 : 0 ≤ (x10_1 : Int) := zD
                have q382 : x10_1 < (t362.length : Int) := zD
                obtain ⟨ad382, e382, hx382_0⟩ := Kd.at_int (Kd.R_reads' HO_7.out).2.2 x10_1 p382 q382
                obtain rfl : ad381 = ad382 := (by injection e382)
                replace p382 := eq_true p382
                replace q382 := eq_true q382
                go_wp2
                repeat (go_quiet (fail); try go_wp2)
                go_ret
                exact ⟨by first | rfl | (simp [errW_none, errW_some] <;> rfl) | (simp [*, errW_none, errW_some] <;> rfl), zB HB.out⟩
               ·rw [if_neg c41] at H
                have c41b0 : decide ((wrap64 ((wrap64 (Int.tdiv (wrap64 (t357 + 1)) t355)) + 1)) < (rd t362 x10_1)) = false := decide_eq_false c41
                clear c41
                by_cases c44 : (rd t354 x10_1) = 0
                ·rw [if_pos c44] at H
                 have c44b0 : ((rd t354 x10_1) == 0) = true := beq_iff_eq.mpr c44
                 have c44b1 : ((rd t354 x10_1) != 0) = false := bne_eq_false_iff_eq.mpr c44
                 clear c44
                 by_cases c45 : (rd t362 x10_1) = 0
                 ·rw [if_pos c45] at H
                  have c45b0 : ((rd t362 x10_1) == 0) = true := beq_iff_eq.mpr c45
                  have c45b1 : ((rd t362 x10_1) != 0) = false := bne_eq_false_iff_eq.mpr c45
                  clear c45
                  have H' := Aside0.mk H
                  clear H
                  obtain ⟨Ao46, co46, eo46⟩ := Kd.R_slice HO_8.out
                  subst eo46
                  obtain ⟨Ao47, co47, eo47⟩ := Kd.R_slice HO_9.out
                  subst eo47
                  have p379 : 0 ≤ (x10_1 : Int) := zD
                  have q379 : x10_1 < (t370.length : Int) := zD
                  obtain ⟨ad379, e379, hx379_0⟩ := Kd.at_int (Kd.R_reads' HO_8.out).2.2 x10_1 p379 q379
                  cases e379
                  replace p379 := eq_true p379
                  replace q379 := eq_true q379
                  have p380 : 0 ≤ (x10_1 : Int) := zD
                  have q380 : x10_1 < (t376.length : Int) := zD
                  obtain ⟨ad380, e380, hx380_0⟩ := Kd.at_int (Kd.R_reads' HO_9.out).2.2 x10_1 p380 q380
                  cases e380
                  replace p380 := eq_true p380
                  replace q380 := eq_true q380
                  have p381 : 0 ≤ (x10_1 : Int) := zD
                  have q381 : x10_1 < (t362.length : Int) := zD
                  obtain ⟨ad381, e381, hx381_0⟩ := Kd.at_int (Kd.R_reads' HO_7.out).2.2 x10_1 p381 q381
                  cases e381
                  replace p381 := eq_true p381
                  replace q381 := eq_true q381
                  have p382 : 0 ≤ (x10_1 : Int) := zD
                  have q382 : x10_1 < (t362.length : Int) := zD
                  obtain ⟨ad382, e382, hx382_0⟩ := Kd.at_int (Kd.R_reads' HO_7.out).2.2 x10_1 p382 q382
                  obtain rfl : ad381 = ad382 := (by injection e382)
                  replace p382 := eq_true p382
                  replace q382 := eq_true q382
                  have p383 : 0 ≤ (x10_1 : Int) := zD
                  have q383 : x10_1 < (t354.length : Int) := zD
                  obtain ⟨ad383, e383, hx383_0⟩ := Kd.at_int (Kd.R_reads' HO_3.out).2.2 x10_1 p383 q383
                  cases e383
                  replace p383 := eq_true p383
                  replace q383 := eq_true q383
                  have p384 : 0 ≤ (x10_1 : Int) := zD
                  have q384 : x10_1 < (t362.length : Int) := zD
                  obtain ⟨ad384, e384, hx384_0⟩ := Kd.at_int (Kd.R_reads' HO_7.out).2.2 x10_1 p384 q384
                  obtain rfl : ad381 = ad384 := (by injection e384)
                  replace p384 := eq_true p384
                  replace q384 := eq_true q384
                  go_wp2
                  repeat (go_quiet (fail); try go_wp2)
                  go_roundg k1
                  case measure => have := HK1.out; omega
                  case rel => exact ⟨(wrap64 (x10_1 + 1)), (by first | rfl | (simp; done) | (simp [*]; done)), H', ⟨by have := HK1.out; omega⟩, ⟨by (with_reducible repeat (first | apply Kd.R_alloc | apply Kd.R_drewN | apply Kd.R_drew)); exact HO_3.out⟩, ⟨by (with_reducible repeat (first | apply Kd.R_alloc | apply Kd.R_drewN | apply Kd.R_drew)); exact HO_7.out⟩, ⟨by (with_reducible repeat (first | apply Kd.R_alloc | apply Kd.R_drewN | apply Kd.R_drew)); exact HO_8.out⟩, ⟨by (with_reducible repeat (first | apply Kd.R_alloc | apply Kd.R_drewN | apply Kd.R_drew)); exact HO_9.out⟩, ⟨zB HB.out⟩⟩
                 ·rw [if_neg c45] at H
                  have c45b0 : ((rd t362 x10_1) == 0) = false := beq_eq_false_iff_ne.mpr c45
                  have c45b1 : ((rd t362 x10_1) != 0) = true := bne_iff_ne.mpr c45
                  obtain rfl := Option.some.inj H
                  obtain ⟨Ao48, co48, eo48⟩ := Kd.R_slice HO_8.out
                  subst eo48
                  obtain ⟨Ao49, co49, eo49⟩ := Kd.R_slice HO_9.out
                  subst eo49
                  have p379 : 0 ≤ (x10_1 : Int) := zD
                  have q379 : x10_1 < (t370.length : Int) := zD
                  obtain ⟨ad379, e379, hx379_0⟩ := Kd.at_int (Kd.R_reads' HO_8.out).2.2 x10_1 p379 q379
                  cases e379
                  replace p379 := eq_true p379
                  replace q379 := eq_true q379
                  have p380 : 0 ≤ (x10_1 : Int) := zD
                  have q380 : x10_1 < (t376.length : Int) := zD
                  obtain ⟨ad380, e380, hx380_0⟩ := Kd.at_int (Kd.R_reads' HO_9.out).2.2 x10_1 p380 q380
                  cases e380
                  replace p380 := eq_true p380
                  replace q380 := eq_true q380
                  have p381 : 0 ≤ (x10_1 : Int) := zD
                  have q381 : x10_1 < (t362.length : Int) := zD
                  obtain ⟨ad381, e381, hx381_0⟩ := Kd.at_int (Kd.R_reads' HO_7.out).2.2 x10_1 p381 q381
                  cases e381
                  replace p381 := eq_true p381
                  replace q381 := eq_true q381
                  have p382 : 0 ≤ (x10_1 : Int) := zD
                  have q382 : x10_1 < (t362.length : Int) := zD
                  obtain ⟨ad382, e382, hx382_0⟩ := Kd.at_int (Kd.R_reads' HO_7.out).2.2 x10_1 p382 q382
                  obtain rfl : ad381 = ad382 := (by injection e382)
                  replace p382 := eq_true p382
                  replace q382 := eq_true q382
                  have p383 : 0 ≤ (x10_1 : Int) := zD
                  have q383 : x10_1 < (t354.length : Int) := zD
                  obtain ⟨ad383, e383, hx383_0⟩ := Kd.at_int (Kd.R_reads' HO_3.out).2.2 x10_1 p383 q383
                  cases e383
                  replace p383 := eq_true p383
                  replace q383 := eq_true q383
                  have p384 : 0 ≤ (x10_1 : Int) := zD
                  have q384 : x10_1 < (t362.length : Int) := zD
                  obtain ⟨ad384, e384, hx384_0⟩ := Kd.at_int (Kd.R_reads' HO_7.out).2.2 x10_1 p384 q384
                  obtain rfl : ad381 = ad384 := (by injection e384)
                  replace p384 := eq_true p384
                  replace q384 := eq_true q384
                  go_wp2
                  repeat (go_quiet (fail); try go_wp2)
                  go_ret
                  exact ⟨by first | rfl | (simp [errW_none, errW_some] <;> rfl) | (simp [*, errW_none, errW_some] <;> rfl), zB HB.out⟩
                ·rw [if_neg c44] at H
                 have c44b0 : ((rd t354 x10_1) == 0) = false := beq_eq_false_iff_ne.mpr c44
                 have c44b1 : ((rd t354 x10_1) != 0) = true := bne_iff_ne.mpr c44
                 have H' := Aside0.mk H
                 clear H
                 obtain ⟨Ao50, co50, eo50⟩ := Kd.R_slice HO_8.out
                 subst eo50
                 obtain ⟨Ao51, co51, eo51⟩ := Kd.R_slice HO_9.out
                 subst eo51
                 have p379 : 0 ≤ (x10_1 : Int) := zD
                 have q379 : x10_1 < (t370.length : Int) := zD
                 obtain ⟨ad379, e379, hx379_0⟩ := Kd.at_int (Kd.R_reads' HO_8.out).2.2 x10_1 p379 q379
                 cases e379
                 replace p379 := eq_true p379
                 replace q379 := eq_true q379
                 have p380 : 0 ≤ (x10_1 : Int) := zD
                 have q380 : x10_1 < (t376.length : Int) := zD
                 obtain ⟨ad380, e380, hx380_0⟩ := Kd.at_int (Kd.R_reads' HO_9.out).2.2 x10_1 p380 q380
                 cases e380
                 replace p380 := eq_true p380
                 replace q380 := eq_true q380
                 have p381 : 0 ≤ (x10_1 : Int) := zD
                 have q381 : x10_1 < (t362.length : Int) := zD
                 obtain ⟨ad381, e381, hx381_0⟩ := Kd.at_int (Kd.R_reads' HO_7.out).2.2 x10_1 p381 q381
                 cases e381
                 replace p381 := eq_true p381
                 replace q381 := eq_true q381
                 have p382 : 0 ≤ (x10_1 : Int) := zD
                 have q382 : x10_1 < (t362.length : Int) := zD
                 obtain ⟨ad382, e382, hx382_0⟩ := Kd.at_int (Kd.R_reads' HO_7.out).2.2 x10_1 p382 q382
                 obtain rfl : ad381 = ad382 := (by injection e382)
                 replace p382 := eq_true p382
                 replace q382 := eq_true q382
                 have p383 : 0 ≤ (x10_1 : Int) := zD
                 have q383 : x10_1 < (t354.length : Int) := zD
                 obtain ⟨ad383, e383, hx383_0⟩ := Kd.at_int (Kd.R_reads' HO_3.out).2.2 x10_1 p383 q383
                 cases e383
                 replace p383 := eq_true p383
                 replace q383 := eq_true q383
                 go_wp2
                 repeat (go_quiet (fail); try go_wp2)
                 go_roundg k1
                 case measure => have := HK1.out; omega
                 case rel => exact ⟨(wrap64 (x10_1 + 1)), (by first | rfl | (simp; done) | (simp [*]; done)), H', ⟨by have := HK1.out; omega⟩, ⟨by (with_reducible repeat (first | apply Kd.R_alloc | apply Kd.R_drewN | apply Kd.R_drew)); exact HO_3.out⟩, ⟨by (with_reducible repeat (first | apply Kd.R_alloc | apply Kd.R_drewN | apply Kd.R_drew)); exact HO_7.out⟩, ⟨by (with_reducible repeat (first | apply Kd.R_alloc | apply Kd.R_drewN | apply Kd.R_drew)); exact HO_8.out⟩, ⟨by (with_reducible repeat (first | apply Kd.R_alloc | apply Kd.R_drewN | apply Kd.R_drew)); exact HO_9.out⟩, ⟨zB HB.out⟩⟩
             ·rw [if_neg c39] at H
              have c39b0 : ((wrap64 ((rd t370 x10_1) + (rd t376 x10_1))) == (rd t362 x10_1)) = false := beq_eq_false_iff_ne.mpr c39
              have c39b1 : ((wrap64 ((rd t370 x10_1) + (rd t376 x10_1))) != (rd t362 x10_1)) = true := bne_iff_ne.mpr c39
              obtain rfl := Option.some.inj H
              obtain ⟨Ao52, co52, eo52⟩ := Kd.R_slice HO_8.out
              subst eo52
              obtain ⟨Ao53, co53, eo53⟩ := Kd.R_slice HO_9.out
              subst eo53
              have p379 : 0 ≤ (x10_1 : Int) := zD
              have q379 : x10_1 < (t370.length : Int) := zD
              obtain ⟨ad379, e379, hx379_0⟩ := Kd.at_int (Kd.R_reads' HO_8.out).2.2 x10_1 p379 q379
              cases e379
              replace p379 := eq_true p379
              replace q379 := eq_true q379
              have p380 : 0 ≤ (x10_1 : Int) := zD
              have q380 : x10_1 < (t376.length : Int) := zD
              obtain ⟨ad380, e380, hx380_0⟩ := Kd.at_int (Kd.R_reads' HO_9.out).2.2 x10_1 p380 q380
              cases e380
              replace p380 := eq_true p380
              replace q380 := eq_true q380
              have p381 : 0 ≤ (x10_1 : Int) := zD
              have q381 : x10_1 < (t362.length : Int) := zD
              obtain ⟨ad381, e381, hx381_0⟩ := Kd.at_int (Kd.R_reads' HO_7.out).2.2 x10_1 p381 q381
              cases e381
              replace p381 := eq_true p381
              replace q381 := eq_true q381
              go_wp2
              repeat (go_quiet (fail); try go_wp2)
              go_ret
              exact ⟨by first | rfl | (simp [errW_none, errW_some] <;> rfl) | (simp [*, errW_none, errW_some] <;> rfl), zB HB.out⟩
            ·rw [if_neg c38] at H
             exact absurd H (by simp)
           ·rw [if_neg c37] at H
            exact absurd H (by simp)
          ·rw [if_neg c36] at H
           exact absurd H (by simp)
         ·rw [if_neg c35] at H
          exact absurd H (by simp)
        ·rw [if_neg c34] at H
         have c34b0 : ((t376.length : Int) == (t354.length : Int)) = false := beq_eq_false_iff_ne.mpr c34
         have c34b1 : ((t376.length : Int) != (t354.length : Int)) = true := bne_iff_ne.mpr c34
         have c34b2 : (t376.length == t354.length) = false := by first | simpa using c34 | (simp at c34 ⊢; omega)
         obtain rfl := Option.some.inj H
         obtain ⟨Ao54, co54, eo54⟩ := Kd.R_slice HO_8.out
         subst eo54
         obtain ⟨Ao55, co55, eo55⟩ := Kd.R_slice HO_9.out
         subst eo55
         go_wp2
         repeat (go_quiet (fail); try go_wp2)
         go_ret
         exact ⟨by first | rfl | (simp [errW_none, errW_some] <;> rfl) | (simp [*, errW_none, errW_some] <;> rfl), zB HB.out⟩
       ·rw [if_neg c33] at H
        have c33b0 : ((t370.length : Int) == (t354.length : Int)) = false := beq_eq_false_iff_ne.mpr c33
        have c33b1 : ((t370.length : Int) != (t354.length : Int)) = true := bne_iff_ne.mpr c33
        have c33b2 : (t370.length == t354.length) = false := by first | simpa using c33 | (simp at c33 ⊢; omega)
        obtain rfl := Option.some.inj H
        obtain ⟨Ao56, co56, eo56⟩ := Kd.R_slice HO_8.out
        subst eo56
        go_wp2
        repeat (go_quiet (fail); try go_wp2)
        go_ret
        exact ⟨by first | rfl | (simp [errW_none, errW_some] <;> rfl) | (simp [*, errW_none, errW_some] <;> rfl), zB HB.out⟩
      ·rw [if_neg c32] at H
       have c32b0 : decide (x10_1 < (t354.length : Int)) = false := decide_eq_false c32
       clear c32
       obtain rfl := Option.some.inj H
       go_wp2
       repeat (go_quiet (fail); try go_wp2)
       go_ret
       exact ⟨by first | rfl | (simp [errW_none, errW_some] <;> rfl) | (simp [*, errW_none, errW_some] <;> rfl), zB HB.out⟩
  ·replace c7 := Bool.eq_false_iff.mpr c7
   subst c7
   have H1 : (some false) = some r := by rw [if_neg (show ¬ (false = true) by decide)] at H; exact H
   clear H
   have H := H1
   clear H1
   obtain rfl := Option.some.inj H
   go_enter Try.func3, Try.ntmps3
   go_wp2_with (first | (go_at_call 7; (with_reducible refine (spec_DrawFiredRow.calls k _ _ l0 t354 t355 t356 t357 _ ?side1 ?side2 A3.out).mono ?_); (case side1 => exact zC HR0.out); (case side2 => exact HC0.out); rintro e w57 ⟨v358, v360, rfl, ho0, ho1, hb⟩; have n0_ := Aside0.mk (Kd.R_lower ho0 (below_size (zB HB.out))); have n1_ := Aside0.mk (Kd.R_lower ho1 (below_size (zB HB.out))); have n2_ := Aside0.mk (below_step (zB HB.out) hb); clear HB; have HO359 := n0_; have HO361 := n1_; have HB := n2_; clear n0_ n1_ n2_; (try clear hb); (try clear hb2); (try clear hk); (try clear hi); (try clear ho0); (try clear ho1); obtain ⟨Ao58, co58, eo58⟩ := Kd.R_slice HO359.out; subst eo58; obtain ⟨Ao59, co59, eo59⟩ := Kd.R_slice HO361.out; subst eo59) | (go_at_call 8; (with_reducible refine (impl_FiredRow.calls k _ _ t354 t355 _ _ t356 t357 t362 _ ?side1 ?side2 ?side3 ?side4 A4.out).mono ?_); (case side1 => exact zC (Kd.R_reads' HO359.out).2.2); (case side2 => exact (Kd.R_reads' HO359.out).2.1); (case side3 => exact zC (Kd.R_reads' HO361.out).2.2); (case side4 => exact (Kd.R_reads' HO361.out).2.1); rintro e w60 ⟨v363, rfl, ho0, hb⟩; have n0_ := Aside0.mk (Kd.R_elder' (zR HO359.out) (Kd.R_base ho0) hb); have n1_ := Aside0.mk (Kd.R_elder' (zR HO361.out) (Kd.R_base ho0) hb); have n2_ := Aside0.mk (Kd.R_lower (Kd.R_new' (Kd.R_new' ho0 (Kd.R_lt (zR HO359.out))) (Kd.R_lt (zR HO361.out))) (below_size (zB HB.out))); have n3_ := Aside0.mk (below_step (zB HB.out) hb); clear HO359; clear HO361; clear HB; have HO359 := n0_; have HO361 := n1_; have HO364 := n2_; have HB := n3_; clear n0_ n1_ n2_ n3_; (try clear hb); (try clear hb2); (try clear hk); (try clear hi); (try clear ho0)) | (go_at_call 10; (with_reducible refine (spec_FiredRow.calls k _ _ t354 t355 _ _ t356 t357 t365 _ ?side1 ?side2 ?side3 ?side4 A5.out).mono ?_); (case side1 => exact zC (Kd.R_reads' HO359.out).2.2); (case side2 => exact (Kd.R_reads' HO359.out).2.1); (case side3 => exact zC (Kd.R_reads' HO361.out).2.2); (case side4 => exact (Kd.R_reads' HO361.out).2.1); rintro e w61 ⟨v366, rfl, ho0, hb⟩; have n0_ := Aside0.mk (Kd.R_elder' (zR HO359.out) (Kd.R_base ho0) hb); have n1_ := Aside0.mk (Kd.R_elder' (zR HO361.out) (Kd.R_base ho0) hb); have n2_ := Aside0.mk (Kd.R_elder' (zR HO364.out) (Kd.R_base ho0) hb); have n3_ := Aside0.mk (Kd.R_lower (Kd.R_new' (Kd.R_new' (Kd.R_new' ho0 (Kd.R_lt (zR HO359.out))) (Kd.R_lt (zR HO361.out))) (Kd.R_lt (zR HO364.out))) (below_size (zB HB.out))); have n4_ := Aside0.mk (below_step (zB HB.out) hb); clear HO359; clear HO361; clear HO364; clear HB; have HO359 := n0_; have HO361 := n1_; have HO364 := n2_; have HO367 := n3_; have HB := n4_; clear n0_ n1_ n2_ n3_ n4_; (try clear hb); (try clear hb2); (try clear hk); (try clear hi); (try clear ho0); obtain ⟨Ao62, co62, eo62⟩ := Kd.R_slice HO364.out; subst eo62; obtain ⟨Ao63, co63, eo63⟩ := Kd.R_slice HO367.out; subst eo63) | (go_at_call 9; (with_reducible refine (laws_sameInts.calls k _ _ t362 _ _ t365 false _ ?side1 ?side2 ?side3 ?side4 A6.out).mono ?_); (case side1 => exact zC (Kd.R_reads' HO364.out).2.2); (case side2 => exact (Kd.R_reads' HO364.out).2.1); (case side3 => exact zC (Kd.R_reads' HO367.out).2.2); (case side4 => exact (Kd.R_reads' HO367.out).2.1); rintro e w' ⟨rfl, ⟨nd, rfl⟩⟩; (try first | exact ⟨rfl, _, World.drewN_drewN _ _ _⟩ | exact ⟨rfl, _, Eq.trans (World.drewN_drewN _ _ _) (congrArg (World.drewN _) (Nat.add_assoc _ _ _))⟩)))
   repeat (go_quiet (first | (go_at_call 7; (with_reducible refine (spec_DrawFiredRow.calls k _ _ l0 t354 t355 t356 t357 _ ?side1 ?side2 A3.out).mono ?_); (case side1 => exact zC HR0.out); (case side2 => exact HC0.out); rintro e w57 ⟨v358, v360, rfl, ho0, ho1, hb⟩; have n0_ := Aside0.mk (Kd.R_lower ho0 (below_size (zB HB.out))); have n1_ := Aside0.mk (Kd.R_lower ho1 (below_size (zB HB.out))); have n2_ := Aside0.mk (below_step (zB HB.out) hb); clear HB; have HO359 := n0_; have HO361 := n1_; have HB := n2_; clear n0_ n1_ n2_; (try clear hb); (try clear hb2); (try clear hk); (try clear hi); (try clear ho0); (try clear ho1); obtain ⟨Ao58, co58, eo58⟩ := Kd.R_slice HO359.out; subst eo58; obtain ⟨Ao59, co59, eo59⟩ := Kd.R_slice HO361.out; subst eo59) | (go_at_call 8; (with_reducible refine (impl_FiredRow.calls k _ _ t354 t355 _ _ t356 t357 t362 _ ?side1 ?side2 ?side3 ?side4 A4.out).mono ?_); (case side1 => exact zC (Kd.R_reads' HO359.out).2.2); (case side2 => exact (Kd.R_reads' HO359.out).2.1); (case side3 => exact zC (Kd.R_reads' HO361.out).2.2); (case side4 => exact (Kd.R_reads' HO361.out).2.1); rintro e w60 ⟨v363, rfl, ho0, hb⟩; have n0_ := Aside0.mk (Kd.R_elder' (zR HO359.out) (Kd.R_base ho0) hb); have n1_ := Aside0.mk (Kd.R_elder' (zR HO361.out) (Kd.R_base ho0) hb); have n2_ := Aside0.mk (Kd.R_lower (Kd.R_new' (Kd.R_new' ho0 (Kd.R_lt (zR HO359.out))) (Kd.R_lt (zR HO361.out))) (below_size (zB HB.out))); have n3_ := Aside0.mk (below_step (zB HB.out) hb); clear HO359; clear HO361; clear HB; have HO359 := n0_; have HO361 := n1_; have HO364 := n2_; have HB := n3_; clear n0_ n1_ n2_ n3_; (try clear hb); (try clear hb2); (try clear hk); (try clear hi); (try clear ho0)) | (go_at_call 10; (with_reducible refine (spec_FiredRow.calls k _ _ t354 t355 _ _ t356 t357 t365 _ ?side1 ?side2 ?side3 ?side4 A5.out).mono ?_); (case side1 => exact zC (Kd.R_reads' HO359.out).2.2); (case side2 => exact (Kd.R_reads' HO359.out).2.1); (case side3 => exact zC (Kd.R_reads' HO361.out).2.2); (case side4 => exact (Kd.R_reads' HO361.out).2.1); rintro e w61 ⟨v366, rfl, ho0, hb⟩; have n0_ := Aside0.mk (Kd.R_elder' (zR HO359.out) (Kd.R_base ho0) hb); have n1_ := Aside0.mk (Kd.R_elder' (zR HO361.out) (Kd.R_base ho0) hb); have n2_ := Aside0.mk (Kd.R_elder' (zR HO364.out) (Kd.R_base ho0) hb); have n3_ := Aside0.mk (Kd.R_lower (Kd.R_new' (Kd.R_new' (Kd.R_new' ho0 (Kd.R_lt (zR HO359.out))) (Kd.R_lt (zR HO361.out))) (Kd.R_lt (zR HO364.out))) (below_size (zB HB.out))); have n4_ := Aside0.mk (below_step (zB HB.out) hb); clear HO359; clear HO361; clear HO364; clear HB; have HO359 := n0_; have HO361 := n1_; have HO364 := n2_; have HO367 := n3_; have HB := n4_; clear n0_ n1_ n2_ n3_ n4_; (try clear hb); (try clear hb2); (try clear hk); (try clear hi); (try clear ho0); obtain ⟨Ao62, co62, eo62⟩ := Kd.R_slice HO364.out; subst eo62; obtain ⟨Ao63, co63, eo63⟩ := Kd.R_slice HO367.out; subst eo63) | (go_at_call 9; (with_reducible refine (laws_sameInts.calls k _ _ t362 _ _ t365 false _ ?side1 ?side2 ?side3 ?side4 A6.out).mono ?_); (case side1 => exact zC (Kd.R_reads' HO364.out).2.2); (case side2 => exact (Kd.R_reads' HO364.out).2.1); (case side3 => exact zC (Kd.R_reads' HO367.out).2.2); (case side4 => exact (Kd.R_reads' HO367.out).2.1); rintro e w' ⟨rfl, ⟨nd, rfl⟩⟩; (try first | exact ⟨rfl, _, World.drewN_drewN _ _ _⟩ | exact ⟨rfl, _, Eq.trans (World.drewN_drewN _ _ _) (congrArg (World.drewN _) (Nat.add_assoc _ _ _))⟩))); try go_wp2_with (first | (go_at_call 7; (with_reducible refine (spec_DrawFiredRow.calls k _ _ l0 t354 t355 t356 t357 _ ?side1 ?side2 A3.out).mono ?_); (case side1 => exact zC HR0.out); (case side2 => exact HC0.out); rintro e w57 ⟨v358, v360, rfl, ho0, ho1, hb⟩; have n0_ := Aside0.mk (Kd.R_lower ho0 (below_size (zB HB.out))); have n1_ := Aside0.mk (Kd.R_lower ho1 (below_size (zB HB.out))); have n2_ := Aside0.mk (below_step (zB HB.out) hb); clear HB; have HO359 := n0_; have HO361 := n1_; have HB := n2_; clear n0_ n1_ n2_; (try clear hb); (try clear hb2); (try clear hk); (try clear hi); (try clear ho0); (try clear ho1); obtain ⟨Ao58, co58, eo58⟩ := Kd.R_slice HO359.out; subst eo58; obtain ⟨Ao59, co59, eo59⟩ := Kd.R_slice HO361.out; subst eo59) | (go_at_call 8; (with_reducible refine (impl_FiredRow.calls k _ _ t354 t355 _ _ t356 t357 t362 _ ?side1 ?side2 ?side3 ?side4 A4.out).mono ?_); (case side1 => exact zC (Kd.R_reads' HO359.out).2.2); (case side2 => exact (Kd.R_reads' HO359.out).2.1); (case side3 => exact zC (Kd.R_reads' HO361.out).2.2); (case side4 => exact (Kd.R_reads' HO361.out).2.1); rintro e w60 ⟨v363, rfl, ho0, hb⟩; have n0_ := Aside0.mk (Kd.R_elder' (zR HO359.out) (Kd.R_base ho0) hb); have n1_ := Aside0.mk (Kd.R_elder' (zR HO361.out) (Kd.R_base ho0) hb); have n2_ := Aside0.mk (Kd.R_lower (Kd.R_new' (Kd.R_new' ho0 (Kd.R_lt (zR HO359.out))) (Kd.R_lt (zR HO361.out))) (below_size (zB HB.out))); have n3_ := Aside0.mk (below_step (zB HB.out) hb); clear HO359; clear HO361; clear HB; have HO359 := n0_; have HO361 := n1_; have HO364 := n2_; have HB := n3_; clear n0_ n1_ n2_ n3_; (try clear hb); (try clear hb2); (try clear hk); (try clear hi); (try clear ho0)) | (go_at_call 10; (with_reducible refine (spec_FiredRow.calls k _ _ t354 t355 _ _ t356 t357 t365 _ ?side1 ?side2 ?side3 ?side4 A5.out).mono ?_); (case side1 => exact zC (Kd.R_reads' HO359.out).2.2); (case side2 => exact (Kd.R_reads' HO359.out).2.1); (case side3 => exact zC (Kd.R_reads' HO361.out).2.2); (case side4 => exact (Kd.R_reads' HO361.out).2.1); rintro e w61 ⟨v366, rfl, ho0, hb⟩; have n0_ := Aside0.mk (Kd.R_elder' (zR HO359.out) (Kd.R_base ho0) hb); have n1_ := Aside0.mk (Kd.R_elder' (zR HO361.out) (Kd.R_base ho0) hb); have n2_ := Aside0.mk (Kd.R_elder' (zR HO364.out) (Kd.R_base ho0) hb); have n3_ := Aside0.mk (Kd.R_lower (Kd.R_new' (Kd.R_new' (Kd.R_new' ho0 (Kd.R_lt (zR HO359.out))) (Kd.R_lt (zR HO361.out))) (Kd.R_lt (zR HO364.out))) (below_size (zB HB.out))); have n4_ := Aside0.mk (below_step (zB HB.out) hb); clear HO359; clear HO361; clear HO364; clear HB; have HO359 := n0_; have HO361 := n1_; have HO364 := n2_; have HO367 := n3_; have HB := n4_; clear n0_ n1_ n2_ n3_ n4_; (try clear hb); (try clear hb2); (try clear hk); (try clear hi); (try clear ho0); obtain ⟨Ao62, co62, eo62⟩ := Kd.R_slice HO364.out; subst eo62; obtain ⟨Ao63, co63, eo63⟩ := Kd.R_slice HO367.out; subst eo63) | (go_at_call 9; (with_reducible refine (laws_sameInts.calls k _ _ t362 _ _ t365 false _ ?side1 ?side2 ?side3 ?side4 A6.out).mono ?_); (case side1 => exact zC (Kd.R_reads' HO364.out).2.2); (case side2 => exact (Kd.R_reads' HO364.out).2.1); (case side3 => exact zC (Kd.R_reads' HO367.out).2.2); (case side4 => exact (Kd.R_reads' HO367.out).2.1); rintro e w' ⟨rfl, ⟨nd, rfl⟩⟩; (try first | exact ⟨rfl, _, World.drewN_drewN _ _ _⟩ | exact ⟨rfl, _, Eq.trans (World.drewN_drewN _ _ _) (congrArg (World.drewN _) (Nat.add_assoc _ _ _))⟩))))
   go_ret
   exact ⟨by first | rfl | (simp [errW_none, errW_some] <;> rfl) | (simp [*, errW_none, errW_some] <;> rfl), zB HB.out⟩

/-- THE ONE PURE STATEMENT of laws_FnFiredRow: yours. -/
def laws_FnFiredRow.Pure : Prop := ∀ (l0 : List Int), l0.length ≤ maxLen → l0.length * 1 ≤ 140737488351232 → (∀ x ∈ l0, (Lit.int .u8 x).wf = true) → ∃ k, laws_FnFiredRow.f k l0 = some true
theorem laws_FnFiredRow.walk (P : laws_FnFiredRow.Pure) (a0 : Option Addr) (len0 cap0 : Nat) (z0 : List Int) (w : World) (w0 : (a0 = none ∧ len0 = 0 ∧ cap0 = 0 ∧ z0 = []) ∨ ∃ x, a0 = some x ∧ len0 ≤ cap0 ∧ cap0 ≤ maxLen ∧ z0.length = cap0 ∧ (∀ i, i < z0.length → w.cell? (x.add i) = some (.int .u8 (z0.getD i 0))) ∧ ∀ n ∈ z0, (Lit.int .u8 n).wf = true) (y0 : len0 * 1 ≤ 140737488351232) :
  Calls Try.prog 3 #[.slice a0 len0 cap0] w fun e w' => e = .returned (.bool true) ∧ Below w.heap.size w w' := by
 obtain ⟨l0, rfl, hr0, hm0, hw0, hc0⟩ := ReadsInt.ofRowC w0
 obtain ⟨k, h⟩ := P l0 hm0 y0 hw0
 refine (laws_FnFiredRow.calls k _ _ l0 true w (Kd.C_of_reads (d := (0 : Int)) (h1 := fun _ => rfl) hr0) hc0 h).mono ?_
 rintro e w' ⟨rfl, hd⟩
 exact ⟨rfl, hd⟩

end Go.Proofs.Ytbanhinbndeboaa.PAll
