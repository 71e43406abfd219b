/- Own text of this session, written by a program of this session (wip/t/own.py) out of what the kit tells of the functions: each Go function as a Lean function, and the walk through its code. -/
import Derived.Test.YtfhkahlfpchhpaaT
import Derived.Test.YtfhkahlfpchhpaaF0
import Derived.Test.YtfhkahlfpchhpaaF16
import Derived.Test.YtfhkahlfpchhpaaF17
import Derived.Test.YtfhkahlfpchhpaaF18
namespace Go.Proofs.Ytfhkahlfpchhpaa.PAll
open Go.RowKit Go.Proofs.YtfhkahlfpchhpaaW.PrintWords Go.Proofs.YtfhkahlfpchhpaaW.PrintLast Go.Proofs.YtfhkahlfpchhpaaW.PrintMore
attribute [local go_sem] max2_int min2_int max_two min_two max_three min_three max_four min_four   -- for this text's walks alone
set_option linter.unusedVariables false
set_option linter.unusedSimpArgs false

/-! ### laws_FnNeedStep: function 5 -/
mutual
def laws_FnNeedStep.l0 : Nat → List Int → Int → List Int → List Int → List Int → Int → Option (Bool)
  | 0, _, _, _, _, _, _ => none
  | k + 1, x3, x4, x6, x7, x8, x9 => if x9 < (x3.length : Int) then (if x8.length < 17592186044416 then (laws_FnNeedStep.l0 k x3 x4 x6 x7 (x8 ++ [1]) (wrap64 (x9 + 1))) else (none)) else ((impl_FireStep.f k x3 x4 x6).bind fun t446 => (laws_FnNeedStep.l1 k x3 x4 x6 x7 x8 t446 0))
def laws_FnNeedStep.l1 : Nat → List Int → Int → List Int → List Int → List Int → List Int → Int → Option (Bool)
  | 0, _, _, _, _, _, _, _ => none
  | k + 1, x3, x4, x6, x7, x8, x10, x11 => if x11 < (x7.length : Int) then (laws_FnNeedStep.j2 k x3 x4 x6 x7 x8 x10 x11 ((x10.length : Int) == (x7.length : Int))) else (laws_FnNeedStep.j2 k x3 x4 x6 x7 x8 x10 x11 false)
def laws_FnNeedStep.j2 : Nat → List Int → Int → List Int → List Int → List Int → List Int → Int → Bool → Option (Bool)
  | 0, _, _, _, _, _, _, _, _ => none
  | k + 1, x3, x4, x6, x7, x8, x10, x11, x63 => if x63 = true then (if 0 ≤ x11 then (if x11 < (x7.length : Int) then (if (rd x7 x11) = 1 then (if x11 < (x10.length : Int) then (if (rd x10 x11) = 1 then (laws_FnNeedStep.l1 k x3 x4 x6 x7 x8 x10 (wrap64 (x11 + 1))) else (some false)) else (none)) else (laws_FnNeedStep.l1 k x3 x4 x6 x7 x8 x10 (wrap64 (x11 + 1)))) else (none)) else (none)) else ((impl_StateOk.f k x4 x7).bind fun t451 => (if t451 = true then ((impl_NeedStep.f k x3 x4 x8 x6).bind fun t452 => ((laws_sameInts.f k t452 x10).bind fun t455 => (if t455 = true then (some ((x10.length : Int) == (x7.length : Int))) else (some false)))) else (some false)))
end
def laws_FnNeedStep.f (k : Nat) (l0 : List Int) : Option (Bool) := if (l0.length : Int) > 1048576 then (some true) else ((spec_DrawNeedStep.f k l0).bind fun bt422 => ((impl_NeedStep.f k bt422.1 bt422.2.1 bt422.2.2.1 bt422.2.2.2).bind fun t432 => ((spec_NeedStep.f k bt422.1 bt422.2.1 bt422.2.2.1 bt422.2.2.2).bind fun t435 => ((laws_sameInts.f k t432 t435).bind fun t438 => (if t438 = true then (if (t432.length : Int) = 0 then ((laws_alive.f k).bind fun t439 => (some t439)) else (laws_FnNeedStep.l0 k bt422.1 bt422.2.1 bt422.2.2.2 t432 (([] : List Int)) 0)) else (some false))))))
theorem laws_FnNeedStep.mono_l : ∀ k, (∀ y0 y1 y2 y3 y4 y5, LeO (laws_FnNeedStep.l0 k y0 y1 y2 y3 y4 y5) (laws_FnNeedStep.l0 (k + 1) y0 y1 y2 y3 y4 y5)) ∧ (∀ y0 y1 y2 y3 y4 y5 y6, LeO (laws_FnNeedStep.l1 k y0 y1 y2 y3 y4 y5 y6) (laws_FnNeedStep.l1 (k + 1) y0 y1 y2 y3 y4 y5 y6)) ∧ (∀ y0 y1 y2 y3 y4 y5 y6 y7, LeO (laws_FnNeedStep.j2 k y0 y1 y2 y3 y4 y5 y6 y7) (laws_FnNeedStep.j2 (k + 1) y0 y1 y2 y3 y4 y5 y6 y7))
  | 0 => ⟨fun _ _ _ _ _ _ r h => by simp [laws_FnNeedStep.l0] at h, fun _ _ _ _ _ _ _ r h => by simp [laws_FnNeedStep.l1] at h, fun _ _ _ _ _ _ _ _ r h => by simp [laws_FnNeedStep.j2] at h⟩
  | k + 1 => by
    obtain ⟨ih0, ih1, ih2⟩ := laws_FnNeedStep.mono_l k
    refine ⟨?_, ?_, ?_⟩
    · intro y0 y1 y2 y3 y4 y5
      unfold laws_FnNeedStep.l0
      repeat' first
      | (with_reducible exact ih0 _ _ _ _ _ _)
      | (with_reducible exact ih1 _ _ _ _ _ _ _)
      | (with_reducible exact ih2 _ _ _ _ _ _ _ _)
      | (with_reducible exact impl_FireStep.mono _ _ _ _)
      | (with_reducible exact impl_NeedStep.mono _ _ _ _ _)
      | (with_reducible exact impl_StateOk.mono _ _ _)
      | (with_reducible exact laws_alive.mono _)
      | (with_reducible exact laws_sameInts.mono _ _ _)
      | (with_reducible exact spec_DrawNeedStep.mono _ _)
      | (with_reducible exact spec_NeedStep.mono _ _ _ _ _)
      | (with_reducible exact LeO.refl _)
      | (with_reducible exact LeO.none _)
      | (with_reducible refine LeO.ite ?_ ?_)
      | (with_reducible refine LeO.bind ?_ (fun _ => ?_))
      | exact ih0 _ _ _ _ _ _
      | exact ih1 _ _ _ _ _ _ _
      | exact ih2 _ _ _ _ _ _ _ _
      | exact impl_FireStep.mono _ _ _ _
      | exact impl_NeedStep.mono _ _ _ _ _
      | exact impl_StateOk.mono _ _ _
      | exact laws_alive.mono _
      | exact laws_sameInts.mono _ _ _
      | exact spec_DrawNeedStep.mono _ _
      | exact spec_NeedStep.mono _ _ _ _ _
      | exact LeO.none _
      | refine LeO.ite ?_ ?_
      | refine LeO.bind ?_ (fun _ => ?_)
    · intro y0 y1 y2 y3 y4 y5 y6
      unfold laws_FnNeedStep.l1
      repeat' first
      | (with_reducible exact ih0 _ _ _ _ _ _)
      | (with_reducible exact ih1 _ _ _ _ _ _ _)
      | (with_reducible exact ih2 _ _ _ _ _ _ _ _)
      | (with_reducible exact impl_FireStep.mono _ _ _ _)
      | (with_reducible exact impl_NeedStep.mono _ _ _ _ _)
      | (with_reducible exact impl_StateOk.mono _ _ _)
      | (with_reducible exact laws_alive.mono _)
      | (with_reducible exact laws_sameInts.mono _ _ _)
      | (with_reducible exact spec_DrawNeedStep.mono _ _)
      | (with_reducible exact spec_NeedStep.mono _ _ _ _ _)
      | (with_reducible exact LeO.refl _)
      | (with_reducible exact LeO.none _)
      | (with_reducible refine LeO.ite ?_ ?_)
      | (with_reducible refine LeO.bind ?_ (fun _ => ?_))
      | exact ih0 _ _ _ _ _ _
      | exact ih1 _ _ _ _ _ _ _
      | exact ih2 _ _ _ _ _ _ _ _
      | exact impl_FireStep.mono _ _ _ _
      | exact impl_NeedStep.mono _ _ _ _ _
      | exact impl_StateOk.mono _ _ _
      | exact laws_alive.mono _
      | exact laws_sameInts.mono _ _ _
      | exact spec_DrawNeedStep.mono _ _
      | exact spec_NeedStep.mono _ _ _ _ _
      | exact LeO.none _
      | refine LeO.ite ?_ ?_
      | refine LeO.bind ?_ (fun _ => ?_)
    · intro y0 y1 y2 y3 y4 y5 y6 y7
      unfold laws_FnNeedStep.j2
      repeat' first
      | (with_reducible exact ih0 _ _ _ _ _ _)
      | (with_reducible exact ih1 _ _ _ _ _ _ _)
      | (with_reducible exact ih2 _ _ _ _ _ _ _ _)
      | (with_reducible exact impl_FireStep.mono _ _ _ _)
      | (with_reducible exact impl_NeedStep.mono _ _ _ _ _)
      | (with_reducible exact impl_StateOk.mono _ _ _)
      | (with_reducible exact laws_alive.mono _)
      | (with_reducible exact laws_sameInts.mono _ _ _)
      | (with_reducible exact spec_DrawNeedStep.mono _ _)
      | (with_reducible exact spec_NeedStep.mono _ _ _ _ _)
      | (with_reducible exact LeO.refl _)
      | (with_reducible exact LeO.none _)
      | (with_reducible refine LeO.ite ?_ ?_)
      | (with_reducible refine LeO.bind ?_ (fun _ => ?_))
      | exact ih0 _ _ _ _ _ _
      | exact ih1 _ _ _ _ _ _ _
      | exact ih2 _ _ _ _ _ _ _ _
      | exact impl_FireStep.mono _ _ _ _
      | exact impl_NeedStep.mono _ _ _ _ _
      | exact impl_StateOk.mono _ _ _
      | exact laws_alive.mono _
      | exact laws_sameInts.mono _ _ _
      | exact spec_DrawNeedStep.mono _ _
      | exact spec_NeedStep.mono _ _ _ _ _
      | exact LeO.none _
      | refine LeO.ite ?_ ?_
      | refine LeO.bind ?_ (fun _ => ?_)
theorem laws_FnNeedStep.mono : ∀ a0 k, LeO (laws_FnNeedStep.f k a0) (laws_FnNeedStep.f (k + 1) a0) := by
  intro a0 k
  obtain ⟨ih0, ih1, ih2⟩ := laws_FnNeedStep.mono_l k
  unfold laws_FnNeedStep.f
  repeat' first
      | (with_reducible exact ih0 _ _ _ _ _ _)
      | (with_reducible exact ih1 _ _ _ _ _ _ _)
      | (with_reducible exact ih2 _ _ _ _ _ _ _ _)
      | (with_reducible exact impl_FireStep.mono _ _ _ _)
      | (with_reducible exact impl_NeedStep.mono _ _ _ _ _)
      | (with_reducible exact impl_StateOk.mono _ _ _)
      | (with_reducible exact laws_alive.mono _)
      | (with_reducible exact laws_sameInts.mono _ _ _)
      | (with_reducible exact spec_DrawNeedStep.mono _ _)
      | (with_reducible exact spec_NeedStep.mono _ _ _ _ _)
      | (with_reducible exact LeO.refl _)
      | (with_reducible exact LeO.none _)
      | (with_reducible refine LeO.ite ?_ ?_)
      | (with_reducible refine LeO.bind ?_ (fun _ => ?_))
      | exact ih0 _ _ _ _ _ _
      | exact ih1 _ _ _ _ _ _ _
      | exact ih2 _ _ _ _ _ _ _ _
      | exact impl_FireStep.mono _ _ _ _
      | exact impl_NeedStep.mono _ _ _ _ _
      | exact impl_StateOk.mono _ _ _
      | exact laws_alive.mono _
      | exact laws_sameInts.mono _ _ _
      | exact spec_DrawNeedStep.mono _ _
      | exact spec_NeedStep.mono _ _ _ _ _
      | exact LeO.none _
      | refine LeO.ite ?_ ?_
      | refine LeO.bind ?_ (fun _ => ?_)
set_option maxHeartbeats 8000000 in
set_option maxRecDepth 100000 in
theorem laws_FnNeedStep.calls (k : Nat) (A0 : Option Addr) (c0 : Nat) (l0 : List Int) (r : Bool) (w : World) (hr0 : Kd.C (Kd.int .u8) w A0 l0.length l0) (hc0 : l0.length ≤ c0) (h : laws_FnNeedStep.f k l0 = some r) :
    Calls Try.prog 5 #[.slice A0 l0.length c0] w fun e w' => e = .returned (.bool r) ∧ Below w.heap.size w w' := by
  have HR0 := Aside0.mk hr0
  have HC0 := Aside0.mk hc0
  clear hr0 hc0
  have HB := Aside0.mk (Below.refl w.heap.size w)
  have H : (if (l0.length : Int) > 1048576 then (some true) else ((spec_DrawNeedStep.f k l0).bind fun bt422 => ((impl_NeedStep.f k bt422.1 bt422.2.1 bt422.2.2.1 bt422.2.2.2).bind fun t432 => ((spec_NeedStep.f k bt422.1 bt422.2.1 bt422.2.2.1 bt422.2.2.2).bind fun t435 => ((laws_sameInts.f k t432 t435).bind fun t438 => (if t438 = true then (if (t432.length : Int) = 0 then ((laws_alive.f k).bind fun t439 => (some t439)) else (laws_FnNeedStep.l0 k bt422.1 bt422.2.1 bt422.2.2.2 t432 (([] : List Int)) 0)) else (some false))))))) = some r := h
  clear h
  by_cases c2 : (l0.length : Int) > 1048576
  · rw [if_pos c2] at H
    have c2b0 : decide (1048576 < (l0.length : Int)) = true := decide_eq_true c2
    have c2b1 : decide (1048576 < l0.length) = true := decide_eq_true (by omega)
    clear c2
    obtain rfl := Option.some.inj H
    go_enter Try.func5, Try.ntmps5
    go_wp2
    go_ret
    exact ⟨by first | rfl | (simp [errW_none, errW_some] <;> rfl) | (simp [*, errW_none, errW_some] <;> rfl), zB HB.out⟩
  · rw [if_neg c2] at H
    have c2b0 : decide (1048576 < (l0.length : Int)) = false := decide_eq_false c2
    have c2b1 : decide (1048576 < l0.length) = false := decide_eq_false (by omega)
    clear c2
    replace H := Option.bind_eq_some_iff.mp H
    obtain ⟨⟨t422, t423, t424, t425⟩, A30, H⟩ := H
    replace H : ((impl_NeedStep.f k t422 t423 t424 t425).bind fun t432 => ((spec_NeedStep.f k t422 t423 t424 t425).bind fun t435 => ((laws_sameInts.f k t432 t435).bind fun t438 => (if t438 = true then (if (t432.length : Int) = 0 then ((laws_alive.f k).bind fun t439 => (some t439)) else (laws_FnNeedStep.l0 k t422 t423 t425 t432 (([] : List Int)) 0)) else (some false))))) = some r := H
    have A3 := Aside0.mk A30
    clear A30
    replace H := Option.bind_eq_some_iff.mp H
    obtain ⟨t432, A40, H⟩ := H
    replace H : ((spec_NeedStep.f k t422 t423 t424 t425).bind fun t435 => ((laws_sameInts.f k t432 t435).bind fun t438 => (if t438 = true then (if (t432.length : Int) = 0 then ((laws_alive.f k).bind fun t439 => (some t439)) else (laws_FnNeedStep.l0 k t422 t423 t425 t432 (([] : List Int)) 0)) else (some false)))) = some r := H
    have A4 := Aside0.mk A40
    clear A40
    replace H := Option.bind_eq_some_iff.mp H
    obtain ⟨t435, A50, H⟩ := H
    replace H : ((laws_sameInts.f k t432 t435).bind fun t438 => (if t438 = true then (if (t432.length : Int) = 0 then ((laws_alive.f k).bind fun t439 => (some t439)) else (laws_FnNeedStep.l0 k t422 t423 t425 t432 (([] : List Int)) 0)) else (some false))) = some r := H
    have A5 := Aside0.mk A50
    clear A50
    replace H := Option.bind_eq_some_iff.mp H
    obtain ⟨t438, A60, H⟩ := H
    replace H : (if t438 = true then (if (t432.length : Int) = 0 then ((laws_alive.f k).bind fun t439 => (some t439)) else (laws_FnNeedStep.l0 k t422 t423 t425 t432 (([] : List Int)) 0)) else (some false)) = some r := H
    have A6 := Aside0.mk A60
    clear A60
    by_cases c7 : t438 = true
    · subst c7
      have H1 : (if (t432.length : Int) = 0 then ((laws_alive.f k).bind fun t439 => (some t439)) else (laws_FnNeedStep.l0 k t422 t423 t425 t432 (([] : List Int)) 0)) = some r := by rw [if_pos rfl] at H; exact H
      clear H
      have H := H1
      clear H1
      by_cases c8 : (t432.length : Int) = 0
      · rw [if_pos c8] at H
        have c8b0 : ((t432.length : Int) == 0) = true := beq_iff_eq.mpr c8
        have c8b1 : ((t432.length : Int) != 0) = false := bne_eq_false_iff_eq.mpr c8
        clear c8
        replace H := Option.bind_eq_some_iff.mp H
        obtain ⟨t439, A90, H⟩ := H
        replace H : (some t439) = some r := H
        have A9 := Aside0.mk A90
        clear A90
        obtain rfl := Option.some.inj H
        go_enter Try.func5, Try.ntmps5
        go_wp2_with (first | ((with_reducible refine gate_callee (f := 21) rfl ?_); refine goesL_ (some 17) rfl rfl Try.func21 (by kernel_rfl) rfl #[.slice A0 l0.length c0] rfl zA ?_; (with_reducible refine (spec_DrawNeedStep.calls k _ _ l0 t422 t423 t424 t425 _ ?side1 ?side2 A3.out).mono ?_); (case side1 => exact zC HR0.out); (case side2 => exact HC0.out); rintro e w10 ⟨v426, v428, v430, rfl, ho0, ho1, ho2, hb⟩; refine ⟨_, rfl, ?_⟩; have n0_ := Aside0.mk (Kd.R_lower ho0 (below_size (zB HB.out))); have n1_ := Aside0.mk (Kd.R_lower ho1 (below_size (zB HB.out))); have n2_ := Aside0.mk (Kd.R_lower ho2 (below_size (zB HB.out))); have n3_ := Aside0.mk (below_step (zB HB.out) hb); clear HB; have HO427 := n0_; have HO429 := n1_; have HO431 := n2_; have HB := n3_; clear n0_ n1_ n2_ n3_; (try clear hb); (try clear hb2); (try clear hk); (try clear hi); (try clear ho0); (try clear ho1); (try clear ho2); obtain ⟨Ao11, co11, eo11⟩ := Kd.R_slice HO427.out; subst eo11; obtain ⟨Ao12, co12, eo12⟩ := Kd.R_slice HO429.out; subst eo12; obtain ⟨Ao13, co13, eo13⟩ := Kd.R_slice HO431.out; subst eo13) | ((with_reducible refine gate_callee (f := 22) rfl ?_); refine goesL_ (some 26) rfl rfl Try.func22 (by kernel_rfl) rfl #[.slice Ao11 t422.length co11, .int .i64 t423, .slice Ao12 t424.length co12, .slice Ao13 t425.length co13] rfl zA ?_; (with_reducible refine (impl_NeedStep.calls k _ _ t422 t423 _ _ t424 _ _ t425 t432 _ ?side1 ?side2 ?side3 ?side4 ?side5 ?side6 A4.out).mono ?_); (case side1 => exact zC (Kd.R_reads' HO427.out).2.2); (case side2 => exact (Kd.R_reads' HO427.out).2.1); (case side3 => exact zC (Kd.R_reads' HO429.out).2.2); (case side4 => exact (Kd.R_reads' HO429.out).2.1); (case side5 => exact zC (Kd.R_reads' HO431.out).2.2); (case side6 => exact (Kd.R_reads' HO431.out).2.1); rintro e w14 ⟨v433, rfl, ho0, hb⟩; refine ⟨_, rfl, ?_⟩; have n0_ := Aside0.mk (Kd.R_elder' (zR HO427.out) (Kd.R_base ho0) hb); have n1_ := Aside0.mk (Kd.R_elder' (zR HO429.out) (Kd.R_base ho0) hb); have n2_ := Aside0.mk (Kd.R_elder' (zR HO431.out) (Kd.R_base ho0) hb); have n3_ := Aside0.mk (Kd.R_lower (Kd.R_new' (Kd.R_new' (Kd.R_new' ho0 (Kd.R_lt (zR HO427.out))) (Kd.R_lt (zR HO429.out))) (Kd.R_lt (zR HO431.out))) (below_size (zB HB.out))); have n4_ := Aside0.mk (below_step (zB HB.out) hb); clear HO427; clear HO429; clear HO431; clear HB; have HO427 := n0_; have HO429 := n1_; have HO431 := n2_; have HO434 := n3_; have HB := n4_; clear n0_ n1_ n2_ n3_ n4_; (try clear hb); (try clear hb2); (try clear hk); (try clear hi); (try clear ho0)) | ((with_reducible refine gate_callee (f := 24) rfl ?_); refine goesL_ (some 32) rfl rfl Try.func24 (by kernel_rfl) rfl #[.slice Ao11 t422.length co11, .int .i64 t423, .slice Ao12 t424.length co12, .slice Ao13 t425.length co13] rfl zA ?_; (with_reducible refine (spec_NeedStep.calls k _ _ t422 t423 _ _ t424 _ _ t425 t435 _ ?side1 ?side2 ?side3 ?side4 ?side5 ?side6 A5.out).mono ?_); (case side1 => exact zC (Kd.R_reads' HO427.out).2.2); (case side2 => exact (Kd.R_reads' HO427.out).2.1); (case side3 => exact zC (Kd.R_reads' HO429.out).2.2); (case side4 => exact (Kd.R_reads' HO429.out).2.1); (case side5 => exact zC (Kd.R_reads' HO431.out).2.2); (case side6 => exact (Kd.R_reads' HO431.out).2.1); rintro e w15 ⟨v436, rfl, ho0, hb⟩; refine ⟨_, rfl, ?_⟩; have n0_ := Aside0.mk (Kd.R_elder' (zR HO427.out) (Kd.R_base ho0) hb); have n1_ := Aside0.mk (Kd.R_elder' (zR HO429.out) (Kd.R_base ho0) hb); have n2_ := Aside0.mk (Kd.R_elder' (zR HO431.out) (Kd.R_base ho0) hb); have n3_ := Aside0.mk (Kd.R_elder' (zR HO434.out) (Kd.R_base ho0) hb); have n4_ := Aside0.mk (Kd.R_lower (Kd.R_new' (Kd.R_new' (Kd.R_new' (Kd.R_new' ho0 (Kd.R_lt (zR HO427.out))) (Kd.R_lt (zR HO429.out))) (Kd.R_lt (zR HO431.out))) (Kd.R_lt (zR HO434.out))) (below_size (zB HB.out))); have n5_ := Aside0.mk (below_step (zB HB.out) hb); clear HO427; clear HO429; clear HO431; clear HO434; clear HB; have HO427 := n0_; have HO429 := n1_; have HO431 := n2_; have HO434 := n3_; have HO437 := n4_; have HB := n5_; clear n0_ n1_ n2_ n3_ n4_ n5_; (try clear hb); (try clear hb2); (try clear hk); (try clear hi); (try clear ho0); obtain ⟨Ao16, co16, eo16⟩ := Kd.R_slice HO434.out; subst eo16; obtain ⟨Ao17, co17, eo17⟩ := Kd.R_slice HO437.out; subst eo17) | ((with_reducible refine gate_callee (f := 23) rfl ?_); refine goesL_ (some 33) rfl rfl Try.func23 (by kernel_rfl) rfl #[.slice Ao16 t432.length co16, .slice Ao17 t435.length co17] rfl zA ?_; (with_reducible refine (laws_sameInts.calls k _ _ t432 _ _ t435 true _ ?side1 ?side2 ?side3 ?side4 A6.out).mono ?_); (case side1 => exact zC (Kd.R_reads' HO434.out).2.2); (case side2 => exact (Kd.R_reads' HO434.out).2.1); (case side3 => exact zC (Kd.R_reads' HO437.out).2.2); (case side4 => exact (Kd.R_reads' HO437.out).2.1); rintro e w' ⟨rfl, ⟨nd, rfl⟩⟩; refine ⟨_, rfl, ?_⟩) | ((with_reducible refine gate_callee (f := 18) rfl ?_); refine goesL_ (some 38) rfl rfl Try.func18 (by kernel_rfl) rfl #[] rfl zA ?_; (with_reducible refine (laws_alive.calls k  t439 _ A9.out).mono ?_); rintro e w18 ⟨rfl, hb⟩; refine ⟨_, rfl, ?_⟩; have n0_ := Aside0.mk (Kd.R_below (zR HO427.out) hb); have n1_ := Aside0.mk (Kd.R_below (zR HO429.out) hb); have n2_ := Aside0.mk (Kd.R_below (zR HO431.out) hb); have n3_ := Aside0.mk (Kd.R_below (zR HO434.out) hb); have n4_ := Aside0.mk (Kd.R_below (zR HO437.out) hb); have n5_ := Aside0.mk (below_step (zB HB.out) hb); clear HO427; clear HO429; clear HO431; clear HO434; clear HO437; clear HB; have HO427 := n0_; have HO429 := n1_; have HO431 := n2_; have HO434 := n3_; have HO437 := n4_; have HB := n5_; clear n0_ n1_ n2_ n3_ n4_ n5_; (try clear hb); (try clear hb2); (try clear hk); (try clear hi)))
        go_ret
        exact ⟨by first | rfl | (simp [errW_none, errW_some] <;> rfl) | (simp [*, errW_none, errW_some] <;> rfl), zB HB.out⟩
      · rw [if_neg c8] at H
        have c8b0 : ((t432.length : Int) == 0) = false := beq_eq_false_iff_ne.mpr c8
        have c8b1 : ((t432.length : Int) != 0) = true := bne_iff_ne.mpr c8
        have c8b2 : ¬ (t432 = []) := fun h_ => c8 (by rw [h_]; rfl)
        obtain ⟨y440, hy440⟩ : ∃ y_ : List Int, y_ = (([] : List Int)) := ⟨_, rfl⟩
        replace H : (laws_FnNeedStep.l0 k t422 t423 t425 t432 y440 0) = some r := by first | (rw [hy440]; with_reducible exact H) | (have H2_ := (Option.bind_some _ _).symm.trans H; rw [hy440]; with_reducible exact H2_) | (have H2_ := (Option.bind_some _ _).symm.trans H; with_reducible exact H2_) | with_reducible exact H | (rw [hy440]; exact H) | exact H
        have Ny440 := Aside0.mk hy440
        clear hy440
        have H' := Aside0.mk H
        clear H
        go_enter Try.func5, Try.ntmps5
        go_wp2_with (first | ((with_reducible refine gate_callee (f := 21) rfl ?_); refine goesL_ (some 17) rfl rfl Try.func21 (by kernel_rfl) rfl #[.slice A0 l0.length c0] rfl zA ?_; (with_reducible refine (spec_DrawNeedStep.calls k _ _ l0 t422 t423 t424 t425 _ ?side1 ?side2 A3.out).mono ?_); (case side1 => exact zC HR0.out); (case side2 => exact HC0.out); rintro e w19 ⟨v426, v428, v430, rfl, ho0, ho1, ho2, hb⟩; refine ⟨_, rfl, ?_⟩; have n0_ := Aside0.mk (Kd.R_lower ho0 (below_size (zB HB.out))); have n1_ := Aside0.mk (Kd.R_lower ho1 (below_size (zB HB.out))); have n2_ := Aside0.mk (Kd.R_lower ho2 (below_size (zB HB.out))); have n3_ := Aside0.mk (below_step (zB HB.out) hb); clear HB; have HO427 := n0_; have HO429 := n1_; have HO431 := n2_; have HB := n3_; clear n0_ n1_ n2_ n3_; (try clear hb); (try clear hb2); (try clear hk); (try clear hi); (try clear ho0); (try clear ho1); (try clear ho2); obtain ⟨Ao20, co20, eo20⟩ := Kd.R_slice HO427.out; subst eo20; obtain ⟨Ao21, co21, eo21⟩ := Kd.R_slice HO429.out; subst eo21; obtain ⟨Ao22, co22, eo22⟩ := Kd.R_slice HO431.out; subst eo22) | ((with_reducible refine gate_callee (f := 22) rfl ?_); refine goesL_ (some 26) rfl rfl Try.func22 (by kernel_rfl) rfl #[.slice Ao20 t422.length co20, .int .i64 t423, .slice Ao21 t424.length co21, .slice Ao22 t425.length co22] rfl zA ?_; (with_reducible refine (impl_NeedStep.calls k _ _ t422 t423 _ _ t424 _ _ t425 t432 _ ?side1 ?side2 ?side3 ?side4 ?side5 ?side6 A4.out).mono ?_); (case side1 => exact zC (Kd.R_reads' HO427.out).2.2); (case side2 => exact (Kd.R_reads' HO427.out).2.1); (case side3 => exact zC (Kd.R_reads' HO429.out).2.2); (case side4 => exact (Kd.R_reads' HO429.out).2.1); (case side5 => exact zC (Kd.R_reads' HO431.out).2.2); (case side6 => exact (Kd.R_reads' HO431.out).2.1); rintro e w23 ⟨v433, rfl, ho0, hb⟩; refine ⟨_, rfl, ?_⟩; have n0_ := Aside0.mk (Kd.R_elder' (zR HO427.out) (Kd.R_base ho0) hb); have n1_ := Aside0.mk (Kd.R_elder' (zR HO429.out) (Kd.R_base ho0) hb); have n2_ := Aside0.mk (Kd.R_elder' (zR HO431.out) (Kd.R_base ho0) hb); have n3_ := Aside0.mk (Kd.R_lower (Kd.R_new' (Kd.R_new' (Kd.R_new' ho0 (Kd.R_lt (zR HO427.out))) (Kd.R_lt (zR HO429.out))) (Kd.R_lt (zR HO431.out))) (below_size (zB HB.out))); have n4_ := Aside0.mk (below_step (zB HB.out) hb); clear HO427; clear HO429; clear HO431; clear HB; have HO427 := n0_; have HO429 := n1_; have HO431 := n2_; have HO434 := n3_; have HB := n4_; clear n0_ n1_ n2_ n3_ n4_; (try clear hb); (try clear hb2); (try clear hk); (try clear hi); (try clear ho0)) | ((with_reducible refine gate_callee (f := 24) rfl ?_); refine goesL_ (some 32) rfl rfl Try.func24 (by kernel_rfl) rfl #[.slice Ao20 t422.length co20, .int .i64 t423, .slice Ao21 t424.length co21, .slice Ao22 t425.length co22] rfl zA ?_; (with_reducible refine (spec_NeedStep.calls k _ _ t422 t423 _ _ t424 _ _ t425 t435 _ ?side1 ?side2 ?side3 ?side4 ?side5 ?side6 A5.out).mono ?_); (case side1 => exact zC (Kd.R_reads' HO427.out).2.2); (case side2 => exact (Kd.R_reads' HO427.out).2.1); (case side3 => exact zC (Kd.R_reads' HO429.out).2.2); (case side4 => exact (Kd.R_reads' HO429.out).2.1); (case side5 => exact zC (Kd.R_reads' HO431.out).2.2); (case side6 => exact (Kd.R_reads' HO431.out).2.1); rintro e w24 ⟨v436, rfl, ho0, hb⟩; refine ⟨_, rfl, ?_⟩; have n0_ := Aside0.mk (Kd.R_elder' (zR HO427.out) (Kd.R_base ho0) hb); have n1_ := Aside0.mk (Kd.R_elder' (zR HO429.out) (Kd.R_base ho0) hb); have n2_ := Aside0.mk (Kd.R_elder' (zR HO431.out) (Kd.R_base ho0) hb); have n3_ := Aside0.mk (Kd.R_elder' (zR HO434.out) (Kd.R_base ho0) hb); have n4_ := Aside0.mk (Kd.R_lower (Kd.R_new' (Kd.R_new' (Kd.R_new' (Kd.R_new' ho0 (Kd.R_lt (zR HO427.out))) (Kd.R_lt (zR HO429.out))) (Kd.R_lt (zR HO431.out))) (Kd.R_lt (zR HO434.out))) (below_size (zB HB.out))); have n5_ := Aside0.mk (below_step (zB HB.out) hb); clear HO427; clear HO429; clear HO431; clear HO434; clear HB; have HO427 := n0_; have HO429 := n1_; have HO431 := n2_; have HO434 := n3_; have HO437 := n4_; have HB := n5_; clear n0_ n1_ n2_ n3_ n4_ n5_; (try clear hb); (try clear hb2); (try clear hk); (try clear hi); (try clear ho0); obtain ⟨Ao25, co25, eo25⟩ := Kd.R_slice HO434.out; subst eo25; obtain ⟨Ao26, co26, eo26⟩ := Kd.R_slice HO437.out; subst eo26) | ((with_reducible refine gate_callee (f := 23) rfl ?_); refine goesL_ (some 33) rfl rfl Try.func23 (by kernel_rfl) rfl #[.slice Ao25 t432.length co25, .slice Ao26 t435.length co26] rfl zA ?_; (with_reducible refine (laws_sameInts.calls k _ _ t432 _ _ t435 true _ ?side1 ?side2 ?side3 ?side4 A6.out).mono ?_); (case side1 => exact zC (Kd.R_reads' HO434.out).2.2); (case side2 => exact (Kd.R_reads' HO434.out).2.1); (case side3 => exact zC (Kd.R_reads' HO437.out).2.2); (case side4 => exact (Kd.R_reads' HO437.out).2.1); rintro e w' ⟨rfl, ⟨nd, rfl⟩⟩; refine ⟨_, rfl, ?_⟩) | ((with_reducible refine gate_dst (N := 39) rfl ?_); (try (refine gate_guard (by rfl) ?_; dsimp only)); refine Kd.R_lit (Kd.int .i64) _ 3 ?hg (N := 39) ?hd (xs := ([] : List Int)) (inner := []) (ok := fun _ => True) (okp := fun _ => True) ?hr ?hp (fun _ hk => hk) trivial (Below.refl _ _) (Nat.le_refl _) (by simp) ?_; (case hd => rfl); (case hg => rfl); (case hr => first | (go_simp; done) | (go_simp; rfl)); (case hp => exact (Reps.none _ _)); intro v441 w27 ho28 hb hg_ hnew_; clear hg_ hnew_; (first | rw [← Ny440.out] at ho28 | (simp only [Int.reduceToNat] at ho28; rw [← Ny440.out] at ho28)); have n0_ := Aside0.mk (Kd.R_elder' (zR HO427.out) (Kd.R_base ho28) hb); have n1_ := Aside0.mk (Kd.R_elder' (zR HO429.out) (Kd.R_base ho28) hb); have n2_ := Aside0.mk (Kd.R_elder' (zR HO431.out) (Kd.R_base ho28) hb); have n3_ := Aside0.mk (Kd.R_elder' (zR HO434.out) (Kd.R_base ho28) hb); have n4_ := Aside0.mk (Kd.R_elder' (zR HO437.out) (Kd.R_base ho28) hb); have n5_ := Aside0.mk (Kd.R_lower (Kd.R_new' (Kd.R_new' (Kd.R_new' (Kd.R_new' (Kd.R_new' ho28 (Kd.R_lt (zR HO427.out))) (Kd.R_lt (zR HO429.out))) (Kd.R_lt (zR HO431.out))) (Kd.R_lt (zR HO434.out))) (Kd.R_lt (zR HO437.out))) (below_size (zB HB.out))); have n6_ := Aside0.mk (below_step (zB HB.out) hb); clear HO427; clear HO429; clear HO431; clear HO434; clear HO437; clear HB; have HO427 := n0_; have HO429 := n1_; have HO431 := n2_; have HO434 := n3_; have HO437 := n4_; have HO442 := n5_; have HB := n6_; clear n0_ n1_ n2_ n3_ n4_ n5_ n6_; clear hb ho28))
        go_loopg [8, 9] k (fun kq v8 v9 w' => ∃ (x8_1 : List Int) (x9_1 : Int), v9 = .int .i64 x9_1 ∧ Aside0 (laws_FnNeedStep.l0 kq t422 t423 t425 t432 x8_1 x9_1 = some r) ∧ Aside0 (kq ≤ k) ∧ Aside0 (Kd.R (Kd.int .i64) 3 w' w.heap.size (fun k_ => some k_ ≠ ((.slice Ao22 t425.length co22) : Value).ownBlock ∧ some k_ ≠ ((.slice Ao25 t432.length co25) : Value).ownBlock ∧ some k_ ≠ (v8 : Value).ownBlock) (.slice Ao20 t422.length co20) t422) ∧ Aside0 (Kd.R (Kd.int .i64) 3 w' w.heap.size (fun k_ => some k_ ≠ ((.slice Ao20 t422.length co20) : Value).ownBlock ∧ some k_ ≠ ((.slice Ao25 t432.length co25) : Value).ownBlock ∧ some k_ ≠ (v8 : Value).ownBlock) (.slice Ao22 t425.length co22) t425) ∧ Aside0 (Kd.R (Kd.int .i64) 3 w' w.heap.size (fun k_ => some k_ ≠ ((.slice Ao20 t422.length co20) : Value).ownBlock ∧ some k_ ≠ ((.slice Ao22 t425.length co22) : Value).ownBlock ∧ some k_ ≠ (v8 : Value).ownBlock) (.slice Ao25 t432.length co25) t432) ∧ Aside0 (Kd.R (Kd.int .i64) 3 w' w.heap.size (fun k_ => some k_ ≠ ((.slice Ao20 t422.length co20) : Value).ownBlock ∧ some k_ ≠ ((.slice Ao22 t425.length co22) : Value).ownBlock ∧ some k_ ≠ ((.slice Ao25 t432.length co25) : Value).ownBlock) v8 x8_1) ∧ Aside0 (Below w.heap.size w w'))
        case atStart => exact ⟨(y440), (0), (by first | rfl | (simp; done) | (simp [*]; done)), H', ⟨Nat.le_refl _⟩, ⟨by (with_reducible repeat (first | apply Kd.R_alloc | apply Kd.R_drewN | apply Kd.R_drew)); exact Kd.R_mono HO427.out (fun _ hk => ⟨hk.1.1.1.2, ⟨hk.1.1.2, hk.2⟩⟩)⟩, ⟨by (with_reducible repeat (first | apply Kd.R_alloc | apply Kd.R_drewN | apply Kd.R_drew)); exact Kd.R_mono HO431.out (fun _ hk => ⟨hk.1.1.1.1, ⟨hk.1.1.2, hk.2⟩⟩)⟩, ⟨by (with_reducible repeat (first | apply Kd.R_alloc | apply Kd.R_drewN | apply Kd.R_drew)); exact Kd.R_mono HO434.out (fun _ hk => ⟨hk.1.1.1.1.2, ⟨hk.1.1.2, hk.2⟩⟩)⟩, ⟨by (with_reducible repeat (first | apply Kd.R_alloc | apply Kd.R_drewN | apply Kd.R_drew)); exact Kd.R_mono HO442.out (fun _ hk => ⟨hk.1.1.1.1.2, ⟨hk.1.1.2, hk.1.2⟩⟩)⟩, ⟨zB HB.out⟩⟩
        case round =>
          clear H'
          try clear c1
          try clear c2
          try clear c2b0
          try clear c2b1
          try clear p2
          try clear c5
          try clear c7
          try clear c8
          try clear c8b0
          try clear c8b1
          try clear c8b2
          try clear c18
          try clear c21
          try clear c22
          try clear c23
          try clear c24
          obtain ⟨x8_1, x9_1, rfl, HA, HK1, HO_3, HO_6, HO_7, HO_8, HB⟩ := hrel
          cases gk with
          | zero => exact absurd HA.out (by simp [laws_FnNeedStep.l0])
          | succ k1 =>
            have H := HA.out
            clear HA
            simp only [laws_FnNeedStep.l0] at H
            by_cases c29 : x9_1 < (t422.length : Int)
            · rw [if_pos c29] at H
              have c29b0 : decide (x9_1 < (t422.length : Int)) = true := decide_eq_true c29
              clear c29
              by_cases c30 : x8_1.length < 17592186044416
              · rw [if_pos c30] at H
                have LMc30 := Aside0.mk c30
                clear c30
                obtain ⟨y443, hy443⟩ : ∃ y_ : List Int, y_ = (x8_1 ++ [1]) := ⟨_, rfl⟩
                replace H : (laws_FnNeedStep.l0 k1 t422 t423 t425 t432 y443 (wrap64 (x9_1 + 1))) = some r := by first | (rw [hy443]; with_reducible exact H) | (have H2_ := (Option.bind_some _ _).symm.trans H; rw [hy443]; with_reducible exact H2_) | (have H2_ := (Option.bind_some _ _).symm.trans H; with_reducible exact H2_) | with_reducible exact H | (rw [hy443]; exact H) | exact H
                have Ny443 := Aside0.mk hy443
                clear hy443
                have H' := Aside0.mk H
                clear H
                go_wp2_with (first | ((with_reducible refine gate_builtin (b := .append) (xs := #[.tmp 46, .tmp 47]) rfl ?_); (try (refine gate_guard (by rfl) ?_; dsimp only)); at_builtin; refine Kd.R_append (Kd.int .i64) (w0 := w) w.heap.size rfl (.tmp 46) (.tmp 47) 23 3 (.int .i64 0) 8 rfl Try.underlying23 info3 rfl (by decide) (by omega) u8 x8_1 1 [.int .i64 1] (fun k_ => some k_ ≠ (.slice Ao20 t422.length co20 : Value).ownBlock ∧ some k_ ≠ (.slice Ao22 t425.length co22 : Value).ownBlock ∧ some k_ ≠ (.slice Ao25 t432.length co25 : Value).ownBlock) (fun _ => False) rfl rfl ?aP (fun _ hk => hk.elim) ?aF ?aO ?aB ?aS ?aL ?_; (case aP => exact rfl); (case aB => exact (zB HB.out)); (case aF => exact (fun k_ hk => ⟨Kd.fresh' (Kd.R_lt (zR HO_3.out)) k_ hk, Kd.fresh' (Kd.R_lt (zR HO_6.out)) k_ hk, Kd.fresh' (Kd.R_lt (zR HO_7.out)) k_ hk⟩)); (case aO => exact (zR HO_8.out)); (case aS => exact (below_size (zB HB.out))); (case aL => have := LMc30.out; omega); intro v444 w31 ho hb hg hat; rw [← Ny443.out] at ho; have n0_ := Aside0.mk (Kd.R_after (ok := (fun k_ => some k_ ≠ (.slice Ao22 t425.length co22 : Value).ownBlock ∧ some k_ ≠ (.slice Ao25 t432.length co25 : Value).ownBlock)) (by (with_reducible repeat (first | apply Kd.R_alloc | apply Kd.R_drewN | apply Kd.R_drew)); exact Kd.R_mono HO_3.out (fun _ hk => ⟨⟨hk.1, hk.2.1⟩, hk.2.2⟩)) hg hat); have n1_ := Aside0.mk (Kd.R_after (ok := (fun k_ => some k_ ≠ (.slice Ao20 t422.length co20 : Value).ownBlock ∧ some k_ ≠ (.slice Ao25 t432.length co25 : Value).ownBlock)) (by (with_reducible repeat (first | apply Kd.R_alloc | apply Kd.R_drewN | apply Kd.R_drew)); exact Kd.R_mono HO_6.out (fun _ hk => ⟨⟨hk.1, hk.2.1⟩, hk.2.2⟩)) hg hat); have n2_ := Aside0.mk (Kd.R_after (ok := (fun k_ => some k_ ≠ (.slice Ao20 t422.length co20 : Value).ownBlock ∧ some k_ ≠ (.slice Ao22 t425.length co22 : Value).ownBlock)) (by (with_reducible repeat (first | apply Kd.R_alloc | apply Kd.R_drewN | apply Kd.R_drew)); exact Kd.R_mono HO_7.out (fun _ hk => ⟨⟨hk.1, hk.2.1⟩, hk.2.2⟩)) hg hat); have n3_ := Aside0.mk (hb); have n4_ := Aside0.mk (ho); clear HO_3; clear HO_6; clear HO_7; clear HB; clear HO_8; have HO_3 := n0_; have HO_6 := n1_; have HO_7 := n2_; have HB := n3_; have HO445 := n4_; clear n0_ n1_ n2_ n3_ n4_; clear ho hb hg hat))
                go_roundg k1
                case measure => have := HK1.out; omega
                case rel => exact ⟨(y443), (wrap64 (x9_1 + 1)), (by first | rfl | (simp; done) | (simp [*]; done)), H', ⟨by have := HK1.out; omega⟩, ⟨by (with_reducible repeat (first | apply Kd.R_alloc | apply Kd.R_drewN | apply Kd.R_drew)); exact Kd.R_mono HO_3.out (fun _ hk => ⟨hk.1.1, ⟨hk.1.2, hk.2⟩⟩)⟩, ⟨by (with_reducible repeat (first | apply Kd.R_alloc | apply Kd.R_drewN | apply Kd.R_drew)); exact Kd.R_mono HO_6.out (fun _ hk => ⟨hk.1.1, ⟨hk.1.2, hk.2⟩⟩)⟩, ⟨by (with_reducible repeat (first | apply Kd.R_alloc | apply Kd.R_drewN | apply Kd.R_drew)); exact Kd.R_mono HO_7.out (fun _ hk => ⟨hk.1.1, ⟨hk.1.2, hk.2⟩⟩)⟩, ⟨by (with_reducible repeat (first | apply Kd.R_alloc | apply Kd.R_drewN | apply Kd.R_drew)); exact HO445.out⟩, ⟨zB HB.out⟩⟩
              · rw [if_neg c30] at H
                exact absurd H (by simp)
            · rw [if_neg c29] at H
              have c29b0 : decide (x9_1 < (t422.length : Int)) = false := decide_eq_false c29
              clear c29
              replace H := Option.bind_eq_some_iff.mp H
              obtain ⟨t446, A320, H⟩ := H
              replace H : (laws_FnNeedStep.l1 k1 t422 t423 t425 t432 x8_1 t446 0) = some r := H
              have A32 := Aside0.mk A320
              clear A320
              have H' := Aside0.mk H
              clear H
              go_wp2_with (first | ((with_reducible refine gate_callee (f := 25) rfl ?_); refine goesL_ (some 52) rfl rfl Try.func25 (by kernel_rfl) rfl #[.slice Ao20 t422.length co20, .int .i64 t423, .slice Ao22 t425.length co22] rfl zA ?_; (with_reducible refine (impl_FireStep.calls k1 _ _ t422 t423 _ _ t425 t446 _ ?side1 ?side2 ?side3 ?side4 A32.out).mono ?_); (case side1 => exact zC (Kd.R_reads' HO_3.out).2.2); (case side2 => exact (Kd.R_reads' HO_3.out).2.1); (case side3 => exact zC (Kd.R_reads' HO_6.out).2.2); (case side4 => exact (Kd.R_reads' HO_6.out).2.1); rintro e w33 ⟨v447, rfl, ho0, hb⟩; refine ⟨_, rfl, ?_⟩; have n0_ := Aside0.mk (Kd.R_elder' (zR HO_3.out) (Kd.R_base ho0) hb); have n1_ := Aside0.mk (Kd.R_elder' (zR HO_6.out) (Kd.R_base ho0) hb); have n2_ := Aside0.mk (Kd.R_elder' (zR HO_7.out) (Kd.R_base ho0) hb); have n3_ := Aside0.mk (Kd.R_elder' (zR HO_8.out) (Kd.R_base ho0) hb); have n4_ := Aside0.mk (Kd.R_lower (Kd.R_new' (Kd.R_new' (Kd.R_new' (Kd.R_new' ho0 (Kd.R_lt (zR HO_3.out))) (Kd.R_lt (zR HO_6.out))) (Kd.R_lt (zR HO_7.out))) (Kd.R_lt (zR HO_8.out))) (below_size (zB HB.out))); have n5_ := Aside0.mk (below_step (zB HB.out) hb); clear HO_3; clear HO_6; clear HO_7; clear HO_8; clear HB; have HO_3 := n0_; have HO_6 := n1_; have HO_7 := n2_; have HO_8 := n3_; have HO448 := n4_; have HB := n5_; clear n0_ n1_ n2_ n3_ n4_ n5_; (try clear hb); (try clear hb2); (try clear hk); (try clear hi); (try clear ho0)))
              go_loopg [11] k1 (fun kq v11 w' => ∃ (x11_2 : Int), v11 = .int .i64 x11_2 ∧ Aside0 (laws_FnNeedStep.l1 kq t422 t423 t425 t432 x8_1 t446 x11_2 = some r) ∧ Aside0 (kq ≤ k1) ∧ Aside0 (Kd.R (Kd.int .i64) 3 w' w.heap.size (fun k_ => some k_ ≠ ((.slice Ao22 t425.length co22) : Value).ownBlock ∧ some k_ ≠ ((.slice Ao25 t432.length co25) : Value).ownBlock ∧ some k_ ≠ (u8 : Value).ownBlock ∧ some k_ ≠ (v447 : Value).ownBlock) (.slice Ao20 t422.length co20) t422) ∧ Aside0 (Kd.R (Kd.int .i64) 3 w' w.heap.size (fun k_ => some k_ ≠ ((.slice Ao20 t422.length co20) : Value).ownBlock ∧ some k_ ≠ ((.slice Ao25 t432.length co25) : Value).ownBlock ∧ some k_ ≠ (u8 : Value).ownBlock ∧ some k_ ≠ (v447 : Value).ownBlock) (.slice Ao22 t425.length co22) t425) ∧ Aside0 (Kd.R (Kd.int .i64) 3 w' w.heap.size (fun k_ => some k_ ≠ ((.slice Ao20 t422.length co20) : Value).ownBlock ∧ some k_ ≠ ((.slice Ao22 t425.length co22) : Value).ownBlock ∧ some k_ ≠ (u8 : Value).ownBlock ∧ some k_ ≠ (v447 : Value).ownBlock) (.slice Ao25 t432.length co25) t432) ∧ Aside0 (Kd.R (Kd.int .i64) 3 w' w.heap.size (fun k_ => some k_ ≠ ((.slice Ao20 t422.length co20) : Value).ownBlock ∧ some k_ ≠ ((.slice Ao22 t425.length co22) : Value).ownBlock ∧ some k_ ≠ ((.slice Ao25 t432.length co25) : Value).ownBlock ∧ some k_ ≠ (v447 : Value).ownBlock) u8 x8_1) ∧ Aside0 (Kd.R (Kd.int .i64) 3 w' w.heap.size (fun k_ => some k_ ≠ ((.slice Ao20 t422.length co20) : Value).ownBlock ∧ some k_ ≠ ((.slice Ao22 t425.length co22) : Value).ownBlock ∧ some k_ ≠ ((.slice Ao25 t432.length co25) : Value).ownBlock ∧ some k_ ≠ (u8 : Value).ownBlock) v447 t446) ∧ Aside0 (Below w.heap.size w w'))
              case atStart => exact ⟨(0), (by first | rfl | (simp; done) | (simp [*]; done)), H', ⟨Nat.le_refl _⟩, ⟨by (with_reducible repeat (first | apply Kd.R_alloc | apply Kd.R_drewN | apply Kd.R_drew)); exact Kd.R_mono HO_3.out (fun _ hk => ⟨hk.1.1, ⟨hk.1.2.1, ⟨hk.1.2.2, hk.2⟩⟩⟩)⟩, ⟨by (with_reducible repeat (first | apply Kd.R_alloc | apply Kd.R_drewN | apply Kd.R_drew)); exact Kd.R_mono HO_6.out (fun _ hk => ⟨hk.1.1, ⟨hk.1.2.1, ⟨hk.1.2.2, hk.2⟩⟩⟩)⟩, ⟨by (with_reducible repeat (first | apply Kd.R_alloc | apply Kd.R_drewN | apply Kd.R_drew)); exact Kd.R_mono HO_7.out (fun _ hk => ⟨hk.1.1, ⟨hk.1.2.1, ⟨hk.1.2.2, hk.2⟩⟩⟩)⟩, ⟨by (with_reducible repeat (first | apply Kd.R_alloc | apply Kd.R_drewN | apply Kd.R_drew)); exact Kd.R_mono HO_8.out (fun _ hk => ⟨hk.1.1, ⟨hk.1.2.1, ⟨hk.1.2.2, hk.2⟩⟩⟩)⟩, ⟨by (with_reducible repeat (first | apply Kd.R_alloc | apply Kd.R_drewN | apply Kd.R_drew)); exact Kd.R_mono HO448.out (fun _ hk => ⟨hk.1.1.1.2, ⟨hk.1.1.2, ⟨hk.1.2, hk.2⟩⟩⟩)⟩, ⟨zB HB.out⟩⟩
              case round =>
                clear H'
                try clear c1
                try clear c2
                try clear c2b0
                try clear c2b1
                try clear p2
                try clear c3
                try clear c5
                try clear p6
                try clear c7
                try clear c8
                try clear c8b0
                try clear c8b1
                try clear c8b2
                try clear c18
                try clear c21
                try clear c22
                try clear c23
                try clear c24
                try clear c25
                try clear c29
                try clear c29b0
                try clear c30
                try clear p2
                obtain ⟨x11_2, rfl, HA, HK2, HO_3, HO_6, HO_7, HO_8, HO_10, HB⟩ := hrel
                cases gk with
                | zero => exact absurd HA.out (by simp [laws_FnNeedStep.l1])
                | succ k2 =>
                  have H := HA.out
                  clear HA
                  simp only [laws_FnNeedStep.l1] at H
                  have HC34 := Aside0.mk H
                  clear H
                  go_upto_region 16 with (fail)
                  go_cut [63] (fun v63 wc => ∃ (kq : Nat) (x63_33 : Bool), v63 = .bool x63_33 ∧ Aside0 (laws_FnNeedStep.j2 kq t422 t423 t425 t432 x8_1 t446 x11_2 x63_33 = some r) ∧ Aside0 (kq ≤ k2) ∧ Aside0 (Kd.R (Kd.int .i64) 3 wc w.heap.size (fun k_ => some k_ ≠ ((.slice Ao22 t425.length co22) : Value).ownBlock ∧ some k_ ≠ ((.slice Ao25 t432.length co25) : Value).ownBlock ∧ some k_ ≠ (u8 : Value).ownBlock ∧ some k_ ≠ (v447 : Value).ownBlock) (.slice Ao20 t422.length co20) t422) ∧ Aside0 (Kd.R (Kd.int .i64) 3 wc w.heap.size (fun k_ => some k_ ≠ ((.slice Ao20 t422.length co20) : Value).ownBlock ∧ some k_ ≠ ((.slice Ao25 t432.length co25) : Value).ownBlock ∧ some k_ ≠ (u8 : Value).ownBlock ∧ some k_ ≠ (v447 : Value).ownBlock) (.slice Ao22 t425.length co22) t425) ∧ Aside0 (Kd.R (Kd.int .i64) 3 wc w.heap.size (fun k_ => some k_ ≠ ((.slice Ao20 t422.length co20) : Value).ownBlock ∧ some k_ ≠ ((.slice Ao22 t425.length co22) : Value).ownBlock ∧ some k_ ≠ (u8 : Value).ownBlock ∧ some k_ ≠ (v447 : Value).ownBlock) (.slice Ao25 t432.length co25) t432) ∧ Aside0 (Kd.R (Kd.int .i64) 3 wc w.heap.size (fun k_ => some k_ ≠ ((.slice Ao20 t422.length co20) : Value).ownBlock ∧ some k_ ≠ ((.slice Ao22 t425.length co22) : Value).ownBlock ∧ some k_ ≠ ((.slice Ao25 t432.length co25) : Value).ownBlock ∧ some k_ ≠ (v447 : Value).ownBlock) u8 x8_1) ∧ Aside0 (Kd.R (Kd.int .i64) 3 wc w.heap.size (fun k_ => some k_ ≠ ((.slice Ao20 t422.length co20) : Value).ownBlock ∧ some k_ ≠ ((.slice Ao22 t425.length co22) : Value).ownBlock ∧ some k_ ≠ ((.slice Ao25 t432.length co25) : Value).ownBlock ∧ some k_ ≠ (u8 : Value).ownBlock) v447 t446) ∧ Aside0 (Below w.heap.size w wc))
                  case first =>
                    have H := HC34.out
                    clear HC34
                    by_cases c35 : x11_2 < (t432.length : Int)
                    · rw [if_pos c35] at H
                      have c35b0 : decide (x11_2 < (t432.length : Int)) = true := decide_eq_true c35
                      clear c35
                      (first | rw [c35b0] | (simp only [i64_w, i32_w]; rw [c35b0]) | skip)
                      have H' := Aside0.mk H
                      clear H
                      obtain ⟨Ao36, co36, eo36⟩ := Kd.R_slice HO_10.out
                      subst eo36
                      go_wp2
                      go_meet
                      case rel => exact ⟨_, (((t446.length : Int) == (t432.length : Int))), (by first | rfl | (simp; done) | (simp [*]; done)), H', ⟨by have := HK1.out; have := HK2.out; first | omega | exact Nat.le_refl _⟩, ⟨by (with_reducible repeat (first | apply Kd.R_alloc | apply Kd.R_drewN | apply Kd.R_drew)); exact HO_3.out⟩, ⟨by (with_reducible repeat (first | apply Kd.R_alloc | apply Kd.R_drewN | apply Kd.R_drew)); exact HO_6.out⟩, ⟨by (with_reducible repeat (first | apply Kd.R_alloc | apply Kd.R_drewN | apply Kd.R_drew)); exact HO_7.out⟩, ⟨by (with_reducible repeat (first | apply Kd.R_alloc | apply Kd.R_drewN | apply Kd.R_drew)); exact HO_8.out⟩, ⟨by (with_reducible repeat (first | apply Kd.R_alloc | apply Kd.R_drewN | apply Kd.R_drew)); exact HO_10.out⟩, ⟨zB HB.out⟩⟩
                    · rw [if_neg c35] at H
                      have c35b0 : decide (x11_2 < (t432.length : Int)) = false := decide_eq_false c35
                      clear c35
                      (first | rw [c35b0] | (simp only [i64_w, i32_w]; rw [c35b0]) | skip)
                      have H' := Aside0.mk H
                      clear H
                      go_wp2
                      go_meet
                      case rel => exact ⟨_, (false), (by first | rfl | (simp; done) | (simp [*]; done)), H', ⟨by have := HK1.out; have := HK2.out; first | omega | exact Nat.le_refl _⟩, ⟨by (with_reducible repeat (first | apply Kd.R_alloc | apply Kd.R_drewN | apply Kd.R_drew)); exact HO_3.out⟩, ⟨by (with_reducible repeat (first | apply Kd.R_alloc | apply Kd.R_drewN | apply Kd.R_drew)); exact HO_6.out⟩, ⟨by (with_reducible repeat (first | apply Kd.R_alloc | apply Kd.R_drewN | apply Kd.R_drew)); exact HO_7.out⟩, ⟨by (with_reducible repeat (first | apply Kd.R_alloc | apply Kd.R_drewN | apply Kd.R_drew)); exact HO_8.out⟩, ⟨by (with_reducible repeat (first | apply Kd.R_alloc | apply Kd.R_drewN | apply Kd.R_drew)); exact HO_10.out⟩, ⟨zB HB.out⟩⟩
                  case rest =>
                    clear HC34
                    try clear c1
                    try clear c2
                    try clear c2b0
                    try clear c2b1
                    try clear p2
                    try clear c3
                    try clear c5
                    try clear p6
                    try clear c7
                    try clear c8
                    try clear c8b0
                    try clear c8b1
                    try clear c8b2
                    try clear c18
                    try clear c21
                    try clear c22
                    try clear c23
                    try clear c24
                    try clear c25
                    try clear c29
                    try clear c29b0
                    try clear c30
                    try clear c35
                    try clear c35b0
                    try clear p2
                    try clear p6
                    obtain ⟨kq, x63_33, rfl, HA, HJ33, HO_3, HO_6, HO_7, HO_8, HO_10, HB⟩ := hcut
                    cases kq with
                    | zero => exact absurd HA.out (by simp [laws_FnNeedStep.j2])
                    | succ kj33 =>
                      have H := HA.out
                      clear HA
                      simp only [laws_FnNeedStep.j2] at H
                      by_cases c37 : x63_33 = true
                      · subst c37
                        have H1 : (if 0 ≤ x11_2 then (if x11_2 < (t432.length : Int) then (if (rd t432 x11_2) = 1 then (if x11_2 < (t446.length : Int) then (if (rd t446 x11_2) = 1 then (laws_FnNeedStep.l1 kj33 t422 t423 t425 t432 x8_1 t446 (wrap64 (x11_2 + 1))) else (some false)) else (none)) else (laws_FnNeedStep.l1 kj33 t422 t423 t425 t432 x8_1 t446 (wrap64 (x11_2 + 1)))) else (none)) else (none)) = some r := by rw [if_pos rfl] at H; exact H
                        clear H
                        have H := H1
                        clear H1
                        by_cases c38 : 0 ≤ x11_2
                        · rw [if_pos c38] at H
                          have c38b0 : decide (0 ≤ x11_2) = true := decide_eq_true c38
                          clear c38
                          by_cases c39 : x11_2 < (t432.length : Int)
                          · rw [if_pos c39] at H
                            have c39b0 : decide (x11_2 < (t432.length : Int)) = true := decide_eq_true c39
                            clear c39
                            by_cases c40 : (rd t432 x11_2) = 1
                            · rw [if_pos c40] at H
                              have c40b0 : ((rd t432 x11_2) == 1) = true := beq_iff_eq.mpr c40
                              have c40b1 : ((rd t432 x11_2) != 1) = false := bne_eq_false_iff_eq.mpr c40
                              clear c40
                              by_cases c41 : x11_2 < (t446.length : Int)
                              · rw [if_pos c41] at H
                                have c41b0 : decide (x11_2 < (t446.length : Int)) = true := decide_eq_true c41
                                clear c41
                                by_cases c42 : (rd t446 x11_2) = 1
                                · rw [if_pos c42] at H
                                  have c42b0 : ((rd t446 x11_2) == 1) = true := beq_iff_eq.mpr c42
                                  have c42b1 : ((rd t446 x11_2) != 1) = false := bne_eq_false_iff_eq.mpr c42
                                  clear c42
                                  have H' := Aside0.mk H
                                  clear H
                                  have p449 : 0 ≤ (x11_2 : Int) := of_decide_eq_true (by first | (with_reducible assumption) | assumption)
                                  have q449 : x11_2 < (t432.length : Int) := of_decide_eq_true (by first | (with_reducible assumption) | assumption)
                                  obtain ⟨ad449, e449, hx449_0⟩ := Kd.at_int (Kd.R_reads' HO_7.out).2.2 x11_2 p449 q449
                                  cases e449
                                  replace p449 := eq_true p449
                                  replace q449 := eq_true q449
                                  obtain ⟨Ao43, co43, eo43⟩ := Kd.R_slice HO_10.out
                                  subst eo43
                                  have p450 : 0 ≤ (x11_2 : Int) := of_decide_eq_true (by first | (with_reducible assumption) | assumption)
                                  have q450 : x11_2 < (t446.length : Int) := of_decide_eq_true (by first | (with_reducible assumption) | assumption)
                                  obtain ⟨ad450, e450, hx450_0⟩ := Kd.at_int (Kd.R_reads' HO_10.out).2.2 x11_2 p450 q450
                                  cases e450
                                  replace p450 := eq_true p450
                                  replace q450 := eq_true q450
                                  go_wp2
                                  go_roundg kj33
                                  case measure => have := HK1.out; have := HK2.out; have := HJ33.out; omega
                                  case rel => exact ⟨(wrap64 (x11_2 + 1)), (by first | rfl | (simp; done) | (simp [*]; done)), H', ⟨by have := HK1.out; have := HK2.out; have := HJ33.out; omega⟩, ⟨by (with_reducible repeat (first | apply Kd.R_alloc | apply Kd.R_drewN | apply Kd.R_drew)); exact HO_3.out⟩, ⟨by (with_reducible repeat (first | apply Kd.R_alloc | apply Kd.R_drewN | apply Kd.R_drew)); exact HO_6.out⟩, ⟨by (with_reducible repeat (first | apply Kd.R_alloc | apply Kd.R_drewN | apply Kd.R_drew)); exact HO_7.out⟩, ⟨by (with_reducible repeat (first | apply Kd.R_alloc | apply Kd.R_drewN | apply Kd.R_drew)); exact HO_8.out⟩, ⟨by (with_reducible repeat (first | apply Kd.R_alloc | apply Kd.R_drewN | apply Kd.R_drew)); exact HO_10.out⟩, ⟨zB HB.out⟩⟩
                                · rw [if_neg c42] at H
                                  have c42b0 : ((rd t446 x11_2) == 1) = false := beq_eq_false_iff_ne.mpr c42
                                  have c42b1 : ((rd t446 x11_2) != 1) = true := bne_iff_ne.mpr c42
                                  obtain rfl := Option.some.inj H
                                  have p449 : 0 ≤ (x11_2 : Int) := of_decide_eq_true (by first | (with_reducible assumption) | assumption)
                                  have q449 : x11_2 < (t432.length : Int) := of_decide_eq_true (by first | (with_reducible assumption) | assumption)
                                  obtain ⟨ad449, e449, hx449_0⟩ := Kd.at_int (Kd.R_reads' HO_7.out).2.2 x11_2 p449 q449
                                  cases e449
                                  replace p449 := eq_true p449
                                  replace q449 := eq_true q449
                                  obtain ⟨Ao44, co44, eo44⟩ := Kd.R_slice HO_10.out
                                  subst eo44
                                  have p450 : 0 ≤ (x11_2 : Int) := of_decide_eq_true (by first | (with_reducible assumption) | assumption)
                                  have q450 : x11_2 < (t446.length : Int) := of_decide_eq_true (by first | (with_reducible assumption) | assumption)
                                  obtain ⟨ad450, e450, hx450_0⟩ := Kd.at_int (Kd.R_reads' HO_10.out).2.2 x11_2 p450 q450
                                  cases e450
                                  replace p450 := eq_true p450
                                  replace q450 := eq_true q450
                                  go_wp2
                                  go_ret
                                  exact ⟨by first | rfl | (simp [errW_none, errW_some] <;> rfl) | (simp [*, errW_none, errW_some] <;> rfl), zB HB.out⟩
                              · rw [if_neg c41] at H
                                exact absurd H (by simp)
                            · rw [if_neg c40] at H
                              have c40b0 : ((rd t432 x11_2) == 1) = false := beq_eq_false_iff_ne.mpr c40
                              have c40b1 : ((rd t432 x11_2) != 1) = true := bne_iff_ne.mpr c40
                              have H' := Aside0.mk H
                              clear H
                              have p449 : 0 ≤ (x11_2 : Int) := of_decide_eq_true (by first | (with_reducible assumption) | assumption)
                              have q449 : x11_2 < (t432.length : Int) := of_decide_eq_true (by first | (with_reducible assumption) | assumption)
                              obtain ⟨ad449, e449, hx449_0⟩ := Kd.at_int (Kd.R_reads' HO_7.out).2.2 x11_2 p449 q449
                              cases e449
                              replace p449 := eq_true p449
                              replace q449 := eq_true q449
                              go_wp2
                              go_roundg kj33
                              case measure => have := HK1.out; have := HK2.out; have := HJ33.out; omega
                              case rel => exact ⟨(wrap64 (x11_2 + 1)), (by first | rfl | (simp; done) | (simp [*]; done)), H', ⟨by have := HK1.out; have := HK2.out; have := HJ33.out; omega⟩, ⟨by (with_reducible repeat (first | apply Kd.R_alloc | apply Kd.R_drewN | apply Kd.R_drew)); exact HO_3.out⟩, ⟨by (with_reducible repeat (first | apply Kd.R_alloc | apply Kd.R_drewN | apply Kd.R_drew)); exact HO_6.out⟩, ⟨by (with_reducible repeat (first | apply Kd.R_alloc | apply Kd.R_drewN | apply Kd.R_drew)); exact HO_7.out⟩, ⟨by (with_reducible repeat (first | apply Kd.R_alloc | apply Kd.R_drewN | apply Kd.R_drew)); exact HO_8.out⟩, ⟨by (with_reducible repeat (first | apply Kd.R_alloc | apply Kd.R_drewN | apply Kd.R_drew)); exact HO_10.out⟩, ⟨zB HB.out⟩⟩
                          · rw [if_neg c39] at H
                            exact absurd H (by simp)
                        · rw [if_neg c38] at H
                          exact absurd H (by simp)
                      · replace c37 := Bool.eq_false_iff.mpr c37
                        subst c37
                        have H1 : ((impl_StateOk.f kj33 t423 t432).bind fun t451 => (if t451 = true then ((impl_NeedStep.f kj33 t422 t423 x8_1 t425).bind fun t452 => ((laws_sameInts.f kj33 t452 t446).bind fun t455 => (if t455 = true then (some ((t446.length : Int) == (t432.length : Int))) else (some false)))) else (some false))) = some r := by rw [if_neg (show ¬ (false = true) by decide)] at H; exact H
                        clear H
                        have H := H1
                        clear H1
                        replace H := Option.bind_eq_some_iff.mp H
                        obtain ⟨t451, A450, H⟩ := H
                        replace H : (if t451 = true then ((impl_NeedStep.f kj33 t422 t423 x8_1 t425).bind fun t452 => ((laws_sameInts.f kj33 t452 t446).bind fun t455 => (if t455 = true then (some ((t446.length : Int) == (t432.length : Int))) else (some false)))) else (some false)) = some r := H
                        have A45 := Aside0.mk A450
                        clear A450
                        by_cases c46 : t451 = true
                        · subst c46
                          have H1 : ((impl_NeedStep.f kj33 t422 t423 x8_1 t425).bind fun t452 => ((laws_sameInts.f kj33 t452 t446).bind fun t455 => (if t455 = true then (some ((t446.length : Int) == (t432.length : Int))) else (some false)))) = some r := by rw [if_pos rfl] at H; exact H
                          clear H
                          have H := H1
                          clear H1
                          replace H := Option.bind_eq_some_iff.mp H
                          obtain ⟨t452, A470, H⟩ := H
                          replace H : ((laws_sameInts.f kj33 t452 t446).bind fun t455 => (if t455 = true then (some ((t446.length : Int) == (t432.length : Int))) else (some false))) = some r := H
                          have A47 := Aside0.mk A470
                          clear A470
                          replace H := Option.bind_eq_some_iff.mp H
                          obtain ⟨t455, A480, H⟩ := H
                          replace H : (if t455 = true then (some ((t446.length : Int) == (t432.length : Int))) else (some false)) = some r := H
                          have A48 := Aside0.mk A480
                          clear A480
                          by_cases c49 : t455 = true
                          · subst c49
                            have H1 : (some ((t446.length : Int) == (t432.length : Int))) = some r := by rw [if_pos rfl] at H; exact H
                            clear H
                            have H := H1
                            clear H1
                            obtain rfl := Option.some.inj H
                            go_wp2_with (first | ((with_reducible refine gate_callee (f := 26) rfl ?_); refine goesL_ (some 80) rfl rfl Try.func26 (by kernel_rfl) rfl #[.int .i64 t423, .slice Ao25 t432.length co25] rfl zA ?_; (with_reducible refine (impl_StateOk.calls kj33 t423 _ _ t432 true _ ?side1 ?side2 A45.out).mono ?_); (case side1 => exact zC (Kd.R_reads' HO_7.out).2.2); (case side2 => exact (Kd.R_reads' HO_7.out).2.1); rintro e w' ⟨rfl, ⟨nd, rfl⟩⟩; refine ⟨_, rfl, ?_⟩; obtain ⟨Ao50, co50, eo50⟩ := Kd.R_slice HO_8.out; subst eo50) | (go_at_call 22; (with_reducible refine (impl_NeedStep.calls kj33 _ _ t422 t423 _ _ x8_1 _ _ t425 t452 _ ?side1 ?side2 ?side3 ?side4 ?side5 ?side6 A47.out).mono ?_); (case side1 => exact zC (Kd.R_reads' HO_3.out).2.2); (case side2 => exact (Kd.R_reads' HO_3.out).2.1); (case side3 => exact zC (Kd.R_reads' HO_8.out).2.2); (case side4 => exact (Kd.R_reads' HO_8.out).2.1); (case side5 => exact zC (Kd.R_reads' HO_6.out).2.2); (case side6 => exact (Kd.R_reads' HO_6.out).2.1); rintro e w51 ⟨v453, rfl, ho0, hb⟩; have n0_ := Aside0.mk (Kd.R_elder' (zR HO_3.out) (Kd.R_base ho0) hb); have n1_ := Aside0.mk (Kd.R_elder' (zR HO_6.out) (Kd.R_base ho0) hb); have n2_ := Aside0.mk (Kd.R_elder' (zR HO_7.out) (Kd.R_base ho0) hb); have n3_ := Aside0.mk (Kd.R_elder' (zR HO_8.out) (Kd.R_base ho0) hb); have n4_ := Aside0.mk (Kd.R_elder' (zR HO_10.out) (Kd.R_base ho0) hb); have n5_ := Aside0.mk (Kd.R_lower (Kd.R_new' (Kd.R_new' (Kd.R_new' (Kd.R_new' (Kd.R_new' ho0 (Kd.R_lt (zR HO_3.out))) (Kd.R_lt (zR HO_6.out))) (Kd.R_lt (zR HO_7.out))) (Kd.R_lt (zR HO_8.out))) (Kd.R_lt (zR HO_10.out))) (below_size (zB HB.out))); have n6_ := Aside0.mk (below_step (zB HB.out) hb); clear HO_3; clear HO_6; clear HO_7; clear HO_8; clear HO_10; clear HB; have HO_3 := n0_; have HO_6 := n1_; have HO_7 := n2_; have HO_8 := n3_; have HO_10 := n4_; have HO454 := n5_; have HB := n6_; clear n0_ n1_ n2_ n3_ n4_ n5_ n6_; (try clear hb); (try clear hb2); (try clear hk); (try clear hi); (try clear ho0); obtain ⟨Ao52, co52, eo52⟩ := Kd.R_slice HO454.out; subst eo52; obtain ⟨Ao53, co53, eo53⟩ := Kd.R_slice HO_10.out; subst eo53) | (go_at_call 23; (with_reducible refine (laws_sameInts.calls kj33 _ _ t452 _ _ t446 true _ ?side1 ?side2 ?side3 ?side4 A48.out).mono ?_); (case side1 => exact zC (Kd.R_reads' HO454.out).2.2); (case side2 => exact (Kd.R_reads' HO454.out).2.1); (case side3 => exact zC (Kd.R_reads' HO_10.out).2.2); (case side4 => exact (Kd.R_reads' HO_10.out).2.1); rintro e w' ⟨rfl, ⟨nd, rfl⟩⟩))
                            go_ret
                            exact ⟨by first | rfl | (simp [errW_none, errW_some] <;> rfl) | (simp [*, errW_none, errW_some] <;> rfl), zB HB.out⟩
                          · replace c49 := Bool.eq_false_iff.mpr c49
                            subst c49
                            have H1 : (some false) = some r := by rw [if_neg (show ¬ (false = true) by decide)] at H; exact H
                            clear H
                            have H := H1
                            clear H1
                            obtain rfl := Option.some.inj H
                            go_wp2_with (first | ((with_reducible refine gate_callee (f := 26) rfl ?_); refine goesL_ (some 80) rfl rfl Try.func26 (by kernel_rfl) rfl #[.int .i64 t423, .slice Ao25 t432.length co25] rfl zA ?_; (with_reducible refine (impl_StateOk.calls kj33 t423 _ _ t432 true _ ?side1 ?side2 A45.out).mono ?_); (case side1 => exact zC (Kd.R_reads' HO_7.out).2.2); (case side2 => exact (Kd.R_reads' HO_7.out).2.1); rintro e w' ⟨rfl, ⟨nd, rfl⟩⟩; refine ⟨_, rfl, ?_⟩; obtain ⟨Ao54, co54, eo54⟩ := Kd.R_slice HO_8.out; subst eo54) | (go_at_call 22; (with_reducible refine (impl_NeedStep.calls kj33 _ _ t422 t423 _ _ x8_1 _ _ t425 t452 _ ?side1 ?side2 ?side3 ?side4 ?side5 ?side6 A47.out).mono ?_); (case side1 => exact zC (Kd.R_reads' HO_3.out).2.2); (case side2 => exact (Kd.R_reads' HO_3.out).2.1); (case side3 => exact zC (Kd.R_reads' HO_8.out).2.2); (case side4 => exact (Kd.R_reads' HO_8.out).2.1); (case side5 => exact zC (Kd.R_reads' HO_6.out).2.2); (case side6 => exact (Kd.R_reads' HO_6.out).2.1); rintro e w55 ⟨v453, rfl, ho0, hb⟩; have n0_ := Aside0.mk (Kd.R_elder' (zR HO_3.out) (Kd.R_base ho0) hb); have n1_ := Aside0.mk (Kd.R_elder' (zR HO_6.out) (Kd.R_base ho0) hb); have n2_ := Aside0.mk (Kd.R_elder' (zR HO_7.out) (Kd.R_base ho0) hb); have n3_ := Aside0.mk (Kd.R_elder' (zR HO_8.out) (Kd.R_base ho0) hb); have n4_ := Aside0.mk (Kd.R_elder' (zR HO_10.out) (Kd.R_base ho0) hb); have n5_ := Aside0.mk (Kd.R_lower (Kd.R_new' (Kd.R_new' (Kd.R_new' (Kd.R_new' (Kd.R_new' ho0 (Kd.R_lt (zR HO_3.out))) (Kd.R_lt (zR HO_6.out))) (Kd.R_lt (zR HO_7.out))) (Kd.R_lt (zR HO_8.out))) (Kd.R_lt (zR HO_10.out))) (below_size (zB HB.out))); have n6_ := Aside0.mk (below_step (zB HB.out) hb); clear HO_3; clear HO_6; clear HO_7; clear HO_8; clear HO_10; clear HB; have HO_3 := n0_; have HO_6 := n1_; have HO_7 := n2_; have HO_8 := n3_; have HO_10 := n4_; have HO454 := n5_; have HB := n6_; clear n0_ n1_ n2_ n3_ n4_ n5_ n6_; (try clear hb); (try clear hb2); (try clear hk); (try clear hi); (try clear ho0); obtain ⟨Ao56, co56, eo56⟩ := Kd.R_slice HO454.out; subst eo56; obtain ⟨Ao57, co57, eo57⟩ := Kd.R_slice HO_10.out; subst eo57) | (go_at_call 23; (with_reducible refine (laws_sameInts.calls kj33 _ _ t452 _ _ t446 false _ ?side1 ?side2 ?side3 ?side4 A48.out).mono ?_); (case side1 => exact zC (Kd.R_reads' HO454.out).2.2); (case side2 => exact (Kd.R_reads' HO454.out).2.1); (case side3 => exact zC (Kd.R_reads' HO_10.out).2.2); (case side4 => exact (Kd.R_reads' HO_10.out).2.1); rintro e w' ⟨rfl, ⟨nd, rfl⟩⟩))
                            go_ret
                            exact ⟨by first | rfl | (simp [errW_none, errW_some] <;> rfl) | (simp [*, errW_none, errW_some] <;> rfl), zB HB.out⟩
                        · replace c46 := Bool.eq_false_iff.mpr c46
                          subst c46
                          have H1 : (some false) = some r := by rw [if_neg (show ¬ (false = true) by decide)] at H; exact H
                          clear H
                          have H := H1
                          clear H1
                          obtain rfl := Option.some.inj H
                          go_wp2_with (first | ((with_reducible refine gate_callee (f := 26) rfl ?_); refine goesL_ (some 80) rfl rfl Try.func26 (by kernel_rfl) rfl #[.int .i64 t423, .slice Ao25 t432.length co25] rfl zA ?_; (with_reducible refine (impl_StateOk.calls kj33 t423 _ _ t432 false _ ?side1 ?side2 A45.out).mono ?_); (case side1 => exact zC (Kd.R_reads' HO_7.out).2.2); (case side2 => exact (Kd.R_reads' HO_7.out).2.1); rintro e w' ⟨rfl, ⟨nd, rfl⟩⟩; refine ⟨_, rfl, ?_⟩))
                          go_ret
                          exact ⟨by first | rfl | (simp [errW_none, errW_some] <;> rfl) | (simp [*, errW_none, errW_some] <;> rfl), zB HB.out⟩
    · replace c7 := Bool.eq_false_iff.mpr c7
      subst c7
      have H1 : (some false) = some r := by rw [if_neg (show ¬ (false = true) by decide)] at H; exact H
      clear H
      have H := H1
      clear H1
      obtain rfl := Option.some.inj H
      go_enter Try.func5, Try.ntmps5
      go_wp2_with (first | ((with_reducible refine gate_callee (f := 21) rfl ?_); refine goesL_ (some 17) rfl rfl Try.func21 (by kernel_rfl) rfl #[.slice A0 l0.length c0] rfl zA ?_; (with_reducible refine (spec_DrawNeedStep.calls k _ _ l0 t422 t423 t424 t425 _ ?side1 ?side2 A3.out).mono ?_); (case side1 => exact zC HR0.out); (case side2 => exact HC0.out); rintro e w58 ⟨v426, v428, v430, rfl, ho0, ho1, ho2, hb⟩; refine ⟨_, rfl, ?_⟩; have n0_ := Aside0.mk (Kd.R_lower ho0 (below_size (zB HB.out))); have n1_ := Aside0.mk (Kd.R_lower ho1 (below_size (zB HB.out))); have n2_ := Aside0.mk (Kd.R_lower ho2 (below_size (zB HB.out))); have n3_ := Aside0.mk (below_step (zB HB.out) hb); clear HB; have HO427 := n0_; have HO429 := n1_; have HO431 := n2_; have HB := n3_; clear n0_ n1_ n2_ n3_; (try clear hb); (try clear hb2); (try clear hk); (try clear hi); (try clear ho0); (try clear ho1); (try clear ho2); obtain ⟨Ao59, co59, eo59⟩ := Kd.R_slice HO427.out; subst eo59; obtain ⟨Ao60, co60, eo60⟩ := Kd.R_slice HO429.out; subst eo60; obtain ⟨Ao61, co61, eo61⟩ := Kd.R_slice HO431.out; subst eo61) | ((with_reducible refine gate_callee (f := 22) rfl ?_); refine goesL_ (some 26) rfl rfl Try.func22 (by kernel_rfl) rfl #[.slice Ao59 t422.length co59, .int .i64 t423, .slice Ao60 t424.length co60, .slice Ao61 t425.length co61] rfl zA ?_; (with_reducible refine (impl_NeedStep.calls k _ _ t422 t423 _ _ t424 _ _ t425 t432 _ ?side1 ?side2 ?side3 ?side4 ?side5 ?side6 A4.out).mono ?_); (case side1 => exact zC (Kd.R_reads' HO427.out).2.2); (case side2 => exact (Kd.R_reads' HO427.out).2.1); (case side3 => exact zC (Kd.R_reads' HO429.out).2.2); (case side4 => exact (Kd.R_reads' HO429.out).2.1); (case side5 => exact zC (Kd.R_reads' HO431.out).2.2); (case side6 => exact (Kd.R_reads' HO431.out).2.1); rintro e w62 ⟨v433, rfl, ho0, hb⟩; refine ⟨_, rfl, ?_⟩; have n0_ := Aside0.mk (Kd.R_elder' (zR HO427.out) (Kd.R_base ho0) hb); have n1_ := Aside0.mk (Kd.R_elder' (zR HO429.out) (Kd.R_base ho0) hb); have n2_ := Aside0.mk (Kd.R_elder' (zR HO431.out) (Kd.R_base ho0) hb); have n3_ := Aside0.mk (Kd.R_lower (Kd.R_new' (Kd.R_new' (Kd.R_new' ho0 (Kd.R_lt (zR HO427.out))) (Kd.R_lt (zR HO429.out))) (Kd.R_lt (zR HO431.out))) (below_size (zB HB.out))); have n4_ := Aside0.mk (below_step (zB HB.out) hb); clear HO427; clear HO429; clear HO431; clear HB; have HO427 := n0_; have HO429 := n1_; have HO431 := n2_; have HO434 := n3_; have HB := n4_; clear n0_ n1_ n2_ n3_ n4_; (try clear hb); (try clear hb2); (try clear hk); (try clear hi); (try clear ho0)) | ((with_reducible refine gate_callee (f := 24) rfl ?_); refine goesL_ (some 32) rfl rfl Try.func24 (by kernel_rfl) rfl #[.slice Ao59 t422.length co59, .int .i64 t423, .slice Ao60 t424.length co60, .slice Ao61 t425.length co61] rfl zA ?_; (with_reducible refine (spec_NeedStep.calls k _ _ t422 t423 _ _ t424 _ _ t425 t435 _ ?side1 ?side2 ?side3 ?side4 ?side5 ?side6 A5.out).mono ?_); (case side1 => exact zC (Kd.R_reads' HO427.out).2.2); (case side2 => exact (Kd.R_reads' HO427.out).2.1); (case side3 => exact zC (Kd.R_reads' HO429.out).2.2); (case side4 => exact (Kd.R_reads' HO429.out).2.1); (case side5 => exact zC (Kd.R_reads' HO431.out).2.2); (case side6 => exact (Kd.R_reads' HO431.out).2.1); rintro e w63 ⟨v436, rfl, ho0, hb⟩; refine ⟨_, rfl, ?_⟩; have n0_ := Aside0.mk (Kd.R_elder' (zR HO427.out) (Kd.R_base ho0) hb); have n1_ := Aside0.mk (Kd.R_elder' (zR HO429.out) (Kd.R_base ho0) hb); have n2_ := Aside0.mk (Kd.R_elder' (zR HO431.out) (Kd.R_base ho0) hb); have n3_ := Aside0.mk (Kd.R_elder' (zR HO434.out) (Kd.R_base ho0) hb); have n4_ := Aside0.mk (Kd.R_lower (Kd.R_new' (Kd.R_new' (Kd.R_new' (Kd.R_new' ho0 (Kd.R_lt (zR HO427.out))) (Kd.R_lt (zR HO429.out))) (Kd.R_lt (zR HO431.out))) (Kd.R_lt (zR HO434.out))) (below_size (zB HB.out))); have n5_ := Aside0.mk (below_step (zB HB.out) hb); clear HO427; clear HO429; clear HO431; clear HO434; clear HB; have HO427 := n0_; have HO429 := n1_; have HO431 := n2_; have HO434 := n3_; have HO437 := n4_; have HB := n5_; clear n0_ n1_ n2_ n3_ n4_ n5_; (try clear hb); (try clear hb2); (try clear hk); (try clear hi); (try clear ho0); obtain ⟨Ao64, co64, eo64⟩ := Kd.R_slice HO434.out; subst eo64; obtain ⟨Ao65, co65, eo65⟩ := Kd.R_slice HO437.out; subst eo65) | ((with_reducible refine gate_callee (f := 23) rfl ?_); refine goesL_ (some 33) rfl rfl Try.func23 (by kernel_rfl) rfl #[.slice Ao64 t432.length co64, .slice Ao65 t435.length co65] rfl zA ?_; (with_reducible refine (laws_sameInts.calls k _ _ t432 _ _ t435 false _ ?side1 ?side2 ?side3 ?side4 A6.out).mono ?_); (case side1 => exact zC (Kd.R_reads' HO434.out).2.2); (case side2 => exact (Kd.R_reads' HO434.out).2.1); (case side3 => exact zC (Kd.R_reads' HO437.out).2.2); (case side4 => exact (Kd.R_reads' HO437.out).2.1); rintro e w' ⟨rfl, ⟨nd, rfl⟩⟩; refine ⟨_, rfl, ?_⟩))
      go_ret
      exact ⟨by first | rfl | (simp [errW_none, errW_some] <;> rfl) | (simp [*, errW_none, errW_some] <;> rfl), zB HB.out⟩

/-- THE ONE PURE STATEMENT of laws_FnNeedStep: yours. -/
def laws_FnNeedStep.Pure : Prop := ∀ (l0 : List Int), l0.length ≤ maxLen → l0.length * 1 ≤ 140737488351232 → (∀ x ∈ l0, (Lit.int .u8 x).wf = true) → ∃ k, laws_FnNeedStep.f k l0 = some true
theorem laws_FnNeedStep.walk (P : laws_FnNeedStep.Pure) (a0 : Option Addr) (len0 cap0 : Nat) (z0 : List Int) (w : World) (w0 : (a0 = none ∧ len0 = 0 ∧ cap0 = 0 ∧ z0 = []) ∨ ∃ x, a0 = some x ∧ len0 ≤ cap0 ∧ cap0 ≤ maxLen ∧ z0.length = cap0 ∧ (∀ i, i < z0.length → w.cell? (x.add i) = some (.int .u8 (z0.getD i 0))) ∧ ∀ n ∈ z0, (Lit.int .u8 n).wf = true) (y0 : len0 * 1 ≤ 140737488351232) :
    Calls Try.prog 5 #[.slice a0 len0 cap0] w fun e w' => e = .returned (.bool true) ∧ Below w.heap.size w w' := by
  obtain ⟨l0, rfl, hr0, hm0, hw0, hc0⟩ := ReadsInt.ofRowC w0
  obtain ⟨k, h⟩ := P l0 hm0 y0 hw0
  refine (laws_FnNeedStep.calls k _ _ l0 true w (Kd.C_of_reads (d := (0 : Int)) (h1 := fun _ => rfl) hr0) hc0 h).mono ?_
  rintro e w' ⟨rfl, hd⟩
  exact ⟨rfl, hd⟩

end Go.Proofs.Ytfhkahlfpchhpaa.PAll
