/- Own text of this session, written by a program of this session (wip/t/own.py) out of what the kit tells of the functions: each Go function as a Lean function, and the walk through its code. -/
import Derived.Test.YtgglagpciojfmaaT
import Derived.Test.YtgglagpciojfmaaF1
import Derived.Test.YtgglagpciojfmaaF28
import Derived.Test.YtgglagpciojfmaaF31
import Derived.Test.YtgglagpciojfmaaF34
import Derived.Test.YtgglagpciojfmaaF36
import Derived.Test.YtgglagpciojfmaaF5
import Derived.Test.YtgglagpciojfmaaF9
namespace Go.Proofs.Ytgglagpciojfmaa.PAll
open Go.RowKit Go.Proofs.YtgglagpciojfmaaW.PrintWords Go.Proofs.YtgglagpciojfmaaW.PrintLast Go.Proofs.YtgglagpciojfmaaW.PrintMore
attribute [local go_sem] max2_int min2_int max_two min_two max_three min_three max_four min_four   -- for this text's walks alone
set_option linter.unusedVariables false
set_option linter.unusedSimpArgs false

/-! ### laws_FnBeforeCount: function 10 -/
mutual
def laws_FnBeforeCount.j0 : Nat → List Int → Int → Int → Int → Bool → Option (Bool)
 | 0, _, _, _, _, _ => none
 | k + 1, x3, x4, x6, x7, x56 => if x56 = true then (some false) else (laws_FnBeforeCount.l0 k x3 x4 x6 x7 0 0)
def laws_FnBeforeCount.l0 : Nat → List Int → Int → Int → Int → Int → Int → Option (Bool)
 | 0, _, _, _, _, _, _ => none
 | k + 1, x3, x4, x6, x7, x8, x9 => if x9 < x7 then (laws_FnBeforeCount.j2 k x3 x4 x6 x7 x8 x9 (decide (x7 ≤ 81))) else (laws_FnBeforeCount.j2 k x3 x4 x6 x7 x8 x9 false)
def laws_FnBeforeCount.j2 : Nat → List Int → Int → Int → Int → Int → Int → Bool → Option (Bool)
 | 0, _, _, _, _, _, _, _ => none
 | k + 1, x3, x4, x6, x7, x8, x9, x63 => if x63 = true then ((impl_StateOf.f k (x3.length : Int) x4 x9).bind fun t576 => ((impl_BeforeCount.f k x3 x4 t576).bind fun t579 => (laws_FnBeforeCount.l0 k x3 x4 x6 x7 (wrap64 (x8 + t579)) (wrap64 (x9 + 1))))) else (if x6 ≤ x7 then (if x7 > 81 then (some true) else (some (x8 == x7))) else (some false))
end
def laws_FnBeforeCount.f (k : Nat) (l0 : List Int) : Option (Bool) := if (l0.length : Int) > 1048576 then (some true) else ((spec_DrawBeforeCount.f k l0).bind fun bt557 => ((impl_BeforeCount.f k bt557.1 bt557.2.1 bt557.2.2).bind fun t564 => ((spec_BeforeCount.f k bt557.1 bt557.2.1 bt557.2.2).bind fun t565 => (if t564 = t565 then (if t564 < 0 then (if t564 = (-1) then ((laws_alive.f k).bind fun t566 => (some t566)) else (some false)) else ((laws_powerOf.f k bt557.2.1 (bt557.1.length : Int)).bind fun t567 => ((impl_FireStep.f k bt557.1 bt557.2.1 bt557.2.2).bind fun t568 => ((impl_BeforeCount.f k bt557.1 bt557.2.1 t568).bind fun t571 => (if t571 < 1 then (laws_FnBeforeCount.j0 k bt557.1 bt557.2.1 t564 t567 true) else (if 0 ≤ (bt557.1.length : Int) then (if ((bt557.1.length : Int) : Int).toNat ≤ 35184372088832 then ((impl_BeforeCount.f k bt557.1 bt557.2.1 (List.replicate ((bt557.1.length : Int) : Int).toNat 0)).bind fun t575 => (laws_FnBeforeCount.j0 k bt557.1 bt557.2.1 t564 t567 (decide (t575 < 1)))) else (none)) else (none))))))) else (some false)))))
theorem laws_FnBeforeCount.mono_l : ∀ k, (∀ y0 y1 y2 y3 y4, LeO (laws_FnBeforeCount.j0 k y0 y1 y2 y3 y4) (laws_FnBeforeCount.j0 (k + 1) y0 y1 y2 y3 y4)) ∧ (∀ y0 y1 y2 y3 y4 y5, LeO (laws_FnBeforeCount.l0 k y0 y1 y2 y3 y4 y5) (laws_FnBeforeCount.l0 (k + 1) y0 y1 y2 y3 y4 y5)) ∧ (∀ y0 y1 y2 y3 y4 y5 y6, LeO (laws_FnBeforeCount.j2 k y0 y1 y2 y3 y4 y5 y6) (laws_FnBeforeCount.j2 (k + 1) y0 y1 y2 y3 y4 y5 y6))
 | 0 => ⟨fun _ _ _ _ _ r h => by simp [laws_FnBeforeCount.j0] at h, fun _ _ _ _ _ _ r h => by simp [laws_FnBeforeCount.l0] at h, fun _ _ _ _ _ _ _ r h => by simp [laws_FnBeforeCount.j2] at h⟩
 | k + 1 => by
  obtain ⟨ih0, ih1, ih2⟩ := laws_FnBeforeCount.mono_l k
  refine ⟨?_, ?_, ?_⟩
  ·intro y0 y1 y2 y3 y4
   unfold laws_FnBeforeCount.j0
   repeat' first
   | (with_reducible exact ih0 _ _ _ _ _)
   | (with_reducible exact ih1 _ _ _ _ _ _)
   | (with_reducible exact ih2 _ _ _ _ _ _ _)
   | (with_reducible exact impl_BeforeCount.mono _ _ _ _)
   | (with_reducible exact impl_FireStep.mono _ _ _ _)
   | (with_reducible exact impl_StateOf.mono _ _ _ _)
   | (with_reducible exact laws_alive.mono _)
   | (with_reducible exact laws_powerOf.mono _ _ _)
   | (with_reducible exact spec_BeforeCount.mono _ _ _ _)
   | (with_reducible exact spec_DrawBeforeCount.mono _ _)
   | (with_reducible exact LeO.refl _)
   | (with_reducible exact LeO.none _)
   | (with_reducible refine LeO.ite ?_ ?_)
   | (with_reducible refine LeO.bind ?_ (fun _ => ?_))
   | exact ih0 _ _ _ _ _
   | exact ih1 _ _ _ _ _ _
   | exact ih2 _ _ _ _ _ _ _
   | exact impl_BeforeCount.mono _ _ _ _
   | exact impl_FireStep.mono _ _ _ _
   | exact impl_StateOf.mono _ _ _ _
   | exact laws_alive.mono _
   | exact laws_powerOf.mono _ _ _
   | exact spec_BeforeCount.mono _ _ _ _
   | exact spec_DrawBeforeCount.mono _ _
   | exact LeO.none _
   | refine LeO.ite ?_ ?_
   | refine LeO.bind ?_ (fun _ => ?_)
  ·intro y0 y1 y2 y3 y4 y5
   unfold laws_FnBeforeCount.l0
   repeat' first
   | (with_reducible exact ih0 _ _ _ _ _)
   | (with_reducible exact ih1 _ _ _ _ _ _)
   | (with_reducible exact ih2 _ _ _ _ _ _ _)
   | (with_reducible exact impl_BeforeCount.mono _ _ _ _)
   | (with_reducible exact impl_FireStep.mono _ _ _ _)
   | (with_reducible exact impl_StateOf.mono _ _ _ _)
   | (with_reducible exact laws_alive.mono _)
   | (with_reducible exact laws_powerOf.mono _ _ _)
   | (with_reducible exact spec_BeforeCount.mono _ _ _ _)
   | (with_reducible exact spec_DrawBeforeCount.mono _ _)
   | (with_reducible exact LeO.refl _)
   | (with_reducible exact LeO.none _)
   | (with_reducible refine LeO.ite ?_ ?_)
   | (with_reducible refine LeO.bind ?_ (fun _ => ?_))
   | exact ih0 _ _ _ _ _
   | exact ih1 _ _ _ _ _ _
   | exact ih2 _ _ _ _ _ _ _
   | exact impl_BeforeCount.mono _ _ _ _
   | exact impl_FireStep.mono _ _ _ _
   | exact impl_StateOf.mono _ _ _ _
   | exact laws_alive.mono _
   | exact laws_powerOf.mono _ _ _
   | exact spec_BeforeCount.mono _ _ _ _
   | exact spec_DrawBeforeCount.mono _ _
   | exact LeO.none _
   | refine LeO.ite ?_ ?_
   | refine LeO.bind ?_ (fun _ => ?_)
  ·intro y0 y1 y2 y3 y4 y5 y6
   unfold laws_FnBeforeCount.j2
   repeat' first
   | (with_reducible exact ih0 _ _ _ _ _)
   | (with_reducible exact ih1 _ _ _ _ _ _)
   | (with_reducible exact ih2 _ _ _ _ _ _ _)
   | (with_reducible exact impl_BeforeCount.mono _ _ _ _)
   | (with_reducible exact impl_FireStep.mono _ _ _ _)
   | (with_reducible exact impl_StateOf.mono _ _ _ _)
   | (with_reducible exact laws_alive.mono _)
   | (with_reducible exact laws_powerOf.mono _ _ _)
   | (with_reducible exact spec_BeforeCount.mono _ _ _ _)
   | (with_reducible exact spec_DrawBeforeCount.mono _ _)
   | (with_reducible exact LeO.refl _)
   | (with_reducible exact LeO.none _)
   | (with_reducible refine LeO.ite ?_ ?_)
   | (with_reducible refine LeO.bind ?_ (fun _ => ?_))
   | exact ih0 _ _ _ _ _
   | exact ih1 _ _ _ _ _ _
   | exact ih2 _ _ _ _ _ _ _
   | exact impl_BeforeCount.mono _ _ _ _
   | exact impl_FireStep.mono _ _ _ _
   | exact impl_StateOf.mono _ _ _ _
   | exact laws_alive.mono _
   | exact laws_powerOf.mono _ _ _
   | exact spec_BeforeCount.mono _ _ _ _
   | exact spec_DrawBeforeCount.mono _ _
   | exact LeO.none _
   | refine LeO.ite ?_ ?_
   | refine LeO.bind ?_ (fun _ => ?_)
theorem laws_FnBeforeCount.mono : ∀ a0 k, LeO (laws_FnBeforeCount.f k a0) (laws_FnBeforeCount.f (k + 1) a0) := by
 intro a0 k
 obtain ⟨ih0, ih1, ih2⟩ := laws_FnBeforeCount.mono_l k
 unfold laws_FnBeforeCount.f
 repeat' first
   | (with_reducible exact ih0 _ _ _ _ _)
   | (with_reducible exact ih1 _ _ _ _ _ _)
   | (with_reducible exact ih2 _ _ _ _ _ _ _)
   | (with_reducible exact impl_BeforeCount.mono _ _ _ _)
   | (with_reducible exact impl_FireStep.mono _ _ _ _)
   | (with_reducible exact impl_StateOf.mono _ _ _ _)
   | (with_reducible exact laws_alive.mono _)
   | (with_reducible exact laws_powerOf.mono _ _ _)
   | (with_reducible exact spec_BeforeCount.mono _ _ _ _)
   | (with_reducible exact spec_DrawBeforeCount.mono _ _)
   | (with_reducible exact LeO.refl _)
   | (with_reducible exact LeO.none _)
   | (with_reducible refine LeO.ite ?_ ?_)
   | (with_reducible refine LeO.bind ?_ (fun _ => ?_))
   | exact ih0 _ _ _ _ _
   | exact ih1 _ _ _ _ _ _
   | exact ih2 _ _ _ _ _ _ _
   | exact impl_BeforeCount.mono _ _ _ _
   | exact impl_FireStep.mono _ _ _ _
   | exact impl_StateOf.mono _ _ _ _
   | exact laws_alive.mono _
   | exact laws_powerOf.mono _ _ _
   | exact spec_BeforeCount.mono _ _ _ _
   | exact spec_DrawBeforeCount.mono _ _
   | exact LeO.none _
   | refine LeO.ite ?_ ?_
   | refine LeO.bind ?_ (fun _ => ?_)
set_option maxHeartbeats 8000000 in
set_option maxRecDepth 100000 in
theorem laws_FnBeforeCount.calls (k : Nat) (A0 : Option Addr) (c0 : Nat) (l0 : List Int) (r : Bool) (w : World) (hr0 : Kd.C (Kd.int .u8) w A0 l0.length l0) (hc0 : l0.length ≤ c0) (h : laws_FnBeforeCount.f k l0 = some r) :
  Calls Try.prog 10 #[.slice A0 l0.length c0] w fun e w' => e = .returned (.bool r) ∧ Below w.heap.size w w' := by
 have HR0 := Aside0.mk hr0
 have HC0 := Aside0.mk hc0
 clear hr0 hc0
 have HB := Aside0.mk (Below.refl w.heap.size w)
 have H : (if (l0.length : Int) > 1048576 then (some true) else ((spec_DrawBeforeCount.f k l0).bind fun bt557 => ((impl_BeforeCount.f k bt557.1 bt557.2.1 bt557.2.2).bind fun t564 => ((spec_BeforeCount.f k bt557.1 bt557.2.1 bt557.2.2).bind fun t565 => (if t564 = t565 then (if t564 < 0 then (if t564 = (-1) then ((laws_alive.f k).bind fun t566 => (some t566)) else (some false)) else ((laws_powerOf.f k bt557.2.1 (bt557.1.length : Int)).bind fun t567 => ((impl_FireStep.f k bt557.1 bt557.2.1 bt557.2.2).bind fun t568 => ((impl_BeforeCount.f k bt557.1 bt557.2.1 t568).bind fun t571 => (if t571 < 1 then (laws_FnBeforeCount.j0 k bt557.1 bt557.2.1 t564 t567 true) else (if 0 ≤ (bt557.1.length : Int) then (if ((bt557.1.length : Int) : Int).toNat ≤ 35184372088832 then ((impl_BeforeCount.f k bt557.1 bt557.2.1 (List.replicate ((bt557.1.length : Int) : Int).toNat 0)).bind fun t575 => (laws_FnBeforeCount.j0 k bt557.1 bt557.2.1 t564 t567 (decide (t575 < 1)))) else (none)) else (none))))))) else (some false)))))) = some r := h
 clear h
 by_cases c2 : (l0.length : Int) > 1048576
 ·rw [if_pos c2] at H
  have c2b0 : decide (1048576 < (l0.length : Int)) = true := decide_eq_true c2
  have c2b1 : decide (1048576 < l0.length) = true := decide_eq_true (by omega)
  clear c2
  obtain rfl := Option.some.inj H
  go_enter Try.func10, Try.ntmps10
  go_wp2
  go_ret
  exact ⟨by first | rfl | (simp [errW_none, errW_some] <;> rfl) | (simp [*, errW_none, errW_some] <;> rfl), zB HB.out⟩
 ·rw [if_neg c2] at H
  have c2b0 : decide (1048576 < (l0.length : Int)) = false := decide_eq_false c2
  have c2b1 : decide (1048576 < l0.length) = false := decide_eq_false (by omega)
  clear c2
  replace H := Option.bind_eq_some_iff.mp H
  obtain ⟨⟨t557, t558, t559⟩, A30, H⟩ := H
  replace H : ((impl_BeforeCount.f k t557 t558 t559).bind fun t564 => ((spec_BeforeCount.f k t557 t558 t559).bind fun t565 => (if t564 = t565 then (if t564 < 0 then (if t564 = (-1) then ((laws_alive.f k).bind fun t566 => (some t566)) else (some false)) else ((laws_powerOf.f k t558 (t557.length : Int)).bind fun t567 => ((impl_FireStep.f k t557 t558 t559).bind fun t568 => ((impl_BeforeCount.f k t557 t558 t568).bind fun t571 => (if t571 < 1 then (laws_FnBeforeCount.j0 k t557 t558 t564 t567 true) else (if 0 ≤ (t557.length : Int) then (if ((t557.length : Int) : Int).toNat ≤ 35184372088832 then ((impl_BeforeCount.f k t557 t558 (List.replicate ((t557.length : Int) : Int).toNat 0)).bind fun t575 => (laws_FnBeforeCount.j0 k t557 t558 t564 t567 (decide (t575 < 1)))) else (none)) else (none))))))) else (some false)))) = some r := H
  have A3 := Aside0.mk A30
  clear A30
  replace H := Option.bind_eq_some_iff.mp H
  obtain ⟨t564, A40, H⟩ := H
  replace H : ((spec_BeforeCount.f k t557 t558 t559).bind fun t565 => (if t564 = t565 then (if t564 < 0 then (if t564 = (-1) then ((laws_alive.f k).bind fun t566 => (some t566)) else (some false)) else ((laws_powerOf.f k t558 (t557.length : Int)).bind fun t567 => ((impl_FireStep.f k t557 t558 t559).bind fun t568 => ((impl_BeforeCount.f k t557 t558 t568).bind fun t571 => (if t571 < 1 then (laws_FnBeforeCount.j0 k t557 t558 t564 t567 true) else (if 0 ≤ (t557.length : Int) then (if ((t557.length : Int) : Int).toNat ≤ 35184372088832 then ((impl_BeforeCount.f k t557 t558 (List.replicate ((t557.length : Int) : Int).toNat 0)).bind fun t575 => (laws_FnBeforeCount.j0 k t557 t558 t564 t567 (decide (t575 < 1)))) else (none)) else (none))))))) else (some false))) = some r := H
  have A4 := Aside0.mk A40
  clear A40
  replace H := Option.bind_eq_some_iff.mp H
  obtain ⟨t565, A50, H⟩ := H
  replace H : (if t564 = t565 then (if t564 < 0 then (if t564 = (-1) then ((laws_alive.f k).bind fun t566 => (some t566)) else (some false)) else ((laws_powerOf.f k t558 (t557.length : Int)).bind fun t567 => ((impl_FireStep.f k t557 t558 t559).bind fun t568 => ((impl_BeforeCount.f k t557 t558 t568).bind fun t571 => (if t571 < 1 then (laws_FnBeforeCount.j0 k t557 t558 t564 t567 true) else (if 0 ≤ (t557.length : Int) then (if ((t557.length : Int) : Int).toNat ≤ 35184372088832 then ((impl_BeforeCount.f k t557 t558 (List.replicate ((t557.length : Int) : Int).toNat 0)).bind fun t575 => (laws_FnBeforeCount.j0 k t557 t558 t564 t567 (decide (t575 < 1)))) else (none)) else (none))))))) else (some false)) = some r := H
  have A5 := Aside0.mk A50
  clear A50
  by_cases c6 : t564 = t565
  ·rw [if_pos c6] at H
   have c6b0 : (t564 == t565) = true := beq_iff_eq.mpr c6
   have c6b1 : (t564 != t565) = false := bne_eq_false_iff_eq.mpr c6
   clear c6
   by_cases c7 : t564 < 0
   ·rw [if_pos c7] at H
    have c7b0 : decide (t564 < 0) = true := decide_eq_true c7
    clear c7
    by_cases c8 : t564 = (-1)
    ·rw [if_pos c8] at H
     have c8b0 : (t564 == (-1)) = true := beq_iff_eq.mpr c8
     have c8b1 : (t564 != (-1)) = false := bne_eq_false_iff_eq.mpr c8
     clear c8
     replace H := Option.bind_eq_some_iff.mp H
     obtain ⟨t566, A90, H⟩ := H
     replace H : (some t566) = some r := H
     have A9 := Aside0.mk A90
     clear A90
     obtain rfl := Option.some.inj H
     go_enter Try.func10, Try.ntmps10
     go_wp2_with (first | ((with_reducible refine gate_callee (f := 27) rfl ?_); refine goesL_ (some 15) rfl rfl Try.func27 (by kernel_rfl) rfl #[.slice A0 l0.length c0] rfl zA ?_; (with_reducible refine (spec_DrawBeforeCount.calls k _ _ l0 t557 t558 t559 _ ?side1 ?side2 A3.out).mono ?_); (case side1 => exact zC HR0.out); (case side2 => exact HC0.out); rintro e w10 ⟨v560, v562, rfl, ho0, ho1, hb⟩; refine ⟨_, rfl, ?_⟩; have n0_ := Aside0.mk (Kd.R_lower ho0 (below_size (zB HB.out))); have n1_ := Aside0.mk (Kd.R_lower ho1 (below_size (zB HB.out))); have n2_ := Aside0.mk (below_step (zB HB.out) hb); clear HB; have HO561 := n0_; have HO563 := n1_; have HB := n2_; clear n0_ n1_ n2_; (try clear hb); (try clear hb2); (try clear hk); (try clear hi); (try clear ho0); (try clear ho1); obtain ⟨Ao11, co11, eo11⟩ := Kd.R_slice HO561.out; subst eo11; obtain ⟨Ao12, co12, eo12⟩ := Kd.R_slice HO563.out; subst eo12) | ((with_reducible refine gate_callee (f := 17) rfl ?_); refine goesL_ (some 22) rfl rfl Try.func17 (by kernel_rfl) rfl #[.slice Ao11 t557.length co11, .int .i64 t558, .slice Ao12 t559.length co12] rfl zA ?_; (with_reducible refine (impl_BeforeCount.calls k _ _ t557 t558 _ _ t559 t564 _ ?side1 ?side2 ?side3 ?side4 A4.out).mono ?_); (case side1 => exact zC (Kd.R_reads' HO561.out).2.2); (case side2 => exact (Kd.R_reads' HO561.out).2.1); (case side3 => exact zC (Kd.R_reads' HO563.out).2.2); (case side4 => exact (Kd.R_reads' HO563.out).2.1); rintro e w13 ⟨rfl, hb⟩; refine ⟨_, rfl, ?_⟩; have n0_ := Aside0.mk (Kd.R_below (zR HO561.out) hb); have n1_ := Aside0.mk (Kd.R_below (zR HO563.out) hb); have n2_ := Aside0.mk (below_step (zB HB.out) hb); clear HO561; clear HO563; clear HB; have HO561 := n0_; have HO563 := n1_; have HB := n2_; clear n0_ n1_ n2_; (try clear hb); (try clear hb2); (try clear hk); (try clear hi)) | ((with_reducible refine gate_callee (f := 15) rfl ?_); refine goesL_ (some 27) rfl rfl Try.func15 (by kernel_rfl) rfl #[.slice Ao11 t557.length co11, .int .i64 t558, .slice Ao12 t559.length co12] rfl zA ?_; (with_reducible refine (spec_BeforeCount.calls k _ _ t557 t558 _ _ t559 t565 _ ?side1 ?side2 ?side3 ?side4 A5.out).mono ?_); (case side1 => exact zC (Kd.R_reads' HO561.out).2.2); (case side2 => exact (Kd.R_reads' HO561.out).2.1); (case side3 => exact zC (Kd.R_reads' HO563.out).2.2); (case side4 => exact (Kd.R_reads' HO563.out).2.1); rintro e w14 ⟨rfl, hb⟩; refine ⟨_, rfl, ?_⟩; have n0_ := Aside0.mk (Kd.R_below (zR HO561.out) hb); have n1_ := Aside0.mk (Kd.R_below (zR HO563.out) hb); have n2_ := Aside0.mk (below_step (zB HB.out) hb); clear HO561; clear HO563; clear HB; have HO561 := n0_; have HO563 := n1_; have HB := n2_; clear n0_ n1_ n2_; (try clear hb); (try clear hb2); (try clear hk); (try clear hi)) | (go_at_call 28; (with_reducible refine (laws_alive.calls k  t566 _ A9.out).mono ?_); rintro e w15 ⟨rfl, hb⟩; have n0_ := Aside0.mk (Kd.R_below (zR HO561.out) hb); have n1_ := Aside0.mk (Kd.R_below (zR HO563.out) hb); have n2_ := Aside0.mk (below_step (zB HB.out) hb); clear HO561; clear HO563; clear HB; have HO561 := n0_; have HO563 := n1_; have HB := n2_; clear n0_ n1_ n2_; (try clear hb); (try clear hb2); (try clear hk); (try clear hi)))
     go_ret
     exact ⟨by first | rfl | (simp [errW_none, errW_some] <;> rfl) | (simp [*, errW_none, errW_some] <;> rfl), zB HB.out⟩
    ·rw [if_neg c8] at H
     have c8b0 : (t564 == (-1)) = false := beq_eq_false_iff_ne.mpr c8
     have c8b1 : (t564 != (-1)) = true := bne_iff_ne.mpr c8
     obtain rfl := Option.some.inj H
     go_enter Try.func10, Try.ntmps10
     go_wp2_with (first | ((with_reducible refine gate_callee (f := 27) rfl ?_); refine goesL_ (some 15) rfl rfl Try.func27 (by kernel_rfl) rfl #[.slice A0 l0.length c0] rfl zA ?_; (with_reducible refine (spec_DrawBeforeCount.calls k _ _ l0 t557 t558 t559 _ ?side1 ?side2 A3.out).mono ?_); (case side1 => exact zC HR0.out); (case side2 => exact HC0.out); rintro e w16 ⟨v560, v562, rfl, ho0, ho1, hb⟩; refine ⟨_, rfl, ?_⟩; have n0_ := Aside0.mk (Kd.R_lower ho0 (below_size (zB HB.out))); have n1_ := Aside0.mk (Kd.R_lower ho1 (below_size (zB HB.out))); have n2_ := Aside0.mk (below_step (zB HB.out) hb); clear HB; have HO561 := n0_; have HO563 := n1_; have HB := n2_; clear n0_ n1_ n2_; (try clear hb); (try clear hb2); (try clear hk); (try clear hi); (try clear ho0); (try clear ho1); obtain ⟨Ao17, co17, eo17⟩ := Kd.R_slice HO561.out; subst eo17; obtain ⟨Ao18, co18, eo18⟩ := Kd.R_slice HO563.out; subst eo18) | ((with_reducible refine gate_callee (f := 17) rfl ?_); refine goesL_ (some 22) rfl rfl Try.func17 (by kernel_rfl) rfl #[.slice Ao17 t557.length co17, .int .i64 t558, .slice Ao18 t559.length co18] rfl zA ?_; (with_reducible refine (impl_BeforeCount.calls k _ _ t557 t558 _ _ t559 t564 _ ?side1 ?side2 ?side3 ?side4 A4.out).mono ?_); (case side1 => exact zC (Kd.R_reads' HO561.out).2.2); (case side2 => exact (Kd.R_reads' HO561.out).2.1); (case side3 => exact zC (Kd.R_reads' HO563.out).2.2); (case side4 => exact (Kd.R_reads' HO563.out).2.1); rintro e w19 ⟨rfl, hb⟩; refine ⟨_, rfl, ?_⟩; have n0_ := Aside0.mk (Kd.R_below (zR HO561.out) hb); have n1_ := Aside0.mk (Kd.R_below (zR HO563.out) hb); have n2_ := Aside0.mk (below_step (zB HB.out) hb); clear HO561; clear HO563; clear HB; have HO561 := n0_; have HO563 := n1_; have HB := n2_; clear n0_ n1_ n2_; (try clear hb); (try clear hb2); (try clear hk); (try clear hi)) | ((with_reducible refine gate_callee (f := 15) rfl ?_); refine goesL_ (some 27) rfl rfl Try.func15 (by kernel_rfl) rfl #[.slice Ao17 t557.length co17, .int .i64 t558, .slice Ao18 t559.length co18] rfl zA ?_; (with_reducible refine (spec_BeforeCount.calls k _ _ t557 t558 _ _ t559 t565 _ ?side1 ?side2 ?side3 ?side4 A5.out).mono ?_); (case side1 => exact zC (Kd.R_reads' HO561.out).2.2); (case side2 => exact (Kd.R_reads' HO561.out).2.1); (case side3 => exact zC (Kd.R_reads' HO563.out).2.2); (case side4 => exact (Kd.R_reads' HO563.out).2.1); rintro e w20 ⟨rfl, hb⟩; refine ⟨_, rfl, ?_⟩; have n0_ := Aside0.mk (Kd.R_below (zR HO561.out) hb); have n1_ := Aside0.mk (Kd.R_below (zR HO563.out) hb); have n2_ := Aside0.mk (below_step (zB HB.out) hb); clear HO561; clear HO563; clear HB; have HO561 := n0_; have HO563 := n1_; have HB := n2_; clear n0_ n1_ n2_; (try clear hb); (try clear hb2); (try clear hk); (try clear hi)))
     go_ret
     exact ⟨by first | rfl | (simp [errW_none, errW_some] <;> rfl) | (simp [*, errW_none, errW_some] <;> rfl), zB HB.out⟩
   ·rw [if_neg c7] at H
    have c7b0 : decide (t564 < 0) = false := decide_eq_false c7
    clear c7
    replace H := Option.bind_eq_some_iff.mp H
    obtain ⟨t567, A210, H⟩ := H
    replace H : ((impl_FireStep.f k t557 t558 t559).bind fun t568 => ((impl_BeforeCount.f k t557 t558 t568).bind fun t571 => (if t571 < 1 then (laws_FnBeforeCount.j0 k t557 t558 t564 t567 true) else (if 0 ≤ (t557.length : Int) then (if ((t557.length : Int) : Int).toNat ≤ 35184372088832 then ((impl_BeforeCount.f k t557 t558 (List.replicate ((t557.length : Int) : Int).toNat 0)).bind fun t575 => (laws_FnBeforeCount.j0 k t557 t558 t564 t567 (decide (t575 < 1)))) else (none)) else (none))))) = some r := H
    have A21 := Aside0.mk A210
    clear A210
    have HC22 := Aside0.mk H
    clear H
    go_enter Try.func10, Try.ntmps10
    go_upto_region 10 with (first | ((with_reducible refine gate_callee (f := 27) rfl ?_); refine goesL_ (some 15) rfl rfl Try.func27 (by kernel_rfl) rfl #[.slice A0 l0.length c0] rfl zA ?_; (with_reducible refine (spec_DrawBeforeCount.calls k _ _ l0 t557 t558 t559 _ ?side1 ?side2 A3.out).mono ?_); (case side1 => exact zC HR0.out); (case side2 => exact HC0.out); rintro e w23 ⟨v560, v562, rfl, ho0, ho1, hb⟩; refine ⟨_, rfl, ?_⟩; have n0_ := Aside0.mk (Kd.R_lower ho0 (below_size (zB HB.out))); have n1_ := Aside0.mk (Kd.R_lower ho1 (below_size (zB HB.out))); have n2_ := Aside0.mk (below_step (zB HB.out) hb); clear HB; have HO561 := n0_; have HO563 := n1_; have HB := n2_; clear n0_ n1_ n2_; (try clear hb); (try clear hb2); (try clear hk); (try clear hi); (try clear ho0); (try clear ho1); obtain ⟨Ao24, co24, eo24⟩ := Kd.R_slice HO561.out; subst eo24; obtain ⟨Ao25, co25, eo25⟩ := Kd.R_slice HO563.out; subst eo25) | ((with_reducible refine gate_callee (f := 17) rfl ?_); refine goesL_ (some 22) rfl rfl Try.func17 (by kernel_rfl) rfl #[.slice Ao24 t557.length co24, .int .i64 t558, .slice Ao25 t559.length co25] rfl zA ?_; (with_reducible refine (impl_BeforeCount.calls k _ _ t557 t558 _ _ t559 t564 _ ?side1 ?side2 ?side3 ?side4 A4.out).mono ?_); (case side1 => exact zC (Kd.R_reads' HO561.out).2.2); (case side2 => exact (Kd.R_reads' HO561.out).2.1); (case side3 => exact zC (Kd.R_reads' HO563.out).2.2); (case side4 => exact (Kd.R_reads' HO563.out).2.1); rintro e w26 ⟨rfl, hb⟩; refine ⟨_, rfl, ?_⟩; have n0_ := Aside0.mk (Kd.R_below (zR HO561.out) hb); have n1_ := Aside0.mk (Kd.R_below (zR HO563.out) hb); have n2_ := Aside0.mk (below_step (zB HB.out) hb); clear HO561; clear HO563; clear HB; have HO561 := n0_; have HO563 := n1_; have HB := n2_; clear n0_ n1_ n2_; (try clear hb); (try clear hb2); (try clear hk); (try clear hi)) | ((with_reducible refine gate_callee (f := 15) rfl ?_); refine goesL_ (some 27) rfl rfl Try.func15 (by kernel_rfl) rfl #[.slice Ao24 t557.length co24, .int .i64 t558, .slice Ao25 t559.length co25] rfl zA ?_; (with_reducible refine (spec_BeforeCount.calls k _ _ t557 t558 _ _ t559 t565 _ ?side1 ?side2 ?side3 ?side4 A5.out).mono ?_); (case side1 => exact zC (Kd.R_reads' HO561.out).2.2); (case side2 => exact (Kd.R_reads' HO561.out).2.1); (case side3 => exact zC (Kd.R_reads' HO563.out).2.2); (case side4 => exact (Kd.R_reads' HO563.out).2.1); rintro e w27 ⟨rfl, hb⟩; refine ⟨_, rfl, ?_⟩; have n0_ := Aside0.mk (Kd.R_below (zR HO561.out) hb); have n1_ := Aside0.mk (Kd.R_below (zR HO563.out) hb); have n2_ := Aside0.mk (below_step (zB HB.out) hb); clear HO561; clear HO563; clear HB; have HO561 := n0_; have HO563 := n1_; have HB := n2_; clear n0_ n1_ n2_; (try clear hb); (try clear hb2); (try clear hk); (try clear hi)) | ((with_reducible refine gate_callee (f := 30) rfl ?_); refine goesL_ (some 39) rfl rfl Try.func30 (by kernel_rfl) rfl #[.int .i64 t558, .int .i64 (t557.length : Int)] rfl zA ?_; (with_reducible refine (laws_powerOf.calls k t558 (t557.length : Int) t567 _ A21.out).mono ?_); rintro e w' ⟨rfl, ⟨nd, rfl⟩⟩; refine ⟨_, rfl, ?_⟩))
    (try simp only [Act.put, List.setIfInBounds_toArray, List.set_cons_zero, List.set_cons_succ])
    go_cut [56] (fun v56 wc => ∃ (kq : Nat) (x56_21 : Bool), v56 = .bool x56_21 ∧ Aside0 (laws_FnBeforeCount.j0 kq t557 t558 t564 t567 x56_21 = some r) ∧ Aside0 (kq ≤ k) ∧ Aside0 (Kd.R (Kd.int .i64) 3 wc w.heap.size (fun _ => True) (.slice Ao24 t557.length co24) t557) ∧ Aside0 (Below w.heap.size w wc))
    case first =>
     have H := HC22.out
     clear HC22
     replace H := Option.bind_eq_some_iff.mp H
     obtain ⟨t568, A280, H⟩ := H
     replace H : ((impl_BeforeCount.f k t557 t558 t568).bind fun t571 => (if t571 < 1 then (laws_FnBeforeCount.j0 k t557 t558 t564 t567 true) else (if 0 ≤ (t557.length : Int) then (if ((t557.length : Int) : Int).toNat ≤ 35184372088832 then ((impl_BeforeCount.f k t557 t558 (List.replicate ((t557.length : Int) : Int).toNat 0)).bind fun t575 => (laws_FnBeforeCount.j0 k t557 t558 t564 t567 (decide (t575 < 1)))) else (none)) else (none)))) = some r := H
     have A28 := Aside0.mk A280
     clear A280
     replace H := Option.bind_eq_some_iff.mp H
     obtain ⟨t571, A290, H⟩ := H
     replace H : (if t571 < 1 then (laws_FnBeforeCount.j0 k t557 t558 t564 t567 true) else (if 0 ≤ (t557.length : Int) then (if ((t557.length : Int) : Int).toNat ≤ 35184372088832 then ((impl_BeforeCount.f k t557 t558 (List.replicate ((t557.length : Int) : Int).toNat 0)).bind fun t575 => (laws_FnBeforeCount.j0 k t557 t558 t564 t567 (decide (t575 < 1)))) else (none)) else (none))) = some r := H
     have A29 := Aside0.mk A290
     clear A290
     by_cases c30 : t571 < 1
     ·rw [if_pos c30] at H
      have c30b0 : decide (t571 < 1) = true := decide_eq_true c30
      clear c30
      (first | rw [c30b0] | (simp only [i64_w, i32_w]; rw [c30b0]) | skip)
      have H' := Aside0.mk H
      clear H
      go_wp2_with (first | ((with_reducible refine gate_callee (f := 32) rfl ?_); refine goesL_ (some 45) rfl rfl Try.func32 (by kernel_rfl) rfl #[.slice Ao24 t557.length co24, .int .i64 t558, .slice Ao25 t559.length co25] rfl zA ?_; (with_reducible refine (impl_FireStep.calls k _ _ t557 t558 _ _ t559 t568 _ ?side1 ?side2 ?side3 ?side4 A28.out).mono ?_); (case side1 => exact zC (Kd.R_reads' HO561.out).2.2); (case side2 => exact (Kd.R_reads' HO561.out).2.1); (case side3 => exact zC (Kd.R_reads' HO563.out).2.2); (case side4 => exact (Kd.R_reads' HO563.out).2.1); rintro e w31 ⟨v569, rfl, ho0, hb⟩; refine ⟨_, rfl, ?_⟩; have n0_ := Aside0.mk (Kd.R_elder' (zR HO561.out) (Kd.R_base ho0) hb); have n1_ := Aside0.mk (Kd.R_elder' (zR HO563.out) (Kd.R_base ho0) hb); have n2_ := Aside0.mk (Kd.R_lower (Kd.R_new' (Kd.R_new' ho0 (Kd.R_lt (zR HO561.out))) (Kd.R_lt (zR HO563.out))) (below_size (zB HB.out))); have n3_ := Aside0.mk (below_step (zB HB.out) hb); clear HO561; clear HO563; clear HB; have HO561 := n0_; have HO563 := n1_; have HO570 := n2_; have HB := n3_; clear n0_ n1_ n2_ n3_; (try clear hb); (try clear hb2); (try clear hk); (try clear hi); (try clear ho0); obtain ⟨Ao32, co32, eo32⟩ := Kd.R_slice HO570.out; subst eo32) | ((with_reducible refine gate_callee (f := 17) rfl ?_); refine goesL_ (some 46) rfl rfl Try.func17 (by kernel_rfl) rfl #[.slice Ao24 t557.length co24, .int .i64 t558, .slice Ao32 t568.length co32] rfl zA ?_; (with_reducible refine (impl_BeforeCount.calls k _ _ t557 t558 _ _ t568 t571 _ ?side1 ?side2 ?side3 ?side4 A29.out).mono ?_); (case side1 => exact zC (Kd.R_reads' HO561.out).2.2); (case side2 => exact (Kd.R_reads' HO561.out).2.1); (case side3 => exact zC (Kd.R_reads' HO570.out).2.2); (case side4 => exact (Kd.R_reads' HO570.out).2.1); rintro e w33 ⟨rfl, hb⟩; refine ⟨_, rfl, ?_⟩; have n0_ := Aside0.mk (Kd.R_below (zR HO561.out) hb); have n1_ := Aside0.mk (Kd.R_below (zR HO563.out) hb); have n2_ := Aside0.mk (Kd.R_below (zR HO570.out) hb); have n3_ := Aside0.mk (below_step (zB HB.out) hb); clear HO561; clear HO563; clear HO570; clear HB; have HO561 := n0_; have HO563 := n1_; have HO570 := n2_; have HB := n3_; clear n0_ n1_ n2_ n3_; (try clear hb); (try clear hb2); (try clear hk); (try clear hi)))
      go_meet
      case rel => exact ⟨_, (true), (by first | rfl | (simp; done) | (simp [*]; done)), H', ⟨by first | omega | exact Nat.le_refl _⟩, ⟨by (with_reducible repeat (first | apply Kd.R_alloc | apply Kd.R_drewN | apply Kd.R_drew)); exact Kd.R_mono HO561.out (fun _ hk => trivial)⟩, ⟨zB HB.out⟩⟩
     ·rw [if_neg c30] at H
      have c30b0 : decide (t571 < 1) = false := decide_eq_false c30
      clear c30
      (first | rw [c30b0] | (simp only [i64_w, i32_w]; rw [c30b0]) | skip)
      by_cases c34 : 0 ≤ (t557.length : Int)
      ·rw [if_pos c34] at H
       have c34b0 := eq_true c34
       have c34b1 : decide (0 ≤ (t557.length : Int)) = true := decide_eq_true c34
       clear c34
       by_cases c35 : ((t557.length : Int) : Int).toNat ≤ 35184372088832
       ·rw [if_pos c35] at H
        have c35b0 := eq_true c35
        have c35b1 : decide (((t557.length : Int) : Int).toNat ≤ 35184372088832) = true := decide_eq_true c35
        clear c35
        obtain ⟨y572, hy572⟩ : ∃ y_ : List Int, y_ = (List.replicate ((t557.length : Int) : Int).toNat 0) := ⟨_, rfl⟩
        replace H : ((impl_BeforeCount.f k t557 t558 y572).bind fun t575 => (laws_FnBeforeCount.j0 k t557 t558 t564 t567 (decide (t575 < 1)))) = some r := by first | (rw [hy572]; with_reducible exact H) | (have H2_ := (Option.bind_some _ _).symm.trans H; rw [hy572]; with_reducible exact H2_) | (have H2_ := (Option.bind_some _ _).symm.trans H; with_reducible exact H2_) | with_reducible exact H | (rw [hy572]; exact H) | exact H
        have Ny572 := Aside0.mk hy572
        clear hy572
        replace H := Option.bind_eq_some_iff.mp H
        obtain ⟨t575, A360, H⟩ := H
        replace H : (laws_FnBeforeCount.j0 k t557 t558 t564 t567 (decide (t575 < 1))) = some r := H
        have A36 := Aside0.mk A360
        clear A360
        have H' := Aside0.mk H
        clear H
        go_wp2_with (first | ((with_reducible refine gate_callee (f := 32) rfl ?_); refine goesL_ (some 45) rfl rfl Try.func32 (by kernel_rfl) rfl #[.slice Ao24 t557.length co24, .int .i64 t558, .slice Ao25 t559.length co25] rfl zA ?_; (with_reducible refine (impl_FireStep.calls k _ _ t557 t558 _ _ t559 t568 _ ?side1 ?side2 ?side3 ?side4 A28.out).mono ?_); (case side1 => exact zC (Kd.R_reads' HO561.out).2.2); (case side2 => exact (Kd.R_reads' HO561.out).2.1); (case side3 => exact zC (Kd.R_reads' HO563.out).2.2); (case side4 => exact (Kd.R_reads' HO563.out).2.1); rintro e w37 ⟨v569, rfl, ho0, hb⟩; refine ⟨_, rfl, ?_⟩; have n0_ := Aside0.mk (Kd.R_elder' (zR HO561.out) (Kd.R_base ho0) hb); have n1_ := Aside0.mk (Kd.R_elder' (zR HO563.out) (Kd.R_base ho0) hb); have n2_ := Aside0.mk (Kd.R_lower (Kd.R_new' (Kd.R_new' ho0 (Kd.R_lt (zR HO561.out))) (Kd.R_lt (zR HO563.out))) (below_size (zB HB.out))); have n3_ := Aside0.mk (below_step (zB HB.out) hb); clear HO561; clear HO563; clear HB; have HO561 := n0_; have HO563 := n1_; have HO570 := n2_; have HB := n3_; clear n0_ n1_ n2_ n3_; (try clear hb); (try clear hb2); (try clear hk); (try clear hi); (try clear ho0); obtain ⟨Ao38, co38, eo38⟩ := Kd.R_slice HO570.out; subst eo38) | ((with_reducible refine gate_callee (f := 17) rfl ?_); refine goesL_ (some 46) rfl rfl Try.func17 (by kernel_rfl) rfl #[.slice Ao24 t557.length co24, .int .i64 t558, .slice Ao38 t568.length co38] rfl zA ?_; (with_reducible refine (impl_BeforeCount.calls k _ _ t557 t558 _ _ t568 t571 _ ?side1 ?side2 ?side3 ?side4 A29.out).mono ?_); (case side1 => exact zC (Kd.R_reads' HO561.out).2.2); (case side2 => exact (Kd.R_reads' HO561.out).2.1); (case side3 => exact zC (Kd.R_reads' HO570.out).2.2); (case side4 => exact (Kd.R_reads' HO570.out).2.1); rintro e w39 ⟨rfl, hb⟩; refine ⟨_, rfl, ?_⟩; have n0_ := Aside0.mk (Kd.R_below (zR HO561.out) hb); have n1_ := Aside0.mk (Kd.R_below (zR HO563.out) hb); have n2_ := Aside0.mk (Kd.R_below (zR HO570.out) hb); have n3_ := Aside0.mk (below_step (zB HB.out) hb); clear HO561; clear HO563; clear HO570; clear HB; have HO561 := n0_; have HO563 := n1_; have HO570 := n2_; have HB := n3_; clear n0_ n1_ n2_ n3_; (try clear hb); (try clear hb2); (try clear hk); (try clear hi)) | ((with_reducible refine gate_dst (N := 53) rfl ?_); (try (refine gate_guard (by rfl) ?_; dsimp only)); refine Kd.R_make (Kd.int .i64) _ 3 rfl (N := 53) rfl 22 _ _ rfl (t557.length : Int) rfl rfl Try.underlying22 (.int .i64 0) 8 info3 rfl (by decide) (by omega) 0 (ok := fun _ => True) (okp := fun _ => True) rfl (fun _ hk => hk) trivial (zD) (Nat.le_trans (Nat.mul_le_mul_right _ (zD : (t557.length : Int).toNat ≤ 35184372088832)) (by omega)) (Below.refl _ _) (Nat.le_refl _) ?_; intro v573 w40 ho41 hb hg_ hnew_; clear hg_ hnew_; (first | rw [← Ny572.out] at ho41 | (simp only [Int.reduceToNat] at ho41; rw [← Ny572.out] at ho41)); have n0_ := Aside0.mk (Kd.R_elder' (zR HO561.out) (Kd.R_base ho41) hb); have n1_ := Aside0.mk (Kd.R_elder' (zR HO563.out) (Kd.R_base ho41) hb); have n2_ := Aside0.mk (Kd.R_elder' (zR HO570.out) (Kd.R_base ho41) hb); have n3_ := Aside0.mk (Kd.R_lower (Kd.R_new' (Kd.R_new' (Kd.R_new' ho41 (Kd.R_lt (zR HO561.out))) (Kd.R_lt (zR HO563.out))) (Kd.R_lt (zR HO570.out))) (below_size (zB HB.out))); have n4_ := Aside0.mk (below_step (zB HB.out) hb); clear HO561; clear HO563; clear HO570; clear HB; have HO561 := n0_; have HO563 := n1_; have HO570 := n2_; have HO574 := n3_; have HB := n4_; clear n0_ n1_ n2_ n3_ n4_; clear hb ho41; obtain ⟨Ao42, co42, eo42⟩ := Kd.R_slice HO574.out; subst eo42) | (go_at_call 17; (with_reducible refine (impl_BeforeCount.calls k _ _ t557 t558 _ _ y572 t575 _ ?side1 ?side2 ?side3 ?side4 A36.out).mono ?_); (case side1 => exact zC (Kd.R_reads' HO561.out).2.2); (case side2 => exact (Kd.R_reads' HO561.out).2.1); (case side3 => exact zC (Kd.R_reads' HO574.out).2.2); (case side4 => exact (Kd.R_reads' HO574.out).2.1); rintro e w43 ⟨rfl, hb⟩; have n0_ := Aside0.mk (Kd.R_below (zR HO561.out) hb); have n1_ := Aside0.mk (Kd.R_below (zR HO563.out) hb); have n2_ := Aside0.mk (Kd.R_below (zR HO570.out) hb); have n3_ := Aside0.mk (Kd.R_below (zR HO574.out) hb); have n4_ := Aside0.mk (below_step (zB HB.out) hb); clear HO561; clear HO563; clear HO570; clear HO574; clear HB; have HO561 := n0_; have HO563 := n1_; have HO570 := n2_; have HO574 := n3_; have HB := n4_; clear n0_ n1_ n2_ n3_ n4_; (try clear hb); (try clear hb2); (try clear hk); (try clear hi)))
        go_meet
        case rel => exact ⟨_, (decide (t575 < 1)), (by first | rfl | (simp; done) | (simp [*]; done)), H', ⟨by first | omega | exact Nat.le_refl _⟩, ⟨by (with_reducible repeat (first | apply Kd.R_alloc | apply Kd.R_drewN | apply Kd.R_drew)); exact Kd.R_mono HO561.out (fun _ hk => trivial)⟩, ⟨zB HB.out⟩⟩
       ·rw [if_neg c35] at H
        exact absurd H (by simp)
      ·rw [if_neg c34] at H
       exact absurd H (by simp)
    case rest =>
     clear HC22
     try clear c1
     try clear c2
     try clear c2b0
     try clear c2b1
     try clear p2
     try clear c3
     try clear c6
     try clear c6b0
     try clear c6b1
     try clear c7
     try clear c7b0
     try clear c8
     try clear c8b0
     try clear c8b1
     try clear c10
     try clear c15
     try clear c17
     try clear c27
     try clear c30
     try clear c30b0
     try clear c32
     try clear c34
     try clear c34b0
     try clear c34b1
     try clear c35
     try clear c35b0
     try clear c35b1
     obtain ⟨kq, x56_21, rfl, HA, HJ21, HO_3, HB⟩ := hcut
     cases kq with
     | zero => exact absurd HA.out (by simp [laws_FnBeforeCount.j0])
     | succ kj21 =>
      have H := HA.out
      clear HA
      simp only [laws_FnBeforeCount.j0] at H
      by_cases c44 : x56_21 = true
      ·subst c44
       have H1 : (some false) = some r := by rw [if_pos rfl] at H; exact H
       clear H
       have H := H1
       clear H1
       obtain rfl := Option.some.inj H
       go_wp2
       go_ret
       exact ⟨by first | rfl | (simp [errW_none, errW_some] <;> rfl) | (simp [*, errW_none, errW_some] <;> rfl), zB HB.out⟩
      ·replace c44 := Bool.eq_false_iff.mpr c44
       subst c44
       have H1 : (laws_FnBeforeCount.l0 kj21 t557 t558 t564 t567 0 0) = some r := by rw [if_neg (show ¬ (false = true) by decide)] at H; exact H
       clear H
       have H := H1
       clear H1
       have H' := Aside0.mk H
       clear H
       go_wp2
       go_loopg [8, 9] kj21 (fun kq v8 v9 w' => ∃ (x8_2 : Int) (x9_2 : Int), v8 = .int .i64 x8_2 ∧ v9 = .int .i64 x9_2 ∧ Aside0 (laws_FnBeforeCount.l0 kq t557 t558 t564 t567 x8_2 x9_2 = some r) ∧ Aside0 (kq ≤ kj21) ∧ Aside0 (Kd.R (Kd.int .i64) 3 w' w.heap.size (fun _ => True) (.slice Ao24 t557.length co24) t557) ∧ Aside0 (Below w.heap.size w w'))
       case atStart => exact ⟨(0), (0), (by first | rfl | (simp; done) | (simp [*]; done)), (by first | rfl | (simp; done) | (simp [*]; done)), H', ⟨Nat.le_refl _⟩, ⟨by (with_reducible repeat (first | apply Kd.R_alloc | apply Kd.R_drewN | apply Kd.R_drew)); exact HO_3.out⟩, ⟨zB HB.out⟩⟩
       case round =>
        clear H'
        try clear c1
        try clear c2
        try clear c2b0
        try clear c2b1
        try clear p2
        try clear c3
        try clear c4
        try clear c6
        try clear c6b0
        try clear c6b1
        try clear c7
        try clear c7b0
        try clear c8
        try clear c8b0
        try clear c8b1
        try clear c10
        try clear c15
        try clear c17
        try clear c27
        try clear c30
        try clear c30b0
        try clear c32
        try clear c34
        try clear c34b0
        try clear c34b1
        try clear c35
        try clear c35b0
        try clear c35b1
        try clear c44
        try clear p2
        obtain ⟨x8_2, x9_2, rfl, rfl, HA, HK2, HO_3, HB⟩ := hrel
        cases gk with
        | zero => exact absurd HA.out (by simp [laws_FnBeforeCount.l0])
        | succ k2 =>
         have H := HA.out
         clear HA
         simp only [laws_FnBeforeCount.l0] at H
         have HC45 := Aside0.mk H
         clear H
         go_upto_region 14 with (fail)
         go_cut [63] (fun v63 wc => ∃ (kq : Nat) (x63_44 : Bool), v63 = .bool x63_44 ∧ Aside0 (laws_FnBeforeCount.j2 kq t557 t558 t564 t567 x8_2 x9_2 x63_44 = some r) ∧ Aside0 (kq ≤ k2) ∧ Aside0 (Kd.R (Kd.int .i64) 3 wc w.heap.size (fun _ => True) (.slice Ao24 t557.length co24) t557) ∧ Aside0 (Below w.heap.size w wc))
         case first =>
          have H := HC45.out
          clear HC45
          by_cases c46 : x9_2 < t567
          ·rw [if_pos c46] at H
           have c46b0 : decide (x9_2 < t567) = true := decide_eq_true c46
           clear c46
           (first | rw [c46b0] | (simp only [i64_w, i32_w]; rw [c46b0]) | skip)
           have H' := Aside0.mk H
           clear H
           go_wp2
           go_meet
           case rel => exact ⟨_, (decide (t567 ≤ 81)), (by first | rfl | (simp; done) | (simp [*]; done)), H', ⟨by have := HJ21.out; have := HK2.out; first | omega | exact Nat.le_refl _⟩, ⟨by (with_reducible repeat (first | apply Kd.R_alloc | apply Kd.R_drewN | apply Kd.R_drew)); exact HO_3.out⟩, ⟨zB HB.out⟩⟩
          ·rw [if_neg c46] at H
           have c46b0 : decide (x9_2 < t567) = false := decide_eq_false c46
           clear c46
           (first | rw [c46b0] | (simp only [i64_w, i32_w]; rw [c46b0]) | skip)
           have H' := Aside0.mk H
           clear H
           go_wp2
           go_meet
           case rel => exact ⟨_, (false), (by first | rfl | (simp; done) | (simp [*]; done)), H', ⟨by have := HJ21.out; have := HK2.out; first | omega | exact Nat.le_refl _⟩, ⟨by (with_reducible repeat (first | apply Kd.R_alloc | apply Kd.R_drewN | apply Kd.R_drew)); exact HO_3.out⟩, ⟨zB HB.out⟩⟩
         case rest =>
          clear HC45
          try clear c1
          try clear c2
          try clear c2b0
          try clear c2b1
          try clear p2
          try clear c3
          try clear c4
          try clear c6
          try clear c6b0
          try clear c6b1
          try clear c7
          try clear c7b0
          try clear c8
          try clear c8b0
          try clear c8b1
          try clear c10
          try clear c15
          try clear c17
          try clear c27
          try clear c30
          try clear c30b0
          try clear c32
          try clear c34
          try clear c34b0
          try clear c34b1
          try clear c35
          try clear c35b0
          try clear c35b1
          try clear c44
          try clear c46
          try clear c46b0
          try clear p2
          obtain ⟨kq, x63_44, rfl, HA, HJ44, HO_3, HB⟩ := hcut
          cases kq with
          | zero => exact absurd HA.out (by simp [laws_FnBeforeCount.j2])
          | succ kj44 =>
           have H := HA.out
           clear HA
           simp only [laws_FnBeforeCount.j2] at H
           by_cases c47 : x63_44 = true
           ·subst c47
            have H1 : ((impl_StateOf.f kj44 (t557.length : Int) t558 x9_2).bind fun t576 => ((impl_BeforeCount.f kj44 t557 t558 t576).bind fun t579 => (laws_FnBeforeCount.l0 kj44 t557 t558 t564 t567 (wrap64 (x8_2 + t579)) (wrap64 (x9_2 + 1))))) = some r := by rw [if_pos rfl] at H; exact H
            clear H
            have H := H1
            clear H1
            replace H := Option.bind_eq_some_iff.mp H
            obtain ⟨t576, A480, H⟩ := H
            replace H : ((impl_BeforeCount.f kj44 t557 t558 t576).bind fun t579 => (laws_FnBeforeCount.l0 kj44 t557 t558 t564 t567 (wrap64 (x8_2 + t579)) (wrap64 (x9_2 + 1)))) = some r := H
            have A48 := Aside0.mk A480
            clear A480
            replace H := Option.bind_eq_some_iff.mp H
            obtain ⟨t579, A490, H⟩ := H
            replace H : (laws_FnBeforeCount.l0 kj44 t557 t558 t564 t567 (wrap64 (x8_2 + t579)) (wrap64 (x9_2 + 1))) = some r := H
            have A49 := Aside0.mk A490
            clear A490
            have H' := Aside0.mk H
            clear H
            go_wp2_with (first | ((with_reducible refine gate_callee (f := 31) rfl ?_); refine goesL_ (some 73) rfl rfl Try.func31 (by kernel_rfl) rfl #[.int .i64 (t557.length : Int), .int .i64 t558, .int .i64 x9_2] rfl zA ?_; (with_reducible refine (impl_StateOf.calls kj44 (t557.length : Int) t558 x9_2 t576 _ A48.out).mono ?_); rintro e w50 ⟨v577, rfl, ho0, hb⟩; refine ⟨_, rfl, ?_⟩; have n0_ := Aside0.mk (Kd.R_elder' (zR HO_3.out) (Kd.R_base ho0) hb); have n1_ := Aside0.mk (Kd.R_lower (Kd.R_new' ho0 (Kd.R_lt (zR HO_3.out))) (below_size (zB HB.out))); have n2_ := Aside0.mk (below_step (zB HB.out) hb); clear HO_3; clear HB; have HO_3 := n0_; have HO578 := n1_; have HB := n2_; clear n0_ n1_ n2_; (try clear hb); (try clear hb2); (try clear hk); (try clear hi); (try clear ho0); obtain ⟨Ao51, co51, eo51⟩ := Kd.R_slice HO578.out; subst eo51) | ((with_reducible refine gate_callee (f := 17) rfl ?_); refine goesL_ (some 74) rfl rfl Try.func17 (by kernel_rfl) rfl #[.slice Ao24 t557.length co24, .int .i64 t558, .slice Ao51 t576.length co51] rfl zA ?_; (with_reducible refine (impl_BeforeCount.calls kj44 _ _ t557 t558 _ _ t576 t579 _ ?side1 ?side2 ?side3 ?side4 A49.out).mono ?_); (case side1 => exact zC (Kd.R_reads' HO_3.out).2.2); (case side2 => exact (Kd.R_reads' HO_3.out).2.1); (case side3 => exact zC (Kd.R_reads' HO578.out).2.2); (case side4 => exact (Kd.R_reads' HO578.out).2.1); rintro e w52 ⟨rfl, hb⟩; refine ⟨_, rfl, ?_⟩; have n0_ := Aside0.mk (Kd.R_below (zR HO_3.out) hb); have n1_ := Aside0.mk (Kd.R_below (zR HO578.out) hb); have n2_ := Aside0.mk (below_step (zB HB.out) hb); clear HO_3; clear HO578; clear HB; have HO_3 := n0_; have HO578 := n1_; have HB := n2_; clear n0_ n1_ n2_; (try clear hb); (try clear hb2); (try clear hk); (try clear hi)))
            go_roundg kj44
            case measure => have := HJ21.out; have := HK2.out; have := HJ44.out; omega
            case rel => exact ⟨(wrap64 (x8_2 + t579)), (wrap64 (x9_2 + 1)), (by first | rfl | (simp; done) | (simp [*]; done)), (by first | rfl | (simp; done) | (simp [*]; done)), H', ⟨by have := HJ21.out; have := HK2.out; have := HJ44.out; omega⟩, ⟨by (with_reducible repeat (first | apply Kd.R_alloc | apply Kd.R_drewN | apply Kd.R_drew)); exact Kd.R_mono HO_3.out (fun _ hk => trivial)⟩, ⟨zB HB.out⟩⟩
           ·replace c47 := Bool.eq_false_iff.mpr c47
            subst c47
            have H1 : (if t564 ≤ t567 then (if t567 > 81 then (some true) else (some (x8_2 == t567))) else (some false)) = some r := by rw [if_neg (show ¬ (false = true) by decide)] at H; exact H
            clear H
            have H := H1
            clear H1
            by_cases c53 : t564 ≤ t567
            ·rw [if_pos c53] at H
             have c53b0 : decide (t564 ≤ t567) = true := decide_eq_true c53
             clear c53
             by_cases c54 : t567 > 81
             ·rw [if_pos c54] at H
              have c54b0 : decide (81 < t567) = true := decide_eq_true c54
              clear c54
              obtain rfl := Option.some.inj H
              go_wp2
              go_ret
              exact ⟨by first | rfl | (simp [errW_none, errW_some] <;> rfl) | (simp [*, errW_none, errW_some] <;> rfl), zB HB.out⟩
             ·rw [if_neg c54] at H
              have c54b0 : decide (81 < t567) = false := decide_eq_false c54
              clear c54
              obtain rfl := Option.some.inj H
              go_wp2
              go_ret
              exact ⟨by first | rfl | (simp [errW_none, errW_some] <;> rfl) | (simp [*, errW_none, errW_some] <;> rfl), zB HB.out⟩
            ·rw [if_neg c53] at H
             have c53b0 : decide (t564 ≤ t567) = false := decide_eq_false c53
             clear c53
             obtain rfl := Option.some.inj H
             go_wp2
             go_ret
             exact ⟨by first | rfl | (simp [errW_none, errW_some] <;> rfl) | (simp [*, errW_none, errW_some] <;> rfl), zB HB.out⟩
  ·rw [if_neg c6] at H
   have c6b0 : (t564 == t565) = false := beq_eq_false_iff_ne.mpr c6
   have c6b1 : (t564 != t565) = true := bne_iff_ne.mpr c6
   obtain rfl := Option.some.inj H
   go_enter Try.func10, Try.ntmps10
   go_wp2_with (first | ((with_reducible refine gate_callee (f := 27) rfl ?_); refine goesL_ (some 15) rfl rfl Try.func27 (by kernel_rfl) rfl #[.slice A0 l0.length c0] rfl zA ?_; (with_reducible refine (spec_DrawBeforeCount.calls k _ _ l0 t557 t558 t559 _ ?side1 ?side2 A3.out).mono ?_); (case side1 => exact zC HR0.out); (case side2 => exact HC0.out); rintro e w55 ⟨v560, v562, rfl, ho0, ho1, hb⟩; refine ⟨_, rfl, ?_⟩; have n0_ := Aside0.mk (Kd.R_lower ho0 (below_size (zB HB.out))); have n1_ := Aside0.mk (Kd.R_lower ho1 (below_size (zB HB.out))); have n2_ := Aside0.mk (below_step (zB HB.out) hb); clear HB; have HO561 := n0_; have HO563 := n1_; have HB := n2_; clear n0_ n1_ n2_; (try clear hb); (try clear hb2); (try clear hk); (try clear hi); (try clear ho0); (try clear ho1); obtain ⟨Ao56, co56, eo56⟩ := Kd.R_slice HO561.out; subst eo56; obtain ⟨Ao57, co57, eo57⟩ := Kd.R_slice HO563.out; subst eo57) | ((with_reducible refine gate_callee (f := 17) rfl ?_); refine goesL_ (some 22) rfl rfl Try.func17 (by kernel_rfl) rfl #[.slice Ao56 t557.length co56, .int .i64 t558, .slice Ao57 t559.length co57] rfl zA ?_; (with_reducible refine (impl_BeforeCount.calls k _ _ t557 t558 _ _ t559 t564 _ ?side1 ?side2 ?side3 ?side4 A4.out).mono ?_); (case side1 => exact zC (Kd.R_reads' HO561.out).2.2); (case side2 => exact (Kd.R_reads' HO561.out).2.1); (case side3 => exact zC (Kd.R_reads' HO563.out).2.2); (case side4 => exact (Kd.R_reads' HO563.out).2.1); rintro e w58 ⟨rfl, hb⟩; refine ⟨_, rfl, ?_⟩; have n0_ := Aside0.mk (Kd.R_below (zR HO561.out) hb); have n1_ := Aside0.mk (Kd.R_below (zR HO563.out) hb); have n2_ := Aside0.mk (below_step (zB HB.out) hb); clear HO561; clear HO563; clear HB; have HO561 := n0_; have HO563 := n1_; have HB := n2_; clear n0_ n1_ n2_; (try clear hb); (try clear hb2); (try clear hk); (try clear hi)) | ((with_reducible refine gate_callee (f := 15) rfl ?_); refine goesL_ (some 27) rfl rfl Try.func15 (by kernel_rfl) rfl #[.slice Ao56 t557.length co56, .int .i64 t558, .slice Ao57 t559.length co57] rfl zA ?_; (with_reducible refine (spec_BeforeCount.calls k _ _ t557 t558 _ _ t559 t565 _ ?side1 ?side2 ?side3 ?side4 A5.out).mono ?_); (case side1 => exact zC (Kd.R_reads' HO561.out).2.2); (case side2 => exact (Kd.R_reads' HO561.out).2.1); (case side3 => exact zC (Kd.R_reads' HO563.out).2.2); (case side4 => exact (Kd.R_reads' HO563.out).2.1); rintro e w59 ⟨rfl, hb⟩; refine ⟨_, rfl, ?_⟩; have n0_ := Aside0.mk (Kd.R_below (zR HO561.out) hb); have n1_ := Aside0.mk (Kd.R_below (zR HO563.out) hb); have n2_ := Aside0.mk (below_step (zB HB.out) hb); clear HO561; clear HO563; clear HB; have HO561 := n0_; have HO563 := n1_; have HB := n2_; clear n0_ n1_ n2_; (try clear hb); (try clear hb2); (try clear hk); (try clear hi)))
   go_ret
   exact ⟨by first | rfl | (simp [errW_none, errW_some] <;> rfl) | (simp [*, errW_none, errW_some] <;> rfl), zB HB.out⟩

/-- THE ONE PURE STATEMENT of laws_FnBeforeCount: yours. -/
def laws_FnBeforeCount.Pure : Prop := ∀ (l0 : List Int), l0.length ≤ maxLen → l0.length * 1 ≤ 140737488351232 → (∀ x ∈ l0, (Lit.int .u8 x).wf = true) → ∃ k, laws_FnBeforeCount.f k l0 = some true
theorem laws_FnBeforeCount.walk (P : laws_FnBeforeCount.Pure) (a0 : Option Addr) (len0 cap0 : Nat) (z0 : List Int) (w : World) (w0 : (a0 = none ∧ len0 = 0 ∧ cap0 = 0 ∧ z0 = []) ∨ ∃ x, a0 = some x ∧ len0 ≤ cap0 ∧ cap0 ≤ maxLen ∧ z0.length = cap0 ∧ (∀ i, i < z0.length → w.cell? (x.add i) = some (.int .u8 (z0.getD i 0))) ∧ ∀ n ∈ z0, (Lit.int .u8 n).wf = true) (y0 : len0 * 1 ≤ 140737488351232) :
  Calls Try.prog 10 #[.slice a0 len0 cap0] w fun e w' => e = .returned (.bool true) ∧ Below w.heap.size w w' := by
 obtain ⟨l0, rfl, hr0, hm0, hw0, hc0⟩ := ReadsInt.ofRowC w0
 obtain ⟨k, h⟩ := P l0 hm0 y0 hw0
 refine (laws_FnBeforeCount.calls k _ _ l0 true w (Kd.C_of_reads (d := (0 : Int)) (h1 := fun _ => rfl) hr0) hc0 h).mono ?_
 rintro e w' ⟨rfl, hd⟩
 exact ⟨rfl, hd⟩

end Go.Proofs.Ytgglagpciojfmaa.PAll
