/- Own text of this session, written by a program of this session (wip/t/own.py) out of what the kit tells of the functions: each Go function as a Lean function, and the walk through its code. -/
import Derived.Test.YtmkakbimlnigbaaDoorT
import Derived.Test.YtmkakbimlnigbaaDoorF1
import Derived.Test.YtmkakbimlnigbaaDoorF15
import Derived.Test.YtmkakbimlnigbaaDoorF18
import Derived.Test.YtmkakbimlnigbaaDoorF21
import Derived.Test.YtmkakbimlnigbaaDoorF9
namespace Go.Proofs.YtmkakbimlnigbaaDoor.PAll
open Go.RowKit Go.Proofs.YtmkakbimlnigbaaDoorW.PrintWords Go.Proofs.YtmkakbimlnigbaaDoorW.PrintLast Go.Proofs.YtmkakbimlnigbaaDoorW.PrintMore
attribute [local go_sem] max2_int min2_int max_two min_two max_three min_three max_four min_four   -- for this text's walks alone
set_option linter.unusedVariables false
set_option linter.unusedSimpArgs false

/-! ### laws_FnReadScript: function 6 -/
def laws_FnReadScript.j0 : Nat → Int → ByteArray → List (S43) → Bool → Bool → Option (Bool)
 | 0, _, _, _, _, _ => none
 | k + 1, x3, x4, x5, x6, x39 => if x39 = true then (some false) else (if x6 = true then (if x4.size + 1 ≤ 9223372036854775807 then ((impl_ReadScript.f k x3 (x4 ++ (⟨#[44]⟩ : ByteArray))).bind fun bt404 => ((impl_ScriptText.f k x3 x5).bind fun t408 => (if t408.toList = x4.toList then ((impl_ScriptOk.f k x3 x5).bind fun t409 => (if t409 = true then (some (!bt404.2)) else (some false))) else (some false)))) else (none)) else (if (x5.length : Int) = 0 then ((laws_alive.f k).bind fun t410 => (some t410)) else (some false)))
def laws_FnReadScript.f (k : Nat) (l0 : List Int) : Option (Bool) := if (l0.length : Int) > 1048576 then (some true) else ((spec_DrawReadScript.f k l0).bind fun bt393 => ((impl_ReadScript.f k bt393.1 bt393.2).bind fun bt395 => ((spec_ReadScript.f k bt393.1 bt393.2).bind fun bt399 => ((laws_sameLights.f k bt395.1 bt399.1).bind fun t403 => (if t403 = true then (laws_FnReadScript.j0 k bt393.1 bt393.2 bt395.1 bt395.2 (bt395.2 != bt399.2)) else (laws_FnReadScript.j0 k bt393.1 bt393.2 bt395.1 bt395.2 true))))))
theorem laws_FnReadScript.mono_l : ∀ k, (∀ y0 y1 y2 y3 y4, LeO (laws_FnReadScript.j0 k y0 y1 y2 y3 y4) (laws_FnReadScript.j0 (k + 1) y0 y1 y2 y3 y4))
 | 0 => fun _ _ _ _ _ r h => by simp [laws_FnReadScript.j0] at h
 | k + 1 => by
  have ih0 := laws_FnReadScript.mono_l k
  ·intro y0 y1 y2 y3 y4
   unfold laws_FnReadScript.j0
   repeat' first
   | (with_reducible exact ih0 _ _ _ _ _)
   | (with_reducible exact impl_ReadScript.mono _ _ _)
   | (with_reducible exact impl_ScriptOk.mono _ _ _)
   | (with_reducible exact impl_ScriptText.mono _ _ _)
   | (with_reducible exact laws_alive.mono _)
   | (with_reducible exact laws_sameLights.mono _ _ _)
   | (with_reducible exact spec_DrawReadScript.mono _ _)
   | (with_reducible exact spec_ReadScript.mono _ _ _)
   | (with_reducible exact LeO.refl _)
   | (with_reducible exact LeO.none _)
   | (with_reducible refine LeO.ite ?_ ?_)
   | (with_reducible refine LeO.bind ?_ (fun _ => ?_))
   | exact ih0 _ _ _ _ _
   | exact impl_ReadScript.mono _ _ _
   | exact impl_ScriptOk.mono _ _ _
   | exact impl_ScriptText.mono _ _ _
   | exact laws_alive.mono _
   | exact laws_sameLights.mono _ _ _
   | exact spec_DrawReadScript.mono _ _
   | exact spec_ReadScript.mono _ _ _
   | exact LeO.none _
   | refine LeO.ite ?_ ?_
   | refine LeO.bind ?_ (fun _ => ?_)
theorem laws_FnReadScript.mono : ∀ a0 k, LeO (laws_FnReadScript.f k a0) (laws_FnReadScript.f (k + 1) a0) := by
 intro a0 k
 have ih0 := laws_FnReadScript.mono_l k
 unfold laws_FnReadScript.f
 repeat' first
   | (with_reducible exact ih0 _ _ _ _ _)
   | (with_reducible exact impl_ReadScript.mono _ _ _)
   | (with_reducible exact impl_ScriptOk.mono _ _ _)
   | (with_reducible exact impl_ScriptText.mono _ _ _)
   | (with_reducible exact laws_alive.mono _)
   | (with_reducible exact laws_sameLights.mono _ _ _)
   | (with_reducible exact spec_DrawReadScript.mono _ _)
   | (with_reducible exact spec_ReadScript.mono _ _ _)
   | (with_reducible exact LeO.refl _)
   | (with_reducible exact LeO.none _)
   | (with_reducible refine LeO.ite ?_ ?_)
   | (with_reducible refine LeO.bind ?_ (fun _ => ?_))
   | exact ih0 _ _ _ _ _
   | exact impl_ReadScript.mono _ _ _
   | exact impl_ScriptOk.mono _ _ _
   | exact impl_ScriptText.mono _ _ _
   | exact laws_alive.mono _
   | exact laws_sameLights.mono _ _ _
   | exact spec_DrawReadScript.mono _ _
   | exact spec_ReadScript.mono _ _ _
   | exact LeO.none _
   | refine LeO.ite ?_ ?_
   | refine LeO.bind ?_ (fun _ => ?_)
set_option maxHeartbeats 8000000 in
set_option maxRecDepth 100000 in
theorem laws_FnReadScript.calls (k : Nat) (A0 : Option Addr) (c0 : Nat) (l0 : List Int) (r : Bool) (w : World) (hv : Vars w) (hr0 : Kd.C (Kd.int .u8) w A0 l0.length l0) (hc0 : l0.length ≤ c0) (h : laws_FnReadScript.f k l0 = some r) :
  Calls Tryd.prog 6 #[.slice A0 l0.length c0] w fun e w' => e = .returned (.bool r) ∧ Below w.heap.size w w' := by
 have HV := Aside0.mk hv
 clear hv
 have HR0 := Aside0.mk hr0
 have HC0 := Aside0.mk hc0
 clear hr0 hc0
 have HB := Aside0.mk (Below.refl w.heap.size w)
 have H : (if (l0.length : Int) > 1048576 then (some true) else ((spec_DrawReadScript.f k l0).bind fun bt393 => ((impl_ReadScript.f k bt393.1 bt393.2).bind fun bt395 => ((spec_ReadScript.f k bt393.1 bt393.2).bind fun bt399 => ((laws_sameLights.f k bt395.1 bt399.1).bind fun t403 => (if t403 = true then (laws_FnReadScript.j0 k bt393.1 bt393.2 bt395.1 bt395.2 (bt395.2 != bt399.2)) else (laws_FnReadScript.j0 k bt393.1 bt393.2 bt395.1 bt395.2 true))))))) = some r := h
 clear h
 by_cases c2 : (l0.length : Int) > 1048576
 ·rw [if_pos c2] at H
  have c2b0 : decide (1048576 < (l0.length : Int)) = true := decide_eq_true c2
  have c2b1 : decide (1048576 < l0.length) = true := decide_eq_true (by omega)
  clear c2
  obtain rfl := Option.some.inj H
  go_enter Tryd.func6, Tryd.ntmps6
  go_wp2
  go_ret
  exact ⟨by first | rfl | (simp [errW_none, errW_some] <;> rfl) | (simp [*, errW_none, errW_some] <;> rfl), zB HB.out⟩
 ·rw [if_neg c2] at H
  have c2b0 : decide (1048576 < (l0.length : Int)) = false := decide_eq_false c2
  have c2b1 : decide (1048576 < l0.length) = false := decide_eq_false (by omega)
  clear c2
  replace H := Option.bind_eq_some_iff.mp H
  obtain ⟨⟨t393, t394⟩, A30, H⟩ := H
  replace H : ((impl_ReadScript.f k t393 t394).bind fun bt395 => ((spec_ReadScript.f k t393 t394).bind fun bt399 => ((laws_sameLights.f k bt395.1 bt399.1).bind fun t403 => (if t403 = true then (laws_FnReadScript.j0 k t393 t394 bt395.1 bt395.2 (bt395.2 != bt399.2)) else (laws_FnReadScript.j0 k t393 t394 bt395.1 bt395.2 true))))) = some r := H
  have A3 := Aside0.mk A30
  clear A30
  replace H := Option.bind_eq_some_iff.mp H
  obtain ⟨⟨t395, t396⟩, A40, H⟩ := H
  replace H : ((spec_ReadScript.f k t393 t394).bind fun bt399 => ((laws_sameLights.f k t395 bt399.1).bind fun t403 => (if t403 = true then (laws_FnReadScript.j0 k t393 t394 t395 t396 (t396 != bt399.2)) else (laws_FnReadScript.j0 k t393 t394 t395 t396 true)))) = some r := H
  have A4 := Aside0.mk A40
  clear A40
  replace H := Option.bind_eq_some_iff.mp H
  obtain ⟨⟨t399, t400⟩, A50, H⟩ := H
  replace H : ((laws_sameLights.f k t395 t399).bind fun t403 => (if t403 = true then (laws_FnReadScript.j0 k t393 t394 t395 t396 (t396 != t400)) else (laws_FnReadScript.j0 k t393 t394 t395 t396 true))) = some r := H
  have A5 := Aside0.mk A50
  clear A50
  have HC6 := Aside0.mk H
  clear H
  go_enter Tryd.func6, Tryd.ntmps6
  go_upto_region 6 with (first | ((with_reducible refine gate_callee (f := 20) rfl ?_); refine goesL_ (some 16) rfl rfl Tryd.func20 (by kernel_rfl) rfl #[.slice A0 l0.length c0] rfl zA ?_; (with_reducible refine (spec_DrawReadScript.calls k _ _ l0 t393 t394 _ ?side1 ?side2 A3.out).mono ?_); (case side1 => exact zC HR0.out); (case side2 => exact HC0.out); rintro e w7 ⟨rfl, hb⟩; refine ⟨_, rfl, ?_⟩; have n0_ := Aside0.mk (below_step (zB HB.out) hb); clear HB; have HB := n0_; clear n0_; (try clear hb); (try clear hb2); (try clear hk); (try clear hi)) | ((with_reducible refine gate_callee (f := 13) rfl ?_); refine goesL_ (some 22) rfl rfl Tryd.func13 (by kernel_rfl) rfl #[.int .i64 t393, .string t394] rfl zA ?_; (with_reducible refine (impl_ReadScript.calls k t393 t394 t395 t396 _ (HV.out.below (zB HB.out)) A4.out).mono ?_); rintro e w8 ⟨v397, rfl, ho0, hb⟩; refine ⟨_, rfl, ?_⟩; have n0_ := Aside0.mk (Kd.R_lower ho0 (below_size (zB HB.out))); have n1_ := Aside0.mk (below_step (zB HB.out) hb); clear HB; have HO398 := n0_; have HB := n1_; clear n0_ n1_; (try clear hb); (try clear hb2); (try clear hk); (try clear hi); (try clear ho0)) | ((with_reducible refine gate_callee (f := 12) rfl ?_); refine goesL_ (some 28) rfl rfl Tryd.func12 (by kernel_rfl) rfl #[.int .i64 t393, .string t394] rfl zA ?_; (with_reducible refine (spec_ReadScript.calls k t393 t394 t399 t400 _ A5.out).mono ?_); rintro e w9 ⟨v401, rfl, ho0, hb⟩; refine ⟨_, rfl, ?_⟩; have n0_ := Aside0.mk (Kd.R_elder' (zR HO398.out) (Kd.R_base ho0) hb); have n1_ := Aside0.mk (Kd.R_lower (Kd.R_new' ho0 (Kd.R_lt (zR HO398.out))) (below_size (zB HB.out))); have n2_ := Aside0.mk (below_step (zB HB.out) hb); clear HO398; clear HB; have HO398 := n0_; have HO402 := n1_; have HB := n2_; clear n0_ n1_ n2_; (try clear hb); (try clear hb2); (try clear hk); (try clear hi); (try clear ho0)))
  (try simp only [Act.put, List.setIfInBounds_toArray, List.set_cons_zero, List.set_cons_succ])
  go_cut [39] (fun v39 wc => ∃ (kq : Nat) (x39_5 : Bool), v39 = .bool x39_5 ∧ Aside0 (laws_FnReadScript.j0 kq t393 t394 t395 t396 x39_5 = some r) ∧ Aside0 (kq ≤ k) ∧ Aside0 (Kd.R k43 43 wc w.heap.size (fun _ => True) v397 t395) ∧ Aside0 (Below w.heap.size w wc))
  case first =>
   have H := HC6.out
   clear HC6
   replace H := Option.bind_eq_some_iff.mp H
   obtain ⟨t403, A100, H⟩ := H
   replace H : (if t403 = true then (laws_FnReadScript.j0 k t393 t394 t395 t396 (t396 != t400)) else (laws_FnReadScript.j0 k t393 t394 t395 t396 true)) = some r := H
   have A10 := Aside0.mk A100
   clear A100
   by_cases c11 : t403 = true
   ·subst c11
    have H1 : (laws_FnReadScript.j0 k t393 t394 t395 t396 (t396 != t400)) = some r := by rw [if_pos rfl] at H; exact H
    clear H
    have H := H1
    clear H1
    have H' := Aside0.mk H
    clear H
    obtain ⟨Ao12, co12, eo12⟩ := Kd.R_slice HO398.out
    subst eo12
    obtain ⟨Ao13, co13, eo13⟩ := Kd.R_slice HO402.out
    subst eo13
    go_wp2_with (first | ((with_reducible refine gate_callee (f := 19) rfl ?_); refine goesL_ (some 33) rfl rfl Tryd.func19 (by kernel_rfl) rfl #[.slice Ao12 t395.length co12, .slice Ao13 t399.length co13] rfl zA ?_; (with_reducible refine (laws_sameLights.calls k _ _ t395 _ _ t399 true _ ?side1 ?side2 ?side3 ?side4 A10.out).mono ?_); (case side1 => exact zC (Kd.R_reads' HO398.out).2.2); (case side2 => exact (Kd.R_reads' HO398.out).2.1); (case side3 => exact zC (Kd.R_reads' HO402.out).2.2); (case side4 => exact (Kd.R_reads' HO402.out).2.1); rintro e w' ⟨rfl, ⟨nd, rfl⟩⟩; refine ⟨_, rfl, ?_⟩))
    go_meet
    case rel => exact ⟨_, ((t396 != t400)), (by first | rfl | (simp; done) | (simp [*]; done)), H', ⟨by first | omega | exact Nat.le_refl _⟩, ⟨by (with_reducible repeat (first | apply Kd.R_alloc | apply Kd.R_drewN | apply Kd.R_drew)); exact Kd.R_mono HO398.out (fun _ hk => trivial)⟩, ⟨zB HB.out⟩⟩
   ·replace c11 := Bool.eq_false_iff.mpr c11
    subst c11
    have H1 : (laws_FnReadScript.j0 k t393 t394 t395 t396 true) = some r := by rw [if_neg (show ¬ (false = true) by decide)] at H; exact H
    clear H
    have H := H1
    clear H1
    have H' := Aside0.mk H
    clear H
    obtain ⟨Ao14, co14, eo14⟩ := Kd.R_slice HO398.out
    subst eo14
    obtain ⟨Ao15, co15, eo15⟩ := Kd.R_slice HO402.out
    subst eo15
    go_wp2_with (first | ((with_reducible refine gate_callee (f := 19) rfl ?_); refine goesL_ (some 33) rfl rfl Tryd.func19 (by kernel_rfl) rfl #[.slice Ao14 t395.length co14, .slice Ao15 t399.length co15] rfl zA ?_; (with_reducible refine (laws_sameLights.calls k _ _ t395 _ _ t399 false _ ?side1 ?side2 ?side3 ?side4 A10.out).mono ?_); (case side1 => exact zC (Kd.R_reads' HO398.out).2.2); (case side2 => exact (Kd.R_reads' HO398.out).2.1); (case side3 => exact zC (Kd.R_reads' HO402.out).2.2); (case side4 => exact (Kd.R_reads' HO402.out).2.1); rintro e w' ⟨rfl, ⟨nd, rfl⟩⟩; refine ⟨_, rfl, ?_⟩))
    go_meet
    case rel => exact ⟨_, (true), (by first | rfl | (simp; done) | (simp [*]; done)), H', ⟨by first | omega | exact Nat.le_refl _⟩, ⟨by (with_reducible repeat (first | apply Kd.R_alloc | apply Kd.R_drewN | apply Kd.R_drew)); exact Kd.R_mono HO398.out (fun _ hk => trivial)⟩, ⟨zB HB.out⟩⟩
  case rest =>
   clear HC6
   try clear c1
   try clear c2
   try clear c2b0
   try clear c2b1
   try clear p2
   try clear c6
   try clear c11
   try clear c12
   try clear c13
   obtain ⟨kq, x39_5, rfl, HA, HJ5, HO_5, HB⟩ := hcut
   cases kq with
   | zero => exact absurd HA.out (by simp [laws_FnReadScript.j0])
   | succ kj5 =>
    have H := HA.out
    clear HA
    simp only [laws_FnReadScript.j0] at H
    by_cases c16 : x39_5 = true
    ·subst c16
     have H1 : (some false) = some r := by rw [if_pos rfl] at H; exact H
     clear H
     have H := H1
     clear H1
     obtain rfl := Option.some.inj H
     go_wp2
     go_ret
     exact ⟨by first | rfl | (simp [errW_none, errW_some] <;> rfl) | (simp [*, errW_none, errW_some] <;> rfl), zB HB.out⟩
    ·replace c16 := Bool.eq_false_iff.mpr c16
     subst c16
     have H1 : (if t396 = true then (if t394.size + 1 ≤ 9223372036854775807 then ((impl_ReadScript.f kj5 t393 (t394 ++ (⟨#[44]⟩ : ByteArray))).bind fun bt404 => ((impl_ScriptText.f kj5 t393 t395).bind fun t408 => (if t408.toList = t394.toList then ((impl_ScriptOk.f kj5 t393 t395).bind fun t409 => (if t409 = true then (some (!bt404.2)) else (some false))) else (some false)))) else (none)) else (if (t395.length : Int) = 0 then ((laws_alive.f kj5).bind fun t410 => (some t410)) else (some false))) = some r := by rw [if_neg (show ¬ (false = true) by decide)] at H; exact H
     clear H
     have H := H1
     clear H1
     by_cases c17 : t396 = true
     ·subst c17
      have H1 : (if t394.size + 1 ≤ 9223372036854775807 then ((impl_ReadScript.f kj5 t393 (t394 ++ (⟨#[44]⟩ : ByteArray))).bind fun bt404 => ((impl_ScriptText.f kj5 t393 t395).bind fun t408 => (if t408.toList = t394.toList then ((impl_ScriptOk.f kj5 t393 t395).bind fun t409 => (if t409 = true then (some (!bt404.2)) else (some false))) else (some false)))) else (none)) = some r := by rw [if_pos rfl] at H; exact H
      clear H
      have H := H1
      clear H1
      by_cases c18 : t394.size + 1 ≤ 9223372036854775807
      ·rw [if_pos c18] at H
       have c18b0 := eq_true c18
       have c18b1 : decide (t394.size + 1 ≤ 9223372036854775807) = true := decide_eq_true c18
       try have c18b2 : (9223372036854775807 < t394.size + 1) = False := eq_false (Nat.not_lt.2 c18)
       replace H := Option.bind_eq_some_iff.mp H
       obtain ⟨⟨t404, t405⟩, A190, H⟩ := H
       replace H : ((impl_ScriptText.f kj5 t393 t395).bind fun t408 => (if t408.toList = t394.toList then ((impl_ScriptOk.f kj5 t393 t395).bind fun t409 => (if t409 = true then (some (!t405)) else (some false))) else (some false))) = some r := H
       have A19 := Aside0.mk A190
       clear A190
       replace H := Option.bind_eq_some_iff.mp H
       obtain ⟨t408, A200, H⟩ := H
       replace H : (if t408.toList = t394.toList then ((impl_ScriptOk.f kj5 t393 t395).bind fun t409 => (if t409 = true then (some (!t405)) else (some false))) else (some false)) = some r := H
       have A20 := Aside0.mk A200
       clear A200
       by_cases c21 : t408.toList = t394.toList
       ·rw [if_pos c21] at H
        have c21b0 : (t408.toList == t394.toList) = true := beq_iff_eq.mpr c21
        have c21b1 : (t408.toList != t394.toList) = false := bne_eq_false_iff_eq.mpr c21
        clear c21
        replace H := Option.bind_eq_some_iff.mp H
        obtain ⟨t409, A220, H⟩ := H
        replace H : (if t409 = true then (some (!t405)) else (some false)) = some r := H
        have A22 := Aside0.mk A220
        clear A220
        by_cases c23 : t409 = true
        ·subst c23
         have H1 : (some (!t405)) = some r := by rw [if_pos rfl] at H; exact H
         clear H
         have H := H1
         clear H1
         obtain rfl := Option.some.inj H
         go_wp2_with (first | ((with_reducible refine gate_callee (f := 13) rfl ?_); refine goesL_ (some 52) rfl rfl Tryd.func13 (by kernel_rfl) rfl #[.int .i64 t393, .string (t394 ++ (⟨#[44]⟩ : ByteArray))] rfl zA ?_; (with_reducible refine (impl_ReadScript.calls kj5 t393 (t394 ++ (⟨#[44]⟩ : ByteArray)) t404 t405 _ (HV.out.below (zB HB.out)) A19.out).mono ?_); rintro e w24 ⟨v406, rfl, ho0, hb⟩; refine ⟨_, rfl, ?_⟩; have n0_ := Aside0.mk (Kd.R_elder' (zR HO_5.out) (Kd.R_base ho0) hb); have n1_ := Aside0.mk (Kd.R_lower (Kd.R_new' ho0 (Kd.R_lt (zR HO_5.out))) (below_size (zB HB.out))); have n2_ := Aside0.mk (below_step (zB HB.out) hb); clear HO_5; clear HB; have HO_5 := n0_; have HO407 := n1_; have HB := n2_; clear n0_ n1_ n2_; (try clear hb); (try clear hb2); (try clear hk); (try clear hi); (try clear ho0); obtain ⟨Ao25, co25, eo25⟩ := Kd.R_slice HO_5.out; subst eo25) | ((with_reducible refine gate_callee (f := 10) rfl ?_); refine goesL_ (some 57) rfl rfl Tryd.func10 (by kernel_rfl) rfl #[.int .i64 t393, .slice Ao25 t395.length co25] rfl zA ?_; (with_reducible refine (impl_ScriptText.calls kj5 t393 _ _ t395 t408 _ ?side1 ?side2 A20.out).mono ?_); (case side1 => exact zC (Kd.R_reads' HO_5.out).2.2); (case side2 => exact (Kd.R_reads' HO_5.out).2.1); rintro e w26 ⟨rfl, hb⟩; refine ⟨_, rfl, ?_⟩; have n0_ := Aside0.mk (Kd.R_below (zR HO_5.out) hb); have n1_ := Aside0.mk (Kd.R_below (zR HO407.out) hb); have n2_ := Aside0.mk (below_step (zB HB.out) hb); clear HO_5; clear HO407; clear HB; have HO_5 := n0_; have HO407 := n1_; have HB := n2_; clear n0_ n1_ n2_; (try clear hb); (try clear hb2); (try clear hk); (try clear hi)) | (go_at_call 17; (with_reducible refine (impl_ScriptOk.calls kj5 t393 _ _ t395 true _ ?side1 ?side2 A22.out).mono ?_); (case side1 => exact zC (Kd.R_reads' HO_5.out).2.2); (case side2 => exact (Kd.R_reads' HO_5.out).2.1); rintro e w27 ⟨rfl, hb⟩; have n0_ := Aside0.mk (Kd.R_below (zR HO_5.out) hb); have n1_ := Aside0.mk (Kd.R_below (zR HO407.out) hb); have n2_ := Aside0.mk (below_step (zB HB.out) hb); clear HO_5; clear HO407; clear HB; have HO_5 := n0_; have HO407 := n1_; have HB := n2_; clear n0_ n1_ n2_; (try clear hb); (try clear hb2); (try clear hk); (try clear hi)))
         go_ret
         exact ⟨by first | rfl | (simp [errW_none, errW_some] <;> rfl) | (simp [*, errW_none, errW_some] <;> rfl), zB HB.out⟩
        ·replace c23 := Bool.eq_false_iff.mpr c23
         subst c23
         have H1 : (some false) = some r := by rw [if_neg (show ¬ (false = true) by decide)] at H; exact H
         clear H
         have H := H1
         clear H1
         obtain rfl := Option.some.inj H
         go_wp2_with (first | ((with_reducible refine gate_callee (f := 13) rfl ?_); refine goesL_ (some 52) rfl rfl Tryd.func13 (by kernel_rfl) rfl #[.int .i64 t393, .string (t394 ++ (⟨#[44]⟩ : ByteArray))] rfl zA ?_; (with_reducible refine (impl_ReadScript.calls kj5 t393 (t394 ++ (⟨#[44]⟩ : ByteArray)) t404 t405 _ (HV.out.below (zB HB.out)) A19.out).mono ?_); rintro e w28 ⟨v406, rfl, ho0, hb⟩; refine ⟨_, rfl, ?_⟩; have n0_ := Aside0.mk (Kd.R_elder' (zR HO_5.out) (Kd.R_base ho0) hb); have n1_ := Aside0.mk (Kd.R_lower (Kd.R_new' ho0 (Kd.R_lt (zR HO_5.out))) (below_size (zB HB.out))); have n2_ := Aside0.mk (below_step (zB HB.out) hb); clear HO_5; clear HB; have HO_5 := n0_; have HO407 := n1_; have HB := n2_; clear n0_ n1_ n2_; (try clear hb); (try clear hb2); (try clear hk); (try clear hi); (try clear ho0); obtain ⟨Ao29, co29, eo29⟩ := Kd.R_slice HO_5.out; subst eo29) | ((with_reducible refine gate_callee (f := 10) rfl ?_); refine goesL_ (some 57) rfl rfl Tryd.func10 (by kernel_rfl) rfl #[.int .i64 t393, .slice Ao29 t395.length co29] rfl zA ?_; (with_reducible refine (impl_ScriptText.calls kj5 t393 _ _ t395 t408 _ ?side1 ?side2 A20.out).mono ?_); (case side1 => exact zC (Kd.R_reads' HO_5.out).2.2); (case side2 => exact (Kd.R_reads' HO_5.out).2.1); rintro e w30 ⟨rfl, hb⟩; refine ⟨_, rfl, ?_⟩; have n0_ := Aside0.mk (Kd.R_below (zR HO_5.out) hb); have n1_ := Aside0.mk (Kd.R_below (zR HO407.out) hb); have n2_ := Aside0.mk (below_step (zB HB.out) hb); clear HO_5; clear HO407; clear HB; have HO_5 := n0_; have HO407 := n1_; have HB := n2_; clear n0_ n1_ n2_; (try clear hb); (try clear hb2); (try clear hk); (try clear hi)) | (go_at_call 17; (with_reducible refine (impl_ScriptOk.calls kj5 t393 _ _ t395 false _ ?side1 ?side2 A22.out).mono ?_); (case side1 => exact zC (Kd.R_reads' HO_5.out).2.2); (case side2 => exact (Kd.R_reads' HO_5.out).2.1); rintro e w31 ⟨rfl, hb⟩; have n0_ := Aside0.mk (Kd.R_below (zR HO_5.out) hb); have n1_ := Aside0.mk (Kd.R_below (zR HO407.out) hb); have n2_ := Aside0.mk (below_step (zB HB.out) hb); clear HO_5; clear HO407; clear HB; have HO_5 := n0_; have HO407 := n1_; have HB := n2_; clear n0_ n1_ n2_; (try clear hb); (try clear hb2); (try clear hk); (try clear hi)))
         go_ret
         exact ⟨by first | rfl | (simp [errW_none, errW_some] <;> rfl) | (simp [*, errW_none, errW_some] <;> rfl), zB HB.out⟩
       ·rw [if_neg c21] at H
        have c21b0 : (t408.toList == t394.toList) = false := beq_eq_false_iff_ne.mpr c21
        have c21b1 : (t408.toList != t394.toList) = true := bne_iff_ne.mpr c21
        obtain rfl := Option.some.inj H
        go_wp2_with (first | ((with_reducible refine gate_callee (f := 13) rfl ?_); refine goesL_ (some 52) rfl rfl Tryd.func13 (by kernel_rfl) rfl #[.int .i64 t393, .string (t394 ++ (⟨#[44]⟩ : ByteArray))] rfl zA ?_; (with_reducible refine (impl_ReadScript.calls kj5 t393 (t394 ++ (⟨#[44]⟩ : ByteArray)) t404 t405 _ (HV.out.below (zB HB.out)) A19.out).mono ?_); rintro e w32 ⟨v406, rfl, ho0, hb⟩; refine ⟨_, rfl, ?_⟩; have n0_ := Aside0.mk (Kd.R_elder' (zR HO_5.out) (Kd.R_base ho0) hb); have n1_ := Aside0.mk (Kd.R_lower (Kd.R_new' ho0 (Kd.R_lt (zR HO_5.out))) (below_size (zB HB.out))); have n2_ := Aside0.mk (below_step (zB HB.out) hb); clear HO_5; clear HB; have HO_5 := n0_; have HO407 := n1_; have HB := n2_; clear n0_ n1_ n2_; (try clear hb); (try clear hb2); (try clear hk); (try clear hi); (try clear ho0); obtain ⟨Ao33, co33, eo33⟩ := Kd.R_slice HO_5.out; subst eo33) | ((with_reducible refine gate_callee (f := 10) rfl ?_); refine goesL_ (some 57) rfl rfl Tryd.func10 (by kernel_rfl) rfl #[.int .i64 t393, .slice Ao33 t395.length co33] rfl zA ?_; (with_reducible refine (impl_ScriptText.calls kj5 t393 _ _ t395 t408 _ ?side1 ?side2 A20.out).mono ?_); (case side1 => exact zC (Kd.R_reads' HO_5.out).2.2); (case side2 => exact (Kd.R_reads' HO_5.out).2.1); rintro e w34 ⟨rfl, hb⟩; refine ⟨_, rfl, ?_⟩; have n0_ := Aside0.mk (Kd.R_below (zR HO_5.out) hb); have n1_ := Aside0.mk (Kd.R_below (zR HO407.out) hb); have n2_ := Aside0.mk (below_step (zB HB.out) hb); clear HO_5; clear HO407; clear HB; have HO_5 := n0_; have HO407 := n1_; have HB := n2_; clear n0_ n1_ n2_; (try clear hb); (try clear hb2); (try clear hk); (try clear hi)))
        go_ret
        exact ⟨by first | rfl | (simp [errW_none, errW_some] <;> rfl) | (simp [*, errW_none, errW_some] <;> rfl), zB HB.out⟩
      ·rw [if_neg c18] at H
       exact absurd H (by simp)
     ·replace c17 := Bool.eq_false_iff.mpr c17
      subst c17
      have H1 : (if (t395.length : Int) = 0 then ((laws_alive.f kj5).bind fun t410 => (some t410)) else (some false)) = some r := by rw [if_neg (show ¬ (false = true) by decide)] at H; exact H
      clear H
      have H := H1
      clear H1
      by_cases c35 : (t395.length : Int) = 0
      ·rw [if_pos c35] at H
       have c35b0 : ((t395.length : Int) == 0) = true := beq_iff_eq.mpr c35
       have c35b1 : ((t395.length : Int) != 0) = false := bne_eq_false_iff_eq.mpr c35
       clear c35
       replace H := Option.bind_eq_some_iff.mp H
       obtain ⟨t410, A360, H⟩ := H
       replace H : (some t410) = some r := H
       have A36 := Aside0.mk A360
       clear A360
       obtain rfl := Option.some.inj H
       obtain ⟨Ao37, co37, eo37⟩ := Kd.R_slice HO_5.out
       subst eo37
       go_wp2_with (first | (go_at_call 18; (with_reducible refine (laws_alive.calls kj5  t410 _ A36.out).mono ?_); rintro e w38 ⟨rfl, hb⟩; have n0_ := Aside0.mk (Kd.R_below (zR HO_5.out) hb); have n1_ := Aside0.mk (below_step (zB HB.out) hb); clear HO_5; clear HB; have HO_5 := n0_; have HB := n1_; clear n0_ n1_; (try clear hb); (try clear hb2); (try clear hk); (try clear hi)))
       go_ret
       exact ⟨by first | rfl | (simp [errW_none, errW_some] <;> rfl) | (simp [*, errW_none, errW_some] <;> rfl), zB HB.out⟩
      ·rw [if_neg c35] at H
       have c35b0 : ((t395.length : Int) == 0) = false := beq_eq_false_iff_ne.mpr c35
       have c35b1 : ((t395.length : Int) != 0) = true := bne_iff_ne.mpr c35
       have c35b2 : ¬ (t395 = []) := fun h_ => c35 (by rw [h_]; rfl)
       obtain rfl := Option.some.inj H
       obtain ⟨Ao39, co39, eo39⟩ := Kd.R_slice HO_5.out
       subst eo39
       go_wp2
       go_ret
       exact ⟨by first | rfl | (simp [errW_none, errW_some] <;> rfl) | (simp [*, errW_none, errW_some] <;> rfl), zB HB.out⟩

/-- THE ONE PURE STATEMENT of laws_FnReadScript: yours. -/
def laws_FnReadScript.Pure : Prop := ∀ (l0 : List Int), l0.length ≤ maxLen → l0.length * 1 ≤ 140737488351232 → (∀ x ∈ l0, (Lit.int .u8 x).wf = true) → ∃ k, laws_FnReadScript.f k l0 = some true
theorem laws_FnReadScript.walk (P : laws_FnReadScript.Pure) (a0 : Option Addr) (len0 cap0 : Nat) (z0 : List Int) (w : World) (hv : Vars w) (w0 : (a0 = none ∧ len0 = 0 ∧ cap0 = 0 ∧ z0 = []) ∨ ∃ x, a0 = some x ∧ len0 ≤ cap0 ∧ cap0 ≤ maxLen ∧ z0.length = cap0 ∧ (∀ i, i < z0.length → w.cell? (x.add i) = some (.int .u8 (z0.getD i 0))) ∧ ∀ n ∈ z0, (Lit.int .u8 n).wf = true) (y0 : len0 * 1 ≤ 140737488351232) :
  Calls Tryd.prog 6 #[.slice a0 len0 cap0] w fun e w' => e = .returned (.bool true) ∧ Below w.heap.size w w' := by
 obtain ⟨l0, rfl, hr0, hm0, hw0, hc0⟩ := ReadsInt.ofRowC w0
 obtain ⟨k, h⟩ := P l0 hm0 y0 hw0
 refine (laws_FnReadScript.calls k _ _ l0 true w hv (Kd.C_of_reads (d := (0 : Int)) (h1 := fun _ => rfl) hr0) hc0 h).mono ?_
 rintro e w' ⟨rfl, hd⟩
 exact ⟨rfl, hd⟩

end Go.Proofs.YtmkakbimlnigbaaDoor.PAll
