/- Own text of this session, written by a program of this session (wip/t/own.py) out of what the kit tells of the functions: each Go function as a Lean function, and the walk through its code. -/
import Derived.Test.YtmkakbimlnigbaaDoorT
import Derived.Test.YtmkakbimlnigbaaDoorF15
import Derived.Test.YtmkakbimlnigbaaDoorF16
import Derived.Test.YtmkakbimlnigbaaDoorF7
import Derived.Test.YtmkakbimlnigbaaDoorF9
namespace Go.Proofs.YtmkakbimlnigbaaDoor.PAll
open Go.RowKit Go.Proofs.YtmkakbimlnigbaaDoorW.PrintWords Go.Proofs.YtmkakbimlnigbaaDoorW.PrintLast Go.Proofs.YtmkakbimlnigbaaDoorW.PrintMore
attribute [local go_sem] max2_int min2_int max_two min_two max_three min_three max_four min_four   -- for this text's walks alone
set_option linter.unusedVariables false
set_option linter.unusedSimpArgs false

/-! ### laws_FnExactReadScript: function 4 -/
mutual
def laws_FnExactReadScript.j0 : Nat → Int → ByteArray → List (S43) → Bool → List (S43) → Bool → Option (Bool)
 | 0, _, _, _, _, _, _ => none
 | k + 1, x0, x1, x5, x6, x7, x36 => if x36 = true then (some false) else ((laws_markLightS.f k x7 1).bind fun bt290 => ((laws_heldLightS.f k bt290.2 1).bind fun t292 => (if t292 < 0 then (some false) else (if t292 = bt290.1 then ((impl_ReadScript.f k x0 x1).bind fun bt293 => ((laws_eqLightS.f k bt293.1 x5).bind fun t297 => (if t297 = true then (laws_FnExactReadScript.j1 k bt290.2 bt290.1 (bt293.2 != x6)) else (laws_FnExactReadScript.j1 k bt290.2 bt290.1 true)))) else (some false)))))
def laws_FnExactReadScript.j1 : Nat → List (S43) → Int → Bool → Option (Bool)
 | 0, _, _, _ => none
 | k + 1, x7, x9, x62 => if x62 = true then (some false) else ((laws_heldLightS.f k x7 1).bind fun t298 => (if t298 < 0 then (some false) else (if t298 = x9 then (some true) else (some false))))
end
def laws_FnExactReadScript.f (k : Nat) (a0 : Int) (a1 : ByteArray) : Option (Bool) := if (a1.size : Int) > 1048576 then (some true) else ((spec_ReadScript.f k a0 a1).bind fun bt281 => ((impl_ReadScript.f k a0 a1).bind fun bt285 => ((laws_eqLightS.f k bt285.1 bt281.1).bind fun t289 => (if t289 = true then (laws_FnExactReadScript.j0 k a0 a1 bt281.1 bt281.2 bt285.1 (bt285.2 != bt281.2)) else (laws_FnExactReadScript.j0 k a0 a1 bt281.1 bt281.2 bt285.1 true)))))
theorem laws_FnExactReadScript.mono_l : ∀ k, (∀ y0 y1 y2 y3 y4 y5, LeO (laws_FnExactReadScript.j0 k y0 y1 y2 y3 y4 y5) (laws_FnExactReadScript.j0 (k + 1) y0 y1 y2 y3 y4 y5)) ∧ (∀ y0 y1 y2, LeO (laws_FnExactReadScript.j1 k y0 y1 y2) (laws_FnExactReadScript.j1 (k + 1) y0 y1 y2))
 | 0 => ⟨fun _ _ _ _ _ _ r h => by simp [laws_FnExactReadScript.j0] at h, fun _ _ _ r h => by simp [laws_FnExactReadScript.j1] at h⟩
 | k + 1 => by
  obtain ⟨ih0, ih1⟩ := laws_FnExactReadScript.mono_l k
  refine ⟨?_, ?_⟩
  ·intro y0 y1 y2 y3 y4 y5
   unfold laws_FnExactReadScript.j0
   repeat' first
   | (with_reducible exact ih0 _ _ _ _ _ _)
   | (with_reducible exact ih1 _ _ _)
   | (with_reducible exact impl_ReadScript.mono _ _ _)
   | (with_reducible exact laws_eqLightS.mono _ _ _)
   | (with_reducible exact laws_heldLightS.mono _ _ _)
   | (with_reducible exact laws_markLightS.mono _ _ _)
   | (with_reducible exact spec_ReadScript.mono _ _ _)
   | (with_reducible exact LeO.refl _)
   | (with_reducible exact LeO.none _)
   | (with_reducible refine LeO.ite ?_ ?_)
   | (with_reducible refine LeO.bind ?_ (fun _ => ?_))
   | exact ih0 _ _ _ _ _ _
   | exact ih1 _ _ _
   | exact impl_ReadScript.mono _ _ _
   | exact laws_eqLightS.mono _ _ _
   | exact laws_heldLightS.mono _ _ _
   | exact laws_markLightS.mono _ _ _
   | exact spec_ReadScript.mono _ _ _
   | exact LeO.none _
   | refine LeO.ite ?_ ?_
   | refine LeO.bind ?_ (fun _ => ?_)
  ·intro y0 y1 y2
   unfold laws_FnExactReadScript.j1
   repeat' first
   | (with_reducible exact ih0 _ _ _ _ _ _)
   | (with_reducible exact ih1 _ _ _)
   | (with_reducible exact impl_ReadScript.mono _ _ _)
   | (with_reducible exact laws_eqLightS.mono _ _ _)
   | (with_reducible exact laws_heldLightS.mono _ _ _)
   | (with_reducible exact laws_markLightS.mono _ _ _)
   | (with_reducible exact spec_ReadScript.mono _ _ _)
   | (with_reducible exact LeO.refl _)
   | (with_reducible exact LeO.none _)
   | (with_reducible refine LeO.ite ?_ ?_)
   | (with_reducible refine LeO.bind ?_ (fun _ => ?_))
   | exact ih0 _ _ _ _ _ _
   | exact ih1 _ _ _
   | exact impl_ReadScript.mono _ _ _
   | exact laws_eqLightS.mono _ _ _
   | exact laws_heldLightS.mono _ _ _
   | exact laws_markLightS.mono _ _ _
   | exact spec_ReadScript.mono _ _ _
   | exact LeO.none _
   | refine LeO.ite ?_ ?_
   | refine LeO.bind ?_ (fun _ => ?_)
theorem laws_FnExactReadScript.mono : ∀ a0 a1 k, LeO (laws_FnExactReadScript.f k a0 a1) (laws_FnExactReadScript.f (k + 1) a0 a1) := by
 intro a0 a1 k
 obtain ⟨ih0, ih1⟩ := laws_FnExactReadScript.mono_l k
 unfold laws_FnExactReadScript.f
 repeat' first
   | (with_reducible exact ih0 _ _ _ _ _ _)
   | (with_reducible exact ih1 _ _ _)
   | (with_reducible exact impl_ReadScript.mono _ _ _)
   | (with_reducible exact laws_eqLightS.mono _ _ _)
   | (with_reducible exact laws_heldLightS.mono _ _ _)
   | (with_reducible exact laws_markLightS.mono _ _ _)
   | (with_reducible exact spec_ReadScript.mono _ _ _)
   | (with_reducible exact LeO.refl _)
   | (with_reducible exact LeO.none _)
   | (with_reducible refine LeO.ite ?_ ?_)
   | (with_reducible refine LeO.bind ?_ (fun _ => ?_))
   | exact ih0 _ _ _ _ _ _
   | exact ih1 _ _ _
   | exact impl_ReadScript.mono _ _ _
   | exact laws_eqLightS.mono _ _ _
   | exact laws_heldLightS.mono _ _ _
   | exact laws_markLightS.mono _ _ _
   | exact spec_ReadScript.mono _ _ _
   | exact LeO.none _
   | refine LeO.ite ?_ ?_
   | refine LeO.bind ?_ (fun _ => ?_)
set_option maxHeartbeats 8000000 in
set_option maxRecDepth 100000 in
theorem laws_FnExactReadScript.calls (k : Nat) (a0 : Int) (a1 : ByteArray) (r : Bool) (w : World) (hv : Vars w) (h : laws_FnExactReadScript.f k a0 a1 = some r) :
  Calls Tryd.prog 4 #[.int .i64 a0, .string a1] w fun e w' => e = .returned (.bool r) ∧ Below w.heap.size w w' := by
 have HV := Aside0.mk hv
 clear hv
 have HB := Aside0.mk (Below.refl w.heap.size w)
 have H : (if (a1.size : Int) > 1048576 then (some true) else ((spec_ReadScript.f k a0 a1).bind fun bt281 => ((impl_ReadScript.f k a0 a1).bind fun bt285 => ((laws_eqLightS.f k bt285.1 bt281.1).bind fun t289 => (if t289 = true then (laws_FnExactReadScript.j0 k a0 a1 bt281.1 bt281.2 bt285.1 (bt285.2 != bt281.2)) else (laws_FnExactReadScript.j0 k a0 a1 bt281.1 bt281.2 bt285.1 true)))))) = some r := h
 clear h
 by_cases c3 : (a1.size : Int) > 1048576
 ·rw [if_pos c3] at H
  have c3b0 : decide (1048576 < (a1.size : Int)) = true := decide_eq_true c3
  have c3b1 : decide (1048576 < a1.size) = true := decide_eq_true (by omega)
  clear c3
  obtain rfl := Option.some.inj H
  go_enter Tryd.func4, Tryd.ntmps4
  go_wp2
  go_ret
  exact ⟨by first | rfl | (simp [errW_none, errW_some] <;> rfl) | (simp [*, errW_none, errW_some] <;> rfl), zB HB.out⟩
 ·rw [if_neg c3] at H
  have c3b0 : decide (1048576 < (a1.size : Int)) = false := decide_eq_false c3
  have c3b1 : decide (1048576 < a1.size) = false := decide_eq_false (by omega)
  clear c3
  replace H := Option.bind_eq_some_iff.mp H
  obtain ⟨⟨t281, t282⟩, A40, H⟩ := H
  replace H : ((impl_ReadScript.f k a0 a1).bind fun bt285 => ((laws_eqLightS.f k bt285.1 t281).bind fun t289 => (if t289 = true then (laws_FnExactReadScript.j0 k a0 a1 t281 t282 bt285.1 (bt285.2 != t282)) else (laws_FnExactReadScript.j0 k a0 a1 t281 t282 bt285.1 true)))) = some r := H
  have A4 := Aside0.mk A40
  clear A40
  replace H := Option.bind_eq_some_iff.mp H
  obtain ⟨⟨t285, t286⟩, A50, H⟩ := H
  replace H : ((laws_eqLightS.f k t285 t281).bind fun t289 => (if t289 = true then (laws_FnExactReadScript.j0 k a0 a1 t281 t282 t285 (t286 != t282)) else (laws_FnExactReadScript.j0 k a0 a1 t281 t282 t285 true))) = some r := H
  have A5 := Aside0.mk A50
  clear A50
  have HC6 := Aside0.mk H
  clear H
  go_enter Tryd.func4, Tryd.ntmps4
  go_upto_region 5 with (first | ((with_reducible refine gate_callee (f := 12) rfl ?_); refine goesL_ (some 19) rfl rfl Tryd.func12 (by kernel_rfl) rfl #[.int .i64 a0, .string a1] rfl zA ?_; (with_reducible refine (spec_ReadScript.calls k a0 a1 t281 t282 _ A4.out).mono ?_); rintro e w7 ⟨v283, rfl, ho0, hb⟩; refine ⟨_, rfl, ?_⟩; have n0_ := Aside0.mk (Kd.R_lower ho0 (below_size (zB HB.out))); have n1_ := Aside0.mk (below_step (zB HB.out) hb); clear HB; have HO284 := n0_; have HB := n1_; clear n0_ n1_; (try clear hb); (try clear hb2); (try clear hk); (try clear hi); (try clear ho0)) | ((with_reducible refine gate_callee (f := 13) rfl ?_); refine goesL_ (some 25) rfl rfl Tryd.func13 (by kernel_rfl) rfl #[.int .i64 a0, .string a1] rfl zA ?_; (with_reducible refine (impl_ReadScript.calls k a0 a1 t285 t286 _ (HV.out.below (zB HB.out)) A5.out).mono ?_); rintro e w8 ⟨v287, rfl, ho0, hb⟩; refine ⟨_, rfl, ?_⟩; have n0_ := Aside0.mk (Kd.R_elder' (zR HO284.out) (Kd.R_base ho0) hb); have n1_ := Aside0.mk (Kd.R_lower (Kd.R_new' ho0 (Kd.R_lt (zR HO284.out))) (below_size (zB HB.out))); have n2_ := Aside0.mk (below_step (zB HB.out) hb); clear HO284; clear HB; have HO284 := n0_; have HO288 := n1_; have HB := n2_; clear n0_ n1_ n2_; (try clear hb); (try clear hb2); (try clear hk); (try clear hi); (try clear ho0)))
  (try simp only [Act.put, List.setIfInBounds_toArray, List.set_cons_zero, List.set_cons_succ])
  go_cut [36] (fun v36 wc => ∃ (kq : Nat) (x36_5 : Bool), v36 = .bool x36_5 ∧ Aside0 (laws_FnExactReadScript.j0 kq a0 a1 t281 t282 t285 x36_5 = some r) ∧ Aside0 (kq ≤ k) ∧ Aside0 (Kd.R k43 43 wc w.heap.size (fun k_ => some k_ ≠ (v287 : Value).ownBlock) v283 t281) ∧ Aside0 (Kd.R k43 43 wc w.heap.size (fun k_ => some k_ ≠ (v283 : Value).ownBlock) v287 t285) ∧ Aside0 (Below w.heap.size w wc))
  case first =>
   have H := HC6.out
   clear HC6
   replace H := Option.bind_eq_some_iff.mp H
   obtain ⟨t289, A90, H⟩ := H
   replace H : (if t289 = true then (laws_FnExactReadScript.j0 k a0 a1 t281 t282 t285 (t286 != t282)) else (laws_FnExactReadScript.j0 k a0 a1 t281 t282 t285 true)) = some r := H
   have A9 := Aside0.mk A90
   clear A90
   by_cases c10 : t289 = true
   ·subst c10
    have H1 : (laws_FnExactReadScript.j0 k a0 a1 t281 t282 t285 (t286 != t282)) = some r := by rw [if_pos rfl] at H; exact H
    clear H
    have H := H1
    clear H1
    have H' := Aside0.mk H
    clear H
    obtain ⟨Ao11, co11, eo11⟩ := Kd.R_slice HO288.out
    subst eo11
    obtain ⟨Ao12, co12, eo12⟩ := Kd.R_slice HO284.out
    subst eo12
    go_wp2_with (first | ((with_reducible refine gate_callee (f := 11) rfl ?_); refine goesL_ (some 30) rfl rfl Tryd.func11 (by kernel_rfl) rfl #[.slice Ao11 t285.length co11, .slice Ao12 t281.length co12] rfl zA ?_; (with_reducible refine (laws_eqLightS.calls k _ _ t285 _ _ t281 true _ ?side1 ?side2 ?side3 ?side4 A9.out).mono ?_); (case side1 => exact zC (Kd.R_reads' HO288.out).2.2); (case side2 => exact (Kd.R_reads' HO288.out).2.1); (case side3 => exact zC (Kd.R_reads' HO284.out).2.2); (case side4 => exact (Kd.R_reads' HO284.out).2.1); rintro e w13 ⟨rfl, hb⟩; refine ⟨_, rfl, ?_⟩; have n0_ := Aside0.mk (Kd.R_below (zR HO284.out) hb); have n1_ := Aside0.mk (Kd.R_below (zR HO288.out) hb); have n2_ := Aside0.mk (below_step (zB HB.out) hb); clear HO284; clear HO288; clear HB; have HO284 := n0_; have HO288 := n1_; have HB := n2_; clear n0_ n1_ n2_; (try clear hb); (try clear hb2); (try clear hk); (try clear hi)))
    go_meet
    case rel => exact ⟨_, ((t286 != t282)), (by first | rfl | (simp; done) | (simp [*]; done)), H', ⟨by first | omega | exact Nat.le_refl _⟩, ⟨by (with_reducible repeat (first | apply Kd.R_alloc | apply Kd.R_drewN | apply Kd.R_drew)); exact Kd.R_mono HO284.out (fun _ hk => hk.2)⟩, ⟨by (with_reducible repeat (first | apply Kd.R_alloc | apply Kd.R_drewN | apply Kd.R_drew)); exact Kd.R_mono HO288.out (fun _ hk => hk.2)⟩, ⟨zB HB.out⟩⟩
   ·replace c10 := Bool.eq_false_iff.mpr c10
    subst c10
    have H1 : (laws_FnExactReadScript.j0 k a0 a1 t281 t282 t285 true) = some r := by rw [if_neg (show ¬ (false = true) by decide)] at H; exact H
    clear H
    have H := H1
    clear H1
    have H' := Aside0.mk H
    clear H
    obtain ⟨Ao14, co14, eo14⟩ := Kd.R_slice HO288.out
    subst eo14
    obtain ⟨Ao15, co15, eo15⟩ := Kd.R_slice HO284.out
    subst eo15
    go_wp2_with (first | ((with_reducible refine gate_callee (f := 11) rfl ?_); refine goesL_ (some 30) rfl rfl Tryd.func11 (by kernel_rfl) rfl #[.slice Ao14 t285.length co14, .slice Ao15 t281.length co15] rfl zA ?_; (with_reducible refine (laws_eqLightS.calls k _ _ t285 _ _ t281 false _ ?side1 ?side2 ?side3 ?side4 A9.out).mono ?_); (case side1 => exact zC (Kd.R_reads' HO288.out).2.2); (case side2 => exact (Kd.R_reads' HO288.out).2.1); (case side3 => exact zC (Kd.R_reads' HO284.out).2.2); (case side4 => exact (Kd.R_reads' HO284.out).2.1); rintro e w16 ⟨rfl, hb⟩; refine ⟨_, rfl, ?_⟩; have n0_ := Aside0.mk (Kd.R_below (zR HO284.out) hb); have n1_ := Aside0.mk (Kd.R_below (zR HO288.out) hb); have n2_ := Aside0.mk (below_step (zB HB.out) hb); clear HO284; clear HO288; clear HB; have HO284 := n0_; have HO288 := n1_; have HB := n2_; clear n0_ n1_ n2_; (try clear hb); (try clear hb2); (try clear hk); (try clear hi)))
    go_meet
    case rel => exact ⟨_, (true), (by first | rfl | (simp; done) | (simp [*]; done)), H', ⟨by first | omega | exact Nat.le_refl _⟩, ⟨by (with_reducible repeat (first | apply Kd.R_alloc | apply Kd.R_drewN | apply Kd.R_drew)); exact Kd.R_mono HO284.out (fun _ hk => hk.2)⟩, ⟨by (with_reducible repeat (first | apply Kd.R_alloc | apply Kd.R_drewN | apply Kd.R_drew)); exact Kd.R_mono HO288.out (fun _ hk => hk.2)⟩, ⟨zB HB.out⟩⟩
  case rest =>
   clear HC6
   try clear c1
   try clear p2
   try clear c3
   try clear c3b0
   try clear c3b1
   try clear c4
   try clear c10
   try clear c11
   try clear c12
   try clear c13
   obtain ⟨kq, x36_5, rfl, HA, HJ5, HO_5, HO_7, HB⟩ := hcut
   cases kq with
   | zero => exact absurd HA.out (by simp [laws_FnExactReadScript.j0])
   | succ kj5 =>
    have H := HA.out
    clear HA
    simp only [laws_FnExactReadScript.j0] at H
    by_cases c17 : x36_5 = true
    ·subst c17
     have H1 : (some false) = some r := by rw [if_pos rfl] at H; exact H
     clear H
     have H := H1
     clear H1
     obtain rfl := Option.some.inj H
     go_wp2
     go_ret
     exact ⟨by first | rfl | (simp [errW_none, errW_some] <;> rfl) | (simp [*, errW_none, errW_some] <;> rfl), zB HB.out⟩
    ·replace c17 := Bool.eq_false_iff.mpr c17
     subst c17
     have H1 : ((laws_markLightS.f kj5 t285 1).bind fun bt290 => ((laws_heldLightS.f kj5 bt290.2 1).bind fun t292 => (if t292 < 0 then (some false) else (if t292 = bt290.1 then ((impl_ReadScript.f kj5 a0 a1).bind fun bt293 => ((laws_eqLightS.f kj5 bt293.1 t281).bind fun t297 => (if t297 = true then (laws_FnExactReadScript.j1 kj5 bt290.2 bt290.1 (bt293.2 != t282)) else (laws_FnExactReadScript.j1 kj5 bt290.2 bt290.1 true)))) else (some false))))) = some r := by rw [if_neg (show ¬ (false = true) by decide)] at H; exact H
     clear H
     have H := H1
     clear H1
     replace H := Option.bind_eq_some_iff.mp H
     obtain ⟨⟨t290, t291⟩, A180, H⟩ := H
     replace H : ((laws_heldLightS.f kj5 t291 1).bind fun t292 => (if t292 < 0 then (some false) else (if t292 = t290 then ((impl_ReadScript.f kj5 a0 a1).bind fun bt293 => ((laws_eqLightS.f kj5 bt293.1 t281).bind fun t297 => (if t297 = true then (laws_FnExactReadScript.j1 kj5 t291 t290 (bt293.2 != t282)) else (laws_FnExactReadScript.j1 kj5 t291 t290 true)))) else (some false)))) = some r := H
     have A18 := Aside0.mk A180
     clear A180
     replace H := Option.bind_eq_some_iff.mp H
     obtain ⟨t292, A190, H⟩ := H
     replace H : (if t292 < 0 then (some false) else (if t292 = t290 then ((impl_ReadScript.f kj5 a0 a1).bind fun bt293 => ((laws_eqLightS.f kj5 bt293.1 t281).bind fun t297 => (if t297 = true then (laws_FnExactReadScript.j1 kj5 t291 t290 (bt293.2 != t282)) else (laws_FnExactReadScript.j1 kj5 t291 t290 true)))) else (some false))) = some r := H
     have A19 := Aside0.mk A190
     clear A190
     by_cases c20 : t292 < 0
     ·rw [if_pos c20] at H
      have c20b0 : decide (t292 < 0) = true := decide_eq_true c20
      clear c20
      obtain rfl := Option.some.inj H
      obtain ⟨Ao21, co21, eo21⟩ := Kd.R_slice HO_7.out
      subst eo21
      go_wp2_with (first | ((with_reducible refine gate_callee (f := 14) rfl ?_); refine goesL_ (some 39) rfl rfl Tryd.func14 (by kernel_rfl) rfl #[.slice Ao21 t285.length co21, .int .i64 1] rfl zA ?_; (with_reducible refine (laws_markLightS.calls kj5 (fun k_ => some k_ = (.slice Ao21 t285.length co21 : Value).ownBlock) (.slice Ao21 t285.length co21) t285 1 t290 t291 w _ ?side1 ?side2 A18.out).mono ?_); (case side1 => exact zB HB.out); (case side2 => exact Kd.R_tight rfl HO_7.out); rintro e w22 ⟨rfl, hy0, hb, hkp⟩; refine ⟨_, rfl, ?_⟩; have n0_ := Aside0.mk (Kd.R_mono (ok' := fun k_ => some k_ ≠ (.slice Ao21 t285.length co21 : Value).ownBlock) (Kd.R_keptB (HO_5.out) hkp (fun k_ hk_ hs_ => (hk_) hs_)) (fun k_ hk_ => hk_.1)); have n1_ := Aside0.mk (Kd.R_reok rfl hy0 (fun k_ e_ => HO_7.out.1 k_ e_)); have n2_ := Aside0.mk (hb); clear HO_5; clear HO_7; clear HB; have HO_5 := n0_; have HO_7 := n1_; have HB := n2_; clear n0_ n1_ n2_; (try clear hb); (try clear hkp); (try clear hy0)) | ((with_reducible refine gate_callee (f := 15) rfl ?_); refine goesL_ (some 42) rfl rfl Tryd.func15 (by kernel_rfl) rfl #[.slice Ao21 t291.length co21, .int .i64 1] rfl (by (try simp only [List.map_toArray, List.map_cons, List.map_nil]); first | done | (rw [show t291.length = t285.length from (Kd.R_reads' HO_7.out).1.symm] <;> rfl) | rfl | (simp only [List.length_drop, List.length_take]; rfl)) ?_; (with_reducible refine (laws_heldLightS.calls kj5 _ _ t291 1 t292 _ ?side1 ?side2 A19.out).mono ?_); (case side1 => exact zC (Kd.R_reads' HO_7.out).2.2); (case side2 => rw [show t291.length = t285.length from (Kd.R_reads' HO_7.out).1.symm]; exact (Kd.R_reads' HO_7.out).2.1); rintro e w' ⟨rfl, ⟨nd, rfl⟩⟩; refine ⟨_, rfl, ?_⟩))
      go_ret
      exact ⟨by first | rfl | (simp [errW_none, errW_some] <;> rfl) | (simp [*, errW_none, errW_some] <;> rfl), zB HB.out⟩
     ·rw [if_neg c20] at H
      have c20b0 : decide (t292 < 0) = false := decide_eq_false c20
      clear c20
      by_cases c23 : t292 = t290
      ·rw [if_pos c23] at H
       have c23b0 : (t292 == t290) = true := beq_iff_eq.mpr c23
       have c23b1 : (t292 != t290) = false := bne_eq_false_iff_eq.mpr c23
       clear c23
       replace H := Option.bind_eq_some_iff.mp H
       obtain ⟨⟨t293, t294⟩, A240, H⟩ := H
       replace H : ((laws_eqLightS.f kj5 t293 t281).bind fun t297 => (if t297 = true then (laws_FnExactReadScript.j1 kj5 t291 t290 (t294 != t282)) else (laws_FnExactReadScript.j1 kj5 t291 t290 true))) = some r := H
       have A24 := Aside0.mk A240
       clear A240
       have HC25 := Aside0.mk H
       clear H
       obtain ⟨Ao26, co26, eo26⟩ := Kd.R_slice HO_7.out
       subst eo26
       go_upto_region 16 with (first | ((with_reducible refine gate_callee (f := 14) rfl ?_); refine goesL_ (some 39) rfl rfl Tryd.func14 (by kernel_rfl) rfl #[.slice Ao26 t285.length co26, .int .i64 1] rfl zA ?_; (with_reducible refine (laws_markLightS.calls kj5 (fun k_ => some k_ = (.slice Ao26 t285.length co26 : Value).ownBlock) (.slice Ao26 t285.length co26) t285 1 t290 t291 w _ ?side1 ?side2 A18.out).mono ?_); (case side1 => exact zB HB.out); (case side2 => exact Kd.R_tight rfl HO_7.out); rintro e w27 ⟨rfl, hy0, hb, hkp⟩; refine ⟨_, rfl, ?_⟩; have n0_ := Aside0.mk (Kd.R_mono (ok' := fun k_ => some k_ ≠ (.slice Ao26 t285.length co26 : Value).ownBlock) (Kd.R_keptB (HO_5.out) hkp (fun k_ hk_ hs_ => (hk_) hs_)) (fun k_ hk_ => hk_.1)); have n1_ := Aside0.mk (Kd.R_reok rfl hy0 (fun k_ e_ => HO_7.out.1 k_ e_)); have n2_ := Aside0.mk (hb); clear HO_5; clear HO_7; clear HB; have HO_5 := n0_; have HO_7 := n1_; have HB := n2_; clear n0_ n1_ n2_; (try clear hb); (try clear hkp); (try clear hy0)) | ((with_reducible refine gate_callee (f := 15) rfl ?_); refine goesL_ (some 42) rfl rfl Tryd.func15 (by kernel_rfl) rfl #[.slice Ao26 t291.length co26, .int .i64 1] rfl (by (try simp only [List.map_toArray, List.map_cons, List.map_nil]); first | done | (rw [show t291.length = t285.length from (Kd.R_reads' HO_7.out).1.symm] <;> rfl) | rfl | (simp only [List.length_drop, List.length_take]; rfl)) ?_; (with_reducible refine (laws_heldLightS.calls kj5 _ _ t291 1 t292 _ ?side1 ?side2 A19.out).mono ?_); (case side1 => exact zC (Kd.R_reads' HO_7.out).2.2); (case side2 => rw [show t291.length = t285.length from (Kd.R_reads' HO_7.out).1.symm]; exact (Kd.R_reads' HO_7.out).2.1); rintro e w' ⟨rfl, ⟨nd, rfl⟩⟩; refine ⟨_, rfl, ?_⟩) | ((with_reducible refine gate_callee (f := 13) rfl ?_); refine goesL_ (some 51) rfl rfl Tryd.func13 (by kernel_rfl) rfl #[.int .i64 a0, .string a1] rfl zA ?_; (with_reducible refine (impl_ReadScript.calls kj5 a0 a1 t293 t294 _ (HV.out.below (zB HB.out)) A24.out).mono ?_); rintro e w28 ⟨v295, rfl, ho0, hb⟩; refine ⟨_, rfl, ?_⟩; have n0_ := Aside0.mk (Kd.R_elder' (zR HO_5.out) (Kd.R_base ho0) hb); have n1_ := Aside0.mk (Kd.R_elder' (zR HO_7.out) (Kd.R_base ho0) hb); have n2_ := Aside0.mk (Kd.R_lower (Kd.R_new' (Kd.R_new' ho0 (Kd.R_lt (zR HO_5.out))) (Kd.R_lt (zR HO_7.out))) (below_size (zB HB.out))); have n3_ := Aside0.mk (below_step (zB HB.out) hb); clear HO_5; clear HO_7; clear HB; have HO_5 := n0_; have HO_7 := n1_; have HO296 := n2_; have HB := n3_; clear n0_ n1_ n2_ n3_; (try clear hb); (try clear hb2); (try clear hk); (try clear hi); (try clear ho0)))
       (try simp only [Act.put, List.setIfInBounds_toArray, List.set_cons_zero, List.set_cons_succ])
       go_cut [62] (fun v62 wc => ∃ (kq : Nat) (x62_24 : Bool), v62 = .bool x62_24 ∧ Aside0 (laws_FnExactReadScript.j1 kq t291 t290 x62_24 = some r) ∧ Aside0 (kq ≤ kj5) ∧ Aside0 (Kd.R k43 43 wc w.heap.size (fun _ => True) (.slice Ao26 t285.length co26) t291) ∧ Aside0 (Below w.heap.size w wc))
       case first =>
        have H := HC25.out
        clear HC25
        replace H := Option.bind_eq_some_iff.mp H
        obtain ⟨t297, A290, H⟩ := H
        replace H : (if t297 = true then (laws_FnExactReadScript.j1 kj5 t291 t290 (t294 != t282)) else (laws_FnExactReadScript.j1 kj5 t291 t290 true)) = some r := H
        have A29 := Aside0.mk A290
        clear A290
        by_cases c30 : t297 = true
        ·subst c30
         have H1 : (laws_FnExactReadScript.j1 kj5 t291 t290 (t294 != t282)) = some r := by rw [if_pos rfl] at H; exact H
         clear H
         have H := H1
         clear H1
         have H' := Aside0.mk H
         clear H
         obtain ⟨Ao31, co31, eo31⟩ := Kd.R_slice HO296.out
         subst eo31
         obtain ⟨Ao32, co32, eo32⟩ := Kd.R_slice HO_5.out
         subst eo32
         go_wp2_with (first | ((with_reducible refine gate_callee (f := 11) rfl ?_); refine goesL_ (some 56) rfl rfl Tryd.func11 (by kernel_rfl) rfl #[.slice Ao31 t293.length co31, .slice Ao32 t281.length co32] rfl zA ?_; (with_reducible refine (laws_eqLightS.calls kj5 _ _ t293 _ _ t281 true _ ?side1 ?side2 ?side3 ?side4 A29.out).mono ?_); (case side1 => exact zC (Kd.R_reads' HO296.out).2.2); (case side2 => exact (Kd.R_reads' HO296.out).2.1); (case side3 => exact zC (Kd.R_reads' HO_5.out).2.2); (case side4 => exact (Kd.R_reads' HO_5.out).2.1); rintro e w33 ⟨rfl, hb⟩; refine ⟨_, rfl, ?_⟩; have n0_ := Aside0.mk (Kd.R_below (zR HO_5.out) hb); have n1_ := Aside0.mk (Kd.R_below (zR HO_7.out) hb); have n2_ := Aside0.mk (Kd.R_below (zR HO296.out) hb); have n3_ := Aside0.mk (below_step (zB HB.out) hb); clear HO_5; clear HO_7; clear HO296; clear HB; have HO_5 := n0_; have HO_7 := n1_; have HO296 := n2_; have HB := n3_; clear n0_ n1_ n2_ n3_; (try clear hb); (try clear hb2); (try clear hk); (try clear hi)))
         go_meet
         case rel => exact ⟨_, ((t294 != t282)), (by first | rfl | (simp; done) | (simp [*]; done)), H', ⟨by have := HJ5.out; first | omega | exact Nat.le_refl _⟩, ⟨by (with_reducible repeat (first | apply Kd.R_alloc | apply Kd.R_drewN | apply Kd.R_drew)); exact Kd.R_mono HO_7.out (fun _ hk => trivial)⟩, ⟨zB HB.out⟩⟩
        ·replace c30 := Bool.eq_false_iff.mpr c30
         subst c30
         have H1 : (laws_FnExactReadScript.j1 kj5 t291 t290 true) = some r := by rw [if_neg (show ¬ (false = true) by decide)] at H; exact H
         clear H
         have H := H1
         clear H1
         have H' := Aside0.mk H
         clear H
         obtain ⟨Ao34, co34, eo34⟩ := Kd.R_slice HO296.out
         subst eo34
         obtain ⟨Ao35, co35, eo35⟩ := Kd.R_slice HO_5.out
         subst eo35
         go_wp2_with (first | ((with_reducible refine gate_callee (f := 11) rfl ?_); refine goesL_ (some 56) rfl rfl Tryd.func11 (by kernel_rfl) rfl #[.slice Ao34 t293.length co34, .slice Ao35 t281.length co35] rfl zA ?_; (with_reducible refine (laws_eqLightS.calls kj5 _ _ t293 _ _ t281 false _ ?side1 ?side2 ?side3 ?side4 A29.out).mono ?_); (case side1 => exact zC (Kd.R_reads' HO296.out).2.2); (case side2 => exact (Kd.R_reads' HO296.out).2.1); (case side3 => exact zC (Kd.R_reads' HO_5.out).2.2); (case side4 => exact (Kd.R_reads' HO_5.out).2.1); rintro e w36 ⟨rfl, hb⟩; refine ⟨_, rfl, ?_⟩; have n0_ := Aside0.mk (Kd.R_below (zR HO_5.out) hb); have n1_ := Aside0.mk (Kd.R_below (zR HO_7.out) hb); have n2_ := Aside0.mk (Kd.R_below (zR HO296.out) hb); have n3_ := Aside0.mk (below_step (zB HB.out) hb); clear HO_5; clear HO_7; clear HO296; clear HB; have HO_5 := n0_; have HO_7 := n1_; have HO296 := n2_; have HB := n3_; clear n0_ n1_ n2_ n3_; (try clear hb); (try clear hb2); (try clear hk); (try clear hi)))
         go_meet
         case rel => exact ⟨_, (true), (by first | rfl | (simp; done) | (simp [*]; done)), H', ⟨by have := HJ5.out; first | omega | exact Nat.le_refl _⟩, ⟨by (with_reducible repeat (first | apply Kd.R_alloc | apply Kd.R_drewN | apply Kd.R_drew)); exact Kd.R_mono HO_7.out (fun _ hk => trivial)⟩, ⟨zB HB.out⟩⟩
       case rest =>
        clear HC25
        try clear c1
        try clear c2
        try clear p2
        try clear c3
        try clear c3b0
        try clear c3b1
        try clear c4
        try clear c10
        try clear c11
        try clear c12
        try clear c13
        try clear c14
        try clear c15
        try clear c17
        try clear c20
        try clear c20b0
        try clear c23
        try clear c23b0
        try clear c23b1
        try clear c30
        try clear p2
        obtain ⟨kq, x62_24, rfl, HA, HJ24, HO_7, HB⟩ := hcut
        have hl7_24 := (Kd.R_reads' HO_7.out).1
        rw [hl7_24] at HO_7
        (try simp only [hl7_24])
        cases kq with
        | zero => exact absurd HA.out (by simp [laws_FnExactReadScript.j1])
        | succ kj24 =>
         have H := HA.out
         clear HA
         simp only [laws_FnExactReadScript.j1] at H
         by_cases c37 : x62_24 = true
         ·subst c37
          have H1 : (some false) = some r := by rw [if_pos rfl] at H; exact H
          clear H
          have H := H1
          clear H1
          obtain rfl := Option.some.inj H
          go_wp2
          go_ret
          exact ⟨by first | rfl | (simp [errW_none, errW_some] <;> rfl) | (simp [*, errW_none, errW_some] <;> rfl), zB HB.out⟩
         ·replace c37 := Bool.eq_false_iff.mpr c37
          subst c37
          have H1 : ((laws_heldLightS.f kj24 t291 1).bind fun t298 => (if t298 < 0 then (some false) else (if t298 = t290 then (some true) else (some false)))) = some r := by rw [if_neg (show ¬ (false = true) by decide)] at H; exact H
          clear H
          have H := H1
          clear H1
          replace H := Option.bind_eq_some_iff.mp H
          obtain ⟨t298, A380, H⟩ := H
          replace H : (if t298 < 0 then (some false) else (if t298 = t290 then (some true) else (some false))) = some r := H
          have A38 := Aside0.mk A380
          clear A380
          by_cases c39 : t298 < 0
          ·rw [if_pos c39] at H
           have c39b0 : decide (t298 < 0) = true := decide_eq_true c39
           clear c39
           obtain rfl := Option.some.inj H
           go_wp2_with (first | ((with_reducible refine gate_callee (f := 15) rfl ?_); refine goesL_ (some 65) rfl rfl Tryd.func15 (by kernel_rfl) rfl #[.slice Ao26 t291.length co26, .int .i64 1] rfl zA ?_; (with_reducible refine (laws_heldLightS.calls kj24 _ _ t291 1 t298 _ ?side1 ?side2 A38.out).mono ?_); (case side1 => exact zC (Kd.R_reads' HO_7.out).2.2); (case side2 => exact (Kd.R_reads' HO_7.out).2.1); rintro e w' ⟨rfl, ⟨nd, rfl⟩⟩; refine ⟨_, rfl, ?_⟩))
           go_ret
           exact ⟨by first | rfl | (simp [errW_none, errW_some] <;> rfl) | (simp [*, errW_none, errW_some] <;> rfl), zB HB.out⟩
          ·rw [if_neg c39] at H
           have c39b0 : decide (t298 < 0) = false := decide_eq_false c39
           clear c39
           by_cases c40 : t298 = t290
           ·rw [if_pos c40] at H
            have c40b0 : (t298 == t290) = true := beq_iff_eq.mpr c40
            have c40b1 : (t298 != t290) = false := bne_eq_false_iff_eq.mpr c40
            clear c40
            obtain rfl := Option.some.inj H
            go_wp2_with (first | ((with_reducible refine gate_callee (f := 15) rfl ?_); refine goesL_ (some 65) rfl rfl Tryd.func15 (by kernel_rfl) rfl #[.slice Ao26 t291.length co26, .int .i64 1] rfl zA ?_; (with_reducible refine (laws_heldLightS.calls kj24 _ _ t291 1 t298 _ ?side1 ?side2 A38.out).mono ?_); (case side1 => exact zC (Kd.R_reads' HO_7.out).2.2); (case side2 => exact (Kd.R_reads' HO_7.out).2.1); rintro e w' ⟨rfl, ⟨nd, rfl⟩⟩; refine ⟨_, rfl, ?_⟩))
            go_ret
            exact ⟨by first | rfl | (simp [errW_none, errW_some] <;> rfl) | (simp [*, errW_none, errW_some] <;> rfl), zB HB.out⟩
           ·rw [if_neg c40] at H
            have c40b0 : (t298 == t290) = false := beq_eq_false_iff_ne.mpr c40
            have c40b1 : (t298 != t290) = true := bne_iff_ne.mpr c40
            obtain rfl := Option.some.inj H
            go_wp2_with (first | ((with_reducible refine gate_callee (f := 15) rfl ?_); refine goesL_ (some 65) rfl rfl Tryd.func15 (by kernel_rfl) rfl #[.slice Ao26 t291.length co26, .int .i64 1] rfl zA ?_; (with_reducible refine (laws_heldLightS.calls kj24 _ _ t291 1 t298 _ ?side1 ?side2 A38.out).mono ?_); (case side1 => exact zC (Kd.R_reads' HO_7.out).2.2); (case side2 => exact (Kd.R_reads' HO_7.out).2.1); rintro e w' ⟨rfl, ⟨nd, rfl⟩⟩; refine ⟨_, rfl, ?_⟩))
            go_ret
            exact ⟨by first | rfl | (simp [errW_none, errW_some] <;> rfl) | (simp [*, errW_none, errW_some] <;> rfl), zB HB.out⟩
      ·rw [if_neg c23] at H
       have c23b0 : (t292 == t290) = false := beq_eq_false_iff_ne.mpr c23
       have c23b1 : (t292 != t290) = true := bne_iff_ne.mpr c23
       obtain rfl := Option.some.inj H
       obtain ⟨Ao41, co41, eo41⟩ := Kd.R_slice HO_7.out
       subst eo41
       go_wp2_with (first | ((with_reducible refine gate_callee (f := 14) rfl ?_); refine goesL_ (some 39) rfl rfl Tryd.func14 (by kernel_rfl) rfl #[.slice Ao41 t285.length co41, .int .i64 1] rfl zA ?_; (with_reducible refine (laws_markLightS.calls kj5 (fun k_ => some k_ = (.slice Ao41 t285.length co41 : Value).ownBlock) (.slice Ao41 t285.length co41) t285 1 t290 t291 w _ ?side1 ?side2 A18.out).mono ?_); (case side1 => exact zB HB.out); (case side2 => exact Kd.R_tight rfl HO_7.out); rintro e w42 ⟨rfl, hy0, hb, hkp⟩; refine ⟨_, rfl, ?_⟩; have n0_ := Aside0.mk (Kd.R_mono (ok' := fun k_ => some k_ ≠ (.slice Ao41 t285.length co41 : Value).ownBlock) (Kd.R_keptB (HO_5.out) hkp (fun k_ hk_ hs_ => (hk_) hs_)) (fun k_ hk_ => hk_.1)); have n1_ := Aside0.mk (Kd.R_reok rfl hy0 (fun k_ e_ => HO_7.out.1 k_ e_)); have n2_ := Aside0.mk (hb); clear HO_5; clear HO_7; clear HB; have HO_5 := n0_; have HO_7 := n1_; have HB := n2_; clear n0_ n1_ n2_; (try clear hb); (try clear hkp); (try clear hy0)) | ((with_reducible refine gate_callee (f := 15) rfl ?_); refine goesL_ (some 42) rfl rfl Tryd.func15 (by kernel_rfl) rfl #[.slice Ao41 t291.length co41, .int .i64 1] rfl (by (try simp only [List.map_toArray, List.map_cons, List.map_nil]); first | done | (rw [show t291.length = t285.length from (Kd.R_reads' HO_7.out).1.symm] <;> rfl) | rfl | (simp only [List.length_drop, List.length_take]; rfl)) ?_; (with_reducible refine (laws_heldLightS.calls kj5 _ _ t291 1 t292 _ ?side1 ?side2 A19.out).mono ?_); (case side1 => exact zC (Kd.R_reads' HO_7.out).2.2); (case side2 => rw [show t291.length = t285.length from (Kd.R_reads' HO_7.out).1.symm]; exact (Kd.R_reads' HO_7.out).2.1); rintro e w' ⟨rfl, ⟨nd, rfl⟩⟩; refine ⟨_, rfl, ?_⟩))
       go_ret
       exact ⟨by first | rfl | (simp [errW_none, errW_some] <;> rfl) | (simp [*, errW_none, errW_some] <;> rfl), zB HB.out⟩

/-- THE ONE PURE STATEMENT of laws_FnExactReadScript: yours. -/
def laws_FnExactReadScript.Pure : Prop := ∀ (a0 : Int) (a1 : ByteArray), (Lit.int .i64 a0).wf = true → a1.size ≤ 140737488351232 → ∃ k, laws_FnExactReadScript.f k a0 a1 = some true
theorem laws_FnExactReadScript.walk (P : laws_FnExactReadScript.Pure) (a0 : Int) (a1 : ByteArray) (w : World) (hv : Vars w) (w0 : (Lit.int .i64 a0).wf = true) (w1 : a1.size ≤ 140737488351232) :
  Calls Tryd.prog 4 #[.int .i64 a0, .string a1] w fun e w' => e = .returned (.bool true) ∧ Below w.heap.size w w' := by
 obtain ⟨k, h⟩ := P a0 a1 w0 w1
 refine (laws_FnExactReadScript.calls k a0 a1 true w hv h).mono ?_
 rintro e w' ⟨rfl, hd⟩
 exact ⟨rfl, hd⟩

end Go.Proofs.YtmkakbimlnigbaaDoor.PAll
