/- Own text of this session, written by a program of this session (wip/t/own.py) out of what the kit tells of the functions: each Go function as a Lean function, and the walk through its code. -/
import Derived.Test.YtfhkahlfpchhpaaT
import Derived.Test.YtfhkahlfpchhpaaF0
import Derived.Test.YtfhkahlfpchhpaaF13
import Derived.Test.YtfhkahlfpchhpaaF30
import Derived.Test.YtfhkahlfpchhpaaF32
import Derived.Test.YtfhkahlfpchhpaaF44
import Derived.Test.YtfhkahlfpchhpaaF9
namespace Go.Proofs.Ytfhkahlfpchhpaa.PAll
open Go.RowKit Go.Proofs.YtfhkahlfpchhpaaW.PrintWords Go.Proofs.YtfhkahlfpchhpaaW.PrintLast Go.Proofs.YtfhkahlfpchhpaaW.PrintMore
attribute [local go_sem] max2_int min2_int max_two min_two max_three min_three max_four min_four   -- for this text's walks alone
set_option linter.unusedVariables false
set_option linter.unusedSimpArgs false

/-! ### laws_FnPulseScript: function 14 -/
mutual
def laws_FnPulseScript.j0 : Nat → List Int → List Int → Bool → Option (Bool)
  | 0, _, _, _ => none
  | k + 1, x0, x1, x23 => if x23 = true then (some true) else ((spec_DrawPulseScript.f k x0).bind fun bt1211 => ((impl_PulseScript.f k bt1211.1 bt1211.2.1 bt1211.2.2).bind fun t1214 => ((spec_PulseScript.f k bt1211.1 bt1211.2.1 bt1211.2.2).bind fun t1217 => ((laws_sameLights.f k t1214 t1217).bind fun t1220 => (if t1220 = true then (if (t1214.length : Int) = 0 then ((laws_alive.f k).bind fun t1221 => (some t1221)) else ((spec_DrawFireStep.f k x1).bind fun bt1222 => ((impl_ScriptOk.f k 6 t1214).bind fun t1229 => (if t1229 = true then (laws_FnPulseScript.j1 k bt1211.1 bt1211.2.1 bt1211.2.2 t1214 bt1222.1 bt1222.2.1 ((t1214.length : Int) != bt1211.2.2)) else (laws_FnPulseScript.j1 k bt1211.1 bt1211.2.1 bt1211.2.2 t1214 bt1222.1 bt1222.2.1 true))))) else (some false))))))
def laws_FnPulseScript.j1 : Nat → Int → Int → Int → List (S64) → List Int → Int → Bool → Option (Bool)
  | 0, _, _, _, _, _, _, _ => none
  | k + 1, x5, x6, x7, x8, x9, x10, x59 => if x59 = true then (some false) else ((spec_NetOk.f k x9).bind fun t1230 => (if t1230 = true then (if x5 ≥ (x9.length : Int) then (laws_FnPulseScript.j2 k x5 x7 x8 x9 x10 true) else (if x6 < x10 then (laws_FnPulseScript.j2 k x5 x7 x8 x9 x10 true) else (laws_FnPulseScript.j2 k x5 x7 x8 x9 x10 (decide ((wrap64 ((wrap64 (x6 * (wrap64 (x7 - 1)))) + (x9.length : Int))) > 60))))) else (laws_FnPulseScript.j2 k x5 x7 x8 x9 x10 true)))
def laws_FnPulseScript.j2 : Nat → Int → Int → List (S64) → List Int → Int → Bool → Option (Bool)
  | 0, _, _, _, _, _, _ => none
  | k + 1, x5, x7, x8, x9, x10, x83 => if x83 = true then (some true) else (if 0 ≤ (x9.length : Int) then (if ((x9.length : Int) : Int).toNat ≤ 35184372088832 then ((impl_ScriptFired.f k x9 x10 (List.replicate ((x9.length : Int) : Int).toNat 0) x8 60).bind fun t1234 => (if 0 ≤ x5 then ((impl_DistancesFrom.f k x9 (shl .i64 1 x5)).bind fun t1237 => (laws_FnPulseScript.l0 k x7 x9 t1234 t1237 0)) else (none))) else (none)) else (none))
def laws_FnPulseScript.l0 : Nat → Int → List Int → List Int → List Int → Int → Option (Bool)
  | 0, _, _, _, _, _ => none
  | k + 1, x7, x9, x12, x13, x14 => if x14 < (x9.length : Int) then (if (x13.length : Int) = (x9.length : Int) then (laws_FnPulseScript.j4 k x7 x9 x12 x13 x14 0 ((x12.length : Int) != (x9.length : Int))) else (laws_FnPulseScript.j4 k x7 x9 x12 x13 x14 0 true)) else (some true)
def laws_FnPulseScript.j4 : Nat → Int → List Int → List Int → List Int → Int → Int → Bool → Option (Bool)
  | 0, _, _, _, _, _, _, _ => none
  | k + 1, x7, x9, x12, x13, x14, x15, x112 => if x112 = true then (some false) else (if 0 ≤ x14 then (if x14 < (x13.length : Int) then (if (rd x13 x14) ≥ 0 then (if x14 < (x12.length : Int) then (if (rd x12 x14) = x7 then (laws_FnPulseScript.l0 k x7 x9 x12 x13 (wrap64 (x14 + 1))) else (some false)) else (none)) else (if x14 < (x12.length : Int) then (if (rd x12 x14) = x15 then (laws_FnPulseScript.l0 k x7 x9 x12 x13 (wrap64 (x14 + 1))) else (some false)) else (none))) else (none)) else (none))
end
def laws_FnPulseScript.f (k : Nat) (l0 : List Int) (l1 : List Int) : Option (Bool) := if (l0.length : Int) > 1048576 then (laws_FnPulseScript.j0 k l0 l1 true) else (laws_FnPulseScript.j0 k l0 l1 (decide ((l1.length : Int) > 1048576)))
theorem laws_FnPulseScript.mono_l : ∀ k, (∀ y0 y1 y2, LeO (laws_FnPulseScript.j0 k y0 y1 y2) (laws_FnPulseScript.j0 (k + 1) y0 y1 y2)) ∧ (∀ y0 y1 y2 y3 y4 y5 y6, LeO (laws_FnPulseScript.j1 k y0 y1 y2 y3 y4 y5 y6) (laws_FnPulseScript.j1 (k + 1) y0 y1 y2 y3 y4 y5 y6)) ∧ (∀ y0 y1 y2 y3 y4 y5, LeO (laws_FnPulseScript.j2 k y0 y1 y2 y3 y4 y5) (laws_FnPulseScript.j2 (k + 1) y0 y1 y2 y3 y4 y5)) ∧ (∀ y0 y1 y2 y3 y4, LeO (laws_FnPulseScript.l0 k y0 y1 y2 y3 y4) (laws_FnPulseScript.l0 (k + 1) y0 y1 y2 y3 y4)) ∧ (∀ y0 y1 y2 y3 y4 y5 y6, LeO (laws_FnPulseScript.j4 k y0 y1 y2 y3 y4 y5 y6) (laws_FnPulseScript.j4 (k + 1) y0 y1 y2 y3 y4 y5 y6))
  | 0 => ⟨fun _ _ _ r h => by simp [laws_FnPulseScript.j0] at h, fun _ _ _ _ _ _ _ r h => by simp [laws_FnPulseScript.j1] at h, fun _ _ _ _ _ _ r h => by simp [laws_FnPulseScript.j2] at h, fun _ _ _ _ _ r h => by simp [laws_FnPulseScript.l0] at h, fun _ _ _ _ _ _ _ r h => by simp [laws_FnPulseScript.j4] at h⟩
  | k + 1 => by
    obtain ⟨ih0, ih1, ih2, ih3, ih4⟩ := laws_FnPulseScript.mono_l k
    refine ⟨?_, ?_, ?_, ?_, ?_⟩
    · intro y0 y1 y2
      unfold laws_FnPulseScript.j0
      repeat' first
      | (with_reducible exact ih0 _ _ _)
      | (with_reducible exact ih1 _ _ _ _ _ _ _)
      | (with_reducible exact ih2 _ _ _ _ _ _)
      | (with_reducible exact ih3 _ _ _ _ _)
      | (with_reducible exact ih4 _ _ _ _ _ _ _)
      | (with_reducible exact impl_DistancesFrom.mono _ _ _)
      | (with_reducible exact impl_PulseScript.mono _ _ _ _)
      | (with_reducible exact impl_ScriptFired.mono _ _ _ _ _ _)
      | (with_reducible exact impl_ScriptOk.mono _ _ _)
      | (with_reducible exact laws_alive.mono _)
      | (with_reducible exact laws_sameLights.mono _ _ _)
      | (with_reducible exact spec_DrawFireStep.mono _ _)
      | (with_reducible exact spec_DrawPulseScript.mono _ _)
      | (with_reducible exact spec_NetOk.mono _ _)
      | (with_reducible exact spec_PulseScript.mono _ _ _ _)
      | (with_reducible exact LeO.refl _)
      | (with_reducible exact LeO.none _)
      | (with_reducible refine LeO.ite ?_ ?_)
      | (with_reducible refine LeO.bind ?_ (fun _ => ?_))
      | exact ih0 _ _ _
      | exact ih1 _ _ _ _ _ _ _
      | exact ih2 _ _ _ _ _ _
      | exact ih3 _ _ _ _ _
      | exact ih4 _ _ _ _ _ _ _
      | exact impl_DistancesFrom.mono _ _ _
      | exact impl_PulseScript.mono _ _ _ _
      | exact impl_ScriptFired.mono _ _ _ _ _ _
      | exact impl_ScriptOk.mono _ _ _
      | exact laws_alive.mono _
      | exact laws_sameLights.mono _ _ _
      | exact spec_DrawFireStep.mono _ _
      | exact spec_DrawPulseScript.mono _ _
      | exact spec_NetOk.mono _ _
      | exact spec_PulseScript.mono _ _ _ _
      | exact LeO.none _
      | refine LeO.ite ?_ ?_
      | refine LeO.bind ?_ (fun _ => ?_)
    · intro y0 y1 y2 y3 y4 y5 y6
      unfold laws_FnPulseScript.j1
      repeat' first
      | (with_reducible exact ih0 _ _ _)
      | (with_reducible exact ih1 _ _ _ _ _ _ _)
      | (with_reducible exact ih2 _ _ _ _ _ _)
      | (with_reducible exact ih3 _ _ _ _ _)
      | (with_reducible exact ih4 _ _ _ _ _ _ _)
      | (with_reducible exact impl_DistancesFrom.mono _ _ _)
      | (with_reducible exact impl_PulseScript.mono _ _ _ _)
      | (with_reducible exact impl_ScriptFired.mono _ _ _ _ _ _)
      | (with_reducible exact impl_ScriptOk.mono _ _ _)
      | (with_reducible exact laws_alive.mono _)
      | (with_reducible exact laws_sameLights.mono _ _ _)
      | (with_reducible exact spec_DrawFireStep.mono _ _)
      | (with_reducible exact spec_DrawPulseScript.mono _ _)
      | (with_reducible exact spec_NetOk.mono _ _)
      | (with_reducible exact spec_PulseScript.mono _ _ _ _)
      | (with_reducible exact LeO.refl _)
      | (with_reducible exact LeO.none _)
      | (with_reducible refine LeO.ite ?_ ?_)
      | (with_reducible refine LeO.bind ?_ (fun _ => ?_))
      | exact ih0 _ _ _
      | exact ih1 _ _ _ _ _ _ _
      | exact ih2 _ _ _ _ _ _
      | exact ih3 _ _ _ _ _
      | exact ih4 _ _ _ _ _ _ _
      | exact impl_DistancesFrom.mono _ _ _
      | exact impl_PulseScript.mono _ _ _ _
      | exact impl_ScriptFired.mono _ _ _ _ _ _
      | exact impl_ScriptOk.mono _ _ _
      | exact laws_alive.mono _
      | exact laws_sameLights.mono _ _ _
      | exact spec_DrawFireStep.mono _ _
      | exact spec_DrawPulseScript.mono _ _
      | exact spec_NetOk.mono _ _
      | exact spec_PulseScript.mono _ _ _ _
      | exact LeO.none _
      | refine LeO.ite ?_ ?_
      | refine LeO.bind ?_ (fun _ => ?_)
    · intro y0 y1 y2 y3 y4 y5
      unfold laws_FnPulseScript.j2
      repeat' first
      | (with_reducible exact ih0 _ _ _)
      | (with_reducible exact ih1 _ _ _ _ _ _ _)
      | (with_reducible exact ih2 _ _ _ _ _ _)
      | (with_reducible exact ih3 _ _ _ _ _)
      | (with_reducible exact ih4 _ _ _ _ _ _ _)
      | (with_reducible exact impl_DistancesFrom.mono _ _ _)
      | (with_reducible exact impl_PulseScript.mono _ _ _ _)
      | (with_reducible exact impl_ScriptFired.mono _ _ _ _ _ _)
      | (with_reducible exact impl_ScriptOk.mono _ _ _)
      | (with_reducible exact laws_alive.mono _)
      | (with_reducible exact laws_sameLights.mono _ _ _)
      | (with_reducible exact spec_DrawFireStep.mono _ _)
      | (with_reducible exact spec_DrawPulseScript.mono _ _)
      | (with_reducible exact spec_NetOk.mono _ _)
      | (with_reducible exact spec_PulseScript.mono _ _ _ _)
      | (with_reducible exact LeO.refl _)
      | (with_reducible exact LeO.none _)
      | (with_reducible refine LeO.ite ?_ ?_)
      | (with_reducible refine LeO.bind ?_ (fun _ => ?_))
      | exact ih0 _ _ _
      | exact ih1 _ _ _ _ _ _ _
      | exact ih2 _ _ _ _ _ _
      | exact ih3 _ _ _ _ _
      | exact ih4 _ _ _ _ _ _ _
      | exact impl_DistancesFrom.mono _ _ _
      | exact impl_PulseScript.mono _ _ _ _
      | exact impl_ScriptFired.mono _ _ _ _ _ _
      | exact impl_ScriptOk.mono _ _ _
      | exact laws_alive.mono _
      | exact laws_sameLights.mono _ _ _
      | exact spec_DrawFireStep.mono _ _
      | exact spec_DrawPulseScript.mono _ _
      | exact spec_NetOk.mono _ _
      | exact spec_PulseScript.mono _ _ _ _
      | exact LeO.none _
      | refine LeO.ite ?_ ?_
      | refine LeO.bind ?_ (fun _ => ?_)
    · intro y0 y1 y2 y3 y4
      unfold laws_FnPulseScript.l0
      repeat' first
      | (with_reducible exact ih0 _ _ _)
      | (with_reducible exact ih1 _ _ _ _ _ _ _)
      | (with_reducible exact ih2 _ _ _ _ _ _)
      | (with_reducible exact ih3 _ _ _ _ _)
      | (with_reducible exact ih4 _ _ _ _ _ _ _)
      | (with_reducible exact impl_DistancesFrom.mono _ _ _)
      | (with_reducible exact impl_PulseScript.mono _ _ _ _)
      | (with_reducible exact impl_ScriptFired.mono _ _ _ _ _ _)
      | (with_reducible exact impl_ScriptOk.mono _ _ _)
      | (with_reducible exact laws_alive.mono _)
      | (with_reducible exact laws_sameLights.mono _ _ _)
      | (with_reducible exact spec_DrawFireStep.mono _ _)
      | (with_reducible exact spec_DrawPulseScript.mono _ _)
      | (with_reducible exact spec_NetOk.mono _ _)
      | (with_reducible exact spec_PulseScript.mono _ _ _ _)
      | (with_reducible exact LeO.refl _)
      | (with_reducible exact LeO.none _)
      | (with_reducible refine LeO.ite ?_ ?_)
      | (with_reducible refine LeO.bind ?_ (fun _ => ?_))
      | exact ih0 _ _ _
      | exact ih1 _ _ _ _ _ _ _
      | exact ih2 _ _ _ _ _ _
      | exact ih3 _ _ _ _ _
      | exact ih4 _ _ _ _ _ _ _
      | exact impl_DistancesFrom.mono _ _ _
      | exact impl_PulseScript.mono _ _ _ _
      | exact impl_ScriptFired.mono _ _ _ _ _ _
      | exact impl_ScriptOk.mono _ _ _
      | exact laws_alive.mono _
      | exact laws_sameLights.mono _ _ _
      | exact spec_DrawFireStep.mono _ _
      | exact spec_DrawPulseScript.mono _ _
      | exact spec_NetOk.mono _ _
      | exact spec_PulseScript.mono _ _ _ _
      | exact LeO.none _
      | refine LeO.ite ?_ ?_
      | refine LeO.bind ?_ (fun _ => ?_)
    · intro y0 y1 y2 y3 y4 y5 y6
      unfold laws_FnPulseScript.j4
      repeat' first
      | (with_reducible exact ih0 _ _ _)
      | (with_reducible exact ih1 _ _ _ _ _ _ _)
      | (with_reducible exact ih2 _ _ _ _ _ _)
      | (with_reducible exact ih3 _ _ _ _ _)
      | (with_reducible exact ih4 _ _ _ _ _ _ _)
      | (with_reducible exact impl_DistancesFrom.mono _ _ _)
      | (with_reducible exact impl_PulseScript.mono _ _ _ _)
      | (with_reducible exact impl_ScriptFired.mono _ _ _ _ _ _)
      | (with_reducible exact impl_ScriptOk.mono _ _ _)
      | (with_reducible exact laws_alive.mono _)
      | (with_reducible exact laws_sameLights.mono _ _ _)
      | (with_reducible exact spec_DrawFireStep.mono _ _)
      | (with_reducible exact spec_DrawPulseScript.mono _ _)
      | (with_reducible exact spec_NetOk.mono _ _)
      | (with_reducible exact spec_PulseScript.mono _ _ _ _)
      | (with_reducible exact LeO.refl _)
      | (with_reducible exact LeO.none _)
      | (with_reducible refine LeO.ite ?_ ?_)
      | (with_reducible refine LeO.bind ?_ (fun _ => ?_))
      | exact ih0 _ _ _
      | exact ih1 _ _ _ _ _ _ _
      | exact ih2 _ _ _ _ _ _
      | exact ih3 _ _ _ _ _
      | exact ih4 _ _ _ _ _ _ _
      | exact impl_DistancesFrom.mono _ _ _
      | exact impl_PulseScript.mono _ _ _ _
      | exact impl_ScriptFired.mono _ _ _ _ _ _
      | exact impl_ScriptOk.mono _ _ _
      | exact laws_alive.mono _
      | exact laws_sameLights.mono _ _ _
      | exact spec_DrawFireStep.mono _ _
      | exact spec_DrawPulseScript.mono _ _
      | exact spec_NetOk.mono _ _
      | exact spec_PulseScript.mono _ _ _ _
      | exact LeO.none _
      | refine LeO.ite ?_ ?_
      | refine LeO.bind ?_ (fun _ => ?_)
theorem laws_FnPulseScript.mono : ∀ a0 a1 k, LeO (laws_FnPulseScript.f k a0 a1) (laws_FnPulseScript.f (k + 1) a0 a1) := by
  intro a0 a1 k
  obtain ⟨ih0, ih1, ih2, ih3, ih4⟩ := laws_FnPulseScript.mono_l k
  unfold laws_FnPulseScript.f
  repeat' first
      | (with_reducible exact ih0 _ _ _)
      | (with_reducible exact ih1 _ _ _ _ _ _ _)
      | (with_reducible exact ih2 _ _ _ _ _ _)
      | (with_reducible exact ih3 _ _ _ _ _)
      | (with_reducible exact ih4 _ _ _ _ _ _ _)
      | (with_reducible exact impl_DistancesFrom.mono _ _ _)
      | (with_reducible exact impl_PulseScript.mono _ _ _ _)
      | (with_reducible exact impl_ScriptFired.mono _ _ _ _ _ _)
      | (with_reducible exact impl_ScriptOk.mono _ _ _)
      | (with_reducible exact laws_alive.mono _)
      | (with_reducible exact laws_sameLights.mono _ _ _)
      | (with_reducible exact spec_DrawFireStep.mono _ _)
      | (with_reducible exact spec_DrawPulseScript.mono _ _)
      | (with_reducible exact spec_NetOk.mono _ _)
      | (with_reducible exact spec_PulseScript.mono _ _ _ _)
      | (with_reducible exact LeO.refl _)
      | (with_reducible exact LeO.none _)
      | (with_reducible refine LeO.ite ?_ ?_)
      | (with_reducible refine LeO.bind ?_ (fun _ => ?_))
      | exact ih0 _ _ _
      | exact ih1 _ _ _ _ _ _ _
      | exact ih2 _ _ _ _ _ _
      | exact ih3 _ _ _ _ _
      | exact ih4 _ _ _ _ _ _ _
      | exact impl_DistancesFrom.mono _ _ _
      | exact impl_PulseScript.mono _ _ _ _
      | exact impl_ScriptFired.mono _ _ _ _ _ _
      | exact impl_ScriptOk.mono _ _ _
      | exact laws_alive.mono _
      | exact laws_sameLights.mono _ _ _
      | exact spec_DrawFireStep.mono _ _
      | exact spec_DrawPulseScript.mono _ _
      | exact spec_NetOk.mono _ _
      | exact spec_PulseScript.mono _ _ _ _
      | exact LeO.none _
      | refine LeO.ite ?_ ?_
      | refine LeO.bind ?_ (fun _ => ?_)
set_option maxHeartbeats 8000000 in
set_option maxRecDepth 100000 in
theorem laws_FnPulseScript.calls (k : Nat) (A0 : Option Addr) (c0 : Nat) (l0 : List Int) (A1 : Option Addr) (c1 : Nat) (l1 : List Int) (r : Bool) (w : World) (hr0 : Kd.C (Kd.int .u8) w A0 l0.length l0) (hc0 : l0.length ≤ c0) (hr1 : Kd.C (Kd.int .u8) w A1 l1.length l1) (hc1 : l1.length ≤ c1) (h : laws_FnPulseScript.f k l0 l1 = some r) :
    Calls Try.prog 14 #[.slice A0 l0.length c0, .slice A1 l1.length c1] w fun e w' => e = .returned (.bool r) ∧ Below w.heap.size w w' := by
  have HR0 := Aside0.mk hr0
  have HC0 := Aside0.mk hc0
  clear hr0 hc0
  have HR1 := Aside0.mk hr1
  have HC1 := Aside0.mk hc1
  clear hr1 hc1
  have HB := Aside0.mk (Below.refl w.heap.size w)
  have H : (if (l0.length : Int) > 1048576 then (laws_FnPulseScript.j0 k l0 l1 true) else (laws_FnPulseScript.j0 k l0 l1 (decide ((l1.length : Int) > 1048576)))) = some r := h
  clear h
  have HC3 := Aside0.mk H
  clear H
  go_enter Try.func14, Try.ntmps14
  go_upto_region 1 with (fail)
  go_cut [23] (fun v23 wc => ∃ (kq : Nat) (x23_2 : Bool), v23 = .bool x23_2 ∧ Aside0 (laws_FnPulseScript.j0 kq l0 l1 x23_2 = some r) ∧ Aside0 (kq ≤ k) ∧ Aside0 (Below w.heap.size w wc))
  case first =>
    have H := HC3.out
    clear HC3
    by_cases c4 : (l0.length : Int) > 1048576
    · rw [if_pos c4] at H
      have c4b0 : decide (1048576 < (l0.length : Int)) = true := decide_eq_true c4
      have c4b1 : decide (1048576 < l0.length) = true := decide_eq_true (by omega)
      clear c4
      (first | rw [c4b0] | (simp only [i64_w, i32_w]; rw [c4b0]) | skip)
      have H' := Aside0.mk H
      clear H
      go_wp2
      go_meet
      case rel => exact ⟨_, (true), (by first | rfl | (simp; done) | (simp [*]; done)), H', ⟨by first | omega | exact Nat.le_refl _⟩, ⟨zB HB.out⟩⟩
    · rw [if_neg c4] at H
      have c4b0 : decide (1048576 < (l0.length : Int)) = false := decide_eq_false c4
      have c4b1 : decide (1048576 < l0.length) = false := decide_eq_false (by omega)
      clear c4
      (first | rw [c4b0] | (simp only [i64_w, i32_w]; rw [c4b0]) | skip)
      have H' := Aside0.mk H
      clear H
      go_wp2
      go_meet
      case rel => exact ⟨_, (decide ((l1.length : Int) > 1048576)), (by first | rfl | (simp; done) | (simp [*]; done)), H', ⟨by first | omega | exact Nat.le_refl _⟩, ⟨zB HB.out⟩⟩
  case rest =>
    clear HC3
    try clear c1
    try clear p2
    try clear c4
    try clear c4b0
    try clear c4b1
    obtain ⟨kq, x23_2, rfl, HA, HJ2, HB⟩ := hcut
    cases kq with
    | zero => exact absurd HA.out (by simp [laws_FnPulseScript.j0])
    | succ kj2 =>
      have H := HA.out
      clear HA
      simp only [laws_FnPulseScript.j0] at H
      by_cases c5 : x23_2 = true
      · subst c5
        have H1 : (some true) = some r := by rw [if_pos rfl] at H; exact H
        clear H
        have H := H1
        clear H1
        obtain rfl := Option.some.inj H
        go_wp2
        go_ret
        exact ⟨by first | rfl | (simp [errW_none, errW_some] <;> rfl) | (simp [*, errW_none, errW_some] <;> rfl), zB HB.out⟩
      · replace c5 := Bool.eq_false_iff.mpr c5
        subst c5
        have H1 : ((spec_DrawPulseScript.f kj2 l0).bind fun bt1211 => ((impl_PulseScript.f kj2 bt1211.1 bt1211.2.1 bt1211.2.2).bind fun t1214 => ((spec_PulseScript.f kj2 bt1211.1 bt1211.2.1 bt1211.2.2).bind fun t1217 => ((laws_sameLights.f kj2 t1214 t1217).bind fun t1220 => (if t1220 = true then (if (t1214.length : Int) = 0 then ((laws_alive.f kj2).bind fun t1221 => (some t1221)) else ((spec_DrawFireStep.f kj2 l1).bind fun bt1222 => ((impl_ScriptOk.f kj2 6 t1214).bind fun t1229 => (if t1229 = true then (laws_FnPulseScript.j1 kj2 bt1211.1 bt1211.2.1 bt1211.2.2 t1214 bt1222.1 bt1222.2.1 ((t1214.length : Int) != bt1211.2.2)) else (laws_FnPulseScript.j1 kj2 bt1211.1 bt1211.2.1 bt1211.2.2 t1214 bt1222.1 bt1222.2.1 true))))) else (some false)))))) = some r := by rw [if_neg (show ¬ (false = true) by decide)] at H; exact H
        clear H
        have H := H1
        clear H1
        replace H := Option.bind_eq_some_iff.mp H
        obtain ⟨⟨t1211, t1212, t1213⟩, A60, H⟩ := H
        replace H : ((impl_PulseScript.f kj2 t1211 t1212 t1213).bind fun t1214 => ((spec_PulseScript.f kj2 t1211 t1212 t1213).bind fun t1217 => ((laws_sameLights.f kj2 t1214 t1217).bind fun t1220 => (if t1220 = true then (if (t1214.length : Int) = 0 then ((laws_alive.f kj2).bind fun t1221 => (some t1221)) else ((spec_DrawFireStep.f kj2 l1).bind fun bt1222 => ((impl_ScriptOk.f kj2 6 t1214).bind fun t1229 => (if t1229 = true then (laws_FnPulseScript.j1 kj2 t1211 t1212 t1213 t1214 bt1222.1 bt1222.2.1 ((t1214.length : Int) != t1213)) else (laws_FnPulseScript.j1 kj2 t1211 t1212 t1213 t1214 bt1222.1 bt1222.2.1 true))))) else (some false))))) = some r := H
        have A6 := Aside0.mk A60
        clear A60
        replace H := Option.bind_eq_some_iff.mp H
        obtain ⟨t1214, A70, H⟩ := H
        replace H : ((spec_PulseScript.f kj2 t1211 t1212 t1213).bind fun t1217 => ((laws_sameLights.f kj2 t1214 t1217).bind fun t1220 => (if t1220 = true then (if (t1214.length : Int) = 0 then ((laws_alive.f kj2).bind fun t1221 => (some t1221)) else ((spec_DrawFireStep.f kj2 l1).bind fun bt1222 => ((impl_ScriptOk.f kj2 6 t1214).bind fun t1229 => (if t1229 = true then (laws_FnPulseScript.j1 kj2 t1211 t1212 t1213 t1214 bt1222.1 bt1222.2.1 ((t1214.length : Int) != t1213)) else (laws_FnPulseScript.j1 kj2 t1211 t1212 t1213 t1214 bt1222.1 bt1222.2.1 true))))) else (some false)))) = some r := H
        have A7 := Aside0.mk A70
        clear A70
        replace H := Option.bind_eq_some_iff.mp H
        obtain ⟨t1217, A80, H⟩ := H
        replace H : ((laws_sameLights.f kj2 t1214 t1217).bind fun t1220 => (if t1220 = true then (if (t1214.length : Int) = 0 then ((laws_alive.f kj2).bind fun t1221 => (some t1221)) else ((spec_DrawFireStep.f kj2 l1).bind fun bt1222 => ((impl_ScriptOk.f kj2 6 t1214).bind fun t1229 => (if t1229 = true then (laws_FnPulseScript.j1 kj2 t1211 t1212 t1213 t1214 bt1222.1 bt1222.2.1 ((t1214.length : Int) != t1213)) else (laws_FnPulseScript.j1 kj2 t1211 t1212 t1213 t1214 bt1222.1 bt1222.2.1 true))))) else (some false))) = some r := H
        have A8 := Aside0.mk A80
        clear A80
        replace H := Option.bind_eq_some_iff.mp H
        obtain ⟨t1220, A90, H⟩ := H
        replace H : (if t1220 = true then (if (t1214.length : Int) = 0 then ((laws_alive.f kj2).bind fun t1221 => (some t1221)) else ((spec_DrawFireStep.f kj2 l1).bind fun bt1222 => ((impl_ScriptOk.f kj2 6 t1214).bind fun t1229 => (if t1229 = true then (laws_FnPulseScript.j1 kj2 t1211 t1212 t1213 t1214 bt1222.1 bt1222.2.1 ((t1214.length : Int) != t1213)) else (laws_FnPulseScript.j1 kj2 t1211 t1212 t1213 t1214 bt1222.1 bt1222.2.1 true))))) else (some false)) = some r := H
        have A9 := Aside0.mk A90
        clear A90
        by_cases c10 : t1220 = true
        · subst c10
          have H1 : (if (t1214.length : Int) = 0 then ((laws_alive.f kj2).bind fun t1221 => (some t1221)) else ((spec_DrawFireStep.f kj2 l1).bind fun bt1222 => ((impl_ScriptOk.f kj2 6 t1214).bind fun t1229 => (if t1229 = true then (laws_FnPulseScript.j1 kj2 t1211 t1212 t1213 t1214 bt1222.1 bt1222.2.1 ((t1214.length : Int) != t1213)) else (laws_FnPulseScript.j1 kj2 t1211 t1212 t1213 t1214 bt1222.1 bt1222.2.1 true))))) = some r := by rw [if_pos rfl] at H; exact H
          clear H
          have H := H1
          clear H1
          by_cases c11 : (t1214.length : Int) = 0
          · rw [if_pos c11] at H
            have c11b0 : ((t1214.length : Int) == 0) = true := beq_iff_eq.mpr c11
            have c11b1 : ((t1214.length : Int) != 0) = false := bne_eq_false_iff_eq.mpr c11
            clear c11
            replace H := Option.bind_eq_some_iff.mp H
            obtain ⟨t1221, A120, H⟩ := H
            replace H : (some t1221) = some r := H
            have A12 := Aside0.mk A120
            clear A120
            obtain rfl := Option.some.inj H
            go_wp2_with (first | ((with_reducible refine gate_callee (f := 57) rfl ?_); refine goesL_ (some 26) rfl rfl Try.func57 (by kernel_rfl) rfl #[.slice A0 l0.length c0] rfl zA ?_; (with_reducible refine (spec_DrawPulseScript.calls kj2 _ _ l0 t1211 t1212 t1213 _ ?side1 ?side2 A6.out).mono ?_); (case side1 => exact zC (Kd.C_below HR0.out HB.out)); (case side2 => exact HC0.out); rintro e w13 ⟨rfl, hb⟩; refine ⟨_, rfl, ?_⟩; have n0_ := Aside0.mk (below_step (zB HB.out) hb); clear HB; have HB := n0_; clear n0_; (try clear hb); (try clear hb2); (try clear hk); (try clear hi)) | ((with_reducible refine gate_callee (f := 58) rfl ?_); refine goesL_ (some 33) rfl rfl Try.func58 (by kernel_rfl) rfl #[.int .i64 t1211, .int .i64 t1212, .int .i64 t1213] rfl zA ?_; (with_reducible refine (impl_PulseScript.calls kj2 t1211 t1212 t1213 t1214 _ A7.out).mono ?_); rintro e w14 ⟨v1215, rfl, ho0, hb⟩; refine ⟨_, rfl, ?_⟩; have n0_ := Aside0.mk (Kd.R_lower ho0 (below_size (zB HB.out))); have n1_ := Aside0.mk (below_step (zB HB.out) hb); clear HB; have HO1216 := n0_; have HB := n1_; clear n0_ n1_; (try clear hb); (try clear hb2); (try clear hk); (try clear hi); (try clear ho0)) | ((with_reducible refine gate_callee (f := 60) rfl ?_); refine goesL_ (some 38) rfl rfl Try.func60 (by kernel_rfl) rfl #[.int .i64 t1211, .int .i64 t1212, .int .i64 t1213] rfl zA ?_; (with_reducible refine (spec_PulseScript.calls kj2 t1211 t1212 t1213 t1217 _ A8.out).mono ?_); rintro e w15 ⟨v1218, rfl, ho0, hb⟩; refine ⟨_, rfl, ?_⟩; have n0_ := Aside0.mk (Kd.R_elder' (zR HO1216.out) (Kd.R_base ho0) hb); have n1_ := Aside0.mk (Kd.R_lower (Kd.R_new' ho0 (Kd.R_lt (zR HO1216.out))) (below_size (zB HB.out))); have n2_ := Aside0.mk (below_step (zB HB.out) hb); clear HO1216; clear HB; have HO1216 := n0_; have HO1219 := n1_; have HB := n2_; clear n0_ n1_ n2_; (try clear hb); (try clear hb2); (try clear hk); (try clear hi); (try clear ho0); obtain ⟨Ao16, co16, eo16⟩ := Kd.R_slice HO1216.out; subst eo16; obtain ⟨Ao17, co17, eo17⟩ := Kd.R_slice HO1219.out; subst eo17) | ((with_reducible refine gate_callee (f := 59) rfl ?_); refine goesL_ (some 39) rfl rfl Try.func59 (by kernel_rfl) rfl #[.slice Ao16 t1214.length co16, .slice Ao17 t1217.length co17] rfl zA ?_; (with_reducible refine (laws_sameLights.calls kj2 _ _ t1214 _ _ t1217 true _ ?side1 ?side2 ?side3 ?side4 A9.out).mono ?_); (case side1 => exact zC (Kd.R_reads' HO1216.out).2.2); (case side2 => exact (Kd.R_reads' HO1216.out).2.1); (case side3 => exact zC (Kd.R_reads' HO1219.out).2.2); (case side4 => exact (Kd.R_reads' HO1219.out).2.1); rintro e w' ⟨rfl, ⟨nd, rfl⟩⟩; refine ⟨_, rfl, ?_⟩) | ((with_reducible refine gate_callee (f := 18) rfl ?_); refine goesL_ (some 44) rfl rfl Try.func18 (by kernel_rfl) rfl #[] rfl zA ?_; (with_reducible refine (laws_alive.calls kj2  t1221 _ A12.out).mono ?_); rintro e w18 ⟨rfl, hb⟩; refine ⟨_, rfl, ?_⟩; have n0_ := Aside0.mk (Kd.R_below (zR HO1216.out) hb); have n1_ := Aside0.mk (Kd.R_below (zR HO1219.out) hb); have n2_ := Aside0.mk (below_step (zB HB.out) hb); clear HO1216; clear HO1219; clear HB; have HO1216 := n0_; have HO1219 := n1_; have HB := n2_; clear n0_ n1_ n2_; (try clear hb); (try clear hb2); (try clear hk); (try clear hi)))
            go_ret
            exact ⟨by first | rfl | (simp [errW_none, errW_some] <;> rfl) | (simp [*, errW_none, errW_some] <;> rfl), zB HB.out⟩
          · rw [if_neg c11] at H
            have c11b0 : ((t1214.length : Int) == 0) = false := beq_eq_false_iff_ne.mpr c11
            have c11b1 : ((t1214.length : Int) != 0) = true := bne_iff_ne.mpr c11
            have c11b2 : ¬ (t1214 = []) := fun h_ => c11 (by rw [h_]; rfl)
            replace H := Option.bind_eq_some_iff.mp H
            obtain ⟨⟨t1222, t1223, t1224⟩, A190, H⟩ := H
            replace H : ((impl_ScriptOk.f kj2 6 t1214).bind fun t1229 => (if t1229 = true then (laws_FnPulseScript.j1 kj2 t1211 t1212 t1213 t1214 t1222 t1223 ((t1214.length : Int) != t1213)) else (laws_FnPulseScript.j1 kj2 t1211 t1212 t1213 t1214 t1222 t1223 true))) = some r := H
            have A19 := Aside0.mk A190
            clear A190
            have HC20 := Aside0.mk H
            clear H
            go_upto_region 10 with (first | ((with_reducible refine gate_callee (f := 57) rfl ?_); refine goesL_ (some 26) rfl rfl Try.func57 (by kernel_rfl) rfl #[.slice A0 l0.length c0] rfl zA ?_; (with_reducible refine (spec_DrawPulseScript.calls kj2 _ _ l0 t1211 t1212 t1213 _ ?side1 ?side2 A6.out).mono ?_); (case side1 => exact zC (Kd.C_below HR0.out HB.out)); (case side2 => exact HC0.out); rintro e w21 ⟨rfl, hb⟩; refine ⟨_, rfl, ?_⟩; have n0_ := Aside0.mk (below_step (zB HB.out) hb); clear HB; have HB := n0_; clear n0_; (try clear hb); (try clear hb2); (try clear hk); (try clear hi)) | ((with_reducible refine gate_callee (f := 58) rfl ?_); refine goesL_ (some 33) rfl rfl Try.func58 (by kernel_rfl) rfl #[.int .i64 t1211, .int .i64 t1212, .int .i64 t1213] rfl zA ?_; (with_reducible refine (impl_PulseScript.calls kj2 t1211 t1212 t1213 t1214 _ A7.out).mono ?_); rintro e w22 ⟨v1215, rfl, ho0, hb⟩; refine ⟨_, rfl, ?_⟩; have n0_ := Aside0.mk (Kd.R_lower ho0 (below_size (zB HB.out))); have n1_ := Aside0.mk (below_step (zB HB.out) hb); clear HB; have HO1216 := n0_; have HB := n1_; clear n0_ n1_; (try clear hb); (try clear hb2); (try clear hk); (try clear hi); (try clear ho0)) | ((with_reducible refine gate_callee (f := 60) rfl ?_); refine goesL_ (some 38) rfl rfl Try.func60 (by kernel_rfl) rfl #[.int .i64 t1211, .int .i64 t1212, .int .i64 t1213] rfl zA ?_; (with_reducible refine (spec_PulseScript.calls kj2 t1211 t1212 t1213 t1217 _ A8.out).mono ?_); rintro e w23 ⟨v1218, rfl, ho0, hb⟩; refine ⟨_, rfl, ?_⟩; have n0_ := Aside0.mk (Kd.R_elder' (zR HO1216.out) (Kd.R_base ho0) hb); have n1_ := Aside0.mk (Kd.R_lower (Kd.R_new' ho0 (Kd.R_lt (zR HO1216.out))) (below_size (zB HB.out))); have n2_ := Aside0.mk (below_step (zB HB.out) hb); clear HO1216; clear HB; have HO1216 := n0_; have HO1219 := n1_; have HB := n2_; clear n0_ n1_ n2_; (try clear hb); (try clear hb2); (try clear hk); (try clear hi); (try clear ho0); obtain ⟨Ao24, co24, eo24⟩ := Kd.R_slice HO1216.out; subst eo24; obtain ⟨Ao25, co25, eo25⟩ := Kd.R_slice HO1219.out; subst eo25) | ((with_reducible refine gate_callee (f := 59) rfl ?_); refine goesL_ (some 39) rfl rfl Try.func59 (by kernel_rfl) rfl #[.slice Ao24 t1214.length co24, .slice Ao25 t1217.length co25] rfl zA ?_; (with_reducible refine (laws_sameLights.calls kj2 _ _ t1214 _ _ t1217 true _ ?side1 ?side2 ?side3 ?side4 A9.out).mono ?_); (case side1 => exact zC (Kd.R_reads' HO1216.out).2.2); (case side2 => exact (Kd.R_reads' HO1216.out).2.1); (case side3 => exact zC (Kd.R_reads' HO1219.out).2.2); (case side4 => exact (Kd.R_reads' HO1219.out).2.1); rintro e w' ⟨rfl, ⟨nd, rfl⟩⟩; refine ⟨_, rfl, ?_⟩) | ((with_reducible refine gate_callee (f := 61) rfl ?_); refine goesL_ (some 47) rfl rfl Try.func61 (by kernel_rfl) rfl #[.slice A1 l1.length c1] rfl zA ?_; (with_reducible refine (spec_DrawFireStep.calls kj2 _ _ l1 t1222 t1223 t1224 _ ?side1 ?side2 A19.out).mono ?_); (case side1 => exact zC (Kd.C_below HR1.out (zB HB.out))); (case side2 => exact HC1.out); rintro e w26 ⟨v1225, v1227, rfl, ho0, ho1, hb⟩; refine ⟨_, rfl, ?_⟩; have n0_ := Aside0.mk (Kd.R_below (zR HO1216.out) hb); have n1_ := Aside0.mk (Kd.R_below (zR HO1219.out) hb); have n2_ := Aside0.mk (Kd.R_lower ho0 (below_size (zB HB.out))); have n3_ := Aside0.mk (Kd.R_lower ho1 (below_size (zB HB.out))); have n4_ := Aside0.mk (below_step (zB HB.out) hb); clear HO1216; clear HO1219; clear HB; have HO1216 := n0_; have HO1219 := n1_; have HO1226 := n2_; have HO1228 := n3_; have HB := n4_; clear n0_ n1_ n2_ n3_ n4_; (try clear hb); (try clear hb2); (try clear hk); (try clear hi); (try clear ho0); (try clear ho1)))
            (try simp only [Act.put, List.setIfInBounds_toArray, List.set_cons_zero, List.set_cons_succ])
            go_cut [59] (fun v59 wc => ∃ (kq : Nat) (x59_19 : Bool), v59 = .bool x59_19 ∧ Aside0 (laws_FnPulseScript.j1 kq t1211 t1212 t1213 t1214 t1222 t1223 x59_19 = some r) ∧ Aside0 (kq ≤ kj2) ∧ Aside0 (Kd.R k64 64 wc w.heap.size (fun _ => True) (.slice Ao24 t1214.length co24) t1214) ∧ Aside0 (Kd.R (Kd.int .i64) 3 wc w.heap.size (fun _ => True) v1225 t1222) ∧ Aside0 (Below w.heap.size w wc))
            case first =>
              have H := HC20.out
              clear HC20
              replace H := Option.bind_eq_some_iff.mp H
              obtain ⟨t1229, A270, H⟩ := H
              replace H : (if t1229 = true then (laws_FnPulseScript.j1 kj2 t1211 t1212 t1213 t1214 t1222 t1223 ((t1214.length : Int) != t1213)) else (laws_FnPulseScript.j1 kj2 t1211 t1212 t1213 t1214 t1222 t1223 true)) = some r := H
              have A27 := Aside0.mk A270
              clear A270
              by_cases c28 : t1229 = true
              · subst c28
                have H1 : (laws_FnPulseScript.j1 kj2 t1211 t1212 t1213 t1214 t1222 t1223 ((t1214.length : Int) != t1213)) = some r := by rw [if_pos rfl] at H; exact H
                clear H
                have H := H1
                clear H1
                have H' := Aside0.mk H
                clear H
                go_wp2_with (first | ((with_reducible refine gate_callee (f := 53) rfl ?_); refine goesL_ (some 52) rfl rfl Try.func53 (by kernel_rfl) rfl #[.int .i64 6, .slice Ao24 t1214.length co24] rfl zA ?_; (with_reducible refine (impl_ScriptOk.calls kj2 6 _ _ t1214 true _ ?side1 ?side2 A27.out).mono ?_); (case side1 => exact zC (Kd.R_reads' HO1216.out).2.2); (case side2 => exact (Kd.R_reads' HO1216.out).2.1); rintro e w29 ⟨rfl, hb⟩; refine ⟨_, rfl, ?_⟩; have n0_ := Aside0.mk (Kd.R_below (zR HO1216.out) hb); have n1_ := Aside0.mk (Kd.R_below (zR HO1219.out) hb); have n2_ := Aside0.mk (Kd.R_below (zR HO1226.out) hb); have n3_ := Aside0.mk (Kd.R_below (zR HO1228.out) hb); have n4_ := Aside0.mk (below_step (zB HB.out) hb); clear HO1216; clear HO1219; clear HO1226; clear HO1228; clear HB; have HO1216 := n0_; have HO1219 := n1_; have HO1226 := n2_; have HO1228 := n3_; have HB := n4_; clear n0_ n1_ n2_ n3_ n4_; (try clear hb); (try clear hb2); (try clear hk); (try clear hi)))
                go_meet
                case rel => exact ⟨_, (((t1214.length : Int) != t1213)), (by first | rfl | (simp; done) | (simp [*]; done)), H', ⟨by have := HJ2.out; first | omega | exact Nat.le_refl _⟩, ⟨by (with_reducible repeat (first | apply Kd.R_alloc | apply Kd.R_drewN | apply Kd.R_drew)); exact Kd.R_mono HO1216.out (fun _ hk => trivial)⟩, ⟨by (with_reducible repeat (first | apply Kd.R_alloc | apply Kd.R_drewN | apply Kd.R_drew)); exact Kd.R_mono HO1226.out (fun _ hk => trivial)⟩, ⟨zB HB.out⟩⟩
              · replace c28 := Bool.eq_false_iff.mpr c28
                subst c28
                have H1 : (laws_FnPulseScript.j1 kj2 t1211 t1212 t1213 t1214 t1222 t1223 true) = some r := by rw [if_neg (show ¬ (false = true) by decide)] at H; exact H
                clear H
                have H := H1
                clear H1
                have H' := Aside0.mk H
                clear H
                go_wp2_with (first | ((with_reducible refine gate_callee (f := 53) rfl ?_); refine goesL_ (some 52) rfl rfl Try.func53 (by kernel_rfl) rfl #[.int .i64 6, .slice Ao24 t1214.length co24] rfl zA ?_; (with_reducible refine (impl_ScriptOk.calls kj2 6 _ _ t1214 false _ ?side1 ?side2 A27.out).mono ?_); (case side1 => exact zC (Kd.R_reads' HO1216.out).2.2); (case side2 => exact (Kd.R_reads' HO1216.out).2.1); rintro e w30 ⟨rfl, hb⟩; refine ⟨_, rfl, ?_⟩; have n0_ := Aside0.mk (Kd.R_below (zR HO1216.out) hb); have n1_ := Aside0.mk (Kd.R_below (zR HO1219.out) hb); have n2_ := Aside0.mk (Kd.R_below (zR HO1226.out) hb); have n3_ := Aside0.mk (Kd.R_below (zR HO1228.out) hb); have n4_ := Aside0.mk (below_step (zB HB.out) hb); clear HO1216; clear HO1219; clear HO1226; clear HO1228; clear HB; have HO1216 := n0_; have HO1219 := n1_; have HO1226 := n2_; have HO1228 := n3_; have HB := n4_; clear n0_ n1_ n2_ n3_ n4_; (try clear hb); (try clear hb2); (try clear hk); (try clear hi)))
                go_meet
                case rel => exact ⟨_, (true), (by first | rfl | (simp; done) | (simp [*]; done)), H', ⟨by have := HJ2.out; first | omega | exact Nat.le_refl _⟩, ⟨by (with_reducible repeat (first | apply Kd.R_alloc | apply Kd.R_drewN | apply Kd.R_drew)); exact Kd.R_mono HO1216.out (fun _ hk => trivial)⟩, ⟨by (with_reducible repeat (first | apply Kd.R_alloc | apply Kd.R_drewN | apply Kd.R_drew)); exact Kd.R_mono HO1226.out (fun _ hk => trivial)⟩, ⟨zB HB.out⟩⟩
            case rest =>
              clear HC20
              try clear c1
              try clear c2
              try clear p2
              try clear c4
              try clear c4b0
              try clear c4b1
              try clear c5
              try clear c6
              try clear c10
              try clear c11
              try clear c11b0
              try clear c11b1
              try clear c11b2
              try clear c14
              try clear c18
              try clear c28
              try clear p2
              obtain ⟨kq, x59_19, rfl, HA, HJ19, HO_8, HO_9, HB⟩ := hcut
              cases kq with
              | zero => exact absurd HA.out (by simp [laws_FnPulseScript.j1])
              | succ kj19 =>
                have H := HA.out
                clear HA
                simp only [laws_FnPulseScript.j1] at H
                by_cases c31 : x59_19 = true
                · subst c31
                  have H1 : (some false) = some r := by rw [if_pos rfl] at H; exact H
                  clear H
                  have H := H1
                  clear H1
                  obtain rfl := Option.some.inj H
                  go_wp2
                  go_ret
                  exact ⟨by first | rfl | (simp [errW_none, errW_some] <;> rfl) | (simp [*, errW_none, errW_some] <;> rfl), zB HB.out⟩
                · replace c31 := Bool.eq_false_iff.mpr c31
                  subst c31
                  have H1 : ((spec_NetOk.f kj19 t1222).bind fun t1230 => (if t1230 = true then (if t1211 ≥ (t1222.length : Int) then (laws_FnPulseScript.j2 kj19 t1211 t1213 t1214 t1222 t1223 true) else (if t1212 < t1223 then (laws_FnPulseScript.j2 kj19 t1211 t1213 t1214 t1222 t1223 true) else (laws_FnPulseScript.j2 kj19 t1211 t1213 t1214 t1222 t1223 (decide ((wrap64 ((wrap64 (t1212 * (wrap64 (t1213 - 1)))) + (t1222.length : Int))) > 60))))) else (laws_FnPulseScript.j2 kj19 t1211 t1213 t1214 t1222 t1223 true))) = some r := by rw [if_neg (show ¬ (false = true) by decide)] at H; exact H
                  clear H
                  have H := H1
                  clear H1
                  have HC32 := Aside0.mk H
                  clear H
                  go_upto_region 12 with (fail)
                  go_cut [83] (fun v83 wc => ∃ (kq : Nat) (x83_31 : Bool), v83 = .bool x83_31 ∧ Aside0 (laws_FnPulseScript.j2 kq t1211 t1213 t1214 t1222 t1223 x83_31 = some r) ∧ Aside0 (kq ≤ kj19) ∧ Aside0 (Kd.R k64 64 wc w.heap.size (fun _ => True) (.slice Ao24 t1214.length co24) t1214) ∧ Aside0 (Kd.R (Kd.int .i64) 3 wc w.heap.size (fun _ => True) v1225 t1222) ∧ Aside0 (Below w.heap.size w wc))
                  case first =>
                    have H := HC32.out
                    clear HC32
                    replace H := Option.bind_eq_some_iff.mp H
                    obtain ⟨t1230, A330, H⟩ := H
                    replace H : (if t1230 = true then (if t1211 ≥ (t1222.length : Int) then (laws_FnPulseScript.j2 kj19 t1211 t1213 t1214 t1222 t1223 true) else (if t1212 < t1223 then (laws_FnPulseScript.j2 kj19 t1211 t1213 t1214 t1222 t1223 true) else (laws_FnPulseScript.j2 kj19 t1211 t1213 t1214 t1222 t1223 (decide ((wrap64 ((wrap64 (t1212 * (wrap64 (t1213 - 1)))) + (t1222.length : Int))) > 60))))) else (laws_FnPulseScript.j2 kj19 t1211 t1213 t1214 t1222 t1223 true)) = some r := H
                    have A33 := Aside0.mk A330
                    clear A330
                    by_cases c34 : t1230 = true
                    · subst c34
                      have H1 : (if t1211 ≥ (t1222.length : Int) then (laws_FnPulseScript.j2 kj19 t1211 t1213 t1214 t1222 t1223 true) else (if t1212 < t1223 then (laws_FnPulseScript.j2 kj19 t1211 t1213 t1214 t1222 t1223 true) else (laws_FnPulseScript.j2 kj19 t1211 t1213 t1214 t1222 t1223 (decide ((wrap64 ((wrap64 (t1212 * (wrap64 (t1213 - 1)))) + (t1222.length : Int))) > 60))))) = some r := by rw [if_pos rfl] at H; exact H
                      clear H
                      have H := H1
                      clear H1
                      by_cases c35 : t1211 ≥ (t1222.length : Int)
                      · rw [if_pos c35] at H
                        have c35b0 : decide ((t1222.length : Int) ≤ t1211) = true := decide_eq_true c35
                        clear c35
                        (first | rw [c35b0] | (simp only [i64_w, i32_w]; rw [c35b0]) | skip)
                        have H' := Aside0.mk H
                        clear H
                        obtain ⟨Ao36, co36, eo36⟩ := Kd.R_slice HO_9.out
                        subst eo36
                        go_wp2_with (first | ((with_reducible refine gate_callee (f := 62) rfl ?_); refine goesL_ (some 61) rfl rfl Try.func62 (by kernel_rfl) rfl #[.slice Ao36 t1222.length co36] rfl zA ?_; (with_reducible refine (spec_NetOk.calls kj19 _ _ t1222 true _ ?side1 ?side2 A33.out).mono ?_); (case side1 => exact zC (Kd.R_reads' HO_9.out).2.2); (case side2 => exact (Kd.R_reads' HO_9.out).2.1); rintro e w' ⟨rfl, ⟨nd, rfl⟩⟩; refine ⟨_, rfl, ?_⟩))
                        go_meet
                        case rel => exact ⟨_, (true), (by first | rfl | (simp; done) | (simp [*]; done)), H', ⟨by have := HJ2.out; have := HJ19.out; first | omega | exact Nat.le_refl _⟩, ⟨by (with_reducible repeat (first | apply Kd.R_alloc | apply Kd.R_drewN | apply Kd.R_drew)); exact HO_8.out⟩, ⟨by (with_reducible repeat (first | apply Kd.R_alloc | apply Kd.R_drewN | apply Kd.R_drew)); exact HO_9.out⟩, ⟨zB HB.out⟩⟩
                      · rw [if_neg c35] at H
                        have c35b0 : decide ((t1222.length : Int) ≤ t1211) = false := decide_eq_false c35
                        clear c35
                        (first | rw [c35b0] | (simp only [i64_w, i32_w]; rw [c35b0]) | skip)
                        by_cases c37 : t1212 < t1223
                        · rw [if_pos c37] at H
                          have c37b0 : decide (t1212 < t1223) = true := decide_eq_true c37
                          clear c37
                          have H' := Aside0.mk H
                          clear H
                          obtain ⟨Ao38, co38, eo38⟩ := Kd.R_slice HO_9.out
                          subst eo38
                          go_wp2_with (first | ((with_reducible refine gate_callee (f := 62) rfl ?_); refine goesL_ (some 61) rfl rfl Try.func62 (by kernel_rfl) rfl #[.slice Ao38 t1222.length co38] rfl zA ?_; (with_reducible refine (spec_NetOk.calls kj19 _ _ t1222 true _ ?side1 ?side2 A33.out).mono ?_); (case side1 => exact zC (Kd.R_reads' HO_9.out).2.2); (case side2 => exact (Kd.R_reads' HO_9.out).2.1); rintro e w' ⟨rfl, ⟨nd, rfl⟩⟩; refine ⟨_, rfl, ?_⟩))
                          go_meet
                          case rel => exact ⟨_, (true), (by first | rfl | (simp; done) | (simp [*]; done)), H', ⟨by have := HJ2.out; have := HJ19.out; first | omega | exact Nat.le_refl _⟩, ⟨by (with_reducible repeat (first | apply Kd.R_alloc | apply Kd.R_drewN | apply Kd.R_drew)); exact HO_8.out⟩, ⟨by (with_reducible repeat (first | apply Kd.R_alloc | apply Kd.R_drewN | apply Kd.R_drew)); exact HO_9.out⟩, ⟨zB HB.out⟩⟩
                        · rw [if_neg c37] at H
                          have c37b0 : decide (t1212 < t1223) = false := decide_eq_false c37
                          clear c37
                          have H' := Aside0.mk H
                          clear H
                          obtain ⟨Ao39, co39, eo39⟩ := Kd.R_slice HO_9.out
                          subst eo39
                          go_wp2_with (first | ((with_reducible refine gate_callee (f := 62) rfl ?_); refine goesL_ (some 61) rfl rfl Try.func62 (by kernel_rfl) rfl #[.slice Ao39 t1222.length co39] rfl zA ?_; (with_reducible refine (spec_NetOk.calls kj19 _ _ t1222 true _ ?side1 ?side2 A33.out).mono ?_); (case side1 => exact zC (Kd.R_reads' HO_9.out).2.2); (case side2 => exact (Kd.R_reads' HO_9.out).2.1); rintro e w' ⟨rfl, ⟨nd, rfl⟩⟩; refine ⟨_, rfl, ?_⟩))
                          go_meet
                          case rel => exact ⟨_, (decide ((wrap64 ((wrap64 (t1212 * (wrap64 (t1213 - 1)))) + (t1222.length : Int))) > 60)), (by first | rfl | (simp; done) | (simp [*]; done)), H', ⟨by have := HJ2.out; have := HJ19.out; first | omega | exact Nat.le_refl _⟩, ⟨by (with_reducible repeat (first | apply Kd.R_alloc | apply Kd.R_drewN | apply Kd.R_drew)); exact HO_8.out⟩, ⟨by (with_reducible repeat (first | apply Kd.R_alloc | apply Kd.R_drewN | apply Kd.R_drew)); exact HO_9.out⟩, ⟨zB HB.out⟩⟩
                    · replace c34 := Bool.eq_false_iff.mpr c34
                      subst c34
                      have H1 : (laws_FnPulseScript.j2 kj19 t1211 t1213 t1214 t1222 t1223 true) = some r := by rw [if_neg (show ¬ (false = true) by decide)] at H; exact H
                      clear H
                      have H := H1
                      clear H1
                      have H' := Aside0.mk H
                      clear H
                      obtain ⟨Ao40, co40, eo40⟩ := Kd.R_slice HO_9.out
                      subst eo40
                      go_wp2_with (first | ((with_reducible refine gate_callee (f := 62) rfl ?_); refine goesL_ (some 61) rfl rfl Try.func62 (by kernel_rfl) rfl #[.slice Ao40 t1222.length co40] rfl zA ?_; (with_reducible refine (spec_NetOk.calls kj19 _ _ t1222 false _ ?side1 ?side2 A33.out).mono ?_); (case side1 => exact zC (Kd.R_reads' HO_9.out).2.2); (case side2 => exact (Kd.R_reads' HO_9.out).2.1); rintro e w' ⟨rfl, ⟨nd, rfl⟩⟩; refine ⟨_, rfl, ?_⟩))
                      go_meet
                      case rel => exact ⟨_, (true), (by first | rfl | (simp; done) | (simp [*]; done)), H', ⟨by have := HJ2.out; have := HJ19.out; first | omega | exact Nat.le_refl _⟩, ⟨by (with_reducible repeat (first | apply Kd.R_alloc | apply Kd.R_drewN | apply Kd.R_drew)); exact HO_8.out⟩, ⟨by (with_reducible repeat (first | apply Kd.R_alloc | apply Kd.R_drewN | apply Kd.R_drew)); exact HO_9.out⟩, ⟨zB HB.out⟩⟩
                  case rest =>
                    clear HC32
                    try clear c1
                    try clear c2
                    try clear p2
                    try clear c3
                    try clear c4
                    try clear c4b0
                    try clear c4b1
                    try clear c5
                    try clear c6
                    try clear p6
                    try clear c10
                    try clear c11
                    try clear c11b0
                    try clear c11b1
                    try clear c11b2
                    try clear c14
                    try clear c18
                    try clear c28
                    try clear c31
                    try clear c34
                    try clear c35
                    try clear c35b0
                    try clear c37
                    try clear c37b0
                    try clear p2
                    obtain ⟨kq, x83_31, rfl, HA, HJ31, HO_8, HO_9, HB⟩ := hcut
                    cases kq with
                    | zero => exact absurd HA.out (by simp [laws_FnPulseScript.j2])
                    | succ kj31 =>
                      have H := HA.out
                      clear HA
                      simp only [laws_FnPulseScript.j2] at H
                      by_cases c41 : x83_31 = true
                      · subst c41
                        have H1 : (some true) = some r := by rw [if_pos rfl] at H; exact H
                        clear H
                        have H := H1
                        clear H1
                        obtain rfl := Option.some.inj H
                        go_wp2
                        go_ret
                        exact ⟨by first | rfl | (simp [errW_none, errW_some] <;> rfl) | (simp [*, errW_none, errW_some] <;> rfl), zB HB.out⟩
                      · replace c41 := Bool.eq_false_iff.mpr c41
                        subst c41
                        have H1 : (if 0 ≤ (t1222.length : Int) then (if ((t1222.length : Int) : Int).toNat ≤ 35184372088832 then ((impl_ScriptFired.f kj31 t1222 t1223 (List.replicate ((t1222.length : Int) : Int).toNat 0) t1214 60).bind fun t1234 => (if 0 ≤ t1211 then ((impl_DistancesFrom.f kj31 t1222 (shl .i64 1 t1211)).bind fun t1237 => (laws_FnPulseScript.l0 kj31 t1213 t1222 t1234 t1237 0)) else (none))) else (none)) else (none)) = some r := by rw [if_neg (show ¬ (false = true) by decide)] at H; exact H
                        clear H
                        have H := H1
                        clear H1
                        by_cases c42 : 0 ≤ (t1222.length : Int)
                        · rw [if_pos c42] at H
                          have c42b0 := eq_true c42
                          have c42b1 : decide (0 ≤ (t1222.length : Int)) = true := decide_eq_true c42
                          clear c42
                          by_cases c43 : ((t1222.length : Int) : Int).toNat ≤ 35184372088832
                          · rw [if_pos c43] at H
                            have c43b0 := eq_true c43
                            have c43b1 : decide (((t1222.length : Int) : Int).toNat ≤ 35184372088832) = true := decide_eq_true c43
                            clear c43
                            obtain ⟨y1231, hy1231⟩ : ∃ y_ : List Int, y_ = (List.replicate ((t1222.length : Int) : Int).toNat 0) := ⟨_, rfl⟩
                            replace H : ((impl_ScriptFired.f kj31 t1222 t1223 y1231 t1214 60).bind fun t1234 => (if 0 ≤ t1211 then ((impl_DistancesFrom.f kj31 t1222 (shl .i64 1 t1211)).bind fun t1237 => (laws_FnPulseScript.l0 kj31 t1213 t1222 t1234 t1237 0)) else (none))) = some r := by first | (rw [hy1231]; with_reducible exact H) | (have H2_ := (Option.bind_some _ _).symm.trans H; rw [hy1231]; with_reducible exact H2_) | (have H2_ := (Option.bind_some _ _).symm.trans H; with_reducible exact H2_) | with_reducible exact H | (rw [hy1231]; exact H) | exact H
                            have Ny1231 := Aside0.mk hy1231
                            clear hy1231
                            replace H := Option.bind_eq_some_iff.mp H
                            obtain ⟨t1234, A440, H⟩ := H
                            replace H : (if 0 ≤ t1211 then ((impl_DistancesFrom.f kj31 t1222 (shl .i64 1 t1211)).bind fun t1237 => (laws_FnPulseScript.l0 kj31 t1213 t1222 t1234 t1237 0)) else (none)) = some r := H
                            have A44 := Aside0.mk A440
                            clear A440
                            by_cases c45 : 0 ≤ t1211
                            · rw [if_pos c45] at H
                              have c45b0 := eq_true c45
                              have c45b1 : decide (0 ≤ t1211) = true := decide_eq_true c45
                              clear c45
                              obtain ⟨ji46, hji46⟩ : ∃ j_ : Int, (shl .i64 1 t1211) = j_ := ⟨_, rfl⟩
                              replace H : ((impl_DistancesFrom.f kj31 t1222 (ji46)).bind fun t1237 => (laws_FnPulseScript.l0 kj31 t1213 t1222 t1234 t1237 0)) = some r := by first | (rw [hji46] at H; exact H) | (simp only [hji46] at H ⊢; exact H)
                              (try rw [hji46] at A44)
                              have hji46_ : (IntKind.i64.wrap (1 * 2 ^ min t1211.toNat 64)) = ji46 := hji46
                              have hji46z : t1211 ≤ 64 → (IntKind.i64.wrap (1 * 2 ^ t1211.toNat)) = ji46 := shl_small hji46
                              have hji46u : (IntKind.i64.wrap (2 ^ min t1211.toNat 64)) = ji46 := by have h_ := hji46_; rw [Int.one_mul] at h_; exact h_
                              have hji46v : t1211 ≤ 64 → (IntKind.i64.wrap (2 ^ t1211.toNat)) = ji46 := fun hle_ => by have h_ := hji46z hle_; rw [Int.one_mul] at h_; exact h_
                              have hji46y : (wrap64 (1 * 2 ^ min t1211.toNat 64)) = ji46 := (i64_w _).symm.trans hji46_
                              have hji46x : t1211 ≤ 64 → (wrap64 (1 * 2 ^ t1211.toNat)) = ji46 := fun h_ => (i64_w _).symm.trans (hji46z h_)
                              replace H := Option.bind_eq_some_iff.mp H
                              obtain ⟨t1237, A470, H⟩ := H
                              replace H : (laws_FnPulseScript.l0 kj31 t1213 t1222 t1234 t1237 0) = some r := H
                              have A47 := Aside0.mk A470
                              clear A470
                              have H' := Aside0.mk H
                              clear H
                              obtain ⟨Ao48, co48, eo48⟩ := Kd.R_slice HO_9.out
                              subst eo48
                              go_wp2_with (first | ((with_reducible refine gate_dst (N := 88) rfl ?_); (try (refine gate_guard (by rfl) ?_; dsimp only)); refine Kd.R_make (Kd.int .i64) _ 3 rfl (N := 88) rfl 23 _ _ rfl (t1222.length : Int) rfl rfl Try.underlying23 (.int .i64 0) 8 info3 rfl (by decide) (by omega) 0 (ok := fun _ => True) (okp := fun _ => True) rfl (fun _ hk => hk) trivial (of_decide_eq_true (by first | (with_reducible assumption) | assumption)) (Nat.le_trans (Nat.mul_le_mul_right _ (of_decide_eq_true (by first | (with_reducible assumption) | assumption) : (t1222.length : Int).toNat ≤ 35184372088832)) (by omega)) (Below.refl _ _) (Nat.le_refl _) ?_; intro v1232 w49 ho50 hb hg_ hnew_; clear hg_ hnew_; (first | rw [← Ny1231.out] at ho50 | (simp only [Int.reduceToNat] at ho50; rw [← Ny1231.out] at ho50)); have n0_ := Aside0.mk (Kd.R_below (zR HO_8.out) hb); have n1_ := Aside0.mk (Kd.R_elder' (zR HO_9.out) (Kd.R_base ho50) hb); have n2_ := Aside0.mk (Kd.R_lower (Kd.R_new' ho50 (Kd.R_lt (zR HO_9.out))) (below_size (zB HB.out))); have n3_ := Aside0.mk (below_step (zB HB.out) hb); clear HO_8; clear HO_9; clear HB; have HO_8 := n0_; have HO_9 := n1_; have HO1233 := n2_; have HB := n3_; clear n0_ n1_ n2_ n3_; clear hb ho50; obtain ⟨Ao51, co51, eo51⟩ := Kd.R_slice HO1233.out; subst eo51) | ((with_reducible refine gate_callee (f := 51) rfl ?_); refine goesL_ (some 90) rfl rfl Try.func51 (by kernel_rfl) rfl #[.slice Ao48 t1222.length co48, .int .i64 t1223, .slice Ao51 y1231.length co51, .slice Ao24 t1214.length co24, .int .i64 60] rfl zA ?_; (with_reducible refine (impl_ScriptFired.calls kj31 _ _ t1222 t1223 _ _ y1231 _ _ t1214 60 t1234 _ ?side1 ?side2 ?side3 ?side4 ?side5 ?side6 A44.out).mono ?_); (case side1 => exact zC (Kd.R_reads' HO_9.out).2.2); (case side2 => exact (Kd.R_reads' HO_9.out).2.1); (case side3 => exact zC (Kd.R_reads' HO1233.out).2.2); (case side4 => exact (Kd.R_reads' HO1233.out).2.1); (case side5 => exact zC (Kd.R_reads' HO_8.out).2.2); (case side6 => exact (Kd.R_reads' HO_8.out).2.1); rintro e w52 ⟨v1235, rfl, ho0, hb⟩; refine ⟨_, rfl, ?_⟩; have n0_ := Aside0.mk (Kd.R_below (zR HO_8.out) hb); have n1_ := Aside0.mk (Kd.R_elder' (zR HO_9.out) (Kd.R_base ho0) hb); have n2_ := Aside0.mk (Kd.R_elder' (zR HO1233.out) (Kd.R_base ho0) hb); have n3_ := Aside0.mk (Kd.R_lower (Kd.R_new' (Kd.R_new' ho0 (Kd.R_lt (zR HO_9.out))) (Kd.R_lt (zR HO1233.out))) (below_size (zB HB.out))); have n4_ := Aside0.mk (below_step (zB HB.out) hb); clear HO_8; clear HO_9; clear HO1233; clear HB; have HO_8 := n0_; have HO_9 := n1_; have HO1233 := n2_; have HO1236 := n3_; have HB := n4_; clear n0_ n1_ n2_ n3_ n4_; (try clear hb); (try clear hb2); (try clear hk); (try clear hi); (try clear ho0)) | ((with_reducible refine gate_callee (f := 20) rfl ?_); refine goesL_ (some 94) rfl rfl Try.func20 (by kernel_rfl) rfl #[.slice Ao48 t1222.length co48, .int .i64 ji46] rfl (by (try simp only [List.map_toArray, List.map_cons, List.map_nil]); first | done | (simp only [hji46]; rfl) | rfl | (simp only [List.length_drop, List.length_take]; rfl)) ?_; (with_reducible refine (impl_DistancesFrom.calls kj31 _ _ t1222 ji46 t1237 _ ?side1 ?side2 A47.out).mono ?_); (case side1 => exact zC (Kd.R_reads' HO_9.out).2.2); (case side2 => exact (Kd.R_reads' HO_9.out).2.1); rintro e w53 ⟨v1238, rfl, ho0, hb⟩; refine ⟨_, rfl, ?_⟩; have n0_ := Aside0.mk (Kd.R_below (zR HO_8.out) hb); have n1_ := Aside0.mk (Kd.R_elder' (zR HO_9.out) (Kd.R_base ho0) hb); have n2_ := Aside0.mk (Kd.R_elder' (zR HO1233.out) (Kd.R_base ho0) hb); have n3_ := Aside0.mk (Kd.R_elder' (zR HO1236.out) (Kd.R_base ho0) hb); have n4_ := Aside0.mk (Kd.R_lower (Kd.R_new' (Kd.R_new' (Kd.R_new' ho0 (Kd.R_lt (zR HO_9.out))) (Kd.R_lt (zR HO1233.out))) (Kd.R_lt (zR HO1236.out))) (below_size (zB HB.out))); have n5_ := Aside0.mk (below_step (zB HB.out) hb); clear HO_8; clear HO_9; clear HO1233; clear HO1236; clear HB; have HO_8 := n0_; have HO_9 := n1_; have HO1233 := n2_; have HO1236 := n3_; have HO1239 := n4_; have HB := n5_; clear n0_ n1_ n2_ n3_ n4_ n5_; (try clear hb); (try clear hb2); (try clear hk); (try clear hi); (try clear ho0)))
                              go_loopg [14] kj31 (fun kq v14 w' => ∃ (x14_4 : Int), v14 = .int .i64 x14_4 ∧ Aside0 (laws_FnPulseScript.l0 kq t1213 t1222 t1234 t1237 x14_4 = some r) ∧ Aside0 (kq ≤ kj31) ∧ Aside0 (Kd.R (Kd.int .i64) 3 w' w.heap.size (fun k_ => some k_ ≠ (v1235 : Value).ownBlock ∧ some k_ ≠ (v1238 : Value).ownBlock) (.slice Ao48 t1222.length co48) t1222) ∧ Aside0 (Kd.R (Kd.int .i64) 3 w' w.heap.size (fun k_ => some k_ ≠ ((.slice Ao48 t1222.length co48) : Value).ownBlock ∧ some k_ ≠ (v1238 : Value).ownBlock) v1235 t1234) ∧ Aside0 (Kd.R (Kd.int .i64) 3 w' w.heap.size (fun k_ => some k_ ≠ ((.slice Ao48 t1222.length co48) : Value).ownBlock ∧ some k_ ≠ (v1235 : Value).ownBlock) v1238 t1237) ∧ Aside0 (Below w.heap.size w w'))
                              case atStart => exact ⟨(0), (by first | rfl | (simp; done) | (simp [*]; done)), H', ⟨Nat.le_refl _⟩, ⟨by (with_reducible repeat (first | apply Kd.R_alloc | apply Kd.R_drewN | apply Kd.R_drew)); exact Kd.R_mono HO_9.out (fun _ hk => ⟨hk.1.2, hk.2⟩)⟩, ⟨by (with_reducible repeat (first | apply Kd.R_alloc | apply Kd.R_drewN | apply Kd.R_drew)); exact Kd.R_mono HO1236.out (fun _ hk => ⟨hk.1.1.2, hk.2⟩)⟩, ⟨by (with_reducible repeat (first | apply Kd.R_alloc | apply Kd.R_drewN | apply Kd.R_drew)); exact Kd.R_mono HO1239.out (fun _ hk => ⟨hk.1.1.2, hk.2⟩)⟩, ⟨zB HB.out⟩⟩
                              case round =>
                                clear H'
                                try clear c1
                                try clear c2
                                try clear p2
                                try clear c3
                                try clear c4
                                try clear c4b0
                                try clear c4b1
                                try clear c5
                                try clear c6
                                try clear p6
                                try clear c10
                                try clear c11
                                try clear c11b0
                                try clear c11b1
                                try clear c11b2
                                try clear c14
                                try clear c18
                                try clear c20
                                try clear c28
                                try clear c31
                                try clear c34
                                try clear c35
                                try clear c35b0
                                try clear c37
                                try clear c37b0
                                try clear c41
                                try clear c42
                                try clear c42b0
                                try clear c42b1
                                try clear c43
                                try clear c43b0
                                try clear c43b1
                                try clear c45
                                try clear c45b0
                                try clear c45b1
                                try clear c51
                                try clear c53
                                try clear p2
                                try clear p6
                                obtain ⟨x14_4, rfl, HA, HK4, HO_9, HO_12, HO_13, HB⟩ := hrel
                                cases gk with
                                | zero => exact absurd HA.out (by simp [laws_FnPulseScript.l0])
                                | succ k4 =>
                                  have H := HA.out
                                  clear HA
                                  simp only [laws_FnPulseScript.l0] at H
                                  by_cases c54 : x14_4 < (t1222.length : Int)
                                  · rw [if_pos c54] at H
                                    have c54b0 : decide (x14_4 < (t1222.length : Int)) = true := decide_eq_true c54
                                    clear c54
                                    have HC55 := Aside0.mk H
                                    clear H
                                    go_upto_region 20 with (fail)
                                    go_cut [112] (fun v112 wc => ∃ (kq : Nat) (x112_54 : Bool), v112 = .bool x112_54 ∧ Aside0 (laws_FnPulseScript.j4 kq t1213 t1222 t1234 t1237 x14_4 0 x112_54 = some r) ∧ Aside0 (kq ≤ k4) ∧ Aside0 (Kd.R (Kd.int .i64) 3 wc w.heap.size (fun k_ => some k_ ≠ (v1235 : Value).ownBlock ∧ some k_ ≠ (v1238 : Value).ownBlock) (.slice Ao48 t1222.length co48) t1222) ∧ Aside0 (Kd.R (Kd.int .i64) 3 wc w.heap.size (fun k_ => some k_ ≠ ((.slice Ao48 t1222.length co48) : Value).ownBlock ∧ some k_ ≠ (v1238 : Value).ownBlock) v1235 t1234) ∧ Aside0 (Kd.R (Kd.int .i64) 3 wc w.heap.size (fun k_ => some k_ ≠ ((.slice Ao48 t1222.length co48) : Value).ownBlock ∧ some k_ ≠ (v1235 : Value).ownBlock) v1238 t1237) ∧ Aside0 (Below w.heap.size w wc))
                                    case first =>
                                      have H := HC55.out
                                      clear HC55
                                      by_cases c56 : (t1237.length : Int) = (t1222.length : Int)
                                      · rw [if_pos c56] at H
                                        have c56b0 : ((t1237.length : Int) == (t1222.length : Int)) = true := beq_iff_eq.mpr c56
                                        have c56b1 : ((t1237.length : Int) != (t1222.length : Int)) = false := bne_eq_false_iff_eq.mpr c56
                                        have c56b2 : (t1237.length == t1222.length) = true := by first | simpa using c56 | (simp at c56 ⊢; omega)
                                        clear c56
                                        (first | rw [c56b0] | (simp only [i64_w, i32_w]; rw [c56b0]) | skip)
                                        have H' := Aside0.mk H
                                        clear H
                                        obtain ⟨Ao57, co57, eo57⟩ := Kd.R_slice HO_13.out
                                        subst eo57
                                        obtain ⟨Ao58, co58, eo58⟩ := Kd.R_slice HO_12.out
                                        subst eo58
                                        go_wp2
                                        go_meet
                                        case rel => exact ⟨_, (((t1234.length : Int) != (t1222.length : Int))), (by first | rfl | (simp; done) | (simp [*]; done)), H', ⟨by have := HJ2.out; have := HJ19.out; have := HJ31.out; have := HK4.out; first | omega | exact Nat.le_refl _⟩, ⟨by (with_reducible repeat (first | apply Kd.R_alloc | apply Kd.R_drewN | apply Kd.R_drew)); exact HO_9.out⟩, ⟨by (with_reducible repeat (first | apply Kd.R_alloc | apply Kd.R_drewN | apply Kd.R_drew)); exact HO_12.out⟩, ⟨by (with_reducible repeat (first | apply Kd.R_alloc | apply Kd.R_drewN | apply Kd.R_drew)); exact HO_13.out⟩, ⟨zB HB.out⟩⟩
                                      · rw [if_neg c56] at H
                                        have c56b0 : ((t1237.length : Int) == (t1222.length : Int)) = false := beq_eq_false_iff_ne.mpr c56
                                        have c56b1 : ((t1237.length : Int) != (t1222.length : Int)) = true := bne_iff_ne.mpr c56
                                        have c56b2 : (t1237.length == t1222.length) = false := by first | simpa using c56 | (simp at c56 ⊢; omega)
                                        (first | rw [c56b0] | (simp only [i64_w, i32_w]; rw [c56b0]) | skip)
                                        have H' := Aside0.mk H
                                        clear H
                                        obtain ⟨Ao59, co59, eo59⟩ := Kd.R_slice HO_13.out
                                        subst eo59
                                        go_wp2
                                        go_meet
                                        case rel => exact ⟨_, (true), (by first | rfl | (simp; done) | (simp [*]; done)), H', ⟨by have := HJ2.out; have := HJ19.out; have := HJ31.out; have := HK4.out; first | omega | exact Nat.le_refl _⟩, ⟨by (with_reducible repeat (first | apply Kd.R_alloc | apply Kd.R_drewN | apply Kd.R_drew)); exact HO_9.out⟩, ⟨by (with_reducible repeat (first | apply Kd.R_alloc | apply Kd.R_drewN | apply Kd.R_drew)); exact HO_12.out⟩, ⟨by (with_reducible repeat (first | apply Kd.R_alloc | apply Kd.R_drewN | apply Kd.R_drew)); exact HO_13.out⟩, ⟨zB HB.out⟩⟩
                                    case rest =>
                                      clear HC55
                                      try clear c1
                                      try clear c2
                                      try clear p2
                                      try clear c3
                                      try clear c4
                                      try clear c4b0
                                      try clear c4b1
                                      try clear c5
                                      try clear c6
                                      try clear p6
                                      try clear c10
                                      try clear c11
                                      try clear c11b0
                                      try clear c11b1
                                      try clear c11b2
                                      try clear c14
                                      try clear c18
                                      try clear c20
                                      try clear c28
                                      try clear c31
                                      try clear c34
                                      try clear c35
                                      try clear c35b0
                                      try clear c37
                                      try clear c37b0
                                      try clear c41
                                      try clear c42
                                      try clear c42b0
                                      try clear c42b1
                                      try clear c43
                                      try clear c43b0
                                      try clear c43b1
                                      try clear c45
                                      try clear c45b0
                                      try clear c45b1
                                      try clear c51
                                      try clear c53
                                      try clear c54
                                      try clear c54b0
                                      try clear c56
                                      try clear c56b0
                                      try clear c56b1
                                      try clear c56b2
                                      try clear c57
                                      try clear c58
                                      try clear c59
                                      try clear p2
                                      try clear p6
                                      obtain ⟨kq, x112_54, rfl, HA, HJ54, HO_9, HO_12, HO_13, HB⟩ := hcut
                                      cases kq with
                                      | zero => exact absurd HA.out (by simp [laws_FnPulseScript.j4])
                                      | succ kj54 =>
                                        have H := HA.out
                                        clear HA
                                        simp only [laws_FnPulseScript.j4] at H
                                        by_cases c60 : x112_54 = true
                                        · subst c60
                                          have H1 : (some false) = some r := by rw [if_pos rfl] at H; exact H
                                          clear H
                                          have H := H1
                                          clear H1
                                          obtain rfl := Option.some.inj H
                                          go_wp2
                                          go_ret
                                          exact ⟨by first | rfl | (simp [errW_none, errW_some] <;> rfl) | (simp only [← hji46]; first | rfl | (simp [errW_none, errW_some] <;> rfl)) | (simp [*, errW_none, errW_some] <;> rfl), zB HB.out⟩
                                        · replace c60 := Bool.eq_false_iff.mpr c60
                                          subst c60
                                          have H1 : (if 0 ≤ x14_4 then (if x14_4 < (t1237.length : Int) then (if (rd t1237 x14_4) ≥ 0 then (if x14_4 < (t1234.length : Int) then (if (rd t1234 x14_4) = t1213 then (laws_FnPulseScript.l0 kj54 t1213 t1222 t1234 t1237 (wrap64 (x14_4 + 1))) else (some false)) else (none)) else (if x14_4 < (t1234.length : Int) then (if (rd t1234 x14_4) = 0 then (laws_FnPulseScript.l0 kj54 t1213 t1222 t1234 t1237 (wrap64 (x14_4 + 1))) else (some false)) else (none))) else (none)) else (none)) = some r := by rw [if_neg (show ¬ (false = true) by decide)] at H; exact H
                                          clear H
                                          have H := H1
                                          clear H1
                                          by_cases c61 : 0 ≤ x14_4
                                          · rw [if_pos c61] at H
                                            have c61b0 : decide (0 ≤ x14_4) = true := decide_eq_true c61
                                            clear c61
                                            by_cases c62 : x14_4 < (t1237.length : Int)
                                            · rw [if_pos c62] at H
                                              have c62b0 : decide (x14_4 < (t1237.length : Int)) = true := decide_eq_true c62
                                              clear c62
                                              by_cases c63 : (rd t1237 x14_4) ≥ 0
                                              · rw [if_pos c63] at H
                                                have c63b0 : decide (0 ≤ (rd t1237 x14_4)) = true := decide_eq_true c63
                                                clear c63
                                                by_cases c64 : x14_4 < (t1234.length : Int)
                                                · rw [if_pos c64] at H
                                                  have c64b0 : decide (x14_4 < (t1234.length : Int)) = true := decide_eq_true c64
                                                  clear c64
                                                  by_cases c65 : (rd t1234 x14_4) = t1213
                                                  · rw [if_pos c65] at H
                                                    have c65b0 : ((rd t1234 x14_4) == t1213) = true := beq_iff_eq.mpr c65
                                                    have c65b1 : ((rd t1234 x14_4) != t1213) = false := bne_eq_false_iff_eq.mpr c65
                                                    clear c65
                                                    have H' := Aside0.mk H
                                                    clear H
                                                    obtain ⟨Ao66, co66, eo66⟩ := Kd.R_slice HO_13.out
                                                    subst eo66
                                                    have p1240 : 0 ≤ (x14_4 : Int) := of_decide_eq_true (by first | (with_reducible assumption) | assumption)
                                                    have q1240 : x14_4 < (t1237.length : Int) := of_decide_eq_true (by first | (with_reducible assumption) | assumption)
                                                    obtain ⟨ad1240, e1240, hx1240_0⟩ := Kd.at_int (Kd.R_reads' HO_13.out).2.2 x14_4 p1240 q1240
                                                    cases e1240
                                                    replace p1240 := eq_true p1240
                                                    replace q1240 := eq_true q1240
                                                    obtain ⟨Ao67, co67, eo67⟩ := Kd.R_slice HO_12.out
                                                    subst eo67
                                                    have p1241 : 0 ≤ (x14_4 : Int) := of_decide_eq_true (by first | (with_reducible assumption) | assumption)
                                                    have q1241 : x14_4 < (t1234.length : Int) := of_decide_eq_true (by first | (with_reducible assumption) | assumption)
                                                    obtain ⟨ad1241, e1241, hx1241_0⟩ := Kd.at_int (Kd.R_reads' HO_12.out).2.2 x14_4 p1241 q1241
                                                    cases e1241
                                                    replace p1241 := eq_true p1241
                                                    replace q1241 := eq_true q1241
                                                    go_wp2
                                                    go_roundg kj54
                                                    case measure => have := HJ2.out; have := HJ19.out; have := HJ31.out; have := HK4.out; have := HJ54.out; omega
                                                    case rel => exact ⟨(wrap64 (x14_4 + 1)), (by first | rfl | (simp; done) | (simp [*]; done)), H', ⟨by have := HJ2.out; have := HJ19.out; have := HJ31.out; have := HK4.out; have := HJ54.out; omega⟩, ⟨by (with_reducible repeat (first | apply Kd.R_alloc | apply Kd.R_drewN | apply Kd.R_drew)); exact HO_9.out⟩, ⟨by (with_reducible repeat (first | apply Kd.R_alloc | apply Kd.R_drewN | apply Kd.R_drew)); exact HO_12.out⟩, ⟨by (with_reducible repeat (first | apply Kd.R_alloc | apply Kd.R_drewN | apply Kd.R_drew)); exact HO_13.out⟩, ⟨zB HB.out⟩⟩
                                                  · rw [if_neg c65] at H
                                                    have c65b0 : ((rd t1234 x14_4) == t1213) = false := beq_eq_false_iff_ne.mpr c65
                                                    have c65b1 : ((rd t1234 x14_4) != t1213) = true := bne_iff_ne.mpr c65
                                                    obtain rfl := Option.some.inj H
                                                    obtain ⟨Ao68, co68, eo68⟩ := Kd.R_slice HO_13.out
                                                    subst eo68
                                                    have p1240 : 0 ≤ (x14_4 : Int) := of_decide_eq_true (by first | (with_reducible assumption) | assumption)
                                                    have q1240 : x14_4 < (t1237.length : Int) := of_decide_eq_true (by first | (with_reducible assumption) | assumption)
                                                    obtain ⟨ad1240, e1240, hx1240_0⟩ := Kd.at_int (Kd.R_reads' HO_13.out).2.2 x14_4 p1240 q1240
                                                    cases e1240
                                                    replace p1240 := eq_true p1240
                                                    replace q1240 := eq_true q1240
                                                    obtain ⟨Ao69, co69, eo69⟩ := Kd.R_slice HO_12.out
                                                    subst eo69
                                                    have p1241 : 0 ≤ (x14_4 : Int) := of_decide_eq_true (by first | (with_reducible assumption) | assumption)
                                                    have q1241 : x14_4 < (t1234.length : Int) := of_decide_eq_true (by first | (with_reducible assumption) | assumption)
                                                    obtain ⟨ad1241, e1241, hx1241_0⟩ := Kd.at_int (Kd.R_reads' HO_12.out).2.2 x14_4 p1241 q1241
                                                    cases e1241
                                                    replace p1241 := eq_true p1241
                                                    replace q1241 := eq_true q1241
                                                    go_wp2
                                                    go_ret
                                                    exact ⟨by first | rfl | (simp [errW_none, errW_some] <;> rfl) | (simp only [← hji46]; first | rfl | (simp [errW_none, errW_some] <;> rfl)) | (simp [*, errW_none, errW_some] <;> rfl), zB HB.out⟩
                                                · rw [if_neg c64] at H
                                                  exact absurd H (by simp)
                                              · rw [if_neg c63] at H
                                                have c63b0 : decide (0 ≤ (rd t1237 x14_4)) = false := decide_eq_false c63
                                                clear c63
                                                by_cases c70 : x14_4 < (t1234.length : Int)
                                                · rw [if_pos c70] at H
                                                  have c70b0 : decide (x14_4 < (t1234.length : Int)) = true := decide_eq_true c70
                                                  clear c70
                                                  by_cases c71 : (rd t1234 x14_4) = 0
                                                  · rw [if_pos c71] at H
                                                    have c71b0 : ((rd t1234 x14_4) == 0) = true := beq_iff_eq.mpr c71
                                                    have c71b1 : ((rd t1234 x14_4) != 0) = false := bne_eq_false_iff_eq.mpr c71
                                                    clear c71
                                                    have H' := Aside0.mk H
                                                    clear H
                                                    obtain ⟨Ao72, co72, eo72⟩ := Kd.R_slice HO_13.out
                                                    subst eo72
                                                    have p1240 : 0 ≤ (x14_4 : Int) := of_decide_eq_true (by first | (with_reducible assumption) | assumption)
                                                    have q1240 : x14_4 < (t1237.length : Int) := of_decide_eq_true (by first | (with_reducible assumption) | assumption)
                                                    obtain ⟨ad1240, e1240, hx1240_0⟩ := Kd.at_int (Kd.R_reads' HO_13.out).2.2 x14_4 p1240 q1240
                                                    cases e1240
                                                    replace p1240 := eq_true p1240
                                                    replace q1240 := eq_true q1240
                                                    obtain ⟨Ao73, co73, eo73⟩ := Kd.R_slice HO_12.out
                                                    subst eo73
                                                    have p1242 : 0 ≤ (x14_4 : Int) := of_decide_eq_true (by first | (with_reducible assumption) | assumption)
                                                    have q1242 : x14_4 < (t1234.length : Int) := of_decide_eq_true (by first | (with_reducible assumption) | assumption)
                                                    obtain ⟨ad1242, e1242, hx1242_0⟩ := Kd.at_int (Kd.R_reads' HO_12.out).2.2 x14_4 p1242 q1242
                                                    cases e1242
                                                    replace p1242 := eq_true p1242
                                                    replace q1242 := eq_true q1242
                                                    go_wp2
                                                    go_roundg kj54
                                                    case measure => have := HJ2.out; have := HJ19.out; have := HJ31.out; have := HK4.out; have := HJ54.out; omega
                                                    case rel => exact ⟨(wrap64 (x14_4 + 1)), (by first | rfl | (simp; done) | (simp [*]; done)), H', ⟨by have := HJ2.out; have := HJ19.out; have := HJ31.out; have := HK4.out; have := HJ54.out; omega⟩, ⟨by (with_reducible repeat (first | apply Kd.R_alloc | apply Kd.R_drewN | apply Kd.R_drew)); exact HO_9.out⟩, ⟨by (with_reducible repeat (first | apply Kd.R_alloc | apply Kd.R_drewN | apply Kd.R_drew)); exact HO_12.out⟩, ⟨by (with_reducible repeat (first | apply Kd.R_alloc | apply Kd.R_drewN | apply Kd.R_drew)); exact HO_13.out⟩, ⟨zB HB.out⟩⟩
                                                  · rw [if_neg c71] at H
                                                    have c71b0 : ((rd t1234 x14_4) == 0) = false := beq_eq_false_iff_ne.mpr c71
                                                    have c71b1 : ((rd t1234 x14_4) != 0) = true := bne_iff_ne.mpr c71
                                                    obtain rfl := Option.some.inj H
                                                    obtain ⟨Ao74, co74, eo74⟩ := Kd.R_slice HO_13.out
                                                    subst eo74
                                                    have p1240 : 0 ≤ (x14_4 : Int) := of_decide_eq_true (by first | (with_reducible assumption) | assumption)
                                                    have q1240 : x14_4 < (t1237.length : Int) := of_decide_eq_true (by first | (with_reducible assumption) | assumption)
                                                    obtain ⟨ad1240, e1240, hx1240_0⟩ := Kd.at_int (Kd.R_reads' HO_13.out).2.2 x14_4 p1240 q1240
                                                    cases e1240
                                                    replace p1240 := eq_true p1240
                                                    replace q1240 := eq_true q1240
                                                    obtain ⟨Ao75, co75, eo75⟩ := Kd.R_slice HO_12.out
                                                    subst eo75
                                                    have p1242 : 0 ≤ (x14_4 : Int) := of_decide_eq_true (by first | (with_reducible assumption) | assumption)
                                                    have q1242 : x14_4 < (t1234.length : Int) := of_decide_eq_true (by first | (with_reducible assumption) | assumption)
                                                    obtain ⟨ad1242, e1242, hx1242_0⟩ := Kd.at_int (Kd.R_reads' HO_12.out).2.2 x14_4 p1242 q1242
                                                    cases e1242
                                                    replace p1242 := eq_true p1242
                                                    replace q1242 := eq_true q1242
                                                    go_wp2
                                                    go_ret
                                                    exact ⟨by first | rfl | (simp [errW_none, errW_some] <;> rfl) | (simp only [← hji46]; first | rfl | (simp [errW_none, errW_some] <;> rfl)) | (simp [*, errW_none, errW_some] <;> rfl), zB HB.out⟩
                                                · rw [if_neg c70] at H
                                                  exact absurd H (by simp)
                                            · rw [if_neg c62] at H
                                              exact absurd H (by simp)
                                          · rw [if_neg c61] at H
                                            exact absurd H (by simp)
                                  · rw [if_neg c54] at H
                                    have c54b0 : decide (x14_4 < (t1222.length : Int)) = false := decide_eq_false c54
                                    clear c54
                                    obtain rfl := Option.some.inj H
                                    go_wp2
                                    go_ret
                                    exact ⟨by first | rfl | (simp [errW_none, errW_some] <;> rfl) | (simp only [← hji46]; first | rfl | (simp [errW_none, errW_some] <;> rfl)) | (simp [*, errW_none, errW_some] <;> rfl), zB HB.out⟩
                            · rw [if_neg c45] at H
                              exact absurd H (by simp)
                          · rw [if_neg c43] at H
                            exact absurd H (by simp)
                        · rw [if_neg c42] at H
                          exact absurd H (by simp)
        · replace c10 := Bool.eq_false_iff.mpr c10
          subst c10
          have H1 : (some false) = some r := by rw [if_neg (show ¬ (false = true) by decide)] at H; exact H
          clear H
          have H := H1
          clear H1
          obtain rfl := Option.some.inj H
          go_wp2_with (first | ((with_reducible refine gate_callee (f := 57) rfl ?_); refine goesL_ (some 26) rfl rfl Try.func57 (by kernel_rfl) rfl #[.slice A0 l0.length c0] rfl zA ?_; (with_reducible refine (spec_DrawPulseScript.calls kj2 _ _ l0 t1211 t1212 t1213 _ ?side1 ?side2 A6.out).mono ?_); (case side1 => exact zC (Kd.C_below HR0.out HB.out)); (case side2 => exact HC0.out); rintro e w76 ⟨rfl, hb⟩; refine ⟨_, rfl, ?_⟩; have n0_ := Aside0.mk (below_step (zB HB.out) hb); clear HB; have HB := n0_; clear n0_; (try clear hb); (try clear hb2); (try clear hk); (try clear hi)) | ((with_reducible refine gate_callee (f := 58) rfl ?_); refine goesL_ (some 33) rfl rfl Try.func58 (by kernel_rfl) rfl #[.int .i64 t1211, .int .i64 t1212, .int .i64 t1213] rfl zA ?_; (with_reducible refine (impl_PulseScript.calls kj2 t1211 t1212 t1213 t1214 _ A7.out).mono ?_); rintro e w77 ⟨v1215, rfl, ho0, hb⟩; refine ⟨_, rfl, ?_⟩; have n0_ := Aside0.mk (Kd.R_lower ho0 (below_size (zB HB.out))); have n1_ := Aside0.mk (below_step (zB HB.out) hb); clear HB; have HO1216 := n0_; have HB := n1_; clear n0_ n1_; (try clear hb); (try clear hb2); (try clear hk); (try clear hi); (try clear ho0)) | ((with_reducible refine gate_callee (f := 60) rfl ?_); refine goesL_ (some 38) rfl rfl Try.func60 (by kernel_rfl) rfl #[.int .i64 t1211, .int .i64 t1212, .int .i64 t1213] rfl zA ?_; (with_reducible refine (spec_PulseScript.calls kj2 t1211 t1212 t1213 t1217 _ A8.out).mono ?_); rintro e w78 ⟨v1218, rfl, ho0, hb⟩; refine ⟨_, rfl, ?_⟩; have n0_ := Aside0.mk (Kd.R_elder' (zR HO1216.out) (Kd.R_base ho0) hb); have n1_ := Aside0.mk (Kd.R_lower (Kd.R_new' ho0 (Kd.R_lt (zR HO1216.out))) (below_size (zB HB.out))); have n2_ := Aside0.mk (below_step (zB HB.out) hb); clear HO1216; clear HB; have HO1216 := n0_; have HO1219 := n1_; have HB := n2_; clear n0_ n1_ n2_; (try clear hb); (try clear hb2); (try clear hk); (try clear hi); (try clear ho0); obtain ⟨Ao79, co79, eo79⟩ := Kd.R_slice HO1216.out; subst eo79; obtain ⟨Ao80, co80, eo80⟩ := Kd.R_slice HO1219.out; subst eo80) | ((with_reducible refine gate_callee (f := 59) rfl ?_); refine goesL_ (some 39) rfl rfl Try.func59 (by kernel_rfl) rfl #[.slice Ao79 t1214.length co79, .slice Ao80 t1217.length co80] rfl zA ?_; (with_reducible refine (laws_sameLights.calls kj2 _ _ t1214 _ _ t1217 false _ ?side1 ?side2 ?side3 ?side4 A9.out).mono ?_); (case side1 => exact zC (Kd.R_reads' HO1216.out).2.2); (case side2 => exact (Kd.R_reads' HO1216.out).2.1); (case side3 => exact zC (Kd.R_reads' HO1219.out).2.2); (case side4 => exact (Kd.R_reads' HO1219.out).2.1); rintro e w' ⟨rfl, ⟨nd, rfl⟩⟩; refine ⟨_, rfl, ?_⟩))
          go_ret
          exact ⟨by first | rfl | (simp [errW_none, errW_some] <;> rfl) | (simp [*, errW_none, errW_some] <;> rfl), zB HB.out⟩

/-- THE ONE PURE STATEMENT of laws_FnPulseScript: yours. -/
def laws_FnPulseScript.Pure : Prop := ∀ (l0 : List Int) (l1 : List Int), l0.length ≤ maxLen → l0.length * 1 ≤ 140737488351232 → (∀ x ∈ l0, (Lit.int .u8 x).wf = true) → l1.length ≤ maxLen → l1.length * 1 ≤ 140737488351232 → (∀ x ∈ l1, (Lit.int .u8 x).wf = true) → ∃ k, laws_FnPulseScript.f k l0 l1 = some true
theorem laws_FnPulseScript.walk (P : laws_FnPulseScript.Pure) (a0 : Option Addr) (len0 cap0 : Nat) (z0 : List Int) (a1 : Option Addr) (len1 cap1 : Nat) (z1 : List Int) (w : World) (w0 : (a0 = none ∧ len0 = 0 ∧ cap0 = 0 ∧ z0 = []) ∨ ∃ x, a0 = some x ∧ len0 ≤ cap0 ∧ cap0 ≤ maxLen ∧ z0.length = cap0 ∧ (∀ i, i < z0.length → w.cell? (x.add i) = some (.int .u8 (z0.getD i 0))) ∧ ∀ n ∈ z0, (Lit.int .u8 n).wf = true) (y0 : len0 * 1 ≤ 140737488351232) (w1 : (a1 = none ∧ len1 = 0 ∧ cap1 = 0 ∧ z1 = []) ∨ ∃ x, a1 = some x ∧ len1 ≤ cap1 ∧ cap1 ≤ maxLen ∧ z1.length = cap1 ∧ (∀ i, i < z1.length → w.cell? (x.add i) = some (.int .u8 (z1.getD i 0))) ∧ ∀ n ∈ z1, (Lit.int .u8 n).wf = true) (y1 : len1 * 1 ≤ 140737488351232) :
    Calls Try.prog 14 #[.slice a0 len0 cap0, .slice a1 len1 cap1] w fun e w' => e = .returned (.bool true) ∧ Below w.heap.size w w' := by
  obtain ⟨l0, rfl, hr0, hm0, hw0, hc0⟩ := ReadsInt.ofRowC w0
  obtain ⟨l1, rfl, hr1, hm1, hw1, hc1⟩ := ReadsInt.ofRowC w1
  obtain ⟨k, h⟩ := P l0 l1 hm0 y0 hw0 hm1 y1 hw1
  refine (laws_FnPulseScript.calls k _ _ l0 _ _ l1 true w (Kd.C_of_reads (d := (0 : Int)) (h1 := fun _ => rfl) hr0) hc0 (Kd.C_of_reads (d := (0 : Int)) (h1 := fun _ => rfl) hr1) hc1 h).mono ?_
  rintro e w' ⟨rfl, hd⟩
  exact ⟨rfl, hd⟩

end Go.Proofs.Ytfhkahlfpchhpaa.PAll
