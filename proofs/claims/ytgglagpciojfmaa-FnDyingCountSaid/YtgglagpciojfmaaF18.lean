/- Own text of this session, written by a program of this session (wip/t/own.py) out of what the kit tells of the functions: each Go function as a Lean function, and the walk through its code. -/
import Derived.Test.YtgglagpciojfmaaT
namespace Go.Proofs.Ytgglagpciojfmaa.PAll
open Go.RowKit Go.Proofs.YtgglagpciojfmaaW.PrintWords Go.Proofs.YtgglagpciojfmaaW.PrintLast Go.Proofs.YtgglagpciojfmaaW.PrintMore
attribute [local go_sem] max2_int min2_int max_two min_two max_three min_three max_four min_four   -- for this text's walks alone
set_option linter.unusedVariables false
set_option linter.unusedSimpArgs false

/-! ### impl_rise: function 90 -/
def impl_rise.f (l0 : List Int) (a1 : Int) (a2 : Int) : Option (Int) := if 0 ≤ a2 then (if a2 < (l0.length : Int) then (if 0 ≤ a1 then (if a1 < (l0.length : Int) then (if (Int.tmod (wrap64 ((wrap64 ((rd l0 a2) - (rd l0 a1))) + 3)) 3) = 1 then (some 1) else (if (Int.tmod (wrap64 ((wrap64 ((rd l0 a2) - (rd l0 a1))) + 3)) 3) = 2 then (some (-1)) else (some 0))) else (none)) else (none)) else (none)) else (none)
set_option maxHeartbeats 8000000 in
set_option maxRecDepth 100000 in
theorem impl_rise.calls (A0 : Option Addr) (c0 : Nat) (l0 : List Int) (a1 : Int) (a2 : Int) (r : Int) (w : World) (hr0 : Kd.C (Kd.int .i64) w A0 l0.length l0) (hc0 : l0.length ≤ c0) (h : impl_rise.f l0 a1 a2 = some r) :
  Calls Try.prog 90 #[.slice A0 l0.length c0, .int .i64 a1, .int .i64 a2] w fun e w' => e = .returned (.int .i64 r) ∧ Drawn0 w w' := by
 have HR0 := Aside0.mk hr0
 have HC0 := Aside0.mk hc0
 clear hr0 hc0
 have H : (if 0 ≤ a2 then (if a2 < (l0.length : Int) then (if 0 ≤ a1 then (if a1 < (l0.length : Int) then (if (Int.tmod (wrap64 ((wrap64 ((rd l0 a2) - (rd l0 a1))) + 3)) 3) = 1 then (some 1) else (if (Int.tmod (wrap64 ((wrap64 ((rd l0 a2) - (rd l0 a1))) + 3)) 3) = 2 then (some (-1)) else (some 0))) else (none)) else (none)) else (none)) else (none)) = some r := h
 clear h
 by_cases c4 : 0 ≤ a2
 ·rw [if_pos c4] at H
  have c4b0 : decide (0 ≤ a2) = true := decide_eq_true c4
  clear c4
  by_cases c5 : a2 < (l0.length : Int)
  ·rw [if_pos c5] at H
   have c5b0 : decide (a2 < (l0.length : Int)) = true := decide_eq_true c5
   clear c5
   by_cases c6 : 0 ≤ a1
   ·rw [if_pos c6] at H
    have c6b0 : decide (0 ≤ a1) = true := decide_eq_true c6
    clear c6
    by_cases c7 : a1 < (l0.length : Int)
    ·rw [if_pos c7] at H
     have c7b0 : decide (a1 < (l0.length : Int)) = true := decide_eq_true c7
     clear c7
     by_cases c8 : (Int.tmod (wrap64 ((wrap64 ((rd l0 a2) - (rd l0 a1))) + 3)) 3) = 1
     ·rw [if_pos c8] at H
      have c8b0 : ((Int.tmod (wrap64 ((wrap64 ((rd l0 a2) - (rd l0 a1))) + 3)) 3) == 1) = true := beq_iff_eq.mpr c8
      have c8b1 : ((Int.tmod (wrap64 ((wrap64 ((rd l0 a2) - (rd l0 a1))) + 3)) 3) != 1) = false := bne_eq_false_iff_eq.mpr c8
      clear c8
      obtain rfl := Option.some.inj H
      have p669 : 0 ≤ (a2 : Int) := zD
      have q669 : a2 < (l0.length : Int) := zD
      obtain ⟨ad669, e669, hx669_0⟩ := Kd.at_int HR0.out a2 p669 q669
      cases e669
      replace p669 := eq_true p669
      replace q669 := eq_true q669
      have p670 : 0 ≤ (a1 : Int) := zD
      have q670 : a1 < (l0.length : Int) := zD
      obtain ⟨ad670, e670, hx670_0⟩ := Kd.at_int HR0.out a1 p670 q670
      obtain rfl : ad669 = ad670 := (by injection e670)
      replace p670 := eq_true p670
      replace q670 := eq_true q670
      go_enter Try.func90, Try.ntmps90
      go_wp2
      repeat (go_quiet (fail); try go_wp2)
      go_ret
      exact ⟨by first | rfl | (simp; done) | (simp [*]; done), by repeat (first | exact Drawn0.refl _ | apply Drawn0.step)⟩
     ·rw [if_neg c8] at H
      have c8b0 : ((Int.tmod (wrap64 ((wrap64 ((rd l0 a2) - (rd l0 a1))) + 3)) 3) == 1) = false := beq_eq_false_iff_ne.mpr c8
      have c8b1 : ((Int.tmod (wrap64 ((wrap64 ((rd l0 a2) - (rd l0 a1))) + 3)) 3) != 1) = true := bne_iff_ne.mpr c8
      by_cases c9 : (Int.tmod (wrap64 ((wrap64 ((rd l0 a2) - (rd l0 a1))) + 3)) 3) = 2
      ·rw [if_pos c9] at H
       have c9b0 : ((Int.tmod (wrap64 ((wrap64 ((rd l0 a2) - (rd l0 a1))) + 3)) 3) == 2) = true := beq_iff_eq.mpr c9
       have c9b1 : ((Int.tmod (wrap64 ((wrap64 ((rd l0 a2) - (rd l0 a1))) + 3)) 3) != 2) = false := bne_eq_false_iff_eq.mpr c9
       clear c9
       obtain rfl := Option.some.inj H
       have p669 : 0 ≤ (a2 : Int) := zD
       have q669 : a2 < (l0.length : Int) := zD
       obtain ⟨ad669, e669, hx669_0⟩ := Kd.at_int HR0.out a2 p669 q669
       cases e669
       replace p669 := eq_true p669
       replace q669 := eq_true q669
       have p670 : 0 ≤ (a1 : Int) := zD
       have q670 : a1 < (l0.length : Int) := zD
       obtain ⟨ad670, e670, hx670_0⟩ := Kd.at_int HR0.out a1 p670 q670
       obtain rfl : ad669 = ad670 := (by injection e670)
       replace p670 := eq_true p670
       replace q670 := eq_true q670
       go_enter Try.func90, Try.ntmps90
       go_wp2
       repeat (go_quiet (fail); try go_wp2)
       go_ret
       exact ⟨by first | rfl | (simp; done) | (simp [*]; done), by repeat (first | exact Drawn0.refl _ | apply Drawn0.step)⟩
      ·rw [if_neg c9] at H
       have c9b0 : ((Int.tmod (wrap64 ((wrap64 ((rd l0 a2) - (rd l0 a1))) + 3)) 3) == 2) = false := beq_eq_false_iff_ne.mpr c9
       have c9b1 : ((Int.tmod (wrap64 ((wrap64 ((rd l0 a2) - (rd l0 a1))) + 3)) 3) != 2) = true := bne_iff_ne.mpr c9
       obtain rfl := Option.some.inj H
       have p669 : 0 ≤ (a2 : Int) := zD
       have q669 : a2 < (l0.length : Int) := zD
       obtain ⟨ad669, e669, hx669_0⟩ := Kd.at_int HR0.out a2 p669 q669
       cases e669
       replace p669 := eq_true p669
       replace q669 := eq_true q669
       have p670 : 0 ≤ (a1 : Int) := zD
       have q670 : a1 < (l0.length : Int) := zD
       obtain ⟨ad670, e670, hx670_0⟩ := Kd.at_int HR0.out a1 p670 q670
       obtain rfl : ad669 = ad670 := (by injection e670)
       replace p670 := eq_true p670
       replace q670 := eq_true q670
       go_enter Try.func90, Try.ntmps90
       go_wp2
       repeat (go_quiet (fail); try go_wp2)
       go_ret
       exact ⟨by first | rfl | (simp; done) | (simp [*]; done), by repeat (first | exact Drawn0.refl _ | apply Drawn0.step)⟩
    ·rw [if_neg c7] at H
     exact absurd H (by simp)
   ·rw [if_neg c6] at H
    exact absurd H (by simp)
  ·rw [if_neg c5] at H
   exact absurd H (by simp)
 ·rw [if_neg c4] at H
  exact absurd H (by simp)

end Go.Proofs.Ytgglagpciojfmaa.PAll
