/- Own text of this session, written by a program of this session (wip/t/own.py) out of what the kit tells of the functions: each Go function as a Lean function, and the walk through its code. -/
import Derived.Test.YtfhkahlfpchhpaaT
import Derived.Test.YtfhkahlfpchhpaaF1
namespace Go.Proofs.Ytfhkahlfpchhpaa.PAll
open Go.RowKit Go.Proofs.YtfhkahlfpchhpaaW.PrintWords Go.Proofs.YtfhkahlfpchhpaaW.PrintLast Go.Proofs.YtfhkahlfpchhpaaW.PrintMore
attribute [local go_sem] max2_int min2_int max_two min_two max_three min_three max_four min_four   -- for this text's walks alone
set_option linter.unusedVariables false
set_option linter.unusedSimpArgs false

/-! ### spec_ScriptOk: function 54 -/
mutual
def spec_ScriptOk.l0 : Nat → Int → List (S64) → Int → Option (Bool)
  | 0, _, _, _ => none
  | k + 1, x0, x1, x5 => if x5 < (x1.length : Int) then (if 0 ≤ x5 then ((spec_l1In.f ((rd_T64 x1 x5).f0) 0 59).bind fun t815 => (if t815 = true then (if ((rd_T64 x1 x5).f1) < 0 then (spec_ScriptOk.j1 k x0 x1 x5 true) else (spec_ScriptOk.j1 k x0 x1 x5 (decide (((rd_T64 x1 x5).f1) ≥ x0)))) else (spec_ScriptOk.j1 k x0 x1 x5 true))) else (none)) else ((spec_l1In.f x0 1 6).bind fun t813 => (if t813 = true then (some (decide ((x1.length : Int) ≤ 8))) else (some false)))
def spec_ScriptOk.j1 : Nat → Int → List (S64) → Int → Bool → Option (Bool)
  | 0, _, _, _, _ => none
  | k + 1, x0, x1, x5, x35 => if x35 = true then (some false) else (if x5 > 0 then (if 0 ≤ x5 then (if x5 < (x1.length : Int) then (if 0 ≤ (wrap64 (x5 - 1)) then (if (wrap64 (x5 - 1)) < (x1.length : Int) then (if ((rd_T64 x1 x5).f0) < ((rd_T64 x1 (wrap64 (x5 - 1))).f0) then (some false) else (if ((rd_T64 x1 x5).f0) = ((rd_T64 x1 (wrap64 (x5 - 1))).f0) then (if ((rd_T64 x1 x5).f1) ≤ ((rd_T64 x1 (wrap64 (x5 - 1))).f1) then (some false) else (spec_ScriptOk.l0 k x0 x1 (wrap64 (x5 + 1)))) else (spec_ScriptOk.l0 k x0 x1 (wrap64 (x5 + 1))))) else (none)) else (none)) else (none)) else (none)) else (spec_ScriptOk.l0 k x0 x1 (wrap64 (x5 + 1))))
end
def spec_ScriptOk.f (k : Nat) (a0 : Int) (l1 : List (S64)) : Option (Bool) := spec_ScriptOk.l0 k a0 l1 0
theorem spec_ScriptOk.mono_l : ∀ k, (∀ y0 y1 y2, LeO (spec_ScriptOk.l0 k y0 y1 y2) (spec_ScriptOk.l0 (k + 1) y0 y1 y2)) ∧ (∀ y0 y1 y2 y3, LeO (spec_ScriptOk.j1 k y0 y1 y2 y3) (spec_ScriptOk.j1 (k + 1) y0 y1 y2 y3))
  | 0 => ⟨fun _ _ _ r h => by simp [spec_ScriptOk.l0] at h, fun _ _ _ _ r h => by simp [spec_ScriptOk.j1] at h⟩
  | k + 1 => by
    obtain ⟨ih0, ih1⟩ := spec_ScriptOk.mono_l k
    refine ⟨?_, ?_⟩
    · intro y0 y1 y2
      unfold spec_ScriptOk.l0
      repeat' first
      | (with_reducible exact ih0 _ _ _)
      | (with_reducible exact ih1 _ _ _ _)
      | (with_reducible exact LeO.refl _)
      | (with_reducible exact LeO.none _)
      | (with_reducible refine LeO.ite ?_ ?_)
      | (with_reducible refine LeO.bind ?_ (fun _ => ?_))
      | exact ih0 _ _ _
      | exact ih1 _ _ _ _
      | exact LeO.none _
      | refine LeO.ite ?_ ?_
      | refine LeO.bind ?_ (fun _ => ?_)
    · intro y0 y1 y2 y3
      unfold spec_ScriptOk.j1
      repeat' first
      | (with_reducible exact ih0 _ _ _)
      | (with_reducible exact ih1 _ _ _ _)
      | (with_reducible exact LeO.refl _)
      | (with_reducible exact LeO.none _)
      | (with_reducible refine LeO.ite ?_ ?_)
      | (with_reducible refine LeO.bind ?_ (fun _ => ?_))
      | exact ih0 _ _ _
      | exact ih1 _ _ _ _
      | exact LeO.none _
      | refine LeO.ite ?_ ?_
      | refine LeO.bind ?_ (fun _ => ?_)
theorem spec_ScriptOk.mono : ∀ a0 a1 k, LeO (spec_ScriptOk.f k a0 a1) (spec_ScriptOk.f (k + 1) a0 a1) := by
  intro a0 a1 k
  obtain ⟨ih0, ih1⟩ := spec_ScriptOk.mono_l k
  unfold spec_ScriptOk.f
  repeat' first
      | (with_reducible exact ih0 _ _ _)
      | (with_reducible exact ih1 _ _ _ _)
      | (with_reducible exact LeO.refl _)
      | (with_reducible exact LeO.none _)
      | (with_reducible refine LeO.ite ?_ ?_)
      | (with_reducible refine LeO.bind ?_ (fun _ => ?_))
      | exact ih0 _ _ _
      | exact ih1 _ _ _ _
      | exact LeO.none _
      | refine LeO.ite ?_ ?_
      | refine LeO.bind ?_ (fun _ => ?_)
set_option maxHeartbeats 8000000 in
set_option maxRecDepth 100000 in
theorem spec_ScriptOk.calls (k : Nat) (a0 : Int) (A1 : Option Addr) (c1 : Nat) (l1 : List (S64)) (r : Bool) (w : World) (hr1 : Kd.C k64 w A1 l1.length l1) (hc1 : l1.length ≤ c1) (h : spec_ScriptOk.f k a0 l1 = some r) :
    Calls Try.prog 54 #[.int .i64 a0, .slice A1 l1.length c1] w fun e w' => e = .returned (.bool r) ∧ Drawn0 w w' := by
  have HR1 := Aside0.mk hr1
  have HC1 := Aside0.mk hc1
  clear hr1 hc1
  have H : (spec_ScriptOk.l0 k a0 l1 0) = some r := h
  clear h
  have H' := Aside0.mk H
  clear H
  go_enter Try.func54, Try.ntmps54
  go_wp2
  repeat (go_quiet (fail); try go_wp2)
  go_loopg [5] k (fun kq v5 w' => ∃ (x5_1 : Int), v5 = .int .i64 x5_1 ∧ Aside0 (spec_ScriptOk.l0 kq a0 l1 x5_1 = some r) ∧ Aside0 (kq ≤ k) ∧ Drawn0 w w')
  case atStart => exact ⟨(0), (by first | rfl | (simp; done) | (simp [*]; done)), H', ⟨Nat.le_refl _⟩, by repeat (first | exact Drawn0.refl _ | apply Drawn0.step)⟩
  case round =>
    clear H'
    try clear c1
    try clear p2
    obtain ⟨x5_1, rfl, HA, HK1, ⟨m1, rfl⟩⟩ := hrel
    cases gk with
    | zero => exact absurd HA.out (by simp [spec_ScriptOk.l0])
    | succ k1 =>
      have H := HA.out
      clear HA
      simp only [spec_ScriptOk.l0] at H
      by_cases c3 : x5_1 < (l1.length : Int)
      · rw [if_pos c3] at H
        have c3b0 : decide (x5_1 < (l1.length : Int)) = true := decide_eq_true c3
        clear c3
        have HC4 := Aside0.mk H
        clear H
        go_upto_region 4 with (fail)
        repeat (go_quiet (fail); go_upto_region 4 with (fail))
        go_cut [35] (fun v35 wc => ∃ (kq : Nat) (x35_3 : Bool), v35 = .bool x35_3 ∧ Aside0 (spec_ScriptOk.j1 kq a0 l1 x5_1 x35_3 = some r) ∧ Aside0 (kq ≤ k1) ∧ Drawn0 w wc)
        case first =>
          have H := HC4.out
          clear HC4
          by_cases c5 : 0 ≤ x5_1
          · rw [if_pos c5] at H
            have c5b0 : decide (0 ≤ x5_1) = true := decide_eq_true c5
            clear c5
            (first | rw [c5b0] | (simp only [i64_w, i32_w]; rw [c5b0]) | skip)
            replace H := Option.bind_eq_some_iff.mp H
            obtain ⟨t815, A60, H⟩ := H
            replace H : (if t815 = true then (if ((rd_T64 l1 x5_1).f1) < 0 then (spec_ScriptOk.j1 k1 a0 l1 x5_1 true) else (spec_ScriptOk.j1 k1 a0 l1 x5_1 (decide (((rd_T64 l1 x5_1).f1) ≥ a0)))) else (spec_ScriptOk.j1 k1 a0 l1 x5_1 true)) = some r := H
            have A6 := Aside0.mk A60
            clear A60
            by_cases c7 : t815 = true
            · subst c7
              have H1 : (if ((rd_T64 l1 x5_1).f1) < 0 then (spec_ScriptOk.j1 k1 a0 l1 x5_1 true) else (spec_ScriptOk.j1 k1 a0 l1 x5_1 (decide (((rd_T64 l1 x5_1).f1) ≥ a0)))) = some r := by rw [if_pos rfl] at H; exact H
              clear H
              have H := H1
              clear H1
              by_cases c8 : ((rd_T64 l1 x5_1).f1) < 0
              · rw [if_pos c8] at H
                have c8b0 : decide (((rd_T64 l1 x5_1).f1) < 0) = true := decide_eq_true c8
                clear c8
                have H' := Aside0.mk H
                clear H
                have p814 : 0 ≤ (x5_1 : Int) := of_decide_eq_true (by first | (with_reducible assumption) | assumption)
                have q814 : x5_1 < (l1.length : Int) := of_decide_eq_true (by first | (with_reducible assumption) | assumption)
                obtain ⟨ad814, e814, hx814_0, hx814_1⟩ := at_T64 HR1.out x5_1 p814 q814
                cases e814
                replace p814 := eq_true p814
                replace q814 := eq_true q814
                go_wp2_with (first | (go_at_call 69; (with_reducible refine (spec_l1In.calls ((rd_T64 l1 x5_1).f0) 0 59 true _ A6.out).mono ?_); rintro e w' ⟨rfl, ⟨nd, rfl⟩⟩; (try first | exact ⟨rfl, _, World.drewN_drewN _ _ _⟩ | exact ⟨rfl, _, Eq.trans (World.drewN_drewN _ _ _) (congrArg (World.drewN _) (Nat.add_assoc _ _ _))⟩); have p816 : 0 ≤ (x5_1 : Int) := of_decide_eq_true (by first | (with_reducible assumption) | assumption); have q816 : x5_1 < (l1.length : Int) := of_decide_eq_true (by first | (with_reducible assumption) | assumption); obtain ⟨ad816, e816, hx816_0, hx816_1⟩ := at_T64 HR1.out x5_1 p816 q816; obtain rfl : ad814 = ad816 := (by injection e816); replace p816 := eq_true p816; replace q816 := eq_true q816))
                repeat (go_quiet (first | (go_at_call 69; (with_reducible refine (spec_l1In.calls ((rd_T64 l1 x5_1).f0) 0 59 true _ A6.out).mono ?_); rintro e w' ⟨rfl, ⟨nd, rfl⟩⟩; (try first | exact ⟨rfl, _, World.drewN_drewN _ _ _⟩ | exact ⟨rfl, _, Eq.trans (World.drewN_drewN _ _ _) (congrArg (World.drewN _) (Nat.add_assoc _ _ _))⟩); have p816 : 0 ≤ (x5_1 : Int) := of_decide_eq_true (by first | (with_reducible assumption) | assumption); have q816 : x5_1 < (l1.length : Int) := of_decide_eq_true (by first | (with_reducible assumption) | assumption); obtain ⟨ad816, e816, hx816_0, hx816_1⟩ := at_T64 HR1.out x5_1 p816 q816; obtain rfl : ad814 = ad816 := (by injection e816); replace p816 := eq_true p816; replace q816 := eq_true q816)); try go_wp2_with (first | (go_at_call 69; (with_reducible refine (spec_l1In.calls ((rd_T64 l1 x5_1).f0) 0 59 true _ A6.out).mono ?_); rintro e w' ⟨rfl, ⟨nd, rfl⟩⟩; (try first | exact ⟨rfl, _, World.drewN_drewN _ _ _⟩ | exact ⟨rfl, _, Eq.trans (World.drewN_drewN _ _ _) (congrArg (World.drewN _) (Nat.add_assoc _ _ _))⟩); have p816 : 0 ≤ (x5_1 : Int) := of_decide_eq_true (by first | (with_reducible assumption) | assumption); have q816 : x5_1 < (l1.length : Int) := of_decide_eq_true (by first | (with_reducible assumption) | assumption); obtain ⟨ad816, e816, hx816_0, hx816_1⟩ := at_T64 HR1.out x5_1 p816 q816; obtain rfl : ad814 = ad816 := (by injection e816); replace p816 := eq_true p816; replace q816 := eq_true q816)))
                go_meet
                case rel => exact ⟨_, (true), (by first | rfl | (simp; done) | (simp [*]; done)), H', ⟨by have := HK1.out; first | omega | exact Nat.le_refl _⟩, by repeat (first | exact Drawn0.refl _ | apply Drawn0.step)⟩
              · rw [if_neg c8] at H
                have c8b0 : decide (((rd_T64 l1 x5_1).f1) < 0) = false := decide_eq_false c8
                clear c8
                have H' := Aside0.mk H
                clear H
                have p814 : 0 ≤ (x5_1 : Int) := of_decide_eq_true (by first | (with_reducible assumption) | assumption)
                have q814 : x5_1 < (l1.length : Int) := of_decide_eq_true (by first | (with_reducible assumption) | assumption)
                obtain ⟨ad814, e814, hx814_0, hx814_1⟩ := at_T64 HR1.out x5_1 p814 q814
                cases e814
                replace p814 := eq_true p814
                replace q814 := eq_true q814
                go_wp2_with (first | (go_at_call 69; (with_reducible refine (spec_l1In.calls ((rd_T64 l1 x5_1).f0) 0 59 true _ A6.out).mono ?_); rintro e w' ⟨rfl, ⟨nd, rfl⟩⟩; (try first | exact ⟨rfl, _, World.drewN_drewN _ _ _⟩ | exact ⟨rfl, _, Eq.trans (World.drewN_drewN _ _ _) (congrArg (World.drewN _) (Nat.add_assoc _ _ _))⟩); have p816 : 0 ≤ (x5_1 : Int) := of_decide_eq_true (by first | (with_reducible assumption) | assumption); have q816 : x5_1 < (l1.length : Int) := of_decide_eq_true (by first | (with_reducible assumption) | assumption); obtain ⟨ad816, e816, hx816_0, hx816_1⟩ := at_T64 HR1.out x5_1 p816 q816; obtain rfl : ad814 = ad816 := (by injection e816); replace p816 := eq_true p816; replace q816 := eq_true q816; have p817 : 0 ≤ (x5_1 : Int) := of_decide_eq_true (by first | (with_reducible assumption) | assumption); have q817 : x5_1 < (l1.length : Int) := of_decide_eq_true (by first | (with_reducible assumption) | assumption); obtain ⟨ad817, e817, hx817_0, hx817_1⟩ := at_T64 HR1.out x5_1 p817 q817; obtain rfl : ad814 = ad817 := (by injection e817); replace p817 := eq_true p817; replace q817 := eq_true q817))
                repeat (go_quiet (first | (go_at_call 69; (with_reducible refine (spec_l1In.calls ((rd_T64 l1 x5_1).f0) 0 59 true _ A6.out).mono ?_); rintro e w' ⟨rfl, ⟨nd, rfl⟩⟩; (try first | exact ⟨rfl, _, World.drewN_drewN _ _ _⟩ | exact ⟨rfl, _, Eq.trans (World.drewN_drewN _ _ _) (congrArg (World.drewN _) (Nat.add_assoc _ _ _))⟩); have p816 : 0 ≤ (x5_1 : Int) := of_decide_eq_true (by first | (with_reducible assumption) | assumption); have q816 : x5_1 < (l1.length : Int) := of_decide_eq_true (by first | (with_reducible assumption) | assumption); obtain ⟨ad816, e816, hx816_0, hx816_1⟩ := at_T64 HR1.out x5_1 p816 q816; obtain rfl : ad814 = ad816 := (by injection e816); replace p816 := eq_true p816; replace q816 := eq_true q816; have p817 : 0 ≤ (x5_1 : Int) := of_decide_eq_true (by first | (with_reducible assumption) | assumption); have q817 : x5_1 < (l1.length : Int) := of_decide_eq_true (by first | (with_reducible assumption) | assumption); obtain ⟨ad817, e817, hx817_0, hx817_1⟩ := at_T64 HR1.out x5_1 p817 q817; obtain rfl : ad814 = ad817 := (by injection e817); replace p817 := eq_true p817; replace q817 := eq_true q817)); try go_wp2_with (first | (go_at_call 69; (with_reducible refine (spec_l1In.calls ((rd_T64 l1 x5_1).f0) 0 59 true _ A6.out).mono ?_); rintro e w' ⟨rfl, ⟨nd, rfl⟩⟩; (try first | exact ⟨rfl, _, World.drewN_drewN _ _ _⟩ | exact ⟨rfl, _, Eq.trans (World.drewN_drewN _ _ _) (congrArg (World.drewN _) (Nat.add_assoc _ _ _))⟩); have p816 : 0 ≤ (x5_1 : Int) := of_decide_eq_true (by first | (with_reducible assumption) | assumption); have q816 : x5_1 < (l1.length : Int) := of_decide_eq_true (by first | (with_reducible assumption) | assumption); obtain ⟨ad816, e816, hx816_0, hx816_1⟩ := at_T64 HR1.out x5_1 p816 q816; obtain rfl : ad814 = ad816 := (by injection e816); replace p816 := eq_true p816; replace q816 := eq_true q816; have p817 : 0 ≤ (x5_1 : Int) := of_decide_eq_true (by first | (with_reducible assumption) | assumption); have q817 : x5_1 < (l1.length : Int) := of_decide_eq_true (by first | (with_reducible assumption) | assumption); obtain ⟨ad817, e817, hx817_0, hx817_1⟩ := at_T64 HR1.out x5_1 p817 q817; obtain rfl : ad814 = ad817 := (by injection e817); replace p817 := eq_true p817; replace q817 := eq_true q817)))
                go_meet
                case rel => exact ⟨_, (decide (((rd_T64 l1 x5_1).f1) ≥ a0)), (by first | rfl | (simp; done) | (simp [*]; done)), H', ⟨by have := HK1.out; first | omega | exact Nat.le_refl _⟩, by repeat (first | exact Drawn0.refl _ | apply Drawn0.step)⟩
            · replace c7 := Bool.eq_false_iff.mpr c7
              subst c7
              have H1 : (spec_ScriptOk.j1 k1 a0 l1 x5_1 true) = some r := by rw [if_neg (show ¬ (false = true) by decide)] at H; exact H
              clear H
              have H := H1
              clear H1
              have H' := Aside0.mk H
              clear H
              have p814 : 0 ≤ (x5_1 : Int) := of_decide_eq_true (by first | (with_reducible assumption) | assumption)
              have q814 : x5_1 < (l1.length : Int) := of_decide_eq_true (by first | (with_reducible assumption) | assumption)
              obtain ⟨ad814, e814, hx814_0, hx814_1⟩ := at_T64 HR1.out x5_1 p814 q814
              cases e814
              replace p814 := eq_true p814
              replace q814 := eq_true q814
              go_wp2_with (first | (go_at_call 69; (with_reducible refine (spec_l1In.calls ((rd_T64 l1 x5_1).f0) 0 59 false _ A6.out).mono ?_); rintro e w' ⟨rfl, ⟨nd, rfl⟩⟩; (try first | exact ⟨rfl, _, World.drewN_drewN _ _ _⟩ | exact ⟨rfl, _, Eq.trans (World.drewN_drewN _ _ _) (congrArg (World.drewN _) (Nat.add_assoc _ _ _))⟩)))
              repeat (go_quiet (first | (go_at_call 69; (with_reducible refine (spec_l1In.calls ((rd_T64 l1 x5_1).f0) 0 59 false _ A6.out).mono ?_); rintro e w' ⟨rfl, ⟨nd, rfl⟩⟩; (try first | exact ⟨rfl, _, World.drewN_drewN _ _ _⟩ | exact ⟨rfl, _, Eq.trans (World.drewN_drewN _ _ _) (congrArg (World.drewN _) (Nat.add_assoc _ _ _))⟩))); try go_wp2_with (first | (go_at_call 69; (with_reducible refine (spec_l1In.calls ((rd_T64 l1 x5_1).f0) 0 59 false _ A6.out).mono ?_); rintro e w' ⟨rfl, ⟨nd, rfl⟩⟩; (try first | exact ⟨rfl, _, World.drewN_drewN _ _ _⟩ | exact ⟨rfl, _, Eq.trans (World.drewN_drewN _ _ _) (congrArg (World.drewN _) (Nat.add_assoc _ _ _))⟩))))
              go_meet
              case rel => exact ⟨_, (true), (by first | rfl | (simp; done) | (simp [*]; done)), H', ⟨by have := HK1.out; first | omega | exact Nat.le_refl _⟩, by repeat (first | exact Drawn0.refl _ | apply Drawn0.step)⟩
          · rw [if_neg c5] at H
            exact absurd H (by simp)
        case rest =>
          clear HC4
          try clear c1
          try clear p2
          try clear c3
          try clear c3b0
          try clear c5
          try clear c5b0
          try clear c7
          try clear c8
          try clear c8b0
          try clear p8
          try clear q8
          try clear hx8
          try clear hx814_0
          try clear hx814_1
          try clear hx816_0
          try clear hx816_1
          try clear hx817_0
          try clear hx817_1
          try clear p2
          try clear p814
          try clear p816
          try clear p817
          try clear q814
          try clear q816
          try clear q817
          obtain ⟨kq, x35_3, rfl, HA, HJ3, ⟨mc3, rfl⟩⟩ := hcut
          cases kq with
          | zero => exact absurd HA.out (by simp [spec_ScriptOk.j1])
          | succ kj3 =>
            have H := HA.out
            clear HA
            simp only [spec_ScriptOk.j1] at H
            by_cases c9 : x35_3 = true
            · subst c9
              have H1 : (some false) = some r := by rw [if_pos rfl] at H; exact H
              clear H
              have H := H1
              clear H1
              obtain rfl := Option.some.inj H
              go_wp2
              repeat (go_quiet (fail); try go_wp2)
              go_ret
              exact ⟨by first | rfl | (simp; done) | (simp [*]; done), by repeat (first | exact Drawn0.refl _ | apply Drawn0.step)⟩
            · replace c9 := Bool.eq_false_iff.mpr c9
              subst c9
              have H1 : (if x5_1 > 0 then (if 0 ≤ x5_1 then (if x5_1 < (l1.length : Int) then (if 0 ≤ (wrap64 (x5_1 - 1)) then (if (wrap64 (x5_1 - 1)) < (l1.length : Int) then (if ((rd_T64 l1 x5_1).f0) < ((rd_T64 l1 (wrap64 (x5_1 - 1))).f0) then (some false) else (if ((rd_T64 l1 x5_1).f0) = ((rd_T64 l1 (wrap64 (x5_1 - 1))).f0) then (if ((rd_T64 l1 x5_1).f1) ≤ ((rd_T64 l1 (wrap64 (x5_1 - 1))).f1) then (some false) else (spec_ScriptOk.l0 kj3 a0 l1 (wrap64 (x5_1 + 1)))) else (spec_ScriptOk.l0 kj3 a0 l1 (wrap64 (x5_1 + 1))))) else (none)) else (none)) else (none)) else (none)) else (spec_ScriptOk.l0 kj3 a0 l1 (wrap64 (x5_1 + 1)))) = some r := by rw [if_neg (show ¬ (false = true) by decide)] at H; exact H
              clear H
              have H := H1
              clear H1
              by_cases c10 : x5_1 > 0
              · rw [if_pos c10] at H
                have c10b0 : decide (0 < x5_1) = true := decide_eq_true c10
                clear c10
                by_cases c11 : 0 ≤ x5_1
                · rw [if_pos c11] at H
                  have c11b0 : decide (0 ≤ x5_1) = true := decide_eq_true c11
                  clear c11
                  by_cases c12 : x5_1 < (l1.length : Int)
                  · rw [if_pos c12] at H
                    have c12b0 : decide (x5_1 < (l1.length : Int)) = true := decide_eq_true c12
                    clear c12
                    obtain ⟨ji13, hji13⟩ : ∃ j_ : Int, (wrap64 (x5_1 - 1)) = j_ := ⟨_, rfl⟩
                    replace H : (if 0 ≤ (ji13) then (if (ji13) < (l1.length : Int) then (if ((rd_T64 l1 x5_1).f0) < ((rd_T64 l1 (ji13)).f0) then (some false) else (if ((rd_T64 l1 x5_1).f0) = ((rd_T64 l1 (ji13)).f0) then (if ((rd_T64 l1 x5_1).f1) ≤ ((rd_T64 l1 (ji13)).f1) then (some false) else (spec_ScriptOk.l0 kj3 a0 l1 (wrap64 (x5_1 + 1)))) else (spec_ScriptOk.l0 kj3 a0 l1 (wrap64 (x5_1 + 1))))) else (none)) else (none)) = some r := by first | (rw [hji13] at H; exact H) | (simp only [hji13] at H ⊢; exact H)
                    have hji13w : (IntKind.i64.wrap (x5_1 - 1)) = ji13 := (i64_w _).trans hji13
                    by_cases c14 : 0 ≤ (ji13)
                    · rw [if_pos c14] at H
                      have c14b0 : decide (0 ≤ (ji13)) = true := decide_eq_true c14
                      clear c14
                      by_cases c15 : (ji13) < (l1.length : Int)
                      · rw [if_pos c15] at H
                        have c15b0 : decide ((ji13) < (l1.length : Int)) = true := decide_eq_true c15
                        clear c15
                        by_cases c16 : ((rd_T64 l1 x5_1).f0) < ((rd_T64 l1 (ji13)).f0)
                        · rw [if_pos c16] at H
                          have c16b0 : decide (((rd_T64 l1 x5_1).f0) < ((rd_T64 l1 (ji13)).f0)) = true := decide_eq_true c16
                          clear c16
                          obtain rfl := Option.some.inj H
                          have p818 : 0 ≤ (x5_1 : Int) := of_decide_eq_true (by first | (with_reducible assumption) | assumption)
                          have q818 : x5_1 < (l1.length : Int) := of_decide_eq_true (by first | (with_reducible assumption) | assumption)
                          obtain ⟨ad818, e818, hx818_0, hx818_1⟩ := at_T64 HR1.out x5_1 p818 q818
                          cases e818
                          replace p818 := eq_true p818
                          replace q818 := eq_true q818
                          have p819 : 0 ≤ ((ji13) : Int) := of_decide_eq_true (by first | (with_reducible assumption) | assumption)
                          have q819 : (ji13) < (l1.length : Int) := of_decide_eq_true (by first | (with_reducible assumption) | assumption)
                          obtain ⟨ad819, e819, hx819_0, hx819_1⟩ := at_T64 HR1.out (ji13) p819 q819
                          obtain rfl : ad818 = ad819 := (by injection e819)
                          replace p819 := eq_true p819
                          replace q819 := eq_true q819
                          go_wp2
                          repeat (go_quiet (fail); try go_wp2)
                          go_ret
                          exact ⟨by first | rfl | (simp; done) | (simp only [← hji13] <;> (first | rfl | simp)) | (simp [*]; done), by repeat (first | exact Drawn0.refl _ | apply Drawn0.step)⟩
                        · rw [if_neg c16] at H
                          have c16b0 : decide (((rd_T64 l1 x5_1).f0) < ((rd_T64 l1 (ji13)).f0)) = false := decide_eq_false c16
                          clear c16
                          by_cases c17 : ((rd_T64 l1 x5_1).f0) = ((rd_T64 l1 (ji13)).f0)
                          · rw [if_pos c17] at H
                            have c17b0 : (((rd_T64 l1 x5_1).f0) == ((rd_T64 l1 (ji13)).f0)) = true := beq_iff_eq.mpr c17
                            have c17b1 : (((rd_T64 l1 x5_1).f0) != ((rd_T64 l1 (ji13)).f0)) = false := bne_eq_false_iff_eq.mpr c17
                            clear c17
                            by_cases c18 : ((rd_T64 l1 x5_1).f1) ≤ ((rd_T64 l1 (ji13)).f1)
                            · rw [if_pos c18] at H
                              have c18b0 : decide (((rd_T64 l1 x5_1).f1) ≤ ((rd_T64 l1 (ji13)).f1)) = true := decide_eq_true c18
                              clear c18
                              obtain rfl := Option.some.inj H
                              have p818 : 0 ≤ (x5_1 : Int) := of_decide_eq_true (by first | (with_reducible assumption) | assumption)
                              have q818 : x5_1 < (l1.length : Int) := of_decide_eq_true (by first | (with_reducible assumption) | assumption)
                              obtain ⟨ad818, e818, hx818_0, hx818_1⟩ := at_T64 HR1.out x5_1 p818 q818
                              cases e818
                              replace p818 := eq_true p818
                              replace q818 := eq_true q818
                              have p819 : 0 ≤ ((ji13) : Int) := of_decide_eq_true (by first | (with_reducible assumption) | assumption)
                              have q819 : (ji13) < (l1.length : Int) := of_decide_eq_true (by first | (with_reducible assumption) | assumption)
                              obtain ⟨ad819, e819, hx819_0, hx819_1⟩ := at_T64 HR1.out (ji13) p819 q819
                              obtain rfl : ad818 = ad819 := (by injection e819)
                              replace p819 := eq_true p819
                              replace q819 := eq_true q819
                              have p820 : 0 ≤ (x5_1 : Int) := of_decide_eq_true (by first | (with_reducible assumption) | assumption)
                              have q820 : x5_1 < (l1.length : Int) := of_decide_eq_true (by first | (with_reducible assumption) | assumption)
                              obtain ⟨ad820, e820, hx820_0, hx820_1⟩ := at_T64 HR1.out x5_1 p820 q820
                              obtain rfl : ad818 = ad820 := (by injection e820)
                              replace p820 := eq_true p820
                              replace q820 := eq_true q820
                              have p821 : 0 ≤ ((ji13) : Int) := of_decide_eq_true (by first | (with_reducible assumption) | assumption)
                              have q821 : (ji13) < (l1.length : Int) := of_decide_eq_true (by first | (with_reducible assumption) | assumption)
                              obtain ⟨ad821, e821, hx821_0, hx821_1⟩ := at_T64 HR1.out (ji13) p821 q821
                              obtain rfl : ad818 = ad821 := (by injection e821)
                              replace p821 := eq_true p821
                              replace q821 := eq_true q821
                              have p822 : 0 ≤ (x5_1 : Int) := of_decide_eq_true (by first | (with_reducible assumption) | assumption)
                              have q822 : x5_1 < (l1.length : Int) := of_decide_eq_true (by first | (with_reducible assumption) | assumption)
                              obtain ⟨ad822, e822, hx822_0, hx822_1⟩ := at_T64 HR1.out x5_1 p822 q822
                              obtain rfl : ad818 = ad822 := (by injection e822)
                              replace p822 := eq_true p822
                              replace q822 := eq_true q822
                              have p823 : 0 ≤ ((ji13) : Int) := of_decide_eq_true (by first | (with_reducible assumption) | assumption)
                              have q823 : (ji13) < (l1.length : Int) := of_decide_eq_true (by first | (with_reducible assumption) | assumption)
                              obtain ⟨ad823, e823, hx823_0, hx823_1⟩ := at_T64 HR1.out (ji13) p823 q823
                              obtain rfl : ad818 = ad823 := (by injection e823)
                              replace p823 := eq_true p823
                              replace q823 := eq_true q823
                              go_wp2
                              repeat (go_quiet (fail); try go_wp2)
                              go_ret
                              exact ⟨by first | rfl | (simp; done) | (simp only [← hji13] <;> (first | rfl | simp)) | (simp [*]; done), by repeat (first | exact Drawn0.refl _ | apply Drawn0.step)⟩
                            · rw [if_neg c18] at H
                              have c18b0 : decide (((rd_T64 l1 x5_1).f1) ≤ ((rd_T64 l1 (ji13)).f1)) = false := decide_eq_false c18
                              clear c18
                              have H' := Aside0.mk H
                              clear H
                              have p818 : 0 ≤ (x5_1 : Int) := of_decide_eq_true (by first | (with_reducible assumption) | assumption)
                              have q818 : x5_1 < (l1.length : Int) := of_decide_eq_true (by first | (with_reducible assumption) | assumption)
                              obtain ⟨ad818, e818, hx818_0, hx818_1⟩ := at_T64 HR1.out x5_1 p818 q818
                              cases e818
                              replace p818 := eq_true p818
                              replace q818 := eq_true q818
                              have p819 : 0 ≤ ((ji13) : Int) := of_decide_eq_true (by first | (with_reducible assumption) | assumption)
                              have q819 : (ji13) < (l1.length : Int) := of_decide_eq_true (by first | (with_reducible assumption) | assumption)
                              obtain ⟨ad819, e819, hx819_0, hx819_1⟩ := at_T64 HR1.out (ji13) p819 q819
                              obtain rfl : ad818 = ad819 := (by injection e819)
                              replace p819 := eq_true p819
                              replace q819 := eq_true q819
                              have p820 : 0 ≤ (x5_1 : Int) := of_decide_eq_true (by first | (with_reducible assumption) | assumption)
                              have q820 : x5_1 < (l1.length : Int) := of_decide_eq_true (by first | (with_reducible assumption) | assumption)
                              obtain ⟨ad820, e820, hx820_0, hx820_1⟩ := at_T64 HR1.out x5_1 p820 q820
                              obtain rfl : ad818 = ad820 := (by injection e820)
                              replace p820 := eq_true p820
                              replace q820 := eq_true q820
                              have p821 : 0 ≤ ((ji13) : Int) := of_decide_eq_true (by first | (with_reducible assumption) | assumption)
                              have q821 : (ji13) < (l1.length : Int) := of_decide_eq_true (by first | (with_reducible assumption) | assumption)
                              obtain ⟨ad821, e821, hx821_0, hx821_1⟩ := at_T64 HR1.out (ji13) p821 q821
                              obtain rfl : ad818 = ad821 := (by injection e821)
                              replace p821 := eq_true p821
                              replace q821 := eq_true q821
                              have p822 : 0 ≤ (x5_1 : Int) := of_decide_eq_true (by first | (with_reducible assumption) | assumption)
                              have q822 : x5_1 < (l1.length : Int) := of_decide_eq_true (by first | (with_reducible assumption) | assumption)
                              obtain ⟨ad822, e822, hx822_0, hx822_1⟩ := at_T64 HR1.out x5_1 p822 q822
                              obtain rfl : ad818 = ad822 := (by injection e822)
                              replace p822 := eq_true p822
                              replace q822 := eq_true q822
                              have p823 : 0 ≤ ((ji13) : Int) := of_decide_eq_true (by first | (with_reducible assumption) | assumption)
                              have q823 : (ji13) < (l1.length : Int) := of_decide_eq_true (by first | (with_reducible assumption) | assumption)
                              obtain ⟨ad823, e823, hx823_0, hx823_1⟩ := at_T64 HR1.out (ji13) p823 q823
                              obtain rfl : ad818 = ad823 := (by injection e823)
                              replace p823 := eq_true p823
                              replace q823 := eq_true q823
                              go_wp2
                              repeat (go_quiet (fail); try go_wp2)
                              go_roundg kj3
                              case measure => have := HK1.out; have := HJ3.out; omega
                              case rel => exact ⟨(wrap64 (x5_1 + 1)), (by first | rfl | (simp; done) | (simp [*]; done)), H', ⟨by have := HK1.out; have := HJ3.out; omega⟩, by repeat (first | exact Drawn0.refl _ | apply Drawn0.step)⟩
                          · rw [if_neg c17] at H
                            have c17b0 : (((rd_T64 l1 x5_1).f0) == ((rd_T64 l1 (ji13)).f0)) = false := beq_eq_false_iff_ne.mpr c17
                            have c17b1 : (((rd_T64 l1 x5_1).f0) != ((rd_T64 l1 (ji13)).f0)) = true := bne_iff_ne.mpr c17
                            have H' := Aside0.mk H
                            clear H
                            have p818 : 0 ≤ (x5_1 : Int) := of_decide_eq_true (by first | (with_reducible assumption) | assumption)
                            have q818 : x5_1 < (l1.length : Int) := of_decide_eq_true (by first | (with_reducible assumption) | assumption)
                            obtain ⟨ad818, e818, hx818_0, hx818_1⟩ := at_T64 HR1.out x5_1 p818 q818
                            cases e818
                            replace p818 := eq_true p818
                            replace q818 := eq_true q818
                            have p819 : 0 ≤ ((ji13) : Int) := of_decide_eq_true (by first | (with_reducible assumption) | assumption)
                            have q819 : (ji13) < (l1.length : Int) := of_decide_eq_true (by first | (with_reducible assumption) | assumption)
                            obtain ⟨ad819, e819, hx819_0, hx819_1⟩ := at_T64 HR1.out (ji13) p819 q819
                            obtain rfl : ad818 = ad819 := (by injection e819)
                            replace p819 := eq_true p819
                            replace q819 := eq_true q819
                            have p820 : 0 ≤ (x5_1 : Int) := of_decide_eq_true (by first | (with_reducible assumption) | assumption)
                            have q820 : x5_1 < (l1.length : Int) := of_decide_eq_true (by first | (with_reducible assumption) | assumption)
                            obtain ⟨ad820, e820, hx820_0, hx820_1⟩ := at_T64 HR1.out x5_1 p820 q820
                            obtain rfl : ad818 = ad820 := (by injection e820)
                            replace p820 := eq_true p820
                            replace q820 := eq_true q820
                            have p821 : 0 ≤ ((ji13) : Int) := of_decide_eq_true (by first | (with_reducible assumption) | assumption)
                            have q821 : (ji13) < (l1.length : Int) := of_decide_eq_true (by first | (with_reducible assumption) | assumption)
                            obtain ⟨ad821, e821, hx821_0, hx821_1⟩ := at_T64 HR1.out (ji13) p821 q821
                            obtain rfl : ad818 = ad821 := (by injection e821)
                            replace p821 := eq_true p821
                            replace q821 := eq_true q821
                            go_wp2
                            repeat (go_quiet (fail); try go_wp2)
                            go_roundg kj3
                            case measure => have := HK1.out; have := HJ3.out; omega
                            case rel => exact ⟨(wrap64 (x5_1 + 1)), (by first | rfl | (simp; done) | (simp [*]; done)), H', ⟨by have := HK1.out; have := HJ3.out; omega⟩, by repeat (first | exact Drawn0.refl _ | apply Drawn0.step)⟩
                      · rw [if_neg c15] at H
                        exact absurd H (by simp)
                    · rw [if_neg c14] at H
                      exact absurd H (by simp)
                  · rw [if_neg c12] at H
                    exact absurd H (by simp)
                · rw [if_neg c11] at H
                  exact absurd H (by simp)
              · rw [if_neg c10] at H
                have c10b0 : decide (0 < x5_1) = false := decide_eq_false c10
                clear c10
                have H' := Aside0.mk H
                clear H
                go_wp2
                repeat (go_quiet (fail); try go_wp2)
                go_roundg kj3
                case measure => have := HK1.out; have := HJ3.out; omega
                case rel => exact ⟨(wrap64 (x5_1 + 1)), (by first | rfl | (simp; done) | (simp [*]; done)), H', ⟨by have := HK1.out; have := HJ3.out; omega⟩, by repeat (first | exact Drawn0.refl _ | apply Drawn0.step)⟩
      · rw [if_neg c3] at H
        have c3b0 : decide (x5_1 < (l1.length : Int)) = false := decide_eq_false c3
        clear c3
        replace H := Option.bind_eq_some_iff.mp H
        obtain ⟨t813, A190, H⟩ := H
        replace H : (if t813 = true then (some (decide ((l1.length : Int) ≤ 8))) else (some false)) = some r := H
        have A19 := Aside0.mk A190
        clear A190
        by_cases c20 : t813 = true
        · subst c20
          have H1 : (some (decide ((l1.length : Int) ≤ 8))) = some r := by rw [if_pos rfl] at H; exact H
          clear H
          have H := H1
          clear H1
          obtain rfl := Option.some.inj H
          go_wp2_with (first | (go_at_call 69; (with_reducible refine (spec_l1In.calls a0 1 6 true _ A19.out).mono ?_); rintro e w' ⟨rfl, ⟨nd, rfl⟩⟩; (try first | exact ⟨rfl, _, World.drewN_drewN _ _ _⟩ | exact ⟨rfl, _, Eq.trans (World.drewN_drewN _ _ _) (congrArg (World.drewN _) (Nat.add_assoc _ _ _))⟩)))
          repeat (go_quiet (first | (go_at_call 69; (with_reducible refine (spec_l1In.calls a0 1 6 true _ A19.out).mono ?_); rintro e w' ⟨rfl, ⟨nd, rfl⟩⟩; (try first | exact ⟨rfl, _, World.drewN_drewN _ _ _⟩ | exact ⟨rfl, _, Eq.trans (World.drewN_drewN _ _ _) (congrArg (World.drewN _) (Nat.add_assoc _ _ _))⟩))); try go_wp2_with (first | (go_at_call 69; (with_reducible refine (spec_l1In.calls a0 1 6 true _ A19.out).mono ?_); rintro e w' ⟨rfl, ⟨nd, rfl⟩⟩; (try first | exact ⟨rfl, _, World.drewN_drewN _ _ _⟩ | exact ⟨rfl, _, Eq.trans (World.drewN_drewN _ _ _) (congrArg (World.drewN _) (Nat.add_assoc _ _ _))⟩))))
          go_ret
          exact ⟨by first | rfl | (simp; done) | (simp [*]; done), by repeat (first | exact Drawn0.refl _ | apply Drawn0.step)⟩
        · replace c20 := Bool.eq_false_iff.mpr c20
          subst c20
          have H1 : (some false) = some r := by rw [if_neg (show ¬ (false = true) by decide)] at H; exact H
          clear H
          have H := H1
          clear H1
          obtain rfl := Option.some.inj H
          go_wp2_with (first | (go_at_call 69; (with_reducible refine (spec_l1In.calls a0 1 6 false _ A19.out).mono ?_); rintro e w' ⟨rfl, ⟨nd, rfl⟩⟩; (try first | exact ⟨rfl, _, World.drewN_drewN _ _ _⟩ | exact ⟨rfl, _, Eq.trans (World.drewN_drewN _ _ _) (congrArg (World.drewN _) (Nat.add_assoc _ _ _))⟩)))
          repeat (go_quiet (first | (go_at_call 69; (with_reducible refine (spec_l1In.calls a0 1 6 false _ A19.out).mono ?_); rintro e w' ⟨rfl, ⟨nd, rfl⟩⟩; (try first | exact ⟨rfl, _, World.drewN_drewN _ _ _⟩ | exact ⟨rfl, _, Eq.trans (World.drewN_drewN _ _ _) (congrArg (World.drewN _) (Nat.add_assoc _ _ _))⟩))); try go_wp2_with (first | (go_at_call 69; (with_reducible refine (spec_l1In.calls a0 1 6 false _ A19.out).mono ?_); rintro e w' ⟨rfl, ⟨nd, rfl⟩⟩; (try first | exact ⟨rfl, _, World.drewN_drewN _ _ _⟩ | exact ⟨rfl, _, Eq.trans (World.drewN_drewN _ _ _) (congrArg (World.drewN _) (Nat.add_assoc _ _ _))⟩))))
          go_ret
          exact ⟨by first | rfl | (simp; done) | (simp [*]; done), by repeat (first | exact Drawn0.refl _ | apply Drawn0.step)⟩

end Go.Proofs.Ytfhkahlfpchhpaa.PAll
