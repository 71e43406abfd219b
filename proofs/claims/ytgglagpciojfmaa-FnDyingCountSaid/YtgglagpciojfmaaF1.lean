/- Own text of this session, written by a program of this session (wip/t/own.py) out of what the kit tells of the functions: each Go function as a Lean function, and the walk through its code. -/
import Derived.Test.YtgglagpciojfmaaT
import Derived.Test.YtgglagpciojfmaaF0
namespace Go.Proofs.Ytgglagpciojfmaa.PAll
open Go.RowKit Go.Proofs.YtgglagpciojfmaaW.PrintWords Go.Proofs.YtgglagpciojfmaaW.PrintLast Go.Proofs.YtgglagpciojfmaaW.PrintMore
attribute [local go_sem] max2_int min2_int max_two min_two max_three min_three max_four min_four   -- for this text's walks alone
set_option linter.unusedVariables false
set_option linter.unusedSimpArgs false

/-! ### spec_NetOk: function 79 -/
mutual
def spec_NetOk.l0 : Nat → List Int → Int → Option (Bool)
 | 0, _, _ => none
 | k + 1, x0, x3 => if x3 < (x0.length : Int) then (if 0 ≤ x3 then ((spec_l1In.f (rd x0 x3) 0 (wrap64 ((shl .i64 1 (x0.length : Int)) - 1))).bind fun t103 => (if t103 = true then (spec_NetOk.l0 k x0 (wrap64 (x3 + 1))) else (some false))) else (none)) else (spec_NetOk.l1 k x0 0)
def spec_NetOk.l1 : Nat → List Int → Int → Option (Bool)
 | 0, _, _ => none
 | k + 1, x0, x4 => if x4 < (x0.length : Int) then (spec_NetOk.l2 k x0 x4 0) else (some true)
def spec_NetOk.l2 : Nat → List Int → Int → Int → Option (Bool)
 | 0, _, _, _ => none
 | k + 1, x0, x4, x5 => if x5 < (x0.length : Int) then (if 0 ≤ x4 then (if x4 < (x0.length : Int) then (if 0 ≤ x5 then (if (Int.tmod (shr .i64 (rd x0 x4) x5) 2) = (Int.tmod (shr .i64 (rd x0 x5) x4) 2) then (if x5 = x4 then (if (Int.tmod (shr .i64 (rd x0 x4) x5) 2) = 1 then (some false) else (spec_NetOk.l2 k x0 x4 (wrap64 (x5 + 1)))) else (spec_NetOk.l2 k x0 x4 (wrap64 (x5 + 1)))) else (some false)) else (none)) else (none)) else (none)) else (spec_NetOk.l1 k x0 (wrap64 (x4 + 1)))
end
def spec_NetOk.f (k : Nat) (l0 : List Int) : Option (Bool) := (spec_l1In.f (l0.length : Int) 1 6).bind fun t101 => (if t101 = true then (spec_NetOk.l0 k l0 0) else (some false))
theorem spec_NetOk.mono_l : ∀ k, (∀ y0 y1, LeO (spec_NetOk.l0 k y0 y1) (spec_NetOk.l0 (k + 1) y0 y1)) ∧ (∀ y0 y1, LeO (spec_NetOk.l1 k y0 y1) (spec_NetOk.l1 (k + 1) y0 y1)) ∧ (∀ y0 y1 y2, LeO (spec_NetOk.l2 k y0 y1 y2) (spec_NetOk.l2 (k + 1) y0 y1 y2))
 | 0 => ⟨fun _ _ r h => by simp [spec_NetOk.l0] at h, fun _ _ r h => by simp [spec_NetOk.l1] at h, fun _ _ _ r h => by simp [spec_NetOk.l2] at h⟩
 | k + 1 => by
  obtain ⟨ih0, ih1, ih2⟩ := spec_NetOk.mono_l k
  refine ⟨?_, ?_, ?_⟩
  ·intro y0 y1
   unfold spec_NetOk.l0
   repeat' first
   | (with_reducible exact ih0 _ _)
   | (with_reducible exact ih1 _ _)
   | (with_reducible exact ih2 _ _ _)
   | (with_reducible exact LeO.refl _)
   | (with_reducible exact LeO.none _)
   | (with_reducible refine LeO.ite ?_ ?_)
   | (with_reducible refine LeO.bind ?_ (fun _ => ?_))
   | exact ih0 _ _
   | exact ih1 _ _
   | exact ih2 _ _ _
   | exact LeO.none _
   | refine LeO.ite ?_ ?_
   | refine LeO.bind ?_ (fun _ => ?_)
  ·intro y0 y1
   unfold spec_NetOk.l1
   repeat' first
   | (with_reducible exact ih0 _ _)
   | (with_reducible exact ih1 _ _)
   | (with_reducible exact ih2 _ _ _)
   | (with_reducible exact LeO.refl _)
   | (with_reducible exact LeO.none _)
   | (with_reducible refine LeO.ite ?_ ?_)
   | (with_reducible refine LeO.bind ?_ (fun _ => ?_))
   | exact ih0 _ _
   | exact ih1 _ _
   | exact ih2 _ _ _
   | exact LeO.none _
   | refine LeO.ite ?_ ?_
   | refine LeO.bind ?_ (fun _ => ?_)
  ·intro y0 y1 y2
   unfold spec_NetOk.l2
   repeat' first
   | (with_reducible exact ih0 _ _)
   | (with_reducible exact ih1 _ _)
   | (with_reducible exact ih2 _ _ _)
   | (with_reducible exact LeO.refl _)
   | (with_reducible exact LeO.none _)
   | (with_reducible refine LeO.ite ?_ ?_)
   | (with_reducible refine LeO.bind ?_ (fun _ => ?_))
   | exact ih0 _ _
   | exact ih1 _ _
   | exact ih2 _ _ _
   | exact LeO.none _
   | refine LeO.ite ?_ ?_
   | refine LeO.bind ?_ (fun _ => ?_)
theorem spec_NetOk.mono : ∀ a0 k, LeO (spec_NetOk.f k a0) (spec_NetOk.f (k + 1) a0) := by
 intro a0 k
 obtain ⟨ih0, ih1, ih2⟩ := spec_NetOk.mono_l k
 unfold spec_NetOk.f
 repeat' first
   | (with_reducible exact ih0 _ _)
   | (with_reducible exact ih1 _ _)
   | (with_reducible exact ih2 _ _ _)
   | (with_reducible exact LeO.refl _)
   | (with_reducible exact LeO.none _)
   | (with_reducible refine LeO.ite ?_ ?_)
   | (with_reducible refine LeO.bind ?_ (fun _ => ?_))
   | exact ih0 _ _
   | exact ih1 _ _
   | exact ih2 _ _ _
   | exact LeO.none _
   | refine LeO.ite ?_ ?_
   | refine LeO.bind ?_ (fun _ => ?_)
set_option maxHeartbeats 8000000 in
set_option maxRecDepth 100000 in
theorem spec_NetOk.calls (k : Nat) (A0 : Option Addr) (c0 : Nat) (l0 : List Int) (r : Bool) (w : World) (hr0 : Kd.C (Kd.int .i64) w A0 l0.length l0) (hc0 : l0.length ≤ c0) (h : spec_NetOk.f k l0 = some r) :
  Calls Try.prog 79 #[.slice A0 l0.length c0] w fun e w' => e = .returned (.bool r) ∧ Drawn0 w w' := by
 have HR0 := Aside0.mk hr0
 have HC0 := Aside0.mk hc0
 clear hr0 hc0
 have H : ((spec_l1In.f (l0.length : Int) 1 6).bind fun t101 => (if t101 = true then (spec_NetOk.l0 k l0 0) else (some false))) = some r := h
 clear h
 replace H := Option.bind_eq_some_iff.mp H
 obtain ⟨t101, A20, H⟩ := H
 replace H : (if t101 = true then (spec_NetOk.l0 k l0 0) else (some false)) = some r := H
 have A2 := Aside0.mk A20
 clear A20
 by_cases c3 : t101 = true
 ·subst c3
  have H1 : (spec_NetOk.l0 k l0 0) = some r := by rw [if_pos rfl] at H; exact H
  clear H
  have H := H1
  clear H1
  have H' := Aside0.mk H
  clear H
  go_enter Try.func79, Try.ntmps79
  go_wp2_with (first | (go_at_call 80; (with_reducible refine (spec_l1In.calls (l0.length : Int) 1 6 true _ A2.out).mono ?_); rintro e w' ⟨rfl, ⟨nd, rfl⟩⟩; (try first | exact ⟨rfl, _, World.drewN_drewN _ _ _⟩ | exact ⟨rfl, _, Eq.trans (World.drewN_drewN _ _ _) (congrArg (World.drewN _) (Nat.add_assoc _ _ _))⟩)))
  repeat (go_quiet (first | (go_at_call 80; (with_reducible refine (spec_l1In.calls (l0.length : Int) 1 6 true _ A2.out).mono ?_); rintro e w' ⟨rfl, ⟨nd, rfl⟩⟩; (try first | exact ⟨rfl, _, World.drewN_drewN _ _ _⟩ | exact ⟨rfl, _, Eq.trans (World.drewN_drewN _ _ _) (congrArg (World.drewN _) (Nat.add_assoc _ _ _))⟩))); try go_wp2_with (first | (go_at_call 80; (with_reducible refine (spec_l1In.calls (l0.length : Int) 1 6 true _ A2.out).mono ?_); rintro e w' ⟨rfl, ⟨nd, rfl⟩⟩; (try first | exact ⟨rfl, _, World.drewN_drewN _ _ _⟩ | exact ⟨rfl, _, Eq.trans (World.drewN_drewN _ _ _) (congrArg (World.drewN _) (Nat.add_assoc _ _ _))⟩))))
  go_loopg [3] k (fun kq v3 w' => ∃ (x3_1 : Int), v3 = .int .i64 x3_1 ∧ Aside0 (spec_NetOk.l0 kq l0 x3_1 = some r) ∧ Aside0 (kq ≤ k) ∧ Drawn0 w w')
  case atStart => exact ⟨(0), (by first | rfl | (simp; done) | (simp [*]; done)), H', ⟨Nat.le_refl _⟩, by repeat (first | exact Drawn0.refl _ | apply Drawn0.step)⟩
  case round =>
   clear H'
   try clear p2
   try clear c3
   obtain ⟨x3_1, rfl, HA, HK1, ⟨m1, rfl⟩⟩ := hrel
   cases gk with
   | zero => exact absurd HA.out (by simp [spec_NetOk.l0])
   | succ k1 =>
    have H := HA.out
    clear HA
    simp only [spec_NetOk.l0] at H
    by_cases c4 : x3_1 < (l0.length : Int)
    ·rw [if_pos c4] at H
     have c4b0 : decide (x3_1 < (l0.length : Int)) = true := decide_eq_true c4
     clear c4
     by_cases c5 : 0 ≤ x3_1
     ·rw [if_pos c5] at H
      have c5b0 : decide (0 ≤ x3_1) = true := decide_eq_true c5
      clear c5
      obtain ⟨ji6, hji6⟩ : ∃ j_ : Int, (shl .i64 1 (l0.length : Int)) = j_ := ⟨_, rfl⟩
      replace H : ((spec_l1In.f (rd l0 x3_1) 0 (wrap64 ((ji6) - 1))).bind fun t103 => (if t103 = true then (spec_NetOk.l0 k1 l0 (wrap64 (x3_1 + 1))) else (some false))) = some r := by first | (rw [hji6] at H; exact H) | (simp only [hji6] at H ⊢; exact H)
      have hji6_ : (IntKind.i64.wrap (1 * 2 ^ min (l0.length : Int).toNat 64)) = ji6 := hji6
      have hji6z : (l0.length : Int) ≤ 64 → (IntKind.i64.wrap (1 * 2 ^ (l0.length : Int).toNat)) = ji6 := shl_small hji6
      have hji6p : (IntKind.i64.wrap (1 * 2 ^ min l0.length 64)) = ji6 := hji6_
      have hji6q : (l0.length : Int) ≤ 64 → (IntKind.i64.wrap (1 * 2 ^ l0.length)) = ji6 := hji6z
      have hji6r : (IntKind.i64.wrap (2 ^ min l0.length 64)) = ji6 := by have h_ := hji6p; rw [Int.one_mul] at h_; exact h_
      have hji6s : (l0.length : Int) ≤ 64 → (IntKind.i64.wrap (2 ^ l0.length)) = ji6 := fun hle_ => by have h_ := hji6q hle_; rw [Int.one_mul] at h_; exact h_
      have hji6u : (IntKind.i64.wrap (2 ^ min (l0.length : Int).toNat 64)) = ji6 := by have h_ := hji6_; rw [Int.one_mul] at h_; exact h_
      have hji6v : (l0.length : Int) ≤ 64 → (IntKind.i64.wrap (2 ^ (l0.length : Int).toNat)) = ji6 := fun hle_ => by have h_ := hji6z hle_; rw [Int.one_mul] at h_; exact h_
      have hji6y : (wrap64 (1 * 2 ^ min (l0.length : Int).toNat 64)) = ji6 := (i64_w _).symm.trans hji6_
      have hji6x : (l0.length : Int) ≤ 64 → (wrap64 (1 * 2 ^ (l0.length : Int).toNat)) = ji6 := fun h_ => (i64_w _).symm.trans (hji6z h_)
      replace H := Option.bind_eq_some_iff.mp H
      obtain ⟨t103, A70, H⟩ := H
      replace H : (if t103 = true then (spec_NetOk.l0 k1 l0 (wrap64 (x3_1 + 1))) else (some false)) = some r := H
      have A7 := Aside0.mk A70
      clear A70
      by_cases c8 : t103 = true
      ·subst c8
       have H1 : (spec_NetOk.l0 k1 l0 (wrap64 (x3_1 + 1))) = some r := by rw [if_pos rfl] at H; exact H
       clear H
       have H := H1
       clear H1
       have H' := Aside0.mk H
       clear H
       have p102 : 0 ≤ (x3_1 : Int) := zD
       have q102 : x3_1 < (l0.length : Int) := zD
       obtain ⟨ad102, e102, hx102_0⟩ := Kd.at_int HR0.out x3_1 p102 q102
       cases e102
       replace p102 := eq_true p102
       replace q102 := eq_true q102
       go_wp2_with (first | (go_at_call 80; (with_reducible refine (spec_l1In.calls (rd l0 x3_1) 0 (wrap64 ((ji6) - 1)) true _ A7.out).mono ?_); rintro e w' ⟨rfl, ⟨nd, rfl⟩⟩; (try first | exact ⟨rfl, _, World.drewN_drewN _ _ _⟩ | exact ⟨rfl, _, Eq.trans (World.drewN_drewN _ _ _) (congrArg (World.drewN _) (Nat.add_assoc _ _ _))⟩)))
       repeat (go_quiet (first | (go_at_call 80; (with_reducible refine (spec_l1In.calls (rd l0 x3_1) 0 (wrap64 ((ji6) - 1)) true _ A7.out).mono ?_); rintro e w' ⟨rfl, ⟨nd, rfl⟩⟩; (try first | exact ⟨rfl, _, World.drewN_drewN _ _ _⟩ | exact ⟨rfl, _, Eq.trans (World.drewN_drewN _ _ _) (congrArg (World.drewN _) (Nat.add_assoc _ _ _))⟩))); try go_wp2_with (first | (go_at_call 80; (with_reducible refine (spec_l1In.calls (rd l0 x3_1) 0 (wrap64 ((ji6) - 1)) true _ A7.out).mono ?_); rintro e w' ⟨rfl, ⟨nd, rfl⟩⟩; (try first | exact ⟨rfl, _, World.drewN_drewN _ _ _⟩ | exact ⟨rfl, _, Eq.trans (World.drewN_drewN _ _ _) (congrArg (World.drewN _) (Nat.add_assoc _ _ _))⟩))))
       go_roundg k1
       case measure => have := HK1.out; omega
       case rel => exact ⟨(wrap64 (x3_1 + 1)), (by first | rfl | (simp; done) | (simp [*]; done)), H', ⟨by have := HK1.out; omega⟩, by repeat (first | exact Drawn0.refl _ | apply Drawn0.step)⟩
      ·replace c8 := Bool.eq_false_iff.mpr c8
       subst c8
       have H1 : (some false) = some r := by rw [if_neg (show ¬ (false = true) by decide)] at H; exact H
       clear H
       have H := H1
       clear H1
       obtain rfl := Option.some.inj H
       have p102 : 0 ≤ (x3_1 : Int) := zD
       have q102 : x3_1 < (l0.length : Int) := zD
       obtain ⟨ad102, e102, hx102_0⟩ := Kd.at_int HR0.out x3_1 p102 q102
       cases e102
       replace p102 := eq_true p102
       replace q102 := eq_true q102
       go_wp2_with (first | (go_at_call 80; (with_reducible refine (spec_l1In.calls (rd l0 x3_1) 0 (wrap64 ((ji6) - 1)) false _ A7.out).mono ?_); rintro e w' ⟨rfl, ⟨nd, rfl⟩⟩; (try first | exact ⟨rfl, _, World.drewN_drewN _ _ _⟩ | exact ⟨rfl, _, Eq.trans (World.drewN_drewN _ _ _) (congrArg (World.drewN _) (Nat.add_assoc _ _ _))⟩)))
       repeat (go_quiet (first | (go_at_call 80; (with_reducible refine (spec_l1In.calls (rd l0 x3_1) 0 (wrap64 ((ji6) - 1)) false _ A7.out).mono ?_); rintro e w' ⟨rfl, ⟨nd, rfl⟩⟩; (try first | exact ⟨rfl, _, World.drewN_drewN _ _ _⟩ | exact ⟨rfl, _, Eq.trans (World.drewN_drewN _ _ _) (congrArg (World.drewN _) (Nat.add_assoc _ _ _))⟩))); try go_wp2_with (first | (go_at_call 80; (with_reducible refine (spec_l1In.calls (rd l0 x3_1) 0 (wrap64 ((ji6) - 1)) false _ A7.out).mono ?_); rintro e w' ⟨rfl, ⟨nd, rfl⟩⟩; (try first | exact ⟨rfl, _, World.drewN_drewN _ _ _⟩ | exact ⟨rfl, _, Eq.trans (World.drewN_drewN _ _ _) (congrArg (World.drewN _) (Nat.add_assoc _ _ _))⟩))))
       go_ret
       exact ⟨by first | rfl | (simp; done) | (simp only [← hji6] <;> (first | rfl | simp)) | (simp [*]; done), by repeat (first | exact Drawn0.refl _ | apply Drawn0.step)⟩
     ·rw [if_neg c5] at H
      exact absurd H (by simp)
    ·rw [if_neg c4] at H
     have c4b0 : decide (x3_1 < (l0.length : Int)) = false := decide_eq_false c4
     clear c4
     have H' := Aside0.mk H
     clear H
     go_wp2
     repeat (go_quiet (fail); try go_wp2)
     go_loopg [4] k1 (fun kq v4 w' => ∃ (x4_2 : Int), v4 = .int .i64 x4_2 ∧ Aside0 (spec_NetOk.l1 kq l0 x4_2 = some r) ∧ Aside0 (kq ≤ k1) ∧ Drawn0 w w')
     case atStart => exact ⟨(0), (by first | rfl | (simp; done) | (simp [*]; done)), H', ⟨Nat.le_refl _⟩, by repeat (first | exact Drawn0.refl _ | apply Drawn0.step)⟩
     case round =>
      clear H'
      try clear p1
      try clear q1
      try clear hx1
      try clear p2
      try clear c3
      try clear c4
      try clear c4b0
      try clear c5
      try clear c5b0
      try clear p6
      try clear c7
      try clear c8
      try clear hx102_0
      try clear p102
      try clear p2
      try clear q102
      obtain ⟨x4_2, rfl, HA, HK2, ⟨m2, rfl⟩⟩ := hrel
      cases gk with
      | zero => exact absurd HA.out (by simp [spec_NetOk.l1])
      | succ k2 =>
       have H := HA.out
       clear HA
       simp only [spec_NetOk.l1] at H
       by_cases c9 : x4_2 < (l0.length : Int)
       ·rw [if_pos c9] at H
        have c9b0 : decide (x4_2 < (l0.length : Int)) = true := decide_eq_true c9
        clear c9
        have H' := Aside0.mk H
        clear H
        go_wp2
        repeat (go_quiet (fail); try go_wp2)
        go_loopg [5] k2 (fun kq v5 w' => ∃ (x5_3 : Int), v5 = .int .i64 x5_3 ∧ Aside0 (spec_NetOk.l2 kq l0 x4_2 x5_3 = some r) ∧ Aside0 (kq ≤ k2) ∧ Drawn0 w w')
        case atStart => exact ⟨(0), (by first | rfl | (simp; done) | (simp [*]; done)), H', ⟨Nat.le_refl _⟩, by repeat (first | exact Drawn0.refl _ | apply Drawn0.step)⟩
        case round =>
         clear H'
         try clear p1
         try clear q1
         try clear hx1
         try clear p2
         try clear c3
         try clear c4
         try clear c4b0
         try clear c5
         try clear c5b0
         try clear p6
         try clear c7
         try clear c8
         try clear c9
         try clear c9b0
         try clear hx102_0
         try clear p1
         try clear p102
         try clear p2
         try clear p6
         try clear q1
         try clear q102
         obtain ⟨x5_3, rfl, HA, HK3, ⟨m3, rfl⟩⟩ := hrel
         cases gk with
         | zero => exact absurd HA.out (by simp [spec_NetOk.l2])
         | succ k3 =>
          have H := HA.out
          clear HA
          simp only [spec_NetOk.l2] at H
          by_cases c10 : x5_3 < (l0.length : Int)
          ·rw [if_pos c10] at H
           have c10b0 : decide (x5_3 < (l0.length : Int)) = true := decide_eq_true c10
           clear c10
           by_cases c11 : 0 ≤ x4_2
           ·rw [if_pos c11] at H
            have c11b0 : decide (0 ≤ x4_2) = true := decide_eq_true c11
            clear c11
            by_cases c12 : x4_2 < (l0.length : Int)
            ·rw [if_pos c12] at H
             have c12b0 : decide (x4_2 < (l0.length : Int)) = true := decide_eq_true c12
             clear c12
             by_cases c13 : 0 ≤ x5_3
             ·rw [if_pos c13] at H
              have c13b0 := eq_true c13
              have c13b1 : decide (0 ≤ x5_3) = true := decide_eq_true c13
              clear c13
              obtain ⟨ji14, hji14⟩ : ∃ j_ : Int, (shr .i64 (rd l0 x4_2) x5_3) = j_ := ⟨_, rfl⟩
              replace H : (if (Int.tmod (ji14) 2) = (Int.tmod (shr .i64 (rd l0 x5_3) x4_2) 2) then (if x5_3 = x4_2 then (if (Int.tmod (ji14) 2) = 1 then (some false) else (spec_NetOk.l2 k3 l0 x4_2 (wrap64 (x5_3 + 1)))) else (spec_NetOk.l2 k3 l0 x4_2 (wrap64 (x5_3 + 1)))) else (some false)) = some r := by first | (rw [hji14] at H; exact H) | (simp only [hji14] at H ⊢; exact H)
              have hji14_ : ((rd l0 x4_2) / 2 ^ min x5_3.toNat 64) = ji14 := hji14
              have hji14z : x5_3 ≤ 64 → ((rd l0 x4_2) / 2 ^ x5_3.toNat) = ji14 := shr_small hji14
              have c15b0 := eq_true (zD : 0 ≤ x4_2)
              obtain ⟨ji16, hji16⟩ : ∃ j_ : Int, (shr .i64 (rd l0 x5_3) x4_2) = j_ := ⟨_, rfl⟩
              replace H : (if (Int.tmod (ji14) 2) = (Int.tmod (ji16) 2) then (if x5_3 = x4_2 then (if (Int.tmod (ji14) 2) = 1 then (some false) else (spec_NetOk.l2 k3 l0 x4_2 (wrap64 (x5_3 + 1)))) else (spec_NetOk.l2 k3 l0 x4_2 (wrap64 (x5_3 + 1)))) else (some false)) = some r := by first | (rw [hji16] at H; exact H) | (simp only [hji16] at H ⊢; exact H)
              have hji16_ : ((rd l0 x5_3) / 2 ^ min x4_2.toNat 64) = ji16 := hji16
              have hji16z : x4_2 ≤ 64 → ((rd l0 x5_3) / 2 ^ x4_2.toNat) = ji16 := shr_small hji16
              by_cases c17 : (Int.tmod (ji14) 2) = (Int.tmod (ji16) 2)
              ·rw [if_pos c17] at H
               have c17b0 : ((Int.tmod (ji14) 2) == (Int.tmod (ji16) 2)) = true := beq_iff_eq.mpr c17
               have c17b1 : ((Int.tmod (ji14) 2) != (Int.tmod (ji16) 2)) = false := bne_eq_false_iff_eq.mpr c17
               clear c17
               by_cases c18 : x5_3 = x4_2
               ·rw [if_pos c18] at H
                have c18b0 : (x5_3 == x4_2) = true := beq_iff_eq.mpr c18
                have c18b1 : (x5_3 != x4_2) = false := bne_eq_false_iff_eq.mpr c18
                clear c18
                have c19b0 := eq_true (zD : 0 ≤ x5_3)
                by_cases c21 : (Int.tmod (ji14) 2) = 1
                ·rw [if_pos c21] at H
                 have c21b0 : ((Int.tmod (ji14) 2) == 1) = true := beq_iff_eq.mpr c21
                 have c21b1 : ((Int.tmod (ji14) 2) != 1) = false := bne_eq_false_iff_eq.mpr c21
                 clear c21
                 obtain rfl := Option.some.inj H
                 have p104 : 0 ≤ (x4_2 : Int) := zD
                 have q104 : x4_2 < (l0.length : Int) := zD
                 obtain ⟨ad104, e104, hx104_0⟩ := Kd.at_int HR0.out x4_2 p104 q104
                 cases e104
                 replace p104 := eq_true p104
                 replace q104 := eq_true q104
                 have p105 : 0 ≤ (x5_3 : Int) := zD
                 have q105 : x5_3 < (l0.length : Int) := zD
                 obtain ⟨ad105, e105, hx105_0⟩ := Kd.at_int HR0.out x5_3 p105 q105
                 obtain rfl : ad104 = ad105 := (by injection e105)
                 replace p105 := eq_true p105
                 replace q105 := eq_true q105
                 have p106 : 0 ≤ (x4_2 : Int) := zD
                 have q106 : x4_2 < (l0.length : Int) := zD
                 obtain ⟨ad106, e106, hx106_0⟩ := Kd.at_int HR0.out x4_2 p106 q106
                 obtain rfl : ad104 = ad106 := (by injection e106)
                 replace p106 := eq_true p106
                 replace q106 := eq_true q106
                 go_wp2
                 repeat (go_quiet (fail); try go_wp2)
                 go_ret
                 exact ⟨by first | rfl | (simp; done) | (simp only [← hji14, ← hji16] <;> (first | rfl | simp)) | (simp [*]; done), by repeat (first | exact Drawn0.refl _ | apply Drawn0.step)⟩
                ·rw [if_neg c21] at H
                 have c21b0 : ((Int.tmod (ji14) 2) == 1) = false := beq_eq_false_iff_ne.mpr c21
                 have c21b1 : ((Int.tmod (ji14) 2) != 1) = true := bne_iff_ne.mpr c21
                 have H' := Aside0.mk H
                 clear H
                 have p104 : 0 ≤ (x4_2 : Int) := zD
                 have q104 : x4_2 < (l0.length : Int) := zD
                 obtain ⟨ad104, e104, hx104_0⟩ := Kd.at_int HR0.out x4_2 p104 q104
                 cases e104
                 replace p104 := eq_true p104
                 replace q104 := eq_true q104
                 have p105 : 0 ≤ (x5_3 : Int) := zD
                 have q105 : x5_3 < (l0.length : Int) := zD
                 obtain ⟨ad105, e105, hx105_0⟩ := Kd.at_int HR0.out x5_3 p105 q105
                 obtain rfl : ad104 = ad105 := (by injection e105)
                 replace p105 := eq_true p105
                 replace q105 := eq_true q105
                 have p106 : 0 ≤ (x4_2 : Int) := zD
                 have q106 : x4_2 < (l0.length : Int) := zD
                 obtain ⟨ad106, e106, hx106_0⟩ := Kd.at_int HR0.out x4_2 p106 q106
                 obtain rfl : ad104 = ad106 := (by injection e106)
                 replace p106 := eq_true p106
                 replace q106 := eq_true q106
                 go_wp2
                 repeat (go_quiet (fail); try go_wp2)
                 go_roundg k3
                 case measure => have := HK1.out; have := HK2.out; have := HK3.out; omega
                 case rel => exact ⟨(wrap64 (x5_3 + 1)), (by first | rfl | (simp; done) | (simp [*]; done)), H', ⟨by have := HK1.out; have := HK2.out; have := HK3.out; omega⟩, by repeat (first | exact Drawn0.refl _ | apply Drawn0.step)⟩
               ·rw [if_neg c18] at H
                have c18b0 : (x5_3 == x4_2) = false := beq_eq_false_iff_ne.mpr c18
                have c18b1 : (x5_3 != x4_2) = true := bne_iff_ne.mpr c18
                have H' := Aside0.mk H
                clear H
                have p104 : 0 ≤ (x4_2 : Int) := zD
                have q104 : x4_2 < (l0.length : Int) := zD
                obtain ⟨ad104, e104, hx104_0⟩ := Kd.at_int HR0.out x4_2 p104 q104
                cases e104
                replace p104 := eq_true p104
                replace q104 := eq_true q104
                have p105 : 0 ≤ (x5_3 : Int) := zD
                have q105 : x5_3 < (l0.length : Int) := zD
                obtain ⟨ad105, e105, hx105_0⟩ := Kd.at_int HR0.out x5_3 p105 q105
                obtain rfl : ad104 = ad105 := (by injection e105)
                replace p105 := eq_true p105
                replace q105 := eq_true q105
                go_wp2
                repeat (go_quiet (fail); try go_wp2)
                go_roundg k3
                case measure => have := HK1.out; have := HK2.out; have := HK3.out; omega
                case rel => exact ⟨(wrap64 (x5_3 + 1)), (by first | rfl | (simp; done) | (simp [*]; done)), H', ⟨by have := HK1.out; have := HK2.out; have := HK3.out; omega⟩, by repeat (first | exact Drawn0.refl _ | apply Drawn0.step)⟩
              ·rw [if_neg c17] at H
               have c17b0 : ((Int.tmod (ji14) 2) == (Int.tmod (ji16) 2)) = false := beq_eq_false_iff_ne.mpr c17
               have c17b1 : ((Int.tmod (ji14) 2) != (Int.tmod (ji16) 2)) = true := bne_iff_ne.mpr c17
               obtain rfl := Option.some.inj H
               have p104 : 0 ≤ (x4_2 : Int) := zD
               have q104 : x4_2 < (l0.length : Int) := zD
               obtain ⟨ad104, e104, hx104_0⟩ := Kd.at_int HR0.out x4_2 p104 q104
               cases e104
               replace p104 := eq_true p104
               replace q104 := eq_true q104
               have p105 : 0 ≤ (x5_3 : Int) := zD
               have q105 : x5_3 < (l0.length : Int) := zD
               obtain ⟨ad105, e105, hx105_0⟩ := Kd.at_int HR0.out x5_3 p105 q105
               obtain rfl : ad104 = ad105 := (by injection e105)
               replace p105 := eq_true p105
               replace q105 := eq_true q105
               go_wp2
               repeat (go_quiet (fail); try go_wp2)
               go_ret
               exact ⟨by first | rfl | (simp; done) | (simp only [← hji14, ← hji16] <;> (first | rfl | simp)) | (simp [*]; done), by repeat (first | exact Drawn0.refl _ | apply Drawn0.step)⟩
             ·rw [if_neg c13] at H
              exact absurd H (by simp)
            ·rw [if_neg c12] at H
             exact absurd H (by simp)
           ·rw [if_neg c11] at H
            exact absurd H (by simp)
          ·rw [if_neg c10] at H
           have c10b0 : decide (x5_3 < (l0.length : Int)) = false := decide_eq_false c10
           clear c10
           have H' := Aside0.mk H
           clear H
           go_wp2
           repeat (go_quiet (fail); try go_wp2)
           go_roundg k3
           case measure => have := HK1.out; have := HK2.out; have := HK3.out; omega
           case rel => exact ⟨(wrap64 (x4_2 + 1)), (by first | rfl | (simp; done) | (simp [*]; done)), H', ⟨by have := HK1.out; have := HK2.out; have := HK3.out; omega⟩, by repeat (first | exact Drawn0.refl _ | apply Drawn0.step)⟩
       ·rw [if_neg c9] at H
        have c9b0 : decide (x4_2 < (l0.length : Int)) = false := decide_eq_false c9
        clear c9
        obtain rfl := Option.some.inj H
        go_wp2
        repeat (go_quiet (fail); try go_wp2)
        go_ret
        exact ⟨by first | rfl | (simp; done) | (simp [*]; done), by repeat (first | exact Drawn0.refl _ | apply Drawn0.step)⟩
 ·replace c3 := Bool.eq_false_iff.mpr c3
  subst c3
  have H1 : (some false) = some r := by rw [if_neg (show ¬ (false = true) by decide)] at H; exact H
  clear H
  have H := H1
  clear H1
  obtain rfl := Option.some.inj H
  go_enter Try.func79, Try.ntmps79
  go_wp2_with (first | (go_at_call 80; (with_reducible refine (spec_l1In.calls (l0.length : Int) 1 6 false _ A2.out).mono ?_); rintro e w' ⟨rfl, ⟨nd, rfl⟩⟩; (try first | exact ⟨rfl, _, World.drewN_drewN _ _ _⟩ | exact ⟨rfl, _, Eq.trans (World.drewN_drewN _ _ _) (congrArg (World.drewN _) (Nat.add_assoc _ _ _))⟩)))
  repeat (go_quiet (first | (go_at_call 80; (with_reducible refine (spec_l1In.calls (l0.length : Int) 1 6 false _ A2.out).mono ?_); rintro e w' ⟨rfl, ⟨nd, rfl⟩⟩; (try first | exact ⟨rfl, _, World.drewN_drewN _ _ _⟩ | exact ⟨rfl, _, Eq.trans (World.drewN_drewN _ _ _) (congrArg (World.drewN _) (Nat.add_assoc _ _ _))⟩))); try go_wp2_with (first | (go_at_call 80; (with_reducible refine (spec_l1In.calls (l0.length : Int) 1 6 false _ A2.out).mono ?_); rintro e w' ⟨rfl, ⟨nd, rfl⟩⟩; (try first | exact ⟨rfl, _, World.drewN_drewN _ _ _⟩ | exact ⟨rfl, _, Eq.trans (World.drewN_drewN _ _ _) (congrArg (World.drewN _) (Nat.add_assoc _ _ _))⟩))))
  go_ret
  exact ⟨by first | rfl | (simp; done) | (simp [*]; done), by repeat (first | exact Drawn0.refl _ | apply Drawn0.step)⟩

/-! ### spec_l11Ok: function 44 -/
def spec_l11Ok.f (k : Nat) (l0 : List Int) (a1 : Int) : Option (Bool) := (spec_NetOk.f k l0).bind fun t107 => (if t107 = true then (if (l0.length : Int) ≤ 4 then ((spec_l1In.f a1 3 5).bind fun t108 => (some t108)) else (some false)) else (some false))
theorem spec_l11Ok.mono : ∀ a0 a1 k, LeO (spec_l11Ok.f k a0 a1) (spec_l11Ok.f (k + 1) a0 a1) := by
 intro a0 a1 k
 unfold spec_l11Ok.f
 repeat' first
   | (with_reducible exact spec_NetOk.mono _ _)
   | (with_reducible exact LeO.refl _)
   | (with_reducible exact LeO.none _)
   | (with_reducible refine LeO.ite ?_ ?_)
   | (with_reducible refine LeO.bind ?_ (fun _ => ?_))
   | exact spec_NetOk.mono _ _
   | exact LeO.none _
   | refine LeO.ite ?_ ?_
   | refine LeO.bind ?_ (fun _ => ?_)
set_option maxHeartbeats 8000000 in
set_option maxRecDepth 100000 in
theorem spec_l11Ok.calls (k : Nat) (A0 : Option Addr) (c0 : Nat) (l0 : List Int) (a1 : Int) (r : Bool) (w : World) (hr0 : Kd.C (Kd.int .i64) w A0 l0.length l0) (hc0 : l0.length ≤ c0) (h : spec_l11Ok.f k l0 a1 = some r) :
  Calls Try.prog 44 #[.slice A0 l0.length c0, .int .i64 a1] w fun e w' => e = .returned (.bool r) ∧ Drawn0 w w' := by
 have HR0 := Aside0.mk hr0
 have HC0 := Aside0.mk hc0
 clear hr0 hc0
 have H : ((spec_NetOk.f k l0).bind fun t107 => (if t107 = true then (if (l0.length : Int) ≤ 4 then ((spec_l1In.f a1 3 5).bind fun t108 => (some t108)) else (some false)) else (some false))) = some r := h
 clear h
 replace H := Option.bind_eq_some_iff.mp H
 obtain ⟨t107, A30, H⟩ := H
 replace H : (if t107 = true then (if (l0.length : Int) ≤ 4 then ((spec_l1In.f a1 3 5).bind fun t108 => (some t108)) else (some false)) else (some false)) = some r := H
 have A3 := Aside0.mk A30
 clear A30
 by_cases c4 : t107 = true
 ·subst c4
  have H1 : (if (l0.length : Int) ≤ 4 then ((spec_l1In.f a1 3 5).bind fun t108 => (some t108)) else (some false)) = some r := by rw [if_pos rfl] at H; exact H
  clear H
  have H := H1
  clear H1
  by_cases c5 : (l0.length : Int) ≤ 4
  ·rw [if_pos c5] at H
   have c5b0 : decide ((l0.length : Int) ≤ 4) = true := decide_eq_true c5
   have c5b1 : decide (l0.length ≤ 4) = true := decide_eq_true (by omega)
   clear c5
   replace H := Option.bind_eq_some_iff.mp H
   obtain ⟨t108, A60, H⟩ := H
   replace H : (some t108) = some r := H
   have A6 := Aside0.mk A60
   clear A60
   obtain rfl := Option.some.inj H
   go_enter Try.func44, Try.ntmps44
   go_wp2_with (first | ((with_reducible refine gate_callee (f := 79) rfl ?_); refine goesL_ (some 6) rfl rfl Try.func79 (by kernel_rfl) rfl #[.slice A0 l0.length c0] rfl zA ?_; (with_reducible refine (spec_NetOk.calls k _ _ l0 true _ ?side1 ?side2 A3.out).mono ?_); (case side1 => exact zC HR0.out); (case side2 => exact HC0.out); rintro e w' ⟨rfl, ⟨nd, rfl⟩⟩; refine ⟨_, rfl, ?_⟩) | (go_at_call 80; (with_reducible refine (spec_l1In.calls a1 3 5 t108 _ A6.out).mono ?_); rintro e w' ⟨rfl, ⟨nd, rfl⟩⟩))
   go_ret
   exact ⟨by first | rfl | (simp; done) | (simp [*]; done), by repeat (first | exact Drawn0.refl _ | apply Drawn0.step)⟩
  ·rw [if_neg c5] at H
   have c5b0 : decide ((l0.length : Int) ≤ 4) = false := decide_eq_false c5
   have c5b1 : decide (l0.length ≤ 4) = false := decide_eq_false (by omega)
   clear c5
   obtain rfl := Option.some.inj H
   go_enter Try.func44, Try.ntmps44
   go_wp2_with (first | ((with_reducible refine gate_callee (f := 79) rfl ?_); refine goesL_ (some 6) rfl rfl Try.func79 (by kernel_rfl) rfl #[.slice A0 l0.length c0] rfl zA ?_; (with_reducible refine (spec_NetOk.calls k _ _ l0 true _ ?side1 ?side2 A3.out).mono ?_); (case side1 => exact zC HR0.out); (case side2 => exact HC0.out); rintro e w' ⟨rfl, ⟨nd, rfl⟩⟩; refine ⟨_, rfl, ?_⟩))
   go_ret
   exact ⟨by first | rfl | (simp; done) | (simp [*]; done), by repeat (first | exact Drawn0.refl _ | apply Drawn0.step)⟩
 ·replace c4 := Bool.eq_false_iff.mpr c4
  subst c4
  have H1 : (some false) = some r := by rw [if_neg (show ¬ (false = true) by decide)] at H; exact H
  clear H
  have H := H1
  clear H1
  obtain rfl := Option.some.inj H
  go_enter Try.func44, Try.ntmps44
  go_wp2_with (first | ((with_reducible refine gate_callee (f := 79) rfl ?_); refine goesL_ (some 6) rfl rfl Try.func79 (by kernel_rfl) rfl #[.slice A0 l0.length c0] rfl zA ?_; (with_reducible refine (spec_NetOk.calls k _ _ l0 false _ ?side1 ?side2 A3.out).mono ?_); (case side1 => exact zC HR0.out); (case side2 => exact HC0.out); rintro e w' ⟨rfl, ⟨nd, rfl⟩⟩; refine ⟨_, rfl, ?_⟩))
  go_ret
  exact ⟨by first | rfl | (simp; done) | (simp [*]; done), by repeat (first | exact Drawn0.refl _ | apply Drawn0.step)⟩

/-! ### spec_l2Power: function 46 -/
def spec_l2Power.l0 : Nat → Int → Int → Int → Int → Option (Int)
 | 0, _, _, _, _ => none
 | k + 1, x0, x1, x5, x6 => if x6 < x0 then (spec_l2Power.l0 k x0 x1 (wrap64 (x5 * x1)) (wrap64 (x6 + 1))) else (some x5)
def spec_l2Power.f (k : Nat) (a0 : Int) (a1 : Int) : Option (Int) := spec_l2Power.l0 k a0 a1 1 0
theorem spec_l2Power.mono_l : ∀ k, (∀ y0 y1 y2 y3, LeO (spec_l2Power.l0 k y0 y1 y2 y3) (spec_l2Power.l0 (k + 1) y0 y1 y2 y3))
 | 0 => fun _ _ _ _ r h => by simp [spec_l2Power.l0] at h
 | k + 1 => by
  have ih0 := spec_l2Power.mono_l k
  ·intro y0 y1 y2 y3
   unfold spec_l2Power.l0
   repeat' first
   | (with_reducible exact ih0 _ _ _ _)
   | (with_reducible exact LeO.refl _)
   | (with_reducible exact LeO.none _)
   | (with_reducible refine LeO.ite ?_ ?_)
   | (with_reducible refine LeO.bind ?_ (fun _ => ?_))
   | exact ih0 _ _ _ _
   | exact LeO.none _
   | refine LeO.ite ?_ ?_
   | refine LeO.bind ?_ (fun _ => ?_)
theorem spec_l2Power.mono : ∀ a0 a1 k, LeO (spec_l2Power.f k a0 a1) (spec_l2Power.f (k + 1) a0 a1) := by
 intro a0 a1 k
 have ih0 := spec_l2Power.mono_l k
 unfold spec_l2Power.f
 repeat' first
   | (with_reducible exact ih0 _ _ _ _)
   | (with_reducible exact LeO.refl _)
   | (with_reducible exact LeO.none _)
   | (with_reducible refine LeO.ite ?_ ?_)
   | (with_reducible refine LeO.bind ?_ (fun _ => ?_))
   | exact ih0 _ _ _ _
   | exact LeO.none _
   | refine LeO.ite ?_ ?_
   | refine LeO.bind ?_ (fun _ => ?_)
set_option maxHeartbeats 8000000 in
set_option maxRecDepth 100000 in
theorem spec_l2Power.calls (k : Nat) (a0 : Int) (a1 : Int) (r : Int) (w : World) (h : spec_l2Power.f k a0 a1 = some r) :
  Calls Try.prog 46 #[.int .i64 a0, .int .i64 a1] w fun e w' => e = .returned (.int .i64 r) ∧ Drawn0 w w' := by
 have H : (spec_l2Power.l0 k a0 a1 1 0) = some r := h
 clear h
 have H' := Aside0.mk H
 clear H
 go_enter Try.func46, Try.ntmps46
 go_wp2
 go_loopg [5, 6] k (fun kq v5 v6 w' => ∃ (x5_1 : Int) (x6_1 : Int), v5 = .int .i64 x5_1 ∧ v6 = .int .i64 x6_1 ∧ Aside0 (spec_l2Power.l0 kq a0 a1 x5_1 x6_1 = some r) ∧ Aside0 (kq ≤ k) ∧ Drawn0 w w')
 case atStart => exact ⟨(1), (0), (by first | rfl | (simp; done) | (simp [*]; done)), (by first | rfl | (simp; done) | (simp [*]; done)), H', ⟨Nat.le_refl _⟩, by repeat (first | exact Drawn0.refl _ | apply Drawn0.step)⟩
 case round =>
  clear H'
  try clear p2
  obtain ⟨x5_1, x6_1, rfl, rfl, HA, HK1, ⟨m1, rfl⟩⟩ := hrel
  cases gk with
  | zero => exact absurd HA.out (by simp [spec_l2Power.l0])
  | succ k1 =>
   have H := HA.out
   clear HA
   simp only [spec_l2Power.l0] at H
   by_cases c3 : x6_1 < a0
   ·rw [if_pos c3] at H
    have c3b0 : decide (x6_1 < a0) = true := decide_eq_true c3
    clear c3
    have H' := Aside0.mk H
    clear H
    go_wp2
    go_roundg k1
    case measure => have := HK1.out; omega
    case rel => exact ⟨(wrap64 (x5_1 * a1)), (wrap64 (x6_1 + 1)), (by first | rfl | (simp; done) | (simp [*]; done)), (by first | rfl | (simp; done) | (simp [*]; done)), H', ⟨by have := HK1.out; omega⟩, by repeat (first | exact Drawn0.refl _ | apply Drawn0.step)⟩
   ·rw [if_neg c3] at H
    have c3b0 : decide (x6_1 < a0) = false := decide_eq_false c3
    clear c3
    obtain rfl := Option.some.inj H
    go_wp2
    go_ret
    exact ⟨by first | rfl | (simp; done) | (simp [*]; done), by repeat (first | exact Drawn0.refl _ | apply Drawn0.step)⟩

/-! ### spec_l2State: function 49 -/
def spec_l2State.l0 : Nat → Int → Int → Int → List Int → Int → Option (List Int)
 | 0, _, _, _, _, _ => none
 | k + 1, x0, x1, x2, x7, x8 => if x8 < x0 then (if x1 = 0 then (none) else (if x7.length < 17592186044416 then (spec_l2State.l0 k x0 x1 (wrap64 (Int.tdiv x2 x1)) (x7 ++ [Int.tmod x2 x1]) (wrap64 (x8 + 1))) else (none))) else (some x7)
def spec_l2State.f (k : Nat) (a0 : Int) (a1 : Int) (a2 : Int) : Option (List Int) := spec_l2State.l0 k a0 a1 a2 (([] : List Int)) 0
theorem spec_l2State.mono_l : ∀ k, (∀ y0 y1 y2 y3 y4, LeO (spec_l2State.l0 k y0 y1 y2 y3 y4) (spec_l2State.l0 (k + 1) y0 y1 y2 y3 y4))
 | 0 => fun _ _ _ _ _ r h => by simp [spec_l2State.l0] at h
 | k + 1 => by
  have ih0 := spec_l2State.mono_l k
  ·intro y0 y1 y2 y3 y4
   unfold spec_l2State.l0
   repeat' first
   | (with_reducible exact ih0 _ _ _ _ _)
   | (with_reducible exact LeO.refl _)
   | (with_reducible exact LeO.none _)
   | (with_reducible refine LeO.ite ?_ ?_)
   | (with_reducible refine LeO.bind ?_ (fun _ => ?_))
   | exact ih0 _ _ _ _ _
   | exact LeO.none _
   | refine LeO.ite ?_ ?_
   | refine LeO.bind ?_ (fun _ => ?_)
theorem spec_l2State.mono : ∀ a0 a1 a2 k, LeO (spec_l2State.f k a0 a1 a2) (spec_l2State.f (k + 1) a0 a1 a2) := by
 intro a0 a1 a2 k
 have ih0 := spec_l2State.mono_l k
 unfold spec_l2State.f
 repeat' first
   | (with_reducible exact ih0 _ _ _ _ _)
   | (with_reducible exact LeO.refl _)
   | (with_reducible exact LeO.none _)
   | (with_reducible refine LeO.ite ?_ ?_)
   | (with_reducible refine LeO.bind ?_ (fun _ => ?_))
   | exact ih0 _ _ _ _ _
   | exact LeO.none _
   | refine LeO.ite ?_ ?_
   | refine LeO.bind ?_ (fun _ => ?_)
set_option maxHeartbeats 8000000 in
set_option maxRecDepth 100000 in
theorem spec_l2State.calls (k : Nat) (a0 : Int) (a1 : Int) (a2 : Int) (r : List Int) (w : World) (h : spec_l2State.f k a0 a1 a2 = some r) :
  Calls Try.prog 49 #[.int .i64 a0, .int .i64 a1, .int .i64 a2] w fun e w' => ∃ v0_ : Value, e = .returned (v0_) ∧ Kd.R (Kd.int .i64) 3 w' w.heap.size (fun _ => True) v0_ r ∧ Below w.heap.size w w' := by
 have HB := Aside0.mk (Below.refl w.heap.size w)
 have H : (spec_l2State.l0 k a0 a1 a2 (([] : List Int)) 0) = some r := h
 clear h
 obtain ⟨y132, hy132⟩ : ∃ y_ : List Int, y_ = (([] : List Int)) := ⟨_, rfl⟩
 replace H : (spec_l2State.l0 k a0 a1 a2 y132 0) = some r := by first | (rw [hy132]; with_reducible exact H) | (have H2_ := (Option.bind_some _ _).symm.trans H; rw [hy132]; with_reducible exact H2_) | (have H2_ := (Option.bind_some _ _).symm.trans H; with_reducible exact H2_) | with_reducible exact H | (rw [hy132]; exact H) | exact H
 have Ny132 := Aside0.mk hy132
 clear hy132
 have H' := Aside0.mk H
 clear H
 go_enter Try.func49, Try.ntmps49
 go_wp2_with (first | ((with_reducible refine gate_dst (N := 9) rfl ?_); refine Kd.R_lit (Kd.int .i64) _ 3 ?hg (N := 9) ?hd (xs := ([] : List Int)) (inner := []) (ok := fun _ => True) (okp := fun _ => True) ?hr ?hp (fun _ hk => hk) trivial (Below.refl _ _) (Nat.le_refl _) (by simp) ?_; (case hd => rfl); (case hg => rfl); (case hr => first | (go_simp; done) | (go_simp; rfl)); (case hp => exact (Reps.none _ _)); intro v133 w4 ho5 hb hg_ hnew_; clear hg_ hnew_; (first | rw [← Ny132.out] at ho5 | (simp only [Int.reduceToNat] at ho5; rw [← Ny132.out] at ho5)); have n0_ := Aside0.mk (Kd.R_lower ho5 (below_size (zB HB.out))); have n1_ := Aside0.mk (below_step (zB HB.out) hb); clear HB; have HO134 := n0_; have HB := n1_; clear n0_ n1_; clear hb ho5))
 go_loopg [2, 7, 8] k (fun kq v2 v7 v8 w' => ∃ (x2_1 : Int) (x7_1 : List Int) (x8_1 : Int), v2 = .int .i64 x2_1 ∧ v8 = .int .i64 x8_1 ∧ Aside0 (spec_l2State.l0 kq a0 a1 x2_1 x7_1 x8_1 = some r) ∧ Aside0 (kq ≤ k) ∧ Aside0 (Kd.R (Kd.int .i64) 3 w' w.heap.size (fun _ => True) v7 x7_1) ∧ Aside0 (Below w.heap.size w w'))
 case atStart => exact ⟨(a2), (y132), (0), (by first | rfl | (simp; done) | (simp [*]; done)), (by first | rfl | (simp; done) | (simp [*]; done)), H', ⟨Nat.le_refl _⟩, ⟨by (with_reducible repeat (first | apply Kd.R_alloc | apply Kd.R_drewN | apply Kd.R_drew)); exact HO134.out⟩, ⟨zB HB.out⟩⟩
 case round =>
  clear H'
  try clear p2
  try clear c4
  obtain ⟨x2_1, x7_1, x8_1, rfl, rfl, HA, HK1, HO_7, HB⟩ := hrel
  cases gk with
  | zero => exact absurd HA.out (by simp [spec_l2State.l0])
  | succ k1 =>
   have H := HA.out
   clear HA
   simp only [spec_l2State.l0] at H
   by_cases c6 : x8_1 < a0
   ·rw [if_pos c6] at H
    have c6b0 : decide (x8_1 < a0) = true := decide_eq_true c6
    clear c6
    by_cases c7 : a1 = 0
    ·rw [if_pos c7] at H
     exact absurd H (by simp)
    ·rw [if_neg c7] at H
     have c7b0 : (a1 == 0) = false := beq_eq_false_iff_ne.mpr c7
     have c7b1 : (a1 != 0) = true := bne_iff_ne.mpr c7
     by_cases c8 : x7_1.length < 17592186044416
     ·rw [if_pos c8] at H
      have LMc8 := Aside0.mk c8
      clear c8
      obtain ⟨y135, hy135⟩ : ∃ y_ : List Int, y_ = (x7_1 ++ [Int.tmod x2_1 a1]) := ⟨_, rfl⟩
      replace H : (spec_l2State.l0 k1 a0 a1 (wrap64 (Int.tdiv x2_1 a1)) y135 (wrap64 (x8_1 + 1))) = some r := by first | (rw [hy135]; with_reducible exact H) | (have H2_ := (Option.bind_some _ _).symm.trans H; rw [hy135]; with_reducible exact H2_) | (have H2_ := (Option.bind_some _ _).symm.trans H; with_reducible exact H2_) | with_reducible exact H | (rw [hy135]; exact H) | exact H
      have Ny135 := Aside0.mk hy135
      clear hy135
      have H' := Aside0.mk H
      clear H
      go_wp2_with (first | ((with_reducible refine gate_builtin (b := .append) (xs := #[.tmp 15, .tmp 19]) rfl ?_); at_builtin; refine Kd.R_append (Kd.int .i64) (w0 := w) w.heap.size rfl (.tmp 15) (.tmp 19) 22 3 (.int .i64 0) 8 rfl Try.underlying22 info3 rfl (by decide) (by omega) u7 x7_1 (Int.tmod x2_1 a1) [.int .i64 (Int.tmod x2_1 a1)] (fun _ => True) (fun _ => False) rfl rfl ?aP (fun _ hk => hk.elim) ?aF ?aO ?aB ?aS ?aL ?_; (case aP => exact rfl); (case aB => exact (zB HB.out)); (case aF => exact (fun _ _ => trivial)); (case aO => exact (zR HO_7.out)); (case aS => exact (below_size (zB HB.out))); (case aL => have := LMc8.out; omega); intro v136 w9 ho hb hg hat; rw [← Ny135.out] at ho; have n0_ := Aside0.mk (hb); have n1_ := Aside0.mk (ho); clear HB; clear HO_7; have HB := n0_; have HO137 := n1_; clear n0_ n1_; clear ho hb hg hat))
      go_roundg k1
      case measure => have := HK1.out; omega
      case rel => exact ⟨(wrap64 (Int.tdiv x2_1 a1)), (y135), (wrap64 (x8_1 + 1)), (by first | rfl | (simp; done) | (simp [*]; done)), (by first | rfl | (simp; done) | (simp [*]; done)), H', ⟨by have := HK1.out; omega⟩, ⟨by (with_reducible repeat (first | apply Kd.R_alloc | apply Kd.R_drewN | apply Kd.R_drew)); exact HO137.out⟩, ⟨zB HB.out⟩⟩
     ·rw [if_neg c8] at H
      exact absurd H (by simp)
   ·rw [if_neg c6] at H
    have c6b0 : decide (x8_1 < a0) = false := decide_eq_false c6
    clear c6
    obtain rfl := Option.some.inj H
    go_wp2
    go_ret
    exact ⟨_, by first | rfl | (simp [errW_none, errW_some] <;> rfl) | (simp [*, errW_none, errW_some] <;> rfl), by (with_reducible repeat (first | apply Kd.R_alloc | apply Kd.R_drewN | apply Kd.R_drew)); exact HO_7.out, zB HB.out⟩

/-! ### impl_StateOf: function 31 -/
mutual
def impl_StateOf.j0 : Nat → Int → Int → Int → Bool → Option (List Int)
 | 0, _, _, _, _ => none
 | k + 1, x0, x1, x2, x25 => if x25 = true then (some ([] : List Int)) else (impl_StateOf.l0 k x1 x2 (([] : List Int)) x0 0)
def impl_StateOf.l0 : Nat → Int → Int → List Int → Int → Int → Option (List Int)
 | 0, _, _, _, _, _ => none
 | k + 1, x1, x2, x7, x27, x28 => if x28 < x27 then (if x1 = 0 then (none) else (if x7.length < 17592186044416 then (impl_StateOf.l0 k x1 (wrap64 (Int.tdiv x2 x1)) (x7 ++ [Int.tmod x2 x1]) x27 (wrap64 (x28 + 1))) else (none))) else (if x2 > 0 then (some ([] : List Int)) else (some x7))
end
def impl_StateOf.f (k : Nat) (a0 : Int) (a1 : Int) (a2 : Int) : Option (List Int) := if a0 < 1 then (impl_StateOf.j0 k a0 a1 a2 true) else (if a0 > 6 then (impl_StateOf.j0 k a0 a1 a2 true) else (if a1 < 3 then (impl_StateOf.j0 k a0 a1 a2 true) else (if a1 > 5 then (impl_StateOf.j0 k a0 a1 a2 true) else (impl_StateOf.j0 k a0 a1 a2 (decide (a2 < 0))))))
theorem impl_StateOf.mono_l : ∀ k, (∀ y0 y1 y2 y3, LeO (impl_StateOf.j0 k y0 y1 y2 y3) (impl_StateOf.j0 (k + 1) y0 y1 y2 y3)) ∧ (∀ y0 y1 y2 y3 y4, LeO (impl_StateOf.l0 k y0 y1 y2 y3 y4) (impl_StateOf.l0 (k + 1) y0 y1 y2 y3 y4))
 | 0 => ⟨fun _ _ _ _ r h => by simp [impl_StateOf.j0] at h, fun _ _ _ _ _ r h => by simp [impl_StateOf.l0] at h⟩
 | k + 1 => by
  obtain ⟨ih0, ih1⟩ := impl_StateOf.mono_l k
  refine ⟨?_, ?_⟩
  ·intro y0 y1 y2 y3
   unfold impl_StateOf.j0
   repeat' first
   | (with_reducible exact ih0 _ _ _ _)
   | (with_reducible exact ih1 _ _ _ _ _)
   | (with_reducible exact LeO.refl _)
   | (with_reducible exact LeO.none _)
   | (with_reducible refine LeO.ite ?_ ?_)
   | (with_reducible refine LeO.bind ?_ (fun _ => ?_))
   | exact ih0 _ _ _ _
   | exact ih1 _ _ _ _ _
   | exact LeO.none _
   | refine LeO.ite ?_ ?_
   | refine LeO.bind ?_ (fun _ => ?_)
  ·intro y0 y1 y2 y3 y4
   unfold impl_StateOf.l0
   repeat' first
   | (with_reducible exact ih0 _ _ _ _)
   | (with_reducible exact ih1 _ _ _ _ _)
   | (with_reducible exact LeO.refl _)
   | (with_reducible exact LeO.none _)
   | (with_reducible refine LeO.ite ?_ ?_)
   | (with_reducible refine LeO.bind ?_ (fun _ => ?_))
   | exact ih0 _ _ _ _
   | exact ih1 _ _ _ _ _
   | exact LeO.none _
   | refine LeO.ite ?_ ?_
   | refine LeO.bind ?_ (fun _ => ?_)
theorem impl_StateOf.mono : ∀ a0 a1 a2 k, LeO (impl_StateOf.f k a0 a1 a2) (impl_StateOf.f (k + 1) a0 a1 a2) := by
 intro a0 a1 a2 k
 obtain ⟨ih0, ih1⟩ := impl_StateOf.mono_l k
 unfold impl_StateOf.f
 repeat' first
   | (with_reducible exact ih0 _ _ _ _)
   | (with_reducible exact ih1 _ _ _ _ _)
   | (with_reducible exact LeO.refl _)
   | (with_reducible exact LeO.none _)
   | (with_reducible refine LeO.ite ?_ ?_)
   | (with_reducible refine LeO.bind ?_ (fun _ => ?_))
   | exact ih0 _ _ _ _
   | exact ih1 _ _ _ _ _
   | exact LeO.none _
   | refine LeO.ite ?_ ?_
   | refine LeO.bind ?_ (fun _ => ?_)
set_option maxHeartbeats 8000000 in
set_option maxRecDepth 100000 in
theorem impl_StateOf.calls (k : Nat) (a0 : Int) (a1 : Int) (a2 : Int) (r : List Int) (w : World) (h : impl_StateOf.f k a0 a1 a2 = some r) :
  Calls Try.prog 31 #[.int .i64 a0, .int .i64 a1, .int .i64 a2] w fun e w' => ∃ v0_ : Value, e = .returned (v0_) ∧ Kd.R (Kd.int .i64) 3 w' w.heap.size (fun _ => True) v0_ r ∧ Below w.heap.size w w' := by
 have HB := Aside0.mk (Below.refl w.heap.size w)
 have H : (if a0 < 1 then (impl_StateOf.j0 k a0 a1 a2 true) else (if a0 > 6 then (impl_StateOf.j0 k a0 a1 a2 true) else (if a1 < 3 then (impl_StateOf.j0 k a0 a1 a2 true) else (if a1 > 5 then (impl_StateOf.j0 k a0 a1 a2 true) else (impl_StateOf.j0 k a0 a1 a2 (decide (a2 < 0))))))) = some r := h
 clear h
 have HC4 := Aside0.mk H
 clear H
 go_enter Try.func31, Try.ntmps31
 go_upto_region 1 with (fail)
 go_cut [25] (fun v25 wc => ∃ (kq : Nat) (x25_3 : Bool), v25 = .bool x25_3 ∧ Aside0 (impl_StateOf.j0 kq a0 a1 a2 x25_3 = some r) ∧ Aside0 (kq ≤ k) ∧ Aside0 (Below w.heap.size w wc))
 case first =>
  have H := HC4.out
  clear HC4
  by_cases c5 : a0 < 1
  ·rw [if_pos c5] at H
   have c5b0 : decide (a0 < 1) = true := decide_eq_true c5
   clear c5
   (first | rw [c5b0] | (simp only [i64_w, i32_w]; rw [c5b0]) | skip)
   have H' := Aside0.mk H
   clear H
   go_wp2
   go_meet
   case rel => exact ⟨_, (true), (by first | rfl | (simp; done) | (simp [*]; done)), H', ⟨by first | omega | exact Nat.le_refl _⟩, ⟨zB HB.out⟩⟩
  ·rw [if_neg c5] at H
   have c5b0 : decide (a0 < 1) = false := decide_eq_false c5
   clear c5
   (first | rw [c5b0] | (simp only [i64_w, i32_w]; rw [c5b0]) | skip)
   by_cases c6 : a0 > 6
   ·rw [if_pos c6] at H
    have c6b0 : decide (6 < a0) = true := decide_eq_true c6
    clear c6
    have H' := Aside0.mk H
    clear H
    go_wp2
    go_meet
    case rel => exact ⟨_, (true), (by first | rfl | (simp; done) | (simp [*]; done)), H', ⟨by first | omega | exact Nat.le_refl _⟩, ⟨zB HB.out⟩⟩
   ·rw [if_neg c6] at H
    have c6b0 : decide (6 < a0) = false := decide_eq_false c6
    clear c6
    by_cases c7 : a1 < 3
    ·rw [if_pos c7] at H
     have c7b0 : decide (a1 < 3) = true := decide_eq_true c7
     clear c7
     have H' := Aside0.mk H
     clear H
     go_wp2
     go_meet
     case rel => exact ⟨_, (true), (by first | rfl | (simp; done) | (simp [*]; done)), H', ⟨by first | omega | exact Nat.le_refl _⟩, ⟨zB HB.out⟩⟩
    ·rw [if_neg c7] at H
     have c7b0 : decide (a1 < 3) = false := decide_eq_false c7
     clear c7
     by_cases c8 : a1 > 5
     ·rw [if_pos c8] at H
      have c8b0 : decide (5 < a1) = true := decide_eq_true c8
      clear c8
      have H' := Aside0.mk H
      clear H
      go_wp2
      go_meet
      case rel => exact ⟨_, (true), (by first | rfl | (simp; done) | (simp [*]; done)), H', ⟨by first | omega | exact Nat.le_refl _⟩, ⟨zB HB.out⟩⟩
     ·rw [if_neg c8] at H
      have c8b0 : decide (5 < a1) = false := decide_eq_false c8
      clear c8
      have H' := Aside0.mk H
      clear H
      go_wp2
      go_meet
      case rel => exact ⟨_, (decide (a2 < 0)), (by first | rfl | (simp; done) | (simp [*]; done)), H', ⟨by first | omega | exact Nat.le_refl _⟩, ⟨zB HB.out⟩⟩
 case rest =>
  clear HC4
  try clear p2
  try clear c3
  try clear c5
  try clear c5b0
  try clear c6
  try clear c6b0
  try clear c7
  try clear c7b0
  try clear c8
  try clear c8b0
  obtain ⟨kq, x25_3, rfl, HA, HJ3, HB⟩ := hcut
  cases kq with
  | zero => exact absurd HA.out (by simp [impl_StateOf.j0])
  | succ kj3 =>
   have H := HA.out
   clear HA
   simp only [impl_StateOf.j0] at H
   by_cases c9 : x25_3 = true
   ·subst c9
    have H1 : (some ([] : List Int)) = some r := by rw [if_pos rfl] at H; exact H
    clear H
    have H := H1
    clear H1
    obtain rfl := Option.some.inj H
    go_wp2
    go_ret
    exact ⟨_, by first | rfl | (simp [errW_none, errW_some] <;> rfl) | (simp [*, errW_none, errW_some] <;> rfl), by first | exact Kd.R_nil _ _ _ _ _ | exact Kd.N_nil _ _ _ _ _ | exact Kd.V_nil _ _ _ _ _ | exact Kd.Q_nil _ _ _ _ _ | exact Kd.S_nil _ _ _ _ _, zB HB.out⟩
   ·replace c9 := Bool.eq_false_iff.mpr c9
    subst c9
    have H1 : (impl_StateOf.l0 kj3 a1 a2 (([] : List Int)) a0 0) = some r := by rw [if_neg (show ¬ (false = true) by decide)] at H; exact H
    clear H
    have H := H1
    clear H1
    obtain ⟨y158, hy158⟩ : ∃ y_ : List Int, y_ = (([] : List Int)) := ⟨_, rfl⟩
    replace H : (impl_StateOf.l0 kj3 a1 a2 y158 a0 0) = some r := by first | (rw [hy158]; with_reducible exact H) | (have H2_ := (Option.bind_some _ _).symm.trans H; rw [hy158]; with_reducible exact H2_) | (have H2_ := (Option.bind_some _ _).symm.trans H; with_reducible exact H2_) | with_reducible exact H | (rw [hy158]; exact H) | exact H
    have Ny158 := Aside0.mk hy158
    clear hy158
    have H' := Aside0.mk H
    clear H
    go_wp2_with (first | ((with_reducible refine gate_dst (N := 26) rfl ?_); refine Kd.R_lit (Kd.int .i64) _ 3 ?hg (N := 26) ?hd (xs := ([] : List Int)) (inner := []) (ok := fun _ => True) (okp := fun _ => True) ?hr ?hp (fun _ hk => hk) trivial (Below.refl _ _) (Nat.le_refl _) (by simp) ?_; (case hd => rfl); (case hg => rfl); (case hr => first | (go_simp; done) | (go_simp; rfl)); (case hp => exact (Reps.none _ _)); intro v159 w10 ho11 hb hg_ hnew_; clear hg_ hnew_; (first | rw [← Ny158.out] at ho11 | (simp only [Int.reduceToNat] at ho11; rw [← Ny158.out] at ho11)); have n0_ := Aside0.mk (Kd.R_lower ho11 (below_size (zB HB.out))); have n1_ := Aside0.mk (below_step (zB HB.out) hb); clear HB; have HO160 := n0_; have HB := n1_; clear n0_ n1_; clear hb ho11))
    go_loopg [2, 7, 28] kj3 (fun kq v2 v7 v28 w' => ∃ (x2_2 : Int) (x7_2 : List Int) (x28_2 : Int), v2 = .int .i64 x2_2 ∧ v28 = .int .i64 x28_2 ∧ Aside0 (impl_StateOf.l0 kq a1 x2_2 x7_2 a0 x28_2 = some r) ∧ Aside0 (kq ≤ kj3) ∧ Aside0 (Kd.R (Kd.int .i64) 3 w' w.heap.size (fun _ => True) v7 x7_2) ∧ Aside0 (Below w.heap.size w w'))
    case atStart => exact ⟨(a2), (y158), (0), (by first | rfl | (simp; done) | (simp [*]; done)), (by first | rfl | (simp; done) | (simp [*]; done)), H', ⟨Nat.le_refl _⟩, ⟨by (with_reducible repeat (first | apply Kd.R_alloc | apply Kd.R_drewN | apply Kd.R_drew)); exact HO160.out⟩, ⟨zB HB.out⟩⟩
    case round =>
     clear H'
     try clear p2
     try clear c3
     try clear c5
     try clear c5b0
     try clear c6
     try clear c6b0
     try clear c7
     try clear c7b0
     try clear c8
     try clear c8b0
     try clear c9
     try clear p2
     obtain ⟨x2_2, x7_2, x28_2, rfl, rfl, HA, HK2, HO_7, HB⟩ := hrel
     cases gk with
     | zero => exact absurd HA.out (by simp [impl_StateOf.l0])
     | succ k2 =>
      have H := HA.out
      clear HA
      simp only [impl_StateOf.l0] at H
      by_cases c12 : x28_2 < a0
      ·rw [if_pos c12] at H
       have c12b0 : decide (x28_2 < a0) = true := decide_eq_true c12
       clear c12
       by_cases c13 : a1 = 0
       ·rw [if_pos c13] at H
        exact absurd H (by simp)
       ·rw [if_neg c13] at H
        have c13b0 : (a1 == 0) = false := beq_eq_false_iff_ne.mpr c13
        have c13b1 : (a1 != 0) = true := bne_iff_ne.mpr c13
        by_cases c14 : x7_2.length < 17592186044416
        ·rw [if_pos c14] at H
         have LMc14 := Aside0.mk c14
         clear c14
         obtain ⟨y161, hy161⟩ : ∃ y_ : List Int, y_ = (x7_2 ++ [Int.tmod x2_2 a1]) := ⟨_, rfl⟩
         replace H : (impl_StateOf.l0 k2 a1 (wrap64 (Int.tdiv x2_2 a1)) y161 a0 (wrap64 (x28_2 + 1))) = some r := by first | (rw [hy161]; with_reducible exact H) | (have H2_ := (Option.bind_some _ _).symm.trans H; rw [hy161]; with_reducible exact H2_) | (have H2_ := (Option.bind_some _ _).symm.trans H; with_reducible exact H2_) | with_reducible exact H | (rw [hy161]; exact H) | exact H
         have Ny161 := Aside0.mk hy161
         clear hy161
         have H' := Aside0.mk H
         clear H
         go_wp2_with (first | ((with_reducible refine gate_builtin (b := .append) (xs := #[.tmp 30, .tmp 34]) rfl ?_); at_builtin; refine Kd.R_append (Kd.int .i64) (w0 := w) w.heap.size rfl (.tmp 30) (.tmp 34) 22 3 (.int .i64 0) 8 rfl Try.underlying22 info3 rfl (by decide) (by omega) u7 x7_2 (Int.tmod x2_2 a1) [.int .i64 (Int.tmod x2_2 a1)] (fun _ => True) (fun _ => False) rfl rfl ?aP (fun _ hk => hk.elim) ?aF ?aO ?aB ?aS ?aL ?_; (case aP => exact rfl); (case aB => exact (zB HB.out)); (case aF => exact (fun _ _ => trivial)); (case aO => exact (zR HO_7.out)); (case aS => exact (below_size (zB HB.out))); (case aL => have := LMc14.out; omega); intro v162 w15 ho hb hg hat; rw [← Ny161.out] at ho; have n0_ := Aside0.mk (hb); have n1_ := Aside0.mk (ho); clear HB; clear HO_7; have HB := n0_; have HO163 := n1_; clear n0_ n1_; clear ho hb hg hat))
         go_roundg k2
         case measure => have := HJ3.out; have := HK2.out; omega
         case rel => exact ⟨(wrap64 (Int.tdiv x2_2 a1)), (y161), (wrap64 (x28_2 + 1)), (by first | rfl | (simp; done) | (simp [*]; done)), (by first | rfl | (simp; done) | (simp [*]; done)), H', ⟨by have := HJ3.out; have := HK2.out; omega⟩, ⟨by (with_reducible repeat (first | apply Kd.R_alloc | apply Kd.R_drewN | apply Kd.R_drew)); exact HO163.out⟩, ⟨zB HB.out⟩⟩
        ·rw [if_neg c14] at H
         exact absurd H (by simp)
      ·rw [if_neg c12] at H
       have c12b0 : decide (x28_2 < a0) = false := decide_eq_false c12
       clear c12
       by_cases c16 : x2_2 > 0
       ·rw [if_pos c16] at H
        have c16b0 : decide (0 < x2_2) = true := decide_eq_true c16
        clear c16
        obtain rfl := Option.some.inj H
        go_wp2
        go_ret
        exact ⟨_, by first | rfl | (simp [errW_none, errW_some] <;> rfl) | (simp [*, errW_none, errW_some] <;> rfl), by first | exact Kd.R_nil _ _ _ _ _ | exact Kd.N_nil _ _ _ _ _ | exact Kd.V_nil _ _ _ _ _ | exact Kd.Q_nil _ _ _ _ _ | exact Kd.S_nil _ _ _ _ _, zB HB.out⟩
       ·rw [if_neg c16] at H
        have c16b0 : decide (0 < x2_2) = false := decide_eq_false c16
        clear c16
        obtain rfl := Option.some.inj H
        go_wp2
        go_ret
        exact ⟨_, by first | rfl | (simp [errW_none, errW_some] <;> rfl) | (simp [*, errW_none, errW_some] <;> rfl), by (with_reducible repeat (first | apply Kd.R_alloc | apply Kd.R_drewN | apply Kd.R_drew)); exact HO_7.out, zB HB.out⟩

-- NOT PRINTED: function 72 (impl_allStates)

-- NOT PRINTED: function 51 (impl_countStates)

/-! ### impl_StateOfZ: function 31 -/
mutual
def impl_StateOfZ.j0 : Nat → Int → Int → Int → Bool → Option (List Int)
 | 0, _, _, _, _ => none
 | k + 1, x0, x1, x2, x25 => if x25 = true then (some ([] : List Int)) else (impl_StateOfZ.l0 k x1 x2 (([] : List Int)) x0 0)
def impl_StateOfZ.l0 : Nat → Int → Int → List Int → Int → Int → Option (List Int)
 | 0, _, _, _, _, _ => none
 | k + 1, x1, x2, x7, x27, x28 => if x28 < x27 then (if x1 = 0 then (none) else (if x7.length < 17592186044416 then (impl_StateOfZ.l0 k x1 (wrap64 (Int.tdiv x2 x1)) (x7 ++ [Int.tmod x2 x1]) x27 (wrap64 (x28 + 1))) else (none))) else (if x2 > 0 then (some ([] : List Int)) else (none))
end
def impl_StateOfZ.f (k : Nat) (a0 : Int) (a1 : Int) (a2 : Int) : Option (List Int) := if a0 < 1 then (impl_StateOfZ.j0 k a0 a1 a2 true) else (if a0 > 6 then (impl_StateOfZ.j0 k a0 a1 a2 true) else (if a1 < 3 then (impl_StateOfZ.j0 k a0 a1 a2 true) else (if a1 > 5 then (impl_StateOfZ.j0 k a0 a1 a2 true) else (impl_StateOfZ.j0 k a0 a1 a2 (decide (a2 < 0))))))
theorem impl_StateOfZ.mono_l : ∀ k, (∀ y0 y1 y2 y3, LeO (impl_StateOfZ.j0 k y0 y1 y2 y3) (impl_StateOfZ.j0 (k + 1) y0 y1 y2 y3)) ∧ (∀ y0 y1 y2 y3 y4, LeO (impl_StateOfZ.l0 k y0 y1 y2 y3 y4) (impl_StateOfZ.l0 (k + 1) y0 y1 y2 y3 y4))
 | 0 => ⟨fun _ _ _ _ r h => by simp [impl_StateOfZ.j0] at h, fun _ _ _ _ _ r h => by simp [impl_StateOfZ.l0] at h⟩
 | k + 1 => by
  obtain ⟨ih0, ih1⟩ := impl_StateOfZ.mono_l k
  refine ⟨?_, ?_⟩
  ·intro y0 y1 y2 y3
   unfold impl_StateOfZ.j0
   repeat' first
   | (with_reducible exact ih0 _ _ _ _)
   | (with_reducible exact ih1 _ _ _ _ _)
   | (with_reducible exact LeO.refl _)
   | (with_reducible exact LeO.none _)
   | (with_reducible refine LeO.ite ?_ ?_)
   | (with_reducible refine LeO.bind ?_ (fun _ => ?_))
   | exact ih0 _ _ _ _
   | exact ih1 _ _ _ _ _
   | exact LeO.none _
   | refine LeO.ite ?_ ?_
   | refine LeO.bind ?_ (fun _ => ?_)
  ·intro y0 y1 y2 y3 y4
   unfold impl_StateOfZ.l0
   repeat' first
   | (with_reducible exact ih0 _ _ _ _)
   | (with_reducible exact ih1 _ _ _ _ _)
   | (with_reducible exact LeO.refl _)
   | (with_reducible exact LeO.none _)
   | (with_reducible refine LeO.ite ?_ ?_)
   | (with_reducible refine LeO.bind ?_ (fun _ => ?_))
   | exact ih0 _ _ _ _
   | exact ih1 _ _ _ _ _
   | exact LeO.none _
   | refine LeO.ite ?_ ?_
   | refine LeO.bind ?_ (fun _ => ?_)
theorem impl_StateOfZ.mono : ∀ a0 a1 a2 k, LeO (impl_StateOfZ.f k a0 a1 a2) (impl_StateOfZ.f (k + 1) a0 a1 a2) := by
 intro a0 a1 a2 k
 obtain ⟨ih0, ih1⟩ := impl_StateOfZ.mono_l k
 unfold impl_StateOfZ.f
 repeat' first
   | (with_reducible exact ih0 _ _ _ _)
   | (with_reducible exact ih1 _ _ _ _ _)
   | (with_reducible exact LeO.refl _)
   | (with_reducible exact LeO.none _)
   | (with_reducible refine LeO.ite ?_ ?_)
   | (with_reducible refine LeO.bind ?_ (fun _ => ?_))
   | exact ih0 _ _ _ _
   | exact ih1 _ _ _ _ _
   | exact LeO.none _
   | refine LeO.ite ?_ ?_
   | refine LeO.bind ?_ (fun _ => ?_)
set_option maxHeartbeats 8000000 in
set_option maxRecDepth 100000 in
theorem impl_StateOfZ.calls (k : Nat) (a0 : Int) (a1 : Int) (a2 : Int) (r : List Int) (w : World) (h : impl_StateOfZ.f k a0 a1 a2 = some r) :
  Calls Try.prog 31 #[.int .i64 a0, .int .i64 a1, .int .i64 a2] w fun e w' => e = .returned (.slice none 0 0) ∧ Below w.heap.size w w' := by
 have HB := Aside0.mk (Below.refl w.heap.size w)
 have H : (if a0 < 1 then (impl_StateOfZ.j0 k a0 a1 a2 true) else (if a0 > 6 then (impl_StateOfZ.j0 k a0 a1 a2 true) else (if a1 < 3 then (impl_StateOfZ.j0 k a0 a1 a2 true) else (if a1 > 5 then (impl_StateOfZ.j0 k a0 a1 a2 true) else (impl_StateOfZ.j0 k a0 a1 a2 (decide (a2 < 0))))))) = some r := h
 clear h
 have HC4 := Aside0.mk H
 clear H
 go_enter Try.func31, Try.ntmps31
 go_upto_region 1 with (fail)
 go_cut [25] (fun v25 wc => ∃ (kq : Nat) (x25_3 : Bool), v25 = .bool x25_3 ∧ Aside0 (impl_StateOfZ.j0 kq a0 a1 a2 x25_3 = some r) ∧ Aside0 (kq ≤ k) ∧ Aside0 (Below w.heap.size w wc))
 case first =>
  have H := HC4.out
  clear HC4
  by_cases c5 : a0 < 1
  ·rw [if_pos c5] at H
   have c5b0 : decide (a0 < 1) = true := decide_eq_true c5
   clear c5
   (first | rw [c5b0] | (simp only [i64_w, i32_w]; rw [c5b0]) | skip)
   have H' := Aside0.mk H
   clear H
   go_wp2
   go_meet
   case rel => exact ⟨_, (true), (by first | rfl | (simp; done) | (simp [*]; done)), H', ⟨by first | omega | exact Nat.le_refl _⟩, ⟨zB HB.out⟩⟩
  ·rw [if_neg c5] at H
   have c5b0 : decide (a0 < 1) = false := decide_eq_false c5
   clear c5
   (first | rw [c5b0] | (simp only [i64_w, i32_w]; rw [c5b0]) | skip)
   by_cases c6 : a0 > 6
   ·rw [if_pos c6] at H
    have c6b0 : decide (6 < a0) = true := decide_eq_true c6
    clear c6
    have H' := Aside0.mk H
    clear H
    go_wp2
    go_meet
    case rel => exact ⟨_, (true), (by first | rfl | (simp; done) | (simp [*]; done)), H', ⟨by first | omega | exact Nat.le_refl _⟩, ⟨zB HB.out⟩⟩
   ·rw [if_neg c6] at H
    have c6b0 : decide (6 < a0) = false := decide_eq_false c6
    clear c6
    by_cases c7 : a1 < 3
    ·rw [if_pos c7] at H
     have c7b0 : decide (a1 < 3) = true := decide_eq_true c7
     clear c7
     have H' := Aside0.mk H
     clear H
     go_wp2
     go_meet
     case rel => exact ⟨_, (true), (by first | rfl | (simp; done) | (simp [*]; done)), H', ⟨by first | omega | exact Nat.le_refl _⟩, ⟨zB HB.out⟩⟩
    ·rw [if_neg c7] at H
     have c7b0 : decide (a1 < 3) = false := decide_eq_false c7
     clear c7
     by_cases c8 : a1 > 5
     ·rw [if_pos c8] at H
      have c8b0 : decide (5 < a1) = true := decide_eq_true c8
      clear c8
      have H' := Aside0.mk H
      clear H
      go_wp2
      go_meet
      case rel => exact ⟨_, (true), (by first | rfl | (simp; done) | (simp [*]; done)), H', ⟨by first | omega | exact Nat.le_refl _⟩, ⟨zB HB.out⟩⟩
     ·rw [if_neg c8] at H
      have c8b0 : decide (5 < a1) = false := decide_eq_false c8
      clear c8
      have H' := Aside0.mk H
      clear H
      go_wp2
      go_meet
      case rel => exact ⟨_, (decide (a2 < 0)), (by first | rfl | (simp; done) | (simp [*]; done)), H', ⟨by first | omega | exact Nat.le_refl _⟩, ⟨zB HB.out⟩⟩
 case rest =>
  clear HC4
  try clear p2
  try clear c3
  try clear c5
  try clear c5b0
  try clear c6
  try clear c6b0
  try clear c7
  try clear c7b0
  try clear c8
  try clear c8b0
  obtain ⟨kq, x25_3, rfl, HA, HJ3, HB⟩ := hcut
  cases kq with
  | zero => exact absurd HA.out (by simp [impl_StateOfZ.j0])
  | succ kj3 =>
   have H := HA.out
   clear HA
   simp only [impl_StateOfZ.j0] at H
   by_cases c9 : x25_3 = true
   ·subst c9
    have H1 : (some ([] : List Int)) = some r := by rw [if_pos rfl] at H; exact H
    clear H
    have H := H1
    clear H1
    obtain rfl := Option.some.inj H
    go_wp2
    go_ret
    exact ⟨by first | rfl | (simp [errW_none, errW_some] <;> rfl) | (simp [*, errW_none, errW_some] <;> rfl), zB HB.out⟩
   ·replace c9 := Bool.eq_false_iff.mpr c9
    subst c9
    have H1 : (impl_StateOfZ.l0 kj3 a1 a2 (([] : List Int)) a0 0) = some r := by rw [if_neg (show ¬ (false = true) by decide)] at H; exact H
    clear H
    have H := H1
    clear H1
    obtain ⟨y158, hy158⟩ : ∃ y_ : List Int, y_ = (([] : List Int)) := ⟨_, rfl⟩
    replace H : (impl_StateOfZ.l0 kj3 a1 a2 y158 a0 0) = some r := by first | (rw [hy158]; with_reducible exact H) | (have H2_ := (Option.bind_some _ _).symm.trans H; rw [hy158]; with_reducible exact H2_) | (have H2_ := (Option.bind_some _ _).symm.trans H; with_reducible exact H2_) | with_reducible exact H | (rw [hy158]; exact H) | exact H
    have Ny158 := Aside0.mk hy158
    clear hy158
    have H' := Aside0.mk H
    clear H
    go_wp2_with (first | ((with_reducible refine gate_dst (N := 26) rfl ?_); refine Kd.R_lit (Kd.int .i64) _ 3 ?hg (N := 26) ?hd (xs := ([] : List Int)) (inner := []) (ok := fun _ => True) (okp := fun _ => True) ?hr ?hp (fun _ hk => hk) trivial (Below.refl _ _) (Nat.le_refl _) (by simp) ?_; (case hd => rfl); (case hg => rfl); (case hr => first | (go_simp; done) | (go_simp; rfl)); (case hp => exact (Reps.none _ _)); intro v159 w10 ho11 hb hg_ hnew_; clear hg_ hnew_; (first | rw [← Ny158.out] at ho11 | (simp only [Int.reduceToNat] at ho11; rw [← Ny158.out] at ho11)); have n0_ := Aside0.mk (Kd.R_lower ho11 (below_size (zB HB.out))); have n1_ := Aside0.mk (below_step (zB HB.out) hb); clear HB; have HO160 := n0_; have HB := n1_; clear n0_ n1_; clear hb ho11))
    go_loopg [2, 7, 28] kj3 (fun kq v2 v7 v28 w' => ∃ (x2_2 : Int) (x7_2 : List Int) (x28_2 : Int), v2 = .int .i64 x2_2 ∧ v28 = .int .i64 x28_2 ∧ Aside0 (impl_StateOfZ.l0 kq a1 x2_2 x7_2 a0 x28_2 = some r) ∧ Aside0 (kq ≤ kj3) ∧ Aside0 (Kd.R (Kd.int .i64) 3 w' w.heap.size (fun _ => True) v7 x7_2) ∧ Aside0 (Below w.heap.size w w'))
    case atStart => exact ⟨(a2), (y158), (0), (by first | rfl | (simp; done) | (simp [*]; done)), (by first | rfl | (simp; done) | (simp [*]; done)), H', ⟨Nat.le_refl _⟩, ⟨by (with_reducible repeat (first | apply Kd.R_alloc | apply Kd.R_drewN | apply Kd.R_drew)); exact HO160.out⟩, ⟨zB HB.out⟩⟩
    case round =>
     clear H'
     try clear p2
     try clear c3
     try clear c5
     try clear c5b0
     try clear c6
     try clear c6b0
     try clear c7
     try clear c7b0
     try clear c8
     try clear c8b0
     try clear c9
     try clear p2
     obtain ⟨x2_2, x7_2, x28_2, rfl, rfl, HA, HK2, HO_7, HB⟩ := hrel
     cases gk with
     | zero => exact absurd HA.out (by simp [impl_StateOfZ.l0])
     | succ k2 =>
      have H := HA.out
      clear HA
      simp only [impl_StateOfZ.l0] at H
      by_cases c12 : x28_2 < a0
      ·rw [if_pos c12] at H
       have c12b0 : decide (x28_2 < a0) = true := decide_eq_true c12
       clear c12
       by_cases c13 : a1 = 0
       ·rw [if_pos c13] at H
        exact absurd H (by simp)
       ·rw [if_neg c13] at H
        have c13b0 : (a1 == 0) = false := beq_eq_false_iff_ne.mpr c13
        have c13b1 : (a1 != 0) = true := bne_iff_ne.mpr c13
        by_cases c14 : x7_2.length < 17592186044416
        ·rw [if_pos c14] at H
         have LMc14 := Aside0.mk c14
         clear c14
         obtain ⟨y161, hy161⟩ : ∃ y_ : List Int, y_ = (x7_2 ++ [Int.tmod x2_2 a1]) := ⟨_, rfl⟩
         replace H : (impl_StateOfZ.l0 k2 a1 (wrap64 (Int.tdiv x2_2 a1)) y161 a0 (wrap64 (x28_2 + 1))) = some r := by first | (rw [hy161]; with_reducible exact H) | (have H2_ := (Option.bind_some _ _).symm.trans H; rw [hy161]; with_reducible exact H2_) | (have H2_ := (Option.bind_some _ _).symm.trans H; with_reducible exact H2_) | with_reducible exact H | (rw [hy161]; exact H) | exact H
         have Ny161 := Aside0.mk hy161
         clear hy161
         have H' := Aside0.mk H
         clear H
         go_wp2_with (first | ((with_reducible refine gate_builtin (b := .append) (xs := #[.tmp 30, .tmp 34]) rfl ?_); at_builtin; refine Kd.R_append (Kd.int .i64) (w0 := w) w.heap.size rfl (.tmp 30) (.tmp 34) 22 3 (.int .i64 0) 8 rfl Try.underlying22 info3 rfl (by decide) (by omega) u7 x7_2 (Int.tmod x2_2 a1) [.int .i64 (Int.tmod x2_2 a1)] (fun _ => True) (fun _ => False) rfl rfl ?aP (fun _ hk => hk.elim) ?aF ?aO ?aB ?aS ?aL ?_; (case aP => exact rfl); (case aB => exact (zB HB.out)); (case aF => exact (fun _ _ => trivial)); (case aO => exact (zR HO_7.out)); (case aS => exact (below_size (zB HB.out))); (case aL => have := LMc14.out; omega); intro v162 w15 ho hb hg hat; rw [← Ny161.out] at ho; have n0_ := Aside0.mk (hb); have n1_ := Aside0.mk (ho); clear HB; clear HO_7; have HB := n0_; have HO163 := n1_; clear n0_ n1_; clear ho hb hg hat))
         go_roundg k2
         case measure => have := HJ3.out; have := HK2.out; omega
         case rel => exact ⟨(wrap64 (Int.tdiv x2_2 a1)), (y161), (wrap64 (x28_2 + 1)), (by first | rfl | (simp; done) | (simp [*]; done)), (by first | rfl | (simp; done) | (simp [*]; done)), H', ⟨by have := HJ3.out; have := HK2.out; omega⟩, ⟨by (with_reducible repeat (first | apply Kd.R_alloc | apply Kd.R_drewN | apply Kd.R_drew)); exact HO163.out⟩, ⟨zB HB.out⟩⟩
        ·rw [if_neg c14] at H
         exact absurd H (by simp)
      ·rw [if_neg c12] at H
       have c12b0 : decide (x28_2 < a0) = false := decide_eq_false c12
       clear c12
       by_cases c16 : x2_2 > 0
       ·rw [if_pos c16] at H
        have c16b0 : decide (0 < x2_2) = true := decide_eq_true c16
        clear c16
        obtain rfl := Option.some.inj H
        go_wp2
        go_ret
        exact ⟨by first | rfl | (simp [errW_none, errW_some] <;> rfl) | (simp [*, errW_none, errW_some] <;> rfl), zB HB.out⟩
       ·rw [if_neg c16] at H
        have c16b0 : decide (0 < x2_2) = false := decide_eq_false c16
        clear c16
        exact absurd H (by simp)

-- NOT PRINTED: function 72 (impl_allStates)

-- NOT PRINTED: function 51 (impl_countStates)

/-! ### impl_allStates: function 72 -/
theorem impl_allStates.goesV {P : Program} {ops : Array Oper} {Q : Exit → Act → World → Prop} {rest : List Oper} {oi : Oper} {a : Act} {w : World} (hg : oi.guard = none) {f : FuncId} {fn : Func} (c : Operand) {xs : Array Operand} {ts : Array TypeId} {caps : Array Value} (hf : P.funcs[f]? = some fn) (hname : (fn.name == "runtime.NumGoroutine") = false) (hb : fn.body.isSome = true) (args : Array Value)
  (hop : oi.op = .call { callee := .value c, args := xs, argTypes := ts }) (hc : a.eval c = .func (.func f) #[] caps) (hargs : xs.map a.eval = args)
  (h : Calls P f (args ++ caps) w fun e w' => ∃ v, e = .returned v ∧ wpList P ops Q rest (a.put oi.dst v) w') : wpList P ops Q (oi :: rest) a w := by
 refine wpList_plain hg fun K hK => ?_
 have he := enters_ hf hname hb (args ++ caps) w
 have hrun : (execOp a.eval oi).run P w = .ok (.enter f (args ++ caps)) w := by
  unfold execOp
  simp [hop, resolve, Deferred.ofValue, invoke, hc, hargs, he]
 unfold Oper.wp
 rw [hrun, Oper.upon_enter]
 refine h.mono fun e w'' hh => ?_
 obtain ⟨v, rfl, hk⟩ := hh
 exact hK _ _ hk
theorem impl_allStates.gateV {P : Program} {ops : Array Oper} {Q : Exit → Act → World → Prop} {rest : List Oper} {o : Oper} {a : Act} {W : World} (n : Nat) {xs : Array Operand} {ts : Array TypeId} (_ho : o.op = .call { callee := .value (.tmp n), args := xs, argTypes := ts }) (h : wpList P ops Q (o :: rest) a W) : wpList P ops Q (o :: rest) a W := h
/-- All states told, one behind the other. -/
def impl_allStates.l0 {σ : Type} (tell : Nat → List Int → σ → Option σ) : Nat → Int → Int → Int → σ → Option σ
 | 0, _, _, _, _ => none
 | k + 1, x0, x1, x6, s => (impl_StateOf.f k x0 x1 x6).bind fun t => if t = [] then (impl_StateOfZ.f k x0 x1 x6).bind fun _ => some s else (tell k t s).bind fun s' => impl_allStates.l0 tell k x0 x1 (wrap64 (x6 + 1)) s'
def impl_allStates.f {σ : Type} (k : Nat) (tell : Nat → List Int → σ → Option σ) (a0 a1 : Int) (s : σ) : Option σ := impl_allStates.l0 tell k a0 a1 0 s
theorem impl_allStates.mono_l {σ : Type} {tell : Nat → List Int → σ → Option σ} (ht : ∀ t s k, LeO (tell k t s) (tell (k + 1) t s)) : ∀ k x0 x1 x6 s, LeO (impl_allStates.l0 tell k x0 x1 x6 s) (impl_allStates.l0 tell (k + 1) x0 x1 x6 s)
 | 0, _, _, _, _ => fun r h => by simp [impl_allStates.l0] at h
 | k + 1, x0, x1, x6, s => by
  rw [impl_allStates.l0, impl_allStates.l0]
  refine LeO.bind (impl_StateOf.mono _ _ _ k) (fun t => LeO.ite (LeO.bind (impl_StateOfZ.mono _ _ _ k) (fun _ => LeO.refl _)) (LeO.bind (ht _ _ k) (fun s' => impl_allStates.mono_l ht k _ _ _ _)))
theorem impl_allStates.mono {σ : Type} {tell : Nat → List Int → σ → Option σ} (ht : ∀ t s k, LeO (tell k t s) (tell (k + 1) t s)) (a0 a1 : Int) (s : σ) (k : Nat) : LeO (impl_allStates.f k tell a0 a1 s) (impl_allStates.f (k + 1) tell a0 a1 s) := impl_allStates.mono_l ht k _ _ _ _
set_option maxHeartbeats 8000000 in
set_option maxRecDepth 100000 in
theorem impl_allStates.calls {σ : Type} (tell : Nat → List Int → σ → Option σ) (J : σ → World → Prop) (hJ : ∀ s W W', J s W → Below W.heap.size W W' → J s W') (T : FuncId) (fnT : Func) (caps : Array Value) (hT : Try.prog.funcs[T]? = some fnT) (hname : (fnT.name == "runtime.NumGoroutine") = false) (hb : fnT.body.isSome = true)
  (htell : ∀ k t s s' A c W, tell k t s = some s' → J s W → Kd.C (Kd.int .i64) W A t.length t → t.length ≤ c → Calls Try.prog T (#[.slice A t.length c] ++ caps) W fun e w' => e = .returned (.tuple #[]) ∧ J s' w')
  (k : Nat) (a0 a1 : Int) (s r : σ) (w : World) (hs : J s w) (h : impl_allStates.f k tell a0 a1 s = some r) :
  Calls Try.prog 72 #[.int .i64 a0, .int .i64 a1, .func (.func T) #[] caps] w fun e w' => e = .returned (.tuple #[]) ∧ J r w' := by
 have HJ := Aside0.mk hs
 have HT := Aside0.mk htell
 have HJm := Aside0.mk hJ
 have HE := Aside0.mk (And.intro hT (And.intro hname hb))
 have H' : Aside0 (impl_allStates.l0 tell k a0 a1 0 s = some r) := ⟨h⟩
 clear h hs htell hJ hT hname hb
 have hnil := fun (w : World) (a : Option Addr) (n c : Nat) => Lib.run_eql_slice_nil (P := Try.prog) w 22 3 a n c 0 0 Try.underlying22
 go_enter Try.func72, Try.ntmps72
 go_wp2
 go_loopg [6] k (fun kq v6 w' => ∃ (x6 : Int) (s2 : σ), v6 = .int .i64 x6 ∧ Aside0 (impl_allStates.l0 tell kq a0 a1 x6 s2 = some r) ∧ Aside0 (J s2 w'))
 case atStart => exact ⟨0, s, rfl, H', HJ⟩
 case round =>
  clear H' HJ
  obtain ⟨x6, s2, rfl, HA, HJ⟩ := hrel
  cases gk with
  | zero => exact absurd HA.out (by simp [impl_allStates.l0])
  | succ k2 =>
   have H := HA.out
   clear HA
   simp only [impl_allStates.l0] at H
   obtain ⟨t, ht, H⟩ := Option.bind_eq_some_iff.1 H
   by_cases c1 : t = []
   ·rw [if_pos c1] at H
    subst c1
    obtain ⟨t2, ht2, H⟩ := Option.bind_eq_some_iff.1 H
    obtain rfl := Option.some.inj H
    have hz : impl_StateOfZ.f k2 a0 a1 x6 = some t2 := ht2
    have HZ := Aside0.mk hz
    clear H ht ht2 hz
    go_wp2_with ((with_reducible refine gate_callee (f := 31) rfl ?_); refine goesL_ (some 13) rfl rfl Try.func31 (by kernel_rfl) rfl #[.int .i64 a0, .int .i64 a1, .int .i64 x6] rfl zA ?_; (with_reducible refine (impl_StateOfZ.calls k2 a0 a1 x6 t2 _ HZ.out).mono ?_); rintro e w' ⟨rfl, hb⟩; refine ⟨_, rfl, ?_⟩; have HJ2 := Aside0.mk (HJm.out _ _ _ HJ.out hb); clear hb)
    exact bodyPost_ret (v := .tuple #[]) (by simp [results, Try.results72, go_sem]) rfl ⟨rfl, HJ2.out⟩
   ·rw [if_neg c1] at H
    obtain ⟨s3, ht3, H⟩ := Option.bind_eq_some_iff.1 H
    have HS := Aside0.mk ht
    have HN := Aside0.mk c1
    have HT3 := Aside0.mk ht3
    have H' := Aside0.mk H
    clear H ht ht3 c1
    go_wp2_with (first
     | ((with_reducible refine gate_callee (f := 31) rfl ?_); refine goesL_ (some 13) rfl rfl Try.func31 (by kernel_rfl) rfl #[.int .i64 a0, .int .i64 a1, .int .i64 x6] rfl zA ?_; (with_reducible refine (impl_StateOf.calls k2 a0 a1 x6 t _ HS.out).mono ?_); rintro e w1 ⟨v0, rfl, hr, hb⟩; refine ⟨_, rfl, ?_⟩; obtain ⟨g, cap, e1, _, _, _⟩ := Kd.R_form hr (List.length_pos_iff.2 HN.out); subst e1; have HR := Aside0.mk hr; have HJ2 := Aside0.mk (HJm.out _ _ _ HJ.out hb); clear hb hr)
     | ((with_reducible refine impl_allStates.gateV 16 rfl ?_); refine impl_allStates.goesV rfl (.tmp 16) HE.out.1 HE.out.2.1 HE.out.2.2 #[.slice (some ⟨g, 0, none⟩) t.length cap] rfl rfl zA ?_; (with_reducible refine (HT.out k2 t s2 s3 _ _ _ HT3.out HJ2.out (Kd.R_reads' HR.out).2.2 (Kd.R_reads' HR.out).2.1).mono ?_); rintro e w2 ⟨rfl, hj3⟩; refine ⟨_, rfl, ?_⟩; have HJ3 := Aside0.mk hj3; clear hj3))
    go_roundg k2
    case measure => omega
    case rel => exact ⟨_, s3, rfl, H', HJ3⟩

/-! ### impl_countStates: function 51 -/
def impl_countStates.tell {τ : Type} (hold : Nat → List Int → τ → Option (Bool × τ)) (k : Nat) (t : List Int) (s : Int × τ) : Option (Int × τ) := (hold k t s.2).bind fun b => some (if b.1 = true then wrap64 (s.1 + 1) else s.1, b.2)
def impl_countStates.f {τ : Type} (k : Nat) (hold : Nat → List Int → τ → Option (Bool × τ)) (l0 : List Int) (a1 : Int) (s : τ) : Option (Int × τ) := impl_allStates.f k (impl_countStates.tell hold) (l0.length : Int) a1 (0, s)
theorem impl_countStates.mono {τ : Type} {hold : Nat → List Int → τ → Option (Bool × τ)} (hh : ∀ t s k, LeO (hold k t s) (hold (k + 1) t s)) (l0 : List Int) (a1 : Int) (s : τ) (k : Nat) : LeO (impl_countStates.f k hold l0 a1 s) (impl_countStates.f (k + 1) hold l0 a1 s) :=
 impl_allStates.mono (fun t s k => LeO.bind (hh t s.2 k) (fun _ => LeO.refl _)) _ _ _ k
/-- What the two boxes hold. -/
structure impl_countStates.In (B0 b : Nat) (F : FuncId) (lb : Array Value) {τ : Type} (Kp : τ → World → Prop) (s : Int × τ) (W : World) : Prop where
 box : W.heap[b]? = some (.cells #[.func (.func F) #[] lb] 30 (0, 0))
 num : W.heap[b + 1]? = some (.cells #[.int .i64 s.1] 3 (0, 0))
 kept : Kp s.2 W
set_option maxHeartbeats 8000000 in
set_option maxRecDepth 100000 in
theorem impl_countStates.lit {τ : Type} (hold : Nat → List Int → τ → Option (Bool × τ)) (B0 b : Nat) (hB : B0 ≤ b) (F : FuncId) (fnF : Func) (lb : Array Value) (Kp : τ → World → Prop) (hK : ∀ s W W', Kp s W → Below B0 W W' → Kp s W') (hF : Try.prog.funcs[F]? = some fnF) (hname : (fnF.name == "runtime.NumGoroutine") = false) (hb : fnF.body.isSome = true)
  (hhold : ∀ k t s b s' A c W, hold k t s = some (b, s') → Kp s W → B0 ≤ W.heap.size → Kd.C (Kd.int .i64) W A t.length t → t.length ≤ c → Calls Try.prog F (#[.slice A t.length c] ++ lb) W fun e w' => e = .returned (.bool b) ∧ Kp s' w' ∧ Kept W w' (fun i => i < B0))
  (k : Nat) (t : List Int) (s s' : Int × τ) (A : Option Addr) (c : Nat) (W : World) (h : impl_countStates.tell hold k t s = some s') (hi : impl_countStates.In B0 b F lb Kp s W) (hr : Kd.C (Kd.int .i64) W A t.length t) (hc : t.length ≤ c) :
  Calls Try.prog 83 (#[.slice A t.length c] ++ #[.pointer (some ⟨b, 0, none⟩), .pointer (some ⟨b + 1, 0, none⟩)]) W fun e w' => e = .returned (.tuple #[]) ∧ impl_countStates.In B0 b F lb Kp s' w' := by
 obtain ⟨⟨v, s2⟩, h1, h2⟩ := Option.bind_eq_some_iff.1 h
 obtain ⟨ibox, inum, ikept⟩ := hi
 have hlt := lt_of_block ibox
 have CT := hhold k t s.2 v s2 A c W h1 ikept (by omega) hr hc
 have HCT := Aside0.mk CT
 have HE := Aside0.mk (And.intro hF (And.intro hname hb))
 have X1 := cell_of_one ibox
 have HI := Aside0.mk (And.intro ibox inum)
 have HB0 := Aside0.mk hB
 have HKm := Aside0.mk hK
 have H2 := Aside0.mk h2
 clear h h1 h2 ibox inum ikept hhold hr hc CT hF hname hb hB hK hlt
 refine calls_of_args (args' := #[.slice A t.length c, .pointer (some ⟨b, 0, none⟩), .pointer (some ⟨b + 1, 0, none⟩)]) rfl ?_
 go_enter Try.func83, Try.ntmps83
 cases v
 ·go_wp2_with ((with_reducible refine impl_allStates.gateV 4 rfl ?_); refine impl_allStates.goesV rfl (.tmp 4) HE.out.1 HE.out.2.1 HE.out.2.2 #[.slice A t.length c] rfl rfl zA ?_; (with_reducible refine HCT.out.mono ?_); rintro e w2 ⟨rfl, hk, hkept⟩; refine ⟨_, rfl, ?_⟩; have HK := Aside0.mk (And.intro hk hkept); clear hk hkept)
  go_end0
  refine ⟨rfl, ?_⟩
  have hB := HB0.out
  obtain rfl := Option.some.inj H2.out
  exact ⟨blk_kept HI.out.1 HK.out.2 (by omega), blk_kept HI.out.2 HK.out.2 (by omega), HK.out.1⟩
 ·go_wp2_with ((with_reducible refine impl_allStates.gateV 4 rfl ?_); refine impl_allStates.goesV rfl (.tmp 4) HE.out.1 HE.out.2.1 HE.out.2.2 #[.slice A t.length c] rfl rfl zA ?_; (with_reducible refine HCT.out.mono ?_); rintro e w2 ⟨rfl, hk, hkept⟩; refine ⟨_, rfl, ?_⟩; have HK := Aside0.mk (And.intro hk hkept); have inum2 := blk_kept HI.out.2 hkept (by have := HB0.out; simp; omega); have X2 := cell_of_one inum2; have X3 := free_of_one inum2; have X4 := Aside0.mk inum2; clear hk hkept inum2)
  go_end0
  refine ⟨rfl, ?_⟩
  have hB := HB0.out
  obtain rfl : (wrap64 (s.1 + 1), s2) = s' := Option.some.inj H2.out
  refine ⟨?_, one_setCell X4.out, HKm.out _ _ _ HK.out.1 ((Below.refl _ _).setCell (by simp; omega) _)⟩
  rw [Below.heap_setCell _ _ _ _ (by simp)]
  exact blk_kept HI.out.1 HK.out.2 (by omega)
set_option maxHeartbeats 8000000 in
set_option maxRecDepth 100000 in
theorem impl_countStates.calls {τ : Type} (hold : Nat → List Int → τ → Option (Bool × τ)) (B0 : Nat) (F : FuncId) (fnF : Func) (lb : Array Value) (Kp : τ → World → Prop) (hK : ∀ s W W', Kp s W → Below B0 W W' → Kp s W') (hF : Try.prog.funcs[F]? = some fnF) (hname : (fnF.name == "runtime.NumGoroutine") = false) (hb : fnF.body.isSome = true)
  (hhold : ∀ k t s b s' A c W, hold k t s = some (b, s') → Kp s W → B0 ≤ W.heap.size → Kd.C (Kd.int .i64) W A t.length t → t.length ≤ c → Calls Try.prog F (#[.slice A t.length c] ++ lb) W fun e w' => e = .returned (.bool b) ∧ Kp s' w' ∧ Kept W w' (fun i => i < B0))
  (k : Nat) (A0 : Option Addr) (c0 : Nat) (l0 : List Int) (a1 : Int) (s : τ) (r : Int) (r2 : τ) (w : World) (hB : B0 ≤ w.heap.size) (hs : Kp s w) (h : impl_countStates.f k hold l0 a1 s = some (r, r2)) :
  Calls Try.prog 51 #[.slice A0 l0.length c0, .int .i64 a1, .func (.func F) #[] lb] w fun e w' => e = .returned (.int .i64 r) ∧ Kp r2 w' := by
 have HL := Aside0.mk (impl_countStates.lit hold B0 w.heap.size hB F fnF lb Kp hK hF hname hb hhold)
 have HKm := Aside0.mk hK
 have H : Aside0 (impl_allStates.f k (impl_countStates.tell hold) (l0.length : Int) a1 (0, s) = some (r, r2)) := ⟨h⟩
 have hin : impl_countStates.In B0 w.heap.size F lb Kp (0, s) ((w.alloc (.cells #[.func (.func F) #[] lb] 30)).alloc (.cells #[.int .i64 0] 3)) := ⟨(Below.heap_alloc _ _ _ (by simp)).trans (heap_alloc_new _ _), by simpa using heap_alloc_new (w.alloc (.cells #[.func (.func F) #[] lb] 30)) _, HKm.out _ _ _ hs (((Below.refl _ _).alloc hB _).alloc (by simp; omega) _)⟩
 have HI := Aside0.mk hin
 have HB := Aside0.mk hB
 have HJ : Aside0 (∀ (s : Int × τ) W W', impl_countStates.In B0 w.heap.size F lb Kp s W → Below W.heap.size W W' → impl_countStates.In B0 w.heap.size F lb Kp s W') := ⟨fun s W W' hi hb => ⟨(hb.block _ (lt_of_block hi.box)).trans hi.box, (hb.block _ (lt_of_block hi.num)).trans hi.num, HKm.out _ _ _ hi.kept (hb.mono (Nat.le_of_lt (Nat.lt_of_le_of_lt HB.out (lt_of_block hi.box))))⟩⟩
 clear h hin hs hhold hK hF hname hb hB
 have hmf : ∀ (fn : Fn) (first cap : Array Value) (w : World), (Instr.makeFunc fn first cap).run Try.prog w = .ok (.func fn first cap) w := fun _ _ _ _ => rfl
 go_enter Try.func51, Try.ntmps51
 go_wp2_with ((with_reducible refine gate_callee (f := 72) rfl ?_); refine goesL_ (some 12) rfl rfl Try.func72 (by kernel_rfl) rfl #[.int .i64 (l0.length : Int), .int .i64 a1, .func (.func 83) #[] #[.pointer (some ⟨w.heap.size, 0, none⟩), .pointer (some ⟨w.heap.size + 1, 0, none⟩)]] rfl zA ?_; (with_reducible refine (impl_allStates.calls (impl_countStates.tell hold) (impl_countStates.In B0 w.heap.size F lb Kp) HJ.out 83 _ _ Try.func83 (by kernel_rfl) rfl HL.out k _ _ (0, s) (r, r2) _ HI.out H.out).mono ?_); rintro e w2 ⟨rfl, hi⟩; refine ⟨_, rfl, ?_⟩; have X := cell_of_one hi.num; have HI2 := Aside0.mk hi; clear hi)
 go_ret
 exact ⟨rfl, HI2.out.kept⟩
/-- A test that keeps nothing. -/
def impl_countStates.pl (hold : Nat → List Int → Option Bool) (k : Nat) (t : List Int) (u : Unit) : Option (Bool × Unit) := (hold k t).bind fun b => some (b, ())
def impl_countStates.g (k : Nat) (hold : Nat → List Int → Option Bool) (l0 : List Int) (a1 : Int) : Option Int := (impl_countStates.f k (impl_countStates.pl hold) l0 a1 ()).bind fun r => some r.1
theorem impl_countStates.gmono {hold : Nat → List Int → Option Bool} (hh : ∀ t k, LeO (hold k t) (hold (k + 1) t)) (l0 : List Int) (a1 : Int) (k : Nat) : LeO (impl_countStates.g k hold l0 a1) (impl_countStates.g (k + 1) hold l0 a1) :=
 LeO.bind (impl_countStates.mono (fun t s k => LeO.bind (hh t k) (fun _ => LeO.refl _)) _ _ _ k) (fun _ => LeO.refl _)
theorem impl_countStates.plain (hold : Nat → List Int → Option Bool) (B0 : Nat) (F : FuncId) (fnF : Func) (lb : Array Value) (Bx : World → Prop) (hK : ∀ W W', Bx W → Below B0 W W' → Bx W') (hF : Try.prog.funcs[F]? = some fnF) (hname : (fnF.name == "runtime.NumGoroutine") = false) (hb : fnF.body.isSome = true)
  (hhold : ∀ k t b A c W, hold k t = some b → Bx W → Kd.C (Kd.int .i64) W A t.length t → t.length ≤ c → Calls Try.prog F (#[.slice A t.length c] ++ lb) W fun e w' => e = .returned (.bool b) ∧ Below W.heap.size W w')
  (k : Nat) (A0 : Option Addr) (c0 : Nat) (l0 : List Int) (a1 : Int) (r : Int) (w : World) (hB : B0 ≤ w.heap.size) (hs : Bx w) (h : impl_countStates.g k hold l0 a1 = some r) :
  Calls Try.prog 51 #[.slice A0 l0.length c0, .int .i64 a1, .func (.func F) #[] lb] w fun e w' => e = .returned (.int .i64 r) ∧ Bx w' := by
 obtain ⟨r2, h1, h2⟩ := Option.bind_eq_some_iff.1 h
 obtain rfl := Option.some.inj h2
 refine impl_countStates.calls (impl_countStates.pl hold) B0 F fnF lb (fun _ W => Bx W) (fun _ W W' h1 h2 => hK W W' h1 h2) hF hname hb ?_ k A0 c0 l0 a1 () r2.1 r2.2 w hB hs h1
 intro k t s b s' A c W h hs hB hr hc
 obtain ⟨b2, h3, h4⟩ := Option.bind_eq_some_iff.1 h
 obtain rfl : b2 = b := (Prod.mk.inj (Option.some.inj h4)).1
 exact (hhold k t b2 A c W h3 hs hr hc).mono fun e w' ⟨he, hw⟩ => ⟨he, hK _ _ hs (hw.mono hB), Kept.of_below hw _⟩
/-- A box that a call made, and all that was there before it. -/
structure impl_countStates.Box1 (w : World) (v : Value) (t : TypeId) (W : World) : Prop where
 b0 : W.heap[w.heap.size]? = some (.cells #[v] t (0, 0))
 below : Below w.heap.size w W
theorem impl_countStates.Box1.later {w : World} {v : Value} {t : TypeId} {W W' : World} (h : impl_countStates.Box1 w v t W) (hb : Below (w.heap.size + 1) W W') : impl_countStates.Box1 w v t W' :=
 ⟨(hb.block _ (by omega)).trans h.b0, h.below.trans (hb.mono (by omega))⟩
structure impl_countStates.Box2 (w : World) (v v' : Value) (t t' : TypeId) (W : World) : Prop where
 b0 : W.heap[w.heap.size]? = some (.cells #[v] t (0, 0))
 b1 : W.heap[w.heap.size + 1]? = some (.cells #[v'] t' (0, 0))
 below : Below w.heap.size w W
theorem impl_countStates.Box2.later {w : World} {v v' : Value} {t t' : TypeId} {W W' : World} (h : impl_countStates.Box2 w v v' t t' W) (hb : Below (w.heap.size + 2) W W') : impl_countStates.Box2 w v v' t t' W' :=
 ⟨(hb.block _ (by omega)).trans h.b0, (hb.block _ (by omega)).trans h.b1, h.below.trans (hb.mono (by omega))⟩
structure impl_countStates.Box3 (w : World) (v v' v'' : Value) (t t' t'' : TypeId) (W : World) : Prop where
 b0 : W.heap[w.heap.size]? = some (.cells #[v] t (0, 0))
 b1 : W.heap[w.heap.size + 1]? = some (.cells #[v'] t' (0, 0))
 b2 : W.heap[w.heap.size + 2]? = some (.cells #[v''] t'' (0, 0))
 below : Below w.heap.size w W
theorem impl_countStates.Box3.later {w : World} {v v' v'' : Value} {t t' t'' : TypeId} {W W' : World} (h : impl_countStates.Box3 w v v' v'' t t' t'' W) (hb : Below (w.heap.size + 3) W W') : impl_countStates.Box3 w v v' v'' t t' t'' W' :=
 ⟨(hb.block _ (by omega)).trans h.b0, (hb.block _ (by omega)).trans h.b1, (hb.block _ (by omega)).trans h.b2, h.below.trans (hb.mono (by omega))⟩
theorem impl_countStates.box1 (w : World) (v : Value) (t : TypeId) : impl_countStates.Box1 w v t (w.alloc (.cells #[v] t)) := ⟨heap_alloc_new _ _, (Below.refl _ _).alloc (Nat.le_refl _) _⟩
theorem impl_countStates.box2 (w : World) (v v' : Value) (t t' : TypeId) : impl_countStates.Box2 w v v' t t' ((w.alloc (.cells #[v] t)).alloc (.cells #[v'] t')) := ⟨(Below.heap_alloc _ _ _ (by simp)).trans (heap_alloc_new _ _), by simpa using heap_alloc_new (w.alloc (.cells #[v] t)) _, ((Below.refl _ _).alloc (Nat.le_refl _) _).alloc (by simp) _⟩
theorem impl_countStates.box3 (w : World) (v v' v'' : Value) (t t' t'' : TypeId) : impl_countStates.Box3 w v v' v'' t t' t'' (((w.alloc (.cells #[v] t)).alloc (.cells #[v'] t')).alloc (.cells #[v''] t'')) := by
 have h := impl_countStates.box2 w v v' t t'
 refine ⟨(Below.heap_alloc _ _ _ (by simp; omega)).trans h.b0, (Below.heap_alloc _ _ _ (by simp)).trans h.b1, by simpa using heap_alloc_new ((w.alloc (.cells #[v] t)).alloc (.cells #[v'] t')) _, h.below.alloc (by simp; omega) _⟩

end Go.Proofs.Ytgglagpciojfmaa.PAll
