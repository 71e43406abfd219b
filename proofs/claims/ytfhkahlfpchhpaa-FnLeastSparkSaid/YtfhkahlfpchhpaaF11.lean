/- Own text of this session, written by a program of this session (wip/t/own.py) out of what the kit tells of the functions: each Go function as a Lean function, and the walk through its code. -/
import Derived.Test.YtfhkahlfpchhpaaT
import Derived.Test.YtfhkahlfpchhpaaF4
import Derived.Test.YtfhkahlfpchhpaaF8
namespace Go.Proofs.Ytfhkahlfpchhpaa.PAll
open Go.RowKit Go.Proofs.YtfhkahlfpchhpaaW.PrintWords Go.Proofs.YtfhkahlfpchhpaaW.PrintLast Go.Proofs.YtfhkahlfpchhpaaW.PrintMore
attribute [local go_sem] max2_int min2_int max_two min_two max_three min_three max_four min_four   -- for this text's walks alone
set_option linter.unusedVariables false
set_option linter.unusedSimpArgs false

/-! ### impl_LeastSpark: function 19 -/
def impl_LeastSpark.l0 : Nat → List Int → List Int → Int → Int → Int → Option (Int)
  | 0, _, _, _, _, _ => none
  | k + 1, x0, x1, x5, x19, x20 => if x20 < x19 then ((bits_OnesCount.f (IntKind.u64.wrap (x20))).bind fun t251 => ((bits_OnesCount.f (IntKind.u64.wrap (x5))).bind fun t252 => (if t251 ≥ t252 then (impl_LeastSpark.l0 k x0 x1 x5 x19 (wrap64 (x20 + 1))) else ((impl_spread.f k x0 x1 x20).bind fun bt253 => (if bt253.1 = (wrap64 ((shl .i64 1 (x0.length : Int)) - 1)) then (impl_LeastSpark.l0 k x0 x1 x20 x19 (wrap64 (x20 + 1))) else (impl_LeastSpark.l0 k x0 x1 x5 x19 (wrap64 (x20 + 1)))))))) else (some x5)
def impl_LeastSpark.f (k : Nat) (l0 : List Int) (l1 : List Int) : Option (Int) := (impl_NeedsOk.f k l0 l1).bind fun t250 => (if t250 = true then (impl_LeastSpark.l0 k l0 l1 (wrap64 ((shl .i64 1 (l0.length : Int)) - 1)) (shl .i64 1 (l0.length : Int)) 0) else (some (-1)))
theorem impl_LeastSpark.mono_l : ∀ k, (∀ y0 y1 y2 y3 y4, LeO (impl_LeastSpark.l0 k y0 y1 y2 y3 y4) (impl_LeastSpark.l0 (k + 1) y0 y1 y2 y3 y4))
  | 0 => fun _ _ _ _ _ r h => by simp [impl_LeastSpark.l0] at h
  | k + 1 => by
    have ih0 := impl_LeastSpark.mono_l k
    · intro y0 y1 y2 y3 y4
      unfold impl_LeastSpark.l0
      repeat' first
      | (with_reducible exact ih0 _ _ _ _ _)
      | (with_reducible exact impl_NeedsOk.mono _ _ _)
      | (with_reducible exact impl_spread.mono _ _ _ _)
      | (with_reducible exact LeO.refl _)
      | (with_reducible exact LeO.none _)
      | (with_reducible refine LeO.ite ?_ ?_)
      | (with_reducible refine LeO.bind ?_ (fun _ => ?_))
      | exact ih0 _ _ _ _ _
      | exact impl_NeedsOk.mono _ _ _
      | exact impl_spread.mono _ _ _ _
      | exact LeO.none _
      | refine LeO.ite ?_ ?_
      | refine LeO.bind ?_ (fun _ => ?_)
theorem impl_LeastSpark.mono : ∀ a0 a1 k, LeO (impl_LeastSpark.f k a0 a1) (impl_LeastSpark.f (k + 1) a0 a1) := by
  intro a0 a1 k
  have ih0 := impl_LeastSpark.mono_l k
  unfold impl_LeastSpark.f
  repeat' first
      | (with_reducible exact ih0 _ _ _ _ _)
      | (with_reducible exact impl_NeedsOk.mono _ _ _)
      | (with_reducible exact impl_spread.mono _ _ _ _)
      | (with_reducible exact LeO.refl _)
      | (with_reducible exact LeO.none _)
      | (with_reducible refine LeO.ite ?_ ?_)
      | (with_reducible refine LeO.bind ?_ (fun _ => ?_))
      | exact ih0 _ _ _ _ _
      | exact impl_NeedsOk.mono _ _ _
      | exact impl_spread.mono _ _ _ _
      | exact LeO.none _
      | refine LeO.ite ?_ ?_
      | refine LeO.bind ?_ (fun _ => ?_)
set_option maxHeartbeats 8000000 in
set_option maxRecDepth 100000 in
theorem impl_LeastSpark.calls (k : Nat) (A0 : Option Addr) (c0 : Nat) (l0 : List Int) (A1 : Option Addr) (c1 : Nat) (l1 : List Int) (r : Int) (w : World) (hr0 : Kd.C (Kd.int .i64) w A0 l0.length l0) (hc0 : l0.length ≤ c0) (hr1 : Kd.C (Kd.int .i64) w A1 l1.length l1) (hc1 : l1.length ≤ c1) (h : impl_LeastSpark.f k l0 l1 = some r) :
    Calls Try.prog 19 #[.slice A0 l0.length c0, .slice A1 l1.length c1] w fun e w' => e = .returned (.int .i64 r) ∧ Drawn0 w w' := by
  have HR0 := Aside0.mk hr0
  have HC0 := Aside0.mk hc0
  clear hr0 hc0
  have HR1 := Aside0.mk hr1
  have HC1 := Aside0.mk hc1
  clear hr1 hc1
  have H : ((impl_NeedsOk.f k l0 l1).bind fun t250 => (if t250 = true then (impl_LeastSpark.l0 k l0 l1 (wrap64 ((shl .i64 1 (l0.length : Int)) - 1)) (shl .i64 1 (l0.length : Int)) 0) else (some (-1)))) = some r := h
  clear h
  replace H := Option.bind_eq_some_iff.mp H
  obtain ⟨t250, A30, H⟩ := H
  replace H : (if t250 = true then (impl_LeastSpark.l0 k l0 l1 (wrap64 ((shl .i64 1 (l0.length : Int)) - 1)) (shl .i64 1 (l0.length : Int)) 0) else (some (-1))) = some r := H
  have A3 := Aside0.mk A30
  clear A30
  by_cases c4 : t250 = true
  · subst c4
    have H1 : (impl_LeastSpark.l0 k l0 l1 (wrap64 ((shl .i64 1 (l0.length : Int)) - 1)) (shl .i64 1 (l0.length : Int)) 0) = some r := by rw [if_pos rfl] at H; exact H
    clear H
    have H := H1
    clear H1
    obtain ⟨ji5, hji5⟩ : ∃ j_ : Int, (shl .i64 1 (l0.length : Int)) = j_ := ⟨_, rfl⟩
    replace H : (impl_LeastSpark.l0 k l0 l1 (wrap64 ((ji5) - 1)) ji5 0) = some r := by first | (rw [hji5] at H; exact H) | (simp only [hji5] at H ⊢; exact H)
    (try rw [hji5] at A3)
    have hji5_ : (IntKind.i64.wrap (1 * 2 ^ min (l0.length : Int).toNat 64)) = ji5 := hji5
    have hji5z : (l0.length : Int) ≤ 64 → (IntKind.i64.wrap (1 * 2 ^ (l0.length : Int).toNat)) = ji5 := shl_small hji5
    have hji5p : (IntKind.i64.wrap (1 * 2 ^ min l0.length 64)) = ji5 := hji5_
    have hji5q : (l0.length : Int) ≤ 64 → (IntKind.i64.wrap (1 * 2 ^ l0.length)) = ji5 := hji5z
    have hji5r : (IntKind.i64.wrap (2 ^ min l0.length 64)) = ji5 := by have h_ := hji5p; rw [Int.one_mul] at h_; exact h_
    have hji5s : (l0.length : Int) ≤ 64 → (IntKind.i64.wrap (2 ^ l0.length)) = ji5 := fun hle_ => by have h_ := hji5q hle_; rw [Int.one_mul] at h_; exact h_
    have hji5u : (IntKind.i64.wrap (2 ^ min (l0.length : Int).toNat 64)) = ji5 := by have h_ := hji5_; rw [Int.one_mul] at h_; exact h_
    have hji5v : (l0.length : Int) ≤ 64 → (IntKind.i64.wrap (2 ^ (l0.length : Int).toNat)) = ji5 := fun hle_ => by have h_ := hji5z hle_; rw [Int.one_mul] at h_; exact h_
    have hji5y : (wrap64 (1 * 2 ^ min (l0.length : Int).toNat 64)) = ji5 := (i64_w _).symm.trans hji5_
    have hji5x : (l0.length : Int) ≤ 64 → (wrap64 (1 * 2 ^ (l0.length : Int).toNat)) = ji5 := fun h_ => (i64_w _).symm.trans (hji5z h_)
    have H' := Aside0.mk H
    clear H
    go_enter Try.func19, Try.ntmps19
    go_wp2_with (first | ((with_reducible refine gate_callee (f := 32) rfl ?_); refine goesL_ (some 11) rfl rfl Try.func32 (by kernel_rfl) rfl #[.slice A0 l0.length c0, .slice A1 l1.length c1] rfl zA ?_; (with_reducible refine (impl_NeedsOk.calls k _ _ l0 _ _ l1 true _ ?side1 ?side2 ?side3 ?side4 A3.out).mono ?_); (case side1 => exact zC HR0.out); (case side2 => exact HC0.out); (case side3 => exact zC HR1.out); (case side4 => exact HC1.out); rintro e w' ⟨rfl, ⟨nd, rfl⟩⟩; refine ⟨_, rfl, ?_⟩))
    go_loopg [5, 20] k (fun kq v5 v20 w' => ∃ (x5_1 : Int) (x20_1 : Int), v5 = .int .i64 x5_1 ∧ v20 = .int .i64 x20_1 ∧ Aside0 (impl_LeastSpark.l0 kq l0 l1 x5_1 ji5 x20_1 = some r) ∧ Aside0 (kq ≤ k) ∧ Drawn0 w w')
    case atStart => exact ⟨(wrap64 ((ji5) - 1)), (0), (by first | rfl | (simp; done) | (simp only [← hji5] <;> (first | rfl | simp)) | (simp [*]; done)), (by first | rfl | (simp; done) | (simp [*]; done)), H', ⟨Nat.le_refl _⟩, by repeat (first | exact Drawn0.refl _ | apply Drawn0.step)⟩
    case round =>
      clear H'
      try clear c1
      try clear p2
      try clear c3
      try clear c4
      try clear c6
      try clear c6b0
      try clear p6
      obtain ⟨x5_1, x20_1, rfl, rfl, HA, HK1, ⟨m1, rfl⟩⟩ := hrel
      cases gk with
      | zero => exact absurd HA.out (by simp [impl_LeastSpark.l0])
      | succ k1 =>
        have H := HA.out
        clear HA
        simp only [impl_LeastSpark.l0] at H
        by_cases c7 : x20_1 < ji5
        · rw [if_pos c7] at H
          have c7b0 : decide (x20_1 < ji5) = true := decide_eq_true c7
          clear c7
          replace H := Option.bind_eq_some_iff.mp H
          obtain ⟨t251, A80, H⟩ := H
          replace H : ((bits_OnesCount.f (IntKind.u64.wrap (x5_1))).bind fun t252 => (if t251 ≥ t252 then (impl_LeastSpark.l0 k1 l0 l1 x5_1 ji5 (wrap64 (x20_1 + 1))) else ((impl_spread.f k1 l0 l1 x20_1).bind fun bt253 => (if bt253.1 = (wrap64 ((shl .i64 1 (l0.length : Int)) - 1)) then (impl_LeastSpark.l0 k1 l0 l1 x20_1 ji5 (wrap64 (x20_1 + 1))) else (impl_LeastSpark.l0 k1 l0 l1 x5_1 ji5 (wrap64 (x20_1 + 1))))))) = some r := H
          have A8 := Aside0.mk A80
          clear A80
          replace H := Option.bind_eq_some_iff.mp H
          obtain ⟨t252, A90, H⟩ := H
          replace H : (if t251 ≥ t252 then (impl_LeastSpark.l0 k1 l0 l1 x5_1 ji5 (wrap64 (x20_1 + 1))) else ((impl_spread.f k1 l0 l1 x20_1).bind fun bt253 => (if bt253.1 = (wrap64 ((shl .i64 1 (l0.length : Int)) - 1)) then (impl_LeastSpark.l0 k1 l0 l1 x20_1 ji5 (wrap64 (x20_1 + 1))) else (impl_LeastSpark.l0 k1 l0 l1 x5_1 ji5 (wrap64 (x20_1 + 1)))))) = some r := H
          have A9 := Aside0.mk A90
          clear A90
          by_cases c10 : t251 ≥ t252
          · rw [if_pos c10] at H
            have c10b0 : decide (t252 ≤ t251) = true := decide_eq_true c10
            clear c10
            have H' := Aside0.mk H
            clear H
            go_wp2_with (first | ((with_reducible refine gate_callee (f := 72) rfl ?_); refine goesL_ (some 25) rfl rfl Try.func72 (by kernel_rfl) rfl #[.int .u64 (IntKind.u64.wrap (x20_1))] rfl zA ?_; (with_reducible refine (bits_OnesCount.calls (IntKind.u64.wrap (x20_1)) t251 _ A8.out).mono ?_); rintro e w' ⟨rfl, ⟨nd, rfl⟩⟩; refine ⟨_, rfl, ?_⟩) | ((with_reducible refine gate_callee (f := 72) rfl ?_); refine goesL_ (some 28) rfl rfl Try.func72 (by kernel_rfl) rfl #[.int .u64 (IntKind.u64.wrap (x5_1))] rfl zA ?_; (with_reducible refine (bits_OnesCount.calls (IntKind.u64.wrap (x5_1)) t252 _ A9.out).mono ?_); rintro e w' ⟨rfl, ⟨nd, rfl⟩⟩; refine ⟨_, rfl, ?_⟩))
            go_roundg k1
            case measure => have := HK1.out; omega
            case rel => exact ⟨(x5_1), (wrap64 (x20_1 + 1)), (by first | rfl | (simp; done) | (simp [*]; done)), (by first | rfl | (simp; done) | (simp [*]; done)), H', ⟨by have := HK1.out; omega⟩, by repeat (first | exact Drawn0.refl _ | apply Drawn0.step)⟩
          · rw [if_neg c10] at H
            have c10b0 : decide (t252 ≤ t251) = false := decide_eq_false c10
            clear c10
            replace H := Option.bind_eq_some_iff.mp H
            obtain ⟨⟨t253, t254⟩, A110, H⟩ := H
            replace H : (if t253 = (wrap64 ((shl .i64 1 (l0.length : Int)) - 1)) then (impl_LeastSpark.l0 k1 l0 l1 x20_1 ji5 (wrap64 (x20_1 + 1))) else (impl_LeastSpark.l0 k1 l0 l1 x5_1 ji5 (wrap64 (x20_1 + 1)))) = some r := H
            have A11 := Aside0.mk A110
            clear A110
            replace H : (if t253 = (wrap64 ((ji5) - 1)) then (impl_LeastSpark.l0 k1 l0 l1 x20_1 ji5 (wrap64 (x20_1 + 1))) else (impl_LeastSpark.l0 k1 l0 l1 x5_1 ji5 (wrap64 (x20_1 + 1)))) = some r := by first | (rw [hji5] at H; exact H) | (simp only [hji5] at H ⊢; exact H)
            (try rw [hji5] at A8)
            (try rw [hji5] at A9)
            (try rw [hji5] at A11)
            by_cases c13 : t253 = (wrap64 ((ji5) - 1))
            · rw [if_pos c13] at H
              have c13b0 : (t253 == (wrap64 ((ji5) - 1))) = true := beq_iff_eq.mpr c13
              have c13b1 : (t253 != (wrap64 ((ji5) - 1))) = false := bne_eq_false_iff_eq.mpr c13
              clear c13
              have H' := Aside0.mk H
              clear H
              go_wp2_with (first | ((with_reducible refine gate_callee (f := 72) rfl ?_); refine goesL_ (some 25) rfl rfl Try.func72 (by kernel_rfl) rfl #[.int .u64 (IntKind.u64.wrap (x20_1))] rfl zA ?_; (with_reducible refine (bits_OnesCount.calls (IntKind.u64.wrap (x20_1)) t251 _ A8.out).mono ?_); rintro e w' ⟨rfl, ⟨nd, rfl⟩⟩; refine ⟨_, rfl, ?_⟩) | ((with_reducible refine gate_callee (f := 72) rfl ?_); refine goesL_ (some 28) rfl rfl Try.func72 (by kernel_rfl) rfl #[.int .u64 (IntKind.u64.wrap (x5_1))] rfl zA ?_; (with_reducible refine (bits_OnesCount.calls (IntKind.u64.wrap (x5_1)) t252 _ A9.out).mono ?_); rintro e w' ⟨rfl, ⟨nd, rfl⟩⟩; refine ⟨_, rfl, ?_⟩) | ((with_reducible refine gate_callee (f := 67) rfl ?_); refine goesL_ (some 34) rfl rfl Try.func67 (by kernel_rfl) rfl #[.slice A0 l0.length c0, .slice A1 l1.length c1, .int .i64 x20_1] rfl zA ?_; (with_reducible refine (impl_spread.calls k1 _ _ l0 _ _ l1 x20_1 t253 t254 _ ?side1 ?side2 ?side3 ?side4 A11.out).mono ?_); (case side1 => exact zC HR0.out); (case side2 => exact HC0.out); (case side3 => exact zC HR1.out); (case side4 => exact HC1.out); rintro e w' ⟨rfl, ⟨nd, rfl⟩⟩; refine ⟨_, rfl, ?_⟩))
              go_roundg k1
              case measure => have := HK1.out; omega
              case rel => exact ⟨(x20_1), (wrap64 (x20_1 + 1)), (by first | rfl | (simp; done) | (simp [*]; done)), (by first | rfl | (simp; done) | (simp [*]; done)), H', ⟨by have := HK1.out; omega⟩, by repeat (first | exact Drawn0.refl _ | apply Drawn0.step)⟩
            · rw [if_neg c13] at H
              have c13b0 : (t253 == (wrap64 ((ji5) - 1))) = false := beq_eq_false_iff_ne.mpr c13
              have c13b1 : (t253 != (wrap64 ((ji5) - 1))) = true := bne_iff_ne.mpr c13
              have H' := Aside0.mk H
              clear H
              go_wp2_with (first | ((with_reducible refine gate_callee (f := 72) rfl ?_); refine goesL_ (some 25) rfl rfl Try.func72 (by kernel_rfl) rfl #[.int .u64 (IntKind.u64.wrap (x20_1))] rfl zA ?_; (with_reducible refine (bits_OnesCount.calls (IntKind.u64.wrap (x20_1)) t251 _ A8.out).mono ?_); rintro e w' ⟨rfl, ⟨nd, rfl⟩⟩; refine ⟨_, rfl, ?_⟩) | ((with_reducible refine gate_callee (f := 72) rfl ?_); refine goesL_ (some 28) rfl rfl Try.func72 (by kernel_rfl) rfl #[.int .u64 (IntKind.u64.wrap (x5_1))] rfl zA ?_; (with_reducible refine (bits_OnesCount.calls (IntKind.u64.wrap (x5_1)) t252 _ A9.out).mono ?_); rintro e w' ⟨rfl, ⟨nd, rfl⟩⟩; refine ⟨_, rfl, ?_⟩) | ((with_reducible refine gate_callee (f := 67) rfl ?_); refine goesL_ (some 34) rfl rfl Try.func67 (by kernel_rfl) rfl #[.slice A0 l0.length c0, .slice A1 l1.length c1, .int .i64 x20_1] rfl zA ?_; (with_reducible refine (impl_spread.calls k1 _ _ l0 _ _ l1 x20_1 t253 t254 _ ?side1 ?side2 ?side3 ?side4 A11.out).mono ?_); (case side1 => exact zC HR0.out); (case side2 => exact HC0.out); (case side3 => exact zC HR1.out); (case side4 => exact HC1.out); rintro e w' ⟨rfl, ⟨nd, rfl⟩⟩; refine ⟨_, rfl, ?_⟩))
              go_roundg k1
              case measure => have := HK1.out; omega
              case rel => exact ⟨(x5_1), (wrap64 (x20_1 + 1)), (by first | rfl | (simp; done) | (simp [*]; done)), (by first | rfl | (simp; done) | (simp [*]; done)), H', ⟨by have := HK1.out; omega⟩, by repeat (first | exact Drawn0.refl _ | apply Drawn0.step)⟩
        · rw [if_neg c7] at H
          have c7b0 : decide (x20_1 < ji5) = false := decide_eq_false c7
          clear c7
          obtain rfl := Option.some.inj H
          go_wp2
          go_ret
          exact ⟨by first | rfl | (simp; done) | (simp only [← hji5] <;> (first | rfl | simp)) | (simp [*]; done), by repeat (first | exact Drawn0.refl _ | apply Drawn0.step)⟩
  · replace c4 := Bool.eq_false_iff.mpr c4
    subst c4
    have H1 : (some (-1)) = some r := by rw [if_neg (show ¬ (false = true) by decide)] at H; exact H
    clear H
    have H := H1
    clear H1
    obtain rfl := Option.some.inj H
    go_enter Try.func19, Try.ntmps19
    go_wp2_with (first | ((with_reducible refine gate_callee (f := 32) rfl ?_); refine goesL_ (some 11) rfl rfl Try.func32 (by kernel_rfl) rfl #[.slice A0 l0.length c0, .slice A1 l1.length c1] rfl zA ?_; (with_reducible refine (impl_NeedsOk.calls k _ _ l0 _ _ l1 false _ ?side1 ?side2 ?side3 ?side4 A3.out).mono ?_); (case side1 => exact zC HR0.out); (case side2 => exact HC0.out); (case side3 => exact zC HR1.out); (case side4 => exact HC1.out); rintro e w' ⟨rfl, ⟨nd, rfl⟩⟩; refine ⟨_, rfl, ?_⟩))
    go_ret
    exact ⟨by first | rfl | (simp; done) | (simp [*]; done), by repeat (first | exact Drawn0.refl _ | apply Drawn0.step)⟩

end Go.Proofs.Ytfhkahlfpchhpaa.PAll
