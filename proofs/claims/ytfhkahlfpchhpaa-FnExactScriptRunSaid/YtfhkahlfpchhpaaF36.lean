/- Own text of this session, written by a program of this session (wip/t/own.py) out of what the kit tells of the functions: each Go function as a Lean function, and the walk through its code. -/
import Derived.Test.YtfhkahlfpchhpaaT
import Derived.Test.YtfhkahlfpchhpaaF1
import Derived.Test.YtfhkahlfpchhpaaF17
import Derived.Test.YtfhkahlfpchhpaaF19
import Derived.Test.YtfhkahlfpchhpaaF28
import Derived.Test.YtfhkahlfpchhpaaF30
import Derived.Test.YtfhkahlfpchhpaaF31
import Derived.Test.YtfhkahlfpchhpaaF34
import Derived.Test.YtfhkahlfpchhpaaF35
namespace Go.Proofs.Ytfhkahlfpchhpaa.PAll
open Go.RowKit Go.Proofs.YtfhkahlfpchhpaaW.PrintWords Go.Proofs.YtfhkahlfpchhpaaW.PrintLast Go.Proofs.YtfhkahlfpchhpaaW.PrintMore
attribute [local go_sem] max2_int min2_int max_two min_two max_three min_three max_four min_four   -- for this text's walks alone
set_option linter.unusedVariables false
set_option linter.unusedSimpArgs false

/-! ### spec_ScriptRun: function 45 -/
mutual
def spec_ScriptRun.j0 : Nat → List Int → Int → List Int → List (S64) → Int → Bool → Option (List Int)
  | 0, _, _, _, _, _, _ => none
  | k + 1, x0, x1, x2, x3, x4, x29 => if x29 = true then (some (([] : List Int))) else ((some (([] : List Int) : List Int)).bind fun y841 => (if y841.length + x2.length < 17592186044416 then (spec_ScriptRun.l0 k x0 x1 x3 x4 (y841 ++ x2) 0) else (none)))
def spec_ScriptRun.l0 : Nat → List Int → Int → List (S64) → Int → List Int → Int → Option (List Int)
  | 0, _, _, _, _, _, _ => none
  | k + 1, x0, x1, x3, x4, x11, x12 => if x12 < x4 then ((spec_l10Lit.f k x11 x3 x12).bind fun t847 => ((spec_l3Step.f k x0 x1 t847).bind fun t850 => (spec_ScriptRun.l0 k x0 x1 x3 x4 t850 (wrap64 (x12 + 1))))) else (some x11)
end
def spec_ScriptRun.f (k : Nat) (l0 : List Int) (a1 : Int) (l2 : List Int) (l3 : List (S64)) (a4 : Int) : Option (List Int) := (spec_l3Ok.f k l0 a1 l2).bind fun t835 => (if t835 = true then ((spec_ScriptOk.f k (l0.length : Int) l3).bind fun t836 => (if t836 = true then ((spec_l1In.f a4 0 60).bind fun t837 => (spec_ScriptRun.j0 k l0 a1 l2 l3 a4 (!t837))) else (spec_ScriptRun.j0 k l0 a1 l2 l3 a4 true))) else (spec_ScriptRun.j0 k l0 a1 l2 l3 a4 true))
theorem spec_ScriptRun.mono_l : ∀ k, (∀ y0 y1 y2 y3 y4 y5, LeO (spec_ScriptRun.j0 k y0 y1 y2 y3 y4 y5) (spec_ScriptRun.j0 (k + 1) y0 y1 y2 y3 y4 y5)) ∧ (∀ y0 y1 y2 y3 y4 y5, LeO (spec_ScriptRun.l0 k y0 y1 y2 y3 y4 y5) (spec_ScriptRun.l0 (k + 1) y0 y1 y2 y3 y4 y5))
  | 0 => ⟨fun _ _ _ _ _ _ r h => by simp [spec_ScriptRun.j0] at h, fun _ _ _ _ _ _ r h => by simp [spec_ScriptRun.l0] at h⟩
  | k + 1 => by
    obtain ⟨ih0, ih1⟩ := spec_ScriptRun.mono_l k
    refine ⟨?_, ?_⟩
    · intro y0 y1 y2 y3 y4 y5
      unfold spec_ScriptRun.j0
      repeat' first
      | (with_reducible exact ih0 _ _ _ _ _ _)
      | (with_reducible exact ih1 _ _ _ _ _ _)
      | (with_reducible exact spec_ScriptOk.mono _ _ _)
      | (with_reducible exact spec_l10Lit.mono _ _ _ _)
      | (with_reducible exact spec_l3Ok.mono _ _ _ _)
      | (with_reducible exact spec_l3Step.mono _ _ _ _)
      | (with_reducible exact LeO.refl _)
      | (with_reducible exact LeO.none _)
      | (with_reducible refine LeO.ite ?_ ?_)
      | (with_reducible refine LeO.bind ?_ (fun _ => ?_))
      | exact ih0 _ _ _ _ _ _
      | exact ih1 _ _ _ _ _ _
      | exact spec_ScriptOk.mono _ _ _
      | exact spec_l10Lit.mono _ _ _ _
      | exact spec_l3Ok.mono _ _ _ _
      | exact spec_l3Step.mono _ _ _ _
      | exact LeO.none _
      | refine LeO.ite ?_ ?_
      | refine LeO.bind ?_ (fun _ => ?_)
    · intro y0 y1 y2 y3 y4 y5
      unfold spec_ScriptRun.l0
      repeat' first
      | (with_reducible exact ih0 _ _ _ _ _ _)
      | (with_reducible exact ih1 _ _ _ _ _ _)
      | (with_reducible exact spec_ScriptOk.mono _ _ _)
      | (with_reducible exact spec_l10Lit.mono _ _ _ _)
      | (with_reducible exact spec_l3Ok.mono _ _ _ _)
      | (with_reducible exact spec_l3Step.mono _ _ _ _)
      | (with_reducible exact LeO.refl _)
      | (with_reducible exact LeO.none _)
      | (with_reducible refine LeO.ite ?_ ?_)
      | (with_reducible refine LeO.bind ?_ (fun _ => ?_))
      | exact ih0 _ _ _ _ _ _
      | exact ih1 _ _ _ _ _ _
      | exact spec_ScriptOk.mono _ _ _
      | exact spec_l10Lit.mono _ _ _ _
      | exact spec_l3Ok.mono _ _ _ _
      | exact spec_l3Step.mono _ _ _ _
      | exact LeO.none _
      | refine LeO.ite ?_ ?_
      | refine LeO.bind ?_ (fun _ => ?_)
theorem spec_ScriptRun.mono : ∀ a0 a1 a2 a3 a4 k, LeO (spec_ScriptRun.f k a0 a1 a2 a3 a4) (spec_ScriptRun.f (k + 1) a0 a1 a2 a3 a4) := by
  intro a0 a1 a2 a3 a4 k
  obtain ⟨ih0, ih1⟩ := spec_ScriptRun.mono_l k
  unfold spec_ScriptRun.f
  repeat' first
      | (with_reducible exact ih0 _ _ _ _ _ _)
      | (with_reducible exact ih1 _ _ _ _ _ _)
      | (with_reducible exact spec_ScriptOk.mono _ _ _)
      | (with_reducible exact spec_l10Lit.mono _ _ _ _)
      | (with_reducible exact spec_l3Ok.mono _ _ _ _)
      | (with_reducible exact spec_l3Step.mono _ _ _ _)
      | (with_reducible exact LeO.refl _)
      | (with_reducible exact LeO.none _)
      | (with_reducible refine LeO.ite ?_ ?_)
      | (with_reducible refine LeO.bind ?_ (fun _ => ?_))
      | exact ih0 _ _ _ _ _ _
      | exact ih1 _ _ _ _ _ _
      | exact spec_ScriptOk.mono _ _ _
      | exact spec_l10Lit.mono _ _ _ _
      | exact spec_l3Ok.mono _ _ _ _
      | exact spec_l3Step.mono _ _ _ _
      | exact LeO.none _
      | refine LeO.ite ?_ ?_
      | refine LeO.bind ?_ (fun _ => ?_)
set_option maxHeartbeats 8000000 in
set_option maxRecDepth 100000 in
theorem spec_ScriptRun.calls (k : Nat) (A0 : Option Addr) (c0 : Nat) (l0 : List Int) (a1 : Int) (A2 : Option Addr) (c2 : Nat) (l2 : List Int) (A3 : Option Addr) (c3 : Nat) (l3 : List (S64)) (a4 : Int) (r : List Int) (w : World) (hr0 : Kd.C (Kd.int .i64) w A0 l0.length l0) (hc0 : l0.length ≤ c0) (hr2 : Kd.C (Kd.int .i64) w A2 l2.length l2) (hc2 : l2.length ≤ c2) (hr3 : Kd.C k64 w A3 l3.length l3) (hc3 : l3.length ≤ c3) (h : spec_ScriptRun.f k l0 a1 l2 l3 a4 = some r) :
    Calls Try.prog 45 #[.slice A0 l0.length c0, .int .i64 a1, .slice A2 l2.length c2, .slice A3 l3.length c3, .int .i64 a4] w fun e w' => ∃ v0_ : Value, e = .returned (v0_) ∧ Kd.R (Kd.int .i64) 3 w' w.heap.size (fun _ => True) v0_ r ∧ Below w.heap.size w w' := by
  have HR0 := Aside0.mk hr0
  have HC0 := Aside0.mk hc0
  clear hr0 hc0
  have HR2 := Aside0.mk hr2
  have HC2 := Aside0.mk hc2
  clear hr2 hc2
  have HR3 := Aside0.mk hr3
  have HC3 := Aside0.mk hc3
  clear hr3 hc3
  have HB := Aside0.mk (Below.refl w.heap.size w)
  have H : ((spec_l3Ok.f k l0 a1 l2).bind fun t835 => (if t835 = true then ((spec_ScriptOk.f k (l0.length : Int) l3).bind fun t836 => (if t836 = true then ((spec_l1In.f a4 0 60).bind fun t837 => (spec_ScriptRun.j0 k l0 a1 l2 l3 a4 (!t837))) else (spec_ScriptRun.j0 k l0 a1 l2 l3 a4 true))) else (spec_ScriptRun.j0 k l0 a1 l2 l3 a4 true))) = some r := h
  clear h
  have HC6 := Aside0.mk H
  clear H
  go_enter Try.func45, Try.ntmps45
  go_upto_region 1 with (fail)
  go_cut [29] (fun v29 wc => ∃ (kq : Nat) (x29_5 : Bool), v29 = .bool x29_5 ∧ Aside0 (spec_ScriptRun.j0 kq l0 a1 l2 l3 a4 x29_5 = some r) ∧ Aside0 (kq ≤ k) ∧ Aside0 (Below w.heap.size w wc))
  case first =>
    have H := HC6.out
    clear HC6
    replace H := Option.bind_eq_some_iff.mp H
    obtain ⟨t835, A70, H⟩ := H
    replace H : (if t835 = true then ((spec_ScriptOk.f k (l0.length : Int) l3).bind fun t836 => (if t836 = true then ((spec_l1In.f a4 0 60).bind fun t837 => (spec_ScriptRun.j0 k l0 a1 l2 l3 a4 (!t837))) else (spec_ScriptRun.j0 k l0 a1 l2 l3 a4 true))) else (spec_ScriptRun.j0 k l0 a1 l2 l3 a4 true)) = some r := H
    have A7 := Aside0.mk A70
    clear A70
    by_cases c8 : t835 = true
    · subst c8
      have H1 : ((spec_ScriptOk.f k (l0.length : Int) l3).bind fun t836 => (if t836 = true then ((spec_l1In.f a4 0 60).bind fun t837 => (spec_ScriptRun.j0 k l0 a1 l2 l3 a4 (!t837))) else (spec_ScriptRun.j0 k l0 a1 l2 l3 a4 true))) = some r := by rw [if_pos rfl] at H; exact H
      clear H
      have H := H1
      clear H1
      replace H := Option.bind_eq_some_iff.mp H
      obtain ⟨t836, A90, H⟩ := H
      replace H : (if t836 = true then ((spec_l1In.f a4 0 60).bind fun t837 => (spec_ScriptRun.j0 k l0 a1 l2 l3 a4 (!t837))) else (spec_ScriptRun.j0 k l0 a1 l2 l3 a4 true)) = some r := H
      have A9 := Aside0.mk A90
      clear A90
      by_cases c10 : t836 = true
      · subst c10
        have H1 : ((spec_l1In.f a4 0 60).bind fun t837 => (spec_ScriptRun.j0 k l0 a1 l2 l3 a4 (!t837))) = some r := by rw [if_pos rfl] at H; exact H
        clear H
        have H := H1
        clear H1
        replace H := Option.bind_eq_some_iff.mp H
        obtain ⟨t837, A110, H⟩ := H
        replace H : (spec_ScriptRun.j0 k l0 a1 l2 l3 a4 (!t837)) = some r := H
        have A11 := Aside0.mk A110
        clear A110
        have H' := Aside0.mk H
        clear H
        go_wp2_with (first | ((with_reducible refine gate_callee (f := 76) rfl ?_); refine goesL_ (some 16) rfl rfl Try.func76 (by kernel_rfl) rfl #[.slice A0 l0.length c0, .int .i64 a1, .slice A2 l2.length c2] rfl zA ?_; (with_reducible refine (spec_l3Ok.calls k _ _ l0 a1 _ _ l2 true _ ?side1 ?side2 ?side3 ?side4 A7.out).mono ?_); (case side1 => exact zC (Kd.C_below HR0.out HB.out)); (case side2 => exact HC0.out); (case side3 => exact zC (Kd.C_below HR2.out HB.out)); (case side4 => exact HC2.out); rintro e w' ⟨rfl, ⟨nd, rfl⟩⟩; refine ⟨_, rfl, ?_⟩) | (go_at_call 54; (with_reducible refine (spec_ScriptOk.calls k (l0.length : Int) _ _ l3 true _ ?side1 ?side2 A9.out).mono ?_); (case side1 => exact zC (Kd.C_below HR3.out (zB HB.out))); (case side2 => exact HC3.out); rintro e w' ⟨rfl, ⟨nd, rfl⟩⟩) | (go_at_call 69; (with_reducible refine (spec_l1In.calls a4 0 60 t837 _ A11.out).mono ?_); rintro e w' ⟨rfl, ⟨nd, rfl⟩⟩))
        go_meet
        case rel => exact ⟨_, (!t837), (by first | rfl | (simp; done) | (simp [*]; done)), H', ⟨by first | omega | exact Nat.le_refl _⟩, ⟨zB HB.out⟩⟩
      · replace c10 := Bool.eq_false_iff.mpr c10
        subst c10
        have H1 : (spec_ScriptRun.j0 k l0 a1 l2 l3 a4 true) = some r := by rw [if_neg (show ¬ (false = true) by decide)] at H; exact H
        clear H
        have H := H1
        clear H1
        have H' := Aside0.mk H
        clear H
        go_wp2_with (first | ((with_reducible refine gate_callee (f := 76) rfl ?_); refine goesL_ (some 16) rfl rfl Try.func76 (by kernel_rfl) rfl #[.slice A0 l0.length c0, .int .i64 a1, .slice A2 l2.length c2] rfl zA ?_; (with_reducible refine (spec_l3Ok.calls k _ _ l0 a1 _ _ l2 true _ ?side1 ?side2 ?side3 ?side4 A7.out).mono ?_); (case side1 => exact zC (Kd.C_below HR0.out HB.out)); (case side2 => exact HC0.out); (case side3 => exact zC (Kd.C_below HR2.out HB.out)); (case side4 => exact HC2.out); rintro e w' ⟨rfl, ⟨nd, rfl⟩⟩; refine ⟨_, rfl, ?_⟩) | (go_at_call 54; (with_reducible refine (spec_ScriptOk.calls k (l0.length : Int) _ _ l3 false _ ?side1 ?side2 A9.out).mono ?_); (case side1 => exact zC (Kd.C_below HR3.out (zB HB.out))); (case side2 => exact HC3.out); rintro e w' ⟨rfl, ⟨nd, rfl⟩⟩))
        go_meet
        case rel => exact ⟨_, (true), (by first | rfl | (simp; done) | (simp [*]; done)), H', ⟨by first | omega | exact Nat.le_refl _⟩, ⟨zB HB.out⟩⟩
    · replace c8 := Bool.eq_false_iff.mpr c8
      subst c8
      have H1 : (spec_ScriptRun.j0 k l0 a1 l2 l3 a4 true) = some r := by rw [if_neg (show ¬ (false = true) by decide)] at H; exact H
      clear H
      have H := H1
      clear H1
      have H' := Aside0.mk H
      clear H
      go_wp2_with (first | ((with_reducible refine gate_callee (f := 76) rfl ?_); refine goesL_ (some 16) rfl rfl Try.func76 (by kernel_rfl) rfl #[.slice A0 l0.length c0, .int .i64 a1, .slice A2 l2.length c2] rfl zA ?_; (with_reducible refine (spec_l3Ok.calls k _ _ l0 a1 _ _ l2 false _ ?side1 ?side2 ?side3 ?side4 A7.out).mono ?_); (case side1 => exact zC (Kd.C_below HR0.out HB.out)); (case side2 => exact HC0.out); (case side3 => exact zC (Kd.C_below HR2.out HB.out)); (case side4 => exact HC2.out); rintro e w' ⟨rfl, ⟨nd, rfl⟩⟩; refine ⟨_, rfl, ?_⟩))
      go_meet
      case rel => exact ⟨_, (true), (by first | rfl | (simp; done) | (simp [*]; done)), H', ⟨by first | omega | exact Nat.le_refl _⟩, ⟨zB HB.out⟩⟩
  case rest =>
    clear HC6
    try clear c1
    try clear c2
    try clear p2
    try clear c3
    try clear c4
    try clear c7
    try clear c8
    try clear c10
    obtain ⟨kq, x29_5, rfl, HA, HJ5, HB⟩ := hcut
    cases kq with
    | zero => exact absurd HA.out (by simp [spec_ScriptRun.j0])
    | succ kj5 =>
      have H := HA.out
      clear HA
      simp only [spec_ScriptRun.j0] at H
      by_cases c12 : x29_5 = true
      · subst c12
        have H1 : (some (([] : List Int))) = some r := by rw [if_pos rfl] at H; exact H
        clear H
        have H := H1
        clear H1
        obtain ⟨y838, hy838⟩ : ∃ y_ : List Int, y_ = (([] : List Int)) := ⟨_, rfl⟩
        replace H : (some y838) = some r := by first | (rw [hy838]; with_reducible exact H) | (have H2_ := (Option.bind_some _ _).symm.trans H; rw [hy838]; with_reducible exact H2_) | (have H2_ := (Option.bind_some _ _).symm.trans H; with_reducible exact H2_) | with_reducible exact H | (rw [hy838]; exact H) | exact H
        have Ny838 := Aside0.mk hy838
        clear hy838
        obtain rfl := Option.some.inj H
        go_wp2_with (first | ((with_reducible refine gate_dst (N := 30) rfl ?_); (try (refine gate_guard (by rfl) ?_; dsimp only)); refine Kd.R_lit (Kd.int .i64) _ 3 ?hg (N := 30) ?hd (xs := ([] : List Int)) (inner := []) (ok := fun _ => True) (okp := fun _ => True) ?hr ?hp (fun _ hk => hk) trivial (Below.refl _ _) (Nat.le_refl _) (by simp) ?_; (case hd => rfl); (case hg => rfl); (case hr => first | (go_simp; done) | (go_simp; rfl)); (case hp => exact (Reps.none _ _)); intro v839 w13 ho14 hb hg_ hnew_; clear hg_ hnew_; (first | rw [← Ny838.out] at ho14 | (simp only [Int.reduceToNat] at ho14; rw [← Ny838.out] at ho14)); have n0_ := Aside0.mk (Kd.R_lower ho14 (below_size (zB HB.out))); have n1_ := Aside0.mk (below_step (zB HB.out) hb); clear HB; have HO840 := n0_; have HB := n1_; clear n0_ n1_; clear hb ho14))
        go_ret
        exact ⟨_, by first | rfl | (simp [errW_none, errW_some] <;> rfl) | (simp [*, errW_none, errW_some] <;> rfl), by (with_reducible repeat (first | apply Kd.R_alloc | apply Kd.R_drewN | apply Kd.R_drew)); exact HO840.out, zB HB.out⟩
      · replace c12 := Bool.eq_false_iff.mpr c12
        subst c12
        have H1 : ((some (([] : List Int) : List Int)).bind fun y841 => (if y841.length + l2.length < 17592186044416 then (spec_ScriptRun.l0 kj5 l0 a1 l3 a4 (y841 ++ l2) 0) else (none))) = some r := by rw [if_neg (show ¬ (false = true) by decide)] at H; exact H
        clear H
        have H := H1
        clear H1
        obtain ⟨y841, hy841⟩ : ∃ y_ : List Int, y_ = (([] : List Int)) := ⟨_, rfl⟩
        replace H : (if y841.length + l2.length < 17592186044416 then (spec_ScriptRun.l0 kj5 l0 a1 l3 a4 (y841 ++ l2) 0) else (none)) = some r := by first | (rw [hy841]; with_reducible exact H) | (have H2_ := (Option.bind_some _ _).symm.trans H; rw [hy841]; with_reducible exact H2_) | (have H2_ := (Option.bind_some _ _).symm.trans H; with_reducible exact H2_) | with_reducible exact H | (rw [hy841]; exact H) | exact H
        have Ny841 := Aside0.mk hy841
        clear hy841
        by_cases c15 : y841.length + l2.length < 17592186044416
        · rw [if_pos c15] at H
          have LMc15 := Aside0.mk c15
          clear c15
          obtain ⟨y844, hy844⟩ : ∃ y_ : List Int, y_ = (y841 ++ l2) := ⟨_, rfl⟩
          replace H : (spec_ScriptRun.l0 kj5 l0 a1 l3 a4 y844 0) = some r := by first | (rw [hy844]; with_reducible exact H) | (have H2_ := (Option.bind_some _ _).symm.trans H; rw [hy844]; with_reducible exact H2_) | (have H2_ := (Option.bind_some _ _).symm.trans H; with_reducible exact H2_) | with_reducible exact H | (rw [hy844]; exact H) | exact H
          have Ny844 := Aside0.mk hy844
          clear hy844
          have H' := Aside0.mk H
          clear H
          go_wp2_with (first | ((with_reducible refine gate_dst (N := 31) rfl ?_); (try (refine gate_guard (by rfl) ?_; dsimp only)); refine Kd.R_lit (Kd.int .i64) _ 3 ?hg (N := 31) ?hd (xs := ([] : List Int)) (inner := []) (ok := fun _ => True) (okp := fun _ => True) ?hr ?hp (fun _ hk => hk) trivial (Below.refl _ _) (Nat.le_refl _) (by simp) ?_; (case hd => rfl); (case hg => rfl); (case hr => first | (go_simp; done) | (go_simp; rfl)); (case hp => exact (Reps.none _ _)); intro v842 w16 ho17 hb hg_ hnew_; clear hg_ hnew_; (first | rw [← Ny841.out] at ho17 | (simp only [Int.reduceToNat] at ho17; rw [← Ny841.out] at ho17)); have n0_ := Aside0.mk (Kd.R_lower ho17 (below_size (zB HB.out))); have n1_ := Aside0.mk (below_step (zB HB.out) hb); clear HB; have HO843 := n0_; have HB := n1_; clear n0_ n1_; clear hb ho17) | ((with_reducible refine gate_builtin (b := .append) (xs := #[.tmp 31, .tmp 32]) rfl ?_); (try (refine gate_guard (by rfl) ?_; dsimp only)); at_builtin; refine Kd.R_append_rows (Kd.int .i64) (w0 := w) w.heap.size rfl (.tmp 31) (.tmp 32) 23 3 (.int .i64 0) 8 rfl Try.underlying23 info3 rfl (by decide) (by omega) v842 y841 l2 _ _ _ (fun _ => True) (fun _ => False) rfl rfl ?aO ?aR (fun _ _ h => h) (fun _ h => h.elim) ?aF ?aB ?aS ?aL ?_; (case aR => exact zC (Kd.C_below HR2.out HB.out)); (case aB => exact (zB HB.out)); (case aF => exact (fun _ _ => trivial)); (case aO => exact (zR HO843.out)); (case aS => exact (below_size (zB HB.out))); (case aL => have := LMc15.out; omega); intro v845 w18 ho hb hg hat; rw [← Ny844.out] at ho; have n0_ := Aside0.mk (hb); have n1_ := Aside0.mk (ho); clear HB; clear HO843; have HB := n0_; have HO846 := n1_; clear n0_ n1_; clear ho hb hg hat))
          go_loopg [11, 12] kj5 (fun kq v11 v12 w' => ∃ (x11_2 : List Int) (x12_2 : Int), v12 = .int .i64 x12_2 ∧ Aside0 (spec_ScriptRun.l0 kq l0 a1 l3 a4 x11_2 x12_2 = some r) ∧ Aside0 (kq ≤ kj5) ∧ Aside0 (Kd.R (Kd.int .i64) 3 w' w.heap.size (fun _ => True) v11 x11_2) ∧ Aside0 (Below w.heap.size w w'))
          case atStart => exact ⟨(y844), (0), (by first | rfl | (simp; done) | (simp [*]; done)), H', ⟨Nat.le_refl _⟩, ⟨by (with_reducible repeat (first | apply Kd.R_alloc | apply Kd.R_drewN | apply Kd.R_drew)); exact HO846.out⟩, ⟨zB HB.out⟩⟩
          case round =>
            clear H'
            try clear c1
            try clear c2
            try clear p2
            try clear c3
            try clear c4
            try clear c7
            try clear c8
            try clear c10
            try clear c12
            try clear c15
            try clear p2
            obtain ⟨x11_2, x12_2, rfl, HA, HK2, HO_11, HB⟩ := hrel
            cases gk with
            | zero => exact absurd HA.out (by simp [spec_ScriptRun.l0])
            | succ k2 =>
              have H := HA.out
              clear HA
              simp only [spec_ScriptRun.l0] at H
              by_cases c19 : x12_2 < a4
              · rw [if_pos c19] at H
                have c19b0 : decide (x12_2 < a4) = true := decide_eq_true c19
                clear c19
                replace H := Option.bind_eq_some_iff.mp H
                obtain ⟨t847, A200, H⟩ := H
                replace H : ((spec_l3Step.f k2 l0 a1 t847).bind fun t850 => (spec_ScriptRun.l0 k2 l0 a1 l3 a4 t850 (wrap64 (x12_2 + 1)))) = some r := H
                have A20 := Aside0.mk A200
                clear A200
                replace H := Option.bind_eq_some_iff.mp H
                obtain ⟨t850, A210, H⟩ := H
                replace H : (spec_ScriptRun.l0 k2 l0 a1 l3 a4 t850 (wrap64 (x12_2 + 1))) = some r := H
                have A21 := Aside0.mk A210
                clear A210
                have H' := Aside0.mk H
                clear H
                obtain ⟨Ao22, co22, eo22⟩ := Kd.R_slice HO_11.out
                subst eo22
                go_wp2_with (first | ((with_reducible refine gate_callee (f := 85) rfl ?_); refine goesL_ (some 44) rfl rfl Try.func85 (by kernel_rfl) rfl #[.slice Ao22 x11_2.length co22, .slice A3 l3.length c3, .int .i64 x12_2] rfl zA ?_; (with_reducible refine (spec_l10Lit.calls k2 _ _ x11_2 _ _ l3 x12_2 t847 _ ?side1 ?side2 ?side3 ?side4 A20.out).mono ?_); (case side1 => exact zC (Kd.R_reads' HO_11.out).2.2); (case side2 => exact (Kd.R_reads' HO_11.out).2.1); (case side3 => exact zC (Kd.C_below HR3.out HB.out)); (case side4 => exact HC3.out); rintro e w23 ⟨v848, rfl, ho0, hb⟩; refine ⟨_, rfl, ?_⟩; have n0_ := Aside0.mk (Kd.R_elder' (zR HO_11.out) (Kd.R_base ho0) hb); have n1_ := Aside0.mk (Kd.R_lower (Kd.R_new' ho0 (Kd.R_lt (zR HO_11.out))) (below_size (zB HB.out))); have n2_ := Aside0.mk (below_step (zB HB.out) hb); clear HO_11; clear HB; have HO_11 := n0_; have HO849 := n1_; have HB := n2_; clear n0_ n1_ n2_; (try clear hb); (try clear hb2); (try clear hk); (try clear hi); (try clear ho0); obtain ⟨Ao24, co24, eo24⟩ := Kd.R_slice HO849.out; subst eo24) | ((with_reducible refine gate_callee (f := 84) rfl ?_); refine goesL_ (some 45) rfl rfl Try.func84 (by kernel_rfl) rfl #[.slice A0 l0.length c0, .int .i64 a1, .slice Ao24 t847.length co24] rfl zA ?_; (with_reducible refine (spec_l3Step.calls k2 _ _ l0 a1 _ _ t847 t850 _ ?side1 ?side2 ?side3 ?side4 A21.out).mono ?_); (case side1 => exact zC (Kd.C_below HR0.out HB.out)); (case side2 => exact HC0.out); (case side3 => exact zC (Kd.R_reads' HO849.out).2.2); (case side4 => exact (Kd.R_reads' HO849.out).2.1); rintro e w25 ⟨v851, rfl, ho0, hb⟩; refine ⟨_, rfl, ?_⟩; have n0_ := Aside0.mk (Kd.R_elder' (zR HO_11.out) (Kd.R_base ho0) hb); have n1_ := Aside0.mk (Kd.R_elder' (zR HO849.out) (Kd.R_base ho0) hb); have n2_ := Aside0.mk (Kd.R_lower (Kd.R_new' (Kd.R_new' ho0 (Kd.R_lt (zR HO_11.out))) (Kd.R_lt (zR HO849.out))) (below_size (zB HB.out))); have n3_ := Aside0.mk (below_step (zB HB.out) hb); clear HO_11; clear HO849; clear HB; have HO_11 := n0_; have HO849 := n1_; have HO852 := n2_; have HB := n3_; clear n0_ n1_ n2_ n3_; (try clear hb); (try clear hb2); (try clear hk); (try clear hi); (try clear ho0)))
                go_roundg k2
                case measure => have := HJ5.out; have := HK2.out; omega
                case rel => exact ⟨(t850), (wrap64 (x12_2 + 1)), (by first | rfl | (simp; done) | (simp [*]; done)), H', ⟨by have := HJ5.out; have := HK2.out; omega⟩, ⟨by (with_reducible repeat (first | apply Kd.R_alloc | apply Kd.R_drewN | apply Kd.R_drew)); exact Kd.R_mono HO852.out (fun _ hk => trivial)⟩, ⟨zB HB.out⟩⟩
              · rw [if_neg c19] at H
                have c19b0 : decide (x12_2 < a4) = false := decide_eq_false c19
                clear c19
                obtain rfl := Option.some.inj H
                go_wp2
                go_ret
                exact ⟨_, by first | rfl | (simp [errW_none, errW_some] <;> rfl) | (simp [*, errW_none, errW_some] <;> rfl), by (with_reducible repeat (first | apply Kd.R_alloc | apply Kd.R_drewN | apply Kd.R_drew)); exact HO_11.out, zB HB.out⟩
        · rw [if_neg c15] at H
          exact absurd H (by simp)

/-! ### impl_ScriptRun: function 47 -/
def impl_ScriptRun.f (k : Nat) (l0 : List Int) (a1 : Int) (l2 : List Int) (l3 : List (S64)) (a4 : Int) : Option (List Int) := (impl_asked.f k l0 a1 l2).bind fun t863 => (if t863 = true then ((impl_ScriptOk.f k (l0.length : Int) l3).bind fun t864 => (if t864 = true then (if a4 < 0 then (some ([] : List Int)) else (if a4 > 60 then (some ([] : List Int)) else ((impl_scripted.f k l0 a1 l2 l3 a4).bind fun bt865 => (some bt865.1)))) else (some ([] : List Int)))) else (some ([] : List Int)))
theorem impl_ScriptRun.mono : ∀ a0 a1 a2 a3 a4 k, LeO (impl_ScriptRun.f k a0 a1 a2 a3 a4) (impl_ScriptRun.f (k + 1) a0 a1 a2 a3 a4) := by
  intro a0 a1 a2 a3 a4 k
  unfold impl_ScriptRun.f
  repeat' first
      | (with_reducible exact impl_ScriptOk.mono _ _ _)
      | (with_reducible exact impl_asked.mono _ _ _ _)
      | (with_reducible exact impl_scripted.mono _ _ _ _ _ _)
      | (with_reducible exact LeO.refl _)
      | (with_reducible exact LeO.none _)
      | (with_reducible refine LeO.ite ?_ ?_)
      | (with_reducible refine LeO.bind ?_ (fun _ => ?_))
      | exact impl_ScriptOk.mono _ _ _
      | exact impl_asked.mono _ _ _ _
      | exact impl_scripted.mono _ _ _ _ _ _
      | exact LeO.none _
      | refine LeO.ite ?_ ?_
      | refine LeO.bind ?_ (fun _ => ?_)
set_option maxHeartbeats 8000000 in
set_option maxRecDepth 100000 in
theorem impl_ScriptRun.calls (k : Nat) (A0 : Option Addr) (c0 : Nat) (l0 : List Int) (a1 : Int) (A2 : Option Addr) (c2 : Nat) (l2 : List Int) (A3 : Option Addr) (c3 : Nat) (l3 : List (S64)) (a4 : Int) (r : List Int) (w : World) (hr0 : Kd.C (Kd.int .i64) w A0 l0.length l0) (hc0 : l0.length ≤ c0) (hr2 : Kd.C (Kd.int .i64) w A2 l2.length l2) (hc2 : l2.length ≤ c2) (hr3 : Kd.C k64 w A3 l3.length l3) (hc3 : l3.length ≤ c3) (h : impl_ScriptRun.f k l0 a1 l2 l3 a4 = some r) :
    Calls Try.prog 47 #[.slice A0 l0.length c0, .int .i64 a1, .slice A2 l2.length c2, .slice A3 l3.length c3, .int .i64 a4] w fun e w' => ∃ v0_ : Value, e = .returned (v0_) ∧ Kd.R (Kd.int .i64) 3 w' w.heap.size (fun _ => True) v0_ r ∧ Below w.heap.size w w' := by
  have HR0 := Aside0.mk hr0
  have HC0 := Aside0.mk hc0
  clear hr0 hc0
  have HR2 := Aside0.mk hr2
  have HC2 := Aside0.mk hc2
  clear hr2 hc2
  have HR3 := Aside0.mk hr3
  have HC3 := Aside0.mk hc3
  clear hr3 hc3
  have HB := Aside0.mk (Below.refl w.heap.size w)
  have H : ((impl_asked.f k l0 a1 l2).bind fun t863 => (if t863 = true then ((impl_ScriptOk.f k (l0.length : Int) l3).bind fun t864 => (if t864 = true then (if a4 < 0 then (some ([] : List Int)) else (if a4 > 60 then (some ([] : List Int)) else ((impl_scripted.f k l0 a1 l2 l3 a4).bind fun bt865 => (some bt865.1)))) else (some ([] : List Int)))) else (some ([] : List Int)))) = some r := h
  clear h
  replace H := Option.bind_eq_some_iff.mp H
  obtain ⟨t863, A60, H⟩ := H
  replace H : (if t863 = true then ((impl_ScriptOk.f k (l0.length : Int) l3).bind fun t864 => (if t864 = true then (if a4 < 0 then (some ([] : List Int)) else (if a4 > 60 then (some ([] : List Int)) else ((impl_scripted.f k l0 a1 l2 l3 a4).bind fun bt865 => (some bt865.1)))) else (some ([] : List Int)))) else (some ([] : List Int))) = some r := H
  have A6 := Aside0.mk A60
  clear A60
  by_cases c7 : t863 = true
  · subst c7
    have H1 : ((impl_ScriptOk.f k (l0.length : Int) l3).bind fun t864 => (if t864 = true then (if a4 < 0 then (some ([] : List Int)) else (if a4 > 60 then (some ([] : List Int)) else ((impl_scripted.f k l0 a1 l2 l3 a4).bind fun bt865 => (some bt865.1)))) else (some ([] : List Int)))) = some r := by rw [if_pos rfl] at H; exact H
    clear H
    have H := H1
    clear H1
    replace H := Option.bind_eq_some_iff.mp H
    obtain ⟨t864, A80, H⟩ := H
    replace H : (if t864 = true then (if a4 < 0 then (some ([] : List Int)) else (if a4 > 60 then (some ([] : List Int)) else ((impl_scripted.f k l0 a1 l2 l3 a4).bind fun bt865 => (some bt865.1)))) else (some ([] : List Int))) = some r := H
    have A8 := Aside0.mk A80
    clear A80
    by_cases c9 : t864 = true
    · subst c9
      have H1 : (if a4 < 0 then (some ([] : List Int)) else (if a4 > 60 then (some ([] : List Int)) else ((impl_scripted.f k l0 a1 l2 l3 a4).bind fun bt865 => (some bt865.1)))) = some r := by rw [if_pos rfl] at H; exact H
      clear H
      have H := H1
      clear H1
      by_cases c10 : a4 < 0
      · rw [if_pos c10] at H
        have c10b0 : decide (a4 < 0) = true := decide_eq_true c10
        clear c10
        obtain rfl := Option.some.inj H
        go_enter Try.func47, Try.ntmps47
        go_wp2_with (first | ((with_reducible refine gate_callee (f := 74) rfl ?_); refine goesL_ (some 16) rfl rfl Try.func74 (by kernel_rfl) rfl #[.slice A0 l0.length c0, .int .i64 a1, .slice A2 l2.length c2] rfl zA ?_; (with_reducible refine (impl_asked.calls k _ _ l0 a1 _ _ l2 true _ ?side1 ?side2 ?side3 ?side4 A6.out).mono ?_); (case side1 => exact zC HR0.out); (case side2 => exact HC0.out); (case side3 => exact zC HR2.out); (case side4 => exact HC2.out); rintro e w' ⟨rfl, ⟨nd, rfl⟩⟩; refine ⟨_, rfl, ?_⟩) | (go_at_call 53; (with_reducible refine (impl_ScriptOk.calls k (l0.length : Int) _ _ l3 true _ ?side1 ?side2 A8.out).mono ?_); (case side1 => exact zC HR3.out); (case side2 => exact HC3.out); rintro e w11 ⟨rfl, hb⟩; have n0_ := Aside0.mk (below_step (zB HB.out) hb); clear HB; have HB := n0_; clear n0_; (try clear hb); (try clear hb2); (try clear hk); (try clear hi)))
        go_ret
        exact ⟨_, by first | rfl | (simp [errW_none, errW_some] <;> rfl) | (simp [*, errW_none, errW_some] <;> rfl), by first | exact Kd.R_nil _ _ _ _ _ | exact Kd.N_nil _ _ _ _ _ | exact Kd.V_nil _ _ _ _ _ | exact Kd.Q_nil _ _ _ _ _ | exact Kd.S_nil _ _ _ _ _, zB HB.out⟩
      · rw [if_neg c10] at H
        have c10b0 : decide (a4 < 0) = false := decide_eq_false c10
        clear c10
        by_cases c12 : a4 > 60
        · rw [if_pos c12] at H
          have c12b0 : decide (60 < a4) = true := decide_eq_true c12
          clear c12
          obtain rfl := Option.some.inj H
          go_enter Try.func47, Try.ntmps47
          go_wp2_with (first | ((with_reducible refine gate_callee (f := 74) rfl ?_); refine goesL_ (some 16) rfl rfl Try.func74 (by kernel_rfl) rfl #[.slice A0 l0.length c0, .int .i64 a1, .slice A2 l2.length c2] rfl zA ?_; (with_reducible refine (impl_asked.calls k _ _ l0 a1 _ _ l2 true _ ?side1 ?side2 ?side3 ?side4 A6.out).mono ?_); (case side1 => exact zC HR0.out); (case side2 => exact HC0.out); (case side3 => exact zC HR2.out); (case side4 => exact HC2.out); rintro e w' ⟨rfl, ⟨nd, rfl⟩⟩; refine ⟨_, rfl, ?_⟩) | (go_at_call 53; (with_reducible refine (impl_ScriptOk.calls k (l0.length : Int) _ _ l3 true _ ?side1 ?side2 A8.out).mono ?_); (case side1 => exact zC HR3.out); (case side2 => exact HC3.out); rintro e w13 ⟨rfl, hb⟩; have n0_ := Aside0.mk (below_step (zB HB.out) hb); clear HB; have HB := n0_; clear n0_; (try clear hb); (try clear hb2); (try clear hk); (try clear hi)))
          go_ret
          exact ⟨_, by first | rfl | (simp [errW_none, errW_some] <;> rfl) | (simp [*, errW_none, errW_some] <;> rfl), by first | exact Kd.R_nil _ _ _ _ _ | exact Kd.N_nil _ _ _ _ _ | exact Kd.V_nil _ _ _ _ _ | exact Kd.Q_nil _ _ _ _ _ | exact Kd.S_nil _ _ _ _ _, zB HB.out⟩
        · rw [if_neg c12] at H
          have c12b0 : decide (60 < a4) = false := decide_eq_false c12
          clear c12
          replace H := Option.bind_eq_some_iff.mp H
          obtain ⟨⟨t865, t866⟩, A140, H⟩ := H
          replace H : (some t865) = some r := H
          have A14 := Aside0.mk A140
          clear A140
          obtain rfl := Option.some.inj H
          go_enter Try.func47, Try.ntmps47
          go_wp2_with (first | ((with_reducible refine gate_callee (f := 74) rfl ?_); refine goesL_ (some 16) rfl rfl Try.func74 (by kernel_rfl) rfl #[.slice A0 l0.length c0, .int .i64 a1, .slice A2 l2.length c2] rfl zA ?_; (with_reducible refine (impl_asked.calls k _ _ l0 a1 _ _ l2 true _ ?side1 ?side2 ?side3 ?side4 A6.out).mono ?_); (case side1 => exact zC HR0.out); (case side2 => exact HC0.out); (case side3 => exact zC HR2.out); (case side4 => exact HC2.out); rintro e w' ⟨rfl, ⟨nd, rfl⟩⟩; refine ⟨_, rfl, ?_⟩) | (go_at_call 53; (with_reducible refine (impl_ScriptOk.calls k (l0.length : Int) _ _ l3 true _ ?side1 ?side2 A8.out).mono ?_); (case side1 => exact zC HR3.out); (case side2 => exact HC3.out); rintro e w15 ⟨rfl, hb⟩; have n0_ := Aside0.mk (below_step (zB HB.out) hb); clear HB; have HB := n0_; clear n0_; (try clear hb); (try clear hb2); (try clear hk); (try clear hi)) | ((with_reducible refine gate_callee (f := 87) rfl ?_); refine goesL_ (some 39) rfl rfl Try.func87 (by kernel_rfl) rfl #[.slice A0 l0.length c0, .int .i64 a1, .slice A2 l2.length c2, .slice A3 l3.length c3, .int .i64 a4] rfl zA ?_; (with_reducible refine (impl_scripted.calls k _ _ l0 a1 _ _ l2 _ _ l3 a4 t865 t866 _ ?side1 ?side2 ?side3 ?side4 ?side5 ?side6 A14.out).mono ?_); (case side1 => exact zC (Kd.C_below HR0.out HB.out)); (case side2 => exact HC0.out); (case side3 => exact zC (Kd.C_below HR2.out HB.out)); (case side4 => exact HC2.out); (case side5 => exact zC (Kd.C_below HR3.out HB.out)); (case side6 => exact HC3.out); rintro e w16 ⟨v867, v869, rfl, ho0, ho1, hb⟩; refine ⟨_, rfl, ?_⟩; have n0_ := Aside0.mk (Kd.R_lower ho0 (below_size (zB HB.out))); have n1_ := Aside0.mk (Kd.R_lower ho1 (below_size (zB HB.out))); have n2_ := Aside0.mk (below_step (zB HB.out) hb); clear HB; have HO868 := n0_; have HO870 := n1_; have HB := n2_; clear n0_ n1_ n2_; (try clear hb); (try clear hb2); (try clear hk); (try clear hi); (try clear ho0); (try clear ho1)))
          go_ret
          exact ⟨_, by first | rfl | (simp [errW_none, errW_some] <;> rfl) | (simp [*, errW_none, errW_some] <;> rfl), by (with_reducible repeat (first | apply Kd.R_alloc | apply Kd.R_drewN | apply Kd.R_drew)); exact Kd.R_mono HO868.out (fun _ hk => trivial), zB HB.out⟩
    · replace c9 := Bool.eq_false_iff.mpr c9
      subst c9
      have H1 : (some ([] : List Int)) = some r := by rw [if_neg (show ¬ (false = true) by decide)] at H; exact H
      clear H
      have H := H1
      clear H1
      obtain rfl := Option.some.inj H
      go_enter Try.func47, Try.ntmps47
      go_wp2_with (first | ((with_reducible refine gate_callee (f := 74) rfl ?_); refine goesL_ (some 16) rfl rfl Try.func74 (by kernel_rfl) rfl #[.slice A0 l0.length c0, .int .i64 a1, .slice A2 l2.length c2] rfl zA ?_; (with_reducible refine (impl_asked.calls k _ _ l0 a1 _ _ l2 true _ ?side1 ?side2 ?side3 ?side4 A6.out).mono ?_); (case side1 => exact zC HR0.out); (case side2 => exact HC0.out); (case side3 => exact zC HR2.out); (case side4 => exact HC2.out); rintro e w' ⟨rfl, ⟨nd, rfl⟩⟩; refine ⟨_, rfl, ?_⟩) | (go_at_call 53; (with_reducible refine (impl_ScriptOk.calls k (l0.length : Int) _ _ l3 false _ ?side1 ?side2 A8.out).mono ?_); (case side1 => exact zC HR3.out); (case side2 => exact HC3.out); rintro e w17 ⟨rfl, hb⟩; have n0_ := Aside0.mk (below_step (zB HB.out) hb); clear HB; have HB := n0_; clear n0_; (try clear hb); (try clear hb2); (try clear hk); (try clear hi)))
      go_ret
      exact ⟨_, by first | rfl | (simp [errW_none, errW_some] <;> rfl) | (simp [*, errW_none, errW_some] <;> rfl), by first | exact Kd.R_nil _ _ _ _ _ | exact Kd.N_nil _ _ _ _ _ | exact Kd.V_nil _ _ _ _ _ | exact Kd.Q_nil _ _ _ _ _ | exact Kd.S_nil _ _ _ _ _, zB HB.out⟩
  · replace c7 := Bool.eq_false_iff.mpr c7
    subst c7
    have H1 : (some ([] : List Int)) = some r := by rw [if_neg (show ¬ (false = true) by decide)] at H; exact H
    clear H
    have H := H1
    clear H1
    obtain rfl := Option.some.inj H
    go_enter Try.func47, Try.ntmps47
    go_wp2_with (first | ((with_reducible refine gate_callee (f := 74) rfl ?_); refine goesL_ (some 16) rfl rfl Try.func74 (by kernel_rfl) rfl #[.slice A0 l0.length c0, .int .i64 a1, .slice A2 l2.length c2] rfl zA ?_; (with_reducible refine (impl_asked.calls k _ _ l0 a1 _ _ l2 false _ ?side1 ?side2 ?side3 ?side4 A6.out).mono ?_); (case side1 => exact zC HR0.out); (case side2 => exact HC0.out); (case side3 => exact zC HR2.out); (case side4 => exact HC2.out); rintro e w' ⟨rfl, ⟨nd, rfl⟩⟩; refine ⟨_, rfl, ?_⟩))
    go_ret
    exact ⟨_, by first | rfl | (simp [errW_none, errW_some] <;> rfl) | (simp [*, errW_none, errW_some] <;> rfl), by first | exact Kd.R_nil _ _ _ _ _ | exact Kd.N_nil _ _ _ _ _ | exact Kd.V_nil _ _ _ _ _ | exact Kd.Q_nil _ _ _ _ _ | exact Kd.S_nil _ _ _ _ _, zB HB.out⟩

end Go.Proofs.Ytfhkahlfpchhpaa.PAll
