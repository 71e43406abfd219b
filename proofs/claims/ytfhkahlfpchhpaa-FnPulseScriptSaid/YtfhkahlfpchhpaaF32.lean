/- Own text of this session, written by a program of this session (wip/t/own.py) out of what the kit tells of the functions: each Go function as a Lean function, and the walk through its code. -/
import Derived.Test.YtfhkahlfpchhpaaT
import Derived.Test.YtfhkahlfpchhpaaF17
import Derived.Test.YtfhkahlfpchhpaaF30
import Derived.Test.YtfhkahlfpchhpaaF31
namespace Go.Proofs.Ytfhkahlfpchhpaa.PAll
open Go.RowKit Go.Proofs.YtfhkahlfpchhpaaW.PrintWords Go.Proofs.YtfhkahlfpchhpaaW.PrintLast Go.Proofs.YtfhkahlfpchhpaaW.PrintMore
attribute [local go_sem] max2_int min2_int max_two min_two max_three min_three max_four min_four   -- for this text's walks alone
set_option linter.unusedVariables false
set_option linter.unusedSimpArgs false

/-! ### impl_ScriptFired: function 51 -/
def impl_ScriptFired.f (k : Nat) (l0 : List Int) (a1 : Int) (l2 : List Int) (l3 : List (S64)) (a4 : Int) : Option (List Int) := (impl_asked.f k l0 a1 l2).bind fun t752 => (if t752 = true then ((impl_ScriptOk.f k (l0.length : Int) l3).bind fun t753 => (if t753 = true then (if a4 < 0 then (some ([] : List Int)) else (if a4 > 60 then (some ([] : List Int)) else ((impl_scripted.f k l0 a1 l2 l3 a4).bind fun bt754 => (some bt754.2)))) else (some ([] : List Int)))) else (some ([] : List Int)))
theorem impl_ScriptFired.mono : ∀ a0 a1 a2 a3 a4 k, LeO (impl_ScriptFired.f k a0 a1 a2 a3 a4) (impl_ScriptFired.f (k + 1) a0 a1 a2 a3 a4) := by
  intro a0 a1 a2 a3 a4 k
  unfold impl_ScriptFired.f
  repeat' first
      | (with_reducible exact impl_ScriptOk.mono _ _ _)
      | (with_reducible exact impl_asked.mono _ _ _ _)
      | (with_reducible exact impl_scripted.mono _ _ _ _ _ _)
      | (with_reducible exact LeO.refl _)
      | (with_reducible exact LeO.none _)
      | (with_reducible refine LeO.ite ?_ ?_)
      | (with_reducible refine LeO.bind ?_ (fun _ => ?_))
      | exact impl_ScriptOk.mono _ _ _
      | exact impl_asked.mono _ _ _ _
      | exact impl_scripted.mono _ _ _ _ _ _
      | exact LeO.none _
      | refine LeO.ite ?_ ?_
      | refine LeO.bind ?_ (fun _ => ?_)
set_option maxHeartbeats 8000000 in
set_option maxRecDepth 100000 in
theorem impl_ScriptFired.calls (k : Nat) (A0 : Option Addr) (c0 : Nat) (l0 : List Int) (a1 : Int) (A2 : Option Addr) (c2 : Nat) (l2 : List Int) (A3 : Option Addr) (c3 : Nat) (l3 : List (S64)) (a4 : Int) (r : List Int) (w : World) (hr0 : Kd.C (Kd.int .i64) w A0 l0.length l0) (hc0 : l0.length ≤ c0) (hr2 : Kd.C (Kd.int .i64) w A2 l2.length l2) (hc2 : l2.length ≤ c2) (hr3 : Kd.C k64 w A3 l3.length l3) (hc3 : l3.length ≤ c3) (h : impl_ScriptFired.f k l0 a1 l2 l3 a4 = some r) :
    Calls Try.prog 51 #[.slice A0 l0.length c0, .int .i64 a1, .slice A2 l2.length c2, .slice A3 l3.length c3, .int .i64 a4] w fun e w' => ∃ v0_ : Value, e = .returned (v0_) ∧ Kd.R (Kd.int .i64) 3 w' w.heap.size (fun _ => True) v0_ r ∧ Below w.heap.size w w' := by
  have HR0 := Aside0.mk hr0
  have HC0 := Aside0.mk hc0
  clear hr0 hc0
  have HR2 := Aside0.mk hr2
  have HC2 := Aside0.mk hc2
  clear hr2 hc2
  have HR3 := Aside0.mk hr3
  have HC3 := Aside0.mk hc3
  clear hr3 hc3
  have HB := Aside0.mk (Below.refl w.heap.size w)
  have H : ((impl_asked.f k l0 a1 l2).bind fun t752 => (if t752 = true then ((impl_ScriptOk.f k (l0.length : Int) l3).bind fun t753 => (if t753 = true then (if a4 < 0 then (some ([] : List Int)) else (if a4 > 60 then (some ([] : List Int)) else ((impl_scripted.f k l0 a1 l2 l3 a4).bind fun bt754 => (some bt754.2)))) else (some ([] : List Int)))) else (some ([] : List Int)))) = some r := h
  clear h
  replace H := Option.bind_eq_some_iff.mp H
  obtain ⟨t752, A60, H⟩ := H
  replace H : (if t752 = true then ((impl_ScriptOk.f k (l0.length : Int) l3).bind fun t753 => (if t753 = true then (if a4 < 0 then (some ([] : List Int)) else (if a4 > 60 then (some ([] : List Int)) else ((impl_scripted.f k l0 a1 l2 l3 a4).bind fun bt754 => (some bt754.2)))) else (some ([] : List Int)))) else (some ([] : List Int))) = some r := H
  have A6 := Aside0.mk A60
  clear A60
  by_cases c7 : t752 = true
  · subst c7
    have H1 : ((impl_ScriptOk.f k (l0.length : Int) l3).bind fun t753 => (if t753 = true then (if a4 < 0 then (some ([] : List Int)) else (if a4 > 60 then (some ([] : List Int)) else ((impl_scripted.f k l0 a1 l2 l3 a4).bind fun bt754 => (some bt754.2)))) else (some ([] : List Int)))) = some r := by rw [if_pos rfl] at H; exact H
    clear H
    have H := H1
    clear H1
    replace H := Option.bind_eq_some_iff.mp H
    obtain ⟨t753, A80, H⟩ := H
    replace H : (if t753 = true then (if a4 < 0 then (some ([] : List Int)) else (if a4 > 60 then (some ([] : List Int)) else ((impl_scripted.f k l0 a1 l2 l3 a4).bind fun bt754 => (some bt754.2)))) else (some ([] : List Int))) = some r := H
    have A8 := Aside0.mk A80
    clear A80
    by_cases c9 : t753 = true
    · subst c9
      have H1 : (if a4 < 0 then (some ([] : List Int)) else (if a4 > 60 then (some ([] : List Int)) else ((impl_scripted.f k l0 a1 l2 l3 a4).bind fun bt754 => (some bt754.2)))) = some r := by rw [if_pos rfl] at H; exact H
      clear H
      have H := H1
      clear H1
      by_cases c10 : a4 < 0
      · rw [if_pos c10] at H
        have c10b0 : decide (a4 < 0) = true := decide_eq_true c10
        clear c10
        obtain rfl := Option.some.inj H
        go_enter Try.func51, Try.ntmps51
        go_wp2_with (first | ((with_reducible refine gate_callee (f := 74) rfl ?_); refine goesL_ (some 16) rfl rfl Try.func74 (by kernel_rfl) rfl #[.slice A0 l0.length c0, .int .i64 a1, .slice A2 l2.length c2] rfl zA ?_; (with_reducible refine (impl_asked.calls k _ _ l0 a1 _ _ l2 true _ ?side1 ?side2 ?side3 ?side4 A6.out).mono ?_); (case side1 => exact zC HR0.out); (case side2 => exact HC0.out); (case side3 => exact zC HR2.out); (case side4 => exact HC2.out); rintro e w' ⟨rfl, ⟨nd, rfl⟩⟩; refine ⟨_, rfl, ?_⟩) | (go_at_call 53; (with_reducible refine (impl_ScriptOk.calls k (l0.length : Int) _ _ l3 true _ ?side1 ?side2 A8.out).mono ?_); (case side1 => exact zC HR3.out); (case side2 => exact HC3.out); rintro e w11 ⟨rfl, hb⟩; have n0_ := Aside0.mk (below_step (zB HB.out) hb); clear HB; have HB := n0_; clear n0_; (try clear hb); (try clear hb2); (try clear hk); (try clear hi)))
        go_ret
        exact ⟨_, by first | rfl | (simp [errW_none, errW_some] <;> rfl) | (simp [*, errW_none, errW_some] <;> rfl), by first | exact Kd.R_nil _ _ _ _ _ | exact Kd.N_nil _ _ _ _ _ | exact Kd.V_nil _ _ _ _ _ | exact Kd.Q_nil _ _ _ _ _ | exact Kd.S_nil _ _ _ _ _, zB HB.out⟩
      · rw [if_neg c10] at H
        have c10b0 : decide (a4 < 0) = false := decide_eq_false c10
        clear c10
        by_cases c12 : a4 > 60
        · rw [if_pos c12] at H
          have c12b0 : decide (60 < a4) = true := decide_eq_true c12
          clear c12
          obtain rfl := Option.some.inj H
          go_enter Try.func51, Try.ntmps51
          go_wp2_with (first | ((with_reducible refine gate_callee (f := 74) rfl ?_); refine goesL_ (some 16) rfl rfl Try.func74 (by kernel_rfl) rfl #[.slice A0 l0.length c0, .int .i64 a1, .slice A2 l2.length c2] rfl zA ?_; (with_reducible refine (impl_asked.calls k _ _ l0 a1 _ _ l2 true _ ?side1 ?side2 ?side3 ?side4 A6.out).mono ?_); (case side1 => exact zC HR0.out); (case side2 => exact HC0.out); (case side3 => exact zC HR2.out); (case side4 => exact HC2.out); rintro e w' ⟨rfl, ⟨nd, rfl⟩⟩; refine ⟨_, rfl, ?_⟩) | (go_at_call 53; (with_reducible refine (impl_ScriptOk.calls k (l0.length : Int) _ _ l3 true _ ?side1 ?side2 A8.out).mono ?_); (case side1 => exact zC HR3.out); (case side2 => exact HC3.out); rintro e w13 ⟨rfl, hb⟩; have n0_ := Aside0.mk (below_step (zB HB.out) hb); clear HB; have HB := n0_; clear n0_; (try clear hb); (try clear hb2); (try clear hk); (try clear hi)))
          go_ret
          exact ⟨_, by first | rfl | (simp [errW_none, errW_some] <;> rfl) | (simp [*, errW_none, errW_some] <;> rfl), by first | exact Kd.R_nil _ _ _ _ _ | exact Kd.N_nil _ _ _ _ _ | exact Kd.V_nil _ _ _ _ _ | exact Kd.Q_nil _ _ _ _ _ | exact Kd.S_nil _ _ _ _ _, zB HB.out⟩
        · rw [if_neg c12] at H
          have c12b0 : decide (60 < a4) = false := decide_eq_false c12
          clear c12
          replace H := Option.bind_eq_some_iff.mp H
          obtain ⟨⟨t754, t755⟩, A140, H⟩ := H
          replace H : (some t755) = some r := H
          have A14 := Aside0.mk A140
          clear A140
          obtain rfl := Option.some.inj H
          go_enter Try.func51, Try.ntmps51
          go_wp2_with (first | ((with_reducible refine gate_callee (f := 74) rfl ?_); refine goesL_ (some 16) rfl rfl Try.func74 (by kernel_rfl) rfl #[.slice A0 l0.length c0, .int .i64 a1, .slice A2 l2.length c2] rfl zA ?_; (with_reducible refine (impl_asked.calls k _ _ l0 a1 _ _ l2 true _ ?side1 ?side2 ?side3 ?side4 A6.out).mono ?_); (case side1 => exact zC HR0.out); (case side2 => exact HC0.out); (case side3 => exact zC HR2.out); (case side4 => exact HC2.out); rintro e w' ⟨rfl, ⟨nd, rfl⟩⟩; refine ⟨_, rfl, ?_⟩) | (go_at_call 53; (with_reducible refine (impl_ScriptOk.calls k (l0.length : Int) _ _ l3 true _ ?side1 ?side2 A8.out).mono ?_); (case side1 => exact zC HR3.out); (case side2 => exact HC3.out); rintro e w15 ⟨rfl, hb⟩; have n0_ := Aside0.mk (below_step (zB HB.out) hb); clear HB; have HB := n0_; clear n0_; (try clear hb); (try clear hb2); (try clear hk); (try clear hi)) | ((with_reducible refine gate_callee (f := 87) rfl ?_); refine goesL_ (some 39) rfl rfl Try.func87 (by kernel_rfl) rfl #[.slice A0 l0.length c0, .int .i64 a1, .slice A2 l2.length c2, .slice A3 l3.length c3, .int .i64 a4] rfl zA ?_; (with_reducible refine (impl_scripted.calls k _ _ l0 a1 _ _ l2 _ _ l3 a4 t754 t755 _ ?side1 ?side2 ?side3 ?side4 ?side5 ?side6 A14.out).mono ?_); (case side1 => exact zC (Kd.C_below HR0.out HB.out)); (case side2 => exact HC0.out); (case side3 => exact zC (Kd.C_below HR2.out HB.out)); (case side4 => exact HC2.out); (case side5 => exact zC (Kd.C_below HR3.out HB.out)); (case side6 => exact HC3.out); rintro e w16 ⟨v756, v758, rfl, ho0, ho1, hb⟩; refine ⟨_, rfl, ?_⟩; have n0_ := Aside0.mk (Kd.R_lower ho0 (below_size (zB HB.out))); have n1_ := Aside0.mk (Kd.R_lower ho1 (below_size (zB HB.out))); have n2_ := Aside0.mk (below_step (zB HB.out) hb); clear HB; have HO757 := n0_; have HO759 := n1_; have HB := n2_; clear n0_ n1_ n2_; (try clear hb); (try clear hb2); (try clear hk); (try clear hi); (try clear ho0); (try clear ho1)))
          go_ret
          exact ⟨_, by first | rfl | (simp [errW_none, errW_some] <;> rfl) | (simp [*, errW_none, errW_some] <;> rfl), by (with_reducible repeat (first | apply Kd.R_alloc | apply Kd.R_drewN | apply Kd.R_drew)); exact Kd.R_mono HO759.out (fun _ hk => trivial), zB HB.out⟩
    · replace c9 := Bool.eq_false_iff.mpr c9
      subst c9
      have H1 : (some ([] : List Int)) = some r := by rw [if_neg (show ¬ (false = true) by decide)] at H; exact H
      clear H
      have H := H1
      clear H1
      obtain rfl := Option.some.inj H
      go_enter Try.func51, Try.ntmps51
      go_wp2_with (first | ((with_reducible refine gate_callee (f := 74) rfl ?_); refine goesL_ (some 16) rfl rfl Try.func74 (by kernel_rfl) rfl #[.slice A0 l0.length c0, .int .i64 a1, .slice A2 l2.length c2] rfl zA ?_; (with_reducible refine (impl_asked.calls k _ _ l0 a1 _ _ l2 true _ ?side1 ?side2 ?side3 ?side4 A6.out).mono ?_); (case side1 => exact zC HR0.out); (case side2 => exact HC0.out); (case side3 => exact zC HR2.out); (case side4 => exact HC2.out); rintro e w' ⟨rfl, ⟨nd, rfl⟩⟩; refine ⟨_, rfl, ?_⟩) | (go_at_call 53; (with_reducible refine (impl_ScriptOk.calls k (l0.length : Int) _ _ l3 false _ ?side1 ?side2 A8.out).mono ?_); (case side1 => exact zC HR3.out); (case side2 => exact HC3.out); rintro e w17 ⟨rfl, hb⟩; have n0_ := Aside0.mk (below_step (zB HB.out) hb); clear HB; have HB := n0_; clear n0_; (try clear hb); (try clear hb2); (try clear hk); (try clear hi)))
      go_ret
      exact ⟨_, by first | rfl | (simp [errW_none, errW_some] <;> rfl) | (simp [*, errW_none, errW_some] <;> rfl), by first | exact Kd.R_nil _ _ _ _ _ | exact Kd.N_nil _ _ _ _ _ | exact Kd.V_nil _ _ _ _ _ | exact Kd.Q_nil _ _ _ _ _ | exact Kd.S_nil _ _ _ _ _, zB HB.out⟩
  · replace c7 := Bool.eq_false_iff.mpr c7
    subst c7
    have H1 : (some ([] : List Int)) = some r := by rw [if_neg (show ¬ (false = true) by decide)] at H; exact H
    clear H
    have H := H1
    clear H1
    obtain rfl := Option.some.inj H
    go_enter Try.func51, Try.ntmps51
    go_wp2_with (first | ((with_reducible refine gate_callee (f := 74) rfl ?_); refine goesL_ (some 16) rfl rfl Try.func74 (by kernel_rfl) rfl #[.slice A0 l0.length c0, .int .i64 a1, .slice A2 l2.length c2] rfl zA ?_; (with_reducible refine (impl_asked.calls k _ _ l0 a1 _ _ l2 false _ ?side1 ?side2 ?side3 ?side4 A6.out).mono ?_); (case side1 => exact zC HR0.out); (case side2 => exact HC0.out); (case side3 => exact zC HR2.out); (case side4 => exact HC2.out); rintro e w' ⟨rfl, ⟨nd, rfl⟩⟩; refine ⟨_, rfl, ?_⟩))
    go_ret
    exact ⟨_, by first | rfl | (simp [errW_none, errW_some] <;> rfl) | (simp [*, errW_none, errW_some] <;> rfl), by first | exact Kd.R_nil _ _ _ _ _ | exact Kd.N_nil _ _ _ _ _ | exact Kd.V_nil _ _ _ _ _ | exact Kd.Q_nil _ _ _ _ _ | exact Kd.S_nil _ _ _ _ _, zB HB.out⟩

end Go.Proofs.Ytfhkahlfpchhpaa.PAll
