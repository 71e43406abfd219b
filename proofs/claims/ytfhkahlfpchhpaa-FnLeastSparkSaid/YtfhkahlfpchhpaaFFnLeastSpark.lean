/- Own text of this session, written by a program of this session (wip/t/own.py) out of what the kit tells of the functions: each Go function as a Lean function, and the walk through its code. -/
import Derived.Test.YtfhkahlfpchhpaaT
import Derived.Test.YtfhkahlfpchhpaaF0
import Derived.Test.YtfhkahlfpchhpaaF11
import Derived.Test.YtfhkahlfpchhpaaF23
import Derived.Test.YtfhkahlfpchhpaaF4
import Derived.Test.YtfhkahlfpchhpaaF8
namespace Go.Proofs.Ytfhkahlfpchhpaa.PAll
open Go.RowKit Go.Proofs.YtfhkahlfpchhpaaW.PrintWords Go.Proofs.YtfhkahlfpchhpaaW.PrintLast Go.Proofs.YtfhkahlfpchhpaaW.PrintMore
attribute [local go_sem] max2_int min2_int max_two min_two max_three min_three max_four min_four   -- for this text's walks alone
set_option linter.unusedVariables false
set_option linter.unusedSimpArgs false

/-! ### laws_FnLeastSpark: function 7 -/
mutual
def laws_FnLeastSpark.l0 : Nat → List Int → List Int → Int → Int → Int → List Int → Int → List Int → Int → Option (Bool)
  | 0, _, _, _, _, _, _, _, _, _ => none
  | k + 1, x3, x4, x5, x6, x7, x9, x10, x11, x12 => if x12 < (x3.length : Int) then (if x9.length < 17592186044416 then ((some (x9 ++ [1] : List Int)).bind fun y587 => (if (x11.length : Int) = (x3.length : Int) then (if 0 ≤ x12 then (if x12 < (x11.length : Int) then (laws_FnLeastSpark.j1 k x3 x4 x5 x6 x7 y587 x10 x11 x12 ((rd x11 x12) == x12)) else (none)) else (none)) else (laws_FnLeastSpark.j1 k x3 x4 x5 x6 x7 y587 x10 x11 x12 false))) else (none)) else ((impl_LeastSpark.f k x3 x9).bind fun t593 => (laws_FnLeastSpark.l1 k x3 x6 x7 x10 t593 0 0))
def laws_FnLeastSpark.j1 : Nat → List Int → List Int → Int → Int → Int → List Int → Int → List Int → Int → Bool → Option (Bool)
  | 0, _, _, _, _, _, _, _, _, _, _ => none
  | k + 1, x3, x4, x5, x6, x7, x9, x10, x11, x12, x82 => if x82 = true then (laws_FnLeastSpark.j2 k x3 x4 x5 x6 x7 x9 (wrap64 (x10 + 1)) x11 x12) else (laws_FnLeastSpark.j2 k x3 x4 x5 x6 x7 x9 x10 x11 x12)
def laws_FnLeastSpark.j2 : Nat → List Int → List Int → Int → Int → Int → List Int → Int → List Int → Int → Option (Bool)
  | 0, _, _, _, _, _, _, _, _, _ => none
  | k + 1, x3, x4, x5, x6, x7, x9, x10, x11, x12 => if 0 ≤ x12 then (if (Int.tmod (shr .i64 x5 x12) 2) = 1 then ((impl_SpreadSet.f k x3 x4 (wrap64 (x5 - (shl .i64 1 x12)))).bind fun bt591 => (if bt591.1 = x6 then (some false) else (laws_FnLeastSpark.l0 k x3 x4 x5 x6 x7 x9 x10 x11 (wrap64 (x12 + 1))))) else (laws_FnLeastSpark.l0 k x3 x4 x5 x6 x7 x9 x10 x11 (wrap64 (x12 + 1)))) else (none)
def laws_FnLeastSpark.l1 : Nat → List Int → Int → Int → Int → Int → Int → Int → Option (Bool)
  | 0, _, _, _, _, _, _, _ => none
  | k + 1, x3, x6, x7, x10, x15, x16, x17 => if x17 < (x3.length : Int) then (if 0 ≤ x17 then (laws_FnLeastSpark.l1 k x3 x6 x7 x10 x15 (wrap64 (x16 + ((shr .i64 (mx x15 0) x17) % 2))) (wrap64 (x17 + 1))) else (none)) else (if x7 = x6 then (some (x16 == x10)) else (some false))
end
def laws_FnLeastSpark.f (k : Nat) (l0 : List Int) : Option (Bool) := if (l0.length : Int) > 1048576 then (some true) else ((spec_DrawLeastSpark.f k l0).bind fun bt569 => ((impl_LeastSpark.f k bt569.1 bt569.2).bind fun t575 => ((spec_LeastSpark.f k bt569.1 bt569.2).bind fun t576 => (if t575 = t576 then (if t575 < 0 then (if t575 = (-1) then ((impl_NeedsOk.f k bt569.1 bt569.2).bind fun t577 => (if t577 = true then (some false) else ((laws_alive.f k).bind fun t578 => (some t578)))) else (some false)) else ((impl_SpreadSet.f k bt569.1 bt569.2 t575).bind fun bt579 => ((impl_PartsOf.f k bt569.1).bind fun t584 => (laws_FnLeastSpark.l0 k bt569.1 bt569.2 t575 (wrap64 ((shl .i64 1 (bt569.1.length : Int)) - 1)) bt579.1 (([] : List Int)) 0 t584 0)))) else (some false)))))
theorem laws_FnLeastSpark.mono_l : ∀ k, (∀ y0 y1 y2 y3 y4 y5 y6 y7 y8, LeO (laws_FnLeastSpark.l0 k y0 y1 y2 y3 y4 y5 y6 y7 y8) (laws_FnLeastSpark.l0 (k + 1) y0 y1 y2 y3 y4 y5 y6 y7 y8)) ∧ (∀ y0 y1 y2 y3 y4 y5 y6 y7 y8 y9, LeO (laws_FnLeastSpark.j1 k y0 y1 y2 y3 y4 y5 y6 y7 y8 y9) (laws_FnLeastSpark.j1 (k + 1) y0 y1 y2 y3 y4 y5 y6 y7 y8 y9)) ∧ (∀ y0 y1 y2 y3 y4 y5 y6 y7 y8, LeO (laws_FnLeastSpark.j2 k y0 y1 y2 y3 y4 y5 y6 y7 y8) (laws_FnLeastSpark.j2 (k + 1) y0 y1 y2 y3 y4 y5 y6 y7 y8)) ∧ (∀ y0 y1 y2 y3 y4 y5 y6, LeO (laws_FnLeastSpark.l1 k y0 y1 y2 y3 y4 y5 y6) (laws_FnLeastSpark.l1 (k + 1) y0 y1 y2 y3 y4 y5 y6))
  | 0 => ⟨fun _ _ _ _ _ _ _ _ _ r h => by simp [laws_FnLeastSpark.l0] at h, fun _ _ _ _ _ _ _ _ _ _ r h => by simp [laws_FnLeastSpark.j1] at h, fun _ _ _ _ _ _ _ _ _ r h => by simp [laws_FnLeastSpark.j2] at h, fun _ _ _ _ _ _ _ r h => by simp [laws_FnLeastSpark.l1] at h⟩
  | k + 1 => by
    obtain ⟨ih0, ih1, ih2, ih3⟩ := laws_FnLeastSpark.mono_l k
    refine ⟨?_, ?_, ?_, ?_⟩
    · intro y0 y1 y2 y3 y4 y5 y6 y7 y8
      unfold laws_FnLeastSpark.l0
      repeat' first
      | (with_reducible exact ih0 _ _ _ _ _ _ _ _ _)
      | (with_reducible exact ih1 _ _ _ _ _ _ _ _ _ _)
      | (with_reducible exact ih2 _ _ _ _ _ _ _ _ _)
      | (with_reducible exact ih3 _ _ _ _ _ _ _)
      | (with_reducible exact impl_LeastSpark.mono _ _ _)
      | (with_reducible exact impl_NeedsOk.mono _ _ _)
      | (with_reducible exact impl_PartsOf.mono _ _)
      | (with_reducible exact impl_SpreadSet.mono _ _ _ _)
      | (with_reducible exact laws_alive.mono _)
      | (with_reducible exact spec_DrawLeastSpark.mono _ _)
      | (with_reducible exact spec_LeastSpark.mono _ _ _)
      | (with_reducible exact LeO.refl _)
      | (with_reducible exact LeO.none _)
      | (with_reducible refine LeO.ite ?_ ?_)
      | (with_reducible refine LeO.bind ?_ (fun _ => ?_))
      | exact ih0 _ _ _ _ _ _ _ _ _
      | exact ih1 _ _ _ _ _ _ _ _ _ _
      | exact ih2 _ _ _ _ _ _ _ _ _
      | exact ih3 _ _ _ _ _ _ _
      | exact impl_LeastSpark.mono _ _ _
      | exact impl_NeedsOk.mono _ _ _
      | exact impl_PartsOf.mono _ _
      | exact impl_SpreadSet.mono _ _ _ _
      | exact laws_alive.mono _
      | exact spec_DrawLeastSpark.mono _ _
      | exact spec_LeastSpark.mono _ _ _
      | exact LeO.none _
      | refine LeO.ite ?_ ?_
      | refine LeO.bind ?_ (fun _ => ?_)
    · intro y0 y1 y2 y3 y4 y5 y6 y7 y8 y9
      unfold laws_FnLeastSpark.j1
      repeat' first
      | (with_reducible exact ih0 _ _ _ _ _ _ _ _ _)
      | (with_reducible exact ih1 _ _ _ _ _ _ _ _ _ _)
      | (with_reducible exact ih2 _ _ _ _ _ _ _ _ _)
      | (with_reducible exact ih3 _ _ _ _ _ _ _)
      | (with_reducible exact impl_LeastSpark.mono _ _ _)
      | (with_reducible exact impl_NeedsOk.mono _ _ _)
      | (with_reducible exact impl_PartsOf.mono _ _)
      | (with_reducible exact impl_SpreadSet.mono _ _ _ _)
      | (with_reducible exact laws_alive.mono _)
      | (with_reducible exact spec_DrawLeastSpark.mono _ _)
      | (with_reducible exact spec_LeastSpark.mono _ _ _)
      | (with_reducible exact LeO.refl _)
      | (with_reducible exact LeO.none _)
      | (with_reducible refine LeO.ite ?_ ?_)
      | (with_reducible refine LeO.bind ?_ (fun _ => ?_))
      | exact ih0 _ _ _ _ _ _ _ _ _
      | exact ih1 _ _ _ _ _ _ _ _ _ _
      | exact ih2 _ _ _ _ _ _ _ _ _
      | exact ih3 _ _ _ _ _ _ _
      | exact impl_LeastSpark.mono _ _ _
      | exact impl_NeedsOk.mono _ _ _
      | exact impl_PartsOf.mono _ _
      | exact impl_SpreadSet.mono _ _ _ _
      | exact laws_alive.mono _
      | exact spec_DrawLeastSpark.mono _ _
      | exact spec_LeastSpark.mono _ _ _
      | exact LeO.none _
      | refine LeO.ite ?_ ?_
      | refine LeO.bind ?_ (fun _ => ?_)
    · intro y0 y1 y2 y3 y4 y5 y6 y7 y8
      unfold laws_FnLeastSpark.j2
      repeat' first
      | (with_reducible exact ih0 _ _ _ _ _ _ _ _ _)
      | (with_reducible exact ih1 _ _ _ _ _ _ _ _ _ _)
      | (with_reducible exact ih2 _ _ _ _ _ _ _ _ _)
      | (with_reducible exact ih3 _ _ _ _ _ _ _)
      | (with_reducible exact impl_LeastSpark.mono _ _ _)
      | (with_reducible exact impl_NeedsOk.mono _ _ _)
      | (with_reducible exact impl_PartsOf.mono _ _)
      | (with_reducible exact impl_SpreadSet.mono _ _ _ _)
      | (with_reducible exact laws_alive.mono _)
      | (with_reducible exact spec_DrawLeastSpark.mono _ _)
      | (with_reducible exact spec_LeastSpark.mono _ _ _)
      | (with_reducible exact LeO.refl _)
      | (with_reducible exact LeO.none _)
      | (with_reducible refine LeO.ite ?_ ?_)
      | (with_reducible refine LeO.bind ?_ (fun _ => ?_))
      | exact ih0 _ _ _ _ _ _ _ _ _
      | exact ih1 _ _ _ _ _ _ _ _ _ _
      | exact ih2 _ _ _ _ _ _ _ _ _
      | exact ih3 _ _ _ _ _ _ _
      | exact impl_LeastSpark.mono _ _ _
      | exact impl_NeedsOk.mono _ _ _
      | exact impl_PartsOf.mono _ _
      | exact impl_SpreadSet.mono _ _ _ _
      | exact laws_alive.mono _
      | exact spec_DrawLeastSpark.mono _ _
      | exact spec_LeastSpark.mono _ _ _
      | exact LeO.none _
      | refine LeO.ite ?_ ?_
      | refine LeO.bind ?_ (fun _ => ?_)
    · intro y0 y1 y2 y3 y4 y5 y6
      unfold laws_FnLeastSpark.l1
      repeat' first
      | (with_reducible exact ih0 _ _ _ _ _ _ _ _ _)
      | (with_reducible exact ih1 _ _ _ _ _ _ _ _ _ _)
      | (with_reducible exact ih2 _ _ _ _ _ _ _ _ _)
      | (with_reducible exact ih3 _ _ _ _ _ _ _)
      | (with_reducible exact impl_LeastSpark.mono _ _ _)
      | (with_reducible exact impl_NeedsOk.mono _ _ _)
      | (with_reducible exact impl_PartsOf.mono _ _)
      | (with_reducible exact impl_SpreadSet.mono _ _ _ _)
      | (with_reducible exact laws_alive.mono _)
      | (with_reducible exact spec_DrawLeastSpark.mono _ _)
      | (with_reducible exact spec_LeastSpark.mono _ _ _)
      | (with_reducible exact LeO.refl _)
      | (with_reducible exact LeO.none _)
      | (with_reducible refine LeO.ite ?_ ?_)
      | (with_reducible refine LeO.bind ?_ (fun _ => ?_))
      | exact ih0 _ _ _ _ _ _ _ _ _
      | exact ih1 _ _ _ _ _ _ _ _ _ _
      | exact ih2 _ _ _ _ _ _ _ _ _
      | exact ih3 _ _ _ _ _ _ _
      | exact impl_LeastSpark.mono _ _ _
      | exact impl_NeedsOk.mono _ _ _
      | exact impl_PartsOf.mono _ _
      | exact impl_SpreadSet.mono _ _ _ _
      | exact laws_alive.mono _
      | exact spec_DrawLeastSpark.mono _ _
      | exact spec_LeastSpark.mono _ _ _
      | exact LeO.none _
      | refine LeO.ite ?_ ?_
      | refine LeO.bind ?_ (fun _ => ?_)
theorem laws_FnLeastSpark.mono : ∀ a0 k, LeO (laws_FnLeastSpark.f k a0) (laws_FnLeastSpark.f (k + 1) a0) := by
  intro a0 k
  obtain ⟨ih0, ih1, ih2, ih3⟩ := laws_FnLeastSpark.mono_l k
  unfold laws_FnLeastSpark.f
  repeat' first
      | (with_reducible exact ih0 _ _ _ _ _ _ _ _ _)
      | (with_reducible exact ih1 _ _ _ _ _ _ _ _ _ _)
      | (with_reducible exact ih2 _ _ _ _ _ _ _ _ _)
      | (with_reducible exact ih3 _ _ _ _ _ _ _)
      | (with_reducible exact impl_LeastSpark.mono _ _ _)
      | (with_reducible exact impl_NeedsOk.mono _ _ _)
      | (with_reducible exact impl_PartsOf.mono _ _)
      | (with_reducible exact impl_SpreadSet.mono _ _ _ _)
      | (with_reducible exact laws_alive.mono _)
      | (with_reducible exact spec_DrawLeastSpark.mono _ _)
      | (with_reducible exact spec_LeastSpark.mono _ _ _)
      | (with_reducible exact LeO.refl _)
      | (with_reducible exact LeO.none _)
      | (with_reducible refine LeO.ite ?_ ?_)
      | (with_reducible refine LeO.bind ?_ (fun _ => ?_))
      | exact ih0 _ _ _ _ _ _ _ _ _
      | exact ih1 _ _ _ _ _ _ _ _ _ _
      | exact ih2 _ _ _ _ _ _ _ _ _
      | exact ih3 _ _ _ _ _ _ _
      | exact impl_LeastSpark.mono _ _ _
      | exact impl_NeedsOk.mono _ _ _
      | exact impl_PartsOf.mono _ _
      | exact impl_SpreadSet.mono _ _ _ _
      | exact laws_alive.mono _
      | exact spec_DrawLeastSpark.mono _ _
      | exact spec_LeastSpark.mono _ _ _
      | exact LeO.none _
      | refine LeO.ite ?_ ?_
      | refine LeO.bind ?_ (fun _ => ?_)
set_option maxHeartbeats 8000000 in
set_option maxRecDepth 100000 in
theorem laws_FnLeastSpark.calls (k : Nat) (A0 : Option Addr) (c0 : Nat) (l0 : List Int) (r : Bool) (w : World) (hr0 : Kd.C (Kd.int .u8) w A0 l0.length l0) (hc0 : l0.length ≤ c0) (h : laws_FnLeastSpark.f k l0 = some r) :
    Calls Try.prog 7 #[.slice A0 l0.length c0] w fun e w' => e = .returned (.bool r) ∧ Below w.heap.size w w' := by
  have HR0 := Aside0.mk hr0
  have HC0 := Aside0.mk hc0
  clear hr0 hc0
  have HB := Aside0.mk (Below.refl w.heap.size w)
  have H : (if (l0.length : Int) > 1048576 then (some true) else ((spec_DrawLeastSpark.f k l0).bind fun bt569 => ((impl_LeastSpark.f k bt569.1 bt569.2).bind fun t575 => ((spec_LeastSpark.f k bt569.1 bt569.2).bind fun t576 => (if t575 = t576 then (if t575 < 0 then (if t575 = (-1) then ((impl_NeedsOk.f k bt569.1 bt569.2).bind fun t577 => (if t577 = true then (some false) else ((laws_alive.f k).bind fun t578 => (some t578)))) else (some false)) else ((impl_SpreadSet.f k bt569.1 bt569.2 t575).bind fun bt579 => ((impl_PartsOf.f k bt569.1).bind fun t584 => (laws_FnLeastSpark.l0 k bt569.1 bt569.2 t575 (wrap64 ((shl .i64 1 (bt569.1.length : Int)) - 1)) bt579.1 (([] : List Int)) 0 t584 0)))) else (some false)))))) = some r := h
  clear h
  by_cases c2 : (l0.length : Int) > 1048576
  · rw [if_pos c2] at H
    have c2b0 : decide (1048576 < (l0.length : Int)) = true := decide_eq_true c2
    have c2b1 : decide (1048576 < l0.length) = true := decide_eq_true (by omega)
    clear c2
    obtain rfl := Option.some.inj H
    go_enter Try.func7, Try.ntmps7
    go_wp2
    go_ret
    exact ⟨by first | rfl | (simp [errW_none, errW_some] <;> rfl) | (simp [*, errW_none, errW_some] <;> rfl), zB HB.out⟩
  · rw [if_neg c2] at H
    have c2b0 : decide (1048576 < (l0.length : Int)) = false := decide_eq_false c2
    have c2b1 : decide (1048576 < l0.length) = false := decide_eq_false (by omega)
    clear c2
    replace H := Option.bind_eq_some_iff.mp H
    obtain ⟨⟨t569, t570⟩, A30, H⟩ := H
    replace H : ((impl_LeastSpark.f k t569 t570).bind fun t575 => ((spec_LeastSpark.f k t569 t570).bind fun t576 => (if t575 = t576 then (if t575 < 0 then (if t575 = (-1) then ((impl_NeedsOk.f k t569 t570).bind fun t577 => (if t577 = true then (some false) else ((laws_alive.f k).bind fun t578 => (some t578)))) else (some false)) else ((impl_SpreadSet.f k t569 t570 t575).bind fun bt579 => ((impl_PartsOf.f k t569).bind fun t584 => (laws_FnLeastSpark.l0 k t569 t570 t575 (wrap64 ((shl .i64 1 (t569.length : Int)) - 1)) bt579.1 (([] : List Int)) 0 t584 0)))) else (some false)))) = some r := H
    have A3 := Aside0.mk A30
    clear A30
    replace H := Option.bind_eq_some_iff.mp H
    obtain ⟨t575, A40, H⟩ := H
    replace H : ((spec_LeastSpark.f k t569 t570).bind fun t576 => (if t575 = t576 then (if t575 < 0 then (if t575 = (-1) then ((impl_NeedsOk.f k t569 t570).bind fun t577 => (if t577 = true then (some false) else ((laws_alive.f k).bind fun t578 => (some t578)))) else (some false)) else ((impl_SpreadSet.f k t569 t570 t575).bind fun bt579 => ((impl_PartsOf.f k t569).bind fun t584 => (laws_FnLeastSpark.l0 k t569 t570 t575 (wrap64 ((shl .i64 1 (t569.length : Int)) - 1)) bt579.1 (([] : List Int)) 0 t584 0)))) else (some false))) = some r := H
    have A4 := Aside0.mk A40
    clear A40
    replace H := Option.bind_eq_some_iff.mp H
    obtain ⟨t576, A50, H⟩ := H
    replace H : (if t575 = t576 then (if t575 < 0 then (if t575 = (-1) then ((impl_NeedsOk.f k t569 t570).bind fun t577 => (if t577 = true then (some false) else ((laws_alive.f k).bind fun t578 => (some t578)))) else (some false)) else ((impl_SpreadSet.f k t569 t570 t575).bind fun bt579 => ((impl_PartsOf.f k t569).bind fun t584 => (laws_FnLeastSpark.l0 k t569 t570 t575 (wrap64 ((shl .i64 1 (t569.length : Int)) - 1)) bt579.1 (([] : List Int)) 0 t584 0)))) else (some false)) = some r := H
    have A5 := Aside0.mk A50
    clear A50
    by_cases c6 : t575 = t576
    · rw [if_pos c6] at H
      have c6b0 : (t575 == t576) = true := beq_iff_eq.mpr c6
      have c6b1 : (t575 != t576) = false := bne_eq_false_iff_eq.mpr c6
      clear c6
      by_cases c7 : t575 < 0
      · rw [if_pos c7] at H
        have c7b0 : decide (t575 < 0) = true := decide_eq_true c7
        clear c7
        by_cases c8 : t575 = (-1)
        · rw [if_pos c8] at H
          have c8b0 : (t575 == (-1)) = true := beq_iff_eq.mpr c8
          have c8b1 : (t575 != (-1)) = false := bne_eq_false_iff_eq.mpr c8
          clear c8
          replace H := Option.bind_eq_some_iff.mp H
          obtain ⟨t577, A90, H⟩ := H
          replace H : (if t577 = true then (some false) else ((laws_alive.f k).bind fun t578 => (some t578))) = some r := H
          have A9 := Aside0.mk A90
          clear A90
          by_cases c10 : t577 = true
          · subst c10
            have H1 : (some false) = some r := by rw [if_pos rfl] at H; exact H
            clear H
            have H := H1
            clear H1
            obtain rfl := Option.some.inj H
            go_enter Try.func7, Try.ntmps7
            go_wp2_with (first | ((with_reducible refine gate_callee (f := 30) rfl ?_); refine goesL_ (some 23) rfl rfl Try.func30 (by kernel_rfl) rfl #[.slice A0 l0.length c0] rfl zA ?_; (with_reducible refine (spec_DrawLeastSpark.calls k _ _ l0 t569 t570 _ ?side1 ?side2 A3.out).mono ?_); (case side1 => exact zC HR0.out); (case side2 => exact HC0.out); rintro e w11 ⟨v571, v573, rfl, ho0, ho1, hb⟩; refine ⟨_, rfl, ?_⟩; have n0_ := Aside0.mk (Kd.R_lower ho0 (below_size (zB HB.out))); have n1_ := Aside0.mk (Kd.R_lower ho1 (below_size (zB HB.out))); have n2_ := Aside0.mk (below_step (zB HB.out) hb); clear HB; have HO572 := n0_; have HO574 := n1_; have HB := n2_; clear n0_ n1_ n2_; (try clear hb); (try clear hb2); (try clear hk); (try clear hi); (try clear ho0); (try clear ho1); obtain ⟨Ao12, co12, eo12⟩ := Kd.R_slice HO572.out; subst eo12; obtain ⟨Ao13, co13, eo13⟩ := Kd.R_slice HO574.out; subst eo13) | ((with_reducible refine gate_callee (f := 19) rfl ?_); refine goesL_ (some 28) rfl rfl Try.func19 (by kernel_rfl) rfl #[.slice Ao12 t569.length co12, .slice Ao13 t570.length co13] rfl zA ?_; (with_reducible refine (impl_LeastSpark.calls k _ _ t569 _ _ t570 t575 _ ?side1 ?side2 ?side3 ?side4 A4.out).mono ?_); (case side1 => exact zC (Kd.R_reads' HO572.out).2.2); (case side2 => exact (Kd.R_reads' HO572.out).2.1); (case side3 => exact zC (Kd.R_reads' HO574.out).2.2); (case side4 => exact (Kd.R_reads' HO574.out).2.1); rintro e w' ⟨rfl, ⟨nd, rfl⟩⟩; refine ⟨_, rfl, ?_⟩) | ((with_reducible refine gate_callee (f := 31) rfl ?_); refine goesL_ (some 32) rfl rfl Try.func31 (by kernel_rfl) rfl #[.slice Ao12 t569.length co12, .slice Ao13 t570.length co13] rfl zA ?_; (with_reducible refine (spec_LeastSpark.calls k _ _ t569 _ _ t570 t576 _ ?side1 ?side2 ?side3 ?side4 A5.out).mono ?_); (case side1 => exact zC (Kd.R_reads' HO572.out).2.2); (case side2 => exact (Kd.R_reads' HO572.out).2.1); (case side3 => exact zC (Kd.R_reads' HO574.out).2.2); (case side4 => exact (Kd.R_reads' HO574.out).2.1); rintro e w' ⟨rfl, ⟨nd, rfl⟩⟩; refine ⟨_, rfl, ?_⟩) | (go_at_call 32; (with_reducible refine (impl_NeedsOk.calls k _ _ t569 _ _ t570 true _ ?side1 ?side2 ?side3 ?side4 A9.out).mono ?_); (case side1 => exact zC (Kd.R_reads' HO572.out).2.2); (case side2 => exact (Kd.R_reads' HO572.out).2.1); (case side3 => exact zC (Kd.R_reads' HO574.out).2.2); (case side4 => exact (Kd.R_reads' HO574.out).2.1); rintro e w' ⟨rfl, ⟨nd, rfl⟩⟩))
            go_ret
            exact ⟨by first | rfl | (simp [errW_none, errW_some] <;> rfl) | (simp [*, errW_none, errW_some] <;> rfl), zB HB.out⟩
          · replace c10 := Bool.eq_false_iff.mpr c10
            subst c10
            have H1 : ((laws_alive.f k).bind fun t578 => (some t578)) = some r := by rw [if_neg (show ¬ (false = true) by decide)] at H; exact H
            clear H
            have H := H1
            clear H1
            replace H := Option.bind_eq_some_iff.mp H
            obtain ⟨t578, A140, H⟩ := H
            replace H : (some t578) = some r := H
            have A14 := Aside0.mk A140
            clear A140
            obtain rfl := Option.some.inj H
            go_enter Try.func7, Try.ntmps7
            go_wp2_with (first | ((with_reducible refine gate_callee (f := 30) rfl ?_); refine goesL_ (some 23) rfl rfl Try.func30 (by kernel_rfl) rfl #[.slice A0 l0.length c0] rfl zA ?_; (with_reducible refine (spec_DrawLeastSpark.calls k _ _ l0 t569 t570 _ ?side1 ?side2 A3.out).mono ?_); (case side1 => exact zC HR0.out); (case side2 => exact HC0.out); rintro e w15 ⟨v571, v573, rfl, ho0, ho1, hb⟩; refine ⟨_, rfl, ?_⟩; have n0_ := Aside0.mk (Kd.R_lower ho0 (below_size (zB HB.out))); have n1_ := Aside0.mk (Kd.R_lower ho1 (below_size (zB HB.out))); have n2_ := Aside0.mk (below_step (zB HB.out) hb); clear HB; have HO572 := n0_; have HO574 := n1_; have HB := n2_; clear n0_ n1_ n2_; (try clear hb); (try clear hb2); (try clear hk); (try clear hi); (try clear ho0); (try clear ho1); obtain ⟨Ao16, co16, eo16⟩ := Kd.R_slice HO572.out; subst eo16; obtain ⟨Ao17, co17, eo17⟩ := Kd.R_slice HO574.out; subst eo17) | ((with_reducible refine gate_callee (f := 19) rfl ?_); refine goesL_ (some 28) rfl rfl Try.func19 (by kernel_rfl) rfl #[.slice Ao16 t569.length co16, .slice Ao17 t570.length co17] rfl zA ?_; (with_reducible refine (impl_LeastSpark.calls k _ _ t569 _ _ t570 t575 _ ?side1 ?side2 ?side3 ?side4 A4.out).mono ?_); (case side1 => exact zC (Kd.R_reads' HO572.out).2.2); (case side2 => exact (Kd.R_reads' HO572.out).2.1); (case side3 => exact zC (Kd.R_reads' HO574.out).2.2); (case side4 => exact (Kd.R_reads' HO574.out).2.1); rintro e w' ⟨rfl, ⟨nd, rfl⟩⟩; refine ⟨_, rfl, ?_⟩) | ((with_reducible refine gate_callee (f := 31) rfl ?_); refine goesL_ (some 32) rfl rfl Try.func31 (by kernel_rfl) rfl #[.slice Ao16 t569.length co16, .slice Ao17 t570.length co17] rfl zA ?_; (with_reducible refine (spec_LeastSpark.calls k _ _ t569 _ _ t570 t576 _ ?side1 ?side2 ?side3 ?side4 A5.out).mono ?_); (case side1 => exact zC (Kd.R_reads' HO572.out).2.2); (case side2 => exact (Kd.R_reads' HO572.out).2.1); (case side3 => exact zC (Kd.R_reads' HO574.out).2.2); (case side4 => exact (Kd.R_reads' HO574.out).2.1); rintro e w' ⟨rfl, ⟨nd, rfl⟩⟩; refine ⟨_, rfl, ?_⟩) | (go_at_call 32; (with_reducible refine (impl_NeedsOk.calls k _ _ t569 _ _ t570 false _ ?side1 ?side2 ?side3 ?side4 A9.out).mono ?_); (case side1 => exact zC (Kd.R_reads' HO572.out).2.2); (case side2 => exact (Kd.R_reads' HO572.out).2.1); (case side3 => exact zC (Kd.R_reads' HO574.out).2.2); (case side4 => exact (Kd.R_reads' HO574.out).2.1); rintro e w' ⟨rfl, ⟨nd, rfl⟩⟩) | (go_at_call 18; (with_reducible refine (laws_alive.calls k  t578 _ A14.out).mono ?_); rintro e w18 ⟨rfl, hb⟩; have n0_ := Aside0.mk (Kd.R_below (zR HO572.out) hb); have n1_ := Aside0.mk (Kd.R_below (zR HO574.out) hb); have n2_ := Aside0.mk (below_step (zB HB.out) hb); clear HO572; clear HO574; clear HB; have HO572 := n0_; have HO574 := n1_; have HB := n2_; clear n0_ n1_ n2_; (try clear hb); (try clear hb2); (try clear hk); (try clear hi)))
            go_ret
            exact ⟨by first | rfl | (simp [errW_none, errW_some] <;> rfl) | (simp [*, errW_none, errW_some] <;> rfl), zB HB.out⟩
        · rw [if_neg c8] at H
          have c8b0 : (t575 == (-1)) = false := beq_eq_false_iff_ne.mpr c8
          have c8b1 : (t575 != (-1)) = true := bne_iff_ne.mpr c8
          obtain rfl := Option.some.inj H
          go_enter Try.func7, Try.ntmps7
          go_wp2_with (first | ((with_reducible refine gate_callee (f := 30) rfl ?_); refine goesL_ (some 23) rfl rfl Try.func30 (by kernel_rfl) rfl #[.slice A0 l0.length c0] rfl zA ?_; (with_reducible refine (spec_DrawLeastSpark.calls k _ _ l0 t569 t570 _ ?side1 ?side2 A3.out).mono ?_); (case side1 => exact zC HR0.out); (case side2 => exact HC0.out); rintro e w19 ⟨v571, v573, rfl, ho0, ho1, hb⟩; refine ⟨_, rfl, ?_⟩; have n0_ := Aside0.mk (Kd.R_lower ho0 (below_size (zB HB.out))); have n1_ := Aside0.mk (Kd.R_lower ho1 (below_size (zB HB.out))); have n2_ := Aside0.mk (below_step (zB HB.out) hb); clear HB; have HO572 := n0_; have HO574 := n1_; have HB := n2_; clear n0_ n1_ n2_; (try clear hb); (try clear hb2); (try clear hk); (try clear hi); (try clear ho0); (try clear ho1); obtain ⟨Ao20, co20, eo20⟩ := Kd.R_slice HO572.out; subst eo20; obtain ⟨Ao21, co21, eo21⟩ := Kd.R_slice HO574.out; subst eo21) | ((with_reducible refine gate_callee (f := 19) rfl ?_); refine goesL_ (some 28) rfl rfl Try.func19 (by kernel_rfl) rfl #[.slice Ao20 t569.length co20, .slice Ao21 t570.length co21] rfl zA ?_; (with_reducible refine (impl_LeastSpark.calls k _ _ t569 _ _ t570 t575 _ ?side1 ?side2 ?side3 ?side4 A4.out).mono ?_); (case side1 => exact zC (Kd.R_reads' HO572.out).2.2); (case side2 => exact (Kd.R_reads' HO572.out).2.1); (case side3 => exact zC (Kd.R_reads' HO574.out).2.2); (case side4 => exact (Kd.R_reads' HO574.out).2.1); rintro e w' ⟨rfl, ⟨nd, rfl⟩⟩; refine ⟨_, rfl, ?_⟩) | ((with_reducible refine gate_callee (f := 31) rfl ?_); refine goesL_ (some 32) rfl rfl Try.func31 (by kernel_rfl) rfl #[.slice Ao20 t569.length co20, .slice Ao21 t570.length co21] rfl zA ?_; (with_reducible refine (spec_LeastSpark.calls k _ _ t569 _ _ t570 t576 _ ?side1 ?side2 ?side3 ?side4 A5.out).mono ?_); (case side1 => exact zC (Kd.R_reads' HO572.out).2.2); (case side2 => exact (Kd.R_reads' HO572.out).2.1); (case side3 => exact zC (Kd.R_reads' HO574.out).2.2); (case side4 => exact (Kd.R_reads' HO574.out).2.1); rintro e w' ⟨rfl, ⟨nd, rfl⟩⟩; refine ⟨_, rfl, ?_⟩))
          go_ret
          exact ⟨by first | rfl | (simp [errW_none, errW_some] <;> rfl) | (simp [*, errW_none, errW_some] <;> rfl), zB HB.out⟩
      · rw [if_neg c7] at H
        have c7b0 : decide (t575 < 0) = false := decide_eq_false c7
        clear c7
        obtain ⟨ji22, hji22⟩ : ∃ j_ : Int, (shl .i64 1 (t569.length : Int)) = j_ := ⟨_, rfl⟩
        replace H : ((impl_SpreadSet.f k t569 t570 t575).bind fun bt579 => ((impl_PartsOf.f k t569).bind fun t584 => (laws_FnLeastSpark.l0 k t569 t570 t575 (wrap64 ((ji22) - 1)) bt579.1 (([] : List Int)) 0 t584 0))) = some r := by first | (rw [hji22] at H; exact H) | (simp only [hji22] at H ⊢; exact H)
        (try rw [hji22] at A3)
        (try rw [hji22] at A4)
        (try rw [hji22] at A5)
        have hji22_ : (IntKind.i64.wrap (1 * 2 ^ min (t569.length : Int).toNat 64)) = ji22 := hji22
        have hji22z : (t569.length : Int) ≤ 64 → (IntKind.i64.wrap (1 * 2 ^ (t569.length : Int).toNat)) = ji22 := shl_small hji22
        have hji22p : (IntKind.i64.wrap (1 * 2 ^ min t569.length 64)) = ji22 := hji22_
        have hji22q : (t569.length : Int) ≤ 64 → (IntKind.i64.wrap (1 * 2 ^ t569.length)) = ji22 := hji22z
        have hji22r : (IntKind.i64.wrap (2 ^ min t569.length 64)) = ji22 := by have h_ := hji22p; rw [Int.one_mul] at h_; exact h_
        have hji22s : (t569.length : Int) ≤ 64 → (IntKind.i64.wrap (2 ^ t569.length)) = ji22 := fun hle_ => by have h_ := hji22q hle_; rw [Int.one_mul] at h_; exact h_
        have hji22u : (IntKind.i64.wrap (2 ^ min (t569.length : Int).toNat 64)) = ji22 := by have h_ := hji22_; rw [Int.one_mul] at h_; exact h_
        have hji22v : (t569.length : Int) ≤ 64 → (IntKind.i64.wrap (2 ^ (t569.length : Int).toNat)) = ji22 := fun hle_ => by have h_ := hji22z hle_; rw [Int.one_mul] at h_; exact h_
        have hji22y : (wrap64 (1 * 2 ^ min (t569.length : Int).toNat 64)) = ji22 := (i64_w _).symm.trans hji22_
        have hji22x : (t569.length : Int) ≤ 64 → (wrap64 (1 * 2 ^ (t569.length : Int).toNat)) = ji22 := fun h_ => (i64_w _).symm.trans (hji22z h_)
        replace H := Option.bind_eq_some_iff.mp H
        obtain ⟨⟨t579, t580⟩, A230, H⟩ := H
        replace H : ((impl_PartsOf.f k t569).bind fun t584 => (laws_FnLeastSpark.l0 k t569 t570 t575 (wrap64 ((ji22) - 1)) t579 (([] : List Int)) 0 t584 0)) = some r := H
        have A23 := Aside0.mk A230
        clear A230
        obtain ⟨y581, hy581⟩ : ∃ y_ : List Int, y_ = (([] : List Int)) := ⟨_, rfl⟩
        replace H : ((impl_PartsOf.f k t569).bind fun t584 => (laws_FnLeastSpark.l0 k t569 t570 t575 (wrap64 ((ji22) - 1)) t579 y581 0 t584 0)) = some r := by first | (rw [hy581]; with_reducible exact H) | (have H2_ := (Option.bind_some _ _).symm.trans H; rw [hy581]; with_reducible exact H2_) | (have H2_ := (Option.bind_some _ _).symm.trans H; with_reducible exact H2_) | with_reducible exact H | (rw [hy581]; exact H) | exact H
        have Ny581 := Aside0.mk hy581
        clear hy581
        replace H := Option.bind_eq_some_iff.mp H
        obtain ⟨t584, A240, H⟩ := H
        replace H : (laws_FnLeastSpark.l0 k t569 t570 t575 (wrap64 ((ji22) - 1)) t579 y581 0 t584 0) = some r := H
        have A24 := Aside0.mk A240
        clear A240
        have H' := Aside0.mk H
        clear H
        go_enter Try.func7, Try.ntmps7
        go_wp2_with (first | ((with_reducible refine gate_callee (f := 30) rfl ?_); refine goesL_ (some 23) rfl rfl Try.func30 (by kernel_rfl) rfl #[.slice A0 l0.length c0] rfl zA ?_; (with_reducible refine (spec_DrawLeastSpark.calls k _ _ l0 t569 t570 _ ?side1 ?side2 A3.out).mono ?_); (case side1 => exact zC HR0.out); (case side2 => exact HC0.out); rintro e w25 ⟨v571, v573, rfl, ho0, ho1, hb⟩; refine ⟨_, rfl, ?_⟩; have n0_ := Aside0.mk (Kd.R_lower ho0 (below_size (zB HB.out))); have n1_ := Aside0.mk (Kd.R_lower ho1 (below_size (zB HB.out))); have n2_ := Aside0.mk (below_step (zB HB.out) hb); clear HB; have HO572 := n0_; have HO574 := n1_; have HB := n2_; clear n0_ n1_ n2_; (try clear hb); (try clear hb2); (try clear hk); (try clear hi); (try clear ho0); (try clear ho1); obtain ⟨Ao26, co26, eo26⟩ := Kd.R_slice HO572.out; subst eo26; obtain ⟨Ao27, co27, eo27⟩ := Kd.R_slice HO574.out; subst eo27) | ((with_reducible refine gate_callee (f := 19) rfl ?_); refine goesL_ (some 28) rfl rfl Try.func19 (by kernel_rfl) rfl #[.slice Ao26 t569.length co26, .slice Ao27 t570.length co27] rfl zA ?_; (with_reducible refine (impl_LeastSpark.calls k _ _ t569 _ _ t570 t575 _ ?side1 ?side2 ?side3 ?side4 A4.out).mono ?_); (case side1 => exact zC (Kd.R_reads' HO572.out).2.2); (case side2 => exact (Kd.R_reads' HO572.out).2.1); (case side3 => exact zC (Kd.R_reads' HO574.out).2.2); (case side4 => exact (Kd.R_reads' HO574.out).2.1); rintro e w' ⟨rfl, ⟨nd, rfl⟩⟩; refine ⟨_, rfl, ?_⟩) | ((with_reducible refine gate_callee (f := 31) rfl ?_); refine goesL_ (some 32) rfl rfl Try.func31 (by kernel_rfl) rfl #[.slice Ao26 t569.length co26, .slice Ao27 t570.length co27] rfl zA ?_; (with_reducible refine (spec_LeastSpark.calls k _ _ t569 _ _ t570 t576 _ ?side1 ?side2 ?side3 ?side4 A5.out).mono ?_); (case side1 => exact zC (Kd.R_reads' HO572.out).2.2); (case side2 => exact (Kd.R_reads' HO572.out).2.1); (case side3 => exact zC (Kd.R_reads' HO574.out).2.2); (case side4 => exact (Kd.R_reads' HO574.out).2.1); rintro e w' ⟨rfl, ⟨nd, rfl⟩⟩; refine ⟨_, rfl, ?_⟩) | ((with_reducible refine gate_callee (f := 16) rfl ?_); refine goesL_ (some 55) rfl rfl Try.func16 (by kernel_rfl) rfl #[.slice Ao26 t569.length co26, .slice Ao27 t570.length co27, .int .i64 t575] rfl zA ?_; (with_reducible refine (impl_SpreadSet.calls k _ _ t569 _ _ t570 t575 t579 t580 _ ?side1 ?side2 ?side3 ?side4 A23.out).mono ?_); (case side1 => exact zC (Kd.R_reads' HO572.out).2.2); (case side2 => exact (Kd.R_reads' HO572.out).2.1); (case side3 => exact zC (Kd.R_reads' HO574.out).2.2); (case side4 => exact (Kd.R_reads' HO574.out).2.1); rintro e w' ⟨rfl, ⟨nd, rfl⟩⟩; refine ⟨_, rfl, ?_⟩) | ((with_reducible refine gate_dst (N := 58) rfl ?_); refine Kd.R_lit (Kd.int .i64) _ 3 ?hg (N := 58) ?hd (xs := ([] : List Int)) (inner := []) (ok := fun _ => True) (okp := fun _ => True) ?hr ?hp (fun _ hk => hk) trivial (Below.refl _ _) (Nat.le_refl _) (by simp) ?_; (case hd => rfl); (case hg => rfl); (case hr => first | (go_simp; done) | (go_simp; rfl)); (case hp => exact (Reps.none _ _)); intro v582 w28 ho29 hb hg_ hnew_; clear hg_ hnew_; (first | rw [← Ny581.out] at ho29 | (simp only [Int.reduceToNat] at ho29; rw [← Ny581.out] at ho29)); have n0_ := Aside0.mk (Kd.R_elder' (zR HO572.out) (Kd.R_base ho29) hb); have n1_ := Aside0.mk (Kd.R_elder' (zR HO574.out) (Kd.R_base ho29) hb); have n2_ := Aside0.mk (Kd.R_lower (Kd.R_new' (Kd.R_new' ho29 (Kd.R_lt (zR HO572.out))) (Kd.R_lt (zR HO574.out))) (below_size (zB HB.out))); have n3_ := Aside0.mk (below_step (zB HB.out) hb); clear HO572; clear HO574; clear HB; have HO572 := n0_; have HO574 := n1_; have HO583 := n2_; have HB := n3_; clear n0_ n1_ n2_ n3_; clear hb ho29) | ((with_reducible refine gate_callee (f := 33) rfl ?_); refine goesL_ (some 60) rfl rfl Try.func33 (by kernel_rfl) rfl #[.slice Ao26 t569.length co26] rfl zA ?_; (with_reducible refine (impl_PartsOf.calls k _ _ t569 t584 _ ?side1 ?side2 A24.out).mono ?_); (case side1 => exact zC (Kd.R_reads' HO572.out).2.2); (case side2 => exact (Kd.R_reads' HO572.out).2.1); rintro e w30 ⟨v585, rfl, ho0, hb⟩; refine ⟨_, rfl, ?_⟩; have n0_ := Aside0.mk (Kd.R_elder' (zR HO572.out) (Kd.R_base ho0) hb); have n1_ := Aside0.mk (Kd.R_elder' (zR HO574.out) (Kd.R_base ho0) hb); have n2_ := Aside0.mk (Kd.R_elder' (zR HO583.out) (Kd.R_base ho0) hb); have n3_ := Aside0.mk (Kd.R_lower (Kd.R_new' (Kd.R_new' (Kd.R_new' ho0 (Kd.R_lt (zR HO572.out))) (Kd.R_lt (zR HO574.out))) (Kd.R_lt (zR HO583.out))) (below_size (zB HB.out))); have n4_ := Aside0.mk (below_step (zB HB.out) hb); clear HO572; clear HO574; clear HO583; clear HB; have HO572 := n0_; have HO574 := n1_; have HO583 := n2_; have HO586 := n3_; have HB := n4_; clear n0_ n1_ n2_ n3_ n4_; (try clear hb); (try clear hb2); (try clear hk); (try clear hi); (try clear ho0)))
        go_loopg [9, 10, 12] k (fun kq v9 v10 v12 w' => ∃ (x9_1 : List Int) (x10_1 : Int) (x12_1 : Int), v10 = .int .i64 x10_1 ∧ v12 = .int .i64 x12_1 ∧ Aside0 (laws_FnLeastSpark.l0 kq t569 t570 t575 (wrap64 ((ji22) - 1)) t579 x9_1 x10_1 t584 x12_1 = some r) ∧ Aside0 (kq ≤ k) ∧ Aside0 (Kd.R (Kd.int .i64) 3 w' w.heap.size (fun k_ => some k_ ≠ ((.slice Ao27 t570.length co27) : Value).ownBlock ∧ some k_ ≠ (v9 : Value).ownBlock ∧ some k_ ≠ (v585 : Value).ownBlock) (.slice Ao26 t569.length co26) t569) ∧ Aside0 (Kd.R (Kd.int .i64) 3 w' w.heap.size (fun k_ => some k_ ≠ ((.slice Ao26 t569.length co26) : Value).ownBlock ∧ some k_ ≠ (v9 : Value).ownBlock ∧ some k_ ≠ (v585 : Value).ownBlock) (.slice Ao27 t570.length co27) t570) ∧ Aside0 (Kd.R (Kd.int .i64) 3 w' w.heap.size (fun k_ => some k_ ≠ ((.slice Ao26 t569.length co26) : Value).ownBlock ∧ some k_ ≠ ((.slice Ao27 t570.length co27) : Value).ownBlock ∧ some k_ ≠ (v585 : Value).ownBlock) v9 x9_1) ∧ Aside0 (Kd.R (Kd.int .i64) 3 w' w.heap.size (fun k_ => some k_ ≠ ((.slice Ao26 t569.length co26) : Value).ownBlock ∧ some k_ ≠ ((.slice Ao27 t570.length co27) : Value).ownBlock ∧ some k_ ≠ (v9 : Value).ownBlock) v585 t584) ∧ Aside0 (Below w.heap.size w w'))
        case atStart => exact ⟨(y581), (0), (0), (by first | rfl | (simp; done) | (simp [*]; done)), (by first | rfl | (simp; done) | (simp [*]; done)), H', ⟨Nat.le_refl _⟩, ⟨by (with_reducible repeat (first | apply Kd.R_alloc | apply Kd.R_drewN | apply Kd.R_drew)); exact Kd.R_mono HO572.out (fun _ hk => ⟨hk.1.1, ⟨hk.1.2, hk.2⟩⟩)⟩, ⟨by (with_reducible repeat (first | apply Kd.R_alloc | apply Kd.R_drewN | apply Kd.R_drew)); exact Kd.R_mono HO574.out (fun _ hk => ⟨hk.1.1, ⟨hk.1.2, hk.2⟩⟩)⟩, ⟨by (with_reducible repeat (first | apply Kd.R_alloc | apply Kd.R_drewN | apply Kd.R_drew)); exact Kd.R_mono HO583.out (fun _ hk => ⟨hk.1.1.2, ⟨hk.1.2, hk.2⟩⟩)⟩, ⟨by (with_reducible repeat (first | apply Kd.R_alloc | apply Kd.R_drewN | apply Kd.R_drew)); exact Kd.R_mono HO586.out (fun _ hk => ⟨hk.1.1.2, ⟨hk.1.2, hk.2⟩⟩)⟩, ⟨zB HB.out⟩⟩
        case round =>
          clear H'
          try clear c1
          try clear c2
          try clear c2b0
          try clear c2b1
          try clear p2
          try clear c3
          try clear c6
          try clear c6b0
          try clear c6b1
          try clear p6
          try clear c7
          try clear c7b0
          try clear c8
          try clear c8b0
          try clear c8b1
          try clear c10
          try clear c16
          try clear c19
          try clear c30
          obtain ⟨x9_1, x10_1, x12_1, rfl, rfl, HA, HK1, HO_3, HO_4, HO_9, HO_11, HB⟩ := hrel
          cases gk with
          | zero => exact absurd HA.out (by simp [laws_FnLeastSpark.l0])
          | succ k1 =>
            have H := HA.out
            clear HA
            simp only [laws_FnLeastSpark.l0] at H
            by_cases c31 : x12_1 < (t569.length : Int)
            · rw [if_pos c31] at H
              have c31b0 : decide (x12_1 < (t569.length : Int)) = true := decide_eq_true c31
              clear c31
              by_cases c32 : x9_1.length < 17592186044416
              · rw [if_pos c32] at H
                have LMc32 := Aside0.mk c32
                clear c32
                obtain ⟨y587, hy587⟩ : ∃ y_ : List Int, y_ = (x9_1 ++ [1]) := ⟨_, rfl⟩
                replace H : (if (t584.length : Int) = (t569.length : Int) then (if 0 ≤ x12_1 then (if x12_1 < (t584.length : Int) then (laws_FnLeastSpark.j1 k1 t569 t570 t575 (wrap64 ((ji22) - 1)) t579 y587 x10_1 t584 x12_1 ((rd t584 x12_1) == x12_1)) else (none)) else (none)) else (laws_FnLeastSpark.j1 k1 t569 t570 t575 (wrap64 ((ji22) - 1)) t579 y587 x10_1 t584 x12_1 false)) = some r := by first | (rw [hy587]; with_reducible exact H) | (have H2_ := (Option.bind_some _ _).symm.trans H; rw [hy587]; with_reducible exact H2_) | (have H2_ := (Option.bind_some _ _).symm.trans H; with_reducible exact H2_) | with_reducible exact H | (rw [hy587]; exact H) | exact H
                have Ny587 := Aside0.mk hy587
                clear hy587
                have HC33 := Aside0.mk H
                clear H
                go_upto_region 18 with (first | ((with_reducible refine gate_builtin (b := .append) (xs := #[.tmp 67, .tmp 68]) rfl ?_); at_builtin; refine Kd.R_append (Kd.int .i64) (w0 := w) w.heap.size rfl (.tmp 67) (.tmp 68) 23 3 (.int .i64 0) 8 rfl Try.underlying23 info3 rfl (by decide) (by omega) u9 x9_1 1 [.int .i64 1] (fun k_ => some k_ ≠ (.slice Ao26 t569.length co26 : Value).ownBlock ∧ some k_ ≠ (.slice Ao27 t570.length co27 : Value).ownBlock ∧ some k_ ≠ (v585 : Value).ownBlock) (fun _ => False) rfl rfl ?aP (fun _ hk => hk.elim) ?aF ?aO ?aB ?aS ?aL ?_; (case aP => exact rfl); (case aB => exact (zB HB.out)); (case aF => exact (fun k_ hk => ⟨Kd.fresh' (Kd.R_lt (zR HO_3.out)) k_ hk, Kd.fresh' (Kd.R_lt (zR HO_4.out)) k_ hk, Kd.fresh' (Kd.R_lt (zR HO_11.out)) k_ hk⟩)); (case aO => exact (zR HO_9.out)); (case aS => exact (below_size (zB HB.out))); (case aL => have := LMc32.out; omega); intro v588 w34 ho hb hg hat; rw [← Ny587.out] at ho; have n0_ := Aside0.mk (Kd.R_after (ok := (fun k_ => some k_ ≠ (.slice Ao27 t570.length co27 : Value).ownBlock ∧ some k_ ≠ (v585 : Value).ownBlock)) (by (with_reducible repeat (first | apply Kd.R_alloc | apply Kd.R_drewN | apply Kd.R_drew)); exact Kd.R_mono HO_3.out (fun _ hk => ⟨⟨hk.1, hk.2.2⟩, hk.2.1⟩)) hg hat); have n1_ := Aside0.mk (Kd.R_after (ok := (fun k_ => some k_ ≠ (.slice Ao26 t569.length co26 : Value).ownBlock ∧ some k_ ≠ (v585 : Value).ownBlock)) (by (with_reducible repeat (first | apply Kd.R_alloc | apply Kd.R_drewN | apply Kd.R_drew)); exact Kd.R_mono HO_4.out (fun _ hk => ⟨⟨hk.1, hk.2.2⟩, hk.2.1⟩)) hg hat); have n2_ := Aside0.mk (Kd.R_after (ok := (fun k_ => some k_ ≠ (.slice Ao26 t569.length co26 : Value).ownBlock ∧ some k_ ≠ (.slice Ao27 t570.length co27 : Value).ownBlock)) (by (with_reducible repeat (first | apply Kd.R_alloc | apply Kd.R_drewN | apply Kd.R_drew)); exact Kd.R_mono HO_11.out (fun _ hk => ⟨⟨hk.1, hk.2.1⟩, hk.2.2⟩)) hg hat); have n3_ := Aside0.mk (hb); have n4_ := Aside0.mk (ho); clear HO_3; clear HO_4; clear HO_11; clear HB; clear HO_9; have HO_3 := n0_; have HO_4 := n1_; have HO_11 := n2_; have HB := n3_; have HO589 := n4_; clear n0_ n1_ n2_ n3_ n4_; clear ho hb hg hat))
                (try simp only [Act.put, List.setIfInBounds_toArray, List.set_cons_zero, List.set_cons_succ])
                go_cut [82] (fun v82 wc => ∃ (kq : Nat) (x82_32 : Bool), v82 = .bool x82_32 ∧ Aside0 (laws_FnLeastSpark.j1 kq t569 t570 t575 (wrap64 ((ji22) - 1)) t579 y587 x10_1 t584 x12_1 x82_32 = some r) ∧ Aside0 (kq ≤ k1) ∧ Aside0 (Kd.R (Kd.int .i64) 3 wc w.heap.size (fun k_ => some k_ ≠ ((.slice Ao27 t570.length co27) : Value).ownBlock ∧ some k_ ≠ (v588 : Value).ownBlock ∧ some k_ ≠ (v585 : Value).ownBlock) (.slice Ao26 t569.length co26) t569) ∧ Aside0 (Kd.R (Kd.int .i64) 3 wc w.heap.size (fun k_ => some k_ ≠ ((.slice Ao26 t569.length co26) : Value).ownBlock ∧ some k_ ≠ (v588 : Value).ownBlock ∧ some k_ ≠ (v585 : Value).ownBlock) (.slice Ao27 t570.length co27) t570) ∧ Aside0 (Kd.R (Kd.int .i64) 3 wc w.heap.size (fun k_ => some k_ ≠ ((.slice Ao26 t569.length co26) : Value).ownBlock ∧ some k_ ≠ ((.slice Ao27 t570.length co27) : Value).ownBlock ∧ some k_ ≠ (v585 : Value).ownBlock) v588 y587) ∧ Aside0 (Kd.R (Kd.int .i64) 3 wc w.heap.size (fun k_ => some k_ ≠ ((.slice Ao26 t569.length co26) : Value).ownBlock ∧ some k_ ≠ ((.slice Ao27 t570.length co27) : Value).ownBlock ∧ some k_ ≠ (v588 : Value).ownBlock) v585 t584) ∧ Aside0 (Below w.heap.size w wc))
                case first =>
                  have H := HC33.out
                  clear HC33
                  by_cases c35 : (t584.length : Int) = (t569.length : Int)
                  · rw [if_pos c35] at H
                    have c35b0 : ((t584.length : Int) == (t569.length : Int)) = true := beq_iff_eq.mpr c35
                    have c35b1 : ((t584.length : Int) != (t569.length : Int)) = false := bne_eq_false_iff_eq.mpr c35
                    have c35b2 : (t584.length == t569.length) = true := by first | simpa using c35 | (simp at c35 ⊢; omega)
                    clear c35
                    (first | rw [c35b0] | (simp only [i64_w, i32_w]; rw [c35b0]) | skip)
                    by_cases c36 : 0 ≤ x12_1
                    · rw [if_pos c36] at H
                      have c36b0 : decide (0 ≤ x12_1) = true := decide_eq_true c36
                      clear c36
                      by_cases c37 : x12_1 < (t584.length : Int)
                      · rw [if_pos c37] at H
                        have c37b0 : decide (x12_1 < (t584.length : Int)) = true := decide_eq_true c37
                        clear c37
                        have H' := Aside0.mk H
                        clear H
                        obtain ⟨Ao38, co38, eo38⟩ := Kd.R_slice HO_11.out
                        subst eo38
                        have p590 : 0 ≤ (x12_1 : Int) := of_decide_eq_true (by first | (with_reducible assumption) | assumption)
                        have q590 : x12_1 < (t584.length : Int) := of_decide_eq_true (by first | (with_reducible assumption) | assumption)
                        obtain ⟨ad590, e590, hx590_0⟩ := Kd.at_int (Kd.R_reads' HO_11.out).2.2 x12_1 p590 q590
                        cases e590
                        replace p590 := eq_true p590
                        replace q590 := eq_true q590
                        go_wp2
                        go_meet
                        case rel => exact ⟨_, (((rd t584 x12_1) == x12_1)), (by first | rfl | (simp; done) | (simp [*]; done)), H', ⟨by have := HK1.out; first | omega | exact Nat.le_refl _⟩, ⟨by (with_reducible repeat (first | apply Kd.R_alloc | apply Kd.R_drewN | apply Kd.R_drew)); exact Kd.R_mono HO_3.out (fun _ hk => ⟨hk.1.1, ⟨hk.2, hk.1.2⟩⟩)⟩, ⟨by (with_reducible repeat (first | apply Kd.R_alloc | apply Kd.R_drewN | apply Kd.R_drew)); exact Kd.R_mono HO_4.out (fun _ hk => ⟨hk.1.1, ⟨hk.2, hk.1.2⟩⟩)⟩, ⟨by (with_reducible repeat (first | apply Kd.R_alloc | apply Kd.R_drewN | apply Kd.R_drew)); exact HO589.out⟩, ⟨by (with_reducible repeat (first | apply Kd.R_alloc | apply Kd.R_drewN | apply Kd.R_drew)); exact Kd.R_mono HO_11.out (fun _ hk => ⟨hk.1.1, ⟨hk.1.2, hk.2⟩⟩)⟩, ⟨zB HB.out⟩⟩
                      · rw [if_neg c37] at H
                        exact absurd H (by simp)
                    · rw [if_neg c36] at H
                      exact absurd H (by simp)
                  · rw [if_neg c35] at H
                    have c35b0 : ((t584.length : Int) == (t569.length : Int)) = false := beq_eq_false_iff_ne.mpr c35
                    have c35b1 : ((t584.length : Int) != (t569.length : Int)) = true := bne_iff_ne.mpr c35
                    have c35b2 : (t584.length == t569.length) = false := by first | simpa using c35 | (simp at c35 ⊢; omega)
                    (first | rw [c35b0] | (simp only [i64_w, i32_w]; rw [c35b0]) | skip)
                    have H' := Aside0.mk H
                    clear H
                    obtain ⟨Ao39, co39, eo39⟩ := Kd.R_slice HO_11.out
                    subst eo39
                    go_wp2
                    go_meet
                    case rel => exact ⟨_, (false), (by first | rfl | (simp; done) | (simp [*]; done)), H', ⟨by have := HK1.out; first | omega | exact Nat.le_refl _⟩, ⟨by (with_reducible repeat (first | apply Kd.R_alloc | apply Kd.R_drewN | apply Kd.R_drew)); exact Kd.R_mono HO_3.out (fun _ hk => ⟨hk.1.1, ⟨hk.2, hk.1.2⟩⟩)⟩, ⟨by (with_reducible repeat (first | apply Kd.R_alloc | apply Kd.R_drewN | apply Kd.R_drew)); exact Kd.R_mono HO_4.out (fun _ hk => ⟨hk.1.1, ⟨hk.2, hk.1.2⟩⟩)⟩, ⟨by (with_reducible repeat (first | apply Kd.R_alloc | apply Kd.R_drewN | apply Kd.R_drew)); exact HO589.out⟩, ⟨by (with_reducible repeat (first | apply Kd.R_alloc | apply Kd.R_drewN | apply Kd.R_drew)); exact Kd.R_mono HO_11.out (fun _ hk => ⟨hk.1.1, ⟨hk.1.2, hk.2⟩⟩)⟩, ⟨zB HB.out⟩⟩
                case rest =>
                  clear HC33
                  try clear c1
                  try clear c2
                  try clear c2b0
                  try clear c2b1
                  try clear p2
                  try clear c3
                  try clear p5
                  try clear q5
                  try clear hx5
                  try clear c6
                  try clear c6b0
                  try clear c6b1
                  try clear p6
                  try clear c7
                  try clear c7b0
                  try clear c8
                  try clear c8b0
                  try clear c8b1
                  try clear c10
                  try clear c16
                  try clear c19
                  try clear c30
                  try clear c31
                  try clear c31b0
                  try clear c32
                  try clear c33
                  try clear c35
                  try clear c35b0
                  try clear c35b1
                  try clear c35b2
                  try clear c36
                  try clear c36b0
                  try clear c37
                  try clear c37b0
                  try clear hx590_0
                  try clear p2
                  try clear p590
                  try clear p6
                  try clear q590
                  obtain ⟨kq, x82_32, rfl, HA, HJ32, HO_3, HO_4, HO_9, HO_11, HB⟩ := hcut
                  cases kq with
                  | zero => exact absurd HA.out (by simp [laws_FnLeastSpark.j1])
                  | succ kj32 =>
                    have H := HA.out
                    clear HA
                    simp only [laws_FnLeastSpark.j1] at H
                    have HC40 := Aside0.mk H
                    clear H
                    go_upto_if 82 with (fail)
                    go_cut [10] (fun v10 wc => ∃ (kq : Nat) (x10_39 : Int), v10 = .int .i64 x10_39 ∧ Aside0 (laws_FnLeastSpark.j2 kq t569 t570 t575 (wrap64 ((ji22) - 1)) t579 y587 x10_39 t584 x12_1 = some r) ∧ Aside0 (kq ≤ kj32) ∧ Aside0 (Kd.R (Kd.int .i64) 3 wc w.heap.size (fun k_ => some k_ ≠ ((.slice Ao27 t570.length co27) : Value).ownBlock ∧ some k_ ≠ (v588 : Value).ownBlock ∧ some k_ ≠ (v585 : Value).ownBlock) (.slice Ao26 t569.length co26) t569) ∧ Aside0 (Kd.R (Kd.int .i64) 3 wc w.heap.size (fun k_ => some k_ ≠ ((.slice Ao26 t569.length co26) : Value).ownBlock ∧ some k_ ≠ (v588 : Value).ownBlock ∧ some k_ ≠ (v585 : Value).ownBlock) (.slice Ao27 t570.length co27) t570) ∧ Aside0 (Kd.R (Kd.int .i64) 3 wc w.heap.size (fun k_ => some k_ ≠ ((.slice Ao26 t569.length co26) : Value).ownBlock ∧ some k_ ≠ ((.slice Ao27 t570.length co27) : Value).ownBlock ∧ some k_ ≠ (v585 : Value).ownBlock) v588 y587) ∧ Aside0 (Kd.R (Kd.int .i64) 3 wc w.heap.size (fun k_ => some k_ ≠ ((.slice Ao26 t569.length co26) : Value).ownBlock ∧ some k_ ≠ ((.slice Ao27 t570.length co27) : Value).ownBlock ∧ some k_ ≠ (v588 : Value).ownBlock) v585 t584) ∧ Aside0 (Below w.heap.size w wc))
                    case first =>
                      have H := HC40.out
                      clear HC40
                      by_cases c41 : x82_32 = true
                      · subst c41
                        have H1 : (laws_FnLeastSpark.j2 kj32 t569 t570 t575 (wrap64 ((ji22) - 1)) t579 y587 (wrap64 (x10_1 + 1)) t584 x12_1) = some r := by rw [if_pos rfl] at H; exact H
                        clear H
                        have H := H1
                        clear H1
                        have H' := Aside0.mk H
                        clear H
                        go_wp2
                        go_meet
                        case rel => exact ⟨_, (wrap64 (x10_1 + 1)), (by first | rfl | (simp; done) | (simp [*]; done)), H', ⟨by have := HK1.out; have := HJ32.out; first | omega | exact Nat.le_refl _⟩, ⟨by (with_reducible repeat (first | apply Kd.R_alloc | apply Kd.R_drewN | apply Kd.R_drew)); exact HO_3.out⟩, ⟨by (with_reducible repeat (first | apply Kd.R_alloc | apply Kd.R_drewN | apply Kd.R_drew)); exact HO_4.out⟩, ⟨by (with_reducible repeat (first | apply Kd.R_alloc | apply Kd.R_drewN | apply Kd.R_drew)); exact HO_9.out⟩, ⟨by (with_reducible repeat (first | apply Kd.R_alloc | apply Kd.R_drewN | apply Kd.R_drew)); exact HO_11.out⟩, ⟨zB HB.out⟩⟩
                      · replace c41 := Bool.eq_false_iff.mpr c41
                        subst c41
                        have H1 : (laws_FnLeastSpark.j2 kj32 t569 t570 t575 (wrap64 ((ji22) - 1)) t579 y587 x10_1 t584 x12_1) = some r := by rw [if_neg (show ¬ (false = true) by decide)] at H; exact H
                        clear H
                        have H := H1
                        clear H1
                        have H' := Aside0.mk H
                        clear H
                        go_wp2
                        go_meet
                        case rel => exact ⟨_, (x10_1), (by first | rfl | (simp; done) | (simp [*]; done)), H', ⟨by have := HK1.out; have := HJ32.out; first | omega | exact Nat.le_refl _⟩, ⟨by (with_reducible repeat (first | apply Kd.R_alloc | apply Kd.R_drewN | apply Kd.R_drew)); exact HO_3.out⟩, ⟨by (with_reducible repeat (first | apply Kd.R_alloc | apply Kd.R_drewN | apply Kd.R_drew)); exact HO_4.out⟩, ⟨by (with_reducible repeat (first | apply Kd.R_alloc | apply Kd.R_drewN | apply Kd.R_drew)); exact HO_9.out⟩, ⟨by (with_reducible repeat (first | apply Kd.R_alloc | apply Kd.R_drewN | apply Kd.R_drew)); exact HO_11.out⟩, ⟨zB HB.out⟩⟩
                    case rest =>
                      clear HC40
                      try clear c1
                      try clear c2
                      try clear c2b0
                      try clear c2b1
                      try clear p2
                      try clear c3
                      try clear c4
                      try clear p5
                      try clear q5
                      try clear hx5
                      try clear c6
                      try clear c6b0
                      try clear c6b1
                      try clear p6
                      try clear c7
                      try clear c7b0
                      try clear c8
                      try clear c8b0
                      try clear c8b1
                      try clear c10
                      try clear c16
                      try clear c19
                      try clear c30
                      try clear c31
                      try clear c31b0
                      try clear c32
                      try clear c33
                      try clear c35
                      try clear c35b0
                      try clear c35b1
                      try clear c35b2
                      try clear c36
                      try clear c36b0
                      try clear c37
                      try clear c37b0
                      try clear c41
                      try clear hx590_0
                      try clear p2
                      try clear p5
                      try clear p590
                      try clear p6
                      try clear q5
                      try clear q590
                      obtain ⟨kq, x10_39, rfl, HA, HJ39, HO_3, HO_4, HO_9, HO_11, HB⟩ := hcut
                      cases kq with
                      | zero => exact absurd HA.out (by simp [laws_FnLeastSpark.j2])
                      | succ kj39 =>
                        have H := HA.out
                        clear HA
                        simp only [laws_FnLeastSpark.j2] at H
                        by_cases c42 : 0 ≤ x12_1
                        · rw [if_pos c42] at H
                          have c42b0 := eq_true c42
                          have c42b1 : decide (0 ≤ x12_1) = true := decide_eq_true c42
                          clear c42
                          obtain ⟨ji43, hji43⟩ : ∃ j_ : Int, (shr .i64 t575 x12_1) = j_ := ⟨_, rfl⟩
                          replace H : (if (Int.tmod (ji43) 2) = 1 then ((impl_SpreadSet.f kj39 t569 t570 (wrap64 (t575 - (shl .i64 1 x12_1)))).bind fun bt591 => (if bt591.1 = (wrap64 ((ji22) - 1)) then (some false) else (laws_FnLeastSpark.l0 kj39 t569 t570 t575 (wrap64 ((ji22) - 1)) t579 y587 x10_39 t584 (wrap64 (x12_1 + 1))))) else (laws_FnLeastSpark.l0 kj39 t569 t570 t575 (wrap64 ((ji22) - 1)) t579 y587 x10_39 t584 (wrap64 (x12_1 + 1)))) = some r := by first | (rw [hji43] at H; exact H) | (simp only [hji43] at H ⊢; exact H)
                          have hji43_ : (t575 / 2 ^ min x12_1.toNat 64) = ji43 := hji43
                          have hji43z : x12_1 ≤ 64 → (t575 / 2 ^ x12_1.toNat) = ji43 := shr_small hji43
                          by_cases c44 : (Int.tmod (ji43) 2) = 1
                          · rw [if_pos c44] at H
                            have c44b0 : ((Int.tmod (ji43) 2) == 1) = true := beq_iff_eq.mpr c44
                            have c44b1 : ((Int.tmod (ji43) 2) != 1) = false := bne_eq_false_iff_eq.mpr c44
                            clear c44
                            have c45b0 := eq_true (of_decide_eq_true (by first | (with_reducible assumption) | assumption) : 0 ≤ x12_1)
                            obtain ⟨ji46, hji46⟩ : ∃ j_ : Int, (shl .i64 1 x12_1) = j_ := ⟨_, rfl⟩
                            replace H : ((impl_SpreadSet.f kj39 t569 t570 (wrap64 (t575 - (ji46)))).bind fun bt591 => (if bt591.1 = (wrap64 ((ji22) - 1)) then (some false) else (laws_FnLeastSpark.l0 kj39 t569 t570 t575 (wrap64 ((ji22) - 1)) t579 y587 x10_39 t584 (wrap64 (x12_1 + 1))))) = some r := by first | (rw [hji46] at H; exact H) | (simp only [hji46] at H ⊢; exact H)
                            have hji46_ : (IntKind.i64.wrap (1 * 2 ^ min x12_1.toNat 64)) = ji46 := hji46
                            have hji46z : x12_1 ≤ 64 → (IntKind.i64.wrap (1 * 2 ^ x12_1.toNat)) = ji46 := shl_small hji46
                            have hji46u : (IntKind.i64.wrap (2 ^ min x12_1.toNat 64)) = ji46 := by have h_ := hji46_; rw [Int.one_mul] at h_; exact h_
                            have hji46v : x12_1 ≤ 64 → (IntKind.i64.wrap (2 ^ x12_1.toNat)) = ji46 := fun hle_ => by have h_ := hji46z hle_; rw [Int.one_mul] at h_; exact h_
                            have hji46y : (wrap64 (1 * 2 ^ min x12_1.toNat 64)) = ji46 := (i64_w _).symm.trans hji46_
                            have hji46x : x12_1 ≤ 64 → (wrap64 (1 * 2 ^ x12_1.toNat)) = ji46 := fun h_ => (i64_w _).symm.trans (hji46z h_)
                            replace H := Option.bind_eq_some_iff.mp H
                            obtain ⟨⟨t591, t592⟩, A470, H⟩ := H
                            replace H : (if t591 = (wrap64 ((ji22) - 1)) then (some false) else (laws_FnLeastSpark.l0 kj39 t569 t570 t575 (wrap64 ((ji22) - 1)) t579 y587 x10_39 t584 (wrap64 (x12_1 + 1)))) = some r := H
                            have A47 := Aside0.mk A470
                            clear A470
                            by_cases c48 : t591 = (wrap64 ((ji22) - 1))
                            · rw [if_pos c48] at H
                              have c48b0 : (t591 == (wrap64 ((ji22) - 1))) = true := beq_iff_eq.mpr c48
                              have c48b1 : (t591 != (wrap64 ((ji22) - 1))) = false := bne_eq_false_iff_eq.mpr c48
                              clear c48
                              obtain rfl := Option.some.inj H
                              go_wp2_with (first | ((with_reducible refine gate_callee (f := 16) rfl ?_); refine goesL_ (some 97) rfl rfl Try.func16 (by kernel_rfl) rfl #[.slice Ao26 t569.length co26, .slice Ao27 t570.length co27, .int .i64 (wrap64 (t575 - (ji46)))] rfl (by (try simp only [List.map_toArray, List.map_cons, List.map_nil]); first | done | (simp only [hji46]; rfl) | rfl | (simp only [List.length_drop, List.length_take]; rfl)) ?_; (with_reducible refine (impl_SpreadSet.calls kj39 _ _ t569 _ _ t570 (wrap64 (t575 - (ji46))) t591 t592 _ ?side1 ?side2 ?side3 ?side4 A47.out).mono ?_); (case side1 => exact zC (Kd.R_reads' HO_3.out).2.2); (case side2 => exact (Kd.R_reads' HO_3.out).2.1); (case side3 => exact zC (Kd.R_reads' HO_4.out).2.2); (case side4 => exact (Kd.R_reads' HO_4.out).2.1); rintro e w' ⟨rfl, ⟨nd, rfl⟩⟩; refine ⟨_, rfl, ?_⟩))
                              go_ret
                              exact ⟨by first | rfl | (simp [errW_none, errW_some] <;> rfl) | (simp only [← hji22, ← hji43, ← hji46]; first | rfl | (simp [errW_none, errW_some] <;> rfl)) | (simp [*, errW_none, errW_some] <;> rfl), zB HB.out⟩
                            · rw [if_neg c48] at H
                              have c48b0 : (t591 == (wrap64 ((ji22) - 1))) = false := beq_eq_false_iff_ne.mpr c48
                              have c48b1 : (t591 != (wrap64 ((ji22) - 1))) = true := bne_iff_ne.mpr c48
                              have H' := Aside0.mk H
                              clear H
                              go_wp2_with (first | ((with_reducible refine gate_callee (f := 16) rfl ?_); refine goesL_ (some 97) rfl rfl Try.func16 (by kernel_rfl) rfl #[.slice Ao26 t569.length co26, .slice Ao27 t570.length co27, .int .i64 (wrap64 (t575 - (ji46)))] rfl (by (try simp only [List.map_toArray, List.map_cons, List.map_nil]); first | done | (simp only [hji46]; rfl) | rfl | (simp only [List.length_drop, List.length_take]; rfl)) ?_; (with_reducible refine (impl_SpreadSet.calls kj39 _ _ t569 _ _ t570 (wrap64 (t575 - (ji46))) t591 t592 _ ?side1 ?side2 ?side3 ?side4 A47.out).mono ?_); (case side1 => exact zC (Kd.R_reads' HO_3.out).2.2); (case side2 => exact (Kd.R_reads' HO_3.out).2.1); (case side3 => exact zC (Kd.R_reads' HO_4.out).2.2); (case side4 => exact (Kd.R_reads' HO_4.out).2.1); rintro e w' ⟨rfl, ⟨nd, rfl⟩⟩; refine ⟨_, rfl, ?_⟩))
                              go_roundg kj39
                              case measure => have := HK1.out; have := HJ32.out; have := HJ39.out; omega
                              case rel => exact ⟨(y587), (x10_39), (wrap64 (x12_1 + 1)), (by first | rfl | (simp; done) | (simp [*]; done)), (by first | rfl | (simp; done) | (simp [*]; done)), H', ⟨by have := HK1.out; have := HJ32.out; have := HJ39.out; omega⟩, ⟨by (with_reducible repeat (first | apply Kd.R_alloc | apply Kd.R_drewN | apply Kd.R_drew)); exact HO_3.out⟩, ⟨by (with_reducible repeat (first | apply Kd.R_alloc | apply Kd.R_drewN | apply Kd.R_drew)); exact HO_4.out⟩, ⟨by (with_reducible repeat (first | apply Kd.R_alloc | apply Kd.R_drewN | apply Kd.R_drew)); exact HO_9.out⟩, ⟨by (with_reducible repeat (first | apply Kd.R_alloc | apply Kd.R_drewN | apply Kd.R_drew)); exact HO_11.out⟩, ⟨zB HB.out⟩⟩
                          · rw [if_neg c44] at H
                            have c44b0 : ((Int.tmod (ji43) 2) == 1) = false := beq_eq_false_iff_ne.mpr c44
                            have c44b1 : ((Int.tmod (ji43) 2) != 1) = true := bne_iff_ne.mpr c44
                            have H' := Aside0.mk H
                            clear H
                            go_wp2
                            go_roundg kj39
                            case measure => have := HK1.out; have := HJ32.out; have := HJ39.out; omega
                            case rel => exact ⟨(y587), (x10_39), (wrap64 (x12_1 + 1)), (by first | rfl | (simp; done) | (simp [*]; done)), (by first | rfl | (simp; done) | (simp [*]; done)), H', ⟨by have := HK1.out; have := HJ32.out; have := HJ39.out; omega⟩, ⟨by (with_reducible repeat (first | apply Kd.R_alloc | apply Kd.R_drewN | apply Kd.R_drew)); exact HO_3.out⟩, ⟨by (with_reducible repeat (first | apply Kd.R_alloc | apply Kd.R_drewN | apply Kd.R_drew)); exact HO_4.out⟩, ⟨by (with_reducible repeat (first | apply Kd.R_alloc | apply Kd.R_drewN | apply Kd.R_drew)); exact HO_9.out⟩, ⟨by (with_reducible repeat (first | apply Kd.R_alloc | apply Kd.R_drewN | apply Kd.R_drew)); exact HO_11.out⟩, ⟨zB HB.out⟩⟩
                        · rw [if_neg c42] at H
                          exact absurd H (by simp)
              · rw [if_neg c32] at H
                exact absurd H (by simp)
            · rw [if_neg c31] at H
              have c31b0 : decide (x12_1 < (t569.length : Int)) = false := decide_eq_false c31
              clear c31
              replace H := Option.bind_eq_some_iff.mp H
              obtain ⟨t593, A490, H⟩ := H
              replace H : (laws_FnLeastSpark.l1 k1 t569 (wrap64 ((ji22) - 1)) t579 x10_1 t593 0 0) = some r := H
              have A49 := Aside0.mk A490
              clear A490
              have H' := Aside0.mk H
              clear H
              obtain ⟨Ao50, co50, eo50⟩ := Kd.R_slice HO_9.out
              subst eo50
              go_wp2_with (first | ((with_reducible refine gate_callee (f := 19) rfl ?_); refine goesL_ (some 105) rfl rfl Try.func19 (by kernel_rfl) rfl #[.slice Ao26 t569.length co26, .slice Ao50 x9_1.length co50] rfl zA ?_; (with_reducible refine (impl_LeastSpark.calls k1 _ _ t569 _ _ x9_1 t593 _ ?side1 ?side2 ?side3 ?side4 A49.out).mono ?_); (case side1 => exact zC (Kd.R_reads' HO_3.out).2.2); (case side2 => exact (Kd.R_reads' HO_3.out).2.1); (case side3 => exact zC (Kd.R_reads' HO_9.out).2.2); (case side4 => exact (Kd.R_reads' HO_9.out).2.1); rintro e w' ⟨rfl, ⟨nd, rfl⟩⟩; refine ⟨_, rfl, ?_⟩))
              go_loopg [16, 17] k1 (fun kq v16 v17 w' => ∃ (x16_2 : Int) (x17_2 : Int), v16 = .int .i64 x16_2 ∧ v17 = .int .i64 x17_2 ∧ Aside0 (laws_FnLeastSpark.l1 kq t569 (wrap64 ((ji22) - 1)) t579 x10_1 t593 x16_2 x17_2 = some r) ∧ Aside0 (kq ≤ k1) ∧ Aside0 (Kd.R (Kd.int .i64) 3 w' w.heap.size (fun _ => True) (.slice Ao26 t569.length co26) t569) ∧ Aside0 (Below w.heap.size w w'))
              case atStart => exact ⟨(0), (0), (by first | rfl | (simp; done) | (simp [*]; done)), (by first | rfl | (simp; done) | (simp [*]; done)), H', ⟨Nat.le_refl _⟩, ⟨by (with_reducible repeat (first | apply Kd.R_alloc | apply Kd.R_drewN | apply Kd.R_drew)); exact Kd.R_mono HO_3.out (fun _ hk => trivial)⟩, ⟨zB HB.out⟩⟩
              case round =>
                clear H'
                try clear c1
                try clear c2
                try clear c2b0
                try clear c2b1
                try clear p2
                try clear c3
                try clear c4
                try clear p5
                try clear q5
                try clear hx5
                try clear c6
                try clear c6b0
                try clear c6b1
                try clear p6
                try clear c7
                try clear c7b0
                try clear c8
                try clear c8b0
                try clear c8b1
                try clear c10
                try clear c16
                try clear c19
                try clear c30
                try clear c31
                try clear c31b0
                try clear c32
                try clear c33
                try clear c35
                try clear c35b0
                try clear c35b1
                try clear c35b2
                try clear c36
                try clear c36b0
                try clear c37
                try clear c37b0
                try clear c41
                try clear c42
                try clear c42b0
                try clear c42b1
                try clear c44
                try clear c44b0
                try clear c44b1
                try clear c45
                try clear c45b0
                try clear c48
                try clear c48b0
                try clear c48b1
                try clear hx590_0
                try clear p2
                try clear p5
                try clear p590
                try clear p6
                try clear q5
                try clear q590
                obtain ⟨x16_2, x17_2, rfl, rfl, HA, HK2, HO_3, HB⟩ := hrel
                cases gk with
                | zero => exact absurd HA.out (by simp [laws_FnLeastSpark.l1])
                | succ k2 =>
                  have H := HA.out
                  clear HA
                  simp only [laws_FnLeastSpark.l1] at H
                  by_cases c51 : x17_2 < (t569.length : Int)
                  · rw [if_pos c51] at H
                    have c51b0 : decide (x17_2 < (t569.length : Int)) = true := decide_eq_true c51
                    clear c51
                    obtain ⟨ji52, hji52⟩ : ∃ j_ : Int, (mx t593 0) = j_ := ⟨_, rfl⟩
                    replace H : (if 0 ≤ x17_2 then (laws_FnLeastSpark.l1 k2 t569 (wrap64 ((ji22) - 1)) t579 x10_1 t593 (wrap64 (x16_2 + ((shr .i64 (ji52) x17_2) % 2))) (wrap64 (x17_2 + 1))) else (none)) = some r := by first | (rw [hji52] at H; exact H) | (simp only [hji52] at H ⊢; exact H)
                    have hji52_ : (if t593 < 0 then 0 else t593) = ji52 := hji52
                    by_cases c53 : 0 ≤ x17_2
                    · rw [if_pos c53] at H
                      have c53b0 := eq_true c53
                      have c53b1 : decide (0 ≤ x17_2) = true := decide_eq_true c53
                      clear c53
                      obtain ⟨ji54, hji54⟩ : ∃ j_ : Int, (shr .i64 (ji52) x17_2) = j_ := ⟨_, rfl⟩
                      replace H : (laws_FnLeastSpark.l1 k2 t569 (wrap64 ((ji22) - 1)) t579 x10_1 t593 (wrap64 (x16_2 + ((ji54) % 2))) (wrap64 (x17_2 + 1))) = some r := by first | (rw [hji54] at H; exact H) | (simp only [hji54] at H ⊢; exact H)
                      have hji54_ : ((ji52) / 2 ^ min x17_2.toNat 64) = ji54 := hji54
                      have hji54z : x17_2 ≤ 64 → ((ji52) / 2 ^ x17_2.toNat) = ji54 := shr_small hji54
                      have H' := Aside0.mk H
                      clear H
                      go_wp2
                      go_roundg k2
                      case measure => have := HK1.out; have := HK2.out; omega
                      case rel => exact ⟨(wrap64 (x16_2 + ((ji54) % 2))), (wrap64 (x17_2 + 1)), (by first | rfl | (simp; done) | (simp only [← hji54, ← hji52, own_tmod]; done) | (simp only [← hji54] <;> (first | rfl | simp)) | (simp [*]; done)), (by first | rfl | (simp; done) | (simp [*]; done)), H', ⟨by have := HK1.out; have := HK2.out; omega⟩, ⟨by (with_reducible repeat (first | apply Kd.R_alloc | apply Kd.R_drewN | apply Kd.R_drew)); exact HO_3.out⟩, ⟨zB HB.out⟩⟩
                    · rw [if_neg c53] at H
                      exact absurd H (by simp)
                  · rw [if_neg c51] at H
                    have c51b0 : decide (x17_2 < (t569.length : Int)) = false := decide_eq_false c51
                    clear c51
                    by_cases c55 : t579 = (wrap64 ((ji22) - 1))
                    · rw [if_pos c55] at H
                      have c55b0 : (t579 == (wrap64 ((ji22) - 1))) = true := beq_iff_eq.mpr c55
                      have c55b1 : (t579 != (wrap64 ((ji22) - 1))) = false := bne_eq_false_iff_eq.mpr c55
                      clear c55
                      obtain rfl := Option.some.inj H
                      go_wp2
                      go_ret
                      exact ⟨by first | rfl | (simp [errW_none, errW_some] <;> rfl) | (simp only [← hji22]; first | rfl | (simp [errW_none, errW_some] <;> rfl)) | (simp [*, errW_none, errW_some] <;> rfl), zB HB.out⟩
                    · rw [if_neg c55] at H
                      have c55b0 : (t579 == (wrap64 ((ji22) - 1))) = false := beq_eq_false_iff_ne.mpr c55
                      have c55b1 : (t579 != (wrap64 ((ji22) - 1))) = true := bne_iff_ne.mpr c55
                      obtain rfl := Option.some.inj H
                      go_wp2
                      go_ret
                      exact ⟨by first | rfl | (simp [errW_none, errW_some] <;> rfl) | (simp only [← hji22]; first | rfl | (simp [errW_none, errW_some] <;> rfl)) | (simp [*, errW_none, errW_some] <;> rfl), zB HB.out⟩
    · rw [if_neg c6] at H
      have c6b0 : (t575 == t576) = false := beq_eq_false_iff_ne.mpr c6
      have c6b1 : (t575 != t576) = true := bne_iff_ne.mpr c6
      obtain rfl := Option.some.inj H
      go_enter Try.func7, Try.ntmps7
      go_wp2_with (first | ((with_reducible refine gate_callee (f := 30) rfl ?_); refine goesL_ (some 23) rfl rfl Try.func30 (by kernel_rfl) rfl #[.slice A0 l0.length c0] rfl zA ?_; (with_reducible refine (spec_DrawLeastSpark.calls k _ _ l0 t569 t570 _ ?side1 ?side2 A3.out).mono ?_); (case side1 => exact zC HR0.out); (case side2 => exact HC0.out); rintro e w56 ⟨v571, v573, rfl, ho0, ho1, hb⟩; refine ⟨_, rfl, ?_⟩; have n0_ := Aside0.mk (Kd.R_lower ho0 (below_size (zB HB.out))); have n1_ := Aside0.mk (Kd.R_lower ho1 (below_size (zB HB.out))); have n2_ := Aside0.mk (below_step (zB HB.out) hb); clear HB; have HO572 := n0_; have HO574 := n1_; have HB := n2_; clear n0_ n1_ n2_; (try clear hb); (try clear hb2); (try clear hk); (try clear hi); (try clear ho0); (try clear ho1); obtain ⟨Ao57, co57, eo57⟩ := Kd.R_slice HO572.out; subst eo57; obtain ⟨Ao58, co58, eo58⟩ := Kd.R_slice HO574.out; subst eo58) | ((with_reducible refine gate_callee (f := 19) rfl ?_); refine goesL_ (some 28) rfl rfl Try.func19 (by kernel_rfl) rfl #[.slice Ao57 t569.length co57, .slice Ao58 t570.length co58] rfl zA ?_; (with_reducible refine (impl_LeastSpark.calls k _ _ t569 _ _ t570 t575 _ ?side1 ?side2 ?side3 ?side4 A4.out).mono ?_); (case side1 => exact zC (Kd.R_reads' HO572.out).2.2); (case side2 => exact (Kd.R_reads' HO572.out).2.1); (case side3 => exact zC (Kd.R_reads' HO574.out).2.2); (case side4 => exact (Kd.R_reads' HO574.out).2.1); rintro e w' ⟨rfl, ⟨nd, rfl⟩⟩; refine ⟨_, rfl, ?_⟩) | ((with_reducible refine gate_callee (f := 31) rfl ?_); refine goesL_ (some 32) rfl rfl Try.func31 (by kernel_rfl) rfl #[.slice Ao57 t569.length co57, .slice Ao58 t570.length co58] rfl zA ?_; (with_reducible refine (spec_LeastSpark.calls k _ _ t569 _ _ t570 t576 _ ?side1 ?side2 ?side3 ?side4 A5.out).mono ?_); (case side1 => exact zC (Kd.R_reads' HO572.out).2.2); (case side2 => exact (Kd.R_reads' HO572.out).2.1); (case side3 => exact zC (Kd.R_reads' HO574.out).2.2); (case side4 => exact (Kd.R_reads' HO574.out).2.1); rintro e w' ⟨rfl, ⟨nd, rfl⟩⟩; refine ⟨_, rfl, ?_⟩))
      go_ret
      exact ⟨by first | rfl | (simp [errW_none, errW_some] <;> rfl) | (simp [*, errW_none, errW_some] <;> rfl), zB HB.out⟩

/-- THE ONE PURE STATEMENT of laws_FnLeastSpark: yours. -/
def laws_FnLeastSpark.Pure : Prop := ∀ (l0 : List Int), l0.length ≤ maxLen → l0.length * 1 ≤ 140737488351232 → (∀ x ∈ l0, (Lit.int .u8 x).wf = true) → ∃ k, laws_FnLeastSpark.f k l0 = some true
theorem laws_FnLeastSpark.walk (P : laws_FnLeastSpark.Pure) (a0 : Option Addr) (len0 cap0 : Nat) (z0 : List Int) (w : World) (w0 : (a0 = none ∧ len0 = 0 ∧ cap0 = 0 ∧ z0 = []) ∨ ∃ x, a0 = some x ∧ len0 ≤ cap0 ∧ cap0 ≤ maxLen ∧ z0.length = cap0 ∧ (∀ i, i < z0.length → w.cell? (x.add i) = some (.int .u8 (z0.getD i 0))) ∧ ∀ n ∈ z0, (Lit.int .u8 n).wf = true) (y0 : len0 * 1 ≤ 140737488351232) :
    Calls Try.prog 7 #[.slice a0 len0 cap0] w fun e w' => e = .returned (.bool true) ∧ Below w.heap.size w w' := by
  obtain ⟨l0, rfl, hr0, hm0, hw0, hc0⟩ := ReadsInt.ofRowC w0
  obtain ⟨k, h⟩ := P l0 hm0 y0 hw0
  refine (laws_FnLeastSpark.calls k _ _ l0 true w (Kd.C_of_reads (d := (0 : Int)) (h1 := fun _ => rfl) hr0) hc0 h).mono ?_
  rintro e w' ⟨rfl, hd⟩
  exact ⟨rfl, hd⟩

end Go.Proofs.Ytfhkahlfpchhpaa.PAll
