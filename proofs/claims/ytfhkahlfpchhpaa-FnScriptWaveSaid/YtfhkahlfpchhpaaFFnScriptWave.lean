/- Own text of this session, written by a program of this session (wip/t/own.py) out of what the kit tells of the functions: each Go function as a Lean function, and the walk through its code. -/
import Derived.Test.YtfhkahlfpchhpaaT
import Derived.Test.YtfhkahlfpchhpaaF0
import Derived.Test.YtfhkahlfpchhpaaF13
import Derived.Test.YtfhkahlfpchhpaaF32
import Derived.Test.YtfhkahlfpchhpaaF42
namespace Go.Proofs.Ytfhkahlfpchhpaa.PAll
open Go.RowKit Go.Proofs.YtfhkahlfpchhpaaW.PrintWords Go.Proofs.YtfhkahlfpchhpaaW.PrintLast Go.Proofs.YtfhkahlfpchhpaaW.PrintMore
attribute [local go_sem] max2_int min2_int max_two min_two max_three min_three max_four min_four   -- for this text's walks alone
set_option linter.unusedVariables false
set_option linter.unusedSimpArgs false

/-! ### laws_FnScriptWave: function 13 -/
mutual
def laws_FnScriptWave.l0 : Nat → List Int → Int → List (S64) → Int → Option (Bool)
  | 0, _, _, _, _ => none
  | k + 1, x3, x4, x5, x6 => if x6 < (x3.length : Int) then (if 0 ≤ x6 then (if (Int.tmod (shr .i64 x4 x6) 2) = 1 then (if x5.length < 8796093022208 then (laws_FnScriptWave.l0 k x3 x4 (x5 ++ [(⟨0, x6⟩ : S64)]) (wrap64 (x6 + 1))) else (none)) else (laws_FnScriptWave.l0 k x3 x4 x5 (wrap64 (x6 + 1)))) else (none)) else (if 0 ≤ (x3.length : Int) then (if ((x3.length : Int) : Int).toNat ≤ 35184372088832 then ((impl_ScriptFired.f k x3 3 (List.replicate ((x3.length : Int) : Int).toNat 0) x5 12).bind fun t1152 => ((impl_DistancesFrom.f k x3 x4).bind fun t1155 => (if (t1155.length : Int) = 0 then ((spec_DistancesFrom.f k x3 x4).bind fun t1158 => (if (t1158.length : Int) = 0 then ((laws_alive.f k).bind fun t1161 => (some t1161)) else (some false))) else (laws_FnScriptWave.l1 k x3 t1152 t1155 0)))) else (none)) else (none))
def laws_FnScriptWave.l1 : Nat → List Int → List Int → List Int → Int → Option (Bool)
  | 0, _, _, _, _ => none
  | k + 1, x3, x7, x8, x9 => if x9 < (x3.length : Int) then (if (x8.length : Int) = (x3.length : Int) then (laws_FnScriptWave.j2 k x3 x7 x8 x9 0 ((x7.length : Int) != (x3.length : Int))) else (laws_FnScriptWave.j2 k x3 x7 x8 x9 0 true)) else ((laws_alive.f k).bind fun t1162 => (some t1162))
def laws_FnScriptWave.j2 : Nat → List Int → List Int → List Int → Int → Int → Bool → Option (Bool)
  | 0, _, _, _, _, _, _ => none
  | k + 1, x3, x7, x8, x9, x10, x73 => if x73 = true then (some false) else (if 0 ≤ x9 then (if x9 < (x8.length : Int) then (if (rd x8 x9) ≥ 0 then (if x9 < (x7.length : Int) then (if (rd x7 x9) = 1 then (laws_FnScriptWave.l1 k x3 x7 x8 (wrap64 (x9 + 1))) else (some false)) else (none)) else (if x9 < (x7.length : Int) then (if (rd x7 x9) = x10 then (laws_FnScriptWave.l1 k x3 x7 x8 (wrap64 (x9 + 1))) else (some false)) else (none))) else (none)) else (none))
end
def laws_FnScriptWave.f (k : Nat) (l0 : List Int) : Option (Bool) := if (l0.length : Int) > 1048576 then (some true) else ((spec_DrawNearOf.f k l0).bind fun bt1139 => (laws_FnScriptWave.l0 k bt1139.1 bt1139.2 (([] : List (S64))) 0))
theorem laws_FnScriptWave.mono_l : ∀ k, (∀ y0 y1 y2 y3, LeO (laws_FnScriptWave.l0 k y0 y1 y2 y3) (laws_FnScriptWave.l0 (k + 1) y0 y1 y2 y3)) ∧ (∀ y0 y1 y2 y3, LeO (laws_FnScriptWave.l1 k y0 y1 y2 y3) (laws_FnScriptWave.l1 (k + 1) y0 y1 y2 y3)) ∧ (∀ y0 y1 y2 y3 y4 y5, LeO (laws_FnScriptWave.j2 k y0 y1 y2 y3 y4 y5) (laws_FnScriptWave.j2 (k + 1) y0 y1 y2 y3 y4 y5))
  | 0 => ⟨fun _ _ _ _ r h => by simp [laws_FnScriptWave.l0] at h, fun _ _ _ _ r h => by simp [laws_FnScriptWave.l1] at h, fun _ _ _ _ _ _ r h => by simp [laws_FnScriptWave.j2] at h⟩
  | k + 1 => by
    obtain ⟨ih0, ih1, ih2⟩ := laws_FnScriptWave.mono_l k
    refine ⟨?_, ?_, ?_⟩
    · intro y0 y1 y2 y3
      unfold laws_FnScriptWave.l0
      repeat' first
      | (with_reducible exact ih0 _ _ _ _)
      | (with_reducible exact ih1 _ _ _ _)
      | (with_reducible exact ih2 _ _ _ _ _ _)
      | (with_reducible exact impl_DistancesFrom.mono _ _ _)
      | (with_reducible exact impl_ScriptFired.mono _ _ _ _ _ _)
      | (with_reducible exact laws_alive.mono _)
      | (with_reducible exact spec_DistancesFrom.mono _ _ _)
      | (with_reducible exact spec_DrawNearOf.mono _ _)
      | (with_reducible exact LeO.refl _)
      | (with_reducible exact LeO.none _)
      | (with_reducible refine LeO.ite ?_ ?_)
      | (with_reducible refine LeO.bind ?_ (fun _ => ?_))
      | exact ih0 _ _ _ _
      | exact ih1 _ _ _ _
      | exact ih2 _ _ _ _ _ _
      | exact impl_DistancesFrom.mono _ _ _
      | exact impl_ScriptFired.mono _ _ _ _ _ _
      | exact laws_alive.mono _
      | exact spec_DistancesFrom.mono _ _ _
      | exact spec_DrawNearOf.mono _ _
      | exact LeO.none _
      | refine LeO.ite ?_ ?_
      | refine LeO.bind ?_ (fun _ => ?_)
    · intro y0 y1 y2 y3
      unfold laws_FnScriptWave.l1
      repeat' first
      | (with_reducible exact ih0 _ _ _ _)
      | (with_reducible exact ih1 _ _ _ _)
      | (with_reducible exact ih2 _ _ _ _ _ _)
      | (with_reducible exact impl_DistancesFrom.mono _ _ _)
      | (with_reducible exact impl_ScriptFired.mono _ _ _ _ _ _)
      | (with_reducible exact laws_alive.mono _)
      | (with_reducible exact spec_DistancesFrom.mono _ _ _)
      | (with_reducible exact spec_DrawNearOf.mono _ _)
      | (with_reducible exact LeO.refl _)
      | (with_reducible exact LeO.none _)
      | (with_reducible refine LeO.ite ?_ ?_)
      | (with_reducible refine LeO.bind ?_ (fun _ => ?_))
      | exact ih0 _ _ _ _
      | exact ih1 _ _ _ _
      | exact ih2 _ _ _ _ _ _
      | exact impl_DistancesFrom.mono _ _ _
      | exact impl_ScriptFired.mono _ _ _ _ _ _
      | exact laws_alive.mono _
      | exact spec_DistancesFrom.mono _ _ _
      | exact spec_DrawNearOf.mono _ _
      | exact LeO.none _
      | refine LeO.ite ?_ ?_
      | refine LeO.bind ?_ (fun _ => ?_)
    · intro y0 y1 y2 y3 y4 y5
      unfold laws_FnScriptWave.j2
      repeat' first
      | (with_reducible exact ih0 _ _ _ _)
      | (with_reducible exact ih1 _ _ _ _)
      | (with_reducible exact ih2 _ _ _ _ _ _)
      | (with_reducible exact impl_DistancesFrom.mono _ _ _)
      | (with_reducible exact impl_ScriptFired.mono _ _ _ _ _ _)
      | (with_reducible exact laws_alive.mono _)
      | (with_reducible exact spec_DistancesFrom.mono _ _ _)
      | (with_reducible exact spec_DrawNearOf.mono _ _)
      | (with_reducible exact LeO.refl _)
      | (with_reducible exact LeO.none _)
      | (with_reducible refine LeO.ite ?_ ?_)
      | (with_reducible refine LeO.bind ?_ (fun _ => ?_))
      | exact ih0 _ _ _ _
      | exact ih1 _ _ _ _
      | exact ih2 _ _ _ _ _ _
      | exact impl_DistancesFrom.mono _ _ _
      | exact impl_ScriptFired.mono _ _ _ _ _ _
      | exact laws_alive.mono _
      | exact spec_DistancesFrom.mono _ _ _
      | exact spec_DrawNearOf.mono _ _
      | exact LeO.none _
      | refine LeO.ite ?_ ?_
      | refine LeO.bind ?_ (fun _ => ?_)
theorem laws_FnScriptWave.mono : ∀ a0 k, LeO (laws_FnScriptWave.f k a0) (laws_FnScriptWave.f (k + 1) a0) := by
  intro a0 k
  obtain ⟨ih0, ih1, ih2⟩ := laws_FnScriptWave.mono_l k
  unfold laws_FnScriptWave.f
  repeat' first
      | (with_reducible exact ih0 _ _ _ _)
      | (with_reducible exact ih1 _ _ _ _)
      | (with_reducible exact ih2 _ _ _ _ _ _)
      | (with_reducible exact impl_DistancesFrom.mono _ _ _)
      | (with_reducible exact impl_ScriptFired.mono _ _ _ _ _ _)
      | (with_reducible exact laws_alive.mono _)
      | (with_reducible exact spec_DistancesFrom.mono _ _ _)
      | (with_reducible exact spec_DrawNearOf.mono _ _)
      | (with_reducible exact LeO.refl _)
      | (with_reducible exact LeO.none _)
      | (with_reducible refine LeO.ite ?_ ?_)
      | (with_reducible refine LeO.bind ?_ (fun _ => ?_))
      | exact ih0 _ _ _ _
      | exact ih1 _ _ _ _
      | exact ih2 _ _ _ _ _ _
      | exact impl_DistancesFrom.mono _ _ _
      | exact impl_ScriptFired.mono _ _ _ _ _ _
      | exact laws_alive.mono _
      | exact spec_DistancesFrom.mono _ _ _
      | exact spec_DrawNearOf.mono _ _
      | exact LeO.none _
      | refine LeO.ite ?_ ?_
      | refine LeO.bind ?_ (fun _ => ?_)
set_option maxHeartbeats 8000000 in
set_option maxRecDepth 100000 in
theorem laws_FnScriptWave.calls (k : Nat) (A0 : Option Addr) (c0 : Nat) (l0 : List Int) (r : Bool) (w : World) (hr0 : Kd.C (Kd.int .u8) w A0 l0.length l0) (hc0 : l0.length ≤ c0) (h : laws_FnScriptWave.f k l0 = some r) :
    Calls Try.prog 13 #[.slice A0 l0.length c0] w fun e w' => e = .returned (.bool r) ∧ Below w.heap.size w w' := by
  have hu64 := Try.underlying64
  have HR0 := Aside0.mk hr0
  have HC0 := Aside0.mk hc0
  clear hr0 hc0
  have HB := Aside0.mk (Below.refl w.heap.size w)
  have H : (if (l0.length : Int) > 1048576 then (some true) else ((spec_DrawNearOf.f k l0).bind fun bt1139 => (laws_FnScriptWave.l0 k bt1139.1 bt1139.2 (([] : List (S64))) 0))) = some r := h
  clear h
  by_cases c2 : (l0.length : Int) > 1048576
  · rw [if_pos c2] at H
    have c2b0 : decide (1048576 < (l0.length : Int)) = true := decide_eq_true c2
    have c2b1 : decide (1048576 < l0.length) = true := decide_eq_true (by omega)
    clear c2
    obtain rfl := Option.some.inj H
    go_enter Try.func13, Try.ntmps13
    go_wp2
    go_ret
    exact ⟨by first | rfl | (simp [errW_none, errW_some] <;> rfl) | (simp [*, errW_none, errW_some] <;> rfl), zB HB.out⟩
  · rw [if_neg c2] at H
    have c2b0 : decide (1048576 < (l0.length : Int)) = false := decide_eq_false c2
    have c2b1 : decide (1048576 < l0.length) = false := decide_eq_false (by omega)
    clear c2
    replace H := Option.bind_eq_some_iff.mp H
    obtain ⟨⟨t1139, t1140⟩, A30, H⟩ := H
    replace H : (laws_FnScriptWave.l0 k t1139 t1140 (([] : List (S64))) 0) = some r := H
    have A3 := Aside0.mk A30
    clear A30
    obtain ⟨y1143, hy1143⟩ : ∃ y_ : List (S64), y_ = (([] : List (S64))) := ⟨_, rfl⟩
    replace H : (laws_FnScriptWave.l0 k t1139 t1140 y1143 0) = some r := by first | (rw [hy1143]; with_reducible exact H) | (have H2_ := (Option.bind_some _ _).symm.trans H; rw [hy1143]; with_reducible exact H2_) | (have H2_ := (Option.bind_some _ _).symm.trans H; with_reducible exact H2_) | with_reducible exact H | (rw [hy1143]; exact H) | exact H
    have Ny1143 := Aside0.mk hy1143
    clear hy1143
    have H' := Aside0.mk H
    clear H
    go_enter Try.func13, Try.ntmps13
    go_wp2_with (first | ((with_reducible refine gate_callee (f := 55) rfl ?_); refine goesL_ (some 16) rfl rfl Try.func55 (by kernel_rfl) rfl #[.slice A0 l0.length c0] rfl zA ?_; (with_reducible refine (spec_DrawNearOf.calls k _ _ l0 t1139 t1140 _ ?side1 ?side2 A3.out).mono ?_); (case side1 => exact zC HR0.out); (case side2 => exact HC0.out); rintro e w4 ⟨v1141, rfl, ho0, hb⟩; refine ⟨_, rfl, ?_⟩; have n0_ := Aside0.mk (Kd.R_lower ho0 (below_size (zB HB.out))); have n1_ := Aside0.mk (below_step (zB HB.out) hb); clear HB; have HO1142 := n0_; have HB := n1_; clear n0_ n1_; (try clear hb); (try clear hb2); (try clear hk); (try clear hi); (try clear ho0)) | ((with_reducible refine gate_dst (N := 19) rfl ?_); (try (refine gate_guard (by rfl) ?_; dsimp only)); refine Kd.R_lit k64 _ 64 ?hg (N := 19) ?hd (xs := ([] : List (S64))) (inner := []) (ok := fun _ => True) (okp := fun _ => True) ?hr ?hp (fun _ hk => hk) trivial (Below.refl _ _) (Nat.le_refl _) (by simp) ?_; (case hd => rfl); (case hg => rfl); (case hr => first | (go_simp; done) | (go_simp; rfl)); (case hp => exact (Reps.none _ _)); intro v1144 w5 ho6 hb hg_ hnew_; clear hg_ hnew_; (first | rw [← Ny1143.out] at ho6 | (simp only [Int.reduceToNat] at ho6; rw [← Ny1143.out] at ho6)); have n0_ := Aside0.mk (Kd.R_below (zR HO1142.out) hb); have n1_ := Aside0.mk (Kd.R_lower ho6 (below_size (zB HB.out))); have n2_ := Aside0.mk (below_step (zB HB.out) hb); clear HO1142; clear HB; have HO1142 := n0_; have HO1145 := n1_; have HB := n2_; clear n0_ n1_ n2_; clear hb ho6))
    go_loopg [5, 6] k (fun kq v5 v6 w' => ∃ (x5_1 : List (S64)) (x6_1 : Int), v6 = .int .i64 x6_1 ∧ Aside0 (laws_FnScriptWave.l0 kq t1139 t1140 x5_1 x6_1 = some r) ∧ Aside0 (kq ≤ k) ∧ Aside0 (Kd.R (Kd.int .i64) 3 w' w.heap.size (fun _ => True) v1141 t1139) ∧ Aside0 (Kd.R k64 64 w' w.heap.size (fun _ => True) v5 x5_1) ∧ Aside0 (Below w.heap.size w w'))
    case atStart => exact ⟨(y1143), (0), (by first | rfl | (simp; done) | (simp [*]; done)), H', ⟨Nat.le_refl _⟩, ⟨by (with_reducible repeat (first | apply Kd.R_alloc | apply Kd.R_drewN | apply Kd.R_drew)); exact HO1142.out⟩, ⟨by (with_reducible repeat (first | apply Kd.R_alloc | apply Kd.R_drewN | apply Kd.R_drew)); exact HO1145.out⟩, ⟨zB HB.out⟩⟩
    case round =>
      clear H'
      try clear c1
      try clear c2
      try clear c2b0
      try clear c2b1
      try clear p2
      try clear c5
      obtain ⟨x5_1, x6_1, rfl, HA, HK1, HO_3, HO_5, HB⟩ := hrel
      cases gk with
      | zero => exact absurd HA.out (by simp [laws_FnScriptWave.l0])
      | succ k1 =>
        have H := HA.out
        clear HA
        simp only [laws_FnScriptWave.l0] at H
        by_cases c7 : x6_1 < (t1139.length : Int)
        · rw [if_pos c7] at H
          have c7b0 : decide (x6_1 < (t1139.length : Int)) = true := decide_eq_true c7
          clear c7
          by_cases c8 : 0 ≤ x6_1
          · rw [if_pos c8] at H
            have c8b0 := eq_true c8
            have c8b1 : decide (0 ≤ x6_1) = true := decide_eq_true c8
            clear c8
            obtain ⟨ji9, hji9⟩ : ∃ j_ : Int, (shr .i64 t1140 x6_1) = j_ := ⟨_, rfl⟩
            replace H : (if (Int.tmod (ji9) 2) = 1 then (if x5_1.length < 8796093022208 then (laws_FnScriptWave.l0 k1 t1139 t1140 (x5_1 ++ [(⟨0, x6_1⟩ : S64)]) (wrap64 (x6_1 + 1))) else (none)) else (laws_FnScriptWave.l0 k1 t1139 t1140 x5_1 (wrap64 (x6_1 + 1)))) = some r := by first | (rw [hji9] at H; exact H) | (simp only [hji9] at H ⊢; exact H)
            have hji9_ : (t1140 / 2 ^ min x6_1.toNat 64) = ji9 := hji9
            have hji9z : x6_1 ≤ 64 → (t1140 / 2 ^ x6_1.toNat) = ji9 := shr_small hji9
            by_cases c10 : (Int.tmod (ji9) 2) = 1
            · rw [if_pos c10] at H
              have c10b0 : ((Int.tmod (ji9) 2) == 1) = true := beq_iff_eq.mpr c10
              have c10b1 : ((Int.tmod (ji9) 2) != 1) = false := bne_eq_false_iff_eq.mpr c10
              clear c10
              by_cases c11 : x5_1.length < 8796093022208
              · rw [if_pos c11] at H
                have LMc11 := Aside0.mk c11
                clear c11
                obtain ⟨y1146, hy1146⟩ : ∃ y_ : List (S64), y_ = (x5_1 ++ [(⟨0, x6_1⟩ : S64)]) := ⟨_, rfl⟩
                replace H : (laws_FnScriptWave.l0 k1 t1139 t1140 y1146 (wrap64 (x6_1 + 1))) = some r := by first | (rw [hy1146]; with_reducible exact H) | (have H2_ := (Option.bind_some _ _).symm.trans H; rw [hy1146]; with_reducible exact H2_) | (have H2_ := (Option.bind_some _ _).symm.trans H; with_reducible exact H2_) | with_reducible exact H | (rw [hy1146]; exact H) | exact H
                have Ny1146 := Aside0.mk hy1146
                clear hy1146
                have H' := Aside0.mk H
                clear H
                obtain ⟨Ao12, co12, eo12⟩ := Kd.R_slice HO_3.out
                subst eo12
                go_wp2_with (first | ((with_reducible refine gate_builtin (b := .append) (xs := #[.tmp 31, .tmp 34]) rfl ?_); (try (refine gate_guard (by rfl) ?_; dsimp only)); at_builtin; refine Kd.R_append k64 (w0 := w) w.heap.size rfl (.tmp 31) (.tmp 34) 53 64 (.agg #[(.int .i64 0), (.int .i64 0)]) 16 rfl Try.underlying53 info64 rfl (by decide) (by omega) u5 x5_1 (⟨0, x6_1⟩ : S64) [.int .i64 0, .int .i64 x6_1] (fun _ => True) (fun _ => False) rfl rfl ?aP (fun _ hk => hk.elim) ?aF ?aO ?aB ?aS ?aL ?_; (case aP => exact k64_mkM _ _ _ (⟨0, x6_1⟩ : S64)); (case aB => exact (zB HB.out)); (case aF => exact (fun _ _ => trivial)); (case aO => exact (zR HO_5.out)); (case aS => exact (below_size (zB HB.out))); (case aL => have := LMc11.out; omega); intro v1147 w13 ho hb hg hat; rw [← Ny1146.out] at ho; have n0_ := Aside0.mk (Kd.R_over' (zR HO_3.out) (Kd.R_typed (zR HO_5.out)) (by decide) hg); have n1_ := Aside0.mk (hb); have n2_ := Aside0.mk (ho); clear HO_3; clear HB; clear HO_5; have HO_3 := n0_; have HB := n1_; have HO1148 := n2_; clear n0_ n1_ n2_; clear ho hb hg hat))
                go_roundg k1
                case measure => have := HK1.out; omega
                case rel => exact ⟨(y1146), (wrap64 (x6_1 + 1)), (by first | rfl | (simp; done) | (simp [*]; done)), H', ⟨by have := HK1.out; omega⟩, ⟨by (with_reducible repeat (first | apply Kd.R_alloc | apply Kd.R_drewN | apply Kd.R_drew)); exact HO_3.out⟩, ⟨by (with_reducible repeat (first | apply Kd.R_alloc | apply Kd.R_drewN | apply Kd.R_drew)); exact HO1148.out⟩, ⟨zB HB.out⟩⟩
              · rw [if_neg c11] at H
                exact absurd H (by simp)
            · rw [if_neg c10] at H
              have c10b0 : ((Int.tmod (ji9) 2) == 1) = false := beq_eq_false_iff_ne.mpr c10
              have c10b1 : ((Int.tmod (ji9) 2) != 1) = true := bne_iff_ne.mpr c10
              have H' := Aside0.mk H
              clear H
              obtain ⟨Ao14, co14, eo14⟩ := Kd.R_slice HO_3.out
              subst eo14
              go_wp2
              go_roundg k1
              case measure => have := HK1.out; omega
              case rel => exact ⟨(x5_1), (wrap64 (x6_1 + 1)), (by first | rfl | (simp; done) | (simp [*]; done)), H', ⟨by have := HK1.out; omega⟩, ⟨by (with_reducible repeat (first | apply Kd.R_alloc | apply Kd.R_drewN | apply Kd.R_drew)); exact HO_3.out⟩, ⟨by (with_reducible repeat (first | apply Kd.R_alloc | apply Kd.R_drewN | apply Kd.R_drew)); exact HO_5.out⟩, ⟨zB HB.out⟩⟩
          · rw [if_neg c8] at H
            exact absurd H (by simp)
        · rw [if_neg c7] at H
          have c7b0 : decide (x6_1 < (t1139.length : Int)) = false := decide_eq_false c7
          clear c7
          by_cases c15 : 0 ≤ (t1139.length : Int)
          · rw [if_pos c15] at H
            have c15b0 := eq_true c15
            have c15b1 : decide (0 ≤ (t1139.length : Int)) = true := decide_eq_true c15
            clear c15
            by_cases c16 : ((t1139.length : Int) : Int).toNat ≤ 35184372088832
            · rw [if_pos c16] at H
              have c16b0 := eq_true c16
              have c16b1 : decide (((t1139.length : Int) : Int).toNat ≤ 35184372088832) = true := decide_eq_true c16
              clear c16
              obtain ⟨y1149, hy1149⟩ : ∃ y_ : List Int, y_ = (List.replicate ((t1139.length : Int) : Int).toNat 0) := ⟨_, rfl⟩
              replace H : ((impl_ScriptFired.f k1 t1139 3 y1149 x5_1 12).bind fun t1152 => ((impl_DistancesFrom.f k1 t1139 t1140).bind fun t1155 => (if (t1155.length : Int) = 0 then ((spec_DistancesFrom.f k1 t1139 t1140).bind fun t1158 => (if (t1158.length : Int) = 0 then ((laws_alive.f k1).bind fun t1161 => (some t1161)) else (some false))) else (laws_FnScriptWave.l1 k1 t1139 t1152 t1155 0)))) = some r := by first | (rw [hy1149]; with_reducible exact H) | (have H2_ := (Option.bind_some _ _).symm.trans H; rw [hy1149]; with_reducible exact H2_) | (have H2_ := (Option.bind_some _ _).symm.trans H; with_reducible exact H2_) | with_reducible exact H | (rw [hy1149]; exact H) | exact H
              have Ny1149 := Aside0.mk hy1149
              clear hy1149
              replace H := Option.bind_eq_some_iff.mp H
              obtain ⟨t1152, A170, H⟩ := H
              replace H : ((impl_DistancesFrom.f k1 t1139 t1140).bind fun t1155 => (if (t1155.length : Int) = 0 then ((spec_DistancesFrom.f k1 t1139 t1140).bind fun t1158 => (if (t1158.length : Int) = 0 then ((laws_alive.f k1).bind fun t1161 => (some t1161)) else (some false))) else (laws_FnScriptWave.l1 k1 t1139 t1152 t1155 0))) = some r := H
              have A17 := Aside0.mk A170
              clear A170
              replace H := Option.bind_eq_some_iff.mp H
              obtain ⟨t1155, A180, H⟩ := H
              replace H : (if (t1155.length : Int) = 0 then ((spec_DistancesFrom.f k1 t1139 t1140).bind fun t1158 => (if (t1158.length : Int) = 0 then ((laws_alive.f k1).bind fun t1161 => (some t1161)) else (some false))) else (laws_FnScriptWave.l1 k1 t1139 t1152 t1155 0)) = some r := H
              have A18 := Aside0.mk A180
              clear A180
              by_cases c19 : (t1155.length : Int) = 0
              · rw [if_pos c19] at H
                have c19b0 : ((t1155.length : Int) == 0) = true := beq_iff_eq.mpr c19
                have c19b1 : ((t1155.length : Int) != 0) = false := bne_eq_false_iff_eq.mpr c19
                clear c19
                replace H := Option.bind_eq_some_iff.mp H
                obtain ⟨t1158, A200, H⟩ := H
                replace H : (if (t1158.length : Int) = 0 then ((laws_alive.f k1).bind fun t1161 => (some t1161)) else (some false)) = some r := H
                have A20 := Aside0.mk A200
                clear A200
                by_cases c21 : (t1158.length : Int) = 0
                · rw [if_pos c21] at H
                  have c21b0 : ((t1158.length : Int) == 0) = true := beq_iff_eq.mpr c21
                  have c21b1 : ((t1158.length : Int) != 0) = false := bne_eq_false_iff_eq.mpr c21
                  clear c21
                  replace H := Option.bind_eq_some_iff.mp H
                  obtain ⟨t1161, A220, H⟩ := H
                  replace H : (some t1161) = some r := H
                  have A22 := Aside0.mk A220
                  clear A220
                  obtain rfl := Option.some.inj H
                  obtain ⟨Ao23, co23, eo23⟩ := Kd.R_slice HO_3.out
                  subst eo23
                  go_wp2_with (first | ((with_reducible refine gate_dst (N := 39) rfl ?_); (try (refine gate_guard (by rfl) ?_; dsimp only)); refine Kd.R_make (Kd.int .i64) _ 3 rfl (N := 39) rfl 23 _ _ rfl (t1139.length : Int) rfl rfl Try.underlying23 (.int .i64 0) 8 info3 rfl (by decide) (by omega) 0 (ok := fun _ => True) (okp := fun _ => True) rfl (fun _ hk => hk) trivial (of_decide_eq_true (by first | (with_reducible assumption) | assumption)) (Nat.le_trans (Nat.mul_le_mul_right _ (of_decide_eq_true (by first | (with_reducible assumption) | assumption) : (t1139.length : Int).toNat ≤ 35184372088832)) (by omega)) (Below.refl _ _) (Nat.le_refl _) ?_; intro v1150 w24 ho25 hb hg_ hnew_; clear hg_ hnew_; (first | rw [← Ny1149.out] at ho25 | (simp only [Int.reduceToNat] at ho25; rw [← Ny1149.out] at ho25)); have n0_ := Aside0.mk (Kd.R_elder' (zR HO_3.out) (Kd.R_base ho25) hb); have n1_ := Aside0.mk (Kd.R_below (zR HO_5.out) hb); have n2_ := Aside0.mk (Kd.R_lower (Kd.R_new' ho25 (Kd.R_lt (zR HO_3.out))) (below_size (zB HB.out))); have n3_ := Aside0.mk (below_step (zB HB.out) hb); clear HO_3; clear HO_5; clear HB; have HO_3 := n0_; have HO_5 := n1_; have HO1151 := n2_; have HB := n3_; clear n0_ n1_ n2_ n3_; clear hb ho25; obtain ⟨Ao26, co26, eo26⟩ := Kd.R_slice HO1151.out; subst eo26; obtain ⟨Ao27, co27, eo27⟩ := Kd.R_slice HO_5.out; subst eo27) | ((with_reducible refine gate_callee (f := 51) rfl ?_); refine goesL_ (some 41) rfl rfl Try.func51 (by kernel_rfl) rfl #[.slice Ao23 t1139.length co23, .int .i64 3, .slice Ao26 y1149.length co26, .slice Ao27 x5_1.length co27, .int .i64 12] rfl zA ?_; (with_reducible refine (impl_ScriptFired.calls k1 _ _ t1139 3 _ _ y1149 _ _ x5_1 12 t1152 _ ?side1 ?side2 ?side3 ?side4 ?side5 ?side6 A17.out).mono ?_); (case side1 => exact zC (Kd.R_reads' HO_3.out).2.2); (case side2 => exact (Kd.R_reads' HO_3.out).2.1); (case side3 => exact zC (Kd.R_reads' HO1151.out).2.2); (case side4 => exact (Kd.R_reads' HO1151.out).2.1); (case side5 => exact zC (Kd.R_reads' HO_5.out).2.2); (case side6 => exact (Kd.R_reads' HO_5.out).2.1); rintro e w28 ⟨v1153, rfl, ho0, hb⟩; refine ⟨_, rfl, ?_⟩; have n0_ := Aside0.mk (Kd.R_elder' (zR HO_3.out) (Kd.R_base ho0) hb); have n1_ := Aside0.mk (Kd.R_below (zR HO_5.out) hb); have n2_ := Aside0.mk (Kd.R_elder' (zR HO1151.out) (Kd.R_base ho0) hb); have n3_ := Aside0.mk (Kd.R_lower (Kd.R_new' (Kd.R_new' ho0 (Kd.R_lt (zR HO_3.out))) (Kd.R_lt (zR HO1151.out))) (below_size (zB HB.out))); have n4_ := Aside0.mk (below_step (zB HB.out) hb); clear HO_3; clear HO_5; clear HO1151; clear HB; have HO_3 := n0_; have HO_5 := n1_; have HO1151 := n2_; have HO1154 := n3_; have HB := n4_; clear n0_ n1_ n2_ n3_ n4_; (try clear hb); (try clear hb2); (try clear hk); (try clear hi); (try clear ho0)) | ((with_reducible refine gate_callee (f := 20) rfl ?_); refine goesL_ (some 44) rfl rfl Try.func20 (by kernel_rfl) rfl #[.slice Ao23 t1139.length co23, .int .i64 t1140] rfl zA ?_; (with_reducible refine (impl_DistancesFrom.calls k1 _ _ t1139 t1140 t1155 _ ?side1 ?side2 A18.out).mono ?_); (case side1 => exact zC (Kd.R_reads' HO_3.out).2.2); (case side2 => exact (Kd.R_reads' HO_3.out).2.1); rintro e w29 ⟨v1156, rfl, ho0, hb⟩; refine ⟨_, rfl, ?_⟩; have n0_ := Aside0.mk (Kd.R_elder' (zR HO_3.out) (Kd.R_base ho0) hb); have n1_ := Aside0.mk (Kd.R_below (zR HO_5.out) hb); have n2_ := Aside0.mk (Kd.R_elder' (zR HO1151.out) (Kd.R_base ho0) hb); have n3_ := Aside0.mk (Kd.R_elder' (zR HO1154.out) (Kd.R_base ho0) hb); have n4_ := Aside0.mk (Kd.R_lower (Kd.R_new' (Kd.R_new' (Kd.R_new' ho0 (Kd.R_lt (zR HO_3.out))) (Kd.R_lt (zR HO1151.out))) (Kd.R_lt (zR HO1154.out))) (below_size (zB HB.out))); have n5_ := Aside0.mk (below_step (zB HB.out) hb); clear HO_3; clear HO_5; clear HO1151; clear HO1154; clear HB; have HO_3 := n0_; have HO_5 := n1_; have HO1151 := n2_; have HO1154 := n3_; have HO1157 := n4_; have HB := n5_; clear n0_ n1_ n2_ n3_ n4_ n5_; (try clear hb); (try clear hb2); (try clear hk); (try clear hi); (try clear ho0); obtain ⟨Ao30, co30, eo30⟩ := Kd.R_slice HO1157.out; subst eo30) | ((with_reducible refine gate_callee (f := 56) rfl ?_); refine goesL_ (some 50) rfl rfl Try.func56 (by kernel_rfl) rfl #[.slice Ao23 t1139.length co23, .int .i64 t1140] rfl zA ?_; (with_reducible refine (spec_DistancesFrom.calls k1 _ _ t1139 t1140 t1158 _ ?side1 ?side2 A20.out).mono ?_); (case side1 => exact zC (Kd.R_reads' HO_3.out).2.2); (case side2 => exact (Kd.R_reads' HO_3.out).2.1); rintro e w31 ⟨v1159, rfl, ho0, hb⟩; refine ⟨_, rfl, ?_⟩; have n0_ := Aside0.mk (Kd.R_elder' (zR HO_3.out) (Kd.R_base ho0) hb); have n1_ := Aside0.mk (Kd.R_below (zR HO_5.out) hb); have n2_ := Aside0.mk (Kd.R_elder' (zR HO1151.out) (Kd.R_base ho0) hb); have n3_ := Aside0.mk (Kd.R_elder' (zR HO1154.out) (Kd.R_base ho0) hb); have n4_ := Aside0.mk (Kd.R_elder' (zR HO1157.out) (Kd.R_base ho0) hb); have n5_ := Aside0.mk (Kd.R_lower (Kd.R_new' (Kd.R_new' (Kd.R_new' (Kd.R_new' ho0 (Kd.R_lt (zR HO_3.out))) (Kd.R_lt (zR HO1151.out))) (Kd.R_lt (zR HO1154.out))) (Kd.R_lt (zR HO1157.out))) (below_size (zB HB.out))); have n6_ := Aside0.mk (below_step (zB HB.out) hb); clear HO_3; clear HO_5; clear HO1151; clear HO1154; clear HO1157; clear HB; have HO_3 := n0_; have HO_5 := n1_; have HO1151 := n2_; have HO1154 := n3_; have HO1157 := n4_; have HO1160 := n5_; have HB := n6_; clear n0_ n1_ n2_ n3_ n4_ n5_ n6_; (try clear hb); (try clear hb2); (try clear hk); (try clear hi); (try clear ho0); obtain ⟨Ao32, co32, eo32⟩ := Kd.R_slice HO1160.out; subst eo32) | (go_at_call 18; (with_reducible refine (laws_alive.calls k1  t1161 _ A22.out).mono ?_); rintro e w33 ⟨rfl, hb⟩; have n0_ := Aside0.mk (Kd.R_below (zR HO_3.out) hb); have n1_ := Aside0.mk (Kd.R_below (zR HO_5.out) hb); have n2_ := Aside0.mk (Kd.R_below (zR HO1151.out) hb); have n3_ := Aside0.mk (Kd.R_below (zR HO1154.out) hb); have n4_ := Aside0.mk (Kd.R_below (zR HO1157.out) hb); have n5_ := Aside0.mk (Kd.R_below (zR HO1160.out) hb); have n6_ := Aside0.mk (below_step (zB HB.out) hb); clear HO_3; clear HO_5; clear HO1151; clear HO1154; clear HO1157; clear HO1160; clear HB; have HO_3 := n0_; have HO_5 := n1_; have HO1151 := n2_; have HO1154 := n3_; have HO1157 := n4_; have HO1160 := n5_; have HB := n6_; clear n0_ n1_ n2_ n3_ n4_ n5_ n6_; (try clear hb); (try clear hb2); (try clear hk); (try clear hi)))
                  go_ret
                  exact ⟨by first | rfl | (simp [errW_none, errW_some] <;> rfl) | (simp [*, errW_none, errW_some] <;> rfl), zB HB.out⟩
                · rw [if_neg c21] at H
                  have c21b0 : ((t1158.length : Int) == 0) = false := beq_eq_false_iff_ne.mpr c21
                  have c21b1 : ((t1158.length : Int) != 0) = true := bne_iff_ne.mpr c21
                  have c21b2 : ¬ (t1158 = []) := fun h_ => c21 (by rw [h_]; rfl)
                  obtain rfl := Option.some.inj H
                  obtain ⟨Ao34, co34, eo34⟩ := Kd.R_slice HO_3.out
                  subst eo34
                  go_wp2_with (first | ((with_reducible refine gate_dst (N := 39) rfl ?_); (try (refine gate_guard (by rfl) ?_; dsimp only)); refine Kd.R_make (Kd.int .i64) _ 3 rfl (N := 39) rfl 23 _ _ rfl (t1139.length : Int) rfl rfl Try.underlying23 (.int .i64 0) 8 info3 rfl (by decide) (by omega) 0 (ok := fun _ => True) (okp := fun _ => True) rfl (fun _ hk => hk) trivial (of_decide_eq_true (by first | (with_reducible assumption) | assumption)) (Nat.le_trans (Nat.mul_le_mul_right _ (of_decide_eq_true (by first | (with_reducible assumption) | assumption) : (t1139.length : Int).toNat ≤ 35184372088832)) (by omega)) (Below.refl _ _) (Nat.le_refl _) ?_; intro v1150 w35 ho36 hb hg_ hnew_; clear hg_ hnew_; (first | rw [← Ny1149.out] at ho36 | (simp only [Int.reduceToNat] at ho36; rw [← Ny1149.out] at ho36)); have n0_ := Aside0.mk (Kd.R_elder' (zR HO_3.out) (Kd.R_base ho36) hb); have n1_ := Aside0.mk (Kd.R_below (zR HO_5.out) hb); have n2_ := Aside0.mk (Kd.R_lower (Kd.R_new' ho36 (Kd.R_lt (zR HO_3.out))) (below_size (zB HB.out))); have n3_ := Aside0.mk (below_step (zB HB.out) hb); clear HO_3; clear HO_5; clear HB; have HO_3 := n0_; have HO_5 := n1_; have HO1151 := n2_; have HB := n3_; clear n0_ n1_ n2_ n3_; clear hb ho36; obtain ⟨Ao37, co37, eo37⟩ := Kd.R_slice HO1151.out; subst eo37; obtain ⟨Ao38, co38, eo38⟩ := Kd.R_slice HO_5.out; subst eo38) | ((with_reducible refine gate_callee (f := 51) rfl ?_); refine goesL_ (some 41) rfl rfl Try.func51 (by kernel_rfl) rfl #[.slice Ao34 t1139.length co34, .int .i64 3, .slice Ao37 y1149.length co37, .slice Ao38 x5_1.length co38, .int .i64 12] rfl zA ?_; (with_reducible refine (impl_ScriptFired.calls k1 _ _ t1139 3 _ _ y1149 _ _ x5_1 12 t1152 _ ?side1 ?side2 ?side3 ?side4 ?side5 ?side6 A17.out).mono ?_); (case side1 => exact zC (Kd.R_reads' HO_3.out).2.2); (case side2 => exact (Kd.R_reads' HO_3.out).2.1); (case side3 => exact zC (Kd.R_reads' HO1151.out).2.2); (case side4 => exact (Kd.R_reads' HO1151.out).2.1); (case side5 => exact zC (Kd.R_reads' HO_5.out).2.2); (case side6 => exact (Kd.R_reads' HO_5.out).2.1); rintro e w39 ⟨v1153, rfl, ho0, hb⟩; refine ⟨_, rfl, ?_⟩; have n0_ := Aside0.mk (Kd.R_elder' (zR HO_3.out) (Kd.R_base ho0) hb); have n1_ := Aside0.mk (Kd.R_below (zR HO_5.out) hb); have n2_ := Aside0.mk (Kd.R_elder' (zR HO1151.out) (Kd.R_base ho0) hb); have n3_ := Aside0.mk (Kd.R_lower (Kd.R_new' (Kd.R_new' ho0 (Kd.R_lt (zR HO_3.out))) (Kd.R_lt (zR HO1151.out))) (below_size (zB HB.out))); have n4_ := Aside0.mk (below_step (zB HB.out) hb); clear HO_3; clear HO_5; clear HO1151; clear HB; have HO_3 := n0_; have HO_5 := n1_; have HO1151 := n2_; have HO1154 := n3_; have HB := n4_; clear n0_ n1_ n2_ n3_ n4_; (try clear hb); (try clear hb2); (try clear hk); (try clear hi); (try clear ho0)) | ((with_reducible refine gate_callee (f := 20) rfl ?_); refine goesL_ (some 44) rfl rfl Try.func20 (by kernel_rfl) rfl #[.slice Ao34 t1139.length co34, .int .i64 t1140] rfl zA ?_; (with_reducible refine (impl_DistancesFrom.calls k1 _ _ t1139 t1140 t1155 _ ?side1 ?side2 A18.out).mono ?_); (case side1 => exact zC (Kd.R_reads' HO_3.out).2.2); (case side2 => exact (Kd.R_reads' HO_3.out).2.1); rintro e w40 ⟨v1156, rfl, ho0, hb⟩; refine ⟨_, rfl, ?_⟩; have n0_ := Aside0.mk (Kd.R_elder' (zR HO_3.out) (Kd.R_base ho0) hb); have n1_ := Aside0.mk (Kd.R_below (zR HO_5.out) hb); have n2_ := Aside0.mk (Kd.R_elder' (zR HO1151.out) (Kd.R_base ho0) hb); have n3_ := Aside0.mk (Kd.R_elder' (zR HO1154.out) (Kd.R_base ho0) hb); have n4_ := Aside0.mk (Kd.R_lower (Kd.R_new' (Kd.R_new' (Kd.R_new' ho0 (Kd.R_lt (zR HO_3.out))) (Kd.R_lt (zR HO1151.out))) (Kd.R_lt (zR HO1154.out))) (below_size (zB HB.out))); have n5_ := Aside0.mk (below_step (zB HB.out) hb); clear HO_3; clear HO_5; clear HO1151; clear HO1154; clear HB; have HO_3 := n0_; have HO_5 := n1_; have HO1151 := n2_; have HO1154 := n3_; have HO1157 := n4_; have HB := n5_; clear n0_ n1_ n2_ n3_ n4_ n5_; (try clear hb); (try clear hb2); (try clear hk); (try clear hi); (try clear ho0); obtain ⟨Ao41, co41, eo41⟩ := Kd.R_slice HO1157.out; subst eo41) | ((with_reducible refine gate_callee (f := 56) rfl ?_); refine goesL_ (some 50) rfl rfl Try.func56 (by kernel_rfl) rfl #[.slice Ao34 t1139.length co34, .int .i64 t1140] rfl zA ?_; (with_reducible refine (spec_DistancesFrom.calls k1 _ _ t1139 t1140 t1158 _ ?side1 ?side2 A20.out).mono ?_); (case side1 => exact zC (Kd.R_reads' HO_3.out).2.2); (case side2 => exact (Kd.R_reads' HO_3.out).2.1); rintro e w42 ⟨v1159, rfl, ho0, hb⟩; refine ⟨_, rfl, ?_⟩; have n0_ := Aside0.mk (Kd.R_elder' (zR HO_3.out) (Kd.R_base ho0) hb); have n1_ := Aside0.mk (Kd.R_below (zR HO_5.out) hb); have n2_ := Aside0.mk (Kd.R_elder' (zR HO1151.out) (Kd.R_base ho0) hb); have n3_ := Aside0.mk (Kd.R_elder' (zR HO1154.out) (Kd.R_base ho0) hb); have n4_ := Aside0.mk (Kd.R_elder' (zR HO1157.out) (Kd.R_base ho0) hb); have n5_ := Aside0.mk (Kd.R_lower (Kd.R_new' (Kd.R_new' (Kd.R_new' (Kd.R_new' ho0 (Kd.R_lt (zR HO_3.out))) (Kd.R_lt (zR HO1151.out))) (Kd.R_lt (zR HO1154.out))) (Kd.R_lt (zR HO1157.out))) (below_size (zB HB.out))); have n6_ := Aside0.mk (below_step (zB HB.out) hb); clear HO_3; clear HO_5; clear HO1151; clear HO1154; clear HO1157; clear HB; have HO_3 := n0_; have HO_5 := n1_; have HO1151 := n2_; have HO1154 := n3_; have HO1157 := n4_; have HO1160 := n5_; have HB := n6_; clear n0_ n1_ n2_ n3_ n4_ n5_ n6_; (try clear hb); (try clear hb2); (try clear hk); (try clear hi); (try clear ho0); obtain ⟨Ao43, co43, eo43⟩ := Kd.R_slice HO1160.out; subst eo43))
                  go_ret
                  exact ⟨by first | rfl | (simp [errW_none, errW_some] <;> rfl) | (simp [*, errW_none, errW_some] <;> rfl), zB HB.out⟩
              · rw [if_neg c19] at H
                have c19b0 : ((t1155.length : Int) == 0) = false := beq_eq_false_iff_ne.mpr c19
                have c19b1 : ((t1155.length : Int) != 0) = true := bne_iff_ne.mpr c19
                have c19b2 : ¬ (t1155 = []) := fun h_ => c19 (by rw [h_]; rfl)
                have H' := Aside0.mk H
                clear H
                obtain ⟨Ao44, co44, eo44⟩ := Kd.R_slice HO_3.out
                subst eo44
                go_wp2_with (first | ((with_reducible refine gate_dst (N := 39) rfl ?_); (try (refine gate_guard (by rfl) ?_; dsimp only)); refine Kd.R_make (Kd.int .i64) _ 3 rfl (N := 39) rfl 23 _ _ rfl (t1139.length : Int) rfl rfl Try.underlying23 (.int .i64 0) 8 info3 rfl (by decide) (by omega) 0 (ok := fun _ => True) (okp := fun _ => True) rfl (fun _ hk => hk) trivial (of_decide_eq_true (by first | (with_reducible assumption) | assumption)) (Nat.le_trans (Nat.mul_le_mul_right _ (of_decide_eq_true (by first | (with_reducible assumption) | assumption) : (t1139.length : Int).toNat ≤ 35184372088832)) (by omega)) (Below.refl _ _) (Nat.le_refl _) ?_; intro v1150 w45 ho46 hb hg_ hnew_; clear hg_ hnew_; (first | rw [← Ny1149.out] at ho46 | (simp only [Int.reduceToNat] at ho46; rw [← Ny1149.out] at ho46)); have n0_ := Aside0.mk (Kd.R_elder' (zR HO_3.out) (Kd.R_base ho46) hb); have n1_ := Aside0.mk (Kd.R_below (zR HO_5.out) hb); have n2_ := Aside0.mk (Kd.R_lower (Kd.R_new' ho46 (Kd.R_lt (zR HO_3.out))) (below_size (zB HB.out))); have n3_ := Aside0.mk (below_step (zB HB.out) hb); clear HO_3; clear HO_5; clear HB; have HO_3 := n0_; have HO_5 := n1_; have HO1151 := n2_; have HB := n3_; clear n0_ n1_ n2_ n3_; clear hb ho46; obtain ⟨Ao47, co47, eo47⟩ := Kd.R_slice HO1151.out; subst eo47; obtain ⟨Ao48, co48, eo48⟩ := Kd.R_slice HO_5.out; subst eo48) | ((with_reducible refine gate_callee (f := 51) rfl ?_); refine goesL_ (some 41) rfl rfl Try.func51 (by kernel_rfl) rfl #[.slice Ao44 t1139.length co44, .int .i64 3, .slice Ao47 y1149.length co47, .slice Ao48 x5_1.length co48, .int .i64 12] rfl zA ?_; (with_reducible refine (impl_ScriptFired.calls k1 _ _ t1139 3 _ _ y1149 _ _ x5_1 12 t1152 _ ?side1 ?side2 ?side3 ?side4 ?side5 ?side6 A17.out).mono ?_); (case side1 => exact zC (Kd.R_reads' HO_3.out).2.2); (case side2 => exact (Kd.R_reads' HO_3.out).2.1); (case side3 => exact zC (Kd.R_reads' HO1151.out).2.2); (case side4 => exact (Kd.R_reads' HO1151.out).2.1); (case side5 => exact zC (Kd.R_reads' HO_5.out).2.2); (case side6 => exact (Kd.R_reads' HO_5.out).2.1); rintro e w49 ⟨v1153, rfl, ho0, hb⟩; refine ⟨_, rfl, ?_⟩; have n0_ := Aside0.mk (Kd.R_elder' (zR HO_3.out) (Kd.R_base ho0) hb); have n1_ := Aside0.mk (Kd.R_below (zR HO_5.out) hb); have n2_ := Aside0.mk (Kd.R_elder' (zR HO1151.out) (Kd.R_base ho0) hb); have n3_ := Aside0.mk (Kd.R_lower (Kd.R_new' (Kd.R_new' ho0 (Kd.R_lt (zR HO_3.out))) (Kd.R_lt (zR HO1151.out))) (below_size (zB HB.out))); have n4_ := Aside0.mk (below_step (zB HB.out) hb); clear HO_3; clear HO_5; clear HO1151; clear HB; have HO_3 := n0_; have HO_5 := n1_; have HO1151 := n2_; have HO1154 := n3_; have HB := n4_; clear n0_ n1_ n2_ n3_ n4_; (try clear hb); (try clear hb2); (try clear hk); (try clear hi); (try clear ho0)) | ((with_reducible refine gate_callee (f := 20) rfl ?_); refine goesL_ (some 44) rfl rfl Try.func20 (by kernel_rfl) rfl #[.slice Ao44 t1139.length co44, .int .i64 t1140] rfl zA ?_; (with_reducible refine (impl_DistancesFrom.calls k1 _ _ t1139 t1140 t1155 _ ?side1 ?side2 A18.out).mono ?_); (case side1 => exact zC (Kd.R_reads' HO_3.out).2.2); (case side2 => exact (Kd.R_reads' HO_3.out).2.1); rintro e w50 ⟨v1156, rfl, ho0, hb⟩; refine ⟨_, rfl, ?_⟩; have n0_ := Aside0.mk (Kd.R_elder' (zR HO_3.out) (Kd.R_base ho0) hb); have n1_ := Aside0.mk (Kd.R_below (zR HO_5.out) hb); have n2_ := Aside0.mk (Kd.R_elder' (zR HO1151.out) (Kd.R_base ho0) hb); have n3_ := Aside0.mk (Kd.R_elder' (zR HO1154.out) (Kd.R_base ho0) hb); have n4_ := Aside0.mk (Kd.R_lower (Kd.R_new' (Kd.R_new' (Kd.R_new' ho0 (Kd.R_lt (zR HO_3.out))) (Kd.R_lt (zR HO1151.out))) (Kd.R_lt (zR HO1154.out))) (below_size (zB HB.out))); have n5_ := Aside0.mk (below_step (zB HB.out) hb); clear HO_3; clear HO_5; clear HO1151; clear HO1154; clear HB; have HO_3 := n0_; have HO_5 := n1_; have HO1151 := n2_; have HO1154 := n3_; have HO1157 := n4_; have HB := n5_; clear n0_ n1_ n2_ n3_ n4_ n5_; (try clear hb); (try clear hb2); (try clear hk); (try clear hi); (try clear ho0); obtain ⟨Ao51, co51, eo51⟩ := Kd.R_slice HO1157.out; subst eo51))
                go_loopg [9] k1 (fun kq v9 w' => ∃ (x9_2 : Int), v9 = .int .i64 x9_2 ∧ Aside0 (laws_FnScriptWave.l1 kq t1139 t1152 t1155 x9_2 = some r) ∧ Aside0 (kq ≤ k1) ∧ Aside0 (Kd.R (Kd.int .i64) 3 w' w.heap.size (fun k_ => some k_ ≠ (v1153 : Value).ownBlock ∧ some k_ ≠ ((.slice Ao51 t1155.length co51) : Value).ownBlock) (.slice Ao44 t1139.length co44) t1139) ∧ Aside0 (Kd.R (Kd.int .i64) 3 w' w.heap.size (fun k_ => some k_ ≠ ((.slice Ao44 t1139.length co44) : Value).ownBlock ∧ some k_ ≠ ((.slice Ao51 t1155.length co51) : Value).ownBlock) v1153 t1152) ∧ Aside0 (Kd.R (Kd.int .i64) 3 w' w.heap.size (fun k_ => some k_ ≠ ((.slice Ao44 t1139.length co44) : Value).ownBlock ∧ some k_ ≠ (v1153 : Value).ownBlock) (.slice Ao51 t1155.length co51) t1155) ∧ Aside0 (Below w.heap.size w w'))
                case atStart => exact ⟨(0), (by first | rfl | (simp; done) | (simp [*]; done)), H', ⟨Nat.le_refl _⟩, ⟨by (with_reducible repeat (first | apply Kd.R_alloc | apply Kd.R_drewN | apply Kd.R_drew)); exact Kd.R_mono HO_3.out (fun _ hk => ⟨hk.1.2, hk.2⟩)⟩, ⟨by (with_reducible repeat (first | apply Kd.R_alloc | apply Kd.R_drewN | apply Kd.R_drew)); exact Kd.R_mono HO1154.out (fun _ hk => ⟨hk.1.1.2, hk.2⟩)⟩, ⟨by (with_reducible repeat (first | apply Kd.R_alloc | apply Kd.R_drewN | apply Kd.R_drew)); exact Kd.R_mono HO1157.out (fun _ hk => ⟨hk.1.1.2, hk.2⟩)⟩, ⟨zB HB.out⟩⟩
                case round =>
                  clear H'
                  try clear c1
                  try clear c2
                  try clear c2b0
                  try clear c2b1
                  try clear p2
                  try clear c5
                  try clear p6
                  try clear c7
                  try clear c7b0
                  try clear c8
                  try clear c8b0
                  try clear c8b1
                  try clear c10
                  try clear c10b0
                  try clear c10b1
                  try clear c11
                  try clear c13
                  try clear c15
                  try clear c15b0
                  try clear c15b1
                  try clear c16
                  try clear c16b0
                  try clear c16b1
                  try clear c19
                  try clear c19b0
                  try clear c19b1
                  try clear c19b2
                  try clear c20
                  try clear c21
                  try clear c21b0
                  try clear c21b1
                  try clear c21b2
                  try clear c51
                  try clear p2
                  obtain ⟨x9_2, rfl, HA, HK2, HO_3, HO_7, HO_8, HB⟩ := hrel
                  cases gk with
                  | zero => exact absurd HA.out (by simp [laws_FnScriptWave.l1])
                  | succ k2 =>
                    have H := HA.out
                    clear HA
                    simp only [laws_FnScriptWave.l1] at H
                    by_cases c52 : x9_2 < (t1139.length : Int)
                    · rw [if_pos c52] at H
                      have c52b0 : decide (x9_2 < (t1139.length : Int)) = true := decide_eq_true c52
                      clear c52
                      have HC53 := Aside0.mk H
                      clear H
                      go_upto_region 18 with (fail)
                      go_cut [73] (fun v73 wc => ∃ (kq : Nat) (x73_52 : Bool), v73 = .bool x73_52 ∧ Aside0 (laws_FnScriptWave.j2 kq t1139 t1152 t1155 x9_2 0 x73_52 = some r) ∧ Aside0 (kq ≤ k2) ∧ Aside0 (Kd.R (Kd.int .i64) 3 wc w.heap.size (fun k_ => some k_ ≠ (v1153 : Value).ownBlock ∧ some k_ ≠ ((.slice Ao51 t1155.length co51) : Value).ownBlock) (.slice Ao44 t1139.length co44) t1139) ∧ Aside0 (Kd.R (Kd.int .i64) 3 wc w.heap.size (fun k_ => some k_ ≠ ((.slice Ao44 t1139.length co44) : Value).ownBlock ∧ some k_ ≠ ((.slice Ao51 t1155.length co51) : Value).ownBlock) v1153 t1152) ∧ Aside0 (Kd.R (Kd.int .i64) 3 wc w.heap.size (fun k_ => some k_ ≠ ((.slice Ao44 t1139.length co44) : Value).ownBlock ∧ some k_ ≠ (v1153 : Value).ownBlock) (.slice Ao51 t1155.length co51) t1155) ∧ Aside0 (Below w.heap.size w wc))
                      case first =>
                        have H := HC53.out
                        clear HC53
                        by_cases c54 : (t1155.length : Int) = (t1139.length : Int)
                        · rw [if_pos c54] at H
                          have c54b0 : ((t1155.length : Int) == (t1139.length : Int)) = true := beq_iff_eq.mpr c54
                          have c54b1 : ((t1155.length : Int) != (t1139.length : Int)) = false := bne_eq_false_iff_eq.mpr c54
                          have c54b2 : (t1155.length == t1139.length) = true := by first | simpa using c54 | (simp at c54 ⊢; omega)
                          clear c54
                          (first | rw [c54b0] | (simp only [i64_w, i32_w]; rw [c54b0]) | skip)
                          have H' := Aside0.mk H
                          clear H
                          obtain ⟨Ao55, co55, eo55⟩ := Kd.R_slice HO_7.out
                          subst eo55
                          go_wp2
                          go_meet
                          case rel => exact ⟨_, (((t1152.length : Int) != (t1139.length : Int))), (by first | rfl | (simp; done) | (simp [*]; done)), H', ⟨by have := HK1.out; have := HK2.out; first | omega | exact Nat.le_refl _⟩, ⟨by (with_reducible repeat (first | apply Kd.R_alloc | apply Kd.R_drewN | apply Kd.R_drew)); exact HO_3.out⟩, ⟨by (with_reducible repeat (first | apply Kd.R_alloc | apply Kd.R_drewN | apply Kd.R_drew)); exact HO_7.out⟩, ⟨by (with_reducible repeat (first | apply Kd.R_alloc | apply Kd.R_drewN | apply Kd.R_drew)); exact HO_8.out⟩, ⟨zB HB.out⟩⟩
                        · rw [if_neg c54] at H
                          have c54b0 : ((t1155.length : Int) == (t1139.length : Int)) = false := beq_eq_false_iff_ne.mpr c54
                          have c54b1 : ((t1155.length : Int) != (t1139.length : Int)) = true := bne_iff_ne.mpr c54
                          have c54b2 : (t1155.length == t1139.length) = false := by first | simpa using c54 | (simp at c54 ⊢; omega)
                          (first | rw [c54b0] | (simp only [i64_w, i32_w]; rw [c54b0]) | skip)
                          have H' := Aside0.mk H
                          clear H
                          go_wp2
                          go_meet
                          case rel => exact ⟨_, (true), (by first | rfl | (simp; done) | (simp [*]; done)), H', ⟨by have := HK1.out; have := HK2.out; first | omega | exact Nat.le_refl _⟩, ⟨by (with_reducible repeat (first | apply Kd.R_alloc | apply Kd.R_drewN | apply Kd.R_drew)); exact HO_3.out⟩, ⟨by (with_reducible repeat (first | apply Kd.R_alloc | apply Kd.R_drewN | apply Kd.R_drew)); exact HO_7.out⟩, ⟨by (with_reducible repeat (first | apply Kd.R_alloc | apply Kd.R_drewN | apply Kd.R_drew)); exact HO_8.out⟩, ⟨zB HB.out⟩⟩
                      case rest =>
                        clear HC53
                        try clear c1
                        try clear c2
                        try clear c2b0
                        try clear c2b1
                        try clear p2
                        try clear c5
                        try clear p6
                        try clear c7
                        try clear c7b0
                        try clear c8
                        try clear c8b0
                        try clear c8b1
                        try clear c10
                        try clear c10b0
                        try clear c10b1
                        try clear c11
                        try clear c13
                        try clear c15
                        try clear c15b0
                        try clear c15b1
                        try clear c16
                        try clear c16b0
                        try clear c16b1
                        try clear c19
                        try clear c19b0
                        try clear c19b1
                        try clear c19b2
                        try clear c20
                        try clear c21
                        try clear c21b0
                        try clear c21b1
                        try clear c21b2
                        try clear c51
                        try clear c52
                        try clear c52b0
                        try clear c54
                        try clear c54b0
                        try clear c54b1
                        try clear c54b2
                        try clear c55
                        try clear p2
                        try clear p6
                        obtain ⟨kq, x73_52, rfl, HA, HJ52, HO_3, HO_7, HO_8, HB⟩ := hcut
                        cases kq with
                        | zero => exact absurd HA.out (by simp [laws_FnScriptWave.j2])
                        | succ kj52 =>
                          have H := HA.out
                          clear HA
                          simp only [laws_FnScriptWave.j2] at H
                          by_cases c56 : x73_52 = true
                          · subst c56
                            have H1 : (some false) = some r := by rw [if_pos rfl] at H; exact H
                            clear H
                            have H := H1
                            clear H1
                            obtain rfl := Option.some.inj H
                            go_wp2
                            go_ret
                            exact ⟨by first | rfl | (simp [errW_none, errW_some] <;> rfl) | (simp [*, errW_none, errW_some] <;> rfl), zB HB.out⟩
                          · replace c56 := Bool.eq_false_iff.mpr c56
                            subst c56
                            have H1 : (if 0 ≤ x9_2 then (if x9_2 < (t1155.length : Int) then (if (rd t1155 x9_2) ≥ 0 then (if x9_2 < (t1152.length : Int) then (if (rd t1152 x9_2) = 1 then (laws_FnScriptWave.l1 kj52 t1139 t1152 t1155 (wrap64 (x9_2 + 1))) else (some false)) else (none)) else (if x9_2 < (t1152.length : Int) then (if (rd t1152 x9_2) = 0 then (laws_FnScriptWave.l1 kj52 t1139 t1152 t1155 (wrap64 (x9_2 + 1))) else (some false)) else (none))) else (none)) else (none)) = some r := by rw [if_neg (show ¬ (false = true) by decide)] at H; exact H
                            clear H
                            have H := H1
                            clear H1
                            by_cases c57 : 0 ≤ x9_2
                            · rw [if_pos c57] at H
                              have c57b0 : decide (0 ≤ x9_2) = true := decide_eq_true c57
                              clear c57
                              by_cases c58 : x9_2 < (t1155.length : Int)
                              · rw [if_pos c58] at H
                                have c58b0 : decide (x9_2 < (t1155.length : Int)) = true := decide_eq_true c58
                                clear c58
                                by_cases c59 : (rd t1155 x9_2) ≥ 0
                                · rw [if_pos c59] at H
                                  have c59b0 : decide (0 ≤ (rd t1155 x9_2)) = true := decide_eq_true c59
                                  clear c59
                                  by_cases c60 : x9_2 < (t1152.length : Int)
                                  · rw [if_pos c60] at H
                                    have c60b0 : decide (x9_2 < (t1152.length : Int)) = true := decide_eq_true c60
                                    clear c60
                                    by_cases c61 : (rd t1152 x9_2) = 1
                                    · rw [if_pos c61] at H
                                      have c61b0 : ((rd t1152 x9_2) == 1) = true := beq_iff_eq.mpr c61
                                      have c61b1 : ((rd t1152 x9_2) != 1) = false := bne_eq_false_iff_eq.mpr c61
                                      clear c61
                                      have H' := Aside0.mk H
                                      clear H
                                      have p1163 : 0 ≤ (x9_2 : Int) := of_decide_eq_true (by first | (with_reducible assumption) | assumption)
                                      have q1163 : x9_2 < (t1155.length : Int) := of_decide_eq_true (by first | (with_reducible assumption) | assumption)
                                      obtain ⟨ad1163, e1163, hx1163_0⟩ := Kd.at_int (Kd.R_reads' HO_8.out).2.2 x9_2 p1163 q1163
                                      cases e1163
                                      replace p1163 := eq_true p1163
                                      replace q1163 := eq_true q1163
                                      obtain ⟨Ao62, co62, eo62⟩ := Kd.R_slice HO_7.out
                                      subst eo62
                                      have p1164 : 0 ≤ (x9_2 : Int) := of_decide_eq_true (by first | (with_reducible assumption) | assumption)
                                      have q1164 : x9_2 < (t1152.length : Int) := of_decide_eq_true (by first | (with_reducible assumption) | assumption)
                                      obtain ⟨ad1164, e1164, hx1164_0⟩ := Kd.at_int (Kd.R_reads' HO_7.out).2.2 x9_2 p1164 q1164
                                      cases e1164
                                      replace p1164 := eq_true p1164
                                      replace q1164 := eq_true q1164
                                      go_wp2
                                      go_roundg kj52
                                      case measure => have := HK1.out; have := HK2.out; have := HJ52.out; omega
                                      case rel => exact ⟨(wrap64 (x9_2 + 1)), (by first | rfl | (simp; done) | (simp [*]; done)), H', ⟨by have := HK1.out; have := HK2.out; have := HJ52.out; omega⟩, ⟨by (with_reducible repeat (first | apply Kd.R_alloc | apply Kd.R_drewN | apply Kd.R_drew)); exact HO_3.out⟩, ⟨by (with_reducible repeat (first | apply Kd.R_alloc | apply Kd.R_drewN | apply Kd.R_drew)); exact HO_7.out⟩, ⟨by (with_reducible repeat (first | apply Kd.R_alloc | apply Kd.R_drewN | apply Kd.R_drew)); exact HO_8.out⟩, ⟨zB HB.out⟩⟩
                                    · rw [if_neg c61] at H
                                      have c61b0 : ((rd t1152 x9_2) == 1) = false := beq_eq_false_iff_ne.mpr c61
                                      have c61b1 : ((rd t1152 x9_2) != 1) = true := bne_iff_ne.mpr c61
                                      obtain rfl := Option.some.inj H
                                      have p1163 : 0 ≤ (x9_2 : Int) := of_decide_eq_true (by first | (with_reducible assumption) | assumption)
                                      have q1163 : x9_2 < (t1155.length : Int) := of_decide_eq_true (by first | (with_reducible assumption) | assumption)
                                      obtain ⟨ad1163, e1163, hx1163_0⟩ := Kd.at_int (Kd.R_reads' HO_8.out).2.2 x9_2 p1163 q1163
                                      cases e1163
                                      replace p1163 := eq_true p1163
                                      replace q1163 := eq_true q1163
                                      obtain ⟨Ao63, co63, eo63⟩ := Kd.R_slice HO_7.out
                                      subst eo63
                                      have p1164 : 0 ≤ (x9_2 : Int) := of_decide_eq_true (by first | (with_reducible assumption) | assumption)
                                      have q1164 : x9_2 < (t1152.length : Int) := of_decide_eq_true (by first | (with_reducible assumption) | assumption)
                                      obtain ⟨ad1164, e1164, hx1164_0⟩ := Kd.at_int (Kd.R_reads' HO_7.out).2.2 x9_2 p1164 q1164
                                      cases e1164
                                      replace p1164 := eq_true p1164
                                      replace q1164 := eq_true q1164
                                      go_wp2
                                      go_ret
                                      exact ⟨by first | rfl | (simp [errW_none, errW_some] <;> rfl) | (simp [*, errW_none, errW_some] <;> rfl), zB HB.out⟩
                                  · rw [if_neg c60] at H
                                    exact absurd H (by simp)
                                · rw [if_neg c59] at H
                                  have c59b0 : decide (0 ≤ (rd t1155 x9_2)) = false := decide_eq_false c59
                                  clear c59
                                  by_cases c64 : x9_2 < (t1152.length : Int)
                                  · rw [if_pos c64] at H
                                    have c64b0 : decide (x9_2 < (t1152.length : Int)) = true := decide_eq_true c64
                                    clear c64
                                    by_cases c65 : (rd t1152 x9_2) = 0
                                    · rw [if_pos c65] at H
                                      have c65b0 : ((rd t1152 x9_2) == 0) = true := beq_iff_eq.mpr c65
                                      have c65b1 : ((rd t1152 x9_2) != 0) = false := bne_eq_false_iff_eq.mpr c65
                                      clear c65
                                      have H' := Aside0.mk H
                                      clear H
                                      have p1163 : 0 ≤ (x9_2 : Int) := of_decide_eq_true (by first | (with_reducible assumption) | assumption)
                                      have q1163 : x9_2 < (t1155.length : Int) := of_decide_eq_true (by first | (with_reducible assumption) | assumption)
                                      obtain ⟨ad1163, e1163, hx1163_0⟩ := Kd.at_int (Kd.R_reads' HO_8.out).2.2 x9_2 p1163 q1163
                                      cases e1163
                                      replace p1163 := eq_true p1163
                                      replace q1163 := eq_true q1163
                                      obtain ⟨Ao66, co66, eo66⟩ := Kd.R_slice HO_7.out
                                      subst eo66
                                      have p1165 : 0 ≤ (x9_2 : Int) := of_decide_eq_true (by first | (with_reducible assumption) | assumption)
                                      have q1165 : x9_2 < (t1152.length : Int) := of_decide_eq_true (by first | (with_reducible assumption) | assumption)
                                      obtain ⟨ad1165, e1165, hx1165_0⟩ := Kd.at_int (Kd.R_reads' HO_7.out).2.2 x9_2 p1165 q1165
                                      cases e1165
                                      replace p1165 := eq_true p1165
                                      replace q1165 := eq_true q1165
                                      go_wp2
                                      go_roundg kj52
                                      case measure => have := HK1.out; have := HK2.out; have := HJ52.out; omega
                                      case rel => exact ⟨(wrap64 (x9_2 + 1)), (by first | rfl | (simp; done) | (simp [*]; done)), H', ⟨by have := HK1.out; have := HK2.out; have := HJ52.out; omega⟩, ⟨by (with_reducible repeat (first | apply Kd.R_alloc | apply Kd.R_drewN | apply Kd.R_drew)); exact HO_3.out⟩, ⟨by (with_reducible repeat (first | apply Kd.R_alloc | apply Kd.R_drewN | apply Kd.R_drew)); exact HO_7.out⟩, ⟨by (with_reducible repeat (first | apply Kd.R_alloc | apply Kd.R_drewN | apply Kd.R_drew)); exact HO_8.out⟩, ⟨zB HB.out⟩⟩
                                    · rw [if_neg c65] at H
                                      have c65b0 : ((rd t1152 x9_2) == 0) = false := beq_eq_false_iff_ne.mpr c65
                                      have c65b1 : ((rd t1152 x9_2) != 0) = true := bne_iff_ne.mpr c65
                                      obtain rfl := Option.some.inj H
                                      have p1163 : 0 ≤ (x9_2 : Int) := of_decide_eq_true (by first | (with_reducible assumption) | assumption)
                                      have q1163 : x9_2 < (t1155.length : Int) := of_decide_eq_true (by first | (with_reducible assumption) | assumption)
                                      obtain ⟨ad1163, e1163, hx1163_0⟩ := Kd.at_int (Kd.R_reads' HO_8.out).2.2 x9_2 p1163 q1163
                                      cases e1163
                                      replace p1163 := eq_true p1163
                                      replace q1163 := eq_true q1163
                                      obtain ⟨Ao67, co67, eo67⟩ := Kd.R_slice HO_7.out
                                      subst eo67
                                      have p1165 : 0 ≤ (x9_2 : Int) := of_decide_eq_true (by first | (with_reducible assumption) | assumption)
                                      have q1165 : x9_2 < (t1152.length : Int) := of_decide_eq_true (by first | (with_reducible assumption) | assumption)
                                      obtain ⟨ad1165, e1165, hx1165_0⟩ := Kd.at_int (Kd.R_reads' HO_7.out).2.2 x9_2 p1165 q1165
                                      cases e1165
                                      replace p1165 := eq_true p1165
                                      replace q1165 := eq_true q1165
                                      go_wp2
                                      go_ret
                                      exact ⟨by first | rfl | (simp [errW_none, errW_some] <;> rfl) | (simp [*, errW_none, errW_some] <;> rfl), zB HB.out⟩
                                  · rw [if_neg c64] at H
                                    exact absurd H (by simp)
                              · rw [if_neg c58] at H
                                exact absurd H (by simp)
                            · rw [if_neg c57] at H
                              exact absurd H (by simp)
                    · rw [if_neg c52] at H
                      have c52b0 : decide (x9_2 < (t1139.length : Int)) = false := decide_eq_false c52
                      clear c52
                      replace H := Option.bind_eq_some_iff.mp H
                      obtain ⟨t1162, A680, H⟩ := H
                      replace H : (some t1162) = some r := H
                      have A68 := Aside0.mk A680
                      clear A680
                      obtain rfl := Option.some.inj H
                      go_wp2_with (first | ((with_reducible refine gate_callee (f := 18) rfl ?_); refine goesL_ (some 85) rfl rfl Try.func18 (by kernel_rfl) rfl #[] rfl zA ?_; (with_reducible refine (laws_alive.calls k2  t1162 _ A68.out).mono ?_); rintro e w69 ⟨rfl, hb⟩; refine ⟨_, rfl, ?_⟩; have n0_ := Aside0.mk (Kd.R_below (zR HO_3.out) hb); have n1_ := Aside0.mk (Kd.R_below (zR HO_7.out) hb); have n2_ := Aside0.mk (Kd.R_below (zR HO_8.out) hb); have n3_ := Aside0.mk (below_step (zB HB.out) hb); clear HO_3; clear HO_7; clear HO_8; clear HB; have HO_3 := n0_; have HO_7 := n1_; have HO_8 := n2_; have HB := n3_; clear n0_ n1_ n2_ n3_; (try clear hb); (try clear hb2); (try clear hk); (try clear hi)))
                      go_ret
                      exact ⟨by first | rfl | (simp [errW_none, errW_some] <;> rfl) | (simp [*, errW_none, errW_some] <;> rfl), zB HB.out⟩
            · rw [if_neg c16] at H
              exact absurd H (by simp)
          · rw [if_neg c15] at H
            exact absurd H (by simp)

/-- THE ONE PURE STATEMENT of laws_FnScriptWave: yours. -/
def laws_FnScriptWave.Pure : Prop := ∀ (l0 : List Int), l0.length ≤ maxLen → l0.length * 1 ≤ 140737488351232 → (∀ x ∈ l0, (Lit.int .u8 x).wf = true) → ∃ k, laws_FnScriptWave.f k l0 = some true
theorem laws_FnScriptWave.walk (P : laws_FnScriptWave.Pure) (a0 : Option Addr) (len0 cap0 : Nat) (z0 : List Int) (w : World) (w0 : (a0 = none ∧ len0 = 0 ∧ cap0 = 0 ∧ z0 = []) ∨ ∃ x, a0 = some x ∧ len0 ≤ cap0 ∧ cap0 ≤ maxLen ∧ z0.length = cap0 ∧ (∀ i, i < z0.length → w.cell? (x.add i) = some (.int .u8 (z0.getD i 0))) ∧ ∀ n ∈ z0, (Lit.int .u8 n).wf = true) (y0 : len0 * 1 ≤ 140737488351232) :
    Calls Try.prog 13 #[.slice a0 len0 cap0] w fun e w' => e = .returned (.bool true) ∧ Below w.heap.size w w' := by
  obtain ⟨l0, rfl, hr0, hm0, hw0, hc0⟩ := ReadsInt.ofRowC w0
  obtain ⟨k, h⟩ := P l0 hm0 y0 hw0
  refine (laws_FnScriptWave.calls k _ _ l0 true w (Kd.C_of_reads (d := (0 : Int)) (h1 := fun _ => rfl) hr0) hc0 h).mono ?_
  rintro e w' ⟨rfl, hd⟩
  exact ⟨rfl, hd⟩

end Go.Proofs.Ytfhkahlfpchhpaa.PAll
