/- Own text of this session, written by a program of this session (wip/t/own.py) out of what the kit tells of the functions: each Go function as a Lean function, and the walk through its code. -/
import Derived.Test.YtfhkahlfpchhpaaT
namespace Go.Proofs.Ytfhkahlfpchhpaa.PAll
open Go.RowKit Go.Proofs.YtfhkahlfpchhpaaW.PrintWords Go.Proofs.YtfhkahlfpchhpaaW.PrintLast Go.Proofs.YtfhkahlfpchhpaaW.PrintMore
attribute [local go_sem] max2_int min2_int max_two min_two max_three min_three max_four min_four   -- for this text's walks alone
set_option linter.unusedVariables false
set_option linter.unusedSimpArgs false

/-! ### impl_ScriptOk: function 53 -/
mutual
def impl_ScriptOk.l0 : Nat → Int → List (S64) → List (S64) → Int → Int → Option (Bool)
  | 0, _, _, _, _, _ => none
  | k + 1, x0, x1, x7, x8, x9 => if x9 < x8 then (if 0 ≤ x9 then (if x9 < (x7.length : Int) then (if ((rd_T64 x7 x9).f0) < 0 then (impl_ScriptOk.j1 k x0 x1 x9 x7 x8 x9 true ((rd_T64 x7 x9).f0) ((rd_T64 x7 x9).f1)) else (if ((rd_T64 x7 x9).f0) ≥ 60 then (impl_ScriptOk.j1 k x0 x1 x9 x7 x8 x9 true ((rd_T64 x7 x9).f0) ((rd_T64 x7 x9).f1)) else (if ((rd_T64 x7 x9).f1) < 0 then (impl_ScriptOk.j1 k x0 x1 x9 x7 x8 x9 true ((rd_T64 x7 x9).f0) ((rd_T64 x7 x9).f1)) else (impl_ScriptOk.j1 k x0 x1 x9 x7 x8 x9 (decide (((rd_T64 x7 x9).f1) ≥ x0)) ((rd_T64 x7 x9).f0) ((rd_T64 x7 x9).f1))))) else (none)) else (none)) else (if x0 ≥ 1 then (if x0 ≤ 6 then (some (decide ((x1.length : Int) ≤ 8))) else (some false)) else (some false))
def impl_ScriptOk.j1 : Nat → Int → List (S64) → Int → List (S64) → Int → Int → Bool → Int → Int → Option (Bool)
  | 0, _, _, _, _, _, _, _, _, _ => none
  | k + 1, x0, x1, x5, x7, x8, x9, x32, x730000, x730001 => if x32 = true then (some false) else (if x5 > 0 then (if 0 ≤ (wrap64 (x5 - 1)) then (if (wrap64 (x5 - 1)) < (x1.length : Int) then (if x730000 < ((rd_T64 x1 (wrap64 (x5 - 1))).f0) then (some false) else (if x730000 = ((rd_T64 x1 (wrap64 (x5 - 1))).f0) then (if x730001 ≤ ((rd_T64 x1 (wrap64 (x5 - 1))).f1) then (some false) else (impl_ScriptOk.l0 k x0 x1 x7 x8 (wrap64 (x9 + 1)))) else (impl_ScriptOk.l0 k x0 x1 x7 x8 (wrap64 (x9 + 1))))) else (none)) else (none)) else (impl_ScriptOk.l0 k x0 x1 x7 x8 (wrap64 (x9 + 1))))
end
def impl_ScriptOk.f (k : Nat) (a0 : Int) (l1 : List (S64)) : Option (Bool) := impl_ScriptOk.l0 k a0 l1 l1 (l1.length : Int) 0
theorem impl_ScriptOk.mono_l : ∀ k, (∀ y0 y1 y2 y3 y4, LeO (impl_ScriptOk.l0 k y0 y1 y2 y3 y4) (impl_ScriptOk.l0 (k + 1) y0 y1 y2 y3 y4)) ∧ (∀ y0 y1 y2 y3 y4 y5 y6 y7 y8, LeO (impl_ScriptOk.j1 k y0 y1 y2 y3 y4 y5 y6 y7 y8) (impl_ScriptOk.j1 (k + 1) y0 y1 y2 y3 y4 y5 y6 y7 y8))
  | 0 => ⟨fun _ _ _ _ _ r h => by simp [impl_ScriptOk.l0] at h, fun _ _ _ _ _ _ _ _ _ r h => by simp [impl_ScriptOk.j1] at h⟩
  | k + 1 => by
    obtain ⟨ih0, ih1⟩ := impl_ScriptOk.mono_l k
    refine ⟨?_, ?_⟩
    · intro y0 y1 y2 y3 y4
      unfold impl_ScriptOk.l0
      repeat' first
      | (with_reducible exact ih0 _ _ _ _ _)
      | (with_reducible exact ih1 _ _ _ _ _ _ _ _ _)
      | (with_reducible exact LeO.refl _)
      | (with_reducible exact LeO.none _)
      | (with_reducible refine LeO.ite ?_ ?_)
      | (with_reducible refine LeO.bind ?_ (fun _ => ?_))
      | exact ih0 _ _ _ _ _
      | exact ih1 _ _ _ _ _ _ _ _ _
      | exact LeO.none _
      | refine LeO.ite ?_ ?_
      | refine LeO.bind ?_ (fun _ => ?_)
    · intro y0 y1 y2 y3 y4 y5 y6 y7 y8
      unfold impl_ScriptOk.j1
      repeat' first
      | (with_reducible exact ih0 _ _ _ _ _)
      | (with_reducible exact ih1 _ _ _ _ _ _ _ _ _)
      | (with_reducible exact LeO.refl _)
      | (with_reducible exact LeO.none _)
      | (with_reducible refine LeO.ite ?_ ?_)
      | (with_reducible refine LeO.bind ?_ (fun _ => ?_))
      | exact ih0 _ _ _ _ _
      | exact ih1 _ _ _ _ _ _ _ _ _
      | exact LeO.none _
      | refine LeO.ite ?_ ?_
      | refine LeO.bind ?_ (fun _ => ?_)
theorem impl_ScriptOk.mono : ∀ a0 a1 k, LeO (impl_ScriptOk.f k a0 a1) (impl_ScriptOk.f (k + 1) a0 a1) := by
  intro a0 a1 k
  obtain ⟨ih0, ih1⟩ := impl_ScriptOk.mono_l k
  unfold impl_ScriptOk.f
  repeat' first
      | (with_reducible exact ih0 _ _ _ _ _)
      | (with_reducible exact ih1 _ _ _ _ _ _ _ _ _)
      | (with_reducible exact LeO.refl _)
      | (with_reducible exact LeO.none _)
      | (with_reducible refine LeO.ite ?_ ?_)
      | (with_reducible refine LeO.bind ?_ (fun _ => ?_))
      | exact ih0 _ _ _ _ _
      | exact ih1 _ _ _ _ _ _ _ _ _
      | exact LeO.none _
      | refine LeO.ite ?_ ?_
      | refine LeO.bind ?_ (fun _ => ?_)
set_option maxHeartbeats 8000000 in
set_option maxRecDepth 100000 in
theorem impl_ScriptOk.calls (k : Nat) (a0 : Int) (A1 : Option Addr) (c1 : Nat) (l1 : List (S64)) (r : Bool) (w : World) (hr1 : Kd.C k64 w A1 l1.length l1) (hc1 : l1.length ≤ c1) (h : impl_ScriptOk.f k a0 l1 = some r) :
    Calls Try.prog 53 #[.int .i64 a0, .slice A1 l1.length c1] w fun e w' => e = .returned (.bool r) ∧ Below w.heap.size w w' := by
  have hu64 := Try.underlying64
  have HR1 := Aside0.mk hr1
  have HC1 := Aside0.mk hc1
  clear hr1 hc1
  have HB := Aside0.mk (Below.refl w.heap.size w)
  have H : (impl_ScriptOk.l0 k a0 l1 l1 (l1.length : Int) 0) = some r := h
  clear h
  have H' := Aside0.mk H
  clear H
  go_enter Try.func53, Try.ntmps53
  go_wp2
  repeat (go_quiet (fail); try go_wp2)
  go_loopg [9] k (fun kq v9 w' => ∃ (x9_1 : Int), v9 = .int .i64 x9_1 ∧ Aside0 (impl_ScriptOk.l0 kq a0 l1 l1 (l1.length : Int) x9_1 = some r) ∧ Aside0 (kq ≤ k) ∧ Aside0 (Below w.heap.size w w'))
  case atStart => exact ⟨(0), (by first | rfl | (simp; done) | (simp [*]; done)), H', ⟨Nat.le_refl _⟩, ⟨zB HB.out⟩⟩
  case round =>
    clear H'
    try clear c1
    try clear p2
    obtain ⟨x9_1, rfl, HA, HK1, HB⟩ := hrel
    cases gk with
    | zero => exact absurd HA.out (by simp [impl_ScriptOk.l0])
    | succ k1 =>
      have H := HA.out
      clear HA
      simp only [impl_ScriptOk.l0] at H
      by_cases c3 : x9_1 < (l1.length : Int)
      · rw [if_pos c3] at H
        have c3b0 : decide (x9_1 < (l1.length : Int)) = true := decide_eq_true c3
        clear c3
        by_cases c4 : 0 ≤ x9_1
        · rw [if_pos c4] at H
          have c4b0 : decide (0 ≤ x9_1) = true := decide_eq_true c4
          clear c4
          by_cases c5 : x9_1 < (l1.length : Int)
          · rw [if_pos c5] at H
            have c5b0 : decide (x9_1 < (l1.length : Int)) = true := decide_eq_true c5
            clear c5
            have HC6 := Aside0.mk H
            clear H
            have p728 : 0 ≤ (x9_1 : Int) := of_decide_eq_true (by first | (with_reducible assumption) | assumption)
            have q728 : x9_1 < (l1.length : Int) := of_decide_eq_true (by first | (with_reducible assumption) | assumption)
            obtain ⟨ad728, e728, hx728_0, hx728_1⟩ := at_T64 HR1.out x9_1 p728 q728
            cases e728
            replace hx728_0 := (HB.out.cell (World.block_lt_of_cell? w _ hx728_0)).trans hx728_0
            replace hx728_1 := (HB.out.cell (World.block_lt_of_cell? w _ hx728_1)).trans hx728_1
            replace p728 := eq_true p728
            replace q728 := eq_true q728
            go_upto_region 4 with (first | ((with_reducible refine gate_dst (N := 6) rfl ?_); (try (refine gate_guard (by rfl) ?_; dsimp only)); refine box_event ?hg (N := 6) ?hd (cs := #[.int .i64 0, .int .i64 0]) (t := 64) ?hr ?_; (case hd => rfl); (case hg => rfl); (case hr => first | (go_simp; done) | (go_simp; rfl)); intro gb729 hg w7 hbox hb; have n0_ := Aside0.mk (below_step (zB HB.out) hb); have n1_ := Aside0.mk (hbox); have n2_ := Aside0.mk ((by rw [hg]; exact (below_size (zB HB.out)) : w.heap.size ≤ gb729)); have n3_ := Aside0.mk ((by rw [hg]; exact (below_size (zB HB.out)) : w.heap.size ≤ gb729)); clear HB; have HB := n0_; have BK729 := n1_; have GW729 := n2_; have GE729 := n3_; clear n0_ n1_ n2_ n3_; clear hb hbox hg; have hcz8_0 : w7.cell? ⟨gb729, 0, none⟩ = some (.int .i64 0) := (blk_cell BK729.out 0).trans rfl; have hcz8_1 : w7.cell? ⟨gb729, 1, none⟩ = some (.int .i64 0) := (blk_cell BK729.out 1).trans rfl; have hfz8_0 := blk_frozen BK729.out 0; have hfz8_1 := blk_frozen BK729.out 1))
            repeat (go_quiet (first | ((with_reducible refine gate_dst (N := 6) rfl ?_); (try (refine gate_guard (by rfl) ?_; dsimp only)); refine box_event ?hg (N := 6) ?hd (cs := #[.int .i64 0, .int .i64 0]) (t := 64) ?hr ?_; (case hd => rfl); (case hg => rfl); (case hr => first | (go_simp; done) | (go_simp; rfl)); intro gb729 hg w7 hbox hb; have n0_ := Aside0.mk (below_step (zB HB.out) hb); have n1_ := Aside0.mk (hbox); have n2_ := Aside0.mk ((by rw [hg]; exact (below_size (zB HB.out)) : w.heap.size ≤ gb729)); have n3_ := Aside0.mk ((by rw [hg]; exact (below_size (zB HB.out)) : w.heap.size ≤ gb729)); clear HB; have HB := n0_; have BK729 := n1_; have GW729 := n2_; have GE729 := n3_; clear n0_ n1_ n2_ n3_; clear hb hbox hg; have hcz8_0 : w7.cell? ⟨gb729, 0, none⟩ = some (.int .i64 0) := (blk_cell BK729.out 0).trans rfl; have hcz8_1 : w7.cell? ⟨gb729, 1, none⟩ = some (.int .i64 0) := (blk_cell BK729.out 1).trans rfl; have hfz8_0 := blk_frozen BK729.out 0; have hfz8_1 := blk_frozen BK729.out 1)); go_upto_region 4 with (first | ((with_reducible refine gate_dst (N := 6) rfl ?_); (try (refine gate_guard (by rfl) ?_; dsimp only)); refine box_event ?hg (N := 6) ?hd (cs := #[.int .i64 0, .int .i64 0]) (t := 64) ?hr ?_; (case hd => rfl); (case hg => rfl); (case hr => first | (go_simp; done) | (go_simp; rfl)); intro gb729 hg w7 hbox hb; have n0_ := Aside0.mk (below_step (zB HB.out) hb); have n1_ := Aside0.mk (hbox); have n2_ := Aside0.mk ((by rw [hg]; exact (below_size (zB HB.out)) : w.heap.size ≤ gb729)); have n3_ := Aside0.mk ((by rw [hg]; exact (below_size (zB HB.out)) : w.heap.size ≤ gb729)); clear HB; have HB := n0_; have BK729 := n1_; have GW729 := n2_; have GE729 := n3_; clear n0_ n1_ n2_ n3_; clear hb hbox hg; have hcz8_0 : w7.cell? ⟨gb729, 0, none⟩ = some (.int .i64 0) := (blk_cell BK729.out 0).trans rfl; have hcz8_1 : w7.cell? ⟨gb729, 1, none⟩ = some (.int .i64 0) := (blk_cell BK729.out 1).trans rfl; have hfz8_0 := blk_frozen BK729.out 0; have hfz8_1 := blk_frozen BK729.out 1)))
            (try simp only [Act.put, List.setIfInBounds_toArray, List.set_cons_zero, List.set_cons_succ])
            go_cut [32] (fun v32 wc => ∃ (kq : Nat) (x32_5 : Bool), v32 = .bool x32_5 ∧ Aside0 (impl_ScriptOk.j1 kq a0 l1 x9_1 l1 (l1.length : Int) x9_1 x32_5 ((rd_T64 l1 x9_1).f0) ((rd_T64 l1 x9_1).f1) = some r) ∧ Aside0 (kq ≤ k1) ∧ Aside0 (wc.heap[gb729]? = some (.cells #[.int .i64 ((rd_T64 l1 x9_1).f0), .int .i64 ((rd_T64 l1 x9_1).f1)] 64 (0, 0))) ∧ Aside0 (Below w.heap.size w wc))
            case first =>
              have H := HC6.out
              clear HC6
              by_cases c9 : ((rd_T64 l1 x9_1).f0) < 0
              · rw [if_pos c9] at H
                have c9b0 : decide (((rd_T64 l1 x9_1).f0) < 0) = true := decide_eq_true c9
                clear c9
                (first | rw [c9b0] | (simp only [i64_w, i32_w]; rw [c9b0]) | skip)
                have H' := Aside0.mk H
                clear H
                have hcz10_0 : w7.cell? ⟨gb729, 0, none⟩ = some (.int .i64 0) := (blk_cell BK729.out 0).trans rfl
                have hcz10_1 : w7.cell? ⟨gb729, 1, none⟩ = some (.int .i64 0) := (blk_cell BK729.out 1).trans rfl
                have hfz10_0 := blk_frozen BK729.out 0
                have hfz10_1 := blk_frozen BK729.out 1
                go_wp2
                repeat (go_quiet (fail); try go_wp2)
                go_meet
                case rel => exact ⟨_, (true), (by first | rfl | (simp; done) | (simp [*]; done)), H', ⟨by have := HK1.out; first | omega | exact Nat.le_refl _⟩, ⟨by (with_reducible repeat (first | refine blk_drewN ?_ _ | refine blk_drew ?_ | refine blk_alloc ?_ _)); refine blk_put (cs := #[.int .i64 ((rd_T64 l1 x9_1).f0), .int .i64 0]) ?_ 1 _ rfl; (with_reducible repeat (first | refine blk_drewN ?_ _ | refine blk_drew ?_ | refine blk_alloc ?_ _)); refine blk_put (cs := #[.int .i64 0, .int .i64 0]) ?_ 0 _ rfl; (with_reducible repeat (first | refine blk_drewN ?_ _ | refine blk_drew ?_ | refine blk_alloc ?_ _)); exact BK729.out⟩, ⟨by repeat (first | (with_reducible first | exact HB.out | apply below_alloc | apply pw_below_drewN | apply below_drew1 | refine below_set ?_ GE729.out) | exact HB.out)⟩⟩
              · rw [if_neg c9] at H
                have c9b0 : decide (((rd_T64 l1 x9_1).f0) < 0) = false := decide_eq_false c9
                clear c9
                (first | rw [c9b0] | (simp only [i64_w, i32_w]; rw [c9b0]) | skip)
                by_cases c11 : ((rd_T64 l1 x9_1).f0) ≥ 60
                · rw [if_pos c11] at H
                  have c11b0 : decide (60 ≤ ((rd_T64 l1 x9_1).f0)) = true := decide_eq_true c11
                  clear c11
                  have H' := Aside0.mk H
                  clear H
                  have hcz12_0 : w7.cell? ⟨gb729, 0, none⟩ = some (.int .i64 0) := (blk_cell BK729.out 0).trans rfl
                  have hcz12_1 : w7.cell? ⟨gb729, 1, none⟩ = some (.int .i64 0) := (blk_cell BK729.out 1).trans rfl
                  have hfz12_0 := blk_frozen BK729.out 0
                  have hfz12_1 := blk_frozen BK729.out 1
                  go_wp2
                  repeat (go_quiet (fail); try go_wp2)
                  go_meet
                  case rel => exact ⟨_, (true), (by first | rfl | (simp; done) | (simp [*]; done)), H', ⟨by have := HK1.out; first | omega | exact Nat.le_refl _⟩, ⟨by (with_reducible repeat (first | refine blk_drewN ?_ _ | refine blk_drew ?_ | refine blk_alloc ?_ _)); refine blk_put (cs := #[.int .i64 ((rd_T64 l1 x9_1).f0), .int .i64 0]) ?_ 1 _ rfl; (with_reducible repeat (first | refine blk_drewN ?_ _ | refine blk_drew ?_ | refine blk_alloc ?_ _)); refine blk_put (cs := #[.int .i64 0, .int .i64 0]) ?_ 0 _ rfl; (with_reducible repeat (first | refine blk_drewN ?_ _ | refine blk_drew ?_ | refine blk_alloc ?_ _)); exact BK729.out⟩, ⟨by repeat (first | (with_reducible first | exact HB.out | apply below_alloc | apply pw_below_drewN | apply below_drew1 | refine below_set ?_ GE729.out) | exact HB.out)⟩⟩
                · rw [if_neg c11] at H
                  have c11b0 : decide (60 ≤ ((rd_T64 l1 x9_1).f0)) = false := decide_eq_false c11
                  clear c11
                  by_cases c13 : ((rd_T64 l1 x9_1).f1) < 0
                  · rw [if_pos c13] at H
                    have c13b0 : decide (((rd_T64 l1 x9_1).f1) < 0) = true := decide_eq_true c13
                    clear c13
                    have H' := Aside0.mk H
                    clear H
                    have hcz14_0 : w7.cell? ⟨gb729, 0, none⟩ = some (.int .i64 0) := (blk_cell BK729.out 0).trans rfl
                    have hcz14_1 : w7.cell? ⟨gb729, 1, none⟩ = some (.int .i64 0) := (blk_cell BK729.out 1).trans rfl
                    have hfz14_0 := blk_frozen BK729.out 0
                    have hfz14_1 := blk_frozen BK729.out 1
                    go_wp2
                    repeat (go_quiet (fail); try go_wp2)
                    go_meet
                    case rel => exact ⟨_, (true), (by first | rfl | (simp; done) | (simp [*]; done)), H', ⟨by have := HK1.out; first | omega | exact Nat.le_refl _⟩, ⟨by (with_reducible repeat (first | refine blk_drewN ?_ _ | refine blk_drew ?_ | refine blk_alloc ?_ _)); refine blk_put (cs := #[.int .i64 ((rd_T64 l1 x9_1).f0), .int .i64 0]) ?_ 1 _ rfl; (with_reducible repeat (first | refine blk_drewN ?_ _ | refine blk_drew ?_ | refine blk_alloc ?_ _)); refine blk_put (cs := #[.int .i64 0, .int .i64 0]) ?_ 0 _ rfl; (with_reducible repeat (first | refine blk_drewN ?_ _ | refine blk_drew ?_ | refine blk_alloc ?_ _)); exact BK729.out⟩, ⟨by repeat (first | (with_reducible first | exact HB.out | apply below_alloc | apply pw_below_drewN | apply below_drew1 | refine below_set ?_ GE729.out) | exact HB.out)⟩⟩
                  · rw [if_neg c13] at H
                    have c13b0 : decide (((rd_T64 l1 x9_1).f1) < 0) = false := decide_eq_false c13
                    clear c13
                    have H' := Aside0.mk H
                    clear H
                    have hcz15_0 : w7.cell? ⟨gb729, 0, none⟩ = some (.int .i64 0) := (blk_cell BK729.out 0).trans rfl
                    have hcz15_1 : w7.cell? ⟨gb729, 1, none⟩ = some (.int .i64 0) := (blk_cell BK729.out 1).trans rfl
                    have hfz15_0 := blk_frozen BK729.out 0
                    have hfz15_1 := blk_frozen BK729.out 1
                    go_wp2
                    repeat (go_quiet (fail); try go_wp2)
                    go_meet
                    case rel => exact ⟨_, (decide (((rd_T64 l1 x9_1).f1) ≥ a0)), (by first | rfl | (simp; done) | (simp [*]; done)), H', ⟨by have := HK1.out; first | omega | exact Nat.le_refl _⟩, ⟨by (with_reducible repeat (first | refine blk_drewN ?_ _ | refine blk_drew ?_ | refine blk_alloc ?_ _)); refine blk_put (cs := #[.int .i64 ((rd_T64 l1 x9_1).f0), .int .i64 0]) ?_ 1 _ rfl; (with_reducible repeat (first | refine blk_drewN ?_ _ | refine blk_drew ?_ | refine blk_alloc ?_ _)); refine blk_put (cs := #[.int .i64 0, .int .i64 0]) ?_ 0 _ rfl; (with_reducible repeat (first | refine blk_drewN ?_ _ | refine blk_drew ?_ | refine blk_alloc ?_ _)); exact BK729.out⟩, ⟨by repeat (first | (with_reducible first | exact HB.out | apply below_alloc | apply pw_below_drewN | apply below_drew1 | refine below_set ?_ GE729.out) | exact HB.out)⟩⟩
            case rest =>
              clear HC6
              try clear c1
              try clear p2
              try clear c3
              try clear c3b0
              try clear c4
              try clear c4b0
              try clear c5
              try clear c5b0
              try clear p7
              try clear q7
              try clear hx7
              try clear c9
              try clear c9b0
              try clear c11
              try clear c11b0
              try clear c13
              try clear c13b0
              try clear hcz10_0
              try clear hcz10_1
              try clear hcz12_0
              try clear hcz12_1
              try clear hcz14_0
              try clear hcz14_1
              try clear hcz15_0
              try clear hcz15_1
              try clear hcz8_0
              try clear hcz8_1
              try clear hfz10_0
              try clear hfz10_1
              try clear hfz12_0
              try clear hfz12_1
              try clear hfz14_0
              try clear hfz14_1
              try clear hfz15_0
              try clear hfz15_1
              try clear hfz8_0
              try clear hfz8_1
              try clear hx728_0
              try clear hx728_1
              try clear p2
              try clear p728
              try clear q728
              obtain ⟨kq, x32_5, rfl, HA, HJ5, BK729, HB⟩ := hcut
              cases kq with
              | zero => exact absurd HA.out (by simp [impl_ScriptOk.j1])
              | succ kj5 =>
                have H := HA.out
                clear HA
                simp only [impl_ScriptOk.j1] at H
                by_cases c16 : x32_5 = true
                · subst c16
                  have H1 : (some false) = some r := by rw [if_pos rfl] at H; exact H
                  clear H
                  have H := H1
                  clear H1
                  obtain rfl := Option.some.inj H
                  go_wp2
                  repeat (go_quiet (fail); try go_wp2)
                  go_ret
                  exact ⟨by first | rfl | (simp [errW_none, errW_some] <;> rfl) | (simp [*, errW_none, errW_some] <;> rfl), by repeat (first | (with_reducible first | exact HB.out | apply below_alloc | apply pw_below_drewN | apply below_drew1 | refine below_set ?_ GE729.out) | exact HB.out)⟩
                · replace c16 := Bool.eq_false_iff.mpr c16
                  subst c16
                  have H1 : (if x9_1 > 0 then (if 0 ≤ (wrap64 (x9_1 - 1)) then (if (wrap64 (x9_1 - 1)) < (l1.length : Int) then (if ((rd_T64 l1 x9_1).f0) < ((rd_T64 l1 (wrap64 (x9_1 - 1))).f0) then (some false) else (if ((rd_T64 l1 x9_1).f0) = ((rd_T64 l1 (wrap64 (x9_1 - 1))).f0) then (if ((rd_T64 l1 x9_1).f1) ≤ ((rd_T64 l1 (wrap64 (x9_1 - 1))).f1) then (some false) else (impl_ScriptOk.l0 kj5 a0 l1 l1 (l1.length : Int) (wrap64 (x9_1 + 1)))) else (impl_ScriptOk.l0 kj5 a0 l1 l1 (l1.length : Int) (wrap64 (x9_1 + 1))))) else (none)) else (none)) else (impl_ScriptOk.l0 kj5 a0 l1 l1 (l1.length : Int) (wrap64 (x9_1 + 1)))) = some r := by rw [if_neg (show ¬ (false = true) by decide)] at H; exact H
                  clear H
                  have H := H1
                  clear H1
                  by_cases c17 : x9_1 > 0
                  · rw [if_pos c17] at H
                    have c17b0 : decide (0 < x9_1) = true := decide_eq_true c17
                    clear c17
                    obtain ⟨ji18, hji18⟩ : ∃ j_ : Int, (wrap64 (x9_1 - 1)) = j_ := ⟨_, rfl⟩
                    replace H : (if 0 ≤ (ji18) then (if (ji18) < (l1.length : Int) then (if ((rd_T64 l1 x9_1).f0) < ((rd_T64 l1 (ji18)).f0) then (some false) else (if ((rd_T64 l1 x9_1).f0) = ((rd_T64 l1 (ji18)).f0) then (if ((rd_T64 l1 x9_1).f1) ≤ ((rd_T64 l1 (ji18)).f1) then (some false) else (impl_ScriptOk.l0 kj5 a0 l1 l1 (l1.length : Int) (wrap64 (x9_1 + 1)))) else (impl_ScriptOk.l0 kj5 a0 l1 l1 (l1.length : Int) (wrap64 (x9_1 + 1))))) else (none)) else (none)) = some r := by first | (rw [hji18] at H; exact H) | (simp only [hji18] at H ⊢; exact H)
                    have hji18w : (IntKind.i64.wrap (x9_1 - 1)) = ji18 := (i64_w _).trans hji18
                    by_cases c19 : 0 ≤ (ji18)
                    · rw [if_pos c19] at H
                      have c19b0 : decide (0 ≤ (ji18)) = true := decide_eq_true c19
                      clear c19
                      by_cases c20 : (ji18) < (l1.length : Int)
                      · rw [if_pos c20] at H
                        have c20b0 : decide ((ji18) < (l1.length : Int)) = true := decide_eq_true c20
                        clear c20
                        by_cases c21 : ((rd_T64 l1 x9_1).f0) < ((rd_T64 l1 (ji18)).f0)
                        · rw [if_pos c21] at H
                          have c21b0 : decide (((rd_T64 l1 x9_1).f0) < ((rd_T64 l1 (ji18)).f0)) = true := decide_eq_true c21
                          clear c21
                          obtain rfl := Option.some.inj H
                          have hcz22_0 : wc.cell? ⟨gb729, 0, none⟩ = some (.int .i64 ((rd_T64 l1 x9_1).f0)) := (blk_cell BK729.out 0).trans rfl
                          have hcz22_1 : wc.cell? ⟨gb729, 1, none⟩ = some (.int .i64 ((rd_T64 l1 x9_1).f1)) := (blk_cell BK729.out 1).trans rfl
                          have hfz22_0 := blk_frozen BK729.out 0
                          have hfz22_1 := blk_frozen BK729.out 1
                          have p730 : 0 ≤ ((ji18) : Int) := of_decide_eq_true (by first | (with_reducible assumption) | assumption)
                          have q730 : (ji18) < (l1.length : Int) := of_decide_eq_true (by first | (with_reducible assumption) | assumption)
                          obtain ⟨ad730, e730, hx730_0, hx730_1⟩ := at_T64 HR1.out (ji18) p730 q730
                          obtain rfl : ad728 = ad730 := (by injection e730)
                          replace hx730_0 := (HB.out.cell (World.block_lt_of_cell? w _ hx730_0)).trans hx730_0
                          replace hx730_1 := (HB.out.cell (World.block_lt_of_cell? w _ hx730_1)).trans hx730_1
                          replace p730 := eq_true p730
                          replace q730 := eq_true q730
                          go_wp2
                          repeat (go_quiet (fail); try go_wp2)
                          go_ret
                          exact ⟨by first | rfl | (simp [errW_none, errW_some] <;> rfl) | (simp only [← hji18]; first | rfl | (simp [errW_none, errW_some] <;> rfl)) | (simp [*, errW_none, errW_some] <;> rfl), by repeat (first | (with_reducible first | exact HB.out | apply below_alloc | apply pw_below_drewN | apply below_drew1 | refine below_set ?_ GE729.out) | exact HB.out)⟩
                        · rw [if_neg c21] at H
                          have c21b0 : decide (((rd_T64 l1 x9_1).f0) < ((rd_T64 l1 (ji18)).f0)) = false := decide_eq_false c21
                          clear c21
                          by_cases c23 : ((rd_T64 l1 x9_1).f0) = ((rd_T64 l1 (ji18)).f0)
                          · rw [if_pos c23] at H
                            have c23b0 : (((rd_T64 l1 x9_1).f0) == ((rd_T64 l1 (ji18)).f0)) = true := beq_iff_eq.mpr c23
                            have c23b1 : (((rd_T64 l1 x9_1).f0) != ((rd_T64 l1 (ji18)).f0)) = false := bne_eq_false_iff_eq.mpr c23
                            clear c23
                            by_cases c24 : ((rd_T64 l1 x9_1).f1) ≤ ((rd_T64 l1 (ji18)).f1)
                            · rw [if_pos c24] at H
                              have c24b0 : decide (((rd_T64 l1 x9_1).f1) ≤ ((rd_T64 l1 (ji18)).f1)) = true := decide_eq_true c24
                              clear c24
                              obtain rfl := Option.some.inj H
                              have hcz25_0 : wc.cell? ⟨gb729, 0, none⟩ = some (.int .i64 ((rd_T64 l1 x9_1).f0)) := (blk_cell BK729.out 0).trans rfl
                              have hcz25_1 : wc.cell? ⟨gb729, 1, none⟩ = some (.int .i64 ((rd_T64 l1 x9_1).f1)) := (blk_cell BK729.out 1).trans rfl
                              have hfz25_0 := blk_frozen BK729.out 0
                              have hfz25_1 := blk_frozen BK729.out 1
                              have p730 : 0 ≤ ((ji18) : Int) := of_decide_eq_true (by first | (with_reducible assumption) | assumption)
                              have q730 : (ji18) < (l1.length : Int) := of_decide_eq_true (by first | (with_reducible assumption) | assumption)
                              obtain ⟨ad730, e730, hx730_0, hx730_1⟩ := at_T64 HR1.out (ji18) p730 q730
                              obtain rfl : ad728 = ad730 := (by injection e730)
                              replace hx730_0 := (HB.out.cell (World.block_lt_of_cell? w _ hx730_0)).trans hx730_0
                              replace hx730_1 := (HB.out.cell (World.block_lt_of_cell? w _ hx730_1)).trans hx730_1
                              replace p730 := eq_true p730
                              replace q730 := eq_true q730
                              have p731 : 0 ≤ ((ji18) : Int) := of_decide_eq_true (by first | (with_reducible assumption) | assumption)
                              have q731 : (ji18) < (l1.length : Int) := of_decide_eq_true (by first | (with_reducible assumption) | assumption)
                              obtain ⟨ad731, e731, hx731_0, hx731_1⟩ := at_T64 HR1.out (ji18) p731 q731
                              obtain rfl : ad728 = ad731 := (by injection e731)
                              replace hx731_0 := (HB.out.cell (World.block_lt_of_cell? w _ hx731_0)).trans hx731_0
                              replace hx731_1 := (HB.out.cell (World.block_lt_of_cell? w _ hx731_1)).trans hx731_1
                              replace p731 := eq_true p731
                              replace q731 := eq_true q731
                              have p732 : 0 ≤ ((ji18) : Int) := of_decide_eq_true (by first | (with_reducible assumption) | assumption)
                              have q732 : (ji18) < (l1.length : Int) := of_decide_eq_true (by first | (with_reducible assumption) | assumption)
                              obtain ⟨ad732, e732, hx732_0, hx732_1⟩ := at_T64 HR1.out (ji18) p732 q732
                              obtain rfl : ad728 = ad732 := (by injection e732)
                              replace hx732_0 := (HB.out.cell (World.block_lt_of_cell? w _ hx732_0)).trans hx732_0
                              replace hx732_1 := (HB.out.cell (World.block_lt_of_cell? w _ hx732_1)).trans hx732_1
                              replace p732 := eq_true p732
                              replace q732 := eq_true q732
                              go_wp2
                              repeat (go_quiet (fail); try go_wp2)
                              go_ret
                              exact ⟨by first | rfl | (simp [errW_none, errW_some] <;> rfl) | (simp only [← hji18]; first | rfl | (simp [errW_none, errW_some] <;> rfl)) | (simp [*, errW_none, errW_some] <;> rfl), by repeat (first | (with_reducible first | exact HB.out | apply below_alloc | apply pw_below_drewN | apply below_drew1 | refine below_set ?_ GE729.out) | exact HB.out)⟩
                            · rw [if_neg c24] at H
                              have c24b0 : decide (((rd_T64 l1 x9_1).f1) ≤ ((rd_T64 l1 (ji18)).f1)) = false := decide_eq_false c24
                              clear c24
                              have H' := Aside0.mk H
                              clear H
                              have hcz26_0 : wc.cell? ⟨gb729, 0, none⟩ = some (.int .i64 ((rd_T64 l1 x9_1).f0)) := (blk_cell BK729.out 0).trans rfl
                              have hcz26_1 : wc.cell? ⟨gb729, 1, none⟩ = some (.int .i64 ((rd_T64 l1 x9_1).f1)) := (blk_cell BK729.out 1).trans rfl
                              have hfz26_0 := blk_frozen BK729.out 0
                              have hfz26_1 := blk_frozen BK729.out 1
                              have p730 : 0 ≤ ((ji18) : Int) := of_decide_eq_true (by first | (with_reducible assumption) | assumption)
                              have q730 : (ji18) < (l1.length : Int) := of_decide_eq_true (by first | (with_reducible assumption) | assumption)
                              obtain ⟨ad730, e730, hx730_0, hx730_1⟩ := at_T64 HR1.out (ji18) p730 q730
                              obtain rfl : ad728 = ad730 := (by injection e730)
                              replace hx730_0 := (HB.out.cell (World.block_lt_of_cell? w _ hx730_0)).trans hx730_0
                              replace hx730_1 := (HB.out.cell (World.block_lt_of_cell? w _ hx730_1)).trans hx730_1
                              replace p730 := eq_true p730
                              replace q730 := eq_true q730
                              have p731 : 0 ≤ ((ji18) : Int) := of_decide_eq_true (by first | (with_reducible assumption) | assumption)
                              have q731 : (ji18) < (l1.length : Int) := of_decide_eq_true (by first | (with_reducible assumption) | assumption)
                              obtain ⟨ad731, e731, hx731_0, hx731_1⟩ := at_T64 HR1.out (ji18) p731 q731
                              obtain rfl : ad728 = ad731 := (by injection e731)
                              replace hx731_0 := (HB.out.cell (World.block_lt_of_cell? w _ hx731_0)).trans hx731_0
                              replace hx731_1 := (HB.out.cell (World.block_lt_of_cell? w _ hx731_1)).trans hx731_1
                              replace p731 := eq_true p731
                              replace q731 := eq_true q731
                              have p732 : 0 ≤ ((ji18) : Int) := of_decide_eq_true (by first | (with_reducible assumption) | assumption)
                              have q732 : (ji18) < (l1.length : Int) := of_decide_eq_true (by first | (with_reducible assumption) | assumption)
                              obtain ⟨ad732, e732, hx732_0, hx732_1⟩ := at_T64 HR1.out (ji18) p732 q732
                              obtain rfl : ad728 = ad732 := (by injection e732)
                              replace hx732_0 := (HB.out.cell (World.block_lt_of_cell? w _ hx732_0)).trans hx732_0
                              replace hx732_1 := (HB.out.cell (World.block_lt_of_cell? w _ hx732_1)).trans hx732_1
                              replace p732 := eq_true p732
                              replace q732 := eq_true q732
                              go_wp2
                              repeat (go_quiet (fail); try go_wp2)
                              go_roundg kj5
                              case measure => have := HK1.out; have := HJ5.out; omega
                              case rel => exact ⟨(wrap64 (x9_1 + 1)), (by first | rfl | (simp; done) | (simp [*]; done)), H', ⟨by have := HK1.out; have := HJ5.out; omega⟩, ⟨by repeat (first | (with_reducible first | exact HB.out | apply below_alloc | apply pw_below_drewN | apply below_drew1 | refine below_set ?_ GE729.out) | exact HB.out)⟩⟩
                          · rw [if_neg c23] at H
                            have c23b0 : (((rd_T64 l1 x9_1).f0) == ((rd_T64 l1 (ji18)).f0)) = false := beq_eq_false_iff_ne.mpr c23
                            have c23b1 : (((rd_T64 l1 x9_1).f0) != ((rd_T64 l1 (ji18)).f0)) = true := bne_iff_ne.mpr c23
                            have H' := Aside0.mk H
                            clear H
                            have hcz27_0 : wc.cell? ⟨gb729, 0, none⟩ = some (.int .i64 ((rd_T64 l1 x9_1).f0)) := (blk_cell BK729.out 0).trans rfl
                            have hcz27_1 : wc.cell? ⟨gb729, 1, none⟩ = some (.int .i64 ((rd_T64 l1 x9_1).f1)) := (blk_cell BK729.out 1).trans rfl
                            have hfz27_0 := blk_frozen BK729.out 0
                            have hfz27_1 := blk_frozen BK729.out 1
                            have p730 : 0 ≤ ((ji18) : Int) := of_decide_eq_true (by first | (with_reducible assumption) | assumption)
                            have q730 : (ji18) < (l1.length : Int) := of_decide_eq_true (by first | (with_reducible assumption) | assumption)
                            obtain ⟨ad730, e730, hx730_0, hx730_1⟩ := at_T64 HR1.out (ji18) p730 q730
                            obtain rfl : ad728 = ad730 := (by injection e730)
                            replace hx730_0 := (HB.out.cell (World.block_lt_of_cell? w _ hx730_0)).trans hx730_0
                            replace hx730_1 := (HB.out.cell (World.block_lt_of_cell? w _ hx730_1)).trans hx730_1
                            replace p730 := eq_true p730
                            replace q730 := eq_true q730
                            have p731 : 0 ≤ ((ji18) : Int) := of_decide_eq_true (by first | (with_reducible assumption) | assumption)
                            have q731 : (ji18) < (l1.length : Int) := of_decide_eq_true (by first | (with_reducible assumption) | assumption)
                            obtain ⟨ad731, e731, hx731_0, hx731_1⟩ := at_T64 HR1.out (ji18) p731 q731
                            obtain rfl : ad728 = ad731 := (by injection e731)
                            replace hx731_0 := (HB.out.cell (World.block_lt_of_cell? w _ hx731_0)).trans hx731_0
                            replace hx731_1 := (HB.out.cell (World.block_lt_of_cell? w _ hx731_1)).trans hx731_1
                            replace p731 := eq_true p731
                            replace q731 := eq_true q731
                            go_wp2
                            repeat (go_quiet (fail); try go_wp2)
                            go_roundg kj5
                            case measure => have := HK1.out; have := HJ5.out; omega
                            case rel => exact ⟨(wrap64 (x9_1 + 1)), (by first | rfl | (simp; done) | (simp [*]; done)), H', ⟨by have := HK1.out; have := HJ5.out; omega⟩, ⟨by repeat (first | (with_reducible first | exact HB.out | apply below_alloc | apply pw_below_drewN | apply below_drew1 | refine below_set ?_ GE729.out) | exact HB.out)⟩⟩
                      · rw [if_neg c20] at H
                        exact absurd H (by simp)
                    · rw [if_neg c19] at H
                      exact absurd H (by simp)
                  · rw [if_neg c17] at H
                    have c17b0 : decide (0 < x9_1) = false := decide_eq_false c17
                    clear c17
                    have H' := Aside0.mk H
                    clear H
                    go_wp2
                    repeat (go_quiet (fail); try go_wp2)
                    go_roundg kj5
                    case measure => have := HK1.out; have := HJ5.out; omega
                    case rel => exact ⟨(wrap64 (x9_1 + 1)), (by first | rfl | (simp; done) | (simp [*]; done)), H', ⟨by have := HK1.out; have := HJ5.out; omega⟩, ⟨by repeat (first | (with_reducible first | exact HB.out | apply below_alloc | apply pw_below_drewN | apply below_drew1 | refine below_set ?_ GE729.out) | exact HB.out)⟩⟩
          · rw [if_neg c5] at H
            exact absurd H (by simp)
        · rw [if_neg c4] at H
          exact absurd H (by simp)
      · rw [if_neg c3] at H
        have c3b0 : decide (x9_1 < (l1.length : Int)) = false := decide_eq_false c3
        clear c3
        by_cases c28 : a0 ≥ 1
        · rw [if_pos c28] at H
          have c28b0 : decide (1 ≤ a0) = true := decide_eq_true c28
          clear c28
          by_cases c29 : a0 ≤ 6
          · rw [if_pos c29] at H
            have c29b0 : decide (a0 ≤ 6) = true := decide_eq_true c29
            clear c29
            obtain rfl := Option.some.inj H
            go_wp2
            repeat (go_quiet (fail); try go_wp2)
            go_ret
            exact ⟨by first | rfl | (simp [errW_none, errW_some] <;> rfl) | (simp [*, errW_none, errW_some] <;> rfl), zB HB.out⟩
          · rw [if_neg c29] at H
            have c29b0 : decide (a0 ≤ 6) = false := decide_eq_false c29
            clear c29
            obtain rfl := Option.some.inj H
            go_wp2
            repeat (go_quiet (fail); try go_wp2)
            go_ret
            exact ⟨by first | rfl | (simp [errW_none, errW_some] <;> rfl) | (simp [*, errW_none, errW_some] <;> rfl), zB HB.out⟩
        · rw [if_neg c28] at H
          have c28b0 : decide (1 ≤ a0) = false := decide_eq_false c28
          clear c28
          obtain rfl := Option.some.inj H
          go_wp2
          repeat (go_quiet (fail); try go_wp2)
          go_ret
          exact ⟨by first | rfl | (simp [errW_none, errW_some] <;> rfl) | (simp [*, errW_none, errW_some] <;> rfl), zB HB.out⟩

end Go.Proofs.Ytfhkahlfpchhpaa.PAll
