/- Own text of this session, written by a program of this session (wip/t/own.py) out of what the kit tells of the functions: each Go function as a Lean function, and the walk through its code. -/
import Derived.Test.YtfhkahlfpchhpaaT
import Derived.Test.YtfhkahlfpchhpaaF0
namespace Go.Proofs.Ytfhkahlfpchhpaa.PAll
open Go.RowKit Go.Proofs.YtfhkahlfpchhpaaW.PrintWords Go.Proofs.YtfhkahlfpchhpaaW.PrintLast Go.Proofs.YtfhkahlfpchhpaaW.PrintMore
attribute [local go_sem] max2_int min2_int max_two min_two max_three min_three max_four min_four   -- for this text's walks alone
set_option linter.unusedVariables false
set_option linter.unusedSimpArgs false

/-! ### spec_l20Script: function 89 -/
mutual
def spec_l20Script.l0 : Nat → Int → Int → List (S64) → Int → Int → Int → List Int → Int → Option ((List (S64)) × Int)
  | 0, _, _, _, _, _, _, _, _ => none
  | k + 1, x1, x2, x7, x8, x9, x10, x1000, x1001 => if x10 > 0 then (spec_l20Script.j1 k x1 x2 x7 x8 x9 x10 (decide (x1 > 0)) x1000 x1001) else (spec_l20Script.j1 k x1 x2 x7 x8 x9 x10 false x1000 x1001)
def spec_l20Script.j1 : Nat → Int → Int → List (S64) → Int → Int → Int → Bool → List Int → Int → Option ((List (S64)) × Int)
  | 0, _, _, _, _, _, _, _, _, _ => none
  | k + 1, x1, x2, x7, x8, x9, x10, x19, x1000, x1001 => if x19 = true then ((spec_l20Rd_pick.f k x1000 x1001 2).bind fun bt1038 => (if (wrap64 ((wrap64 (x9 + 1)) + bt1038.1)) ≥ x1 then (spec_l20Script.j2 k x1 x2 x7 x8 (wrap64 ((wrap64 (x9 + 1)) + bt1038.1)) x10 true x1000 bt1038.2) else ((spec_l20Rd_pick.f k x1000 bt1038.2 3).bind fun bt1040 => (spec_l20Script.j2 k x1 x2 x7 x8 (wrap64 ((wrap64 (x9 + 1)) + bt1038.1)) x10 (decide (bt1040.1 > 0)) x1000 bt1040.2)))) else ((spec_l20Rd_odd.f k x1000 x1001 x2).bind fun bt1052 => (if bt1052.1 = true then ((some (([(⟨(-1), 0⟩ : S64), (⟨60, 0⟩ : S64), (⟨59, 6⟩ : S64)] : List (S64)) : List (S64))).bind fun y1054 => ((spec_l20Rd_pick.f k x1000 bt1052.2 3).bind fun bt1057 => (if 0 ≤ bt1057.1 then (if bt1057.1 < (y1054.length : Int) then (if x7.length < 8796093022208 then (some ((x7 ++ [(⟨(rd_T64 y1054 bt1057.1).f0, (rd_T64 y1054 bt1057.1).f1⟩ : S64)]), bt1057.2)) else (none)) else (none)) else (none)))) else (some (x7, bt1052.2))))
def spec_l20Script.j2 : Nat → Int → Int → List (S64) → Int → Int → Int → Bool → List Int → Int → Option ((List (S64)) × Int)
  | 0, _, _, _, _, _, _, _, _, _ => none
  | k + 1, x1, x2, x7, x8, x9, x10, x34, x1000, x1001 => if x34 = true then ((spec_l20Rd_pick.f k x1000 x1001 4).bind fun bt1042 => ((spec_l20Rd_pick.f k x1000 bt1042.2 x1).bind fun bt1044 => (if x7.length < 8796093022208 then (spec_l20Script.l0 k x1 x2 (x7 ++ [(⟨wrap64 ((wrap64 (x8 + 1)) + bt1042.1), bt1044.1⟩ : S64)]) (wrap64 ((wrap64 (x8 + 1)) + bt1042.1)) bt1044.1 (wrap64 (x10 - 1)) x1000 bt1044.2) else (none)))) else (if x7.length < 8796093022208 then (spec_l20Script.l0 k x1 x2 (x7 ++ [(⟨x8, x9⟩ : S64)]) x8 x9 (wrap64 (x10 - 1)) x1000 x1001) else (none))
end
def spec_l20Script.f (k : Nat) (s0_0 : List Int) (s0_1 : Int) (a1 : Int) (a2 : Int) : Option ((List (S64)) × Int) := (spec_l20Rd_pick.f k s0_0 s0_1 6).bind fun bt1036 => (spec_l20Script.l0 k a1 a2 (([] : List (S64))) 0 (-1) bt1036.1 s0_0 bt1036.2)
theorem spec_l20Script.mono_l : ∀ k, (∀ y0 y1 y2 y3 y4 y5 y6 y7, LeO (spec_l20Script.l0 k y0 y1 y2 y3 y4 y5 y6 y7) (spec_l20Script.l0 (k + 1) y0 y1 y2 y3 y4 y5 y6 y7)) ∧ (∀ y0 y1 y2 y3 y4 y5 y6 y7 y8, LeO (spec_l20Script.j1 k y0 y1 y2 y3 y4 y5 y6 y7 y8) (spec_l20Script.j1 (k + 1) y0 y1 y2 y3 y4 y5 y6 y7 y8)) ∧ (∀ y0 y1 y2 y3 y4 y5 y6 y7 y8, LeO (spec_l20Script.j2 k y0 y1 y2 y3 y4 y5 y6 y7 y8) (spec_l20Script.j2 (k + 1) y0 y1 y2 y3 y4 y5 y6 y7 y8))
  | 0 => ⟨fun _ _ _ _ _ _ _ _ r h => by simp [spec_l20Script.l0] at h, fun _ _ _ _ _ _ _ _ _ r h => by simp [spec_l20Script.j1] at h, fun _ _ _ _ _ _ _ _ _ r h => by simp [spec_l20Script.j2] at h⟩
  | k + 1 => by
    obtain ⟨ih0, ih1, ih2⟩ := spec_l20Script.mono_l k
    refine ⟨?_, ?_, ?_⟩
    · intro y0 y1 y2 y3 y4 y5 y6 y7
      unfold spec_l20Script.l0
      repeat' first
      | (with_reducible exact ih0 _ _ _ _ _ _ _ _)
      | (with_reducible exact ih1 _ _ _ _ _ _ _ _ _)
      | (with_reducible exact ih2 _ _ _ _ _ _ _ _ _)
      | (with_reducible exact spec_l20Rd_odd.mono _ _ _ _)
      | (with_reducible exact spec_l20Rd_pick.mono _ _ _ _)
      | (with_reducible exact LeO.refl _)
      | (with_reducible exact LeO.none _)
      | (with_reducible refine LeO.ite ?_ ?_)
      | (with_reducible refine LeO.bind ?_ (fun _ => ?_))
      | exact ih0 _ _ _ _ _ _ _ _
      | exact ih1 _ _ _ _ _ _ _ _ _
      | exact ih2 _ _ _ _ _ _ _ _ _
      | exact spec_l20Rd_odd.mono _ _ _ _
      | exact spec_l20Rd_pick.mono _ _ _ _
      | exact LeO.none _
      | refine LeO.ite ?_ ?_
      | refine LeO.bind ?_ (fun _ => ?_)
    · intro y0 y1 y2 y3 y4 y5 y6 y7 y8
      unfold spec_l20Script.j1
      repeat' first
      | (with_reducible exact ih0 _ _ _ _ _ _ _ _)
      | (with_reducible exact ih1 _ _ _ _ _ _ _ _ _)
      | (with_reducible exact ih2 _ _ _ _ _ _ _ _ _)
      | (with_reducible exact spec_l20Rd_odd.mono _ _ _ _)
      | (with_reducible exact spec_l20Rd_pick.mono _ _ _ _)
      | (with_reducible exact LeO.refl _)
      | (with_reducible exact LeO.none _)
      | (with_reducible refine LeO.ite ?_ ?_)
      | (with_reducible refine LeO.bind ?_ (fun _ => ?_))
      | exact ih0 _ _ _ _ _ _ _ _
      | exact ih1 _ _ _ _ _ _ _ _ _
      | exact ih2 _ _ _ _ _ _ _ _ _
      | exact spec_l20Rd_odd.mono _ _ _ _
      | exact spec_l20Rd_pick.mono _ _ _ _
      | exact LeO.none _
      | refine LeO.ite ?_ ?_
      | refine LeO.bind ?_ (fun _ => ?_)
    · intro y0 y1 y2 y3 y4 y5 y6 y7 y8
      unfold spec_l20Script.j2
      repeat' first
      | (with_reducible exact ih0 _ _ _ _ _ _ _ _)
      | (with_reducible exact ih1 _ _ _ _ _ _ _ _ _)
      | (with_reducible exact ih2 _ _ _ _ _ _ _ _ _)
      | (with_reducible exact spec_l20Rd_odd.mono _ _ _ _)
      | (with_reducible exact spec_l20Rd_pick.mono _ _ _ _)
      | (with_reducible exact LeO.refl _)
      | (with_reducible exact LeO.none _)
      | (with_reducible refine LeO.ite ?_ ?_)
      | (with_reducible refine LeO.bind ?_ (fun _ => ?_))
      | exact ih0 _ _ _ _ _ _ _ _
      | exact ih1 _ _ _ _ _ _ _ _ _
      | exact ih2 _ _ _ _ _ _ _ _ _
      | exact spec_l20Rd_odd.mono _ _ _ _
      | exact spec_l20Rd_pick.mono _ _ _ _
      | exact LeO.none _
      | refine LeO.ite ?_ ?_
      | refine LeO.bind ?_ (fun _ => ?_)
theorem spec_l20Script.mono : ∀ a0 a1 a2 a3 k, LeO (spec_l20Script.f k a0 a1 a2 a3) (spec_l20Script.f (k + 1) a0 a1 a2 a3) := by
  intro a0 a1 a2 a3 k
  obtain ⟨ih0, ih1, ih2⟩ := spec_l20Script.mono_l k
  unfold spec_l20Script.f
  repeat' first
      | (with_reducible exact ih0 _ _ _ _ _ _ _ _)
      | (with_reducible exact ih1 _ _ _ _ _ _ _ _ _)
      | (with_reducible exact ih2 _ _ _ _ _ _ _ _ _)
      | (with_reducible exact spec_l20Rd_odd.mono _ _ _ _)
      | (with_reducible exact spec_l20Rd_pick.mono _ _ _ _)
      | (with_reducible exact LeO.refl _)
      | (with_reducible exact LeO.none _)
      | (with_reducible refine LeO.ite ?_ ?_)
      | (with_reducible refine LeO.bind ?_ (fun _ => ?_))
      | exact ih0 _ _ _ _ _ _ _ _
      | exact ih1 _ _ _ _ _ _ _ _ _
      | exact ih2 _ _ _ _ _ _ _ _ _
      | exact spec_l20Rd_odd.mono _ _ _ _
      | exact spec_l20Rd_pick.mono _ _ _ _
      | exact LeO.none _
      | refine LeO.ite ?_ ?_
      | refine LeO.bind ?_ (fun _ => ?_)
set_option maxHeartbeats 8000000 in
set_option maxRecDepth 100000 in
theorem spec_l20Script.calls (k : Nat) (g : Nat) (s0_0 : List Int) (s0_1 : Int) (a1 : Int) (a2 : Int) (r1 : List (S64)) (r2 : Int) (w0 w : World) (hI : IsS92 w0 w g s0_0 s0_1) (hB : Below w0.heap.size w0 w) (h : spec_l20Script.f k s0_0 s0_1 a1 a2 = some (r1, r2)) :
    Calls Try.prog 89 #[.pointer (some ⟨g, 0, none⟩), .int .i64 a1, .int .i64 a2] w fun e w' => ∃ v0_ : Value, e = .returned (v0_) ∧ Kd.R k64 64 w' w.heap.size (fun _ => True) v0_ r1 ∧ IsS92 w0 w' g s0_0 r2 ∧ Below w0.heap.size w0 w' ∧ KeepBut w w' g none := by
  have hu64 := Try.underlying64
  have HI0 := Aside0.mk hI
  have HK := Aside0.mk (KeepBut.refl w g none)
  have HL := Aside0.mk hB.size
  clear hI
  have HW0 := Aside0.mk hB.size
  have HB := Aside0.mk hB
  clear hB
  have H : ((spec_l20Rd_pick.f k s0_0 s0_1 6).bind fun bt1036 => (spec_l20Script.l0 k a1 a2 (([] : List (S64))) 0 (-1) bt1036.1 s0_0 bt1036.2)) = some (r1, r2) := h
  clear h
  obtain ⟨y1033, hy1033⟩ : ∃ y_ : List (S64), y_ = (([] : List (S64))) := ⟨_, rfl⟩
  replace H : ((spec_l20Rd_pick.f k s0_0 s0_1 6).bind fun bt1036 => (spec_l20Script.l0 k a1 a2 y1033 0 (-1) bt1036.1 s0_0 bt1036.2)) = some (r1, r2) := by first | (rw [hy1033]; with_reducible exact H) | (have H2_ := (Option.bind_some _ _).symm.trans H; rw [hy1033]; with_reducible exact H2_) | (have H2_ := (Option.bind_some _ _).symm.trans H; with_reducible exact H2_) | with_reducible exact H | (rw [hy1033]; exact H) | exact H
  have Ny1033 := Aside0.mk hy1033
  clear hy1033
  replace H := Option.bind_eq_some_iff.mp H
  obtain ⟨⟨t1036, t1037⟩, A40, H⟩ := H
  replace H : (spec_l20Script.l0 k a1 a2 y1033 0 (-1) t1036 s0_0 t1037) = some (r1, r2) := H
  have A4 := Aside0.mk A40
  clear A40
  have H' := Aside0.mk H
  clear H
  go_enter Try.func89, Try.ntmps89
  go_wp2_with (first | ((with_reducible refine gate_dst (N := 11) rfl ?_); refine Kd.R_lit k64 _ 64 ?hg (N := 11) ?hd (xs := ([] : List (S64))) (inner := []) (ok := fun _ => True) (okp := fun _ => True) ?hr ?hp (fun _ hk => hk) trivial (Below.refl _ _) (Nat.le_refl _) (by simp) ?_; (case hd => rfl); (case hg => rfl); (case hr => first | (go_simp; done) | (go_simp; rfl)); (case hp => exact (Reps.none _ _)); intro v1034 w5 ho6 hb hg_ hnew_; clear hg_ hnew_; (first | rw [← Ny1033.out] at ho6 | (simp only [Int.reduceToNat] at ho6; rw [← Ny1033.out] at ho6)); have n0_ := Aside0.mk (Kd.R_lower ho6 (keep_size (w := w) (g := g) (row := none) (by repeat (first | (with_reducible first | exact HK.out | apply KeepBut.set_ | apply keep_drewN | apply keep_drew | apply keep_alloc) | exact HK.out)))); have n1_ := Aside0.mk (IsS92.below (by repeat (first | (with_reducible first | exact HI0.out | apply IsS92.alloc | apply IsS92.drewN | apply IsS92.drew | apply IsS92.set_1) | exact HI0.out)) hb); have n2_ := Aside0.mk (KeepBut.trans (by repeat (first | (with_reducible first | exact HK.out | apply KeepBut.set_ | apply keep_drewN | apply keep_drew | apply keep_alloc) | exact HK.out)) (KeepBut.of_below hb g none) (.inl rfl)); have n3_ := Aside0.mk (below_step (by repeat (first | (with_reducible first | exact HB.out | apply below_alloc | apply pw_below_drewN | apply below_drew1 | refine below_set ?_ (IsS92.ge HI0.out)) | exact HB.out)) hb); clear HI0; clear HK; clear HB; have HO1035 := n0_; have HI0 := n1_; have HK := n2_; have HB := n3_; clear n0_ n1_ n2_ n3_; clear hb ho6) | ((with_reducible refine gate_callee (f := 82) rfl ?_); refine goesL_ (some 13) rfl rfl Try.func82 (by kernel_rfl) rfl #[.pointer (some ⟨g, 0, none⟩), .int .i64 6] rfl zA ?_; (with_reducible refine (spec_l20Rd_pick.calls k g s0_0 s0_1 6 t1036 t1037 w0 _ ?side1 ?side2 A4.out).mono ?_); (case side1 => repeat (first | (with_reducible first | exact HI0.out | apply IsS92.alloc | apply IsS92.drewN | apply IsS92.drew | apply IsS92.set_1) | exact HI0.out)); (case side2 => repeat (first | (with_reducible first | exact HB.out | apply below_alloc | apply pw_below_drewN | apply below_drew1 | refine below_set ?_ (IsS92.ge HI0.out)) | exact HB.out)); rintro e w7 ⟨rfl, hi, hb, hk⟩; refine ⟨_, rfl, ?_⟩; have n0_ := Aside0.mk (Kd.R_mono (Kd.R_keep (IsS92.apart (show IsS92 w0 _ g s0_0 s0_1 from by repeat (first | (with_reducible first | exact HI0.out | apply IsS92.alloc | apply IsS92.drewN | apply IsS92.drew | apply IsS92.set_1) | exact HI0.out)) (zR HO1035.out) (by decide)) hk (fun _ h => h.2)) (fun _ h => h.1)); have n1_ := Aside0.mk (KeepBut.trans (by repeat (first | (with_reducible first | exact HK.out | apply KeepBut.set_ | apply keep_drewN | apply keep_drew | apply keep_alloc) | exact HK.out)) hk (.inl rfl)); have n2_ := Aside0.mk (hb); have n3_ := Aside0.mk (hi); clear HO1035; clear HK; clear HB; clear HI0; have HO1035 := n0_; have HK := n1_; have HB := n2_; have HI0 := n3_; clear n0_ n1_ n2_ n3_; (try clear hb); (try clear hb2); (try clear hk); (try clear hi)))
  go_loopg [7, 8, 9, 10] k (fun kq v7 v8 v9 v10 w' => ∃ (x7_1 : List (S64)) (x8_1 : Int) (x9_1 : Int) (x10_1 : Int) (x1001_1 : Int), v8 = .int .i64 x8_1 ∧ v9 = .int .i64 x9_1 ∧ v10 = .int .i64 x10_1 ∧ Aside0 (spec_l20Script.l0 kq a1 a2 x7_1 x8_1 x9_1 x10_1 s0_0 x1001_1 = some (r1, r2)) ∧ Aside0 (kq ≤ k) ∧ Aside0 (Kd.R k64 64 w' w.heap.size (fun _ => True) v7 x7_1) ∧ Aside0 (IsS92 w0 w' g s0_0 x1001_1) ∧ Aside0 (KeepBut w w' g none) ∧ Aside0 (Below w0.heap.size w0 w'))
  case atStart => exact ⟨(y1033), (0), ((-1)), (t1036), (t1037), (by first | rfl | (simp; done) | (simp [*]; done)), (by first | rfl | (simp; done) | (simp [*]; done)), (by first | rfl | (simp; done) | (simp [*]; done)), H', ⟨Nat.le_refl _⟩, ⟨by (with_reducible repeat (first | apply Kd.R_alloc | apply Kd.R_drewN | apply Kd.R_drew)); exact HO1035.out⟩, ⟨by repeat (first | (with_reducible first | exact HI0.out | apply IsS92.alloc | apply IsS92.drewN | apply IsS92.drew | apply IsS92.set_1) | exact HI0.out)⟩, ⟨by repeat (first | (with_reducible first | exact HK.out | apply KeepBut.set_ | apply keep_drewN | apply keep_drew | apply keep_alloc) | exact HK.out)⟩, ⟨by repeat (first | (with_reducible first | exact HB.out | apply below_alloc | apply pw_below_drewN | apply below_drew1 | refine below_set ?_ (IsS92.ge HI0.out)) | exact HB.out)⟩⟩
  case round =>
    clear H'
    try clear p2
    obtain ⟨x7_1, x8_1, x9_1, x10_1, x1001_1, rfl, rfl, rfl, HA, HK1, HO_7, HI0, HK, HB⟩ := hrel
    cases gk with
    | zero => exact absurd HA.out (by simp [spec_l20Script.l0])
    | succ k1 =>
      have H := HA.out
      clear HA
      simp only [spec_l20Script.l0] at H
      have HC8 := Aside0.mk H
      clear H
      go_upto_region 5 with (fail)
      go_cut [19] (fun v19 wc => ∃ (kq : Nat) (x19_7 : Bool), v19 = .bool x19_7 ∧ Aside0 (spec_l20Script.j1 kq a1 a2 x7_1 x8_1 x9_1 x10_1 x19_7 s0_0 x1001_1 = some (r1, r2)) ∧ Aside0 (kq ≤ k1) ∧ Aside0 (Kd.R k64 64 wc w.heap.size (fun _ => True) u7 x7_1) ∧ Aside0 (IsS92 w0 wc g s0_0 x1001_1) ∧ Aside0 (KeepBut w wc g none) ∧ Aside0 (Below w0.heap.size w0 wc))
      case first =>
        have H := HC8.out
        clear HC8
        by_cases c9 : x10_1 > 0
        · rw [if_pos c9] at H
          have c9b0 : decide (0 < x10_1) = true := decide_eq_true c9
          clear c9
          (first | rw [c9b0] | (simp only [i64_w, i32_w]; rw [c9b0]) | skip)
          have H' := Aside0.mk H
          clear H
          go_wp2
          go_meet
          case rel => exact ⟨_, (decide (a1 > 0)), (by first | rfl | (simp; done) | (simp [*]; done)), H', ⟨by have := HK1.out; first | omega | exact Nat.le_refl _⟩, ⟨by (with_reducible repeat (first | apply Kd.R_alloc | apply Kd.R_drewN | apply Kd.R_drew)); exact HO_7.out⟩, ⟨by repeat (first | (with_reducible first | exact HI0.out | apply IsS92.alloc | apply IsS92.drewN | apply IsS92.drew | apply IsS92.set_1) | exact HI0.out)⟩, ⟨by repeat (first | (with_reducible first | exact HK.out | apply KeepBut.set_ | apply keep_drewN | apply keep_drew | apply keep_alloc) | exact HK.out)⟩, ⟨by repeat (first | (with_reducible first | exact HB.out | apply below_alloc | apply pw_below_drewN | apply below_drew1 | refine below_set ?_ (IsS92.ge HI0.out)) | exact HB.out)⟩⟩
        · rw [if_neg c9] at H
          have c9b0 : decide (0 < x10_1) = false := decide_eq_false c9
          clear c9
          (first | rw [c9b0] | (simp only [i64_w, i32_w]; rw [c9b0]) | skip)
          have H' := Aside0.mk H
          clear H
          go_wp2
          go_meet
          case rel => exact ⟨_, (false), (by first | rfl | (simp; done) | (simp [*]; done)), H', ⟨by have := HK1.out; first | omega | exact Nat.le_refl _⟩, ⟨by (with_reducible repeat (first | apply Kd.R_alloc | apply Kd.R_drewN | apply Kd.R_drew)); exact HO_7.out⟩, ⟨by repeat (first | (with_reducible first | exact HI0.out | apply IsS92.alloc | apply IsS92.drewN | apply IsS92.drew | apply IsS92.set_1) | exact HI0.out)⟩, ⟨by repeat (first | (with_reducible first | exact HK.out | apply KeepBut.set_ | apply keep_drewN | apply keep_drew | apply keep_alloc) | exact HK.out)⟩, ⟨by repeat (first | (with_reducible first | exact HB.out | apply below_alloc | apply pw_below_drewN | apply below_drew1 | refine below_set ?_ (IsS92.ge HI0.out)) | exact HB.out)⟩⟩
      case rest =>
        clear HC8
        try clear p2
        try clear c8
        try clear c9
        try clear c9b0
        try clear p2
        obtain ⟨kq, x19_7, rfl, HA, HJ7, HO_7, HI0, HK, HB⟩ := hcut
        cases kq with
        | zero => exact absurd HA.out (by simp [spec_l20Script.j1])
        | succ kj7 =>
          have H := HA.out
          clear HA
          simp only [spec_l20Script.j1] at H
          by_cases c10 : x19_7 = true
          · subst c10
            have H1 : ((spec_l20Rd_pick.f kj7 s0_0 x1001_1 2).bind fun bt1038 => (if (wrap64 ((wrap64 (x9_1 + 1)) + bt1038.1)) ≥ a1 then (spec_l20Script.j2 kj7 a1 a2 x7_1 x8_1 (wrap64 ((wrap64 (x9_1 + 1)) + bt1038.1)) x10_1 true s0_0 bt1038.2) else ((spec_l20Rd_pick.f kj7 s0_0 bt1038.2 3).bind fun bt1040 => (spec_l20Script.j2 kj7 a1 a2 x7_1 x8_1 (wrap64 ((wrap64 (x9_1 + 1)) + bt1038.1)) x10_1 (decide (bt1040.1 > 0)) s0_0 bt1040.2)))) = some (r1, r2) := by rw [if_pos rfl] at H; exact H
            clear H
            have H := H1
            clear H1
            replace H := Option.bind_eq_some_iff.mp H
            obtain ⟨⟨t1038, t1039⟩, A110, H⟩ := H
            replace H : (if (wrap64 ((wrap64 (x9_1 + 1)) + t1038)) ≥ a1 then (spec_l20Script.j2 kj7 a1 a2 x7_1 x8_1 (wrap64 ((wrap64 (x9_1 + 1)) + t1038)) x10_1 true s0_0 t1039) else ((spec_l20Rd_pick.f kj7 s0_0 t1039 3).bind fun bt1040 => (spec_l20Script.j2 kj7 a1 a2 x7_1 x8_1 (wrap64 ((wrap64 (x9_1 + 1)) + t1038)) x10_1 (decide (bt1040.1 > 0)) s0_0 bt1040.2))) = some (r1, r2) := H
            have A11 := Aside0.mk A110
            clear A110
            have HC12 := Aside0.mk H
            clear H
            go_upto_region 8 with (first | ((with_reducible refine gate_callee (f := 82) rfl ?_); refine goesL_ (some 25) rfl rfl Try.func82 (by kernel_rfl) rfl #[.pointer (some ⟨g, 0, none⟩), .int .i64 2] rfl zA ?_; (with_reducible refine (spec_l20Rd_pick.calls kj7 g s0_0 x1001_1 2 t1038 t1039 w0 _ ?side1 ?side2 A11.out).mono ?_); (case side1 => repeat (first | (with_reducible first | exact HI0.out | apply IsS92.alloc | apply IsS92.drewN | apply IsS92.drew | apply IsS92.set_1) | exact HI0.out)); (case side2 => repeat (first | (with_reducible first | exact HB.out | apply below_alloc | apply pw_below_drewN | apply below_drew1 | refine below_set ?_ (IsS92.ge HI0.out)) | exact HB.out)); rintro e w13 ⟨rfl, hi, hb, hk⟩; refine ⟨_, rfl, ?_⟩; have n0_ := Aside0.mk (Kd.R_mono (Kd.R_keep (IsS92.apart (show IsS92 w0 _ g s0_0 x1001_1 from by repeat (first | (with_reducible first | exact HI0.out | apply IsS92.alloc | apply IsS92.drewN | apply IsS92.drew | apply IsS92.set_1) | exact HI0.out)) (zR HO_7.out) (by decide)) hk (fun _ h => h.2)) (fun _ h => h.1)); have n1_ := Aside0.mk (KeepBut.trans (by repeat (first | (with_reducible first | exact HK.out | apply KeepBut.set_ | apply keep_drewN | apply keep_drew | apply keep_alloc) | exact HK.out)) hk (.inl rfl)); have n2_ := Aside0.mk (hb); have n3_ := Aside0.mk (hi); clear HO_7; clear HK; clear HB; clear HI0; have HO_7 := n0_; have HK := n1_; have HB := n2_; have HI0 := n3_; clear n0_ n1_ n2_ n3_; (try clear hb); (try clear hb2); (try clear hk); (try clear hi)))
            (try simp only [Act.put, List.setIfInBounds_toArray, List.set_cons_zero, List.set_cons_succ])
            go_cut [34] (fun v34 wc => ∃ (kq : Nat) (x34_11 : Bool) (x1001_11 : Int), v34 = .bool x34_11 ∧ Aside0 (spec_l20Script.j2 kq a1 a2 x7_1 x8_1 (wrap64 ((wrap64 (x9_1 + 1)) + t1038)) x10_1 x34_11 s0_0 x1001_11 = some (r1, r2)) ∧ Aside0 (kq ≤ kj7) ∧ Aside0 (Kd.R k64 64 wc w.heap.size (fun _ => True) u7 x7_1) ∧ Aside0 (IsS92 w0 wc g s0_0 x1001_11) ∧ Aside0 (KeepBut w wc g none) ∧ Aside0 (Below w0.heap.size w0 wc))
            case first =>
              have H := HC12.out
              clear HC12
              by_cases c14 : (wrap64 ((wrap64 (x9_1 + 1)) + t1038)) ≥ a1
              · rw [if_pos c14] at H
                have c14b0 : decide (a1 ≤ (wrap64 ((wrap64 (x9_1 + 1)) + t1038))) = true := decide_eq_true c14
                clear c14
                (first | rw [c14b0] | (simp only [i64_w, i32_w]; rw [c14b0]) | skip)
                have H' := Aside0.mk H
                clear H
                go_wp2
                go_meet
                case rel => exact ⟨_, (true), (t1039), (by first | rfl | (simp; done) | (simp [*]; done)), H', ⟨by have := HK1.out; have := HJ7.out; first | omega | exact Nat.le_refl _⟩, ⟨by (with_reducible repeat (first | apply Kd.R_alloc | apply Kd.R_drewN | apply Kd.R_drew)); exact HO_7.out⟩, ⟨by repeat (first | (with_reducible first | exact HI0.out | apply IsS92.alloc | apply IsS92.drewN | apply IsS92.drew | apply IsS92.set_1) | exact HI0.out)⟩, ⟨by repeat (first | (with_reducible first | exact HK.out | apply KeepBut.set_ | apply keep_drewN | apply keep_drew | apply keep_alloc) | exact HK.out)⟩, ⟨by repeat (first | (with_reducible first | exact HB.out | apply below_alloc | apply pw_below_drewN | apply below_drew1 | refine below_set ?_ (IsS92.ge HI0.out)) | exact HB.out)⟩⟩
              · rw [if_neg c14] at H
                have c14b0 : decide (a1 ≤ (wrap64 ((wrap64 (x9_1 + 1)) + t1038))) = false := decide_eq_false c14
                clear c14
                (first | rw [c14b0] | (simp only [i64_w, i32_w]; rw [c14b0]) | skip)
                replace H := Option.bind_eq_some_iff.mp H
                obtain ⟨⟨t1040, t1041⟩, A150, H⟩ := H
                replace H : (spec_l20Script.j2 kj7 a1 a2 x7_1 x8_1 (wrap64 ((wrap64 (x9_1 + 1)) + t1038)) x10_1 (decide (t1040 > 0)) s0_0 t1041) = some (r1, r2) := H
                have A15 := Aside0.mk A150
                clear A150
                have H' := Aside0.mk H
                clear H
                go_wp2_with (first | (go_at_call 82; (with_reducible refine (spec_l20Rd_pick.calls kj7 g s0_0 t1039 3 t1040 t1041 w0 _ ?side1 ?side2 A15.out).mono ?_); (case side1 => repeat (first | (with_reducible first | exact HI0.out | apply IsS92.alloc | apply IsS92.drewN | apply IsS92.drew | apply IsS92.set_1) | exact HI0.out)); (case side2 => repeat (first | (with_reducible first | exact HB.out | apply below_alloc | apply pw_below_drewN | apply below_drew1 | refine below_set ?_ (IsS92.ge HI0.out)) | exact HB.out)); rintro e w16 ⟨rfl, hi, hb, hk⟩; have n0_ := Aside0.mk (Kd.R_mono (Kd.R_keep (IsS92.apart (show IsS92 w0 _ g s0_0 t1039 from by repeat (first | (with_reducible first | exact HI0.out | apply IsS92.alloc | apply IsS92.drewN | apply IsS92.drew | apply IsS92.set_1) | exact HI0.out)) (zR HO_7.out) (by decide)) hk (fun _ h => h.2)) (fun _ h => h.1)); have n1_ := Aside0.mk (KeepBut.trans (by repeat (first | (with_reducible first | exact HK.out | apply KeepBut.set_ | apply keep_drewN | apply keep_drew | apply keep_alloc) | exact HK.out)) hk (.inl rfl)); have n2_ := Aside0.mk (hb); have n3_ := Aside0.mk (hi); clear HO_7; clear HK; clear HB; clear HI0; have HO_7 := n0_; have HK := n1_; have HB := n2_; have HI0 := n3_; clear n0_ n1_ n2_ n3_; (try clear hb); (try clear hb2); (try clear hk); (try clear hi)))
                go_meet
                case rel => exact ⟨_, (decide (t1040 > 0)), (t1041), (by first | rfl | (simp; done) | (simp [*]; done)), H', ⟨by have := HK1.out; have := HJ7.out; first | omega | exact Nat.le_refl _⟩, ⟨by (with_reducible repeat (first | apply Kd.R_alloc | apply Kd.R_drewN | apply Kd.R_drew)); exact HO_7.out⟩, ⟨by repeat (first | (with_reducible first | exact HI0.out | apply IsS92.alloc | apply IsS92.drewN | apply IsS92.drew | apply IsS92.set_1) | exact HI0.out)⟩, ⟨by repeat (first | (with_reducible first | exact HK.out | apply KeepBut.set_ | apply keep_drewN | apply keep_drew | apply keep_alloc) | exact HK.out)⟩, ⟨by repeat (first | (with_reducible first | exact HB.out | apply below_alloc | apply pw_below_drewN | apply below_drew1 | refine below_set ?_ (IsS92.ge HI0.out)) | exact HB.out)⟩⟩
            case rest =>
              clear HC12
              try clear c1
              try clear p2
              try clear p6
              try clear c8
              try clear c9
              try clear c9b0
              try clear c10
              try clear c14
              try clear c14b0
              try clear p2
              obtain ⟨kq, x34_11, x1001_11, rfl, HA, HJ11, HO_7, HI0, HK, HB⟩ := hcut
              cases kq with
              | zero => exact absurd HA.out (by simp [spec_l20Script.j2])
              | succ kj11 =>
                have H := HA.out
                clear HA
                simp only [spec_l20Script.j2] at H
                by_cases c17 : x34_11 = true
                · subst c17
                  have H1 : ((spec_l20Rd_pick.f kj11 s0_0 x1001_11 4).bind fun bt1042 => ((spec_l20Rd_pick.f kj11 s0_0 bt1042.2 a1).bind fun bt1044 => (if x7_1.length < 8796093022208 then (spec_l20Script.l0 kj11 a1 a2 (x7_1 ++ [(⟨wrap64 ((wrap64 (x8_1 + 1)) + bt1042.1), bt1044.1⟩ : S64)]) (wrap64 ((wrap64 (x8_1 + 1)) + bt1042.1)) bt1044.1 (wrap64 (x10_1 - 1)) s0_0 bt1044.2) else (none)))) = some (r1, r2) := by rw [if_pos rfl] at H; exact H
                  clear H
                  have H := H1
                  clear H1
                  replace H := Option.bind_eq_some_iff.mp H
                  obtain ⟨⟨t1042, t1043⟩, A180, H⟩ := H
                  replace H : ((spec_l20Rd_pick.f kj11 s0_0 t1043 a1).bind fun bt1044 => (if x7_1.length < 8796093022208 then (spec_l20Script.l0 kj11 a1 a2 (x7_1 ++ [(⟨wrap64 ((wrap64 (x8_1 + 1)) + t1042), bt1044.1⟩ : S64)]) (wrap64 ((wrap64 (x8_1 + 1)) + t1042)) bt1044.1 (wrap64 (x10_1 - 1)) s0_0 bt1044.2) else (none))) = some (r1, r2) := H
                  have A18 := Aside0.mk A180
                  clear A180
                  replace H := Option.bind_eq_some_iff.mp H
                  obtain ⟨⟨t1044, t1045⟩, A190, H⟩ := H
                  replace H : (if x7_1.length < 8796093022208 then (spec_l20Script.l0 kj11 a1 a2 (x7_1 ++ [(⟨wrap64 ((wrap64 (x8_1 + 1)) + t1042), t1044⟩ : S64)]) (wrap64 ((wrap64 (x8_1 + 1)) + t1042)) t1044 (wrap64 (x10_1 - 1)) s0_0 t1045) else (none)) = some (r1, r2) := H
                  have A19 := Aside0.mk A190
                  clear A190
                  by_cases c20 : x7_1.length < 8796093022208
                  · rw [if_pos c20] at H
                    have LMc20 := Aside0.mk c20
                    clear c20
                    obtain ⟨y1046, hy1046⟩ : ∃ y_ : List (S64), y_ = (x7_1 ++ [(⟨wrap64 ((wrap64 (x8_1 + 1)) + t1042), t1044⟩ : S64)]) := ⟨_, rfl⟩
                    replace H : (spec_l20Script.l0 kj11 a1 a2 y1046 (wrap64 ((wrap64 (x8_1 + 1)) + t1042)) t1044 (wrap64 (x10_1 - 1)) s0_0 t1045) = some (r1, r2) := by first | (rw [hy1046]; with_reducible exact H) | (have H2_ := (Option.bind_some _ _).symm.trans H; rw [hy1046]; with_reducible exact H2_) | (have H2_ := (Option.bind_some _ _).symm.trans H; with_reducible exact H2_) | with_reducible exact H | (rw [hy1046]; exact H) | exact H
                    have Ny1046 := Aside0.mk hy1046
                    clear hy1046
                    have H' := Aside0.mk H
                    clear H
                    go_wp2_with (first | ((with_reducible refine gate_callee (f := 82) rfl ?_); refine goesL_ (some 38) rfl rfl Try.func82 (by kernel_rfl) rfl #[.pointer (some ⟨g, 0, none⟩), .int .i64 4] rfl zA ?_; (with_reducible refine (spec_l20Rd_pick.calls kj11 g s0_0 x1001_11 4 t1042 t1043 w0 _ ?side1 ?side2 A18.out).mono ?_); (case side1 => repeat (first | (with_reducible first | exact HI0.out | apply IsS92.alloc | apply IsS92.drewN | apply IsS92.drew | apply IsS92.set_1) | exact HI0.out)); (case side2 => repeat (first | (with_reducible first | exact HB.out | apply below_alloc | apply pw_below_drewN | apply below_drew1 | refine below_set ?_ (IsS92.ge HI0.out)) | exact HB.out)); rintro e w21 ⟨rfl, hi, hb, hk⟩; refine ⟨_, rfl, ?_⟩; have n0_ := Aside0.mk (Kd.R_mono (Kd.R_keep (IsS92.apart (show IsS92 w0 _ g s0_0 x1001_11 from by repeat (first | (with_reducible first | exact HI0.out | apply IsS92.alloc | apply IsS92.drewN | apply IsS92.drew | apply IsS92.set_1) | exact HI0.out)) (zR HO_7.out) (by decide)) hk (fun _ h => h.2)) (fun _ h => h.1)); have n1_ := Aside0.mk (KeepBut.trans (by repeat (first | (with_reducible first | exact HK.out | apply KeepBut.set_ | apply keep_drewN | apply keep_drew | apply keep_alloc) | exact HK.out)) hk (.inl rfl)); have n2_ := Aside0.mk (hb); have n3_ := Aside0.mk (hi); clear HO_7; clear HK; clear HB; clear HI0; have HO_7 := n0_; have HK := n1_; have HB := n2_; have HI0 := n3_; clear n0_ n1_ n2_ n3_; (try clear hb); (try clear hb2); (try clear hk); (try clear hi)) | ((with_reducible refine gate_callee (f := 82) rfl ?_); refine goesL_ (some 42) rfl rfl Try.func82 (by kernel_rfl) rfl #[.pointer (some ⟨g, 0, none⟩), .int .i64 a1] rfl zA ?_; (with_reducible refine (spec_l20Rd_pick.calls kj11 g s0_0 t1043 a1 t1044 t1045 w0 _ ?side1 ?side2 A19.out).mono ?_); (case side1 => repeat (first | (with_reducible first | exact HI0.out | apply IsS92.alloc | apply IsS92.drewN | apply IsS92.drew | apply IsS92.set_1) | exact HI0.out)); (case side2 => repeat (first | (with_reducible first | exact HB.out | apply below_alloc | apply pw_below_drewN | apply below_drew1 | refine below_set ?_ (IsS92.ge HI0.out)) | exact HB.out)); rintro e w22 ⟨rfl, hi, hb, hk⟩; refine ⟨_, rfl, ?_⟩; have n0_ := Aside0.mk (Kd.R_mono (Kd.R_keep (IsS92.apart (show IsS92 w0 _ g s0_0 t1043 from by repeat (first | (with_reducible first | exact HI0.out | apply IsS92.alloc | apply IsS92.drewN | apply IsS92.drew | apply IsS92.set_1) | exact HI0.out)) (zR HO_7.out) (by decide)) hk (fun _ h => h.2)) (fun _ h => h.1)); have n1_ := Aside0.mk (KeepBut.trans (by repeat (first | (with_reducible first | exact HK.out | apply KeepBut.set_ | apply keep_drewN | apply keep_drew | apply keep_alloc) | exact HK.out)) hk (.inl rfl)); have n2_ := Aside0.mk (hb); have n3_ := Aside0.mk (hi); clear HO_7; clear HK; clear HB; clear HI0; have HO_7 := n0_; have HK := n1_; have HB := n2_; have HI0 := n3_; clear n0_ n1_ n2_ n3_; (try clear hb); (try clear hb2); (try clear hk); (try clear hi)) | ((with_reducible refine gate_builtin (b := .append) (xs := #[.tmp 43, .tmp 47]) rfl ?_); at_builtin; refine Kd.R_append k64 w.heap.size rfl (.tmp 43) (.tmp 47) 53 64 (.agg #[(.int .i64 0), (.int .i64 0)]) 16 rfl Try.underlying53 info64 rfl (by decide) (by omega) u7 x7_1 (⟨wrap64 ((wrap64 (x8_1 + 1)) + t1042), t1044⟩ : S64) [.int .i64 (wrap64 ((wrap64 (x8_1 + 1)) + t1042)), .int .i64 t1044] (fun _ => True) (fun _ => False) rfl rfl ?aP (fun _ hk => hk.elim) ?aF ?aO (Below.refl _ _) ?aS ?aL ?_; (case aP => exact k64_mkM _ _ _ (⟨wrap64 ((wrap64 (x8_1 + 1)) + t1042), t1044⟩ : S64)); (case aF => exact (fun _ _ => trivial)); (case aO => exact (zR HO_7.out)); (case aS => exact (keep_size (w := w) (g := g) (row := none) (by repeat (first | (with_reducible first | exact HK.out | apply KeepBut.set_ | apply keep_drewN | apply keep_drew | apply keep_alloc) | exact HK.out)))); (case aL => have := LMc20.out; omega); intro v1047 w23 ho hb hg hat; rw [← Ny1046.out] at ho; have n0_ := Aside0.mk (IsS92.grown (by repeat (first | (with_reducible first | exact HI0.out | apply IsS92.alloc | apply IsS92.drewN | apply IsS92.drew | apply IsS92.set_1) | exact HI0.out)) hg (IsS92.own_ne HI0.out HO_7.out (by decide))); have n1_ := Aside0.mk (below_weaken (by repeat (first | (with_reducible first | exact HB.out | apply below_alloc | apply pw_below_drewN | apply below_drew1 | refine below_set ?_ (IsS92.ge HI0.out)) | exact HB.out)) HL.out hb); have n2_ := Aside0.mk (KeepBut.trans (by repeat (first | (with_reducible first | exact HK.out | apply KeepBut.set_ | apply keep_drewN | apply keep_drew | apply keep_alloc) | exact HK.out)) (KeepBut.of_grown hg g) (Kd.R_base2 HO_7.out)); have n3_ := Aside0.mk (ho); clear HI0; clear HB; clear HK; clear HO_7; have HI0 := n0_; have HB := n1_; have HK := n2_; have HO1048 := n3_; clear n0_ n1_ n2_ n3_; clear ho hb hg hat))
                    go_roundg kj11
                    case measure => have := HK1.out; have := HJ7.out; have := HJ11.out; omega
                    case rel => exact ⟨(y1046), (wrap64 ((wrap64 (x8_1 + 1)) + t1042)), (t1044), (wrap64 (x10_1 - 1)), (t1045), (by first | rfl | (simp; done) | (simp [*]; done)), (by first | rfl | (simp; done) | (simp [*]; done)), (by first | rfl | (simp; done) | (simp [*]; done)), H', ⟨by have := HK1.out; have := HJ7.out; have := HJ11.out; omega⟩, ⟨by (with_reducible repeat (first | apply Kd.R_alloc | apply Kd.R_drewN | apply Kd.R_drew)); exact HO1048.out⟩, ⟨by repeat (first | (with_reducible first | exact HI0.out | apply IsS92.alloc | apply IsS92.drewN | apply IsS92.drew | apply IsS92.set_1) | exact HI0.out)⟩, ⟨by repeat (first | (with_reducible first | exact HK.out | apply KeepBut.set_ | apply keep_drewN | apply keep_drew | apply keep_alloc) | exact HK.out)⟩, ⟨by repeat (first | (with_reducible first | exact HB.out | apply below_alloc | apply pw_below_drewN | apply below_drew1 | refine below_set ?_ (IsS92.ge HI0.out)) | exact HB.out)⟩⟩
                  · rw [if_neg c20] at H
                    exact absurd H (by simp)
                · replace c17 := Bool.eq_false_iff.mpr c17
                  subst c17
                  have H1 : (if x7_1.length < 8796093022208 then (spec_l20Script.l0 kj11 a1 a2 (x7_1 ++ [(⟨x8_1, (wrap64 ((wrap64 (x9_1 + 1)) + t1038))⟩ : S64)]) x8_1 (wrap64 ((wrap64 (x9_1 + 1)) + t1038)) (wrap64 (x10_1 - 1)) s0_0 x1001_11) else (none)) = some (r1, r2) := by rw [if_neg (show ¬ (false = true) by decide)] at H; exact H
                  clear H
                  have H := H1
                  clear H1
                  by_cases c24 : x7_1.length < 8796093022208
                  · rw [if_pos c24] at H
                    have LMc24 := Aside0.mk c24
                    clear c24
                    obtain ⟨y1049, hy1049⟩ : ∃ y_ : List (S64), y_ = (x7_1 ++ [(⟨x8_1, (wrap64 ((wrap64 (x9_1 + 1)) + t1038))⟩ : S64)]) := ⟨_, rfl⟩
                    replace H : (spec_l20Script.l0 kj11 a1 a2 y1049 x8_1 (wrap64 ((wrap64 (x9_1 + 1)) + t1038)) (wrap64 (x10_1 - 1)) s0_0 x1001_11) = some (r1, r2) := by first | (rw [hy1049]; with_reducible exact H) | (have H2_ := (Option.bind_some _ _).symm.trans H; rw [hy1049]; with_reducible exact H2_) | (have H2_ := (Option.bind_some _ _).symm.trans H; with_reducible exact H2_) | with_reducible exact H | (rw [hy1049]; exact H) | exact H
                    have Ny1049 := Aside0.mk hy1049
                    clear hy1049
                    have H' := Aside0.mk H
                    clear H
                    go_wp2_with (first | ((with_reducible refine gate_builtin (b := .append) (xs := #[.tmp 43, .tmp 47]) rfl ?_); at_builtin; refine Kd.R_append k64 w.heap.size rfl (.tmp 43) (.tmp 47) 53 64 (.agg #[(.int .i64 0), (.int .i64 0)]) 16 rfl Try.underlying53 info64 rfl (by decide) (by omega) u7 x7_1 (⟨x8_1, (wrap64 ((wrap64 (x9_1 + 1)) + t1038))⟩ : S64) [.int .i64 x8_1, .int .i64 (wrap64 ((wrap64 (x9_1 + 1)) + t1038))] (fun _ => True) (fun _ => False) rfl rfl ?aP (fun _ hk => hk.elim) ?aF ?aO (Below.refl _ _) ?aS ?aL ?_; (case aP => exact k64_mkM _ _ _ (⟨x8_1, (wrap64 ((wrap64 (x9_1 + 1)) + t1038))⟩ : S64)); (case aF => exact (fun _ _ => trivial)); (case aO => exact (zR HO_7.out)); (case aS => exact (keep_size (w := w) (g := g) (row := none) (by repeat (first | (with_reducible first | exact HK.out | apply KeepBut.set_ | apply keep_drewN | apply keep_drew | apply keep_alloc) | exact HK.out)))); (case aL => have := LMc24.out; omega); intro v1050 w25 ho hb hg hat; rw [← Ny1049.out] at ho; have n0_ := Aside0.mk (IsS92.grown (by repeat (first | (with_reducible first | exact HI0.out | apply IsS92.alloc | apply IsS92.drewN | apply IsS92.drew | apply IsS92.set_1) | exact HI0.out)) hg (IsS92.own_ne HI0.out HO_7.out (by decide))); have n1_ := Aside0.mk (below_weaken (by repeat (first | (with_reducible first | exact HB.out | apply below_alloc | apply pw_below_drewN | apply below_drew1 | refine below_set ?_ (IsS92.ge HI0.out)) | exact HB.out)) HL.out hb); have n2_ := Aside0.mk (KeepBut.trans (by repeat (first | (with_reducible first | exact HK.out | apply KeepBut.set_ | apply keep_drewN | apply keep_drew | apply keep_alloc) | exact HK.out)) (KeepBut.of_grown hg g) (Kd.R_base2 HO_7.out)); have n3_ := Aside0.mk (ho); clear HI0; clear HB; clear HK; clear HO_7; have HI0 := n0_; have HB := n1_; have HK := n2_; have HO1051 := n3_; clear n0_ n1_ n2_ n3_; clear ho hb hg hat))
                    go_roundg kj11
                    case measure => have := HK1.out; have := HJ7.out; have := HJ11.out; omega
                    case rel => exact ⟨(y1049), (x8_1), ((wrap64 ((wrap64 (x9_1 + 1)) + t1038))), (wrap64 (x10_1 - 1)), (x1001_11), (by first | rfl | (simp; done) | (simp [*]; done)), (by first | rfl | (simp; done) | (simp [*]; done)), (by first | rfl | (simp; done) | (simp [*]; done)), H', ⟨by have := HK1.out; have := HJ7.out; have := HJ11.out; omega⟩, ⟨by (with_reducible repeat (first | apply Kd.R_alloc | apply Kd.R_drewN | apply Kd.R_drew)); exact HO1051.out⟩, ⟨by repeat (first | (with_reducible first | exact HI0.out | apply IsS92.alloc | apply IsS92.drewN | apply IsS92.drew | apply IsS92.set_1) | exact HI0.out)⟩, ⟨by repeat (first | (with_reducible first | exact HK.out | apply KeepBut.set_ | apply keep_drewN | apply keep_drew | apply keep_alloc) | exact HK.out)⟩, ⟨by repeat (first | (with_reducible first | exact HB.out | apply below_alloc | apply pw_below_drewN | apply below_drew1 | refine below_set ?_ (IsS92.ge HI0.out)) | exact HB.out)⟩⟩
                  · rw [if_neg c24] at H
                    exact absurd H (by simp)
          · replace c10 := Bool.eq_false_iff.mpr c10
            subst c10
            have H1 : ((spec_l20Rd_odd.f kj7 s0_0 x1001_1 a2).bind fun bt1052 => (if bt1052.1 = true then ((some (([(⟨(-1), 0⟩ : S64), (⟨60, 0⟩ : S64), (⟨59, 6⟩ : S64)] : List (S64)) : List (S64))).bind fun y1054 => ((spec_l20Rd_pick.f kj7 s0_0 bt1052.2 3).bind fun bt1057 => (if 0 ≤ bt1057.1 then (if bt1057.1 < (y1054.length : Int) then (if x7_1.length < 8796093022208 then (some ((x7_1 ++ [(⟨(rd_T64 y1054 bt1057.1).f0, (rd_T64 y1054 bt1057.1).f1⟩ : S64)]), bt1057.2)) else (none)) else (none)) else (none)))) else (some (x7_1, bt1052.2)))) = some (r1, r2) := by rw [if_neg (show ¬ (false = true) by decide)] at H; exact H
            clear H
            have H := H1
            clear H1
            replace H := Option.bind_eq_some_iff.mp H
            obtain ⟨⟨t1052, t1053⟩, A260, H⟩ := H
            replace H : (if t1052 = true then ((some (([(⟨(-1), 0⟩ : S64), (⟨60, 0⟩ : S64), (⟨59, 6⟩ : S64)] : List (S64)) : List (S64))).bind fun y1054 => ((spec_l20Rd_pick.f kj7 s0_0 t1053 3).bind fun bt1057 => (if 0 ≤ bt1057.1 then (if bt1057.1 < (y1054.length : Int) then (if x7_1.length < 8796093022208 then (some ((x7_1 ++ [(⟨(rd_T64 y1054 bt1057.1).f0, (rd_T64 y1054 bt1057.1).f1⟩ : S64)]), bt1057.2)) else (none)) else (none)) else (none)))) else (some (x7_1, t1053))) = some (r1, r2) := H
            have A26 := Aside0.mk A260
            clear A260
            by_cases c27 : t1052 = true
            · subst c27
              have H1 : ((some (([(⟨(-1), 0⟩ : S64), (⟨60, 0⟩ : S64), (⟨59, 6⟩ : S64)] : List (S64)) : List (S64))).bind fun y1054 => ((spec_l20Rd_pick.f kj7 s0_0 t1053 3).bind fun bt1057 => (if 0 ≤ bt1057.1 then (if bt1057.1 < (y1054.length : Int) then (if x7_1.length < 8796093022208 then (some ((x7_1 ++ [(⟨(rd_T64 y1054 bt1057.1).f0, (rd_T64 y1054 bt1057.1).f1⟩ : S64)]), bt1057.2)) else (none)) else (none)) else (none)))) = some (r1, r2) := by rw [if_pos rfl] at H; exact H
              clear H
              have H := H1
              clear H1
              obtain ⟨y1054, hy1054⟩ : ∃ y_ : List (S64), y_ = (([(⟨(-1), 0⟩ : S64), (⟨60, 0⟩ : S64), (⟨59, 6⟩ : S64)] : List (S64))) := ⟨_, rfl⟩
              replace H : ((spec_l20Rd_pick.f kj7 s0_0 t1053 3).bind fun bt1057 => (if 0 ≤ bt1057.1 then (if bt1057.1 < (y1054.length : Int) then (if x7_1.length < 8796093022208 then (some ((x7_1 ++ [(⟨(rd_T64 y1054 bt1057.1).f0, (rd_T64 y1054 bt1057.1).f1⟩ : S64)]), bt1057.2)) else (none)) else (none)) else (none))) = some (r1, r2) := by first | (rw [hy1054]; with_reducible exact H) | (have H2_ := (Option.bind_some _ _).symm.trans H; rw [hy1054]; with_reducible exact H2_) | (have H2_ := (Option.bind_some _ _).symm.trans H; with_reducible exact H2_) | with_reducible exact H | (rw [hy1054]; exact H) | exact H
              have Ny1054 := Aside0.mk hy1054
              clear hy1054
              replace H := Option.bind_eq_some_iff.mp H
              obtain ⟨⟨t1057, t1058⟩, A280, H⟩ := H
              replace H : (if 0 ≤ t1057 then (if t1057 < (y1054.length : Int) then (if x7_1.length < 8796093022208 then (some ((x7_1 ++ [(⟨(rd_T64 y1054 t1057).f0, (rd_T64 y1054 t1057).f1⟩ : S64)]), t1058)) else (none)) else (none)) else (none)) = some (r1, r2) := H
              have A28 := Aside0.mk A280
              clear A280
              by_cases c29 : 0 ≤ t1057
              · rw [if_pos c29] at H
                have c29b0 : decide (0 ≤ t1057) = true := decide_eq_true c29
                clear c29
                by_cases c30 : t1057 < (y1054.length : Int)
                · rw [if_pos c30] at H
                  have c30b0 : decide (t1057 < (y1054.length : Int)) = true := decide_eq_true c30
                  clear c30
                  by_cases c31 : x7_1.length < 8796093022208
                  · rw [if_pos c31] at H
                    have LMc31 := Aside0.mk c31
                    clear c31
                    obtain ⟨y1060, hy1060⟩ : ∃ y_ : List (S64), y_ = (x7_1 ++ [(⟨(rd_T64 y1054 t1057).f0, (rd_T64 y1054 t1057).f1⟩ : S64)]) := ⟨_, rfl⟩
                    replace H : (some (y1060, t1058)) = some (r1, r2) := by first | (rw [hy1060]; with_reducible exact H) | (have H2_ := (Option.bind_some _ _).symm.trans H; rw [hy1060]; with_reducible exact H2_) | (have H2_ := (Option.bind_some _ _).symm.trans H; with_reducible exact H2_) | with_reducible exact H | (rw [hy1060]; exact H) | exact H
                    have Ny1060 := Aside0.mk hy1060
                    clear hy1060
                    simp only [Option.some.injEq, Prod.mk.injEq] at H
                    obtain ⟨rfl, rfl⟩ := H
                    go_wp2_with (first | ((with_reducible refine gate_callee (f := 91) rfl ?_); refine goesL_ (some 51) rfl rfl Try.func91 (by kernel_rfl) rfl #[.pointer (some ⟨g, 0, none⟩), .int .i64 a2] rfl zA ?_; (with_reducible refine (spec_l20Rd_odd.calls kj7 g s0_0 x1001_1 a2 true t1053 w0 _ ?side1 ?side2 A26.out).mono ?_); (case side1 => repeat (first | (with_reducible first | exact HI0.out | apply IsS92.alloc | apply IsS92.drewN | apply IsS92.drew | apply IsS92.set_1) | exact HI0.out)); (case side2 => repeat (first | (with_reducible first | exact HB.out | apply below_alloc | apply pw_below_drewN | apply below_drew1 | refine below_set ?_ (IsS92.ge HI0.out)) | exact HB.out)); rintro e w32 ⟨rfl, hi, hb, hk⟩; refine ⟨_, rfl, ?_⟩; have n0_ := Aside0.mk (Kd.R_mono (Kd.R_keep (IsS92.apart (show IsS92 w0 _ g s0_0 x1001_1 from by repeat (first | (with_reducible first | exact HI0.out | apply IsS92.alloc | apply IsS92.drewN | apply IsS92.drew | apply IsS92.set_1) | exact HI0.out)) (zR HO_7.out) (by decide)) hk (fun _ h => h.2)) (fun _ h => h.1)); have n1_ := Aside0.mk (KeepBut.trans (by repeat (first | (with_reducible first | exact HK.out | apply KeepBut.set_ | apply keep_drewN | apply keep_drew | apply keep_alloc) | exact HK.out)) hk (.inl rfl)); have n2_ := Aside0.mk (hb); have n3_ := Aside0.mk (hi); clear HO_7; clear HK; clear HB; clear HI0; have HO_7 := n0_; have HK := n1_; have HB := n2_; have HI0 := n3_; clear n0_ n1_ n2_ n3_; (try clear hb); (try clear hb2); (try clear hk); (try clear hi)) | ((with_reducible refine gate_dst (N := 56) rfl ?_); refine Kd.R_lit k64 _ 64 ?hg (N := 56) ?hd (xs := ([(⟨(-1), 0⟩ : S64), (⟨60, 0⟩ : S64), (⟨59, 6⟩ : S64)] : List (S64))) (inner := [.int .i64 (-1), .int .i64 0, .int .i64 60, .int .i64 0, .int .i64 59, .int .i64 6]) (ok := fun _ => True) (okp := fun _ => True) ?hr ?hp (fun _ hk => hk) trivial (Below.refl _ _) (Nat.le_refl _) (by simp) ?_; (case hd => rfl); (case hg => rfl); (case hr => first | (go_simp; done) | (go_simp; rfl)); (case hp => exact (Reps.c2 (show Kd.M k64 _ _ _ (⟨(-1), 0⟩ : S64) [.int .i64 (-1), .int .i64 0] from (k64_mkM _ _ _ (⟨(-1), 0⟩ : S64) )) (Reps.c2 (show Kd.M k64 _ _ _ (⟨60, 0⟩ : S64) [.int .i64 60, .int .i64 0] from (k64_mkM _ _ _ (⟨60, 0⟩ : S64) )) (Reps.c2 (show Kd.M k64 _ _ _ (⟨59, 6⟩ : S64) [.int .i64 59, .int .i64 6] from (k64_mkM _ _ _ (⟨59, 6⟩ : S64) )) (Reps.none _ _))))); intro v1055 w33 ho34 hb hg_ hnew_; clear hg_ hnew_; (first | rw [← Ny1054.out] at ho34 | (simp only [Int.reduceToNat] at ho34; rw [← Ny1054.out] at ho34)); have n0_ := Aside0.mk (Kd.R_elder' (zR HO_7.out) (Kd.R_base ho34) hb); have n1_ := Aside0.mk (Kd.R_lower (Kd.R_new' ho34 (Kd.R_lt (zR HO_7.out))) (keep_size (w := w) (g := g) (row := none) (by repeat (first | (with_reducible first | exact HK.out | apply KeepBut.set_ | apply keep_drewN | apply keep_drew | apply keep_alloc) | exact HK.out)))); have n2_ := Aside0.mk (IsS92.below (by repeat (first | (with_reducible first | exact HI0.out | apply IsS92.alloc | apply IsS92.drewN | apply IsS92.drew | apply IsS92.set_1) | exact HI0.out)) hb); have n3_ := Aside0.mk (KeepBut.trans (by repeat (first | (with_reducible first | exact HK.out | apply KeepBut.set_ | apply keep_drewN | apply keep_drew | apply keep_alloc) | exact HK.out)) (KeepBut.of_below hb g none) (.inl rfl)); have n4_ := Aside0.mk (below_step (by repeat (first | (with_reducible first | exact HB.out | apply below_alloc | apply pw_below_drewN | apply below_drew1 | refine below_set ?_ (IsS92.ge HI0.out)) | exact HB.out)) hb); clear HO_7; clear HI0; clear HK; clear HB; have HO_7 := n0_; have HO1056 := n1_; have HI0 := n2_; have HK := n3_; have HB := n4_; clear n0_ n1_ n2_ n3_ n4_; clear hb ho34) | ((with_reducible refine gate_callee (f := 82) rfl ?_); refine goesL_ (some 58) rfl rfl Try.func82 (by kernel_rfl) rfl #[.pointer (some ⟨g, 0, none⟩), .int .i64 3] rfl zA ?_; (with_reducible refine (spec_l20Rd_pick.calls kj7 g s0_0 t1053 3 t1057 t1058 w0 _ ?side1 ?side2 A28.out).mono ?_); (case side1 => repeat (first | (with_reducible first | exact HI0.out | apply IsS92.alloc | apply IsS92.drewN | apply IsS92.drew | apply IsS92.set_1) | exact HI0.out)); (case side2 => repeat (first | (with_reducible first | exact HB.out | apply below_alloc | apply pw_below_drewN | apply below_drew1 | refine below_set ?_ (IsS92.ge HI0.out)) | exact HB.out)); rintro e w35 ⟨rfl, hi, hb, hk⟩; refine ⟨_, rfl, ?_⟩; have n0_ := Aside0.mk (Kd.R_mono (Kd.R_keep (IsS92.apart (show IsS92 w0 _ g s0_0 t1053 from by repeat (first | (with_reducible first | exact HI0.out | apply IsS92.alloc | apply IsS92.drewN | apply IsS92.drew | apply IsS92.set_1) | exact HI0.out)) (zR HO_7.out) (by decide)) hk (fun _ h => h.2)) (fun _ h => h.1)); have n1_ := Aside0.mk (Kd.R_mono (Kd.R_keep (IsS92.apart (show IsS92 w0 _ g s0_0 t1053 from by repeat (first | (with_reducible first | exact HI0.out | apply IsS92.alloc | apply IsS92.drewN | apply IsS92.drew | apply IsS92.set_1) | exact HI0.out)) (zR HO1056.out) (by decide)) hk (fun _ h => h.2)) (fun _ h => h.1)); have n2_ := Aside0.mk (KeepBut.trans (by repeat (first | (with_reducible first | exact HK.out | apply KeepBut.set_ | apply keep_drewN | apply keep_drew | apply keep_alloc) | exact HK.out)) hk (.inl rfl)); have n3_ := Aside0.mk (hb); have n4_ := Aside0.mk (hi); clear HO_7; clear HO1056; clear HK; clear HB; clear HI0; have HO_7 := n0_; have HO1056 := n1_; have HK := n2_; have HB := n3_; have HI0 := n4_; clear n0_ n1_ n2_ n3_ n4_; (try clear hb); (try clear hb2); (try clear hk); (try clear hi); obtain ⟨Ao36, co36, eo36⟩ := Kd.R_slice HO1056.out; subst eo36; have p1059 : 0 ≤ (t1057 : Int) := of_decide_eq_true (by first | (with_reducible assumption) | assumption); have q1059 : t1057 < (y1054.length : Int) := of_decide_eq_true (by first | (with_reducible assumption) | assumption); obtain ⟨ad1059, e1059, hx1059_0, hx1059_1⟩ := at_T64 (Kd.R_reads' HO1056.out).2.2 t1057 p1059 q1059; cases e1059; replace p1059 := eq_true p1059; replace q1059 := eq_true q1059) | ((with_reducible refine gate_builtin (b := .append) (xs := #[.tmp 52, .tmp 61]) rfl ?_); at_builtin; refine Kd.R_append k64 w.heap.size rfl (.tmp 52) (.tmp 61) 53 64 (.agg #[(.int .i64 0), (.int .i64 0)]) 16 rfl Try.underlying53 info64 rfl (by decide) (by omega) u7 x7_1 (⟨(rd_T64 y1054 t1057).f0, (rd_T64 y1054 t1057).f1⟩ : S64) [.int .i64 ((rd_T64 y1054 t1057).f0), .int .i64 ((rd_T64 y1054 t1057).f1)] (fun k_ => some k_ ≠ (.slice (some ad1059) y1054.length co36 : Value).ownBlock) (fun _ => False) rfl rfl ?aP (fun _ hk => hk.elim) ?aF ?aO (Below.refl _ _) ?aS ?aL ?_; (case aP => exact k64_mkM _ _ _ (⟨(rd_T64 y1054 t1057).f0, (rd_T64 y1054 t1057).f1⟩ : S64)); (case aF => exact (fun k_ hk => Kd.fresh' (Kd.R_lt (zR HO1056.out)) k_ hk)); (case aO => exact (by (with_reducible repeat (first | apply Kd.R_alloc | apply Kd.R_drewN | apply Kd.R_drew)); exact Kd.R_mono HO_7.out (fun _ hk => hk.2))); (case aS => exact (keep_size (w := w) (g := g) (row := none) (by repeat (first | (with_reducible first | exact HK.out | apply KeepBut.set_ | apply keep_drewN | apply keep_drew | apply keep_alloc) | exact HK.out)))); (case aL => have := LMc31.out; omega); intro v1061 w37 ho hb hg hat; rw [← Ny1060.out] at ho; have n0_ := Aside0.mk (IsS92.grown (by repeat (first | (with_reducible first | exact HI0.out | apply IsS92.alloc | apply IsS92.drewN | apply IsS92.drew | apply IsS92.set_1) | exact HI0.out)) hg (IsS92.own_ne HI0.out HO_7.out (by decide))); have n1_ := Aside0.mk (Kd.R_after (ok := (fun _ => True)) (zR HO1056.out) hg hat); have n2_ := Aside0.mk (below_weaken (by repeat (first | (with_reducible first | exact HB.out | apply below_alloc | apply pw_below_drewN | apply below_drew1 | refine below_set ?_ (IsS92.ge HI0.out)) | exact HB.out)) HL.out hb); have n3_ := Aside0.mk (KeepBut.trans (by repeat (first | (with_reducible first | exact HK.out | apply KeepBut.set_ | apply keep_drewN | apply keep_drew | apply keep_alloc) | exact HK.out)) (KeepBut.of_grown hg g) (Kd.R_base2 HO_7.out)); have n4_ := Aside0.mk (ho); clear HI0; clear HO1056; clear HB; clear HK; clear HO_7; have HI0 := n0_; have HO1056 := n1_; have HB := n2_; have HK := n3_; have HO1062 := n4_; clear n0_ n1_ n2_ n3_ n4_; clear ho hb hg hat))
                    go_ret
                    exact ⟨_, by first | rfl | (simp [errW_none, errW_some] <;> rfl) | (simp [*, errW_none, errW_some] <;> rfl), by (with_reducible repeat (first | apply Kd.R_alloc | apply Kd.R_drewN | apply Kd.R_drew)); exact Kd.R_mono HO1062.out (fun _ hk => trivial), by repeat (first | (with_reducible first | exact HI0.out | apply IsS92.alloc | apply IsS92.drewN | apply IsS92.drew | apply IsS92.set_1) | exact HI0.out), by repeat (first | (with_reducible first | exact HB.out | apply below_alloc | apply pw_below_drewN | apply below_drew1 | refine below_set ?_ (IsS92.ge HI0.out)) | exact HB.out), by repeat (first | (with_reducible first | exact HK.out | apply KeepBut.set_ | apply keep_drewN | apply keep_drew | apply keep_alloc) | exact HK.out)⟩
                  · rw [if_neg c31] at H
                    exact absurd H (by simp)
                · rw [if_neg c30] at H
                  exact absurd H (by simp)
              · rw [if_neg c29] at H
                exact absurd H (by simp)
            · replace c27 := Bool.eq_false_iff.mpr c27
              subst c27
              have H1 : (some (x7_1, t1053)) = some (r1, r2) := by rw [if_neg (show ¬ (false = true) by decide)] at H; exact H
              clear H
              have H := H1
              clear H1
              simp only [Option.some.injEq, Prod.mk.injEq] at H
              obtain ⟨rfl, rfl⟩ := H
              go_wp2_with (first | ((with_reducible refine gate_callee (f := 91) rfl ?_); refine goesL_ (some 51) rfl rfl Try.func91 (by kernel_rfl) rfl #[.pointer (some ⟨g, 0, none⟩), .int .i64 a2] rfl zA ?_; (with_reducible refine (spec_l20Rd_odd.calls kj7 g s0_0 x1001_1 a2 false t1053 w0 _ ?side1 ?side2 A26.out).mono ?_); (case side1 => repeat (first | (with_reducible first | exact HI0.out | apply IsS92.alloc | apply IsS92.drewN | apply IsS92.drew | apply IsS92.set_1) | exact HI0.out)); (case side2 => repeat (first | (with_reducible first | exact HB.out | apply below_alloc | apply pw_below_drewN | apply below_drew1 | refine below_set ?_ (IsS92.ge HI0.out)) | exact HB.out)); rintro e w38 ⟨rfl, hi, hb, hk⟩; refine ⟨_, rfl, ?_⟩; have n0_ := Aside0.mk (Kd.R_mono (Kd.R_keep (IsS92.apart (show IsS92 w0 _ g s0_0 x1001_1 from by repeat (first | (with_reducible first | exact HI0.out | apply IsS92.alloc | apply IsS92.drewN | apply IsS92.drew | apply IsS92.set_1) | exact HI0.out)) (zR HO_7.out) (by decide)) hk (fun _ h => h.2)) (fun _ h => h.1)); have n1_ := Aside0.mk (KeepBut.trans (by repeat (first | (with_reducible first | exact HK.out | apply KeepBut.set_ | apply keep_drewN | apply keep_drew | apply keep_alloc) | exact HK.out)) hk (.inl rfl)); have n2_ := Aside0.mk (hb); have n3_ := Aside0.mk (hi); clear HO_7; clear HK; clear HB; clear HI0; have HO_7 := n0_; have HK := n1_; have HB := n2_; have HI0 := n3_; clear n0_ n1_ n2_ n3_; (try clear hb); (try clear hb2); (try clear hk); (try clear hi)))
              go_ret
              exact ⟨_, by first | rfl | (simp [errW_none, errW_some] <;> rfl) | (simp [*, errW_none, errW_some] <;> rfl), by (with_reducible repeat (first | apply Kd.R_alloc | apply Kd.R_drewN | apply Kd.R_drew)); exact HO_7.out, by repeat (first | (with_reducible first | exact HI0.out | apply IsS92.alloc | apply IsS92.drewN | apply IsS92.drew | apply IsS92.set_1) | exact HI0.out), by repeat (first | (with_reducible first | exact HB.out | apply below_alloc | apply pw_below_drewN | apply below_drew1 | refine below_set ?_ (IsS92.ge HI0.out)) | exact HB.out), by repeat (first | (with_reducible first | exact HK.out | apply KeepBut.set_ | apply keep_drewN | apply keep_drew | apply keep_alloc) | exact HK.out)⟩

/-! ### spec_DrawScriptOk: function 52 -/
def spec_DrawScriptOk.f (k : Nat) (l0 : List Int) : Option (Int × (List (S64))) := (spec_l20Open.f l0).bind fun bt1063 => ((spec_l20Rd_pick.f k bt1063.1 bt1063.2 6).bind fun bt1066 => ((spec_l20Rd_pick.f k bt1063.1 bt1066.2 20).bind fun bt1068 => ((spec_l20Script.f k bt1063.1 bt1068.2 (wrap64 (1 + bt1066.1)) 3).bind fun bt1070 => (some (wrap64 ((wrap64 (1 + bt1066.1)) + (wrap64 ((wrap64 (Int.tdiv bt1068.1 19)) * 6))), bt1070.1)))))
theorem spec_DrawScriptOk.mono : ∀ a0 k, LeO (spec_DrawScriptOk.f k a0) (spec_DrawScriptOk.f (k + 1) a0) := by
  intro a0 k
  unfold spec_DrawScriptOk.f
  repeat' first
      | (with_reducible exact spec_l20Rd_pick.mono _ _ _ _)
      | (with_reducible exact spec_l20Script.mono _ _ _ _ _)
      | (with_reducible exact LeO.refl _)
      | (with_reducible exact LeO.none _)
      | (with_reducible refine LeO.ite ?_ ?_)
      | (with_reducible refine LeO.bind ?_ (fun _ => ?_))
      | exact spec_l20Rd_pick.mono _ _ _ _
      | exact spec_l20Script.mono _ _ _ _ _
      | exact LeO.none _
      | refine LeO.ite ?_ ?_
      | refine LeO.bind ?_ (fun _ => ?_)
set_option maxHeartbeats 8000000 in
set_option maxRecDepth 100000 in
theorem spec_DrawScriptOk.calls (k : Nat) (A0 : Option Addr) (c0 : Nat) (l0 : List Int) (r1 : Int) (r2 : List (S64)) (w : World) (hr0 : Kd.C (Kd.int .u8) w A0 l0.length l0) (hc0 : l0.length ≤ c0) (h : spec_DrawScriptOk.f k l0 = some (r1, r2)) :
    Calls Try.prog 52 #[.slice A0 l0.length c0] w fun e w' => ∃ v1_ : Value, e = .returned (.tuple #[.int .i64 r1, v1_]) ∧ Kd.R k64 64 w' w.heap.size (fun _ => True) v1_ r2 ∧ Below w.heap.size w w' := by
  have HR0 := Aside0.mk hr0
  have HC0 := Aside0.mk hc0
  clear hr0 hc0
  have HB := Aside0.mk (Below.refl w.heap.size w)
  have H : ((spec_l20Open.f l0).bind fun bt1063 => ((spec_l20Rd_pick.f k bt1063.1 bt1063.2 6).bind fun bt1066 => ((spec_l20Rd_pick.f k bt1063.1 bt1066.2 20).bind fun bt1068 => ((spec_l20Script.f k bt1063.1 bt1068.2 (wrap64 (1 + bt1066.1)) 3).bind fun bt1070 => (some (wrap64 ((wrap64 (1 + bt1066.1)) + (wrap64 ((wrap64 (Int.tdiv bt1068.1 19)) * 6))), bt1070.1)))))) = some (r1, r2) := h
  clear h
  replace H := Option.bind_eq_some_iff.mp H
  obtain ⟨⟨t1063, t1064⟩, A20, H⟩ := H
  replace H : ((spec_l20Rd_pick.f k t1063 t1064 6).bind fun bt1066 => ((spec_l20Rd_pick.f k t1063 bt1066.2 20).bind fun bt1068 => ((spec_l20Script.f k t1063 bt1068.2 (wrap64 (1 + bt1066.1)) 3).bind fun bt1070 => (some (wrap64 ((wrap64 (1 + bt1066.1)) + (wrap64 ((wrap64 (Int.tdiv bt1068.1 19)) * 6))), bt1070.1))))) = some (r1, r2) := H
  have A2 := Aside0.mk A20
  clear A20
  replace H := Option.bind_eq_some_iff.mp H
  obtain ⟨⟨t1066, t1067⟩, A30, H⟩ := H
  replace H : ((spec_l20Rd_pick.f k t1063 t1067 20).bind fun bt1068 => ((spec_l20Script.f k t1063 bt1068.2 (wrap64 (1 + t1066)) 3).bind fun bt1070 => (some (wrap64 ((wrap64 (1 + t1066)) + (wrap64 ((wrap64 (Int.tdiv bt1068.1 19)) * 6))), bt1070.1)))) = some (r1, r2) := H
  have A3 := Aside0.mk A30
  clear A30
  replace H := Option.bind_eq_some_iff.mp H
  obtain ⟨⟨t1068, t1069⟩, A40, H⟩ := H
  replace H : ((spec_l20Script.f k t1063 t1069 (wrap64 (1 + t1066)) 3).bind fun bt1070 => (some (wrap64 ((wrap64 (1 + t1066)) + (wrap64 ((wrap64 (Int.tdiv t1068 19)) * 6))), bt1070.1))) = some (r1, r2) := H
  have A4 := Aside0.mk A40
  clear A40
  replace H := Option.bind_eq_some_iff.mp H
  obtain ⟨⟨t1070, t1073⟩, A50, H⟩ := H
  replace H : (some (wrap64 ((wrap64 (1 + t1066)) + (wrap64 ((wrap64 (Int.tdiv t1068 19)) * 6))), t1070)) = some (r1, r2) := H
  have A5 := Aside0.mk A50
  clear A50
  simp only [Option.some.injEq, Prod.mk.injEq] at H
  obtain ⟨rfl, rfl⟩ := H
  go_enter Try.func52, Try.ntmps52
  go_wp2_with (first | ((with_reducible refine gate_callee (f := 63) rfl ?_); refine goesL_ (some 7) rfl rfl Try.func63 (by kernel_rfl) rfl #[.slice A0 l0.length c0] rfl zA ?_; (with_reducible refine (spec_l20Open.calls _ _ l0 t1063 t1064 w _ ?side1 ?side2 ?side3 A2.out).mono ?_); (case side1 => exact zB HB.out); (case side2 => exact HR0.out); (case side3 => exact HC0.out); rintro e w6 ⟨g1065, rfl, hi, hb, hb2⟩; refine ⟨_, rfl, ?_⟩; have n0_ := Aside0.mk (hb); have n1_ := Aside0.mk (hi); clear HB; have HB := n0_; have HI1065 := n1_; clear n0_ n1_; (try clear hb); (try clear hb2); (try clear hk); (try clear hi)) | ((with_reducible refine gate_callee (f := 82) rfl ?_); refine goesL_ (some 9) rfl rfl Try.func82 (by kernel_rfl) rfl #[.pointer (some ⟨g1065, 0, none⟩), .int .i64 6] rfl zA ?_; (with_reducible refine (spec_l20Rd_pick.calls k g1065 t1063 t1064 6 t1066 t1067 w _ ?side1 ?side2 A3.out).mono ?_); (case side1 => repeat (first | (with_reducible first | exact HI1065.out | apply IsS92.alloc | apply IsS92.drewN | apply IsS92.drew | apply IsS92.set_1) | exact HI1065.out)); (case side2 => repeat (first | (with_reducible first | exact HB.out | apply below_alloc | apply pw_below_drewN | apply below_drew1 | refine below_set ?_ (IsS92.ge HI1065.out)) | exact HB.out)); rintro e w7 ⟨rfl, hi, hb, hk⟩; refine ⟨_, rfl, ?_⟩; have n0_ := Aside0.mk (hb); have n1_ := Aside0.mk (hi); clear HB; clear HI1065; have HB := n0_; have HI1065 := n1_; clear n0_ n1_; (try clear hb); (try clear hb2); (try clear hk); (try clear hi)) | ((with_reducible refine gate_callee (f := 82) rfl ?_); refine goesL_ (some 13) rfl rfl Try.func82 (by kernel_rfl) rfl #[.pointer (some ⟨g1065, 0, none⟩), .int .i64 20] rfl zA ?_; (with_reducible refine (spec_l20Rd_pick.calls k g1065 t1063 t1067 20 t1068 t1069 w _ ?side1 ?side2 A4.out).mono ?_); (case side1 => repeat (first | (with_reducible first | exact HI1065.out | apply IsS92.alloc | apply IsS92.drewN | apply IsS92.drew | apply IsS92.set_1) | exact HI1065.out)); (case side2 => repeat (first | (with_reducible first | exact HB.out | apply below_alloc | apply pw_below_drewN | apply below_drew1 | refine below_set ?_ (IsS92.ge HI1065.out)) | exact HB.out)); rintro e w8 ⟨rfl, hi, hb, hk⟩; refine ⟨_, rfl, ?_⟩; have n0_ := Aside0.mk (hb); have n1_ := Aside0.mk (hi); clear HB; clear HI1065; have HB := n0_; have HI1065 := n1_; clear n0_ n1_; (try clear hb); (try clear hb2); (try clear hk); (try clear hi)) | ((with_reducible refine gate_callee (f := 89) rfl ?_); refine goesL_ (some 19) rfl rfl Try.func89 (by kernel_rfl) rfl #[.pointer (some ⟨g1065, 0, none⟩), .int .i64 (wrap64 (1 + t1066)), .int .i64 3] rfl zA ?_; (with_reducible refine (spec_l20Script.calls k g1065 t1063 t1069 (wrap64 (1 + t1066)) 3 t1070 t1073 w _ ?side1 ?side2 A5.out).mono ?_); (case side1 => repeat (first | (with_reducible first | exact HI1065.out | apply IsS92.alloc | apply IsS92.drewN | apply IsS92.drew | apply IsS92.set_1) | exact HI1065.out)); (case side2 => repeat (first | (with_reducible first | exact HB.out | apply below_alloc | apply pw_below_drewN | apply below_drew1 | refine below_set ?_ (IsS92.ge HI1065.out)) | exact HB.out)); rintro e w9 ⟨v1071, rfl, ho0, hi, hb, hk⟩; refine ⟨_, rfl, ?_⟩; have n0_ := Aside0.mk (Kd.R_lower ho0 (below_size (by repeat (first | (with_reducible first | exact HB.out | apply below_alloc | apply pw_below_drewN | apply below_drew1 | refine below_set ?_ (IsS92.ge HI1065.out)) | exact HB.out)))); have n1_ := Aside0.mk (hb); have n2_ := Aside0.mk (hi); clear HB; clear HI1065; have HO1072 := n0_; have HB := n1_; have HI1065 := n2_; clear n0_ n1_ n2_; (try clear hb); (try clear hb2); (try clear hk); (try clear hi); (try clear ho0)))
  go_ret2
  exact ⟨_, by first | rfl | (simp [errW_none, errW_some] <;> rfl) | (simp [*, errW_none, errW_some] <;> rfl), by (with_reducible repeat (first | apply Kd.R_alloc | apply Kd.R_drewN | apply Kd.R_drew)); exact HO1072.out, by repeat (first | (with_reducible first | exact HB.out | apply below_alloc | apply pw_below_drewN | apply below_drew1 | refine below_set ?_ (IsS92.ge HI1065.out)) | exact HB.out)⟩

end Go.Proofs.Ytfhkahlfpchhpaa.PAll
