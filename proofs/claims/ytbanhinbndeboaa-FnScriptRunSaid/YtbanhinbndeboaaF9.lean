/- Own text of this session, written by a program of this session (wip/t/own.py) out of what the kit tells of the functions: each Go function as a Lean function, and the walk through its code. -/
import Derived.Test.YtbanhinbndeboaaT
import Derived.Test.YtbanhinbndeboaaF0
import Derived.Test.YtbanhinbndeboaaF1
namespace Go.Proofs.Ytbanhinbndeboaa.PAll
open Go.RowKit Go.Proofs.YtbanhinbndeboaaW.PrintWords Go.Proofs.YtbanhinbndeboaaW.PrintLast Go.Proofs.YtbanhinbndeboaaW.PrintMore
attribute [local go_sem] max2_int min2_int max_two min_two max_three min_three max_four min_four   -- for this text's walks alone
set_option linter.unusedVariables false
set_option linter.unusedSimpArgs false

/-! ### spec_l20Script: function 47 -/
mutual
def spec_l20Script.l0 : Nat → Int → Int → List (S40) → Int → Int → Int → List Int → Int → Option ((List (S40)) × Int)
 | 0, _, _, _, _, _, _, _, _ => none
 | k + 1, x1, x2, x7, x8, x9, x10, x1000, x1001 => if x10 > 0 then (spec_l20Script.j1 k x1 x2 x7 x8 x9 x10 (decide (x1 > 0)) x1000 x1001) else (spec_l20Script.j1 k x1 x2 x7 x8 x9 x10 false x1000 x1001)
def spec_l20Script.j1 : Nat → Int → Int → List (S40) → Int → Int → Int → Bool → List Int → Int → Option ((List (S40)) × Int)
 | 0, _, _, _, _, _, _, _, _, _ => none
 | k + 1, x1, x2, x7, x8, x9, x10, x19, x1000, x1001 => if x19 = true then ((spec_l20Rd_pick.f k x1000 x1001 2).bind fun bt498 => (if (wrap64 ((wrap64 (x9 + 1)) + bt498.1)) ≥ x1 then (spec_l20Script.j2 k x1 x2 x7 x8 (wrap64 ((wrap64 (x9 + 1)) + bt498.1)) x10 true x1000 bt498.2) else ((spec_l20Rd_pick.f k x1000 bt498.2 3).bind fun bt500 => (spec_l20Script.j2 k x1 x2 x7 x8 (wrap64 ((wrap64 (x9 + 1)) + bt498.1)) x10 (decide (bt500.1 > 0)) x1000 bt500.2)))) else ((spec_l20Rd_odd.f k x1000 x1001 x2).bind fun bt512 => (if bt512.1 = true then ((some (([(⟨(-1), 0⟩ : S40), (⟨60, 0⟩ : S40), (⟨59, 6⟩ : S40)] : List (S40)) : List (S40))).bind fun y514 => ((spec_l20Rd_pick.f k x1000 bt512.2 3).bind fun bt517 => (if 0 ≤ bt517.1 then (if bt517.1 < (y514.length : Int) then (if x7.length < 8796093022208 then (some ((x7 ++ [(⟨(rd_T40 y514 bt517.1).f0, (rd_T40 y514 bt517.1).f1⟩ : S40)]), bt517.2)) else (none)) else (none)) else (none)))) else (some (x7, bt512.2))))
def spec_l20Script.j2 : Nat → Int → Int → List (S40) → Int → Int → Int → Bool → List Int → Int → Option ((List (S40)) × Int)
 | 0, _, _, _, _, _, _, _, _, _ => none
 | k + 1, x1, x2, x7, x8, x9, x10, x34, x1000, x1001 => if x34 = true then ((spec_l20Rd_pick.f k x1000 x1001 4).bind fun bt502 => ((spec_l20Rd_pick.f k x1000 bt502.2 x1).bind fun bt504 => (if x7.length < 8796093022208 then (spec_l20Script.l0 k x1 x2 (x7 ++ [(⟨wrap64 ((wrap64 (x8 + 1)) + bt502.1), bt504.1⟩ : S40)]) (wrap64 ((wrap64 (x8 + 1)) + bt502.1)) bt504.1 (wrap64 (x10 - 1)) x1000 bt504.2) else (none)))) else (if x7.length < 8796093022208 then (spec_l20Script.l0 k x1 x2 (x7 ++ [(⟨x8, x9⟩ : S40)]) x8 x9 (wrap64 (x10 - 1)) x1000 x1001) else (none))
end
def spec_l20Script.f (k : Nat) (s0_0 : List Int) (s0_1 : Int) (a1 : Int) (a2 : Int) : Option ((List (S40)) × Int) := (spec_l20Rd_pick.f k s0_0 s0_1 6).bind fun bt496 => (spec_l20Script.l0 k a1 a2 (([] : List (S40))) 0 (-1) bt496.1 s0_0 bt496.2)
theorem spec_l20Script.mono_l : ∀ k, (∀ y0 y1 y2 y3 y4 y5 y6 y7, LeO (spec_l20Script.l0 k y0 y1 y2 y3 y4 y5 y6 y7) (spec_l20Script.l0 (k + 1) y0 y1 y2 y3 y4 y5 y6 y7)) ∧ (∀ y0 y1 y2 y3 y4 y5 y6 y7 y8, LeO (spec_l20Script.j1 k y0 y1 y2 y3 y4 y5 y6 y7 y8) (spec_l20Script.j1 (k + 1) y0 y1 y2 y3 y4 y5 y6 y7 y8)) ∧ (∀ y0 y1 y2 y3 y4 y5 y6 y7 y8, LeO (spec_l20Script.j2 k y0 y1 y2 y3 y4 y5 y6 y7 y8) (spec_l20Script.j2 (k + 1) y0 y1 y2 y3 y4 y5 y6 y7 y8))
 | 0 => ⟨fun _ _ _ _ _ _ _ _ r h => by simp [spec_l20Script.l0] at h, fun _ _ _ _ _ _ _ _ _ r h => by simp [spec_l20Script.j1] at h, fun _ _ _ _ _ _ _ _ _ r h => by simp [spec_l20Script.j2] at h⟩
 | k + 1 => by
  obtain ⟨ih0, ih1, ih2⟩ := spec_l20Script.mono_l k
  refine ⟨?_, ?_, ?_⟩
  ·intro y0 y1 y2 y3 y4 y5 y6 y7
   unfold spec_l20Script.l0
   repeat' first
   | (with_reducible exact ih0 _ _ _ _ _ _ _ _)
   | (with_reducible exact ih1 _ _ _ _ _ _ _ _ _)
   | (with_reducible exact ih2 _ _ _ _ _ _ _ _ _)
   | (with_reducible exact spec_l20Rd_odd.mono _ _ _ _)
   | (with_reducible exact spec_l20Rd_pick.mono _ _ _ _)
   | (with_reducible exact LeO.refl _)
   | (with_reducible exact LeO.none _)
   | (with_reducible refine LeO.ite ?_ ?_)
   | (with_reducible refine LeO.bind ?_ (fun _ => ?_))
   | exact ih0 _ _ _ _ _ _ _ _
   | exact ih1 _ _ _ _ _ _ _ _ _
   | exact ih2 _ _ _ _ _ _ _ _ _
   | exact spec_l20Rd_odd.mono _ _ _ _
   | exact spec_l20Rd_pick.mono _ _ _ _
   | exact LeO.none _
   | refine LeO.ite ?_ ?_
   | refine LeO.bind ?_ (fun _ => ?_)
  ·intro y0 y1 y2 y3 y4 y5 y6 y7 y8
   unfold spec_l20Script.j1
   repeat' first
   | (with_reducible exact ih0 _ _ _ _ _ _ _ _)
   | (with_reducible exact ih1 _ _ _ _ _ _ _ _ _)
   | (with_reducible exact ih2 _ _ _ _ _ _ _ _ _)
   | (with_reducible exact spec_l20Rd_odd.mono _ _ _ _)
   | (with_reducible exact spec_l20Rd_pick.mono _ _ _ _)
   | (with_reducible exact LeO.refl _)
   | (with_reducible exact LeO.none _)
   | (with_reducible refine LeO.ite ?_ ?_)
   | (with_reducible refine LeO.bind ?_ (fun _ => ?_))
   | exact ih0 _ _ _ _ _ _ _ _
   | exact ih1 _ _ _ _ _ _ _ _ _
   | exact ih2 _ _ _ _ _ _ _ _ _
   | exact spec_l20Rd_odd.mono _ _ _ _
   | exact spec_l20Rd_pick.mono _ _ _ _
   | exact LeO.none _
   | refine LeO.ite ?_ ?_
   | refine LeO.bind ?_ (fun _ => ?_)
  ·intro y0 y1 y2 y3 y4 y5 y6 y7 y8
   unfold spec_l20Script.j2
   repeat' first
   | (with_reducible exact ih0 _ _ _ _ _ _ _ _)
   | (with_reducible exact ih1 _ _ _ _ _ _ _ _ _)
   | (with_reducible exact ih2 _ _ _ _ _ _ _ _ _)
   | (with_reducible exact spec_l20Rd_odd.mono _ _ _ _)
   | (with_reducible exact spec_l20Rd_pick.mono _ _ _ _)
   | (with_reducible exact LeO.refl _)
   | (with_reducible exact LeO.none _)
   | (with_reducible refine LeO.ite ?_ ?_)
   | (with_reducible refine LeO.bind ?_ (fun _ => ?_))
   | exact ih0 _ _ _ _ _ _ _ _
   | exact ih1 _ _ _ _ _ _ _ _ _
   | exact ih2 _ _ _ _ _ _ _ _ _
   | exact spec_l20Rd_odd.mono _ _ _ _
   | exact spec_l20Rd_pick.mono _ _ _ _
   | exact LeO.none _
   | refine LeO.ite ?_ ?_
   | refine LeO.bind ?_ (fun _ => ?_)
theorem spec_l20Script.mono : ∀ a0 a1 a2 a3 k, LeO (spec_l20Script.f k a0 a1 a2 a3) (spec_l20Script.f (k + 1) a0 a1 a2 a3) := by
 intro a0 a1 a2 a3 k
 obtain ⟨ih0, ih1, ih2⟩ := spec_l20Script.mono_l k
 unfold spec_l20Script.f
 repeat' first
   | (with_reducible exact ih0 _ _ _ _ _ _ _ _)
   | (with_reducible exact ih1 _ _ _ _ _ _ _ _ _)
   | (with_reducible exact ih2 _ _ _ _ _ _ _ _ _)
   | (with_reducible exact spec_l20Rd_odd.mono _ _ _ _)
   | (with_reducible exact spec_l20Rd_pick.mono _ _ _ _)
   | (with_reducible exact LeO.refl _)
   | (with_reducible exact LeO.none _)
   | (with_reducible refine LeO.ite ?_ ?_)
   | (with_reducible refine LeO.bind ?_ (fun _ => ?_))
   | exact ih0 _ _ _ _ _ _ _ _
   | exact ih1 _ _ _ _ _ _ _ _ _
   | exact ih2 _ _ _ _ _ _ _ _ _
   | exact spec_l20Rd_odd.mono _ _ _ _
   | exact spec_l20Rd_pick.mono _ _ _ _
   | exact LeO.none _
   | refine LeO.ite ?_ ?_
   | refine LeO.bind ?_ (fun _ => ?_)
set_option maxHeartbeats 8000000 in
set_option maxRecDepth 100000 in
theorem spec_l20Script.calls (k : Nat) (g : Nat) (s0_0 : List Int) (s0_1 : Int) (a1 : Int) (a2 : Int) (r1 : List (S40)) (r2 : Int) (w0 w : World) (hI : IsS63 w0 w g s0_0 s0_1) (hB : Below w0.heap.size w0 w) (h : spec_l20Script.f k s0_0 s0_1 a1 a2 = some (r1, r2)) :
  Calls Try.prog 47 #[.pointer (some ⟨g, 0, none⟩), .int .i64 a1, .int .i64 a2] w fun e w' => ∃ v0_ : Value, e = .returned (v0_) ∧ Kd.R k40 40 w' w.heap.size (fun _ => True) v0_ r1 ∧ IsS63 w0 w' g s0_0 r2 ∧ Below w0.heap.size w0 w' ∧ KeepBut w w' g none := by
 have hu40 := Try.underlying40
 have HI0 := Aside0.mk hI
 have HK := Aside0.mk (KeepBut.refl w g none)
 have HL := Aside0.mk hB.size
 clear hI
 have HW0 := Aside0.mk hB.size
 have HB := Aside0.mk hB
 clear hB
 have H : ((spec_l20Rd_pick.f k s0_0 s0_1 6).bind fun bt496 => (spec_l20Script.l0 k a1 a2 (([] : List (S40))) 0 (-1) bt496.1 s0_0 bt496.2)) = some (r1, r2) := h
 clear h
 obtain ⟨y493, hy493⟩ : ∃ y_ : List (S40), y_ = (([] : List (S40))) := ⟨_, rfl⟩
 replace H : ((spec_l20Rd_pick.f k s0_0 s0_1 6).bind fun bt496 => (spec_l20Script.l0 k a1 a2 y493 0 (-1) bt496.1 s0_0 bt496.2)) = some (r1, r2) := by first | (rw [hy493]; with_reducible exact H) | (have H2_ := (Option.bind_some _ _).symm.trans H; rw [hy493]; with_reducible exact H2_) | (have H2_ := (Option.bind_some _ _).symm.trans H; with_reducible exact H2_) | with_reducible exact H | (rw [hy493]; exact H) | exact H
 have Ny493 := Aside0.mk hy493
 clear hy493
 replace H := Option.bind_eq_some_iff.mp H
 obtain ⟨⟨t496, t497⟩, A40, H⟩ := H
 replace H : (spec_l20Script.l0 k a1 a2 y493 0 (-1) t496 s0_0 t497) = some (r1, r2) := H
 have A4 := Aside0.mk A40
 clear A40
 have H' := Aside0.mk H
 clear H
 go_enter Try.func47, Try.ntmps47
 go_wp2_with (first | ((with_reducible refine gate_dst (N := 11) rfl ?_); refine Kd.R_lit k40 _ 40 ?hg (N := 11) ?hd (xs := ([] : List (S40))) (inner := []) (ok := fun _ => True) (okp := fun _ => True) ?hr ?hp (fun _ hk => hk) trivial (Below.refl _ _) (Nat.le_refl _) (by simp) ?_; (case hd => rfl); (case hg => rfl); (case hr => first | (go_simp; done) | (go_simp; rfl)); (case hp => exact (Reps.none _ _)); intro v494 w5 ho6 hb hg_ hnew_; clear hg_ hnew_; (first | rw [← Ny493.out] at ho6 | (simp only [Int.reduceToNat] at ho6; rw [← Ny493.out] at ho6)); have n0_ := Aside0.mk (Kd.R_lower ho6 (keep_size (w := w) (g := g) (row := none) (zK HK.out))); have n1_ := Aside0.mk (IsS63.below (zI63 HI0.out) hb); have n2_ := Aside0.mk (KeepBut.trans (zK HK.out) (KeepBut.of_below hb g none) (.inl rfl)); have n3_ := Aside0.mk (below_step (zE63 HB.out HI0.out) hb); clear HI0; clear HK; clear HB; have HO495 := n0_; have HI0 := n1_; have HK := n2_; have HB := n3_; clear n0_ n1_ n2_ n3_; clear hb ho6) | ((with_reducible refine gate_callee (f := 44) rfl ?_); refine goesL_ (some 13) rfl rfl Try.func44 (by kernel_rfl) rfl #[.pointer (some ⟨g, 0, none⟩), .int .i64 6] rfl zA ?_; (with_reducible refine (spec_l20Rd_pick.calls k g s0_0 s0_1 6 t496 t497 w0 _ ?side1 ?side2 A4.out).mono ?_); (case side1 => exact zI63 HI0.out); (case side2 => exact zE63 HB.out HI0.out); rintro e w7 ⟨rfl, hi, hb, hk⟩; refine ⟨_, rfl, ?_⟩; have n0_ := Aside0.mk (Kd.R_mono (Kd.R_keep (IsS63.apart (show IsS63 w0 _ g s0_0 s0_1 from zI63 HI0.out) (zR HO495.out) (by decide)) hk (fun _ h => h.2)) (fun _ h => h.1)); have n1_ := Aside0.mk (KeepBut.trans (zK HK.out) hk (.inl rfl)); have n2_ := Aside0.mk (hb); have n3_ := Aside0.mk (hi); clear HO495; clear HK; clear HB; clear HI0; have HO495 := n0_; have HK := n1_; have HB := n2_; have HI0 := n3_; clear n0_ n1_ n2_ n3_; (try clear hb); (try clear hb2); (try clear hk); (try clear hi)))
 go_loopg [7, 8, 9, 10] k (fun kq v7 v8 v9 v10 w' => ∃ (x7_1 : List (S40)) (x8_1 : Int) (x9_1 : Int) (x10_1 : Int) (x1001_1 : Int), v8 = .int .i64 x8_1 ∧ v9 = .int .i64 x9_1 ∧ v10 = .int .i64 x10_1 ∧ Aside0 (spec_l20Script.l0 kq a1 a2 x7_1 x8_1 x9_1 x10_1 s0_0 x1001_1 = some (r1, r2)) ∧ Aside0 (kq ≤ k) ∧ Aside0 (Kd.R k40 40 w' w.heap.size (fun _ => True) v7 x7_1) ∧ Aside0 (IsS63 w0 w' g s0_0 x1001_1) ∧ Aside0 (KeepBut w w' g none) ∧ Aside0 (Below w0.heap.size w0 w'))
 case atStart => exact ⟨(y493), (0), ((-1)), (t496), (t497), (by first | rfl | (simp; done) | (simp [*]; done)), (by first | rfl | (simp; done) | (simp [*]; done)), (by first | rfl | (simp; done) | (simp [*]; done)), H', ⟨Nat.le_refl _⟩, ⟨by (with_reducible repeat (first | apply Kd.R_alloc | apply Kd.R_drewN | apply Kd.R_drew)); exact HO495.out⟩, ⟨zI63 HI0.out⟩, ⟨zK HK.out⟩, ⟨zE63 HB.out HI0.out⟩⟩
 case round =>
  clear H'
  try clear p2
  try clear c4
  obtain ⟨x7_1, x8_1, x9_1, x10_1, x1001_1, rfl, rfl, rfl, HA, HK1, HO_7, HI0, HK, HB⟩ := hrel
  cases gk with
  | zero => exact absurd HA.out (by simp [spec_l20Script.l0])
  | succ k1 =>
   have H := HA.out
   clear HA
   simp only [spec_l20Script.l0] at H
   have HC8 := Aside0.mk H
   clear H
   go_upto_region 5 with (fail)
   go_cut [19] (fun v19 wc => ∃ (kq : Nat) (x19_7 : Bool), v19 = .bool x19_7 ∧ Aside0 (spec_l20Script.j1 kq a1 a2 x7_1 x8_1 x9_1 x10_1 x19_7 s0_0 x1001_1 = some (r1, r2)) ∧ Aside0 (kq ≤ k1) ∧ Aside0 (Kd.R k40 40 wc w.heap.size (fun _ => True) u7 x7_1) ∧ Aside0 (IsS63 w0 wc g s0_0 x1001_1) ∧ Aside0 (KeepBut w wc g none) ∧ Aside0 (Below w0.heap.size w0 wc))
   case first =>
    have H := HC8.out
    clear HC8
    by_cases c9 : x10_1 > 0
    ·rw [if_pos c9] at H
     have c9b0 : decide (0 < x10_1) = true := decide_eq_true c9
     clear c9
     (first | rw [c9b0] | (simp only [i64_w, i32_w]; rw [c9b0]) | skip)
     have H' := Aside0.mk H
     clear H
     go_wp2
     go_meet
     case rel => exact ⟨_, (decide (a1 > 0)), (by first | rfl | (simp; done) | (simp [*]; done)), H', ⟨by have := HK1.out; first | omega | exact Nat.le_refl _⟩, ⟨by (with_reducible repeat (first | apply Kd.R_alloc | apply Kd.R_drewN | apply Kd.R_drew)); exact HO_7.out⟩, ⟨zI63 HI0.out⟩, ⟨zK HK.out⟩, ⟨zE63 HB.out HI0.out⟩⟩
    ·rw [if_neg c9] at H
     have c9b0 : decide (0 < x10_1) = false := decide_eq_false c9
     clear c9
     (first | rw [c9b0] | (simp only [i64_w, i32_w]; rw [c9b0]) | skip)
     have H' := Aside0.mk H
     clear H
     go_wp2
     go_meet
     case rel => exact ⟨_, (false), (by first | rfl | (simp; done) | (simp [*]; done)), H', ⟨by have := HK1.out; first | omega | exact Nat.le_refl _⟩, ⟨by (with_reducible repeat (first | apply Kd.R_alloc | apply Kd.R_drewN | apply Kd.R_drew)); exact HO_7.out⟩, ⟨zI63 HI0.out⟩, ⟨zK HK.out⟩, ⟨zE63 HB.out HI0.out⟩⟩
   case rest =>
    clear HC8
    try clear p2
    try clear c4
    try clear c9
    try clear c9b0
    try clear p2
    obtain ⟨kq, x19_7, rfl, HA, HJ7, HO_7, HI0, HK, HB⟩ := hcut
    cases kq with
    | zero => exact absurd HA.out (by simp [spec_l20Script.j1])
    | succ kj7 =>
     have H := HA.out
     clear HA
     simp only [spec_l20Script.j1] at H
     by_cases c10 : x19_7 = true
     ·subst c10
      have H1 : ((spec_l20Rd_pick.f kj7 s0_0 x1001_1 2).bind fun bt498 => (if (wrap64 ((wrap64 (x9_1 + 1)) + bt498.1)) ≥ a1 then (spec_l20Script.j2 kj7 a1 a2 x7_1 x8_1 (wrap64 ((wrap64 (x9_1 + 1)) + bt498.1)) x10_1 true s0_0 bt498.2) else ((spec_l20Rd_pick.f kj7 s0_0 bt498.2 3).bind fun bt500 => (spec_l20Script.j2 kj7 a1 a2 x7_1 x8_1 (wrap64 ((wrap64 (x9_1 + 1)) + bt498.1)) x10_1 (decide (bt500.1 > 0)) s0_0 bt500.2)))) = some (r1, r2) := by rw [if_pos rfl] at H; exact H
      clear H
      have H := H1
      clear H1
      replace H := Option.bind_eq_some_iff.mp H
      obtain ⟨⟨t498, t499⟩, A110, H⟩ := H
      replace H : (if (wrap64 ((wrap64 (x9_1 + 1)) + t498)) ≥ a1 then (spec_l20Script.j2 kj7 a1 a2 x7_1 x8_1 (wrap64 ((wrap64 (x9_1 + 1)) + t498)) x10_1 true s0_0 t499) else ((spec_l20Rd_pick.f kj7 s0_0 t499 3).bind fun bt500 => (spec_l20Script.j2 kj7 a1 a2 x7_1 x8_1 (wrap64 ((wrap64 (x9_1 + 1)) + t498)) x10_1 (decide (bt500.1 > 0)) s0_0 bt500.2))) = some (r1, r2) := H
      have A11 := Aside0.mk A110
      clear A110
      have HC12 := Aside0.mk H
      clear H
      go_upto_region 8 with (first | ((with_reducible refine gate_callee (f := 44) rfl ?_); refine goesL_ (some 25) rfl rfl Try.func44 (by kernel_rfl) rfl #[.pointer (some ⟨g, 0, none⟩), .int .i64 2] rfl zA ?_; (with_reducible refine (spec_l20Rd_pick.calls kj7 g s0_0 x1001_1 2 t498 t499 w0 _ ?side1 ?side2 A11.out).mono ?_); (case side1 => exact zI63 HI0.out); (case side2 => exact zE63 HB.out HI0.out); rintro e w13 ⟨rfl, hi, hb, hk⟩; refine ⟨_, rfl, ?_⟩; have n0_ := Aside0.mk (Kd.R_mono (Kd.R_keep (IsS63.apart (show IsS63 w0 _ g s0_0 x1001_1 from zI63 HI0.out) (zR HO_7.out) (by decide)) hk (fun _ h => h.2)) (fun _ h => h.1)); have n1_ := Aside0.mk (KeepBut.trans (zK HK.out) hk (.inl rfl)); have n2_ := Aside0.mk (hb); have n3_ := Aside0.mk (hi); clear HO_7; clear HK; clear HB; clear HI0; have HO_7 := n0_; have HK := n1_; have HB := n2_; have HI0 := n3_; clear n0_ n1_ n2_ n3_; (try clear hb); (try clear hb2); (try clear hk); (try clear hi)))
      (try simp only [Act.put, List.setIfInBounds_toArray, List.set_cons_zero, List.set_cons_succ])
      go_cut [34] (fun v34 wc => ∃ (kq : Nat) (x34_11 : Bool) (x1001_11 : Int), v34 = .bool x34_11 ∧ Aside0 (spec_l20Script.j2 kq a1 a2 x7_1 x8_1 (wrap64 ((wrap64 (x9_1 + 1)) + t498)) x10_1 x34_11 s0_0 x1001_11 = some (r1, r2)) ∧ Aside0 (kq ≤ kj7) ∧ Aside0 (Kd.R k40 40 wc w.heap.size (fun _ => True) u7 x7_1) ∧ Aside0 (IsS63 w0 wc g s0_0 x1001_11) ∧ Aside0 (KeepBut w wc g none) ∧ Aside0 (Below w0.heap.size w0 wc))
      case first =>
       have H := HC12.out
       clear HC12
       by_cases c14 : (wrap64 ((wrap64 (x9_1 + 1)) + t498)) ≥ a1
       ·rw [if_pos c14] at H
        have c14b0 : decide (a1 ≤ (wrap64 ((wrap64 (x9_1 + 1)) + t498))) = true := decide_eq_true c14
        clear c14
        (first | rw [c14b0] | (simp only [i64_w, i32_w]; rw [c14b0]) | skip)
        have H' := Aside0.mk H
        clear H
        go_wp2
        go_meet
        case rel => exact ⟨_, (true), (t499), (by first | rfl | (simp; done) | (simp [*]; done)), H', ⟨by have := HK1.out; have := HJ7.out; first | omega | exact Nat.le_refl _⟩, ⟨by (with_reducible repeat (first | apply Kd.R_alloc | apply Kd.R_drewN | apply Kd.R_drew)); exact HO_7.out⟩, ⟨zI63 HI0.out⟩, ⟨zK HK.out⟩, ⟨zE63 HB.out HI0.out⟩⟩
       ·rw [if_neg c14] at H
        have c14b0 : decide (a1 ≤ (wrap64 ((wrap64 (x9_1 + 1)) + t498))) = false := decide_eq_false c14
        clear c14
        (first | rw [c14b0] | (simp only [i64_w, i32_w]; rw [c14b0]) | skip)
        replace H := Option.bind_eq_some_iff.mp H
        obtain ⟨⟨t500, t501⟩, A150, H⟩ := H
        replace H : (spec_l20Script.j2 kj7 a1 a2 x7_1 x8_1 (wrap64 ((wrap64 (x9_1 + 1)) + t498)) x10_1 (decide (t500 > 0)) s0_0 t501) = some (r1, r2) := H
        have A15 := Aside0.mk A150
        clear A150
        have H' := Aside0.mk H
        clear H
        go_wp2_with (first | (go_at_call 44; (with_reducible refine (spec_l20Rd_pick.calls kj7 g s0_0 t499 3 t500 t501 w0 _ ?side1 ?side2 A15.out).mono ?_); (case side1 => exact zI63 HI0.out); (case side2 => exact zE63 HB.out HI0.out); rintro e w16 ⟨rfl, hi, hb, hk⟩; have n0_ := Aside0.mk (Kd.R_mono (Kd.R_keep (IsS63.apart (show IsS63 w0 _ g s0_0 t499 from zI63 HI0.out) (zR HO_7.out) (by decide)) hk (fun _ h => h.2)) (fun _ h => h.1)); have n1_ := Aside0.mk (KeepBut.trans (zK HK.out) hk (.inl rfl)); have n2_ := Aside0.mk (hb); have n3_ := Aside0.mk (hi); clear HO_7; clear HK; clear HB; clear HI0; have HO_7 := n0_; have HK := n1_; have HB := n2_; have HI0 := n3_; clear n0_ n1_ n2_ n3_; (try clear hb); (try clear hb2); (try clear hk); (try clear hi)))
        go_meet
        case rel => exact ⟨_, (decide (t500 > 0)), (t501), (by first | rfl | (simp; done) | (simp [*]; done)), H', ⟨by have := HK1.out; have := HJ7.out; first | omega | exact Nat.le_refl _⟩, ⟨by (with_reducible repeat (first | apply Kd.R_alloc | apply Kd.R_drewN | apply Kd.R_drew)); exact HO_7.out⟩, ⟨zI63 HI0.out⟩, ⟨zK HK.out⟩, ⟨zE63 HB.out HI0.out⟩⟩
      case rest =>
       clear HC12
       try clear c1
       try clear p2
       try clear c4
       try clear p6
       try clear c9
       try clear c9b0
       try clear c10
       try clear c14
       try clear c14b0
       try clear p2
       obtain ⟨kq, x34_11, x1001_11, rfl, HA, HJ11, HO_7, HI0, HK, HB⟩ := hcut
       cases kq with
       | zero => exact absurd HA.out (by simp [spec_l20Script.j2])
       | succ kj11 =>
        have H := HA.out
        clear HA
        simp only [spec_l20Script.j2] at H
        by_cases c17 : x34_11 = true
        ·subst c17
         have H1 : ((spec_l20Rd_pick.f kj11 s0_0 x1001_11 4).bind fun bt502 => ((spec_l20Rd_pick.f kj11 s0_0 bt502.2 a1).bind fun bt504 => (if x7_1.length < 8796093022208 then (spec_l20Script.l0 kj11 a1 a2 (x7_1 ++ [(⟨wrap64 ((wrap64 (x8_1 + 1)) + bt502.1), bt504.1⟩ : S40)]) (wrap64 ((wrap64 (x8_1 + 1)) + bt502.1)) bt504.1 (wrap64 (x10_1 - 1)) s0_0 bt504.2) else (none)))) = some (r1, r2) := by rw [if_pos rfl] at H; exact H
         clear H
         have H := H1
         clear H1
         replace H := Option.bind_eq_some_iff.mp H
         obtain ⟨⟨t502, t503⟩, A180, H⟩ := H
         replace H : ((spec_l20Rd_pick.f kj11 s0_0 t503 a1).bind fun bt504 => (if x7_1.length < 8796093022208 then (spec_l20Script.l0 kj11 a1 a2 (x7_1 ++ [(⟨wrap64 ((wrap64 (x8_1 + 1)) + t502), bt504.1⟩ : S40)]) (wrap64 ((wrap64 (x8_1 + 1)) + t502)) bt504.1 (wrap64 (x10_1 - 1)) s0_0 bt504.2) else (none))) = some (r1, r2) := H
         have A18 := Aside0.mk A180
         clear A180
         replace H := Option.bind_eq_some_iff.mp H
         obtain ⟨⟨t504, t505⟩, A190, H⟩ := H
         replace H : (if x7_1.length < 8796093022208 then (spec_l20Script.l0 kj11 a1 a2 (x7_1 ++ [(⟨wrap64 ((wrap64 (x8_1 + 1)) + t502), t504⟩ : S40)]) (wrap64 ((wrap64 (x8_1 + 1)) + t502)) t504 (wrap64 (x10_1 - 1)) s0_0 t505) else (none)) = some (r1, r2) := H
         have A19 := Aside0.mk A190
         clear A190
         by_cases c20 : x7_1.length < 8796093022208
         ·rw [if_pos c20] at H
          have LMc20 := Aside0.mk c20
          clear c20
          obtain ⟨y506, hy506⟩ : ∃ y_ : List (S40), y_ = (x7_1 ++ [(⟨wrap64 ((wrap64 (x8_1 + 1)) + t502), t504⟩ : S40)]) := ⟨_, rfl⟩
          replace H : (spec_l20Script.l0 kj11 a1 a2 y506 (wrap64 ((wrap64 (x8_1 + 1)) + t502)) t504 (wrap64 (x10_1 - 1)) s0_0 t505) = some (r1, r2) := by first | (rw [hy506]; with_reducible exact H) | (have H2_ := (Option.bind_some _ _).symm.trans H; rw [hy506]; with_reducible exact H2_) | (have H2_ := (Option.bind_some _ _).symm.trans H; with_reducible exact H2_) | with_reducible exact H | (rw [hy506]; exact H) | exact H
          have Ny506 := Aside0.mk hy506
          clear hy506
          have H' := Aside0.mk H
          clear H
          go_wp2_with (first | ((with_reducible refine gate_callee (f := 44) rfl ?_); refine goesL_ (some 38) rfl rfl Try.func44 (by kernel_rfl) rfl #[.pointer (some ⟨g, 0, none⟩), .int .i64 4] rfl zA ?_; (with_reducible refine (spec_l20Rd_pick.calls kj11 g s0_0 x1001_11 4 t502 t503 w0 _ ?side1 ?side2 A18.out).mono ?_); (case side1 => exact zI63 HI0.out); (case side2 => exact zE63 HB.out HI0.out); rintro e w21 ⟨rfl, hi, hb, hk⟩; refine ⟨_, rfl, ?_⟩; have n0_ := Aside0.mk (Kd.R_mono (Kd.R_keep (IsS63.apart (show IsS63 w0 _ g s0_0 x1001_11 from zI63 HI0.out) (zR HO_7.out) (by decide)) hk (fun _ h => h.2)) (fun _ h => h.1)); have n1_ := Aside0.mk (KeepBut.trans (zK HK.out) hk (.inl rfl)); have n2_ := Aside0.mk (hb); have n3_ := Aside0.mk (hi); clear HO_7; clear HK; clear HB; clear HI0; have HO_7 := n0_; have HK := n1_; have HB := n2_; have HI0 := n3_; clear n0_ n1_ n2_ n3_; (try clear hb); (try clear hb2); (try clear hk); (try clear hi)) | ((with_reducible refine gate_callee (f := 44) rfl ?_); refine goesL_ (some 42) rfl rfl Try.func44 (by kernel_rfl) rfl #[.pointer (some ⟨g, 0, none⟩), .int .i64 a1] rfl zA ?_; (with_reducible refine (spec_l20Rd_pick.calls kj11 g s0_0 t503 a1 t504 t505 w0 _ ?side1 ?side2 A19.out).mono ?_); (case side1 => exact zI63 HI0.out); (case side2 => exact zE63 HB.out HI0.out); rintro e w22 ⟨rfl, hi, hb, hk⟩; refine ⟨_, rfl, ?_⟩; have n0_ := Aside0.mk (Kd.R_mono (Kd.R_keep (IsS63.apart (show IsS63 w0 _ g s0_0 t503 from zI63 HI0.out) (zR HO_7.out) (by decide)) hk (fun _ h => h.2)) (fun _ h => h.1)); have n1_ := Aside0.mk (KeepBut.trans (zK HK.out) hk (.inl rfl)); have n2_ := Aside0.mk (hb); have n3_ := Aside0.mk (hi); clear HO_7; clear HK; clear HB; clear HI0; have HO_7 := n0_; have HK := n1_; have HB := n2_; have HI0 := n3_; clear n0_ n1_ n2_ n3_; (try clear hb); (try clear hb2); (try clear hk); (try clear hi)) | ((with_reducible refine gate_builtin (b := .append) (xs := #[.tmp 43, .tmp 47]) rfl ?_); at_builtin; refine Kd.R_append k40 w.heap.size rfl (.tmp 43) (.tmp 47) 35 40 (.agg #[(.int .i64 0), (.int .i64 0)]) 16 rfl Try.underlying35 info40 rfl (by decide) (by omega) u7 x7_1 (⟨wrap64 ((wrap64 (x8_1 + 1)) + t502), t504⟩ : S40) [.int .i64 (wrap64 ((wrap64 (x8_1 + 1)) + t502)), .int .i64 t504] (fun _ => True) (fun _ => False) rfl rfl ?aP (fun _ hk => hk.elim) ?aF ?aO (Below.refl _ _) ?aS ?aL ?_; (case aP => exact k40_mkM _ _ _ (⟨wrap64 ((wrap64 (x8_1 + 1)) + t502), t504⟩ : S40)); (case aF => exact (fun _ _ => trivial)); (case aO => exact (zR HO_7.out)); (case aS => exact (keep_size (w := w) (g := g) (row := none) (zK HK.out))); (case aL => have := LMc20.out; omega); intro v507 w23 ho hb hg hat; rw [← Ny506.out] at ho; have n0_ := Aside0.mk (IsS63.grown (zI63 HI0.out) hg (IsS63.own_ne HI0.out HO_7.out (by decide))); have n1_ := Aside0.mk (below_weaken (zE63 HB.out HI0.out) HL.out hb); have n2_ := Aside0.mk (KeepBut.trans (zK HK.out) (KeepBut.of_grown hg g) (Kd.R_base2 HO_7.out)); have n3_ := Aside0.mk (ho); clear HI0; clear HB; clear HK; clear HO_7; have HI0 := n0_; have HB := n1_; have HK := n2_; have HO508 := n3_; clear n0_ n1_ n2_ n3_; clear ho hb hg hat))
          go_roundg kj11
          case measure => have := HK1.out; have := HJ7.out; have := HJ11.out; omega
          case rel => exact ⟨(y506), (wrap64 ((wrap64 (x8_1 + 1)) + t502)), (t504), (wrap64 (x10_1 - 1)), (t505), (by first | rfl | (simp; done) | (simp [*]; done)), (by first | rfl | (simp; done) | (simp [*]; done)), (by first | rfl | (simp; done) | (simp [*]; done)), H', ⟨by have := HK1.out; have := HJ7.out; have := HJ11.out; omega⟩, ⟨by (with_reducible repeat (first | apply Kd.R_alloc | apply Kd.R_drewN | apply Kd.R_drew)); exact HO508.out⟩, ⟨zI63 HI0.out⟩, ⟨zK HK.out⟩, ⟨zE63 HB.out HI0.out⟩⟩
         ·rw [if_neg c20] at H
          exact absurd H (by simp)
        ·replace c17 := Bool.eq_false_iff.mpr c17
         subst c17
         have H1 : (if x7_1.length < 8796093022208 then (spec_l20Script.l0 kj11 a1 a2 (x7_1 ++ [(⟨x8_1, (wrap64 ((wrap64 (x9_1 + 1)) + t498))⟩ : S40)]) x8_1 (wrap64 ((wrap64 (x9_1 + 1)) + t498)) (wrap64 (x10_1 - 1)) s0_0 x1001_11) else (none)) = some (r1, r2) := by rw [if_neg (show ¬ (false = true) by decide)] at H; exact H
         clear H
         have H := H1
         clear H1
         by_cases c24 : x7_1.length < 8796093022208
         ·rw [if_pos c24] at H
          have LMc24 := Aside0.mk c24
          clear c24
          obtain ⟨y509, hy509⟩ : ∃ y_ : List (S40), y_ = (x7_1 ++ [(⟨x8_1, (wrap64 ((wrap64 (x9_1 + 1)) + t498))⟩ : S40)]) := ⟨_, rfl⟩
          replace H : (spec_l20Script.l0 kj11 a1 a2 y509 x8_1 (wrap64 ((wrap64 (x9_1 + 1)) + t498)) (wrap64 (x10_1 - 1)) s0_0 x1001_11) = some (r1, r2) := by first | (rw [hy509]; with_reducible exact H) | (have H2_ := (Option.bind_some _ _).symm.trans H; rw [hy509]; with_reducible exact H2_) | (have H2_ := (Option.bind_some _ _).symm.trans H; with_reducible exact H2_) | with_reducible exact H | (rw [hy509]; exact H) | exact H
          have Ny509 := Aside0.mk hy509
          clear hy509
          have H' := Aside0.mk H
          clear H
          go_wp2_with (first | ((with_reducible refine gate_builtin (b := .append) (xs := #[.tmp 43, .tmp 47]) rfl ?_); at_builtin; refine Kd.R_append k40 w.heap.size rfl (.tmp 43) (.tmp 47) 35 40 (.agg #[(.int .i64 0), (.int .i64 0)]) 16 rfl Try.underlying35 info40 rfl (by decide) (by omega) u7 x7_1 (⟨x8_1, (wrap64 ((wrap64 (x9_1 + 1)) + t498))⟩ : S40) [.int .i64 x8_1, .int .i64 (wrap64 ((wrap64 (x9_1 + 1)) + t498))] (fun _ => True) (fun _ => False) rfl rfl ?aP (fun _ hk => hk.elim) ?aF ?aO (Below.refl _ _) ?aS ?aL ?_; (case aP => exact k40_mkM _ _ _ (⟨x8_1, (wrap64 ((wrap64 (x9_1 + 1)) + t498))⟩ : S40)); (case aF => exact (fun _ _ => trivial)); (case aO => exact (zR HO_7.out)); (case aS => exact (keep_size (w := w) (g := g) (row := none) (zK HK.out))); (case aL => have := LMc24.out; omega); intro v510 w25 ho hb hg hat; rw [← Ny509.out] at ho; have n0_ := Aside0.mk (IsS63.grown (zI63 HI0.out) hg (IsS63.own_ne HI0.out HO_7.out (by decide))); have n1_ := Aside0.mk (below_weaken (zE63 HB.out HI0.out) HL.out hb); have n2_ := Aside0.mk (KeepBut.trans (zK HK.out) (KeepBut.of_grown hg g) (Kd.R_base2 HO_7.out)); have n3_ := Aside0.mk (ho); clear HI0; clear HB; clear HK; clear HO_7; have HI0 := n0_; have HB := n1_; have HK := n2_; have HO511 := n3_; clear n0_ n1_ n2_ n3_; clear ho hb hg hat))
          go_roundg kj11
          case measure => have := HK1.out; have := HJ7.out; have := HJ11.out; omega
          case rel => exact ⟨(y509), (x8_1), ((wrap64 ((wrap64 (x9_1 + 1)) + t498))), (wrap64 (x10_1 - 1)), (x1001_11), (by first | rfl | (simp; done) | (simp [*]; done)), (by first | rfl | (simp; done) | (simp [*]; done)), (by first | rfl | (simp; done) | (simp [*]; done)), H', ⟨by have := HK1.out; have := HJ7.out; have := HJ11.out; omega⟩, ⟨by (with_reducible repeat (first | apply Kd.R_alloc | apply Kd.R_drewN | apply Kd.R_drew)); exact HO511.out⟩, ⟨zI63 HI0.out⟩, ⟨zK HK.out⟩, ⟨zE63 HB.out HI0.out⟩⟩
         ·rw [if_neg c24] at H
          exact absurd H (by simp)
     ·replace c10 := Bool.eq_false_iff.mpr c10
      subst c10
      have H1 : ((spec_l20Rd_odd.f kj7 s0_0 x1001_1 a2).bind fun bt512 => (if bt512.1 = true then ((some (([(⟨(-1), 0⟩ : S40), (⟨60, 0⟩ : S40), (⟨59, 6⟩ : S40)] : List (S40)) : List (S40))).bind fun y514 => ((spec_l20Rd_pick.f kj7 s0_0 bt512.2 3).bind fun bt517 => (if 0 ≤ bt517.1 then (if bt517.1 < (y514.length : Int) then (if x7_1.length < 8796093022208 then (some ((x7_1 ++ [(⟨(rd_T40 y514 bt517.1).f0, (rd_T40 y514 bt517.1).f1⟩ : S40)]), bt517.2)) else (none)) else (none)) else (none)))) else (some (x7_1, bt512.2)))) = some (r1, r2) := by rw [if_neg (show ¬ (false = true) by decide)] at H; exact H
      clear H
      have H := H1
      clear H1
      replace H := Option.bind_eq_some_iff.mp H
      obtain ⟨⟨t512, t513⟩, A260, H⟩ := H
      replace H : (if t512 = true then ((some (([(⟨(-1), 0⟩ : S40), (⟨60, 0⟩ : S40), (⟨59, 6⟩ : S40)] : List (S40)) : List (S40))).bind fun y514 => ((spec_l20Rd_pick.f kj7 s0_0 t513 3).bind fun bt517 => (if 0 ≤ bt517.1 then (if bt517.1 < (y514.length : Int) then (if x7_1.length < 8796093022208 then (some ((x7_1 ++ [(⟨(rd_T40 y514 bt517.1).f0, (rd_T40 y514 bt517.1).f1⟩ : S40)]), bt517.2)) else (none)) else (none)) else (none)))) else (some (x7_1, t513))) = some (r1, r2) := H
      have A26 := Aside0.mk A260
      clear A260
      by_cases c27 : t512 = true
      ·subst c27
       have H1 : ((some (([(⟨(-1), 0⟩ : S40), (⟨60, 0⟩ : S40), (⟨59, 6⟩ : S40)] : List (S40)) : List (S40))).bind fun y514 => ((spec_l20Rd_pick.f kj7 s0_0 t513 3).bind fun bt517 => (if 0 ≤ bt517.1 then (if bt517.1 < (y514.length : Int) then (if x7_1.length < 8796093022208 then (some ((x7_1 ++ [(⟨(rd_T40 y514 bt517.1).f0, (rd_T40 y514 bt517.1).f1⟩ : S40)]), bt517.2)) else (none)) else (none)) else (none)))) = some (r1, r2) := by rw [if_pos rfl] at H; exact H
       clear H
       have H := H1
       clear H1
       obtain ⟨y514, hy514⟩ : ∃ y_ : List (S40), y_ = (([(⟨(-1), 0⟩ : S40), (⟨60, 0⟩ : S40), (⟨59, 6⟩ : S40)] : List (S40))) := ⟨_, rfl⟩
       replace H : ((spec_l20Rd_pick.f kj7 s0_0 t513 3).bind fun bt517 => (if 0 ≤ bt517.1 then (if bt517.1 < (y514.length : Int) then (if x7_1.length < 8796093022208 then (some ((x7_1 ++ [(⟨(rd_T40 y514 bt517.1).f0, (rd_T40 y514 bt517.1).f1⟩ : S40)]), bt517.2)) else (none)) else (none)) else (none))) = some (r1, r2) := by first | (rw [hy514]; with_reducible exact H) | (have H2_ := (Option.bind_some _ _).symm.trans H; rw [hy514]; with_reducible exact H2_) | (have H2_ := (Option.bind_some _ _).symm.trans H; with_reducible exact H2_) | with_reducible exact H | (rw [hy514]; exact H) | exact H
       have Ny514 := Aside0.mk hy514
       clear hy514
       replace H := Option.bind_eq_some_iff.mp H
       obtain ⟨⟨t517, t518⟩, A280, H⟩ := H
       replace H : (if 0 ≤ t517 then (if t517 < (y514.length : Int) then (if x7_1.length < 8796093022208 then (some ((x7_1 ++ [(⟨(rd_T40 y514 t517).f0, (rd_T40 y514 t517).f1⟩ : S40)]), t518)) else (none)) else (none)) else (none)) = some (r1, r2) := H
       have A28 := Aside0.mk A280
       clear A280
       by_cases c29 : 0 ≤ t517
       ·rw [if_pos c29] at H
        have c29b0 : decide (0 ≤ t517) = true := decide_eq_true c29
        clear c29
        by_cases c30 : t517 < (y514.length : Int)
        ·rw [if_pos c30] at H
         have c30b0 : decide (t517 < (y514.length : Int)) = true := decide_eq_true c30
         clear c30
         by_cases c31 : x7_1.length < 8796093022208
         ·rw [if_pos c31] at H
          have LMc31 := Aside0.mk c31
          clear c31
          obtain ⟨y520, hy520⟩ : ∃ y_ : List (S40), y_ = (x7_1 ++ [(⟨(rd_T40 y514 t517).f0, (rd_T40 y514 t517).f1⟩ : S40)]) := ⟨_, rfl⟩
          replace H : (some (y520, t518)) = some (r1, r2) := by first | (rw [hy520]; with_reducible exact H) | (have H2_ := (Option.bind_some _ _).symm.trans H; rw [hy520]; with_reducible exact H2_) | (have H2_ := (Option.bind_some _ _).symm.trans H; with_reducible exact H2_) | with_reducible exact H | (rw [hy520]; exact H) | exact H
          have Ny520 := Aside0.mk hy520
          clear hy520
          simp only [Option.some.injEq, Prod.mk.injEq] at H
          obtain ⟨rfl, rfl⟩ := H
          go_wp2_with (first | ((with_reducible refine gate_callee (f := 50) rfl ?_); refine goesL_ (some 51) rfl rfl Try.func50 (by kernel_rfl) rfl #[.pointer (some ⟨g, 0, none⟩), .int .i64 a2] rfl zA ?_; (with_reducible refine (spec_l20Rd_odd.calls kj7 g s0_0 x1001_1 a2 true t513 w0 _ ?side1 ?side2 A26.out).mono ?_); (case side1 => exact zI63 HI0.out); (case side2 => exact zE63 HB.out HI0.out); rintro e w32 ⟨rfl, hi, hb, hk⟩; refine ⟨_, rfl, ?_⟩; have n0_ := Aside0.mk (Kd.R_mono (Kd.R_keep (IsS63.apart (show IsS63 w0 _ g s0_0 x1001_1 from zI63 HI0.out) (zR HO_7.out) (by decide)) hk (fun _ h => h.2)) (fun _ h => h.1)); have n1_ := Aside0.mk (KeepBut.trans (zK HK.out) hk (.inl rfl)); have n2_ := Aside0.mk (hb); have n3_ := Aside0.mk (hi); clear HO_7; clear HK; clear HB; clear HI0; have HO_7 := n0_; have HK := n1_; have HB := n2_; have HI0 := n3_; clear n0_ n1_ n2_ n3_; (try clear hb); (try clear hb2); (try clear hk); (try clear hi)) | ((with_reducible refine gate_dst (N := 56) rfl ?_); refine Kd.R_lit k40 _ 40 ?hg (N := 56) ?hd (xs := ([(⟨(-1), 0⟩ : S40), (⟨60, 0⟩ : S40), (⟨59, 6⟩ : S40)] : List (S40))) (inner := [.int .i64 (-1), .int .i64 0, .int .i64 60, .int .i64 0, .int .i64 59, .int .i64 6]) (ok := fun _ => True) (okp := fun _ => True) ?hr ?hp (fun _ hk => hk) trivial (Below.refl _ _) (Nat.le_refl _) (by simp) ?_; (case hd => rfl); (case hg => rfl); (case hr => first | (go_simp; done) | (go_simp; rfl)); (case hp => exact (Reps.c2 (show Kd.M k40 _ _ _ (⟨(-1), 0⟩ : S40) [.int .i64 (-1), .int .i64 0] from (k40_mkM _ _ _ (⟨(-1), 0⟩ : S40) )) (Reps.c2 (show Kd.M k40 _ _ _ (⟨60, 0⟩ : S40) [.int .i64 60, .int .i64 0] from (k40_mkM _ _ _ (⟨60, 0⟩ : S40) )) (Reps.c2 (show Kd.M k40 _ _ _ (⟨59, 6⟩ : S40) [.int .i64 59, .int .i64 6] from (k40_mkM _ _ _ (⟨59, 6⟩ : S40) )) (Reps.none _ _))))); intro v515 w33 ho34 hb hg_ hnew_; clear hg_ hnew_; (first | rw [← Ny514.out] at ho34 | (simp only [Int.reduceToNat] at ho34; rw [← Ny514.out] at ho34)); have n0_ := Aside0.mk (Kd.R_elder' (zR HO_7.out) (Kd.R_base ho34) hb); have n1_ := Aside0.mk (Kd.R_lower (Kd.R_new' ho34 (Kd.R_lt (zR HO_7.out))) (keep_size (w := w) (g := g) (row := none) (zK HK.out))); have n2_ := Aside0.mk (IsS63.below (zI63 HI0.out) hb); have n3_ := Aside0.mk (KeepBut.trans (zK HK.out) (KeepBut.of_below hb g none) (.inl rfl)); have n4_ := Aside0.mk (below_step (zE63 HB.out HI0.out) hb); clear HO_7; clear HI0; clear HK; clear HB; have HO_7 := n0_; have HO516 := n1_; have HI0 := n2_; have HK := n3_; have HB := n4_; clear n0_ n1_ n2_ n3_ n4_; clear hb ho34) | ((with_reducible refine gate_callee (f := 44) rfl ?_); refine goesL_ (some 58) rfl rfl Try.func44 (by kernel_rfl) rfl #[.pointer (some ⟨g, 0, none⟩), .int .i64 3] rfl zA ?_; (with_reducible refine (spec_l20Rd_pick.calls kj7 g s0_0 t513 3 t517 t518 w0 _ ?side1 ?side2 A28.out).mono ?_); (case side1 => exact zI63 HI0.out); (case side2 => exact zE63 HB.out HI0.out); rintro e w35 ⟨rfl, hi, hb, hk⟩; refine ⟨_, rfl, ?_⟩; have n0_ := Aside0.mk (Kd.R_mono (Kd.R_keep (IsS63.apart (show IsS63 w0 _ g s0_0 t513 from zI63 HI0.out) (zR HO_7.out) (by decide)) hk (fun _ h => h.2)) (fun _ h => h.1)); have n1_ := Aside0.mk (Kd.R_mono (Kd.R_keep (IsS63.apart (show IsS63 w0 _ g s0_0 t513 from zI63 HI0.out) (zR HO516.out) (by decide)) hk (fun _ h => h.2)) (fun _ h => h.1)); have n2_ := Aside0.mk (KeepBut.trans (zK HK.out) hk (.inl rfl)); have n3_ := Aside0.mk (hb); have n4_ := Aside0.mk (hi); clear HO_7; clear HO516; clear HK; clear HB; clear HI0; have HO_7 := n0_; have HO516 := n1_; have HK := n2_; have HB := n3_; have HI0 := n4_; clear n0_ n1_ n2_ n3_ n4_; (try clear hb); (try clear hb2); (try clear hk); (try clear hi); obtain ⟨Ao36, co36, eo36⟩ := Kd.R_slice HO516.out; subst eo36; have p519 : 0 ≤ (t517 : Int) := zD; have q519 : t517 < (y514.length : Int) := zD; obtain ⟨ad519, e519, hx519_0, hx519_1⟩ := at_T40 (Kd.R_reads' HO516.out).2.2 t517 p519 q519; cases e519; replace p519 := eq_true p519; replace q519 := eq_true q519) | ((with_reducible refine gate_builtin (b := .append) (xs := #[.tmp 52, .tmp 61]) rfl ?_); at_builtin; refine Kd.R_append k40 w.heap.size rfl (.tmp 52) (.tmp 61) 35 40 (.agg #[(.int .i64 0), (.int .i64 0)]) 16 rfl Try.underlying35 info40 rfl (by decide) (by omega) u7 x7_1 (⟨(rd_T40 y514 t517).f0, (rd_T40 y514 t517).f1⟩ : S40) [.int .i64 ((rd_T40 y514 t517).f0), .int .i64 ((rd_T40 y514 t517).f1)] (fun k_ => some k_ ≠ (.slice (some ad519) y514.length co36 : Value).ownBlock) (fun _ => False) rfl rfl ?aP (fun _ hk => hk.elim) ?aF ?aO (Below.refl _ _) ?aS ?aL ?_; (case aP => exact k40_mkM _ _ _ (⟨(rd_T40 y514 t517).f0, (rd_T40 y514 t517).f1⟩ : S40)); (case aF => exact (fun k_ hk => Kd.fresh' (Kd.R_lt (zR HO516.out)) k_ hk)); (case aO => exact (by (with_reducible repeat (first | apply Kd.R_alloc | apply Kd.R_drewN | apply Kd.R_drew)); exact Kd.R_mono HO_7.out (fun _ hk => hk.2))); (case aS => exact (keep_size (w := w) (g := g) (row := none) (zK HK.out))); (case aL => have := LMc31.out; omega); intro v521 w37 ho hb hg hat; rw [← Ny520.out] at ho; have n0_ := Aside0.mk (IsS63.grown (zI63 HI0.out) hg (IsS63.own_ne HI0.out HO_7.out (by decide))); have n1_ := Aside0.mk (Kd.R_after (ok := (fun _ => True)) (zR HO516.out) hg hat); have n2_ := Aside0.mk (below_weaken (zE63 HB.out HI0.out) HL.out hb); have n3_ := Aside0.mk (KeepBut.trans (zK HK.out) (KeepBut.of_grown hg g) (Kd.R_base2 HO_7.out)); have n4_ := Aside0.mk (ho); clear HI0; clear HO516; clear HB; clear HK; clear HO_7; have HI0 := n0_; have HO516 := n1_; have HB := n2_; have HK := n3_; have HO522 := n4_; clear n0_ n1_ n2_ n3_ n4_; clear ho hb hg hat))
          go_ret
          exact ⟨_, by first | rfl | (simp [errW_none, errW_some] <;> rfl) | (simp [*, errW_none, errW_some] <;> rfl), by (with_reducible repeat (first | apply Kd.R_alloc | apply Kd.R_drewN | apply Kd.R_drew)); exact Kd.R_mono HO522.out (fun _ hk => trivial), zI63 HI0.out, zE63 HB.out HI0.out, zK HK.out⟩
         ·rw [if_neg c31] at H
          exact absurd H (by simp)
        ·rw [if_neg c30] at H
         exact absurd H (by simp)
       ·rw [if_neg c29] at H
        exact absurd H (by simp)
      ·replace c27 := Bool.eq_false_iff.mpr c27
       subst c27
       have H1 : (some (x7_1, t513)) = some (r1, r2) := by rw [if_neg (show ¬ (false = true) by decide)] at H; exact H
       clear H
       have H := H1
       clear H1
       simp only [Option.some.injEq, Prod.mk.injEq] at H
       obtain ⟨rfl, rfl⟩ := H
       go_wp2_with (first | ((with_reducible refine gate_callee (f := 50) rfl ?_); refine goesL_ (some 51) rfl rfl Try.func50 (by kernel_rfl) rfl #[.pointer (some ⟨g, 0, none⟩), .int .i64 a2] rfl zA ?_; (with_reducible refine (spec_l20Rd_odd.calls kj7 g s0_0 x1001_1 a2 false t513 w0 _ ?side1 ?side2 A26.out).mono ?_); (case side1 => exact zI63 HI0.out); (case side2 => exact zE63 HB.out HI0.out); rintro e w38 ⟨rfl, hi, hb, hk⟩; refine ⟨_, rfl, ?_⟩; have n0_ := Aside0.mk (Kd.R_mono (Kd.R_keep (IsS63.apart (show IsS63 w0 _ g s0_0 x1001_1 from zI63 HI0.out) (zR HO_7.out) (by decide)) hk (fun _ h => h.2)) (fun _ h => h.1)); have n1_ := Aside0.mk (KeepBut.trans (zK HK.out) hk (.inl rfl)); have n2_ := Aside0.mk (hb); have n3_ := Aside0.mk (hi); clear HO_7; clear HK; clear HB; clear HI0; have HO_7 := n0_; have HK := n1_; have HB := n2_; have HI0 := n3_; clear n0_ n1_ n2_ n3_; (try clear hb); (try clear hb2); (try clear hk); (try clear hi)))
       go_ret
       exact ⟨_, by first | rfl | (simp [errW_none, errW_some] <;> rfl) | (simp [*, errW_none, errW_some] <;> rfl), by (with_reducible repeat (first | apply Kd.R_alloc | apply Kd.R_drewN | apply Kd.R_drew)); exact HO_7.out, zI63 HI0.out, zE63 HB.out HI0.out, zK HK.out⟩

/-! ### spec_l20Played: function 38 -/
def spec_l20Played.f (k : Nat) (s0_0 : List Int) (s0_1 : Int) : Option (List Int × Int × List Int × (List (S40)) × Int × Int) := (spec_l20Fire.f k s0_0 s0_1 20).bind fun bt523 => ((spec_l20Script.f k s0_0 bt523.2.2.2 (bt523.1.length : Int) 20).bind fun bt531 => ((spec_l20Rd_pick.f k s0_0 bt531.2 20).bind fun bt535 => ((spec_l20Rd_pick.f k s0_0 bt535.2 40).bind fun bt537 => (some (bt523.1, bt523.2.1, bt523.2.2.1, bt531.1, wrap64 (bt535.1 + (wrap64 ((wrap64 (Int.tdiv bt537.1 39)) * 60))), bt537.2)))))
theorem spec_l20Played.mono : ∀ a0 a1 k, LeO (spec_l20Played.f k a0 a1) (spec_l20Played.f (k + 1) a0 a1) := by
 intro a0 a1 k
 unfold spec_l20Played.f
 repeat' first
   | (with_reducible exact spec_l20Fire.mono _ _ _ _)
   | (with_reducible exact spec_l20Rd_pick.mono _ _ _ _)
   | (with_reducible exact spec_l20Script.mono _ _ _ _ _)
   | (with_reducible exact LeO.refl _)
   | (with_reducible exact LeO.none _)
   | (with_reducible refine LeO.ite ?_ ?_)
   | (with_reducible refine LeO.bind ?_ (fun _ => ?_))
   | exact spec_l20Fire.mono _ _ _ _
   | exact spec_l20Rd_pick.mono _ _ _ _
   | exact spec_l20Script.mono _ _ _ _ _
   | exact LeO.none _
   | refine LeO.ite ?_ ?_
   | refine LeO.bind ?_ (fun _ => ?_)
set_option maxHeartbeats 8000000 in
set_option maxRecDepth 100000 in
theorem spec_l20Played.calls (k : Nat) (g : Nat) (s0_0 : List Int) (s0_1 : Int) (r1 : List Int) (r2 : Int) (r3 : List Int) (r4 : List (S40)) (r5 : Int) (r6 : Int) (w0 w : World) (hI : IsS63 w0 w g s0_0 s0_1) (hB : Below w0.heap.size w0 w) (h : spec_l20Played.f k s0_0 s0_1 = some (r1, r2, r3, r4, r5, r6)) :
  Calls Try.prog 38 #[.pointer (some ⟨g, 0, none⟩)] w fun e w' => ∃ v0_ v2_ v3_ : Value, e = .returned (.tuple #[v0_, .int .i64 r2, v2_, v3_, .int .i64 r5]) ∧ Kd.R (Kd.int .i64) 3 w' w.heap.size (fun k_ => some k_ ≠ (v2_ : Value).ownBlock) v0_ r1 ∧ Kd.R (Kd.int .i64) 3 w' w.heap.size (fun k_ => some k_ ≠ (v0_ : Value).ownBlock) v2_ r3 ∧ Kd.R k40 40 w' w.heap.size (fun _ => True) v3_ r4 ∧ IsS63 w0 w' g s0_0 r6 ∧ Below w0.heap.size w0 w' ∧ KeepBut w w' g none := by
 have HI0 := Aside0.mk hI
 have HK := Aside0.mk (KeepBut.refl w g none)
 have HL := Aside0.mk hB.size
 clear hI
 have HW0 := Aside0.mk hB.size
 have HB := Aside0.mk hB
 clear hB
 have H : ((spec_l20Fire.f k s0_0 s0_1 20).bind fun bt523 => ((spec_l20Script.f k s0_0 bt523.2.2.2 (bt523.1.length : Int) 20).bind fun bt531 => ((spec_l20Rd_pick.f k s0_0 bt531.2 20).bind fun bt535 => ((spec_l20Rd_pick.f k s0_0 bt535.2 40).bind fun bt537 => (some (bt523.1, bt523.2.1, bt523.2.2.1, bt531.1, wrap64 (bt535.1 + (wrap64 ((wrap64 (Int.tdiv bt537.1 39)) * 60))), bt537.2)))))) = some (r1, r2, r3, r4, r5, r6) := h
 clear h
 replace H := Option.bind_eq_some_iff.mp H
 obtain ⟨⟨t523, t526, t527, t530⟩, A20, H⟩ := H
 replace H : ((spec_l20Script.f k s0_0 t530 (t523.length : Int) 20).bind fun bt531 => ((spec_l20Rd_pick.f k s0_0 bt531.2 20).bind fun bt535 => ((spec_l20Rd_pick.f k s0_0 bt535.2 40).bind fun bt537 => (some (t523, t526, t527, bt531.1, wrap64 (bt535.1 + (wrap64 ((wrap64 (Int.tdiv bt537.1 39)) * 60))), bt537.2))))) = some (r1, r2, r3, r4, r5, r6) := H
 have A2 := Aside0.mk A20
 clear A20
 replace H := Option.bind_eq_some_iff.mp H
 obtain ⟨⟨t531, t534⟩, A30, H⟩ := H
 replace H : ((spec_l20Rd_pick.f k s0_0 t534 20).bind fun bt535 => ((spec_l20Rd_pick.f k s0_0 bt535.2 40).bind fun bt537 => (some (t523, t526, t527, t531, wrap64 (bt535.1 + (wrap64 ((wrap64 (Int.tdiv bt537.1 39)) * 60))), bt537.2)))) = some (r1, r2, r3, r4, r5, r6) := H
 have A3 := Aside0.mk A30
 clear A30
 replace H := Option.bind_eq_some_iff.mp H
 obtain ⟨⟨t535, t536⟩, A40, H⟩ := H
 replace H : ((spec_l20Rd_pick.f k s0_0 t536 40).bind fun bt537 => (some (t523, t526, t527, t531, wrap64 (t535 + (wrap64 ((wrap64 (Int.tdiv bt537.1 39)) * 60))), bt537.2))) = some (r1, r2, r3, r4, r5, r6) := H
 have A4 := Aside0.mk A40
 clear A40
 replace H := Option.bind_eq_some_iff.mp H
 obtain ⟨⟨t537, t538⟩, A50, H⟩ := H
 replace H : (some (t523, t526, t527, t531, wrap64 (t535 + (wrap64 ((wrap64 (Int.tdiv t537 39)) * 60))), t538)) = some (r1, r2, r3, r4, r5, r6) := H
 have A5 := Aside0.mk A50
 clear A50
 simp only [Option.some.injEq, Prod.mk.injEq] at H
 obtain ⟨rfl, rfl, rfl, rfl, rfl, rfl⟩ := H
 go_enter Try.func38, Try.ntmps38
 go_wp2_with (first | ((with_reducible refine gate_callee (f := 43) rfl ?_); refine goesL_ (some 12) rfl rfl Try.func43 (by kernel_rfl) rfl #[.pointer (some ⟨g, 0, none⟩), .int .i64 20] rfl zA ?_; (with_reducible refine (spec_l20Fire.calls k g s0_0 s0_1 20 t523 t526 t527 t530 w0 _ ?side1 ?side2 A2.out).mono ?_); (case side1 => exact zI63 HI0.out); (case side2 => exact zE63 HB.out HI0.out); rintro e w6 ⟨v524, v528, rfl, ho0, ho1, hi, hb, hk⟩; refine ⟨_, rfl, ?_⟩; have n0_ := Aside0.mk (Kd.R_lower ho0 (keep_size (w := w) (g := g) (row := none) (zK HK.out))); have n1_ := Aside0.mk (Kd.R_lower ho1 (keep_size (w := w) (g := g) (row := none) (zK HK.out))); have n2_ := Aside0.mk (KeepBut.trans (zK HK.out) hk (.inl rfl)); have n3_ := Aside0.mk (hb); have n4_ := Aside0.mk (hi); clear HK; clear HB; clear HI0; have HO525 := n0_; have HO529 := n1_; have HK := n2_; have HB := n3_; have HI0 := n4_; clear n0_ n1_ n2_ n3_ n4_; (try clear hb); (try clear hb2); (try clear hk); (try clear hi); (try clear ho0); (try clear ho1); obtain ⟨Ao7, co7, eo7⟩ := Kd.R_slice HO525.out; subst eo7) | ((with_reducible refine gate_callee (f := 47) rfl ?_); refine goesL_ (some 22) rfl rfl Try.func47 (by kernel_rfl) rfl #[.pointer (some ⟨g, 0, none⟩), .int .i64 (t523.length : Int), .int .i64 20] rfl zA ?_; (with_reducible refine (spec_l20Script.calls k g s0_0 t530 (t523.length : Int) 20 t531 t534 w0 _ ?side1 ?side2 A3.out).mono ?_); (case side1 => exact zI63 HI0.out); (case side2 => exact zE63 HB.out HI0.out); rintro e w8 ⟨v532, rfl, ho0, hi, hb, hk⟩; refine ⟨_, rfl, ?_⟩; have n0_ := Aside0.mk (Kd.R_mono (Kd.R_keep (IsS63.apart (show IsS63 w0 _ g s0_0 t530 from zI63 HI0.out) (zR HO525.out) (by decide)) hk (fun _ h => h.2)) (fun _ h => h.1)); have n1_ := Aside0.mk (Kd.R_mono (Kd.R_keep (IsS63.apart (show IsS63 w0 _ g s0_0 t530 from zI63 HI0.out) (zR HO529.out) (by decide)) hk (fun _ h => h.2)) (fun _ h => h.1)); have n2_ := Aside0.mk (Kd.R_lower ho0 (keep_size (w := w) (g := g) (row := none) (zK HK.out))); have n3_ := Aside0.mk (KeepBut.trans (zK HK.out) hk (.inl rfl)); have n4_ := Aside0.mk (hb); have n5_ := Aside0.mk (hi); clear HO525; clear HO529; clear HK; clear HB; clear HI0; have HO525 := n0_; have HO529 := n1_; have HO533 := n2_; have HK := n3_; have HB := n4_; have HI0 := n5_; clear n0_ n1_ n2_ n3_ n4_ n5_; (try clear hb); (try clear hb2); (try clear hk); (try clear hi); (try clear ho0)) | ((with_reducible refine gate_callee (f := 44) rfl ?_); refine goesL_ (some 24) rfl rfl Try.func44 (by kernel_rfl) rfl #[.pointer (some ⟨g, 0, none⟩), .int .i64 20] rfl zA ?_; (with_reducible refine (spec_l20Rd_pick.calls k g s0_0 t534 20 t535 t536 w0 _ ?side1 ?side2 A4.out).mono ?_); (case side1 => exact zI63 HI0.out); (case side2 => exact zE63 HB.out HI0.out); rintro e w9 ⟨rfl, hi, hb, hk⟩; refine ⟨_, rfl, ?_⟩; have n0_ := Aside0.mk (Kd.R_mono (Kd.R_keep (IsS63.apart (show IsS63 w0 _ g s0_0 t534 from zI63 HI0.out) (zR HO525.out) (by decide)) hk (fun _ h => h.2)) (fun _ h => h.1)); have n1_ := Aside0.mk (Kd.R_mono (Kd.R_keep (IsS63.apart (show IsS63 w0 _ g s0_0 t534 from zI63 HI0.out) (zR HO529.out) (by decide)) hk (fun _ h => h.2)) (fun _ h => h.1)); have n2_ := Aside0.mk (Kd.R_mono (Kd.R_keep (IsS63.apart (show IsS63 w0 _ g s0_0 t534 from zI63 HI0.out) (zR HO533.out) (by decide)) hk (fun _ h => h.2)) (fun _ h => h.1)); have n3_ := Aside0.mk (KeepBut.trans (zK HK.out) hk (.inl rfl)); have n4_ := Aside0.mk (hb); have n5_ := Aside0.mk (hi); clear HO525; clear HO529; clear HO533; clear HK; clear HB; clear HI0; have HO525 := n0_; have HO529 := n1_; have HO533 := n2_; have HK := n3_; have HB := n4_; have HI0 := n5_; clear n0_ n1_ n2_ n3_ n4_ n5_; (try clear hb); (try clear hb2); (try clear hk); (try clear hi)) | ((with_reducible refine gate_callee (f := 44) rfl ?_); refine goesL_ (some 26) rfl rfl Try.func44 (by kernel_rfl) rfl #[.pointer (some ⟨g, 0, none⟩), .int .i64 40] rfl zA ?_; (with_reducible refine (spec_l20Rd_pick.calls k g s0_0 t536 40 t537 t538 w0 _ ?side1 ?side2 A5.out).mono ?_); (case side1 => exact zI63 HI0.out); (case side2 => exact zE63 HB.out HI0.out); rintro e w10 ⟨rfl, hi, hb, hk⟩; refine ⟨_, rfl, ?_⟩; have n0_ := Aside0.mk (Kd.R_mono (Kd.R_keep (IsS63.apart (show IsS63 w0 _ g s0_0 t536 from zI63 HI0.out) (zR HO525.out) (by decide)) hk (fun _ h => h.2)) (fun _ h => h.1)); have n1_ := Aside0.mk (Kd.R_mono (Kd.R_keep (IsS63.apart (show IsS63 w0 _ g s0_0 t536 from zI63 HI0.out) (zR HO529.out) (by decide)) hk (fun _ h => h.2)) (fun _ h => h.1)); have n2_ := Aside0.mk (Kd.R_mono (Kd.R_keep (IsS63.apart (show IsS63 w0 _ g s0_0 t536 from zI63 HI0.out) (zR HO533.out) (by decide)) hk (fun _ h => h.2)) (fun _ h => h.1)); have n3_ := Aside0.mk (KeepBut.trans (zK HK.out) hk (.inl rfl)); have n4_ := Aside0.mk (hb); have n5_ := Aside0.mk (hi); clear HO525; clear HO529; clear HO533; clear HK; clear HB; clear HI0; have HO525 := n0_; have HO529 := n1_; have HO533 := n2_; have HK := n3_; have HB := n4_; have HI0 := n5_; clear n0_ n1_ n2_ n3_ n4_ n5_; (try clear hb); (try clear hb2); (try clear hk); (try clear hi)))
 refine bodyPost_ret (results_list (rs := [.tmp 2, .tmp 3, .tmp 4, .tmp 5, .tmp 6]) rfl (by simp) (.tmp (.tmp (.tmp (.tmp (.tmp .nil)))))) rfl ?_
 exact ⟨_, _, _, by first | rfl | (simp [errW_none, errW_some] <;> rfl) | (simp [*, errW_none, errW_some] <;> rfl), by (with_reducible repeat (first | apply Kd.R_alloc | apply Kd.R_drewN | apply Kd.R_drew)); exact HO525.out, by (with_reducible repeat (first | apply Kd.R_alloc | apply Kd.R_drewN | apply Kd.R_drew)); exact HO529.out, by (with_reducible repeat (first | apply Kd.R_alloc | apply Kd.R_drewN | apply Kd.R_drew)); exact HO533.out, zI63 HI0.out, zE63 HB.out HI0.out, zK HK.out⟩

/-! ### spec_ScriptOk: function 41 -/
mutual
def spec_ScriptOk.l0 : Nat → Int → List (S40) → Int → Option (Bool)
 | 0, _, _, _ => none
 | k + 1, x0, x1, x5 => if x5 < (x1.length : Int) then (if 0 ≤ x5 then ((spec_l1In.f ((rd_T40 x1 x5).f0) 0 59).bind fun t564 => (if t564 = true then (if ((rd_T40 x1 x5).f1) < 0 then (spec_ScriptOk.j1 k x0 x1 x5 true) else (spec_ScriptOk.j1 k x0 x1 x5 (decide (((rd_T40 x1 x5).f1) ≥ x0)))) else (spec_ScriptOk.j1 k x0 x1 x5 true))) else (none)) else ((spec_l1In.f x0 1 6).bind fun t562 => (if t562 = true then (some (decide ((x1.length : Int) ≤ 8))) else (some false)))
def spec_ScriptOk.j1 : Nat → Int → List (S40) → Int → Bool → Option (Bool)
 | 0, _, _, _, _ => none
 | k + 1, x0, x1, x5, x35 => if x35 = true then (some false) else (if x5 > 0 then (if 0 ≤ x5 then (if x5 < (x1.length : Int) then (if 0 ≤ (wrap64 (x5 - 1)) then (if (wrap64 (x5 - 1)) < (x1.length : Int) then (if ((rd_T40 x1 x5).f0) < ((rd_T40 x1 (wrap64 (x5 - 1))).f0) then (some false) else (if ((rd_T40 x1 x5).f0) = ((rd_T40 x1 (wrap64 (x5 - 1))).f0) then (if ((rd_T40 x1 x5).f1) ≤ ((rd_T40 x1 (wrap64 (x5 - 1))).f1) then (some false) else (spec_ScriptOk.l0 k x0 x1 (wrap64 (x5 + 1)))) else (spec_ScriptOk.l0 k x0 x1 (wrap64 (x5 + 1))))) else (none)) else (none)) else (none)) else (none)) else (spec_ScriptOk.l0 k x0 x1 (wrap64 (x5 + 1))))
end
def spec_ScriptOk.f (k : Nat) (a0 : Int) (l1 : List (S40)) : Option (Bool) := spec_ScriptOk.l0 k a0 l1 0
theorem spec_ScriptOk.mono_l : ∀ k, (∀ y0 y1 y2, LeO (spec_ScriptOk.l0 k y0 y1 y2) (spec_ScriptOk.l0 (k + 1) y0 y1 y2)) ∧ (∀ y0 y1 y2 y3, LeO (spec_ScriptOk.j1 k y0 y1 y2 y3) (spec_ScriptOk.j1 (k + 1) y0 y1 y2 y3))
 | 0 => ⟨fun _ _ _ r h => by simp [spec_ScriptOk.l0] at h, fun _ _ _ _ r h => by simp [spec_ScriptOk.j1] at h⟩
 | k + 1 => by
  obtain ⟨ih0, ih1⟩ := spec_ScriptOk.mono_l k
  refine ⟨?_, ?_⟩
  ·intro y0 y1 y2
   unfold spec_ScriptOk.l0
   repeat' first
   | (with_reducible exact ih0 _ _ _)
   | (with_reducible exact ih1 _ _ _ _)
   | (with_reducible exact LeO.refl _)
   | (with_reducible exact LeO.none _)
   | (with_reducible refine LeO.ite ?_ ?_)
   | (with_reducible refine LeO.bind ?_ (fun _ => ?_))
   | exact ih0 _ _ _
   | exact ih1 _ _ _ _
   | exact LeO.none _
   | refine LeO.ite ?_ ?_
   | refine LeO.bind ?_ (fun _ => ?_)
  ·intro y0 y1 y2 y3
   unfold spec_ScriptOk.j1
   repeat' first
   | (with_reducible exact ih0 _ _ _)
   | (with_reducible exact ih1 _ _ _ _)
   | (with_reducible exact LeO.refl _)
   | (with_reducible exact LeO.none _)
   | (with_reducible refine LeO.ite ?_ ?_)
   | (with_reducible refine LeO.bind ?_ (fun _ => ?_))
   | exact ih0 _ _ _
   | exact ih1 _ _ _ _
   | exact LeO.none _
   | refine LeO.ite ?_ ?_
   | refine LeO.bind ?_ (fun _ => ?_)
theorem spec_ScriptOk.mono : ∀ a0 a1 k, LeO (spec_ScriptOk.f k a0 a1) (spec_ScriptOk.f (k + 1) a0 a1) := by
 intro a0 a1 k
 obtain ⟨ih0, ih1⟩ := spec_ScriptOk.mono_l k
 unfold spec_ScriptOk.f
 repeat' first
   | (with_reducible exact ih0 _ _ _)
   | (with_reducible exact ih1 _ _ _ _)
   | (with_reducible exact LeO.refl _)
   | (with_reducible exact LeO.none _)
   | (with_reducible refine LeO.ite ?_ ?_)
   | (with_reducible refine LeO.bind ?_ (fun _ => ?_))
   | exact ih0 _ _ _
   | exact ih1 _ _ _ _
   | exact LeO.none _
   | refine LeO.ite ?_ ?_
   | refine LeO.bind ?_ (fun _ => ?_)
set_option maxHeartbeats 8000000 in
set_option maxRecDepth 100000 in
theorem spec_ScriptOk.calls (k : Nat) (a0 : Int) (A1 : Option Addr) (c1 : Nat) (l1 : List (S40)) (r : Bool) (w : World) (hr1 : Kd.C k40 w A1 l1.length l1) (hc1 : l1.length ≤ c1) (h : spec_ScriptOk.f k a0 l1 = some r) :
  Calls Try.prog 41 #[.int .i64 a0, .slice A1 l1.length c1] w fun e w' => e = .returned (.bool r) ∧ Drawn0 w w' := by
 have HR1 := Aside0.mk hr1
 have HC1 := Aside0.mk hc1
 clear hr1 hc1
 have H : (spec_ScriptOk.l0 k a0 l1 0) = some r := h
 clear h
 have H' := Aside0.mk H
 clear H
 go_enter Try.func41, Try.ntmps41
 go_wp2
 repeat (go_quiet (fail); try go_wp2)
 go_loopg [5] k (fun kq v5 w' => ∃ (x5_1 : Int), v5 = .int .i64 x5_1 ∧ Aside0 (spec_ScriptOk.l0 kq a0 l1 x5_1 = some r) ∧ Aside0 (kq ≤ k) ∧ Drawn0 w w')
 case atStart => exact ⟨(0), (by first | rfl | (simp; done) | (simp [*]; done)), H', ⟨Nat.le_refl _⟩, by repeat (first | exact Drawn0.refl _ | apply Drawn0.step)⟩
 case round =>
  clear H'
  try clear c1
  try clear p2
  obtain ⟨x5_1, rfl, HA, HK1, ⟨m1, rfl⟩⟩ := hrel
  cases gk with
  | zero => exact absurd HA.out (by simp [spec_ScriptOk.l0])
  | succ k1 =>
   have H := HA.out
   clear HA
   simp only [spec_ScriptOk.l0] at H
   by_cases c3 : x5_1 < (l1.length : Int)
   ·rw [if_pos c3] at H
    have c3b0 : decide (x5_1 < (l1.length : Int)) = true := decide_eq_true c3
    clear c3
    have HC4 := Aside0.mk H
    clear H
    go_upto_region 4 with (fail)
    repeat (go_quiet (fail); go_upto_region 4 with (fail))
    go_cut [35] (fun v35 wc => ∃ (kq : Nat) (x35_3 : Bool), v35 = .bool x35_3 ∧ Aside0 (spec_ScriptOk.j1 kq a0 l1 x5_1 x35_3 = some r) ∧ Aside0 (kq ≤ k1) ∧ Drawn0 w wc)
    case first =>
     have H := HC4.out
     clear HC4
     by_cases c5 : 0 ≤ x5_1
     ·rw [if_pos c5] at H
      have c5b0 : decide (0 ≤ x5_1) = true := decide_eq_true c5
      clear c5
      (first | rw [c5b0] | (simp only [i64_w, i32_w]; rw [c5b0]) | skip)
      replace H := Option.bind_eq_some_iff.mp H
      obtain ⟨t564, A60, H⟩ := H
      replace H : (if t564 = true then (if ((rd_T40 l1 x5_1).f1) < 0 then (spec_ScriptOk.j1 k1 a0 l1 x5_1 true) else (spec_ScriptOk.j1 k1 a0 l1 x5_1 (decide (((rd_T40 l1 x5_1).f1) ≥ a0)))) else (spec_ScriptOk.j1 k1 a0 l1 x5_1 true)) = some r := H
      have A6 := Aside0.mk A60
      clear A60
      by_cases c7 : t564 = true
      ·subst c7
       have H1 : (if ((rd_T40 l1 x5_1).f1) < 0 then (spec_ScriptOk.j1 k1 a0 l1 x5_1 true) else (spec_ScriptOk.j1 k1 a0 l1 x5_1 (decide (((rd_T40 l1 x5_1).f1) ≥ a0)))) = some r := by rw [if_pos rfl] at H; exact H
       clear H
       have H := H1
       clear H1
       by_cases c8 : ((rd_T40 l1 x5_1).f1) < 0
       ·rw [if_pos c8] at H
        have c8b0 : decide (((rd_T40 l1 x5_1).f1) < 0) = true := decide_eq_true c8
        clear c8
        have H' := Aside0.mk H
        clear H
        have p563 : 0 ≤ (x5_1 : Int) := zD
        have q563 : x5_1 < (l1.length : Int) := zD
        obtain ⟨ad563, e563, hx563_0, hx563_1⟩ := at_T40 HR1.out x5_1 p563 q563
        cases e563
        replace p563 := eq_true p563
        replace q563 := eq_true q563
        go_wp2_with (first | (go_at_call 27; (with_reducible refine (spec_l1In.calls ((rd_T40 l1 x5_1).f0) 0 59 true _ A6.out).mono ?_); rintro e w' ⟨rfl, ⟨nd, rfl⟩⟩; (try first | exact ⟨rfl, _, World.drewN_drewN _ _ _⟩ | exact ⟨rfl, _, Eq.trans (World.drewN_drewN _ _ _) (congrArg (World.drewN _) (Nat.add_assoc _ _ _))⟩); have p565 : 0 ≤ (x5_1 : Int) := zD; have q565 : x5_1 < (l1.length : Int) := zD; obtain ⟨ad565, e565, hx565_0, hx565_1⟩ := at_T40 HR1.out x5_1 p565 q565; obtain rfl : ad563 = ad565 := (by injection e565); replace p565 := eq_true p565; replace q565 := eq_true q565))
        repeat (go_quiet (first | (go_at_call 27; (with_reducible refine (spec_l1In.calls ((rd_T40 l1 x5_1).f0) 0 59 true _ A6.out).mono ?_); rintro e w' ⟨rfl, ⟨nd, rfl⟩⟩; (try first | exact ⟨rfl, _, World.drewN_drewN _ _ _⟩ | exact ⟨rfl, _, Eq.trans (World.drewN_drewN _ _ _) (congrArg (World.drewN _) (Nat.add_assoc _ _ _))⟩); have p565 : 0 ≤ (x5_1 : Int) := zD; have q565 : x5_1 < (l1.length : Int) := zD; obtain ⟨ad565, e565, hx565_0, hx565_1⟩ := at_T40 HR1.out x5_1 p565 q565; obtain rfl : ad563 = ad565 := (by injection e565); replace p565 := eq_true p565; replace q565 := eq_true q565)); try go_wp2_with (first | (go_at_call 27; (with_reducible refine (spec_l1In.calls ((rd_T40 l1 x5_1).f0) 0 59 true _ A6.out).mono ?_); rintro e w' ⟨rfl, ⟨nd, rfl⟩⟩; (try first | exact ⟨rfl, _, World.drewN_drewN _ _ _⟩ | exact ⟨rfl, _, Eq.trans (World.drewN_drewN _ _ _) (congrArg (World.drewN _) (Nat.add_assoc _ _ _))⟩); have p565 : 0 ≤ (x5_1 : Int) := zD; have q565 : x5_1 < (l1.length : Int) := zD; obtain ⟨ad565, e565, hx565_0, hx565_1⟩ := at_T40 HR1.out x5_1 p565 q565; obtain rfl : ad563 = ad565 := (by injection e565); replace p565 := eq_true p565; replace q565 := eq_true q565)))
        go_meet
        case rel => exact ⟨_, (true), (by first | rfl | (simp; done) | (simp [*]; done)), H', ⟨by have := HK1.out; first | omega | exact Nat.le_refl _⟩, by repeat (first | exact Drawn0.refl _ | apply Drawn0.step)⟩
       ·rw [if_neg c8] at H
        have c8b0 : decide (((rd_T40 l1 x5_1).f1) < 0) = false := decide_eq_false c8
        clear c8
        have H' := Aside0.mk H
        clear H
        have p563 : 0 ≤ (x5_1 : Int) := zD
        have q563 : x5_1 < (l1.length : Int) := zD
        obtain ⟨ad563, e563, hx563_0, hx563_1⟩ := at_T40 HR1.out x5_1 p563 q563
        cases e563
        replace p563 := eq_true p563
        replace q563 := eq_true q563
        go_wp2_with (first | (go_at_call 27; (with_reducible refine (spec_l1In.calls ((rd_T40 l1 x5_1).f0) 0 59 true _ A6.out).mono ?_); rintro e w' ⟨rfl, ⟨nd, rfl⟩⟩; (try first | exact ⟨rfl, _, World.drewN_drewN _ _ _⟩ | exact ⟨rfl, _, Eq.trans (World.drewN_drewN _ _ _) (congrArg (World.drewN _) (Nat.add_assoc _ _ _))⟩); have p565 : 0 ≤ (x5_1 : Int) := zD; have q565 : x5_1 < (l1.length : Int) := zD; obtain ⟨ad565, e565, hx565_0, hx565_1⟩ := at_T40 HR1.out x5_1 p565 q565; obtain rfl : ad563 = ad565 := (by injection e565); replace p565 := eq_true p565; replace q565 := eq_true q565; have p566 : 0 ≤ (x5_1 : Int) := zD; have q566 : x5_1 < (l1.length : Int) := zD; obtain ⟨ad566, e566, hx566_0, hx566_1⟩ := at_T40 HR1.out x5_1 p566 q566; obtain rfl : ad563 = ad566 := (by injection e566); replace p566 := eq_true p566; replace q566 := eq_true q566))
        repeat (go_quiet (first | (go_at_call 27; (with_reducible refine (spec_l1In.calls ((rd_T40 l1 x5_1).f0) 0 59 true _ A6.out).mono ?_); rintro e w' ⟨rfl, ⟨nd, rfl⟩⟩; (try first | exact ⟨rfl, _, World.drewN_drewN _ _ _⟩ | exact ⟨rfl, _, Eq.trans (World.drewN_drewN _ _ _) (congrArg (World.drewN _) (Nat.add_assoc _ _ _))⟩); have p565 : 0 ≤ (x5_1 : Int) := zD; have q565 : x5_1 < (l1.length : Int) := zD; obtain ⟨ad565, e565, hx565_0, hx565_1⟩ := at_T40 HR1.out x5_1 p565 q565; obtain rfl : ad563 = ad565 := (by injection e565); replace p565 := eq_true p565; replace q565 := eq_true q565; have p566 : 0 ≤ (x5_1 : Int) := zD; have q566 : x5_1 < (l1.length : Int) := zD; obtain ⟨ad566, e566, hx566_0, hx566_1⟩ := at_T40 HR1.out x5_1 p566 q566; obtain rfl : ad563 = ad566 := (by injection e566); replace p566 := eq_true p566; replace q566 := eq_true q566)); try go_wp2_with (first | (go_at_call 27; (with_reducible refine (spec_l1In.calls ((rd_T40 l1 x5_1).f0) 0 59 true _ A6.out).mono ?_); rintro e w' ⟨rfl, ⟨nd, rfl⟩⟩; (try first | exact ⟨rfl, _, World.drewN_drewN _ _ _⟩ | exact ⟨rfl, _, Eq.trans (World.drewN_drewN _ _ _) (congrArg (World.drewN _) (Nat.add_assoc _ _ _))⟩); have p565 : 0 ≤ (x5_1 : Int) := zD; have q565 : x5_1 < (l1.length : Int) := zD; obtain ⟨ad565, e565, hx565_0, hx565_1⟩ := at_T40 HR1.out x5_1 p565 q565; obtain rfl : ad563 = ad565 := (by injection e565); replace p565 := eq_true p565; replace q565 := eq_true q565; have p566 : 0 ≤ (x5_1 : Int) := zD; have q566 : x5_1 < (l1.length : Int) := zD; obtain ⟨ad566, e566, hx566_0, hx566_1⟩ := at_T40 HR1.out x5_1 p566 q566; obtain rfl : ad563 = ad566 := (by injection e566); replace p566 := eq_true p566; replace q566 := eq_true q566)))
        go_meet
        case rel => exact ⟨_, (decide (((rd_T40 l1 x5_1).f1) ≥ a0)), (by first | rfl | (simp; done) | (simp [*]; done)), H', ⟨by have := HK1.out; first | omega | exact Nat.le_refl _⟩, by repeat (first | exact Drawn0.refl _ | apply Drawn0.step)⟩
      ·replace c7 := Bool.eq_false_iff.mpr c7
       subst c7
       have H1 : (spec_ScriptOk.j1 k1 a0 l1 x5_1 true) = some r := by rw [if_neg (show ¬ (false = true) by decide)] at H; exact H
       clear H
       have H := H1
       clear H1
       have H' := Aside0.mk H
       clear H
       have p563 : 0 ≤ (x5_1 : Int) := zD
       have q563 : x5_1 < (l1.length : Int) := zD
       obtain ⟨ad563, e563, hx563_0, hx563_1⟩ := at_T40 HR1.out x5_1 p563 q563
       cases e563
       replace p563 := eq_true p563
       replace q563 := eq_true q563
       go_wp2_with (first | (go_at_call 27; (with_reducible refine (spec_l1In.calls ((rd_T40 l1 x5_1).f0) 0 59 false _ A6.out).mono ?_); rintro e w' ⟨rfl, ⟨nd, rfl⟩⟩; (try first | exact ⟨rfl, _, World.drewN_drewN _ _ _⟩ | exact ⟨rfl, _, Eq.trans (World.drewN_drewN _ _ _) (congrArg (World.drewN _) (Nat.add_assoc _ _ _))⟩)))
       repeat (go_quiet (first | (go_at_call 27; (with_reducible refine (spec_l1In.calls ((rd_T40 l1 x5_1).f0) 0 59 false _ A6.out).mono ?_); rintro e w' ⟨rfl, ⟨nd, rfl⟩⟩; (try first | exact ⟨rfl, _, World.drewN_drewN _ _ _⟩ | exact ⟨rfl, _, Eq.trans (World.drewN_drewN _ _ _) (congrArg (World.drewN _) (Nat.add_assoc _ _ _))⟩))); try go_wp2_with (first | (go_at_call 27; (with_reducible refine (spec_l1In.calls ((rd_T40 l1 x5_1).f0) 0 59 false _ A6.out).mono ?_); rintro e w' ⟨rfl, ⟨nd, rfl⟩⟩; (try first | exact ⟨rfl, _, World.drewN_drewN _ _ _⟩ | exact ⟨rfl, _, Eq.trans (World.drewN_drewN _ _ _) (congrArg (World.drewN _) (Nat.add_assoc _ _ _))⟩))))
       go_meet
       case rel => exact ⟨_, (true), (by first | rfl | (simp; done) | (simp [*]; done)), H', ⟨by have := HK1.out; first | omega | exact Nat.le_refl _⟩, by repeat (first | exact Drawn0.refl _ | apply Drawn0.step)⟩
     ·rw [if_neg c5] at H
      exact absurd H (by simp)
    case rest =>
     clear HC4
     try clear c1
     try clear p2
     try clear c3
     try clear c3b0
     try clear c4
     try clear c5
     try clear c5b0
     try clear p5
     try clear q5
     try clear hx5
     try clear c7
     try clear c8
     try clear c8b0
     try clear hx563_0
     try clear hx563_1
     try clear hx565_0
     try clear hx565_1
     try clear hx566_0
     try clear hx566_1
     try clear p2
     try clear p563
     try clear p565
     try clear p566
     try clear q563
     try clear q565
     try clear q566
     obtain ⟨kq, x35_3, rfl, HA, HJ3, ⟨mc3, rfl⟩⟩ := hcut
     cases kq with
     | zero => exact absurd HA.out (by simp [spec_ScriptOk.j1])
     | succ kj3 =>
      have H := HA.out
      clear HA
      simp only [spec_ScriptOk.j1] at H
      by_cases c9 : x35_3 = true
      ·subst c9
       have H1 : (some false) = some r := by rw [if_pos rfl] at H; exact H
       clear H
       have H := H1
       clear H1
       obtain rfl := Option.some.inj H
       go_wp2
       repeat (go_quiet (fail); try go_wp2)
       go_ret
       exact ⟨by first | rfl | (simp; done) | (simp [*]; done), by repeat (first | exact Drawn0.refl _ | apply Drawn0.step)⟩
      ·replace c9 := Bool.eq_false_iff.mpr c9
       subst c9
       have H1 : (if x5_1 > 0 then (if 0 ≤ x5_1 then (if x5_1 < (l1.length : Int) then (if 0 ≤ (wrap64 (x5_1 - 1)) then (if (wrap64 (x5_1 - 1)) < (l1.length : Int) then (if ((rd_T40 l1 x5_1).f0) < ((rd_T40 l1 (wrap64 (x5_1 - 1))).f0) then (some false) else (if ((rd_T40 l1 x5_1).f0) = ((rd_T40 l1 (wrap64 (x5_1 - 1))).f0) then (if ((rd_T40 l1 x5_1).f1) ≤ ((rd_T40 l1 (wrap64 (x5_1 - 1))).f1) then (some false) else (spec_ScriptOk.l0 kj3 a0 l1 (wrap64 (x5_1 + 1)))) else (spec_ScriptOk.l0 kj3 a0 l1 (wrap64 (x5_1 + 1))))) else (none)) else (none)) else (none)) else (none)) else (spec_ScriptOk.l0 kj3 a0 l1 (wrap64 (x5_1 + 1)))) = some r := by rw [if_neg (show ¬ (false = true) by decide)] at H; exact H
       clear H
       have H := H1
       clear H1
       by_cases c10 : x5_1 > 0
       ·rw [if_pos c10] at H
        have c10b0 : decide (0 < x5_1) = true := decide_eq_true c10
        clear c10
        by_cases c11 : 0 ≤ x5_1
        ·rw [if_pos c11] at H
         have c11b0 : decide (0 ≤ x5_1) = true := decide_eq_true c11
         clear c11
         by_cases c12 : x5_1 < (l1.length : Int)
         ·rw [if_pos c12] at H
          have c12b0 : decide (x5_1 < (l1.length : Int)) = true := decide_eq_true c12
          clear c12
          obtain ⟨ji13, hji13⟩ : ∃ j_ : Int, (wrap64 (x5_1 - 1)) = j_ := ⟨_, rfl⟩
          replace H : (if 0 ≤ (ji13) then (if (ji13) < (l1.length : Int) then (if ((rd_T40 l1 x5_1).f0) < ((rd_T40 l1 (ji13)).f0) then (some false) else (if ((rd_T40 l1 x5_1).f0) = ((rd_T40 l1 (ji13)).f0) then (if ((rd_T40 l1 x5_1).f1) ≤ ((rd_T40 l1 (ji13)).f1) then (some false) else (spec_ScriptOk.l0 kj3 a0 l1 (wrap64 (x5_1 + 1)))) else (spec_ScriptOk.l0 kj3 a0 l1 (wrap64 (x5_1 + 1))))) else (none)) else (none)) = some r := by first | (rw [hji13] at H; exact H) | (simp only [hji13] at H ⊢; exact H)
          have hji13w : (IntKind.i64.wrap (x5_1 - 1)) = ji13 := (i64_w _).trans hji13
          by_cases c14 : 0 ≤ (ji13)
          ·rw [if_pos c14] at H
           have c14b0 : decide (0 ≤ (ji13)) = true := decide_eq_true c14
           clear c14
           by_cases c15 : (ji13) < (l1.length : Int)
           ·rw [if_pos c15] at H
            have c15b0 : decide ((ji13) < (l1.length : Int)) = true := decide_eq_true c15
            clear c15
            by_cases c16 : ((rd_T40 l1 x5_1).f0) < ((rd_T40 l1 (ji13)).f0)
            ·rw [if_pos c16] at H
             have c16b0 : decide (((rd_T40 l1 x5_1).f0) < ((rd_T40 l1 (ji13)).f0)) = true := decide_eq_true c16
             clear c16
             obtain rfl := Option.some.inj H
             have p567 : 0 ≤ (x5_1 : Int) := zD
             have q567 : x5_1 < (l1.length : Int) := zD
             obtain ⟨ad567, e567, hx567_0, hx567_1⟩ := at_T40 HR1.out x5_1 p567 q567
             cases e567
             replace p567 := eq_true p567
             replace q567 := eq_true q567
             have p568 : 0 ≤ ((ji13) : Int) := zD
             have q568 : (ji13) < (l1.length : Int) := zD
             obtain ⟨ad568, e568, hx568_0, hx568_1⟩ := at_T40 HR1.out (ji13) p568 q568
             obtain rfl : ad567 = ad568 := (by injection e568)
             replace p568 := eq_true p568
             replace q568 := eq_true q568
             go_wp2
             repeat (go_quiet (fail); try go_wp2)
             go_ret
             exact ⟨by first | rfl | (simp; done) | (simp only [← hji13] <;> (first | rfl | simp)) | (simp [*]; done), by repeat (first | exact Drawn0.refl _ | apply Drawn0.step)⟩
            ·rw [if_neg c16] at H
             have c16b0 : decide (((rd_T40 l1 x5_1).f0) < ((rd_T40 l1 (ji13)).f0)) = false := decide_eq_false c16
             clear c16
             by_cases c17 : ((rd_T40 l1 x5_1).f0) = ((rd_T40 l1 (ji13)).f0)
             ·rw [if_pos c17] at H
              have c17b0 : (((rd_T40 l1 x5_1).f0) == ((rd_T40 l1 (ji13)).f0)) = true := beq_iff_eq.mpr c17
              have c17b1 : (((rd_T40 l1 x5_1).f0) != ((rd_T40 l1 (ji13)).f0)) = false := bne_eq_false_iff_eq.mpr c17
              clear c17
              by_cases c18 : ((rd_T40 l1 x5_1).f1) ≤ ((rd_T40 l1 (ji13)).f1)
              ·rw [if_pos c18] at H
               have c18b0 : decide (((rd_T40 l1 x5_1).f1) ≤ ((rd_T40 l1 (ji13)).f1)) = true := decide_eq_true c18
               clear c18
               obtain rfl := Option.some.inj H
               have p567 : 0 ≤ (x5_1 : Int) := zD
               have q567 : x5_1 < (l1.length : Int) := zD
               obtain ⟨ad567, e567, hx567_0, hx567_1⟩ := at_T40 HR1.out x5_1 p567 q567
               cases e567
               replace p567 := eq_true p567
               replace q567 := eq_true q567
               have p568 : 0 ≤ ((ji13) : Int) := zD
               have q568 : (ji13) < (l1.length : Int) := zD
               obtain ⟨ad568, e568, hx568_0, hx568_1⟩ := at_T40 HR1.out (ji13) p568 q568
               obtain rfl : ad567 = ad568 := (by injection e568)
               replace p568 := eq_true p568
               replace q568 := eq_true q568
               have p569 : 0 ≤ (x5_1 : Int) := zD
               have q569 : x5_1 < (l1.length : Int) := zD
               obtain ⟨ad569, e569, hx569_0, hx569_1⟩ := at_T40 HR1.out x5_1 p569 q569
               obtain rfl : ad567 = ad569 := (by injection e569)
               replace p569 := eq_true p569
               replace q569 := eq_true q569
               have p570 : 0 ≤ ((ji13) : Int) := zD
               have q570 : (ji13) < (l1.length : Int) := zD
               obtain ⟨ad570, e570, hx570_0, hx570_1⟩ := at_T40 HR1.out (ji13) p570 q570
               obtain rfl : ad567 = ad570 := (by injection e570)
               replace p570 := eq_true p570
               replace q570 := eq_true q570
               have p571 : 0 ≤ (x5_1 : Int) := zD
               have q571 : x5_1 < (l1.length : Int) := zD
               obtain ⟨ad571, e571, hx571_0, hx571_1⟩ := at_T40 HR1.out x5_1 p571 q571
               obtain rfl : ad567 = ad571 := (by injection e571)
               replace p571 := eq_true p571
               replace q571 := eq_true q571
               have p572 : 0 ≤ ((ji13) : Int) := zD
               have q572 : (ji13) < (l1.length : Int) := zD
               obtain ⟨ad572, e572, hx572_0, hx572_1⟩ := at_T40 HR1.out (ji13) p572 q572
               obtain rfl : ad567 = ad572 := (by injection e572)
               replace p572 := eq_true p572
               replace q572 := eq_true q572
               go_wp2
               repeat (go_quiet (fail); try go_wp2)
               go_ret
               exact ⟨by first | rfl | (simp; done) | (simp only [← hji13] <;> (first | rfl | simp)) | (simp [*]; done), by repeat (first | exact Drawn0.refl _ | apply Drawn0.step)⟩
              ·rw [if_neg c18] at H
               have c18b0 : decide (((rd_T40 l1 x5_1).f1) ≤ ((rd_T40 l1 (ji13)).f1)) = false := decide_eq_false c18
               clear c18
               have H' := Aside0.mk H
               clear H
               have p567 : 0 ≤ (x5_1 : Int) := zD
               have q567 : x5_1 < (l1.length : Int) := zD
               obtain ⟨ad567, e567, hx567_0, hx567_1⟩ := at_T40 HR1.out x5_1 p567 q567
               cases e567
               replace p567 := eq_true p567
               replace q567 := eq_true q567
               have p568 : 0 ≤ ((ji13) : Int) := zD
               have q568 : (ji13) < (l1.length : Int) := zD
               obtain ⟨ad568, e568, hx568_0, hx568_1⟩ := at_T40 HR1.out (ji13) p568 q568
               obtain rfl : ad567 = ad568 := (by injection e568)
               replace p568 := eq_true p568
               replace q568 := eq_true q568
               have p569 : 0 ≤ (x5_1 : Int) := zD
               have q569 : x5_1 < (l1.length : Int) := zD
               obtain ⟨ad569, e569, hx569_0, hx569_1⟩ := at_T40 HR1.out x5_1 p569 q569
               obtain rfl : ad567 = ad569 := (by injection e569)
               replace p569 := eq_true p569
               replace q569 := eq_true q569
               have p570 : 0 ≤ ((ji13) : Int) := zD
               have q570 : (ji13) < (l1.length : Int) := zD
               obtain ⟨ad570, e570, hx570_0, hx570_1⟩ := at_T40 HR1.out (ji13) p570 q570
               obtain rfl : ad567 = ad570 := (by injection e570)
               replace p570 := eq_true p570
               replace q570 := eq_true q570
               have p571 : 0 ≤ (x5_1 : Int) := zD
               have q571 : x5_1 < (l1.length : Int) := zD
               obtain ⟨ad571, e571, hx571_0, hx571_1⟩ := at_T40 HR1.out x5_1 p571 q571
               obtain rfl : ad567 = ad571 := (by injection e571)
               replace p571 := eq_true p571
               replace q571 := eq_true q571
               have p572 : 0 ≤ ((ji13) : Int) := zD
               have q572 : (ji13) < (l1.length : Int) := zD
               obtain ⟨ad572, e572, hx572_0, hx572_1⟩ := at_T40 HR1.out (ji13) p572 q572
               obtain rfl : ad567 = ad572 := (by injection e572)
               replace p572 := eq_true p572
               replace q572 := eq_true q572
               go_wp2
               repeat (go_quiet (fail); try go_wp2)
               go_roundg kj3
               case measure => have := HK1.out; have := HJ3.out; omega
               case rel => exact ⟨(wrap64 (x5_1 + 1)), (by first | rfl | (simp; done) | (simp [*]; done)), H', ⟨by have := HK1.out; have := HJ3.out; omega⟩, by repeat (first | exact Drawn0.refl _ | apply Drawn0.step)⟩
             ·rw [if_neg c17] at H
              have c17b0 : (((rd_T40 l1 x5_1).f0) == ((rd_T40 l1 (ji13)).f0)) = false := beq_eq_false_iff_ne.mpr c17
              have c17b1 : (((rd_T40 l1 x5_1).f0) != ((rd_T40 l1 (ji13)).f0)) = true := bne_iff_ne.mpr c17
              have H' := Aside0.mk H
              clear H
              have p567 : 0 ≤ (x5_1 : Int) := zD
              have q567 : x5_1 < (l1.length : Int) := zD
              obtain ⟨ad567, e567, hx567_0, hx567_1⟩ := at_T40 HR1.out x5_1 p567 q567
              cases e567
              replace p567 := eq_true p567
              replace q567 := eq_true q567
              have p568 : 0 ≤ ((ji13) : Int) := zD
              have q568 : (ji13) < (l1.length : Int) := zD
              obtain ⟨ad568, e568, hx568_0, hx568_1⟩ := at_T40 HR1.out (ji13) p568 q568
              obtain rfl : ad567 = ad568 := (by injection e568)
              replace p568 := eq_true p568
              replace q568 := eq_true q568
              have p569 : 0 ≤ (x5_1 : Int) := zD
              have q569 : x5_1 < (l1.length : Int) := zD
              obtain ⟨ad569, e569, hx569_0, hx569_1⟩ := at_T40 HR1.out x5_1 p569 q569
              obtain rfl : ad567 = ad569 := (by injection e569)
              replace p569 := eq_true p569
              replace q569 := eq_true q569
              have p570 : 0 ≤ ((ji13) : Int) := zD
              have q570 : (ji13) < (l1.length : Int) := zD
              obtain ⟨ad570, e570, hx570_0, hx570_1⟩ := at_T40 HR1.out (ji13) p570 q570
              obtain rfl : ad567 = ad570 := (by injection e570)
              replace p570 := eq_true p570
              replace q570 := eq_true q570
              go_wp2
              repeat (go_quiet (fail); try go_wp2)
              go_roundg kj3
              case measure => have := HK1.out; have := HJ3.out; omega
              case rel => exact ⟨(wrap64 (x5_1 + 1)), (by first | rfl | (simp; done) | (simp [*]; done)), H', ⟨by have := HK1.out; have := HJ3.out; omega⟩, by repeat (first | exact Drawn0.refl _ | apply Drawn0.step)⟩
           ·rw [if_neg c15] at H
            exact absurd H (by simp)
          ·rw [if_neg c14] at H
           exact absurd H (by simp)
         ·rw [if_neg c12] at H
          exact absurd H (by simp)
        ·rw [if_neg c11] at H
         exact absurd H (by simp)
       ·rw [if_neg c10] at H
        have c10b0 : decide (0 < x5_1) = false := decide_eq_false c10
        clear c10
        have H' := Aside0.mk H
        clear H
        go_wp2
        repeat (go_quiet (fail); try go_wp2)
        go_roundg kj3
        case measure => have := HK1.out; have := HJ3.out; omega
        case rel => exact ⟨(wrap64 (x5_1 + 1)), (by first | rfl | (simp; done) | (simp [*]; done)), H', ⟨by have := HK1.out; have := HJ3.out; omega⟩, by repeat (first | exact Drawn0.refl _ | apply Drawn0.step)⟩
   ·rw [if_neg c3] at H
    have c3b0 : decide (x5_1 < (l1.length : Int)) = false := decide_eq_false c3
    clear c3
    replace H := Option.bind_eq_some_iff.mp H
    obtain ⟨t562, A190, H⟩ := H
    replace H : (if t562 = true then (some (decide ((l1.length : Int) ≤ 8))) else (some false)) = some r := H
    have A19 := Aside0.mk A190
    clear A190
    by_cases c20 : t562 = true
    ·subst c20
     have H1 : (some (decide ((l1.length : Int) ≤ 8))) = some r := by rw [if_pos rfl] at H; exact H
     clear H
     have H := H1
     clear H1
     obtain rfl := Option.some.inj H
     go_wp2_with (first | (go_at_call 27; (with_reducible refine (spec_l1In.calls a0 1 6 true _ A19.out).mono ?_); rintro e w' ⟨rfl, ⟨nd, rfl⟩⟩; (try first | exact ⟨rfl, _, World.drewN_drewN _ _ _⟩ | exact ⟨rfl, _, Eq.trans (World.drewN_drewN _ _ _) (congrArg (World.drewN _) (Nat.add_assoc _ _ _))⟩)))
     repeat (go_quiet (first | (go_at_call 27; (with_reducible refine (spec_l1In.calls a0 1 6 true _ A19.out).mono ?_); rintro e w' ⟨rfl, ⟨nd, rfl⟩⟩; (try first | exact ⟨rfl, _, World.drewN_drewN _ _ _⟩ | exact ⟨rfl, _, Eq.trans (World.drewN_drewN _ _ _) (congrArg (World.drewN _) (Nat.add_assoc _ _ _))⟩))); try go_wp2_with (first | (go_at_call 27; (with_reducible refine (spec_l1In.calls a0 1 6 true _ A19.out).mono ?_); rintro e w' ⟨rfl, ⟨nd, rfl⟩⟩; (try first | exact ⟨rfl, _, World.drewN_drewN _ _ _⟩ | exact ⟨rfl, _, Eq.trans (World.drewN_drewN _ _ _) (congrArg (World.drewN _) (Nat.add_assoc _ _ _))⟩))))
     go_ret
     exact ⟨by first | rfl | (simp; done) | (simp [*]; done), by repeat (first | exact Drawn0.refl _ | apply Drawn0.step)⟩
    ·replace c20 := Bool.eq_false_iff.mpr c20
     subst c20
     have H1 : (some false) = some r := by rw [if_neg (show ¬ (false = true) by decide)] at H; exact H
     clear H
     have H := H1
     clear H1
     obtain rfl := Option.some.inj H
     go_wp2_with (first | (go_at_call 27; (with_reducible refine (spec_l1In.calls a0 1 6 false _ A19.out).mono ?_); rintro e w' ⟨rfl, ⟨nd, rfl⟩⟩; (try first | exact ⟨rfl, _, World.drewN_drewN _ _ _⟩ | exact ⟨rfl, _, Eq.trans (World.drewN_drewN _ _ _) (congrArg (World.drewN _) (Nat.add_assoc _ _ _))⟩)))
     repeat (go_quiet (first | (go_at_call 27; (with_reducible refine (spec_l1In.calls a0 1 6 false _ A19.out).mono ?_); rintro e w' ⟨rfl, ⟨nd, rfl⟩⟩; (try first | exact ⟨rfl, _, World.drewN_drewN _ _ _⟩ | exact ⟨rfl, _, Eq.trans (World.drewN_drewN _ _ _) (congrArg (World.drewN _) (Nat.add_assoc _ _ _))⟩))); try go_wp2_with (first | (go_at_call 27; (with_reducible refine (spec_l1In.calls a0 1 6 false _ A19.out).mono ?_); rintro e w' ⟨rfl, ⟨nd, rfl⟩⟩; (try first | exact ⟨rfl, _, World.drewN_drewN _ _ _⟩ | exact ⟨rfl, _, Eq.trans (World.drewN_drewN _ _ _) (congrArg (World.drewN _) (Nat.add_assoc _ _ _))⟩))))
     go_ret
     exact ⟨by first | rfl | (simp; done) | (simp [*]; done), by repeat (first | exact Drawn0.refl _ | apply Drawn0.step)⟩

/-! ### spec_l10Lit: function 42 -/
def spec_l10Lit.l0 : Nat → List (S40) → Int → List Int → Int → Option (List Int)
 | 0, _, _, _, _ => none
 | k + 1, x1, x2, x7, x8 => if x8 < (x1.length : Int) then (if 0 ≤ x8 then (if ((rd_T40 x1 x8).f0) = x2 then (if 0 ≤ ((rd_T40 x1 x8).f1) then (if ((rd_T40 x1 x8).f1) < (x7.length : Int) then (if (rd x7 ((rd_T40 x1 x8).f1)) = 0 then (spec_l10Lit.l0 k x1 x2 (x7.set (((rd_T40 x1 x8).f1) : Int).toNat 1) (wrap64 (x8 + 1))) else (spec_l10Lit.l0 k x1 x2 x7 (wrap64 (x8 + 1)))) else (none)) else (none)) else (spec_l10Lit.l0 k x1 x2 x7 (wrap64 (x8 + 1)))) else (none)) else (some x7)
def spec_l10Lit.f (k : Nat) (l0 : List Int) (l1 : List (S40)) (a2 : Int) : Option (List Int) := (some (([] : List Int) : List Int)).bind fun y573 => (if y573.length + l0.length < 17592186044416 then (spec_l10Lit.l0 k l1 a2 (y573 ++ l0) 0) else (none))
theorem spec_l10Lit.mono_l : ∀ k, (∀ y0 y1 y2 y3, LeO (spec_l10Lit.l0 k y0 y1 y2 y3) (spec_l10Lit.l0 (k + 1) y0 y1 y2 y3))
 | 0 => fun _ _ _ _ r h => by simp [spec_l10Lit.l0] at h
 | k + 1 => by
  have ih0 := spec_l10Lit.mono_l k
  ·intro y0 y1 y2 y3
   unfold spec_l10Lit.l0
   repeat' first
   | (with_reducible exact ih0 _ _ _ _)
   | (with_reducible exact LeO.refl _)
   | (with_reducible exact LeO.none _)
   | (with_reducible refine LeO.ite ?_ ?_)
   | (with_reducible refine LeO.bind ?_ (fun _ => ?_))
   | exact ih0 _ _ _ _
   | exact LeO.none _
   | refine LeO.ite ?_ ?_
   | refine LeO.bind ?_ (fun _ => ?_)
theorem spec_l10Lit.mono : ∀ a0 a1 a2 k, LeO (spec_l10Lit.f k a0 a1 a2) (spec_l10Lit.f (k + 1) a0 a1 a2) := by
 intro a0 a1 a2 k
 have ih0 := spec_l10Lit.mono_l k
 unfold spec_l10Lit.f
 repeat' first
   | (with_reducible exact ih0 _ _ _ _)
   | (with_reducible exact LeO.refl _)
   | (with_reducible exact LeO.none _)
   | (with_reducible refine LeO.ite ?_ ?_)
   | (with_reducible refine LeO.bind ?_ (fun _ => ?_))
   | exact ih0 _ _ _ _
   | exact LeO.none _
   | refine LeO.ite ?_ ?_
   | refine LeO.bind ?_ (fun _ => ?_)
set_option maxHeartbeats 8000000 in
set_option maxRecDepth 100000 in
theorem spec_l10Lit.calls (k : Nat) (A0 : Option Addr) (c0 : Nat) (l0 : List Int) (A1 : Option Addr) (c1 : Nat) (l1 : List (S40)) (a2 : Int) (r : List Int) (w : World) (hr0 : Kd.C (Kd.int .i64) w A0 l0.length l0) (hc0 : l0.length ≤ c0) (hr1 : Kd.C k40 w A1 l1.length l1) (hc1 : l1.length ≤ c1) (h : spec_l10Lit.f k l0 l1 a2 = some r) :
  Calls Try.prog 42 #[.slice A0 l0.length c0, .slice A1 l1.length c1, .int .i64 a2] w fun e w' => ∃ v0_ : Value, e = .returned (v0_) ∧ Kd.R (Kd.int .i64) 3 w' w.heap.size (fun _ => True) v0_ r ∧ Below w.heap.size w w' := by
 have HR0 := Aside0.mk hr0
 have HC0 := Aside0.mk hc0
 clear hr0 hc0
 have HR1 := Aside0.mk hr1
 have HC1 := Aside0.mk hc1
 clear hr1 hc1
 have HB := Aside0.mk (Below.refl w.heap.size w)
 have H : ((some (([] : List Int) : List Int)).bind fun y573 => (if y573.length + l0.length < 17592186044416 then (spec_l10Lit.l0 k l1 a2 (y573 ++ l0) 0) else (none))) = some r := h
 clear h
 obtain ⟨y573, hy573⟩ : ∃ y_ : List Int, y_ = (([] : List Int)) := ⟨_, rfl⟩
 replace H : (if y573.length + l0.length < 17592186044416 then (spec_l10Lit.l0 k l1 a2 (y573 ++ l0) 0) else (none)) = some r := by first | (rw [hy573]; with_reducible exact H) | (have H2_ := (Option.bind_some _ _).symm.trans H; rw [hy573]; with_reducible exact H2_) | (have H2_ := (Option.bind_some _ _).symm.trans H; with_reducible exact H2_) | with_reducible exact H | (rw [hy573]; exact H) | exact H
 have Ny573 := Aside0.mk hy573
 clear hy573
 by_cases c4 : y573.length + l0.length < 17592186044416
 ·rw [if_pos c4] at H
  have LMc4 := Aside0.mk c4
  clear c4
  obtain ⟨y576, hy576⟩ : ∃ y_ : List Int, y_ = (y573 ++ l0) := ⟨_, rfl⟩
  replace H : (spec_l10Lit.l0 k l1 a2 y576 0) = some r := by first | (rw [hy576]; with_reducible exact H) | (have H2_ := (Option.bind_some _ _).symm.trans H; rw [hy576]; with_reducible exact H2_) | (have H2_ := (Option.bind_some _ _).symm.trans H; with_reducible exact H2_) | with_reducible exact H | (rw [hy576]; exact H) | exact H
  have Ny576 := Aside0.mk hy576
  clear hy576
  have H' := Aside0.mk H
  clear H
  go_enter Try.func42, Try.ntmps42
  go_wp2_with (first | ((with_reducible refine gate_dst (N := 9) rfl ?_); refine Kd.R_lit (Kd.int .i64) _ 3 ?hg (N := 9) ?hd (xs := ([] : List Int)) (inner := []) (ok := fun _ => True) (okp := fun _ => True) ?hr ?hp (fun _ hk => hk) trivial (Below.refl _ _) (Nat.le_refl _) (by simp) ?_; (case hd => rfl); (case hg => rfl); (case hr => first | (go_simp; done) | (go_simp; rfl)); (case hp => exact (Reps.none _ _)); intro v574 w5 ho6 hb hg_ hnew_; clear hg_ hnew_; (first | rw [← Ny573.out] at ho6 | (simp only [Int.reduceToNat] at ho6; rw [← Ny573.out] at ho6)); have n0_ := Aside0.mk (Kd.R_lower ho6 (below_size (zB HB.out))); have n1_ := Aside0.mk (below_step (zB HB.out) hb); clear HB; have HO575 := n0_; have HB := n1_; clear n0_ n1_; clear hb ho6) | ((with_reducible refine gate_builtin (b := .append) (xs := #[.tmp 9, .tmp 10]) rfl ?_); at_builtin; refine Kd.R_append_rows (Kd.int .i64) (w0 := w) w.heap.size rfl (.tmp 9) (.tmp 10) 23 3 (.int .i64 0) 8 rfl Try.underlying23 info3 rfl (by decide) (by omega) v574 y573 l0 _ _ _ (fun _ => True) (fun _ => False) rfl rfl ?aO ?aR (fun _ _ h => h) (fun _ h => h.elim) ?aF ?aB ?aS ?aL ?_; (case aR => exact zC (Kd.C_below HR0.out HB.out)); (case aB => exact (zB HB.out)); (case aF => exact (fun _ _ => trivial)); (case aO => exact (zR HO575.out)); (case aS => exact (below_size (zB HB.out))); (case aL => have := LMc4.out; omega); intro v577 w7 ho hb hg hat; rw [← Ny576.out] at ho; have n0_ := Aside0.mk (hb); have n1_ := Aside0.mk (ho); clear HB; clear HO575; have HB := n0_; have HO578 := n1_; clear n0_ n1_; clear ho hb hg hat))
  go_loopg [8] k (fun kq v8 w' => ∃ (x7_1 : List Int) (x8_1 : Int), v8 = .int .i64 x8_1 ∧ Aside0 (spec_l10Lit.l0 kq l1 a2 x7_1 x8_1 = some r) ∧ Aside0 (kq ≤ k) ∧ Aside0 (Kd.R (Kd.int .i64) 3 w' w.heap.size (fun _ => True) v577 x7_1) ∧ Aside0 (Below w.heap.size w w'))
  case atStart => exact ⟨(y576), (0), (by first | rfl | (simp; done) | (simp [*]; done)), H', ⟨Nat.le_refl _⟩, ⟨by (with_reducible repeat (first | apply Kd.R_alloc | apply Kd.R_drewN | apply Kd.R_drew)); exact HO578.out⟩, ⟨zB HB.out⟩⟩
  case round =>
   clear H'
   try clear c1
   try clear p2
   try clear c4
   obtain ⟨x7_1, x8_1, rfl, HA, HK1, HO_7, HB⟩ := hrel
   cases gk with
   | zero => exact absurd HA.out (by simp [spec_l10Lit.l0])
   | succ k1 =>
    have H := HA.out
    clear HA
    simp only [spec_l10Lit.l0] at H
    by_cases c8 : x8_1 < (l1.length : Int)
    ·rw [if_pos c8] at H
     have c8b0 : decide (x8_1 < (l1.length : Int)) = true := decide_eq_true c8
     clear c8
     by_cases c9 : 0 ≤ x8_1
     ·rw [if_pos c9] at H
      have c9b0 : decide (0 ≤ x8_1) = true := decide_eq_true c9
      clear c9
      by_cases c10 : ((rd_T40 l1 x8_1).f0) = a2
      ·rw [if_pos c10] at H
       have c10b0 : (((rd_T40 l1 x8_1).f0) == a2) = true := beq_iff_eq.mpr c10
       have c10b1 : (((rd_T40 l1 x8_1).f0) != a2) = false := bne_eq_false_iff_eq.mpr c10
       clear c10
       by_cases c11 : 0 ≤ ((rd_T40 l1 x8_1).f1)
       ·rw [if_pos c11] at H
        have c11b0 : decide (0 ≤ ((rd_T40 l1 x8_1).f1)) = true := decide_eq_true c11
        clear c11
        by_cases c12 : ((rd_T40 l1 x8_1).f1) < (x7_1.length : Int)
        ·rw [if_pos c12] at H
         have c12b0 : decide (((rd_T40 l1 x8_1).f1) < (x7_1.length : Int)) = true := decide_eq_true c12
         clear c12
         by_cases c13 : (rd x7_1 ((rd_T40 l1 x8_1).f1)) = 0
         ·rw [if_pos c13] at H
          have c13b0 : ((rd x7_1 ((rd_T40 l1 x8_1).f1)) == 0) = true := beq_iff_eq.mpr c13
          have c13b1 : ((rd x7_1 ((rd_T40 l1 x8_1).f1)) != 0) = false := bne_eq_false_iff_eq.mpr c13
          clear c13
          obtain ⟨y583, hy583⟩ : ∃ y_ : List Int, y_ = (x7_1.set (((rd_T40 l1 x8_1).f1) : Int).toNat 1) := ⟨_, rfl⟩
          replace H : (spec_l10Lit.l0 k1 l1 a2 y583 (wrap64 (x8_1 + 1))) = some r := by first | (rw [hy583]; with_reducible exact H) | (have H2_ := (Option.bind_some _ _).symm.trans H; rw [hy583]; with_reducible exact H2_) | (have H2_ := (Option.bind_some _ _).symm.trans H; with_reducible exact H2_) | with_reducible exact H | (rw [hy583]; exact H) | exact H
          have Ny583 := Aside0.mk hy583
          clear hy583
          have H' := Aside0.mk H
          clear H
          have p579 : 0 ≤ (x8_1 : Int) := zD
          have q579 : x8_1 < (l1.length : Int) := zD
          obtain ⟨ad579, e579, hx579_0, hx579_1⟩ := at_T40 HR1.out x8_1 p579 q579
          cases e579
          replace hx579_0 := (HB.out.cell (World.block_lt_of_cell? w _ hx579_0)).trans hx579_0
          replace hx579_1 := (HB.out.cell (World.block_lt_of_cell? w _ hx579_1)).trans hx579_1
          replace p579 := eq_true p579
          replace q579 := eq_true q579
          have p580 : 0 ≤ (x8_1 : Int) := zD
          have q580 : x8_1 < (l1.length : Int) := zD
          obtain ⟨ad580, e580, hx580_0, hx580_1⟩ := at_T40 HR1.out x8_1 p580 q580
          obtain rfl : ad579 = ad580 := (by injection e580)
          replace hx580_0 := (HB.out.cell (World.block_lt_of_cell? w _ hx580_0)).trans hx580_0
          replace hx580_1 := (HB.out.cell (World.block_lt_of_cell? w _ hx580_1)).trans hx580_1
          replace p580 := eq_true p580
          replace q580 := eq_true q580
          obtain ⟨Ao15, co15, eo15⟩ := Kd.R_slice HO_7.out
          subst eo15
          have p581 : 0 ≤ (((rd_T40 l1 x8_1).f1) : Int) := zD
          have q581 : ((rd_T40 l1 x8_1).f1) < (x7_1.length : Int) := zD
          obtain ⟨ad581, e581, hx581_0⟩ := Kd.at_int (Kd.R_reads' HO_7.out).2.2 ((rd_T40 l1 x8_1).f1) p581 q581
          cases e581
          replace p581 := eq_true p581
          replace q581 := eq_true q581
          have p582 : 0 ≤ (x8_1 : Int) := zD
          have q582 : x8_1 < (l1.length : Int) := zD
          obtain ⟨ad582, e582, hx582_0, hx582_1⟩ := at_T40 HR1.out x8_1 p582 q582
          obtain rfl : ad579 = ad582 := (by injection e582)
          replace hx582_0 := (HB.out.cell (World.block_lt_of_cell? w _ hx582_0)).trans hx582_0
          replace hx582_1 := (HB.out.cell (World.block_lt_of_cell? w _ hx582_1)).trans hx582_1
          replace p582 := eq_true p582
          replace q582 := eq_true q582
          have p14 : 0 ≤ (((rd_T40 l1 x8_1).f1) : Int) := zD
          have q14 : (((rd_T40 l1 x8_1).f1) : Int) < ((x7_1.length : Int) : Int) := zD
          obtain ⟨go14, co14, eo14, gb14, gl14, cl14, HG14⟩ := Kd.R_form HO_7.out (by omega)
          (first | cases eo14 | (injection eo14 with ea_ en_ ec_; (first | subst ea_ | (injection ea_ with ea_; subst ea_)); subst ec_; clear en_))
          have GB14 := Aside0.mk gb14
          have GG14 := Aside0.mk HG14
          clear gb14 gl14 HG14
          (first | simp only [add_plain] at hx581_0 | skip)
          obtain ⟨hx14_0, hf14_0⟩ := Kd.R_celln 0 HO_7.out (((rd_T40 l1 x8_1).f1) : Int) p14 q14
          replace p14 := eq_true p14
          replace q14 := eq_true q14
          have HP16 := Kd.R_putg HO_7.out (((rd_T40 l1 x8_1).f1) : Int) 1
          go_wp2_with (first | ((with_reducible refine gate_store (t := 3) (p := 42) rfl ?_); refine store_event (t := 3) (p := 42) (v := ?vo_w17) (w1 := (wr.setCell ⟨go14, (((rd_T40 l1 x8_1).f1) : Int).toNat, none⟩ (.int .i64 1))) ?hg ?ho ?hn ?hr ?_; (case ho => rfl); (case hg => rfl); (case hn => rfl); (case hr => first | (go_simp; done) | (go_simp; rfl)); intro w17 hw; have hg : wr.grownBy w17 (some go14) := (by rw [hw]; exact HP16.2); have hp_ : Kd.R (Kd.int .i64) 3 w17 w.heap.size (fun _ => True) (.slice (some ⟨go14, 0, none⟩) x7_1.length co15) y583 := (by rw [hw, Ny583.out]; exact HP16.1); clear HP16; have n0_ := Aside0.mk (hp_); have n1_ := Aside0.mk ((by rw [hw]; exact below_set (HB.out) GB14.out : Below w.heap.size w w17)); clear HO_7; clear HB; have HO_7 := n0_; have HB := n1_; clear n0_ n1_; clear hg hw hp_))
          go_roundg k1
          case measure => have := HK1.out; omega
          case rel => exact ⟨(y583), (wrap64 (x8_1 + 1)), (by first | rfl | (simp; done) | (simp [*]; done)), H', ⟨by have := HK1.out; omega⟩, ⟨by (with_reducible repeat (first | apply Kd.R_alloc | apply Kd.R_drewN | apply Kd.R_drew)); exact HO_7.out⟩, ⟨zB HB.out⟩⟩
         ·rw [if_neg c13] at H
          have c13b0 : ((rd x7_1 ((rd_T40 l1 x8_1).f1)) == 0) = false := beq_eq_false_iff_ne.mpr c13
          have c13b1 : ((rd x7_1 ((rd_T40 l1 x8_1).f1)) != 0) = true := bne_iff_ne.mpr c13
          have H' := Aside0.mk H
          clear H
          have p579 : 0 ≤ (x8_1 : Int) := zD
          have q579 : x8_1 < (l1.length : Int) := zD
          obtain ⟨ad579, e579, hx579_0, hx579_1⟩ := at_T40 HR1.out x8_1 p579 q579
          cases e579
          replace hx579_0 := (HB.out.cell (World.block_lt_of_cell? w _ hx579_0)).trans hx579_0
          replace hx579_1 := (HB.out.cell (World.block_lt_of_cell? w _ hx579_1)).trans hx579_1
          replace p579 := eq_true p579
          replace q579 := eq_true q579
          have p580 : 0 ≤ (x8_1 : Int) := zD
          have q580 : x8_1 < (l1.length : Int) := zD
          obtain ⟨ad580, e580, hx580_0, hx580_1⟩ := at_T40 HR1.out x8_1 p580 q580
          obtain rfl : ad579 = ad580 := (by injection e580)
          replace hx580_0 := (HB.out.cell (World.block_lt_of_cell? w _ hx580_0)).trans hx580_0
          replace hx580_1 := (HB.out.cell (World.block_lt_of_cell? w _ hx580_1)).trans hx580_1
          replace p580 := eq_true p580
          replace q580 := eq_true q580
          obtain ⟨Ao18, co18, eo18⟩ := Kd.R_slice HO_7.out
          subst eo18
          have p581 : 0 ≤ (((rd_T40 l1 x8_1).f1) : Int) := zD
          have q581 : ((rd_T40 l1 x8_1).f1) < (x7_1.length : Int) := zD
          obtain ⟨ad581, e581, hx581_0⟩ := Kd.at_int (Kd.R_reads' HO_7.out).2.2 ((rd_T40 l1 x8_1).f1) p581 q581
          cases e581
          replace p581 := eq_true p581
          replace q581 := eq_true q581
          go_wp2
          go_roundg k1
          case measure => have := HK1.out; omega
          case rel => exact ⟨(x7_1), (wrap64 (x8_1 + 1)), (by first | rfl | (simp; done) | (simp [*]; done)), H', ⟨by have := HK1.out; omega⟩, ⟨by (with_reducible repeat (first | apply Kd.R_alloc | apply Kd.R_drewN | apply Kd.R_drew)); exact HO_7.out⟩, ⟨zB HB.out⟩⟩
        ·rw [if_neg c12] at H
         exact absurd H (by simp)
       ·rw [if_neg c11] at H
        exact absurd H (by simp)
      ·rw [if_neg c10] at H
       have c10b0 : (((rd_T40 l1 x8_1).f0) == a2) = false := beq_eq_false_iff_ne.mpr c10
       have c10b1 : (((rd_T40 l1 x8_1).f0) != a2) = true := bne_iff_ne.mpr c10
       have H' := Aside0.mk H
       clear H
       have p579 : 0 ≤ (x8_1 : Int) := zD
       have q579 : x8_1 < (l1.length : Int) := zD
       obtain ⟨ad579, e579, hx579_0, hx579_1⟩ := at_T40 HR1.out x8_1 p579 q579
       cases e579
       replace hx579_0 := (HB.out.cell (World.block_lt_of_cell? w _ hx579_0)).trans hx579_0
       replace hx579_1 := (HB.out.cell (World.block_lt_of_cell? w _ hx579_1)).trans hx579_1
       replace p579 := eq_true p579
       replace q579 := eq_true q579
       go_wp2
       go_roundg k1
       case measure => have := HK1.out; omega
       case rel => exact ⟨(x7_1), (wrap64 (x8_1 + 1)), (by first | rfl | (simp; done) | (simp [*]; done)), H', ⟨by have := HK1.out; omega⟩, ⟨by (with_reducible repeat (first | apply Kd.R_alloc | apply Kd.R_drewN | apply Kd.R_drew)); exact HO_7.out⟩, ⟨zB HB.out⟩⟩
     ·rw [if_neg c9] at H
      exact absurd H (by simp)
    ·rw [if_neg c8] at H
     have c8b0 : decide (x8_1 < (l1.length : Int)) = false := decide_eq_false c8
     clear c8
     obtain rfl := Option.some.inj H
     go_wp2
     go_ret
     exact ⟨_, by first | rfl | (simp [errW_none, errW_some] <;> rfl) | (simp [*, errW_none, errW_some] <;> rfl), by (with_reducible repeat (first | apply Kd.R_alloc | apply Kd.R_drewN | apply Kd.R_drew)); exact HO_7.out, zB HB.out⟩
 ·rw [if_neg c4] at H
  exact absurd H (by simp)

end Go.Proofs.Ytbanhinbndeboaa.PAll
