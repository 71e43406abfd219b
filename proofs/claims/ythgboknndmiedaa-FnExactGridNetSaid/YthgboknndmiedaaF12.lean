/- Own text of this session, written by a program of this session (wip/t/own.py) out of what the kit tells of the functions: each Go function as a Lean function, and the walk through its code. -/
import Derived.Test.YthgboknndmiedaaT
import Derived.Test.YthgboknndmiedaaF9
namespace Go.Proofs.Ythgboknndmiedaa.PAll
open Go.RowKit Go.Proofs.YthgboknndmiedaaW.PrintWords Go.Proofs.YthgboknndmiedaaW.PrintLast Go.Proofs.YthgboknndmiedaaW.PrintMore
attribute [local go_sem] max2_int min2_int max_two min_two max_three min_three max_four min_four   -- for this text's walks alone
set_option linter.unusedVariables false
set_option linter.unusedSimpArgs false

/-! ### spec_GridNet: function 26 -/
mutual
def spec_GridNet.l0 : Nat → Int → Int → List Int → Int → Option (List Int)
 | 0, _, _, _, _ => none
 | k + 1, x0, x1, x5, x6 => (spec_l12Ok.f x0 x1).bind fun t275 => (if t275 = true then (spec_GridNet.j1 k x0 x1 x5 x6 (decide (x6 < (wrap64 (x0 * x1))))) else (spec_GridNet.j1 k x0 x1 x5 x6 false))
def spec_GridNet.j1 : Nat → Int → Int → List Int → Int → Bool → Option (List Int)
 | 0, _, _, _, _, _ => none
 | k + 1, x0, x1, x5, x6, x18 => if x18 = true then (if x1 = 0 then (none) else (if (Int.tmod x6 x1) > 0 then (if 0 ≤ (wrap64 (x6 - 1)) then (spec_GridNet.j2 k x0 x1 x5 x6 (Go.bits .or .i64 0 (shl .i64 1 (wrap64 (x6 - 1))))) else (none)) else (spec_GridNet.j2 k x0 x1 x5 x6 0))) else (some x5)
def spec_GridNet.j2 : Nat → Int → Int → List Int → Int → Int → Option (List Int)
 | 0, _, _, _, _, _ => none
 | k + 1, x0, x1, x5, x6, x7 => if x1 = 0 then (none) else (if (Int.tmod x6 x1) < (wrap64 (x1 - 1)) then (if 0 ≤ (wrap64 (x6 + 1)) then (spec_GridNet.j3 k x0 x1 x5 x6 (Go.bits .or .i64 x7 (shl .i64 1 (wrap64 (x6 + 1))))) else (none)) else (spec_GridNet.j3 k x0 x1 x5 x6 x7))
def spec_GridNet.j3 : Nat → Int → Int → List Int → Int → Int → Option (List Int)
 | 0, _, _, _, _, _ => none
 | k + 1, x0, x1, x5, x6, x7 => if x6 ≥ x1 then (if 0 ≤ (wrap64 (x6 - x1)) then (if x6 < (wrap64 ((wrap64 (x0 - 1)) * x1)) then (if 0 ≤ (wrap64 (x6 + x1)) then (if x5.length < 17592186044416 then (spec_GridNet.l0 k x0 x1 (x5 ++ [Go.bits .or .i64 (Go.bits .or .i64 x7 (shl .i64 1 (wrap64 (x6 - x1)))) (shl .i64 1 (wrap64 (x6 + x1)))]) (wrap64 (x6 + 1))) else (none)) else (none)) else (if x5.length < 17592186044416 then (spec_GridNet.l0 k x0 x1 (x5 ++ [Go.bits .or .i64 x7 (shl .i64 1 (wrap64 (x6 - x1)))]) (wrap64 (x6 + 1))) else (none))) else (none)) else (if x6 < (wrap64 ((wrap64 (x0 - 1)) * x1)) then (if 0 ≤ (wrap64 (x6 + x1)) then (if x5.length < 17592186044416 then (spec_GridNet.l0 k x0 x1 (x5 ++ [Go.bits .or .i64 x7 (shl .i64 1 (wrap64 (x6 + x1)))]) (wrap64 (x6 + 1))) else (none)) else (none)) else (if x5.length < 17592186044416 then (spec_GridNet.l0 k x0 x1 (x5 ++ [x7]) (wrap64 (x6 + 1))) else (none)))
end
def spec_GridNet.f (k : Nat) (a0 : Int) (a1 : Int) : Option (List Int) := spec_GridNet.l0 k a0 a1 (([] : List Int)) 0
theorem spec_GridNet.mono_l : ∀ k, (∀ y0 y1 y2 y3, LeO (spec_GridNet.l0 k y0 y1 y2 y3) (spec_GridNet.l0 (k + 1) y0 y1 y2 y3)) ∧ (∀ y0 y1 y2 y3 y4, LeO (spec_GridNet.j1 k y0 y1 y2 y3 y4) (spec_GridNet.j1 (k + 1) y0 y1 y2 y3 y4)) ∧ (∀ y0 y1 y2 y3 y4, LeO (spec_GridNet.j2 k y0 y1 y2 y3 y4) (spec_GridNet.j2 (k + 1) y0 y1 y2 y3 y4)) ∧ (∀ y0 y1 y2 y3 y4, LeO (spec_GridNet.j3 k y0 y1 y2 y3 y4) (spec_GridNet.j3 (k + 1) y0 y1 y2 y3 y4))
 | 0 => ⟨fun _ _ _ _ r h => by simp [spec_GridNet.l0] at h, fun _ _ _ _ _ r h => by simp [spec_GridNet.j1] at h, fun _ _ _ _ _ r h => by simp [spec_GridNet.j2] at h, fun _ _ _ _ _ r h => by simp [spec_GridNet.j3] at h⟩
 | k + 1 => by
  obtain ⟨ih0, ih1, ih2, ih3⟩ := spec_GridNet.mono_l k
  refine ⟨?_, ?_, ?_, ?_⟩
  ·intro y0 y1 y2 y3
   unfold spec_GridNet.l0
   repeat' first
   | (with_reducible exact ih0 _ _ _ _)
   | (with_reducible exact ih1 _ _ _ _ _)
   | (with_reducible exact ih2 _ _ _ _ _)
   | (with_reducible exact ih3 _ _ _ _ _)
   | (with_reducible exact LeO.refl _)
   | (with_reducible exact LeO.none _)
   | (with_reducible refine LeO.ite ?_ ?_)
   | (with_reducible refine LeO.bind ?_ (fun _ => ?_))
   | exact ih0 _ _ _ _
   | exact ih1 _ _ _ _ _
   | exact ih2 _ _ _ _ _
   | exact ih3 _ _ _ _ _
   | exact LeO.none _
   | refine LeO.ite ?_ ?_
   | refine LeO.bind ?_ (fun _ => ?_)
  ·intro y0 y1 y2 y3 y4
   unfold spec_GridNet.j1
   repeat' first
   | (with_reducible exact ih0 _ _ _ _)
   | (with_reducible exact ih1 _ _ _ _ _)
   | (with_reducible exact ih2 _ _ _ _ _)
   | (with_reducible exact ih3 _ _ _ _ _)
   | (with_reducible exact LeO.refl _)
   | (with_reducible exact LeO.none _)
   | (with_reducible refine LeO.ite ?_ ?_)
   | (with_reducible refine LeO.bind ?_ (fun _ => ?_))
   | exact ih0 _ _ _ _
   | exact ih1 _ _ _ _ _
   | exact ih2 _ _ _ _ _
   | exact ih3 _ _ _ _ _
   | exact LeO.none _
   | refine LeO.ite ?_ ?_
   | refine LeO.bind ?_ (fun _ => ?_)
  ·intro y0 y1 y2 y3 y4
   unfold spec_GridNet.j2
   repeat' first
   | (with_reducible exact ih0 _ _ _ _)
   | (with_reducible exact ih1 _ _ _ _ _)
   | (with_reducible exact ih2 _ _ _ _ _)
   | (with_reducible exact ih3 _ _ _ _ _)
   | (with_reducible exact LeO.refl _)
   | (with_reducible exact LeO.none _)
   | (with_reducible refine LeO.ite ?_ ?_)
   | (with_reducible refine LeO.bind ?_ (fun _ => ?_))
   | exact ih0 _ _ _ _
   | exact ih1 _ _ _ _ _
   | exact ih2 _ _ _ _ _
   | exact ih3 _ _ _ _ _
   | exact LeO.none _
   | refine LeO.ite ?_ ?_
   | refine LeO.bind ?_ (fun _ => ?_)
  ·intro y0 y1 y2 y3 y4
   unfold spec_GridNet.j3
   repeat' first
   | (with_reducible exact ih0 _ _ _ _)
   | (with_reducible exact ih1 _ _ _ _ _)
   | (with_reducible exact ih2 _ _ _ _ _)
   | (with_reducible exact ih3 _ _ _ _ _)
   | (with_reducible exact LeO.refl _)
   | (with_reducible exact LeO.none _)
   | (with_reducible refine LeO.ite ?_ ?_)
   | (with_reducible refine LeO.bind ?_ (fun _ => ?_))
   | exact ih0 _ _ _ _
   | exact ih1 _ _ _ _ _
   | exact ih2 _ _ _ _ _
   | exact ih3 _ _ _ _ _
   | exact LeO.none _
   | refine LeO.ite ?_ ?_
   | refine LeO.bind ?_ (fun _ => ?_)
theorem spec_GridNet.mono : ∀ a0 a1 k, LeO (spec_GridNet.f k a0 a1) (spec_GridNet.f (k + 1) a0 a1) := by
 intro a0 a1 k
 obtain ⟨ih0, ih1, ih2, ih3⟩ := spec_GridNet.mono_l k
 unfold spec_GridNet.f
 repeat' first
   | (with_reducible exact ih0 _ _ _ _)
   | (with_reducible exact ih1 _ _ _ _ _)
   | (with_reducible exact ih2 _ _ _ _ _)
   | (with_reducible exact ih3 _ _ _ _ _)
   | (with_reducible exact LeO.refl _)
   | (with_reducible exact LeO.none _)
   | (with_reducible refine LeO.ite ?_ ?_)
   | (with_reducible refine LeO.bind ?_ (fun _ => ?_))
   | exact ih0 _ _ _ _
   | exact ih1 _ _ _ _ _
   | exact ih2 _ _ _ _ _
   | exact ih3 _ _ _ _ _
   | exact LeO.none _
   | refine LeO.ite ?_ ?_
   | refine LeO.bind ?_ (fun _ => ?_)
set_option maxHeartbeats 8000000 in
set_option maxRecDepth 100000 in
theorem spec_GridNet.calls (k : Nat) (a0 : Int) (a1 : Int) (r : List Int) (w : World) (h : spec_GridNet.f k a0 a1 = some r) :
  Calls Try.prog 26 #[.int .i64 a0, .int .i64 a1] w fun e w' => ∃ v0_ : Value, e = .returned (v0_) ∧ Kd.R (Kd.int .i64) 3 w' w.heap.size (fun _ => True) v0_ r ∧ Below w.heap.size w w' := by
 have HB := Aside0.mk (Below.refl w.heap.size w)
 have H : (spec_GridNet.l0 k a0 a1 (([] : List Int)) 0) = some r := h
 clear h
 obtain ⟨y272, hy272⟩ : ∃ y_ : List Int, y_ = (([] : List Int)) := ⟨_, rfl⟩
 replace H : (spec_GridNet.l0 k a0 a1 y272 0) = some r := by first | (rw [hy272]; with_reducible exact H) | (have H2_ := (Option.bind_some _ _).symm.trans H; rw [hy272]; with_reducible exact H2_) | (have H2_ := (Option.bind_some _ _).symm.trans H; with_reducible exact H2_) | with_reducible exact H | (rw [hy272]; exact H) | exact H
 have Ny272 := Aside0.mk hy272
 clear hy272
 have H' := Aside0.mk H
 clear H
 go_enter Try.func26, Try.ntmps26
 go_wp2_with (first | ((with_reducible refine gate_dst (N := 8) rfl ?_); refine Kd.R_lit (Kd.int .i64) _ 3 ?hg (N := 8) ?hd (xs := ([] : List Int)) (inner := []) (ok := fun _ => True) (okp := fun _ => True) ?hr ?hp (fun _ hk => hk) trivial (Below.refl _ _) (Nat.le_refl _) (by simp) ?_; (case hd => rfl); (case hg => rfl); (case hr => first | (go_simp; done) | (go_simp; rfl)); (case hp => exact (Reps.none _ _)); intro v273 w3 ho4 hb hg_ hnew_; clear hg_ hnew_; (first | rw [← Ny272.out] at ho4 | (simp only [Int.reduceToNat] at ho4; rw [← Ny272.out] at ho4)); have n0_ := Aside0.mk (Kd.R_lower ho4 (below_size (zB HB.out))); have n1_ := Aside0.mk (below_step (zB HB.out) hb); clear HB; have HO274 := n0_; have HB := n1_; clear n0_ n1_; clear hb ho4))
 go_loopg [5, 6] k (fun kq v5 v6 w' => ∃ (x5_1 : List Int) (x6_1 : Int), v6 = .int .i64 x6_1 ∧ Aside0 (spec_GridNet.l0 kq a0 a1 x5_1 x6_1 = some r) ∧ Aside0 (kq ≤ k) ∧ Aside0 (Kd.R (Kd.int .i64) 3 w' w.heap.size (fun _ => True) v5 x5_1) ∧ Aside0 (Below w.heap.size w w'))
 case atStart => exact ⟨(y272), (0), (by first | rfl | (simp; done) | (simp [*]; done)), H', ⟨Nat.le_refl _⟩, ⟨by (with_reducible repeat (first | apply Kd.R_alloc | apply Kd.R_drewN | apply Kd.R_drew)); exact HO274.out⟩, ⟨zB HB.out⟩⟩
 case round =>
  clear H'
  try clear c2
  try clear p2
  obtain ⟨x5_1, x6_1, rfl, HA, HK1, HO_5, HB⟩ := hrel
  cases gk with
  | zero => exact absurd HA.out (by simp [spec_GridNet.l0])
  | succ k1 =>
   have H := HA.out
   clear HA
   simp only [spec_GridNet.l0] at H
   have HC5 := Aside0.mk H
   clear H
   go_upto_region 3 with (fail)
   go_cut [18] (fun v18 wc => ∃ (kq : Nat) (x18_4 : Bool), v18 = .bool x18_4 ∧ Aside0 (spec_GridNet.j1 kq a0 a1 x5_1 x6_1 x18_4 = some r) ∧ Aside0 (kq ≤ k1) ∧ Aside0 (Kd.R (Kd.int .i64) 3 wc w.heap.size (fun _ => True) u5 x5_1) ∧ Aside0 (Below w.heap.size w wc))
   case first =>
    have H := HC5.out
    clear HC5
    replace H := Option.bind_eq_some_iff.mp H
    obtain ⟨t275, A60, H⟩ := H
    replace H : (if t275 = true then (spec_GridNet.j1 k1 a0 a1 x5_1 x6_1 (decide (x6_1 < (wrap64 (a0 * a1))))) else (spec_GridNet.j1 k1 a0 a1 x5_1 x6_1 false)) = some r := H
    have A6 := Aside0.mk A60
    clear A60
    by_cases c7 : t275 = true
    ·subst c7
     have H1 : (spec_GridNet.j1 k1 a0 a1 x5_1 x6_1 (decide (x6_1 < (wrap64 (a0 * a1))))) = some r := by rw [if_pos rfl] at H; exact H
     clear H
     have H := H1
     clear H1
     have H' := Aside0.mk H
     clear H
     go_wp2_with (first | ((with_reducible refine gate_callee (f := 38) rfl ?_); refine goesL_ (some 11) rfl rfl Try.func38 (by kernel_rfl) rfl #[.int .i64 a0, .int .i64 a1] rfl zA ?_; (with_reducible refine (spec_l12Ok.calls a0 a1 true _ A6.out).mono ?_); rintro e w' ⟨rfl, ⟨nd, rfl⟩⟩; refine ⟨_, rfl, ?_⟩))
     go_meet
     case rel => exact ⟨_, (decide (x6_1 < (wrap64 (a0 * a1)))), (by first | rfl | (simp; done) | (simp [*]; done)), H', ⟨by have := HK1.out; first | omega | exact Nat.le_refl _⟩, ⟨by (with_reducible repeat (first | apply Kd.R_alloc | apply Kd.R_drewN | apply Kd.R_drew)); exact HO_5.out⟩, ⟨zB HB.out⟩⟩
    ·replace c7 := Bool.eq_false_iff.mpr c7
     subst c7
     have H1 : (spec_GridNet.j1 k1 a0 a1 x5_1 x6_1 false) = some r := by rw [if_neg (show ¬ (false = true) by decide)] at H; exact H
     clear H
     have H := H1
     clear H1
     have H' := Aside0.mk H
     clear H
     go_wp2_with (first | ((with_reducible refine gate_callee (f := 38) rfl ?_); refine goesL_ (some 11) rfl rfl Try.func38 (by kernel_rfl) rfl #[.int .i64 a0, .int .i64 a1] rfl zA ?_; (with_reducible refine (spec_l12Ok.calls a0 a1 false _ A6.out).mono ?_); rintro e w' ⟨rfl, ⟨nd, rfl⟩⟩; refine ⟨_, rfl, ?_⟩))
     go_meet
     case rel => exact ⟨_, (false), (by first | rfl | (simp; done) | (simp [*]; done)), H', ⟨by have := HK1.out; first | omega | exact Nat.le_refl _⟩, ⟨by (with_reducible repeat (first | apply Kd.R_alloc | apply Kd.R_drewN | apply Kd.R_drew)); exact HO_5.out⟩, ⟨zB HB.out⟩⟩
   case rest =>
    clear HC5
    try clear c2
    try clear p2
    try clear c3
    try clear p6
    try clear c7
    try clear p2
    obtain ⟨kq, x18_4, rfl, HA, HJ4, HO_5, HB⟩ := hcut
    cases kq with
    | zero => exact absurd HA.out (by simp [spec_GridNet.j1])
    | succ kj4 =>
     have H := HA.out
     clear HA
     simp only [spec_GridNet.j1] at H
     by_cases c8 : x18_4 = true
     ·subst c8
      have H1 : (if a1 = 0 then (none) else (if (Int.tmod x6_1 a1) > 0 then (if 0 ≤ (wrap64 (x6_1 - 1)) then (spec_GridNet.j2 kj4 a0 a1 x5_1 x6_1 (Go.bits .or .i64 0 (shl .i64 1 (wrap64 (x6_1 - 1))))) else (none)) else (spec_GridNet.j2 kj4 a0 a1 x5_1 x6_1 0))) = some r := by rw [if_pos rfl] at H; exact H
      clear H
      have H := H1
      clear H1
      by_cases c9 : a1 = 0
      ·rw [if_pos c9] at H
       exact absurd H (by simp)
      ·rw [if_neg c9] at H
       have c9b0 : (a1 == 0) = false := beq_eq_false_iff_ne.mpr c9
       have c9b1 : (a1 != 0) = true := bne_iff_ne.mpr c9
       have HC10 := Aside0.mk H
       clear H
       go_upto_if 24 with (fail)
       go_cut [7] (fun v7 wc => ∃ (kq : Nat) (x7_9 : Int), v7 = .int .i64 x7_9 ∧ Aside0 (spec_GridNet.j2 kq a0 a1 x5_1 x6_1 x7_9 = some r) ∧ Aside0 (kq ≤ kj4) ∧ Aside0 (Kd.R (Kd.int .i64) 3 wc w.heap.size (fun _ => True) u5 x5_1) ∧ Aside0 (Below w.heap.size w wc))
       case first =>
        have H := HC10.out
        clear HC10
        by_cases c11 : (Int.tmod x6_1 a1) > 0
        ·rw [if_pos c11] at H
         have c11b0 : decide (0 < (Int.tmod x6_1 a1)) = true := decide_eq_true c11
         clear c11
         (first | rw [c11b0] | (simp only [i64_w, i32_w]; rw [c11b0]) | skip)
         obtain ⟨ji12, hji12⟩ : ∃ j_ : Int, (wrap64 (x6_1 - 1)) = j_ := ⟨_, rfl⟩
         replace H : (if 0 ≤ (ji12) then (spec_GridNet.j2 kj4 a0 a1 x5_1 x6_1 (Go.bits .or .i64 0 (shl .i64 1 (ji12)))) else (none)) = some r := by first | (rw [hji12] at H; exact H) | (simp only [hji12] at H ⊢; exact H)
         have hji12w : (IntKind.i64.wrap (x6_1 - 1)) = ji12 := (i64_w _).trans hji12
         by_cases c13 : 0 ≤ (ji12)
         ·rw [if_pos c13] at H
          have c13b0 := eq_true c13
          have c13b1 : decide (0 ≤ (ji12)) = true := decide_eq_true c13
          clear c13
          obtain ⟨ji14, hji14⟩ : ∃ j_ : Int, (shl .i64 1 (ji12)) = j_ := ⟨_, rfl⟩
          replace H : (spec_GridNet.j2 kj4 a0 a1 x5_1 x6_1 (Go.bits .or .i64 0 (ji14))) = some r := by first | (rw [hji14] at H; exact H) | (simp only [hji14] at H ⊢; exact H)
          have hji14_ : (IntKind.i64.wrap (1 * 2 ^ min (ji12).toNat 64)) = ji14 := hji14
          have hji14z : (ji12) ≤ 64 → (IntKind.i64.wrap (1 * 2 ^ (ji12).toNat)) = ji14 := shl_small hji14
          have hji14u : (IntKind.i64.wrap (2 ^ min (ji12).toNat 64)) = ji14 := by have h_ := hji14_; rw [Int.one_mul] at h_; exact h_
          have hji14v : (ji12) ≤ 64 → (IntKind.i64.wrap (2 ^ (ji12).toNat)) = ji14 := fun hle_ => by have h_ := hji14z hle_; rw [Int.one_mul] at h_; exact h_
          have hji14y : (wrap64 (1 * 2 ^ min (ji12).toNat 64)) = ji14 := (i64_w _).symm.trans hji14_
          have hji14x : (ji12) ≤ 64 → (wrap64 (1 * 2 ^ (ji12).toNat)) = ji14 := fun h_ => (i64_w _).symm.trans (hji14z h_)
          have H' := Aside0.mk H
          clear H
          go_wp2
          go_meet
          case rel => exact ⟨_, (Go.bits .or .i64 0 (ji14)), (by first | rfl | (simp; done) | (simp only [← hji14] <;> (first | rfl | simp)) | (simp [*]; done)), H', ⟨by have := HK1.out; have := HJ4.out; first | omega | exact Nat.le_refl _⟩, ⟨by (with_reducible repeat (first | apply Kd.R_alloc | apply Kd.R_drewN | apply Kd.R_drew)); exact HO_5.out⟩, ⟨zB HB.out⟩⟩
         ·rw [if_neg c13] at H
          exact absurd H (by simp)
        ·rw [if_neg c11] at H
         have c11b0 : decide (0 < (Int.tmod x6_1 a1)) = false := decide_eq_false c11
         clear c11
         (first | rw [c11b0] | (simp only [i64_w, i32_w]; rw [c11b0]) | skip)
         have H' := Aside0.mk H
         clear H
         go_wp2
         go_meet
         case rel => exact ⟨_, (0), (by first | rfl | (simp; done) | (simp [*]; done)), H', ⟨by have := HK1.out; have := HJ4.out; first | omega | exact Nat.le_refl _⟩, ⟨by (with_reducible repeat (first | apply Kd.R_alloc | apply Kd.R_drewN | apply Kd.R_drew)); exact HO_5.out⟩, ⟨zB HB.out⟩⟩
       case rest =>
        clear HC10
        try clear c1
        try clear c2
        try clear p2
        try clear c3
        try clear p6
        try clear c7
        try clear c8
        try clear c9
        try clear c9b0
        try clear c9b1
        try clear c11
        try clear c11b0
        try clear c13
        try clear c13b0
        try clear c13b1
        try clear p2
        try clear p6
        obtain ⟨kq, x7_9, rfl, HA, HJ9, HO_5, HB⟩ := hcut
        cases kq with
        | zero => exact absurd HA.out (by simp [spec_GridNet.j2])
        | succ kj9 =>
         have H := HA.out
         clear HA
         simp only [spec_GridNet.j2] at H
         by_cases c15 : a1 = 0
         ·rw [if_pos c15] at H
          exact absurd H (by simp)
         ·rw [if_neg c15] at H
          have c15b0 : (a1 == 0) = false := beq_eq_false_iff_ne.mpr c15
          have c15b1 : (a1 != 0) = true := bne_iff_ne.mpr c15
          have HC16 := Aside0.mk H
          clear H
          go_upto_if 35 with (fail)
          go_cut [7] (fun v7 wc => ∃ (kq : Nat) (x7_15 : Int), v7 = .int .i64 x7_15 ∧ Aside0 (spec_GridNet.j3 kq a0 a1 x5_1 x6_1 x7_15 = some r) ∧ Aside0 (kq ≤ kj9) ∧ Aside0 (Kd.R (Kd.int .i64) 3 wc w.heap.size (fun _ => True) u5 x5_1) ∧ Aside0 (Below w.heap.size w wc))
          case first =>
           have H := HC16.out
           clear HC16
           by_cases c17 : (Int.tmod x6_1 a1) < (wrap64 (a1 - 1))
           ·rw [if_pos c17] at H
            have c17b0 : decide ((Int.tmod x6_1 a1) < (wrap64 (a1 - 1))) = true := decide_eq_true c17
            clear c17
            (first | rw [c17b0] | (simp only [i64_w, i32_w]; rw [c17b0]) | skip)
            obtain ⟨ji18, hji18⟩ : ∃ j_ : Int, (wrap64 (x6_1 + 1)) = j_ := ⟨_, rfl⟩
            replace H : (if 0 ≤ (ji18) then (spec_GridNet.j3 kj9 a0 a1 x5_1 x6_1 (Go.bits .or .i64 x7_9 (shl .i64 1 (ji18)))) else (none)) = some r := by first | (rw [hji18] at H; exact H) | (simp only [hji18] at H ⊢; exact H)
            have hji18w : (IntKind.i64.wrap (x6_1 + 1)) = ji18 := (i64_w _).trans hji18
            by_cases c19 : 0 ≤ (ji18)
            ·rw [if_pos c19] at H
             have c19b0 := eq_true c19
             have c19b1 : decide (0 ≤ (ji18)) = true := decide_eq_true c19
             clear c19
             obtain ⟨ji20, hji20⟩ : ∃ j_ : Int, (shl .i64 1 (ji18)) = j_ := ⟨_, rfl⟩
             replace H : (spec_GridNet.j3 kj9 a0 a1 x5_1 x6_1 (Go.bits .or .i64 x7_9 (ji20))) = some r := by first | (rw [hji20] at H; exact H) | (simp only [hji20] at H ⊢; exact H)
             have hji20_ : (IntKind.i64.wrap (1 * 2 ^ min (ji18).toNat 64)) = ji20 := hji20
             have hji20z : (ji18) ≤ 64 → (IntKind.i64.wrap (1 * 2 ^ (ji18).toNat)) = ji20 := shl_small hji20
             have hji20u : (IntKind.i64.wrap (2 ^ min (ji18).toNat 64)) = ji20 := by have h_ := hji20_; rw [Int.one_mul] at h_; exact h_
             have hji20v : (ji18) ≤ 64 → (IntKind.i64.wrap (2 ^ (ji18).toNat)) = ji20 := fun hle_ => by have h_ := hji20z hle_; rw [Int.one_mul] at h_; exact h_
             have hji20y : (wrap64 (1 * 2 ^ min (ji18).toNat 64)) = ji20 := (i64_w _).symm.trans hji20_
             have hji20x : (ji18) ≤ 64 → (wrap64 (1 * 2 ^ (ji18).toNat)) = ji20 := fun h_ => (i64_w _).symm.trans (hji20z h_)
             have H' := Aside0.mk H
             clear H
             go_wp2
             go_meet
             case rel => exact ⟨_, (Go.bits .or .i64 x7_9 (ji20)), (by first | rfl | (simp; done) | (simp only [← hji20] <;> (first | rfl | simp)) | (simp [*]; done)), H', ⟨by have := HK1.out; have := HJ4.out; have := HJ9.out; first | omega | exact Nat.le_refl _⟩, ⟨by (with_reducible repeat (first | apply Kd.R_alloc | apply Kd.R_drewN | apply Kd.R_drew)); exact HO_5.out⟩, ⟨zB HB.out⟩⟩
            ·rw [if_neg c19] at H
             exact absurd H (by simp)
           ·rw [if_neg c17] at H
            have c17b0 : decide ((Int.tmod x6_1 a1) < (wrap64 (a1 - 1))) = false := decide_eq_false c17
            clear c17
            (first | rw [c17b0] | (simp only [i64_w, i32_w]; rw [c17b0]) | skip)
            have H' := Aside0.mk H
            clear H
            go_wp2
            go_meet
            case rel => exact ⟨_, (x7_9), (by first | rfl | (simp; done) | (simp [*]; done)), H', ⟨by have := HK1.out; have := HJ4.out; have := HJ9.out; first | omega | exact Nat.le_refl _⟩, ⟨by (with_reducible repeat (first | apply Kd.R_alloc | apply Kd.R_drewN | apply Kd.R_drew)); exact HO_5.out⟩, ⟨zB HB.out⟩⟩
          case rest =>
           clear HC16
           try clear c1
           try clear c2
           try clear p2
           try clear c3
           try clear p6
           try clear c7
           try clear c8
           try clear c9
           try clear c9b0
           try clear c9b1
           try clear c11
           try clear c11b0
           try clear c13
           try clear c13b0
           try clear c13b1
           try clear c15
           try clear c15b0
           try clear c15b1
           try clear c17
           try clear c17b0
           try clear c19
           try clear c19b0
           try clear c19b1
           try clear p2
           try clear p6
           obtain ⟨kq, x7_15, rfl, HA, HJ15, HO_5, HB⟩ := hcut
           cases kq with
           | zero => exact absurd HA.out (by simp [spec_GridNet.j3])
           | succ kj15 =>
            have H := HA.out
            clear HA
            simp only [spec_GridNet.j3] at H
            by_cases c21 : x6_1 ≥ a1
            ·rw [if_pos c21] at H
             have c21b0 : decide (a1 ≤ x6_1) = true := decide_eq_true c21
             clear c21
             obtain ⟨ji22, hji22⟩ : ∃ j_ : Int, (wrap64 (x6_1 - a1)) = j_ := ⟨_, rfl⟩
             replace H : (if 0 ≤ (ji22) then (if x6_1 < (wrap64 ((wrap64 (a0 - 1)) * a1)) then (if 0 ≤ (wrap64 (x6_1 + a1)) then (if x5_1.length < 17592186044416 then (spec_GridNet.l0 kj15 a0 a1 (x5_1 ++ [Go.bits .or .i64 (Go.bits .or .i64 x7_15 (shl .i64 1 (ji22))) (shl .i64 1 (wrap64 (x6_1 + a1)))]) (wrap64 (x6_1 + 1))) else (none)) else (none)) else (if x5_1.length < 17592186044416 then (spec_GridNet.l0 kj15 a0 a1 (x5_1 ++ [Go.bits .or .i64 x7_15 (shl .i64 1 (ji22))]) (wrap64 (x6_1 + 1))) else (none))) else (none)) = some r := by first | (rw [hji22] at H; exact H) | (simp only [hji22] at H ⊢; exact H)
             have hji22w : (IntKind.i64.wrap (x6_1 - a1)) = ji22 := (i64_w _).trans hji22
             by_cases c23 : 0 ≤ (ji22)
             ·rw [if_pos c23] at H
              have c23b0 := eq_true c23
              have c23b1 : decide (0 ≤ (ji22)) = true := decide_eq_true c23
              clear c23
              obtain ⟨ji24, hji24⟩ : ∃ j_ : Int, (shl .i64 1 (ji22)) = j_ := ⟨_, rfl⟩
              replace H : (if x6_1 < (wrap64 ((wrap64 (a0 - 1)) * a1)) then (if 0 ≤ (wrap64 (x6_1 + a1)) then (if x5_1.length < 17592186044416 then (spec_GridNet.l0 kj15 a0 a1 (x5_1 ++ [Go.bits .or .i64 (Go.bits .or .i64 x7_15 (ji24)) (shl .i64 1 (wrap64 (x6_1 + a1)))]) (wrap64 (x6_1 + 1))) else (none)) else (none)) else (if x5_1.length < 17592186044416 then (spec_GridNet.l0 kj15 a0 a1 (x5_1 ++ [Go.bits .or .i64 x7_15 (ji24)]) (wrap64 (x6_1 + 1))) else (none))) = some r := by first | (rw [hji24] at H; exact H) | (simp only [hji24] at H ⊢; exact H)
              have hji24_ : (IntKind.i64.wrap (1 * 2 ^ min (ji22).toNat 64)) = ji24 := hji24
              have hji24z : (ji22) ≤ 64 → (IntKind.i64.wrap (1 * 2 ^ (ji22).toNat)) = ji24 := shl_small hji24
              have hji24u : (IntKind.i64.wrap (2 ^ min (ji22).toNat 64)) = ji24 := by have h_ := hji24_; rw [Int.one_mul] at h_; exact h_
              have hji24v : (ji22) ≤ 64 → (IntKind.i64.wrap (2 ^ (ji22).toNat)) = ji24 := fun hle_ => by have h_ := hji24z hle_; rw [Int.one_mul] at h_; exact h_
              have hji24y : (wrap64 (1 * 2 ^ min (ji22).toNat 64)) = ji24 := (i64_w _).symm.trans hji24_
              have hji24x : (ji22) ≤ 64 → (wrap64 (1 * 2 ^ (ji22).toNat)) = ji24 := fun h_ => (i64_w _).symm.trans (hji24z h_)
              by_cases c25 : x6_1 < (wrap64 ((wrap64 (a0 - 1)) * a1))
              ·rw [if_pos c25] at H
               have c25b0 : decide (x6_1 < (wrap64 ((wrap64 (a0 - 1)) * a1))) = true := decide_eq_true c25
               clear c25
               obtain ⟨ji26, hji26⟩ : ∃ j_ : Int, (wrap64 (x6_1 + a1)) = j_ := ⟨_, rfl⟩
               replace H : (if 0 ≤ (ji26) then (if x5_1.length < 17592186044416 then (spec_GridNet.l0 kj15 a0 a1 (x5_1 ++ [Go.bits .or .i64 (Go.bits .or .i64 x7_15 (ji24)) (shl .i64 1 (ji26))]) (wrap64 (x6_1 + 1))) else (none)) else (none)) = some r := by first | (rw [hji26] at H; exact H) | (simp only [hji26] at H ⊢; exact H)
               have hji26w : (IntKind.i64.wrap (x6_1 + a1)) = ji26 := (i64_w _).trans hji26
               by_cases c27 : 0 ≤ (ji26)
               ·rw [if_pos c27] at H
                have c27b0 := eq_true c27
                have c27b1 : decide (0 ≤ (ji26)) = true := decide_eq_true c27
                clear c27
                obtain ⟨ji28, hji28⟩ : ∃ j_ : Int, (shl .i64 1 (ji26)) = j_ := ⟨_, rfl⟩
                replace H : (if x5_1.length < 17592186044416 then (spec_GridNet.l0 kj15 a0 a1 (x5_1 ++ [Go.bits .or .i64 (Go.bits .or .i64 x7_15 (ji24)) (ji28)]) (wrap64 (x6_1 + 1))) else (none)) = some r := by first | (rw [hji28] at H; exact H) | (simp only [hji28] at H ⊢; exact H)
                have hji28_ : (IntKind.i64.wrap (1 * 2 ^ min (ji26).toNat 64)) = ji28 := hji28
                have hji28z : (ji26) ≤ 64 → (IntKind.i64.wrap (1 * 2 ^ (ji26).toNat)) = ji28 := shl_small hji28
                have hji28u : (IntKind.i64.wrap (2 ^ min (ji26).toNat 64)) = ji28 := by have h_ := hji28_; rw [Int.one_mul] at h_; exact h_
                have hji28v : (ji26) ≤ 64 → (IntKind.i64.wrap (2 ^ (ji26).toNat)) = ji28 := fun hle_ => by have h_ := hji28z hle_; rw [Int.one_mul] at h_; exact h_
                have hji28y : (wrap64 (1 * 2 ^ min (ji26).toNat 64)) = ji28 := (i64_w _).symm.trans hji28_
                have hji28x : (ji26) ≤ 64 → (wrap64 (1 * 2 ^ (ji26).toNat)) = ji28 := fun h_ => (i64_w _).symm.trans (hji28z h_)
                by_cases c29 : x5_1.length < 17592186044416
                ·rw [if_pos c29] at H
                 have LMc29 := Aside0.mk c29
                 clear c29
                 obtain ⟨y276, hy276⟩ : ∃ y_ : List Int, y_ = (x5_1 ++ [Go.bits .or .i64 (Go.bits .or .i64 x7_15 (ji24)) (ji28)]) := ⟨_, rfl⟩
                 replace H : (spec_GridNet.l0 kj15 a0 a1 y276 (wrap64 (x6_1 + 1))) = some r := by first | (rw [hy276]; with_reducible exact H) | (have H2_ := (Option.bind_some _ _).symm.trans H; rw [hy276]; with_reducible exact H2_) | (have H2_ := (Option.bind_some _ _).symm.trans H; with_reducible exact H2_) | with_reducible exact H | (rw [hy276]; exact H) | exact H
                 have Ny276 := Aside0.mk hy276
                 clear hy276
                 have H' := Aside0.mk H
                 clear H
                 go_wp2_with (first | ((with_reducible refine gate_builtin (b := .append) (xs := #[.tmp 62, .tmp 64]) rfl ?_); at_builtin; refine Kd.R_append (Kd.int .i64) (w0 := w) w.heap.size rfl (.tmp 62) (.tmp 64) 32 3 (.int .i64 0) 8 rfl Try.underlying32 info3 rfl (by decide) (by omega) u5 x5_1 (Go.bits .or .i64 (Go.bits .or .i64 x7_15 (ji24)) (ji28)) [.int .i64 (Go.bits .or .i64 (Go.bits .or .i64 x7_15 (ji24)) (ji28))] (fun _ => True) (fun _ => False) rfl rfl ?aP (fun _ hk => hk.elim) ?aF ?aO ?aB ?aS ?aL ?_; (case aP => exact rfl); (case aB => exact (zB HB.out)); (case aF => exact (fun _ _ => trivial)); (case aO => exact (zR HO_5.out)); (case aS => exact (below_size (zB HB.out))); (case aL => have := LMc29.out; omega); intro v277 w30 ho hb hg hat; rw [← Ny276.out] at ho; have n0_ := Aside0.mk (hb); have n1_ := Aside0.mk (ho); clear HB; clear HO_5; have HB := n0_; have HO278 := n1_; clear n0_ n1_; clear ho hb hg hat))
                 go_roundg kj15
                 case measure => have := HK1.out; have := HJ4.out; have := HJ9.out; have := HJ15.out; omega
                 case rel => exact ⟨(y276), (wrap64 (x6_1 + 1)), (by first | rfl | (simp; done) | (simp [*]; done)), H', ⟨by have := HK1.out; have := HJ4.out; have := HJ9.out; have := HJ15.out; omega⟩, ⟨by (with_reducible repeat (first | apply Kd.R_alloc | apply Kd.R_drewN | apply Kd.R_drew)); exact HO278.out⟩, ⟨zB HB.out⟩⟩
                ·rw [if_neg c29] at H
                 exact absurd H (by simp)
               ·rw [if_neg c27] at H
                exact absurd H (by simp)
              ·rw [if_neg c25] at H
               have c25b0 : decide (x6_1 < (wrap64 ((wrap64 (a0 - 1)) * a1))) = false := decide_eq_false c25
               clear c25
               by_cases c31 : x5_1.length < 17592186044416
               ·rw [if_pos c31] at H
                have LMc31 := Aside0.mk c31
                clear c31
                obtain ⟨y279, hy279⟩ : ∃ y_ : List Int, y_ = (x5_1 ++ [Go.bits .or .i64 x7_15 (ji24)]) := ⟨_, rfl⟩
                replace H : (spec_GridNet.l0 kj15 a0 a1 y279 (wrap64 (x6_1 + 1))) = some r := by first | (rw [hy279]; with_reducible exact H) | (have H2_ := (Option.bind_some _ _).symm.trans H; rw [hy279]; with_reducible exact H2_) | (have H2_ := (Option.bind_some _ _).symm.trans H; with_reducible exact H2_) | with_reducible exact H | (rw [hy279]; exact H) | exact H
                have Ny279 := Aside0.mk hy279
                clear hy279
                have H' := Aside0.mk H
                clear H
                go_wp2_with (first | ((with_reducible refine gate_builtin (b := .append) (xs := #[.tmp 62, .tmp 64]) rfl ?_); at_builtin; refine Kd.R_append (Kd.int .i64) (w0 := w) w.heap.size rfl (.tmp 62) (.tmp 64) 32 3 (.int .i64 0) 8 rfl Try.underlying32 info3 rfl (by decide) (by omega) u5 x5_1 (Go.bits .or .i64 x7_15 (ji24)) [.int .i64 (Go.bits .or .i64 x7_15 (ji24))] (fun _ => True) (fun _ => False) rfl rfl ?aP (fun _ hk => hk.elim) ?aF ?aO ?aB ?aS ?aL ?_; (case aP => exact rfl); (case aB => exact (zB HB.out)); (case aF => exact (fun _ _ => trivial)); (case aO => exact (zR HO_5.out)); (case aS => exact (below_size (zB HB.out))); (case aL => have := LMc31.out; omega); intro v280 w32 ho hb hg hat; rw [← Ny279.out] at ho; have n0_ := Aside0.mk (hb); have n1_ := Aside0.mk (ho); clear HB; clear HO_5; have HB := n0_; have HO281 := n1_; clear n0_ n1_; clear ho hb hg hat))
                go_roundg kj15
                case measure => have := HK1.out; have := HJ4.out; have := HJ9.out; have := HJ15.out; omega
                case rel => exact ⟨(y279), (wrap64 (x6_1 + 1)), (by first | rfl | (simp; done) | (simp [*]; done)), H', ⟨by have := HK1.out; have := HJ4.out; have := HJ9.out; have := HJ15.out; omega⟩, ⟨by (with_reducible repeat (first | apply Kd.R_alloc | apply Kd.R_drewN | apply Kd.R_drew)); exact HO281.out⟩, ⟨zB HB.out⟩⟩
               ·rw [if_neg c31] at H
                exact absurd H (by simp)
             ·rw [if_neg c23] at H
              exact absurd H (by simp)
            ·rw [if_neg c21] at H
             have c21b0 : decide (a1 ≤ x6_1) = false := decide_eq_false c21
             clear c21
             by_cases c33 : x6_1 < (wrap64 ((wrap64 (a0 - 1)) * a1))
             ·rw [if_pos c33] at H
              have c33b0 : decide (x6_1 < (wrap64 ((wrap64 (a0 - 1)) * a1))) = true := decide_eq_true c33
              clear c33
              obtain ⟨ji34, hji34⟩ : ∃ j_ : Int, (wrap64 (x6_1 + a1)) = j_ := ⟨_, rfl⟩
              replace H : (if 0 ≤ (ji34) then (if x5_1.length < 17592186044416 then (spec_GridNet.l0 kj15 a0 a1 (x5_1 ++ [Go.bits .or .i64 x7_15 (shl .i64 1 (ji34))]) (wrap64 (x6_1 + 1))) else (none)) else (none)) = some r := by first | (rw [hji34] at H; exact H) | (simp only [hji34] at H ⊢; exact H)
              have hji34w : (IntKind.i64.wrap (x6_1 + a1)) = ji34 := (i64_w _).trans hji34
              by_cases c35 : 0 ≤ (ji34)
              ·rw [if_pos c35] at H
               have c35b0 := eq_true c35
               have c35b1 : decide (0 ≤ (ji34)) = true := decide_eq_true c35
               clear c35
               obtain ⟨ji36, hji36⟩ : ∃ j_ : Int, (shl .i64 1 (ji34)) = j_ := ⟨_, rfl⟩
               replace H : (if x5_1.length < 17592186044416 then (spec_GridNet.l0 kj15 a0 a1 (x5_1 ++ [Go.bits .or .i64 x7_15 (ji36)]) (wrap64 (x6_1 + 1))) else (none)) = some r := by first | (rw [hji36] at H; exact H) | (simp only [hji36] at H ⊢; exact H)
               have hji36_ : (IntKind.i64.wrap (1 * 2 ^ min (ji34).toNat 64)) = ji36 := hji36
               have hji36z : (ji34) ≤ 64 → (IntKind.i64.wrap (1 * 2 ^ (ji34).toNat)) = ji36 := shl_small hji36
               have hji36u : (IntKind.i64.wrap (2 ^ min (ji34).toNat 64)) = ji36 := by have h_ := hji36_; rw [Int.one_mul] at h_; exact h_
               have hji36v : (ji34) ≤ 64 → (IntKind.i64.wrap (2 ^ (ji34).toNat)) = ji36 := fun hle_ => by have h_ := hji36z hle_; rw [Int.one_mul] at h_; exact h_
               have hji36y : (wrap64 (1 * 2 ^ min (ji34).toNat 64)) = ji36 := (i64_w _).symm.trans hji36_
               have hji36x : (ji34) ≤ 64 → (wrap64 (1 * 2 ^ (ji34).toNat)) = ji36 := fun h_ => (i64_w _).symm.trans (hji36z h_)
               by_cases c37 : x5_1.length < 17592186044416
               ·rw [if_pos c37] at H
                have LMc37 := Aside0.mk c37
                clear c37
                obtain ⟨y282, hy282⟩ : ∃ y_ : List Int, y_ = (x5_1 ++ [Go.bits .or .i64 x7_15 (ji36)]) := ⟨_, rfl⟩
                replace H : (spec_GridNet.l0 kj15 a0 a1 y282 (wrap64 (x6_1 + 1))) = some r := by first | (rw [hy282]; with_reducible exact H) | (have H2_ := (Option.bind_some _ _).symm.trans H; rw [hy282]; with_reducible exact H2_) | (have H2_ := (Option.bind_some _ _).symm.trans H; with_reducible exact H2_) | with_reducible exact H | (rw [hy282]; exact H) | exact H
                have Ny282 := Aside0.mk hy282
                clear hy282
                have H' := Aside0.mk H
                clear H
                go_wp2_with (first | ((with_reducible refine gate_builtin (b := .append) (xs := #[.tmp 62, .tmp 64]) rfl ?_); at_builtin; refine Kd.R_append (Kd.int .i64) (w0 := w) w.heap.size rfl (.tmp 62) (.tmp 64) 32 3 (.int .i64 0) 8 rfl Try.underlying32 info3 rfl (by decide) (by omega) u5 x5_1 (Go.bits .or .i64 x7_15 (ji36)) [.int .i64 (Go.bits .or .i64 x7_15 (ji36))] (fun _ => True) (fun _ => False) rfl rfl ?aP (fun _ hk => hk.elim) ?aF ?aO ?aB ?aS ?aL ?_; (case aP => exact rfl); (case aB => exact (zB HB.out)); (case aF => exact (fun _ _ => trivial)); (case aO => exact (zR HO_5.out)); (case aS => exact (below_size (zB HB.out))); (case aL => have := LMc37.out; omega); intro v283 w38 ho hb hg hat; rw [← Ny282.out] at ho; have n0_ := Aside0.mk (hb); have n1_ := Aside0.mk (ho); clear HB; clear HO_5; have HB := n0_; have HO284 := n1_; clear n0_ n1_; clear ho hb hg hat))
                go_roundg kj15
                case measure => have := HK1.out; have := HJ4.out; have := HJ9.out; have := HJ15.out; omega
                case rel => exact ⟨(y282), (wrap64 (x6_1 + 1)), (by first | rfl | (simp; done) | (simp [*]; done)), H', ⟨by have := HK1.out; have := HJ4.out; have := HJ9.out; have := HJ15.out; omega⟩, ⟨by (with_reducible repeat (first | apply Kd.R_alloc | apply Kd.R_drewN | apply Kd.R_drew)); exact HO284.out⟩, ⟨zB HB.out⟩⟩
               ·rw [if_neg c37] at H
                exact absurd H (by simp)
              ·rw [if_neg c35] at H
               exact absurd H (by simp)
             ·rw [if_neg c33] at H
              have c33b0 : decide (x6_1 < (wrap64 ((wrap64 (a0 - 1)) * a1))) = false := decide_eq_false c33
              clear c33
              by_cases c39 : x5_1.length < 17592186044416
              ·rw [if_pos c39] at H
               have LMc39 := Aside0.mk c39
               clear c39
               obtain ⟨y285, hy285⟩ : ∃ y_ : List Int, y_ = (x5_1 ++ [x7_15]) := ⟨_, rfl⟩
               replace H : (spec_GridNet.l0 kj15 a0 a1 y285 (wrap64 (x6_1 + 1))) = some r := by first | (rw [hy285]; with_reducible exact H) | (have H2_ := (Option.bind_some _ _).symm.trans H; rw [hy285]; with_reducible exact H2_) | (have H2_ := (Option.bind_some _ _).symm.trans H; with_reducible exact H2_) | with_reducible exact H | (rw [hy285]; exact H) | exact H
               have Ny285 := Aside0.mk hy285
               clear hy285
               have H' := Aside0.mk H
               clear H
               go_wp2_with (first | ((with_reducible refine gate_builtin (b := .append) (xs := #[.tmp 62, .tmp 64]) rfl ?_); at_builtin; refine Kd.R_append (Kd.int .i64) (w0 := w) w.heap.size rfl (.tmp 62) (.tmp 64) 32 3 (.int .i64 0) 8 rfl Try.underlying32 info3 rfl (by decide) (by omega) u5 x5_1 x7_15 [.int .i64 x7_15] (fun _ => True) (fun _ => False) rfl rfl ?aP (fun _ hk => hk.elim) ?aF ?aO ?aB ?aS ?aL ?_; (case aP => exact rfl); (case aB => exact (zB HB.out)); (case aF => exact (fun _ _ => trivial)); (case aO => exact (zR HO_5.out)); (case aS => exact (below_size (zB HB.out))); (case aL => have := LMc39.out; omega); intro v286 w40 ho hb hg hat; rw [← Ny285.out] at ho; have n0_ := Aside0.mk (hb); have n1_ := Aside0.mk (ho); clear HB; clear HO_5; have HB := n0_; have HO287 := n1_; clear n0_ n1_; clear ho hb hg hat))
               go_roundg kj15
               case measure => have := HK1.out; have := HJ4.out; have := HJ9.out; have := HJ15.out; omega
               case rel => exact ⟨(y285), (wrap64 (x6_1 + 1)), (by first | rfl | (simp; done) | (simp [*]; done)), H', ⟨by have := HK1.out; have := HJ4.out; have := HJ9.out; have := HJ15.out; omega⟩, ⟨by (with_reducible repeat (first | apply Kd.R_alloc | apply Kd.R_drewN | apply Kd.R_drew)); exact HO287.out⟩, ⟨zB HB.out⟩⟩
              ·rw [if_neg c39] at H
               exact absurd H (by simp)
     ·replace c8 := Bool.eq_false_iff.mpr c8
      subst c8
      have H1 : (some x5_1) = some r := by rw [if_neg (show ¬ (false = true) by decide)] at H; exact H
      clear H
      have H := H1
      clear H1
      obtain rfl := Option.some.inj H
      go_wp2
      go_ret
      exact ⟨_, by first | rfl | (simp [errW_none, errW_some] <;> rfl) | (simp [*, errW_none, errW_some] <;> rfl), by (with_reducible repeat (first | apply Kd.R_alloc | apply Kd.R_drewN | apply Kd.R_drew)); exact HO_5.out, zB HB.out⟩

/-! ### impl_GridNet: function 27 -/
abbrev impl_GridNet.orB (L : List Int) (a b : Int) : Int := Go.bits .or .i64 (rdOf 0 L a) (wrap64 (2 ^ min b.toNat 64))
def impl_GridNet.joinL (L : List Int) (a b : Int) : List Int := (L.set a.toNat (impl_GridNet.orB L a b)).set b.toNat (impl_GridNet.orB (L.set a.toNat (impl_GridNet.orB L a b)) b a)
/-- The row that is filled, and the box that holds it. -/
structure impl_GridNet.G (w : World) (bx n : Nat) (Ao : Option Addr) (co : Nat) (L : List Int) (W : World) : Prop where
 row : Kd.R (Kd.int .i64) 3 W w.heap.size (fun k => k ≠ bx) (.slice Ao n co) L
 len : L.length = n
 box : W.heap[bx]? = some (.cells #[.slice Ao n co] 32 (0, 0))
 below : Below w.heap.size w W
theorem impl_GridNet.G.put {w : World} {bx n g co : Nat} {L : List Int} {W : World} (h : impl_GridNet.G w bx n (some ⟨g, 0, none⟩) co L W) (hg : w.heap.size ≤ g) (i x : Int) : impl_GridNet.G w bx n (some ⟨g, 0, none⟩) co (L.set i.toNat x) (W.setCell ⟨g, i.toNat, none⟩ (.int .i64 x)) := by
 refine ⟨(Kd.R_putg h.row i x).1, by rw [List.length_set]; exact h.len, ?_, below_set h.below hg⟩
 rw [Below.heap_setCell _ _ _ _ (by have := h.row.1 g rfl; show bx ≠ g; omega)]; exact h.box
theorem impl_GridNet.G.drew {w : World} {bx n co : Nat} {Ao : Option Addr} {L : List Int} {W : World} (h : impl_GridNet.G w bx n Ao co L W) : impl_GridNet.G w bx n Ao co L W.drew :=
 ⟨Kd.R_drew h.row, h.len, h.box, below_drew1 h.below⟩
set_option maxHeartbeats 8000000 in
set_option maxRecDepth 100000 in
theorem impl_GridNet.lit (w W : World) (bx n : Nat) (Ao : Option Addr) (co : Nat) (L : List Int) (a b : Int) (ha : 0 ≤ a) (ha2 : a < n) (hb : 0 ≤ b) (hb2 : b < n) (h : impl_GridNet.G w bx n Ao co L W) :
  Calls Try.prog 40 (#[.int .i64 a, .int .i64 b] ++ #[.pointer (some ⟨bx, 0, none⟩)]) W fun e w' => e = .returned (.tuple #[]) ∧ impl_GridNet.G w bx n Ao co (impl_GridNet.joinL L a b) w' := by
 have hl := h.len
 have hform := Kd.R_form h.row (by omega)
 obtain ⟨go, co2, e1, gb, gl, HG⟩ := hform
 obtain ⟨rfl, rfl⟩ : Ao = some ⟨go, 0, none⟩ ∧ co = co2 := by
  injection e1 with e1 e2 e3
  exact ⟨e1, e3⟩
 have h1 := Aside0.mk (h.put gb a (impl_GridNet.orB L a b)).drew
 obtain ⟨x0, f0⟩ := Kd.R_celln 0 h.row a ha ha2
 have X0 := cell_of_one h.box
 have p1 : decide (a < (n : Int)) = true := decide_eq_true ha2
 have p2 : decide (b < (n : Int)) = true := decide_eq_true hb2
 have p3 : decide (0 ≤ a) = true := decide_eq_true ha
 have p4 : decide (0 ≤ b) = true := decide_eq_true hb
 have GB := Aside0.mk gb
 clear h e1 gb gl HG hl
 refine calls_of_args (args' := #[.int .i64 a, .int .i64 b, .pointer (some ⟨bx, 0, none⟩)]) rfl ?_
 go_enter Try.func40, Try.ntmps40
 go_wp2
 go_region
 clear x0 f0 X0
 obtain ⟨v, hv⟩ : ∃ v, v = impl_GridNet.orB L a b := ⟨_, rfl⟩
 obtain ⟨L1, hL⟩ : ∃ L1, L1 = L.set a.toNat v := ⟨_, rfl⟩
 have hv2 : Go.bits .or .i64 (rdOf 0 L a) (wrap64 (2 ^ min b.toNat 64)) = v := hv.symm
 rw [← hv, ← hL] at h1
 have HJ : Aside0 (impl_GridNet.joinL L a b = L1.set b.toNat (impl_GridNet.orB L1 b a)) := ⟨by unfold impl_GridNet.joinL; rw [← hv, ← hL]⟩
 rw [hv2]
 clear hv2 hv hL
 generalize (W.setCell ⟨go, a.toNat, none⟩ (.int .i64 v)).drew = W1 at h1 ⊢
 have h2 := Aside0.mk (h1.out.put GB.out b (impl_GridNet.orB L1 b a)).drew
 obtain ⟨x1, f1⟩ := Kd.R_celln 0 h1.out.row b hb hb2
 have X1 := cell_of_one h1.out.box
 go_wp2
 go_region
 go_wp2
 go_end0
 exact ⟨rfl, by rw [HJ.out]; exact h2.out⟩
def impl_GridNet.joinG (L : List Int) (a b : Int) : Option (List Int) := if 0 ≤ a ∧ a < L.length ∧ 0 ≤ b ∧ b < L.length then some (impl_GridNet.joinL L a b) else none
def impl_GridNet.l0 (a0 a1 n : Int) : Nat → List Int → Int → Option (List Int)
 | 0, _, _ => none
 | k + 1, L, i => if i < n then (if a1 = 0 then none else (if i % a1 < wrap64 (a1 - 1) then impl_GridNet.joinG L i (wrap64 (i + 1)) else some L).bind fun L1 => (if wrap64 (Int.tdiv i a1) < wrap64 (a0 - 1) then impl_GridNet.joinG L1 i (wrap64 (i + a1)) else some L1).bind fun L2 => impl_GridNet.l0 a0 a1 n k L2 (wrap64 (i + 1))) else some L
def impl_GridNet.f (k : Nat) (a0 a1 : Int) : Option (List Int) := (impl_gridOk.f a0 a1).bind fun t => if t = true then (if 1 ≤ wrap64 (a0 * a1) ∧ wrap64 (a0 * a1) ≤ 6 then impl_GridNet.l0 a0 a1 (wrap64 (a0 * a1)) k (List.replicate (wrap64 (a0 * a1)).toNat 0) 0 else none) else some []
theorem impl_GridNet.mono_l (a0 a1 n : Int) : ∀ k L i, LeO (impl_GridNet.l0 a0 a1 n k L i) (impl_GridNet.l0 a0 a1 n (k + 1) L i)
 | 0, _, _ => fun r h => by simp [impl_GridNet.l0] at h
 | k + 1, L, i => by
  rw [impl_GridNet.l0, impl_GridNet.l0]
  exact LeO.ite (LeO.ite (LeO.refl _) (LeO.bind (LeO.refl _) (fun _ => LeO.bind (LeO.refl _) (fun _ => impl_GridNet.mono_l a0 a1 n k _ _)))) (LeO.refl _)
theorem impl_GridNet.mono : ∀ a0 a1 k, LeO (impl_GridNet.f k a0 a1) (impl_GridNet.f (k + 1) a0 a1) := by
 intro a0 a1 k
 unfold impl_GridNet.f
 exact LeO.bind (LeO.refl _) (fun _ => LeO.ite (LeO.ite (impl_GridNet.mono_l _ _ _ _ _ _) (LeO.refl _)) (LeO.refl _))
theorem impl_GridNet.goesV {P : Program} {ops : Array Oper} {Q : Exit → Act → World → Prop} {rest : List Oper} {oi : Oper} {a : Act} {w : World} (hg : oi.guard = none) {f : FuncId} {fn : Func} (c : Operand) {xs : Array Operand} {ts : Array TypeId} {caps : Array Value} (hf : P.funcs[f]? = some fn) (hname : (fn.name == "runtime.NumGoroutine") = false) (hb : fn.body.isSome = true) (args : Array Value)
  (hop : oi.op = .call { callee := .value c, args := xs, argTypes := ts }) (hc : a.eval c = .func (.func f) #[] caps) (hargs : xs.map a.eval = args)
  (h : Calls P f (args ++ caps) w fun e w' => ∃ v, e = .returned v ∧ wpList P ops Q rest (a.put oi.dst v) w') : wpList P ops Q (oi :: rest) a w := by
 refine wpList_plain hg fun K hK => ?_
 have he := enters_ hf hname hb (args ++ caps) w
 have hrun : (execOp a.eval oi).run P w = .ok (.enter f (args ++ caps)) w := by
  unfold execOp
  simp [hop, resolve, Deferred.ofValue, invoke, hc, hargs, he]
 unfold Oper.wp
 rw [hrun, Oper.upon_enter]
 refine h.mono fun e w'' hh => ?_
 obtain ⟨v, rfl, hk⟩ := hh
 exact hK _ _ hk
theorem impl_GridNet.gateV {P : Program} {ops : Array Oper} {Q : Exit → Act → World → Prop} {rest : List Oper} {o : Oper} {a : Act} {W : World} (n : Nat) {xs : Array Operand} {ts : Array TypeId} (_ho : o.op = .call { callee := .value (.tmp n), args := xs, argTypes := ts }) (h : wpList P ops Q (o :: rest) a W) : wpList P ops Q (o :: rest) a W := h
set_option maxHeartbeats 8000000 in
set_option maxRecDepth 100000 in
theorem impl_GridNet.calls (k : Nat) (a0 : Int) (a1 : Int) (r : List Int) (w : World) (h : impl_GridNet.f k a0 a1 = some r) :
  Calls Try.prog 27 #[.int .i64 a0, .int .i64 a1] w fun e w' => ∃ v0_ : Value, e = .returned v0_ ∧ Kd.R (Kd.int .i64) 3 w' w.heap.size (fun _ => True) v0_ r ∧ Below w.heap.size w w' := by
 obtain ⟨t, h1, h2⟩ := Option.bind_eq_some_iff.1 h
 have HB := Aside0.mk (Below.refl w.heap.size w)
 have A4 := Aside0.mk h1
 have hmf : ∀ (fn : Fn) (first cap : Array Value) (w : World), (Instr.makeFunc fn first cap).run Try.prog w = .ok (.func fn first cap) w := fun _ _ _ _ => rfl
 cases t
 ·rw [if_neg (by decide)] at h2
  obtain rfl := Option.some.inj h2
  clear h h1 h2
  go_enter Try.func27, Try.ntmps27
  go_wp2_with ((with_reducible refine gate_callee (f := 39) rfl ?_); refine goesL_ (some 10) rfl rfl Try.func39 (by kernel_rfl) rfl #[.int .i64 a0, .int .i64 a1] rfl zA ?_; (with_reducible refine (impl_gridOk.calls a0 a1 false _ A4.out).mono ?_); rintro e w' ⟨rfl, ⟨nd, rfl⟩⟩; refine ⟨_, rfl, ?_⟩)
  go_ret
  exact ⟨_, rfl, Kd.R_nil _ _ _ _ _, zB HB.out⟩
 rw [if_pos rfl] at h2
 by_cases hn : 1 ≤ wrap64 (a0 * a1) ∧ wrap64 (a0 * a1) ≤ 6
 ·rw [if_pos hn] at h2
  obtain ⟨n, en⟩ := Int.eq_ofNat_of_zero_le (show 0 ≤ wrap64 (a0 * a1) by omega)
  rw [en] at h2 hn
  rw [Int.toNat_natCast] at h2
  have H' := Aside0.mk h2
  have HN := Aside0.mk hn
  clear h h1 h2
  go_enter Try.func27, Try.ntmps27
  go_wp2_with (first | ((with_reducible refine gate_callee (f := 39) rfl ?_); refine goesL_ (some 10) rfl rfl Try.func39 (by kernel_rfl) rfl #[.int .i64 a0, .int .i64 a1] rfl zA ?_; (with_reducible refine (impl_gridOk.calls a0 a1 true _ A4.out).mono ?_); rintro e w' ⟨rfl, ⟨nd, rfl⟩⟩; refine ⟨_, rfl, ?_⟩) | ((with_reducible refine gate_dst (N := 15) rfl ?_); refine Kd.R_make (Kd.int .i64) _ 3 rfl (N := 15) rfl 32 _ _ rfl (wrap64 (a0 * a1)) rfl rfl Try.underlying32 (.int .i64 0) 8 info3 rfl (by decide) (by omega) 0 (ok := fun _ => True) (okp := fun _ => True) rfl (fun _ hk => hk) trivial (by omega) (by omega) (Below.refl _ _) (Nat.le_refl _) ?_; intro v1 w4 ho5 hb hg_ hnew_; have n0_ := Aside0.mk (Kd.R_lower ho5 (below_size (zB HB.out))); have n1_ := Aside0.mk (below_step (zB HB.out) hb); clear HB; have HO := n0_; have HB := n1_; clear n0_ n1_; clear hb ho5; obtain ⟨Ao, co, eo⟩ := Kd.R_slice HO.out; subst eo; have hlen : (List.replicate (wrap64 (a0 * a1)).toNat (0 : Int)).length = n := by rw [List.length_replicate, en]; rfl))
  rw [hlen, en, Int.toNat_natCast] at HO
  have HG0 : Aside0 (impl_GridNet.G w w4.heap.size n Ao co (List.replicate n 0) (w4.alloc (.cells #[.slice Ao n co] 32))) :=
   ⟨⟨Kd.R_alloc (Kd.R_mono (Kd.R_elderB HO.out w4.heap.size (Nat.le_refl _)) (fun _ hk => hk.2)) _, by simp, heap_alloc_new _ _, below_alloc HB.out _⟩⟩
  clear HO HB hlen
  go_loopg [19] k (fun kq v19 w' => ∃ (L : List Int) (i : Int), v19 = .int .i64 i ∧ Aside0 (impl_GridNet.l0 a0 a1 n kq L i = some r) ∧ Aside0 (0 ≤ i) ∧ Aside0 (impl_GridNet.G w w4.heap.size n Ao co L w'))
  case atStart => exact ⟨_, 0, rfl, H', ⟨by omega⟩, HG0⟩
  case round =>
   clear H' HG0
   obtain ⟨L, i, rfl, HA, Hi, HG⟩ := hrel
   have hi := Hi.out
   have X := cell_of_one HG.out.box
   cases gk with
   | zero => exact absurd HA.out (by simp [impl_GridNet.l0])
   | succ k2 =>
    have H := HA.out
    clear HA
    simp only [impl_GridNet.l0] at H
    by_cases c1 : i < (n : Int)
    ·rw [if_pos c1] at H
     have c1b : decide (i < (n : Int)) = true := decide_eq_true c1
     by_cases c2 : a1 = 0
     ·rw [if_pos c2] at H; cases H
     rw [if_neg c2] at H
     have c2b : (a1 == 0) = false := beq_eq_false_iff_ne.2 c2
     obtain ⟨L1, h1, H⟩ := Option.bind_eq_some_iff.1 H
     obtain ⟨L2, h2, H⟩ := Option.bind_eq_some_iff.1 H
     have H' := Aside0.mk H
     have hlen := HG.out.len
     clear H
     have hw : 0 ≤ wrap64 (i + 1) := by have := HN.out; unfold wrap64; omega
     by_cases c3 : i % a1 < wrap64 (a1 - 1)
     ·rw [if_pos c3] at h1
      have c3b : decide (i % a1 < wrap64 (a1 - 1)) = true := decide_eq_true c3
      unfold impl_GridNet.joinG at h1
      by_cases d1 : 0 ≤ i ∧ i < L.length ∧ 0 ≤ wrap64 (i + 1) ∧ wrap64 (i + 1) < L.length
      ·rw [if_pos d1] at h1
       obtain rfl := Option.some.inj h1
       have HC1 := Aside0.mk (impl_GridNet.lit w _ w4.heap.size n Ao co L i (wrap64 (i + 1)) d1.1 (by omega) d1.2.2.1 (by omega) HG.out)
       clear h1 d1
       by_cases c4 : wrap64 (Int.tdiv i a1) < wrap64 (a0 - 1)
       ·rw [if_pos c4] at h2
        have c4b : decide (wrap64 (Int.tdiv i a1) < wrap64 (a0 - 1)) = true := decide_eq_true c4
        unfold impl_GridNet.joinG at h2
        by_cases d2 : 0 ≤ i ∧ i < (impl_GridNet.joinL L i (wrap64 (i + 1))).length ∧ 0 ≤ wrap64 (i + a1) ∧ wrap64 (i + a1) < (impl_GridNet.joinL L i (wrap64 (i + 1))).length
        ·rw [if_pos d2] at h2
         obtain rfl := Option.some.inj h2
         have hl1 : (impl_GridNet.joinL L i (wrap64 (i + 1))).length = n := by unfold impl_GridNet.joinL; simp [hlen]
         have HC2 : Aside0 (∀ W, impl_GridNet.G w w4.heap.size n Ao co (impl_GridNet.joinL L i (wrap64 (i + 1))) W → Calls Try.prog 40 _ W _) := ⟨fun W hW => impl_GridNet.lit w W w4.heap.size n Ao co (impl_GridNet.joinL L i (wrap64 (i + 1))) i (wrap64 (i + a1)) d2.1 (by omega) d2.2.2.1 (by omega) hW⟩
         clear h2 d2 hl1 hlen c1 c3 c4
         go_wp2_with (first | ((with_reducible refine impl_GridNet.gateV 28 rfl ?_); refine impl_GridNet.goesV rfl (.tmp 28) Try.func40 (by kernel_rfl) rfl #[.int .i64 i, .int .i64 (wrap64 (i + 1))] rfl rfl zA ?_; (with_reducible refine HC1.out.mono ?_); rintro e w2 ⟨rfl, hg2⟩; refine ⟨_, rfl, ?_⟩; have HG2 := Aside0.mk hg2; clear hg2) | ((with_reducible refine impl_GridNet.gateV 39 rfl ?_); refine impl_GridNet.goesV rfl (.tmp 39) Try.func40 (by kernel_rfl) rfl #[.int .i64 i, .int .i64 (wrap64 (i + a1))] rfl rfl zA ?_; (with_reducible refine (HC2.out _ HG2.out).mono ?_); rintro e w3 ⟨rfl, hg3⟩; refine ⟨_, rfl, ?_⟩; have HG3 := Aside0.mk hg3; clear hg3))
         go_roundg k2
         case rel => exact ⟨_, _, rfl, H', ⟨hw⟩, HG3⟩
         all_goals omega
        ·rw [if_neg d2] at h2; cases h2
       ·rw [if_neg c4] at h2
        have c4b : decide (wrap64 (Int.tdiv i a1) < wrap64 (a0 - 1)) = false := decide_eq_false c4
        obtain rfl := Option.some.inj h2
        clear h2 hlen c1 c3 c4
        go_wp2_with ((with_reducible refine impl_GridNet.gateV 28 rfl ?_); refine impl_GridNet.goesV rfl (.tmp 28) Try.func40 (by kernel_rfl) rfl #[.int .i64 i, .int .i64 (wrap64 (i + 1))] rfl rfl zA ?_; (with_reducible refine HC1.out.mono ?_); rintro e w2 ⟨rfl, hg2⟩; refine ⟨_, rfl, ?_⟩; have HG2 := Aside0.mk hg2; clear hg2)
        go_roundg k2
        case rel => exact ⟨_, _, rfl, H', ⟨hw⟩, HG2⟩
        all_goals omega
      ·rw [if_neg d1] at h1; cases h1
     ·rw [if_neg c3] at h1
      have c3b : decide (i % a1 < wrap64 (a1 - 1)) = false := decide_eq_false c3
      obtain rfl := Option.some.inj h1
      by_cases c4 : wrap64 (Int.tdiv i a1) < wrap64 (a0 - 1)
      ·rw [if_pos c4] at h2
       have c4b : decide (wrap64 (Int.tdiv i a1) < wrap64 (a0 - 1)) = true := decide_eq_true c4
       unfold impl_GridNet.joinG at h2
       by_cases d2 : 0 ≤ i ∧ i < L.length ∧ 0 ≤ wrap64 (i + a1) ∧ wrap64 (i + a1) < L.length
       ·rw [if_pos d2] at h2
        obtain rfl := Option.some.inj h2
        have HC2 : Aside0 (∀ W, impl_GridNet.G w w4.heap.size n Ao co L W → Calls Try.prog 40 _ W _) := ⟨fun W hW => impl_GridNet.lit w W w4.heap.size n Ao co _ i (wrap64 (i + a1)) d2.1 (by omega) d2.2.2.1 (by omega) hW⟩
        clear h2 d2 hlen c1 c3 c4
        go_wp2_with ((with_reducible refine impl_GridNet.gateV 39 rfl ?_); refine impl_GridNet.goesV rfl (.tmp 39) Try.func40 (by kernel_rfl) rfl #[.int .i64 i, .int .i64 (wrap64 (i + a1))] rfl rfl zA ?_; (with_reducible refine (HC2.out _ HG.out).mono ?_); rintro e w3 ⟨rfl, hg3⟩; refine ⟨_, rfl, ?_⟩; have HG3 := Aside0.mk hg3; clear hg3)
        go_roundg k2
        case rel => exact ⟨_, _, rfl, H', ⟨hw⟩, HG3⟩
        all_goals omega
       ·rw [if_neg d2] at h2; cases h2
      ·rw [if_neg c4] at h2
       have c4b : decide (wrap64 (Int.tdiv i a1) < wrap64 (a0 - 1)) = false := decide_eq_false c4
       obtain rfl := Option.some.inj h2
       clear h2 hlen c1 c3 c4
       go_wp2
       go_roundg k2
       case rel => exact ⟨_, _, rfl, H', ⟨hw⟩, HG⟩
       all_goals omega
    ·rw [if_neg c1] at H
     have c1b : decide (i < (n : Int)) = false := decide_eq_false c1
     obtain rfl := Option.some.inj H
     clear H c1
     go_wp2
     go_ret
     exact ⟨_, rfl, Kd.R_mono HG.out.row (fun _ _ => trivial), HG.out.below⟩
 ·rw [if_neg hn] at h2; cases h2

end Go.Proofs.Ythgboknndmiedaa.PAll
