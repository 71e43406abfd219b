/- Own text of this session, written by a program of this session (wip/t/own.py) out of what the kit tells of the functions: each Go function as a Lean function, and the walk through its code. -/
import Derived.Test.YthgboknndmiedaaT
import Derived.Test.YthgboknndmiedaaF7
import Derived.Test.YthgboknndmiedaaF9
namespace Go.Proofs.Ythgboknndmiedaa.PAll
open Go.RowKit Go.Proofs.YthgboknndmiedaaW.PrintWords Go.Proofs.YthgboknndmiedaaW.PrintLast Go.Proofs.YthgboknndmiedaaW.PrintMore
attribute [local go_sem] max2_int min2_int max_two min_two max_three min_three max_four min_four   -- for this text's walks alone
set_option linter.unusedVariables false
set_option linter.unusedSimpArgs false

/-! ### spec_SquareTours: function 28 -/
mutual
def spec_SquareTours.l0 : Nat → Int → Int → List (List Int) → Int → Option ((List (List Int)))
 | 0, _, _, _, _ => none
 | k + 1, x0, x1, x5, x6 => (spec_l12Ok.f x0 x1).bind fun t322 => (if t322 = true then (spec_SquareTours.j1 k x0 x1 x5 x6 (decide (x6 < (wrap64 (x0 * x1))))) else (spec_SquareTours.j1 k x0 x1 x5 x6 false))
def spec_SquareTours.j1 : Nat → Int → Int → List (List Int) → Int → Bool → Option ((List (List Int)))
 | 0, _, _, _, _, _ => none
 | k + 1, x0, x1, x5, x6, x17 => if x17 = true then (if x1 = 0 then (none) else (if (Int.tmod x6 x1) < (wrap64 (x1 - 1)) then (if x6 < (wrap64 ((wrap64 (x0 - 1)) * x1)) then (if x5.length < 5864062014805 then (spec_SquareTours.l0 k x0 x1 (x5 ++ [(([x6, wrap64 (x6 + 1), wrap64 ((wrap64 (x6 + x1)) + 1), wrap64 (x6 + x1), x6] : List Int))]) (wrap64 (x6 + 1))) else (none)) else (spec_SquareTours.l0 k x0 x1 x5 (wrap64 (x6 + 1)))) else (spec_SquareTours.l0 k x0 x1 x5 (wrap64 (x6 + 1))))) else (some x5)
end
def spec_SquareTours.f (k : Nat) (a0 : Int) (a1 : Int) : Option ((List (List Int))) := spec_SquareTours.l0 k a0 a1 (([] : List (List Int))) 0
theorem spec_SquareTours.mono_l : ∀ k, (∀ y0 y1 y2 y3, LeO (spec_SquareTours.l0 k y0 y1 y2 y3) (spec_SquareTours.l0 (k + 1) y0 y1 y2 y3)) ∧ (∀ y0 y1 y2 y3 y4, LeO (spec_SquareTours.j1 k y0 y1 y2 y3 y4) (spec_SquareTours.j1 (k + 1) y0 y1 y2 y3 y4))
 | 0 => ⟨fun _ _ _ _ r h => by simp [spec_SquareTours.l0] at h, fun _ _ _ _ _ r h => by simp [spec_SquareTours.j1] at h⟩
 | k + 1 => by
  obtain ⟨ih0, ih1⟩ := spec_SquareTours.mono_l k
  refine ⟨?_, ?_⟩
  ·intro y0 y1 y2 y3
   unfold spec_SquareTours.l0
   repeat' first
   | (with_reducible exact ih0 _ _ _ _)
   | (with_reducible exact ih1 _ _ _ _ _)
   | (with_reducible exact LeO.refl _)
   | (with_reducible exact LeO.none _)
   | (with_reducible refine LeO.ite ?_ ?_)
   | (with_reducible refine LeO.bind ?_ (fun _ => ?_))
   | exact ih0 _ _ _ _
   | exact ih1 _ _ _ _ _
   | exact LeO.none _
   | refine LeO.ite ?_ ?_
   | refine LeO.bind ?_ (fun _ => ?_)
  ·intro y0 y1 y2 y3 y4
   unfold spec_SquareTours.j1
   repeat' first
   | (with_reducible exact ih0 _ _ _ _)
   | (with_reducible exact ih1 _ _ _ _ _)
   | (with_reducible exact LeO.refl _)
   | (with_reducible exact LeO.none _)
   | (with_reducible refine LeO.ite ?_ ?_)
   | (with_reducible refine LeO.bind ?_ (fun _ => ?_))
   | exact ih0 _ _ _ _
   | exact ih1 _ _ _ _ _
   | exact LeO.none _
   | refine LeO.ite ?_ ?_
   | refine LeO.bind ?_ (fun _ => ?_)
theorem spec_SquareTours.mono : ∀ a0 a1 k, LeO (spec_SquareTours.f k a0 a1) (spec_SquareTours.f (k + 1) a0 a1) := by
 intro a0 a1 k
 obtain ⟨ih0, ih1⟩ := spec_SquareTours.mono_l k
 unfold spec_SquareTours.f
 repeat' first
   | (with_reducible exact ih0 _ _ _ _)
   | (with_reducible exact ih1 _ _ _ _ _)
   | (with_reducible exact LeO.refl _)
   | (with_reducible exact LeO.none _)
   | (with_reducible refine LeO.ite ?_ ?_)
   | (with_reducible refine LeO.bind ?_ (fun _ => ?_))
   | exact ih0 _ _ _ _
   | exact ih1 _ _ _ _ _
   | exact LeO.none _
   | refine LeO.ite ?_ ?_
   | refine LeO.bind ?_ (fun _ => ?_)
set_option maxHeartbeats 8000000 in
set_option maxRecDepth 100000 in
theorem spec_SquareTours.calls (k : Nat) (a0 : Int) (a1 : Int) (r : List (List Int)) (w : World) (h : spec_SquareTours.f k a0 a1 = some r) :
  Calls Try.prog 28 #[.int .i64 a0, .int .i64 a1] w fun e w' => ∃ v0_ : Value, e = .returned (v0_) ∧ Kd.S (Kd.slice 3 (Kd.int .i64)) 32 w' w.heap.size (fun _ => True) v0_ r ∧ Below w.heap.size w w' := by
 have HB := Aside0.mk (Below.refl w.heap.size w)
 have H : (spec_SquareTours.l0 k a0 a1 (([] : List (List Int))) 0) = some r := h
 clear h
 obtain ⟨y319, hy319⟩ : ∃ y_ : List (List Int), y_ = (([] : List (List Int))) := ⟨_, rfl⟩
 replace H : (spec_SquareTours.l0 k a0 a1 y319 0) = some r := by first | (rw [hy319]; with_reducible exact H) | (have H2_ := (Option.bind_some _ _).symm.trans H; rw [hy319]; with_reducible exact H2_) | (have H2_ := (Option.bind_some _ _).symm.trans H; with_reducible exact H2_) | with_reducible exact H | (rw [hy319]; exact H) | exact H
 have Ny319 := Aside0.mk hy319
 clear hy319
 have H' := Aside0.mk H
 clear H
 go_enter Try.func28, Try.ntmps28
 go_wp2_with (first | ((with_reducible refine gate_dst (N := 7) rfl ?_); refine Kd.S_lit (Kd.slice 3 (Kd.int .i64)) _ 32 ?hg (N := 7) ?hd (xs := ([] : List (List Int))) (inner := []) (ok := fun _ => True) (okp := fun _ => True) ?hr ?hp (fun _ hk => hk) trivial (Below.refl _ _) (Nat.le_refl _) (by simp) ?_; (case hd => rfl); (case hg => rfl); (case hr => first | (go_simp; done) | (go_simp; rfl)); (case hp => exact (Reps.none _ _)); intro v320 w3 ho4 hb hg_ hnew_; clear hg_ hnew_; (first | rw [← Ny319.out] at ho4 | (simp only [Int.reduceToNat] at ho4; rw [← Ny319.out] at ho4)); have n0_ := Aside0.mk (Kd.S_lower ho4 (below_size (zB HB.out))); have n1_ := Aside0.mk (below_step (zB HB.out) hb); clear HB; have HO321 := n0_; have HB := n1_; clear n0_ n1_; clear hb ho4))
 go_loopg [5, 6] k (fun kq v5 v6 w' => ∃ (x5_1 : List (List Int)) (x6_1 : Int), v6 = .int .i64 x6_1 ∧ Aside0 (spec_SquareTours.l0 kq a0 a1 x5_1 x6_1 = some r) ∧ Aside0 (kq ≤ k) ∧ Aside0 (Kd.S (Kd.slice 3 (Kd.int .i64)) 32 w' w.heap.size (fun _ => True) v5 x5_1) ∧ Aside0 (Below w.heap.size w w'))
 case atStart => exact ⟨(y319), (0), (by first | rfl | (simp; done) | (simp [*]; done)), H', ⟨Nat.le_refl _⟩, ⟨by (with_reducible repeat (first | apply Kd.S_alloc | apply Kd.S_drewN | apply Kd.S_drew)); exact HO321.out⟩, ⟨zB HB.out⟩⟩
 case round =>
  clear H'
  try clear c2
  try clear p2
  obtain ⟨x5_1, x6_1, rfl, HA, HK1, HO_5, HB⟩ := hrel
  cases gk with
  | zero => exact absurd HA.out (by simp [spec_SquareTours.l0])
  | succ k1 =>
   have H := HA.out
   clear HA
   simp only [spec_SquareTours.l0] at H
   have HC5 := Aside0.mk H
   clear H
   go_upto_region 3 with (fail)
   go_cut [17] (fun v17 wc => ∃ (kq : Nat) (x17_4 : Bool), v17 = .bool x17_4 ∧ Aside0 (spec_SquareTours.j1 kq a0 a1 x5_1 x6_1 x17_4 = some r) ∧ Aside0 (kq ≤ k1) ∧ Aside0 (Kd.S (Kd.slice 3 (Kd.int .i64)) 32 wc w.heap.size (fun _ => True) u5 x5_1) ∧ Aside0 (Below w.heap.size w wc))
   case first =>
    have H := HC5.out
    clear HC5
    replace H := Option.bind_eq_some_iff.mp H
    obtain ⟨t322, A60, H⟩ := H
    replace H : (if t322 = true then (spec_SquareTours.j1 k1 a0 a1 x5_1 x6_1 (decide (x6_1 < (wrap64 (a0 * a1))))) else (spec_SquareTours.j1 k1 a0 a1 x5_1 x6_1 false)) = some r := H
    have A6 := Aside0.mk A60
    clear A60
    by_cases c7 : t322 = true
    ·subst c7
     have H1 : (spec_SquareTours.j1 k1 a0 a1 x5_1 x6_1 (decide (x6_1 < (wrap64 (a0 * a1))))) = some r := by rw [if_pos rfl] at H; exact H
     clear H
     have H := H1
     clear H1
     have H' := Aside0.mk H
     clear H
     go_wp2_with (first | ((with_reducible refine gate_callee (f := 38) rfl ?_); refine goesL_ (some 10) rfl rfl Try.func38 (by kernel_rfl) rfl #[.int .i64 a0, .int .i64 a1] rfl zA ?_; (with_reducible refine (spec_l12Ok.calls a0 a1 true _ A6.out).mono ?_); rintro e w' ⟨rfl, ⟨nd, rfl⟩⟩; refine ⟨_, rfl, ?_⟩))
     go_meet
     case rel => exact ⟨_, (decide (x6_1 < (wrap64 (a0 * a1)))), (by first | rfl | (simp; done) | (simp [*]; done)), H', ⟨by have := HK1.out; first | omega | exact Nat.le_refl _⟩, ⟨by (with_reducible repeat (first | apply Kd.S_alloc | apply Kd.S_drewN | apply Kd.S_drew)); exact HO_5.out⟩, ⟨zB HB.out⟩⟩
    ·replace c7 := Bool.eq_false_iff.mpr c7
     subst c7
     have H1 : (spec_SquareTours.j1 k1 a0 a1 x5_1 x6_1 false) = some r := by rw [if_neg (show ¬ (false = true) by decide)] at H; exact H
     clear H
     have H := H1
     clear H1
     have H' := Aside0.mk H
     clear H
     go_wp2_with (first | ((with_reducible refine gate_callee (f := 38) rfl ?_); refine goesL_ (some 10) rfl rfl Try.func38 (by kernel_rfl) rfl #[.int .i64 a0, .int .i64 a1] rfl zA ?_; (with_reducible refine (spec_l12Ok.calls a0 a1 false _ A6.out).mono ?_); rintro e w' ⟨rfl, ⟨nd, rfl⟩⟩; refine ⟨_, rfl, ?_⟩))
     go_meet
     case rel => exact ⟨_, (false), (by first | rfl | (simp; done) | (simp [*]; done)), H', ⟨by have := HK1.out; first | omega | exact Nat.le_refl _⟩, ⟨by (with_reducible repeat (first | apply Kd.S_alloc | apply Kd.S_drewN | apply Kd.S_drew)); exact HO_5.out⟩, ⟨zB HB.out⟩⟩
   case rest =>
    clear HC5
    try clear c2
    try clear p2
    try clear c3
    try clear p6
    try clear c7
    try clear p2
    obtain ⟨kq, x17_4, rfl, HA, HJ4, HO_5, HB⟩ := hcut
    cases kq with
    | zero => exact absurd HA.out (by simp [spec_SquareTours.j1])
    | succ kj4 =>
     have H := HA.out
     clear HA
     simp only [spec_SquareTours.j1] at H
     by_cases c8 : x17_4 = true
     ·subst c8
      have H1 : (if a1 = 0 then (none) else (if (Int.tmod x6_1 a1) < (wrap64 (a1 - 1)) then (if x6_1 < (wrap64 ((wrap64 (a0 - 1)) * a1)) then (if x5_1.length < 5864062014805 then (spec_SquareTours.l0 kj4 a0 a1 (x5_1 ++ [(([x6_1, wrap64 (x6_1 + 1), wrap64 ((wrap64 (x6_1 + a1)) + 1), wrap64 (x6_1 + a1), x6_1] : List Int))]) (wrap64 (x6_1 + 1))) else (none)) else (spec_SquareTours.l0 kj4 a0 a1 x5_1 (wrap64 (x6_1 + 1)))) else (spec_SquareTours.l0 kj4 a0 a1 x5_1 (wrap64 (x6_1 + 1))))) = some r := by rw [if_pos rfl] at H; exact H
      clear H
      have H := H1
      clear H1
      by_cases c9 : a1 = 0
      ·rw [if_pos c9] at H
       exact absurd H (by simp)
      ·rw [if_neg c9] at H
       have c9b0 : (a1 == 0) = false := beq_eq_false_iff_ne.mpr c9
       have c9b1 : (a1 != 0) = true := bne_iff_ne.mpr c9
       by_cases c10 : (Int.tmod x6_1 a1) < (wrap64 (a1 - 1))
       ·rw [if_pos c10] at H
        have c10b0 : decide ((Int.tmod x6_1 a1) < (wrap64 (a1 - 1))) = true := decide_eq_true c10
        clear c10
        by_cases c11 : x6_1 < (wrap64 ((wrap64 (a0 - 1)) * a1))
        ·rw [if_pos c11] at H
         have c11b0 : decide (x6_1 < (wrap64 ((wrap64 (a0 - 1)) * a1))) = true := decide_eq_true c11
         clear c11
         obtain ⟨y323, hy323⟩ : ∃ y_ : List Int, y_ = (([x6_1, wrap64 (x6_1 + 1), wrap64 ((wrap64 (x6_1 + a1)) + 1), wrap64 (x6_1 + a1), x6_1] : List Int)) := ⟨_, rfl⟩
         replace H : (if x5_1.length < 5864062014805 then (spec_SquareTours.l0 kj4 a0 a1 (x5_1 ++ [y323]) (wrap64 (x6_1 + 1))) else (none)) = some r := by first | (rw [hy323]; with_reducible exact H) | (have H2_ := (Option.bind_some _ _).symm.trans H; rw [hy323]; with_reducible exact H2_) | (have H2_ := (Option.bind_some _ _).symm.trans H; with_reducible exact H2_) | with_reducible exact H | (rw [hy323]; exact H) | exact H
         have Ny323 := Aside0.mk hy323
         clear hy323
         by_cases c12 : x5_1.length < 5864062014805
         ·rw [if_pos c12] at H
          have LMc12 := Aside0.mk c12
          clear c12
          obtain ⟨y326, hy326⟩ : ∃ y_ : List (List Int), y_ = (x5_1 ++ [y323]) := ⟨_, rfl⟩
          replace H : (spec_SquareTours.l0 kj4 a0 a1 y326 (wrap64 (x6_1 + 1))) = some r := by first | (rw [hy326]; with_reducible exact H) | (have H2_ := (Option.bind_some _ _).symm.trans H; rw [hy326]; with_reducible exact H2_) | (have H2_ := (Option.bind_some _ _).symm.trans H; with_reducible exact H2_) | with_reducible exact H | (rw [hy326]; exact H) | exact H
          have Ny326 := Aside0.mk hy326
          clear hy326
          have H' := Aside0.mk H
          clear H
          go_wp2_with (first | ((with_reducible refine gate_dst (N := 46) rfl ?_); refine Kd.R_lit (Kd.int .i64) _ 3 ?hg (N := 46) ?hd (xs := ([x6_1, wrap64 (x6_1 + 1), wrap64 ((wrap64 (x6_1 + a1)) + 1), wrap64 (x6_1 + a1), x6_1] : List Int)) (inner := [.int .i64 x6_1, .int .i64 (wrap64 (x6_1 + 1)), .int .i64 (wrap64 ((wrap64 (x6_1 + a1)) + 1)), .int .i64 (wrap64 (x6_1 + a1)), .int .i64 x6_1]) (ok := fun _ => True) (okp := fun _ => True) ?hr ?hp (fun _ hk => hk) trivial (Below.refl _ _) (Nat.le_refl _) (by simp) ?_; (case hd => rfl); (case hg => rfl); (case hr => first | (go_simp; done) | (go_simp; rfl)); (case hp => exact (Reps.one (show Kd.M (Kd.int .i64) _ _ _ x6_1 [.int .i64 x6_1] from rfl) (Reps.one (show Kd.M (Kd.int .i64) _ _ _ (wrap64 (x6_1 + 1)) [.int .i64 (wrap64 (x6_1 + 1))] from rfl) (Reps.one (show Kd.M (Kd.int .i64) _ _ _ (wrap64 ((wrap64 (x6_1 + a1)) + 1)) [.int .i64 (wrap64 ((wrap64 (x6_1 + a1)) + 1))] from rfl) (Reps.one (show Kd.M (Kd.int .i64) _ _ _ (wrap64 (x6_1 + a1)) [.int .i64 (wrap64 (x6_1 + a1))] from rfl) (Reps.one (show Kd.M (Kd.int .i64) _ _ _ x6_1 [.int .i64 x6_1] from rfl) (Reps.none _ _))))))); intro v324 w13 ho14 hb hg_ hnew_; clear hg_ hnew_; (first | rw [← Ny323.out] at ho14 | (simp only [Int.reduceToNat] at ho14; rw [← Ny323.out] at ho14)); have n0_ := Aside0.mk (Kd.S_elder' (by (with_reducible repeat (first | apply Kd.S_alloc | apply Kd.S_drewN | apply Kd.S_drew)); exact HO_5.out) (Kd.R_base ho14) hb); have n1_ := Aside0.mk (Kd.R_lower ho14 (below_size (zB HB.out))); have n2_ := Aside0.mk (below_step (zB HB.out) hb); clear HO_5; clear HB; have HO_5 := n0_; have HO325 := n1_; have HB := n2_; clear n0_ n1_ n2_; clear hb ho14; obtain ⟨Ao16, co16, eo16⟩ := Kd.R_slice HO325.out; subst eo16) | ((with_reducible refine gate_builtin (b := .append) (xs := #[.tmp 34, .tmp 47]) rfl ?_); at_builtin; refine Kd.S_append (Kd.slice 3 (Kd.int .i64)) (w0 := w) w.heap.size rfl (.tmp 34) (.tmp 47) 38 32 (.slice none 0 0) 24 rfl Try.underlying38 info32 rfl (by decide) (by omega) u5 x5_1 y323 [.slice Ao16 y323.length co16] (fun _ => True) (fun k_ => some k_ = (.slice Ao16 y323.length co16 : Value).ownBlock) rfl rfl ?aP (fun k_ hk_ => ((Kd.R_mono (ok' := fun k_ => ((fun _ => True)) k_ ∧ some k_ ≠ (u5 : Value).ownBlock) (Kd.R_apart' (HO325.out) (Kd.S_typed HO_5.out) (by decide)) (fun k_ hk => ⟨trivial, hk.2⟩))).1 k_ hk_.symm) ?aF ?aO ?aB ?aS ?aL ?_; (case aP => exact Kd.M_row (Kd.R_mono (Kd.R_tight rfl (Kd.R_mono (ok' := fun k_ => ((fun _ => True)) k_ ∧ some k_ ≠ (u5 : Value).ownBlock) (Kd.R_apart' (HO325.out) (Kd.S_typed HO_5.out) (by decide)) (fun k_ hk => ⟨trivial, hk.2⟩))) (fun _ h_ => h_))); (case aB => exact (zB HB.out)); (case aF => exact (fun _ _ => trivial)); (case aO => exact (by (with_reducible repeat (first | apply Kd.S_alloc | apply Kd.S_drewN | apply Kd.S_drew)); exact Kd.S_mono HO_5.out (fun k_ hk => ⟨trivial, fun e_ => hk.2 e_⟩))); (case aS => exact (below_size (zB HB.out))); (case aL => have := LMc12.out; omega); intro v327 w15 ho hb hg hat; rw [← Ny326.out] at ho; have n0_ := Aside0.mk (hb); have n1_ := Aside0.mk (ho); clear HB; clear HO_5; clear HO325; have HB := n0_; have HO328 := n1_; clear n0_ n1_; clear ho hb hg hat))
          go_roundg kj4
          case measure => have := HK1.out; have := HJ4.out; omega
          case rel => exact ⟨(y326), (wrap64 (x6_1 + 1)), (by first | rfl | (simp; done) | (simp [*]; done)), H', ⟨by have := HK1.out; have := HJ4.out; omega⟩, ⟨by (with_reducible repeat (first | apply Kd.S_alloc | apply Kd.S_drewN | apply Kd.S_drew)); exact HO328.out⟩, ⟨zB HB.out⟩⟩
         ·rw [if_neg c12] at H
          exact absurd H (by simp)
        ·rw [if_neg c11] at H
         have c11b0 : decide (x6_1 < (wrap64 ((wrap64 (a0 - 1)) * a1))) = false := decide_eq_false c11
         clear c11
         have H' := Aside0.mk H
         clear H
         go_wp2
         go_roundg kj4
         case measure => have := HK1.out; have := HJ4.out; omega
         case rel => exact ⟨(x5_1), (wrap64 (x6_1 + 1)), (by first | rfl | (simp; done) | (simp [*]; done)), H', ⟨by have := HK1.out; have := HJ4.out; omega⟩, ⟨by (with_reducible repeat (first | apply Kd.S_alloc | apply Kd.S_drewN | apply Kd.S_drew)); exact HO_5.out⟩, ⟨zB HB.out⟩⟩
       ·rw [if_neg c10] at H
        have c10b0 : decide ((Int.tmod x6_1 a1) < (wrap64 (a1 - 1))) = false := decide_eq_false c10
        clear c10
        have H' := Aside0.mk H
        clear H
        go_wp2
        go_roundg kj4
        case measure => have := HK1.out; have := HJ4.out; omega
        case rel => exact ⟨(x5_1), (wrap64 (x6_1 + 1)), (by first | rfl | (simp; done) | (simp [*]; done)), H', ⟨by have := HK1.out; have := HJ4.out; omega⟩, ⟨by (with_reducible repeat (first | apply Kd.S_alloc | apply Kd.S_drewN | apply Kd.S_drew)); exact HO_5.out⟩, ⟨zB HB.out⟩⟩
     ·replace c8 := Bool.eq_false_iff.mpr c8
      subst c8
      have H1 : (some x5_1) = some r := by rw [if_neg (show ¬ (false = true) by decide)] at H; exact H
      clear H
      have H := H1
      clear H1
      obtain rfl := Option.some.inj H
      go_wp2
      go_ret
      exact ⟨_, by first | rfl | (simp [errW_none, errW_some] <;> rfl) | (simp [*, errW_none, errW_some] <;> rfl), by (with_reducible repeat (first | apply Kd.S_alloc | apply Kd.S_drewN | apply Kd.S_drew)); exact HO_5.out, zB HB.out⟩

/-! ### impl_SquareTours: function 29 -/
def impl_SquareTours.l0 : Nat → Int → Int → List (List Int) → Int → Int → Option ((List (List Int)))
 | 0, _, _, _, _, _ => none
 | k + 1, x0, x1, x5, x14, x15 => if x15 < x14 then (if x1 = 0 then (none) else (if (Int.tmod x15 x1) < (wrap64 (x1 - 1)) then (if (wrap64 (Int.tdiv x15 x1)) < (wrap64 (x0 - 1)) then (if x5.length < 5864062014805 then (impl_SquareTours.l0 k x0 x1 (x5 ++ [(([x15, wrap64 (x15 + 1), wrap64 ((wrap64 (x15 + 1)) + x1), wrap64 (x15 + x1), x15] : List Int))]) x14 (wrap64 (x15 + 1))) else (none)) else (impl_SquareTours.l0 k x0 x1 x5 x14 (wrap64 (x15 + 1)))) else (impl_SquareTours.l0 k x0 x1 x5 x14 (wrap64 (x15 + 1))))) else (some x5)
def impl_SquareTours.f (k : Nat) (a0 : Int) (a1 : Int) : Option ((List (List Int))) := (impl_gridOk.f a0 a1).bind fun t329 => (if t329 = true then (impl_SquareTours.l0 k a0 a1 (([] : List (List Int))) (wrap64 (a0 * a1)) 0) else (some ([] : List (List Int))))
theorem impl_SquareTours.mono_l : ∀ k, (∀ y0 y1 y2 y3 y4, LeO (impl_SquareTours.l0 k y0 y1 y2 y3 y4) (impl_SquareTours.l0 (k + 1) y0 y1 y2 y3 y4))
 | 0 => fun _ _ _ _ _ r h => by simp [impl_SquareTours.l0] at h
 | k + 1 => by
  have ih0 := impl_SquareTours.mono_l k
  ·intro y0 y1 y2 y3 y4
   unfold impl_SquareTours.l0
   repeat' first
   | (with_reducible exact ih0 _ _ _ _ _)
   | (with_reducible exact LeO.refl _)
   | (with_reducible exact LeO.none _)
   | (with_reducible refine LeO.ite ?_ ?_)
   | (with_reducible refine LeO.bind ?_ (fun _ => ?_))
   | exact ih0 _ _ _ _ _
   | exact LeO.none _
   | refine LeO.ite ?_ ?_
   | refine LeO.bind ?_ (fun _ => ?_)
theorem impl_SquareTours.mono : ∀ a0 a1 k, LeO (impl_SquareTours.f k a0 a1) (impl_SquareTours.f (k + 1) a0 a1) := by
 intro a0 a1 k
 have ih0 := impl_SquareTours.mono_l k
 unfold impl_SquareTours.f
 repeat' first
   | (with_reducible exact ih0 _ _ _ _ _)
   | (with_reducible exact LeO.refl _)
   | (with_reducible exact LeO.none _)
   | (with_reducible refine LeO.ite ?_ ?_)
   | (with_reducible refine LeO.bind ?_ (fun _ => ?_))
   | exact ih0 _ _ _ _ _
   | exact LeO.none _
   | refine LeO.ite ?_ ?_
   | refine LeO.bind ?_ (fun _ => ?_)
set_option maxHeartbeats 8000000 in
set_option maxRecDepth 100000 in
theorem impl_SquareTours.calls (k : Nat) (a0 : Int) (a1 : Int) (r : List (List Int)) (w : World) (h : impl_SquareTours.f k a0 a1 = some r) :
  Calls Try.prog 29 #[.int .i64 a0, .int .i64 a1] w fun e w' => ∃ v0_ : Value, e = .returned (v0_) ∧ Kd.S (Kd.slice 3 (Kd.int .i64)) 32 w' w.heap.size (fun _ => True) v0_ r ∧ Below w.heap.size w w' := by
 have HB := Aside0.mk (Below.refl w.heap.size w)
 have H : ((impl_gridOk.f a0 a1).bind fun t329 => (if t329 = true then (impl_SquareTours.l0 k a0 a1 (([] : List (List Int))) (wrap64 (a0 * a1)) 0) else (some ([] : List (List Int))))) = some r := h
 clear h
 replace H := Option.bind_eq_some_iff.mp H
 obtain ⟨t329, A30, H⟩ := H
 replace H : (if t329 = true then (impl_SquareTours.l0 k a0 a1 (([] : List (List Int))) (wrap64 (a0 * a1)) 0) else (some ([] : List (List Int)))) = some r := H
 have A3 := Aside0.mk A30
 clear A30
 by_cases c4 : t329 = true
 ·subst c4
  have H1 : (impl_SquareTours.l0 k a0 a1 (([] : List (List Int))) (wrap64 (a0 * a1)) 0) = some r := by rw [if_pos rfl] at H; exact H
  clear H
  have H := H1
  clear H1
  obtain ⟨y330, hy330⟩ : ∃ y_ : List (List Int), y_ = (([] : List (List Int))) := ⟨_, rfl⟩
  replace H : (impl_SquareTours.l0 k a0 a1 y330 (wrap64 (a0 * a1)) 0) = some r := by first | (rw [hy330]; with_reducible exact H) | (have H2_ := (Option.bind_some _ _).symm.trans H; rw [hy330]; with_reducible exact H2_) | (have H2_ := (Option.bind_some _ _).symm.trans H; with_reducible exact H2_) | with_reducible exact H | (rw [hy330]; exact H) | exact H
  have Ny330 := Aside0.mk hy330
  clear hy330
  have H' := Aside0.mk H
  clear H
  go_enter Try.func29, Try.ntmps29
  go_wp2_with (first | ((with_reducible refine gate_callee (f := 39) rfl ?_); refine goesL_ (some 9) rfl rfl Try.func39 (by kernel_rfl) rfl #[.int .i64 a0, .int .i64 a1] rfl zA ?_; (with_reducible refine (impl_gridOk.calls a0 a1 true _ A3.out).mono ?_); rintro e w' ⟨rfl, ⟨nd, rfl⟩⟩; refine ⟨_, rfl, ?_⟩) | ((with_reducible refine gate_dst (N := 11) rfl ?_); refine Kd.S_lit (Kd.slice 3 (Kd.int .i64)) _ 32 ?hg (N := 11) ?hd (xs := ([] : List (List Int))) (inner := []) (ok := fun _ => True) (okp := fun _ => True) ?hr ?hp (fun _ hk => hk) trivial (Below.refl _ _) (Nat.le_refl _) (by simp) ?_; (case hd => rfl); (case hg => rfl); (case hr => first | (go_simp; done) | (go_simp; rfl)); (case hp => exact (Reps.none _ _)); intro v331 w5 ho6 hb hg_ hnew_; clear hg_ hnew_; (first | rw [← Ny330.out] at ho6 | (simp only [Int.reduceToNat] at ho6; rw [← Ny330.out] at ho6)); have n0_ := Aside0.mk (Kd.S_lower ho6 (below_size (zB HB.out))); have n1_ := Aside0.mk (below_step (zB HB.out) hb); clear HB; have HO332 := n0_; have HB := n1_; clear n0_ n1_; clear hb ho6))
  go_loopg [5, 15] k (fun kq v5 v15 w' => ∃ (x5_1 : List (List Int)) (x15_1 : Int), v15 = .int .i64 x15_1 ∧ Aside0 (impl_SquareTours.l0 kq a0 a1 x5_1 (wrap64 (a0 * a1)) x15_1 = some r) ∧ Aside0 (kq ≤ k) ∧ Aside0 (Kd.S (Kd.slice 3 (Kd.int .i64)) 32 w' w.heap.size (fun _ => True) v5 x5_1) ∧ Aside0 (Below w.heap.size w w'))
  case atStart => exact ⟨(y330), (0), (by first | rfl | (simp; done) | (simp [*]; done)), H', ⟨Nat.le_refl _⟩, ⟨by (with_reducible repeat (first | apply Kd.S_alloc | apply Kd.S_drewN | apply Kd.S_drew)); exact HO332.out⟩, ⟨zB HB.out⟩⟩
  case round =>
   clear H'
   try clear c2
   try clear p2
   try clear c3
   try clear c4
   try clear p6
   obtain ⟨x5_1, x15_1, rfl, HA, HK1, HO_5, HB⟩ := hrel
   cases gk with
   | zero => exact absurd HA.out (by simp [impl_SquareTours.l0])
   | succ k1 =>
    have H := HA.out
    clear HA
    simp only [impl_SquareTours.l0] at H
    by_cases c7 : x15_1 < (wrap64 (a0 * a1))
    ·rw [if_pos c7] at H
     have c7b0 : decide (x15_1 < (wrap64 (a0 * a1))) = true := decide_eq_true c7
     clear c7
     by_cases c8 : a1 = 0
     ·rw [if_pos c8] at H
      exact absurd H (by simp)
     ·rw [if_neg c8] at H
      have c8b0 : (a1 == 0) = false := beq_eq_false_iff_ne.mpr c8
      have c8b1 : (a1 != 0) = true := bne_iff_ne.mpr c8
      by_cases c9 : (Int.tmod x15_1 a1) < (wrap64 (a1 - 1))
      ·rw [if_pos c9] at H
       have c9b0 : decide ((Int.tmod x15_1 a1) < (wrap64 (a1 - 1))) = true := decide_eq_true c9
       clear c9
       by_cases c10 : (wrap64 (Int.tdiv x15_1 a1)) < (wrap64 (a0 - 1))
       ·rw [if_pos c10] at H
        have c10b0 : decide ((wrap64 (Int.tdiv x15_1 a1)) < (wrap64 (a0 - 1))) = true := decide_eq_true c10
        clear c10
        obtain ⟨y333, hy333⟩ : ∃ y_ : List Int, y_ = (([x15_1, wrap64 (x15_1 + 1), wrap64 ((wrap64 (x15_1 + 1)) + a1), wrap64 (x15_1 + a1), x15_1] : List Int)) := ⟨_, rfl⟩
        replace H : (if x5_1.length < 5864062014805 then (impl_SquareTours.l0 k1 a0 a1 (x5_1 ++ [y333]) (wrap64 (a0 * a1)) (wrap64 (x15_1 + 1))) else (none)) = some r := by first | (rw [hy333]; with_reducible exact H) | (have H2_ := (Option.bind_some _ _).symm.trans H; rw [hy333]; with_reducible exact H2_) | (have H2_ := (Option.bind_some _ _).symm.trans H; with_reducible exact H2_) | with_reducible exact H | (rw [hy333]; exact H) | exact H
        have Ny333 := Aside0.mk hy333
        clear hy333
        by_cases c11 : x5_1.length < 5864062014805
        ·rw [if_pos c11] at H
         have LMc11 := Aside0.mk c11
         clear c11
         obtain ⟨y336, hy336⟩ : ∃ y_ : List (List Int), y_ = (x5_1 ++ [y333]) := ⟨_, rfl⟩
         replace H : (impl_SquareTours.l0 k1 a0 a1 y336 (wrap64 (a0 * a1)) (wrap64 (x15_1 + 1))) = some r := by first | (rw [hy336]; with_reducible exact H) | (have H2_ := (Option.bind_some _ _).symm.trans H; rw [hy336]; with_reducible exact H2_) | (have H2_ := (Option.bind_some _ _).symm.trans H; with_reducible exact H2_) | with_reducible exact H | (rw [hy336]; exact H) | exact H
         have Ny336 := Aside0.mk hy336
         clear hy336
         have H' := Aside0.mk H
         clear H
         go_wp2_with (first | ((with_reducible refine gate_dst (N := 44) rfl ?_); refine Kd.R_lit (Kd.int .i64) _ 3 ?hg (N := 44) ?hd (xs := ([x15_1, wrap64 (x15_1 + 1), wrap64 ((wrap64 (x15_1 + 1)) + a1), wrap64 (x15_1 + a1), x15_1] : List Int)) (inner := [.int .i64 x15_1, .int .i64 (wrap64 (x15_1 + 1)), .int .i64 (wrap64 ((wrap64 (x15_1 + 1)) + a1)), .int .i64 (wrap64 (x15_1 + a1)), .int .i64 x15_1]) (ok := fun _ => True) (okp := fun _ => True) ?hr ?hp (fun _ hk => hk) trivial (Below.refl _ _) (Nat.le_refl _) (by simp) ?_; (case hd => rfl); (case hg => rfl); (case hr => first | (go_simp; done) | (go_simp; rfl)); (case hp => exact (Reps.one (show Kd.M (Kd.int .i64) _ _ _ x15_1 [.int .i64 x15_1] from rfl) (Reps.one (show Kd.M (Kd.int .i64) _ _ _ (wrap64 (x15_1 + 1)) [.int .i64 (wrap64 (x15_1 + 1))] from rfl) (Reps.one (show Kd.M (Kd.int .i64) _ _ _ (wrap64 ((wrap64 (x15_1 + 1)) + a1)) [.int .i64 (wrap64 ((wrap64 (x15_1 + 1)) + a1))] from rfl) (Reps.one (show Kd.M (Kd.int .i64) _ _ _ (wrap64 (x15_1 + a1)) [.int .i64 (wrap64 (x15_1 + a1))] from rfl) (Reps.one (show Kd.M (Kd.int .i64) _ _ _ x15_1 [.int .i64 x15_1] from rfl) (Reps.none _ _))))))); intro v334 w12 ho13 hb hg_ hnew_; clear hg_ hnew_; (first | rw [← Ny333.out] at ho13 | (simp only [Int.reduceToNat] at ho13; rw [← Ny333.out] at ho13)); have n0_ := Aside0.mk (Kd.S_elder' (by (with_reducible repeat (first | apply Kd.S_alloc | apply Kd.S_drewN | apply Kd.S_drew)); exact HO_5.out) (Kd.R_base ho13) hb); have n1_ := Aside0.mk (Kd.R_lower ho13 (below_size (zB HB.out))); have n2_ := Aside0.mk (below_step (zB HB.out) hb); clear HO_5; clear HB; have HO_5 := n0_; have HO335 := n1_; have HB := n2_; clear n0_ n1_ n2_; clear hb ho13; obtain ⟨Ao15, co15, eo15⟩ := Kd.R_slice HO335.out; subst eo15) | ((with_reducible refine gate_builtin (b := .append) (xs := #[.tmp 32, .tmp 45]) rfl ?_); at_builtin; refine Kd.S_append (Kd.slice 3 (Kd.int .i64)) (w0 := w) w.heap.size rfl (.tmp 32) (.tmp 45) 38 32 (.slice none 0 0) 24 rfl Try.underlying38 info32 rfl (by decide) (by omega) u5 x5_1 y333 [.slice Ao15 y333.length co15] (fun _ => True) (fun k_ => some k_ = (.slice Ao15 y333.length co15 : Value).ownBlock) rfl rfl ?aP (fun k_ hk_ => ((Kd.R_mono (ok' := fun k_ => ((fun _ => True)) k_ ∧ some k_ ≠ (u5 : Value).ownBlock) (Kd.R_apart' (HO335.out) (Kd.S_typed HO_5.out) (by decide)) (fun k_ hk => ⟨trivial, hk.2⟩))).1 k_ hk_.symm) ?aF ?aO ?aB ?aS ?aL ?_; (case aP => exact Kd.M_row (Kd.R_mono (Kd.R_tight rfl (Kd.R_mono (ok' := fun k_ => ((fun _ => True)) k_ ∧ some k_ ≠ (u5 : Value).ownBlock) (Kd.R_apart' (HO335.out) (Kd.S_typed HO_5.out) (by decide)) (fun k_ hk => ⟨trivial, hk.2⟩))) (fun _ h_ => h_))); (case aB => exact (zB HB.out)); (case aF => exact (fun _ _ => trivial)); (case aO => exact (by (with_reducible repeat (first | apply Kd.S_alloc | apply Kd.S_drewN | apply Kd.S_drew)); exact Kd.S_mono HO_5.out (fun k_ hk => ⟨trivial, fun e_ => hk.2 e_⟩))); (case aS => exact (below_size (zB HB.out))); (case aL => have := LMc11.out; omega); intro v337 w14 ho hb hg hat; rw [← Ny336.out] at ho; have n0_ := Aside0.mk (hb); have n1_ := Aside0.mk (ho); clear HB; clear HO_5; clear HO335; have HB := n0_; have HO338 := n1_; clear n0_ n1_; clear ho hb hg hat))
         go_roundg k1
         case measure => have := HK1.out; omega
         case rel => exact ⟨(y336), (wrap64 (x15_1 + 1)), (by first | rfl | (simp; done) | (simp [*]; done)), H', ⟨by have := HK1.out; omega⟩, ⟨by (with_reducible repeat (first | apply Kd.S_alloc | apply Kd.S_drewN | apply Kd.S_drew)); exact HO338.out⟩, ⟨zB HB.out⟩⟩
        ·rw [if_neg c11] at H
         exact absurd H (by simp)
       ·rw [if_neg c10] at H
        have c10b0 : decide ((wrap64 (Int.tdiv x15_1 a1)) < (wrap64 (a0 - 1))) = false := decide_eq_false c10
        clear c10
        have H' := Aside0.mk H
        clear H
        go_wp2
        go_roundg k1
        case measure => have := HK1.out; omega
        case rel => exact ⟨(x5_1), (wrap64 (x15_1 + 1)), (by first | rfl | (simp; done) | (simp [*]; done)), H', ⟨by have := HK1.out; omega⟩, ⟨by (with_reducible repeat (first | apply Kd.S_alloc | apply Kd.S_drewN | apply Kd.S_drew)); exact HO_5.out⟩, ⟨zB HB.out⟩⟩
      ·rw [if_neg c9] at H
       have c9b0 : decide ((Int.tmod x15_1 a1) < (wrap64 (a1 - 1))) = false := decide_eq_false c9
       clear c9
       have H' := Aside0.mk H
       clear H
       go_wp2
       go_roundg k1
       case measure => have := HK1.out; omega
       case rel => exact ⟨(x5_1), (wrap64 (x15_1 + 1)), (by first | rfl | (simp; done) | (simp [*]; done)), H', ⟨by have := HK1.out; omega⟩, ⟨by (with_reducible repeat (first | apply Kd.S_alloc | apply Kd.S_drewN | apply Kd.S_drew)); exact HO_5.out⟩, ⟨zB HB.out⟩⟩
    ·rw [if_neg c7] at H
     have c7b0 : decide (x15_1 < (wrap64 (a0 * a1))) = false := decide_eq_false c7
     clear c7
     obtain rfl := Option.some.inj H
     go_wp2
     go_ret
     exact ⟨_, by first | rfl | (simp [errW_none, errW_some] <;> rfl) | (simp [*, errW_none, errW_some] <;> rfl), by (with_reducible repeat (first | apply Kd.S_alloc | apply Kd.S_drewN | apply Kd.S_drew)); exact HO_5.out, zB HB.out⟩
 ·replace c4 := Bool.eq_false_iff.mpr c4
  subst c4
  have H1 : (some ([] : List (List Int))) = some r := by rw [if_neg (show ¬ (false = true) by decide)] at H; exact H
  clear H
  have H := H1
  clear H1
  obtain rfl := Option.some.inj H
  go_enter Try.func29, Try.ntmps29
  go_wp2_with (first | ((with_reducible refine gate_callee (f := 39) rfl ?_); refine goesL_ (some 9) rfl rfl Try.func39 (by kernel_rfl) rfl #[.int .i64 a0, .int .i64 a1] rfl zA ?_; (with_reducible refine (impl_gridOk.calls a0 a1 false _ A3.out).mono ?_); rintro e w' ⟨rfl, ⟨nd, rfl⟩⟩; refine ⟨_, rfl, ?_⟩))
  go_ret
  exact ⟨_, by first | rfl | (simp [errW_none, errW_some] <;> rfl) | (simp [*, errW_none, errW_some] <;> rfl), by first | exact Kd.S_nil _ _ _ _ _ | exact Kd.N_nil _ _ _ _ _ | exact Kd.V_nil _ _ _ _ _ | exact Kd.Q_nil _ _ _ _ _ | exact Kd.R_nil _ _ _ _ _, zB HB.out⟩

/-! ### laws_eqIntSS: function 30 -/
def laws_eqIntSS.l0 : Nat → List (List Int) → List (List Int) → Int → Option (Bool)
 | 0, _, _, _ => none
 | k + 1, x0, x1, x5 => if x5 < (x0.length : Int) then (if 0 ≤ x5 then (if x5 < (x1.length : Int) then ((laws_eqIntS.f k (rd_L3 x0 x5) (rd_L3 x1 x5)).bind fun t341 => (if t341 = true then (laws_eqIntSS.l0 k x0 x1 (wrap64 (x5 + 1))) else (some false))) else (none)) else (none)) else (some true)
def laws_eqIntSS.f (k : Nat) (l0 : List (List Int)) (l1 : List (List Int)) : Option (Bool) := if (l0.length : Int) = (l1.length : Int) then (laws_eqIntSS.l0 k l0 l1 0) else (some false)
theorem laws_eqIntSS.mono_l : ∀ k, (∀ y0 y1 y2, LeO (laws_eqIntSS.l0 k y0 y1 y2) (laws_eqIntSS.l0 (k + 1) y0 y1 y2))
 | 0 => fun _ _ _ r h => by simp [laws_eqIntSS.l0] at h
 | k + 1 => by
  have ih0 := laws_eqIntSS.mono_l k
  ·intro y0 y1 y2
   unfold laws_eqIntSS.l0
   repeat' first
   | (with_reducible exact ih0 _ _ _)
   | (with_reducible exact laws_eqIntS.mono _ _ _)
   | (with_reducible exact LeO.refl _)
   | (with_reducible exact LeO.none _)
   | (with_reducible refine LeO.ite ?_ ?_)
   | (with_reducible refine LeO.bind ?_ (fun _ => ?_))
   | exact ih0 _ _ _
   | exact laws_eqIntS.mono _ _ _
   | exact LeO.none _
   | refine LeO.ite ?_ ?_
   | refine LeO.bind ?_ (fun _ => ?_)
theorem laws_eqIntSS.mono : ∀ a0 a1 k, LeO (laws_eqIntSS.f k a0 a1) (laws_eqIntSS.f (k + 1) a0 a1) := by
 intro a0 a1 k
 have ih0 := laws_eqIntSS.mono_l k
 unfold laws_eqIntSS.f
 repeat' first
   | (with_reducible exact ih0 _ _ _)
   | (with_reducible exact laws_eqIntS.mono _ _ _)
   | (with_reducible exact LeO.refl _)
   | (with_reducible exact LeO.none _)
   | (with_reducible refine LeO.ite ?_ ?_)
   | (with_reducible refine LeO.bind ?_ (fun _ => ?_))
   | exact ih0 _ _ _
   | exact laws_eqIntS.mono _ _ _
   | exact LeO.none _
   | refine LeO.ite ?_ ?_
   | refine LeO.bind ?_ (fun _ => ?_)
set_option maxHeartbeats 8000000 in
set_option maxRecDepth 100000 in
theorem laws_eqIntSS.calls (k : Nat) (A0 : Option Addr) (c0 : Nat) (l0 : List (List Int)) (A1 : Option Addr) (c1 : Nat) (l1 : List (List Int)) (r : Bool) (w : World) (hr0 : Kd.C (Kd.slice 3 (Kd.int .i64)) w A0 l0.length l0) (hc0 : l0.length ≤ c0) (hr1 : Kd.C (Kd.slice 3 (Kd.int .i64)) w A1 l1.length l1) (hc1 : l1.length ≤ c1) (h : laws_eqIntSS.f k l0 l1 = some r) :
  Calls Try.prog 30 #[.slice A0 l0.length c0, .slice A1 l1.length c1] w fun e w' => e = .returned (.bool r) ∧ Drawn0 w w' := by
 have HR0 := Aside0.mk hr0
 have HC0 := Aside0.mk hc0
 clear hr0 hc0
 have HR1 := Aside0.mk hr1
 have HC1 := Aside0.mk hc1
 clear hr1 hc1
 have H : (if (l0.length : Int) = (l1.length : Int) then (laws_eqIntSS.l0 k l0 l1 0) else (some false)) = some r := h
 clear h
 by_cases c3 : (l0.length : Int) = (l1.length : Int)
 ·rw [if_pos c3] at H
  have c3b0 : ((l0.length : Int) == (l1.length : Int)) = true := beq_iff_eq.mpr c3
  have c3b1 : ((l0.length : Int) != (l1.length : Int)) = false := bne_eq_false_iff_eq.mpr c3
  have c3b2 : (l0.length == l1.length) = true := by first | simpa using c3 | (simp at c3 ⊢; omega)
  clear c3
  have H' := Aside0.mk H
  clear H
  go_enter Try.func30, Try.ntmps30
  go_wp2
  repeat (go_quiet (fail); try go_wp2)
  go_loopg [5] k (fun kq v5 w' => ∃ (x5_1 : Int), v5 = .int .i64 x5_1 ∧ Aside0 (laws_eqIntSS.l0 kq l0 l1 x5_1 = some r) ∧ Aside0 (kq ≤ k) ∧ Drawn0 w w')
  case atStart => exact ⟨(0), (by first | rfl | (simp; done) | (simp [*]; done)), H', ⟨Nat.le_refl _⟩, by repeat (first | exact Drawn0.refl _ | apply Drawn0.step)⟩
  case round =>
   clear H'
   try clear c1
   try clear p2
   try clear c3
   try clear c3b0
   try clear c3b1
   try clear c3b2
   obtain ⟨x5_1, rfl, HA, HK1, ⟨m1, rfl⟩⟩ := hrel
   cases gk with
   | zero => exact absurd HA.out (by simp [laws_eqIntSS.l0])
   | succ k1 =>
    have H := HA.out
    clear HA
    simp only [laws_eqIntSS.l0] at H
    by_cases c4 : x5_1 < (l0.length : Int)
    ·rw [if_pos c4] at H
     have c4b0 : decide (x5_1 < (l0.length : Int)) = true := decide_eq_true c4
     clear c4
     by_cases c5 : 0 ≤ x5_1
     ·rw [if_pos c5] at H
      have c5b0 : decide (0 ≤ x5_1) = true := decide_eq_true c5
      clear c5
      by_cases c6 : x5_1 < (l1.length : Int)
      ·rw [if_pos c6] at H
       have c6b0 : decide (x5_1 < (l1.length : Int)) = true := decide_eq_true c6
       clear c6
       replace H := Option.bind_eq_some_iff.mp H
       obtain ⟨t341, A70, H⟩ := H
       replace H : (if t341 = true then (laws_eqIntSS.l0 k1 l0 l1 (wrap64 (x5_1 + 1))) else (some false)) = some r := H
       have A7 := Aside0.mk A70
       clear A70
       by_cases c8 : t341 = true
       ·subst c8
        have H1 : (laws_eqIntSS.l0 k1 l0 l1 (wrap64 (x5_1 + 1))) = some r := by rw [if_pos rfl] at H; exact H
        clear H
        have H := H1
        clear H1
        have H' := Aside0.mk H
        clear H
        have p339 : 0 ≤ (x5_1 : Int) := zD
        have q339 : x5_1 < (l0.length : Int) := zD
        obtain ⟨ad339, A339_0, c339_0, e339, hx339_0, hl339_0, hi339_0⟩ := at_L3 HR0.out x5_1 p339 q339
        cases e339
        have HR339_0 := Aside0.mk hi339_0
        have HC339_0 := Aside0.mk hl339_0
        clear hi339_0 hl339_0
        replace p339 := eq_true p339
        replace q339 := eq_true q339
        have p340 : 0 ≤ (x5_1 : Int) := zD
        have q340 : x5_1 < (l1.length : Int) := zD
        obtain ⟨ad340, A340_0, c340_0, e340, hx340_0, hl340_0, hi340_0⟩ := at_L3 HR1.out x5_1 p340 q340
        cases e340
        have HR340_0 := Aside0.mk hi340_0
        have HC340_0 := Aside0.mk hl340_0
        clear hi340_0 hl340_0
        replace p340 := eq_true p340
        replace q340 := eq_true q340
        go_wp2_with (first | (go_at_call 21; (with_reducible refine (laws_eqIntS.calls k1 _ _ (rd_L3 l0 x5_1) _ _ (rd_L3 l1 x5_1) true _ ?side1 ?side2 ?side3 ?side4 A7.out).mono ?_); (case side1 => exact zC HR339_0.out); (case side2 => exact HC339_0.out); (case side3 => exact zC HR340_0.out); (case side4 => exact HC340_0.out); rintro e w' ⟨rfl, ⟨nd, rfl⟩⟩; (try first | exact ⟨rfl, _, World.drewN_drewN _ _ _⟩ | exact ⟨rfl, _, Eq.trans (World.drewN_drewN _ _ _) (congrArg (World.drewN _) (Nat.add_assoc _ _ _))⟩)))
        repeat (go_quiet (first | (go_at_call 21; (with_reducible refine (laws_eqIntS.calls k1 _ _ (rd_L3 l0 x5_1) _ _ (rd_L3 l1 x5_1) true _ ?side1 ?side2 ?side3 ?side4 A7.out).mono ?_); (case side1 => exact zC HR339_0.out); (case side2 => exact HC339_0.out); (case side3 => exact zC HR340_0.out); (case side4 => exact HC340_0.out); rintro e w' ⟨rfl, ⟨nd, rfl⟩⟩; (try first | exact ⟨rfl, _, World.drewN_drewN _ _ _⟩ | exact ⟨rfl, _, Eq.trans (World.drewN_drewN _ _ _) (congrArg (World.drewN _) (Nat.add_assoc _ _ _))⟩))); try go_wp2_with (first | (go_at_call 21; (with_reducible refine (laws_eqIntS.calls k1 _ _ (rd_L3 l0 x5_1) _ _ (rd_L3 l1 x5_1) true _ ?side1 ?side2 ?side3 ?side4 A7.out).mono ?_); (case side1 => exact zC HR339_0.out); (case side2 => exact HC339_0.out); (case side3 => exact zC HR340_0.out); (case side4 => exact HC340_0.out); rintro e w' ⟨rfl, ⟨nd, rfl⟩⟩; (try first | exact ⟨rfl, _, World.drewN_drewN _ _ _⟩ | exact ⟨rfl, _, Eq.trans (World.drewN_drewN _ _ _) (congrArg (World.drewN _) (Nat.add_assoc _ _ _))⟩))))
        go_roundg k1
        case measure => have := HK1.out; omega
        case rel => exact ⟨(wrap64 (x5_1 + 1)), (by first | rfl | (simp; done) | (simp [*]; done)), H', ⟨by have := HK1.out; omega⟩, by repeat (first | exact Drawn0.refl _ | apply Drawn0.step)⟩
       ·replace c8 := Bool.eq_false_iff.mpr c8
        subst c8
        have H1 : (some false) = some r := by rw [if_neg (show ¬ (false = true) by decide)] at H; exact H
        clear H
        have H := H1
        clear H1
        obtain rfl := Option.some.inj H
        have p339 : 0 ≤ (x5_1 : Int) := zD
        have q339 : x5_1 < (l0.length : Int) := zD
        obtain ⟨ad339, A339_0, c339_0, e339, hx339_0, hl339_0, hi339_0⟩ := at_L3 HR0.out x5_1 p339 q339
        cases e339
        have HR339_0 := Aside0.mk hi339_0
        have HC339_0 := Aside0.mk hl339_0
        clear hi339_0 hl339_0
        replace p339 := eq_true p339
        replace q339 := eq_true q339
        have p340 : 0 ≤ (x5_1 : Int) := zD
        have q340 : x5_1 < (l1.length : Int) := zD
        obtain ⟨ad340, A340_0, c340_0, e340, hx340_0, hl340_0, hi340_0⟩ := at_L3 HR1.out x5_1 p340 q340
        cases e340
        have HR340_0 := Aside0.mk hi340_0
        have HC340_0 := Aside0.mk hl340_0
        clear hi340_0 hl340_0
        replace p340 := eq_true p340
        replace q340 := eq_true q340
        go_wp2_with (first | (go_at_call 21; (with_reducible refine (laws_eqIntS.calls k1 _ _ (rd_L3 l0 x5_1) _ _ (rd_L3 l1 x5_1) false _ ?side1 ?side2 ?side3 ?side4 A7.out).mono ?_); (case side1 => exact zC HR339_0.out); (case side2 => exact HC339_0.out); (case side3 => exact zC HR340_0.out); (case side4 => exact HC340_0.out); rintro e w' ⟨rfl, ⟨nd, rfl⟩⟩; (try first | exact ⟨rfl, _, World.drewN_drewN _ _ _⟩ | exact ⟨rfl, _, Eq.trans (World.drewN_drewN _ _ _) (congrArg (World.drewN _) (Nat.add_assoc _ _ _))⟩)))
        repeat (go_quiet (first | (go_at_call 21; (with_reducible refine (laws_eqIntS.calls k1 _ _ (rd_L3 l0 x5_1) _ _ (rd_L3 l1 x5_1) false _ ?side1 ?side2 ?side3 ?side4 A7.out).mono ?_); (case side1 => exact zC HR339_0.out); (case side2 => exact HC339_0.out); (case side3 => exact zC HR340_0.out); (case side4 => exact HC340_0.out); rintro e w' ⟨rfl, ⟨nd, rfl⟩⟩; (try first | exact ⟨rfl, _, World.drewN_drewN _ _ _⟩ | exact ⟨rfl, _, Eq.trans (World.drewN_drewN _ _ _) (congrArg (World.drewN _) (Nat.add_assoc _ _ _))⟩))); try go_wp2_with (first | (go_at_call 21; (with_reducible refine (laws_eqIntS.calls k1 _ _ (rd_L3 l0 x5_1) _ _ (rd_L3 l1 x5_1) false _ ?side1 ?side2 ?side3 ?side4 A7.out).mono ?_); (case side1 => exact zC HR339_0.out); (case side2 => exact HC339_0.out); (case side3 => exact zC HR340_0.out); (case side4 => exact HC340_0.out); rintro e w' ⟨rfl, ⟨nd, rfl⟩⟩; (try first | exact ⟨rfl, _, World.drewN_drewN _ _ _⟩ | exact ⟨rfl, _, Eq.trans (World.drewN_drewN _ _ _) (congrArg (World.drewN _) (Nat.add_assoc _ _ _))⟩))))
        go_ret
        exact ⟨by first | rfl | (simp; done) | (simp [*]; done), by repeat (first | exact Drawn0.refl _ | apply Drawn0.step)⟩
      ·rw [if_neg c6] at H
       exact absurd H (by simp)
     ·rw [if_neg c5] at H
      exact absurd H (by simp)
    ·rw [if_neg c4] at H
     have c4b0 : decide (x5_1 < (l0.length : Int)) = false := decide_eq_false c4
     clear c4
     obtain rfl := Option.some.inj H
     go_wp2
     repeat (go_quiet (fail); try go_wp2)
     go_ret
     exact ⟨by first | rfl | (simp; done) | (simp [*]; done), by repeat (first | exact Drawn0.refl _ | apply Drawn0.step)⟩
 ·rw [if_neg c3] at H
  have c3b0 : ((l0.length : Int) == (l1.length : Int)) = false := beq_eq_false_iff_ne.mpr c3
  have c3b1 : ((l0.length : Int) != (l1.length : Int)) = true := bne_iff_ne.mpr c3
  have c3b2 : (l0.length == l1.length) = false := by first | simpa using c3 | (simp at c3 ⊢; omega)
  obtain rfl := Option.some.inj H
  go_enter Try.func30, Try.ntmps30
  go_wp2
  repeat (go_quiet (fail); try go_wp2)
  go_ret
  exact ⟨by first | rfl | (simp; done) | (simp [*]; done), by repeat (first | exact Drawn0.refl _ | apply Drawn0.step)⟩

-- NOT PRINTED: function 31 (laws_markIntSS)

/-! ### laws_heldIntSS: function 32 -/
def laws_heldIntSS.l0 : Nat → List (List Int) → Int → Int → Option (Int)
 | 0, _, _, _ => none
 | k + 1, x0, x1, x5 => if x5 < (x0.length : Int) then (if 0 ≤ x5 then ((laws_heldIntS.f k (rd_L3 x0 x5) x1).bind fun t344 => (if t344 < 0 then (some (-1)) else (laws_heldIntSS.l0 k x0 t344 (wrap64 (x5 + 1))))) else (none)) else (some x1)
def laws_heldIntSS.f (k : Nat) (l0 : List (List Int)) (a1 : Int) : Option (Int) := laws_heldIntSS.l0 k l0 a1 0
theorem laws_heldIntSS.mono_l : ∀ k, (∀ y0 y1 y2, LeO (laws_heldIntSS.l0 k y0 y1 y2) (laws_heldIntSS.l0 (k + 1) y0 y1 y2))
 | 0 => fun _ _ _ r h => by simp [laws_heldIntSS.l0] at h
 | k + 1 => by
  have ih0 := laws_heldIntSS.mono_l k
  ·intro y0 y1 y2
   unfold laws_heldIntSS.l0
   repeat' first
   | (with_reducible exact ih0 _ _ _)
   | (with_reducible exact laws_heldIntS.mono _ _ _)
   | (with_reducible exact LeO.refl _)
   | (with_reducible exact LeO.none _)
   | (with_reducible refine LeO.ite ?_ ?_)
   | (with_reducible refine LeO.bind ?_ (fun _ => ?_))
   | exact ih0 _ _ _
   | exact laws_heldIntS.mono _ _ _
   | exact LeO.none _
   | refine LeO.ite ?_ ?_
   | refine LeO.bind ?_ (fun _ => ?_)
theorem laws_heldIntSS.mono : ∀ a0 a1 k, LeO (laws_heldIntSS.f k a0 a1) (laws_heldIntSS.f (k + 1) a0 a1) := by
 intro a0 a1 k
 have ih0 := laws_heldIntSS.mono_l k
 unfold laws_heldIntSS.f
 repeat' first
   | (with_reducible exact ih0 _ _ _)
   | (with_reducible exact laws_heldIntS.mono _ _ _)
   | (with_reducible exact LeO.refl _)
   | (with_reducible exact LeO.none _)
   | (with_reducible refine LeO.ite ?_ ?_)
   | (with_reducible refine LeO.bind ?_ (fun _ => ?_))
   | exact ih0 _ _ _
   | exact laws_heldIntS.mono _ _ _
   | exact LeO.none _
   | refine LeO.ite ?_ ?_
   | refine LeO.bind ?_ (fun _ => ?_)
set_option maxHeartbeats 8000000 in
set_option maxRecDepth 100000 in
theorem laws_heldIntSS.calls (k : Nat) (A0 : Option Addr) (c0 : Nat) (l0 : List (List Int)) (a1 : Int) (r : Int) (w : World) (hr0 : Kd.C (Kd.slice 3 (Kd.int .i64)) w A0 l0.length l0) (hc0 : l0.length ≤ c0) (h : laws_heldIntSS.f k l0 a1 = some r) :
  Calls Try.prog 32 #[.slice A0 l0.length c0, .int .i64 a1] w fun e w' => e = .returned (.int .i64 r) ∧ Drawn0 w w' := by
 have HR0 := Aside0.mk hr0
 have HC0 := Aside0.mk hc0
 clear hr0 hc0
 have H : (laws_heldIntSS.l0 k l0 a1 0) = some r := h
 clear h
 have H' := Aside0.mk H
 clear H
 go_enter Try.func32, Try.ntmps32
 go_wp2
 go_loopg [1, 5] k (fun kq v1 v5 w' => ∃ (x1_1 : Int) (x5_1 : Int), v1 = .int .i64 x1_1 ∧ v5 = .int .i64 x5_1 ∧ Aside0 (laws_heldIntSS.l0 kq l0 x1_1 x5_1 = some r) ∧ Aside0 (kq ≤ k) ∧ Drawn0 w w')
 case atStart => exact ⟨(a1), (0), (by first | rfl | (simp; done) | (simp [*]; done)), (by first | rfl | (simp; done) | (simp [*]; done)), H', ⟨Nat.le_refl _⟩, by repeat (first | exact Drawn0.refl _ | apply Drawn0.step)⟩
 case round =>
  clear H'
  try clear p2
  obtain ⟨x1_1, x5_1, rfl, rfl, HA, HK1, ⟨m1, rfl⟩⟩ := hrel
  cases gk with
  | zero => exact absurd HA.out (by simp [laws_heldIntSS.l0])
  | succ k1 =>
   have H := HA.out
   clear HA
   simp only [laws_heldIntSS.l0] at H
   by_cases c3 : x5_1 < (l0.length : Int)
   ·rw [if_pos c3] at H
    have c3b0 : decide (x5_1 < (l0.length : Int)) = true := decide_eq_true c3
    clear c3
    by_cases c4 : 0 ≤ x5_1
    ·rw [if_pos c4] at H
     have c4b0 : decide (0 ≤ x5_1) = true := decide_eq_true c4
     clear c4
     replace H := Option.bind_eq_some_iff.mp H
     obtain ⟨t344, A50, H⟩ := H
     replace H : (if t344 < 0 then (some (-1)) else (laws_heldIntSS.l0 k1 l0 t344 (wrap64 (x5_1 + 1)))) = some r := H
     have A5 := Aside0.mk A50
     clear A50
     by_cases c6 : t344 < 0
     ·rw [if_pos c6] at H
      have c6b0 : decide (t344 < 0) = true := decide_eq_true c6
      clear c6
      obtain rfl := Option.some.inj H
      have p343 : 0 ≤ (x5_1 : Int) := zD
      have q343 : x5_1 < (l0.length : Int) := zD
      obtain ⟨ad343, A343_0, c343_0, e343, hx343_0, hl343_0, hi343_0⟩ := at_L3 HR0.out x5_1 p343 q343
      cases e343
      have HR343_0 := Aside0.mk hi343_0
      have HC343_0 := Aside0.mk hl343_0
      clear hi343_0 hl343_0
      replace p343 := eq_true p343
      replace q343 := eq_true q343
      go_wp2_with (first | ((with_reducible refine gate_callee (f := 25) rfl ?_); refine goesL_ (some 17) rfl rfl Try.func25 (by kernel_rfl) rfl #[.slice A343_0 (rd_L3 l0 x5_1).length c343_0, .int .i64 x1_1] rfl zA ?_; (with_reducible refine (laws_heldIntS.calls k1 _ _ (rd_L3 l0 x5_1) x1_1 t344 _ ?side1 ?side2 A5.out).mono ?_); (case side1 => exact zC HR343_0.out); (case side2 => exact HC343_0.out); rintro e w' ⟨rfl, ⟨nd, rfl⟩⟩; refine ⟨_, rfl, ?_⟩))
      go_ret
      exact ⟨by first | rfl | (simp; done) | (simp [*]; done), by repeat (first | exact Drawn0.refl _ | apply Drawn0.step)⟩
     ·rw [if_neg c6] at H
      have c6b0 : decide (t344 < 0) = false := decide_eq_false c6
      clear c6
      have H' := Aside0.mk H
      clear H
      have p343 : 0 ≤ (x5_1 : Int) := zD
      have q343 : x5_1 < (l0.length : Int) := zD
      obtain ⟨ad343, A343_0, c343_0, e343, hx343_0, hl343_0, hi343_0⟩ := at_L3 HR0.out x5_1 p343 q343
      cases e343
      have HR343_0 := Aside0.mk hi343_0
      have HC343_0 := Aside0.mk hl343_0
      clear hi343_0 hl343_0
      replace p343 := eq_true p343
      replace q343 := eq_true q343
      go_wp2_with (first | ((with_reducible refine gate_callee (f := 25) rfl ?_); refine goesL_ (some 17) rfl rfl Try.func25 (by kernel_rfl) rfl #[.slice A343_0 (rd_L3 l0 x5_1).length c343_0, .int .i64 x1_1] rfl zA ?_; (with_reducible refine (laws_heldIntS.calls k1 _ _ (rd_L3 l0 x5_1) x1_1 t344 _ ?side1 ?side2 A5.out).mono ?_); (case side1 => exact zC HR343_0.out); (case side2 => exact HC343_0.out); rintro e w' ⟨rfl, ⟨nd, rfl⟩⟩; refine ⟨_, rfl, ?_⟩))
      go_roundg k1
      case measure => have := HK1.out; omega
      case rel => exact ⟨(t344), (wrap64 (x5_1 + 1)), (by first | rfl | (simp; done) | (simp [*]; done)), (by first | rfl | (simp; done) | (simp [*]; done)), H', ⟨by have := HK1.out; omega⟩, by repeat (first | exact Drawn0.refl _ | apply Drawn0.step)⟩
    ·rw [if_neg c4] at H
     exact absurd H (by simp)
   ·rw [if_neg c3] at H
    have c3b0 : decide (x5_1 < (l0.length : Int)) = false := decide_eq_false c3
    clear c3
    obtain rfl := Option.some.inj H
    go_wp2
    go_ret
    exact ⟨by first | rfl | (simp; done) | (simp [*]; done), by repeat (first | exact Drawn0.refl _ | apply Drawn0.step)⟩

-- NOT PRINTED: function 8 (laws_FnExactSquareTours)

/-! ### laws_markIntSS: function 31 -/
/-- One row among rows that lie apart: what is written into it says nothing of the others. -/
theorem laws_markIntSS.inner {w : World} {base : Nat} {ok : Nat → Prop} {v : Value} {xs : List (List Int)} (h : Kd.S (Kd.slice 3 (Kd.int .i64)) 32 w base ok v xs) {i : Nat} (hi : i < xs.length) :
  ∃ (P : Nat → Prop) (g cap : Nat) (u : Value), v = .slice (some ⟨g, 0, none⟩) xs.length cap ∧ w.cell? ⟨g, i, none⟩ = some u ∧ Kd.R (Kd.int .i64) 3 w base P u (xs.getD i []) ∧ (∀ k, P k → ok k) ∧
   ∀ w' ys, Kept w w' P → Kd.R (Kd.int .i64) 3 w' base (fun k => P k ∨ w.heap.size ≤ k) u ys → Kd.S (Kd.slice 3 (Kd.int .i64)) 32 w' base ok v (xs.set i ys) := by
 obtain ⟨g, cap, rfl, hg, hgl, hgc⟩ := Kd.S_form h (by omega)
 obtain ⟨f, h0, inner, ho, hr⟩ := h
 have hil : inner.length = xs.length := by have := hr.1; rw [List.length_zipIdx] at this; simpa [Kd.tag, Kd.slice] using this
 have cellAt : ∀ j u, inner[j]? = some u → w.cell? ⟨g, j, none⟩ = some u := fun j u hu => by
  have := ho.cells (g := g) (by simp [Value.ownBlock]) j u hu
  rwa [add_plain] at this
 have row : ∀ j p, xs[j]? = some p → ∃ u, inner[j]? = some u ∧ Kd.R (Kd.int .i64) 3 w base (fun k => (ok k ∧ some k ≠ (Value.slice (some ⟨g, 0, none⟩) xs.length cap).ownBlock) ∧ f k = j) u p := fun j p hj => by
  obtain ⟨u, e1, e2⟩ := hr.2 j (p, j) (Kd.zip_at hj)
  refine ⟨u, ?_, e2⟩
  have e1 : (inner.drop (j * 1)).take 1 = [u] := e1
  rw [Nat.mul_one] at e1
  have := congrArg (fun l => l[0]?) e1
  simpa using this
 obtain ⟨u, hu, hR⟩ := row i (xs.getD i []) (by rw [List.getD_eq_getElem?_getD, List.getElem?_eq_getElem hi]; rfl)
 refine ⟨fun k => ((ok k ∧ some k ≠ (Value.slice (some ⟨g, 0, none⟩) xs.length cap).ownBlock) ∧ f k = i) ∧ base ≤ k ∧ k < w.heap.size ∧ ∃ q, q ∈ 3 :: (Kd.int .i64).E ∧ ∃ cells, w.heap[k]? = some (.cells cells q (0, 0)), g, cap, u, rfl, cellAt i u hu, Kd.R_bound hR, fun k hk => hk.1.1.1, fun w' ys hk hy => ?_⟩
 have hgk : w'.heap[g]? = w.heap[g]? := hk.2 g hgl (fun hp => hp.1.1.2 (by simp [Value.ownBlock]))
 have ho2 : w'.ownsRow base 32 1 (.slice (some ⟨g, 0, none⟩) xs.length cap) xs.length inner := by
  rw [List.length_zipIdx] at ho
  exact own_move ho (fun k hk2 => by
   have : g = k := by simpa [Value.ownBlock] using hk2
   rw [← this]; exact hgk)
 refine ⟨f, h0, inner, by rw [List.length_zipIdx, List.length_set]; exact ho2, ⟨by rw [List.length_zipIdx, List.length_set]; simpa [Kd.tag, Kd.slice] using hil, fun j q hq => ?_⟩⟩
 obtain ⟨p, jj⟩ := q
 rw [List.getElem?_zipIdx] at hq
 obtain ⟨p2, hp2, e⟩ := Option.map_eq_some_iff.1 hq
 obtain ⟨rfl, rfl⟩ : p2 = p ∧ 0 + j = jj := by simpa using e
 rw [Nat.zero_add]
 have tk : ∀ u, inner[j]? = some u → (inner.drop (j * 1)).take 1 = [u] := fun u hu => by
  rw [Nat.mul_one]
  have hlt : j < inner.length := by
   rcases Nat.lt_or_ge j inner.length with h1 | h1
   ·exact h1
   ·rw [List.getElem?_eq_none h1] at hu; cases hu
  rw [List.drop_eq_getElem_cons hlt]
  rw [List.getElem?_eq_getElem hlt] at hu
  simp [Option.some.inj hu]
 by_cases hji : i = j
 ·subst hji
  rw [List.getElem?_set_self hi] at hp2
  obtain rfl := Option.some.inj hp2
  refine ⟨u, tk u hu, ⟨fun k hk2 => hR.1 k hk2, hy.2⟩⟩
 ·rw [List.getElem?_set_ne hji] at hp2
  obtain ⟨u2, hu2, hR2⟩ := row j p2 hp2
  refine ⟨u2, tk u2 hu2, ?_⟩
  have := Kd.R_move (w1 := w') (Kd.R_bound hR2) (fun k hk2 => hk.2 k hk2.2.2.1 (fun hp => hji (by rw [← hp.1.2, hk2.1.2])))
  exact Kd.R_mono this (fun k hk2 => hk2.1)
def laws_markIntSS.l0 : Nat → List (List Int) → Int → Int → Option (Int × List (List Int))
 | 0, _, _, _ => none
 | k + 1, x0, x1, x5 => if x5 < (x0.length : Int) then (if 0 ≤ x5 then ((laws_markIntS.f k (x0.getD x5.toNat []) x1).bind fun b => laws_markIntSS.l0 k (x0.set x5.toNat b.2) b.1 (wrap64 (x5 + 1))) else none) else some (x1, x0)
def laws_markIntSS.f (k : Nat) (l0 : List (List Int)) (a1 : Int) : Option (Int × List (List Int)) := laws_markIntSS.l0 k l0 a1 0
theorem laws_markIntSS.mono_l : ∀ k x0 x1 x5, LeO (laws_markIntSS.l0 k x0 x1 x5) (laws_markIntSS.l0 (k + 1) x0 x1 x5)
 | 0, _, _, _ => fun r h => by simp [laws_markIntSS.l0] at h
 | k + 1, x0, x1, x5 => by
  rw [laws_markIntSS.l0, laws_markIntSS.l0]
  exact LeO.ite (LeO.ite (LeO.bind (laws_markIntS.mono _ _ k) (fun _ => laws_markIntSS.mono_l k _ _ _)) (LeO.refl _)) (LeO.refl _)
theorem laws_markIntSS.mono : ∀ a0 a1 k, LeO (laws_markIntSS.f k a0 a1) (laws_markIntSS.f (k + 1) a0 a1) := fun a0 a1 k => laws_markIntSS.mono_l k _ _ _
set_option maxHeartbeats 8000000 in
set_option maxRecDepth 100000 in
theorem laws_markIntSS.calls (k : Nat) (ok : Nat → Prop) (u0 : Value) (l0 : List (List Int)) (a1 : Int) (r1 : Int) (r2 : List (List Int)) (w0 w : World) (hB : Below w0.heap.size w0 w) (ho0 : Kd.S (Kd.slice 3 (Kd.int .i64)) 32 w w0.heap.size ok u0 l0) (h : laws_markIntSS.f k l0 a1 = some (r1, r2)) :
  Calls Try.prog 31 #[u0, .int .i64 a1] w fun e w' => e = .returned (.int .i64 r1) ∧ Kd.S (Kd.slice 3 (Kd.int .i64)) 32 w' w0.heap.size ok u0 r2 ∧ Below w0.heap.size w0 w' ∧ Kept w w' ok := by
 obtain ⟨A0, c0, rfl⟩ := Kd.S_slice ho0
 have HO0 := Aside0.mk ho0
 have HK := Aside0.mk (Kept.refl w ok)
 have HB := Aside0.mk hB
 have H' : Aside0 (laws_markIntSS.l0 k l0 a1 0 = some (r1, r2)) := ⟨h⟩
 obtain ⟨n, hn⟩ : ∃ n, n = l0.length := ⟨_, rfl⟩
 have HN := Aside0.mk hn
 rw [← hn] at HO0 ⊢
 clear hB ho0 h hn
 go_enter Try.func31, Try.ntmps31
 go_wp2
 go_loopg [1, 5] k (fun kq v1 v5 w' => ∃ (L : List (List Int)) (x1 x5 : Int), v1 = .int .i64 x1 ∧ v5 = .int .i64 x5 ∧ Aside0 (laws_markIntSS.l0 kq L x1 x5 = some (r1, r2)) ∧ Aside0 (L.length = n) ∧ Aside0 (Kd.S (Kd.slice 3 (Kd.int .i64)) 32 w' w0.heap.size ok (.slice A0 n c0) L) ∧ Aside0 (Below w0.heap.size w0 w') ∧ Aside0 (Kept w w' ok))
 case atStart => exact ⟨l0, a1, 0, rfl, rfl, H', ⟨HN.out.symm⟩, HO0, HB, HK⟩
 case round =>
  clear H' HO0 HB HK
  obtain ⟨L, x1, x5, rfl, rfl, HA, HL, HO, HB, HK⟩ := hrel
  cases gk with
  | zero => exact absurd HA.out (by simp [laws_markIntSS.l0])
  | succ k2 =>
   have H := HA.out
   clear HA
   simp only [laws_markIntSS.l0] at H
   rw [HL.out] at H
   by_cases c1 : x5 < (n : Int)
   ·rw [if_pos c1] at H
    have c1b : decide (x5 < (n : Int)) = true := decide_eq_true c1
    by_cases c2 : 0 ≤ x5
    ·rw [if_pos c2] at H
     have c2b : decide (0 ≤ x5) = true := decide_eq_true c2
     obtain ⟨⟨m, ys⟩, h1, H⟩ := Option.bind_eq_some_iff.1 H
     have H' : Aside0 (laws_markIntSS.l0 k2 (L.set x5.toNat ys) m (wrap64 (x5 + 1)) = some (r1, r2)) := ⟨H⟩
     obtain ⟨P, g, cap, u, e1, hc, hR, hP, hput⟩ := laws_markIntSS.inner HO.out (i := x5.toNat) (by have := HL.out; omega)
     obtain ⟨rfl, rfl⟩ : A0 = some ⟨g, 0, none⟩ ∧ c0 = cap := by
      injection e1 with e1 e2 e3
      exact ⟨e1, e3⟩
     have HC := Aside0.mk (laws_markIntS.calls k2 P u (L.getD x5.toNat []) x1 m ys w0 _ HB.out hR h1)
     have HP := Aside0.mk (And.intro hP hput)
     clear H h1 hR hP hput e1
     go_wp2_with ((with_reducible refine gate_callee (f := 24) rfl ?_); refine goesL_ (some 17) rfl rfl Try.func24 (by kernel_rfl) rfl #[u, .int .i64 x1] rfl zA ?_; (with_reducible refine HC.out.mono ?_); rintro e w2 ⟨rfl, hr2, hb2, hk2⟩; refine ⟨_, rfl, ?_⟩; have HS2 := Aside0.mk (HP.out.2 _ _ hk2 hr2); have HB2 := Aside0.mk hb2; have HK2 := Aside0.mk (HK.out.then_ hk2 (fun k hk => .inl (HP.out.1 k hk))); clear hr2 hb2 hk2)
     go_roundg k2
     case rel => exact ⟨_, _, _, rfl, rfl, H', ⟨by rw [List.length_set]; exact HL.out⟩, HS2, HB2, HK2⟩
     all_goals omega
    ·rw [if_neg c2] at H; cases H
   ·rw [if_neg c1] at H
    have c1b : decide (x5 < (n : Int)) = false := decide_eq_false c1
    obtain ⟨rfl, rfl⟩ : x1 = r1 ∧ L = r2 := by simpa using H
    clear H c1
    go_wp2
    go_ret
    exact ⟨rfl, HO.out, HB.out, HK.out⟩
theorem laws_markIntSS.len_l : ∀ (k : Nat) (x0 : List (List Int)) (x1 x5 : Int) {r : Int × List (List Int)}, laws_markIntSS.l0 k x0 x1 x5 = some r → r.2.length = x0.length
 | 0, _, _, _, _, h => by simp [laws_markIntSS.l0] at h
 | k + 1, x0, x1, x5, r, h => by
  rw [laws_markIntSS.l0] at h
  by_cases c1 : x5 < (x0.length : Int)
  ·rw [if_pos c1] at h
   by_cases c2 : 0 ≤ x5
   ·rw [if_pos c2] at h
    obtain ⟨b, _, h⟩ := Option.bind_eq_some_iff.1 h
    rw [laws_markIntSS.len_l k _ _ _ h, List.length_set]
   ·rw [if_neg c2] at h; cases h
  ·rw [if_neg c1] at h
   obtain rfl := Option.some.inj h
   rfl
theorem laws_markIntSS.len (k : Nat) (x0 : List (List Int)) (x1 : Int) {r : Int × List (List Int)} (h : laws_markIntSS.f k x0 x1 = some r) : r.2.length = x0.length := laws_markIntSS.len_l k x0 x1 0 h

end Go.Proofs.Ythgboknndmiedaa.PAll
