/- Own text of this session, written by a program of this session (wip/t/own.py) out of what the kit tells of the functions: each Go function as a Lean function, and the walk through its code. -/
import Derived.Test.YtgglagpciojfmaaT
import Derived.Test.YtgglagpciojfmaaF25
import Derived.Test.YtgglagpciojfmaaF28
import Derived.Test.YtgglagpciojfmaaF40
import Derived.Test.YtgglagpciojfmaaF46
namespace Go.Proofs.Ytgglagpciojfmaa.PAll
open Go.RowKit Go.Proofs.YtgglagpciojfmaaW.PrintWords Go.Proofs.YtgglagpciojfmaaW.PrintLast Go.Proofs.YtgglagpciojfmaaW.PrintMore
attribute [local go_sem] max2_int min2_int max_two min_two max_three min_three max_four min_four   -- for this text's walks alone
set_option linter.unusedVariables false
set_option linter.unusedSimpArgs false

/-! ### laws_FnRingWinding: function 14 -/
mutual
def laws_FnRingWinding.j0 : Nat → List Int → Int → Bool → Bool → Option (Bool)
 | 0, _, _, _, _ => none
 | k + 1, x3, x4, x5, x35 => if x35 = true then (some false) else (if x5 = true then ((impl_RingNet.f k (x3.length : Int)).bind fun t732 => (laws_FnRingWinding.l0 k x3 x4 t732 (([] : List Int)) 0)) else (if x4 = 0 then ((laws_alive.f k).bind fun t731 => (some t731)) else (some false)))
def laws_FnRingWinding.l0 : Nat → List Int → Int → List Int → List Int → Int → Option (Bool)
 | 0, _, _, _, _, _ => none
 | k + 1, x3, x4, x8, x9, x10 => if x10 ≤ (x3.length : Int) then (if (x3.length : Int) = 0 then (none) else (if x9.length < 17592186044416 then (laws_FnRingWinding.l0 k x3 x4 x8 (x9 ++ [Int.tmod x10 (x3.length : Int)]) (wrap64 (x10 + 1))) else (none))) else ((impl_WindingOf.f k x8 x3 x9).bind fun bt741 => (if bt741.2 = true then (if bt741.1 = x4 then ((impl_EndsAt.f k x8 3 x3).bind fun t743 => (some ((x4 == 0) == (decide (t743 ≥ 0))))) else (some false)) else (some false)))
end
def laws_FnRingWinding.f (k : Nat) (l0 : List Int) : Option (Bool) := if (l0.length : Int) > 1048576 then (some true) else ((spec_DrawRingWinding.f k l0).bind fun t724 => ((impl_RingWinding.f k t724).bind fun bt727 => ((spec_RingWinding.f k t724).bind fun bt729 => (if bt727.1 = bt729.1 then (laws_FnRingWinding.j0 k t724 bt727.1 bt727.2 (bt727.2 != bt729.2)) else (laws_FnRingWinding.j0 k t724 bt727.1 bt727.2 true)))))
theorem laws_FnRingWinding.mono_l : ∀ k, (∀ y0 y1 y2 y3, LeO (laws_FnRingWinding.j0 k y0 y1 y2 y3) (laws_FnRingWinding.j0 (k + 1) y0 y1 y2 y3)) ∧ (∀ y0 y1 y2 y3 y4, LeO (laws_FnRingWinding.l0 k y0 y1 y2 y3 y4) (laws_FnRingWinding.l0 (k + 1) y0 y1 y2 y3 y4))
 | 0 => ⟨fun _ _ _ _ r h => by simp [laws_FnRingWinding.j0] at h, fun _ _ _ _ _ r h => by simp [laws_FnRingWinding.l0] at h⟩
 | k + 1 => by
  obtain ⟨ih0, ih1⟩ := laws_FnRingWinding.mono_l k
  refine ⟨?_, ?_⟩
  ·intro y0 y1 y2 y3
   unfold laws_FnRingWinding.j0
   repeat' first
   | (with_reducible exact ih0 _ _ _ _)
   | (with_reducible exact ih1 _ _ _ _ _)
   | (with_reducible exact impl_EndsAt.mono _ _ _ _)
   | (with_reducible exact impl_RingNet.mono _ _)
   | (with_reducible exact impl_RingWinding.mono _ _)
   | (with_reducible exact impl_WindingOf.mono _ _ _ _)
   | (with_reducible exact laws_alive.mono _)
   | (with_reducible exact spec_DrawRingWinding.mono _ _)
   | (with_reducible exact spec_RingWinding.mono _ _)
   | (with_reducible exact LeO.refl _)
   | (with_reducible exact LeO.none _)
   | (with_reducible refine LeO.ite ?_ ?_)
   | (with_reducible refine LeO.bind ?_ (fun _ => ?_))
   | exact ih0 _ _ _ _
   | exact ih1 _ _ _ _ _
   | exact impl_EndsAt.mono _ _ _ _
   | exact impl_RingNet.mono _ _
   | exact impl_RingWinding.mono _ _
   | exact impl_WindingOf.mono _ _ _ _
   | exact laws_alive.mono _
   | exact spec_DrawRingWinding.mono _ _
   | exact spec_RingWinding.mono _ _
   | exact LeO.none _
   | refine LeO.ite ?_ ?_
   | refine LeO.bind ?_ (fun _ => ?_)
  ·intro y0 y1 y2 y3 y4
   unfold laws_FnRingWinding.l0
   repeat' first
   | (with_reducible exact ih0 _ _ _ _)
   | (with_reducible exact ih1 _ _ _ _ _)
   | (with_reducible exact impl_EndsAt.mono _ _ _ _)
   | (with_reducible exact impl_RingNet.mono _ _)
   | (with_reducible exact impl_RingWinding.mono _ _)
   | (with_reducible exact impl_WindingOf.mono _ _ _ _)
   | (with_reducible exact laws_alive.mono _)
   | (with_reducible exact spec_DrawRingWinding.mono _ _)
   | (with_reducible exact spec_RingWinding.mono _ _)
   | (with_reducible exact LeO.refl _)
   | (with_reducible exact LeO.none _)
   | (with_reducible refine LeO.ite ?_ ?_)
   | (with_reducible refine LeO.bind ?_ (fun _ => ?_))
   | exact ih0 _ _ _ _
   | exact ih1 _ _ _ _ _
   | exact impl_EndsAt.mono _ _ _ _
   | exact impl_RingNet.mono _ _
   | exact impl_RingWinding.mono _ _
   | exact impl_WindingOf.mono _ _ _ _
   | exact laws_alive.mono _
   | exact spec_DrawRingWinding.mono _ _
   | exact spec_RingWinding.mono _ _
   | exact LeO.none _
   | refine LeO.ite ?_ ?_
   | refine LeO.bind ?_ (fun _ => ?_)
theorem laws_FnRingWinding.mono : ∀ a0 k, LeO (laws_FnRingWinding.f k a0) (laws_FnRingWinding.f (k + 1) a0) := by
 intro a0 k
 obtain ⟨ih0, ih1⟩ := laws_FnRingWinding.mono_l k
 unfold laws_FnRingWinding.f
 repeat' first
   | (with_reducible exact ih0 _ _ _ _)
   | (with_reducible exact ih1 _ _ _ _ _)
   | (with_reducible exact impl_EndsAt.mono _ _ _ _)
   | (with_reducible exact impl_RingNet.mono _ _)
   | (with_reducible exact impl_RingWinding.mono _ _)
   | (with_reducible exact impl_WindingOf.mono _ _ _ _)
   | (with_reducible exact laws_alive.mono _)
   | (with_reducible exact spec_DrawRingWinding.mono _ _)
   | (with_reducible exact spec_RingWinding.mono _ _)
   | (with_reducible exact LeO.refl _)
   | (with_reducible exact LeO.none _)
   | (with_reducible refine LeO.ite ?_ ?_)
   | (with_reducible refine LeO.bind ?_ (fun _ => ?_))
   | exact ih0 _ _ _ _
   | exact ih1 _ _ _ _ _
   | exact impl_EndsAt.mono _ _ _ _
   | exact impl_RingNet.mono _ _
   | exact impl_RingWinding.mono _ _
   | exact impl_WindingOf.mono _ _ _ _
   | exact laws_alive.mono _
   | exact spec_DrawRingWinding.mono _ _
   | exact spec_RingWinding.mono _ _
   | exact LeO.none _
   | refine LeO.ite ?_ ?_
   | refine LeO.bind ?_ (fun _ => ?_)
set_option maxHeartbeats 8000000 in
set_option maxRecDepth 100000 in
theorem laws_FnRingWinding.calls (k : Nat) (A0 : Option Addr) (c0 : Nat) (l0 : List Int) (r : Bool) (w : World) (hr0 : Kd.C (Kd.int .u8) w A0 l0.length l0) (hc0 : l0.length ≤ c0) (h : laws_FnRingWinding.f k l0 = some r) :
  Calls Try.prog 14 #[.slice A0 l0.length c0] w fun e w' => e = .returned (.bool r) ∧ Below w.heap.size w w' := by
 have HR0 := Aside0.mk hr0
 have HC0 := Aside0.mk hc0
 clear hr0 hc0
 have HB := Aside0.mk (Below.refl w.heap.size w)
 have H : (if (l0.length : Int) > 1048576 then (some true) else ((spec_DrawRingWinding.f k l0).bind fun t724 => ((impl_RingWinding.f k t724).bind fun bt727 => ((spec_RingWinding.f k t724).bind fun bt729 => (if bt727.1 = bt729.1 then (laws_FnRingWinding.j0 k t724 bt727.1 bt727.2 (bt727.2 != bt729.2)) else (laws_FnRingWinding.j0 k t724 bt727.1 bt727.2 true)))))) = some r := h
 clear h
 by_cases c2 : (l0.length : Int) > 1048576
 ·rw [if_pos c2] at H
  have c2b0 : decide (1048576 < (l0.length : Int)) = true := decide_eq_true c2
  have c2b1 : decide (1048576 < l0.length) = true := decide_eq_true (by omega)
  clear c2
  obtain rfl := Option.some.inj H
  go_enter Try.func14, Try.ntmps14
  go_wp2
  go_ret
  exact ⟨by first | rfl | (simp [errW_none, errW_some] <;> rfl) | (simp [*, errW_none, errW_some] <;> rfl), zB HB.out⟩
 ·rw [if_neg c2] at H
  have c2b0 : decide (1048576 < (l0.length : Int)) = false := decide_eq_false c2
  have c2b1 : decide (1048576 < l0.length) = false := decide_eq_false (by omega)
  clear c2
  replace H := Option.bind_eq_some_iff.mp H
  obtain ⟨t724, A30, H⟩ := H
  replace H : ((impl_RingWinding.f k t724).bind fun bt727 => ((spec_RingWinding.f k t724).bind fun bt729 => (if bt727.1 = bt729.1 then (laws_FnRingWinding.j0 k t724 bt727.1 bt727.2 (bt727.2 != bt729.2)) else (laws_FnRingWinding.j0 k t724 bt727.1 bt727.2 true)))) = some r := H
  have A3 := Aside0.mk A30
  clear A30
  replace H := Option.bind_eq_some_iff.mp H
  obtain ⟨⟨t727, t728⟩, A40, H⟩ := H
  replace H : ((spec_RingWinding.f k t724).bind fun bt729 => (if t727 = bt729.1 then (laws_FnRingWinding.j0 k t724 t727 t728 (t728 != bt729.2)) else (laws_FnRingWinding.j0 k t724 t727 t728 true))) = some r := H
  have A4 := Aside0.mk A40
  clear A40
  replace H := Option.bind_eq_some_iff.mp H
  obtain ⟨⟨t729, t730⟩, A50, H⟩ := H
  replace H : (if t727 = t729 then (laws_FnRingWinding.j0 k t724 t727 t728 (t728 != t730)) else (laws_FnRingWinding.j0 k t724 t727 t728 true)) = some r := H
  have A5 := Aside0.mk A50
  clear A50
  have HC6 := Aside0.mk H
  clear H
  go_enter Try.func14, Try.ntmps14
  go_upto_region 6 with (first | ((with_reducible refine gate_callee (f := 39) rfl ?_); refine goesL_ (some 17) rfl rfl Try.func39 (by kernel_rfl) rfl #[.slice A0 l0.length c0] rfl zA ?_; (with_reducible refine (spec_DrawRingWinding.calls k _ _ l0 t724 _ ?side1 ?side2 A3.out).mono ?_); (case side1 => exact zC HR0.out); (case side2 => exact HC0.out); rintro e w7 ⟨v725, rfl, ho0, hb⟩; refine ⟨_, rfl, ?_⟩; have n0_ := Aside0.mk (Kd.R_lower ho0 (below_size (zB HB.out))); have n1_ := Aside0.mk (below_step (zB HB.out) hb); clear HB; have HO726 := n0_; have HB := n1_; clear n0_ n1_; (try clear hb); (try clear hb2); (try clear hk); (try clear hi); (try clear ho0); obtain ⟨Ao8, co8, eo8⟩ := Kd.R_slice HO726.out; subst eo8) | ((with_reducible refine gate_callee (f := 40) rfl ?_); refine goesL_ (some 20) rfl rfl Try.func40 (by kernel_rfl) rfl #[.slice Ao8 t724.length co8] rfl zA ?_; (with_reducible refine (impl_RingWinding.calls k _ _ t724 t727 t728 _ ?side1 ?side2 A4.out).mono ?_); (case side1 => exact zC (Kd.R_reads' HO726.out).2.2); (case side2 => exact (Kd.R_reads' HO726.out).2.1); rintro e w9 ⟨rfl, hb⟩; refine ⟨_, rfl, ?_⟩; have n0_ := Aside0.mk (Kd.R_below (zR HO726.out) hb); have n1_ := Aside0.mk (below_step (zB HB.out) hb); clear HO726; clear HB; have HO726 := n0_; have HB := n1_; clear n0_ n1_; (try clear hb); (try clear hb2); (try clear hk); (try clear hi)) | ((with_reducible refine gate_callee (f := 41) rfl ?_); refine goesL_ (some 25) rfl rfl Try.func41 (by kernel_rfl) rfl #[.slice Ao8 t724.length co8] rfl zA ?_; (with_reducible refine (spec_RingWinding.calls k _ _ t724 t729 t730 _ ?side1 ?side2 A5.out).mono ?_); (case side1 => exact zC (Kd.R_reads' HO726.out).2.2); (case side2 => exact (Kd.R_reads' HO726.out).2.1); rintro e w10 ⟨rfl, hb⟩; refine ⟨_, rfl, ?_⟩; have n0_ := Aside0.mk (Kd.R_below (zR HO726.out) hb); have n1_ := Aside0.mk (below_step (zB HB.out) hb); clear HO726; clear HB; have HO726 := n0_; have HB := n1_; clear n0_ n1_; (try clear hb); (try clear hb2); (try clear hk); (try clear hi)))
  (try simp only [Act.put, List.setIfInBounds_toArray, List.set_cons_zero, List.set_cons_succ])
  go_cut [35] (fun v35 wc => ∃ (kq : Nat) (x35_5 : Bool), v35 = .bool x35_5 ∧ Aside0 (laws_FnRingWinding.j0 kq t724 t727 t728 x35_5 = some r) ∧ Aside0 (kq ≤ k) ∧ Aside0 (Kd.R (Kd.int .i64) 3 wc w.heap.size (fun _ => True) (.slice Ao8 t724.length co8) t724) ∧ Aside0 (Below w.heap.size w wc))
  case first =>
   have H := HC6.out
   clear HC6
   by_cases c11 : t727 = t729
   ·rw [if_pos c11] at H
    have c11b0 : (t727 == t729) = true := beq_iff_eq.mpr c11
    have c11b1 : (t727 != t729) = false := bne_eq_false_iff_eq.mpr c11
    clear c11
    (first | rw [c11b0] | (simp only [i64_w, i32_w]; rw [c11b0]) | skip)
    have H' := Aside0.mk H
    clear H
    go_wp2
    go_meet
    case rel => exact ⟨_, ((t728 != t730)), (by first | rfl | (simp; done) | (simp [*]; done)), H', ⟨by first | omega | exact Nat.le_refl _⟩, ⟨by (with_reducible repeat (first | apply Kd.R_alloc | apply Kd.R_drewN | apply Kd.R_drew)); exact HO726.out⟩, ⟨zB HB.out⟩⟩
   ·rw [if_neg c11] at H
    have c11b0 : (t727 == t729) = false := beq_eq_false_iff_ne.mpr c11
    have c11b1 : (t727 != t729) = true := bne_iff_ne.mpr c11
    (first | rw [c11b0] | (simp only [i64_w, i32_w]; rw [c11b0]) | skip)
    have H' := Aside0.mk H
    clear H
    go_wp2
    go_meet
    case rel => exact ⟨_, (true), (by first | rfl | (simp; done) | (simp [*]; done)), H', ⟨by first | omega | exact Nat.le_refl _⟩, ⟨by (with_reducible repeat (first | apply Kd.R_alloc | apply Kd.R_drewN | apply Kd.R_drew)); exact HO726.out⟩, ⟨zB HB.out⟩⟩
  case rest =>
   clear HC6
   try clear c1
   try clear c2
   try clear c2b0
   try clear c2b1
   try clear p2
   try clear c3
   try clear c4
   try clear c11
   try clear c11b0
   try clear c11b1
   obtain ⟨kq, x35_5, rfl, HA, HJ5, HO_3, HB⟩ := hcut
   cases kq with
   | zero => exact absurd HA.out (by simp [laws_FnRingWinding.j0])
   | succ kj5 =>
    have H := HA.out
    clear HA
    simp only [laws_FnRingWinding.j0] at H
    by_cases c12 : x35_5 = true
    ·subst c12
     have H1 : (some false) = some r := by rw [if_pos rfl] at H; exact H
     clear H
     have H := H1
     clear H1
     obtain rfl := Option.some.inj H
     go_wp2
     go_ret
     exact ⟨by first | rfl | (simp [errW_none, errW_some] <;> rfl) | (simp [*, errW_none, errW_some] <;> rfl), zB HB.out⟩
    ·replace c12 := Bool.eq_false_iff.mpr c12
     subst c12
     have H1 : (if t728 = true then ((impl_RingNet.f kj5 (t724.length : Int)).bind fun t732 => (laws_FnRingWinding.l0 kj5 t724 t727 t732 (([] : List Int)) 0)) else (if t727 = 0 then ((laws_alive.f kj5).bind fun t731 => (some t731)) else (some false))) = some r := by rw [if_neg (show ¬ (false = true) by decide)] at H; exact H
     clear H
     have H := H1
     clear H1
     by_cases c13 : t728 = true
     ·subst c13
      have H1 : ((impl_RingNet.f kj5 (t724.length : Int)).bind fun t732 => (laws_FnRingWinding.l0 kj5 t724 t727 t732 (([] : List Int)) 0)) = some r := by rw [if_pos rfl] at H; exact H
      clear H
      have H := H1
      clear H1
      replace H := Option.bind_eq_some_iff.mp H
      obtain ⟨t732, A140, H⟩ := H
      replace H : (laws_FnRingWinding.l0 kj5 t724 t727 t732 (([] : List Int)) 0) = some r := H
      have A14 := Aside0.mk A140
      clear A140
      obtain ⟨y735, hy735⟩ : ∃ y_ : List Int, y_ = (([] : List Int)) := ⟨_, rfl⟩
      replace H : (laws_FnRingWinding.l0 kj5 t724 t727 t732 y735 0) = some r := by first | (rw [hy735]; with_reducible exact H) | (have H2_ := (Option.bind_some _ _).symm.trans H; rw [hy735]; with_reducible exact H2_) | (have H2_ := (Option.bind_some _ _).symm.trans H; with_reducible exact H2_) | with_reducible exact H | (rw [hy735]; exact H) | exact H
      have Ny735 := Aside0.mk hy735
      clear hy735
      have H' := Aside0.mk H
      clear H
      go_wp2_with (first | ((with_reducible refine gate_callee (f := 35) rfl ?_); refine goesL_ (some 45) rfl rfl Try.func35 (by kernel_rfl) rfl #[.int .i64 (t724.length : Int)] rfl zA ?_; (with_reducible refine (impl_RingNet.calls kj5 (t724.length : Int) t732 _ A14.out).mono ?_); rintro e w15 ⟨v733, rfl, ho0, hb⟩; refine ⟨_, rfl, ?_⟩; have n0_ := Aside0.mk (Kd.R_elder' (zR HO_3.out) (Kd.R_base ho0) hb); have n1_ := Aside0.mk (Kd.R_lower (Kd.R_new' ho0 (Kd.R_lt (zR HO_3.out))) (below_size (zB HB.out))); have n2_ := Aside0.mk (below_step (zB HB.out) hb); clear HO_3; clear HB; have HO_3 := n0_; have HO734 := n1_; have HB := n2_; clear n0_ n1_ n2_; (try clear hb); (try clear hb2); (try clear hk); (try clear hi); (try clear ho0)) | ((with_reducible refine gate_dst (N := 46) rfl ?_); refine Kd.R_lit (Kd.int .i64) _ 3 ?hg (N := 46) ?hd (xs := ([] : List Int)) (inner := []) (ok := fun _ => True) (okp := fun _ => True) ?hr ?hp (fun _ hk => hk) trivial (Below.refl _ _) (Nat.le_refl _) (by simp) ?_; (case hd => rfl); (case hg => rfl); (case hr => first | (go_simp; done) | (go_simp; rfl)); (case hp => exact (Reps.none _ _)); intro v736 w16 ho17 hb hg_ hnew_; clear hg_ hnew_; (first | rw [← Ny735.out] at ho17 | (simp only [Int.reduceToNat] at ho17; rw [← Ny735.out] at ho17)); have n0_ := Aside0.mk (Kd.R_elder' (zR HO_3.out) (Kd.R_base ho17) hb); have n1_ := Aside0.mk (Kd.R_elder' (zR HO734.out) (Kd.R_base ho17) hb); have n2_ := Aside0.mk (Kd.R_lower (Kd.R_new' (Kd.R_new' ho17 (Kd.R_lt (zR HO_3.out))) (Kd.R_lt (zR HO734.out))) (below_size (zB HB.out))); have n3_ := Aside0.mk (below_step (zB HB.out) hb); clear HO_3; clear HO734; clear HB; have HO_3 := n0_; have HO734 := n1_; have HO737 := n2_; have HB := n3_; clear n0_ n1_ n2_ n3_; clear hb ho17))
      go_loopg [9, 10] kj5 (fun kq v9 v10 w' => ∃ (x9_2 : List Int) (x10_2 : Int), v10 = .int .i64 x10_2 ∧ Aside0 (laws_FnRingWinding.l0 kq t724 t727 t732 x9_2 x10_2 = some r) ∧ Aside0 (kq ≤ kj5) ∧ Aside0 (Kd.R (Kd.int .i64) 3 w' w.heap.size (fun k_ => some k_ ≠ (v733 : Value).ownBlock ∧ some k_ ≠ (v9 : Value).ownBlock) (.slice Ao8 t724.length co8) t724) ∧ Aside0 (Kd.R (Kd.int .i64) 3 w' w.heap.size (fun k_ => some k_ ≠ ((.slice Ao8 t724.length co8) : Value).ownBlock ∧ some k_ ≠ (v9 : Value).ownBlock) v733 t732) ∧ Aside0 (Kd.R (Kd.int .i64) 3 w' w.heap.size (fun k_ => some k_ ≠ ((.slice Ao8 t724.length co8) : Value).ownBlock ∧ some k_ ≠ (v733 : Value).ownBlock) v9 x9_2) ∧ Aside0 (Below w.heap.size w w'))
      case atStart => exact ⟨(y735), (0), (by first | rfl | (simp; done) | (simp [*]; done)), H', ⟨Nat.le_refl _⟩, ⟨by (with_reducible repeat (first | apply Kd.R_alloc | apply Kd.R_drewN | apply Kd.R_drew)); exact Kd.R_mono HO_3.out (fun _ hk => ⟨hk.1.2, hk.2⟩)⟩, ⟨by (with_reducible repeat (first | apply Kd.R_alloc | apply Kd.R_drewN | apply Kd.R_drew)); exact Kd.R_mono HO734.out (fun _ hk => ⟨hk.1.2, hk.2⟩)⟩, ⟨by (with_reducible repeat (first | apply Kd.R_alloc | apply Kd.R_drewN | apply Kd.R_drew)); exact Kd.R_mono HO737.out (fun _ hk => ⟨hk.1.2, hk.2⟩)⟩, ⟨zB HB.out⟩⟩
      case round =>
       clear H'
       try clear c1
       try clear c2
       try clear c2b0
       try clear c2b1
       try clear p2
       try clear c3
       try clear c4
       try clear c11
       try clear c11b0
       try clear c11b1
       try clear c12
       try clear c13
       try clear c14
       try clear p2
       obtain ⟨x9_2, x10_2, rfl, HA, HK2, HO_3, HO_8, HO_9, HB⟩ := hrel
       cases gk with
       | zero => exact absurd HA.out (by simp [laws_FnRingWinding.l0])
       | succ k2 =>
        have H := HA.out
        clear HA
        simp only [laws_FnRingWinding.l0] at H
        by_cases c18 : x10_2 ≤ (t724.length : Int)
        ·rw [if_pos c18] at H
         have c18b0 : decide (x10_2 ≤ (t724.length : Int)) = true := decide_eq_true c18
         clear c18
         by_cases c19 : (t724.length : Int) = 0
         ·rw [if_pos c19] at H
          exact absurd H (by simp)
         ·rw [if_neg c19] at H
          have c19b0 : ((t724.length : Int) == 0) = false := beq_eq_false_iff_ne.mpr c19
          have c19b1 : ((t724.length : Int) != 0) = true := bne_iff_ne.mpr c19
          have c19b2 : ¬ (t724 = []) := fun h_ => c19 (by rw [h_]; rfl)
          by_cases c20 : x9_2.length < 17592186044416
          ·rw [if_pos c20] at H
           have LMc20 := Aside0.mk c20
           clear c20
           obtain ⟨y738, hy738⟩ : ∃ y_ : List Int, y_ = (x9_2 ++ [Int.tmod x10_2 (t724.length : Int)]) := ⟨_, rfl⟩
           replace H : (laws_FnRingWinding.l0 k2 t724 t727 t732 y738 (wrap64 (x10_2 + 1))) = some r := by first | (rw [hy738]; with_reducible exact H) | (have H2_ := (Option.bind_some _ _).symm.trans H; rw [hy738]; with_reducible exact H2_) | (have H2_ := (Option.bind_some _ _).symm.trans H; with_reducible exact H2_) | with_reducible exact H | (rw [hy738]; exact H) | exact H
           have Ny738 := Aside0.mk hy738
           clear hy738
           have H' := Aside0.mk H
           clear H
           go_wp2_with (first | ((with_reducible refine gate_builtin (b := .append) (xs := #[.tmp 53, .tmp 58]) rfl ?_); at_builtin; refine Kd.R_append (Kd.int .i64) (w0 := w) w.heap.size rfl (.tmp 53) (.tmp 58) 22 3 (.int .i64 0) 8 rfl Try.underlying22 info3 rfl (by decide) (by omega) u9 x9_2 (Int.tmod x10_2 (t724.length : Int)) [.int .i64 (Int.tmod x10_2 (t724.length : Int))] (fun k_ => some k_ ≠ (.slice Ao8 t724.length co8 : Value).ownBlock ∧ some k_ ≠ (v733 : Value).ownBlock) (fun _ => False) rfl rfl ?aP (fun _ hk => hk.elim) ?aF ?aO ?aB ?aS ?aL ?_; (case aP => exact rfl); (case aB => exact (zB HB.out)); (case aF => exact (fun k_ hk => ⟨Kd.fresh' (Kd.R_lt (zR HO_3.out)) k_ hk, Kd.fresh' (Kd.R_lt (zR HO_8.out)) k_ hk⟩)); (case aO => exact (zR HO_9.out)); (case aS => exact (below_size (zB HB.out))); (case aL => have := LMc20.out; omega); intro v739 w21 ho hb hg hat; rw [← Ny738.out] at ho; have n0_ := Aside0.mk (Kd.R_after (ok := (fun k_ => some k_ ≠ (v733 : Value).ownBlock)) (zR HO_3.out) hg hat); have n1_ := Aside0.mk (Kd.R_after (ok := (fun k_ => some k_ ≠ (.slice Ao8 t724.length co8 : Value).ownBlock)) (zR HO_8.out) hg hat); have n2_ := Aside0.mk (hb); have n3_ := Aside0.mk (ho); clear HO_3; clear HO_8; clear HB; clear HO_9; have HO_3 := n0_; have HO_8 := n1_; have HB := n2_; have HO740 := n3_; clear n0_ n1_ n2_ n3_; clear ho hb hg hat))
           go_roundg k2
           case measure => have := HJ5.out; have := HK2.out; omega
           case rel => exact ⟨(y738), (wrap64 (x10_2 + 1)), (by first | rfl | (simp; done) | (simp [*]; done)), H', ⟨by have := HJ5.out; have := HK2.out; omega⟩, ⟨by (with_reducible repeat (first | apply Kd.R_alloc | apply Kd.R_drewN | apply Kd.R_drew)); exact HO_3.out⟩, ⟨by (with_reducible repeat (first | apply Kd.R_alloc | apply Kd.R_drewN | apply Kd.R_drew)); exact HO_8.out⟩, ⟨by (with_reducible repeat (first | apply Kd.R_alloc | apply Kd.R_drewN | apply Kd.R_drew)); exact HO740.out⟩, ⟨zB HB.out⟩⟩
          ·rw [if_neg c20] at H
           exact absurd H (by simp)
        ·rw [if_neg c18] at H
         have c18b0 : decide (x10_2 ≤ (t724.length : Int)) = false := decide_eq_false c18
         clear c18
         replace H := Option.bind_eq_some_iff.mp H
         obtain ⟨⟨t741, t742⟩, A220, H⟩ := H
         replace H : (if t742 = true then (if t741 = t727 then ((impl_EndsAt.f k2 t732 3 t724).bind fun t743 => (some ((t727 == 0) == (decide (t743 ≥ 0))))) else (some false)) else (some false)) = some r := H
         have A22 := Aside0.mk A220
         clear A220
         by_cases c23 : t742 = true
         ·subst c23
          have H1 : (if t741 = t727 then ((impl_EndsAt.f k2 t732 3 t724).bind fun t743 => (some ((t727 == 0) == (decide (t743 ≥ 0))))) else (some false)) = some r := by rw [if_pos rfl] at H; exact H
          clear H
          have H := H1
          clear H1
          by_cases c24 : t741 = t727
          ·rw [if_pos c24] at H
           have c24b0 : (t741 == t727) = true := beq_iff_eq.mpr c24
           have c24b1 : (t741 != t727) = false := bne_eq_false_iff_eq.mpr c24
           clear c24
           replace H := Option.bind_eq_some_iff.mp H
           obtain ⟨t743, A250, H⟩ := H
           replace H : (some ((t727 == 0) == (decide (t743 ≥ 0)))) = some r := H
           have A25 := Aside0.mk A250
           clear A250
           obtain rfl := Option.some.inj H
           obtain ⟨Ao26, co26, eo26⟩ := Kd.R_slice HO_8.out
           subst eo26
           obtain ⟨Ao27, co27, eo27⟩ := Kd.R_slice HO_9.out
           subst eo27
           go_wp2_with (first | ((with_reducible refine gate_callee (f := 42) rfl ?_); refine goesL_ (some 64) rfl rfl Try.func42 (by kernel_rfl) rfl #[.slice Ao26 t732.length co26, .slice Ao8 t724.length co8, .slice Ao27 x9_2.length co27] rfl zA ?_; (with_reducible refine (impl_WindingOf.calls k2 _ _ t732 _ _ t724 _ _ x9_2 t741 true _ ?side1 ?side2 ?side3 ?side4 ?side5 ?side6 A22.out).mono ?_); (case side1 => exact zC (Kd.R_reads' HO_8.out).2.2); (case side2 => exact (Kd.R_reads' HO_8.out).2.1); (case side3 => exact zC (Kd.R_reads' HO_3.out).2.2); (case side4 => exact (Kd.R_reads' HO_3.out).2.1); (case side5 => exact zC (Kd.R_reads' HO_9.out).2.2); (case side6 => exact (Kd.R_reads' HO_9.out).2.1); rintro e w' ⟨rfl, ⟨nd, rfl⟩⟩; refine ⟨_, rfl, ?_⟩) | (go_at_call 43; (with_reducible refine (impl_EndsAt.calls k2 _ _ t732 3 _ _ t724 t743 _ ?side1 ?side2 ?side3 ?side4 A25.out).mono ?_); (case side1 => exact zC (Kd.R_reads' HO_8.out).2.2); (case side2 => exact (Kd.R_reads' HO_8.out).2.1); (case side3 => exact zC (Kd.R_reads' HO_3.out).2.2); (case side4 => exact (Kd.R_reads' HO_3.out).2.1); rintro e w28 ⟨rfl, hb⟩; have n0_ := Aside0.mk (Kd.R_below (zR HO_3.out) hb); have n1_ := Aside0.mk (Kd.R_below (zR HO_8.out) hb); have n2_ := Aside0.mk (Kd.R_below (zR HO_9.out) hb); have n3_ := Aside0.mk (below_step (zB HB.out) hb); clear HO_3; clear HO_8; clear HO_9; clear HB; have HO_3 := n0_; have HO_8 := n1_; have HO_9 := n2_; have HB := n3_; clear n0_ n1_ n2_ n3_; (try clear hb); (try clear hb2); (try clear hk); (try clear hi)))
           go_ret
           exact ⟨by first | rfl | (simp [errW_none, errW_some] <;> rfl) | (simp [*, errW_none, errW_some] <;> rfl), zB HB.out⟩
          ·rw [if_neg c24] at H
           have c24b0 : (t741 == t727) = false := beq_eq_false_iff_ne.mpr c24
           have c24b1 : (t741 != t727) = true := bne_iff_ne.mpr c24
           obtain rfl := Option.some.inj H
           obtain ⟨Ao29, co29, eo29⟩ := Kd.R_slice HO_8.out
           subst eo29
           obtain ⟨Ao30, co30, eo30⟩ := Kd.R_slice HO_9.out
           subst eo30
           go_wp2_with (first | ((with_reducible refine gate_callee (f := 42) rfl ?_); refine goesL_ (some 64) rfl rfl Try.func42 (by kernel_rfl) rfl #[.slice Ao29 t732.length co29, .slice Ao8 t724.length co8, .slice Ao30 x9_2.length co30] rfl zA ?_; (with_reducible refine (impl_WindingOf.calls k2 _ _ t732 _ _ t724 _ _ x9_2 t741 true _ ?side1 ?side2 ?side3 ?side4 ?side5 ?side6 A22.out).mono ?_); (case side1 => exact zC (Kd.R_reads' HO_8.out).2.2); (case side2 => exact (Kd.R_reads' HO_8.out).2.1); (case side3 => exact zC (Kd.R_reads' HO_3.out).2.2); (case side4 => exact (Kd.R_reads' HO_3.out).2.1); (case side5 => exact zC (Kd.R_reads' HO_9.out).2.2); (case side6 => exact (Kd.R_reads' HO_9.out).2.1); rintro e w' ⟨rfl, ⟨nd, rfl⟩⟩; refine ⟨_, rfl, ?_⟩))
           go_ret
           exact ⟨by first | rfl | (simp [errW_none, errW_some] <;> rfl) | (simp [*, errW_none, errW_some] <;> rfl), zB HB.out⟩
         ·replace c23 := Bool.eq_false_iff.mpr c23
          subst c23
          have H1 : (some false) = some r := by rw [if_neg (show ¬ (false = true) by decide)] at H; exact H
          clear H
          have H := H1
          clear H1
          obtain rfl := Option.some.inj H
          obtain ⟨Ao31, co31, eo31⟩ := Kd.R_slice HO_8.out
          subst eo31
          obtain ⟨Ao32, co32, eo32⟩ := Kd.R_slice HO_9.out
          subst eo32
          go_wp2_with (first | ((with_reducible refine gate_callee (f := 42) rfl ?_); refine goesL_ (some 64) rfl rfl Try.func42 (by kernel_rfl) rfl #[.slice Ao31 t732.length co31, .slice Ao8 t724.length co8, .slice Ao32 x9_2.length co32] rfl zA ?_; (with_reducible refine (impl_WindingOf.calls k2 _ _ t732 _ _ t724 _ _ x9_2 t741 false _ ?side1 ?side2 ?side3 ?side4 ?side5 ?side6 A22.out).mono ?_); (case side1 => exact zC (Kd.R_reads' HO_8.out).2.2); (case side2 => exact (Kd.R_reads' HO_8.out).2.1); (case side3 => exact zC (Kd.R_reads' HO_3.out).2.2); (case side4 => exact (Kd.R_reads' HO_3.out).2.1); (case side5 => exact zC (Kd.R_reads' HO_9.out).2.2); (case side6 => exact (Kd.R_reads' HO_9.out).2.1); rintro e w' ⟨rfl, ⟨nd, rfl⟩⟩; refine ⟨_, rfl, ?_⟩))
          go_ret
          exact ⟨by first | rfl | (simp [errW_none, errW_some] <;> rfl) | (simp [*, errW_none, errW_some] <;> rfl), zB HB.out⟩
     ·replace c13 := Bool.eq_false_iff.mpr c13
      subst c13
      have H1 : (if t727 = 0 then ((laws_alive.f kj5).bind fun t731 => (some t731)) else (some false)) = some r := by rw [if_neg (show ¬ (false = true) by decide)] at H; exact H
      clear H
      have H := H1
      clear H1
      by_cases c33 : t727 = 0
      ·rw [if_pos c33] at H
       have c33b0 : (t727 == 0) = true := beq_iff_eq.mpr c33
       have c33b1 : (t727 != 0) = false := bne_eq_false_iff_eq.mpr c33
       clear c33
       replace H := Option.bind_eq_some_iff.mp H
       obtain ⟨t731, A340, H⟩ := H
       replace H : (some t731) = some r := H
       have A34 := Aside0.mk A340
       clear A340
       obtain rfl := Option.some.inj H
       go_wp2_with (first | (go_at_call 28; (with_reducible refine (laws_alive.calls kj5  t731 _ A34.out).mono ?_); rintro e w35 ⟨rfl, hb⟩; have n0_ := Aside0.mk (Kd.R_below (zR HO_3.out) hb); have n1_ := Aside0.mk (below_step (zB HB.out) hb); clear HO_3; clear HB; have HO_3 := n0_; have HB := n1_; clear n0_ n1_; (try clear hb); (try clear hb2); (try clear hk); (try clear hi)))
       go_ret
       exact ⟨by first | rfl | (simp [errW_none, errW_some] <;> rfl) | (simp [*, errW_none, errW_some] <;> rfl), zB HB.out⟩
      ·rw [if_neg c33] at H
       have c33b0 : (t727 == 0) = false := beq_eq_false_iff_ne.mpr c33
       have c33b1 : (t727 != 0) = true := bne_iff_ne.mpr c33
       obtain rfl := Option.some.inj H
       go_wp2
       go_ret
       exact ⟨by first | rfl | (simp [errW_none, errW_some] <;> rfl) | (simp [*, errW_none, errW_some] <;> rfl), zB HB.out⟩

/-- THE ONE PURE STATEMENT of laws_FnRingWinding: yours. -/
def laws_FnRingWinding.Pure : Prop := ∀ (l0 : List Int), l0.length ≤ maxLen → l0.length * 1 ≤ 140737488351232 → (∀ x ∈ l0, (Lit.int .u8 x).wf = true) → ∃ k, laws_FnRingWinding.f k l0 = some true
theorem laws_FnRingWinding.walk (P : laws_FnRingWinding.Pure) (a0 : Option Addr) (len0 cap0 : Nat) (z0 : List Int) (w : World) (w0 : (a0 = none ∧ len0 = 0 ∧ cap0 = 0 ∧ z0 = []) ∨ ∃ x, a0 = some x ∧ len0 ≤ cap0 ∧ cap0 ≤ maxLen ∧ z0.length = cap0 ∧ (∀ i, i < z0.length → w.cell? (x.add i) = some (.int .u8 (z0.getD i 0))) ∧ ∀ n ∈ z0, (Lit.int .u8 n).wf = true) (y0 : len0 * 1 ≤ 140737488351232) :
  Calls Try.prog 14 #[.slice a0 len0 cap0] w fun e w' => e = .returned (.bool true) ∧ Below w.heap.size w w' := by
 obtain ⟨l0, rfl, hr0, hm0, hw0, hc0⟩ := ReadsInt.ofRowC w0
 obtain ⟨k, h⟩ := P l0 hm0 y0 hw0
 refine (laws_FnRingWinding.calls k _ _ l0 true w (Kd.C_of_reads (d := (0 : Int)) (h1 := fun _ => rfl) hr0) hc0 h).mono ?_
 rintro e w' ⟨rfl, hd⟩
 exact ⟨rfl, hd⟩

end Go.Proofs.Ytgglagpciojfmaa.PAll
