/- Own text of this session, written by a program of this session (wip/t/own.py) out of what the kit tells of the functions: each Go function as a Lean function, and the walk through its code. -/
import Derived.Test.YtfhkahlfpchhpaaT
import Derived.Test.YtfhkahlfpchhpaaF17
import Derived.Test.YtfhkahlfpchhpaaF26
namespace Go.Proofs.Ytfhkahlfpchhpaa.PAll
open Go.RowKit Go.Proofs.YtfhkahlfpchhpaaW.PrintWords Go.Proofs.YtfhkahlfpchhpaaW.PrintLast Go.Proofs.YtfhkahlfpchhpaaW.PrintMore
attribute [local go_sem] max2_int min2_int max_two min_two max_three min_three max_four min_four   -- for this text's walks alone
set_option linter.unusedVariables false
set_option linter.unusedSimpArgs false

/-! ### impl_scripted: function 87 -/
mutual
def impl_scripted.l0 : Nat → List Int → Int → List (S64) → List Int → List Int → Int → Int → Option (List Int × List Int)
  | 0, _, _, _, _, _, _, _ => none
  | k + 1, x0, x1, x3, x12, x13, x25, x26 => if x26 < x25 then (impl_scripted.l1 k x0 x1 x3 x12 x13 x26 x25 x26 x3 (x3.length : Int) 0) else (some (x12, x13))
def impl_scripted.l1 : Nat → List Int → Int → List (S64) → List Int → List Int → Int → Int → Int → List (S64) → Int → Int → Option (List Int × List Int)
  | 0, _, _, _, _, _, _, _, _, _, _, _ => none
  | k + 1, x0, x1, x3, x12, x13, x14, x25, x26, x29, x30, x31 => if x31 < x30 then (if 0 ≤ x31 then (if x31 < (x29.length : Int) then (if ((rd_T64 x29 x31).f0) = x14 then (if 0 ≤ ((rd_T64 x29 x31).f1) then (if ((rd_T64 x29 x31).f1) < (x12.length : Int) then (if (rd x12 ((rd_T64 x29 x31).f1)) = 0 then (if ((rd_T64 x29 x31).f1) < (x13.length : Int) then (impl_scripted.l1 k x0 x1 x3 (x12.set (((rd_T64 x29 x31).f1) : Int).toNat 1) (x13.set (((rd_T64 x29 x31).f1) : Int).toNat (wrap64 ((rd x13 ((rd_T64 x29 x31).f1)) + 1))) x14 x25 x26 x29 x30 (wrap64 (x31 + 1))) else (none)) else (impl_scripted.l1 k x0 x1 x3 x12 x13 x14 x25 x26 x29 x30 (wrap64 (x31 + 1)))) else (none)) else (none)) else (impl_scripted.l1 k x0 x1 x3 x12 x13 x14 x25 x26 x29 x30 (wrap64 (x31 + 1)))) else (none)) else (none)) else ((impl_needStep0.f k x0 x1 ([] : List Int) x12).bind fun t745 => (impl_scripted.l2 k x0 x1 x3 x12 x13 t745 x25 x26 t745 (t745.length : Int) 0))
def impl_scripted.l2 : Nat → List Int → Int → List (S64) → List Int → List Int → List Int → Int → Int → List Int → Int → Int → Option (List Int × List Int)
  | 0, _, _, _, _, _, _, _, _, _, _, _ => none
  | k + 1, x0, x1, x3, x12, x13, x17, x25, x26, x63, x64, x65 => if x65 < x64 then (if 0 ≤ x65 then (if x65 < (x63.length : Int) then (if (rd x63 x65) = 1 then (if x65 < (x12.length : Int) then (if (rd x12 x65) = 1 then (impl_scripted.l2 k x0 x1 x3 x12 x13 x17 x25 x26 x63 x64 (wrap64 (x65 + 1))) else (if x65 < (x13.length : Int) then (impl_scripted.l2 k x0 x1 x3 x12 (x13.set (x65 : Int).toNat (wrap64 ((rd x13 x65) + 1))) x17 x25 x26 x63 x64 (wrap64 (x65 + 1))) else (none))) else (none)) else (impl_scripted.l2 k x0 x1 x3 x12 x13 x17 x25 x26 x63 x64 (wrap64 (x65 + 1)))) else (none)) else (none)) else (impl_scripted.l0 k x0 x1 x3 x17 x13 x25 (wrap64 (x26 + 1)))
end
def impl_scripted.f (k : Nat) (l0 : List Int) (a1 : Int) (l2 : List Int) (l3 : List (S64)) (a4 : Int) : Option (List Int × List Int) := (slices_Clone_int_int.f l2).bind fun t733 => (if 0 ≤ (l0.length : Int) then (if ((l0.length : Int) : Int).toNat ≤ 35184372088832 then (impl_scripted.l0 k l0 a1 l3 t733 (List.replicate ((l0.length : Int) : Int).toNat 0) a4 0) else (none)) else (none))
theorem impl_scripted.mono_l : ∀ k, (∀ y0 y1 y2 y3 y4 y5 y6, LeO (impl_scripted.l0 k y0 y1 y2 y3 y4 y5 y6) (impl_scripted.l0 (k + 1) y0 y1 y2 y3 y4 y5 y6)) ∧ (∀ y0 y1 y2 y3 y4 y5 y6 y7 y8 y9 y10, LeO (impl_scripted.l1 k y0 y1 y2 y3 y4 y5 y6 y7 y8 y9 y10) (impl_scripted.l1 (k + 1) y0 y1 y2 y3 y4 y5 y6 y7 y8 y9 y10)) ∧ (∀ y0 y1 y2 y3 y4 y5 y6 y7 y8 y9 y10, LeO (impl_scripted.l2 k y0 y1 y2 y3 y4 y5 y6 y7 y8 y9 y10) (impl_scripted.l2 (k + 1) y0 y1 y2 y3 y4 y5 y6 y7 y8 y9 y10))
  | 0 => ⟨fun _ _ _ _ _ _ _ r h => by simp [impl_scripted.l0] at h, fun _ _ _ _ _ _ _ _ _ _ _ r h => by simp [impl_scripted.l1] at h, fun _ _ _ _ _ _ _ _ _ _ _ r h => by simp [impl_scripted.l2] at h⟩
  | k + 1 => by
    obtain ⟨ih0, ih1, ih2⟩ := impl_scripted.mono_l k
    refine ⟨?_, ?_, ?_⟩
    · intro y0 y1 y2 y3 y4 y5 y6
      unfold impl_scripted.l0
      repeat' first
      | (with_reducible exact ih0 _ _ _ _ _ _ _)
      | (with_reducible exact ih1 _ _ _ _ _ _ _ _ _ _ _)
      | (with_reducible exact ih2 _ _ _ _ _ _ _ _ _ _ _)
      | (with_reducible exact impl_needStep0.mono _ _ _ _ _)
      | (with_reducible exact LeO.refl _)
      | (with_reducible exact LeO.none _)
      | (with_reducible refine LeO.ite ?_ ?_)
      | (with_reducible refine LeO.bind ?_ (fun _ => ?_))
      | exact ih0 _ _ _ _ _ _ _
      | exact ih1 _ _ _ _ _ _ _ _ _ _ _
      | exact ih2 _ _ _ _ _ _ _ _ _ _ _
      | exact impl_needStep0.mono _ _ _ _ _
      | exact LeO.none _
      | refine LeO.ite ?_ ?_
      | refine LeO.bind ?_ (fun _ => ?_)
    · intro y0 y1 y2 y3 y4 y5 y6 y7 y8 y9 y10
      unfold impl_scripted.l1
      repeat' first
      | (with_reducible exact ih0 _ _ _ _ _ _ _)
      | (with_reducible exact ih1 _ _ _ _ _ _ _ _ _ _ _)
      | (with_reducible exact ih2 _ _ _ _ _ _ _ _ _ _ _)
      | (with_reducible exact impl_needStep0.mono _ _ _ _ _)
      | (with_reducible exact LeO.refl _)
      | (with_reducible exact LeO.none _)
      | (with_reducible refine LeO.ite ?_ ?_)
      | (with_reducible refine LeO.bind ?_ (fun _ => ?_))
      | exact ih0 _ _ _ _ _ _ _
      | exact ih1 _ _ _ _ _ _ _ _ _ _ _
      | exact ih2 _ _ _ _ _ _ _ _ _ _ _
      | exact impl_needStep0.mono _ _ _ _ _
      | exact LeO.none _
      | refine LeO.ite ?_ ?_
      | refine LeO.bind ?_ (fun _ => ?_)
    · intro y0 y1 y2 y3 y4 y5 y6 y7 y8 y9 y10
      unfold impl_scripted.l2
      repeat' first
      | (with_reducible exact ih0 _ _ _ _ _ _ _)
      | (with_reducible exact ih1 _ _ _ _ _ _ _ _ _ _ _)
      | (with_reducible exact ih2 _ _ _ _ _ _ _ _ _ _ _)
      | (with_reducible exact impl_needStep0.mono _ _ _ _ _)
      | (with_reducible exact LeO.refl _)
      | (with_reducible exact LeO.none _)
      | (with_reducible refine LeO.ite ?_ ?_)
      | (with_reducible refine LeO.bind ?_ (fun _ => ?_))
      | exact ih0 _ _ _ _ _ _ _
      | exact ih1 _ _ _ _ _ _ _ _ _ _ _
      | exact ih2 _ _ _ _ _ _ _ _ _ _ _
      | exact impl_needStep0.mono _ _ _ _ _
      | exact LeO.none _
      | refine LeO.ite ?_ ?_
      | refine LeO.bind ?_ (fun _ => ?_)
theorem impl_scripted.mono : ∀ a0 a1 a2 a3 a4 k, LeO (impl_scripted.f k a0 a1 a2 a3 a4) (impl_scripted.f (k + 1) a0 a1 a2 a3 a4) := by
  intro a0 a1 a2 a3 a4 k
  obtain ⟨ih0, ih1, ih2⟩ := impl_scripted.mono_l k
  unfold impl_scripted.f
  repeat' first
      | (with_reducible exact ih0 _ _ _ _ _ _ _)
      | (with_reducible exact ih1 _ _ _ _ _ _ _ _ _ _ _)
      | (with_reducible exact ih2 _ _ _ _ _ _ _ _ _ _ _)
      | (with_reducible exact impl_needStep0.mono _ _ _ _ _)
      | (with_reducible exact LeO.refl _)
      | (with_reducible exact LeO.none _)
      | (with_reducible refine LeO.ite ?_ ?_)
      | (with_reducible refine LeO.bind ?_ (fun _ => ?_))
      | exact ih0 _ _ _ _ _ _ _
      | exact ih1 _ _ _ _ _ _ _ _ _ _ _
      | exact ih2 _ _ _ _ _ _ _ _ _ _ _
      | exact impl_needStep0.mono _ _ _ _ _
      | exact LeO.none _
      | refine LeO.ite ?_ ?_
      | refine LeO.bind ?_ (fun _ => ?_)
set_option maxHeartbeats 8000000 in
set_option maxRecDepth 100000 in
theorem impl_scripted.calls (k : Nat) (A0 : Option Addr) (c0 : Nat) (l0 : List Int) (a1 : Int) (A2 : Option Addr) (c2 : Nat) (l2 : List Int) (A3 : Option Addr) (c3 : Nat) (l3 : List (S64)) (a4 : Int) (r1 : List Int) (r2 : List Int) (w : World) (hr0 : Kd.C (Kd.int .i64) w A0 l0.length l0) (hc0 : l0.length ≤ c0) (hr2 : Kd.C (Kd.int .i64) w A2 l2.length l2) (hc2 : l2.length ≤ c2) (hr3 : Kd.C k64 w A3 l3.length l3) (hc3 : l3.length ≤ c3) (h : impl_scripted.f k l0 a1 l2 l3 a4 = some (r1, r2)) :
    Calls Try.prog 87 #[.slice A0 l0.length c0, .int .i64 a1, .slice A2 l2.length c2, .slice A3 l3.length c3, .int .i64 a4] w fun e w' => ∃ v0_ v1_ : Value, e = .returned (.tuple #[v0_, v1_]) ∧ Kd.R (Kd.int .i64) 3 w' w.heap.size (fun k_ => some k_ ≠ (v1_ : Value).ownBlock) v0_ r1 ∧ Kd.R (Kd.int .i64) 3 w' w.heap.size (fun k_ => some k_ ≠ (v0_ : Value).ownBlock) v1_ r2 ∧ Below w.heap.size w w' := by
  have hu64 := Try.underlying64
  have HR0 := Aside0.mk hr0
  have HC0 := Aside0.mk hc0
  clear hr0 hc0
  have HR2 := Aside0.mk hr2
  have HC2 := Aside0.mk hc2
  clear hr2 hc2
  have HR3 := Aside0.mk hr3
  have HC3 := Aside0.mk hc3
  clear hr3 hc3
  have HB := Aside0.mk (Below.refl w.heap.size w)
  have H : ((slices_Clone_int_int.f l2).bind fun t733 => (if 0 ≤ (l0.length : Int) then (if ((l0.length : Int) : Int).toNat ≤ 35184372088832 then (impl_scripted.l0 k l0 a1 l3 t733 (List.replicate ((l0.length : Int) : Int).toNat 0) a4 0) else (none)) else (none))) = some (r1, r2) := h
  clear h
  replace H := Option.bind_eq_some_iff.mp H
  obtain ⟨t733, A60, H⟩ := H
  replace H : (if 0 ≤ (l0.length : Int) then (if ((l0.length : Int) : Int).toNat ≤ 35184372088832 then (impl_scripted.l0 k l0 a1 l3 t733 (List.replicate ((l0.length : Int) : Int).toNat 0) a4 0) else (none)) else (none)) = some (r1, r2) := H
  have A6 := Aside0.mk A60
  clear A60
  by_cases c7 : 0 ≤ (l0.length : Int)
  · rw [if_pos c7] at H
    have c7b0 := eq_true c7
    have c7b1 : decide (0 ≤ (l0.length : Int)) = true := decide_eq_true c7
    clear c7
    by_cases c8 : ((l0.length : Int) : Int).toNat ≤ 35184372088832
    · rw [if_pos c8] at H
      have c8b0 := eq_true c8
      have c8b1 : decide (((l0.length : Int) : Int).toNat ≤ 35184372088832) = true := decide_eq_true c8
      clear c8
      obtain ⟨y736, hy736⟩ : ∃ y_ : List Int, y_ = (List.replicate ((l0.length : Int) : Int).toNat 0) := ⟨_, rfl⟩
      replace H : (impl_scripted.l0 k l0 a1 l3 t733 y736 a4 0) = some (r1, r2) := by first | (rw [hy736]; with_reducible exact H) | (have H2_ := (Option.bind_some _ _).symm.trans H; rw [hy736]; with_reducible exact H2_) | (have H2_ := (Option.bind_some _ _).symm.trans H; with_reducible exact H2_) | with_reducible exact H | (rw [hy736]; exact H) | exact H
      have Ny736 := Aside0.mk hy736
      clear hy736
      have H' := Aside0.mk H
      clear H
      go_enter Try.func87, Try.ntmps87
      try go_wp2
      have n0_ := Aside0.mk (below_drew1 HB.out)
      clear HB
      have HB := n0_
      clear n0_
      refine start_ (n := 7) (S := fun w' => True) (ds := []) #[false, false, false, false, false, false, false] (by kernel_rfl) rfl rfl trivial (fun hHeld => ?_)
      generalize w.drew = w9 at HB hHeld ⊢
      refine pure_ (i := 0) (N := some 20) (v := ?_) (a' := ?_) #[true, false, false, false, false, false, false] rfl rfl (by kernel_rfl) (fun _ _ _ h => h) (Or.inl ⟨by rfl, ?_⟩) ?_ ?_
      rotate_left
      · intro w'
        go_simp
        with_reducible rfl
      rotate_left
      · simp only [Act.put, List.setIfInBounds_toArray, List.set_cons_zero, List.set_cons_succ, i64_w, i32_w]
        rfl
      refine pure_ (i := 2) (N := some 22) (v := ?_) (a' := ?_) #[true, false, true, false, false, false, false] rfl rfl (by kernel_rfl) (fun _ _ _ h => h) (Or.inl ⟨by rfl, ?_⟩) ?_ ?_
      rotate_left
      · intro w'
        go_simp
        with_reducible rfl
      rotate_left
      · simp only [Act.put, List.setIfInBounds_toArray, List.set_cons_zero, List.set_cons_succ, i64_w, i32_w]
        rfl
      refine pure_ (i := 3) (N := some 23) (v := ?_) (a' := ?_) #[true, false, true, true, false, false, false] rfl rfl (by kernel_rfl) (fun _ _ _ h => h) (Or.inl ⟨by rfl, ?_⟩) ?_ ?_
      rotate_left
      · intro w'
        go_simp
        with_reducible rfl
      rotate_left
      · simp only [Act.put, List.setIfInBounds_toArray, List.set_cons_zero, List.set_cons_succ, i64_w, i32_w]
        rfl
      refine join_ (σ := Value × Value) 1 #[true, true, true, true, true, true, false] (fun s_ => [(21, s_.1), (24, s_.2), (12, s_.1)]) (fun s_ w' => (Kd.R (Kd.int .i64) 3 w' w.heap.size (fun k_ => some k_ ≠ (s_.2 : Value).ownBlock) s_.1 t733) ∧ (Kd.R (Kd.int .i64) 3 w' w.heap.size (fun k_ => some k_ ≠ (s_.1 : Value).ownBlock) s_.2 y736) ∧ (Below w.heap.size w w')) ?_ ?_
      rotate_left
      · intro hCont
        refine two_ (i := 1) (j := 4) (Ni := some 21) (Nj := some 24) #[true, true, true, true, false, false, false] #[true, false, true, true, true, false, false] rfl rfl rfl rfl (by kernel_rfl) (by decide) (by decide) (fun K hK => ?_) (fun K hK => ?_)
        · skip
          refine goes_ Try.func83 (by kernel_rfl) rfl #[.slice A2 l2.length c2] (by rfl) rfl rfl zA ?_
          with_reducible refine (slices_Clone_int_int.calls _ _ l2 t733 _ ?side1 ?side2 A6.out).mono ?_
          (case side1 => exact zC (Kd.C_below HR2.out HB.out))
          (case side2 => exact HC2.out)
          rintro e w10 ⟨v734, rfl, ho0, hb⟩
          refine ⟨_, rfl, ?_⟩
          have n0_ := Aside0.mk (Kd.R_lower ho0 (below_size (zB HB.out)))
          have n1_ := Aside0.mk (below_step (zB HB.out) hb)
          clear HB
          have HO735 := n0_
          have HB := n1_
          clear n0_ n1_
          (try clear hb)
          (try clear hb2)
          (try clear hk)
          (try clear hi)
          (try clear ho0)
          refine hK.out _ _ trivial (fun hHeld => ?_)
          clear hK K
          refine norm_ (a' := ?_) ?_ ?_
          rotate_left
          · show Act.put _ (some 21) _ = _
            simp only [Act.put, List.setIfInBounds_toArray, List.set_cons_zero, List.set_cons_succ, i64_w, i32_w]
            rfl
          refine pure_ (i := 5) (N := some 12) (v := ?_) (a' := ?_) #[true, true, true, true, false, true, false] rfl rfl (by kernel_rfl) (fun _ _ _ h => h) (Or.inl ⟨by rfl, ?_⟩) ?_ ?_
          rotate_left
          · intro w'
            go_simp
            with_reducible rfl
          rotate_left
          · simp only [Act.put, List.setIfInBounds_toArray, List.set_cons_zero, List.set_cons_succ, i64_w, i32_w]
            rfl
          refine one_ (i := 4) (N := some 24) #[true, true, true, true, true, true, false] rfl rfl (by kernel_rfl) (by decide) (fun K hK => ?_)
          refine Kd.R_make_step (Kd.int .i64) _ 3 (by rfl) (N := 24) rfl 23 _ _ rfl (l0.length : Int) rfl rfl Try.underlying23 (.int .i64 0) 8 info3 rfl (by decide) (by omega) 0 (ok := fun _ => True) (okp := fun _ => True) rfl (fun _ hk => hk) trivial (of_decide_eq_true (by first | (with_reducible assumption) | assumption)) (Nat.le_trans (Nat.mul_le_mul_right _ (of_decide_eq_true (by first | (with_reducible assumption) | assumption) : (l0.length : Int).toNat ≤ 35184372088832)) (by omega)) (Below.refl _ _) (Nat.le_refl _) ?_
          intro v737 w11 ho12 hb hg_ hnew_
          clear hg_ hnew_
          (first | rw [← Ny736.out] at ho12 | (simp only [Int.reduceToNat] at ho12; rw [← Ny736.out] at ho12))
          have n0_ := Aside0.mk (Kd.R_elder' (zR HO735.out) (Kd.R_base ho12) hb)
          have n1_ := Aside0.mk (Kd.R_lower (Kd.R_new' ho12 (Kd.R_lt (zR HO735.out))) (below_size (zB HB.out)))
          have n2_ := Aside0.mk (below_step (zB HB.out) hb)
          clear HO735
          clear HB
          have HO735 := n0_
          have HO738 := n1_
          have HB := n2_
          clear n0_ n1_ n2_
          clear hb ho12
          refine hK.out _ _ trivial (fun hHeld => ?_)
          clear hK K
          refine norm_ (a' := ?_) ?_ ?_
          rotate_left
          · show Act.put _ (some 24) _ = _
            simp only [Act.put, List.setIfInBounds_toArray, List.set_cons_zero, List.set_cons_succ, i64_w, i32_w]
            rfl
          exact norm_ (by simp only [putAll, Act.put, List.setIfInBounds_toArray, List.set_cons_zero, List.set_cons_succ]) (hCont (v734, v737) _ ⟨(by (with_reducible repeat (first | apply Kd.R_alloc | apply Kd.R_drewN | apply Kd.R_drew)); exact Kd.R_mono HO735.out (fun _ hk => hk.2)), (by (with_reducible repeat (first | apply Kd.R_alloc | apply Kd.R_drewN | apply Kd.R_drew)); exact Kd.R_mono HO738.out (fun _ hk => hk.2)), (zB HB.out)⟩)
        · skip
          refine Kd.R_make_step (Kd.int .i64) _ 3 (by rfl) (N := 24) rfl 23 _ _ rfl (l0.length : Int) rfl rfl Try.underlying23 (.int .i64 0) 8 info3 rfl (by decide) (by omega) 0 (ok := fun _ => True) (okp := fun _ => True) rfl (fun _ hk => hk) trivial (of_decide_eq_true (by first | (with_reducible assumption) | assumption)) (Nat.le_trans (Nat.mul_le_mul_right _ (of_decide_eq_true (by first | (with_reducible assumption) | assumption) : (l0.length : Int).toNat ≤ 35184372088832)) (by omega)) (Below.refl _ _) (Nat.le_refl _) ?_
          intro v737 w10 ho11 hb hg_ hnew_
          clear hg_ hnew_
          (first | rw [← Ny736.out] at ho11 | (simp only [Int.reduceToNat] at ho11; rw [← Ny736.out] at ho11))
          have n0_ := Aside0.mk (Kd.R_lower ho11 (below_size (zB HB.out)))
          have n1_ := Aside0.mk (below_step (zB HB.out) hb)
          clear HB
          have HO738 := n0_
          have HB := n1_
          clear n0_ n1_
          clear hb ho11
          refine hK.out _ _ trivial (fun hHeld => ?_)
          clear hK K
          refine norm_ (a' := ?_) ?_ ?_
          rotate_left
          · show Act.put _ (some 24) _ = _
            simp only [Act.put, List.setIfInBounds_toArray, List.set_cons_zero, List.set_cons_succ, i64_w, i32_w]
            rfl
          refine one_ (i := 1) (N := some 21) #[true, true, true, true, true, false, false] rfl rfl (by kernel_rfl) (by decide) (fun K hK => ?_)
          refine goes_ Try.func83 (by kernel_rfl) rfl #[.slice A2 l2.length c2] (by rfl) rfl rfl zA ?_
          with_reducible refine (slices_Clone_int_int.calls _ _ l2 t733 _ ?side1 ?side2 A6.out).mono ?_
          (case side1 => exact zC (Kd.C_below HR2.out HB.out))
          (case side2 => exact HC2.out)
          rintro e w12 ⟨v734, rfl, ho0, hb⟩
          refine ⟨_, rfl, ?_⟩
          have n0_ := Aside0.mk (Kd.R_elder' (zR HO738.out) (Kd.R_base ho0) hb)
          have n1_ := Aside0.mk (Kd.R_lower (Kd.R_new' ho0 (Kd.R_lt (zR HO738.out))) (below_size (zB HB.out)))
          have n2_ := Aside0.mk (below_step (zB HB.out) hb)
          clear HO738
          clear HB
          have HO738 := n0_
          have HO735 := n1_
          have HB := n2_
          clear n0_ n1_ n2_
          (try clear hb)
          (try clear hb2)
          (try clear hk)
          (try clear hi)
          (try clear ho0)
          refine hK.out _ _ trivial (fun hHeld => ?_)
          clear hK K
          refine norm_ (a' := ?_) ?_ ?_
          rotate_left
          · show Act.put _ (some 21) _ = _
            simp only [Act.put, List.setIfInBounds_toArray, List.set_cons_zero, List.set_cons_succ, i64_w, i32_w]
            rfl
          refine pure_ (i := 5) (N := some 12) (v := ?_) (a' := ?_) #[true, true, true, true, true, true, false] rfl rfl (by kernel_rfl) (fun _ _ _ h => h) (Or.inl ⟨by rfl, ?_⟩) ?_ ?_
          rotate_left
          · intro w'
            go_simp
            with_reducible rfl
          rotate_left
          · simp only [Act.put, List.setIfInBounds_toArray, List.set_cons_zero, List.set_cons_succ, i64_w, i32_w]
            rfl
          exact norm_ (by simp only [putAll, Act.put, List.setIfInBounds_toArray, List.set_cons_zero, List.set_cons_succ]) (hCont (v734, v737) _ ⟨(by (with_reducible repeat (first | apply Kd.R_alloc | apply Kd.R_drewN | apply Kd.R_drew)); exact Kd.R_mono HO735.out (fun _ hk => hk.2)), (by (with_reducible repeat (first | apply Kd.R_alloc | apply Kd.R_drewN | apply Kd.R_drew)); exact Kd.R_mono HO738.out (fun _ hk => hk.2)), (zB HB.out)⟩)
      rintro ⟨v734, v737⟩ w13 ⟨h0_, h1_, h2_⟩
      have n0_ : Aside0 (Kd.R (Kd.int .i64) 3 w13 w.heap.size (fun k_ => some k_ ≠ (v737 : Value).ownBlock) v734 t733) := ⟨h0_⟩
      have n1_ : Aside0 (Kd.R (Kd.int .i64) 3 w13 w.heap.size (fun k_ => some k_ ≠ (v734 : Value).ownBlock) v737 y736) := ⟨h1_⟩
      have n2_ : Aside0 (Below w.heap.size w w13) := ⟨h2_⟩
      clear HB
      clear h0_ h1_ h2_
      have HO735 := n0_
      have HO738 := n1_
      have HB := n2_
      clear n0_ n1_ n2_
      have hHeld := trivial
      refine norm_ (a' := ?_) ?_ ?_
      rotate_left
      · simp only [putAll, Act.put, List.setIfInBounds_toArray, List.set_cons_zero, List.set_cons_succ]
        rfl
      refine pure_ (i := 6) (N := some 13) (v := ?_) (a' := ?_) #[true, true, true, true, true, true, true] rfl rfl (by kernel_rfl) (fun _ _ _ h => h) (Or.inl ⟨by rfl, ?_⟩) ?_ ?_
      rotate_left
      · intro w'
        go_simp
        with_reducible rfl
      rotate_left
      · simp only [Act.put, List.setIfInBounds_toArray, List.set_cons_zero, List.set_cons_succ, i64_w, i32_w]
        rfl
      refine done_ (by kernel_rfl) ?_
      try go_wp2
      go_loopg [12, 26] k (fun kq v12 v26 w' => ∃ (x12_1 : List Int) (x13_1 : List Int) (x26_1 : Int), v26 = .int .i64 x26_1 ∧ Aside0 (impl_scripted.l0 kq l0 a1 l3 x12_1 x13_1 a4 x26_1 = some (r1, r2)) ∧ Aside0 (kq ≤ k) ∧ Aside0 (Kd.R (Kd.int .i64) 3 w' w.heap.size (fun k_ => some k_ ≠ (v737 : Value).ownBlock) v12 x12_1) ∧ Aside0 (Kd.R (Kd.int .i64) 3 w' w.heap.size (fun k_ => some k_ ≠ (v12 : Value).ownBlock) v737 x13_1) ∧ Aside0 (Below w.heap.size w w'))
      case atStart => exact ⟨(t733), (y736), (0), (by first | rfl | (simp; done) | (simp [*]; done)), H', ⟨Nat.le_refl _⟩, ⟨by (with_reducible repeat (first | apply Kd.R_alloc | apply Kd.R_drewN | apply Kd.R_drew)); exact HO735.out⟩, ⟨by (with_reducible repeat (first | apply Kd.R_alloc | apply Kd.R_drewN | apply Kd.R_drew)); exact HO738.out⟩, ⟨zB HB.out⟩⟩
      case round =>
        clear H'
        try clear c2
        try clear p2
        try clear c3
        try clear c7
        try clear c7b0
        try clear c7b1
        try clear c8
        try clear c8b0
        try clear c8b1
        obtain ⟨x12_1, x13_1, x26_1, rfl, HA, HK1, HO_12, HO_13, HB⟩ := hrel
        cases gk with
        | zero => exact absurd HA.out (by simp [impl_scripted.l0])
        | succ k1 =>
          have H := HA.out
          clear HA
          simp only [impl_scripted.l0] at H
          by_cases c14 : x26_1 < a4
          · rw [if_pos c14] at H
            have c14b0 : decide (x26_1 < a4) = true := decide_eq_true c14
            clear c14
            have H' := Aside0.mk H
            clear H
            go_wp2
            go_loopg [31] k1 (fun kq v31 w' => ∃ (x12_2 : List Int) (x13_2 : List Int) (x31_2 : Int), v31 = .int .i64 x31_2 ∧ Aside0 (impl_scripted.l1 kq l0 a1 l3 x12_2 x13_2 x26_1 a4 x26_1 l3 (l3.length : Int) x31_2 = some (r1, r2)) ∧ Aside0 (kq ≤ k1) ∧ Aside0 (Kd.R (Kd.int .i64) 3 w' w.heap.size (fun k_ => some k_ ≠ (v737 : Value).ownBlock) u12 x12_2) ∧ Aside0 (Kd.R (Kd.int .i64) 3 w' w.heap.size (fun k_ => some k_ ≠ (u12 : Value).ownBlock) v737 x13_2) ∧ Aside0 (Below w.heap.size w w'))
            case atStart => exact ⟨(x12_1), (x13_1), (0), (by first | rfl | (simp; done) | (simp [*]; done)), H', ⟨Nat.le_refl _⟩, ⟨by (with_reducible repeat (first | apply Kd.R_alloc | apply Kd.R_drewN | apply Kd.R_drew)); exact HO_12.out⟩, ⟨by (with_reducible repeat (first | apply Kd.R_alloc | apply Kd.R_drewN | apply Kd.R_drew)); exact HO_13.out⟩, ⟨zB HB.out⟩⟩
            case round =>
              clear H'
              try clear c1
              try clear c2
              try clear p2
              try clear c3
              try clear c7
              try clear c7b0
              try clear c7b1
              try clear c8
              try clear c8b0
              try clear c8b1
              try clear c14
              try clear c14b0
              try clear p2
              obtain ⟨x12_2, x13_2, x31_2, rfl, HA, HK2, HO_12, HO_13, HB⟩ := hrel
              cases gk with
              | zero => exact absurd HA.out (by simp [impl_scripted.l1])
              | succ k2 =>
                have H := HA.out
                clear HA
                simp only [impl_scripted.l1] at H
                by_cases c15 : x31_2 < (l3.length : Int)
                · rw [if_pos c15] at H
                  have c15b0 : decide (x31_2 < (l3.length : Int)) = true := decide_eq_true c15
                  clear c15
                  by_cases c16 : 0 ≤ x31_2
                  · rw [if_pos c16] at H
                    have c16b0 : decide (0 ≤ x31_2) = true := decide_eq_true c16
                    clear c16
                    by_cases c17 : x31_2 < (l3.length : Int)
                    · rw [if_pos c17] at H
                      have c17b0 : decide (x31_2 < (l3.length : Int)) = true := decide_eq_true c17
                      clear c17
                      by_cases c18 : ((rd_T64 l3 x31_2).f0) = x26_1
                      · rw [if_pos c18] at H
                        have c18b0 : (((rd_T64 l3 x31_2).f0) == x26_1) = true := beq_iff_eq.mpr c18
                        have c18b1 : (((rd_T64 l3 x31_2).f0) != x26_1) = false := bne_eq_false_iff_eq.mpr c18
                        clear c18
                        by_cases c19 : 0 ≤ ((rd_T64 l3 x31_2).f1)
                        · rw [if_pos c19] at H
                          have c19b0 : decide (0 ≤ ((rd_T64 l3 x31_2).f1)) = true := decide_eq_true c19
                          clear c19
                          by_cases c20 : ((rd_T64 l3 x31_2).f1) < (x12_2.length : Int)
                          · rw [if_pos c20] at H
                            have c20b0 : decide (((rd_T64 l3 x31_2).f1) < (x12_2.length : Int)) = true := decide_eq_true c20
                            clear c20
                            by_cases c21 : (rd x12_2 ((rd_T64 l3 x31_2).f1)) = 0
                            · rw [if_pos c21] at H
                              have c21b0 : ((rd x12_2 ((rd_T64 l3 x31_2).f1)) == 0) = true := beq_iff_eq.mpr c21
                              have c21b1 : ((rd x12_2 ((rd_T64 l3 x31_2).f1)) != 0) = false := bne_eq_false_iff_eq.mpr c21
                              clear c21
                              obtain ⟨y742, hy742⟩ : ∃ y_ : List Int, y_ = (x12_2.set (((rd_T64 l3 x31_2).f1) : Int).toNat 1) := ⟨_, rfl⟩
                              replace H : (if ((rd_T64 l3 x31_2).f1) < (x13_2.length : Int) then (impl_scripted.l1 k2 l0 a1 l3 y742 (x13_2.set (((rd_T64 l3 x31_2).f1) : Int).toNat (wrap64 ((rd x13_2 ((rd_T64 l3 x31_2).f1)) + 1))) x26_1 a4 x26_1 l3 (l3.length : Int) (wrap64 (x31_2 + 1))) else (none)) = some (r1, r2) := by first | (rw [hy742]; with_reducible exact H) | (have H2_ := (Option.bind_some _ _).symm.trans H; rw [hy742]; with_reducible exact H2_) | (have H2_ := (Option.bind_some _ _).symm.trans H; with_reducible exact H2_) | with_reducible exact H | (rw [hy742]; exact H) | exact H
                              have Ny742 := Aside0.mk hy742
                              clear hy742
                              by_cases c23 : ((rd_T64 l3 x31_2).f1) < (x13_2.length : Int)
                              · rw [if_pos c23] at H
                                have c23b0 : decide (((rd_T64 l3 x31_2).f1) < (x13_2.length : Int)) = true := decide_eq_true c23
                                clear c23
                                obtain ⟨y744, hy744⟩ : ∃ y_ : List Int, y_ = (x13_2.set (((rd_T64 l3 x31_2).f1) : Int).toNat (wrap64 ((rd x13_2 ((rd_T64 l3 x31_2).f1)) + 1))) := ⟨_, rfl⟩
                                replace H : (impl_scripted.l1 k2 l0 a1 l3 y742 y744 x26_1 a4 x26_1 l3 (l3.length : Int) (wrap64 (x31_2 + 1))) = some (r1, r2) := by first | (rw [hy744]; with_reducible exact H) | (have H2_ := (Option.bind_some _ _).symm.trans H; rw [hy744]; with_reducible exact H2_) | (have H2_ := (Option.bind_some _ _).symm.trans H; with_reducible exact H2_) | with_reducible exact H | (rw [hy744]; exact H) | exact H
                                have Ny744 := Aside0.mk hy744
                                clear hy744
                                have H' := Aside0.mk H
                                clear H
                                have p739 : 0 ≤ (x31_2 : Int) := of_decide_eq_true (by first | (with_reducible assumption) | assumption)
                                have q739 : x31_2 < (l3.length : Int) := of_decide_eq_true (by first | (with_reducible assumption) | assumption)
                                obtain ⟨ad739, e739, hx739_0, hx739_1⟩ := at_T64 HR3.out x31_2 p739 q739
                                cases e739
                                replace hx739_0 := (HB.out.cell (World.block_lt_of_cell? w _ hx739_0)).trans hx739_0
                                replace hx739_1 := (HB.out.cell (World.block_lt_of_cell? w _ hx739_1)).trans hx739_1
                                replace p739 := eq_true p739
                                replace q739 := eq_true q739
                                go_wp2_with (first | ((with_reducible refine gate_dst (N := 16) rfl ?_); refine box_event ?hg (N := 16) ?hd (cs := #[.int .i64 0, .int .i64 0]) (t := 64) ?hr ?_; (case hd => rfl); (case hg => rfl); (case hr => first | (go_simp; done) | (go_simp; rfl)); intro gb740 hg w25 hbox hb; have n0_ := Aside0.mk (Kd.R_below (zR HO_12.out) hb); have n1_ := Aside0.mk (Kd.R_below (zR HO_13.out) hb); have n2_ := Aside0.mk (below_step (zB HB.out) hb); have n3_ := Aside0.mk (hbox); have n4_ := Aside0.mk ((by rw [hg]; exact (below_size (zB HB.out)) : w.heap.size ≤ gb740)); have n5_ := Aside0.mk ((by rw [hg]; exact (below_size (zB HB.out)) : w.heap.size ≤ gb740)); clear HO_12; clear HO_13; clear HB; have HO_12 := n0_; have HO_13 := n1_; have HB := n2_; have BK740 := n3_; have GW740 := n4_; have GE740 := n5_; clear n0_ n1_ n2_ n3_ n4_ n5_; clear hb hbox hg; have hcz26_0 : w25.cell? ⟨gb740, 0, none⟩ = some (.int .i64 0) := (blk_cell BK740.out 0).trans rfl; have hcz26_1 : w25.cell? ⟨gb740, 1, none⟩ = some (.int .i64 0) := (blk_cell BK740.out 1).trans rfl; have hfz26_0 := blk_frozen BK740.out 0; have hfz26_1 := blk_frozen BK740.out 1) | ((with_reducible refine gate_store (t := 64) (p := 16) rfl ?_); refine store_event (t := 64) (p := 16) (v := ?vo_w27) (w1 := ((w25.setCell ⟨gb740, 0, none⟩ (.int .i64 ((rd_T64 l3 x31_2).f0))).setCell ⟨gb740, 1, none⟩ (.int .i64 ((rd_T64 l3 x31_2).f1)))) ?hg ?ho ?hn ?hr ?_; (case ho => rfl); (case hg => rfl); (case hn => rfl); (case hr => first | (go_simp; done) | (go_simp; rfl)); intro w27 hw; have n0_ : Aside0 (Kd.R (Kd.int .i64) 3 w27 w.heap.size (fun k_ => some k_ ≠ (v737 : Value).ownBlock) u12 x12_2) := ⟨(by rw [hw]; exact (by (with_reducible repeat (first | apply Kd.R_alloc | apply Kd.R_drewN | apply Kd.R_drew)); exact Kd.R_mono (Kd.R_far (p := ⟨gb740, 1, none⟩) (Kd.R_far (p := ⟨gb740, 0, none⟩) (Kd.R_types HO_12.out BK740.out (by decide)) (fun _ hk => hk.2) (.int .i64 ((rd_T64 l3 x31_2).f0))) (fun _ hk => hk.2) (.int .i64 ((rd_T64 l3 x31_2).f1))) (fun _ hk => hk.1)))⟩; have n1_ : Aside0 (Kd.R (Kd.int .i64) 3 w27 w.heap.size (fun k_ => some k_ ≠ (u12 : Value).ownBlock) v737 x13_2) := ⟨(by rw [hw]; exact (by (with_reducible repeat (first | apply Kd.R_alloc | apply Kd.R_drewN | apply Kd.R_drew)); exact Kd.R_mono (Kd.R_far (p := ⟨gb740, 1, none⟩) (Kd.R_far (p := ⟨gb740, 0, none⟩) (Kd.R_types HO_13.out BK740.out (by decide)) (fun _ hk => hk.2) (.int .i64 ((rd_T64 l3 x31_2).f0))) (fun _ hk => hk.2) (.int .i64 ((rd_T64 l3 x31_2).f1))) (fun _ hk => hk.1)))⟩; have n2_ : Aside0 (w27.heap[gb740]? = some (.cells #[.int .i64 ((rd_T64 l3 x31_2).f0), .int .i64 ((rd_T64 l3 x31_2).f1)] 64 (0, 0))) := ⟨(by rw [hw]; exact (by (with_reducible repeat (first | refine blk_drewN ?_ _ | refine blk_drew ?_ | refine blk_alloc ?_ _)); refine blk_put (cs := #[.int .i64 ((rd_T64 l3 x31_2).f0), .int .i64 0]) ?_ 1 _ rfl; (with_reducible repeat (first | refine blk_drewN ?_ _ | refine blk_drew ?_ | refine blk_alloc ?_ _)); refine blk_put (cs := #[.int .i64 0, .int .i64 0]) ?_ 0 _ rfl; (with_reducible repeat (first | refine blk_drewN ?_ _ | refine blk_drew ?_ | refine blk_alloc ?_ _)); exact BK740.out))⟩; have n3_ : Aside0 (Below w.heap.size w w27) := ⟨(by rw [hw]; exact (by repeat (first | (with_reducible first | exact HB.out | apply below_alloc | apply pw_below_drewN | apply below_drew1 | refine below_set ?_ GE740.out) | exact HB.out)))⟩; clear hw; clear HO_12; clear HO_13; clear BK740; clear HB; have HO_12 := n0_; have HO_13 := n1_; have BK740 := n2_; have HB := n3_; clear n0_ n1_ n2_ n3_; have hcz28_0 : w27.cell? ⟨gb740, 0, none⟩ = some (.int .i64 ((rd_T64 l3 x31_2).f0)) := (blk_cell BK740.out 0).trans rfl; have hcz28_1 : w27.cell? ⟨gb740, 1, none⟩ = some (.int .i64 ((rd_T64 l3 x31_2).f1)) := (blk_cell BK740.out 1).trans rfl; have hfz28_0 := blk_frozen BK740.out 0; have hfz28_1 := blk_frozen BK740.out 1; obtain ⟨Ao29, co29, eo29⟩ := Kd.R_slice HO_12.out; subst eo29; have p741 : 0 ≤ (((rd_T64 l3 x31_2).f1) : Int) := of_decide_eq_true (by first | (with_reducible assumption) | assumption); have q741 : ((rd_T64 l3 x31_2).f1) < (x12_2.length : Int) := of_decide_eq_true (by first | (with_reducible assumption) | assumption); obtain ⟨ad741, e741, hx741_0⟩ := Kd.at_int (Kd.R_reads' HO_12.out).2.2 ((rd_T64 l3 x31_2).f1) p741 q741; cases e741; replace p741 := eq_true p741; replace q741 := eq_true q741; have p22 : 0 ≤ (((rd_T64 l3 x31_2).f1) : Int) := of_decide_eq_true (by first | (with_reducible assumption) | assumption); have q22 : (((rd_T64 l3 x31_2).f1) : Int) < ((x12_2.length : Int) : Int) := of_decide_eq_true (by first | (with_reducible assumption) | assumption); obtain ⟨go22, co22, eo22, gb22, gl22, cl22, HG22⟩ := Kd.R_form HO_12.out (by omega); (first | cases eo22 | (injection eo22 with ea_ en_ ec_; (first | subst ea_ | (injection ea_ with ea_; subst ea_)); subst ec_; clear en_)); have GB22 := Aside0.mk gb22; have GG22 := Aside0.mk HG22; clear gb22 gl22 HG22; (first | simp only [add_plain] at hx741_0 | skip); obtain ⟨hx22_0, hf22_0⟩ := Kd.R_celln 0 HO_12.out (((rd_T64 l3 x31_2).f1) : Int) p22 q22; replace p22 := eq_true p22; replace q22 := eq_true q22; obtain ⟨hy30_, hz30_⟩ := Kd.R_celln 0 HO_12.out (((rd_T64 l3 x31_2).f1) : Int) (of_decide_eq_true (by first | (with_reducible assumption) | assumption)) (of_decide_eq_true (by first | (with_reducible assumption) | assumption)); have HP30 := Kd.R_putg HO_12.out (((rd_T64 l3 x31_2).f1) : Int) 1) | ((with_reducible refine gate_store (t := 3) (p := 50) rfl ?_); refine store_event (t := 3) (p := 50) (v := ?vo_w31) (w1 := (w27.setCell ⟨go22, (((rd_T64 l3 x31_2).f1) : Int).toNat, none⟩ (.int .i64 1))) ?hg ?ho ?hn ?hr ?_; (case ho => rfl); (case hg => rfl); (case hn => rfl); (case hr => first | (go_simp; done) | (go_simp; rfl)); intro w31 hw; have hg : w27.grownBy w31 (some go22) := (by rw [hw]; exact HP30.2); have hp_ : Kd.R (Kd.int .i64) 3 w31 w.heap.size (fun k_ => some k_ ≠ (v737 : Value).ownBlock) (.slice (some ⟨go22, 0, none⟩) x12_2.length co29) y742 := (by rw [hw, Ny742.out]; exact HP30.1); clear HP30; have n0_ := Aside0.mk (hp_); have n1_ := Aside0.mk (Kd.R_after (v := (.slice (some ⟨go22, 0, none⟩) x12_2.length co29)) (v1 := (.slice (some ⟨go22, 0, none⟩) x12_2.length co29)) (ok := (fun _ => True)) (by (with_reducible repeat (first | apply Kd.R_alloc | apply Kd.R_drewN | apply Kd.R_drew)); exact Kd.R_mono HO_13.out (fun _ hk => ⟨trivial, hk⟩)) hg (.inl rfl)); have n2_ := Aside0.mk (blk_grown (g := gb740) (o := .cells #[.int .i64 ((rd_T64 l3 x31_2).f0), .int .i64 ((rd_T64 l3 x31_2).f1)] 64 (0, 0)) (by (with_reducible repeat (first | refine blk_drewN ?_ _ | refine blk_drew ?_ | refine blk_alloc ?_ _)); exact BK740.out) hg (Kd.R_ne HO_12.out BK740.out (by decide))); have n3_ := Aside0.mk ((by rw [hw]; exact below_set (HB.out) GB22.out : Below w.heap.size w w31)); clear HO_12; clear HO_13; clear BK740; clear HB; have HO_12 := n0_; have HO_13 := n1_; have BK740 := n2_; have HB := n3_; clear n0_ n1_ n2_ n3_; clear hg hw hp_; have hcz32_0 : w31.cell? ⟨gb740, 0, none⟩ = some (.int .i64 ((rd_T64 l3 x31_2).f0)) := (blk_cell BK740.out 0).trans rfl; have hcz32_1 : w31.cell? ⟨gb740, 1, none⟩ = some (.int .i64 ((rd_T64 l3 x31_2).f1)) := (blk_cell BK740.out 1).trans rfl; have hfz32_0 := blk_frozen BK740.out 0; have hfz32_1 := blk_frozen BK740.out 1; obtain ⟨Ao33, co33, eo33⟩ := Kd.R_slice HO_13.out; subst eo33; have p743 : 0 ≤ (((rd_T64 l3 x31_2).f1) : Int) := of_decide_eq_true (by first | (with_reducible assumption) | assumption); have q743 : ((rd_T64 l3 x31_2).f1) < (x13_2.length : Int) := of_decide_eq_true (by first | (with_reducible assumption) | assumption); obtain ⟨ad743, e743, hx743_0⟩ := Kd.at_int (Kd.R_reads' HO_13.out).2.2 ((rd_T64 l3 x31_2).f1) p743 q743; cases e743; replace p743 := eq_true p743; replace q743 := eq_true q743; have p24 : 0 ≤ (((rd_T64 l3 x31_2).f1) : Int) := of_decide_eq_true (by first | (with_reducible assumption) | assumption); have q24 : (((rd_T64 l3 x31_2).f1) : Int) < ((x13_2.length : Int) : Int) := of_decide_eq_true (by first | (with_reducible assumption) | assumption); obtain ⟨go24, co24, eo24, gb24, gl24, cl24, HG24⟩ := Kd.R_form HO_13.out (by omega); (first | cases eo24 | (injection eo24 with ea_ en_ ec_; (first | subst ea_ | (injection ea_ with ea_; subst ea_)); subst ec_; clear en_)); have GB24 := Aside0.mk gb24; have GG24 := Aside0.mk HG24; clear gb24 gl24 HG24; (first | simp only [add_plain] at hx743_0 | skip); obtain ⟨hx24_0, hf24_0⟩ := Kd.R_celln 0 HO_13.out (((rd_T64 l3 x31_2).f1) : Int) p24 q24; replace p24 := eq_true p24; replace q24 := eq_true q24; have n_ := Aside0.mk (Kd.R_mono (ok' := (fun k_ => some k_ ≠ (.slice (some ⟨go22, 0, none⟩) x12_2.length co29 : Value).ownBlock)) HO_13.out (fun k_ hk => hk.2)); clear HO_13; have HO_13 := n_; clear n_; obtain ⟨hy34_, hz34_⟩ := Kd.R_celln 0 HO_13.out (((rd_T64 l3 x31_2).f1) : Int) (of_decide_eq_true (by first | (with_reducible assumption) | assumption)) (of_decide_eq_true (by first | (with_reducible assumption) | assumption)); have HP34 := Kd.R_putg HO_13.out (((rd_T64 l3 x31_2).f1) : Int) (wrap64 ((rd x13_2 ((rd_T64 l3 x31_2).f1)) + 1))) | ((with_reducible refine gate_store (t := 3) (p := 57) rfl ?_); refine store_event (t := 3) (p := 57) (v := ?vo_w35) (w1 := (w31.setCell ⟨go24, (((rd_T64 l3 x31_2).f1) : Int).toNat, none⟩ (.int .i64 (wrap64 ((rd x13_2 ((rd_T64 l3 x31_2).f1)) + 1))))) ?hg ?ho ?hn ?hr ?_; (case ho => rfl); (case hg => rfl); (case hn => rfl); (case hr => first | (go_simp; done) | (go_simp; rfl)); intro w35 hw; have hg : w31.grownBy w35 (some go24) := (by rw [hw]; exact HP34.2); have hp_ : Kd.R (Kd.int .i64) 3 w35 w.heap.size (fun k_ => some k_ ≠ (.slice (some ⟨go22, 0, none⟩) x12_2.length co29 : Value).ownBlock) (.slice (some ⟨go24, 0, none⟩) x13_2.length co33) y744 := (by rw [hw, Ny744.out]; exact HP34.1); clear HP34; have n0_ := Aside0.mk (Kd.R_after (v := (.slice (some ⟨go24, 0, none⟩) x13_2.length co33)) (v1 := (.slice (some ⟨go24, 0, none⟩) x13_2.length co33)) (ok := (fun _ => True)) (by (with_reducible repeat (first | apply Kd.R_alloc | apply Kd.R_drewN | apply Kd.R_drew)); exact Kd.R_mono HO_12.out (fun _ hk => ⟨trivial, hk⟩)) hg (.inl rfl)); have n1_ := Aside0.mk (hp_); have n2_ := Aside0.mk (blk_grown (g := gb740) (o := .cells #[.int .i64 ((rd_T64 l3 x31_2).f0), .int .i64 ((rd_T64 l3 x31_2).f1)] 64 (0, 0)) (by (with_reducible repeat (first | refine blk_drewN ?_ _ | refine blk_drew ?_ | refine blk_alloc ?_ _)); exact BK740.out) hg (Kd.R_ne HO_13.out BK740.out (by decide))); have n3_ := Aside0.mk ((by rw [hw]; exact below_set (HB.out) GB24.out : Below w.heap.size w w35)); clear HO_12; clear HO_13; clear BK740; clear HB; have HO_12 := n0_; have HO_13 := n1_; have BK740 := n2_; have HB := n3_; clear n0_ n1_ n2_ n3_; clear hg hw hp_))
                                go_roundg k2
                                case measure => have := HK1.out; have := HK2.out; omega
                                case rel => exact ⟨(y742), (y744), (wrap64 (x31_2 + 1)), (by first | rfl | (simp; done) | (simp [*]; done)), H', ⟨by have := HK1.out; have := HK2.out; omega⟩, ⟨by (with_reducible repeat (first | apply Kd.R_alloc | apply Kd.R_drewN | apply Kd.R_drew)); exact Kd.R_mono HO_12.out (fun _ hk => hk.2)⟩, ⟨by (with_reducible repeat (first | apply Kd.R_alloc | apply Kd.R_drewN | apply Kd.R_drew)); exact HO_13.out⟩, ⟨by repeat (first | (with_reducible first | exact HB.out | apply below_alloc | apply pw_below_drewN | apply below_drew1 | refine below_set ?_ GE740.out) | exact HB.out)⟩⟩
                              · rw [if_neg c23] at H
                                exact absurd H (by simp)
                            · rw [if_neg c21] at H
                              have c21b0 : ((rd x12_2 ((rd_T64 l3 x31_2).f1)) == 0) = false := beq_eq_false_iff_ne.mpr c21
                              have c21b1 : ((rd x12_2 ((rd_T64 l3 x31_2).f1)) != 0) = true := bne_iff_ne.mpr c21
                              have H' := Aside0.mk H
                              clear H
                              have p739 : 0 ≤ (x31_2 : Int) := of_decide_eq_true (by first | (with_reducible assumption) | assumption)
                              have q739 : x31_2 < (l3.length : Int) := of_decide_eq_true (by first | (with_reducible assumption) | assumption)
                              obtain ⟨ad739, e739, hx739_0, hx739_1⟩ := at_T64 HR3.out x31_2 p739 q739
                              cases e739
                              replace hx739_0 := (HB.out.cell (World.block_lt_of_cell? w _ hx739_0)).trans hx739_0
                              replace hx739_1 := (HB.out.cell (World.block_lt_of_cell? w _ hx739_1)).trans hx739_1
                              replace p739 := eq_true p739
                              replace q739 := eq_true q739
                              go_wp2_with (first | ((with_reducible refine gate_dst (N := 16) rfl ?_); refine box_event ?hg (N := 16) ?hd (cs := #[.int .i64 0, .int .i64 0]) (t := 64) ?hr ?_; (case hd => rfl); (case hg => rfl); (case hr => first | (go_simp; done) | (go_simp; rfl)); intro gb740 hg w36 hbox hb; have n0_ := Aside0.mk (Kd.R_below (zR HO_12.out) hb); have n1_ := Aside0.mk (Kd.R_below (zR HO_13.out) hb); have n2_ := Aside0.mk (below_step (zB HB.out) hb); have n3_ := Aside0.mk (hbox); have n4_ := Aside0.mk ((by rw [hg]; exact (below_size (zB HB.out)) : w.heap.size ≤ gb740)); have n5_ := Aside0.mk ((by rw [hg]; exact (below_size (zB HB.out)) : w.heap.size ≤ gb740)); clear HO_12; clear HO_13; clear HB; have HO_12 := n0_; have HO_13 := n1_; have HB := n2_; have BK740 := n3_; have GW740 := n4_; have GE740 := n5_; clear n0_ n1_ n2_ n3_ n4_ n5_; clear hb hbox hg; have hcz37_0 : w36.cell? ⟨gb740, 0, none⟩ = some (.int .i64 0) := (blk_cell BK740.out 0).trans rfl; have hcz37_1 : w36.cell? ⟨gb740, 1, none⟩ = some (.int .i64 0) := (blk_cell BK740.out 1).trans rfl; have hfz37_0 := blk_frozen BK740.out 0; have hfz37_1 := blk_frozen BK740.out 1; obtain ⟨Ao38, co38, eo38⟩ := Kd.R_slice HO_12.out; subst eo38; have p741 : 0 ≤ (((rd_T64 l3 x31_2).f1) : Int) := of_decide_eq_true (by first | (with_reducible assumption) | assumption); have q741 : ((rd_T64 l3 x31_2).f1) < (x12_2.length : Int) := of_decide_eq_true (by first | (with_reducible assumption) | assumption); obtain ⟨ad741, e741, hx741_0⟩ := Kd.at_int (Kd.R_reads' HO_12.out).2.2 ((rd_T64 l3 x31_2).f1) p741 q741; cases e741; have hn741_0 : ad741.block ≠ gb740 := Kd.own_blk (Kd.R_ne HO_12.out BK740.out (by decide)); have hn741_1 : ad741.block ≠ gb740 := Kd.own_blk (Kd.R_ne HO_12.out BK740.out (by decide)); replace hx741_0 := (cell_far (p := ⟨gb740, 0, none⟩) (by first | (rw [add_block]; exact hn741_0) | (show (Addr.add _ _).block ≠ _; rw [add_block]; exact hn741_0) | exact hn741_0) (.int .i64 ((rd_T64 l3 x31_2).f0))).trans hx741_0; replace hx741_0 := (cell_far (p := ⟨gb740, 1, none⟩) (by first | (rw [add_block]; exact hn741_1) | (show (Addr.add _ _).block ≠ _; rw [add_block]; exact hn741_1) | exact hn741_1) (.int .i64 ((rd_T64 l3 x31_2).f1))).trans hx741_0; clear hn741_0; clear hn741_1; replace p741 := eq_true p741; replace q741 := eq_true q741))
                              go_roundg k2
                              case measure => have := HK1.out; have := HK2.out; omega
                              case rel => exact ⟨(x12_2), (x13_2), (wrap64 (x31_2 + 1)), (by first | rfl | (simp; done) | (simp [*]; done)), H', ⟨by have := HK1.out; have := HK2.out; omega⟩, ⟨by (with_reducible repeat (first | apply Kd.R_alloc | apply Kd.R_drewN | apply Kd.R_drew)); exact Kd.R_mono (Kd.R_far (p := ⟨gb740, 1, none⟩) (Kd.R_far (p := ⟨gb740, 0, none⟩) (Kd.R_types HO_12.out BK740.out (by decide)) (fun _ hk => hk.2) (.int .i64 ((rd_T64 l3 x31_2).f0))) (fun _ hk => hk.2) (.int .i64 ((rd_T64 l3 x31_2).f1))) (fun _ hk => hk.1)⟩, ⟨by (with_reducible repeat (first | apply Kd.R_alloc | apply Kd.R_drewN | apply Kd.R_drew)); exact Kd.R_mono (Kd.R_far (p := ⟨gb740, 1, none⟩) (Kd.R_far (p := ⟨gb740, 0, none⟩) (Kd.R_types HO_13.out BK740.out (by decide)) (fun _ hk => hk.2) (.int .i64 ((rd_T64 l3 x31_2).f0))) (fun _ hk => hk.2) (.int .i64 ((rd_T64 l3 x31_2).f1))) (fun _ hk => hk.1)⟩, ⟨by repeat (first | (with_reducible first | exact HB.out | apply below_alloc | apply pw_below_drewN | apply below_drew1 | refine below_set ?_ GE740.out) | exact HB.out)⟩⟩
                          · rw [if_neg c20] at H
                            exact absurd H (by simp)
                        · rw [if_neg c19] at H
                          exact absurd H (by simp)
                      · rw [if_neg c18] at H
                        have c18b0 : (((rd_T64 l3 x31_2).f0) == x26_1) = false := beq_eq_false_iff_ne.mpr c18
                        have c18b1 : (((rd_T64 l3 x31_2).f0) != x26_1) = true := bne_iff_ne.mpr c18
                        have H' := Aside0.mk H
                        clear H
                        have p739 : 0 ≤ (x31_2 : Int) := of_decide_eq_true (by first | (with_reducible assumption) | assumption)
                        have q739 : x31_2 < (l3.length : Int) := of_decide_eq_true (by first | (with_reducible assumption) | assumption)
                        obtain ⟨ad739, e739, hx739_0, hx739_1⟩ := at_T64 HR3.out x31_2 p739 q739
                        cases e739
                        replace hx739_0 := (HB.out.cell (World.block_lt_of_cell? w _ hx739_0)).trans hx739_0
                        replace hx739_1 := (HB.out.cell (World.block_lt_of_cell? w _ hx739_1)).trans hx739_1
                        replace p739 := eq_true p739
                        replace q739 := eq_true q739
                        go_wp2_with (first | ((with_reducible refine gate_dst (N := 16) rfl ?_); refine box_event ?hg (N := 16) ?hd (cs := #[.int .i64 0, .int .i64 0]) (t := 64) ?hr ?_; (case hd => rfl); (case hg => rfl); (case hr => first | (go_simp; done) | (go_simp; rfl)); intro gb740 hg w39 hbox hb; have n0_ := Aside0.mk (Kd.R_below (zR HO_12.out) hb); have n1_ := Aside0.mk (Kd.R_below (zR HO_13.out) hb); have n2_ := Aside0.mk (below_step (zB HB.out) hb); have n3_ := Aside0.mk (hbox); have n4_ := Aside0.mk ((by rw [hg]; exact (below_size (zB HB.out)) : w.heap.size ≤ gb740)); have n5_ := Aside0.mk ((by rw [hg]; exact (below_size (zB HB.out)) : w.heap.size ≤ gb740)); clear HO_12; clear HO_13; clear HB; have HO_12 := n0_; have HO_13 := n1_; have HB := n2_; have BK740 := n3_; have GW740 := n4_; have GE740 := n5_; clear n0_ n1_ n2_ n3_ n4_ n5_; clear hb hbox hg; have hcz40_0 : w39.cell? ⟨gb740, 0, none⟩ = some (.int .i64 0) := (blk_cell BK740.out 0).trans rfl; have hcz40_1 : w39.cell? ⟨gb740, 1, none⟩ = some (.int .i64 0) := (blk_cell BK740.out 1).trans rfl; have hfz40_0 := blk_frozen BK740.out 0; have hfz40_1 := blk_frozen BK740.out 1))
                        go_roundg k2
                        case measure => have := HK1.out; have := HK2.out; omega
                        case rel => exact ⟨(x12_2), (x13_2), (wrap64 (x31_2 + 1)), (by first | rfl | (simp; done) | (simp [*]; done)), H', ⟨by have := HK1.out; have := HK2.out; omega⟩, ⟨by (with_reducible repeat (first | apply Kd.R_alloc | apply Kd.R_drewN | apply Kd.R_drew)); exact Kd.R_mono (Kd.R_far (p := ⟨gb740, 1, none⟩) (Kd.R_far (p := ⟨gb740, 0, none⟩) (Kd.R_types HO_12.out BK740.out (by decide)) (fun _ hk => hk.2) (.int .i64 ((rd_T64 l3 x31_2).f0))) (fun _ hk => hk.2) (.int .i64 ((rd_T64 l3 x31_2).f1))) (fun _ hk => hk.1)⟩, ⟨by (with_reducible repeat (first | apply Kd.R_alloc | apply Kd.R_drewN | apply Kd.R_drew)); exact Kd.R_mono (Kd.R_far (p := ⟨gb740, 1, none⟩) (Kd.R_far (p := ⟨gb740, 0, none⟩) (Kd.R_types HO_13.out BK740.out (by decide)) (fun _ hk => hk.2) (.int .i64 ((rd_T64 l3 x31_2).f0))) (fun _ hk => hk.2) (.int .i64 ((rd_T64 l3 x31_2).f1))) (fun _ hk => hk.1)⟩, ⟨by repeat (first | (with_reducible first | exact HB.out | apply below_alloc | apply pw_below_drewN | apply below_drew1 | refine below_set ?_ GE740.out) | exact HB.out)⟩⟩
                    · rw [if_neg c17] at H
                      exact absurd H (by simp)
                  · rw [if_neg c16] at H
                    exact absurd H (by simp)
                · rw [if_neg c15] at H
                  have c15b0 : decide (x31_2 < (l3.length : Int)) = false := decide_eq_false c15
                  clear c15
                  replace H := Option.bind_eq_some_iff.mp H
                  obtain ⟨t745, A410, H⟩ := H
                  replace H : (impl_scripted.l2 k2 l0 a1 l3 x12_2 x13_2 t745 a4 x26_1 t745 (t745.length : Int) 0) = some (r1, r2) := H
                  have A41 := Aside0.mk A410
                  clear A410
                  have H' := Aside0.mk H
                  clear H
                  obtain ⟨Ao42, co42, eo42⟩ := Kd.R_slice HO_12.out
                  subst eo42
                  go_wp2_with (first | ((with_reducible refine gate_callee (f := 75) rfl ?_); refine goesL_ (some 62) rfl rfl Try.func75 (by kernel_rfl) rfl #[.slice A0 l0.length c0, .int .i64 a1, .slice none 0 0, .slice Ao42 x12_2.length co42] rfl zA ?_; (refine (impl_needStep0.calls k2 _ _ l0 a1 _ _ x12_2 t745 _ ?side1 ?side2 ?side3 ?side4 ?side5 ?side6 A41.out).mono ?_); (case side1 => exact zC (Kd.C_below HR0.out HB.out)); (case side2 => exact HC0.out); (case side3 => exact Kd.C_nil _ _); (case side4 => exact Nat.le_refl _); (case side5 => exact zC (Kd.R_reads' HO_12.out).2.2); (case side6 => exact (Kd.R_reads' HO_12.out).2.1); rintro e w43 ⟨v746, rfl, ho0, hb⟩; refine ⟨_, rfl, ?_⟩; have n0_ := Aside0.mk (Kd.R_elder' (zR HO_12.out) (Kd.R_base ho0) hb); have n1_ := Aside0.mk (Kd.R_elder' (zR HO_13.out) (Kd.R_base ho0) hb); have n2_ := Aside0.mk (Kd.R_lower (Kd.R_new' (Kd.R_new' ho0 (Kd.R_lt (zR HO_12.out))) (Kd.R_lt (zR HO_13.out))) (below_size (zB HB.out))); have n3_ := Aside0.mk (below_step (zB HB.out) hb); clear HO_12; clear HO_13; clear HB; have HO_12 := n0_; have HO_13 := n1_; have HO747 := n2_; have HB := n3_; clear n0_ n1_ n2_ n3_; (try clear hb); (try clear hb2); (try clear hk); (try clear hi); (try clear ho0); obtain ⟨Ao44, co44, eo44⟩ := Kd.R_slice HO747.out; subst eo44))
                  go_loopg [65] k2 (fun kq v65 w' => ∃ (x13_3 : List Int) (x65_3 : Int), v65 = .int .i64 x65_3 ∧ Aside0 (impl_scripted.l2 kq l0 a1 l3 x12_2 x13_3 t745 a4 x26_1 t745 (t745.length : Int) x65_3 = some (r1, r2)) ∧ Aside0 (kq ≤ k2) ∧ Aside0 (Kd.R (Kd.int .i64) 3 w' w.heap.size (fun k_ => some k_ ≠ (v737 : Value).ownBlock ∧ some k_ ≠ ((.slice Ao44 t745.length co44) : Value).ownBlock ∧ some k_ ≠ ((.slice Ao44 t745.length co44) : Value).ownBlock) (.slice Ao42 x12_2.length co42) x12_2) ∧ Aside0 (Kd.R (Kd.int .i64) 3 w' w.heap.size (fun k_ => some k_ ≠ ((.slice Ao42 x12_2.length co42) : Value).ownBlock ∧ some k_ ≠ ((.slice Ao44 t745.length co44) : Value).ownBlock ∧ some k_ ≠ ((.slice Ao44 t745.length co44) : Value).ownBlock) v737 x13_3) ∧ Aside0 (Kd.R (Kd.int .i64) 3 w' w.heap.size (fun k_ => some k_ ≠ ((.slice Ao42 x12_2.length co42) : Value).ownBlock ∧ some k_ ≠ (v737 : Value).ownBlock) (.slice Ao44 t745.length co44) t745) ∧ Aside0 (Kd.R (Kd.int .i64) 3 w' w.heap.size (fun k_ => some k_ ≠ ((.slice Ao42 x12_2.length co42) : Value).ownBlock ∧ some k_ ≠ (v737 : Value).ownBlock) (.slice Ao44 t745.length co44) t745) ∧ Aside0 (Below w.heap.size w w'))
                  case atStart => exact ⟨(x13_2), (0), (by first | rfl | (simp; done) | (simp [*]; done)), H', ⟨Nat.le_refl _⟩, ⟨by (with_reducible repeat (first | apply Kd.R_alloc | apply Kd.R_drewN | apply Kd.R_drew)); exact Kd.R_mono HO_12.out (fun _ hk => ⟨hk.1, ⟨hk.2, hk.2⟩⟩)⟩, ⟨by (with_reducible repeat (first | apply Kd.R_alloc | apply Kd.R_drewN | apply Kd.R_drew)); exact Kd.R_mono HO_13.out (fun _ hk => ⟨hk.1, ⟨hk.2, hk.2⟩⟩)⟩, ⟨by (with_reducible repeat (first | apply Kd.R_alloc | apply Kd.R_drewN | apply Kd.R_drew)); exact Kd.R_mono HO747.out (fun _ hk => ⟨hk.1.2, hk.2⟩)⟩, ⟨by (with_reducible repeat (first | apply Kd.R_alloc | apply Kd.R_drewN | apply Kd.R_drew)); exact Kd.R_mono HO747.out (fun _ hk => ⟨hk.1.2, hk.2⟩)⟩, ⟨zB HB.out⟩⟩
                  case round =>
                    clear H'
                    try clear c1
                    try clear c2
                    try clear p2
                    try clear q2
                    try clear hx2
                    try clear c3
                    try clear p6
                    try clear c7
                    try clear c7b0
                    try clear c7b1
                    try clear p7
                    try clear q7
                    try clear hx7
                    try clear c8
                    try clear c8b0
                    try clear c8b1
                    try clear c14
                    try clear c14b0
                    try clear c15
                    try clear c15b0
                    try clear c16
                    try clear c16b0
                    try clear c17
                    try clear c17b0
                    try clear c18
                    try clear c18b0
                    try clear c18b1
                    try clear c19
                    try clear c19b0
                    try clear c20
                    try clear c20b0
                    try clear c21
                    try clear c21b0
                    try clear c21b1
                    try clear p22
                    try clear q22
                    try clear hx22
                    try clear hf22
                    try clear c23
                    try clear c23b0
                    try clear p24
                    try clear q24
                    try clear hx24
                    try clear hf24
                    try clear hcz26_0
                    try clear hcz26_1
                    try clear hcz28_0
                    try clear hcz28_1
                    try clear hcz32_0
                    try clear hcz32_1
                    try clear hcz37_0
                    try clear hcz37_1
                    try clear hcz40_0
                    try clear hcz40_1
                    try clear hfz26_0
                    try clear hfz26_1
                    try clear hfz28_0
                    try clear hfz28_1
                    try clear hfz32_0
                    try clear hfz32_1
                    try clear hfz37_0
                    try clear hfz37_1
                    try clear hfz40_0
                    try clear hfz40_1
                    try clear hx22_0
                    try clear hx24_0
                    try clear hx739_0
                    try clear hx739_1
                    try clear hx741_0
                    try clear hx743_0
                    try clear p2
                    try clear p22
                    try clear p24
                    try clear p739
                    try clear p741
                    try clear p743
                    try clear q22
                    try clear q24
                    try clear q739
                    try clear q741
                    try clear q743
                    obtain ⟨x13_3, x65_3, rfl, HA, HK3, HO_12, HO_13, HO_17, HO_63, HB⟩ := hrel
                    cases gk with
                    | zero => exact absurd HA.out (by simp [impl_scripted.l2])
                    | succ k3 =>
                      have H := HA.out
                      clear HA
                      simp only [impl_scripted.l2] at H
                      by_cases c45 : x65_3 < (t745.length : Int)
                      · rw [if_pos c45] at H
                        have c45b0 : decide (x65_3 < (t745.length : Int)) = true := decide_eq_true c45
                        clear c45
                        by_cases c46 : 0 ≤ x65_3
                        · rw [if_pos c46] at H
                          have c46b0 : decide (0 ≤ x65_3) = true := decide_eq_true c46
                          clear c46
                          by_cases c47 : x65_3 < (t745.length : Int)
                          · rw [if_pos c47] at H
                            have c47b0 : decide (x65_3 < (t745.length : Int)) = true := decide_eq_true c47
                            clear c47
                            by_cases c48 : (rd t745 x65_3) = 1
                            · rw [if_pos c48] at H
                              have c48b0 : ((rd t745 x65_3) == 1) = true := beq_iff_eq.mpr c48
                              have c48b1 : ((rd t745 x65_3) != 1) = false := bne_eq_false_iff_eq.mpr c48
                              clear c48
                              by_cases c49 : x65_3 < (x12_2.length : Int)
                              · rw [if_pos c49] at H
                                have c49b0 : decide (x65_3 < (x12_2.length : Int)) = true := decide_eq_true c49
                                clear c49
                                by_cases c50 : (rd x12_2 x65_3) = 1
                                · rw [if_pos c50] at H
                                  have c50b0 : ((rd x12_2 x65_3) == 1) = true := beq_iff_eq.mpr c50
                                  have c50b1 : ((rd x12_2 x65_3) != 1) = false := bne_eq_false_iff_eq.mpr c50
                                  clear c50
                                  have H' := Aside0.mk H
                                  clear H
                                  have p748 : 0 ≤ (x65_3 : Int) := of_decide_eq_true (by first | (with_reducible assumption) | assumption)
                                  have q748 : x65_3 < (t745.length : Int) := of_decide_eq_true (by first | (with_reducible assumption) | assumption)
                                  obtain ⟨ad748, e748, hx748_0⟩ := Kd.at_int (Kd.R_reads' HO_63.out).2.2 x65_3 p748 q748
                                  cases e748
                                  replace p748 := eq_true p748
                                  replace q748 := eq_true q748
                                  have p749 : 0 ≤ (x65_3 : Int) := of_decide_eq_true (by first | (with_reducible assumption) | assumption)
                                  have q749 : x65_3 < (x12_2.length : Int) := of_decide_eq_true (by first | (with_reducible assumption) | assumption)
                                  obtain ⟨ad749, e749, hx749_0⟩ := Kd.at_int (Kd.R_reads' HO_12.out).2.2 x65_3 p749 q749
                                  cases e749
                                  replace p749 := eq_true p749
                                  replace q749 := eq_true q749
                                  go_wp2
                                  go_roundg k3
                                  case measure => have := HK1.out; have := HK2.out; have := HK3.out; omega
                                  case rel => exact ⟨(x13_3), (wrap64 (x65_3 + 1)), (by first | rfl | (simp; done) | (simp [*]; done)), H', ⟨by have := HK1.out; have := HK2.out; have := HK3.out; omega⟩, ⟨by (with_reducible repeat (first | apply Kd.R_alloc | apply Kd.R_drewN | apply Kd.R_drew)); exact HO_12.out⟩, ⟨by (with_reducible repeat (first | apply Kd.R_alloc | apply Kd.R_drewN | apply Kd.R_drew)); exact HO_13.out⟩, ⟨by (with_reducible repeat (first | apply Kd.R_alloc | apply Kd.R_drewN | apply Kd.R_drew)); exact HO_17.out⟩, ⟨by (with_reducible repeat (first | apply Kd.R_alloc | apply Kd.R_drewN | apply Kd.R_drew)); exact HO_63.out⟩, ⟨zB HB.out⟩⟩
                                · rw [if_neg c50] at H
                                  have c50b0 : ((rd x12_2 x65_3) == 1) = false := beq_eq_false_iff_ne.mpr c50
                                  have c50b1 : ((rd x12_2 x65_3) != 1) = true := bne_iff_ne.mpr c50
                                  by_cases c51 : x65_3 < (x13_3.length : Int)
                                  · rw [if_pos c51] at H
                                    have c51b0 : decide (x65_3 < (x13_3.length : Int)) = true := decide_eq_true c51
                                    clear c51
                                    obtain ⟨y751, hy751⟩ : ∃ y_ : List Int, y_ = (x13_3.set (x65_3 : Int).toNat (wrap64 ((rd x13_3 x65_3) + 1))) := ⟨_, rfl⟩
                                    replace H : (impl_scripted.l2 k3 l0 a1 l3 x12_2 y751 t745 a4 x26_1 t745 (t745.length : Int) (wrap64 (x65_3 + 1))) = some (r1, r2) := by first | (rw [hy751]; with_reducible exact H) | (have H2_ := (Option.bind_some _ _).symm.trans H; rw [hy751]; with_reducible exact H2_) | (have H2_ := (Option.bind_some _ _).symm.trans H; with_reducible exact H2_) | with_reducible exact H | (rw [hy751]; exact H) | exact H
                                    have Ny751 := Aside0.mk hy751
                                    clear hy751
                                    have H' := Aside0.mk H
                                    clear H
                                    have p748 : 0 ≤ (x65_3 : Int) := of_decide_eq_true (by first | (with_reducible assumption) | assumption)
                                    have q748 : x65_3 < (t745.length : Int) := of_decide_eq_true (by first | (with_reducible assumption) | assumption)
                                    obtain ⟨ad748, e748, hx748_0⟩ := Kd.at_int (Kd.R_reads' HO_63.out).2.2 x65_3 p748 q748
                                    cases e748
                                    replace p748 := eq_true p748
                                    replace q748 := eq_true q748
                                    have p749 : 0 ≤ (x65_3 : Int) := of_decide_eq_true (by first | (with_reducible assumption) | assumption)
                                    have q749 : x65_3 < (x12_2.length : Int) := of_decide_eq_true (by first | (with_reducible assumption) | assumption)
                                    obtain ⟨ad749, e749, hx749_0⟩ := Kd.at_int (Kd.R_reads' HO_12.out).2.2 x65_3 p749 q749
                                    cases e749
                                    replace p749 := eq_true p749
                                    replace q749 := eq_true q749
                                    obtain ⟨Ao53, co53, eo53⟩ := Kd.R_slice HO_13.out
                                    subst eo53
                                    have p750 : 0 ≤ (x65_3 : Int) := of_decide_eq_true (by first | (with_reducible assumption) | assumption)
                                    have q750 : x65_3 < (x13_3.length : Int) := of_decide_eq_true (by first | (with_reducible assumption) | assumption)
                                    obtain ⟨ad750, e750, hx750_0⟩ := Kd.at_int (Kd.R_reads' HO_13.out).2.2 x65_3 p750 q750
                                    cases e750
                                    replace p750 := eq_true p750
                                    replace q750 := eq_true q750
                                    have p52 : 0 ≤ (x65_3 : Int) := of_decide_eq_true (by first | (with_reducible assumption) | assumption)
                                    have q52 : (x65_3 : Int) < ((x13_3.length : Int) : Int) := of_decide_eq_true (by first | (with_reducible assumption) | assumption)
                                    obtain ⟨go52, co52, eo52, gb52, gl52, cl52, HG52⟩ := Kd.R_form HO_13.out (by omega)
                                    (first | cases eo52 | (injection eo52 with ea_ en_ ec_; (first | subst ea_ | (injection ea_ with ea_; subst ea_)); subst ec_; clear en_))
                                    have GB52 := Aside0.mk gb52
                                    have GG52 := Aside0.mk HG52
                                    clear gb52 gl52 HG52
                                    (first | simp only [add_plain] at hx750_0 | skip)
                                    obtain ⟨hx52_0, hf52_0⟩ := Kd.R_celln 0 HO_13.out (x65_3 : Int) p52 q52
                                    replace p52 := eq_true p52
                                    replace q52 := eq_true q52
                                    have HP54 := Kd.R_putg HO_13.out (x65_3 : Int) (wrap64 ((rd x13_3 x65_3) + 1))
                                    go_wp2_with (first | ((with_reducible refine gate_store (t := 3) (p := 84) rfl ?_); refine store_event (t := 3) (p := 84) (v := ?vo_w55) (w1 := (wr.setCell ⟨go52, (x65_3 : Int).toNat, none⟩ (.int .i64 (wrap64 ((rd x13_3 x65_3) + 1))))) ?hg ?ho ?hn ?hr ?_; (case ho => rfl); (case hg => rfl); (case hn => rfl); (case hr => first | (go_simp; done) | (go_simp; rfl)); intro w55 hw; have hg : wr.grownBy w55 (some go52) := (by rw [hw]; exact HP54.2); have hp_ : Kd.R (Kd.int .i64) 3 w55 w.heap.size (fun k_ => some k_ ≠ (.slice (some ad749) x12_2.length co42 : Value).ownBlock ∧ some k_ ≠ (.slice (some ad748) t745.length co44 : Value).ownBlock ∧ some k_ ≠ (.slice (some ad748) t745.length co44 : Value).ownBlock) (.slice (some ⟨go52, 0, none⟩) x13_3.length co53) y751 := (by rw [hw, Ny751.out]; exact HP54.1); clear HP54; have n0_ := Aside0.mk (Kd.R_after (v := (.slice (some ⟨go52, 0, none⟩) x13_3.length co53)) (v1 := (.slice (some ⟨go52, 0, none⟩) x13_3.length co53)) (ok := (fun k_ => some k_ ≠ (.slice (some ad748) t745.length co44 : Value).ownBlock ∧ some k_ ≠ (.slice (some ad748) t745.length co44 : Value).ownBlock)) (by (with_reducible repeat (first | apply Kd.R_alloc | apply Kd.R_drewN | apply Kd.R_drew)); exact Kd.R_mono HO_12.out (fun _ hk => ⟨⟨hk.2.1, hk.2.2⟩, hk.1⟩)) hg (.inl rfl)); have n1_ := Aside0.mk (hp_); have n2_ := Aside0.mk (Kd.R_after (v := (.slice (some ⟨go52, 0, none⟩) x13_3.length co53)) (v1 := (.slice (some ⟨go52, 0, none⟩) x13_3.length co53)) (ok := (fun k_ => some k_ ≠ (.slice (some ad749) x12_2.length co42 : Value).ownBlock)) (zR HO_17.out) hg (.inl rfl)); have n3_ := Aside0.mk (Kd.R_after (v := (.slice (some ⟨go52, 0, none⟩) x13_3.length co53)) (v1 := (.slice (some ⟨go52, 0, none⟩) x13_3.length co53)) (ok := (fun k_ => some k_ ≠ (.slice (some ad749) x12_2.length co42 : Value).ownBlock)) (zR HO_63.out) hg (.inl rfl)); have n4_ := Aside0.mk ((by rw [hw]; exact below_set (HB.out) GB52.out : Below w.heap.size w w55)); clear HO_12; clear HO_13; clear HO_17; clear HO_63; clear HB; have HO_12 := n0_; have HO_13 := n1_; have HO_17 := n2_; have HO_63 := n3_; have HB := n4_; clear n0_ n1_ n2_ n3_ n4_; clear hg hw hp_))
                                    go_roundg k3
                                    case measure => have := HK1.out; have := HK2.out; have := HK3.out; omega
                                    case rel => exact ⟨(y751), (wrap64 (x65_3 + 1)), (by first | rfl | (simp; done) | (simp [*]; done)), H', ⟨by have := HK1.out; have := HK2.out; have := HK3.out; omega⟩, ⟨by (with_reducible repeat (first | apply Kd.R_alloc | apply Kd.R_drewN | apply Kd.R_drew)); exact Kd.R_mono HO_12.out (fun _ hk => ⟨hk.2, ⟨hk.1.1, hk.1.2⟩⟩)⟩, ⟨by (with_reducible repeat (first | apply Kd.R_alloc | apply Kd.R_drewN | apply Kd.R_drew)); exact HO_13.out⟩, ⟨by (with_reducible repeat (first | apply Kd.R_alloc | apply Kd.R_drewN | apply Kd.R_drew)); exact HO_17.out⟩, ⟨by (with_reducible repeat (first | apply Kd.R_alloc | apply Kd.R_drewN | apply Kd.R_drew)); exact HO_63.out⟩, ⟨zB HB.out⟩⟩
                                  · rw [if_neg c51] at H
                                    exact absurd H (by simp)
                              · rw [if_neg c49] at H
                                exact absurd H (by simp)
                            · rw [if_neg c48] at H
                              have c48b0 : ((rd t745 x65_3) == 1) = false := beq_eq_false_iff_ne.mpr c48
                              have c48b1 : ((rd t745 x65_3) != 1) = true := bne_iff_ne.mpr c48
                              have H' := Aside0.mk H
                              clear H
                              have p748 : 0 ≤ (x65_3 : Int) := of_decide_eq_true (by first | (with_reducible assumption) | assumption)
                              have q748 : x65_3 < (t745.length : Int) := of_decide_eq_true (by first | (with_reducible assumption) | assumption)
                              obtain ⟨ad748, e748, hx748_0⟩ := Kd.at_int (Kd.R_reads' HO_63.out).2.2 x65_3 p748 q748
                              cases e748
                              replace p748 := eq_true p748
                              replace q748 := eq_true q748
                              go_wp2
                              go_roundg k3
                              case measure => have := HK1.out; have := HK2.out; have := HK3.out; omega
                              case rel => exact ⟨(x13_3), (wrap64 (x65_3 + 1)), (by first | rfl | (simp; done) | (simp [*]; done)), H', ⟨by have := HK1.out; have := HK2.out; have := HK3.out; omega⟩, ⟨by (with_reducible repeat (first | apply Kd.R_alloc | apply Kd.R_drewN | apply Kd.R_drew)); exact HO_12.out⟩, ⟨by (with_reducible repeat (first | apply Kd.R_alloc | apply Kd.R_drewN | apply Kd.R_drew)); exact HO_13.out⟩, ⟨by (with_reducible repeat (first | apply Kd.R_alloc | apply Kd.R_drewN | apply Kd.R_drew)); exact HO_17.out⟩, ⟨by (with_reducible repeat (first | apply Kd.R_alloc | apply Kd.R_drewN | apply Kd.R_drew)); exact HO_63.out⟩, ⟨zB HB.out⟩⟩
                          · rw [if_neg c47] at H
                            exact absurd H (by simp)
                        · rw [if_neg c46] at H
                          exact absurd H (by simp)
                      · rw [if_neg c45] at H
                        have c45b0 : decide (x65_3 < (t745.length : Int)) = false := decide_eq_false c45
                        clear c45
                        have H' := Aside0.mk H
                        clear H
                        go_wp2
                        go_roundg k3
                        case measure => have := HK1.out; have := HK2.out; have := HK3.out; omega
                        case rel => exact ⟨(t745), (x13_3), (wrap64 (x26_1 + 1)), (by first | rfl | (simp; done) | (simp [*]; done)), H', ⟨by have := HK1.out; have := HK2.out; have := HK3.out; omega⟩, ⟨by (with_reducible repeat (first | apply Kd.R_alloc | apply Kd.R_drewN | apply Kd.R_drew)); exact Kd.R_mono HO_17.out (fun _ hk => hk.2)⟩, ⟨by (with_reducible repeat (first | apply Kd.R_alloc | apply Kd.R_drewN | apply Kd.R_drew)); exact Kd.R_mono HO_13.out (fun _ hk => hk.2.1)⟩, ⟨zB HB.out⟩⟩
          · rw [if_neg c14] at H
            have c14b0 : decide (x26_1 < a4) = false := decide_eq_false c14
            clear c14
            simp only [Option.some.injEq, Prod.mk.injEq] at H
            obtain ⟨rfl, rfl⟩ := H
            go_wp2
            go_ret2
            exact ⟨_, _, by first | rfl | (simp [errW_none, errW_some] <;> rfl) | (simp [*, errW_none, errW_some] <;> rfl), by (with_reducible repeat (first | apply Kd.R_alloc | apply Kd.R_drewN | apply Kd.R_drew)); exact HO_12.out, by (with_reducible repeat (first | apply Kd.R_alloc | apply Kd.R_drewN | apply Kd.R_drew)); exact HO_13.out, zB HB.out⟩
    · rw [if_neg c8] at H
      exact absurd H (by simp)
  · rw [if_neg c7] at H
    exact absurd H (by simp)

end Go.Proofs.Ytfhkahlfpchhpaa.PAll
