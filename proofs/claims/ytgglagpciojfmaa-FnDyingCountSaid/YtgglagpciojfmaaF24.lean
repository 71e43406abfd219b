/- Own text of this session, written by a program of this session (wip/t/own.py) out of what the kit tells of the functions: each Go function as a Lean function, and the walk through its code. -/
import Derived.Test.YtgglagpciojfmaaT
import Derived.Test.YtgglagpciojfmaaF1
import Derived.Test.YtgglagpciojfmaaF21
import Derived.Test.YtgglagpciojfmaaF4
namespace Go.Proofs.Ytgglagpciojfmaa.PAll
open Go.RowKit Go.Proofs.YtgglagpciojfmaaW.PrintWords Go.Proofs.YtgglagpciojfmaaW.PrintLast Go.Proofs.YtgglagpciojfmaaW.PrintMore
attribute [local go_sem] max2_int min2_int max_two min_two max_three min_three max_four min_four   -- for this text's walks alone
set_option linter.unusedVariables false
set_option linter.unusedSimpArgs false

/-! ### spec_EndsAt: function 65 -/
mutual
def spec_EndsAt.j0 : Nat → List Int → Int → List Int → Int → Bool → Option (Int)
 | 0, _, _, _, _, _ => none
 | k + 1, x0, x1, x2, x7, x24 => if x24 = true then (some (-1)) else ((some (([] : List Int) : List Int)).bind fun y353 => (if y353.length + x2.length < 17592186044416 then (spec_EndsAt.l0 k x0 x1 x7 (y353 ++ x2) 0) else (none)))
def spec_EndsAt.l0 : Nat → List Int → Int → Int → List Int → Int → Option (Int)
 | 0, _, _, _, _, _ => none
 | k + 1, x0, x1, x7, x9, x10 => if x10 < x7 then ((spec_l3Step.f k x0 x1 x9).bind fun t359 => (spec_EndsAt.l0 k x0 x1 x7 t359 (wrap64 (x10 + 1)))) else (spec_EndsAt.l1 k x7 x9 0)
def spec_EndsAt.l1 : Nat → Int → List Int → Int → Option (Int)
 | 0, _, _, _ => none
 | k + 1, x7, x9, x11 => if x11 < (x9.length : Int) then (if 0 ≤ x11 then (if (rd x9 x11) = 0 then (spec_EndsAt.l1 k x7 x9 (wrap64 (x11 + 1))) else (some (-1))) else (none)) else (some x7)
end
def spec_EndsAt.f (k : Nat) (l0 : List Int) (a1 : Int) (l2 : List Int) : Option (Int) := (spec_LoopOf.f k l0 a1 l2).bind fun bt351 => (if bt351.1 < 0 then (spec_EndsAt.j0 k l0 a1 l2 bt351.1 true) else (spec_EndsAt.j0 k l0 a1 l2 bt351.1 (decide (bt351.2 > 1))))
theorem spec_EndsAt.mono_l : ∀ k, (∀ y0 y1 y2 y3 y4, LeO (spec_EndsAt.j0 k y0 y1 y2 y3 y4) (spec_EndsAt.j0 (k + 1) y0 y1 y2 y3 y4)) ∧ (∀ y0 y1 y2 y3 y4, LeO (spec_EndsAt.l0 k y0 y1 y2 y3 y4) (spec_EndsAt.l0 (k + 1) y0 y1 y2 y3 y4)) ∧ (∀ y0 y1 y2, LeO (spec_EndsAt.l1 k y0 y1 y2) (spec_EndsAt.l1 (k + 1) y0 y1 y2))
 | 0 => ⟨fun _ _ _ _ _ r h => by simp [spec_EndsAt.j0] at h, fun _ _ _ _ _ r h => by simp [spec_EndsAt.l0] at h, fun _ _ _ r h => by simp [spec_EndsAt.l1] at h⟩
 | k + 1 => by
  obtain ⟨ih0, ih1, ih2⟩ := spec_EndsAt.mono_l k
  refine ⟨?_, ?_, ?_⟩
  ·intro y0 y1 y2 y3 y4
   unfold spec_EndsAt.j0
   repeat' first
   | (with_reducible exact ih0 _ _ _ _ _)
   | (with_reducible exact ih1 _ _ _ _ _)
   | (with_reducible exact ih2 _ _ _)
   | (with_reducible exact spec_LoopOf.mono _ _ _ _)
   | (with_reducible exact spec_l3Step.mono _ _ _ _)
   | (with_reducible exact LeO.refl _)
   | (with_reducible exact LeO.none _)
   | (with_reducible refine LeO.ite ?_ ?_)
   | (with_reducible refine LeO.bind ?_ (fun _ => ?_))
   | exact ih0 _ _ _ _ _
   | exact ih1 _ _ _ _ _
   | exact ih2 _ _ _
   | exact spec_LoopOf.mono _ _ _ _
   | exact spec_l3Step.mono _ _ _ _
   | exact LeO.none _
   | refine LeO.ite ?_ ?_
   | refine LeO.bind ?_ (fun _ => ?_)
  ·intro y0 y1 y2 y3 y4
   unfold spec_EndsAt.l0
   repeat' first
   | (with_reducible exact ih0 _ _ _ _ _)
   | (with_reducible exact ih1 _ _ _ _ _)
   | (with_reducible exact ih2 _ _ _)
   | (with_reducible exact spec_LoopOf.mono _ _ _ _)
   | (with_reducible exact spec_l3Step.mono _ _ _ _)
   | (with_reducible exact LeO.refl _)
   | (with_reducible exact LeO.none _)
   | (with_reducible refine LeO.ite ?_ ?_)
   | (with_reducible refine LeO.bind ?_ (fun _ => ?_))
   | exact ih0 _ _ _ _ _
   | exact ih1 _ _ _ _ _
   | exact ih2 _ _ _
   | exact spec_LoopOf.mono _ _ _ _
   | exact spec_l3Step.mono _ _ _ _
   | exact LeO.none _
   | refine LeO.ite ?_ ?_
   | refine LeO.bind ?_ (fun _ => ?_)
  ·intro y0 y1 y2
   unfold spec_EndsAt.l1
   repeat' first
   | (with_reducible exact ih0 _ _ _ _ _)
   | (with_reducible exact ih1 _ _ _ _ _)
   | (with_reducible exact ih2 _ _ _)
   | (with_reducible exact spec_LoopOf.mono _ _ _ _)
   | (with_reducible exact spec_l3Step.mono _ _ _ _)
   | (with_reducible exact LeO.refl _)
   | (with_reducible exact LeO.none _)
   | (with_reducible refine LeO.ite ?_ ?_)
   | (with_reducible refine LeO.bind ?_ (fun _ => ?_))
   | exact ih0 _ _ _ _ _
   | exact ih1 _ _ _ _ _
   | exact ih2 _ _ _
   | exact spec_LoopOf.mono _ _ _ _
   | exact spec_l3Step.mono _ _ _ _
   | exact LeO.none _
   | refine LeO.ite ?_ ?_
   | refine LeO.bind ?_ (fun _ => ?_)
theorem spec_EndsAt.mono : ∀ a0 a1 a2 k, LeO (spec_EndsAt.f k a0 a1 a2) (spec_EndsAt.f (k + 1) a0 a1 a2) := by
 intro a0 a1 a2 k
 obtain ⟨ih0, ih1, ih2⟩ := spec_EndsAt.mono_l k
 unfold spec_EndsAt.f
 repeat' first
   | (with_reducible exact ih0 _ _ _ _ _)
   | (with_reducible exact ih1 _ _ _ _ _)
   | (with_reducible exact ih2 _ _ _)
   | (with_reducible exact spec_LoopOf.mono _ _ _ _)
   | (with_reducible exact spec_l3Step.mono _ _ _ _)
   | (with_reducible exact LeO.refl _)
   | (with_reducible exact LeO.none _)
   | (with_reducible refine LeO.ite ?_ ?_)
   | (with_reducible refine LeO.bind ?_ (fun _ => ?_))
   | exact ih0 _ _ _ _ _
   | exact ih1 _ _ _ _ _
   | exact ih2 _ _ _
   | exact spec_LoopOf.mono _ _ _ _
   | exact spec_l3Step.mono _ _ _ _
   | exact LeO.none _
   | refine LeO.ite ?_ ?_
   | refine LeO.bind ?_ (fun _ => ?_)
set_option maxHeartbeats 8000000 in
set_option maxRecDepth 100000 in
theorem spec_EndsAt.calls (k : Nat) (A0 : Option Addr) (c0 : Nat) (l0 : List Int) (a1 : Int) (A2 : Option Addr) (c2 : Nat) (l2 : List Int) (r : Int) (w : World) (hr0 : Kd.C (Kd.int .i64) w A0 l0.length l0) (hc0 : l0.length ≤ c0) (hr2 : Kd.C (Kd.int .i64) w A2 l2.length l2) (hc2 : l2.length ≤ c2) (h : spec_EndsAt.f k l0 a1 l2 = some r) :
  Calls Try.prog 65 #[.slice A0 l0.length c0, .int .i64 a1, .slice A2 l2.length c2] w fun e w' => e = .returned (.int .i64 r) ∧ Below w.heap.size w w' := by
 have HR0 := Aside0.mk hr0
 have HC0 := Aside0.mk hc0
 clear hr0 hc0
 have HR2 := Aside0.mk hr2
 have HC2 := Aside0.mk hc2
 clear hr2 hc2
 have HB := Aside0.mk (Below.refl w.heap.size w)
 have H : ((spec_LoopOf.f k l0 a1 l2).bind fun bt351 => (if bt351.1 < 0 then (spec_EndsAt.j0 k l0 a1 l2 bt351.1 true) else (spec_EndsAt.j0 k l0 a1 l2 bt351.1 (decide (bt351.2 > 1))))) = some r := h
 clear h
 replace H := Option.bind_eq_some_iff.mp H
 obtain ⟨⟨t351, t352⟩, A40, H⟩ := H
 replace H : (if t351 < 0 then (spec_EndsAt.j0 k l0 a1 l2 t351 true) else (spec_EndsAt.j0 k l0 a1 l2 t351 (decide (t352 > 1)))) = some r := H
 have A4 := Aside0.mk A40
 clear A40
 have HC5 := Aside0.mk H
 clear H
 go_enter Try.func65, Try.ntmps65
 go_upto_region 2 with (first | ((with_reducible refine gate_callee (f := 62) rfl ?_); refine goesL_ (some 16) rfl rfl Try.func62 (by kernel_rfl) rfl #[.slice A0 l0.length c0, .int .i64 a1, .slice A2 l2.length c2] rfl zA ?_; (with_reducible refine (spec_LoopOf.calls k _ _ l0 a1 _ _ l2 t351 t352 _ ?side1 ?side2 ?side3 ?side4 A4.out).mono ?_); (case side1 => exact zC HR0.out); (case side2 => exact HC0.out); (case side3 => exact zC HR2.out); (case side4 => exact HC2.out); rintro e w6 ⟨rfl, hb⟩; refine ⟨_, rfl, ?_⟩; have n0_ := Aside0.mk (below_step (zB HB.out) hb); clear HB; have HB := n0_; clear n0_; (try clear hb); (try clear hb2); (try clear hk); (try clear hi)))
 (try simp only [Act.put, List.setIfInBounds_toArray, List.set_cons_zero, List.set_cons_succ])
 go_cut [24] (fun v24 wc => ∃ (kq : Nat) (x24_4 : Bool), v24 = .bool x24_4 ∧ Aside0 (spec_EndsAt.j0 kq l0 a1 l2 t351 x24_4 = some r) ∧ Aside0 (kq ≤ k) ∧ Aside0 (Below w.heap.size w wc))
 case first =>
  have H := HC5.out
  clear HC5
  by_cases c7 : t351 < 0
  ·rw [if_pos c7] at H
   have c7b0 : decide (t351 < 0) = true := decide_eq_true c7
   clear c7
   (first | rw [c7b0] | (simp only [i64_w, i32_w]; rw [c7b0]) | skip)
   have H' := Aside0.mk H
   clear H
   go_wp2
   go_meet
   case rel => exact ⟨_, (true), (by first | rfl | (simp; done) | (simp [*]; done)), H', ⟨by first | omega | exact Nat.le_refl _⟩, ⟨zB HB.out⟩⟩
  ·rw [if_neg c7] at H
   have c7b0 : decide (t351 < 0) = false := decide_eq_false c7
   clear c7
   (first | rw [c7b0] | (simp only [i64_w, i32_w]; rw [c7b0]) | skip)
   have H' := Aside0.mk H
   clear H
   go_wp2
   go_meet
   case rel => exact ⟨_, (decide (t352 > 1)), (by first | rfl | (simp; done) | (simp [*]; done)), H', ⟨by first | omega | exact Nat.le_refl _⟩, ⟨zB HB.out⟩⟩
 case rest =>
  clear HC5
  try clear c2
  try clear p2
  try clear c6
  try clear c7
  try clear c7b0
  obtain ⟨kq, x24_4, rfl, HA, HJ4, HB⟩ := hcut
  cases kq with
  | zero => exact absurd HA.out (by simp [spec_EndsAt.j0])
  | succ kj4 =>
   have H := HA.out
   clear HA
   simp only [spec_EndsAt.j0] at H
   by_cases c8 : x24_4 = true
   ·subst c8
    have H1 : (some (-1)) = some r := by rw [if_pos rfl] at H; exact H
    clear H
    have H := H1
    clear H1
    obtain rfl := Option.some.inj H
    go_wp2
    go_ret
    exact ⟨by first | rfl | (simp [errW_none, errW_some] <;> rfl) | (simp [*, errW_none, errW_some] <;> rfl), zB HB.out⟩
   ·replace c8 := Bool.eq_false_iff.mpr c8
    subst c8
    have H1 : ((some (([] : List Int) : List Int)).bind fun y353 => (if y353.length + l2.length < 17592186044416 then (spec_EndsAt.l0 kj4 l0 a1 t351 (y353 ++ l2) 0) else (none))) = some r := by rw [if_neg (show ¬ (false = true) by decide)] at H; exact H
    clear H
    have H := H1
    clear H1
    obtain ⟨y353, hy353⟩ : ∃ y_ : List Int, y_ = (([] : List Int)) := ⟨_, rfl⟩
    replace H : (if y353.length + l2.length < 17592186044416 then (spec_EndsAt.l0 kj4 l0 a1 t351 (y353 ++ l2) 0) else (none)) = some r := by first | (rw [hy353]; with_reducible exact H) | (have H2_ := (Option.bind_some _ _).symm.trans H; rw [hy353]; with_reducible exact H2_) | (have H2_ := (Option.bind_some _ _).symm.trans H; with_reducible exact H2_) | with_reducible exact H | (rw [hy353]; exact H) | exact H
    have Ny353 := Aside0.mk hy353
    clear hy353
    by_cases c9 : y353.length + l2.length < 17592186044416
    ·rw [if_pos c9] at H
     have LMc9 := Aside0.mk c9
     clear c9
     obtain ⟨y356, hy356⟩ : ∃ y_ : List Int, y_ = (y353 ++ l2) := ⟨_, rfl⟩
     replace H : (spec_EndsAt.l0 kj4 l0 a1 t351 y356 0) = some r := by first | (rw [hy356]; with_reducible exact H) | (have H2_ := (Option.bind_some _ _).symm.trans H; rw [hy356]; with_reducible exact H2_) | (have H2_ := (Option.bind_some _ _).symm.trans H; with_reducible exact H2_) | with_reducible exact H | (rw [hy356]; exact H) | exact H
     have Ny356 := Aside0.mk hy356
     clear hy356
     have H' := Aside0.mk H
     clear H
     go_wp2_with (first | ((with_reducible refine gate_dst (N := 25) rfl ?_); refine Kd.R_lit (Kd.int .i64) _ 3 ?hg (N := 25) ?hd (xs := ([] : List Int)) (inner := []) (ok := fun _ => True) (okp := fun _ => True) ?hr ?hp (fun _ hk => hk) trivial (Below.refl _ _) (Nat.le_refl _) (by simp) ?_; (case hd => rfl); (case hg => rfl); (case hr => first | (go_simp; done) | (go_simp; rfl)); (case hp => exact (Reps.none _ _)); intro v354 w10 ho11 hb hg_ hnew_; clear hg_ hnew_; (first | rw [← Ny353.out] at ho11 | (simp only [Int.reduceToNat] at ho11; rw [← Ny353.out] at ho11)); have n0_ := Aside0.mk (Kd.R_lower ho11 (below_size (zB HB.out))); have n1_ := Aside0.mk (below_step (zB HB.out) hb); clear HB; have HO355 := n0_; have HB := n1_; clear n0_ n1_; clear hb ho11) | ((with_reducible refine gate_builtin (b := .append) (xs := #[.tmp 25, .tmp 26]) rfl ?_); at_builtin; refine Kd.R_append_rows (Kd.int .i64) (w0 := w) w.heap.size rfl (.tmp 25) (.tmp 26) 22 3 (.int .i64 0) 8 rfl Try.underlying22 info3 rfl (by decide) (by omega) v354 y353 l2 _ _ _ (fun _ => True) (fun _ => False) rfl rfl ?aO ?aR (fun _ _ h => h) (fun _ h => h.elim) ?aF ?aB ?aS ?aL ?_; (case aR => exact zC (Kd.C_below HR2.out HB.out)); (case aB => exact (zB HB.out)); (case aF => exact (fun _ _ => trivial)); (case aO => exact (zR HO355.out)); (case aS => exact (below_size (zB HB.out))); (case aL => have := LMc9.out; omega); intro v357 w12 ho hb hg hat; rw [← Ny356.out] at ho; have n0_ := Aside0.mk (hb); have n1_ := Aside0.mk (ho); clear HB; clear HO355; have HB := n0_; have HO358 := n1_; clear n0_ n1_; clear ho hb hg hat))
     go_loopg [9, 10] kj4 (fun kq v9 v10 w' => ∃ (x9_2 : List Int) (x10_2 : Int), v10 = .int .i64 x10_2 ∧ Aside0 (spec_EndsAt.l0 kq l0 a1 t351 x9_2 x10_2 = some r) ∧ Aside0 (kq ≤ kj4) ∧ Aside0 (Kd.R (Kd.int .i64) 3 w' w.heap.size (fun _ => True) v9 x9_2) ∧ Aside0 (Below w.heap.size w w'))
     case atStart => exact ⟨(y356), (0), (by first | rfl | (simp; done) | (simp [*]; done)), H', ⟨Nat.le_refl _⟩, ⟨by (with_reducible repeat (first | apply Kd.R_alloc | apply Kd.R_drewN | apply Kd.R_drew)); exact HO358.out⟩, ⟨zB HB.out⟩⟩
     case round =>
      clear H'
      try clear c2
      try clear p2
      try clear c6
      try clear c7
      try clear c7b0
      try clear c8
      try clear c9
      try clear p2
      obtain ⟨x9_2, x10_2, rfl, HA, HK2, HO_9, HB⟩ := hrel
      cases gk with
      | zero => exact absurd HA.out (by simp [spec_EndsAt.l0])
      | succ k2 =>
       have H := HA.out
       clear HA
       simp only [spec_EndsAt.l0] at H
       by_cases c13 : x10_2 < t351
       ·rw [if_pos c13] at H
        have c13b0 : decide (x10_2 < t351) = true := decide_eq_true c13
        clear c13
        replace H := Option.bind_eq_some_iff.mp H
        obtain ⟨t359, A140, H⟩ := H
        replace H : (spec_EndsAt.l0 k2 l0 a1 t351 t359 (wrap64 (x10_2 + 1))) = some r := H
        have A14 := Aside0.mk A140
        clear A140
        have H' := Aside0.mk H
        clear H
        obtain ⟨Ao15, co15, eo15⟩ := Kd.R_slice HO_9.out
        subst eo15
        go_wp2_with (first | ((with_reducible refine gate_callee (f := 48) rfl ?_); refine goesL_ (some 36) rfl rfl Try.func48 (by kernel_rfl) rfl #[.slice A0 l0.length c0, .int .i64 a1, .slice Ao15 x9_2.length co15] rfl zA ?_; (with_reducible refine (spec_l3Step.calls k2 _ _ l0 a1 _ _ x9_2 t359 _ ?side1 ?side2 ?side3 ?side4 A14.out).mono ?_); (case side1 => exact zC (Kd.C_below HR0.out HB.out)); (case side2 => exact HC0.out); (case side3 => exact zC (Kd.R_reads' HO_9.out).2.2); (case side4 => exact (Kd.R_reads' HO_9.out).2.1); rintro e w16 ⟨v360, rfl, ho0, hb⟩; refine ⟨_, rfl, ?_⟩; have n0_ := Aside0.mk (Kd.R_elder' (zR HO_9.out) (Kd.R_base ho0) hb); have n1_ := Aside0.mk (Kd.R_lower (Kd.R_new' ho0 (Kd.R_lt (zR HO_9.out))) (below_size (zB HB.out))); have n2_ := Aside0.mk (below_step (zB HB.out) hb); clear HO_9; clear HB; have HO_9 := n0_; have HO361 := n1_; have HB := n2_; clear n0_ n1_ n2_; (try clear hb); (try clear hb2); (try clear hk); (try clear hi); (try clear ho0)))
        go_roundg k2
        case measure => have := HJ4.out; have := HK2.out; omega
        case rel => exact ⟨(t359), (wrap64 (x10_2 + 1)), (by first | rfl | (simp; done) | (simp [*]; done)), H', ⟨by have := HJ4.out; have := HK2.out; omega⟩, ⟨by (with_reducible repeat (first | apply Kd.R_alloc | apply Kd.R_drewN | apply Kd.R_drew)); exact Kd.R_mono HO361.out (fun _ hk => trivial)⟩, ⟨zB HB.out⟩⟩
       ·rw [if_neg c13] at H
        have c13b0 : decide (x10_2 < t351) = false := decide_eq_false c13
        clear c13
        have H' := Aside0.mk H
        clear H
        go_wp2
        go_loopg [11] k2 (fun kq v11 w' => ∃ (x11_3 : Int), v11 = .int .i64 x11_3 ∧ Aside0 (spec_EndsAt.l1 kq t351 x9_2 x11_3 = some r) ∧ Aside0 (kq ≤ k2) ∧ Aside0 (Kd.R (Kd.int .i64) 3 w' w.heap.size (fun _ => True) u9 x9_2) ∧ Aside0 (Below w.heap.size w w'))
        case atStart => exact ⟨(0), (by first | rfl | (simp; done) | (simp [*]; done)), H', ⟨Nat.le_refl _⟩, ⟨by (with_reducible repeat (first | apply Kd.R_alloc | apply Kd.R_drewN | apply Kd.R_drew)); exact HO_9.out⟩, ⟨zB HB.out⟩⟩
        case round =>
         clear H'
         try clear c1
         try clear c2
         try clear p2
         try clear c4
         try clear c6
         try clear p6
         try clear c7
         try clear c7b0
         try clear c8
         try clear c9
         try clear c13
         try clear c13b0
         try clear p2
         obtain ⟨x11_3, rfl, HA, HK3, HO_9, HB⟩ := hrel
         cases gk with
         | zero => exact absurd HA.out (by simp [spec_EndsAt.l1])
         | succ k3 =>
          have H := HA.out
          clear HA
          simp only [spec_EndsAt.l1] at H
          by_cases c17 : x11_3 < (x9_2.length : Int)
          ·rw [if_pos c17] at H
           have c17b0 : decide (x11_3 < (x9_2.length : Int)) = true := decide_eq_true c17
           clear c17
           by_cases c18 : 0 ≤ x11_3
           ·rw [if_pos c18] at H
            have c18b0 : decide (0 ≤ x11_3) = true := decide_eq_true c18
            clear c18
            by_cases c19 : (rd x9_2 x11_3) = 0
            ·rw [if_pos c19] at H
             have c19b0 : ((rd x9_2 x11_3) == 0) = true := beq_iff_eq.mpr c19
             have c19b1 : ((rd x9_2 x11_3) != 0) = false := bne_eq_false_iff_eq.mpr c19
             clear c19
             have H' := Aside0.mk H
             clear H
             obtain ⟨Ao20, co20, eo20⟩ := Kd.R_slice HO_9.out
             subst eo20
             have p362 : 0 ≤ (x11_3 : Int) := zD
             have q362 : x11_3 < (x9_2.length : Int) := zD
             obtain ⟨ad362, e362, hx362_0⟩ := Kd.at_int (Kd.R_reads' HO_9.out).2.2 x11_3 p362 q362
             cases e362
             replace p362 := eq_true p362
             replace q362 := eq_true q362
             go_wp2
             go_roundg k3
             case measure => have := HJ4.out; have := HK2.out; have := HK3.out; omega
             case rel => exact ⟨(wrap64 (x11_3 + 1)), (by first | rfl | (simp; done) | (simp [*]; done)), H', ⟨by have := HJ4.out; have := HK2.out; have := HK3.out; omega⟩, ⟨by (with_reducible repeat (first | apply Kd.R_alloc | apply Kd.R_drewN | apply Kd.R_drew)); exact HO_9.out⟩, ⟨zB HB.out⟩⟩
            ·rw [if_neg c19] at H
             have c19b0 : ((rd x9_2 x11_3) == 0) = false := beq_eq_false_iff_ne.mpr c19
             have c19b1 : ((rd x9_2 x11_3) != 0) = true := bne_iff_ne.mpr c19
             obtain rfl := Option.some.inj H
             obtain ⟨Ao21, co21, eo21⟩ := Kd.R_slice HO_9.out
             subst eo21
             have p362 : 0 ≤ (x11_3 : Int) := zD
             have q362 : x11_3 < (x9_2.length : Int) := zD
             obtain ⟨ad362, e362, hx362_0⟩ := Kd.at_int (Kd.R_reads' HO_9.out).2.2 x11_3 p362 q362
             cases e362
             replace p362 := eq_true p362
             replace q362 := eq_true q362
             go_wp2
             go_ret
             exact ⟨by first | rfl | (simp [errW_none, errW_some] <;> rfl) | (simp [*, errW_none, errW_some] <;> rfl), zB HB.out⟩
           ·rw [if_neg c18] at H
            exact absurd H (by simp)
          ·rw [if_neg c17] at H
           have c17b0 : decide (x11_3 < (x9_2.length : Int)) = false := decide_eq_false c17
           clear c17
           obtain rfl := Option.some.inj H
           obtain ⟨Ao22, co22, eo22⟩ := Kd.R_slice HO_9.out
           subst eo22
           go_wp2
           go_ret
           exact ⟨by first | rfl | (simp [errW_none, errW_some] <;> rfl) | (simp [*, errW_none, errW_some] <;> rfl), zB HB.out⟩
    ·rw [if_neg c9] at H
     exact absurd H (by simp)

/-! ### spec_DyingCount: function 25 -/
def spec_DyingCount.l0 : Nat → List Int → Int → Int → Int → Option (Int)
 | 0, _, _, _, _ => none
 | k + 1, x0, x1, x5, x6 => (spec_l2Power.f k (x0.length : Int) x1).bind fun t364 => (if x6 < t364 then ((spec_l2State.f k (x0.length : Int) x1 x6).bind fun t365 => ((spec_EndsAt.f k x0 x1 t365).bind fun t368 => (if t368 ≥ 0 then (spec_DyingCount.l0 k x0 x1 (wrap64 (x5 + 1)) (wrap64 (x6 + 1))) else (spec_DyingCount.l0 k x0 x1 x5 (wrap64 (x6 + 1)))))) else (some x5))
def spec_DyingCount.f (k : Nat) (l0 : List Int) (a1 : Int) : Option (Int) := (spec_l11Ok.f k l0 a1).bind fun t363 => (if t363 = true then (spec_DyingCount.l0 k l0 a1 0 0) else (some (-1)))
theorem spec_DyingCount.mono_l : ∀ k, (∀ y0 y1 y2 y3, LeO (spec_DyingCount.l0 k y0 y1 y2 y3) (spec_DyingCount.l0 (k + 1) y0 y1 y2 y3))
 | 0 => fun _ _ _ _ r h => by simp [spec_DyingCount.l0] at h
 | k + 1 => by
  have ih0 := spec_DyingCount.mono_l k
  ·intro y0 y1 y2 y3
   unfold spec_DyingCount.l0
   repeat' first
   | (with_reducible exact ih0 _ _ _ _)
   | (with_reducible exact spec_EndsAt.mono _ _ _ _)
   | (with_reducible exact spec_l11Ok.mono _ _ _)
   | (with_reducible exact spec_l2Power.mono _ _ _)
   | (with_reducible exact spec_l2State.mono _ _ _ _)
   | (with_reducible exact LeO.refl _)
   | (with_reducible exact LeO.none _)
   | (with_reducible refine LeO.ite ?_ ?_)
   | (with_reducible refine LeO.bind ?_ (fun _ => ?_))
   | exact ih0 _ _ _ _
   | exact spec_EndsAt.mono _ _ _ _
   | exact spec_l11Ok.mono _ _ _
   | exact spec_l2Power.mono _ _ _
   | exact spec_l2State.mono _ _ _ _
   | exact LeO.none _
   | refine LeO.ite ?_ ?_
   | refine LeO.bind ?_ (fun _ => ?_)
theorem spec_DyingCount.mono : ∀ a0 a1 k, LeO (spec_DyingCount.f k a0 a1) (spec_DyingCount.f (k + 1) a0 a1) := by
 intro a0 a1 k
 have ih0 := spec_DyingCount.mono_l k
 unfold spec_DyingCount.f
 repeat' first
   | (with_reducible exact ih0 _ _ _ _)
   | (with_reducible exact spec_EndsAt.mono _ _ _ _)
   | (with_reducible exact spec_l11Ok.mono _ _ _)
   | (with_reducible exact spec_l2Power.mono _ _ _)
   | (with_reducible exact spec_l2State.mono _ _ _ _)
   | (with_reducible exact LeO.refl _)
   | (with_reducible exact LeO.none _)
   | (with_reducible refine LeO.ite ?_ ?_)
   | (with_reducible refine LeO.bind ?_ (fun _ => ?_))
   | exact ih0 _ _ _ _
   | exact spec_EndsAt.mono _ _ _ _
   | exact spec_l11Ok.mono _ _ _
   | exact spec_l2Power.mono _ _ _
   | exact spec_l2State.mono _ _ _ _
   | exact LeO.none _
   | refine LeO.ite ?_ ?_
   | refine LeO.bind ?_ (fun _ => ?_)
set_option maxHeartbeats 8000000 in
set_option maxRecDepth 100000 in
theorem spec_DyingCount.calls (k : Nat) (A0 : Option Addr) (c0 : Nat) (l0 : List Int) (a1 : Int) (r : Int) (w : World) (hr0 : Kd.C (Kd.int .i64) w A0 l0.length l0) (hc0 : l0.length ≤ c0) (h : spec_DyingCount.f k l0 a1 = some r) :
  Calls Try.prog 25 #[.slice A0 l0.length c0, .int .i64 a1] w fun e w' => e = .returned (.int .i64 r) ∧ Below w.heap.size w w' := by
 have HR0 := Aside0.mk hr0
 have HC0 := Aside0.mk hc0
 clear hr0 hc0
 have HB := Aside0.mk (Below.refl w.heap.size w)
 have H : ((spec_l11Ok.f k l0 a1).bind fun t363 => (if t363 = true then (spec_DyingCount.l0 k l0 a1 0 0) else (some (-1)))) = some r := h
 clear h
 replace H := Option.bind_eq_some_iff.mp H
 obtain ⟨t363, A30, H⟩ := H
 replace H : (if t363 = true then (spec_DyingCount.l0 k l0 a1 0 0) else (some (-1))) = some r := H
 have A3 := Aside0.mk A30
 clear A30
 by_cases c4 : t363 = true
 ·subst c4
  have H1 : (spec_DyingCount.l0 k l0 a1 0 0) = some r := by rw [if_pos rfl] at H; exact H
  clear H
  have H := H1
  clear H1
  have H' := Aside0.mk H
  clear H
  go_enter Try.func25, Try.ntmps25
  go_wp2_with (first | ((with_reducible refine gate_callee (f := 44) rfl ?_); refine goesL_ (some 9) rfl rfl Try.func44 (by kernel_rfl) rfl #[.slice A0 l0.length c0, .int .i64 a1] rfl zA ?_; (with_reducible refine (spec_l11Ok.calls k _ _ l0 a1 true _ ?side1 ?side2 A3.out).mono ?_); (case side1 => exact zC HR0.out); (case side2 => exact HC0.out); rintro e w' ⟨rfl, ⟨nd, rfl⟩⟩; refine ⟨_, rfl, ?_⟩))
  go_loopg [5, 6] k (fun kq v5 v6 w' => ∃ (x5_1 : Int) (x6_1 : Int), v5 = .int .i64 x5_1 ∧ v6 = .int .i64 x6_1 ∧ Aside0 (spec_DyingCount.l0 kq l0 a1 x5_1 x6_1 = some r) ∧ Aside0 (kq ≤ k) ∧ Aside0 (Below w.heap.size w w'))
  case atStart => exact ⟨(0), (0), (by first | rfl | (simp; done) | (simp [*]; done)), (by first | rfl | (simp; done) | (simp [*]; done)), H', ⟨Nat.le_refl _⟩, ⟨zB HB.out⟩⟩
  case round =>
   clear H'
   try clear c2
   try clear p2
   try clear c4
   obtain ⟨x5_1, x6_1, rfl, rfl, HA, HK1, HB⟩ := hrel
   cases gk with
   | zero => exact absurd HA.out (by simp [spec_DyingCount.l0])
   | succ k1 =>
    have H := HA.out
    clear HA
    simp only [spec_DyingCount.l0] at H
    replace H := Option.bind_eq_some_iff.mp H
    obtain ⟨t364, A50, H⟩ := H
    replace H : (if x6_1 < t364 then ((spec_l2State.f k1 (l0.length : Int) a1 x6_1).bind fun t365 => ((spec_EndsAt.f k1 l0 a1 t365).bind fun t368 => (if t368 ≥ 0 then (spec_DyingCount.l0 k1 l0 a1 (wrap64 (x5_1 + 1)) (wrap64 (x6_1 + 1))) else (spec_DyingCount.l0 k1 l0 a1 x5_1 (wrap64 (x6_1 + 1)))))) else (some x5_1)) = some r := H
    have A5 := Aside0.mk A50
    clear A50
    by_cases c6 : x6_1 < t364
    ·rw [if_pos c6] at H
     have c6b0 : decide (x6_1 < t364) = true := decide_eq_true c6
     clear c6
     replace H := Option.bind_eq_some_iff.mp H
     obtain ⟨t365, A70, H⟩ := H
     replace H : ((spec_EndsAt.f k1 l0 a1 t365).bind fun t368 => (if t368 ≥ 0 then (spec_DyingCount.l0 k1 l0 a1 (wrap64 (x5_1 + 1)) (wrap64 (x6_1 + 1))) else (spec_DyingCount.l0 k1 l0 a1 x5_1 (wrap64 (x6_1 + 1))))) = some r := H
     have A7 := Aside0.mk A70
     clear A70
     replace H := Option.bind_eq_some_iff.mp H
     obtain ⟨t368, A80, H⟩ := H
     replace H : (if t368 ≥ 0 then (spec_DyingCount.l0 k1 l0 a1 (wrap64 (x5_1 + 1)) (wrap64 (x6_1 + 1))) else (spec_DyingCount.l0 k1 l0 a1 x5_1 (wrap64 (x6_1 + 1)))) = some r := H
     have A8 := Aside0.mk A80
     clear A80
     by_cases c9 : t368 ≥ 0
     ·rw [if_pos c9] at H
      have c9b0 : decide (0 ≤ t368) = true := decide_eq_true c9
      clear c9
      have H' := Aside0.mk H
      clear H
      go_wp2_with (first | ((with_reducible refine gate_callee (f := 46) rfl ?_); refine goesL_ (some 15) rfl rfl Try.func46 (by kernel_rfl) rfl #[.int .i64 (l0.length : Int), .int .i64 a1] rfl zA ?_; (with_reducible refine (spec_l2Power.calls k1 (l0.length : Int) a1 t364 _ A5.out).mono ?_); rintro e w' ⟨rfl, ⟨nd, rfl⟩⟩; refine ⟨_, rfl, ?_⟩) | ((with_reducible refine gate_callee (f := 49) rfl ?_); refine goesL_ (some 25) rfl rfl Try.func49 (by kernel_rfl) rfl #[.int .i64 (l0.length : Int), .int .i64 a1, .int .i64 x6_1] rfl zA ?_; (with_reducible refine (spec_l2State.calls k1 (l0.length : Int) a1 x6_1 t365 _ A7.out).mono ?_); rintro e w10 ⟨v366, rfl, ho0, hb⟩; refine ⟨_, rfl, ?_⟩; have n0_ := Aside0.mk (Kd.R_lower ho0 (below_size (zB HB.out))); have n1_ := Aside0.mk (below_step (zB HB.out) hb); clear HB; have HO367 := n0_; have HB := n1_; clear n0_ n1_; (try clear hb); (try clear hb2); (try clear hk); (try clear hi); (try clear ho0); obtain ⟨Ao11, co11, eo11⟩ := Kd.R_slice HO367.out; subst eo11) | ((with_reducible refine gate_callee (f := 65) rfl ?_); refine goesL_ (some 26) rfl rfl Try.func65 (by kernel_rfl) rfl #[.slice A0 l0.length c0, .int .i64 a1, .slice Ao11 t365.length co11] rfl zA ?_; (with_reducible refine (spec_EndsAt.calls k1 _ _ l0 a1 _ _ t365 t368 _ ?side1 ?side2 ?side3 ?side4 A8.out).mono ?_); (case side1 => exact zC (Kd.C_below HR0.out HB.out)); (case side2 => exact HC0.out); (case side3 => exact zC (Kd.R_reads' HO367.out).2.2); (case side4 => exact (Kd.R_reads' HO367.out).2.1); rintro e w12 ⟨rfl, hb⟩; refine ⟨_, rfl, ?_⟩; have n0_ := Aside0.mk (Kd.R_below (zR HO367.out) hb); have n1_ := Aside0.mk (below_step (zB HB.out) hb); clear HO367; clear HB; have HO367 := n0_; have HB := n1_; clear n0_ n1_; (try clear hb); (try clear hb2); (try clear hk); (try clear hi)))
      go_roundg k1
      case measure => have := HK1.out; omega
      case rel => exact ⟨(wrap64 (x5_1 + 1)), (wrap64 (x6_1 + 1)), (by first | rfl | (simp; done) | (simp [*]; done)), (by first | rfl | (simp; done) | (simp [*]; done)), H', ⟨by have := HK1.out; omega⟩, ⟨zB HB.out⟩⟩
     ·rw [if_neg c9] at H
      have c9b0 : decide (0 ≤ t368) = false := decide_eq_false c9
      clear c9
      have H' := Aside0.mk H
      clear H
      go_wp2_with (first | ((with_reducible refine gate_callee (f := 46) rfl ?_); refine goesL_ (some 15) rfl rfl Try.func46 (by kernel_rfl) rfl #[.int .i64 (l0.length : Int), .int .i64 a1] rfl zA ?_; (with_reducible refine (spec_l2Power.calls k1 (l0.length : Int) a1 t364 _ A5.out).mono ?_); rintro e w' ⟨rfl, ⟨nd, rfl⟩⟩; refine ⟨_, rfl, ?_⟩) | ((with_reducible refine gate_callee (f := 49) rfl ?_); refine goesL_ (some 25) rfl rfl Try.func49 (by kernel_rfl) rfl #[.int .i64 (l0.length : Int), .int .i64 a1, .int .i64 x6_1] rfl zA ?_; (with_reducible refine (spec_l2State.calls k1 (l0.length : Int) a1 x6_1 t365 _ A7.out).mono ?_); rintro e w13 ⟨v366, rfl, ho0, hb⟩; refine ⟨_, rfl, ?_⟩; have n0_ := Aside0.mk (Kd.R_lower ho0 (below_size (zB HB.out))); have n1_ := Aside0.mk (below_step (zB HB.out) hb); clear HB; have HO367 := n0_; have HB := n1_; clear n0_ n1_; (try clear hb); (try clear hb2); (try clear hk); (try clear hi); (try clear ho0); obtain ⟨Ao14, co14, eo14⟩ := Kd.R_slice HO367.out; subst eo14) | ((with_reducible refine gate_callee (f := 65) rfl ?_); refine goesL_ (some 26) rfl rfl Try.func65 (by kernel_rfl) rfl #[.slice A0 l0.length c0, .int .i64 a1, .slice Ao14 t365.length co14] rfl zA ?_; (with_reducible refine (spec_EndsAt.calls k1 _ _ l0 a1 _ _ t365 t368 _ ?side1 ?side2 ?side3 ?side4 A8.out).mono ?_); (case side1 => exact zC (Kd.C_below HR0.out HB.out)); (case side2 => exact HC0.out); (case side3 => exact zC (Kd.R_reads' HO367.out).2.2); (case side4 => exact (Kd.R_reads' HO367.out).2.1); rintro e w15 ⟨rfl, hb⟩; refine ⟨_, rfl, ?_⟩; have n0_ := Aside0.mk (Kd.R_below (zR HO367.out) hb); have n1_ := Aside0.mk (below_step (zB HB.out) hb); clear HO367; clear HB; have HO367 := n0_; have HB := n1_; clear n0_ n1_; (try clear hb); (try clear hb2); (try clear hk); (try clear hi)))
      go_roundg k1
      case measure => have := HK1.out; omega
      case rel => exact ⟨(x5_1), (wrap64 (x6_1 + 1)), (by first | rfl | (simp; done) | (simp [*]; done)), (by first | rfl | (simp; done) | (simp [*]; done)), H', ⟨by have := HK1.out; omega⟩, ⟨zB HB.out⟩⟩
    ·rw [if_neg c6] at H
     have c6b0 : decide (x6_1 < t364) = false := decide_eq_false c6
     clear c6
     obtain rfl := Option.some.inj H
     go_wp2_with (first | ((with_reducible refine gate_callee (f := 46) rfl ?_); refine goesL_ (some 15) rfl rfl Try.func46 (by kernel_rfl) rfl #[.int .i64 (l0.length : Int), .int .i64 a1] rfl zA ?_; (with_reducible refine (spec_l2Power.calls k1 (l0.length : Int) a1 t364 _ A5.out).mono ?_); rintro e w' ⟨rfl, ⟨nd, rfl⟩⟩; refine ⟨_, rfl, ?_⟩))
     go_ret
     exact ⟨by first | rfl | (simp [errW_none, errW_some] <;> rfl) | (simp [*, errW_none, errW_some] <;> rfl), zB HB.out⟩
 ·replace c4 := Bool.eq_false_iff.mpr c4
  subst c4
  have H1 : (some (-1)) = some r := by rw [if_neg (show ¬ (false = true) by decide)] at H; exact H
  clear H
  have H := H1
  clear H1
  obtain rfl := Option.some.inj H
  go_enter Try.func25, Try.ntmps25
  go_wp2_with (first | ((with_reducible refine gate_callee (f := 44) rfl ?_); refine goesL_ (some 9) rfl rfl Try.func44 (by kernel_rfl) rfl #[.slice A0 l0.length c0, .int .i64 a1] rfl zA ?_; (with_reducible refine (spec_l11Ok.calls k _ _ l0 a1 false _ ?side1 ?side2 A3.out).mono ?_); (case side1 => exact zC HR0.out); (case side2 => exact HC0.out); rintro e w' ⟨rfl, ⟨nd, rfl⟩⟩; refine ⟨_, rfl, ?_⟩))
  go_ret
  exact ⟨by first | rfl | (simp [errW_none, errW_some] <;> rfl) | (simp [*, errW_none, errW_some] <;> rfl), zB HB.out⟩

end Go.Proofs.Ytgglagpciojfmaa.PAll
