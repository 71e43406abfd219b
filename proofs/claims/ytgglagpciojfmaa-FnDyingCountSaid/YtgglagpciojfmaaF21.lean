/- Own text of this session, written by a program of this session (wip/t/own.py) out of what the kit tells of the functions: each Go function as a Lean function, and the walk through its code. -/
import Derived.Test.YtgglagpciojfmaaT
import Derived.Test.YtgglagpciojfmaaF2
import Derived.Test.YtgglagpciojfmaaF3
import Derived.Test.YtgglagpciojfmaaF4
namespace Go.Proofs.Ytgglagpciojfmaa.PAll
open Go.RowKit Go.Proofs.YtgglagpciojfmaaW.PrintWords Go.Proofs.YtgglagpciojfmaaW.PrintLast Go.Proofs.YtgglagpciojfmaaW.PrintMore
attribute [local go_sem] max2_int min2_int max_two min_two max_three min_three max_four min_four   -- for this text's walks alone
set_option linter.unusedVariables false
set_option linter.unusedSimpArgs false

/-! ### spec_LoopOf: function 62 -/
mutual
def spec_LoopOf.l0 : Nat → List Int → Int → List Int → List Int → List Int → Option (Int × Int)
 | 0, _, _, _, _, _ => none
 | k + 1, x0, x1, x2, x8, x9 => (spec_l3Same.f k x8 x9).bind fun t295 => (if t295 = true then ((some (([] : List Int) : List Int)).bind fun y305 => (if y305.length + x2.length < 17592186044416 then (spec_LoopOf.l1 k x0 x1 (y305 ++ x2) x9 0) else (none))) else ((spec_l3Step.f k x0 x1 x8).bind fun t296 => ((spec_l3Step.f k x0 x1 x9).bind fun t299 => ((spec_l3Step.f k x0 x1 t299).bind fun t302 => (spec_LoopOf.l0 k x0 x1 x2 t296 t302)))))
def spec_LoopOf.l1 : Nat → List Int → Int → List Int → List Int → Int → Option (Int × Int)
 | 0, _, _, _, _, _ => none
 | k + 1, x0, x1, x8, x9, x10 => (spec_l3Same.f k x8 x9).bind fun t311 => (if t311 = true then ((spec_l3Step.f k x0 x1 x8).bind fun t318 => (spec_LoopOf.l2 k x0 x1 x8 t318 x10 1)) else ((spec_l3Step.f k x0 x1 x8).bind fun t312 => ((spec_l3Step.f k x0 x1 x9).bind fun t315 => (spec_LoopOf.l1 k x0 x1 t312 t315 (wrap64 (x10 + 1))))))
def spec_LoopOf.l2 : Nat → List Int → Int → List Int → List Int → Int → Int → Option (Int × Int)
 | 0, _, _, _, _, _, _ => none
 | k + 1, x0, x1, x8, x9, x10, x11 => (spec_l3Same.f k x8 x9).bind fun t321 => (if t321 = true then (some (x10, x11)) else ((spec_l3Step.f k x0 x1 x9).bind fun t322 => (spec_LoopOf.l2 k x0 x1 x8 t322 x10 (wrap64 (x11 + 1)))))
end
def spec_LoopOf.f (k : Nat) (l0 : List Int) (a1 : Int) (l2 : List Int) : Option (Int × Int) := (spec_l3Ok.f k l0 a1 l2).bind fun t288 => (if t288 = true then ((spec_l3Step.f k l0 a1 l2).bind fun t289 => ((spec_l3Step.f k l0 a1 t289).bind fun t292 => (spec_LoopOf.l0 k l0 a1 l2 t289 t292))) else (some ((-1), (-1))))
theorem spec_LoopOf.mono_l : ∀ k, (∀ y0 y1 y2 y3 y4, LeO (spec_LoopOf.l0 k y0 y1 y2 y3 y4) (spec_LoopOf.l0 (k + 1) y0 y1 y2 y3 y4)) ∧ (∀ y0 y1 y2 y3 y4, LeO (spec_LoopOf.l1 k y0 y1 y2 y3 y4) (spec_LoopOf.l1 (k + 1) y0 y1 y2 y3 y4)) ∧ (∀ y0 y1 y2 y3 y4 y5, LeO (spec_LoopOf.l2 k y0 y1 y2 y3 y4 y5) (spec_LoopOf.l2 (k + 1) y0 y1 y2 y3 y4 y5))
 | 0 => ⟨fun _ _ _ _ _ r h => by simp [spec_LoopOf.l0] at h, fun _ _ _ _ _ r h => by simp [spec_LoopOf.l1] at h, fun _ _ _ _ _ _ r h => by simp [spec_LoopOf.l2] at h⟩
 | k + 1 => by
  obtain ⟨ih0, ih1, ih2⟩ := spec_LoopOf.mono_l k
  refine ⟨?_, ?_, ?_⟩
  ·intro y0 y1 y2 y3 y4
   unfold spec_LoopOf.l0
   repeat' first
   | (with_reducible exact ih0 _ _ _ _ _)
   | (with_reducible exact ih1 _ _ _ _ _)
   | (with_reducible exact ih2 _ _ _ _ _ _)
   | (with_reducible exact spec_l3Ok.mono _ _ _ _)
   | (with_reducible exact spec_l3Same.mono _ _ _)
   | (with_reducible exact spec_l3Step.mono _ _ _ _)
   | (with_reducible exact LeO.refl _)
   | (with_reducible exact LeO.none _)
   | (with_reducible refine LeO.ite ?_ ?_)
   | (with_reducible refine LeO.bind ?_ (fun _ => ?_))
   | exact ih0 _ _ _ _ _
   | exact ih1 _ _ _ _ _
   | exact ih2 _ _ _ _ _ _
   | exact spec_l3Ok.mono _ _ _ _
   | exact spec_l3Same.mono _ _ _
   | exact spec_l3Step.mono _ _ _ _
   | exact LeO.none _
   | refine LeO.ite ?_ ?_
   | refine LeO.bind ?_ (fun _ => ?_)
  ·intro y0 y1 y2 y3 y4
   unfold spec_LoopOf.l1
   repeat' first
   | (with_reducible exact ih0 _ _ _ _ _)
   | (with_reducible exact ih1 _ _ _ _ _)
   | (with_reducible exact ih2 _ _ _ _ _ _)
   | (with_reducible exact spec_l3Ok.mono _ _ _ _)
   | (with_reducible exact spec_l3Same.mono _ _ _)
   | (with_reducible exact spec_l3Step.mono _ _ _ _)
   | (with_reducible exact LeO.refl _)
   | (with_reducible exact LeO.none _)
   | (with_reducible refine LeO.ite ?_ ?_)
   | (with_reducible refine LeO.bind ?_ (fun _ => ?_))
   | exact ih0 _ _ _ _ _
   | exact ih1 _ _ _ _ _
   | exact ih2 _ _ _ _ _ _
   | exact spec_l3Ok.mono _ _ _ _
   | exact spec_l3Same.mono _ _ _
   | exact spec_l3Step.mono _ _ _ _
   | exact LeO.none _
   | refine LeO.ite ?_ ?_
   | refine LeO.bind ?_ (fun _ => ?_)
  ·intro y0 y1 y2 y3 y4 y5
   unfold spec_LoopOf.l2
   repeat' first
   | (with_reducible exact ih0 _ _ _ _ _)
   | (with_reducible exact ih1 _ _ _ _ _)
   | (with_reducible exact ih2 _ _ _ _ _ _)
   | (with_reducible exact spec_l3Ok.mono _ _ _ _)
   | (with_reducible exact spec_l3Same.mono _ _ _)
   | (with_reducible exact spec_l3Step.mono _ _ _ _)
   | (with_reducible exact LeO.refl _)
   | (with_reducible exact LeO.none _)
   | (with_reducible refine LeO.ite ?_ ?_)
   | (with_reducible refine LeO.bind ?_ (fun _ => ?_))
   | exact ih0 _ _ _ _ _
   | exact ih1 _ _ _ _ _
   | exact ih2 _ _ _ _ _ _
   | exact spec_l3Ok.mono _ _ _ _
   | exact spec_l3Same.mono _ _ _
   | exact spec_l3Step.mono _ _ _ _
   | exact LeO.none _
   | refine LeO.ite ?_ ?_
   | refine LeO.bind ?_ (fun _ => ?_)
theorem spec_LoopOf.mono : ∀ a0 a1 a2 k, LeO (spec_LoopOf.f k a0 a1 a2) (spec_LoopOf.f (k + 1) a0 a1 a2) := by
 intro a0 a1 a2 k
 obtain ⟨ih0, ih1, ih2⟩ := spec_LoopOf.mono_l k
 unfold spec_LoopOf.f
 repeat' first
   | (with_reducible exact ih0 _ _ _ _ _)
   | (with_reducible exact ih1 _ _ _ _ _)
   | (with_reducible exact ih2 _ _ _ _ _ _)
   | (with_reducible exact spec_l3Ok.mono _ _ _ _)
   | (with_reducible exact spec_l3Same.mono _ _ _)
   | (with_reducible exact spec_l3Step.mono _ _ _ _)
   | (with_reducible exact LeO.refl _)
   | (with_reducible exact LeO.none _)
   | (with_reducible refine LeO.ite ?_ ?_)
   | (with_reducible refine LeO.bind ?_ (fun _ => ?_))
   | exact ih0 _ _ _ _ _
   | exact ih1 _ _ _ _ _
   | exact ih2 _ _ _ _ _ _
   | exact spec_l3Ok.mono _ _ _ _
   | exact spec_l3Same.mono _ _ _
   | exact spec_l3Step.mono _ _ _ _
   | exact LeO.none _
   | refine LeO.ite ?_ ?_
   | refine LeO.bind ?_ (fun _ => ?_)
set_option maxHeartbeats 8000000 in
set_option maxRecDepth 100000 in
theorem spec_LoopOf.calls (k : Nat) (A0 : Option Addr) (c0 : Nat) (l0 : List Int) (a1 : Int) (A2 : Option Addr) (c2 : Nat) (l2 : List Int) (r1 : Int) (r2 : Int) (w : World) (hr0 : Kd.C (Kd.int .i64) w A0 l0.length l0) (hc0 : l0.length ≤ c0) (hr2 : Kd.C (Kd.int .i64) w A2 l2.length l2) (hc2 : l2.length ≤ c2) (h : spec_LoopOf.f k l0 a1 l2 = some (r1, r2)) :
  Calls Try.prog 62 #[.slice A0 l0.length c0, .int .i64 a1, .slice A2 l2.length c2] w fun e w' => e = .returned (.tuple #[.int .i64 r1, .int .i64 r2]) ∧ Below w.heap.size w w' := by
 have HR0 := Aside0.mk hr0
 have HC0 := Aside0.mk hc0
 clear hr0 hc0
 have HR2 := Aside0.mk hr2
 have HC2 := Aside0.mk hc2
 clear hr2 hc2
 have HB := Aside0.mk (Below.refl w.heap.size w)
 have H : ((spec_l3Ok.f k l0 a1 l2).bind fun t288 => (if t288 = true then ((spec_l3Step.f k l0 a1 l2).bind fun t289 => ((spec_l3Step.f k l0 a1 t289).bind fun t292 => (spec_LoopOf.l0 k l0 a1 l2 t289 t292))) else (some ((-1), (-1))))) = some (r1, r2) := h
 clear h
 replace H := Option.bind_eq_some_iff.mp H
 obtain ⟨t288, A40, H⟩ := H
 replace H : (if t288 = true then ((spec_l3Step.f k l0 a1 l2).bind fun t289 => ((spec_l3Step.f k l0 a1 t289).bind fun t292 => (spec_LoopOf.l0 k l0 a1 l2 t289 t292))) else (some ((-1), (-1)))) = some (r1, r2) := H
 have A4 := Aside0.mk A40
 clear A40
 by_cases c5 : t288 = true
 ·subst c5
  have H1 : ((spec_l3Step.f k l0 a1 l2).bind fun t289 => ((spec_l3Step.f k l0 a1 t289).bind fun t292 => (spec_LoopOf.l0 k l0 a1 l2 t289 t292))) = some (r1, r2) := by rw [if_pos rfl] at H; exact H
  clear H
  have H := H1
  clear H1
  replace H := Option.bind_eq_some_iff.mp H
  obtain ⟨t289, A60, H⟩ := H
  replace H : ((spec_l3Step.f k l0 a1 t289).bind fun t292 => (spec_LoopOf.l0 k l0 a1 l2 t289 t292)) = some (r1, r2) := H
  have A6 := Aside0.mk A60
  clear A60
  replace H := Option.bind_eq_some_iff.mp H
  obtain ⟨t292, A70, H⟩ := H
  replace H : (spec_LoopOf.l0 k l0 a1 l2 t289 t292) = some (r1, r2) := H
  have A7 := Aside0.mk A70
  clear A70
  have H' := Aside0.mk H
  clear H
  go_enter Try.func62, Try.ntmps62
  go_wp2_with (first | ((with_reducible refine gate_callee (f := 45) rfl ?_); refine goesL_ (some 15) rfl rfl Try.func45 (by kernel_rfl) rfl #[.slice A0 l0.length c0, .int .i64 a1, .slice A2 l2.length c2] rfl zA ?_; (with_reducible refine (spec_l3Ok.calls k _ _ l0 a1 _ _ l2 true _ ?side1 ?side2 ?side3 ?side4 A4.out).mono ?_); (case side1 => exact zC HR0.out); (case side2 => exact HC0.out); (case side3 => exact zC HR2.out); (case side4 => exact HC2.out); rintro e w' ⟨rfl, ⟨nd, rfl⟩⟩; refine ⟨_, rfl, ?_⟩) | ((with_reducible refine gate_callee (f := 48) rfl ?_); refine goesL_ (some 20) rfl rfl Try.func48 (by kernel_rfl) rfl #[.slice A0 l0.length c0, .int .i64 a1, .slice A2 l2.length c2] rfl zA ?_; (with_reducible refine (spec_l3Step.calls k _ _ l0 a1 _ _ l2 t289 _ ?side1 ?side2 ?side3 ?side4 A6.out).mono ?_); (case side1 => exact zC HR0.out); (case side2 => exact HC0.out); (case side3 => exact zC HR2.out); (case side4 => exact HC2.out); rintro e w8 ⟨v290, rfl, ho0, hb⟩; refine ⟨_, rfl, ?_⟩; have n0_ := Aside0.mk (Kd.R_lower ho0 (below_size (zB HB.out))); have n1_ := Aside0.mk (below_step (zB HB.out) hb); clear HB; have HO291 := n0_; have HB := n1_; clear n0_ n1_; (try clear hb); (try clear hb2); (try clear hk); (try clear hi); (try clear ho0); obtain ⟨Ao9, co9, eo9⟩ := Kd.R_slice HO291.out; subst eo9) | ((with_reducible refine gate_callee (f := 48) rfl ?_); refine goesL_ (some 24) rfl rfl Try.func48 (by kernel_rfl) rfl #[.slice A0 l0.length c0, .int .i64 a1, .slice Ao9 t289.length co9] rfl zA ?_; (with_reducible refine (spec_l3Step.calls k _ _ l0 a1 _ _ t289 t292 _ ?side1 ?side2 ?side3 ?side4 A7.out).mono ?_); (case side1 => exact zC (Kd.C_below HR0.out HB.out)); (case side2 => exact HC0.out); (case side3 => exact zC (Kd.R_reads' HO291.out).2.2); (case side4 => exact (Kd.R_reads' HO291.out).2.1); rintro e w10 ⟨v293, rfl, ho0, hb⟩; refine ⟨_, rfl, ?_⟩; have n0_ := Aside0.mk (Kd.R_elder' (zR HO291.out) (Kd.R_base ho0) hb); have n1_ := Aside0.mk (Kd.R_lower (Kd.R_new' ho0 (Kd.R_lt (zR HO291.out))) (below_size (zB HB.out))); have n2_ := Aside0.mk (below_step (zB HB.out) hb); clear HO291; clear HB; have HO291 := n0_; have HO294 := n1_; have HB := n2_; clear n0_ n1_ n2_; (try clear hb); (try clear hb2); (try clear hk); (try clear hi); (try clear ho0)))
  go_loopg [8, 9] k (fun kq v8 v9 w' => ∃ (x8_1 : List Int) (x9_1 : List Int), Aside0 (spec_LoopOf.l0 kq l0 a1 l2 x8_1 x9_1 = some (r1, r2)) ∧ Aside0 (kq ≤ k) ∧ Aside0 (Kd.R (Kd.int .i64) 3 w' w.heap.size (fun k_ => some k_ ≠ (v9 : Value).ownBlock) v8 x8_1) ∧ Aside0 (Kd.R (Kd.int .i64) 3 w' w.heap.size (fun k_ => some k_ ≠ (v8 : Value).ownBlock) v9 x9_1) ∧ Aside0 (Below w.heap.size w w'))
  case atStart => exact ⟨(t289), (t292), H', ⟨Nat.le_refl _⟩, ⟨by (with_reducible repeat (first | apply Kd.R_alloc | apply Kd.R_drewN | apply Kd.R_drew)); exact Kd.R_mono HO291.out (fun _ hk => hk.2)⟩, ⟨by (with_reducible repeat (first | apply Kd.R_alloc | apply Kd.R_drewN | apply Kd.R_drew)); exact Kd.R_mono HO294.out (fun _ hk => hk.2)⟩, ⟨zB HB.out⟩⟩
  case round =>
   clear H'
   try clear c2
   try clear p2
   try clear c4
   try clear c5
   try clear c6
   obtain ⟨x8_1, x9_1, HA, HK1, HO_8, HO_9, HB⟩ := hrel
   cases gk with
   | zero => exact absurd HA.out (by simp [spec_LoopOf.l0])
   | succ k1 =>
    have H := HA.out
    clear HA
    simp only [spec_LoopOf.l0] at H
    replace H := Option.bind_eq_some_iff.mp H
    obtain ⟨t295, A110, H⟩ := H
    replace H : (if t295 = true then ((some (([] : List Int) : List Int)).bind fun y305 => (if y305.length + l2.length < 17592186044416 then (spec_LoopOf.l1 k1 l0 a1 (y305 ++ l2) x9_1 0) else (none))) else ((spec_l3Step.f k1 l0 a1 x8_1).bind fun t296 => ((spec_l3Step.f k1 l0 a1 x9_1).bind fun t299 => ((spec_l3Step.f k1 l0 a1 t299).bind fun t302 => (spec_LoopOf.l0 k1 l0 a1 l2 t296 t302))))) = some (r1, r2) := H
    have A11 := Aside0.mk A110
    clear A110
    by_cases c12 : t295 = true
    ·subst c12
     have H1 : ((some (([] : List Int) : List Int)).bind fun y305 => (if y305.length + l2.length < 17592186044416 then (spec_LoopOf.l1 k1 l0 a1 (y305 ++ l2) x9_1 0) else (none))) = some (r1, r2) := by rw [if_pos rfl] at H; exact H
     clear H
     have H := H1
     clear H1
     obtain ⟨y305, hy305⟩ : ∃ y_ : List Int, y_ = (([] : List Int)) := ⟨_, rfl⟩
     replace H : (if y305.length + l2.length < 17592186044416 then (spec_LoopOf.l1 k1 l0 a1 (y305 ++ l2) x9_1 0) else (none)) = some (r1, r2) := by first | (rw [hy305]; with_reducible exact H) | (have H2_ := (Option.bind_some _ _).symm.trans H; rw [hy305]; with_reducible exact H2_) | (have H2_ := (Option.bind_some _ _).symm.trans H; with_reducible exact H2_) | with_reducible exact H | (rw [hy305]; exact H) | exact H
     have Ny305 := Aside0.mk hy305
     clear hy305
     by_cases c13 : y305.length + l2.length < 17592186044416
     ·rw [if_pos c13] at H
      have LMc13 := Aside0.mk c13
      clear c13
      obtain ⟨y308, hy308⟩ : ∃ y_ : List Int, y_ = (y305 ++ l2) := ⟨_, rfl⟩
      replace H : (spec_LoopOf.l1 k1 l0 a1 y308 x9_1 0) = some (r1, r2) := by first | (rw [hy308]; with_reducible exact H) | (have H2_ := (Option.bind_some _ _).symm.trans H; rw [hy308]; with_reducible exact H2_) | (have H2_ := (Option.bind_some _ _).symm.trans H; with_reducible exact H2_) | with_reducible exact H | (rw [hy308]; exact H) | exact H
      have Ny308 := Aside0.mk hy308
      clear hy308
      have H' := Aside0.mk H
      clear H
      obtain ⟨Ao14, co14, eo14⟩ := Kd.R_slice HO_8.out
      subst eo14
      obtain ⟨Ao15, co15, eo15⟩ := Kd.R_slice HO_9.out
      subst eo15
      go_wp2_with (first | ((with_reducible refine gate_callee (f := 47) rfl ?_); refine goesL_ (some 27) rfl rfl Try.func47 (by kernel_rfl) rfl #[.slice Ao14 x8_1.length co14, .slice Ao15 x9_1.length co15] rfl zA ?_; (with_reducible refine (spec_l3Same.calls k1 _ _ x8_1 _ _ x9_1 true _ ?side1 ?side2 ?side3 ?side4 A11.out).mono ?_); (case side1 => exact zC (Kd.R_reads' HO_8.out).2.2); (case side2 => exact (Kd.R_reads' HO_8.out).2.1); (case side3 => exact zC (Kd.R_reads' HO_9.out).2.2); (case side4 => exact (Kd.R_reads' HO_9.out).2.1); rintro e w' ⟨rfl, ⟨nd, rfl⟩⟩; refine ⟨_, rfl, ?_⟩) | ((with_reducible refine gate_dst (N := 40) rfl ?_); refine Kd.R_lit (Kd.int .i64) _ 3 ?hg (N := 40) ?hd (xs := ([] : List Int)) (inner := []) (ok := fun _ => True) (okp := fun _ => True) ?hr ?hp (fun _ hk => hk) trivial (Below.refl _ _) (Nat.le_refl _) (by simp) ?_; (case hd => rfl); (case hg => rfl); (case hr => first | (go_simp; done) | (go_simp; rfl)); (case hp => exact (Reps.none _ _)); intro v306 w16 ho17 hb hg_ hnew_; clear hg_ hnew_; (first | rw [← Ny305.out] at ho17 | (simp only [Int.reduceToNat] at ho17; rw [← Ny305.out] at ho17)); have n0_ := Aside0.mk (Kd.R_elder' (zR HO_8.out) (Kd.R_base ho17) hb); have n1_ := Aside0.mk (Kd.R_elder' (zR HO_9.out) (Kd.R_base ho17) hb); have n2_ := Aside0.mk (Kd.R_lower (Kd.R_new' (Kd.R_new' ho17 (Kd.R_lt (zR HO_8.out))) (Kd.R_lt (zR HO_9.out))) (below_size (zB HB.out))); have n3_ := Aside0.mk (below_step (zB HB.out) hb); clear HO_8; clear HO_9; clear HB; have HO_8 := n0_; have HO_9 := n1_; have HO307 := n2_; have HB := n3_; clear n0_ n1_ n2_ n3_; clear hb ho17) | ((with_reducible refine gate_builtin (b := .append) (xs := #[.tmp 40, .tmp 41]) rfl ?_); at_builtin; refine Kd.R_append_rows (Kd.int .i64) (w0 := w) w.heap.size rfl (.tmp 40) (.tmp 41) 22 3 (.int .i64 0) 8 rfl Try.underlying22 info3 rfl (by decide) (by omega) v306 y305 l2 _ _ _ (fun k_ => some k_ ≠ (.slice Ao14 x8_1.length co14 : Value).ownBlock ∧ some k_ ≠ (.slice Ao15 x9_1.length co15 : Value).ownBlock) (fun _ => False) rfl rfl ?aO ?aR (fun _ _ h => h) (fun _ h => h.elim) ?aF ?aB ?aS ?aL ?_; (case aR => exact zC (Kd.C_below HR2.out HB.out)); (case aB => exact (zB HB.out)); (case aF => exact (fun k_ hk => ⟨Kd.fresh' (Kd.R_lt (zR HO_8.out)) k_ hk, Kd.fresh' (Kd.R_lt (zR HO_9.out)) k_ hk⟩)); (case aO => exact (by (with_reducible repeat (first | apply Kd.R_alloc | apply Kd.R_drewN | apply Kd.R_drew)); exact Kd.R_mono HO307.out (fun _ hk => ⟨hk.1.2, hk.2⟩))); (case aS => exact (below_size (zB HB.out))); (case aL => have := LMc13.out; omega); intro v309 w18 ho hb hg hat; rw [← Ny308.out] at ho; have n0_ := Aside0.mk (Kd.R_after (ok := (fun k_ => some k_ ≠ (.slice Ao15 x9_1.length co15 : Value).ownBlock)) (zR HO_8.out) hg hat); have n1_ := Aside0.mk (Kd.R_after (ok := (fun k_ => some k_ ≠ (.slice Ao14 x8_1.length co14 : Value).ownBlock)) (zR HO_9.out) hg hat); have n2_ := Aside0.mk (hb); have n3_ := Aside0.mk (ho); clear HO_8; clear HO_9; clear HB; clear HO307; have HO_8 := n0_; have HO_9 := n1_; have HB := n2_; have HO310 := n3_; clear n0_ n1_ n2_ n3_; clear ho hb hg hat))
      go_loopg [8, 9, 10] k1 (fun kq v8 v9 v10 w' => ∃ (x8_2 : List Int) (x9_2 : List Int) (x10_2 : Int), v10 = .int .i64 x10_2 ∧ Aside0 (spec_LoopOf.l1 kq l0 a1 x8_2 x9_2 x10_2 = some (r1, r2)) ∧ Aside0 (kq ≤ k1) ∧ Aside0 (Kd.R (Kd.int .i64) 3 w' w.heap.size (fun k_ => some k_ ≠ (v9 : Value).ownBlock) v8 x8_2) ∧ Aside0 (Kd.R (Kd.int .i64) 3 w' w.heap.size (fun k_ => some k_ ≠ (v8 : Value).ownBlock) v9 x9_2) ∧ Aside0 (Below w.heap.size w w'))
      case atStart => exact ⟨(y308), (x9_1), (0), (by first | rfl | (simp; done) | (simp [*]; done)), H', ⟨Nat.le_refl _⟩, ⟨by (with_reducible repeat (first | apply Kd.R_alloc | apply Kd.R_drewN | apply Kd.R_drew)); exact Kd.R_mono HO310.out (fun _ hk => hk.2)⟩, ⟨by (with_reducible repeat (first | apply Kd.R_alloc | apply Kd.R_drewN | apply Kd.R_drew)); exact Kd.R_mono HO_9.out (fun _ hk => hk.2)⟩, ⟨zB HB.out⟩⟩
      case round =>
       clear H'
       try clear c1
       try clear c2
       try clear p2
       try clear c4
       try clear c5
       try clear c6
       try clear c12
       try clear c13
       try clear p2
       obtain ⟨x8_2, x9_2, x10_2, rfl, HA, HK2, HO_8, HO_9, HB⟩ := hrel
       cases gk with
       | zero => exact absurd HA.out (by simp [spec_LoopOf.l1])
       | succ k2 =>
        have H := HA.out
        clear HA
        simp only [spec_LoopOf.l1] at H
        replace H := Option.bind_eq_some_iff.mp H
        obtain ⟨t311, A190, H⟩ := H
        replace H : (if t311 = true then ((spec_l3Step.f k2 l0 a1 x8_2).bind fun t318 => (spec_LoopOf.l2 k2 l0 a1 x8_2 t318 x10_2 1)) else ((spec_l3Step.f k2 l0 a1 x8_2).bind fun t312 => ((spec_l3Step.f k2 l0 a1 x9_2).bind fun t315 => (spec_LoopOf.l1 k2 l0 a1 t312 t315 (wrap64 (x10_2 + 1)))))) = some (r1, r2) := H
        have A19 := Aside0.mk A190
        clear A190
        by_cases c20 : t311 = true
        ·subst c20
         have H1 : ((spec_l3Step.f k2 l0 a1 x8_2).bind fun t318 => (spec_LoopOf.l2 k2 l0 a1 x8_2 t318 x10_2 1)) = some (r1, r2) := by rw [if_pos rfl] at H; exact H
         clear H
         have H := H1
         clear H1
         replace H := Option.bind_eq_some_iff.mp H
         obtain ⟨t318, A210, H⟩ := H
         replace H : (spec_LoopOf.l2 k2 l0 a1 x8_2 t318 x10_2 1) = some (r1, r2) := H
         have A21 := Aside0.mk A210
         clear A210
         have H' := Aside0.mk H
         clear H
         obtain ⟨Ao22, co22, eo22⟩ := Kd.R_slice HO_8.out
         subst eo22
         obtain ⟨Ao23, co23, eo23⟩ := Kd.R_slice HO_9.out
         subst eo23
         go_wp2_with (first | ((with_reducible refine gate_callee (f := 47) rfl ?_); refine goesL_ (some 45) rfl rfl Try.func47 (by kernel_rfl) rfl #[.slice Ao22 x8_2.length co22, .slice Ao23 x9_2.length co23] rfl zA ?_; (with_reducible refine (spec_l3Same.calls k2 _ _ x8_2 _ _ x9_2 true _ ?side1 ?side2 ?side3 ?side4 A19.out).mono ?_); (case side1 => exact zC (Kd.R_reads' HO_8.out).2.2); (case side2 => exact (Kd.R_reads' HO_8.out).2.1); (case side3 => exact zC (Kd.R_reads' HO_9.out).2.2); (case side4 => exact (Kd.R_reads' HO_9.out).2.1); rintro e w' ⟨rfl, ⟨nd, rfl⟩⟩; refine ⟨_, rfl, ?_⟩) | ((with_reducible refine gate_callee (f := 48) rfl ?_); refine goesL_ (some 60) rfl rfl Try.func48 (by kernel_rfl) rfl #[.slice A0 l0.length c0, .int .i64 a1, .slice Ao22 x8_2.length co22] rfl zA ?_; (with_reducible refine (spec_l3Step.calls k2 _ _ l0 a1 _ _ x8_2 t318 _ ?side1 ?side2 ?side3 ?side4 A21.out).mono ?_); (case side1 => exact zC (Kd.C_below HR0.out (zB HB.out))); (case side2 => exact HC0.out); (case side3 => exact zC (Kd.R_reads' HO_8.out).2.2); (case side4 => exact (Kd.R_reads' HO_8.out).2.1); rintro e w24 ⟨v319, rfl, ho0, hb⟩; refine ⟨_, rfl, ?_⟩; have n0_ := Aside0.mk (Kd.R_elder' (zR HO_8.out) (Kd.R_base ho0) hb); have n1_ := Aside0.mk (Kd.R_elder' (zR HO_9.out) (Kd.R_base ho0) hb); have n2_ := Aside0.mk (Kd.R_lower (Kd.R_new' (Kd.R_new' ho0 (Kd.R_lt (zR HO_8.out))) (Kd.R_lt (zR HO_9.out))) (below_size (zB HB.out))); have n3_ := Aside0.mk (below_step (zB HB.out) hb); clear HO_8; clear HO_9; clear HB; have HO_8 := n0_; have HO_9 := n1_; have HO320 := n2_; have HB := n3_; clear n0_ n1_ n2_ n3_; (try clear hb); (try clear hb2); (try clear hk); (try clear hi); (try clear ho0)))
         go_loopg [9, 11] k2 (fun kq v9 v11 w' => ∃ (x9_3 : List Int) (x11_3 : Int), v11 = .int .i64 x11_3 ∧ Aside0 (spec_LoopOf.l2 kq l0 a1 x8_2 x9_3 x10_2 x11_3 = some (r1, r2)) ∧ Aside0 (kq ≤ k2) ∧ Aside0 (Kd.R (Kd.int .i64) 3 w' w.heap.size (fun k_ => some k_ ≠ (v9 : Value).ownBlock) (.slice Ao22 x8_2.length co22) x8_2) ∧ Aside0 (Kd.R (Kd.int .i64) 3 w' w.heap.size (fun k_ => some k_ ≠ ((.slice Ao22 x8_2.length co22) : Value).ownBlock) v9 x9_3) ∧ Aside0 (Below w.heap.size w w'))
         case atStart => exact ⟨(t318), (1), (by first | rfl | (simp; done) | (simp [*]; done)), H', ⟨Nat.le_refl _⟩, ⟨by (with_reducible repeat (first | apply Kd.R_alloc | apply Kd.R_drewN | apply Kd.R_drew)); exact Kd.R_mono HO_8.out (fun _ hk => hk.2)⟩, ⟨by (with_reducible repeat (first | apply Kd.R_alloc | apply Kd.R_drewN | apply Kd.R_drew)); exact Kd.R_mono HO320.out (fun _ hk => hk.1.2)⟩, ⟨zB HB.out⟩⟩
         case round =>
          clear H'
          try clear c1
          try clear c2
          try clear p2
          try clear c4
          try clear c5
          try clear c6
          try clear p6
          try clear c12
          try clear c13
          try clear c20
          try clear p2
          obtain ⟨x9_3, x11_3, rfl, HA, HK3, HO_8, HO_9, HB⟩ := hrel
          cases gk with
          | zero => exact absurd HA.out (by simp [spec_LoopOf.l2])
          | succ k3 =>
           have H := HA.out
           clear HA
           simp only [spec_LoopOf.l2] at H
           replace H := Option.bind_eq_some_iff.mp H
           obtain ⟨t321, A250, H⟩ := H
           replace H : (if t321 = true then (some (x10_2, x11_3)) else ((spec_l3Step.f k3 l0 a1 x9_3).bind fun t322 => (spec_LoopOf.l2 k3 l0 a1 x8_2 t322 x10_2 (wrap64 (x11_3 + 1))))) = some (r1, r2) := H
           have A25 := Aside0.mk A250
           clear A250
           by_cases c26 : t321 = true
           ·subst c26
            have H1 : (some (x10_2, x11_3)) = some (r1, r2) := by rw [if_pos rfl] at H; exact H
            clear H
            have H := H1
            clear H1
            simp only [Option.some.injEq, Prod.mk.injEq] at H
            obtain ⟨rfl, rfl⟩ := H
            obtain ⟨Ao27, co27, eo27⟩ := Kd.R_slice HO_9.out
            subst eo27
            go_wp2_with (first | ((with_reducible refine gate_callee (f := 47) rfl ?_); refine goesL_ (some 63) rfl rfl Try.func47 (by kernel_rfl) rfl #[.slice Ao22 x8_2.length co22, .slice Ao27 x9_3.length co27] rfl zA ?_; (with_reducible refine (spec_l3Same.calls k3 _ _ x8_2 _ _ x9_3 true _ ?side1 ?side2 ?side3 ?side4 A25.out).mono ?_); (case side1 => exact zC (Kd.R_reads' HO_8.out).2.2); (case side2 => exact (Kd.R_reads' HO_8.out).2.1); (case side3 => exact zC (Kd.R_reads' HO_9.out).2.2); (case side4 => exact (Kd.R_reads' HO_9.out).2.1); rintro e w' ⟨rfl, ⟨nd, rfl⟩⟩; refine ⟨_, rfl, ?_⟩))
            go_ret2
            exact ⟨by first | rfl | (simp [errW_none, errW_some] <;> rfl) | (simp [*, errW_none, errW_some] <;> rfl), zB HB.out⟩
           ·replace c26 := Bool.eq_false_iff.mpr c26
            subst c26
            have H1 : ((spec_l3Step.f k3 l0 a1 x9_3).bind fun t322 => (spec_LoopOf.l2 k3 l0 a1 x8_2 t322 x10_2 (wrap64 (x11_3 + 1)))) = some (r1, r2) := by rw [if_neg (show ¬ (false = true) by decide)] at H; exact H
            clear H
            have H := H1
            clear H1
            replace H := Option.bind_eq_some_iff.mp H
            obtain ⟨t322, A280, H⟩ := H
            replace H : (spec_LoopOf.l2 k3 l0 a1 x8_2 t322 x10_2 (wrap64 (x11_3 + 1))) = some (r1, r2) := H
            have A28 := Aside0.mk A280
            clear A280
            have H' := Aside0.mk H
            clear H
            obtain ⟨Ao29, co29, eo29⟩ := Kd.R_slice HO_9.out
            subst eo29
            go_wp2_with (first | ((with_reducible refine gate_callee (f := 47) rfl ?_); refine goesL_ (some 63) rfl rfl Try.func47 (by kernel_rfl) rfl #[.slice Ao22 x8_2.length co22, .slice Ao29 x9_3.length co29] rfl zA ?_; (with_reducible refine (spec_l3Same.calls k3 _ _ x8_2 _ _ x9_3 false _ ?side1 ?side2 ?side3 ?side4 A25.out).mono ?_); (case side1 => exact zC (Kd.R_reads' HO_8.out).2.2); (case side2 => exact (Kd.R_reads' HO_8.out).2.1); (case side3 => exact zC (Kd.R_reads' HO_9.out).2.2); (case side4 => exact (Kd.R_reads' HO_9.out).2.1); rintro e w' ⟨rfl, ⟨nd, rfl⟩⟩; refine ⟨_, rfl, ?_⟩) | ((with_reducible refine gate_callee (f := 48) rfl ?_); refine goesL_ (some 68) rfl rfl Try.func48 (by kernel_rfl) rfl #[.slice A0 l0.length c0, .int .i64 a1, .slice Ao29 x9_3.length co29] rfl zA ?_; (with_reducible refine (spec_l3Step.calls k3 _ _ l0 a1 _ _ x9_3 t322 _ ?side1 ?side2 ?side3 ?side4 A28.out).mono ?_); (case side1 => exact zC (Kd.C_below HR0.out (zB HB.out))); (case side2 => exact HC0.out); (case side3 => exact zC (Kd.R_reads' HO_9.out).2.2); (case side4 => exact (Kd.R_reads' HO_9.out).2.1); rintro e w30 ⟨v323, rfl, ho0, hb⟩; refine ⟨_, rfl, ?_⟩; have n0_ := Aside0.mk (Kd.R_elder' (zR HO_8.out) (Kd.R_base ho0) hb); have n1_ := Aside0.mk (Kd.R_elder' (zR HO_9.out) (Kd.R_base ho0) hb); have n2_ := Aside0.mk (Kd.R_lower (Kd.R_new' (Kd.R_new' ho0 (Kd.R_lt (zR HO_8.out))) (Kd.R_lt (zR HO_9.out))) (below_size (zB HB.out))); have n3_ := Aside0.mk (below_step (zB HB.out) hb); clear HO_8; clear HO_9; clear HB; have HO_8 := n0_; have HO_9 := n1_; have HO324 := n2_; have HB := n3_; clear n0_ n1_ n2_ n3_; (try clear hb); (try clear hb2); (try clear hk); (try clear hi); (try clear ho0)))
            go_roundg k3
            case measure => have := HK1.out; have := HK2.out; have := HK3.out; omega
            case rel => exact ⟨(t322), (wrap64 (x11_3 + 1)), (by first | rfl | (simp; done) | (simp [*]; done)), H', ⟨by have := HK1.out; have := HK2.out; have := HK3.out; omega⟩, ⟨by (with_reducible repeat (first | apply Kd.R_alloc | apply Kd.R_drewN | apply Kd.R_drew)); exact Kd.R_mono HO_8.out (fun _ hk => hk.2)⟩, ⟨by (with_reducible repeat (first | apply Kd.R_alloc | apply Kd.R_drewN | apply Kd.R_drew)); exact Kd.R_mono HO324.out (fun _ hk => hk.1.2)⟩, ⟨zB HB.out⟩⟩
        ·replace c20 := Bool.eq_false_iff.mpr c20
         subst c20
         have H1 : ((spec_l3Step.f k2 l0 a1 x8_2).bind fun t312 => ((spec_l3Step.f k2 l0 a1 x9_2).bind fun t315 => (spec_LoopOf.l1 k2 l0 a1 t312 t315 (wrap64 (x10_2 + 1))))) = some (r1, r2) := by rw [if_neg (show ¬ (false = true) by decide)] at H; exact H
         clear H
         have H := H1
         clear H1
         replace H := Option.bind_eq_some_iff.mp H
         obtain ⟨t312, A310, H⟩ := H
         replace H : ((spec_l3Step.f k2 l0 a1 x9_2).bind fun t315 => (spec_LoopOf.l1 k2 l0 a1 t312 t315 (wrap64 (x10_2 + 1)))) = some (r1, r2) := H
         have A31 := Aside0.mk A310
         clear A310
         replace H := Option.bind_eq_some_iff.mp H
         obtain ⟨t315, A320, H⟩ := H
         replace H : (spec_LoopOf.l1 k2 l0 a1 t312 t315 (wrap64 (x10_2 + 1))) = some (r1, r2) := H
         have A32 := Aside0.mk A320
         clear A320
         have H' := Aside0.mk H
         clear H
         obtain ⟨Ao33, co33, eo33⟩ := Kd.R_slice HO_8.out
         subst eo33
         obtain ⟨Ao34, co34, eo34⟩ := Kd.R_slice HO_9.out
         subst eo34
         go_wp2_with (first | ((with_reducible refine gate_callee (f := 47) rfl ?_); refine goesL_ (some 45) rfl rfl Try.func47 (by kernel_rfl) rfl #[.slice Ao33 x8_2.length co33, .slice Ao34 x9_2.length co34] rfl zA ?_; (with_reducible refine (spec_l3Same.calls k2 _ _ x8_2 _ _ x9_2 false _ ?side1 ?side2 ?side3 ?side4 A19.out).mono ?_); (case side1 => exact zC (Kd.R_reads' HO_8.out).2.2); (case side2 => exact (Kd.R_reads' HO_8.out).2.1); (case side3 => exact zC (Kd.R_reads' HO_9.out).2.2); (case side4 => exact (Kd.R_reads' HO_9.out).2.1); rintro e w' ⟨rfl, ⟨nd, rfl⟩⟩; refine ⟨_, rfl, ?_⟩) | ((with_reducible refine gate_callee (f := 48) rfl ?_); refine goesL_ (some 50) rfl rfl Try.func48 (by kernel_rfl) rfl #[.slice A0 l0.length c0, .int .i64 a1, .slice Ao33 x8_2.length co33] rfl zA ?_; (with_reducible refine (spec_l3Step.calls k2 _ _ l0 a1 _ _ x8_2 t312 _ ?side1 ?side2 ?side3 ?side4 A31.out).mono ?_); (case side1 => exact zC (Kd.C_below HR0.out (zB HB.out))); (case side2 => exact HC0.out); (case side3 => exact zC (Kd.R_reads' HO_8.out).2.2); (case side4 => exact (Kd.R_reads' HO_8.out).2.1); rintro e w35 ⟨v313, rfl, ho0, hb⟩; refine ⟨_, rfl, ?_⟩; have n0_ := Aside0.mk (Kd.R_elder' (zR HO_8.out) (Kd.R_base ho0) hb); have n1_ := Aside0.mk (Kd.R_elder' (zR HO_9.out) (Kd.R_base ho0) hb); have n2_ := Aside0.mk (Kd.R_lower (Kd.R_new' (Kd.R_new' ho0 (Kd.R_lt (zR HO_8.out))) (Kd.R_lt (zR HO_9.out))) (below_size (zB HB.out))); have n3_ := Aside0.mk (below_step (zB HB.out) hb); clear HO_8; clear HO_9; clear HB; have HO_8 := n0_; have HO_9 := n1_; have HO314 := n2_; have HB := n3_; clear n0_ n1_ n2_ n3_; (try clear hb); (try clear hb2); (try clear hk); (try clear hi); (try clear ho0)) | ((with_reducible refine gate_callee (f := 48) rfl ?_); refine goesL_ (some 54) rfl rfl Try.func48 (by kernel_rfl) rfl #[.slice A0 l0.length c0, .int .i64 a1, .slice Ao34 x9_2.length co34] rfl zA ?_; (with_reducible refine (spec_l3Step.calls k2 _ _ l0 a1 _ _ x9_2 t315 _ ?side1 ?side2 ?side3 ?side4 A32.out).mono ?_); (case side1 => exact zC (Kd.C_below HR0.out HB.out)); (case side2 => exact HC0.out); (case side3 => exact zC (Kd.R_reads' HO_9.out).2.2); (case side4 => exact (Kd.R_reads' HO_9.out).2.1); rintro e w36 ⟨v316, rfl, ho0, hb⟩; refine ⟨_, rfl, ?_⟩; have n0_ := Aside0.mk (Kd.R_elder' (zR HO_8.out) (Kd.R_base ho0) hb); have n1_ := Aside0.mk (Kd.R_elder' (zR HO_9.out) (Kd.R_base ho0) hb); have n2_ := Aside0.mk (Kd.R_elder' (zR HO314.out) (Kd.R_base ho0) hb); have n3_ := Aside0.mk (Kd.R_lower (Kd.R_new' (Kd.R_new' (Kd.R_new' ho0 (Kd.R_lt (zR HO_8.out))) (Kd.R_lt (zR HO_9.out))) (Kd.R_lt (zR HO314.out))) (below_size (zB HB.out))); have n4_ := Aside0.mk (below_step (zB HB.out) hb); clear HO_8; clear HO_9; clear HO314; clear HB; have HO_8 := n0_; have HO_9 := n1_; have HO314 := n2_; have HO317 := n3_; have HB := n4_; clear n0_ n1_ n2_ n3_ n4_; (try clear hb); (try clear hb2); (try clear hk); (try clear hi); (try clear ho0)))
         go_roundg k2
         case measure => have := HK1.out; have := HK2.out; omega
         case rel => exact ⟨(t312), (t315), (wrap64 (x10_2 + 1)), (by first | rfl | (simp; done) | (simp [*]; done)), H', ⟨by have := HK1.out; have := HK2.out; omega⟩, ⟨by (with_reducible repeat (first | apply Kd.R_alloc | apply Kd.R_drewN | apply Kd.R_drew)); exact Kd.R_mono HO314.out (fun _ hk => hk.2)⟩, ⟨by (with_reducible repeat (first | apply Kd.R_alloc | apply Kd.R_drewN | apply Kd.R_drew)); exact Kd.R_mono HO317.out (fun _ hk => hk.2)⟩, ⟨zB HB.out⟩⟩
     ·rw [if_neg c13] at H
      exact absurd H (by simp)
    ·replace c12 := Bool.eq_false_iff.mpr c12
     subst c12
     have H1 : ((spec_l3Step.f k1 l0 a1 x8_1).bind fun t296 => ((spec_l3Step.f k1 l0 a1 x9_1).bind fun t299 => ((spec_l3Step.f k1 l0 a1 t299).bind fun t302 => (spec_LoopOf.l0 k1 l0 a1 l2 t296 t302)))) = some (r1, r2) := by rw [if_neg (show ¬ (false = true) by decide)] at H; exact H
     clear H
     have H := H1
     clear H1
     replace H := Option.bind_eq_some_iff.mp H
     obtain ⟨t296, A370, H⟩ := H
     replace H : ((spec_l3Step.f k1 l0 a1 x9_1).bind fun t299 => ((spec_l3Step.f k1 l0 a1 t299).bind fun t302 => (spec_LoopOf.l0 k1 l0 a1 l2 t296 t302))) = some (r1, r2) := H
     have A37 := Aside0.mk A370
     clear A370
     replace H := Option.bind_eq_some_iff.mp H
     obtain ⟨t299, A380, H⟩ := H
     replace H : ((spec_l3Step.f k1 l0 a1 t299).bind fun t302 => (spec_LoopOf.l0 k1 l0 a1 l2 t296 t302)) = some (r1, r2) := H
     have A38 := Aside0.mk A380
     clear A380
     replace H := Option.bind_eq_some_iff.mp H
     obtain ⟨t302, A390, H⟩ := H
     replace H : (spec_LoopOf.l0 k1 l0 a1 l2 t296 t302) = some (r1, r2) := H
     have A39 := Aside0.mk A390
     clear A390
     have H' := Aside0.mk H
     clear H
     obtain ⟨Ao40, co40, eo40⟩ := Kd.R_slice HO_8.out
     subst eo40
     obtain ⟨Ao41, co41, eo41⟩ := Kd.R_slice HO_9.out
     subst eo41
     go_wp2_with (first | ((with_reducible refine gate_callee (f := 47) rfl ?_); refine goesL_ (some 27) rfl rfl Try.func47 (by kernel_rfl) rfl #[.slice Ao40 x8_1.length co40, .slice Ao41 x9_1.length co41] rfl zA ?_; (with_reducible refine (spec_l3Same.calls k1 _ _ x8_1 _ _ x9_1 false _ ?side1 ?side2 ?side3 ?side4 A11.out).mono ?_); (case side1 => exact zC (Kd.R_reads' HO_8.out).2.2); (case side2 => exact (Kd.R_reads' HO_8.out).2.1); (case side3 => exact zC (Kd.R_reads' HO_9.out).2.2); (case side4 => exact (Kd.R_reads' HO_9.out).2.1); rintro e w' ⟨rfl, ⟨nd, rfl⟩⟩; refine ⟨_, rfl, ?_⟩) | ((with_reducible refine gate_callee (f := 48) rfl ?_); refine goesL_ (some 32) rfl rfl Try.func48 (by kernel_rfl) rfl #[.slice A0 l0.length c0, .int .i64 a1, .slice Ao40 x8_1.length co40] rfl zA ?_; (with_reducible refine (spec_l3Step.calls k1 _ _ l0 a1 _ _ x8_1 t296 _ ?side1 ?side2 ?side3 ?side4 A37.out).mono ?_); (case side1 => exact zC (Kd.C_below HR0.out (zB HB.out))); (case side2 => exact HC0.out); (case side3 => exact zC (Kd.R_reads' HO_8.out).2.2); (case side4 => exact (Kd.R_reads' HO_8.out).2.1); rintro e w42 ⟨v297, rfl, ho0, hb⟩; refine ⟨_, rfl, ?_⟩; have n0_ := Aside0.mk (Kd.R_elder' (zR HO_8.out) (Kd.R_base ho0) hb); have n1_ := Aside0.mk (Kd.R_elder' (zR HO_9.out) (Kd.R_base ho0) hb); have n2_ := Aside0.mk (Kd.R_lower (Kd.R_new' (Kd.R_new' ho0 (Kd.R_lt (zR HO_8.out))) (Kd.R_lt (zR HO_9.out))) (below_size (zB HB.out))); have n3_ := Aside0.mk (below_step (zB HB.out) hb); clear HO_8; clear HO_9; clear HB; have HO_8 := n0_; have HO_9 := n1_; have HO298 := n2_; have HB := n3_; clear n0_ n1_ n2_ n3_; (try clear hb); (try clear hb2); (try clear hk); (try clear hi); (try clear ho0)) | ((with_reducible refine gate_callee (f := 48) rfl ?_); refine goesL_ (some 38) rfl rfl Try.func48 (by kernel_rfl) rfl #[.slice A0 l0.length c0, .int .i64 a1, .slice Ao41 x9_1.length co41] rfl zA ?_; (with_reducible refine (spec_l3Step.calls k1 _ _ l0 a1 _ _ x9_1 t299 _ ?side1 ?side2 ?side3 ?side4 A38.out).mono ?_); (case side1 => exact zC (Kd.C_below HR0.out HB.out)); (case side2 => exact HC0.out); (case side3 => exact zC (Kd.R_reads' HO_9.out).2.2); (case side4 => exact (Kd.R_reads' HO_9.out).2.1); rintro e w43 ⟨v300, rfl, ho0, hb⟩; refine ⟨_, rfl, ?_⟩; have n0_ := Aside0.mk (Kd.R_elder' (zR HO_8.out) (Kd.R_base ho0) hb); have n1_ := Aside0.mk (Kd.R_elder' (zR HO_9.out) (Kd.R_base ho0) hb); have n2_ := Aside0.mk (Kd.R_elder' (zR HO298.out) (Kd.R_base ho0) hb); have n3_ := Aside0.mk (Kd.R_lower (Kd.R_new' (Kd.R_new' (Kd.R_new' ho0 (Kd.R_lt (zR HO_8.out))) (Kd.R_lt (zR HO_9.out))) (Kd.R_lt (zR HO298.out))) (below_size (zB HB.out))); have n4_ := Aside0.mk (below_step (zB HB.out) hb); clear HO_8; clear HO_9; clear HO298; clear HB; have HO_8 := n0_; have HO_9 := n1_; have HO298 := n2_; have HO301 := n3_; have HB := n4_; clear n0_ n1_ n2_ n3_ n4_; (try clear hb); (try clear hb2); (try clear hk); (try clear hi); (try clear ho0); obtain ⟨Ao44, co44, eo44⟩ := Kd.R_slice HO301.out; subst eo44) | ((with_reducible refine gate_callee (f := 48) rfl ?_); refine goesL_ (some 39) rfl rfl Try.func48 (by kernel_rfl) rfl #[.slice A0 l0.length c0, .int .i64 a1, .slice Ao44 t299.length co44] rfl zA ?_; (with_reducible refine (spec_l3Step.calls k1 _ _ l0 a1 _ _ t299 t302 _ ?side1 ?side2 ?side3 ?side4 A39.out).mono ?_); (case side1 => exact zC (Kd.C_below HR0.out HB.out)); (case side2 => exact HC0.out); (case side3 => exact zC (Kd.R_reads' HO301.out).2.2); (case side4 => exact (Kd.R_reads' HO301.out).2.1); rintro e w45 ⟨v303, rfl, ho0, hb⟩; refine ⟨_, rfl, ?_⟩; have n0_ := Aside0.mk (Kd.R_elder' (zR HO_8.out) (Kd.R_base ho0) hb); have n1_ := Aside0.mk (Kd.R_elder' (zR HO_9.out) (Kd.R_base ho0) hb); have n2_ := Aside0.mk (Kd.R_elder' (zR HO298.out) (Kd.R_base ho0) hb); have n3_ := Aside0.mk (Kd.R_elder' (zR HO301.out) (Kd.R_base ho0) hb); have n4_ := Aside0.mk (Kd.R_lower (Kd.R_new' (Kd.R_new' (Kd.R_new' (Kd.R_new' ho0 (Kd.R_lt (zR HO_8.out))) (Kd.R_lt (zR HO_9.out))) (Kd.R_lt (zR HO298.out))) (Kd.R_lt (zR HO301.out))) (below_size (zB HB.out))); have n5_ := Aside0.mk (below_step (zB HB.out) hb); clear HO_8; clear HO_9; clear HO298; clear HO301; clear HB; have HO_8 := n0_; have HO_9 := n1_; have HO298 := n2_; have HO301 := n3_; have HO304 := n4_; have HB := n5_; clear n0_ n1_ n2_ n3_ n4_ n5_; (try clear hb); (try clear hb2); (try clear hk); (try clear hi); (try clear ho0)))
     go_roundg k1
     case measure => have := HK1.out; omega
     case rel => exact ⟨(t296), (t302), H', ⟨by have := HK1.out; omega⟩, ⟨by (with_reducible repeat (first | apply Kd.R_alloc | apply Kd.R_drewN | apply Kd.R_drew)); exact Kd.R_mono HO298.out (fun _ hk => hk.2)⟩, ⟨by (with_reducible repeat (first | apply Kd.R_alloc | apply Kd.R_drewN | apply Kd.R_drew)); exact Kd.R_mono HO304.out (fun _ hk => hk.1.2)⟩, ⟨zB HB.out⟩⟩
 ·replace c5 := Bool.eq_false_iff.mpr c5
  subst c5
  have H1 : (some ((-1), (-1))) = some (r1, r2) := by rw [if_neg (show ¬ (false = true) by decide)] at H; exact H
  clear H
  have H := H1
  clear H1
  simp only [Option.some.injEq, Prod.mk.injEq] at H
  obtain ⟨rfl, rfl⟩ := H
  go_enter Try.func62, Try.ntmps62
  go_wp2_with (first | ((with_reducible refine gate_callee (f := 45) rfl ?_); refine goesL_ (some 15) rfl rfl Try.func45 (by kernel_rfl) rfl #[.slice A0 l0.length c0, .int .i64 a1, .slice A2 l2.length c2] rfl zA ?_; (with_reducible refine (spec_l3Ok.calls k _ _ l0 a1 _ _ l2 false _ ?side1 ?side2 ?side3 ?side4 A4.out).mono ?_); (case side1 => exact zC HR0.out); (case side2 => exact HC0.out); (case side3 => exact zC HR2.out); (case side4 => exact HC2.out); rintro e w' ⟨rfl, ⟨nd, rfl⟩⟩; refine ⟨_, rfl, ?_⟩))
  go_ret2
  exact ⟨by first | rfl | (simp [errW_none, errW_some] <;> rfl) | (simp [*, errW_none, errW_some] <;> rfl), zB HB.out⟩

end Go.Proofs.Ytgglagpciojfmaa.PAll
