/- Own text of this session, written by a program of this session (wip/t/own.py) out of what the kit tells of the functions: each Go function as a Lean function, and the walk through its code. -/
import Derived.Test.YtgglagpciojfmaaT
import Derived.Test.YtgglagpciojfmaaF28
import Derived.Test.YtgglagpciojfmaaF29
namespace Go.Proofs.Ytgglagpciojfmaa.PAll
open Go.RowKit Go.Proofs.YtgglagpciojfmaaW.PrintWords Go.Proofs.YtgglagpciojfmaaW.PrintLast Go.Proofs.YtgglagpciojfmaaW.PrintMore
attribute [local go_sem] max2_int min2_int max_two min_two max_three min_three max_four min_four   -- for this text's walks alone
set_option linter.unusedVariables false
set_option linter.unusedSimpArgs false

/-! ### spec_DrawEdenCount: function 29 -/
def spec_DrawEdenCount.f (k : Nat) (l0 : List Int) : Option (List Int × Int) := (spec_l20Open.f l0).bind fun bt513 => ((spec_l20Small.f k bt513.1 bt513.2 9).bind fun bt516 => ((spec_l20Rd_pick.f k bt513.1 bt516.2 2).bind fun bt520 => ((spec_l20Rd_pick.f k bt513.1 bt520.2 40).bind fun bt522 => (some (bt516.1, wrap64 ((wrap64 (3 + bt520.1)) + (wrap64 ((wrap64 (Int.tdiv bt522.1 39)) * 3))))))))
theorem spec_DrawEdenCount.mono : ∀ a0 k, LeO (spec_DrawEdenCount.f k a0) (spec_DrawEdenCount.f (k + 1) a0) := by
 intro a0 k
 unfold spec_DrawEdenCount.f
 repeat' first
   | (with_reducible exact spec_l20Rd_pick.mono _ _ _ _)
   | (with_reducible exact spec_l20Small.mono _ _ _ _)
   | (with_reducible exact LeO.refl _)
   | (with_reducible exact LeO.none _)
   | (with_reducible refine LeO.ite ?_ ?_)
   | (with_reducible refine LeO.bind ?_ (fun _ => ?_))
   | exact spec_l20Rd_pick.mono _ _ _ _
   | exact spec_l20Small.mono _ _ _ _
   | exact LeO.none _
   | refine LeO.ite ?_ ?_
   | refine LeO.bind ?_ (fun _ => ?_)
set_option maxHeartbeats 8000000 in
set_option maxRecDepth 100000 in
theorem spec_DrawEdenCount.calls (k : Nat) (A0 : Option Addr) (c0 : Nat) (l0 : List Int) (r1 : List Int) (r2 : Int) (w : World) (hr0 : Kd.C (Kd.int .u8) w A0 l0.length l0) (hc0 : l0.length ≤ c0) (h : spec_DrawEdenCount.f k l0 = some (r1, r2)) :
  Calls Try.prog 29 #[.slice A0 l0.length c0] w fun e w' => ∃ v0_ : Value, e = .returned (.tuple #[v0_, .int .i64 r2]) ∧ Kd.R (Kd.int .i64) 3 w' w.heap.size (fun _ => True) v0_ r1 ∧ Below w.heap.size w w' := by
 have HR0 := Aside0.mk hr0
 have HC0 := Aside0.mk hc0
 clear hr0 hc0
 have HB := Aside0.mk (Below.refl w.heap.size w)
 have H : ((spec_l20Open.f l0).bind fun bt513 => ((spec_l20Small.f k bt513.1 bt513.2 9).bind fun bt516 => ((spec_l20Rd_pick.f k bt513.1 bt516.2 2).bind fun bt520 => ((spec_l20Rd_pick.f k bt513.1 bt520.2 40).bind fun bt522 => (some (bt516.1, wrap64 ((wrap64 (3 + bt520.1)) + (wrap64 ((wrap64 (Int.tdiv bt522.1 39)) * 3))))))))) = some (r1, r2) := h
 clear h
 replace H := Option.bind_eq_some_iff.mp H
 obtain ⟨⟨t513, t514⟩, A20, H⟩ := H
 replace H : ((spec_l20Small.f k t513 t514 9).bind fun bt516 => ((spec_l20Rd_pick.f k t513 bt516.2 2).bind fun bt520 => ((spec_l20Rd_pick.f k t513 bt520.2 40).bind fun bt522 => (some (bt516.1, wrap64 ((wrap64 (3 + bt520.1)) + (wrap64 ((wrap64 (Int.tdiv bt522.1 39)) * 3)))))))) = some (r1, r2) := H
 have A2 := Aside0.mk A20
 clear A20
 replace H := Option.bind_eq_some_iff.mp H
 obtain ⟨⟨t516, t519⟩, A30, H⟩ := H
 replace H : ((spec_l20Rd_pick.f k t513 t519 2).bind fun bt520 => ((spec_l20Rd_pick.f k t513 bt520.2 40).bind fun bt522 => (some (t516, wrap64 ((wrap64 (3 + bt520.1)) + (wrap64 ((wrap64 (Int.tdiv bt522.1 39)) * 3))))))) = some (r1, r2) := H
 have A3 := Aside0.mk A30
 clear A30
 replace H := Option.bind_eq_some_iff.mp H
 obtain ⟨⟨t520, t521⟩, A40, H⟩ := H
 replace H : ((spec_l20Rd_pick.f k t513 t521 40).bind fun bt522 => (some (t516, wrap64 ((wrap64 (3 + t520)) + (wrap64 ((wrap64 (Int.tdiv bt522.1 39)) * 3)))))) = some (r1, r2) := H
 have A4 := Aside0.mk A40
 clear A40
 replace H := Option.bind_eq_some_iff.mp H
 obtain ⟨⟨t522, t523⟩, A50, H⟩ := H
 replace H : (some (t516, wrap64 ((wrap64 (3 + t520)) + (wrap64 ((wrap64 (Int.tdiv t522 39)) * 3))))) = some (r1, r2) := H
 have A5 := Aside0.mk A50
 clear A50
 simp only [Option.some.injEq, Prod.mk.injEq] at H
 obtain ⟨rfl, rfl⟩ := H
 go_enter Try.func29, Try.ntmps29
 go_wp2_with (first | ((with_reducible refine gate_callee (f := 67) rfl ?_); refine goesL_ (some 6) rfl rfl Try.func67 (by kernel_rfl) rfl #[.slice A0 l0.length c0] rfl zA ?_; (with_reducible refine (spec_l20Open.calls _ _ l0 t513 t514 w _ ?side1 ?side2 ?side3 A2.out).mono ?_); (case side1 => exact zB HB.out); (case side2 => exact HR0.out); (case side3 => exact HC0.out); rintro e w6 ⟨g515, rfl, hi, hb, hb2⟩; refine ⟨_, rfl, ?_⟩; have n0_ := Aside0.mk (hb); have n1_ := Aside0.mk (hi); clear HB; have HB := n0_; have HI515 := n1_; clear n0_ n1_; (try clear hb); (try clear hb2); (try clear hk); (try clear hi)) | ((with_reducible refine gate_callee (f := 68) rfl ?_); refine goesL_ (some 8) rfl rfl Try.func68 (by kernel_rfl) rfl #[.pointer (some ⟨g515, 0, none⟩), .int .i64 9] rfl zA ?_; (with_reducible refine (spec_l20Small.calls k g515 t513 t514 9 t516 t519 w _ ?side1 ?side2 A3.out).mono ?_); (case side1 => exact zI67 HI515.out); (case side2 => exact zE67 HB.out HI515.out); rintro e w7 ⟨v517, rfl, ho0, hi, hb, hk⟩; refine ⟨_, rfl, ?_⟩; have n0_ := Aside0.mk (Kd.R_lower ho0 (below_size (zE67 HB.out HI515.out))); have n1_ := Aside0.mk (hb); have n2_ := Aside0.mk (hi); clear HB; clear HI515; have HO518 := n0_; have HB := n1_; have HI515 := n2_; clear n0_ n1_ n2_; (try clear hb); (try clear hb2); (try clear hk); (try clear hi); (try clear ho0)) | ((with_reducible refine gate_callee (f := 69) rfl ?_); refine goesL_ (some 10) rfl rfl Try.func69 (by kernel_rfl) rfl #[.pointer (some ⟨g515, 0, none⟩), .int .i64 2] rfl zA ?_; (with_reducible refine (spec_l20Rd_pick.calls k g515 t513 t519 2 t520 t521 w _ ?side1 ?side2 A4.out).mono ?_); (case side1 => exact zI67 HI515.out); (case side2 => exact zE67 HB.out HI515.out); rintro e w8 ⟨rfl, hi, hb, hk⟩; refine ⟨_, rfl, ?_⟩; have n0_ := Aside0.mk (Kd.R_mono (Kd.R_keep (IsS67.apart (show IsS67 w _ g515 t513 t519 from zI67 HI515.out) (zR HO518.out) (by decide)) hk (fun _ h => h.2)) (fun _ h => h.1)); have n1_ := Aside0.mk (hb); have n2_ := Aside0.mk (hi); clear HO518; clear HB; clear HI515; have HO518 := n0_; have HB := n1_; have HI515 := n2_; clear n0_ n1_ n2_; (try clear hb); (try clear hb2); (try clear hk); (try clear hi)) | ((with_reducible refine gate_callee (f := 69) rfl ?_); refine goesL_ (some 13) rfl rfl Try.func69 (by kernel_rfl) rfl #[.pointer (some ⟨g515, 0, none⟩), .int .i64 40] rfl zA ?_; (with_reducible refine (spec_l20Rd_pick.calls k g515 t513 t521 40 t522 t523 w _ ?side1 ?side2 A5.out).mono ?_); (case side1 => exact zI67 HI515.out); (case side2 => exact zE67 HB.out HI515.out); rintro e w9 ⟨rfl, hi, hb, hk⟩; refine ⟨_, rfl, ?_⟩; have n0_ := Aside0.mk (Kd.R_mono (Kd.R_keep (IsS67.apart (show IsS67 w _ g515 t513 t521 from zI67 HI515.out) (zR HO518.out) (by decide)) hk (fun _ h => h.2)) (fun _ h => h.1)); have n1_ := Aside0.mk (hb); have n2_ := Aside0.mk (hi); clear HO518; clear HB; clear HI515; have HO518 := n0_; have HB := n1_; have HI515 := n2_; clear n0_ n1_ n2_; (try clear hb); (try clear hb2); (try clear hk); (try clear hi)))
 go_ret2
 exact ⟨_, by first | rfl | (simp [errW_none, errW_some] <;> rfl) | (simp [*, errW_none, errW_some] <;> rfl), by (with_reducible repeat (first | apply Kd.R_alloc | apply Kd.R_drewN | apply Kd.R_drew)); exact HO518.out, zE67 HB.out HI515.out⟩

end Go.Proofs.Ytgglagpciojfmaa.PAll
