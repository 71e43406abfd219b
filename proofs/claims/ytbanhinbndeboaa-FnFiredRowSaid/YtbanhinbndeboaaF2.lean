/- Own text of this session, written by a program of this session (wip/t/own.py) out of what the kit tells of the functions: each Go function as a Lean function, and the walk through its code. -/
import Derived.Test.YtbanhinbndeboaaT
import Derived.Test.YtbanhinbndeboaaF0
import Derived.Test.YtbanhinbndeboaaF1
import Derived.Test.YtbanhinbndeboaaF3
namespace Go.Proofs.Ytbanhinbndeboaa.PAll
open Go.RowKit Go.Proofs.YtbanhinbndeboaaW.PrintWords Go.Proofs.YtbanhinbndeboaaW.PrintLast Go.Proofs.YtbanhinbndeboaaW.PrintMore
attribute [local go_sem] max2_int min2_int max_two min_two max_three min_three max_four min_four   -- for this text's walks alone
set_option linter.unusedVariables false
set_option linter.unusedSimpArgs false

/-! ### spec_DrawFireRun: function 25 -/
def spec_DrawFireRun.f (k : Nat) (l0 : List Int) : Option (List Int × Int × List Int × Int) := (spec_l20Open.f l0).bind fun bt210 => ((spec_l20Fire.f k bt210.1 bt210.2 14).bind fun bt213 => ((spec_l20Rd_pick.f k bt210.1 bt213.2.2.2 14).bind fun bt221 => ((spec_l20Rd_pick.f k bt210.1 bt221.2 40).bind fun bt223 => ((spec_l20Rd_pick.f k bt210.1 bt223.2 40).bind fun bt225 => (some (bt213.1, bt213.2.1, bt213.2.2.1, wrap64 ((wrap64 (bt221.1 + (wrap64 ((wrap64 (Int.tdiv bt223.1 39)) * 61)))) - (wrap64 ((wrap64 (Int.tdiv bt225.1 39)) * 99)))))))))
theorem spec_DrawFireRun.mono : ∀ a0 k, LeO (spec_DrawFireRun.f k a0) (spec_DrawFireRun.f (k + 1) a0) := by
 intro a0 k
 unfold spec_DrawFireRun.f
 repeat' first
   | (with_reducible exact spec_l20Fire.mono _ _ _ _)
   | (with_reducible exact spec_l20Rd_pick.mono _ _ _ _)
   | (with_reducible exact LeO.refl _)
   | (with_reducible exact LeO.none _)
   | (with_reducible refine LeO.ite ?_ ?_)
   | (with_reducible refine LeO.bind ?_ (fun _ => ?_))
   | exact spec_l20Fire.mono _ _ _ _
   | exact spec_l20Rd_pick.mono _ _ _ _
   | exact LeO.none _
   | refine LeO.ite ?_ ?_
   | refine LeO.bind ?_ (fun _ => ?_)
set_option maxHeartbeats 8000000 in
set_option maxRecDepth 100000 in
theorem spec_DrawFireRun.calls (k : Nat) (A0 : Option Addr) (c0 : Nat) (l0 : List Int) (r1 : List Int) (r2 : Int) (r3 : List Int) (r4 : Int) (w : World) (hr0 : Kd.C (Kd.int .u8) w A0 l0.length l0) (hc0 : l0.length ≤ c0) (h : spec_DrawFireRun.f k l0 = some (r1, r2, r3, r4)) :
  Calls Try.prog 25 #[.slice A0 l0.length c0] w fun e w' => ∃ v0_ v2_ : Value, e = .returned (.tuple #[v0_, .int .i64 r2, v2_, .int .i64 r4]) ∧ Kd.R (Kd.int .i64) 3 w' w.heap.size (fun k_ => some k_ ≠ (v2_ : Value).ownBlock) v0_ r1 ∧ Kd.R (Kd.int .i64) 3 w' w.heap.size (fun k_ => some k_ ≠ (v0_ : Value).ownBlock) v2_ r3 ∧ Below w.heap.size w w' := by
 have HR0 := Aside0.mk hr0
 have HC0 := Aside0.mk hc0
 clear hr0 hc0
 have HB := Aside0.mk (Below.refl w.heap.size w)
 have H : ((spec_l20Open.f l0).bind fun bt210 => ((spec_l20Fire.f k bt210.1 bt210.2 14).bind fun bt213 => ((spec_l20Rd_pick.f k bt210.1 bt213.2.2.2 14).bind fun bt221 => ((spec_l20Rd_pick.f k bt210.1 bt221.2 40).bind fun bt223 => ((spec_l20Rd_pick.f k bt210.1 bt223.2 40).bind fun bt225 => (some (bt213.1, bt213.2.1, bt213.2.2.1, wrap64 ((wrap64 (bt221.1 + (wrap64 ((wrap64 (Int.tdiv bt223.1 39)) * 61)))) - (wrap64 ((wrap64 (Int.tdiv bt225.1 39)) * 99)))))))))) = some (r1, r2, r3, r4) := h
 clear h
 replace H := Option.bind_eq_some_iff.mp H
 obtain ⟨⟨t210, t211⟩, A20, H⟩ := H
 replace H : ((spec_l20Fire.f k t210 t211 14).bind fun bt213 => ((spec_l20Rd_pick.f k t210 bt213.2.2.2 14).bind fun bt221 => ((spec_l20Rd_pick.f k t210 bt221.2 40).bind fun bt223 => ((spec_l20Rd_pick.f k t210 bt223.2 40).bind fun bt225 => (some (bt213.1, bt213.2.1, bt213.2.2.1, wrap64 ((wrap64 (bt221.1 + (wrap64 ((wrap64 (Int.tdiv bt223.1 39)) * 61)))) - (wrap64 ((wrap64 (Int.tdiv bt225.1 39)) * 99))))))))) = some (r1, r2, r3, r4) := H
 have A2 := Aside0.mk A20
 clear A20
 replace H := Option.bind_eq_some_iff.mp H
 obtain ⟨⟨t213, t216, t217, t220⟩, A30, H⟩ := H
 replace H : ((spec_l20Rd_pick.f k t210 t220 14).bind fun bt221 => ((spec_l20Rd_pick.f k t210 bt221.2 40).bind fun bt223 => ((spec_l20Rd_pick.f k t210 bt223.2 40).bind fun bt225 => (some (t213, t216, t217, wrap64 ((wrap64 (bt221.1 + (wrap64 ((wrap64 (Int.tdiv bt223.1 39)) * 61)))) - (wrap64 ((wrap64 (Int.tdiv bt225.1 39)) * 99)))))))) = some (r1, r2, r3, r4) := H
 have A3 := Aside0.mk A30
 clear A30
 replace H := Option.bind_eq_some_iff.mp H
 obtain ⟨⟨t221, t222⟩, A40, H⟩ := H
 replace H : ((spec_l20Rd_pick.f k t210 t222 40).bind fun bt223 => ((spec_l20Rd_pick.f k t210 bt223.2 40).bind fun bt225 => (some (t213, t216, t217, wrap64 ((wrap64 (t221 + (wrap64 ((wrap64 (Int.tdiv bt223.1 39)) * 61)))) - (wrap64 ((wrap64 (Int.tdiv bt225.1 39)) * 99))))))) = some (r1, r2, r3, r4) := H
 have A4 := Aside0.mk A40
 clear A40
 replace H := Option.bind_eq_some_iff.mp H
 obtain ⟨⟨t223, t224⟩, A50, H⟩ := H
 replace H : ((spec_l20Rd_pick.f k t210 t224 40).bind fun bt225 => (some (t213, t216, t217, wrap64 ((wrap64 (t221 + (wrap64 ((wrap64 (Int.tdiv t223 39)) * 61)))) - (wrap64 ((wrap64 (Int.tdiv bt225.1 39)) * 99)))))) = some (r1, r2, r3, r4) := H
 have A5 := Aside0.mk A50
 clear A50
 replace H := Option.bind_eq_some_iff.mp H
 obtain ⟨⟨t225, t226⟩, A60, H⟩ := H
 replace H : (some (t213, t216, t217, wrap64 ((wrap64 (t221 + (wrap64 ((wrap64 (Int.tdiv t223 39)) * 61)))) - (wrap64 ((wrap64 (Int.tdiv t225 39)) * 99))))) = some (r1, r2, r3, r4) := H
 have A6 := Aside0.mk A60
 clear A60
 simp only [Option.some.injEq, Prod.mk.injEq] at H
 obtain ⟨rfl, rfl, rfl, rfl⟩ := H
 go_enter Try.func25, Try.ntmps25
 go_wp2_with (first | ((with_reducible refine gate_callee (f := 34) rfl ?_); refine goesL_ (some 11) rfl rfl Try.func34 (by kernel_rfl) rfl #[.slice A0 l0.length c0] rfl zA ?_; (with_reducible refine (spec_l20Open.calls _ _ l0 t210 t211 w _ ?side1 ?side2 ?side3 A2.out).mono ?_); (case side1 => exact zB HB.out); (case side2 => exact HR0.out); (case side3 => exact HC0.out); rintro e w7 ⟨g212, rfl, hi, hb, hb2⟩; refine ⟨_, rfl, ?_⟩; have n0_ := Aside0.mk (hb); have n1_ := Aside0.mk (hi); clear HB; have HB := n0_; have HI212 := n1_; clear n0_ n1_; (try clear hb); (try clear hb2); (try clear hk); (try clear hi)) | ((with_reducible refine gate_callee (f := 43) rfl ?_); refine goesL_ (some 14) rfl rfl Try.func43 (by kernel_rfl) rfl #[.pointer (some ⟨g212, 0, none⟩), .int .i64 14] rfl zA ?_; (with_reducible refine (spec_l20Fire.calls k g212 t210 t211 14 t213 t216 t217 t220 w _ ?side1 ?side2 A3.out).mono ?_); (case side1 => exact zI63 HI212.out); (case side2 => exact zE63 HB.out HI212.out); rintro e w8 ⟨v214, v218, rfl, ho0, ho1, hi, hb, hk⟩; refine ⟨_, rfl, ?_⟩; have n0_ := Aside0.mk (Kd.R_lower ho0 (below_size (zE63 HB.out HI212.out))); have n1_ := Aside0.mk (Kd.R_lower ho1 (below_size (zE63 HB.out HI212.out))); have n2_ := Aside0.mk (hb); have n3_ := Aside0.mk (hi); clear HB; clear HI212; have HO215 := n0_; have HO219 := n1_; have HB := n2_; have HI212 := n3_; clear n0_ n1_ n2_ n3_; (try clear hb); (try clear hb2); (try clear hk); (try clear hi); (try clear ho0); (try clear ho1)) | ((with_reducible refine gate_callee (f := 44) rfl ?_); refine goesL_ (some 22) rfl rfl Try.func44 (by kernel_rfl) rfl #[.pointer (some ⟨g212, 0, none⟩), .int .i64 14] rfl zA ?_; (with_reducible refine (spec_l20Rd_pick.calls k g212 t210 t220 14 t221 t222 w _ ?side1 ?side2 A4.out).mono ?_); (case side1 => exact zI63 HI212.out); (case side2 => exact zE63 HB.out HI212.out); rintro e w9 ⟨rfl, hi, hb, hk⟩; refine ⟨_, rfl, ?_⟩; have n0_ := Aside0.mk (Kd.R_mono (Kd.R_keep (IsS63.apart (show IsS63 w _ g212 t210 t220 from zI63 HI212.out) (zR HO215.out) (by decide)) hk (fun _ h => h.2)) (fun _ h => h.1)); have n1_ := Aside0.mk (Kd.R_mono (Kd.R_keep (IsS63.apart (show IsS63 w _ g212 t210 t220 from zI63 HI212.out) (zR HO219.out) (by decide)) hk (fun _ h => h.2)) (fun _ h => h.1)); have n2_ := Aside0.mk (hb); have n3_ := Aside0.mk (hi); clear HO215; clear HO219; clear HB; clear HI212; have HO215 := n0_; have HO219 := n1_; have HB := n2_; have HI212 := n3_; clear n0_ n1_ n2_ n3_; (try clear hb); (try clear hb2); (try clear hk); (try clear hi)) | ((with_reducible refine gate_callee (f := 44) rfl ?_); refine goesL_ (some 24) rfl rfl Try.func44 (by kernel_rfl) rfl #[.pointer (some ⟨g212, 0, none⟩), .int .i64 40] rfl zA ?_; (with_reducible refine (spec_l20Rd_pick.calls k g212 t210 t222 40 t223 t224 w _ ?side1 ?side2 A5.out).mono ?_); (case side1 => exact zI63 HI212.out); (case side2 => exact zE63 HB.out HI212.out); rintro e w10 ⟨rfl, hi, hb, hk⟩; refine ⟨_, rfl, ?_⟩; have n0_ := Aside0.mk (Kd.R_mono (Kd.R_keep (IsS63.apart (show IsS63 w _ g212 t210 t222 from zI63 HI212.out) (zR HO215.out) (by decide)) hk (fun _ h => h.2)) (fun _ h => h.1)); have n1_ := Aside0.mk (Kd.R_mono (Kd.R_keep (IsS63.apart (show IsS63 w _ g212 t210 t222 from zI63 HI212.out) (zR HO219.out) (by decide)) hk (fun _ h => h.2)) (fun _ h => h.1)); have n2_ := Aside0.mk (hb); have n3_ := Aside0.mk (hi); clear HO215; clear HO219; clear HB; clear HI212; have HO215 := n0_; have HO219 := n1_; have HB := n2_; have HI212 := n3_; clear n0_ n1_ n2_ n3_; (try clear hb); (try clear hb2); (try clear hk); (try clear hi)) | ((with_reducible refine gate_callee (f := 44) rfl ?_); refine goesL_ (some 29) rfl rfl Try.func44 (by kernel_rfl) rfl #[.pointer (some ⟨g212, 0, none⟩), .int .i64 40] rfl zA ?_; (with_reducible refine (spec_l20Rd_pick.calls k g212 t210 t224 40 t225 t226 w _ ?side1 ?side2 A6.out).mono ?_); (case side1 => exact zI63 HI212.out); (case side2 => exact zE63 HB.out HI212.out); rintro e w11 ⟨rfl, hi, hb, hk⟩; refine ⟨_, rfl, ?_⟩; have n0_ := Aside0.mk (Kd.R_mono (Kd.R_keep (IsS63.apart (show IsS63 w _ g212 t210 t224 from zI63 HI212.out) (zR HO215.out) (by decide)) hk (fun _ h => h.2)) (fun _ h => h.1)); have n1_ := Aside0.mk (Kd.R_mono (Kd.R_keep (IsS63.apart (show IsS63 w _ g212 t210 t224 from zI63 HI212.out) (zR HO219.out) (by decide)) hk (fun _ h => h.2)) (fun _ h => h.1)); have n2_ := Aside0.mk (hb); have n3_ := Aside0.mk (hi); clear HO215; clear HO219; clear HB; clear HI212; have HO215 := n0_; have HO219 := n1_; have HB := n2_; have HI212 := n3_; clear n0_ n1_ n2_ n3_; (try clear hb); (try clear hb2); (try clear hk); (try clear hi)))
 refine bodyPost_ret (results_list (rs := [.tmp 2, .tmp 3, .tmp 4, .tmp 5]) rfl (by simp) (.tmp (.tmp (.tmp (.tmp .nil))))) rfl ?_
 exact ⟨_, _, by first | rfl | (simp [errW_none, errW_some] <;> rfl) | (simp [*, errW_none, errW_some] <;> rfl), by (with_reducible repeat (first | apply Kd.R_alloc | apply Kd.R_drewN | apply Kd.R_drew)); exact HO215.out, by (with_reducible repeat (first | apply Kd.R_alloc | apply Kd.R_drewN | apply Kd.R_drew)); exact HO219.out, zE63 HB.out HI212.out⟩

/-! ### spec_DrawFiredRow: function 7 -/
def spec_DrawFiredRow.f (k : Nat) (l0 : List Int) : Option (List Int × Int × List Int × Int) := (spec_DrawFireRun.f k l0).bind fun bt227 => (some (bt227.1, bt227.2.1, bt227.2.2.1, bt227.2.2.2))
theorem spec_DrawFiredRow.mono : ∀ a0 k, LeO (spec_DrawFiredRow.f k a0) (spec_DrawFiredRow.f (k + 1) a0) := by
 intro a0 k
 unfold spec_DrawFiredRow.f
 repeat' first
   | (with_reducible exact spec_DrawFireRun.mono _ _)
   | (with_reducible exact LeO.refl _)
   | (with_reducible exact LeO.none _)
   | (with_reducible refine LeO.ite ?_ ?_)
   | (with_reducible refine LeO.bind ?_ (fun _ => ?_))
   | exact spec_DrawFireRun.mono _ _
   | exact LeO.none _
   | refine LeO.ite ?_ ?_
   | refine LeO.bind ?_ (fun _ => ?_)
set_option maxHeartbeats 8000000 in
set_option maxRecDepth 100000 in
theorem spec_DrawFiredRow.calls (k : Nat) (A0 : Option Addr) (c0 : Nat) (l0 : List Int) (r1 : List Int) (r2 : Int) (r3 : List Int) (r4 : Int) (w : World) (hr0 : Kd.C (Kd.int .u8) w A0 l0.length l0) (hc0 : l0.length ≤ c0) (h : spec_DrawFiredRow.f k l0 = some (r1, r2, r3, r4)) :
  Calls Try.prog 7 #[.slice A0 l0.length c0] w fun e w' => ∃ v0_ v2_ : Value, e = .returned (.tuple #[v0_, .int .i64 r2, v2_, .int .i64 r4]) ∧ Kd.R (Kd.int .i64) 3 w' w.heap.size (fun k_ => some k_ ≠ (v2_ : Value).ownBlock) v0_ r1 ∧ Kd.R (Kd.int .i64) 3 w' w.heap.size (fun k_ => some k_ ≠ (v0_ : Value).ownBlock) v2_ r3 ∧ Below w.heap.size w w' := by
 have HR0 := Aside0.mk hr0
 have HC0 := Aside0.mk hc0
 clear hr0 hc0
 have HB := Aside0.mk (Below.refl w.heap.size w)
 have H : ((spec_DrawFireRun.f k l0).bind fun bt227 => (some (bt227.1, bt227.2.1, bt227.2.2.1, bt227.2.2.2))) = some (r1, r2, r3, r4) := h
 clear h
 replace H := Option.bind_eq_some_iff.mp H
 obtain ⟨⟨t227, t228, t229, t230⟩, A20, H⟩ := H
 replace H : (some (t227, t228, t229, t230)) = some (r1, r2, r3, r4) := H
 have A2 := Aside0.mk A20
 clear A20
 simp only [Option.some.injEq, Prod.mk.injEq] at H
 obtain ⟨rfl, rfl, rfl, rfl⟩ := H
 go_enter Try.func7, Try.ntmps7
 go_wp2_with (first | ((with_reducible refine gate_callee (f := 25) rfl ?_); refine goesL_ (some 7) rfl rfl Try.func25 (by kernel_rfl) rfl #[.slice A0 l0.length c0] rfl zA ?_; (with_reducible refine (spec_DrawFireRun.calls k _ _ l0 t227 t228 t229 t230 _ ?side1 ?side2 A2.out).mono ?_); (case side1 => exact zC HR0.out); (case side2 => exact HC0.out); rintro e w3 ⟨v231, v233, rfl, ho0, ho1, hb⟩; refine ⟨_, rfl, ?_⟩; have n0_ := Aside0.mk (Kd.R_lower ho0 (below_size (zB HB.out))); have n1_ := Aside0.mk (Kd.R_lower ho1 (below_size (zB HB.out))); have n2_ := Aside0.mk (below_step (zB HB.out) hb); clear HB; have HO232 := n0_; have HO234 := n1_; have HB := n2_; clear n0_ n1_ n2_; (try clear hb); (try clear hb2); (try clear hk); (try clear hi); (try clear ho0); (try clear ho1)))
 refine bodyPost_ret (results_list (rs := [.tmp 2, .tmp 3, .tmp 4, .tmp 5]) rfl (by simp) (.tmp (.tmp (.tmp (.tmp .nil))))) rfl ?_
 exact ⟨_, _, by first | rfl | (simp [errW_none, errW_some] <;> rfl) | (simp [*, errW_none, errW_some] <;> rfl), by (with_reducible repeat (first | apply Kd.R_alloc | apply Kd.R_drewN | apply Kd.R_drew)); exact HO232.out, by (with_reducible repeat (first | apply Kd.R_alloc | apply Kd.R_drewN | apply Kd.R_drew)); exact HO234.out, zB HB.out⟩

/-! ### spec_FiredRow: function 10 -/
mutual
def spec_FiredRow.j0 : Nat → List Int → Int → List Int → Int → Bool → Option (List Int)
 | 0, _, _, _, _, _ => none
 | k + 1, x0, x1, x2, x3, x22 => if x22 = true then (some (([] : List Int))) else (if 0 ≤ (x0.length : Int) then (if ((x0.length : Int) : Int).toNat ≤ 35184372088832 then ((some (([] : List Int) : List Int)).bind fun y327 => (if y327.length + x2.length < 17592186044416 then (spec_FiredRow.l0 k x0 x1 x3 (List.replicate ((x0.length : Int) : Int).toNat 0) (y327 ++ x2) 0) else (none))) else (none)) else (none))
def spec_FiredRow.l0 : Nat → List Int → Int → Int → List Int → List Int → Int → Option (List Int)
 | 0, _, _, _, _, _, _ => none
 | k + 1, x0, x1, x3, x9, x10, x11 => if x11 < x3 then ((spec_l3Step.f k x0 x1 x10).bind fun t333 => (spec_FiredRow.l1 k x0 x1 x3 x9 t333 x11 0)) else (some x9)
def spec_FiredRow.l1 : Nat → List Int → Int → Int → List Int → List Int → Int → Int → Option (List Int)
 | 0, _, _, _, _, _, _, _ => none
 | k + 1, x0, x1, x3, x9, x10, x11, x12 => if x12 < (x10.length : Int) then (if 0 ≤ x12 then (if (rd x10 x12) = 1 then (if x12 < (x9.length : Int) then (spec_FiredRow.l1 k x0 x1 x3 (x9.set (x12 : Int).toNat (wrap64 ((rd x9 x12) + 1))) x10 x11 (wrap64 (x12 + 1))) else (none)) else (spec_FiredRow.l1 k x0 x1 x3 x9 x10 x11 (wrap64 (x12 + 1)))) else (none)) else (spec_FiredRow.l0 k x0 x1 x3 x9 x10 (wrap64 (x11 + 1)))
end
def spec_FiredRow.f (k : Nat) (l0 : List Int) (a1 : Int) (l2 : List Int) (a3 : Int) : Option (List Int) := (spec_l3Ok.f k l0 a1 l2).bind fun t319 => (if t319 = true then ((spec_l1In.f a3 0 60).bind fun t320 => (spec_FiredRow.j0 k l0 a1 l2 a3 (!t320))) else (spec_FiredRow.j0 k l0 a1 l2 a3 true))
theorem spec_FiredRow.mono_l : ∀ k, (∀ y0 y1 y2 y3 y4, LeO (spec_FiredRow.j0 k y0 y1 y2 y3 y4) (spec_FiredRow.j0 (k + 1) y0 y1 y2 y3 y4)) ∧ (∀ y0 y1 y2 y3 y4 y5, LeO (spec_FiredRow.l0 k y0 y1 y2 y3 y4 y5) (spec_FiredRow.l0 (k + 1) y0 y1 y2 y3 y4 y5)) ∧ (∀ y0 y1 y2 y3 y4 y5 y6, LeO (spec_FiredRow.l1 k y0 y1 y2 y3 y4 y5 y6) (spec_FiredRow.l1 (k + 1) y0 y1 y2 y3 y4 y5 y6))
 | 0 => ⟨fun _ _ _ _ _ r h => by simp [spec_FiredRow.j0] at h, fun _ _ _ _ _ _ r h => by simp [spec_FiredRow.l0] at h, fun _ _ _ _ _ _ _ r h => by simp [spec_FiredRow.l1] at h⟩
 | k + 1 => by
  obtain ⟨ih0, ih1, ih2⟩ := spec_FiredRow.mono_l k
  refine ⟨?_, ?_, ?_⟩
  ·intro y0 y1 y2 y3 y4
   unfold spec_FiredRow.j0
   repeat' first
   | (with_reducible exact ih0 _ _ _ _ _)
   | (with_reducible exact ih1 _ _ _ _ _ _)
   | (with_reducible exact ih2 _ _ _ _ _ _ _)
   | (with_reducible exact spec_l3Ok.mono _ _ _ _)
   | (with_reducible exact spec_l3Step.mono _ _ _ _)
   | (with_reducible exact LeO.refl _)
   | (with_reducible exact LeO.none _)
   | (with_reducible refine LeO.ite ?_ ?_)
   | (with_reducible refine LeO.bind ?_ (fun _ => ?_))
   | exact ih0 _ _ _ _ _
   | exact ih1 _ _ _ _ _ _
   | exact ih2 _ _ _ _ _ _ _
   | exact spec_l3Ok.mono _ _ _ _
   | exact spec_l3Step.mono _ _ _ _
   | exact LeO.none _
   | refine LeO.ite ?_ ?_
   | refine LeO.bind ?_ (fun _ => ?_)
  ·intro y0 y1 y2 y3 y4 y5
   unfold spec_FiredRow.l0
   repeat' first
   | (with_reducible exact ih0 _ _ _ _ _)
   | (with_reducible exact ih1 _ _ _ _ _ _)
   | (with_reducible exact ih2 _ _ _ _ _ _ _)
   | (with_reducible exact spec_l3Ok.mono _ _ _ _)
   | (with_reducible exact spec_l3Step.mono _ _ _ _)
   | (with_reducible exact LeO.refl _)
   | (with_reducible exact LeO.none _)
   | (with_reducible refine LeO.ite ?_ ?_)
   | (with_reducible refine LeO.bind ?_ (fun _ => ?_))
   | exact ih0 _ _ _ _ _
   | exact ih1 _ _ _ _ _ _
   | exact ih2 _ _ _ _ _ _ _
   | exact spec_l3Ok.mono _ _ _ _
   | exact spec_l3Step.mono _ _ _ _
   | exact LeO.none _
   | refine LeO.ite ?_ ?_
   | refine LeO.bind ?_ (fun _ => ?_)
  ·intro y0 y1 y2 y3 y4 y5 y6
   unfold spec_FiredRow.l1
   repeat' first
   | (with_reducible exact ih0 _ _ _ _ _)
   | (with_reducible exact ih1 _ _ _ _ _ _)
   | (with_reducible exact ih2 _ _ _ _ _ _ _)
   | (with_reducible exact spec_l3Ok.mono _ _ _ _)
   | (with_reducible exact spec_l3Step.mono _ _ _ _)
   | (with_reducible exact LeO.refl _)
   | (with_reducible exact LeO.none _)
   | (with_reducible refine LeO.ite ?_ ?_)
   | (with_reducible refine LeO.bind ?_ (fun _ => ?_))
   | exact ih0 _ _ _ _ _
   | exact ih1 _ _ _ _ _ _
   | exact ih2 _ _ _ _ _ _ _
   | exact spec_l3Ok.mono _ _ _ _
   | exact spec_l3Step.mono _ _ _ _
   | exact LeO.none _
   | refine LeO.ite ?_ ?_
   | refine LeO.bind ?_ (fun _ => ?_)
theorem spec_FiredRow.mono : ∀ a0 a1 a2 a3 k, LeO (spec_FiredRow.f k a0 a1 a2 a3) (spec_FiredRow.f (k + 1) a0 a1 a2 a3) := by
 intro a0 a1 a2 a3 k
 obtain ⟨ih0, ih1, ih2⟩ := spec_FiredRow.mono_l k
 unfold spec_FiredRow.f
 repeat' first
   | (with_reducible exact ih0 _ _ _ _ _)
   | (with_reducible exact ih1 _ _ _ _ _ _)
   | (with_reducible exact ih2 _ _ _ _ _ _ _)
   | (with_reducible exact spec_l3Ok.mono _ _ _ _)
   | (with_reducible exact spec_l3Step.mono _ _ _ _)
   | (with_reducible exact LeO.refl _)
   | (with_reducible exact LeO.none _)
   | (with_reducible refine LeO.ite ?_ ?_)
   | (with_reducible refine LeO.bind ?_ (fun _ => ?_))
   | exact ih0 _ _ _ _ _
   | exact ih1 _ _ _ _ _ _
   | exact ih2 _ _ _ _ _ _ _
   | exact spec_l3Ok.mono _ _ _ _
   | exact spec_l3Step.mono _ _ _ _
   | exact LeO.none _
   | refine LeO.ite ?_ ?_
   | refine LeO.bind ?_ (fun _ => ?_)
set_option maxHeartbeats 8000000 in
set_option maxRecDepth 100000 in
theorem spec_FiredRow.calls (k : Nat) (A0 : Option Addr) (c0 : Nat) (l0 : List Int) (a1 : Int) (A2 : Option Addr) (c2 : Nat) (l2 : List Int) (a3 : Int) (r : List Int) (w : World) (hr0 : Kd.C (Kd.int .i64) w A0 l0.length l0) (hc0 : l0.length ≤ c0) (hr2 : Kd.C (Kd.int .i64) w A2 l2.length l2) (hc2 : l2.length ≤ c2) (h : spec_FiredRow.f k l0 a1 l2 a3 = some r) :
  Calls Try.prog 10 #[.slice A0 l0.length c0, .int .i64 a1, .slice A2 l2.length c2, .int .i64 a3] w fun e w' => ∃ v0_ : Value, e = .returned (v0_) ∧ Kd.R (Kd.int .i64) 3 w' w.heap.size (fun _ => True) v0_ r ∧ Below w.heap.size w w' := by
 have HR0 := Aside0.mk hr0
 have HC0 := Aside0.mk hc0
 clear hr0 hc0
 have HR2 := Aside0.mk hr2
 have HC2 := Aside0.mk hc2
 clear hr2 hc2
 have HB := Aside0.mk (Below.refl w.heap.size w)
 have H : ((spec_l3Ok.f k l0 a1 l2).bind fun t319 => (if t319 = true then ((spec_l1In.f a3 0 60).bind fun t320 => (spec_FiredRow.j0 k l0 a1 l2 a3 (!t320))) else (spec_FiredRow.j0 k l0 a1 l2 a3 true))) = some r := h
 clear h
 have HC5 := Aside0.mk H
 clear H
 go_enter Try.func10, Try.ntmps10
 go_upto_region 1 with (fail)
 go_cut [22] (fun v22 wc => ∃ (kq : Nat) (x22_4 : Bool), v22 = .bool x22_4 ∧ Aside0 (spec_FiredRow.j0 kq l0 a1 l2 a3 x22_4 = some r) ∧ Aside0 (kq ≤ k) ∧ Aside0 (Below w.heap.size w wc))
 case first =>
  have H := HC5.out
  clear HC5
  replace H := Option.bind_eq_some_iff.mp H
  obtain ⟨t319, A60, H⟩ := H
  replace H : (if t319 = true then ((spec_l1In.f a3 0 60).bind fun t320 => (spec_FiredRow.j0 k l0 a1 l2 a3 (!t320))) else (spec_FiredRow.j0 k l0 a1 l2 a3 true)) = some r := H
  have A6 := Aside0.mk A60
  clear A60
  by_cases c7 : t319 = true
  ·subst c7
   have H1 : ((spec_l1In.f a3 0 60).bind fun t320 => (spec_FiredRow.j0 k l0 a1 l2 a3 (!t320))) = some r := by rw [if_pos rfl] at H; exact H
   clear H
   have H := H1
   clear H1
   replace H := Option.bind_eq_some_iff.mp H
   obtain ⟨t320, A80, H⟩ := H
   replace H : (spec_FiredRow.j0 k l0 a1 l2 a3 (!t320)) = some r := H
   have A8 := Aside0.mk A80
   clear A80
   have H' := Aside0.mk H
   clear H
   go_wp2_with (first | ((with_reducible refine gate_callee (f := 26) rfl ?_); refine goesL_ (some 16) rfl rfl Try.func26 (by kernel_rfl) rfl #[.slice A0 l0.length c0, .int .i64 a1, .slice A2 l2.length c2] rfl zA ?_; (with_reducible refine (spec_l3Ok.calls k _ _ l0 a1 _ _ l2 true _ ?side1 ?side2 ?side3 ?side4 A6.out).mono ?_); (case side1 => exact zC (Kd.C_below HR0.out HB.out)); (case side2 => exact HC0.out); (case side3 => exact zC (Kd.C_below HR2.out HB.out)); (case side4 => exact HC2.out); rintro e w' ⟨rfl, ⟨nd, rfl⟩⟩; refine ⟨_, rfl, ?_⟩) | (go_at_call 27; (with_reducible refine (spec_l1In.calls a3 0 60 t320 _ A8.out).mono ?_); rintro e w' ⟨rfl, ⟨nd, rfl⟩⟩))
   go_meet
   case rel => exact ⟨_, (!t320), (by first | rfl | (simp; done) | (simp [*]; done)), H', ⟨by first | omega | exact Nat.le_refl _⟩, ⟨zB HB.out⟩⟩
  ·replace c7 := Bool.eq_false_iff.mpr c7
   subst c7
   have H1 : (spec_FiredRow.j0 k l0 a1 l2 a3 true) = some r := by rw [if_neg (show ¬ (false = true) by decide)] at H; exact H
   clear H
   have H := H1
   clear H1
   have H' := Aside0.mk H
   clear H
   go_wp2_with (first | ((with_reducible refine gate_callee (f := 26) rfl ?_); refine goesL_ (some 16) rfl rfl Try.func26 (by kernel_rfl) rfl #[.slice A0 l0.length c0, .int .i64 a1, .slice A2 l2.length c2] rfl zA ?_; (with_reducible refine (spec_l3Ok.calls k _ _ l0 a1 _ _ l2 false _ ?side1 ?side2 ?side3 ?side4 A6.out).mono ?_); (case side1 => exact zC (Kd.C_below HR0.out HB.out)); (case side2 => exact HC0.out); (case side3 => exact zC (Kd.C_below HR2.out HB.out)); (case side4 => exact HC2.out); rintro e w' ⟨rfl, ⟨nd, rfl⟩⟩; refine ⟨_, rfl, ?_⟩))
   go_meet
   case rel => exact ⟨_, (true), (by first | rfl | (simp; done) | (simp [*]; done)), H', ⟨by first | omega | exact Nat.le_refl _⟩, ⟨zB HB.out⟩⟩
 case rest =>
  clear HC5
  try clear c1
  try clear c2
  try clear p2
  try clear c7
  obtain ⟨kq, x22_4, rfl, HA, HJ4, HB⟩ := hcut
  cases kq with
  | zero => exact absurd HA.out (by simp [spec_FiredRow.j0])
  | succ kj4 =>
   have H := HA.out
   clear HA
   simp only [spec_FiredRow.j0] at H
   by_cases c9 : x22_4 = true
   ·subst c9
    have H1 : (some (([] : List Int))) = some r := by rw [if_pos rfl] at H; exact H
    clear H
    have H := H1
    clear H1
    obtain ⟨y321, hy321⟩ : ∃ y_ : List Int, y_ = (([] : List Int)) := ⟨_, rfl⟩
    replace H : (some y321) = some r := by first | (rw [hy321]; with_reducible exact H) | (have H2_ := (Option.bind_some _ _).symm.trans H; rw [hy321]; with_reducible exact H2_) | (have H2_ := (Option.bind_some _ _).symm.trans H; with_reducible exact H2_) | with_reducible exact H | (rw [hy321]; exact H) | exact H
    have Ny321 := Aside0.mk hy321
    clear hy321
    obtain rfl := Option.some.inj H
    go_wp2_with (first | ((with_reducible refine gate_dst (N := 23) rfl ?_); refine Kd.R_lit (Kd.int .i64) _ 3 ?hg (N := 23) ?hd (xs := ([] : List Int)) (inner := []) (ok := fun _ => True) (okp := fun _ => True) ?hr ?hp (fun _ hk => hk) trivial (Below.refl _ _) (Nat.le_refl _) (by simp) ?_; (case hd => rfl); (case hg => rfl); (case hr => first | (go_simp; done) | (go_simp; rfl)); (case hp => exact (Reps.none _ _)); intro v322 w10 ho11 hb hg_ hnew_; clear hg_ hnew_; (first | rw [← Ny321.out] at ho11 | (simp only [Int.reduceToNat] at ho11; rw [← Ny321.out] at ho11)); have n0_ := Aside0.mk (Kd.R_lower ho11 (below_size (zB HB.out))); have n1_ := Aside0.mk (below_step (zB HB.out) hb); clear HB; have HO323 := n0_; have HB := n1_; clear n0_ n1_; clear hb ho11))
    go_ret
    exact ⟨_, by first | rfl | (simp [errW_none, errW_some] <;> rfl) | (simp [*, errW_none, errW_some] <;> rfl), by (with_reducible repeat (first | apply Kd.R_alloc | apply Kd.R_drewN | apply Kd.R_drew)); exact HO323.out, zB HB.out⟩
   ·replace c9 := Bool.eq_false_iff.mpr c9
    subst c9
    have H1 : (if 0 ≤ (l0.length : Int) then (if ((l0.length : Int) : Int).toNat ≤ 35184372088832 then ((some (([] : List Int) : List Int)).bind fun y327 => (if y327.length + l2.length < 17592186044416 then (spec_FiredRow.l0 kj4 l0 a1 a3 (List.replicate ((l0.length : Int) : Int).toNat 0) (y327 ++ l2) 0) else (none))) else (none)) else (none)) = some r := by rw [if_neg (show ¬ (false = true) by decide)] at H; exact H
    clear H
    have H := H1
    clear H1
    by_cases c12 : 0 ≤ (l0.length : Int)
    ·rw [if_pos c12] at H
     have c12b0 := eq_true c12
     have c12b1 : decide (0 ≤ (l0.length : Int)) = true := decide_eq_true c12
     clear c12
     by_cases c13 : ((l0.length : Int) : Int).toNat ≤ 35184372088832
     ·rw [if_pos c13] at H
      have c13b0 := eq_true c13
      have c13b1 : decide (((l0.length : Int) : Int).toNat ≤ 35184372088832) = true := decide_eq_true c13
      clear c13
      obtain ⟨y324, hy324⟩ : ∃ y_ : List Int, y_ = (List.replicate ((l0.length : Int) : Int).toNat 0) := ⟨_, rfl⟩
      replace H : ((some (([] : List Int) : List Int)).bind fun y327 => (if y327.length + l2.length < 17592186044416 then (spec_FiredRow.l0 kj4 l0 a1 a3 y324 (y327 ++ l2) 0) else (none))) = some r := by first | (rw [hy324]; with_reducible exact H) | (have H2_ := (Option.bind_some _ _).symm.trans H; rw [hy324]; with_reducible exact H2_) | (have H2_ := (Option.bind_some _ _).symm.trans H; with_reducible exact H2_) | with_reducible exact H | (rw [hy324]; exact H) | exact H
      have Ny324 := Aside0.mk hy324
      clear hy324
      obtain ⟨y327, hy327⟩ : ∃ y_ : List Int, y_ = (([] : List Int)) := ⟨_, rfl⟩
      replace H : (if y327.length + l2.length < 17592186044416 then (spec_FiredRow.l0 kj4 l0 a1 a3 y324 (y327 ++ l2) 0) else (none)) = some r := by first | (rw [hy327]; with_reducible exact H) | (have H2_ := (Option.bind_some _ _).symm.trans H; rw [hy327]; with_reducible exact H2_) | (have H2_ := (Option.bind_some _ _).symm.trans H; with_reducible exact H2_) | with_reducible exact H | (rw [hy327]; exact H) | exact H
      have Ny327 := Aside0.mk hy327
      clear hy327
      by_cases c14 : y327.length + l2.length < 17592186044416
      ·rw [if_pos c14] at H
       have LMc14 := Aside0.mk c14
       clear c14
       obtain ⟨y330, hy330⟩ : ∃ y_ : List Int, y_ = (y327 ++ l2) := ⟨_, rfl⟩
       replace H : (spec_FiredRow.l0 kj4 l0 a1 a3 y324 y330 0) = some r := by first | (rw [hy330]; with_reducible exact H) | (have H2_ := (Option.bind_some _ _).symm.trans H; rw [hy330]; with_reducible exact H2_) | (have H2_ := (Option.bind_some _ _).symm.trans H; with_reducible exact H2_) | with_reducible exact H | (rw [hy330]; exact H) | exact H
       have Ny330 := Aside0.mk hy330
       clear hy330
       have H' := Aside0.mk H
       clear H
       go_wp2_with (first | ((with_reducible refine gate_dst (N := 26) rfl ?_); refine Kd.R_make (Kd.int .i64) _ 3 rfl (N := 26) rfl 23 _ _ rfl (l0.length : Int) rfl rfl Try.underlying23 (.int .i64 0) 8 info3 rfl (by decide) (by omega) 0 (ok := fun _ => True) (okp := fun _ => True) rfl (fun _ hk => hk) trivial (zD) (Nat.le_trans (Nat.mul_le_mul_right _ (zD : (l0.length : Int).toNat ≤ 35184372088832)) (by omega)) (Below.refl _ _) (Nat.le_refl _) ?_; intro v325 w15 ho16 hb hg_ hnew_; clear hg_ hnew_; (first | rw [← Ny324.out] at ho16 | (simp only [Int.reduceToNat] at ho16; rw [← Ny324.out] at ho16)); have n0_ := Aside0.mk (Kd.R_lower ho16 (below_size (zB HB.out))); have n1_ := Aside0.mk (below_step (zB HB.out) hb); clear HB; have HO326 := n0_; have HB := n1_; clear n0_ n1_; clear hb ho16) | ((with_reducible refine gate_dst (N := 27) rfl ?_); refine Kd.R_lit (Kd.int .i64) _ 3 ?hg (N := 27) ?hd (xs := ([] : List Int)) (inner := []) (ok := fun _ => True) (okp := fun _ => True) ?hr ?hp (fun _ hk => hk) trivial (Below.refl _ _) (Nat.le_refl _) (by simp) ?_; (case hd => rfl); (case hg => rfl); (case hr => first | (go_simp; done) | (go_simp; rfl)); (case hp => exact (Reps.none _ _)); intro v328 w17 ho18 hb hg_ hnew_; clear hg_ hnew_; (first | rw [← Ny327.out] at ho18 | (simp only [Int.reduceToNat] at ho18; rw [← Ny327.out] at ho18)); have n0_ := Aside0.mk (Kd.R_elder' (zR HO326.out) (Kd.R_base ho18) hb); have n1_ := Aside0.mk (Kd.R_lower (Kd.R_new' ho18 (Kd.R_lt (zR HO326.out))) (below_size (zB HB.out))); have n2_ := Aside0.mk (below_step (zB HB.out) hb); clear HO326; clear HB; have HO326 := n0_; have HO329 := n1_; have HB := n2_; clear n0_ n1_ n2_; clear hb ho18) | ((with_reducible refine gate_builtin (b := .append) (xs := #[.tmp 27, .tmp 28]) rfl ?_); at_builtin; refine Kd.R_append_rows (Kd.int .i64) (w0 := w) w.heap.size rfl (.tmp 27) (.tmp 28) 23 3 (.int .i64 0) 8 rfl Try.underlying23 info3 rfl (by decide) (by omega) v328 y327 l2 _ _ _ (fun k_ => some k_ ≠ (v325 : Value).ownBlock) (fun _ => False) rfl rfl ?aO ?aR (fun _ _ h => h) (fun _ h => h.elim) ?aF ?aB ?aS ?aL ?_; (case aR => exact zC (Kd.C_below HR2.out HB.out)); (case aB => exact (zB HB.out)); (case aF => exact (fun k_ hk => Kd.fresh' (Kd.R_lt (zR HO326.out)) k_ hk)); (case aO => exact (by (with_reducible repeat (first | apply Kd.R_alloc | apply Kd.R_drewN | apply Kd.R_drew)); exact Kd.R_mono HO329.out (fun _ hk => hk.2))); (case aS => exact (below_size (zB HB.out))); (case aL => have := LMc14.out; omega); intro v331 w19 ho hb hg hat; rw [← Ny330.out] at ho; have n0_ := Aside0.mk (Kd.R_after (ok := (fun _ => True)) (zR HO326.out) hg hat); have n1_ := Aside0.mk (hb); have n2_ := Aside0.mk (ho); clear HO326; clear HB; clear HO329; have HO326 := n0_; have HB := n1_; have HO332 := n2_; clear n0_ n1_ n2_; clear ho hb hg hat))
       go_loopg [10, 11] kj4 (fun kq v10 v11 w' => ∃ (x9_2 : List Int) (x10_2 : List Int) (x11_2 : Int), v11 = .int .i64 x11_2 ∧ Aside0 (spec_FiredRow.l0 kq l0 a1 a3 x9_2 x10_2 x11_2 = some r) ∧ Aside0 (kq ≤ kj4) ∧ Aside0 (Kd.R (Kd.int .i64) 3 w' w.heap.size (fun k_ => some k_ ≠ (v10 : Value).ownBlock) v325 x9_2) ∧ Aside0 (Kd.R (Kd.int .i64) 3 w' w.heap.size (fun k_ => some k_ ≠ (v325 : Value).ownBlock) v10 x10_2) ∧ Aside0 (Below w.heap.size w w'))
       case atStart => exact ⟨(y324), (y330), (0), (by first | rfl | (simp; done) | (simp [*]; done)), H', ⟨Nat.le_refl _⟩, ⟨by (with_reducible repeat (first | apply Kd.R_alloc | apply Kd.R_drewN | apply Kd.R_drew)); exact Kd.R_mono HO326.out (fun _ hk => hk.2)⟩, ⟨by (with_reducible repeat (first | apply Kd.R_alloc | apply Kd.R_drewN | apply Kd.R_drew)); exact HO332.out⟩, ⟨zB HB.out⟩⟩
       case round =>
        clear H'
        try clear c1
        try clear c2
        try clear p2
        try clear c7
        try clear c9
        try clear c10
        try clear c12
        try clear c12b0
        try clear c12b1
        try clear c13
        try clear c13b0
        try clear c13b1
        try clear c14
        try clear p2
        obtain ⟨x9_2, x10_2, x11_2, rfl, HA, HK2, HO_9, HO_10, HB⟩ := hrel
        cases gk with
        | zero => exact absurd HA.out (by simp [spec_FiredRow.l0])
        | succ k2 =>
         have H := HA.out
         clear HA
         simp only [spec_FiredRow.l0] at H
         by_cases c20 : x11_2 < a3
         ·rw [if_pos c20] at H
          have c20b0 : decide (x11_2 < a3) = true := decide_eq_true c20
          clear c20
          replace H := Option.bind_eq_some_iff.mp H
          obtain ⟨t333, A210, H⟩ := H
          replace H : (spec_FiredRow.l1 k2 l0 a1 a3 x9_2 t333 x11_2 0) = some r := H
          have A21 := Aside0.mk A210
          clear A210
          have H' := Aside0.mk H
          clear H
          obtain ⟨Ao22, co22, eo22⟩ := Kd.R_slice HO_10.out
          subst eo22
          go_wp2_with (first | ((with_reducible refine gate_callee (f := 28) rfl ?_); refine goesL_ (some 38) rfl rfl Try.func28 (by kernel_rfl) rfl #[.slice A0 l0.length c0, .int .i64 a1, .slice Ao22 x10_2.length co22] rfl zA ?_; (with_reducible refine (spec_l3Step.calls k2 _ _ l0 a1 _ _ x10_2 t333 _ ?side1 ?side2 ?side3 ?side4 A21.out).mono ?_); (case side1 => exact zC (Kd.C_below HR0.out HB.out)); (case side2 => exact HC0.out); (case side3 => exact zC (Kd.R_reads' HO_10.out).2.2); (case side4 => exact (Kd.R_reads' HO_10.out).2.1); rintro e w23 ⟨v334, rfl, ho0, hb⟩; refine ⟨_, rfl, ?_⟩; have n0_ := Aside0.mk (Kd.R_elder' (zR HO_9.out) (Kd.R_base ho0) hb); have n1_ := Aside0.mk (Kd.R_elder' (zR HO_10.out) (Kd.R_base ho0) hb); have n2_ := Aside0.mk (Kd.R_lower (Kd.R_new' (Kd.R_new' ho0 (Kd.R_lt (zR HO_9.out))) (Kd.R_lt (zR HO_10.out))) (below_size (zB HB.out))); have n3_ := Aside0.mk (below_step (zB HB.out) hb); clear HO_9; clear HO_10; clear HB; have HO_9 := n0_; have HO_10 := n1_; have HO335 := n2_; have HB := n3_; clear n0_ n1_ n2_ n3_; (try clear hb); (try clear hb2); (try clear hk); (try clear hi); (try clear ho0)))
          go_loopg [12] k2 (fun kq v12 w' => ∃ (x9_3 : List Int) (x12_3 : Int), v12 = .int .i64 x12_3 ∧ Aside0 (spec_FiredRow.l1 kq l0 a1 a3 x9_3 t333 x11_2 x12_3 = some r) ∧ Aside0 (kq ≤ k2) ∧ Aside0 (Kd.R (Kd.int .i64) 3 w' w.heap.size (fun k_ => some k_ ≠ (v334 : Value).ownBlock) v325 x9_3) ∧ Aside0 (Kd.R (Kd.int .i64) 3 w' w.heap.size (fun k_ => some k_ ≠ (v325 : Value).ownBlock) v334 t333) ∧ Aside0 (Below w.heap.size w w'))
          case atStart => exact ⟨(x9_2), (0), (by first | rfl | (simp; done) | (simp [*]; done)), H', ⟨Nat.le_refl _⟩, ⟨by (with_reducible repeat (first | apply Kd.R_alloc | apply Kd.R_drewN | apply Kd.R_drew)); exact Kd.R_mono HO_9.out (fun _ hk => hk.2)⟩, ⟨by (with_reducible repeat (first | apply Kd.R_alloc | apply Kd.R_drewN | apply Kd.R_drew)); exact Kd.R_mono HO335.out (fun _ hk => hk.1.2)⟩, ⟨zB HB.out⟩⟩
          case round =>
           clear H'
           try clear c1
           try clear c2
           try clear p2
           try clear c7
           try clear c9
           try clear c10
           try clear c12
           try clear c12b0
           try clear c12b1
           try clear c13
           try clear c13b0
           try clear c13b1
           try clear c14
           try clear c20
           try clear c20b0
           try clear p2
           obtain ⟨x9_3, x12_3, rfl, HA, HK3, HO_9, HO_10, HB⟩ := hrel
           cases gk with
           | zero => exact absurd HA.out (by simp [spec_FiredRow.l1])
           | succ k3 =>
            have H := HA.out
            clear HA
            simp only [spec_FiredRow.l1] at H
            by_cases c24 : x12_3 < (t333.length : Int)
            ·rw [if_pos c24] at H
             have c24b0 : decide (x12_3 < (t333.length : Int)) = true := decide_eq_true c24
             clear c24
             by_cases c25 : 0 ≤ x12_3
             ·rw [if_pos c25] at H
              have c25b0 : decide (0 ≤ x12_3) = true := decide_eq_true c25
              clear c25
              by_cases c26 : (rd t333 x12_3) = 1
              ·rw [if_pos c26] at H
               have c26b0 : ((rd t333 x12_3) == 1) = true := beq_iff_eq.mpr c26
               have c26b1 : ((rd t333 x12_3) != 1) = false := bne_eq_false_iff_eq.mpr c26
               clear c26
               by_cases c27 : x12_3 < (x9_3.length : Int)
               ·rw [if_pos c27] at H
                have c27b0 : decide (x12_3 < (x9_3.length : Int)) = true := decide_eq_true c27
                clear c27
                obtain ⟨y338, hy338⟩ : ∃ y_ : List Int, y_ = (x9_3.set (x12_3 : Int).toNat (wrap64 ((rd x9_3 x12_3) + 1))) := ⟨_, rfl⟩
                replace H : (spec_FiredRow.l1 k3 l0 a1 a3 y338 t333 x11_2 (wrap64 (x12_3 + 1))) = some r := by first | (rw [hy338]; with_reducible exact H) | (have H2_ := (Option.bind_some _ _).symm.trans H; rw [hy338]; with_reducible exact H2_) | (have H2_ := (Option.bind_some _ _).symm.trans H; with_reducible exact H2_) | with_reducible exact H | (rw [hy338]; exact H) | exact H
                have Ny338 := Aside0.mk hy338
                clear hy338
                have H' := Aside0.mk H
                clear H
                obtain ⟨Ao29, co29, eo29⟩ := Kd.R_slice HO_10.out
                subst eo29
                have p336 : 0 ≤ (x12_3 : Int) := zD
                have q336 : x12_3 < (t333.length : Int) := zD
                obtain ⟨ad336, e336, hx336_0⟩ := Kd.at_int (Kd.R_reads' HO_10.out).2.2 x12_3 p336 q336
                cases e336
                replace p336 := eq_true p336
                replace q336 := eq_true q336
                obtain ⟨Ao30, co30, eo30⟩ := Kd.R_slice HO_9.out
                subst eo30
                have p337 : 0 ≤ (x12_3 : Int) := zD
                have q337 : x12_3 < (x9_3.length : Int) := zD
                obtain ⟨ad337, e337, hx337_0⟩ := Kd.at_int (Kd.R_reads' HO_9.out).2.2 x12_3 p337 q337
                cases e337
                replace p337 := eq_true p337
                replace q337 := eq_true q337
                have p28 : 0 ≤ (x12_3 : Int) := zD
                have q28 : (x12_3 : Int) < ((x9_3.length : Int) : Int) := zD
                obtain ⟨go28, co28, eo28, gb28, gl28, cl28, HG28⟩ := Kd.R_form HO_9.out (by omega)
                (first | cases eo28 | (injection eo28 with ea_ en_ ec_; (first | subst ea_ | (injection ea_ with ea_; subst ea_)); subst ec_; clear en_))
                have GB28 := Aside0.mk gb28
                have GG28 := Aside0.mk HG28
                clear gb28 gl28 HG28
                (first | simp only [add_plain] at hx337_0 | skip)
                obtain ⟨hx28_0, hf28_0⟩ := Kd.R_celln 0 HO_9.out (x12_3 : Int) p28 q28
                replace p28 := eq_true p28
                replace q28 := eq_true q28
                have HP31 := Kd.R_putg HO_9.out (x12_3 : Int) (wrap64 ((rd x9_3 x12_3) + 1))
                go_wp2_with (first | ((with_reducible refine gate_store (t := 3) (p := 57) rfl ?_); refine store_event (t := 3) (p := 57) (v := ?vo_w32) (w1 := (wr.setCell ⟨go28, (x12_3 : Int).toNat, none⟩ (.int .i64 (wrap64 ((rd x9_3 x12_3) + 1))))) ?hg ?ho ?hn ?hr ?_; (case ho => rfl); (case hg => rfl); (case hn => rfl); (case hr => first | (go_simp; done) | (go_simp; rfl)); intro w32 hw; have hg : wr.grownBy w32 (some go28) := (by rw [hw]; exact HP31.2); have hp_ : Kd.R (Kd.int .i64) 3 w32 w.heap.size (fun k_ => some k_ ≠ (.slice (some ad336) t333.length co29 : Value).ownBlock) (.slice (some ⟨go28, 0, none⟩) x9_3.length co30) y338 := (by rw [hw, Ny338.out]; exact HP31.1); clear HP31; have n0_ := Aside0.mk (hp_); have n1_ := Aside0.mk (Kd.R_after (v := (.slice (some ⟨go28, 0, none⟩) x9_3.length co30)) (v1 := (.slice (some ⟨go28, 0, none⟩) x9_3.length co30)) (ok := (fun _ => True)) (by (with_reducible repeat (first | apply Kd.R_alloc | apply Kd.R_drewN | apply Kd.R_drew)); exact Kd.R_mono HO_10.out (fun _ hk => ⟨trivial, hk⟩)) hg (.inl rfl)); have n2_ := Aside0.mk ((by rw [hw]; exact below_set (HB.out) GB28.out : Below w.heap.size w w32)); clear HO_9; clear HO_10; clear HB; have HO_9 := n0_; have HO_10 := n1_; have HB := n2_; clear n0_ n1_ n2_; clear hg hw hp_))
                go_roundg k3
                case measure => have := HJ4.out; have := HK2.out; have := HK3.out; omega
                case rel => exact ⟨(y338), (wrap64 (x12_3 + 1)), (by first | rfl | (simp; done) | (simp [*]; done)), H', ⟨by have := HJ4.out; have := HK2.out; have := HK3.out; omega⟩, ⟨by (with_reducible repeat (first | apply Kd.R_alloc | apply Kd.R_drewN | apply Kd.R_drew)); exact HO_9.out⟩, ⟨by (with_reducible repeat (first | apply Kd.R_alloc | apply Kd.R_drewN | apply Kd.R_drew)); exact Kd.R_mono HO_10.out (fun _ hk => hk.2)⟩, ⟨zB HB.out⟩⟩
               ·rw [if_neg c27] at H
                exact absurd H (by simp)
              ·rw [if_neg c26] at H
               have c26b0 : ((rd t333 x12_3) == 1) = false := beq_eq_false_iff_ne.mpr c26
               have c26b1 : ((rd t333 x12_3) != 1) = true := bne_iff_ne.mpr c26
               have H' := Aside0.mk H
               clear H
               obtain ⟨Ao33, co33, eo33⟩ := Kd.R_slice HO_10.out
               subst eo33
               have p336 : 0 ≤ (x12_3 : Int) := zD
               have q336 : x12_3 < (t333.length : Int) := zD
               obtain ⟨ad336, e336, hx336_0⟩ := Kd.at_int (Kd.R_reads' HO_10.out).2.2 x12_3 p336 q336
               cases e336
               replace p336 := eq_true p336
               replace q336 := eq_true q336
               go_wp2
               go_roundg k3
               case measure => have := HJ4.out; have := HK2.out; have := HK3.out; omega
               case rel => exact ⟨(x9_3), (wrap64 (x12_3 + 1)), (by first | rfl | (simp; done) | (simp [*]; done)), H', ⟨by have := HJ4.out; have := HK2.out; have := HK3.out; omega⟩, ⟨by (with_reducible repeat (first | apply Kd.R_alloc | apply Kd.R_drewN | apply Kd.R_drew)); exact HO_9.out⟩, ⟨by (with_reducible repeat (first | apply Kd.R_alloc | apply Kd.R_drewN | apply Kd.R_drew)); exact HO_10.out⟩, ⟨zB HB.out⟩⟩
             ·rw [if_neg c25] at H
              exact absurd H (by simp)
            ·rw [if_neg c24] at H
             have c24b0 : decide (x12_3 < (t333.length : Int)) = false := decide_eq_false c24
             clear c24
             have H' := Aside0.mk H
             clear H
             obtain ⟨Ao34, co34, eo34⟩ := Kd.R_slice HO_10.out
             subst eo34
             go_wp2
             go_roundg k3
             case measure => have := HJ4.out; have := HK2.out; have := HK3.out; omega
             case rel => exact ⟨(x9_3), (t333), (wrap64 (x11_2 + 1)), (by first | rfl | (simp; done) | (simp [*]; done)), H', ⟨by have := HJ4.out; have := HK2.out; have := HK3.out; omega⟩, ⟨by (with_reducible repeat (first | apply Kd.R_alloc | apply Kd.R_drewN | apply Kd.R_drew)); exact HO_9.out⟩, ⟨by (with_reducible repeat (first | apply Kd.R_alloc | apply Kd.R_drewN | apply Kd.R_drew)); exact HO_10.out⟩, ⟨zB HB.out⟩⟩
         ·rw [if_neg c20] at H
          have c20b0 : decide (x11_2 < a3) = false := decide_eq_false c20
          clear c20
          obtain rfl := Option.some.inj H
          go_wp2
          go_ret
          exact ⟨_, by first | rfl | (simp [errW_none, errW_some] <;> rfl) | (simp [*, errW_none, errW_some] <;> rfl), by (with_reducible repeat (first | apply Kd.R_alloc | apply Kd.R_drewN | apply Kd.R_drew)); exact Kd.R_mono HO_9.out (fun _ hk => trivial), zB HB.out⟩
      ·rw [if_neg c14] at H
       exact absurd H (by simp)
     ·rw [if_neg c13] at H
      exact absurd H (by simp)
    ·rw [if_neg c12] at H
     exact absurd H (by simp)

end Go.Proofs.Ytbanhinbndeboaa.PAll
