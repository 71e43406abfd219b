/- Own text of this session, written by a program of this session (wip/t/own.py) out of what the kit tells of the functions: each Go function as a Lean function, and the walk through its code. -/
import Derived.Test.YtbanhinbndeboaaT
import Derived.Test.YtbanhinbndeboaaF0
import Derived.Test.YtbanhinbndeboaaF1
import Derived.Test.YtbanhinbndeboaaF3
import Derived.Test.YtbanhinbndeboaaF9
namespace Go.Proofs.Ytbanhinbndeboaa.PAll
open Go.RowKit Go.Proofs.YtbanhinbndeboaaW.PrintWords Go.Proofs.YtbanhinbndeboaaW.PrintLast Go.Proofs.YtbanhinbndeboaaW.PrintMore
attribute [local go_sem] max2_int min2_int max_two min_two max_three min_three max_four min_four   -- for this text's walks alone
set_option linter.unusedVariables false
set_option linter.unusedSimpArgs false

/-! ### spec_DrawScriptFired: function 22 -/
def spec_DrawScriptFired.f (k : Nat) (l0 : List Int) : Option (List Int × Int × List Int × (List (S40)) × Int) := (spec_l20Open.f l0).bind fun bt644 => ((spec_l20Played.f k bt644.1 bt644.2).bind fun bt647 => (some (bt647.1, bt647.2.1, bt647.2.2.1, bt647.2.2.2.1, bt647.2.2.2.2.1)))
theorem spec_DrawScriptFired.mono : ∀ a0 k, LeO (spec_DrawScriptFired.f k a0) (spec_DrawScriptFired.f (k + 1) a0) := by
 intro a0 k
 unfold spec_DrawScriptFired.f
 repeat' first
   | (with_reducible exact spec_l20Played.mono _ _ _)
   | (with_reducible exact LeO.refl _)
   | (with_reducible exact LeO.none _)
   | (with_reducible refine LeO.ite ?_ ?_)
   | (with_reducible refine LeO.bind ?_ (fun _ => ?_))
   | exact spec_l20Played.mono _ _ _
   | exact LeO.none _
   | refine LeO.ite ?_ ?_
   | refine LeO.bind ?_ (fun _ => ?_)
set_option maxHeartbeats 8000000 in
set_option maxRecDepth 100000 in
theorem spec_DrawScriptFired.calls (k : Nat) (A0 : Option Addr) (c0 : Nat) (l0 : List Int) (r1 : List Int) (r2 : Int) (r3 : List Int) (r4 : List (S40)) (r5 : Int) (w : World) (hr0 : Kd.C (Kd.int .u8) w A0 l0.length l0) (hc0 : l0.length ≤ c0) (h : spec_DrawScriptFired.f k l0 = some (r1, r2, r3, r4, r5)) :
  Calls Try.prog 22 #[.slice A0 l0.length c0] w fun e w' => ∃ v0_ v2_ v3_ : Value, e = .returned (.tuple #[v0_, .int .i64 r2, v2_, v3_, .int .i64 r5]) ∧ Kd.R (Kd.int .i64) 3 w' w.heap.size (fun k_ => some k_ ≠ (v2_ : Value).ownBlock) v0_ r1 ∧ Kd.R (Kd.int .i64) 3 w' w.heap.size (fun k_ => some k_ ≠ (v0_ : Value).ownBlock) v2_ r3 ∧ Kd.R k40 40 w' w.heap.size (fun _ => True) v3_ r4 ∧ Below w.heap.size w w' := by
 have HR0 := Aside0.mk hr0
 have HC0 := Aside0.mk hc0
 clear hr0 hc0
 have HB := Aside0.mk (Below.refl w.heap.size w)
 have H : ((spec_l20Open.f l0).bind fun bt644 => ((spec_l20Played.f k bt644.1 bt644.2).bind fun bt647 => (some (bt647.1, bt647.2.1, bt647.2.2.1, bt647.2.2.2.1, bt647.2.2.2.2.1)))) = some (r1, r2, r3, r4, r5) := h
 clear h
 replace H := Option.bind_eq_some_iff.mp H
 obtain ⟨⟨t644, t645⟩, A20, H⟩ := H
 replace H : ((spec_l20Played.f k t644 t645).bind fun bt647 => (some (bt647.1, bt647.2.1, bt647.2.2.1, bt647.2.2.2.1, bt647.2.2.2.2.1))) = some (r1, r2, r3, r4, r5) := H
 have A2 := Aside0.mk A20
 clear A20
 replace H := Option.bind_eq_some_iff.mp H
 obtain ⟨⟨t647, t650, t651, t654, t657, t658⟩, A30, H⟩ := H
 replace H : (some (t647, t650, t651, t654, t657)) = some (r1, r2, r3, r4, r5) := H
 have A3 := Aside0.mk A30
 clear A30
 simp only [Option.some.injEq, Prod.mk.injEq] at H
 obtain ⟨rfl, rfl, rfl, rfl, rfl⟩ := H
 go_enter Try.func22, Try.ntmps22
 go_wp2_with (first | ((with_reducible refine gate_callee (f := 34) rfl ?_); refine goesL_ (some 8) rfl rfl Try.func34 (by kernel_rfl) rfl #[.slice A0 l0.length c0] rfl zA ?_; (with_reducible refine (spec_l20Open.calls _ _ l0 t644 t645 w _ ?side1 ?side2 ?side3 A2.out).mono ?_); (case side1 => exact zB HB.out); (case side2 => exact HR0.out); (case side3 => exact HC0.out); rintro e w4 ⟨g646, rfl, hi, hb, hb2⟩; refine ⟨_, rfl, ?_⟩; have n0_ := Aside0.mk (hb); have n1_ := Aside0.mk (hi); clear HB; have HB := n0_; have HI646 := n1_; clear n0_ n1_; (try clear hb); (try clear hb2); (try clear hk); (try clear hi)) | ((with_reducible refine gate_callee (f := 38) rfl ?_); refine goesL_ (some 9) rfl rfl Try.func38 (by kernel_rfl) rfl #[.pointer (some ⟨g646, 0, none⟩)] rfl zA ?_; (with_reducible refine (spec_l20Played.calls k g646 t644 t645 t647 t650 t651 t654 t657 t658 w _ ?side1 ?side2 A3.out).mono ?_); (case side1 => exact zI63 HI646.out); (case side2 => exact zE63 HB.out HI646.out); rintro e w5 ⟨v648, v652, v655, rfl, ho0, ho1, ho2, hi, hb, hk⟩; refine ⟨_, rfl, ?_⟩; have n0_ := Aside0.mk (Kd.R_lower ho0 (below_size (zE63 HB.out HI646.out))); have n1_ := Aside0.mk (Kd.R_lower ho1 (below_size (zE63 HB.out HI646.out))); have n2_ := Aside0.mk (Kd.R_lower ho2 (below_size (zE63 HB.out HI646.out))); have n3_ := Aside0.mk (hb); have n4_ := Aside0.mk (hi); clear HB; clear HI646; have HO649 := n0_; have HO653 := n1_; have HO656 := n2_; have HB := n3_; have HI646 := n4_; clear n0_ n1_ n2_ n3_ n4_; (try clear hb); (try clear hb2); (try clear hk); (try clear hi); (try clear ho0); (try clear ho1); (try clear ho2)))
 refine bodyPost_ret (results_list (rs := [.tmp 2, .tmp 3, .tmp 4, .tmp 5, .tmp 6]) rfl (by simp) (.tmp (.tmp (.tmp (.tmp (.tmp .nil)))))) rfl ?_
 exact ⟨_, _, _, by first | rfl | (simp [errW_none, errW_some] <;> rfl) | (simp [*, errW_none, errW_some] <;> rfl), by (with_reducible repeat (first | apply Kd.R_alloc | apply Kd.R_drewN | apply Kd.R_drew)); exact HO649.out, by (with_reducible repeat (first | apply Kd.R_alloc | apply Kd.R_drewN | apply Kd.R_drew)); exact HO653.out, by (with_reducible repeat (first | apply Kd.R_alloc | apply Kd.R_drewN | apply Kd.R_drew)); exact HO656.out, zE63 HB.out HI646.out⟩

/-! ### spec_ScriptFired: function 24 -/
mutual
def spec_ScriptFired.j0 : Nat → List Int → Int → List Int → List (S40) → Int → Bool → Option (List Int)
 | 0, _, _, _, _, _, _ => none
 | k + 1, x0, x1, x2, x3, x4, x33 => if x33 = true then (some (([] : List Int))) else (if 0 ≤ (x0.length : Int) then (if ((x0.length : Int) : Int).toNat ≤ 35184372088832 then ((some (([] : List Int) : List Int)).bind fun y668 => (if y668.length + x2.length < 17592186044416 then (spec_ScriptFired.l0 k x0 x1 x3 x4 (List.replicate ((x0.length : Int) : Int).toNat 0) (y668 ++ x2) 0) else (none))) else (none)) else (none))
def spec_ScriptFired.l0 : Nat → List Int → Int → List (S40) → Int → List Int → List Int → Int → Option (List Int)
 | 0, _, _, _, _, _, _, _ => none
 | k + 1, x0, x1, x3, x4, x11, x12, x13 => if x13 < x4 then ((spec_l10Lit.f k x12 x3 x13).bind fun t674 => ((spec_l3Step.f k x0 x1 t674).bind fun t677 => (spec_ScriptFired.l1 k x0 x1 x3 x4 x11 x12 x13 t674 t677 0))) else (some x11)
def spec_ScriptFired.l1 : Nat → List Int → Int → List (S40) → Int → List Int → List Int → Int → List Int → List Int → Int → Option (List Int)
 | 0, _, _, _, _, _, _, _, _, _, _ => none
 | k + 1, x0, x1, x3, x4, x11, x12, x13, x14, x15, x16 => if x16 < (x0.length : Int) then (if 0 ≤ x16 then (if x16 < (x12.length : Int) then (if (rd x12 x16) = 0 then (if x16 < (x14.length : Int) then (spec_ScriptFired.j3 k x0 x1 x3 x4 x11 x12 x13 x14 x15 x16 ((rd x14 x16) == 1)) else (none)) else (spec_ScriptFired.j3 k x0 x1 x3 x4 x11 x12 x13 x14 x15 x16 false)) else (none)) else (none)) else (spec_ScriptFired.l0 k x0 x1 x3 x4 x11 x15 (wrap64 (x13 + 1)))
def spec_ScriptFired.j3 : Nat → List Int → Int → List (S40) → Int → List Int → List Int → Int → List Int → List Int → Int → Bool → Option (List Int)
 | 0, _, _, _, _, _, _, _, _, _, _, _ => none
 | k + 1, x0, x1, x3, x4, x11, x12, x13, x14, x15, x16, x71 => if x71 = true then (if 0 ≤ x16 then (if x16 < (x11.length : Int) then ((some (x11.set (x16 : Int).toNat (wrap64 ((rd x11 x16) + 1)) : List Int)).bind fun y683 => (if x16 < (x15.length : Int) then (if (rd x15 x16) = 1 then (spec_ScriptFired.l1 k x0 x1 x3 x4 (y683.set (x16 : Int).toNat (wrap64 ((rd y683 x16) + 1))) x12 x13 x14 x15 (wrap64 (x16 + 1))) else (spec_ScriptFired.l1 k x0 x1 x3 x4 y683 x12 x13 x14 x15 (wrap64 (x16 + 1)))) else (none))) else (none)) else (none)) else (if 0 ≤ x16 then (if x16 < (x15.length : Int) then (if (rd x15 x16) = 1 then (if x16 < (x11.length : Int) then (spec_ScriptFired.l1 k x0 x1 x3 x4 (x11.set (x16 : Int).toNat (wrap64 ((rd x11 x16) + 1))) x12 x13 x14 x15 (wrap64 (x16 + 1))) else (none)) else (spec_ScriptFired.l1 k x0 x1 x3 x4 x11 x12 x13 x14 x15 (wrap64 (x16 + 1)))) else (none)) else (none))
end
def spec_ScriptFired.f (k : Nat) (l0 : List Int) (a1 : Int) (l2 : List Int) (l3 : List (S40)) (a4 : Int) : Option (List Int) := (spec_l3Ok.f k l0 a1 l2).bind fun t659 => (if t659 = true then ((spec_ScriptOk.f k (l0.length : Int) l3).bind fun t660 => (if t660 = true then ((spec_l1In.f a4 0 60).bind fun t661 => (spec_ScriptFired.j0 k l0 a1 l2 l3 a4 (!t661))) else (spec_ScriptFired.j0 k l0 a1 l2 l3 a4 true))) else (spec_ScriptFired.j0 k l0 a1 l2 l3 a4 true))
theorem spec_ScriptFired.mono_l : ∀ k, (∀ y0 y1 y2 y3 y4 y5, LeO (spec_ScriptFired.j0 k y0 y1 y2 y3 y4 y5) (spec_ScriptFired.j0 (k + 1) y0 y1 y2 y3 y4 y5)) ∧ (∀ y0 y1 y2 y3 y4 y5 y6, LeO (spec_ScriptFired.l0 k y0 y1 y2 y3 y4 y5 y6) (spec_ScriptFired.l0 (k + 1) y0 y1 y2 y3 y4 y5 y6)) ∧ (∀ y0 y1 y2 y3 y4 y5 y6 y7 y8 y9, LeO (spec_ScriptFired.l1 k y0 y1 y2 y3 y4 y5 y6 y7 y8 y9) (spec_ScriptFired.l1 (k + 1) y0 y1 y2 y3 y4 y5 y6 y7 y8 y9)) ∧ (∀ y0 y1 y2 y3 y4 y5 y6 y7 y8 y9 y10, LeO (spec_ScriptFired.j3 k y0 y1 y2 y3 y4 y5 y6 y7 y8 y9 y10) (spec_ScriptFired.j3 (k + 1) y0 y1 y2 y3 y4 y5 y6 y7 y8 y9 y10))
 | 0 => ⟨fun _ _ _ _ _ _ r h => by simp [spec_ScriptFired.j0] at h, fun _ _ _ _ _ _ _ r h => by simp [spec_ScriptFired.l0] at h, fun _ _ _ _ _ _ _ _ _ _ r h => by simp [spec_ScriptFired.l1] at h, fun _ _ _ _ _ _ _ _ _ _ _ r h => by simp [spec_ScriptFired.j3] at h⟩
 | k + 1 => by
  obtain ⟨ih0, ih1, ih2, ih3⟩ := spec_ScriptFired.mono_l k
  refine ⟨?_, ?_, ?_, ?_⟩
  ·intro y0 y1 y2 y3 y4 y5
   unfold spec_ScriptFired.j0
   repeat' first
   | (with_reducible exact ih0 _ _ _ _ _ _)
   | (with_reducible exact ih1 _ _ _ _ _ _ _)
   | (with_reducible exact ih2 _ _ _ _ _ _ _ _ _ _)
   | (with_reducible exact ih3 _ _ _ _ _ _ _ _ _ _ _)
   | (with_reducible exact spec_ScriptOk.mono _ _ _)
   | (with_reducible exact spec_l10Lit.mono _ _ _ _)
   | (with_reducible exact spec_l3Ok.mono _ _ _ _)
   | (with_reducible exact spec_l3Step.mono _ _ _ _)
   | (with_reducible exact LeO.refl _)
   | (with_reducible exact LeO.none _)
   | (with_reducible refine LeO.ite ?_ ?_)
   | (with_reducible refine LeO.bind ?_ (fun _ => ?_))
   | exact ih0 _ _ _ _ _ _
   | exact ih1 _ _ _ _ _ _ _
   | exact ih2 _ _ _ _ _ _ _ _ _ _
   | exact ih3 _ _ _ _ _ _ _ _ _ _ _
   | exact spec_ScriptOk.mono _ _ _
   | exact spec_l10Lit.mono _ _ _ _
   | exact spec_l3Ok.mono _ _ _ _
   | exact spec_l3Step.mono _ _ _ _
   | exact LeO.none _
   | refine LeO.ite ?_ ?_
   | refine LeO.bind ?_ (fun _ => ?_)
  ·intro y0 y1 y2 y3 y4 y5 y6
   unfold spec_ScriptFired.l0
   repeat' first
   | (with_reducible exact ih0 _ _ _ _ _ _)
   | (with_reducible exact ih1 _ _ _ _ _ _ _)
   | (with_reducible exact ih2 _ _ _ _ _ _ _ _ _ _)
   | (with_reducible exact ih3 _ _ _ _ _ _ _ _ _ _ _)
   | (with_reducible exact spec_ScriptOk.mono _ _ _)
   | (with_reducible exact spec_l10Lit.mono _ _ _ _)
   | (with_reducible exact spec_l3Ok.mono _ _ _ _)
   | (with_reducible exact spec_l3Step.mono _ _ _ _)
   | (with_reducible exact LeO.refl _)
   | (with_reducible exact LeO.none _)
   | (with_reducible refine LeO.ite ?_ ?_)
   | (with_reducible refine LeO.bind ?_ (fun _ => ?_))
   | exact ih0 _ _ _ _ _ _
   | exact ih1 _ _ _ _ _ _ _
   | exact ih2 _ _ _ _ _ _ _ _ _ _
   | exact ih3 _ _ _ _ _ _ _ _ _ _ _
   | exact spec_ScriptOk.mono _ _ _
   | exact spec_l10Lit.mono _ _ _ _
   | exact spec_l3Ok.mono _ _ _ _
   | exact spec_l3Step.mono _ _ _ _
   | exact LeO.none _
   | refine LeO.ite ?_ ?_
   | refine LeO.bind ?_ (fun _ => ?_)
  ·intro y0 y1 y2 y3 y4 y5 y6 y7 y8 y9
   unfold spec_ScriptFired.l1
   repeat' first
   | (with_reducible exact ih0 _ _ _ _ _ _)
   | (with_reducible exact ih1 _ _ _ _ _ _ _)
   | (with_reducible exact ih2 _ _ _ _ _ _ _ _ _ _)
   | (with_reducible exact ih3 _ _ _ _ _ _ _ _ _ _ _)
   | (with_reducible exact spec_ScriptOk.mono _ _ _)
   | (with_reducible exact spec_l10Lit.mono _ _ _ _)
   | (with_reducible exact spec_l3Ok.mono _ _ _ _)
   | (with_reducible exact spec_l3Step.mono _ _ _ _)
   | (with_reducible exact LeO.refl _)
   | (with_reducible exact LeO.none _)
   | (with_reducible refine LeO.ite ?_ ?_)
   | (with_reducible refine LeO.bind ?_ (fun _ => ?_))
   | exact ih0 _ _ _ _ _ _
   | exact ih1 _ _ _ _ _ _ _
   | exact ih2 _ _ _ _ _ _ _ _ _ _
   | exact ih3 _ _ _ _ _ _ _ _ _ _ _
   | exact spec_ScriptOk.mono _ _ _
   | exact spec_l10Lit.mono _ _ _ _
   | exact spec_l3Ok.mono _ _ _ _
   | exact spec_l3Step.mono _ _ _ _
   | exact LeO.none _
   | refine LeO.ite ?_ ?_
   | refine LeO.bind ?_ (fun _ => ?_)
  ·intro y0 y1 y2 y3 y4 y5 y6 y7 y8 y9 y10
   unfold spec_ScriptFired.j3
   repeat' first
   | (with_reducible exact ih0 _ _ _ _ _ _)
   | (with_reducible exact ih1 _ _ _ _ _ _ _)
   | (with_reducible exact ih2 _ _ _ _ _ _ _ _ _ _)
   | (with_reducible exact ih3 _ _ _ _ _ _ _ _ _ _ _)
   | (with_reducible exact spec_ScriptOk.mono _ _ _)
   | (with_reducible exact spec_l10Lit.mono _ _ _ _)
   | (with_reducible exact spec_l3Ok.mono _ _ _ _)
   | (with_reducible exact spec_l3Step.mono _ _ _ _)
   | (with_reducible exact LeO.refl _)
   | (with_reducible exact LeO.none _)
   | (with_reducible refine LeO.ite ?_ ?_)
   | (with_reducible refine LeO.bind ?_ (fun _ => ?_))
   | exact ih0 _ _ _ _ _ _
   | exact ih1 _ _ _ _ _ _ _
   | exact ih2 _ _ _ _ _ _ _ _ _ _
   | exact ih3 _ _ _ _ _ _ _ _ _ _ _
   | exact spec_ScriptOk.mono _ _ _
   | exact spec_l10Lit.mono _ _ _ _
   | exact spec_l3Ok.mono _ _ _ _
   | exact spec_l3Step.mono _ _ _ _
   | exact LeO.none _
   | refine LeO.ite ?_ ?_
   | refine LeO.bind ?_ (fun _ => ?_)
theorem spec_ScriptFired.mono : ∀ a0 a1 a2 a3 a4 k, LeO (spec_ScriptFired.f k a0 a1 a2 a3 a4) (spec_ScriptFired.f (k + 1) a0 a1 a2 a3 a4) := by
 intro a0 a1 a2 a3 a4 k
 obtain ⟨ih0, ih1, ih2, ih3⟩ := spec_ScriptFired.mono_l k
 unfold spec_ScriptFired.f
 repeat' first
   | (with_reducible exact ih0 _ _ _ _ _ _)
   | (with_reducible exact ih1 _ _ _ _ _ _ _)
   | (with_reducible exact ih2 _ _ _ _ _ _ _ _ _ _)
   | (with_reducible exact ih3 _ _ _ _ _ _ _ _ _ _ _)
   | (with_reducible exact spec_ScriptOk.mono _ _ _)
   | (with_reducible exact spec_l10Lit.mono _ _ _ _)
   | (with_reducible exact spec_l3Ok.mono _ _ _ _)
   | (with_reducible exact spec_l3Step.mono _ _ _ _)
   | (with_reducible exact LeO.refl _)
   | (with_reducible exact LeO.none _)
   | (with_reducible refine LeO.ite ?_ ?_)
   | (with_reducible refine LeO.bind ?_ (fun _ => ?_))
   | exact ih0 _ _ _ _ _ _
   | exact ih1 _ _ _ _ _ _ _
   | exact ih2 _ _ _ _ _ _ _ _ _ _
   | exact ih3 _ _ _ _ _ _ _ _ _ _ _
   | exact spec_ScriptOk.mono _ _ _
   | exact spec_l10Lit.mono _ _ _ _
   | exact spec_l3Ok.mono _ _ _ _
   | exact spec_l3Step.mono _ _ _ _
   | exact LeO.none _
   | refine LeO.ite ?_ ?_
   | refine LeO.bind ?_ (fun _ => ?_)
set_option maxHeartbeats 8000000 in
set_option maxRecDepth 100000 in
theorem spec_ScriptFired.calls (k : Nat) (A0 : Option Addr) (c0 : Nat) (l0 : List Int) (a1 : Int) (A2 : Option Addr) (c2 : Nat) (l2 : List Int) (A3 : Option Addr) (c3 : Nat) (l3 : List (S40)) (a4 : Int) (r : List Int) (w : World) (hr0 : Kd.C (Kd.int .i64) w A0 l0.length l0) (hc0 : l0.length ≤ c0) (hr2 : Kd.C (Kd.int .i64) w A2 l2.length l2) (hc2 : l2.length ≤ c2) (hr3 : Kd.C k40 w A3 l3.length l3) (hc3 : l3.length ≤ c3) (h : spec_ScriptFired.f k l0 a1 l2 l3 a4 = some r) :
  Calls Try.prog 24 #[.slice A0 l0.length c0, .int .i64 a1, .slice A2 l2.length c2, .slice A3 l3.length c3, .int .i64 a4] w fun e w' => ∃ v0_ : Value, e = .returned (v0_) ∧ Kd.R (Kd.int .i64) 3 w' w.heap.size (fun _ => True) v0_ r ∧ Below w.heap.size w w' := by
 have HR0 := Aside0.mk hr0
 have HC0 := Aside0.mk hc0
 clear hr0 hc0
 have HR2 := Aside0.mk hr2
 have HC2 := Aside0.mk hc2
 clear hr2 hc2
 have HR3 := Aside0.mk hr3
 have HC3 := Aside0.mk hc3
 clear hr3 hc3
 have HB := Aside0.mk (Below.refl w.heap.size w)
 have H : ((spec_l3Ok.f k l0 a1 l2).bind fun t659 => (if t659 = true then ((spec_ScriptOk.f k (l0.length : Int) l3).bind fun t660 => (if t660 = true then ((spec_l1In.f a4 0 60).bind fun t661 => (spec_ScriptFired.j0 k l0 a1 l2 l3 a4 (!t661))) else (spec_ScriptFired.j0 k l0 a1 l2 l3 a4 true))) else (spec_ScriptFired.j0 k l0 a1 l2 l3 a4 true))) = some r := h
 clear h
 have HC6 := Aside0.mk H
 clear H
 go_enter Try.func24, Try.ntmps24
 go_upto_region 1 with (fail)
 go_cut [33] (fun v33 wc => ∃ (kq : Nat) (x33_5 : Bool), v33 = .bool x33_5 ∧ Aside0 (spec_ScriptFired.j0 kq l0 a1 l2 l3 a4 x33_5 = some r) ∧ Aside0 (kq ≤ k) ∧ Aside0 (Below w.heap.size w wc))
 case first =>
  have H := HC6.out
  clear HC6
  replace H := Option.bind_eq_some_iff.mp H
  obtain ⟨t659, A70, H⟩ := H
  replace H : (if t659 = true then ((spec_ScriptOk.f k (l0.length : Int) l3).bind fun t660 => (if t660 = true then ((spec_l1In.f a4 0 60).bind fun t661 => (spec_ScriptFired.j0 k l0 a1 l2 l3 a4 (!t661))) else (spec_ScriptFired.j0 k l0 a1 l2 l3 a4 true))) else (spec_ScriptFired.j0 k l0 a1 l2 l3 a4 true)) = some r := H
  have A7 := Aside0.mk A70
  clear A70
  by_cases c8 : t659 = true
  ·subst c8
   have H1 : ((spec_ScriptOk.f k (l0.length : Int) l3).bind fun t660 => (if t660 = true then ((spec_l1In.f a4 0 60).bind fun t661 => (spec_ScriptFired.j0 k l0 a1 l2 l3 a4 (!t661))) else (spec_ScriptFired.j0 k l0 a1 l2 l3 a4 true))) = some r := by rw [if_pos rfl] at H; exact H
   clear H
   have H := H1
   clear H1
   replace H := Option.bind_eq_some_iff.mp H
   obtain ⟨t660, A90, H⟩ := H
   replace H : (if t660 = true then ((spec_l1In.f a4 0 60).bind fun t661 => (spec_ScriptFired.j0 k l0 a1 l2 l3 a4 (!t661))) else (spec_ScriptFired.j0 k l0 a1 l2 l3 a4 true)) = some r := H
   have A9 := Aside0.mk A90
   clear A90
   by_cases c10 : t660 = true
   ·subst c10
    have H1 : ((spec_l1In.f a4 0 60).bind fun t661 => (spec_ScriptFired.j0 k l0 a1 l2 l3 a4 (!t661))) = some r := by rw [if_pos rfl] at H; exact H
    clear H
    have H := H1
    clear H1
    replace H := Option.bind_eq_some_iff.mp H
    obtain ⟨t661, A110, H⟩ := H
    replace H : (spec_ScriptFired.j0 k l0 a1 l2 l3 a4 (!t661)) = some r := H
    have A11 := Aside0.mk A110
    clear A110
    have H' := Aside0.mk H
    clear H
    go_wp2_with (first | ((with_reducible refine gate_callee (f := 26) rfl ?_); refine goesL_ (some 20) rfl rfl Try.func26 (by kernel_rfl) rfl #[.slice A0 l0.length c0, .int .i64 a1, .slice A2 l2.length c2] rfl zA ?_; (with_reducible refine (spec_l3Ok.calls k _ _ l0 a1 _ _ l2 true _ ?side1 ?side2 ?side3 ?side4 A7.out).mono ?_); (case side1 => exact zC (Kd.C_below HR0.out HB.out)); (case side2 => exact HC0.out); (case side3 => exact zC (Kd.C_below HR2.out HB.out)); (case side4 => exact HC2.out); rintro e w' ⟨rfl, ⟨nd, rfl⟩⟩; refine ⟨_, rfl, ?_⟩) | (go_at_call 41; (with_reducible refine (spec_ScriptOk.calls k (l0.length : Int) _ _ l3 true _ ?side1 ?side2 A9.out).mono ?_); (case side1 => exact zC (Kd.C_below HR3.out (zB HB.out))); (case side2 => exact HC3.out); rintro e w' ⟨rfl, ⟨nd, rfl⟩⟩) | (go_at_call 27; (with_reducible refine (spec_l1In.calls a4 0 60 t661 _ A11.out).mono ?_); rintro e w' ⟨rfl, ⟨nd, rfl⟩⟩))
    go_meet
    case rel => exact ⟨_, (!t661), (by first | rfl | (simp; done) | (simp [*]; done)), H', ⟨by first | omega | exact Nat.le_refl _⟩, ⟨zB HB.out⟩⟩
   ·replace c10 := Bool.eq_false_iff.mpr c10
    subst c10
    have H1 : (spec_ScriptFired.j0 k l0 a1 l2 l3 a4 true) = some r := by rw [if_neg (show ¬ (false = true) by decide)] at H; exact H
    clear H
    have H := H1
    clear H1
    have H' := Aside0.mk H
    clear H
    go_wp2_with (first | ((with_reducible refine gate_callee (f := 26) rfl ?_); refine goesL_ (some 20) rfl rfl Try.func26 (by kernel_rfl) rfl #[.slice A0 l0.length c0, .int .i64 a1, .slice A2 l2.length c2] rfl zA ?_; (with_reducible refine (spec_l3Ok.calls k _ _ l0 a1 _ _ l2 true _ ?side1 ?side2 ?side3 ?side4 A7.out).mono ?_); (case side1 => exact zC (Kd.C_below HR0.out HB.out)); (case side2 => exact HC0.out); (case side3 => exact zC (Kd.C_below HR2.out HB.out)); (case side4 => exact HC2.out); rintro e w' ⟨rfl, ⟨nd, rfl⟩⟩; refine ⟨_, rfl, ?_⟩) | (go_at_call 41; (with_reducible refine (spec_ScriptOk.calls k (l0.length : Int) _ _ l3 false _ ?side1 ?side2 A9.out).mono ?_); (case side1 => exact zC (Kd.C_below HR3.out (zB HB.out))); (case side2 => exact HC3.out); rintro e w' ⟨rfl, ⟨nd, rfl⟩⟩))
    go_meet
    case rel => exact ⟨_, (true), (by first | rfl | (simp; done) | (simp [*]; done)), H', ⟨by first | omega | exact Nat.le_refl _⟩, ⟨zB HB.out⟩⟩
  ·replace c8 := Bool.eq_false_iff.mpr c8
   subst c8
   have H1 : (spec_ScriptFired.j0 k l0 a1 l2 l3 a4 true) = some r := by rw [if_neg (show ¬ (false = true) by decide)] at H; exact H
   clear H
   have H := H1
   clear H1
   have H' := Aside0.mk H
   clear H
   go_wp2_with (first | ((with_reducible refine gate_callee (f := 26) rfl ?_); refine goesL_ (some 20) rfl rfl Try.func26 (by kernel_rfl) rfl #[.slice A0 l0.length c0, .int .i64 a1, .slice A2 l2.length c2] rfl zA ?_; (with_reducible refine (spec_l3Ok.calls k _ _ l0 a1 _ _ l2 false _ ?side1 ?side2 ?side3 ?side4 A7.out).mono ?_); (case side1 => exact zC (Kd.C_below HR0.out HB.out)); (case side2 => exact HC0.out); (case side3 => exact zC (Kd.C_below HR2.out HB.out)); (case side4 => exact HC2.out); rintro e w' ⟨rfl, ⟨nd, rfl⟩⟩; refine ⟨_, rfl, ?_⟩))
   go_meet
   case rel => exact ⟨_, (true), (by first | rfl | (simp; done) | (simp [*]; done)), H', ⟨by first | omega | exact Nat.le_refl _⟩, ⟨zB HB.out⟩⟩
 case rest =>
  clear HC6
  try clear c1
  try clear c2
  try clear p2
  try clear c3
  try clear c8
  try clear c10
  obtain ⟨kq, x33_5, rfl, HA, HJ5, HB⟩ := hcut
  cases kq with
  | zero => exact absurd HA.out (by simp [spec_ScriptFired.j0])
  | succ kj5 =>
   have H := HA.out
   clear HA
   simp only [spec_ScriptFired.j0] at H
   by_cases c12 : x33_5 = true
   ·subst c12
    have H1 : (some (([] : List Int))) = some r := by rw [if_pos rfl] at H; exact H
    clear H
    have H := H1
    clear H1
    obtain ⟨y662, hy662⟩ : ∃ y_ : List Int, y_ = (([] : List Int)) := ⟨_, rfl⟩
    replace H : (some y662) = some r := by first | (rw [hy662]; with_reducible exact H) | (have H2_ := (Option.bind_some _ _).symm.trans H; rw [hy662]; with_reducible exact H2_) | (have H2_ := (Option.bind_some _ _).symm.trans H; with_reducible exact H2_) | with_reducible exact H | (rw [hy662]; exact H) | exact H
    have Ny662 := Aside0.mk hy662
    clear hy662
    obtain rfl := Option.some.inj H
    go_wp2_with (first | ((with_reducible refine gate_dst (N := 34) rfl ?_); (try (refine gate_guard (by rfl) ?_; dsimp only)); refine Kd.R_lit (Kd.int .i64) _ 3 ?hg (N := 34) ?hd (xs := ([] : List Int)) (inner := []) (ok := fun _ => True) (okp := fun _ => True) ?hr ?hp (fun _ hk => hk) trivial (Below.refl _ _) (Nat.le_refl _) (by simp) ?_; (case hd => rfl); (case hg => rfl); (case hr => first | (go_simp; done) | (go_simp; rfl)); (case hp => exact (Reps.none _ _)); intro v663 w13 ho14 hb hg_ hnew_; clear hg_ hnew_; (first | rw [← Ny662.out] at ho14 | (simp only [Int.reduceToNat] at ho14; rw [← Ny662.out] at ho14)); have n0_ := Aside0.mk (Kd.R_lower ho14 (below_size (zB HB.out))); have n1_ := Aside0.mk (below_step (zB HB.out) hb); clear HB; have HO664 := n0_; have HB := n1_; clear n0_ n1_; clear hb ho14))
    go_ret
    exact ⟨_, by first | rfl | (simp [errW_none, errW_some] <;> rfl) | (simp [*, errW_none, errW_some] <;> rfl), by (with_reducible repeat (first | apply Kd.R_alloc | apply Kd.R_drewN | apply Kd.R_drew)); exact HO664.out, zB HB.out⟩
   ·replace c12 := Bool.eq_false_iff.mpr c12
    subst c12
    have H1 : (if 0 ≤ (l0.length : Int) then (if ((l0.length : Int) : Int).toNat ≤ 35184372088832 then ((some (([] : List Int) : List Int)).bind fun y668 => (if y668.length + l2.length < 17592186044416 then (spec_ScriptFired.l0 kj5 l0 a1 l3 a4 (List.replicate ((l0.length : Int) : Int).toNat 0) (y668 ++ l2) 0) else (none))) else (none)) else (none)) = some r := by rw [if_neg (show ¬ (false = true) by decide)] at H; exact H
    clear H
    have H := H1
    clear H1
    by_cases c15 : 0 ≤ (l0.length : Int)
    ·rw [if_pos c15] at H
     have c15b0 := eq_true c15
     have c15b1 : decide (0 ≤ (l0.length : Int)) = true := decide_eq_true c15
     clear c15
     by_cases c16 : ((l0.length : Int) : Int).toNat ≤ 35184372088832
     ·rw [if_pos c16] at H
      have c16b0 := eq_true c16
      have c16b1 : decide (((l0.length : Int) : Int).toNat ≤ 35184372088832) = true := decide_eq_true c16
      clear c16
      obtain ⟨y665, hy665⟩ : ∃ y_ : List Int, y_ = (List.replicate ((l0.length : Int) : Int).toNat 0) := ⟨_, rfl⟩
      replace H : ((some (([] : List Int) : List Int)).bind fun y668 => (if y668.length + l2.length < 17592186044416 then (spec_ScriptFired.l0 kj5 l0 a1 l3 a4 y665 (y668 ++ l2) 0) else (none))) = some r := by first | (rw [hy665]; with_reducible exact H) | (have H2_ := (Option.bind_some _ _).symm.trans H; rw [hy665]; with_reducible exact H2_) | (have H2_ := (Option.bind_some _ _).symm.trans H; with_reducible exact H2_) | with_reducible exact H | (rw [hy665]; exact H) | exact H
      have Ny665 := Aside0.mk hy665
      clear hy665
      obtain ⟨y668, hy668⟩ : ∃ y_ : List Int, y_ = (([] : List Int)) := ⟨_, rfl⟩
      replace H : (if y668.length + l2.length < 17592186044416 then (spec_ScriptFired.l0 kj5 l0 a1 l3 a4 y665 (y668 ++ l2) 0) else (none)) = some r := by first | (rw [hy668]; with_reducible exact H) | (have H2_ := (Option.bind_some _ _).symm.trans H; rw [hy668]; with_reducible exact H2_) | (have H2_ := (Option.bind_some _ _).symm.trans H; with_reducible exact H2_) | with_reducible exact H | (rw [hy668]; exact H) | exact H
      have Ny668 := Aside0.mk hy668
      clear hy668
      by_cases c17 : y668.length + l2.length < 17592186044416
      ·rw [if_pos c17] at H
       have LMc17 := Aside0.mk c17
       clear c17
       obtain ⟨y671, hy671⟩ : ∃ y_ : List Int, y_ = (y668 ++ l2) := ⟨_, rfl⟩
       replace H : (spec_ScriptFired.l0 kj5 l0 a1 l3 a4 y665 y671 0) = some r := by first | (rw [hy671]; with_reducible exact H) | (have H2_ := (Option.bind_some _ _).symm.trans H; rw [hy671]; with_reducible exact H2_) | (have H2_ := (Option.bind_some _ _).symm.trans H; with_reducible exact H2_) | with_reducible exact H | (rw [hy671]; exact H) | exact H
       have Ny671 := Aside0.mk hy671
       clear hy671
       have H' := Aside0.mk H
       clear H
       go_wp2_with (first | ((with_reducible refine gate_dst (N := 37) rfl ?_); (try (refine gate_guard (by rfl) ?_; dsimp only)); refine Kd.R_make (Kd.int .i64) _ 3 rfl (N := 37) rfl 23 _ _ rfl (l0.length : Int) rfl rfl Try.underlying23 (.int .i64 0) 8 info3 rfl (by decide) (by omega) 0 (ok := fun _ => True) (okp := fun _ => True) rfl (fun _ hk => hk) trivial (zD) (Nat.le_trans (Nat.mul_le_mul_right _ (zD : (l0.length : Int).toNat ≤ 35184372088832)) (by omega)) (Below.refl _ _) (Nat.le_refl _) ?_; intro v666 w18 ho19 hb hg_ hnew_; clear hg_ hnew_; (first | rw [← Ny665.out] at ho19 | (simp only [Int.reduceToNat] at ho19; rw [← Ny665.out] at ho19)); have n0_ := Aside0.mk (Kd.R_lower ho19 (below_size (zB HB.out))); have n1_ := Aside0.mk (below_step (zB HB.out) hb); clear HB; have HO667 := n0_; have HB := n1_; clear n0_ n1_; clear hb ho19) | ((with_reducible refine gate_dst (N := 38) rfl ?_); (try (refine gate_guard (by rfl) ?_; dsimp only)); refine Kd.R_lit (Kd.int .i64) _ 3 ?hg (N := 38) ?hd (xs := ([] : List Int)) (inner := []) (ok := fun _ => True) (okp := fun _ => True) ?hr ?hp (fun _ hk => hk) trivial (Below.refl _ _) (Nat.le_refl _) (by simp) ?_; (case hd => rfl); (case hg => rfl); (case hr => first | (go_simp; done) | (go_simp; rfl)); (case hp => exact (Reps.none _ _)); intro v669 w20 ho21 hb hg_ hnew_; clear hg_ hnew_; (first | rw [← Ny668.out] at ho21 | (simp only [Int.reduceToNat] at ho21; rw [← Ny668.out] at ho21)); have n0_ := Aside0.mk (Kd.R_elder' (zR HO667.out) (Kd.R_base ho21) hb); have n1_ := Aside0.mk (Kd.R_lower (Kd.R_new' ho21 (Kd.R_lt (zR HO667.out))) (below_size (zB HB.out))); have n2_ := Aside0.mk (below_step (zB HB.out) hb); clear HO667; clear HB; have HO667 := n0_; have HO670 := n1_; have HB := n2_; clear n0_ n1_ n2_; clear hb ho21) | ((with_reducible refine gate_builtin (b := .append) (xs := #[.tmp 38, .tmp 39]) rfl ?_); (try (refine gate_guard (by rfl) ?_; dsimp only)); at_builtin; refine Kd.R_append_rows (Kd.int .i64) (w0 := w) w.heap.size rfl (.tmp 38) (.tmp 39) 23 3 (.int .i64 0) 8 rfl Try.underlying23 info3 rfl (by decide) (by omega) v669 y668 l2 _ _ _ (fun k_ => some k_ ≠ (v666 : Value).ownBlock) (fun _ => False) rfl rfl ?aO ?aR (fun _ _ h => h) (fun _ h => h.elim) ?aF ?aB ?aS ?aL ?_; (case aR => exact zC (Kd.C_below HR2.out HB.out)); (case aB => exact (zB HB.out)); (case aF => exact (fun k_ hk => Kd.fresh' (Kd.R_lt (zR HO667.out)) k_ hk)); (case aO => exact (by (with_reducible repeat (first | apply Kd.R_alloc | apply Kd.R_drewN | apply Kd.R_drew)); exact Kd.R_mono HO670.out (fun _ hk => hk.2))); (case aS => exact (below_size (zB HB.out))); (case aL => have := LMc17.out; omega); intro v672 w22 ho hb hg hat; rw [← Ny671.out] at ho; have n0_ := Aside0.mk (Kd.R_after (ok := (fun _ => True)) (zR HO667.out) hg hat); have n1_ := Aside0.mk (hb); have n2_ := Aside0.mk (ho); clear HO667; clear HB; clear HO670; have HO667 := n0_; have HB := n1_; have HO673 := n2_; clear n0_ n1_ n2_; clear ho hb hg hat))
       go_loopg [12, 13] kj5 (fun kq v12 v13 w' => ∃ (x11_2 : List Int) (x12_2 : List Int) (x13_2 : Int), v13 = .int .i64 x13_2 ∧ Aside0 (spec_ScriptFired.l0 kq l0 a1 l3 a4 x11_2 x12_2 x13_2 = some r) ∧ Aside0 (kq ≤ kj5) ∧ Aside0 (Kd.R (Kd.int .i64) 3 w' w.heap.size (fun k_ => some k_ ≠ (v12 : Value).ownBlock) v666 x11_2) ∧ Aside0 (Kd.R (Kd.int .i64) 3 w' w.heap.size (fun k_ => some k_ ≠ (v666 : Value).ownBlock) v12 x12_2) ∧ Aside0 (Below w.heap.size w w'))
       case atStart => exact ⟨(y665), (y671), (0), (by first | rfl | (simp; done) | (simp [*]; done)), H', ⟨Nat.le_refl _⟩, ⟨by (with_reducible repeat (first | apply Kd.R_alloc | apply Kd.R_drewN | apply Kd.R_drew)); exact Kd.R_mono HO667.out (fun _ hk => hk.2)⟩, ⟨by (with_reducible repeat (first | apply Kd.R_alloc | apply Kd.R_drewN | apply Kd.R_drew)); exact HO673.out⟩, ⟨zB HB.out⟩⟩
       case round =>
        clear H'
        try clear c1
        try clear c2
        try clear p2
        try clear c3
        try clear c8
        try clear c10
        try clear c12
        try clear c15
        try clear c15b0
        try clear c15b1
        try clear c16
        try clear c16b0
        try clear c16b1
        try clear c17
        try clear p2
        obtain ⟨x11_2, x12_2, x13_2, rfl, HA, HK2, HO_11, HO_12, HB⟩ := hrel
        cases gk with
        | zero => exact absurd HA.out (by simp [spec_ScriptFired.l0])
        | succ k2 =>
         have H := HA.out
         clear HA
         simp only [spec_ScriptFired.l0] at H
         by_cases c23 : x13_2 < a4
         ·rw [if_pos c23] at H
          have c23b0 : decide (x13_2 < a4) = true := decide_eq_true c23
          clear c23
          replace H := Option.bind_eq_some_iff.mp H
          obtain ⟨t674, A240, H⟩ := H
          replace H : ((spec_l3Step.f k2 l0 a1 t674).bind fun t677 => (spec_ScriptFired.l1 k2 l0 a1 l3 a4 x11_2 x12_2 x13_2 t674 t677 0)) = some r := H
          have A24 := Aside0.mk A240
          clear A240
          replace H := Option.bind_eq_some_iff.mp H
          obtain ⟨t677, A250, H⟩ := H
          replace H : (spec_ScriptFired.l1 k2 l0 a1 l3 a4 x11_2 x12_2 x13_2 t674 t677 0) = some r := H
          have A25 := Aside0.mk A250
          clear A250
          have H' := Aside0.mk H
          clear H
          obtain ⟨Ao26, co26, eo26⟩ := Kd.R_slice HO_12.out
          subst eo26
          go_wp2_with (first | ((with_reducible refine gate_callee (f := 42) rfl ?_); refine goesL_ (some 49) rfl rfl Try.func42 (by kernel_rfl) rfl #[.slice Ao26 x12_2.length co26, .slice A3 l3.length c3, .int .i64 x13_2] rfl zA ?_; (with_reducible refine (spec_l10Lit.calls k2 _ _ x12_2 _ _ l3 x13_2 t674 _ ?side1 ?side2 ?side3 ?side4 A24.out).mono ?_); (case side1 => exact zC (Kd.R_reads' HO_12.out).2.2); (case side2 => exact (Kd.R_reads' HO_12.out).2.1); (case side3 => exact zC (Kd.C_below HR3.out HB.out)); (case side4 => exact HC3.out); rintro e w27 ⟨v675, rfl, ho0, hb⟩; refine ⟨_, rfl, ?_⟩; have n0_ := Aside0.mk (Kd.R_elder' (zR HO_11.out) (Kd.R_base ho0) hb); have n1_ := Aside0.mk (Kd.R_elder' (zR HO_12.out) (Kd.R_base ho0) hb); have n2_ := Aside0.mk (Kd.R_lower (Kd.R_new' (Kd.R_new' ho0 (Kd.R_lt (zR HO_11.out))) (Kd.R_lt (zR HO_12.out))) (below_size (zB HB.out))); have n3_ := Aside0.mk (below_step (zB HB.out) hb); clear HO_11; clear HO_12; clear HB; have HO_11 := n0_; have HO_12 := n1_; have HO676 := n2_; have HB := n3_; clear n0_ n1_ n2_ n3_; (try clear hb); (try clear hb2); (try clear hk); (try clear hi); (try clear ho0); obtain ⟨Ao28, co28, eo28⟩ := Kd.R_slice HO676.out; subst eo28) | ((with_reducible refine gate_callee (f := 28) rfl ?_); refine goesL_ (some 53) rfl rfl Try.func28 (by kernel_rfl) rfl #[.slice A0 l0.length c0, .int .i64 a1, .slice Ao28 t674.length co28] rfl zA ?_; (with_reducible refine (spec_l3Step.calls k2 _ _ l0 a1 _ _ t674 t677 _ ?side1 ?side2 ?side3 ?side4 A25.out).mono ?_); (case side1 => exact zC (Kd.C_below HR0.out HB.out)); (case side2 => exact HC0.out); (case side3 => exact zC (Kd.R_reads' HO676.out).2.2); (case side4 => exact (Kd.R_reads' HO676.out).2.1); rintro e w29 ⟨v678, rfl, ho0, hb⟩; refine ⟨_, rfl, ?_⟩; have n0_ := Aside0.mk (Kd.R_elder' (zR HO_11.out) (Kd.R_base ho0) hb); have n1_ := Aside0.mk (Kd.R_elder' (zR HO_12.out) (Kd.R_base ho0) hb); have n2_ := Aside0.mk (Kd.R_elder' (zR HO676.out) (Kd.R_base ho0) hb); have n3_ := Aside0.mk (Kd.R_lower (Kd.R_new' (Kd.R_new' (Kd.R_new' ho0 (Kd.R_lt (zR HO_11.out))) (Kd.R_lt (zR HO_12.out))) (Kd.R_lt (zR HO676.out))) (below_size (zB HB.out))); have n4_ := Aside0.mk (below_step (zB HB.out) hb); clear HO_11; clear HO_12; clear HO676; clear HB; have HO_11 := n0_; have HO_12 := n1_; have HO676 := n2_; have HO679 := n3_; have HB := n4_; clear n0_ n1_ n2_ n3_ n4_; (try clear hb); (try clear hb2); (try clear hk); (try clear hi); (try clear ho0)))
          go_loopg [16] k2 (fun kq v16 w' => ∃ (x11_3 : List Int) (x16_3 : Int), v16 = .int .i64 x16_3 ∧ Aside0 (spec_ScriptFired.l1 kq l0 a1 l3 a4 x11_3 x12_2 x13_2 t674 t677 x16_3 = some r) ∧ Aside0 (kq ≤ k2) ∧ Aside0 (Kd.R (Kd.int .i64) 3 w' w.heap.size (fun k_ => some k_ ≠ ((.slice Ao26 x12_2.length co26) : Value).ownBlock ∧ some k_ ≠ ((.slice Ao28 t674.length co28) : Value).ownBlock ∧ some k_ ≠ (v678 : Value).ownBlock) v666 x11_3) ∧ Aside0 (Kd.R (Kd.int .i64) 3 w' w.heap.size (fun k_ => some k_ ≠ (v666 : Value).ownBlock ∧ some k_ ≠ ((.slice Ao28 t674.length co28) : Value).ownBlock ∧ some k_ ≠ (v678 : Value).ownBlock) (.slice Ao26 x12_2.length co26) x12_2) ∧ Aside0 (Kd.R (Kd.int .i64) 3 w' w.heap.size (fun k_ => some k_ ≠ (v666 : Value).ownBlock ∧ some k_ ≠ ((.slice Ao26 x12_2.length co26) : Value).ownBlock ∧ some k_ ≠ (v678 : Value).ownBlock) (.slice Ao28 t674.length co28) t674) ∧ Aside0 (Kd.R (Kd.int .i64) 3 w' w.heap.size (fun k_ => some k_ ≠ (v666 : Value).ownBlock ∧ some k_ ≠ ((.slice Ao26 x12_2.length co26) : Value).ownBlock ∧ some k_ ≠ ((.slice Ao28 t674.length co28) : Value).ownBlock) v678 t677) ∧ Aside0 (Below w.heap.size w w'))
          case atStart => exact ⟨(x11_2), (0), (by first | rfl | (simp; done) | (simp [*]; done)), H', ⟨Nat.le_refl _⟩, ⟨by (with_reducible repeat (first | apply Kd.R_alloc | apply Kd.R_drewN | apply Kd.R_drew)); exact Kd.R_mono HO_11.out (fun _ hk => ⟨hk.1.1, ⟨hk.1.2, hk.2⟩⟩)⟩, ⟨by (with_reducible repeat (first | apply Kd.R_alloc | apply Kd.R_drewN | apply Kd.R_drew)); exact Kd.R_mono HO_12.out (fun _ hk => ⟨hk.1.1, ⟨hk.1.2, hk.2⟩⟩)⟩, ⟨by (with_reducible repeat (first | apply Kd.R_alloc | apply Kd.R_drewN | apply Kd.R_drew)); exact Kd.R_mono HO676.out (fun _ hk => ⟨hk.1.1.2, ⟨hk.1.2, hk.2⟩⟩)⟩, ⟨by (with_reducible repeat (first | apply Kd.R_alloc | apply Kd.R_drewN | apply Kd.R_drew)); exact Kd.R_mono HO679.out (fun _ hk => ⟨hk.1.1.2, ⟨hk.1.2, hk.2⟩⟩)⟩, ⟨zB HB.out⟩⟩
          case round =>
           clear H'
           try clear c1
           try clear c2
           try clear p2
           try clear c3
           try clear c4
           try clear c8
           try clear c10
           try clear c12
           try clear c15
           try clear c15b0
           try clear c15b1
           try clear c16
           try clear c16b0
           try clear c16b1
           try clear c17
           try clear c23
           try clear c23b0
           try clear c24
           try clear c26
           try clear c28
           try clear p2
           obtain ⟨x11_3, x16_3, rfl, HA, HK3, HO_11, HO_12, HO_14, HO_15, HB⟩ := hrel
           cases gk with
           | zero => exact absurd HA.out (by simp [spec_ScriptFired.l1])
           | succ k3 =>
            have H := HA.out
            clear HA
            simp only [spec_ScriptFired.l1] at H
            by_cases c30 : x16_3 < (l0.length : Int)
            ·rw [if_pos c30] at H
             have c30b0 : decide (x16_3 < (l0.length : Int)) = true := decide_eq_true c30
             clear c30
             have HC31 := Aside0.mk H
             clear H
             go_upto_region 13 with (fail)
             go_cut [71] (fun v71 wc => ∃ (kq : Nat) (x71_30 : Bool), v71 = .bool x71_30 ∧ Aside0 (spec_ScriptFired.j3 kq l0 a1 l3 a4 x11_3 x12_2 x13_2 t674 t677 x16_3 x71_30 = some r) ∧ Aside0 (kq ≤ k3) ∧ Aside0 (Kd.R (Kd.int .i64) 3 wc w.heap.size (fun k_ => some k_ ≠ ((.slice Ao26 x12_2.length co26) : Value).ownBlock ∧ some k_ ≠ ((.slice Ao28 t674.length co28) : Value).ownBlock ∧ some k_ ≠ (v678 : Value).ownBlock) v666 x11_3) ∧ Aside0 (Kd.R (Kd.int .i64) 3 wc w.heap.size (fun k_ => some k_ ≠ (v666 : Value).ownBlock ∧ some k_ ≠ ((.slice Ao28 t674.length co28) : Value).ownBlock ∧ some k_ ≠ (v678 : Value).ownBlock) (.slice Ao26 x12_2.length co26) x12_2) ∧ Aside0 (Kd.R (Kd.int .i64) 3 wc w.heap.size (fun k_ => some k_ ≠ (v666 : Value).ownBlock ∧ some k_ ≠ ((.slice Ao26 x12_2.length co26) : Value).ownBlock ∧ some k_ ≠ (v678 : Value).ownBlock) (.slice Ao28 t674.length co28) t674) ∧ Aside0 (Kd.R (Kd.int .i64) 3 wc w.heap.size (fun k_ => some k_ ≠ (v666 : Value).ownBlock ∧ some k_ ≠ ((.slice Ao26 x12_2.length co26) : Value).ownBlock ∧ some k_ ≠ ((.slice Ao28 t674.length co28) : Value).ownBlock) v678 t677) ∧ Aside0 (Below w.heap.size w wc))
             case first =>
              have H := HC31.out
              clear HC31
              by_cases c32 : 0 ≤ x16_3
              ·rw [if_pos c32] at H
               have c32b0 : decide (0 ≤ x16_3) = true := decide_eq_true c32
               clear c32
               (first | rw [c32b0] | (simp only [i64_w, i32_w]; rw [c32b0]) | skip)
               by_cases c33 : x16_3 < (x12_2.length : Int)
               ·rw [if_pos c33] at H
                have c33b0 : decide (x16_3 < (x12_2.length : Int)) = true := decide_eq_true c33
                clear c33
                by_cases c34 : (rd x12_2 x16_3) = 0
                ·rw [if_pos c34] at H
                 have c34b0 : ((rd x12_2 x16_3) == 0) = true := beq_iff_eq.mpr c34
                 have c34b1 : ((rd x12_2 x16_3) != 0) = false := bne_eq_false_iff_eq.mpr c34
                 clear c34
                 by_cases c35 : x16_3 < (t674.length : Int)
                 ·rw [if_pos c35] at H
                  have c35b0 : decide (x16_3 < (t674.length : Int)) = true := decide_eq_true c35
                  clear c35
                  have H' := Aside0.mk H
                  clear H
                  have p680 : 0 ≤ (x16_3 : Int) := zD
                  have q680 : x16_3 < (x12_2.length : Int) := zD
                  obtain ⟨ad680, e680, hx680_0⟩ := Kd.at_int (Kd.R_reads' HO_12.out).2.2 x16_3 p680 q680
                  cases e680
                  replace p680 := eq_true p680
                  replace q680 := eq_true q680
                  have p681 : 0 ≤ (x16_3 : Int) := zD
                  have q681 : x16_3 < (t674.length : Int) := zD
                  obtain ⟨ad681, e681, hx681_0⟩ := Kd.at_int (Kd.R_reads' HO_14.out).2.2 x16_3 p681 q681
                  cases e681
                  replace p681 := eq_true p681
                  replace q681 := eq_true q681
                  go_wp2
                  go_meet
                  case rel => exact ⟨_, (((rd t674 x16_3) == 1)), (by first | rfl | (simp; done) | (simp [*]; done)), H', ⟨by have := HJ5.out; have := HK2.out; have := HK3.out; first | omega | exact Nat.le_refl _⟩, ⟨by (with_reducible repeat (first | apply Kd.R_alloc | apply Kd.R_drewN | apply Kd.R_drew)); exact HO_11.out⟩, ⟨by (with_reducible repeat (first | apply Kd.R_alloc | apply Kd.R_drewN | apply Kd.R_drew)); exact HO_12.out⟩, ⟨by (with_reducible repeat (first | apply Kd.R_alloc | apply Kd.R_drewN | apply Kd.R_drew)); exact HO_14.out⟩, ⟨by (with_reducible repeat (first | apply Kd.R_alloc | apply Kd.R_drewN | apply Kd.R_drew)); exact HO_15.out⟩, ⟨zB HB.out⟩⟩
                 ·rw [if_neg c35] at H
                  exact absurd H (by simp)
                ·rw [if_neg c34] at H
                 have c34b0 : ((rd x12_2 x16_3) == 0) = false := beq_eq_false_iff_ne.mpr c34
                 have c34b1 : ((rd x12_2 x16_3) != 0) = true := bne_iff_ne.mpr c34
                 have H' := Aside0.mk H
                 clear H
                 have p680 : 0 ≤ (x16_3 : Int) := zD
                 have q680 : x16_3 < (x12_2.length : Int) := zD
                 obtain ⟨ad680, e680, hx680_0⟩ := Kd.at_int (Kd.R_reads' HO_12.out).2.2 x16_3 p680 q680
                 cases e680
                 replace p680 := eq_true p680
                 replace q680 := eq_true q680
                 go_wp2
                 go_meet
                 case rel => exact ⟨_, (false), (by first | rfl | (simp; done) | (simp [*]; done)), H', ⟨by have := HJ5.out; have := HK2.out; have := HK3.out; first | omega | exact Nat.le_refl _⟩, ⟨by (with_reducible repeat (first | apply Kd.R_alloc | apply Kd.R_drewN | apply Kd.R_drew)); exact HO_11.out⟩, ⟨by (with_reducible repeat (first | apply Kd.R_alloc | apply Kd.R_drewN | apply Kd.R_drew)); exact HO_12.out⟩, ⟨by (with_reducible repeat (first | apply Kd.R_alloc | apply Kd.R_drewN | apply Kd.R_drew)); exact HO_14.out⟩, ⟨by (with_reducible repeat (first | apply Kd.R_alloc | apply Kd.R_drewN | apply Kd.R_drew)); exact HO_15.out⟩, ⟨zB HB.out⟩⟩
               ·rw [if_neg c33] at H
                exact absurd H (by simp)
              ·rw [if_neg c32] at H
               exact absurd H (by simp)
             case rest =>
              clear HC31
              try clear c1
              try clear c2
              try clear p2
              try clear c3
              try clear c4
              try clear p6
              try clear q6
              try clear hx6
              try clear c8
              try clear c10
              try clear c12
              try clear c15
              try clear c15b0
              try clear c15b1
              try clear c16
              try clear c16b0
              try clear c16b1
              try clear c17
              try clear c23
              try clear c23b0
              try clear c24
              try clear c26
              try clear c28
              try clear c30
              try clear c30b0
              try clear c32
              try clear c32b0
              try clear c33
              try clear c33b0
              try clear c34
              try clear c34b0
              try clear c34b1
              try clear c35
              try clear c35b0
              try clear hx680_0
              try clear hx681_0
              try clear p2
              try clear p680
              try clear p681
              try clear q680
              try clear q681
              obtain ⟨kq, x71_30, rfl, HA, HJ30, HO_11, HO_12, HO_14, HO_15, HB⟩ := hcut
              cases kq with
              | zero => exact absurd HA.out (by simp [spec_ScriptFired.j3])
              | succ kj30 =>
               have H := HA.out
               clear HA
               simp only [spec_ScriptFired.j3] at H
               by_cases c36 : x71_30 = true
               ·subst c36
                have H1 : (if 0 ≤ x16_3 then (if x16_3 < (x11_3.length : Int) then ((some (x11_3.set (x16_3 : Int).toNat (wrap64 ((rd x11_3 x16_3) + 1)) : List Int)).bind fun y683 => (if x16_3 < (t677.length : Int) then (if (rd t677 x16_3) = 1 then (spec_ScriptFired.l1 kj30 l0 a1 l3 a4 (y683.set (x16_3 : Int).toNat (wrap64 ((rd y683 x16_3) + 1))) x12_2 x13_2 t674 t677 (wrap64 (x16_3 + 1))) else (spec_ScriptFired.l1 kj30 l0 a1 l3 a4 y683 x12_2 x13_2 t674 t677 (wrap64 (x16_3 + 1)))) else (none))) else (none)) else (none)) = some r := by rw [if_pos rfl] at H; exact H
                clear H
                have H := H1
                clear H1
                by_cases c37 : 0 ≤ x16_3
                ·rw [if_pos c37] at H
                 have c37b0 : decide (0 ≤ x16_3) = true := decide_eq_true c37
                 clear c37
                 by_cases c38 : x16_3 < (x11_3.length : Int)
                 ·rw [if_pos c38] at H
                  have c38b0 : decide (x16_3 < (x11_3.length : Int)) = true := decide_eq_true c38
                  clear c38
                  obtain ⟨y683, hy683⟩ : ∃ y_ : List Int, y_ = (x11_3.set (x16_3 : Int).toNat (wrap64 ((rd x11_3 x16_3) + 1))) := ⟨_, rfl⟩
                  replace H : (if x16_3 < (t677.length : Int) then (if (rd t677 x16_3) = 1 then (spec_ScriptFired.l1 kj30 l0 a1 l3 a4 (y683.set (x16_3 : Int).toNat (wrap64 ((rd y683 x16_3) + 1))) x12_2 x13_2 t674 t677 (wrap64 (x16_3 + 1))) else (spec_ScriptFired.l1 kj30 l0 a1 l3 a4 y683 x12_2 x13_2 t674 t677 (wrap64 (x16_3 + 1)))) else (none)) = some r := by first | (rw [hy683]; with_reducible exact H) | (have H2_ := (Option.bind_some _ _).symm.trans H; rw [hy683]; with_reducible exact H2_) | (have H2_ := (Option.bind_some _ _).symm.trans H; with_reducible exact H2_) | with_reducible exact H | (rw [hy683]; exact H) | exact H
                  have Ny683 := Aside0.mk hy683
                  clear hy683
                  by_cases c40 : x16_3 < (t677.length : Int)
                  ·rw [if_pos c40] at H
                   have c40b0 : decide (x16_3 < (t677.length : Int)) = true := decide_eq_true c40
                   clear c40
                   by_cases c41 : (rd t677 x16_3) = 1
                   ·rw [if_pos c41] at H
                    have c41b0 : ((rd t677 x16_3) == 1) = true := beq_iff_eq.mpr c41
                    have c41b1 : ((rd t677 x16_3) != 1) = false := bne_eq_false_iff_eq.mpr c41
                    clear c41
                    obtain ⟨y686, hy686⟩ : ∃ y_ : List Int, y_ = (y683.set (x16_3 : Int).toNat (wrap64 ((rd y683 x16_3) + 1))) := ⟨_, rfl⟩
                    replace H : (spec_ScriptFired.l1 kj30 l0 a1 l3 a4 y686 x12_2 x13_2 t674 t677 (wrap64 (x16_3 + 1))) = some r := by first | (rw [hy686]; with_reducible exact H) | (have H2_ := (Option.bind_some _ _).symm.trans H; rw [hy686]; with_reducible exact H2_) | (have H2_ := (Option.bind_some _ _).symm.trans H; with_reducible exact H2_) | with_reducible exact H | (rw [hy686]; exact H) | exact H
                    have Ny686 := Aside0.mk hy686
                    clear hy686
                    have H' := Aside0.mk H
                    clear H
                    obtain ⟨Ao43, co43, eo43⟩ := Kd.R_slice HO_11.out
                    subst eo43
                    have p682 : 0 ≤ (x16_3 : Int) := zD
                    have q682 : x16_3 < (x11_3.length : Int) := zD
                    obtain ⟨ad682, e682, hx682_0⟩ := Kd.at_int (Kd.R_reads' HO_11.out).2.2 x16_3 p682 q682
                    cases e682
                    replace p682 := eq_true p682
                    replace q682 := eq_true q682
                    have p39 : 0 ≤ (x16_3 : Int) := zD
                    have q39 : (x16_3 : Int) < ((x11_3.length : Int) : Int) := zD
                    obtain ⟨go39, co39, eo39, gb39, gl39, cl39, HG39⟩ := Kd.R_form HO_11.out (by omega)
                    (first | cases eo39 | (injection eo39 with ea_ en_ ec_; (first | subst ea_ | (injection ea_ with ea_; subst ea_)); subst ec_; clear en_))
                    have GB39 := Aside0.mk gb39
                    have GG39 := Aside0.mk HG39
                    clear gb39 gl39 HG39
                    (first | simp only [add_plain] at hx682_0 | skip)
                    obtain ⟨hx39_0, hf39_0⟩ := Kd.R_celln 0 HO_11.out (x16_3 : Int) p39 q39
                    replace p39 := eq_true p39
                    replace q39 := eq_true q39
                    have HP44 := Kd.R_putg HO_11.out (x16_3 : Int) (wrap64 ((rd x11_3 x16_3) + 1))
                    go_wp2_with (first | ((with_reducible refine gate_store (t := 3) (p := 79) rfl ?_); refine store_event (t := 3) (p := 79) (v := ?vo_w45) (w1 := (wc.setCell ⟨go39, (x16_3 : Int).toNat, none⟩ (.int .i64 (wrap64 ((rd x11_3 x16_3) + 1))))) ?hg ?ho ?hn ?hr ?_; (case ho => rfl); (case hg => rfl); (case hn => rfl); (case hr => first | (go_simp; done) | (go_simp; rfl)); intro w45 hw; have hg : wc.grownBy w45 (some go39) := (by rw [hw]; exact HP44.2); have hp_ : Kd.R (Kd.int .i64) 3 w45 w.heap.size (fun k_ => some k_ ≠ (.slice Ao26 x12_2.length co26 : Value).ownBlock ∧ some k_ ≠ (.slice Ao28 t674.length co28 : Value).ownBlock ∧ some k_ ≠ (v678 : Value).ownBlock) (.slice (some ⟨go39, 0, none⟩) x11_3.length co43) y683 := (by rw [hw, Ny683.out]; exact HP44.1); clear HP44; have n0_ := Aside0.mk (hp_); have n1_ := Aside0.mk (Kd.R_after (v := (.slice (some ⟨go39, 0, none⟩) x11_3.length co43)) (v1 := (.slice (some ⟨go39, 0, none⟩) x11_3.length co43)) (ok := (fun k_ => some k_ ≠ (.slice Ao28 t674.length co28 : Value).ownBlock ∧ some k_ ≠ (v678 : Value).ownBlock)) (by (with_reducible repeat (first | apply Kd.R_alloc | apply Kd.R_drewN | apply Kd.R_drew)); exact Kd.R_mono HO_12.out (fun _ hk => ⟨⟨hk.2.1, hk.2.2⟩, hk.1⟩)) hg (.inl rfl)); have n2_ := Aside0.mk (Kd.R_after (v := (.slice (some ⟨go39, 0, none⟩) x11_3.length co43)) (v1 := (.slice (some ⟨go39, 0, none⟩) x11_3.length co43)) (ok := (fun k_ => some k_ ≠ (.slice Ao26 x12_2.length co26 : Value).ownBlock ∧ some k_ ≠ (v678 : Value).ownBlock)) (by (with_reducible repeat (first | apply Kd.R_alloc | apply Kd.R_drewN | apply Kd.R_drew)); exact Kd.R_mono HO_14.out (fun _ hk => ⟨⟨hk.2.1, hk.2.2⟩, hk.1⟩)) hg (.inl rfl)); have n3_ := Aside0.mk (Kd.R_after (v := (.slice (some ⟨go39, 0, none⟩) x11_3.length co43)) (v1 := (.slice (some ⟨go39, 0, none⟩) x11_3.length co43)) (ok := (fun k_ => some k_ ≠ (.slice Ao26 x12_2.length co26 : Value).ownBlock ∧ some k_ ≠ (.slice Ao28 t674.length co28 : Value).ownBlock)) (by (with_reducible repeat (first | apply Kd.R_alloc | apply Kd.R_drewN | apply Kd.R_drew)); exact Kd.R_mono HO_15.out (fun _ hk => ⟨⟨hk.2.1, hk.2.2⟩, hk.1⟩)) hg (.inl rfl)); have n4_ := Aside0.mk ((by rw [hw]; exact below_set (HB.out) GB39.out : Below w.heap.size w w45)); clear HO_11; clear HO_12; clear HO_14; clear HO_15; clear HB; have HO_11 := n0_; have HO_12 := n1_; have HO_14 := n2_; have HO_15 := n3_; have HB := n4_; clear n0_ n1_ n2_ n3_ n4_; clear hg hw hp_; obtain ⟨Ao46, co46, eo46⟩ := Kd.R_slice HO_15.out; subst eo46; have p684 : 0 ≤ (x16_3 : Int) := zD; have q684 : x16_3 < (t677.length : Int) := zD; obtain ⟨ad684, e684, hx684_0⟩ := Kd.at_int (Kd.R_reads' HO_15.out).2.2 x16_3 p684 q684; cases e684; replace p684 := eq_true p684; replace q684 := eq_true q684; have p685 : 0 ≤ (x16_3 : Int) := zD; have q685 : x16_3 < (y683.length : Int) := (by have h_ : (x16_3 : Int) < ((x11_3.length : Int) : Int) := zD; first | (have e_ := (Kd.R_reads' HO_11.out).1; omega) | simpa only [Ny683.out, List.length_set] using h_); have ql685 : ((x16_3 : Int) < ((x11_3.length : Int) : Int)) = True := eq_true (zD); obtain ⟨ad685, e685, hx685_0⟩ := Kd.at_int (Kd.R_reads' HO_11.out).2.2 x16_3 p685 q685; obtain rfl : (⟨go39, 0, none⟩ : Addr) = ad685 := (by injection e685); (first | simp only [add_plain] at hx685_0 | simp only [add_at] at hx685_0 | simp only [Addr.add, Nat.zero_add] at hx685_0 | skip); replace p685 := eq_true p685; replace q685 := eq_true q685; have p42 : 0 ≤ (x16_3 : Int) := zD; have q42 : (x16_3 : Int) < ((x11_3.length : Int) : Int) := zD; obtain ⟨hx42_0, hf42_0⟩ := Kd.R_celln 0 HO_11.out (x16_3 : Int) p42 q42; replace p42 := eq_true p42; replace q42 := eq_true q42; obtain ⟨hy47_, hz47_⟩ := Kd.R_celln 0 HO_11.out (x16_3 : Int) (zD) (zD); have HP47 := Kd.R_putg HO_11.out (x16_3 : Int) (wrap64 ((rd y683 x16_3) + 1))) | ((with_reducible refine gate_store (t := 3) (p := 92) rfl ?_); refine store_event (t := 3) (p := 92) (v := ?vo_w48) (w1 := (w45.setCell ⟨go39, (x16_3 : Int).toNat, none⟩ (.int .i64 (wrap64 ((rd y683 x16_3) + 1))))) ?hg ?ho ?hn ?hr ?_; (case ho => rfl); (case hg => rfl); (case hn => rfl); (case hr => first | (go_simp; done) | (go_simp; rfl)); intro w48 hw; have hg : w45.grownBy w48 (some go39) := (by rw [hw]; exact HP47.2); have hp_ : Kd.R (Kd.int .i64) 3 w48 w.heap.size (fun k_ => some k_ ≠ (.slice Ao26 x12_2.length co26 : Value).ownBlock ∧ some k_ ≠ (.slice Ao28 t674.length co28 : Value).ownBlock ∧ some k_ ≠ (.slice (some ad684) t677.length co46 : Value).ownBlock) (.slice (some ⟨go39, 0, none⟩) x11_3.length co43) y686 := (by rw [hw, Ny686.out]; exact HP47.1); clear HP47; have n0_ := Aside0.mk (hp_); have n1_ := Aside0.mk (Kd.R_after (v := (.slice (some ⟨go39, 0, none⟩) x11_3.length co43)) (v1 := (.slice (some ⟨go39, 0, none⟩) x11_3.length co43)) (ok := (fun k_ => some k_ ≠ (.slice Ao28 t674.length co28 : Value).ownBlock ∧ some k_ ≠ (.slice (some ad684) t677.length co46 : Value).ownBlock)) (zR HO_12.out) hg (.inl rfl)); have n2_ := Aside0.mk (Kd.R_after (v := (.slice (some ⟨go39, 0, none⟩) x11_3.length co43)) (v1 := (.slice (some ⟨go39, 0, none⟩) x11_3.length co43)) (ok := (fun k_ => some k_ ≠ (.slice Ao26 x12_2.length co26 : Value).ownBlock ∧ some k_ ≠ (.slice (some ad684) t677.length co46 : Value).ownBlock)) (zR HO_14.out) hg (.inl rfl)); have n3_ := Aside0.mk (Kd.R_after (v := (.slice (some ⟨go39, 0, none⟩) x11_3.length co43)) (v1 := (.slice (some ⟨go39, 0, none⟩) x11_3.length co43)) (ok := (fun k_ => some k_ ≠ (.slice Ao26 x12_2.length co26 : Value).ownBlock ∧ some k_ ≠ (.slice Ao28 t674.length co28 : Value).ownBlock)) (zR HO_15.out) hg (.inl rfl)); have n4_ := Aside0.mk ((by rw [hw]; exact below_set (HB.out) GB39.out : Below w.heap.size w w48)); clear HO_11; clear HO_12; clear HO_14; clear HO_15; clear HB; have HO_11 := n0_; have HO_12 := n1_; have HO_14 := n2_; have HO_15 := n3_; have HB := n4_; clear n0_ n1_ n2_ n3_ n4_; clear hg hw hp_))
                    go_roundg kj30
                    case measure => have := HJ5.out; have := HK2.out; have := HK3.out; have := HJ30.out; omega
                    case rel => exact ⟨(y686), (wrap64 (x16_3 + 1)), (by first | rfl | (simp; done) | (simp [*]; done)), H', ⟨by have := HJ5.out; have := HK2.out; have := HK3.out; have := HJ30.out; omega⟩, ⟨by (with_reducible repeat (first | apply Kd.R_alloc | apply Kd.R_drewN | apply Kd.R_drew)); exact HO_11.out⟩, ⟨by (with_reducible repeat (first | apply Kd.R_alloc | apply Kd.R_drewN | apply Kd.R_drew)); exact Kd.R_mono HO_12.out (fun _ hk => ⟨hk.2, ⟨hk.1.1, hk.1.2⟩⟩)⟩, ⟨by (with_reducible repeat (first | apply Kd.R_alloc | apply Kd.R_drewN | apply Kd.R_drew)); exact Kd.R_mono HO_14.out (fun _ hk => ⟨hk.2, ⟨hk.1.1, hk.1.2⟩⟩)⟩, ⟨by (with_reducible repeat (first | apply Kd.R_alloc | apply Kd.R_drewN | apply Kd.R_drew)); exact Kd.R_mono HO_15.out (fun _ hk => ⟨hk.2, ⟨hk.1.1, hk.1.2⟩⟩)⟩, ⟨zB HB.out⟩⟩
                   ·rw [if_neg c41] at H
                    have c41b0 : ((rd t677 x16_3) == 1) = false := beq_eq_false_iff_ne.mpr c41
                    have c41b1 : ((rd t677 x16_3) != 1) = true := bne_iff_ne.mpr c41
                    have H' := Aside0.mk H
                    clear H
                    obtain ⟨Ao49, co49, eo49⟩ := Kd.R_slice HO_11.out
                    subst eo49
                    have p682 : 0 ≤ (x16_3 : Int) := zD
                    have q682 : x16_3 < (x11_3.length : Int) := zD
                    obtain ⟨ad682, e682, hx682_0⟩ := Kd.at_int (Kd.R_reads' HO_11.out).2.2 x16_3 p682 q682
                    cases e682
                    replace p682 := eq_true p682
                    replace q682 := eq_true q682
                    have p39 : 0 ≤ (x16_3 : Int) := zD
                    have q39 : (x16_3 : Int) < ((x11_3.length : Int) : Int) := zD
                    obtain ⟨go39, co39, eo39, gb39, gl39, cl39, HG39⟩ := Kd.R_form HO_11.out (by omega)
                    (first | cases eo39 | (injection eo39 with ea_ en_ ec_; (first | subst ea_ | (injection ea_ with ea_; subst ea_)); subst ec_; clear en_))
                    have GB39 := Aside0.mk gb39
                    have GG39 := Aside0.mk HG39
                    clear gb39 gl39 HG39
                    (first | simp only [add_plain] at hx682_0 | skip)
                    obtain ⟨hx39_0, hf39_0⟩ := Kd.R_celln 0 HO_11.out (x16_3 : Int) p39 q39
                    replace p39 := eq_true p39
                    replace q39 := eq_true q39
                    have HP50 := Kd.R_putg HO_11.out (x16_3 : Int) (wrap64 ((rd x11_3 x16_3) + 1))
                    go_wp2_with (first | ((with_reducible refine gate_store (t := 3) (p := 79) rfl ?_); refine store_event (t := 3) (p := 79) (v := ?vo_w51) (w1 := (wc.setCell ⟨go39, (x16_3 : Int).toNat, none⟩ (.int .i64 (wrap64 ((rd x11_3 x16_3) + 1))))) ?hg ?ho ?hn ?hr ?_; (case ho => rfl); (case hg => rfl); (case hn => rfl); (case hr => first | (go_simp; done) | (go_simp; rfl)); intro w51 hw; have hg : wc.grownBy w51 (some go39) := (by rw [hw]; exact HP50.2); have hp_ : Kd.R (Kd.int .i64) 3 w51 w.heap.size (fun k_ => some k_ ≠ (.slice Ao26 x12_2.length co26 : Value).ownBlock ∧ some k_ ≠ (.slice Ao28 t674.length co28 : Value).ownBlock ∧ some k_ ≠ (v678 : Value).ownBlock) (.slice (some ⟨go39, 0, none⟩) x11_3.length co49) y683 := (by rw [hw, Ny683.out]; exact HP50.1); clear HP50; have n0_ := Aside0.mk (hp_); have n1_ := Aside0.mk (Kd.R_after (v := (.slice (some ⟨go39, 0, none⟩) x11_3.length co49)) (v1 := (.slice (some ⟨go39, 0, none⟩) x11_3.length co49)) (ok := (fun k_ => some k_ ≠ (.slice Ao28 t674.length co28 : Value).ownBlock ∧ some k_ ≠ (v678 : Value).ownBlock)) (by (with_reducible repeat (first | apply Kd.R_alloc | apply Kd.R_drewN | apply Kd.R_drew)); exact Kd.R_mono HO_12.out (fun _ hk => ⟨⟨hk.2.1, hk.2.2⟩, hk.1⟩)) hg (.inl rfl)); have n2_ := Aside0.mk (Kd.R_after (v := (.slice (some ⟨go39, 0, none⟩) x11_3.length co49)) (v1 := (.slice (some ⟨go39, 0, none⟩) x11_3.length co49)) (ok := (fun k_ => some k_ ≠ (.slice Ao26 x12_2.length co26 : Value).ownBlock ∧ some k_ ≠ (v678 : Value).ownBlock)) (by (with_reducible repeat (first | apply Kd.R_alloc | apply Kd.R_drewN | apply Kd.R_drew)); exact Kd.R_mono HO_14.out (fun _ hk => ⟨⟨hk.2.1, hk.2.2⟩, hk.1⟩)) hg (.inl rfl)); have n3_ := Aside0.mk (Kd.R_after (v := (.slice (some ⟨go39, 0, none⟩) x11_3.length co49)) (v1 := (.slice (some ⟨go39, 0, none⟩) x11_3.length co49)) (ok := (fun k_ => some k_ ≠ (.slice Ao26 x12_2.length co26 : Value).ownBlock ∧ some k_ ≠ (.slice Ao28 t674.length co28 : Value).ownBlock)) (by (with_reducible repeat (first | apply Kd.R_alloc | apply Kd.R_drewN | apply Kd.R_drew)); exact Kd.R_mono HO_15.out (fun _ hk => ⟨⟨hk.2.1, hk.2.2⟩, hk.1⟩)) hg (.inl rfl)); have n4_ := Aside0.mk ((by rw [hw]; exact below_set (HB.out) GB39.out : Below w.heap.size w w51)); clear HO_11; clear HO_12; clear HO_14; clear HO_15; clear HB; have HO_11 := n0_; have HO_12 := n1_; have HO_14 := n2_; have HO_15 := n3_; have HB := n4_; clear n0_ n1_ n2_ n3_ n4_; clear hg hw hp_; obtain ⟨Ao52, co52, eo52⟩ := Kd.R_slice HO_15.out; subst eo52; have p684 : 0 ≤ (x16_3 : Int) := zD; have q684 : x16_3 < (t677.length : Int) := zD; obtain ⟨ad684, e684, hx684_0⟩ := Kd.at_int (Kd.R_reads' HO_15.out).2.2 x16_3 p684 q684; cases e684; replace p684 := eq_true p684; replace q684 := eq_true q684))
                    go_roundg kj30
                    case measure => have := HJ5.out; have := HK2.out; have := HK3.out; have := HJ30.out; omega
                    case rel => exact ⟨(y683), (wrap64 (x16_3 + 1)), (by first | rfl | (simp; done) | (simp [*]; done)), H', ⟨by have := HJ5.out; have := HK2.out; have := HK3.out; have := HJ30.out; omega⟩, ⟨by (with_reducible repeat (first | apply Kd.R_alloc | apply Kd.R_drewN | apply Kd.R_drew)); exact HO_11.out⟩, ⟨by (with_reducible repeat (first | apply Kd.R_alloc | apply Kd.R_drewN | apply Kd.R_drew)); exact Kd.R_mono HO_12.out (fun _ hk => ⟨hk.2, ⟨hk.1.1, hk.1.2⟩⟩)⟩, ⟨by (with_reducible repeat (first | apply Kd.R_alloc | apply Kd.R_drewN | apply Kd.R_drew)); exact Kd.R_mono HO_14.out (fun _ hk => ⟨hk.2, ⟨hk.1.1, hk.1.2⟩⟩)⟩, ⟨by (with_reducible repeat (first | apply Kd.R_alloc | apply Kd.R_drewN | apply Kd.R_drew)); exact Kd.R_mono HO_15.out (fun _ hk => ⟨hk.2, ⟨hk.1.1, hk.1.2⟩⟩)⟩, ⟨zB HB.out⟩⟩
                  ·rw [if_neg c40] at H
                   exact absurd H (by simp)
                 ·rw [if_neg c38] at H
                  exact absurd H (by simp)
                ·rw [if_neg c37] at H
                 exact absurd H (by simp)
               ·replace c36 := Bool.eq_false_iff.mpr c36
                subst c36
                have H1 : (if 0 ≤ x16_3 then (if x16_3 < (t677.length : Int) then (if (rd t677 x16_3) = 1 then (if x16_3 < (x11_3.length : Int) then (spec_ScriptFired.l1 kj30 l0 a1 l3 a4 (x11_3.set (x16_3 : Int).toNat (wrap64 ((rd x11_3 x16_3) + 1))) x12_2 x13_2 t674 t677 (wrap64 (x16_3 + 1))) else (none)) else (spec_ScriptFired.l1 kj30 l0 a1 l3 a4 x11_3 x12_2 x13_2 t674 t677 (wrap64 (x16_3 + 1)))) else (none)) else (none)) = some r := by rw [if_neg (show ¬ (false = true) by decide)] at H; exact H
                clear H
                have H := H1
                clear H1
                by_cases c53 : 0 ≤ x16_3
                ·rw [if_pos c53] at H
                 have c53b0 : decide (0 ≤ x16_3) = true := decide_eq_true c53
                 clear c53
                 by_cases c54 : x16_3 < (t677.length : Int)
                 ·rw [if_pos c54] at H
                  have c54b0 : decide (x16_3 < (t677.length : Int)) = true := decide_eq_true c54
                  clear c54
                  by_cases c55 : (rd t677 x16_3) = 1
                  ·rw [if_pos c55] at H
                   have c55b0 : ((rd t677 x16_3) == 1) = true := beq_iff_eq.mpr c55
                   have c55b1 : ((rd t677 x16_3) != 1) = false := bne_eq_false_iff_eq.mpr c55
                   clear c55
                   by_cases c56 : x16_3 < (x11_3.length : Int)
                   ·rw [if_pos c56] at H
                    have c56b0 : decide (x16_3 < (x11_3.length : Int)) = true := decide_eq_true c56
                    clear c56
                    obtain ⟨y689, hy689⟩ : ∃ y_ : List Int, y_ = (x11_3.set (x16_3 : Int).toNat (wrap64 ((rd x11_3 x16_3) + 1))) := ⟨_, rfl⟩
                    replace H : (spec_ScriptFired.l1 kj30 l0 a1 l3 a4 y689 x12_2 x13_2 t674 t677 (wrap64 (x16_3 + 1))) = some r := by first | (rw [hy689]; with_reducible exact H) | (have H2_ := (Option.bind_some _ _).symm.trans H; rw [hy689]; with_reducible exact H2_) | (have H2_ := (Option.bind_some _ _).symm.trans H; with_reducible exact H2_) | with_reducible exact H | (rw [hy689]; exact H) | exact H
                    have Ny689 := Aside0.mk hy689
                    clear hy689
                    have H' := Aside0.mk H
                    clear H
                    obtain ⟨Ao58, co58, eo58⟩ := Kd.R_slice HO_15.out
                    subst eo58
                    have p687 : 0 ≤ (x16_3 : Int) := zD
                    have q687 : x16_3 < (t677.length : Int) := zD
                    obtain ⟨ad687, e687, hx687_0⟩ := Kd.at_int (Kd.R_reads' HO_15.out).2.2 x16_3 p687 q687
                    cases e687
                    replace p687 := eq_true p687
                    replace q687 := eq_true q687
                    obtain ⟨Ao59, co59, eo59⟩ := Kd.R_slice HO_11.out
                    subst eo59
                    have p688 : 0 ≤ (x16_3 : Int) := zD
                    have q688 : x16_3 < (x11_3.length : Int) := zD
                    obtain ⟨ad688, e688, hx688_0⟩ := Kd.at_int (Kd.R_reads' HO_11.out).2.2 x16_3 p688 q688
                    cases e688
                    replace p688 := eq_true p688
                    replace q688 := eq_true q688
                    have p57 : 0 ≤ (x16_3 : Int) := zD
                    have q57 : (x16_3 : Int) < ((x11_3.length : Int) : Int) := zD
                    obtain ⟨go57, co57, eo57, gb57, gl57, cl57, HG57⟩ := Kd.R_form HO_11.out (by omega)
                    (first | cases eo57 | (injection eo57 with ea_ en_ ec_; (first | subst ea_ | (injection ea_ with ea_; subst ea_)); subst ec_; clear en_))
                    have GB57 := Aside0.mk gb57
                    have GG57 := Aside0.mk HG57
                    clear gb57 gl57 HG57
                    (first | simp only [add_plain] at hx688_0 | skip)
                    obtain ⟨hx57_0, hf57_0⟩ := Kd.R_celln 0 HO_11.out (x16_3 : Int) p57 q57
                    replace p57 := eq_true p57
                    replace q57 := eq_true q57
                    have HP60 := Kd.R_putg HO_11.out (x16_3 : Int) (wrap64 ((rd x11_3 x16_3) + 1))
                    go_wp2_with (first | ((with_reducible refine gate_store (t := 3) (p := 92) rfl ?_); refine store_event (t := 3) (p := 92) (v := ?vo_w61) (w1 := (wc.setCell ⟨go57, (x16_3 : Int).toNat, none⟩ (.int .i64 (wrap64 ((rd x11_3 x16_3) + 1))))) ?hg ?ho ?hn ?hr ?_; (case ho => rfl); (case hg => rfl); (case hn => rfl); (case hr => first | (go_simp; done) | (go_simp; rfl)); intro w61 hw; have hg : wc.grownBy w61 (some go57) := (by rw [hw]; exact HP60.2); have hp_ : Kd.R (Kd.int .i64) 3 w61 w.heap.size (fun k_ => some k_ ≠ (.slice Ao26 x12_2.length co26 : Value).ownBlock ∧ some k_ ≠ (.slice Ao28 t674.length co28 : Value).ownBlock ∧ some k_ ≠ (.slice (some ad687) t677.length co58 : Value).ownBlock) (.slice (some ⟨go57, 0, none⟩) x11_3.length co59) y689 := (by rw [hw, Ny689.out]; exact HP60.1); clear HP60; have n0_ := Aside0.mk (hp_); have n1_ := Aside0.mk (Kd.R_after (v := (.slice (some ⟨go57, 0, none⟩) x11_3.length co59)) (v1 := (.slice (some ⟨go57, 0, none⟩) x11_3.length co59)) (ok := (fun k_ => some k_ ≠ (.slice Ao28 t674.length co28 : Value).ownBlock ∧ some k_ ≠ (.slice (some ad687) t677.length co58 : Value).ownBlock)) (by (with_reducible repeat (first | apply Kd.R_alloc | apply Kd.R_drewN | apply Kd.R_drew)); exact Kd.R_mono HO_12.out (fun _ hk => ⟨⟨hk.2.1, hk.2.2⟩, hk.1⟩)) hg (.inl rfl)); have n2_ := Aside0.mk (Kd.R_after (v := (.slice (some ⟨go57, 0, none⟩) x11_3.length co59)) (v1 := (.slice (some ⟨go57, 0, none⟩) x11_3.length co59)) (ok := (fun k_ => some k_ ≠ (.slice Ao26 x12_2.length co26 : Value).ownBlock ∧ some k_ ≠ (.slice (some ad687) t677.length co58 : Value).ownBlock)) (by (with_reducible repeat (first | apply Kd.R_alloc | apply Kd.R_drewN | apply Kd.R_drew)); exact Kd.R_mono HO_14.out (fun _ hk => ⟨⟨hk.2.1, hk.2.2⟩, hk.1⟩)) hg (.inl rfl)); have n3_ := Aside0.mk (Kd.R_after (v := (.slice (some ⟨go57, 0, none⟩) x11_3.length co59)) (v1 := (.slice (some ⟨go57, 0, none⟩) x11_3.length co59)) (ok := (fun k_ => some k_ ≠ (.slice Ao26 x12_2.length co26 : Value).ownBlock ∧ some k_ ≠ (.slice Ao28 t674.length co28 : Value).ownBlock)) (by (with_reducible repeat (first | apply Kd.R_alloc | apply Kd.R_drewN | apply Kd.R_drew)); exact Kd.R_mono HO_15.out (fun _ hk => ⟨⟨hk.2.1, hk.2.2⟩, hk.1⟩)) hg (.inl rfl)); have n4_ := Aside0.mk ((by rw [hw]; exact below_set (HB.out) GB57.out : Below w.heap.size w w61)); clear HO_11; clear HO_12; clear HO_14; clear HO_15; clear HB; have HO_11 := n0_; have HO_12 := n1_; have HO_14 := n2_; have HO_15 := n3_; have HB := n4_; clear n0_ n1_ n2_ n3_ n4_; clear hg hw hp_))
                    go_roundg kj30
                    case measure => have := HJ5.out; have := HK2.out; have := HK3.out; have := HJ30.out; omega
                    case rel => exact ⟨(y689), (wrap64 (x16_3 + 1)), (by first | rfl | (simp; done) | (simp [*]; done)), H', ⟨by have := HJ5.out; have := HK2.out; have := HK3.out; have := HJ30.out; omega⟩, ⟨by (with_reducible repeat (first | apply Kd.R_alloc | apply Kd.R_drewN | apply Kd.R_drew)); exact HO_11.out⟩, ⟨by (with_reducible repeat (first | apply Kd.R_alloc | apply Kd.R_drewN | apply Kd.R_drew)); exact Kd.R_mono HO_12.out (fun _ hk => ⟨hk.2, ⟨hk.1.1, hk.1.2⟩⟩)⟩, ⟨by (with_reducible repeat (first | apply Kd.R_alloc | apply Kd.R_drewN | apply Kd.R_drew)); exact Kd.R_mono HO_14.out (fun _ hk => ⟨hk.2, ⟨hk.1.1, hk.1.2⟩⟩)⟩, ⟨by (with_reducible repeat (first | apply Kd.R_alloc | apply Kd.R_drewN | apply Kd.R_drew)); exact Kd.R_mono HO_15.out (fun _ hk => ⟨hk.2, ⟨hk.1.1, hk.1.2⟩⟩)⟩, ⟨zB HB.out⟩⟩
                   ·rw [if_neg c56] at H
                    exact absurd H (by simp)
                  ·rw [if_neg c55] at H
                   have c55b0 : ((rd t677 x16_3) == 1) = false := beq_eq_false_iff_ne.mpr c55
                   have c55b1 : ((rd t677 x16_3) != 1) = true := bne_iff_ne.mpr c55
                   have H' := Aside0.mk H
                   clear H
                   obtain ⟨Ao62, co62, eo62⟩ := Kd.R_slice HO_15.out
                   subst eo62
                   have p687 : 0 ≤ (x16_3 : Int) := zD
                   have q687 : x16_3 < (t677.length : Int) := zD
                   obtain ⟨ad687, e687, hx687_0⟩ := Kd.at_int (Kd.R_reads' HO_15.out).2.2 x16_3 p687 q687
                   cases e687
                   replace p687 := eq_true p687
                   replace q687 := eq_true q687
                   go_wp2
                   go_roundg kj30
                   case measure => have := HJ5.out; have := HK2.out; have := HK3.out; have := HJ30.out; omega
                   case rel => exact ⟨(x11_3), (wrap64 (x16_3 + 1)), (by first | rfl | (simp; done) | (simp [*]; done)), H', ⟨by have := HJ5.out; have := HK2.out; have := HK3.out; have := HJ30.out; omega⟩, ⟨by (with_reducible repeat (first | apply Kd.R_alloc | apply Kd.R_drewN | apply Kd.R_drew)); exact HO_11.out⟩, ⟨by (with_reducible repeat (first | apply Kd.R_alloc | apply Kd.R_drewN | apply Kd.R_drew)); exact HO_12.out⟩, ⟨by (with_reducible repeat (first | apply Kd.R_alloc | apply Kd.R_drewN | apply Kd.R_drew)); exact HO_14.out⟩, ⟨by (with_reducible repeat (first | apply Kd.R_alloc | apply Kd.R_drewN | apply Kd.R_drew)); exact HO_15.out⟩, ⟨zB HB.out⟩⟩
                 ·rw [if_neg c54] at H
                  exact absurd H (by simp)
                ·rw [if_neg c53] at H
                 exact absurd H (by simp)
            ·rw [if_neg c30] at H
             have c30b0 : decide (x16_3 < (l0.length : Int)) = false := decide_eq_false c30
             clear c30
             have H' := Aside0.mk H
             clear H
             go_wp2
             go_roundg k3
             case measure => have := HJ5.out; have := HK2.out; have := HK3.out; omega
             case rel => exact ⟨(x11_3), (t677), (wrap64 (x13_2 + 1)), (by first | rfl | (simp; done) | (simp [*]; done)), H', ⟨by have := HJ5.out; have := HK2.out; have := HK3.out; omega⟩, ⟨by (with_reducible repeat (first | apply Kd.R_alloc | apply Kd.R_drewN | apply Kd.R_drew)); exact Kd.R_mono HO_11.out (fun _ hk => hk.2.2)⟩, ⟨by (with_reducible repeat (first | apply Kd.R_alloc | apply Kd.R_drewN | apply Kd.R_drew)); exact Kd.R_mono HO_15.out (fun _ hk => hk.1)⟩, ⟨zB HB.out⟩⟩
         ·rw [if_neg c23] at H
          have c23b0 : decide (x13_2 < a4) = false := decide_eq_false c23
          clear c23
          obtain rfl := Option.some.inj H
          go_wp2
          go_ret
          exact ⟨_, by first | rfl | (simp [errW_none, errW_some] <;> rfl) | (simp [*, errW_none, errW_some] <;> rfl), by (with_reducible repeat (first | apply Kd.R_alloc | apply Kd.R_drewN | apply Kd.R_drew)); exact Kd.R_mono HO_11.out (fun _ hk => trivial), zB HB.out⟩
      ·rw [if_neg c17] at H
       exact absurd H (by simp)
     ·rw [if_neg c16] at H
      exact absurd H (by simp)
    ·rw [if_neg c15] at H
     exact absurd H (by simp)

end Go.Proofs.Ytbanhinbndeboaa.PAll
