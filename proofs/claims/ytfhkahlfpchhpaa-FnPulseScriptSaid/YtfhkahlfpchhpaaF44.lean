/- Own text of this session, written by a program of this session (wip/t/own.py) out of what the kit tells of the functions: each Go function as a Lean function, and the walk through its code. -/
import Derived.Test.YtfhkahlfpchhpaaT
import Derived.Test.YtfhkahlfpchhpaaF0
import Derived.Test.YtfhkahlfpchhpaaF1
import Derived.Test.YtfhkahlfpchhpaaF15
namespace Go.Proofs.Ytfhkahlfpchhpaa.PAll
open Go.RowKit Go.Proofs.YtfhkahlfpchhpaaW.PrintWords Go.Proofs.YtfhkahlfpchhpaaW.PrintLast Go.Proofs.YtfhkahlfpchhpaaW.PrintMore
attribute [local go_sem] max2_int min2_int max_two min_two max_three min_three max_four min_four   -- for this text's walks alone
set_option linter.unusedVariables false
set_option linter.unusedSimpArgs false

attribute [local go_sem high] eqA64
/-! ### spec_DrawPulseScript: function 57 -/
def spec_DrawPulseScript.f (k : Nat) (l0 : List Int) : Option (Int × Int × Int) := (spec_l20Open.f l0).bind fun bt1166 => ((spec_l20Rd_pick.f k bt1166.1 bt1166.2 6).bind fun bt1169 => ((spec_l20Rd_pick.f k bt1166.1 bt1169.2 40).bind fun bt1171 => ((spec_l20Rd_pick.f k bt1166.1 bt1171.2 8).bind fun bt1173 => ((spec_l20Rd_pick.f k bt1166.1 bt1173.2 30).bind fun bt1175 => ((spec_l20Rd_pick.f k bt1166.1 bt1175.2 40).bind fun bt1177 => ((spec_l20Rd_pick.f k bt1166.1 bt1177.2 6).bind fun bt1179 => ((spec_l20Rd_pick.f k bt1166.1 bt1179.2 30).bind fun bt1181 => (some (wrap64 (bt1169.1 + (wrap64 ((wrap64 (Int.tdiv bt1171.1 39)) * 6))), wrap64 ((wrap64 ((wrap64 (1 + bt1173.1)) + (wrap64 ((wrap64 (Int.tdiv bt1175.1 29)) * 20)))) - (wrap64 ((wrap64 (Int.tdiv bt1177.1 39)) * 9))), wrap64 (bt1179.1 + (wrap64 ((wrap64 (Int.tdiv bt1181.1 29)) * 4))))))))))))
theorem spec_DrawPulseScript.mono : ∀ a0 k, LeO (spec_DrawPulseScript.f k a0) (spec_DrawPulseScript.f (k + 1) a0) := by
  intro a0 k
  unfold spec_DrawPulseScript.f
  repeat' first
      | (with_reducible exact spec_l20Rd_pick.mono _ _ _ _)
      | (with_reducible exact LeO.refl _)
      | (with_reducible exact LeO.none _)
      | (with_reducible refine LeO.ite ?_ ?_)
      | (with_reducible refine LeO.bind ?_ (fun _ => ?_))
      | exact spec_l20Rd_pick.mono _ _ _ _
      | exact LeO.none _
      | refine LeO.ite ?_ ?_
      | refine LeO.bind ?_ (fun _ => ?_)
set_option maxHeartbeats 8000000 in
set_option maxRecDepth 100000 in
theorem spec_DrawPulseScript.calls (k : Nat) (A0 : Option Addr) (c0 : Nat) (l0 : List Int) (r1 : Int) (r2 : Int) (r3 : Int) (w : World) (hr0 : Kd.C (Kd.int .u8) w A0 l0.length l0) (hc0 : l0.length ≤ c0) (h : spec_DrawPulseScript.f k l0 = some (r1, r2, r3)) :
    Calls Try.prog 57 #[.slice A0 l0.length c0] w fun e w' => e = .returned (.tuple #[.int .i64 r1, .int .i64 r2, .int .i64 r3]) ∧ Below w.heap.size w w' := by
  have HR0 := Aside0.mk hr0
  have HC0 := Aside0.mk hc0
  clear hr0 hc0
  have HB := Aside0.mk (Below.refl w.heap.size w)
  have H : ((spec_l20Open.f l0).bind fun bt1166 => ((spec_l20Rd_pick.f k bt1166.1 bt1166.2 6).bind fun bt1169 => ((spec_l20Rd_pick.f k bt1166.1 bt1169.2 40).bind fun bt1171 => ((spec_l20Rd_pick.f k bt1166.1 bt1171.2 8).bind fun bt1173 => ((spec_l20Rd_pick.f k bt1166.1 bt1173.2 30).bind fun bt1175 => ((spec_l20Rd_pick.f k bt1166.1 bt1175.2 40).bind fun bt1177 => ((spec_l20Rd_pick.f k bt1166.1 bt1177.2 6).bind fun bt1179 => ((spec_l20Rd_pick.f k bt1166.1 bt1179.2 30).bind fun bt1181 => (some (wrap64 (bt1169.1 + (wrap64 ((wrap64 (Int.tdiv bt1171.1 39)) * 6))), wrap64 ((wrap64 ((wrap64 (1 + bt1173.1)) + (wrap64 ((wrap64 (Int.tdiv bt1175.1 29)) * 20)))) - (wrap64 ((wrap64 (Int.tdiv bt1177.1 39)) * 9))), wrap64 (bt1179.1 + (wrap64 ((wrap64 (Int.tdiv bt1181.1 29)) * 4))))))))))))) = some (r1, r2, r3) := h
  clear h
  replace H := Option.bind_eq_some_iff.mp H
  obtain ⟨⟨t1166, t1167⟩, A20, H⟩ := H
  replace H : ((spec_l20Rd_pick.f k t1166 t1167 6).bind fun bt1169 => ((spec_l20Rd_pick.f k t1166 bt1169.2 40).bind fun bt1171 => ((spec_l20Rd_pick.f k t1166 bt1171.2 8).bind fun bt1173 => ((spec_l20Rd_pick.f k t1166 bt1173.2 30).bind fun bt1175 => ((spec_l20Rd_pick.f k t1166 bt1175.2 40).bind fun bt1177 => ((spec_l20Rd_pick.f k t1166 bt1177.2 6).bind fun bt1179 => ((spec_l20Rd_pick.f k t1166 bt1179.2 30).bind fun bt1181 => (some (wrap64 (bt1169.1 + (wrap64 ((wrap64 (Int.tdiv bt1171.1 39)) * 6))), wrap64 ((wrap64 ((wrap64 (1 + bt1173.1)) + (wrap64 ((wrap64 (Int.tdiv bt1175.1 29)) * 20)))) - (wrap64 ((wrap64 (Int.tdiv bt1177.1 39)) * 9))), wrap64 (bt1179.1 + (wrap64 ((wrap64 (Int.tdiv bt1181.1 29)) * 4)))))))))))) = some (r1, r2, r3) := H
  have A2 := Aside0.mk A20
  clear A20
  replace H := Option.bind_eq_some_iff.mp H
  obtain ⟨⟨t1169, t1170⟩, A30, H⟩ := H
  replace H : ((spec_l20Rd_pick.f k t1166 t1170 40).bind fun bt1171 => ((spec_l20Rd_pick.f k t1166 bt1171.2 8).bind fun bt1173 => ((spec_l20Rd_pick.f k t1166 bt1173.2 30).bind fun bt1175 => ((spec_l20Rd_pick.f k t1166 bt1175.2 40).bind fun bt1177 => ((spec_l20Rd_pick.f k t1166 bt1177.2 6).bind fun bt1179 => ((spec_l20Rd_pick.f k t1166 bt1179.2 30).bind fun bt1181 => (some (wrap64 (t1169 + (wrap64 ((wrap64 (Int.tdiv bt1171.1 39)) * 6))), wrap64 ((wrap64 ((wrap64 (1 + bt1173.1)) + (wrap64 ((wrap64 (Int.tdiv bt1175.1 29)) * 20)))) - (wrap64 ((wrap64 (Int.tdiv bt1177.1 39)) * 9))), wrap64 (bt1179.1 + (wrap64 ((wrap64 (Int.tdiv bt1181.1 29)) * 4))))))))))) = some (r1, r2, r3) := H
  have A3 := Aside0.mk A30
  clear A30
  replace H := Option.bind_eq_some_iff.mp H
  obtain ⟨⟨t1171, t1172⟩, A40, H⟩ := H
  replace H : ((spec_l20Rd_pick.f k t1166 t1172 8).bind fun bt1173 => ((spec_l20Rd_pick.f k t1166 bt1173.2 30).bind fun bt1175 => ((spec_l20Rd_pick.f k t1166 bt1175.2 40).bind fun bt1177 => ((spec_l20Rd_pick.f k t1166 bt1177.2 6).bind fun bt1179 => ((spec_l20Rd_pick.f k t1166 bt1179.2 30).bind fun bt1181 => (some (wrap64 (t1169 + (wrap64 ((wrap64 (Int.tdiv t1171 39)) * 6))), wrap64 ((wrap64 ((wrap64 (1 + bt1173.1)) + (wrap64 ((wrap64 (Int.tdiv bt1175.1 29)) * 20)))) - (wrap64 ((wrap64 (Int.tdiv bt1177.1 39)) * 9))), wrap64 (bt1179.1 + (wrap64 ((wrap64 (Int.tdiv bt1181.1 29)) * 4)))))))))) = some (r1, r2, r3) := H
  have A4 := Aside0.mk A40
  clear A40
  replace H := Option.bind_eq_some_iff.mp H
  obtain ⟨⟨t1173, t1174⟩, A50, H⟩ := H
  replace H : ((spec_l20Rd_pick.f k t1166 t1174 30).bind fun bt1175 => ((spec_l20Rd_pick.f k t1166 bt1175.2 40).bind fun bt1177 => ((spec_l20Rd_pick.f k t1166 bt1177.2 6).bind fun bt1179 => ((spec_l20Rd_pick.f k t1166 bt1179.2 30).bind fun bt1181 => (some (wrap64 (t1169 + (wrap64 ((wrap64 (Int.tdiv t1171 39)) * 6))), wrap64 ((wrap64 ((wrap64 (1 + t1173)) + (wrap64 ((wrap64 (Int.tdiv bt1175.1 29)) * 20)))) - (wrap64 ((wrap64 (Int.tdiv bt1177.1 39)) * 9))), wrap64 (bt1179.1 + (wrap64 ((wrap64 (Int.tdiv bt1181.1 29)) * 4))))))))) = some (r1, r2, r3) := H
  have A5 := Aside0.mk A50
  clear A50
  replace H := Option.bind_eq_some_iff.mp H
  obtain ⟨⟨t1175, t1176⟩, A60, H⟩ := H
  replace H : ((spec_l20Rd_pick.f k t1166 t1176 40).bind fun bt1177 => ((spec_l20Rd_pick.f k t1166 bt1177.2 6).bind fun bt1179 => ((spec_l20Rd_pick.f k t1166 bt1179.2 30).bind fun bt1181 => (some (wrap64 (t1169 + (wrap64 ((wrap64 (Int.tdiv t1171 39)) * 6))), wrap64 ((wrap64 ((wrap64 (1 + t1173)) + (wrap64 ((wrap64 (Int.tdiv t1175 29)) * 20)))) - (wrap64 ((wrap64 (Int.tdiv bt1177.1 39)) * 9))), wrap64 (bt1179.1 + (wrap64 ((wrap64 (Int.tdiv bt1181.1 29)) * 4)))))))) = some (r1, r2, r3) := H
  have A6 := Aside0.mk A60
  clear A60
  replace H := Option.bind_eq_some_iff.mp H
  obtain ⟨⟨t1177, t1178⟩, A70, H⟩ := H
  replace H : ((spec_l20Rd_pick.f k t1166 t1178 6).bind fun bt1179 => ((spec_l20Rd_pick.f k t1166 bt1179.2 30).bind fun bt1181 => (some (wrap64 (t1169 + (wrap64 ((wrap64 (Int.tdiv t1171 39)) * 6))), wrap64 ((wrap64 ((wrap64 (1 + t1173)) + (wrap64 ((wrap64 (Int.tdiv t1175 29)) * 20)))) - (wrap64 ((wrap64 (Int.tdiv t1177 39)) * 9))), wrap64 (bt1179.1 + (wrap64 ((wrap64 (Int.tdiv bt1181.1 29)) * 4))))))) = some (r1, r2, r3) := H
  have A7 := Aside0.mk A70
  clear A70
  replace H := Option.bind_eq_some_iff.mp H
  obtain ⟨⟨t1179, t1180⟩, A80, H⟩ := H
  replace H : ((spec_l20Rd_pick.f k t1166 t1180 30).bind fun bt1181 => (some (wrap64 (t1169 + (wrap64 ((wrap64 (Int.tdiv t1171 39)) * 6))), wrap64 ((wrap64 ((wrap64 (1 + t1173)) + (wrap64 ((wrap64 (Int.tdiv t1175 29)) * 20)))) - (wrap64 ((wrap64 (Int.tdiv t1177 39)) * 9))), wrap64 (t1179 + (wrap64 ((wrap64 (Int.tdiv bt1181.1 29)) * 4)))))) = some (r1, r2, r3) := H
  have A8 := Aside0.mk A80
  clear A80
  replace H := Option.bind_eq_some_iff.mp H
  obtain ⟨⟨t1181, t1182⟩, A90, H⟩ := H
  replace H : (some (wrap64 (t1169 + (wrap64 ((wrap64 (Int.tdiv t1171 39)) * 6))), wrap64 ((wrap64 ((wrap64 (1 + t1173)) + (wrap64 ((wrap64 (Int.tdiv t1175 29)) * 20)))) - (wrap64 ((wrap64 (Int.tdiv t1177 39)) * 9))), wrap64 (t1179 + (wrap64 ((wrap64 (Int.tdiv t1181 29)) * 4))))) = some (r1, r2, r3) := H
  have A9 := Aside0.mk A90
  clear A90
  simp only [Option.some.injEq, Prod.mk.injEq] at H
  obtain ⟨rfl, rfl, rfl⟩ := H
  go_enter Try.func57, Try.ntmps57
  go_wp2_with (first | ((with_reducible refine gate_callee (f := 63) rfl ?_); refine goesL_ (some 7) rfl rfl Try.func63 (by kernel_rfl) rfl #[.slice A0 l0.length c0] rfl zA ?_; (with_reducible refine (spec_l20Open.calls _ _ l0 t1166 t1167 w _ ?side1 ?side2 ?side3 A2.out).mono ?_); (case side1 => exact zB HB.out); (case side2 => exact HR0.out); (case side3 => exact HC0.out); rintro e w10 ⟨g1168, rfl, hi, hb, hb2⟩; refine ⟨_, rfl, ?_⟩; have n0_ := Aside0.mk (hb); have n1_ := Aside0.mk (hi); clear HB; have HB := n0_; have HI1168 := n1_; clear n0_ n1_; (try clear hb); (try clear hb2); (try clear hk); (try clear hi)) | ((with_reducible refine gate_callee (f := 82) rfl ?_); refine goesL_ (some 9) rfl rfl Try.func82 (by kernel_rfl) rfl #[.pointer (some ⟨g1168, 0, none⟩), .int .i64 6] rfl zA ?_; (with_reducible refine (spec_l20Rd_pick.calls k g1168 t1166 t1167 6 t1169 t1170 w _ ?side1 ?side2 A3.out).mono ?_); (case side1 => repeat (first | (with_reducible first | exact HI1168.out | apply IsS92.alloc | apply IsS92.drewN | apply IsS92.drew | apply IsS92.set_1) | exact HI1168.out)); (case side2 => repeat (first | (with_reducible first | exact HB.out | apply below_alloc | apply pw_below_drewN | apply below_drew1 | refine below_set ?_ (IsS92.ge HI1168.out)) | exact HB.out)); rintro e w11 ⟨rfl, hi, hb, hk⟩; refine ⟨_, rfl, ?_⟩; have n0_ := Aside0.mk (hb); have n1_ := Aside0.mk (hi); clear HB; clear HI1168; have HB := n0_; have HI1168 := n1_; clear n0_ n1_; (try clear hb); (try clear hb2); (try clear hk); (try clear hi)) | ((with_reducible refine gate_callee (f := 82) rfl ?_); refine goesL_ (some 11) rfl rfl Try.func82 (by kernel_rfl) rfl #[.pointer (some ⟨g1168, 0, none⟩), .int .i64 40] rfl zA ?_; (with_reducible refine (spec_l20Rd_pick.calls k g1168 t1166 t1170 40 t1171 t1172 w _ ?side1 ?side2 A4.out).mono ?_); (case side1 => repeat (first | (with_reducible first | exact HI1168.out | apply IsS92.alloc | apply IsS92.drewN | apply IsS92.drew | apply IsS92.set_1) | exact HI1168.out)); (case side2 => repeat (first | (with_reducible first | exact HB.out | apply below_alloc | apply pw_below_drewN | apply below_drew1 | refine below_set ?_ (IsS92.ge HI1168.out)) | exact HB.out)); rintro e w12 ⟨rfl, hi, hb, hk⟩; refine ⟨_, rfl, ?_⟩; have n0_ := Aside0.mk (hb); have n1_ := Aside0.mk (hi); clear HB; clear HI1168; have HB := n0_; have HI1168 := n1_; clear n0_ n1_; (try clear hb); (try clear hb2); (try clear hk); (try clear hi)) | ((with_reducible refine gate_callee (f := 82) rfl ?_); refine goesL_ (some 16) rfl rfl Try.func82 (by kernel_rfl) rfl #[.pointer (some ⟨g1168, 0, none⟩), .int .i64 8] rfl zA ?_; (with_reducible refine (spec_l20Rd_pick.calls k g1168 t1166 t1172 8 t1173 t1174 w _ ?side1 ?side2 A5.out).mono ?_); (case side1 => repeat (first | (with_reducible first | exact HI1168.out | apply IsS92.alloc | apply IsS92.drewN | apply IsS92.drew | apply IsS92.set_1) | exact HI1168.out)); (case side2 => repeat (first | (with_reducible first | exact HB.out | apply below_alloc | apply pw_below_drewN | apply below_drew1 | refine below_set ?_ (IsS92.ge HI1168.out)) | exact HB.out)); rintro e w13 ⟨rfl, hi, hb, hk⟩; refine ⟨_, rfl, ?_⟩; have n0_ := Aside0.mk (hb); have n1_ := Aside0.mk (hi); clear HB; clear HI1168; have HB := n0_; have HI1168 := n1_; clear n0_ n1_; (try clear hb); (try clear hb2); (try clear hk); (try clear hi)) | ((with_reducible refine gate_callee (f := 82) rfl ?_); refine goesL_ (some 19) rfl rfl Try.func82 (by kernel_rfl) rfl #[.pointer (some ⟨g1168, 0, none⟩), .int .i64 30] rfl zA ?_; (with_reducible refine (spec_l20Rd_pick.calls k g1168 t1166 t1174 30 t1175 t1176 w _ ?side1 ?side2 A6.out).mono ?_); (case side1 => repeat (first | (with_reducible first | exact HI1168.out | apply IsS92.alloc | apply IsS92.drewN | apply IsS92.drew | apply IsS92.set_1) | exact HI1168.out)); (case side2 => repeat (first | (with_reducible first | exact HB.out | apply below_alloc | apply pw_below_drewN | apply below_drew1 | refine below_set ?_ (IsS92.ge HI1168.out)) | exact HB.out)); rintro e w14 ⟨rfl, hi, hb, hk⟩; refine ⟨_, rfl, ?_⟩; have n0_ := Aside0.mk (hb); have n1_ := Aside0.mk (hi); clear HB; clear HI1168; have HB := n0_; have HI1168 := n1_; clear n0_ n1_; (try clear hb); (try clear hb2); (try clear hk); (try clear hi)) | ((with_reducible refine gate_callee (f := 82) rfl ?_); refine goesL_ (some 24) rfl rfl Try.func82 (by kernel_rfl) rfl #[.pointer (some ⟨g1168, 0, none⟩), .int .i64 40] rfl zA ?_; (with_reducible refine (spec_l20Rd_pick.calls k g1168 t1166 t1176 40 t1177 t1178 w _ ?side1 ?side2 A7.out).mono ?_); (case side1 => repeat (first | (with_reducible first | exact HI1168.out | apply IsS92.alloc | apply IsS92.drewN | apply IsS92.drew | apply IsS92.set_1) | exact HI1168.out)); (case side2 => repeat (first | (with_reducible first | exact HB.out | apply below_alloc | apply pw_below_drewN | apply below_drew1 | refine below_set ?_ (IsS92.ge HI1168.out)) | exact HB.out)); rintro e w15 ⟨rfl, hi, hb, hk⟩; refine ⟨_, rfl, ?_⟩; have n0_ := Aside0.mk (hb); have n1_ := Aside0.mk (hi); clear HB; clear HI1168; have HB := n0_; have HI1168 := n1_; clear n0_ n1_; (try clear hb); (try clear hb2); (try clear hk); (try clear hi)) | ((with_reducible refine gate_callee (f := 82) rfl ?_); refine goesL_ (some 29) rfl rfl Try.func82 (by kernel_rfl) rfl #[.pointer (some ⟨g1168, 0, none⟩), .int .i64 6] rfl zA ?_; (with_reducible refine (spec_l20Rd_pick.calls k g1168 t1166 t1178 6 t1179 t1180 w _ ?side1 ?side2 A8.out).mono ?_); (case side1 => repeat (first | (with_reducible first | exact HI1168.out | apply IsS92.alloc | apply IsS92.drewN | apply IsS92.drew | apply IsS92.set_1) | exact HI1168.out)); (case side2 => repeat (first | (with_reducible first | exact HB.out | apply below_alloc | apply pw_below_drewN | apply below_drew1 | refine below_set ?_ (IsS92.ge HI1168.out)) | exact HB.out)); rintro e w16 ⟨rfl, hi, hb, hk⟩; refine ⟨_, rfl, ?_⟩; have n0_ := Aside0.mk (hb); have n1_ := Aside0.mk (hi); clear HB; clear HI1168; have HB := n0_; have HI1168 := n1_; clear n0_ n1_; (try clear hb); (try clear hb2); (try clear hk); (try clear hi)) | ((with_reducible refine gate_callee (f := 82) rfl ?_); refine goesL_ (some 31) rfl rfl Try.func82 (by kernel_rfl) rfl #[.pointer (some ⟨g1168, 0, none⟩), .int .i64 30] rfl zA ?_; (with_reducible refine (spec_l20Rd_pick.calls k g1168 t1166 t1180 30 t1181 t1182 w _ ?side1 ?side2 A9.out).mono ?_); (case side1 => repeat (first | (with_reducible first | exact HI1168.out | apply IsS92.alloc | apply IsS92.drewN | apply IsS92.drew | apply IsS92.set_1) | exact HI1168.out)); (case side2 => repeat (first | (with_reducible first | exact HB.out | apply below_alloc | apply pw_below_drewN | apply below_drew1 | refine below_set ?_ (IsS92.ge HI1168.out)) | exact HB.out)); rintro e w17 ⟨rfl, hi, hb, hk⟩; refine ⟨_, rfl, ?_⟩; have n0_ := Aside0.mk (hb); have n1_ := Aside0.mk (hi); clear HB; clear HI1168; have HB := n0_; have HI1168 := n1_; clear n0_ n1_; (try clear hb); (try clear hb2); (try clear hk); (try clear hi)))
  go_ret3
  exact ⟨by first | rfl | (simp [errW_none, errW_some] <;> rfl) | (simp [*, errW_none, errW_some] <;> rfl), by repeat (first | (with_reducible first | exact HB.out | apply below_alloc | apply pw_below_drewN | apply below_drew1 | refine below_set ?_ (IsS92.ge HI1168.out)) | exact HB.out)⟩

/-! ### impl_PulseScript: function 58 -/
mutual
def impl_PulseScript.j0 : Nat → Int → Int → Int → Bool → Option ((List (S64)))
  | 0, _, _, _, _ => none
  | k + 1, x0, x1, x2, x30 => if x30 = true then (some ([] : List (S64))) else (impl_PulseScript.l0 k x0 x1 (([] : List (S64))) x2 0)
def impl_PulseScript.l0 : Nat → Int → Int → List (S64) → Int → Int → Option ((List (S64)))
  | 0, _, _, _, _, _ => none
  | k + 1, x0, x1, x7, x32, x33 => if x33 < x32 then (if (wrap64 (x33 * x1)) ≥ 60 then (some ([] : List (S64))) else (if x7.length < 8796093022208 then (impl_PulseScript.l0 k x0 x1 (x7 ++ [(⟨wrap64 (x33 * x1), x0⟩ : S64)]) x32 (wrap64 (x33 + 1))) else (none))) else (some x7)
end
def impl_PulseScript.f (k : Nat) (a0 : Int) (a1 : Int) (a2 : Int) : Option ((List (S64))) := if a0 < 0 then (impl_PulseScript.j0 k a0 a1 a2 true) else (if a0 ≥ 6 then (impl_PulseScript.j0 k a0 a1 a2 true) else (if a1 < 1 then (impl_PulseScript.j0 k a0 a1 a2 true) else (if a1 > 60 then (impl_PulseScript.j0 k a0 a1 a2 true) else (if a2 < 0 then (impl_PulseScript.j0 k a0 a1 a2 true) else (impl_PulseScript.j0 k a0 a1 a2 (decide (a2 > 8)))))))
theorem impl_PulseScript.mono_l : ∀ k, (∀ y0 y1 y2 y3, LeO (impl_PulseScript.j0 k y0 y1 y2 y3) (impl_PulseScript.j0 (k + 1) y0 y1 y2 y3)) ∧ (∀ y0 y1 y2 y3 y4, LeO (impl_PulseScript.l0 k y0 y1 y2 y3 y4) (impl_PulseScript.l0 (k + 1) y0 y1 y2 y3 y4))
  | 0 => ⟨fun _ _ _ _ r h => by simp [impl_PulseScript.j0] at h, fun _ _ _ _ _ r h => by simp [impl_PulseScript.l0] at h⟩
  | k + 1 => by
    obtain ⟨ih0, ih1⟩ := impl_PulseScript.mono_l k
    refine ⟨?_, ?_⟩
    · intro y0 y1 y2 y3
      unfold impl_PulseScript.j0
      repeat' first
      | (with_reducible exact ih0 _ _ _ _)
      | (with_reducible exact ih1 _ _ _ _ _)
      | (with_reducible exact LeO.refl _)
      | (with_reducible exact LeO.none _)
      | (with_reducible refine LeO.ite ?_ ?_)
      | (with_reducible refine LeO.bind ?_ (fun _ => ?_))
      | exact ih0 _ _ _ _
      | exact ih1 _ _ _ _ _
      | exact LeO.none _
      | refine LeO.ite ?_ ?_
      | refine LeO.bind ?_ (fun _ => ?_)
    · intro y0 y1 y2 y3 y4
      unfold impl_PulseScript.l0
      repeat' first
      | (with_reducible exact ih0 _ _ _ _)
      | (with_reducible exact ih1 _ _ _ _ _)
      | (with_reducible exact LeO.refl _)
      | (with_reducible exact LeO.none _)
      | (with_reducible refine LeO.ite ?_ ?_)
      | (with_reducible refine LeO.bind ?_ (fun _ => ?_))
      | exact ih0 _ _ _ _
      | exact ih1 _ _ _ _ _
      | exact LeO.none _
      | refine LeO.ite ?_ ?_
      | refine LeO.bind ?_ (fun _ => ?_)
theorem impl_PulseScript.mono : ∀ a0 a1 a2 k, LeO (impl_PulseScript.f k a0 a1 a2) (impl_PulseScript.f (k + 1) a0 a1 a2) := by
  intro a0 a1 a2 k
  obtain ⟨ih0, ih1⟩ := impl_PulseScript.mono_l k
  unfold impl_PulseScript.f
  repeat' first
      | (with_reducible exact ih0 _ _ _ _)
      | (with_reducible exact ih1 _ _ _ _ _)
      | (with_reducible exact LeO.refl _)
      | (with_reducible exact LeO.none _)
      | (with_reducible refine LeO.ite ?_ ?_)
      | (with_reducible refine LeO.bind ?_ (fun _ => ?_))
      | exact ih0 _ _ _ _
      | exact ih1 _ _ _ _ _
      | exact LeO.none _
      | refine LeO.ite ?_ ?_
      | refine LeO.bind ?_ (fun _ => ?_)
set_option maxHeartbeats 8000000 in
set_option maxRecDepth 100000 in
theorem impl_PulseScript.calls (k : Nat) (a0 : Int) (a1 : Int) (a2 : Int) (r : List (S64)) (w : World) (h : impl_PulseScript.f k a0 a1 a2 = some r) :
    Calls Try.prog 58 #[.int .i64 a0, .int .i64 a1, .int .i64 a2] w fun e w' => ∃ v0_ : Value, e = .returned (v0_) ∧ Kd.R k64 64 w' w.heap.size (fun _ => True) v0_ r ∧ Below w.heap.size w w' := by
  have hu64 := Try.underlying64
  have HB := Aside0.mk (Below.refl w.heap.size w)
  have H : (if a0 < 0 then (impl_PulseScript.j0 k a0 a1 a2 true) else (if a0 ≥ 6 then (impl_PulseScript.j0 k a0 a1 a2 true) else (if a1 < 1 then (impl_PulseScript.j0 k a0 a1 a2 true) else (if a1 > 60 then (impl_PulseScript.j0 k a0 a1 a2 true) else (if a2 < 0 then (impl_PulseScript.j0 k a0 a1 a2 true) else (impl_PulseScript.j0 k a0 a1 a2 (decide (a2 > 8)))))))) = some r := h
  clear h
  have HC4 := Aside0.mk H
  clear H
  go_enter Try.func58, Try.ntmps58
  go_upto_region 1 with (fail)
  go_cut [30] (fun v30 wc => ∃ (kq : Nat) (x30_3 : Bool), v30 = .bool x30_3 ∧ Aside0 (impl_PulseScript.j0 kq a0 a1 a2 x30_3 = some r) ∧ Aside0 (kq ≤ k) ∧ Aside0 (Below w.heap.size w wc))
  case first =>
    have H := HC4.out
    clear HC4
    by_cases c5 : a0 < 0
    · rw [if_pos c5] at H
      have c5b0 : decide (a0 < 0) = true := decide_eq_true c5
      clear c5
      (first | rw [c5b0] | (simp only [i64_w, i32_w]; rw [c5b0]) | skip)
      have H' := Aside0.mk H
      clear H
      go_wp2
      go_meet
      case rel => exact ⟨_, (true), (by first | rfl | (simp; done) | (simp [*]; done)), H', ⟨by first | omega | exact Nat.le_refl _⟩, ⟨zB HB.out⟩⟩
    · rw [if_neg c5] at H
      have c5b0 : decide (a0 < 0) = false := decide_eq_false c5
      clear c5
      (first | rw [c5b0] | (simp only [i64_w, i32_w]; rw [c5b0]) | skip)
      by_cases c6 : a0 ≥ 6
      · rw [if_pos c6] at H
        have c6b0 : decide (6 ≤ a0) = true := decide_eq_true c6
        clear c6
        have H' := Aside0.mk H
        clear H
        go_wp2
        go_meet
        case rel => exact ⟨_, (true), (by first | rfl | (simp; done) | (simp [*]; done)), H', ⟨by first | omega | exact Nat.le_refl _⟩, ⟨zB HB.out⟩⟩
      · rw [if_neg c6] at H
        have c6b0 : decide (6 ≤ a0) = false := decide_eq_false c6
        clear c6
        by_cases c7 : a1 < 1
        · rw [if_pos c7] at H
          have c7b0 : decide (a1 < 1) = true := decide_eq_true c7
          clear c7
          have H' := Aside0.mk H
          clear H
          go_wp2
          go_meet
          case rel => exact ⟨_, (true), (by first | rfl | (simp; done) | (simp [*]; done)), H', ⟨by first | omega | exact Nat.le_refl _⟩, ⟨zB HB.out⟩⟩
        · rw [if_neg c7] at H
          have c7b0 : decide (a1 < 1) = false := decide_eq_false c7
          clear c7
          by_cases c8 : a1 > 60
          · rw [if_pos c8] at H
            have c8b0 : decide (60 < a1) = true := decide_eq_true c8
            clear c8
            have H' := Aside0.mk H
            clear H
            go_wp2
            go_meet
            case rel => exact ⟨_, (true), (by first | rfl | (simp; done) | (simp [*]; done)), H', ⟨by first | omega | exact Nat.le_refl _⟩, ⟨zB HB.out⟩⟩
          · rw [if_neg c8] at H
            have c8b0 : decide (60 < a1) = false := decide_eq_false c8
            clear c8
            by_cases c9 : a2 < 0
            · rw [if_pos c9] at H
              have c9b0 : decide (a2 < 0) = true := decide_eq_true c9
              clear c9
              have H' := Aside0.mk H
              clear H
              go_wp2
              go_meet
              case rel => exact ⟨_, (true), (by first | rfl | (simp; done) | (simp [*]; done)), H', ⟨by first | omega | exact Nat.le_refl _⟩, ⟨zB HB.out⟩⟩
            · rw [if_neg c9] at H
              have c9b0 : decide (a2 < 0) = false := decide_eq_false c9
              clear c9
              have H' := Aside0.mk H
              clear H
              go_wp2
              go_meet
              case rel => exact ⟨_, (decide (a2 > 8)), (by first | rfl | (simp; done) | (simp [*]; done)), H', ⟨by first | omega | exact Nat.le_refl _⟩, ⟨zB HB.out⟩⟩
  case rest =>
    clear HC4
    try clear p2
    try clear c5
    try clear c5b0
    try clear c6
    try clear c6b0
    try clear c7
    try clear c7b0
    try clear c8
    try clear c8b0
    try clear c9
    try clear c9b0
    obtain ⟨kq, x30_3, rfl, HA, HJ3, HB⟩ := hcut
    cases kq with
    | zero => exact absurd HA.out (by simp [impl_PulseScript.j0])
    | succ kj3 =>
      have H := HA.out
      clear HA
      simp only [impl_PulseScript.j0] at H
      by_cases c10 : x30_3 = true
      · subst c10
        have H1 : (some ([] : List (S64))) = some r := by rw [if_pos rfl] at H; exact H
        clear H
        have H := H1
        clear H1
        obtain rfl := Option.some.inj H
        go_wp2
        go_ret
        exact ⟨_, by first | rfl | (simp [errW_none, errW_some] <;> rfl) | (simp [*, errW_none, errW_some] <;> rfl), by first | exact Kd.R_nil _ _ _ _ _ | exact Kd.N_nil _ _ _ _ _ | exact Kd.V_nil _ _ _ _ _ | exact Kd.Q_nil _ _ _ _ _ | exact Kd.S_nil _ _ _ _ _, zB HB.out⟩
      · replace c10 := Bool.eq_false_iff.mpr c10
        subst c10
        have H1 : (impl_PulseScript.l0 kj3 a0 a1 (([] : List (S64))) a2 0) = some r := by rw [if_neg (show ¬ (false = true) by decide)] at H; exact H
        clear H
        have H := H1
        clear H1
        obtain ⟨y1183, hy1183⟩ : ∃ y_ : List (S64), y_ = (([] : List (S64))) := ⟨_, rfl⟩
        replace H : (impl_PulseScript.l0 kj3 a0 a1 y1183 a2 0) = some r := by first | (rw [hy1183]; with_reducible exact H) | (have H2_ := (Option.bind_some _ _).symm.trans H; rw [hy1183]; with_reducible exact H2_) | (have H2_ := (Option.bind_some _ _).symm.trans H; with_reducible exact H2_) | with_reducible exact H | (rw [hy1183]; exact H) | exact H
        have Ny1183 := Aside0.mk hy1183
        clear hy1183
        have H' := Aside0.mk H
        clear H
        go_wp2_with (first | ((with_reducible refine gate_dst (N := 31) rfl ?_); refine Kd.R_lit k64 _ 64 ?hg (N := 31) ?hd (xs := ([] : List (S64))) (inner := []) (ok := fun _ => True) (okp := fun _ => True) ?hr ?hp (fun _ hk => hk) trivial (Below.refl _ _) (Nat.le_refl _) (by simp) ?_; (case hd => rfl); (case hg => rfl); (case hr => first | (go_simp; done) | (go_simp; rfl)); (case hp => exact (Reps.none _ _)); intro v1184 w11 ho12 hb hg_ hnew_; clear hg_ hnew_; (first | rw [← Ny1183.out] at ho12 | (simp only [Int.reduceToNat] at ho12; rw [← Ny1183.out] at ho12)); have n0_ := Aside0.mk (Kd.R_lower ho12 (below_size (zB HB.out))); have n1_ := Aside0.mk (below_step (zB HB.out) hb); clear HB; have HO1185 := n0_; have HB := n1_; clear n0_ n1_; clear hb ho12))
        go_loopg [7, 33] kj3 (fun kq v7 v33 w' => ∃ (x7_2 : List (S64)) (x33_2 : Int), v33 = .int .i64 x33_2 ∧ Aside0 (impl_PulseScript.l0 kq a0 a1 x7_2 a2 x33_2 = some r) ∧ Aside0 (kq ≤ kj3) ∧ Aside0 (Kd.R k64 64 w' w.heap.size (fun _ => True) v7 x7_2) ∧ Aside0 (Below w.heap.size w w'))
        case atStart => exact ⟨(y1183), (0), (by first | rfl | (simp; done) | (simp [*]; done)), H', ⟨Nat.le_refl _⟩, ⟨by (with_reducible repeat (first | apply Kd.R_alloc | apply Kd.R_drewN | apply Kd.R_drew)); exact HO1185.out⟩, ⟨zB HB.out⟩⟩
        case round =>
          clear H'
          try clear c1
          try clear p2
          try clear c5
          try clear c5b0
          try clear c6
          try clear c6b0
          try clear c7
          try clear c7b0
          try clear c8
          try clear c8b0
          try clear c9
          try clear c9b0
          try clear c10
          try clear p2
          obtain ⟨x7_2, x33_2, rfl, HA, HK2, HO_7, HB⟩ := hrel
          cases gk with
          | zero => exact absurd HA.out (by simp [impl_PulseScript.l0])
          | succ k2 =>
            have H := HA.out
            clear HA
            simp only [impl_PulseScript.l0] at H
            by_cases c13 : x33_2 < a2
            · rw [if_pos c13] at H
              have c13b0 : decide (x33_2 < a2) = true := decide_eq_true c13
              clear c13
              by_cases c14 : (wrap64 (x33_2 * a1)) ≥ 60
              · rw [if_pos c14] at H
                have c14b0 : decide (60 ≤ (wrap64 (x33_2 * a1))) = true := decide_eq_true c14
                clear c14
                obtain rfl := Option.some.inj H
                go_wp2
                go_ret
                exact ⟨_, by first | rfl | (simp [errW_none, errW_some] <;> rfl) | (simp [*, errW_none, errW_some] <;> rfl), by first | exact Kd.R_nil _ _ _ _ _ | exact Kd.N_nil _ _ _ _ _ | exact Kd.V_nil _ _ _ _ _ | exact Kd.Q_nil _ _ _ _ _ | exact Kd.S_nil _ _ _ _ _, zB HB.out⟩
              · rw [if_neg c14] at H
                have c14b0 : decide (60 ≤ (wrap64 (x33_2 * a1))) = false := decide_eq_false c14
                clear c14
                by_cases c15 : x7_2.length < 8796093022208
                · rw [if_pos c15] at H
                  have LMc15 := Aside0.mk c15
                  clear c15
                  obtain ⟨y1186, hy1186⟩ : ∃ y_ : List (S64), y_ = (x7_2 ++ [(⟨wrap64 (x33_2 * a1), a0⟩ : S64)]) := ⟨_, rfl⟩
                  replace H : (impl_PulseScript.l0 k2 a0 a1 y1186 a2 (wrap64 (x33_2 + 1))) = some r := by first | (rw [hy1186]; with_reducible exact H) | (have H2_ := (Option.bind_some _ _).symm.trans H; rw [hy1186]; with_reducible exact H2_) | (have H2_ := (Option.bind_some _ _).symm.trans H; with_reducible exact H2_) | with_reducible exact H | (rw [hy1186]; exact H) | exact H
                  have Ny1186 := Aside0.mk hy1186
                  clear hy1186
                  have H' := Aside0.mk H
                  clear H
                  go_wp2_with (first | ((with_reducible refine gate_builtin (b := .append) (xs := #[.tmp 40, .tmp 46]) rfl ?_); at_builtin; refine Kd.R_append k64 (w0 := w) w.heap.size rfl (.tmp 40) (.tmp 46) 53 64 (.agg #[(.int .i64 0), (.int .i64 0)]) 16 rfl Try.underlying53 info64 rfl (by decide) (by omega) u7 x7_2 (⟨wrap64 (x33_2 * a1), a0⟩ : S64) [.int .i64 (wrap64 (x33_2 * a1)), .int .i64 a0] (fun _ => True) (fun _ => False) rfl rfl ?aP (fun _ hk => hk.elim) ?aF ?aO ?aB ?aS ?aL ?_; (case aP => exact k64_mkM _ _ _ (⟨wrap64 (x33_2 * a1), a0⟩ : S64)); (case aB => exact (zB HB.out)); (case aF => exact (fun _ _ => trivial)); (case aO => exact (zR HO_7.out)); (case aS => exact (below_size (zB HB.out))); (case aL => have := LMc15.out; omega); intro v1187 w16 ho hb hg hat; rw [← Ny1186.out] at ho; have n0_ := Aside0.mk (hb); have n1_ := Aside0.mk (ho); clear HB; clear HO_7; have HB := n0_; have HO1188 := n1_; clear n0_ n1_; clear ho hb hg hat))
                  go_roundg k2
                  case measure => have := HJ3.out; have := HK2.out; omega
                  case rel => exact ⟨(y1186), (wrap64 (x33_2 + 1)), (by first | rfl | (simp; done) | (simp [*]; done)), H', ⟨by have := HJ3.out; have := HK2.out; omega⟩, ⟨by (with_reducible repeat (first | apply Kd.R_alloc | apply Kd.R_drewN | apply Kd.R_drew)); exact HO1188.out⟩, ⟨zB HB.out⟩⟩
                · rw [if_neg c15] at H
                  exact absurd H (by simp)
            · rw [if_neg c13] at H
              have c13b0 : decide (x33_2 < a2) = false := decide_eq_false c13
              clear c13
              obtain rfl := Option.some.inj H
              go_wp2
              go_ret
              exact ⟨_, by first | rfl | (simp [errW_none, errW_some] <;> rfl) | (simp [*, errW_none, errW_some] <;> rfl), by (with_reducible repeat (first | apply Kd.R_alloc | apply Kd.R_drewN | apply Kd.R_drew)); exact HO_7.out, zB HB.out⟩

/-! ### laws_sameLights: function 59 -/
def laws_sameLights.l0 : Nat → List (S64) → List (S64) → Int → Option (Bool)
  | 0, _, _, _ => none
  | k + 1, x0, x1, x5 => if x5 < (x0.length : Int) then (if 0 ≤ x5 then (if x5 < (x1.length : Int) then (if (!(((rd_T64 x0 x5).f0) == ((rd_T64 x1 x5).f0)) || (!(((rd_T64 x0 x5).f1) == ((rd_T64 x1 x5).f1)))) = true then (some false) else (laws_sameLights.l0 k x0 x1 (wrap64 (x5 + 1)))) else (none)) else (none)) else (some true)
def laws_sameLights.f (k : Nat) (l0 : List (S64)) (l1 : List (S64)) : Option (Bool) := if (l0.length : Int) = (l1.length : Int) then (laws_sameLights.l0 k l0 l1 0) else (some false)
theorem laws_sameLights.mono_l : ∀ k, (∀ y0 y1 y2, LeO (laws_sameLights.l0 k y0 y1 y2) (laws_sameLights.l0 (k + 1) y0 y1 y2))
  | 0 => fun _ _ _ r h => by simp [laws_sameLights.l0] at h
  | k + 1 => by
    have ih0 := laws_sameLights.mono_l k
    · intro y0 y1 y2
      unfold laws_sameLights.l0
      repeat' first
      | (with_reducible exact ih0 _ _ _)
      | (with_reducible exact LeO.refl _)
      | (with_reducible exact LeO.none _)
      | (with_reducible refine LeO.ite ?_ ?_)
      | (with_reducible refine LeO.bind ?_ (fun _ => ?_))
      | exact ih0 _ _ _
      | exact LeO.none _
      | refine LeO.ite ?_ ?_
      | refine LeO.bind ?_ (fun _ => ?_)
theorem laws_sameLights.mono : ∀ a0 a1 k, LeO (laws_sameLights.f k a0 a1) (laws_sameLights.f (k + 1) a0 a1) := by
  intro a0 a1 k
  have ih0 := laws_sameLights.mono_l k
  unfold laws_sameLights.f
  repeat' first
      | (with_reducible exact ih0 _ _ _)
      | (with_reducible exact LeO.refl _)
      | (with_reducible exact LeO.none _)
      | (with_reducible refine LeO.ite ?_ ?_)
      | (with_reducible refine LeO.bind ?_ (fun _ => ?_))
      | exact ih0 _ _ _
      | exact LeO.none _
      | refine LeO.ite ?_ ?_
      | refine LeO.bind ?_ (fun _ => ?_)
set_option maxHeartbeats 8000000 in
set_option maxRecDepth 100000 in
theorem laws_sameLights.calls (k : Nat) (A0 : Option Addr) (c0 : Nat) (l0 : List (S64)) (A1 : Option Addr) (c1 : Nat) (l1 : List (S64)) (r : Bool) (w : World) (hr0 : Kd.C k64 w A0 l0.length l0) (hc0 : l0.length ≤ c0) (hr1 : Kd.C k64 w A1 l1.length l1) (hc1 : l1.length ≤ c1) (h : laws_sameLights.f k l0 l1 = some r) :
    Calls Try.prog 59 #[.slice A0 l0.length c0, .slice A1 l1.length c1] w fun e w' => e = .returned (.bool r) ∧ Drawn0 w w' := by
  have hu64 := Try.underlying64
  have HR0 := Aside0.mk hr0
  have HC0 := Aside0.mk hc0
  clear hr0 hc0
  have HR1 := Aside0.mk hr1
  have HC1 := Aside0.mk hc1
  clear hr1 hc1
  have H : (if (l0.length : Int) = (l1.length : Int) then (laws_sameLights.l0 k l0 l1 0) else (some false)) = some r := h
  clear h
  by_cases c3 : (l0.length : Int) = (l1.length : Int)
  · rw [if_pos c3] at H
    have c3b0 : ((l0.length : Int) == (l1.length : Int)) = true := beq_iff_eq.mpr c3
    have c3b1 : ((l0.length : Int) != (l1.length : Int)) = false := bne_eq_false_iff_eq.mpr c3
    have c3b2 : (l0.length == l1.length) = true := by first | simpa using c3 | (simp at c3 ⊢; omega)
    clear c3
    have H' := Aside0.mk H
    clear H
    go_enter Try.func59, Try.ntmps59
    go_wp2
    repeat (go_quiet (fail); try go_wp2)
    go_loopg [5] k (fun kq v5 w' => ∃ (x5_1 : Int), v5 = .int .i64 x5_1 ∧ Aside0 (laws_sameLights.l0 kq l0 l1 x5_1 = some r) ∧ Aside0 (kq ≤ k) ∧ Drawn0 w w')
    case atStart => exact ⟨(0), (by first | rfl | (simp; done) | (simp [*]; done)), H', ⟨Nat.le_refl _⟩, by repeat (first | exact Drawn0.refl _ | apply Drawn0.step)⟩
    case round =>
      clear H'
      try clear c1
      try clear p2
      try clear c3
      try clear c3b0
      try clear c3b1
      try clear c3b2
      obtain ⟨x5_1, rfl, HA, HK1, ⟨m1, rfl⟩⟩ := hrel
      cases gk with
      | zero => exact absurd HA.out (by simp [laws_sameLights.l0])
      | succ k1 =>
        have H := HA.out
        clear HA
        simp only [laws_sameLights.l0] at H
        by_cases c4 : x5_1 < (l0.length : Int)
        · rw [if_pos c4] at H
          have c4b0 : decide (x5_1 < (l0.length : Int)) = true := decide_eq_true c4
          clear c4
          by_cases c5 : 0 ≤ x5_1
          · rw [if_pos c5] at H
            have c5b0 : decide (0 ≤ x5_1) = true := decide_eq_true c5
            clear c5
            by_cases c6 : x5_1 < (l1.length : Int)
            · rw [if_pos c6] at H
              have c6b0 : decide (x5_1 < (l1.length : Int)) = true := decide_eq_true c6
              clear c6
              by_cases c7 : (!(((rd_T64 l0 x5_1).f0) == ((rd_T64 l1 x5_1).f0)) || (!(((rd_T64 l0 x5_1).f1) == ((rd_T64 l1 x5_1).f1)))) = true
              · rw [if_pos c7] at H
                have c7b0 : (!(((rd_T64 l0 x5_1).f0) == ((rd_T64 l1 x5_1).f0)) || (!(((rd_T64 l0 x5_1).f1) == ((rd_T64 l1 x5_1).f1)))) = true := c7
                clear c7
                obtain rfl := Option.some.inj H
                have p1189 : 0 ≤ (x5_1 : Int) := of_decide_eq_true (by first | (with_reducible assumption) | assumption)
                have q1189 : x5_1 < (l0.length : Int) := of_decide_eq_true (by first | (with_reducible assumption) | assumption)
                obtain ⟨ad1189, e1189, hx1189_0, hx1189_1⟩ := at_T64 HR0.out x5_1 p1189 q1189
                cases e1189
                replace p1189 := eq_true p1189
                replace q1189 := eq_true q1189
                have p1190 : 0 ≤ (x5_1 : Int) := of_decide_eq_true (by first | (with_reducible assumption) | assumption)
                have q1190 : x5_1 < (l1.length : Int) := of_decide_eq_true (by first | (with_reducible assumption) | assumption)
                obtain ⟨ad1190, e1190, hx1190_0, hx1190_1⟩ := at_T64 HR1.out x5_1 p1190 q1190
                cases e1190
                replace p1190 := eq_true p1190
                replace q1190 := eq_true q1190
                go_wp2
                repeat (go_quiet (fail); try go_wp2)
                go_ret
                exact ⟨by first | rfl | (simp; done) | (simp [*]; done), by repeat (first | exact Drawn0.refl _ | apply Drawn0.step)⟩
              · rw [if_neg c7] at H
                have c7b0 : (!(((rd_T64 l0 x5_1).f0) == ((rd_T64 l1 x5_1).f0)) || (!(((rd_T64 l0 x5_1).f1) == ((rd_T64 l1 x5_1).f1)))) = false := by simpa using c7
                clear c7
                have H' := Aside0.mk H
                clear H
                have p1189 : 0 ≤ (x5_1 : Int) := of_decide_eq_true (by first | (with_reducible assumption) | assumption)
                have q1189 : x5_1 < (l0.length : Int) := of_decide_eq_true (by first | (with_reducible assumption) | assumption)
                obtain ⟨ad1189, e1189, hx1189_0, hx1189_1⟩ := at_T64 HR0.out x5_1 p1189 q1189
                cases e1189
                replace p1189 := eq_true p1189
                replace q1189 := eq_true q1189
                have p1190 : 0 ≤ (x5_1 : Int) := of_decide_eq_true (by first | (with_reducible assumption) | assumption)
                have q1190 : x5_1 < (l1.length : Int) := of_decide_eq_true (by first | (with_reducible assumption) | assumption)
                obtain ⟨ad1190, e1190, hx1190_0, hx1190_1⟩ := at_T64 HR1.out x5_1 p1190 q1190
                cases e1190
                replace p1190 := eq_true p1190
                replace q1190 := eq_true q1190
                go_wp2
                repeat (go_quiet (fail); try go_wp2)
                go_roundg k1
                case measure => have := HK1.out; omega
                case rel => exact ⟨(wrap64 (x5_1 + 1)), (by first | rfl | (simp; done) | (simp [*]; done)), H', ⟨by have := HK1.out; omega⟩, by repeat (first | exact Drawn0.refl _ | apply Drawn0.step)⟩
            · rw [if_neg c6] at H
              exact absurd H (by simp)
          · rw [if_neg c5] at H
            exact absurd H (by simp)
        · rw [if_neg c4] at H
          have c4b0 : decide (x5_1 < (l0.length : Int)) = false := decide_eq_false c4
          clear c4
          obtain rfl := Option.some.inj H
          go_wp2
          repeat (go_quiet (fail); try go_wp2)
          go_ret
          exact ⟨by first | rfl | (simp; done) | (simp [*]; done), by repeat (first | exact Drawn0.refl _ | apply Drawn0.step)⟩
  · rw [if_neg c3] at H
    have c3b0 : ((l0.length : Int) == (l1.length : Int)) = false := beq_eq_false_iff_ne.mpr c3
    have c3b1 : ((l0.length : Int) != (l1.length : Int)) = true := bne_iff_ne.mpr c3
    have c3b2 : (l0.length == l1.length) = false := by first | simpa using c3 | (simp at c3 ⊢; omega)
    obtain rfl := Option.some.inj H
    go_enter Try.func59, Try.ntmps59
    go_wp2
    repeat (go_quiet (fail); try go_wp2)
    go_ret
    exact ⟨by first | rfl | (simp; done) | (simp [*]; done), by repeat (first | exact Drawn0.refl _ | apply Drawn0.step)⟩

/-! ### spec_PulseScript: function 60 -/
mutual
def spec_PulseScript.j0 : Nat → Int → Int → Int → List (S64) → Bool → Option ((List (S64)))
  | 0, _, _, _, _, _ => none
  | k + 1, x0, x1, x2, x7, x33 => if x33 = true then (some x7) else (spec_PulseScript.l0 k x0 x1 x2 x7 0)
def spec_PulseScript.l0 : Nat → Int → Int → Int → List (S64) → Int → Option ((List (S64)))
  | 0, _, _, _, _, _ => none
  | k + 1, x0, x1, x2, x7, x8 => if x8 < x2 then (if x7.length < 8796093022208 then (spec_PulseScript.l0 k x0 x1 x2 (x7 ++ [(⟨wrap64 (x1 * x8), x0⟩ : S64)]) (wrap64 (x8 + 1))) else (none)) else (some x7)
end
def spec_PulseScript.f (k : Nat) (a0 : Int) (a1 : Int) (a2 : Int) : Option ((List (S64))) := (some (([] : List (S64)) : List (S64))).bind fun y1191 => ((spec_l1In.f a0 0 5).bind fun t1194 => (if t1194 = true then ((spec_l1In.f a1 1 60).bind fun t1195 => (if t1195 = true then ((spec_l1In.f a2 0 8).bind fun t1196 => (if t1196 = true then (if a2 > 0 then (spec_PulseScript.j0 k a0 a1 a2 y1191 (decide ((wrap64 (a1 * (wrap64 (a2 - 1)))) ≥ 60))) else (spec_PulseScript.j0 k a0 a1 a2 y1191 false)) else (spec_PulseScript.j0 k a0 a1 a2 y1191 true))) else (spec_PulseScript.j0 k a0 a1 a2 y1191 true))) else (spec_PulseScript.j0 k a0 a1 a2 y1191 true)))
theorem spec_PulseScript.mono_l : ∀ k, (∀ y0 y1 y2 y3 y4, LeO (spec_PulseScript.j0 k y0 y1 y2 y3 y4) (spec_PulseScript.j0 (k + 1) y0 y1 y2 y3 y4)) ∧ (∀ y0 y1 y2 y3 y4, LeO (spec_PulseScript.l0 k y0 y1 y2 y3 y4) (spec_PulseScript.l0 (k + 1) y0 y1 y2 y3 y4))
  | 0 => ⟨fun _ _ _ _ _ r h => by simp [spec_PulseScript.j0] at h, fun _ _ _ _ _ r h => by simp [spec_PulseScript.l0] at h⟩
  | k + 1 => by
    obtain ⟨ih0, ih1⟩ := spec_PulseScript.mono_l k
    refine ⟨?_, ?_⟩
    · intro y0 y1 y2 y3 y4
      unfold spec_PulseScript.j0
      repeat' first
      | (with_reducible exact ih0 _ _ _ _ _)
      | (with_reducible exact ih1 _ _ _ _ _)
      | (with_reducible exact LeO.refl _)
      | (with_reducible exact LeO.none _)
      | (with_reducible refine LeO.ite ?_ ?_)
      | (with_reducible refine LeO.bind ?_ (fun _ => ?_))
      | exact ih0 _ _ _ _ _
      | exact ih1 _ _ _ _ _
      | exact LeO.none _
      | refine LeO.ite ?_ ?_
      | refine LeO.bind ?_ (fun _ => ?_)
    · intro y0 y1 y2 y3 y4
      unfold spec_PulseScript.l0
      repeat' first
      | (with_reducible exact ih0 _ _ _ _ _)
      | (with_reducible exact ih1 _ _ _ _ _)
      | (with_reducible exact LeO.refl _)
      | (with_reducible exact LeO.none _)
      | (with_reducible refine LeO.ite ?_ ?_)
      | (with_reducible refine LeO.bind ?_ (fun _ => ?_))
      | exact ih0 _ _ _ _ _
      | exact ih1 _ _ _ _ _
      | exact LeO.none _
      | refine LeO.ite ?_ ?_
      | refine LeO.bind ?_ (fun _ => ?_)
theorem spec_PulseScript.mono : ∀ a0 a1 a2 k, LeO (spec_PulseScript.f k a0 a1 a2) (spec_PulseScript.f (k + 1) a0 a1 a2) := by
  intro a0 a1 a2 k
  obtain ⟨ih0, ih1⟩ := spec_PulseScript.mono_l k
  unfold spec_PulseScript.f
  repeat' first
      | (with_reducible exact ih0 _ _ _ _ _)
      | (with_reducible exact ih1 _ _ _ _ _)
      | (with_reducible exact LeO.refl _)
      | (with_reducible exact LeO.none _)
      | (with_reducible refine LeO.ite ?_ ?_)
      | (with_reducible refine LeO.bind ?_ (fun _ => ?_))
      | exact ih0 _ _ _ _ _
      | exact ih1 _ _ _ _ _
      | exact LeO.none _
      | refine LeO.ite ?_ ?_
      | refine LeO.bind ?_ (fun _ => ?_)
set_option maxHeartbeats 8000000 in
set_option maxRecDepth 100000 in
theorem spec_PulseScript.calls (k : Nat) (a0 : Int) (a1 : Int) (a2 : Int) (r : List (S64)) (w : World) (h : spec_PulseScript.f k a0 a1 a2 = some r) :
    Calls Try.prog 60 #[.int .i64 a0, .int .i64 a1, .int .i64 a2] w fun e w' => ∃ v0_ : Value, e = .returned (v0_) ∧ Kd.R k64 64 w' w.heap.size (fun _ => True) v0_ r ∧ Below w.heap.size w w' := by
  have hu64 := Try.underlying64
  have HB := Aside0.mk (Below.refl w.heap.size w)
  have H : ((some (([] : List (S64)) : List (S64))).bind fun y1191 => ((spec_l1In.f a0 0 5).bind fun t1194 => (if t1194 = true then ((spec_l1In.f a1 1 60).bind fun t1195 => (if t1195 = true then ((spec_l1In.f a2 0 8).bind fun t1196 => (if t1196 = true then (if a2 > 0 then (spec_PulseScript.j0 k a0 a1 a2 y1191 (decide ((wrap64 (a1 * (wrap64 (a2 - 1)))) ≥ 60))) else (spec_PulseScript.j0 k a0 a1 a2 y1191 false)) else (spec_PulseScript.j0 k a0 a1 a2 y1191 true))) else (spec_PulseScript.j0 k a0 a1 a2 y1191 true))) else (spec_PulseScript.j0 k a0 a1 a2 y1191 true)))) = some r := h
  clear h
  obtain ⟨y1191, hy1191⟩ : ∃ y_ : List (S64), y_ = (([] : List (S64))) := ⟨_, rfl⟩
  replace H : ((spec_l1In.f a0 0 5).bind fun t1194 => (if t1194 = true then ((spec_l1In.f a1 1 60).bind fun t1195 => (if t1195 = true then ((spec_l1In.f a2 0 8).bind fun t1196 => (if t1196 = true then (if a2 > 0 then (spec_PulseScript.j0 k a0 a1 a2 y1191 (decide ((wrap64 (a1 * (wrap64 (a2 - 1)))) ≥ 60))) else (spec_PulseScript.j0 k a0 a1 a2 y1191 false)) else (spec_PulseScript.j0 k a0 a1 a2 y1191 true))) else (spec_PulseScript.j0 k a0 a1 a2 y1191 true))) else (spec_PulseScript.j0 k a0 a1 a2 y1191 true))) = some r := by first | (rw [hy1191]; with_reducible exact H) | (have H2_ := (Option.bind_some _ _).symm.trans H; rw [hy1191]; with_reducible exact H2_) | (have H2_ := (Option.bind_some _ _).symm.trans H; with_reducible exact H2_) | with_reducible exact H | (rw [hy1191]; exact H) | exact H
  have Ny1191 := Aside0.mk hy1191
  clear hy1191
  have HC4 := Aside0.mk H
  clear H
  go_enter Try.func60, Try.ntmps60
  go_upto_region 2 with (first | ((with_reducible refine gate_dst (N := 9) rfl ?_); refine Kd.R_lit k64 _ 64 ?hg (N := 9) ?hd (xs := ([] : List (S64))) (inner := []) (ok := fun _ => True) (okp := fun _ => True) ?hr ?hp (fun _ hk => hk) trivial (Below.refl _ _) (Nat.le_refl _) (by simp) ?_; (case hd => rfl); (case hg => rfl); (case hr => first | (go_simp; done) | (go_simp; rfl)); (case hp => exact (Reps.none _ _)); intro v1192 w5 ho6 hb hg_ hnew_; clear hg_ hnew_; (first | rw [← Ny1191.out] at ho6 | (simp only [Int.reduceToNat] at ho6; rw [← Ny1191.out] at ho6)); have n0_ := Aside0.mk (Kd.R_lower ho6 (below_size (zB HB.out))); have n1_ := Aside0.mk (below_step (zB HB.out) hb); clear HB; have HO1193 := n0_; have HB := n1_; clear n0_ n1_; clear hb ho6))
  (try simp only [Act.put, List.setIfInBounds_toArray, List.set_cons_zero, List.set_cons_succ])
  go_cut [33] (fun v33 wc => ∃ (kq : Nat) (x33_3 : Bool), v33 = .bool x33_3 ∧ Aside0 (spec_PulseScript.j0 kq a0 a1 a2 y1191 x33_3 = some r) ∧ Aside0 (kq ≤ k) ∧ Aside0 (Kd.R k64 64 wc w.heap.size (fun _ => True) v1192 y1191) ∧ Aside0 (Below w.heap.size w wc))
  case first =>
    have H := HC4.out
    clear HC4
    replace H := Option.bind_eq_some_iff.mp H
    obtain ⟨t1194, A70, H⟩ := H
    replace H : (if t1194 = true then ((spec_l1In.f a1 1 60).bind fun t1195 => (if t1195 = true then ((spec_l1In.f a2 0 8).bind fun t1196 => (if t1196 = true then (if a2 > 0 then (spec_PulseScript.j0 k a0 a1 a2 y1191 (decide ((wrap64 (a1 * (wrap64 (a2 - 1)))) ≥ 60))) else (spec_PulseScript.j0 k a0 a1 a2 y1191 false)) else (spec_PulseScript.j0 k a0 a1 a2 y1191 true))) else (spec_PulseScript.j0 k a0 a1 a2 y1191 true))) else (spec_PulseScript.j0 k a0 a1 a2 y1191 true)) = some r := H
    have A7 := Aside0.mk A70
    clear A70
    by_cases c8 : t1194 = true
    · subst c8
      have H1 : ((spec_l1In.f a1 1 60).bind fun t1195 => (if t1195 = true then ((spec_l1In.f a2 0 8).bind fun t1196 => (if t1196 = true then (if a2 > 0 then (spec_PulseScript.j0 k a0 a1 a2 y1191 (decide ((wrap64 (a1 * (wrap64 (a2 - 1)))) ≥ 60))) else (spec_PulseScript.j0 k a0 a1 a2 y1191 false)) else (spec_PulseScript.j0 k a0 a1 a2 y1191 true))) else (spec_PulseScript.j0 k a0 a1 a2 y1191 true))) = some r := by rw [if_pos rfl] at H; exact H
      clear H
      have H := H1
      clear H1
      replace H := Option.bind_eq_some_iff.mp H
      obtain ⟨t1195, A90, H⟩ := H
      replace H : (if t1195 = true then ((spec_l1In.f a2 0 8).bind fun t1196 => (if t1196 = true then (if a2 > 0 then (spec_PulseScript.j0 k a0 a1 a2 y1191 (decide ((wrap64 (a1 * (wrap64 (a2 - 1)))) ≥ 60))) else (spec_PulseScript.j0 k a0 a1 a2 y1191 false)) else (spec_PulseScript.j0 k a0 a1 a2 y1191 true))) else (spec_PulseScript.j0 k a0 a1 a2 y1191 true)) = some r := H
      have A9 := Aside0.mk A90
      clear A90
      by_cases c10 : t1195 = true
      · subst c10
        have H1 : ((spec_l1In.f a2 0 8).bind fun t1196 => (if t1196 = true then (if a2 > 0 then (spec_PulseScript.j0 k a0 a1 a2 y1191 (decide ((wrap64 (a1 * (wrap64 (a2 - 1)))) ≥ 60))) else (spec_PulseScript.j0 k a0 a1 a2 y1191 false)) else (spec_PulseScript.j0 k a0 a1 a2 y1191 true))) = some r := by rw [if_pos rfl] at H; exact H
        clear H
        have H := H1
        clear H1
        replace H := Option.bind_eq_some_iff.mp H
        obtain ⟨t1196, A110, H⟩ := H
        replace H : (if t1196 = true then (if a2 > 0 then (spec_PulseScript.j0 k a0 a1 a2 y1191 (decide ((wrap64 (a1 * (wrap64 (a2 - 1)))) ≥ 60))) else (spec_PulseScript.j0 k a0 a1 a2 y1191 false)) else (spec_PulseScript.j0 k a0 a1 a2 y1191 true)) = some r := H
        have A11 := Aside0.mk A110
        clear A110
        by_cases c12 : t1196 = true
        · subst c12
          have H1 : (if a2 > 0 then (spec_PulseScript.j0 k a0 a1 a2 y1191 (decide ((wrap64 (a1 * (wrap64 (a2 - 1)))) ≥ 60))) else (spec_PulseScript.j0 k a0 a1 a2 y1191 false)) = some r := by rw [if_pos rfl] at H; exact H
          clear H
          have H := H1
          clear H1
          by_cases c13 : a2 > 0
          · rw [if_pos c13] at H
            have c13b0 : decide (0 < a2) = true := decide_eq_true c13
            clear c13
            (first | rw [c13b0] | (simp only [i64_w, i32_w]; rw [c13b0]) | skip)
            have H' := Aside0.mk H
            clear H
            go_wp2_with (first | ((with_reducible refine gate_callee (f := 69) rfl ?_); refine goesL_ (some 11) rfl rfl Try.func69 (by kernel_rfl) rfl #[.int .i64 a0, .int .i64 0, .int .i64 5] rfl zA ?_; (with_reducible refine (spec_l1In.calls a0 0 5 true _ A7.out).mono ?_); rintro e w' ⟨rfl, ⟨nd, rfl⟩⟩; refine ⟨_, rfl, ?_⟩) | (go_at_call 69; (with_reducible refine (spec_l1In.calls a1 1 60 true _ A9.out).mono ?_); rintro e w' ⟨rfl, ⟨nd, rfl⟩⟩) | (go_at_call 69; (with_reducible refine (spec_l1In.calls a2 0 8 true _ A11.out).mono ?_); rintro e w' ⟨rfl, ⟨nd, rfl⟩⟩))
            go_meet
            case rel => exact ⟨_, (decide ((wrap64 (a1 * (wrap64 (a2 - 1)))) ≥ 60)), (by first | rfl | (simp; done) | (simp [*]; done)), H', ⟨by first | omega | exact Nat.le_refl _⟩, ⟨by (with_reducible repeat (first | apply Kd.R_alloc | apply Kd.R_drewN | apply Kd.R_drew)); exact HO1193.out⟩, ⟨zB HB.out⟩⟩
          · rw [if_neg c13] at H
            have c13b0 : decide (0 < a2) = false := decide_eq_false c13
            clear c13
            (first | rw [c13b0] | (simp only [i64_w, i32_w]; rw [c13b0]) | skip)
            have H' := Aside0.mk H
            clear H
            go_wp2_with (first | ((with_reducible refine gate_callee (f := 69) rfl ?_); refine goesL_ (some 11) rfl rfl Try.func69 (by kernel_rfl) rfl #[.int .i64 a0, .int .i64 0, .int .i64 5] rfl zA ?_; (with_reducible refine (spec_l1In.calls a0 0 5 true _ A7.out).mono ?_); rintro e w' ⟨rfl, ⟨nd, rfl⟩⟩; refine ⟨_, rfl, ?_⟩) | (go_at_call 69; (with_reducible refine (spec_l1In.calls a1 1 60 true _ A9.out).mono ?_); rintro e w' ⟨rfl, ⟨nd, rfl⟩⟩) | (go_at_call 69; (with_reducible refine (spec_l1In.calls a2 0 8 true _ A11.out).mono ?_); rintro e w' ⟨rfl, ⟨nd, rfl⟩⟩))
            go_meet
            case rel => exact ⟨_, (false), (by first | rfl | (simp; done) | (simp [*]; done)), H', ⟨by first | omega | exact Nat.le_refl _⟩, ⟨by (with_reducible repeat (first | apply Kd.R_alloc | apply Kd.R_drewN | apply Kd.R_drew)); exact HO1193.out⟩, ⟨zB HB.out⟩⟩
        · replace c12 := Bool.eq_false_iff.mpr c12
          subst c12
          have H1 : (spec_PulseScript.j0 k a0 a1 a2 y1191 true) = some r := by rw [if_neg (show ¬ (false = true) by decide)] at H; exact H
          clear H
          have H := H1
          clear H1
          have H' := Aside0.mk H
          clear H
          go_wp2_with (first | ((with_reducible refine gate_callee (f := 69) rfl ?_); refine goesL_ (some 11) rfl rfl Try.func69 (by kernel_rfl) rfl #[.int .i64 a0, .int .i64 0, .int .i64 5] rfl zA ?_; (with_reducible refine (spec_l1In.calls a0 0 5 true _ A7.out).mono ?_); rintro e w' ⟨rfl, ⟨nd, rfl⟩⟩; refine ⟨_, rfl, ?_⟩) | (go_at_call 69; (with_reducible refine (spec_l1In.calls a1 1 60 true _ A9.out).mono ?_); rintro e w' ⟨rfl, ⟨nd, rfl⟩⟩) | (go_at_call 69; (with_reducible refine (spec_l1In.calls a2 0 8 false _ A11.out).mono ?_); rintro e w' ⟨rfl, ⟨nd, rfl⟩⟩))
          go_meet
          case rel => exact ⟨_, (true), (by first | rfl | (simp; done) | (simp [*]; done)), H', ⟨by first | omega | exact Nat.le_refl _⟩, ⟨by (with_reducible repeat (first | apply Kd.R_alloc | apply Kd.R_drewN | apply Kd.R_drew)); exact HO1193.out⟩, ⟨zB HB.out⟩⟩
      · replace c10 := Bool.eq_false_iff.mpr c10
        subst c10
        have H1 : (spec_PulseScript.j0 k a0 a1 a2 y1191 true) = some r := by rw [if_neg (show ¬ (false = true) by decide)] at H; exact H
        clear H
        have H := H1
        clear H1
        have H' := Aside0.mk H
        clear H
        go_wp2_with (first | ((with_reducible refine gate_callee (f := 69) rfl ?_); refine goesL_ (some 11) rfl rfl Try.func69 (by kernel_rfl) rfl #[.int .i64 a0, .int .i64 0, .int .i64 5] rfl zA ?_; (with_reducible refine (spec_l1In.calls a0 0 5 true _ A7.out).mono ?_); rintro e w' ⟨rfl, ⟨nd, rfl⟩⟩; refine ⟨_, rfl, ?_⟩) | (go_at_call 69; (with_reducible refine (spec_l1In.calls a1 1 60 false _ A9.out).mono ?_); rintro e w' ⟨rfl, ⟨nd, rfl⟩⟩))
        go_meet
        case rel => exact ⟨_, (true), (by first | rfl | (simp; done) | (simp [*]; done)), H', ⟨by first | omega | exact Nat.le_refl _⟩, ⟨by (with_reducible repeat (first | apply Kd.R_alloc | apply Kd.R_drewN | apply Kd.R_drew)); exact HO1193.out⟩, ⟨zB HB.out⟩⟩
    · replace c8 := Bool.eq_false_iff.mpr c8
      subst c8
      have H1 : (spec_PulseScript.j0 k a0 a1 a2 y1191 true) = some r := by rw [if_neg (show ¬ (false = true) by decide)] at H; exact H
      clear H
      have H := H1
      clear H1
      have H' := Aside0.mk H
      clear H
      go_wp2_with (first | ((with_reducible refine gate_callee (f := 69) rfl ?_); refine goesL_ (some 11) rfl rfl Try.func69 (by kernel_rfl) rfl #[.int .i64 a0, .int .i64 0, .int .i64 5] rfl zA ?_; (with_reducible refine (spec_l1In.calls a0 0 5 false _ A7.out).mono ?_); rintro e w' ⟨rfl, ⟨nd, rfl⟩⟩; refine ⟨_, rfl, ?_⟩))
      go_meet
      case rel => exact ⟨_, (true), (by first | rfl | (simp; done) | (simp [*]; done)), H', ⟨by first | omega | exact Nat.le_refl _⟩, ⟨by (with_reducible repeat (first | apply Kd.R_alloc | apply Kd.R_drewN | apply Kd.R_drew)); exact HO1193.out⟩, ⟨zB HB.out⟩⟩
  case rest =>
    clear HC4
    try clear c1
    try clear p2
    try clear c6
    try clear p6
    try clear c8
    try clear c10
    try clear c12
    try clear c13
    try clear c13b0
    obtain ⟨kq, x33_3, rfl, HA, HJ3, HO_7, HB⟩ := hcut
    cases kq with
    | zero => exact absurd HA.out (by simp [spec_PulseScript.j0])
    | succ kj3 =>
      have H := HA.out
      clear HA
      simp only [spec_PulseScript.j0] at H
      by_cases c14 : x33_3 = true
      · subst c14
        have H1 : (some y1191) = some r := by rw [if_pos rfl] at H; exact H
        clear H
        have H := H1
        clear H1
        obtain rfl := Option.some.inj H
        go_wp2
        go_ret
        exact ⟨_, by first | rfl | (simp [errW_none, errW_some] <;> rfl) | (simp [*, errW_none, errW_some] <;> rfl), by (with_reducible repeat (first | apply Kd.R_alloc | apply Kd.R_drewN | apply Kd.R_drew)); exact HO_7.out, zB HB.out⟩
      · replace c14 := Bool.eq_false_iff.mpr c14
        subst c14
        have H1 : (spec_PulseScript.l0 kj3 a0 a1 a2 y1191 0) = some r := by rw [if_neg (show ¬ (false = true) by decide)] at H; exact H
        clear H
        have H := H1
        clear H1
        have H' := Aside0.mk H
        clear H
        go_wp2
        go_loopg [7, 8] kj3 (fun kq v7 v8 w' => ∃ (x7_2 : List (S64)) (x8_2 : Int), v8 = .int .i64 x8_2 ∧ Aside0 (spec_PulseScript.l0 kq a0 a1 a2 x7_2 x8_2 = some r) ∧ Aside0 (kq ≤ kj3) ∧ Aside0 (Kd.R k64 64 w' w.heap.size (fun _ => True) v7 x7_2) ∧ Aside0 (Below w.heap.size w w'))
        case atStart => exact ⟨(y1191), (0), (by first | rfl | (simp; done) | (simp [*]; done)), H', ⟨Nat.le_refl _⟩, ⟨by (with_reducible repeat (first | apply Kd.R_alloc | apply Kd.R_drewN | apply Kd.R_drew)); exact HO_7.out⟩, ⟨zB HB.out⟩⟩
        case round =>
          clear H'
          try clear c1
          try clear p2
          try clear c6
          try clear p6
          try clear c8
          try clear c10
          try clear c12
          try clear c13
          try clear c13b0
          try clear c14
          try clear p2
          try clear p6
          obtain ⟨x7_2, x8_2, rfl, HA, HK2, HO_7, HB⟩ := hrel
          cases gk with
          | zero => exact absurd HA.out (by simp [spec_PulseScript.l0])
          | succ k2 =>
            have H := HA.out
            clear HA
            simp only [spec_PulseScript.l0] at H
            by_cases c15 : x8_2 < a2
            · rw [if_pos c15] at H
              have c15b0 : decide (x8_2 < a2) = true := decide_eq_true c15
              clear c15
              by_cases c16 : x7_2.length < 8796093022208
              · rw [if_pos c16] at H
                have LMc16 := Aside0.mk c16
                clear c16
                obtain ⟨y1197, hy1197⟩ : ∃ y_ : List (S64), y_ = (x7_2 ++ [(⟨wrap64 (a1 * x8_2), a0⟩ : S64)]) := ⟨_, rfl⟩
                replace H : (spec_PulseScript.l0 k2 a0 a1 a2 y1197 (wrap64 (x8_2 + 1))) = some r := by first | (rw [hy1197]; with_reducible exact H) | (have H2_ := (Option.bind_some _ _).symm.trans H; rw [hy1197]; with_reducible exact H2_) | (have H2_ := (Option.bind_some _ _).symm.trans H; with_reducible exact H2_) | with_reducible exact H | (rw [hy1197]; exact H) | exact H
                have Ny1197 := Aside0.mk hy1197
                clear hy1197
                have H' := Aside0.mk H
                clear H
                go_wp2_with (first | ((with_reducible refine gate_builtin (b := .append) (xs := #[.tmp 40, .tmp 46]) rfl ?_); at_builtin; refine Kd.R_append k64 (w0 := w) w.heap.size rfl (.tmp 40) (.tmp 46) 53 64 (.agg #[(.int .i64 0), (.int .i64 0)]) 16 rfl Try.underlying53 info64 rfl (by decide) (by omega) u7 x7_2 (⟨wrap64 (a1 * x8_2), a0⟩ : S64) [.int .i64 (wrap64 (a1 * x8_2)), .int .i64 a0] (fun _ => True) (fun _ => False) rfl rfl ?aP (fun _ hk => hk.elim) ?aF ?aO ?aB ?aS ?aL ?_; (case aP => exact k64_mkM _ _ _ (⟨wrap64 (a1 * x8_2), a0⟩ : S64)); (case aB => exact (zB HB.out)); (case aF => exact (fun _ _ => trivial)); (case aO => exact (zR HO_7.out)); (case aS => exact (below_size (zB HB.out))); (case aL => have := LMc16.out; omega); intro v1198 w17 ho hb hg hat; rw [← Ny1197.out] at ho; have n0_ := Aside0.mk (hb); have n1_ := Aside0.mk (ho); clear HB; clear HO_7; have HB := n0_; have HO1199 := n1_; clear n0_ n1_; clear ho hb hg hat))
                go_roundg k2
                case measure => have := HJ3.out; have := HK2.out; omega
                case rel => exact ⟨(y1197), (wrap64 (x8_2 + 1)), (by first | rfl | (simp; done) | (simp [*]; done)), H', ⟨by have := HJ3.out; have := HK2.out; omega⟩, ⟨by (with_reducible repeat (first | apply Kd.R_alloc | apply Kd.R_drewN | apply Kd.R_drew)); exact HO1199.out⟩, ⟨zB HB.out⟩⟩
              · rw [if_neg c16] at H
                exact absurd H (by simp)
            · rw [if_neg c15] at H
              have c15b0 : decide (x8_2 < a2) = false := decide_eq_false c15
              clear c15
              obtain rfl := Option.some.inj H
              go_wp2
              go_ret
              exact ⟨_, by first | rfl | (simp [errW_none, errW_some] <;> rfl) | (simp [*, errW_none, errW_some] <;> rfl), by (with_reducible repeat (first | apply Kd.R_alloc | apply Kd.R_drewN | apply Kd.R_drew)); exact HO_7.out, zB HB.out⟩

/-! ### spec_DrawFireStep: function 61 -/
def spec_DrawFireStep.f (k : Nat) (l0 : List Int) : Option (List Int × Int × List Int) := (spec_l20Open.f l0).bind fun bt1200 => ((spec_l20Fire.f k bt1200.1 bt1200.2 12).bind fun bt1203 => (some (bt1203.1, bt1203.2.1, bt1203.2.2.1)))
theorem spec_DrawFireStep.mono : ∀ a0 k, LeO (spec_DrawFireStep.f k a0) (spec_DrawFireStep.f (k + 1) a0) := by
  intro a0 k
  unfold spec_DrawFireStep.f
  repeat' first
      | (with_reducible exact spec_l20Fire.mono _ _ _ _)
      | (with_reducible exact LeO.refl _)
      | (with_reducible exact LeO.none _)
      | (with_reducible refine LeO.ite ?_ ?_)
      | (with_reducible refine LeO.bind ?_ (fun _ => ?_))
      | exact spec_l20Fire.mono _ _ _ _
      | exact LeO.none _
      | refine LeO.ite ?_ ?_
      | refine LeO.bind ?_ (fun _ => ?_)
set_option maxHeartbeats 8000000 in
set_option maxRecDepth 100000 in
theorem spec_DrawFireStep.calls (k : Nat) (A0 : Option Addr) (c0 : Nat) (l0 : List Int) (r1 : List Int) (r2 : Int) (r3 : List Int) (w : World) (hr0 : Kd.C (Kd.int .u8) w A0 l0.length l0) (hc0 : l0.length ≤ c0) (h : spec_DrawFireStep.f k l0 = some (r1, r2, r3)) :
    Calls Try.prog 61 #[.slice A0 l0.length c0] w fun e w' => ∃ v0_ v2_ : Value, e = .returned (.tuple #[v0_, .int .i64 r2, v2_]) ∧ Kd.R (Kd.int .i64) 3 w' w.heap.size (fun k_ => some k_ ≠ (v2_ : Value).ownBlock) v0_ r1 ∧ Kd.R (Kd.int .i64) 3 w' w.heap.size (fun k_ => some k_ ≠ (v0_ : Value).ownBlock) v2_ r3 ∧ Below w.heap.size w w' := by
  have HR0 := Aside0.mk hr0
  have HC0 := Aside0.mk hc0
  clear hr0 hc0
  have HB := Aside0.mk (Below.refl w.heap.size w)
  have H : ((spec_l20Open.f l0).bind fun bt1200 => ((spec_l20Fire.f k bt1200.1 bt1200.2 12).bind fun bt1203 => (some (bt1203.1, bt1203.2.1, bt1203.2.2.1)))) = some (r1, r2, r3) := h
  clear h
  replace H := Option.bind_eq_some_iff.mp H
  obtain ⟨⟨t1200, t1201⟩, A20, H⟩ := H
  replace H : ((spec_l20Fire.f k t1200 t1201 12).bind fun bt1203 => (some (bt1203.1, bt1203.2.1, bt1203.2.2.1))) = some (r1, r2, r3) := H
  have A2 := Aside0.mk A20
  clear A20
  replace H := Option.bind_eq_some_iff.mp H
  obtain ⟨⟨t1203, t1206, t1207, t1210⟩, A30, H⟩ := H
  replace H : (some (t1203, t1206, t1207)) = some (r1, r2, r3) := H
  have A3 := Aside0.mk A30
  clear A30
  simp only [Option.some.injEq, Prod.mk.injEq] at H
  obtain ⟨rfl, rfl, rfl⟩ := H
  go_enter Try.func61, Try.ntmps61
  go_wp2_with (first | ((with_reducible refine gate_callee (f := 63) rfl ?_); refine goesL_ (some 6) rfl rfl Try.func63 (by kernel_rfl) rfl #[.slice A0 l0.length c0] rfl zA ?_; (with_reducible refine (spec_l20Open.calls _ _ l0 t1200 t1201 w _ ?side1 ?side2 ?side3 A2.out).mono ?_); (case side1 => exact zB HB.out); (case side2 => exact HR0.out); (case side3 => exact HC0.out); rintro e w4 ⟨g1202, rfl, hi, hb, hb2⟩; refine ⟨_, rfl, ?_⟩; have n0_ := Aside0.mk (hb); have n1_ := Aside0.mk (hi); clear HB; have HB := n0_; have HI1202 := n1_; clear n0_ n1_; (try clear hb); (try clear hb2); (try clear hk); (try clear hi)) | ((with_reducible refine gate_callee (f := 73) rfl ?_); refine goesL_ (some 7) rfl rfl Try.func73 (by kernel_rfl) rfl #[.pointer (some ⟨g1202, 0, none⟩), .int .i64 12] rfl zA ?_; (with_reducible refine (spec_l20Fire.calls k g1202 t1200 t1201 12 t1203 t1206 t1207 t1210 w _ ?side1 ?side2 A3.out).mono ?_); (case side1 => repeat (first | (with_reducible first | exact HI1202.out | apply IsS92.alloc | apply IsS92.drewN | apply IsS92.drew | apply IsS92.set_1) | exact HI1202.out)); (case side2 => repeat (first | (with_reducible first | exact HB.out | apply below_alloc | apply pw_below_drewN | apply below_drew1 | refine below_set ?_ (IsS92.ge HI1202.out)) | exact HB.out)); rintro e w5 ⟨v1204, v1208, rfl, ho0, ho1, hi, hb, hk⟩; refine ⟨_, rfl, ?_⟩; have n0_ := Aside0.mk (Kd.R_lower ho0 (below_size (by repeat (first | (with_reducible first | exact HB.out | apply below_alloc | apply pw_below_drewN | apply below_drew1 | refine below_set ?_ (IsS92.ge HI1202.out)) | exact HB.out)))); have n1_ := Aside0.mk (Kd.R_lower ho1 (below_size (by repeat (first | (with_reducible first | exact HB.out | apply below_alloc | apply pw_below_drewN | apply below_drew1 | refine below_set ?_ (IsS92.ge HI1202.out)) | exact HB.out)))); have n2_ := Aside0.mk (hb); have n3_ := Aside0.mk (hi); clear HB; clear HI1202; have HO1205 := n0_; have HO1209 := n1_; have HB := n2_; have HI1202 := n3_; clear n0_ n1_ n2_ n3_; (try clear hb); (try clear hb2); (try clear hk); (try clear hi); (try clear ho0); (try clear ho1)))
  go_ret3
  exact ⟨_, _, by first | rfl | (simp [errW_none, errW_some] <;> rfl) | (simp [*, errW_none, errW_some] <;> rfl), by (with_reducible repeat (first | apply Kd.R_alloc | apply Kd.R_drewN | apply Kd.R_drew)); exact HO1205.out, by (with_reducible repeat (first | apply Kd.R_alloc | apply Kd.R_drewN | apply Kd.R_drew)); exact HO1209.out, by repeat (first | (with_reducible first | exact HB.out | apply below_alloc | apply pw_below_drewN | apply below_drew1 | refine below_set ?_ (IsS92.ge HI1202.out)) | exact HB.out)⟩

end Go.Proofs.Ytfhkahlfpchhpaa.PAll
