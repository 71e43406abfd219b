/- Own text of this session, written by a program of this session (wip/t/own.py) out of what the kit tells of the functions: each Go function as a Lean function, and the walk through its code. -/
import Derived.Test.YtgglagpciojfmaaT
import Derived.Test.YtgglagpciojfmaaF1
import Derived.Test.YtgglagpciojfmaaF28
import Derived.Test.YtgglagpciojfmaaF29
import Derived.Test.YtgglagpciojfmaaF40
namespace Go.Proofs.Ytgglagpciojfmaa.PAll
open Go.RowKit Go.Proofs.YtgglagpciojfmaaW.PrintWords Go.Proofs.YtgglagpciojfmaaW.PrintLast Go.Proofs.YtgglagpciojfmaaW.PrintMore
attribute [local go_sem] max2_int min2_int max_two min_two max_three min_three max_four min_four   -- for this text's walks alone
set_option linter.unusedVariables false
set_option linter.unusedSimpArgs false

/-! ### spec_DrawFlatCount: function 33 -/
def spec_DrawFlatCount.f (k : Nat) (l0 : List Int) : Option (List Int) := (spec_l20Open.f l0).bind fun bt580 => ((spec_l20Small.f k bt580.1 bt580.2 9).bind fun bt583 => (some bt583.1))
theorem spec_DrawFlatCount.mono : ∀ a0 k, LeO (spec_DrawFlatCount.f k a0) (spec_DrawFlatCount.f (k + 1) a0) := by
 intro a0 k
 unfold spec_DrawFlatCount.f
 repeat' first
   | (with_reducible exact spec_l20Small.mono _ _ _ _)
   | (with_reducible exact LeO.refl _)
   | (with_reducible exact LeO.none _)
   | (with_reducible refine LeO.ite ?_ ?_)
   | (with_reducible refine LeO.bind ?_ (fun _ => ?_))
   | exact spec_l20Small.mono _ _ _ _
   | exact LeO.none _
   | refine LeO.ite ?_ ?_
   | refine LeO.bind ?_ (fun _ => ?_)
set_option maxHeartbeats 8000000 in
set_option maxRecDepth 100000 in
theorem spec_DrawFlatCount.calls (k : Nat) (A0 : Option Addr) (c0 : Nat) (l0 : List Int) (r : List Int) (w : World) (hr0 : Kd.C (Kd.int .u8) w A0 l0.length l0) (hc0 : l0.length ≤ c0) (h : spec_DrawFlatCount.f k l0 = some r) :
  Calls Try.prog 33 #[.slice A0 l0.length c0] w fun e w' => ∃ v0_ : Value, e = .returned (v0_) ∧ Kd.R (Kd.int .i64) 3 w' w.heap.size (fun _ => True) v0_ r ∧ Below w.heap.size w w' := by
 have HR0 := Aside0.mk hr0
 have HC0 := Aside0.mk hc0
 clear hr0 hc0
 have HB := Aside0.mk (Below.refl w.heap.size w)
 have H : ((spec_l20Open.f l0).bind fun bt580 => ((spec_l20Small.f k bt580.1 bt580.2 9).bind fun bt583 => (some bt583.1))) = some r := h
 clear h
 replace H := Option.bind_eq_some_iff.mp H
 obtain ⟨⟨t580, t581⟩, A20, H⟩ := H
 replace H : ((spec_l20Small.f k t580 t581 9).bind fun bt583 => (some bt583.1)) = some r := H
 have A2 := Aside0.mk A20
 clear A20
 replace H := Option.bind_eq_some_iff.mp H
 obtain ⟨⟨t583, t586⟩, A30, H⟩ := H
 replace H : (some t583) = some r := H
 have A3 := Aside0.mk A30
 clear A30
 obtain rfl := Option.some.inj H
 go_enter Try.func33, Try.ntmps33
 go_wp2_with (first | ((with_reducible refine gate_callee (f := 67) rfl ?_); refine goesL_ (some 4) rfl rfl Try.func67 (by kernel_rfl) rfl #[.slice A0 l0.length c0] rfl zA ?_; (with_reducible refine (spec_l20Open.calls _ _ l0 t580 t581 w _ ?side1 ?side2 ?side3 A2.out).mono ?_); (case side1 => exact zB HB.out); (case side2 => exact HR0.out); (case side3 => exact HC0.out); rintro e w4 ⟨g582, rfl, hi, hb, hb2⟩; refine ⟨_, rfl, ?_⟩; have n0_ := Aside0.mk (hb); have n1_ := Aside0.mk (hi); clear HB; have HB := n0_; have HI582 := n1_; clear n0_ n1_; (try clear hb); (try clear hb2); (try clear hk); (try clear hi)) | ((with_reducible refine gate_callee (f := 68) rfl ?_); refine goesL_ (some 5) rfl rfl Try.func68 (by kernel_rfl) rfl #[.pointer (some ⟨g582, 0, none⟩), .int .i64 9] rfl zA ?_; (with_reducible refine (spec_l20Small.calls k g582 t580 t581 9 t583 t586 w _ ?side1 ?side2 A3.out).mono ?_); (case side1 => exact zI67 HI582.out); (case side2 => exact zE67 HB.out HI582.out); rintro e w5 ⟨v584, rfl, ho0, hi, hb, hk⟩; refine ⟨_, rfl, ?_⟩; have n0_ := Aside0.mk (Kd.R_lower ho0 (below_size (zE67 HB.out HI582.out))); have n1_ := Aside0.mk (hb); have n2_ := Aside0.mk (hi); clear HB; clear HI582; have HO585 := n0_; have HB := n1_; have HI582 := n2_; clear n0_ n1_ n2_; (try clear hb); (try clear hb2); (try clear hk); (try clear hi); (try clear ho0)))
 go_ret
 exact ⟨_, by first | rfl | (simp [errW_none, errW_some] <;> rfl) | (simp [*, errW_none, errW_some] <;> rfl), by (with_reducible repeat (first | apply Kd.R_alloc | apply Kd.R_drewN | apply Kd.R_drew)); exact HO585.out, zE67 HB.out HI582.out⟩

/-! ### impl_RingStates: function 36 -/
def impl_RingStates.tell (a1 : Int) (k : Nat) (t : List Int) (n : Int) : Option Int := (impl_RingWinding.f k t).bind fun x => some (if x.1 = a1 then wrap64 (n + 1) else n)
theorem impl_RingStates.tmono (a1 : Int) (t : List Int) (n : Int) (k : Nat) : LeO (impl_RingStates.tell a1 k t n) (impl_RingStates.tell a1 (k + 1) t n) := LeO.bind (impl_RingWinding.mono t k) (fun _ => LeO.refl _)
def impl_RingStates.f (k : Nat) (a0 : Int) (a1 : Int) : Option (Int) := if a0 < 3 then some (-1) else if a0 > 6 then some (-1) else if a1 < -6 then some (-1) else if a1 > 6 then some (-1) else impl_allStates.f k (impl_RingStates.tell a1) a0 3 0
theorem impl_RingStates.mono : ∀ a0 a1 k, LeO (impl_RingStates.f k a0 a1) (impl_RingStates.f (k + 1) a0 a1) := by
 intro a0 a1 k
 unfold impl_RingStates.f
 exact LeO.ite (LeO.refl _) (LeO.ite (LeO.refl _) (LeO.ite (LeO.refl _) (LeO.ite (LeO.refl _) (impl_allStates.mono (impl_RingStates.tmono a1) a0 3 0 k))))
set_option maxHeartbeats 8000000 in
set_option maxRecDepth 100000 in
theorem impl_RingStates.lit (w : World) (k : Nat) (a1 : Int) (t : List Int) (n n' : Int) (A : Option Addr) (c : Nat) (W : World) (h : impl_RingStates.tell a1 k t n = some n') (hx : impl_countStates.Box2 w (.int .i64 a1) (.int .i64 n) 3 3 W) (hr : Kd.C (Kd.int .i64) W A t.length t) (hc : t.length ≤ c) :
  Calls Try.prog 73 (#[.slice A t.length c] ++ #[.pointer (some ⟨w.heap.size, 0, none⟩), .pointer (some ⟨w.heap.size + 1, 0, none⟩)]) W fun e w' => e = .returned (.tuple #[]) ∧ impl_countStates.Box2 w (.int .i64 a1) (.int .i64 n') 3 3 w' := by
 obtain ⟨⟨v1, v2⟩, h1, h2⟩ := Option.bind_eq_some_iff.1 h
 have HX := Aside0.mk hx
 have HC := Aside0.mk (impl_RingWinding.calls k A c t v1 v2 W hr hc h1)
 have H2 := Aside0.mk h2
 clear h h1 h2 hx hr hc
 refine calls_of_args (args' := #[.slice A t.length c, .pointer (some ⟨w.heap.size, 0, none⟩), .pointer (some ⟨w.heap.size + 1, 0, none⟩)]) rfl ?_
 by_cases c1 : v1 = a1
 ·have c1b0 : (v1 == a1) = true := by simp [c1]
  have C1 := Aside0.mk c1
  clear c1
  go_enter Try.func73, Try.ntmps73
  go_wp2_with ((with_reducible refine gate_callee (f := 40) rfl ?_); refine goesL_ (some 8) rfl rfl Try.func40 (by kernel_rfl) rfl #[.slice A t.length c] rfl zA ?_; (with_reducible refine HC.out.mono ?_); rintro e w2 ⟨rfl, hb⟩; refine ⟨_, rfl, ?_⟩; have HX2 := Aside0.mk (HX.out.later (hb.mono (by have := lt_of_block HX.out.b1; omega))); have Y0 := cell_of_one HX2.out.b0; have Y1 := cell_of_one HX2.out.b1; have Y2 := free_of_one HX2.out.b1; clear hb)
  go_end0
  have h3 := H2.out
  rw [if_pos C1.out] at h3
  obtain rfl := Option.some.inj h3
  refine ⟨rfl, ?_, one_setCell HX2.out.b1, HX2.out.below.setCell (by simp) _⟩
  rw [Below.heap_setCell _ _ _ _ (by simp)]; exact HX2.out.b0
 ·have c1b0 : (v1 == a1) = false := beq_eq_false_iff_ne.2 c1
  have C1 := Aside0.mk c1
  clear c1
  go_enter Try.func73, Try.ntmps73
  go_wp2_with ((with_reducible refine gate_callee (f := 40) rfl ?_); refine goesL_ (some 8) rfl rfl Try.func40 (by kernel_rfl) rfl #[.slice A t.length c] rfl zA ?_; (with_reducible refine HC.out.mono ?_); rintro e w2 ⟨rfl, hb⟩; refine ⟨_, rfl, ?_⟩; have HX2 := Aside0.mk (HX.out.later (hb.mono (by have := lt_of_block HX.out.b1; omega))); have Y0 := cell_of_one HX2.out.b0; clear hb)
  go_end0
  have h3 := H2.out
  rw [if_neg C1.out] at h3
  obtain rfl := Option.some.inj h3
  exact ⟨rfl, HX2.out⟩
set_option maxHeartbeats 8000000 in
set_option maxRecDepth 100000 in
theorem impl_RingStates.calls (k : Nat) (a0 : Int) (a1 : Int) (r : Int) (w : World) (h : impl_RingStates.f k a0 a1 = some r) :
  Calls Try.prog 36 #[.int .i64 a0, .int .i64 a1] w fun e w' => e = .returned (.int .i64 r) ∧ Below w.heap.size w w' := by
 have hmf : ∀ (fn : Fn) (first cap : Array Value) (w : World), (Instr.makeFunc fn first cap).run Try.prog w = .ok (.func fn first cap) w := fun _ _ _ _ => rfl
 have HB := Aside0.mk (Below.refl w.heap.size w)
 unfold impl_RingStates.f at h
 by_cases c1 : a0 < 3
 ·rw [if_pos c1] at h
  have c1b0 : decide (a0 < 3) = true := decide_eq_true c1
  obtain rfl := Option.some.inj h
  clear h c1
  go_enter Try.func36, Try.ntmps36
  go_wp2
  go_ret
  exact ⟨rfl, zB HB.out⟩
 rw [if_neg c1] at h
 have c1b0 : decide (a0 < 3) = false := decide_eq_false c1
 by_cases c2 : a0 > 6
 ·rw [if_pos c2] at h
  have c2b0 : decide (6 < a0) = true := decide_eq_true c2
  obtain rfl := Option.some.inj h
  clear h c1 c2
  go_enter Try.func36, Try.ntmps36
  go_wp2
  go_ret
  exact ⟨rfl, zB HB.out⟩
 rw [if_neg c2] at h
 have c2b0 : decide (6 < a0) = false := decide_eq_false c2
 by_cases c3 : a1 < -6
 ·rw [if_pos c3] at h
  have c3b0 : decide (a1 < -6) = true := decide_eq_true c3
  obtain rfl := Option.some.inj h
  clear h c1 c2 c3
  go_enter Try.func36, Try.ntmps36
  go_wp2
  go_ret
  exact ⟨rfl, zB HB.out⟩
 rw [if_neg c3] at h
 have c3b0 : decide (a1 < -6) = false := decide_eq_false c3
 by_cases c4 : a1 > 6
 ·rw [if_pos c4] at h
  have c4b0 : decide (6 < a1) = true := decide_eq_true c4
  obtain rfl := Option.some.inj h
  clear h c1 c2 c3 c4
  go_enter Try.func36, Try.ntmps36
  go_wp2
  go_ret
  exact ⟨rfl, zB HB.out⟩
 rw [if_neg c4] at h
 have c4b0 : decide (6 < a1) = false := decide_eq_false c4
 have H := Aside0.mk h
 have HJ : Aside0 (∀ (n : Int) W W', impl_countStates.Box2 w (.int .i64 a1) (.int .i64 n) 3 3 W → Below W.heap.size W W' → impl_countStates.Box2 w (.int .i64 a1) (.int .i64 n) 3 3 W') := ⟨fun n W W' hi hb => hi.later (hb.mono (by have := lt_of_block hi.b1; omega))⟩
 have HL : Aside0 (∀ (k : Nat) (t : List Int) (s s' : Int) (A : Option Addr) (c : Nat) (W : World), impl_RingStates.tell a1 k t s = some s' → impl_countStates.Box2 w (.int .i64 a1) (.int .i64 s) 3 3 W → Kd.C (Kd.int .i64) W A t.length t → t.length ≤ c → Calls Try.prog 73 (#[.slice A t.length c] ++ #[.pointer (some ⟨w.heap.size, 0, none⟩), .pointer (some ⟨w.heap.size + 1, 0, none⟩)]) W fun e w' => e = .returned (.tuple #[]) ∧ impl_countStates.Box2 w (.int .i64 a1) (.int .i64 s') 3 3 w') :=
  ⟨fun k t s s' A c W h hx hr hc => impl_RingStates.lit w k a1 t s s' A c W h hx hr hc⟩
 have HX := Aside0.mk (impl_countStates.box2 w (.int .i64 a1) (.int .i64 0) 3 3)
 clear h c1 c2 c3 c4
 go_enter Try.func36, Try.ntmps36
 go_wp2_with ((with_reducible refine gate_callee (f := 72) rfl ?_); refine goesL_ (some 22) rfl rfl Try.func72 (by kernel_rfl) rfl #[.int .i64 a0, .int .i64 3, .func (.func 73) #[] #[.pointer (some ⟨w.heap.size, 0, none⟩), .pointer (some ⟨w.heap.size + 1, 0, none⟩)]] rfl zA ?_; (with_reducible refine (impl_allStates.calls (impl_RingStates.tell a1) (fun n W => impl_countStates.Box2 w (.int .i64 a1) (.int .i64 n) 3 3 W) HJ.out 73 _ _ Try.func73 (by kernel_rfl) rfl HL.out k _ _ 0 r _ HX.out H.out).mono ?_); rintro e w2 ⟨rfl, hi⟩; refine ⟨_, rfl, ?_⟩; have X := cell_of_one hi.b1; have HI2 := Aside0.mk hi; clear hi)
 go_ret
 exact ⟨rfl, HI2.out.below⟩

end Go.Proofs.Ytgglagpciojfmaa.PAll
