/- Own text of this session, written by a program of this session (wip/t/own.py) out of what the kit tells of the functions: each Go function as a Lean function, and the walk through its code. -/
import Derived.Test.YthgboknndmiedaaT
import Derived.Test.YthgboknndmiedaaF14
namespace Go.Proofs.Ythgboknndmiedaa.PAll
open Go.RowKit Go.Proofs.YthgboknndmiedaaW.PrintWords Go.Proofs.YthgboknndmiedaaW.PrintLast Go.Proofs.YthgboknndmiedaaW.PrintMore
attribute [local go_sem] max2_int min2_int max_two min_two max_three min_three max_four min_four   -- for this text's walks alone
set_option linter.unusedVariables false
set_option linter.unusedSimpArgs false

/-! ### laws_FnExactSquareTours: function 8 -/
def laws_FnExactSquareTours.f (k : Nat) (a0 a1 : Int) : Option Bool := (spec_SquareTours.f k a0 a1).bind fun t => (impl_SquareTours.f k a0 a1).bind fun g => (laws_eqIntSS.f k g t).bind fun b => if b = true then ((laws_markIntSS.f k g 1).bind fun m => (laws_heldIntSS.f k m.2 1).bind fun q => if q < 0 then some false else if q = m.1 then ((impl_SquareTours.f k a0 a1).bind fun h => (laws_eqIntSS.f k h t).bind fun b2 => if b2 = true then ((laws_heldIntSS.f k m.2 1).bind fun q2 => if q2 < 0 then some false else if q2 = m.1 then some true else some false) else some false) else some false) else some false
/-- Rows made before, where some are written that were made later. -/
theorem laws_FnExactSquareTours.kept {w w' : World} {base N : Nat} {v : Value} {xs : List (List Int)} (h : Kd.S (Kd.slice 3 (Kd.int .i64)) 32 w base (fun k => True ∧ k < N) v xs) (hk : Kept w w' (fun k => N ≤ k)) : Kd.S (Kd.slice 3 (Kd.int .i64)) 32 w' base (fun k => True ∧ k < N) v xs :=
 Kd.S_step h (fun k ho hlt => hk.2 k hlt (by have := ho.2; omega))
theorem laws_FnExactSquareTours.held {Ag : Option Addr} {cg : Nat} {L g : List (List Int)} (h : L.length = g.length) {f : FuncId} {x : Value} {w : World} {Q : Ending → World → Prop} (hc : Calls Try.prog f #[.slice Ag L.length cg, x] w Q) : Calls Try.prog f #[.slice Ag g.length cg, x] w Q := h ▸ hc
set_option maxHeartbeats 8000000 in
set_option maxRecDepth 100000 in
theorem laws_FnExactSquareTours.calls (k : Nat) (a0 a1 : Int) (w : World) (h : laws_FnExactSquareTours.f k a0 a1 = some true) :
  Calls Try.prog 8 #[.int .i64 a0, .int .i64 a1] w fun e w' => e = .returned (.bool true) ∧ Below w.heap.size w w' := by
 obtain ⟨t, h1, h⟩ := Option.bind_eq_some_iff.1 h
 obtain ⟨g, h2, h⟩ := Option.bind_eq_some_iff.1 h
 obtain ⟨b, h3, h⟩ := Option.bind_eq_some_iff.1 h
 by_cases c1 : ¬ (b = true)
 ·rw [if_neg c1] at h; cases h
 rw [Classical.not_not] at c1
 rw [if_pos c1] at h
 subst c1
 obtain ⟨⟨m, L⟩, h4, h⟩ := Option.bind_eq_some_iff.1 h
 obtain ⟨q, h5, h⟩ := Option.bind_eq_some_iff.1 h
 by_cases c2 : q < 0
 ·rw [if_pos c2] at h; cases h
 rw [if_neg c2] at h
 by_cases c3 : ¬ (q = m)
 ·rw [if_neg c3] at h; cases h
 rw [Classical.not_not] at c3
 rw [if_pos c3] at h
 obtain ⟨g2, h6, h⟩ := Option.bind_eq_some_iff.1 h
 obtain ⟨b2, h7, h⟩ := Option.bind_eq_some_iff.1 h
 by_cases c4 : ¬ (b2 = true)
 ·rw [if_neg c4] at h; cases h
 rw [Classical.not_not] at c4
 rw [if_pos c4] at h
 subst c4
 subst c3
 obtain ⟨q2, h8, h⟩ := Option.bind_eq_some_iff.1 h
 by_cases c5 : q2 < 0
 ·rw [if_pos c5] at h; cases h
 rw [if_neg c5] at h
 by_cases c6 : ¬ (q2 = q)
 ·rw [if_neg c6] at h; cases h
 rw [Classical.not_not] at c6
 subst c6
 have hLl := Aside0.mk (laws_markIntSS.len k g 1 h4)
 have A1 := Aside0.mk h1
 have A2 := Aside0.mk h2
 have A3 := Aside0.mk h3
 have A4 := Aside0.mk h4
 have A5 := Aside0.mk h5
 have A6 := Aside0.mk h6
 have A7 := Aside0.mk h7
 have A8 := Aside0.mk h8
 have c2b : decide (q2 < 0) = false := decide_eq_false c2
 have HB := Aside0.mk (Below.refl w.heap.size w)
 clear h h1 h2 h3 h4 h5 h6 h7 h8 c2 c5
 go_enter Try.func8, Try.ntmps8
 go_wp2_with (first
  | ((with_reducible refine gate_callee (f := 28) rfl ?_); refine goesL_ (some 12) rfl rfl Try.func28 (by kernel_rfl) rfl #[.int .i64 a0, .int .i64 a1] rfl zA ?_; (with_reducible refine (spec_SquareTours.calls k a0 a1 t _ A1.out).mono ?_); rintro e w1 ⟨v1, rfl, ho, hb⟩; refine ⟨_, rfl, ?_⟩; obtain ⟨At, ct, et⟩ := Kd.S_slice ho; subst et; have HT := Aside0.mk ho; clear HB; have HB := Aside0.mk hb; clear ho hb)
  | ((with_reducible refine gate_callee (f := 29) rfl ?_); refine goesL_ (some 15) rfl rfl Try.func29 (by kernel_rfl) rfl #[.int .i64 a0, .int .i64 a1] rfl zA ?_; (with_reducible refine (impl_SquareTours.calls k a0 a1 g _ A2.out).mono ?_); rintro e w2 ⟨v2, rfl, ho, hb⟩; refine ⟨_, rfl, ?_⟩; clear A2; obtain ⟨Ag, cg, eg⟩ := Kd.S_slice ho; subst eg; have HT2 := Aside0.mk (Kd.S_old HT.out hb); have HG2 := Aside0.mk (Kd.S_lower (Kd.S_mono (ok' := fun k_ => w1.heap.size ≤ k_) (Kd.S_bound ho) (fun k_ hk => hk.2.1)) (below_size HB.out)); have n1_ := Aside0.mk (below_step HB.out hb); clear HB; have HB := n1_; clear n1_; clear ho hb HT)
  | ((with_reducible refine gate_callee (f := 30) rfl ?_); refine goesL_ (some 18) rfl rfl Try.func30 (by kernel_rfl) rfl #[.slice Ag g.length cg, .slice At t.length ct] rfl zA ?_; (with_reducible refine (laws_eqIntSS.calls k _ _ g _ _ t true _ ?side1 ?side2 ?side3 ?side4 A3.out).mono ?_); (case side1 => exact zC (Kd.S_reads' HG2.out).2.2); (case side2 => exact (Kd.S_reads' HG2.out).2.1); (case side3 => exact zC (Kd.S_reads' HT2.out).2.2); (case side4 => exact (Kd.S_reads' HT2.out).2.1); rintro e w' ⟨rfl, ⟨nd, rfl⟩⟩; refine ⟨_, rfl, ?_⟩; clear A3)
  | ((with_reducible refine gate_callee (f := 31) rfl ?_); refine goesL_ (some 22) rfl rfl Try.func31 (by kernel_rfl) rfl #[.slice Ag g.length cg, .int .i64 1] rfl zA ?_; (with_reducible refine (laws_markIntSS.calls k (fun k_ => w1.heap.size ≤ k_) _ g 1 q2 L w _ ?side1 ?side2 A4.out).mono ?_); (case side1 => exact zB HB.out); (case side2 => exact (by (with_reducible repeat (first | apply Kd.S_alloc | apply Kd.S_drewN | apply Kd.S_drew)); exact HG2.out)); rintro e w3 ⟨rfl, ho, hb, hk⟩; refine ⟨_, rfl, ?_⟩; have HG3 := Aside0.mk ho; have HT3 := Aside0.mk (laws_FnExactSquareTours.kept (by (with_reducible repeat (first | apply Kd.S_alloc | apply Kd.S_drewN | apply Kd.S_drew)); exact HT2.out) hk); clear HB; have HB := Aside0.mk hb; clear ho hb hk HG2 HT2)
  | ((with_reducible refine gate_callee (f := 32) rfl ?_); refine goesL_ (some 25) rfl rfl Try.func32 (by kernel_rfl) rfl #[.slice Ag g.length cg, .int .i64 1] rfl zA ?_; (with_reducible refine (laws_FnExactSquareTours.held hLl.out (laws_heldIntSS.calls k Ag cg L 1 q2 _ ?side1 ?side2 A5.out)).mono ?_); (case side1 => exact zC (Kd.S_reads' HG3.out).2.2); (case side2 => rw [hLl.out]; exact (Kd.S_reads' HG3.out).2.1); rintro e w' ⟨rfl, ⟨nd2, rfl⟩⟩; refine ⟨_, rfl, ?_⟩; clear A5)
  | ((with_reducible refine gate_callee (f := 29) rfl ?_); refine goesL_ (some 33) rfl rfl Try.func29 (by kernel_rfl) rfl #[.int .i64 a0, .int .i64 a1] rfl zA ?_; (with_reducible refine (impl_SquareTours.calls k a0 a1 g2 _ A6.out).mono ?_); rintro e w5 ⟨v5, rfl, ho, hb⟩; refine ⟨_, rfl, ?_⟩; clear A6; obtain ⟨Ah, ch, eh⟩ := Kd.S_slice ho; subst eh; have HH := Aside0.mk ho; have HT5 := Aside0.mk (Kd.S_below (by (with_reducible repeat (first | apply Kd.S_alloc | apply Kd.S_drewN | apply Kd.S_drew)); exact HT3.out) hb); have HG5 := Aside0.mk (Kd.S_below (by (with_reducible repeat (first | apply Kd.S_alloc | apply Kd.S_drewN | apply Kd.S_drew)); exact HG3.out) hb); have n1_ := Aside0.mk (below_step (zB HB.out) hb); clear HB; have HB := n1_; clear n1_; clear ho hb HT3 HG3)
  | ((with_reducible refine gate_callee (f := 30) rfl ?_); refine goesL_ (some 36) rfl rfl Try.func30 (by kernel_rfl) rfl #[.slice Ah g2.length ch, .slice At t.length ct] rfl zA ?_; (with_reducible refine (laws_eqIntSS.calls k _ _ g2 _ _ t true _ ?side1 ?side2 ?side3 ?side4 A7.out).mono ?_); (case side1 => exact zC (Kd.S_reads' HH.out).2.2); (case side2 => exact (Kd.S_reads' HH.out).2.1); (case side3 => exact zC (Kd.S_reads' HT5.out).2.2); (case side4 => exact (Kd.S_reads' HT5.out).2.1); rintro e w' ⟨rfl, ⟨nd3, rfl⟩⟩; refine ⟨_, rfl, ?_⟩; clear A7)
  | ((with_reducible refine gate_callee (f := 32) rfl ?_); refine goesL_ (some 40) rfl rfl Try.func32 (by kernel_rfl) rfl #[.slice Ag g.length cg, .int .i64 1] rfl zA ?_; (with_reducible refine (laws_FnExactSquareTours.held hLl.out (laws_heldIntSS.calls k Ag cg L 1 q2 _ ?side1 ?side2 A8.out)).mono ?_); (case side1 => exact zC (Kd.S_reads' HG5.out).2.2); (case side2 => rw [hLl.out]; exact (Kd.S_reads' HG5.out).2.1); rintro e w' ⟨rfl, ⟨nd4, rfl⟩⟩; refine ⟨_, rfl, ?_⟩; skip))
 go_ret
 exact ⟨rfl, zB HB.out⟩
/-- THE ONE PURE STATEMENT of laws_FnExactSquareTours. -/
def laws_FnExactSquareTours.Pure : Prop := ∀ (a0 : Int) (a1 : Int), (Lit.int .i64 a0).wf = true → (Lit.int .i64 a1).wf = true → ∃ k, laws_FnExactSquareTours.f k a0 a1 = some true
theorem laws_FnExactSquareTours.walk (P : laws_FnExactSquareTours.Pure) (a0 : Int) (a1 : Int) (w : World) (w0 : (Lit.int .i64 a0).wf = true) (w1 : (Lit.int .i64 a1).wf = true) :
  Calls Try.prog 8 #[.int .i64 a0, .int .i64 a1] w fun e w' => e = .returned (.bool true) ∧ Below w.heap.size w w' := by
 obtain ⟨k, h⟩ := P a0 a1 w0 w1
 exact laws_FnExactSquareTours.calls k a0 a1 w h

end Go.Proofs.Ythgboknndmiedaa.PAll
