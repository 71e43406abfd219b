/- Own text of this session, written by a program of this session (wip/t/own.py) out of what the kit tells of the functions: each Go function as a Lean function, and the walk through its code. -/
import Derived.Test.YtgglagpciojfmaaT
import Derived.Test.YtgglagpciojfmaaF1
import Derived.Test.YtgglagpciojfmaaF7
import Derived.Test.YtgglagpciojfmaaF8
namespace Go.Proofs.Ytgglagpciojfmaa.PAll
open Go.RowKit Go.Proofs.YtgglagpciojfmaaW.PrintWords Go.Proofs.YtgglagpciojfmaaW.PrintLast Go.Proofs.YtgglagpciojfmaaW.PrintMore
attribute [local go_sem] max2_int min2_int max_two min_two max_three min_three max_four min_four   -- for this text's walks alone
set_option linter.unusedVariables false
set_option linter.unusedSimpArgs false

/-! ### slices_Equal_int_int: function 53 -/
def slices_Equal_int_int.l0 : Nat → List Int → List Int → Int → Int → Option (Bool)
 | 0, _, _, _, _ => none
 | k + 1, x0, x1, x12, x13 => if x13 < x12 then (if 0 ≤ x13 then (if x13 < (x0.length : Int) then (if x13 < (x1.length : Int) then (if (rd x0 x13) = (rd x1 x13) then (slices_Equal_int_int.l0 k x0 x1 x12 (wrap64 (x13 + 1))) else (some false)) else (none)) else (none)) else (none)) else (some true)
def slices_Equal_int_int.f (k : Nat) (l0 : List Int) (l1 : List Int) : Option (Bool) := if (l0.length : Int) = (l1.length : Int) then (slices_Equal_int_int.l0 k l0 l1 (l0.length : Int) 0) else (some false)
theorem slices_Equal_int_int.mono_l : ∀ k, (∀ y0 y1 y2 y3, LeO (slices_Equal_int_int.l0 k y0 y1 y2 y3) (slices_Equal_int_int.l0 (k + 1) y0 y1 y2 y3))
 | 0 => fun _ _ _ _ r h => by simp [slices_Equal_int_int.l0] at h
 | k + 1 => by
  have ih0 := slices_Equal_int_int.mono_l k
  ·intro y0 y1 y2 y3
   unfold slices_Equal_int_int.l0
   repeat' first
   | (with_reducible exact ih0 _ _ _ _)
   | (with_reducible exact LeO.refl _)
   | (with_reducible exact LeO.none _)
   | (with_reducible refine LeO.ite ?_ ?_)
   | (with_reducible refine LeO.bind ?_ (fun _ => ?_))
   | exact ih0 _ _ _ _
   | exact LeO.none _
   | refine LeO.ite ?_ ?_
   | refine LeO.bind ?_ (fun _ => ?_)
theorem slices_Equal_int_int.mono : ∀ a0 a1 k, LeO (slices_Equal_int_int.f k a0 a1) (slices_Equal_int_int.f (k + 1) a0 a1) := by
 intro a0 a1 k
 have ih0 := slices_Equal_int_int.mono_l k
 unfold slices_Equal_int_int.f
 repeat' first
   | (with_reducible exact ih0 _ _ _ _)
   | (with_reducible exact LeO.refl _)
   | (with_reducible exact LeO.none _)
   | (with_reducible refine LeO.ite ?_ ?_)
   | (with_reducible refine LeO.bind ?_ (fun _ => ?_))
   | exact ih0 _ _ _ _
   | exact LeO.none _
   | refine LeO.ite ?_ ?_
   | refine LeO.bind ?_ (fun _ => ?_)
set_option maxHeartbeats 8000000 in
set_option maxRecDepth 100000 in
theorem slices_Equal_int_int.calls (k : Nat) (A0 : Option Addr) (c0 : Nat) (l0 : List Int) (A1 : Option Addr) (c1 : Nat) (l1 : List Int) (r : Bool) (w : World) (hr0 : Kd.C (Kd.int .i64) w A0 l0.length l0) (hc0 : l0.length ≤ c0) (hr1 : Kd.C (Kd.int .i64) w A1 l1.length l1) (hc1 : l1.length ≤ c1) (h : slices_Equal_int_int.f k l0 l1 = some r) :
  Calls Try.prog 53 #[.slice A0 l0.length c0, .slice A1 l1.length c1] w fun e w' => e = .returned (.bool r) ∧ Drawn0 w w' := by
 have HR0 := Aside0.mk hr0
 have HC0 := Aside0.mk hc0
 clear hr0 hc0
 have HR1 := Aside0.mk hr1
 have HC1 := Aside0.mk hc1
 clear hr1 hc1
 have H : (if (l0.length : Int) = (l1.length : Int) then (slices_Equal_int_int.l0 k l0 l1 (l0.length : Int) 0) else (some false)) = some r := h
 clear h
 by_cases c3 : (l0.length : Int) = (l1.length : Int)
 ·rw [if_pos c3] at H
  have c3b0 : ((l0.length : Int) == (l1.length : Int)) = true := beq_iff_eq.mpr c3
  have c3b1 : ((l0.length : Int) != (l1.length : Int)) = false := bne_eq_false_iff_eq.mpr c3
  have c3b2 : (l0.length == l1.length) = true := by first | simpa using c3 | (simp at c3 ⊢; omega)
  clear c3
  have H' := Aside0.mk H
  clear H
  go_enter Try.func53, Try.ntmps53
  go_wp2
  repeat (go_quiet (fail); try go_wp2)
  go_loopg [13] k (fun kq v13 w' => ∃ (x13_1 : Int), v13 = .int .i64 x13_1 ∧ Aside0 (slices_Equal_int_int.l0 kq l0 l1 (l0.length : Int) x13_1 = some r) ∧ Aside0 (kq ≤ k) ∧ Drawn0 w w')
  case atStart => exact ⟨(0), (by first | rfl | (simp; done) | (simp [*]; done)), H', ⟨Nat.le_refl _⟩, by repeat (first | exact Drawn0.refl _ | apply Drawn0.step)⟩
  case round =>
   clear H'
   try clear c1
   try clear p2
   try clear c3
   try clear c3b0
   try clear c3b1
   try clear c3b2
   obtain ⟨x13_1, rfl, HA, HK1, ⟨m1, rfl⟩⟩ := hrel
   cases gk with
   | zero => exact absurd HA.out (by simp [slices_Equal_int_int.l0])
   | succ k1 =>
    have H := HA.out
    clear HA
    simp only [slices_Equal_int_int.l0] at H
    by_cases c4 : x13_1 < (l0.length : Int)
    ·rw [if_pos c4] at H
     have c4b0 : decide (x13_1 < (l0.length : Int)) = true := decide_eq_true c4
     clear c4
     by_cases c5 : 0 ≤ x13_1
     ·rw [if_pos c5] at H
      have c5b0 : decide (0 ≤ x13_1) = true := decide_eq_true c5
      clear c5
      by_cases c6 : x13_1 < (l0.length : Int)
      ·rw [if_pos c6] at H
       have c6b0 : decide (x13_1 < (l0.length : Int)) = true := decide_eq_true c6
       clear c6
       by_cases c7 : x13_1 < (l1.length : Int)
       ·rw [if_pos c7] at H
        have c7b0 : decide (x13_1 < (l1.length : Int)) = true := decide_eq_true c7
        clear c7
        by_cases c8 : (rd l0 x13_1) = (rd l1 x13_1)
        ·rw [if_pos c8] at H
         have c8b0 : ((rd l0 x13_1) == (rd l1 x13_1)) = true := beq_iff_eq.mpr c8
         have c8b1 : ((rd l0 x13_1) != (rd l1 x13_1)) = false := bne_eq_false_iff_eq.mpr c8
         clear c8
         have H' := Aside0.mk H
         clear H
         have p772 : 0 ≤ (x13_1 : Int) := zD
         have q772 : x13_1 < (l0.length : Int) := zD
         obtain ⟨ad772, e772, hx772_0⟩ := Kd.at_int HR0.out x13_1 p772 q772
         cases e772
         replace p772 := eq_true p772
         replace q772 := eq_true q772
         have p773 : 0 ≤ (x13_1 : Int) := zD
         have q773 : x13_1 < (l1.length : Int) := zD
         obtain ⟨ad773, e773, hx773_0⟩ := Kd.at_int HR1.out x13_1 p773 q773
         cases e773
         replace p773 := eq_true p773
         replace q773 := eq_true q773
         go_wp2
         repeat (go_quiet (fail); try go_wp2)
         go_roundg k1
         case measure => have := HK1.out; omega
         case rel => exact ⟨(wrap64 (x13_1 + 1)), (by first | rfl | (simp; done) | (simp [*]; done)), H', ⟨by have := HK1.out; omega⟩, by repeat (first | exact Drawn0.refl _ | apply Drawn0.step)⟩
        ·rw [if_neg c8] at H
         have c8b0 : ((rd l0 x13_1) == (rd l1 x13_1)) = false := beq_eq_false_iff_ne.mpr c8
         have c8b1 : ((rd l0 x13_1) != (rd l1 x13_1)) = true := bne_iff_ne.mpr c8
         obtain rfl := Option.some.inj H
         have p772 : 0 ≤ (x13_1 : Int) := zD
         have q772 : x13_1 < (l0.length : Int) := zD
         obtain ⟨ad772, e772, hx772_0⟩ := Kd.at_int HR0.out x13_1 p772 q772
         cases e772
         replace p772 := eq_true p772
         replace q772 := eq_true q772
         have p773 : 0 ≤ (x13_1 : Int) := zD
         have q773 : x13_1 < (l1.length : Int) := zD
         obtain ⟨ad773, e773, hx773_0⟩ := Kd.at_int HR1.out x13_1 p773 q773
         cases e773
         replace p773 := eq_true p773
         replace q773 := eq_true q773
         go_wp2
         repeat (go_quiet (fail); try go_wp2)
         go_ret
         exact ⟨by first | rfl | (simp; done) | (simp [*]; done), by repeat (first | exact Drawn0.refl _ | apply Drawn0.step)⟩
       ·rw [if_neg c7] at H
        exact absurd H (by simp)
      ·rw [if_neg c6] at H
       exact absurd H (by simp)
     ·rw [if_neg c5] at H
      exact absurd H (by simp)
    ·rw [if_neg c4] at H
     have c4b0 : decide (x13_1 < (l0.length : Int)) = false := decide_eq_false c4
     clear c4
     obtain rfl := Option.some.inj H
     go_wp2
     repeat (go_quiet (fail); try go_wp2)
     go_ret
     exact ⟨by first | rfl | (simp; done) | (simp [*]; done), by repeat (first | exact Drawn0.refl _ | apply Drawn0.step)⟩
 ·rw [if_neg c3] at H
  have c3b0 : ((l0.length : Int) == (l1.length : Int)) = false := beq_eq_false_iff_ne.mpr c3
  have c3b1 : ((l0.length : Int) != (l1.length : Int)) = true := bne_iff_ne.mpr c3
  have c3b2 : (l0.length == l1.length) = false := by first | simpa using c3 | (simp at c3 ⊢; omega)
  obtain rfl := Option.some.inj H
  go_enter Try.func53, Try.ntmps53
  go_wp2
  repeat (go_quiet (fail); try go_wp2)
  go_ret
  exact ⟨by first | rfl | (simp; done) | (simp [*]; done), by repeat (first | exact Drawn0.refl _ | apply Drawn0.step)⟩

/-- THE ONE PURE STATEMENT of slices_Equal_int_int: yours. -/
def slices_Equal_int_int.Pure : Prop := ∀ (l0 : List Int) (l1 : List Int), l0.length ≤ maxLen → l0.length * 8 ≤ 140737488351232 → (∀ x ∈ l0, (Lit.int .i64 x).wf = true) → l1.length ≤ maxLen → l1.length * 8 ≤ 140737488351232 → (∀ x ∈ l1, (Lit.int .i64 x).wf = true) → ∃ k, slices_Equal_int_int.f k l0 l1 = some true
theorem slices_Equal_int_int.walk (P : slices_Equal_int_int.Pure) (a0 : Option Addr) (len0 cap0 : Nat) (z0 : List Int) (a1 : Option Addr) (len1 cap1 : Nat) (z1 : List Int) (w : World) (w0 : (a0 = none ∧ len0 = 0 ∧ cap0 = 0 ∧ z0 = []) ∨ ∃ x, a0 = some x ∧ len0 ≤ cap0 ∧ cap0 ≤ maxLen ∧ z0.length = cap0 ∧ (∀ i, i < z0.length → w.cell? (x.add i) = some (.int .i64 (z0.getD i 0))) ∧ ∀ n ∈ z0, (Lit.int .i64 n).wf = true) (y0 : len0 * 8 ≤ 140737488351232) (w1 : (a1 = none ∧ len1 = 0 ∧ cap1 = 0 ∧ z1 = []) ∨ ∃ x, a1 = some x ∧ len1 ≤ cap1 ∧ cap1 ≤ maxLen ∧ z1.length = cap1 ∧ (∀ i, i < z1.length → w.cell? (x.add i) = some (.int .i64 (z1.getD i 0))) ∧ ∀ n ∈ z1, (Lit.int .i64 n).wf = true) (y1 : len1 * 8 ≤ 140737488351232) :
  Calls Try.prog 53 #[.slice a0 len0 cap0, .slice a1 len1 cap1] w fun e w' => e = .returned (.bool true) ∧ Below w.heap.size w w' := by
 obtain ⟨l0, rfl, hr0, hm0, hw0, hc0⟩ := ReadsInt.ofRowC w0
 obtain ⟨l1, rfl, hr1, hm1, hw1, hc1⟩ := ReadsInt.ofRowC w1
 obtain ⟨k, h⟩ := P l0 l1 hm0 y0 hw0 hm1 y1 hw1
 refine (slices_Equal_int_int.calls k _ _ l0 _ _ l1 true w (Kd.C_of_reads (d := (0 : Int)) (h1 := fun _ => rfl) hr0) hc0 (Kd.C_of_reads (d := (0 : Int)) (h1 := fun _ => rfl) hr1) hc1 h).mono ?_
 rintro e w' ⟨rfl, hd⟩
 exact ⟨rfl, hd.below⟩

/-! ### impl_BeforeCount: function 17 -/
def impl_BeforeCount.hold (l0 : List Int) (a1 : Int) (l2 : List Int) (k : Nat) (s : List Int) : Option Bool := (impl_needStep0.f k l0 a1 ([] : List Int) s).bind fun x => slices_Equal_int_int.f k x l2
theorem impl_BeforeCount.hmono (l0 : List Int) (a1 : Int) (l2 : List Int) (t : List Int) (k : Nat) : LeO (impl_BeforeCount.hold l0 a1 l2 k t) (impl_BeforeCount.hold l0 a1 l2 (k + 1) t) := LeO.bind (impl_needStep0.mono l0 a1 [] t k) (fun x => slices_Equal_int_int.mono x l2 k)
def impl_BeforeCount.f (k : Nat) (l0 : List Int) (a1 : Int) (l2 : List Int) : Option (Int) := (impl_asked.f k l0 a1 l2).bind fun t => if t = true then (if (l0.length : Int) > 4 then some (-1) else impl_countStates.g k (impl_BeforeCount.hold l0 a1 l2) l0 a1) else some (-1)
theorem impl_BeforeCount.mono : ∀ a0 a1 a2 k, LeO (impl_BeforeCount.f k a0 a1 a2) (impl_BeforeCount.f (k + 1) a0 a1 a2) := by
 intro a0 a1 a2 k
 unfold impl_BeforeCount.f
 exact LeO.bind (impl_asked.mono a0 a1 a2 k) (fun _ => LeO.ite (LeO.ite (LeO.refl _) (impl_countStates.gmono (impl_BeforeCount.hmono a0 a1 a2) a0 a1 k)) (LeO.refl _))
set_option maxHeartbeats 8000000 in
set_option maxRecDepth 100000 in
theorem impl_BeforeCount.lit (b : Nat) (k : Nat) (A0 : Option Addr) (c0 : Nat) (l0 : List Int) (a1 : Int) (A2 : Option Addr) (c2 : Nat) (l2 : List Int) (t : List Int) (A : Option Addr) (c : Nat) (r : Bool) (W : World) (hb : W.heap[b]? = some (.cells #[.slice A0 l0.length c0] 22 (0, 0))) (hb1 : W.heap[b + 1]? = some (.cells #[.int .i64 a1] 3 (0, 0))) (hb2 : W.heap[b + 2]? = some (.cells #[.slice A2 l2.length c2] 22 (0, 0))) (hr0 : Kd.C (Kd.int .i64) W A0 l0.length l0) (hc0 : l0.length ≤ c0) (hr2 : Kd.C (Kd.int .i64) W A2 l2.length l2) (hc2 : l2.length ≤ c2) (hr : Kd.C (Kd.int .i64) W A t.length t) (hc : t.length ≤ c) (h : impl_BeforeCount.hold l0 a1 l2 k t = some r) :
  Calls Try.prog 52 #[.slice A t.length c, .pointer (some ⟨b, 0, none⟩), .pointer (some ⟨b + 1, 0, none⟩), .pointer (some ⟨b + 2, 0, none⟩)] W fun e w' => e = .returned (.bool r) ∧ Below W.heap.size W w' := by
 obtain ⟨v, h1, h2⟩ := Option.bind_eq_some_iff.1 h
 have X := cell_of_one hb
 have X1 := cell_of_one hb1
 have X2 := cell_of_one hb2
 have HR := Aside0.mk (And.intro hr0 (And.intro hr2 hr))
 have HC := Aside0.mk (And.intro hc0 (And.intro hc2 hc))
 have H1 := Aside0.mk h1
 have H2 := Aside0.mk h2
 clear hb hb1 hb2 hr0 hc0 hr2 hc2 hr hc h h1 h2
 go_enter Try.func52, Try.ntmps52
 go_wp2_with fail
 go_region_held3 (fun w' => w'.cell? ⟨b, 0, none⟩ = some (.slice A0 l0.length c0) ∧ w'.cell? ⟨b + 1, 0, none⟩ = some (.int .i64 a1) ∧ w'.cell? ⟨b + 2, 0, none⟩ = some (.slice A2 l2.length c2) ∧ Aside0 (Below W.heap.size W w'))
  (first | exact ⟨X, X1, X2, ⟨zB (Below.refl W.heap.size W)⟩⟩ | exact ⟨(HB1.out.cell (World.block_lt_of_cell? W _ X)).trans X, (HB1.out.cell (World.block_lt_of_cell? W _ X1)).trans X1, (HB1.out.cell (World.block_lt_of_cell? W _ X2)).trans X2, HB1⟩ | exact ⟨(HB2.out.cell (World.block_lt_of_cell? W _ X)).trans X, (HB2.out.cell (World.block_lt_of_cell? W _ X1)).trans X1, (HB2.out.cell (World.block_lt_of_cell? W _ X2)).trans X2, HB2⟩)
  (first
   | (go_at_call 54; refine (impl_needStep0.calls k A0 c0 l0 a1 A c t v _ (zC HR.out.1) HC.out.1 (Kd.C_nil _ _) (Nat.le_refl _) (zC HR.out.2.2) HC.out.2.2 H1.out).mono ?_; rintro e w4 ⟨v0, rfl, hr4, hb4⟩; obtain ⟨A', c', e1⟩ := Kd.R_slice hr4; subst e1; have HR4 := Aside0.mk hr4; have HB1 := Aside0.mk (below_step (zB (Below.refl W.heap.size W)) hb4); clear hr4 hb4)
   | (go_at_call 53; refine (slices_Equal_int_int.calls k A' c' v A2 c2 l2 r _ (zC (Kd.R_reads' HR4.out).2.2) (Kd.R_reads' HR4.out).2.1 (zC (Kd.C_below HR.out.2.1 HB1.out)) HC.out.2.1 H2.out).mono ?_; rintro e w5 ⟨rfl, ⟨nd, rfl⟩⟩; have HB2 : Aside0 (Below W.heap.size W (w4.drewN nd)) := ⟨zB HB1.out⟩))
 go_wp2
 go_ret
 exact ⟨rfl, HB2.out⟩
set_option maxHeartbeats 8000000 in
set_option maxRecDepth 100000 in
theorem impl_BeforeCount.calls (k : Nat) (A0 : Option Addr) (c0 : Nat) (l0 : List Int) (a1 : Int) (A2 : Option Addr) (c2 : Nat) (l2 : List Int) (r : Int) (w : World) (hr0 : Kd.C (Kd.int .i64) w A0 l0.length l0) (hc0 : l0.length ≤ c0) (hr2 : Kd.C (Kd.int .i64) w A2 l2.length l2) (hc2 : l2.length ≤ c2) (h : impl_BeforeCount.f k l0 a1 l2 = some r) :
  Calls Try.prog 17 #[.slice A0 l0.length c0, .int .i64 a1, .slice A2 l2.length c2] w fun e w' => e = .returned (.int .i64 r) ∧ Below w.heap.size w w' := by
 obtain ⟨t, h1, h2⟩ := Option.bind_eq_some_iff.1 h
 have HX := Aside0.mk (impl_countStates.box3 w (.slice A0 l0.length c0) (.int .i64 a1) (.slice A2 l2.length c2) 22 3 22)
 have HC := Aside0.mk (impl_asked.calls k A0 c0 l0 a1 A2 c2 l2 t (((w.alloc (.cells #[.slice A0 l0.length c0] 22)).alloc (.cells #[.int .i64 a1] 3)).alloc (.cells #[.slice A2 l2.length c2] 22)) (Kd.C_alloc (Kd.C_alloc (Kd.C_alloc hr0 _) _) _) hc0 (Kd.C_alloc (Kd.C_alloc (Kd.C_alloc hr2 _) _) _) hc2 h1)
 have hmf : ∀ (fn : Fn) (first cap : Array Value) (w : World), (Instr.makeFunc fn first cap).run Try.prog w = .ok (.func fn first cap) w := fun _ _ _ _ => rfl
 cases t
 ·rw [if_neg (by decide)] at h2
  obtain rfl := Option.some.inj h2
  clear h h1 h2 hr0 hc0 hr2 hc2
  go_enter Try.func17, Try.ntmps17
  go_wp2_with ((with_reducible refine gate_callee (f := 50) rfl ?_); refine goesL_ (some 10) rfl rfl Try.func50 (by kernel_rfl) rfl #[.slice A0 l0.length c0, .int .i64 a1, .slice A2 l2.length c2] rfl zA ?_; (with_reducible refine HC.out.mono ?_); rintro e w2 ⟨rfl, ⟨nd, rfl⟩⟩; refine ⟨_, rfl, ?_⟩)
  go_ret
  exact ⟨rfl, zB HX.out.below⟩
 ·rw [if_pos rfl] at h2
  by_cases c4 : (l0.length : Int) > 4
  ·rw [if_pos c4] at h2
   have c4b0 : decide (4 < (l0.length : Int)) = true := decide_eq_true c4
   obtain rfl := Option.some.inj h2
   clear h h1 h2 hr0 hc0 hr2 hc2 c4
   go_enter Try.func17, Try.ntmps17
   go_wp2_with ((with_reducible refine gate_callee (f := 50) rfl ?_); refine goesL_ (some 10) rfl rfl Try.func50 (by kernel_rfl) rfl #[.slice A0 l0.length c0, .int .i64 a1, .slice A2 l2.length c2] rfl zA ?_; (with_reducible refine HC.out.mono ?_); rintro e w2 ⟨rfl, ⟨nd, rfl⟩⟩; refine ⟨_, rfl, ?_⟩; have HX2 := Aside0.mk (HX.out.later (pw_below_drewN (Below.refl _ _) nd)); have Y0 := cell_of_one HX2.out.b0)
   go_ret
   exact ⟨rfl, zB HX.out.below⟩
  ·rw [if_neg c4] at h2
   have c4b0 : decide (4 < (l0.length : Int)) = false := decide_eq_false c4
   have H2 := Aside0.mk h2
   have HL : Aside0 (∀ k t b A c W, impl_BeforeCount.hold l0 a1 l2 k t = some b → impl_countStates.Box3 w (.slice A0 l0.length c0) (.int .i64 a1) (.slice A2 l2.length c2) 22 3 22 W → Kd.C (Kd.int .i64) W A t.length t → t.length ≤ c → Calls Try.prog 52 (#[.slice A t.length c] ++ #[.pointer (some ⟨w.heap.size, 0, none⟩), .pointer (some ⟨w.heap.size + 1, 0, none⟩), .pointer (some ⟨w.heap.size + 2, 0, none⟩)]) W fun e w' => e = .returned (.bool b) ∧ Below W.heap.size W w') :=
    ⟨fun k t b A c W h hx hr hc => impl_BeforeCount.lit w.heap.size k A0 c0 l0 a1 A2 c2 l2 t A c b W hx.b0 hx.b1 hx.b2 (Kd.C_below hr0 hx.below) hc0 (Kd.C_below hr2 hx.below) hc2 hr hc h⟩
   clear h h1 h2 hr0 hc0 hr2 hc2 c4
   go_enter Try.func17, Try.ntmps17
   go_wp2_with (first
    | ((with_reducible refine gate_callee (f := 50) rfl ?_); refine goesL_ (some 10) rfl rfl Try.func50 (by kernel_rfl) rfl #[.slice A0 l0.length c0, .int .i64 a1, .slice A2 l2.length c2] rfl zA ?_; (with_reducible refine HC.out.mono ?_); rintro e w2 ⟨rfl, ⟨nd, rfl⟩⟩; refine ⟨_, rfl, ?_⟩; have HX2 := Aside0.mk (HX.out.later (pw_below_drewN (Below.refl _ _) nd)); have Y0 := cell_of_one HX2.out.b0; have Y1 := cell_of_one HX2.out.b1)
    | ((with_reducible refine gate_callee (f := 51) rfl ?_); refine goesL_ (some 20) rfl rfl Try.func51 (by kernel_rfl) rfl #[.slice A0 l0.length c0, .int .i64 a1, .func (.func 52) #[] #[.pointer (some ⟨w.heap.size, 0, none⟩), .pointer (some ⟨w.heap.size + 1, 0, none⟩), .pointer (some ⟨w.heap.size + 2, 0, none⟩)]] rfl zA ?_; (with_reducible refine (impl_countStates.plain _ (w.heap.size + 3) 52 _ _ _ (fun W W' h1 h2 => h1.later h2) Try.func52 (by kernel_rfl) rfl HL.out k A0 c0 l0 a1 r _ ?hsz HX2.out H2.out).mono ?_); (case hsz => simp); rintro e w2 ⟨rfl, hx⟩; refine ⟨_, rfl, ?_⟩; have HX3 := Aside0.mk hx; clear hx))
   go_ret
   exact ⟨rfl, HX3.out.below⟩

end Go.Proofs.Ytgglagpciojfmaa.PAll
