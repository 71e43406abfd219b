/- Own text of this session, written by a program of this session (wip/t/own.py) out of what the kit tells of the functions: each Go function as a Lean function, and the walk through its code. -/
import Derived.Test.YtgglagpciojfmaaT
import Derived.Test.YtgglagpciojfmaaF1
import Derived.Test.YtgglagpciojfmaaF12
import Derived.Test.YtgglagpciojfmaaF13
import Derived.Test.YtgglagpciojfmaaF21
import Derived.Test.YtgglagpciojfmaaF7
import Derived.Test.YtgglagpciojfmaaF8
namespace Go.Proofs.Ytgglagpciojfmaa.PAll
open Go.RowKit Go.Proofs.YtgglagpciojfmaaW.PrintWords Go.Proofs.YtgglagpciojfmaaW.PrintLast Go.Proofs.YtgglagpciojfmaaW.PrintMore
attribute [local go_sem] max2_int min2_int max_two min_two max_three min_three max_four min_four   -- for this text's walks alone
set_option linter.unusedVariables false
set_option linter.unusedSimpArgs false

/-! ### spec_LoopCount: function 23 -/
def spec_LoopCount.l0 : Nat → List Int → Int → Int → Int → Option (Int)
 | 0, _, _, _, _ => none
 | k + 1, x0, x1, x5, x6 => (spec_l2Power.f k (x0.length : Int) x1).bind fun t326 => (if x6 < t326 then ((spec_l2State.f k (x0.length : Int) x1 x6).bind fun t327 => ((spec_LoopOf.f k x0 x1 t327).bind fun bt330 => (if bt330.1 = 0 then (spec_LoopCount.l0 k x0 x1 (wrap64 (x5 + 1)) (wrap64 (x6 + 1))) else (spec_LoopCount.l0 k x0 x1 x5 (wrap64 (x6 + 1)))))) else (some x5))
def spec_LoopCount.f (k : Nat) (l0 : List Int) (a1 : Int) : Option (Int) := (spec_l11Ok.f k l0 a1).bind fun t325 => (if t325 = true then (spec_LoopCount.l0 k l0 a1 0 0) else (some (-1)))
theorem spec_LoopCount.mono_l : ∀ k, (∀ y0 y1 y2 y3, LeO (spec_LoopCount.l0 k y0 y1 y2 y3) (spec_LoopCount.l0 (k + 1) y0 y1 y2 y3))
 | 0 => fun _ _ _ _ r h => by simp [spec_LoopCount.l0] at h
 | k + 1 => by
  have ih0 := spec_LoopCount.mono_l k
  ·intro y0 y1 y2 y3
   unfold spec_LoopCount.l0
   repeat' first
   | (with_reducible exact ih0 _ _ _ _)
   | (with_reducible exact spec_LoopOf.mono _ _ _ _)
   | (with_reducible exact spec_l11Ok.mono _ _ _)
   | (with_reducible exact spec_l2Power.mono _ _ _)
   | (with_reducible exact spec_l2State.mono _ _ _ _)
   | (with_reducible exact LeO.refl _)
   | (with_reducible exact LeO.none _)
   | (with_reducible refine LeO.ite ?_ ?_)
   | (with_reducible refine LeO.bind ?_ (fun _ => ?_))
   | exact ih0 _ _ _ _
   | exact spec_LoopOf.mono _ _ _ _
   | exact spec_l11Ok.mono _ _ _
   | exact spec_l2Power.mono _ _ _
   | exact spec_l2State.mono _ _ _ _
   | exact LeO.none _
   | refine LeO.ite ?_ ?_
   | refine LeO.bind ?_ (fun _ => ?_)
theorem spec_LoopCount.mono : ∀ a0 a1 k, LeO (spec_LoopCount.f k a0 a1) (spec_LoopCount.f (k + 1) a0 a1) := by
 intro a0 a1 k
 have ih0 := spec_LoopCount.mono_l k
 unfold spec_LoopCount.f
 repeat' first
   | (with_reducible exact ih0 _ _ _ _)
   | (with_reducible exact spec_LoopOf.mono _ _ _ _)
   | (with_reducible exact spec_l11Ok.mono _ _ _)
   | (with_reducible exact spec_l2Power.mono _ _ _)
   | (with_reducible exact spec_l2State.mono _ _ _ _)
   | (with_reducible exact LeO.refl _)
   | (with_reducible exact LeO.none _)
   | (with_reducible refine LeO.ite ?_ ?_)
   | (with_reducible refine LeO.bind ?_ (fun _ => ?_))
   | exact ih0 _ _ _ _
   | exact spec_LoopOf.mono _ _ _ _
   | exact spec_l11Ok.mono _ _ _
   | exact spec_l2Power.mono _ _ _
   | exact spec_l2State.mono _ _ _ _
   | exact LeO.none _
   | refine LeO.ite ?_ ?_
   | refine LeO.bind ?_ (fun _ => ?_)
set_option maxHeartbeats 8000000 in
set_option maxRecDepth 100000 in
theorem spec_LoopCount.calls (k : Nat) (A0 : Option Addr) (c0 : Nat) (l0 : List Int) (a1 : Int) (r : Int) (w : World) (hr0 : Kd.C (Kd.int .i64) w A0 l0.length l0) (hc0 : l0.length ≤ c0) (h : spec_LoopCount.f k l0 a1 = some r) :
  Calls Try.prog 23 #[.slice A0 l0.length c0, .int .i64 a1] w fun e w' => e = .returned (.int .i64 r) ∧ Below w.heap.size w w' := by
 have HR0 := Aside0.mk hr0
 have HC0 := Aside0.mk hc0
 clear hr0 hc0
 have HB := Aside0.mk (Below.refl w.heap.size w)
 have H : ((spec_l11Ok.f k l0 a1).bind fun t325 => (if t325 = true then (spec_LoopCount.l0 k l0 a1 0 0) else (some (-1)))) = some r := h
 clear h
 replace H := Option.bind_eq_some_iff.mp H
 obtain ⟨t325, A30, H⟩ := H
 replace H : (if t325 = true then (spec_LoopCount.l0 k l0 a1 0 0) else (some (-1))) = some r := H
 have A3 := Aside0.mk A30
 clear A30
 by_cases c4 : t325 = true
 ·subst c4
  have H1 : (spec_LoopCount.l0 k l0 a1 0 0) = some r := by rw [if_pos rfl] at H; exact H
  clear H
  have H := H1
  clear H1
  have H' := Aside0.mk H
  clear H
  go_enter Try.func23, Try.ntmps23
  go_wp2_with (first | ((with_reducible refine gate_callee (f := 44) rfl ?_); refine goesL_ (some 11) rfl rfl Try.func44 (by kernel_rfl) rfl #[.slice A0 l0.length c0, .int .i64 a1] rfl zA ?_; (with_reducible refine (spec_l11Ok.calls k _ _ l0 a1 true _ ?side1 ?side2 A3.out).mono ?_); (case side1 => exact zC HR0.out); (case side2 => exact HC0.out); rintro e w' ⟨rfl, ⟨nd, rfl⟩⟩; refine ⟨_, rfl, ?_⟩))
  go_loopg [5, 6] k (fun kq v5 v6 w' => ∃ (x5_1 : Int) (x6_1 : Int), v5 = .int .i64 x5_1 ∧ v6 = .int .i64 x6_1 ∧ Aside0 (spec_LoopCount.l0 kq l0 a1 x5_1 x6_1 = some r) ∧ Aside0 (kq ≤ k) ∧ Aside0 (Below w.heap.size w w'))
  case atStart => exact ⟨(0), (0), (by first | rfl | (simp; done) | (simp [*]; done)), (by first | rfl | (simp; done) | (simp [*]; done)), H', ⟨Nat.le_refl _⟩, ⟨zB HB.out⟩⟩
  case round =>
   clear H'
   try clear c2
   try clear p2
   try clear c4
   obtain ⟨x5_1, x6_1, rfl, rfl, HA, HK1, HB⟩ := hrel
   cases gk with
   | zero => exact absurd HA.out (by simp [spec_LoopCount.l0])
   | succ k1 =>
    have H := HA.out
    clear HA
    simp only [spec_LoopCount.l0] at H
    replace H := Option.bind_eq_some_iff.mp H
    obtain ⟨t326, A50, H⟩ := H
    replace H : (if x6_1 < t326 then ((spec_l2State.f k1 (l0.length : Int) a1 x6_1).bind fun t327 => ((spec_LoopOf.f k1 l0 a1 t327).bind fun bt330 => (if bt330.1 = 0 then (spec_LoopCount.l0 k1 l0 a1 (wrap64 (x5_1 + 1)) (wrap64 (x6_1 + 1))) else (spec_LoopCount.l0 k1 l0 a1 x5_1 (wrap64 (x6_1 + 1)))))) else (some x5_1)) = some r := H
    have A5 := Aside0.mk A50
    clear A50
    by_cases c6 : x6_1 < t326
    ·rw [if_pos c6] at H
     have c6b0 : decide (x6_1 < t326) = true := decide_eq_true c6
     clear c6
     replace H := Option.bind_eq_some_iff.mp H
     obtain ⟨t327, A70, H⟩ := H
     replace H : ((spec_LoopOf.f k1 l0 a1 t327).bind fun bt330 => (if bt330.1 = 0 then (spec_LoopCount.l0 k1 l0 a1 (wrap64 (x5_1 + 1)) (wrap64 (x6_1 + 1))) else (spec_LoopCount.l0 k1 l0 a1 x5_1 (wrap64 (x6_1 + 1))))) = some r := H
     have A7 := Aside0.mk A70
     clear A70
     replace H := Option.bind_eq_some_iff.mp H
     obtain ⟨⟨t330, t331⟩, A80, H⟩ := H
     replace H : (if t330 = 0 then (spec_LoopCount.l0 k1 l0 a1 (wrap64 (x5_1 + 1)) (wrap64 (x6_1 + 1))) else (spec_LoopCount.l0 k1 l0 a1 x5_1 (wrap64 (x6_1 + 1)))) = some r := H
     have A8 := Aside0.mk A80
     clear A80
     by_cases c9 : t330 = 0
     ·rw [if_pos c9] at H
      have c9b0 : (t330 == 0) = true := beq_iff_eq.mpr c9
      have c9b1 : (t330 != 0) = false := bne_eq_false_iff_eq.mpr c9
      clear c9
      have H' := Aside0.mk H
      clear H
      go_wp2_with (first | ((with_reducible refine gate_callee (f := 46) rfl ?_); refine goesL_ (some 17) rfl rfl Try.func46 (by kernel_rfl) rfl #[.int .i64 (l0.length : Int), .int .i64 a1] rfl zA ?_; (with_reducible refine (spec_l2Power.calls k1 (l0.length : Int) a1 t326 _ A5.out).mono ?_); rintro e w' ⟨rfl, ⟨nd, rfl⟩⟩; refine ⟨_, rfl, ?_⟩) | ((with_reducible refine gate_callee (f := 49) rfl ?_); refine goesL_ (some 28) rfl rfl Try.func49 (by kernel_rfl) rfl #[.int .i64 (l0.length : Int), .int .i64 a1, .int .i64 x6_1] rfl zA ?_; (with_reducible refine (spec_l2State.calls k1 (l0.length : Int) a1 x6_1 t327 _ A7.out).mono ?_); rintro e w10 ⟨v328, rfl, ho0, hb⟩; refine ⟨_, rfl, ?_⟩; have n0_ := Aside0.mk (Kd.R_lower ho0 (below_size (zB HB.out))); have n1_ := Aside0.mk (below_step (zB HB.out) hb); clear HB; have HO329 := n0_; have HB := n1_; clear n0_ n1_; (try clear hb); (try clear hb2); (try clear hk); (try clear hi); (try clear ho0); obtain ⟨Ao11, co11, eo11⟩ := Kd.R_slice HO329.out; subst eo11) | ((with_reducible refine gate_callee (f := 62) rfl ?_); refine goesL_ (some 29) rfl rfl Try.func62 (by kernel_rfl) rfl #[.slice A0 l0.length c0, .int .i64 a1, .slice Ao11 t327.length co11] rfl zA ?_; (with_reducible refine (spec_LoopOf.calls k1 _ _ l0 a1 _ _ t327 t330 t331 _ ?side1 ?side2 ?side3 ?side4 A8.out).mono ?_); (case side1 => exact zC (Kd.C_below HR0.out HB.out)); (case side2 => exact HC0.out); (case side3 => exact zC (Kd.R_reads' HO329.out).2.2); (case side4 => exact (Kd.R_reads' HO329.out).2.1); rintro e w12 ⟨rfl, hb⟩; refine ⟨_, rfl, ?_⟩; have n0_ := Aside0.mk (Kd.R_below (zR HO329.out) hb); have n1_ := Aside0.mk (below_step (zB HB.out) hb); clear HO329; clear HB; have HO329 := n0_; have HB := n1_; clear n0_ n1_; (try clear hb); (try clear hb2); (try clear hk); (try clear hi)))
      go_roundg k1
      case measure => have := HK1.out; omega
      case rel => exact ⟨(wrap64 (x5_1 + 1)), (wrap64 (x6_1 + 1)), (by first | rfl | (simp; done) | (simp [*]; done)), (by first | rfl | (simp; done) | (simp [*]; done)), H', ⟨by have := HK1.out; omega⟩, ⟨zB HB.out⟩⟩
     ·rw [if_neg c9] at H
      have c9b0 : (t330 == 0) = false := beq_eq_false_iff_ne.mpr c9
      have c9b1 : (t330 != 0) = true := bne_iff_ne.mpr c9
      have H' := Aside0.mk H
      clear H
      go_wp2_with (first | ((with_reducible refine gate_callee (f := 46) rfl ?_); refine goesL_ (some 17) rfl rfl Try.func46 (by kernel_rfl) rfl #[.int .i64 (l0.length : Int), .int .i64 a1] rfl zA ?_; (with_reducible refine (spec_l2Power.calls k1 (l0.length : Int) a1 t326 _ A5.out).mono ?_); rintro e w' ⟨rfl, ⟨nd, rfl⟩⟩; refine ⟨_, rfl, ?_⟩) | ((with_reducible refine gate_callee (f := 49) rfl ?_); refine goesL_ (some 28) rfl rfl Try.func49 (by kernel_rfl) rfl #[.int .i64 (l0.length : Int), .int .i64 a1, .int .i64 x6_1] rfl zA ?_; (with_reducible refine (spec_l2State.calls k1 (l0.length : Int) a1 x6_1 t327 _ A7.out).mono ?_); rintro e w13 ⟨v328, rfl, ho0, hb⟩; refine ⟨_, rfl, ?_⟩; have n0_ := Aside0.mk (Kd.R_lower ho0 (below_size (zB HB.out))); have n1_ := Aside0.mk (below_step (zB HB.out) hb); clear HB; have HO329 := n0_; have HB := n1_; clear n0_ n1_; (try clear hb); (try clear hb2); (try clear hk); (try clear hi); (try clear ho0); obtain ⟨Ao14, co14, eo14⟩ := Kd.R_slice HO329.out; subst eo14) | ((with_reducible refine gate_callee (f := 62) rfl ?_); refine goesL_ (some 29) rfl rfl Try.func62 (by kernel_rfl) rfl #[.slice A0 l0.length c0, .int .i64 a1, .slice Ao14 t327.length co14] rfl zA ?_; (with_reducible refine (spec_LoopOf.calls k1 _ _ l0 a1 _ _ t327 t330 t331 _ ?side1 ?side2 ?side3 ?side4 A8.out).mono ?_); (case side1 => exact zC (Kd.C_below HR0.out HB.out)); (case side2 => exact HC0.out); (case side3 => exact zC (Kd.R_reads' HO329.out).2.2); (case side4 => exact (Kd.R_reads' HO329.out).2.1); rintro e w15 ⟨rfl, hb⟩; refine ⟨_, rfl, ?_⟩; have n0_ := Aside0.mk (Kd.R_below (zR HO329.out) hb); have n1_ := Aside0.mk (below_step (zB HB.out) hb); clear HO329; clear HB; have HO329 := n0_; have HB := n1_; clear n0_ n1_; (try clear hb); (try clear hb2); (try clear hk); (try clear hi)))
      go_roundg k1
      case measure => have := HK1.out; omega
      case rel => exact ⟨(x5_1), (wrap64 (x6_1 + 1)), (by first | rfl | (simp; done) | (simp [*]; done)), (by first | rfl | (simp; done) | (simp [*]; done)), H', ⟨by have := HK1.out; omega⟩, ⟨zB HB.out⟩⟩
    ·rw [if_neg c6] at H
     have c6b0 : decide (x6_1 < t326) = false := decide_eq_false c6
     clear c6
     obtain rfl := Option.some.inj H
     go_wp2_with (first | ((with_reducible refine gate_callee (f := 46) rfl ?_); refine goesL_ (some 17) rfl rfl Try.func46 (by kernel_rfl) rfl #[.int .i64 (l0.length : Int), .int .i64 a1] rfl zA ?_; (with_reducible refine (spec_l2Power.calls k1 (l0.length : Int) a1 t326 _ A5.out).mono ?_); rintro e w' ⟨rfl, ⟨nd, rfl⟩⟩; refine ⟨_, rfl, ?_⟩))
     go_ret
     exact ⟨by first | rfl | (simp [errW_none, errW_some] <;> rfl) | (simp [*, errW_none, errW_some] <;> rfl), zB HB.out⟩
 ·replace c4 := Bool.eq_false_iff.mpr c4
  subst c4
  have H1 : (some (-1)) = some r := by rw [if_neg (show ¬ (false = true) by decide)] at H; exact H
  clear H
  have H := H1
  clear H1
  obtain rfl := Option.some.inj H
  go_enter Try.func23, Try.ntmps23
  go_wp2_with (first | ((with_reducible refine gate_callee (f := 44) rfl ?_); refine goesL_ (some 11) rfl rfl Try.func44 (by kernel_rfl) rfl #[.slice A0 l0.length c0, .int .i64 a1] rfl zA ?_; (with_reducible refine (spec_l11Ok.calls k _ _ l0 a1 false _ ?side1 ?side2 A3.out).mono ?_); (case side1 => exact zC HR0.out); (case side2 => exact HC0.out); rintro e w' ⟨rfl, ⟨nd, rfl⟩⟩; refine ⟨_, rfl, ?_⟩))
  go_ret
  exact ⟨by first | rfl | (simp [errW_none, errW_some] <;> rfl) | (simp [*, errW_none, errW_some] <;> rfl), zB HB.out⟩

/-! ### impl_LoopOf: function 64 -/
/-- A map of numbers to numbers, as it was filled. -/
def impl_LoopOf.D (P : List (Int × Int)) : DataW Unit := P.foldl (fun m p => m.put (.int .i64 p.1) (.lit (.int .i64 p.2))) (.map [])
def impl_LoopOf.find (P : List (Int × Int)) (x : Int) : Int := P.foldl (fun a p => if p.1 = x then p.2 else a) 0
theorem impl_LoopOf.snoc (P : List (Int × Int)) (x y : Int) : impl_LoopOf.D (P ++ [(x, y)]) = (impl_LoopOf.D P).put (.int .i64 x) (.lit (.int .i64 y)) := by
 unfold impl_LoopOf.D; rw [List.foldl_append]; rfl
theorem impl_LoopOf.isMap (P : List (Int × Int)) : ∀ m : DataW Unit, Maps.IsMap m → Maps.IsMap (P.foldl (fun m p => m.put (.int .i64 p.1) (.lit (.int .i64 p.2))) m) := by
 induction P with
 | nil => exact fun m h => h
 | cons p r ih => exact fun m h => ih _ (h.put _ _)
theorem impl_LoopOf.at_fold (x : Int) : ∀ (P : List (Int × Int)) (m : DataW Unit) (a : Int), Maps.IsMap m → (m.atKey (.int .i64 x) (.lit (.int .i64 0)) = .lit (.int .i64 a)) → (P.foldl (fun m p => m.put (.int .i64 p.1) (.lit (.int .i64 p.2))) m).atKey (.int .i64 x) (.lit (.int .i64 0)) = .lit (.int .i64 (P.foldl (fun a p => if p.1 = x then p.2 else a) a))
 | [], m, a, _, h => h
 | p :: r, m, a, hm, h => by
  rw [List.foldl_cons, List.foldl_cons]
  refine impl_LoopOf.at_fold x r _ _ (hm.put _ _) ?_
  by_cases e : p.1 = x
  ·rw [if_pos e, e]; exact Maps.atKey_put_same (k := .int .i64 x) hm trivial _ _
  ·rw [if_neg e, Maps.atKey_put_other (fun e' => e (by injection e' with _ e2; exact e2.symm))]; exact h
theorem impl_LoopOf.has_fold (x : Int) : ∀ (P : List (Int × Int)) (m : DataW Unit), Maps.IsMap m → Maps.has (P.foldl (fun m p => m.put (.int .i64 p.1) (.lit (.int .i64 p.2))) m) (.int .i64 x) = (Maps.has m (.int .i64 x) || P.any (fun p => p.1 == x))
 | [], m, _ => by simp
 | p :: r, m, hm => by
  rw [List.foldl_cons, impl_LoopOf.has_fold x r _ (hm.put _ _), List.any_cons]
  by_cases e : p.1 = x
  ·rw [e, Maps.has_put_same (k := .int .i64 x) hm trivial]; simp
  ·rw [Maps.has_put_other (fun e' => e (by injection e' with _ e2; exact e2.symm)), beq_eq_false_iff_ne.2 e]; simp
theorem impl_LoopOf.zero3 (w : World) : (zeroValue 3).run Try.prog w = .ok (.int .i64 0) w := by kernel_rfl
theorem impl_LoopOf.look {w : World} {b n : Nat} {P : List (Int × Int)} (h : w.ownsMap Try.prog 3 (plainElem Try.prog 3) b n (impl_LoopOf.D P)) {x : Int} (hw : (Lit.int .i64 x).wf = true) : (Instr.lookup 69 (.map (some b)) (.int .i64 x) true).run Try.prog w = .ok (.tuple #[.int .i64 (impl_LoopOf.find P x), .bool (P.any (fun p => p.1 == x))]) w := by
 obtain ⟨v, ps, hrun, hv⟩ := h.look_ok impl_maps.law Try.underlying69 (impl_LoopOf.zero3 w) (plainElem_int Try.underlying3 (by decide)) (impl_maps.hkey hw)
 have e1 : (impl_LoopOf.D P).atKey (.int .i64 x) (.lit (.int .i64 0)) = .lit (.int .i64 (impl_LoopOf.find P x)) := impl_LoopOf.at_fold x P _ 0 Maps.isMap_empty rfl
 have e2 : Maps.has (impl_LoopOf.D P) (.int .i64 x) = P.any (fun p => p.1 == x) := by
  have := impl_LoopOf.has_fold x P _ Maps.isMap_empty
  unfold impl_LoopOf.D
  rw [this]
  rfl
 rw [e1] at hv
 obtain ⟨a, rfl, ha, _⟩ := plainElem_int_inv Try.underlying3 hv
 have ha2 : impl_LoopOf.find P x = a := by injection ha with h1 _; injection h1 with h1; injection h1
 rw [hrun, e2, ha2]
def impl_LoopOf.l0 : Nat → List Int → Int → List Int → List (Int × Int) → Int → Option (Int × Int)
 | 0, _, _, _, _, _ => none
 | k + 1, x0, x1, x2, P, x9 => (impl_NumberOf.f k x1 x2).bind fun t => if 0 ≤ t ∧ t < 1000000 ∧ P.length < 1000000 ∧ 0 ≤ x9 ∧ x9 < 1000000 then (if (P.any (fun p => p.1 == t)) = true then some (impl_LoopOf.find P t, wrap64 (x9 - impl_LoopOf.find P t)) else (impl_needStep0.f k x0 x1 ([] : List Int) x2).bind fun s => impl_LoopOf.l0 k x0 x1 s (P ++ [(t, x9)]) (wrap64 (x9 + 1))) else none
def impl_LoopOf.f (k : Nat) (l0 : List Int) (a1 : Int) (l2 : List Int) : Option (Int × Int) := (impl_asked.f k l0 a1 l2).bind fun t => if t = true then impl_LoopOf.l0 k l0 a1 l2 [] 0 else some (-1, -1)
theorem impl_LoopOf.mono_l : ∀ k x0 x1 x2 x7 x8, LeO (impl_LoopOf.l0 k x0 x1 x2 x7 x8) (impl_LoopOf.l0 (k + 1) x0 x1 x2 x7 x8)
 | 0 => fun _ _ _ _ _ r h => by simp [impl_LoopOf.l0] at h
 | k + 1 => fun x0 x1 x2 x7 x8 => by
  rw [impl_LoopOf.l0, impl_LoopOf.l0]
  exact LeO.bind (impl_NumberOf.mono x1 x2 k) (fun t => LeO.ite (LeO.ite (LeO.refl _) (LeO.bind (impl_needStep0.mono x0 x1 [] x2 k) (fun s => impl_LoopOf.mono_l k _ _ _ _ _))) (LeO.refl _))
theorem impl_LoopOf.mono : ∀ a0 a1 a2 k, LeO (impl_LoopOf.f k a0 a1 a2) (impl_LoopOf.f (k + 1) a0 a1 a2) := by
 intro a0 a1 a2 k
 unfold impl_LoopOf.f
 exact LeO.bind (impl_asked.mono a0 a1 a2 k) (fun t => LeO.ite (impl_LoopOf.mono_l k _ _ _ _ _) (LeO.refl _))
set_option maxHeartbeats 8000000 in
set_option maxRecDepth 100000 in
theorem impl_LoopOf.lit (b : Nat) (k : Nat) (A0 : Option Addr) (c0 : Nat) (l0 : List Int) (a1 : Int) (t : List Int) (A : Option Addr) (c : Nat) (r : List Int) (W : World) (hb : W.heap[b]? = some (.cells #[.slice A0 l0.length c0] 22 (0, 0))) (hb1 : W.heap[b + 1]? = some (.cells #[.int .i64 a1] 3 (0, 0))) (hr0 : Kd.C (Kd.int .i64) W A0 l0.length l0) (hc0 : l0.length ≤ c0) (hr : Kd.C (Kd.int .i64) W A t.length t) (hc : t.length ≤ c) (h : impl_needStep0.f k l0 a1 ([] : List Int) t = some r) :
  Calls Try.prog 87 (#[.slice A t.length c] ++ #[.pointer (some ⟨b, 0, none⟩), .pointer (some ⟨b + 1, 0, none⟩)]) W fun e w' => ∃ v0_ : Value, e = .returned (v0_) ∧ Kd.R (Kd.int .i64) 3 w' W.heap.size (fun _ => True) v0_ r ∧ Below W.heap.size W w' := by
 have X := cell_of_one hb
 have X1 := cell_of_one hb1
 have HC := Aside0.mk (impl_needStep0.calls k A0 c0 l0 a1 A c t r W hr0 hc0 (Kd.C_nil _ _) (Nat.le_refl _) hr hc h)
 clear hb hb1 hr0 hc0 hr hc h
 refine calls_of_args (args' := #[.slice A t.length c, .pointer (some ⟨b, 0, none⟩), .pointer (some ⟨b + 1, 0, none⟩)]) rfl ?_
 go_enter Try.func87, Try.ntmps87
 go_wp2_with ((with_reducible refine gate_callee (f := 54) rfl ?_); refine goesL_ (some 8) rfl rfl Try.func54 (by kernel_rfl) rfl #[.slice A0 l0.length c0, .int .i64 a1, .slice none 0 0, .slice A t.length c] rfl zA ?_; (with_reducible refine HC.out.mono ?_); rintro e w2 ⟨v0, rfl, hr, hb⟩; refine ⟨_, rfl, ?_⟩; have HB := Aside0.mk (And.intro hr hb); clear hb hr)
 go_ret
 exact ⟨_, rfl, HB.out.1, HB.out.2⟩
set_option maxHeartbeats 8000000 in
set_option maxRecDepth 100000 in
theorem impl_LoopOf.by_ (b : Nat) (k : Nat) (A0 : Option Addr) (c0 : Nat) (l0 : List Int) (a1 : Int) (A2 : Option Addr) (c2 : Nat) (l2 : List Int) (r1 r2 : Int) (w : World) (hb : w.heap[b]? = some (.cells #[.slice A0 l0.length c0] 22 (0, 0))) (hb1 : w.heap[b + 1]? = some (.cells #[.int .i64 a1] 3 (0, 0))) (hr0 : Kd.C (Kd.int .i64) w A0 l0.length l0) (hc0 : l0.length ≤ c0) (hr2 : Kd.C (Kd.int .i64) w A2 l2.length l2) (hc2 : l2.length ≤ c2) (h : impl_LoopOf.l0 k l0 a1 l2 [] 0 = some (r1, r2)) :
  Calls Try.prog 86 #[.int .i64 a1, .slice A2 l2.length c2, .func (.func 87) #[] #[.pointer (some ⟨b, 0, none⟩), .pointer (some ⟨b + 1, 0, none⟩)]] w fun e w' => e = .returned (.tuple #[.int .i64 r1, .int .i64 r2]) ∧ Below w.heap.size w w' := by
 have hmm := @run_makeMap Try.prog
 have H' := Aside0.mk h
 have HR0 := Aside0.mk hr0
 have HR2 := Aside0.mk hr2
 have HC0 := Aside0.mk hc0
 have HC2 := Aside0.mk hc2
 have HX := Aside0.mk (And.intro hb hb1)
 clear h hr0 hc0 hr2 hc2 hb hb1
 go_enter Try.func86, Try.ntmps86
 go_wp2
 go_loopg [1, 9] k (fun kq v1 v9 w' => ∃ (x2 : List Int) (A : Option Addr) (c : Nat) (P : List (Int × Int)) (x9 : Int), v1 = .slice A x2.length c ∧ v9 = .int .i64 x9 ∧ Aside0 (impl_LoopOf.l0 kq l0 a1 x2 P x9 = some (r1, r2)) ∧ Aside0 (Kd.C (Kd.int .i64) w' A x2.length x2) ∧ Aside0 (x2.length ≤ c) ∧ Aside0 (w'.ownsMap Try.prog 3 (plainElem Try.prog 3) w.heap.size P.length (impl_LoopOf.D P)) ∧ Aside0 (Below w.heap.size w w'))
 case atStart => exact ⟨l2, A2, c2, [], 0, rfl, rfl, H', ⟨zC HR2.out⟩, HC2, ⟨World.ownsMap_made w Try.prog 3 (plainElem Try.prog 3)⟩, ⟨zB (Below.refl w.heap.size w)⟩⟩
 case round =>
  clear H' HC2 HR2
  obtain ⟨x2, A, c, P, x9, rfl, rfl, HA, HS, HSc, HM, HB⟩ := hrel
  cases gk with
  | zero => exact absurd HA.out (by simp [impl_LoopOf.l0])
  | succ k1 =>
   have H := HA.out
   clear HA
   simp only [impl_LoopOf.l0] at H
   obtain ⟨t, ht, H⟩ := Option.bind_eq_some_iff.1 H
   have HNum := Aside0.mk (impl_NumberOf.calls k1 a1 A c x2 t wr HS.out HSc.out ht)
   clear ht
   by_cases c2 : 0 ≤ t ∧ t < 1000000 ∧ P.length < 1000000 ∧ 0 ≤ x9 ∧ x9 < 1000000
   ·rw [if_pos c2] at H
    obtain ⟨g0, g1, g2, g3, g4⟩ := c2
    have hwf := impl_maps.wf g0 g1
    have hwf9 := Aside0.mk (impl_maps.wf g3 g4)
    have hlook := fun nd => impl_LoopOf.look (w := wr.drewN nd) (b := w.heap.size) (n := P.length) (P := P) HM.out hwf
    have hkey := impl_maps.hkey hwf
    have G2 := Aside0.mk g2
    clear g0 g1 g2 g3 g4
    by_cases c3 : (P.any (fun p => p.1 == t)) = true
    ·rw [if_pos c3] at H
     rw [c3] at hlook
     simp only [Option.some.injEq, Prod.mk.injEq] at H
     obtain ⟨e1, e2⟩ := H
     obtain ⟨q, hq⟩ : ∃ q, impl_LoopOf.find P t = q := ⟨_, rfl⟩
     rw [hq] at hlook e1 e2
     have E1 := Aside0.mk e1
     have E2 := Aside0.mk e2
     clear c3 hkey hwf e1 e2 hq
     go_wp2_with ((with_reducible refine gate_callee (f := 58) rfl ?_); refine goesL_ (some 18) rfl rfl Try.func58 (by kernel_rfl) rfl #[.int .i64 a1, .slice A x2.length c] rfl zA ?_; (with_reducible refine HNum.out.mono ?_); rintro e w2 ⟨rfl, ⟨nd2, rfl⟩⟩; refine ⟨_, rfl, ?_⟩)
     go_ret2
     exact ⟨by have e1 := E1.out; have e2 := E2.out; subst e1; subst e2; rfl, zB HB.out⟩
    ·rw [if_neg c3] at H
     rw [Bool.eq_false_iff.mpr c3] at hlook
     obtain ⟨q, hq⟩ : ∃ q, impl_LoopOf.find P t = q := ⟨_, rfl⟩
     rw [hq] at hlook
     obtain ⟨s, hs, H⟩ := Option.bind_eq_some_iff.1 H
     have HSt := Aside0.mk hs
     have H' := Aside0.mk H
     have HK := Aside0.mk hkey
     clear H hs hkey hwf c3 hq
     go_wp2_with (first
      | ((with_reducible refine gate_callee (f := 58) rfl ?_); refine goesL_ (some 18) rfl rfl Try.func58 (by kernel_rfl) rfl #[.int .i64 a1, .slice A x2.length c] rfl zA ?_; (with_reducible refine HNum.out.mono ?_); rintro e w2 ⟨rfl, ⟨nd2, rfl⟩⟩; refine ⟨_, rfl, ?_⟩)
      | (at_mapUpdate; refine wpList_mapUpdate_own _ rfl _ _ _ 69 rfl 3 3 impl_maps.law Try.underlying69 (plainElem Try.prog 3) w.heap.size P.length _ rfl HM.out (by have := G2.out; unfold maxLen; omega) _ _ _ rfl rfl HK.out _ [] (plainElem_int Try.underlying3 hwf9.out) ?_; intro w3 hown3 hgrow3; have HO3 := Aside0.mk hown3; have HS3 := Aside0.mk (impl_maps.rows HS.out HM.out hgrow3); have HB3 := Aside0.mk (impl_maps.under HB.out hgrow3 (Nat.le_refl _)); clear hown3 hgrow3)
      | ((with_reducible refine impl_allStates.gateV 33 rfl ?_); refine impl_allStates.goesV rfl (.tmp 33) Try.func87 (by kernel_rfl) rfl #[.slice A x2.length c] rfl rfl zA ?_; (with_reducible refine (impl_LoopOf.lit b k1 A0 c0 l0 a1 x2 A c s w3 ((HB3.out.block _ (lt_of_block HX.out.1)).trans HX.out.1) ((HB3.out.block _ (lt_of_block HX.out.2)).trans HX.out.2) (Kd.C_below HR0.out HB3.out) HC0.out HS3.out HSc.out HSt.out).mono ?_); rintro e w4 ⟨v0, rfl, hr, hb⟩; refine ⟨_, rfl, ?_⟩; obtain ⟨A', c', e1⟩ := Kd.R_slice hr; subst e1; have HR := Aside0.mk hr; have HB4 := Aside0.mk hb; clear hb hr))
     go_roundg k1
     case measure => omega
     case rel => exact ⟨s, A', c', P ++ [(t, x9)], _, rfl, rfl, H', ⟨(Kd.R_reads' HR.out).2.2⟩, ⟨(Kd.R_reads' HR.out).2.1⟩, ⟨by rw [impl_LoopOf.snoc, List.length_append]; exact HO3.out.kept (grown_of_below HB4.out none) (by simp)⟩, ⟨below_step HB3.out HB4.out⟩⟩
   ·rw [if_neg c2] at H
    exact absurd H (by simp)
set_option maxHeartbeats 8000000 in
set_option maxRecDepth 100000 in
theorem impl_LoopOf.calls (k : Nat) (A0 : Option Addr) (c0 : Nat) (l0 : List Int) (a1 : Int) (A2 : Option Addr) (c2 : Nat) (l2 : List Int) (r1 r2 : Int) (w : World) (hr0 : Kd.C (Kd.int .i64) w A0 l0.length l0) (hc0 : l0.length ≤ c0) (hr2 : Kd.C (Kd.int .i64) w A2 l2.length l2) (hc2 : l2.length ≤ c2) (h : impl_LoopOf.f k l0 a1 l2 = some (r1, r2)) :
  Calls Try.prog 64 #[.slice A0 l0.length c0, .int .i64 a1, .slice A2 l2.length c2] w fun e w' => e = .returned (.tuple #[.int .i64 r1, .int .i64 r2]) ∧ Below w.heap.size w w' := by
 obtain ⟨t, h1, h2⟩ := Option.bind_eq_some_iff.1 h
 have HX := Aside0.mk (impl_countStates.box2 w (.slice A0 l0.length c0) (.int .i64 a1) 22 3)
 have HC := Aside0.mk (impl_asked.calls k A0 c0 l0 a1 A2 c2 l2 t ((w.alloc (.cells #[.slice A0 l0.length c0] 22)).alloc (.cells #[.int .i64 a1] 3)) (Kd.C_alloc (Kd.C_alloc hr0 _) _) hc0 (Kd.C_alloc (Kd.C_alloc hr2 _) _) hc2 h1)
 have hmf : ∀ (fn : Fn) (first cap : Array Value) (w : World), (Instr.makeFunc fn first cap).run Try.prog w = .ok (.func fn first cap) w := fun _ _ _ _ => rfl
 cases t
 ·rw [if_neg (by decide)] at h2
  simp only [Option.some.injEq, Prod.mk.injEq] at h2
  obtain ⟨rfl, rfl⟩ := h2
  clear h h1 hr0 hc0 hr2 hc2
  go_enter Try.func64, Try.ntmps64
  go_wp2_with ((with_reducible refine gate_callee (f := 50) rfl ?_); refine goesL_ (some 11) rfl rfl Try.func50 (by kernel_rfl) rfl #[.slice A0 l0.length c0, .int .i64 a1, .slice A2 l2.length c2] rfl zA ?_; (with_reducible refine HC.out.mono ?_); rintro e w2 ⟨rfl, ⟨nd, rfl⟩⟩; refine ⟨_, rfl, ?_⟩)
  go_ret2
  exact ⟨rfl, zB HX.out.below⟩
 ·rw [if_pos rfl] at h2
  have H2 := Aside0.mk h2
  have HR0 := Aside0.mk hr0
  have HR2 := Aside0.mk hr2
  have HC0 := Aside0.mk hc0
  have HC2 := Aside0.mk hc2
  clear h h1 h2 hr0 hc0 hr2 hc2
  go_enter Try.func64, Try.ntmps64
  go_wp2_with (first
   | ((with_reducible refine gate_callee (f := 50) rfl ?_); refine goesL_ (some 11) rfl rfl Try.func50 (by kernel_rfl) rfl #[.slice A0 l0.length c0, .int .i64 a1, .slice A2 l2.length c2] rfl zA ?_; (with_reducible refine HC.out.mono ?_); rintro e w2 ⟨rfl, ⟨nd, rfl⟩⟩; refine ⟨_, rfl, ?_⟩; have HX2 := Aside0.mk (HX.out.later (pw_below_drewN (Below.refl _ _) nd)); have Y0 := cell_of_one HX2.out.b0; have Y1 := cell_of_one HX2.out.b1)
   | ((with_reducible refine gate_callee (f := 86) rfl ?_); refine goesL_ (some 16) rfl rfl Try.func86 (by kernel_rfl) rfl #[.int .i64 a1, .slice A2 l2.length c2, .func (.func 87) #[] #[.pointer (some ⟨w.heap.size, 0, none⟩), .pointer (some ⟨w.heap.size + 1, 0, none⟩)]] rfl zA ?_; (with_reducible refine (impl_LoopOf.by_ w.heap.size k A0 c0 l0 a1 A2 c2 l2 r1 r2 _ HX2.out.b0 HX2.out.b1 (Kd.C_below HR0.out HX2.out.below) HC0.out (Kd.C_below HR2.out HX2.out.below) HC2.out H2.out).mono ?_); rintro e w3 ⟨rfl, hb⟩; refine ⟨_, rfl, ?_⟩; have HB := Aside0.mk (below_step HX2.out.below hb); clear hb))
  go_ret2
  exact ⟨rfl, HB.out⟩

/-! ### impl_LoopCount: function 24 -/
def impl_LoopCount.hold (l0 : List Int) (a1 : Int) (k : Nat) (s : List Int) : Option Bool := (impl_LoopOf.f k l0 a1 s).bind fun x => some (decide (x.1 = 0))
theorem impl_LoopCount.hmono (l0 : List Int) (a1 : Int) (t : List Int) (k : Nat) : LeO (impl_LoopCount.hold l0 a1 k t) (impl_LoopCount.hold l0 a1 (k + 1) t) := LeO.bind (impl_LoopOf.mono l0 a1 t k) (fun _ => LeO.refl _)
def impl_LoopCount.f (k : Nat) (l0 : List Int) (a1 : Int) : Option (Int) := (impl_countable.f k l0 a1).bind fun t => if t = true then impl_countStates.g k (impl_LoopCount.hold l0 a1) l0 a1 else some (-1)
theorem impl_LoopCount.mono : ∀ a0 a1 k, LeO (impl_LoopCount.f k a0 a1) (impl_LoopCount.f (k + 1) a0 a1) := by
 intro a0 a1 k
 unfold impl_LoopCount.f
 exact LeO.bind (impl_countable.mono a0 a1 k) (fun _ => LeO.ite (impl_countStates.gmono (impl_LoopCount.hmono a0 a1) a0 a1 k) (LeO.refl _))
set_option maxHeartbeats 8000000 in
set_option maxRecDepth 100000 in
theorem impl_LoopCount.lit (b : Nat) (k : Nat) (A0 : Option Addr) (c0 : Nat) (l0 : List Int) (a1 : Int) (t : List Int) (A : Option Addr) (c : Nat) (r : Bool) (W : World) (hb : W.heap[b]? = some (.cells #[.slice A0 l0.length c0] 22 (0, 0))) (hb1 : W.heap[b + 1]? = some (.cells #[.int .i64 a1] 3 (0, 0))) (hr0 : Kd.C (Kd.int .i64) W A0 l0.length l0) (hc0 : l0.length ≤ c0) (hr : Kd.C (Kd.int .i64) W A t.length t) (hc : t.length ≤ c) (h : impl_LoopCount.hold l0 a1 k t = some r) :
  Calls Try.prog 63 #[.slice A t.length c, .pointer (some ⟨b, 0, none⟩), .pointer (some ⟨b + 1, 0, none⟩)] W fun e w' => e = .returned (.bool r) ∧ Below W.heap.size W w' := by
 obtain ⟨v, h1, h2⟩ := Option.bind_eq_some_iff.1 h
 obtain rfl := Option.some.inj h2
 have X := cell_of_one hb
 have X1 := cell_of_one hb1
 have HC := Aside0.mk (impl_LoopOf.calls k A0 c0 l0 a1 A c t v.1 v.2 W hr0 hc0 hr hc h1)
 clear hb hb1 hr0 hc0 hr hc h h1 h2
 go_enter Try.func63, Try.ntmps63
 go_wp2_with ((with_reducible refine gate_callee (f := 64) rfl ?_); refine goesL_ (some 11) rfl rfl Try.func64 (by kernel_rfl) rfl #[.slice A0 l0.length c0, .int .i64 a1, .slice A t.length c] rfl zA ?_; (with_reducible refine HC.out.mono ?_); rintro e w2 ⟨rfl, hb⟩; refine ⟨_, rfl, ?_⟩; have HB := Aside0.mk hb; clear hb)
 go_ret
 exact ⟨rfl, HB.out⟩
set_option maxHeartbeats 8000000 in
set_option maxRecDepth 100000 in
theorem impl_LoopCount.calls (k : Nat) (A0 : Option Addr) (c0 : Nat) (l0 : List Int) (a1 : Int) (r : Int) (w : World) (hr0 : Kd.C (Kd.int .i64) w A0 l0.length l0) (hc0 : l0.length ≤ c0) (h : impl_LoopCount.f k l0 a1 = some r) :
  Calls Try.prog 24 #[.slice A0 l0.length c0, .int .i64 a1] w fun e w' => e = .returned (.int .i64 r) ∧ Below w.heap.size w w' := by
 obtain ⟨t, h1, h2⟩ := Option.bind_eq_some_iff.1 h
 have HX := Aside0.mk (impl_countStates.box2 w (.slice A0 l0.length c0) (.int .i64 a1) 22 3)
 have HC := Aside0.mk (impl_countable.calls k A0 c0 l0 a1 t ((w.alloc (.cells #[.slice A0 l0.length c0] 22)).alloc (.cells #[.int .i64 a1] 3)) (Kd.C_alloc (Kd.C_alloc hr0 _) _) hc0 h1)
 have hmf : ∀ (fn : Fn) (first cap : Array Value) (w : World), (Instr.makeFunc fn first cap).run Try.prog w = .ok (.func fn first cap) w := fun _ _ _ _ => rfl
 cases t
 ·rw [if_neg (by decide)] at h2
  obtain rfl := Option.some.inj h2
  clear h h1 h2 hr0 hc0
  go_enter Try.func24, Try.ntmps24
  go_wp2_with ((with_reducible refine gate_callee (f := 56) rfl ?_); refine goesL_ (some 7) rfl rfl Try.func56 (by kernel_rfl) rfl #[.slice A0 l0.length c0, .int .i64 a1] rfl zA ?_; (with_reducible refine HC.out.mono ?_); rintro e w2 ⟨rfl, ⟨nd, rfl⟩⟩; refine ⟨_, rfl, ?_⟩)
  go_ret
  exact ⟨rfl, zB HX.out.below⟩
 ·rw [if_pos rfl] at h2
  have H2 := Aside0.mk h2
  have HL : Aside0 (∀ k t b A c W, impl_LoopCount.hold l0 a1 k t = some b → impl_countStates.Box2 w (.slice A0 l0.length c0) (.int .i64 a1) 22 3 W → Kd.C (Kd.int .i64) W A t.length t → t.length ≤ c → Calls Try.prog 63 (#[.slice A t.length c] ++ #[.pointer (some ⟨w.heap.size, 0, none⟩), .pointer (some ⟨w.heap.size + 1, 0, none⟩)]) W fun e w' => e = .returned (.bool b) ∧ Below W.heap.size W w') :=
   ⟨fun k t b A c W h hx hr hc => impl_LoopCount.lit w.heap.size k A0 c0 l0 a1 t A c b W hx.b0 hx.b1 (Kd.C_below hr0 hx.below) hc0 hr hc h⟩
  clear h h1 h2 hr0 hc0
  go_enter Try.func24, Try.ntmps24
  go_wp2_with (first
   | ((with_reducible refine gate_callee (f := 56) rfl ?_); refine goesL_ (some 7) rfl rfl Try.func56 (by kernel_rfl) rfl #[.slice A0 l0.length c0, .int .i64 a1] rfl zA ?_; (with_reducible refine HC.out.mono ?_); rintro e w2 ⟨rfl, ⟨nd, rfl⟩⟩; refine ⟨_, rfl, ?_⟩; have HX2 := Aside0.mk (HX.out.later (pw_below_drewN (Below.refl _ _) nd)); have Y0 := cell_of_one HX2.out.b0; have Y1 := cell_of_one HX2.out.b1)
   | ((with_reducible refine gate_callee (f := 51) rfl ?_); refine goesL_ (some 12) rfl rfl Try.func51 (by kernel_rfl) rfl #[.slice A0 l0.length c0, .int .i64 a1, .func (.func 63) #[] #[.pointer (some ⟨w.heap.size, 0, none⟩), .pointer (some ⟨w.heap.size + 1, 0, none⟩)]] rfl zA ?_; (with_reducible refine (impl_countStates.plain _ (w.heap.size + 2) 63 _ _ _ (fun W W' h1 h2 => h1.later h2) Try.func63 (by kernel_rfl) rfl HL.out k A0 c0 l0 a1 r _ ?hsz HX2.out H2.out).mono ?_); (case hsz => simp); rintro e w2 ⟨rfl, hx⟩; refine ⟨_, rfl, ?_⟩; have HX3 := Aside0.mk hx; clear hx))
  go_ret
  exact ⟨rfl, HX3.out.below⟩

end Go.Proofs.Ytgglagpciojfmaa.PAll
