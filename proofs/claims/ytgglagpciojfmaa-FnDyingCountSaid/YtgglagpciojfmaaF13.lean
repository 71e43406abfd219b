/- Own text of this session, written by a program of this session (wip/t/own.py) out of what the kit tells of the functions: each Go function as a Lean function, and the walk through its code. -/
import Derived.Test.YtgglagpciojfmaaT
import Derived.Test.YtgglagpciojfmaaF0
namespace Go.Proofs.Ytgglagpciojfmaa.PAll
open Go.RowKit Go.Proofs.YtgglagpciojfmaaW.PrintWords Go.Proofs.YtgglagpciojfmaaW.PrintLast Go.Proofs.YtgglagpciojfmaaW.PrintMore
attribute [local go_sem] max2_int min2_int max_two min_two max_three min_three max_four min_four   -- for this text's walks alone
set_option linter.unusedVariables false
set_option linter.unusedSimpArgs false

/-! ### impl_NumberOf: function 58 -/
def impl_NumberOf.l0 : Nat → Int → List Int → Int → Int → Option (Int)
 | 0, _, _, _, _ => none
 | k + 1, x0, x1, x5, x6 => if x6 ≥ 0 then (if 0 ≤ x6 then (if x6 < (x1.length : Int) then (impl_NumberOf.l0 k x0 x1 (wrap64 ((wrap64 (x5 * x0)) + (rd x1 x6))) (wrap64 (x6 - 1))) else (none)) else (none)) else (some x5)
def impl_NumberOf.f (k : Nat) (a0 : Int) (l1 : List Int) : Option (Int) := (impl_StateOk.f k a0 l1).bind fun t710 => (if t710 = true then (impl_NumberOf.l0 k a0 l1 0 (wrap64 ((l1.length : Int) - 1))) else (some (-1)))
theorem impl_NumberOf.mono_l : ∀ k, (∀ y0 y1 y2 y3, LeO (impl_NumberOf.l0 k y0 y1 y2 y3) (impl_NumberOf.l0 (k + 1) y0 y1 y2 y3))
 | 0 => fun _ _ _ _ r h => by simp [impl_NumberOf.l0] at h
 | k + 1 => by
  have ih0 := impl_NumberOf.mono_l k
  ·intro y0 y1 y2 y3
   unfold impl_NumberOf.l0
   repeat' first
   | (with_reducible exact ih0 _ _ _ _)
   | (with_reducible exact impl_StateOk.mono _ _ _)
   | (with_reducible exact LeO.refl _)
   | (with_reducible exact LeO.none _)
   | (with_reducible refine LeO.ite ?_ ?_)
   | (with_reducible refine LeO.bind ?_ (fun _ => ?_))
   | exact ih0 _ _ _ _
   | exact impl_StateOk.mono _ _ _
   | exact LeO.none _
   | refine LeO.ite ?_ ?_
   | refine LeO.bind ?_ (fun _ => ?_)
theorem impl_NumberOf.mono : ∀ a0 a1 k, LeO (impl_NumberOf.f k a0 a1) (impl_NumberOf.f (k + 1) a0 a1) := by
 intro a0 a1 k
 have ih0 := impl_NumberOf.mono_l k
 unfold impl_NumberOf.f
 repeat' first
   | (with_reducible exact ih0 _ _ _ _)
   | (with_reducible exact impl_StateOk.mono _ _ _)
   | (with_reducible exact LeO.refl _)
   | (with_reducible exact LeO.none _)
   | (with_reducible refine LeO.ite ?_ ?_)
   | (with_reducible refine LeO.bind ?_ (fun _ => ?_))
   | exact ih0 _ _ _ _
   | exact impl_StateOk.mono _ _ _
   | exact LeO.none _
   | refine LeO.ite ?_ ?_
   | refine LeO.bind ?_ (fun _ => ?_)
set_option maxHeartbeats 8000000 in
set_option maxRecDepth 100000 in
theorem impl_NumberOf.calls (k : Nat) (a0 : Int) (A1 : Option Addr) (c1 : Nat) (l1 : List Int) (r : Int) (w : World) (hr1 : Kd.C (Kd.int .i64) w A1 l1.length l1) (hc1 : l1.length ≤ c1) (h : impl_NumberOf.f k a0 l1 = some r) :
  Calls Try.prog 58 #[.int .i64 a0, .slice A1 l1.length c1] w fun e w' => e = .returned (.int .i64 r) ∧ Drawn0 w w' := by
 have HR1 := Aside0.mk hr1
 have HC1 := Aside0.mk hc1
 clear hr1 hc1
 have H : ((impl_StateOk.f k a0 l1).bind fun t710 => (if t710 = true then (impl_NumberOf.l0 k a0 l1 0 (wrap64 ((l1.length : Int) - 1))) else (some (-1)))) = some r := h
 clear h
 replace H := Option.bind_eq_some_iff.mp H
 obtain ⟨t710, A30, H⟩ := H
 replace H : (if t710 = true then (impl_NumberOf.l0 k a0 l1 0 (wrap64 ((l1.length : Int) - 1))) else (some (-1))) = some r := H
 have A3 := Aside0.mk A30
 clear A30
 by_cases c4 : t710 = true
 ·subst c4
  have H1 : (impl_NumberOf.l0 k a0 l1 0 (wrap64 ((l1.length : Int) - 1))) = some r := by rw [if_pos rfl] at H; exact H
  clear H
  have H := H1
  clear H1
  have H' := Aside0.mk H
  clear H
  go_enter Try.func58, Try.ntmps58
  go_wp2_with (first | ((with_reducible refine gate_callee (f := 82) rfl ?_); refine goesL_ (some 9) rfl rfl Try.func82 (by kernel_rfl) rfl #[.int .i64 a0, .slice A1 l1.length c1] rfl zA ?_; (with_reducible refine (impl_StateOk.calls k a0 _ _ l1 true _ ?side1 ?side2 A3.out).mono ?_); (case side1 => exact zC HR1.out); (case side2 => exact HC1.out); rintro e w' ⟨rfl, ⟨nd, rfl⟩⟩; refine ⟨_, rfl, ?_⟩))
  go_loopg [5, 6] k (fun kq v5 v6 w' => ∃ (x5_1 : Int) (x6_1 : Int), v5 = .int .i64 x5_1 ∧ v6 = .int .i64 x6_1 ∧ Aside0 (impl_NumberOf.l0 kq a0 l1 x5_1 x6_1 = some r) ∧ Aside0 (kq ≤ k) ∧ Drawn0 w w')
  case atStart => exact ⟨(0), (wrap64 ((l1.length : Int) - 1)), (by first | rfl | (simp; done) | (simp [*]; done)), (by first | rfl | (simp; done) | (simp [*]; done)), H', ⟨Nat.le_refl _⟩, by repeat (first | exact Drawn0.refl _ | apply Drawn0.step)⟩
  case round =>
   clear H'
   try clear c1
   try clear p2
   try clear c4
   obtain ⟨x5_1, x6_1, rfl, rfl, HA, HK1, ⟨m1, rfl⟩⟩ := hrel
   cases gk with
   | zero => exact absurd HA.out (by simp [impl_NumberOf.l0])
   | succ k1 =>
    have H := HA.out
    clear HA
    simp only [impl_NumberOf.l0] at H
    by_cases c5 : x6_1 ≥ 0
    ·rw [if_pos c5] at H
     have c5b0 : decide (0 ≤ x6_1) = true := decide_eq_true c5
     clear c5
     by_cases c6 : 0 ≤ x6_1
     ·rw [if_pos c6] at H
      have c6b0 : decide (0 ≤ x6_1) = true := decide_eq_true c6
      clear c6
      by_cases c7 : x6_1 < (l1.length : Int)
      ·rw [if_pos c7] at H
       have c7b0 : decide (x6_1 < (l1.length : Int)) = true := decide_eq_true c7
       clear c7
       have H' := Aside0.mk H
       clear H
       have p711 : 0 ≤ (x6_1 : Int) := zD
       have q711 : x6_1 < (l1.length : Int) := zD
       obtain ⟨ad711, e711, hx711_0⟩ := Kd.at_int HR1.out x6_1 p711 q711
       cases e711
       replace p711 := eq_true p711
       replace q711 := eq_true q711
       go_wp2
       go_roundg k1
       case measure => have := HK1.out; omega
       case rel => exact ⟨(wrap64 ((wrap64 (x5_1 * a0)) + (rd l1 x6_1))), (wrap64 (x6_1 - 1)), (by first | rfl | (simp; done) | (simp [*]; done)), (by first | rfl | (simp; done) | (simp [*]; done)), H', ⟨by have := HK1.out; omega⟩, by repeat (first | exact Drawn0.refl _ | apply Drawn0.step)⟩
      ·rw [if_neg c7] at H
       exact absurd H (by simp)
     ·rw [if_neg c6] at H
      exact absurd H (by simp)
    ·rw [if_neg c5] at H
     have c5b0 : decide (0 ≤ x6_1) = false := decide_eq_false c5
     clear c5
     obtain rfl := Option.some.inj H
     go_wp2
     go_ret
     exact ⟨by first | rfl | (simp; done) | (simp [*]; done), by repeat (first | exact Drawn0.refl _ | apply Drawn0.step)⟩
 ·replace c4 := Bool.eq_false_iff.mpr c4
  subst c4
  have H1 : (some (-1)) = some r := by rw [if_neg (show ¬ (false = true) by decide)] at H; exact H
  clear H
  have H := H1
  clear H1
  obtain rfl := Option.some.inj H
  go_enter Try.func58, Try.ntmps58
  go_wp2_with (first | ((with_reducible refine gate_callee (f := 82) rfl ?_); refine goesL_ (some 9) rfl rfl Try.func82 (by kernel_rfl) rfl #[.int .i64 a0, .slice A1 l1.length c1] rfl zA ?_; (with_reducible refine (impl_StateOk.calls k a0 _ _ l1 false _ ?side1 ?side2 A3.out).mono ?_); (case side1 => exact zC HR1.out); (case side2 => exact HC1.out); rintro e w' ⟨rfl, ⟨nd, rfl⟩⟩; refine ⟨_, rfl, ?_⟩))
  go_ret
  exact ⟨by first | rfl | (simp; done) | (simp [*]; done), by repeat (first | exact Drawn0.refl _ | apply Drawn0.step)⟩

/-! ### impl_maps: function 0 -/
/-- A map of numbers seen (each told once or more), all told alike. -/
def impl_maps.D (u : DataW Unit) (L : List Int) : DataW Unit := Maps.setOf u (L.map (Lit.int .i64))
theorem impl_maps.law : Maps.Keyed Try.prog 3 := Maps.int_keyed Try.underlying3
theorem impl_maps.nil (u : DataW Unit) : impl_maps.D u [] = .map [] := rfl
theorem impl_maps.snoc (u : DataW Unit) (L : List Int) (x : Int) : impl_maps.D u (L ++ [x]) = (impl_maps.D u L).put (.int .i64 x) u := by
 unfold impl_maps.D; rw [List.map_append]; exact Maps.setOf_snoc u _ _
theorem impl_maps.key {u : Lit} {L : List Int} (h : u ∈ L.map (Lit.int .i64)) : WideAt.IsKeyLit u := by
 obtain ⟨_, _, rfl⟩ := List.mem_map.1 h; trivial
theorem impl_maps.any_int (x : Int) : ∀ l : List Int, l.any ((fun y : Lit => y.sameKey (.int .i64 x)) ∘ Lit.int .i64) = l.contains x
 | [] => rfl
 | a :: r => by
  rw [List.any_cons, List.contains_cons, impl_maps.any_int x r]
  congr 1
  show decide (IntKind.i64 = IntKind.i64 ∧ a = x) = (x == a)
  by_cases e : a = x
  ·subst e; simp
  ·have e' : ¬ x = a := fun h => e h.symm
   simp [e, e']
theorem impl_maps.has (u : DataW Unit) (L : List Int) (x : Int) : Maps.has (impl_maps.D u L) (.int .i64 x) = L.contains x := by
 unfold impl_maps.D
 rw [Maps.has_setOf _ _ _ (fun y hy => impl_maps.key hy), List.any_map]
 exact impl_maps.any_int x _
theorem impl_maps.at_fold (u z : DataW Unit) (k : Lit) : ∀ (acc : List Lit) (m : DataW Unit), Maps.IsMap m → (∀ x ∈ acc, WideAt.IsKeyLit x) → (acc.foldl (fun m x => m.put x u) m).atKey k z = if acc.any (fun x => x.sameKey k) = true then u else m.atKey k z
 | [], m, _, _ => by simp
 | x :: r, m, hm, h => by
  rw [List.foldl_cons, impl_maps.at_fold u z k r (m.put x u) (hm.put x u) (fun y hy => h y (by simp [hy])), List.any_cons]
  by_cases e : k = x
  ·subst e
   rw [Maps.atKey_put_same hm (h k (by simp)), WideAt.sameKey_self (h k (by simp))]
   simp
  ·rw [Maps.atKey_put_other e, Maps.sameKey_ne (fun e' => e e'.symm)]
   simp
theorem impl_maps.at_ (u z : DataW Unit) (L : List Int) (x : Int) : (impl_maps.D u L).atKey (.int .i64 x) z = if L.contains x = true then u else z := by
 unfold impl_maps.D Maps.setOf
 rw [impl_maps.at_fold u z _ _ _ Maps.isMap_empty (fun y hy => impl_maps.key hy), List.any_map, impl_maps.any_int]
 rfl
theorem impl_maps.zero4 (w : World) : (zeroValue 4).run Try.prog w = .ok (.bool false) w := by kernel_rfl
theorem impl_maps.hkey {x : Int} (hw : (Lit.int .i64 x).wf = true) : keyOf Try.prog 3 (.int .i64 x) = some (.int .i64 x) := Maps.keyOf_int_mk Try.underlying3 hw
/-- Was the number seen? -/
theorem impl_maps.look {w : World} {b n : Nat} {L : List Int} (h : w.ownsMap Try.prog 3 (plainElem Try.prog 4) b n (impl_maps.D (.lit (.bool true)) L)) {x : Int} (hw : (Lit.int .i64 x).wf = true) : (Instr.lookup 50 (.map (some b)) (.int .i64 x) false).run Try.prog w = .ok (.bool (L.contains x)) w := by
 obtain ⟨v, ps, hrun, hv⟩ := h.lookup impl_maps.law Try.underlying50 (impl_maps.zero4 w) (plainElem_bool Try.underlying4 false) (impl_maps.hkey hw)
 rw [impl_maps.at_] at hv
 have e : v = .bool (L.contains x) := by
  unfold plainElem at hv
  rw [Try.underlying4] at hv
  cases v <;> simp at hv
  obtain ⟨h1, _⟩ := hv
  by_cases hc : x ∈ L
  ·rw [if_pos hc] at h1
   have e1 : L.contains x = true := List.contains_iff_mem.2 hc
   rw [e1]; simpa using h1
  ·rw [if_neg hc] at h1
   have e1 : L.contains x = false := by rw [Bool.eq_false_iff]; intro e; exact hc (List.contains_iff_mem.1 e)
   rw [e1]; simpa using h1
 rw [hrun, e]
theorem impl_maps.wf {x : Int} (h0 : 0 ≤ x) (h1 : x < 1000000) : (Lit.int .i64 x).wf = true := by
 have e : IntKind.i64.min = -9223372036854775808 := by decide
 have h : IntKind.i64.min ≤ x ∧ x ≤ 9223372036854775807 := by omega
 simpa [Lit.wf] using h
/-- A row that is read lies in no map. -/
theorem impl_maps.C_kept {W W1 : World} {b n : Nat} {A : Option Addr} {xs : List Int} (h : Kd.C (Kd.int .i64) W A n xs) {es : Array MapEntry} {clock : Nat} (hb : W.heap[b]? = some (.map es clock)) (hg : W.grownBy W1 (some b)) : Kd.C (Kd.int .i64) W1 A n xs := by
 refine Kd.C_foot_ne (g := b) (fun h => h) h ?_ W1 ⟨hg.size, fun i hi hne _ => hg.block i hi (fun e => hne (by injection e))⟩
 intro ad he hn e
 subst he
 refine Kd.C_not_empty h hn (by decide) ?_
 unfold World.cell?
 rw [e, hb]
theorem impl_maps.rows {wr w3 : World} {nd b n : Nat} {R : Value → Option (DataW Unit × List MemPlace)} {D : DataW Unit} {A : Option Addr} {m : Nat} {xs : List Int} (h : Kd.C (Kd.int .i64) wr A m xs) (hm : wr.ownsMap Try.prog 3 R b n D) (hg : (wr.drewN nd).grownBy w3 (some b)) : Kd.C (Kd.int .i64) w3 A m xs := by
 obtain ⟨es, clock, hb, _⟩ := hm
 exact impl_maps.C_kept (W := wr.drewN nd) (Kd.C_drewN h nd) (es := es) (clock := clock) hb hg
theorem impl_maps.under {w wr w3 : World} {nd b : Nat} (h : Below w.heap.size w wr) (hg : (wr.drewN nd).grownBy w3 (some b)) (hb : w.heap.size ≤ b) : Below w.heap.size w w3 :=
 (zB h : Below w.heap.size w (wr.drewN nd)).grown hg h.size (fun k hk => by cases hk; exact hb)

end Go.Proofs.Ytgglagpciojfmaa.PAll
