/- Plain laws on what the functions compute. -/
import Derived.Test.YthkngbdijoeolaaKit
import Derived.Test.YthkngbdijoeolaaLsets
import Derived.Test.YthkngbdijoeolaaF37
set_option linter.unusedVariables false
set_option linter.unusedSimpArgs false
namespace Go.Proofs.Ythkngbdijoeolaa.Pure
open Go Go.RowKit Go.Proofs.Ythkngbdijoeolaa.PAll Go.Proofs.YthkngbdijoeolaaW.PrintWords Go.Proofs.YthkngbdijoeolaaW.PrintLast Go.Proofs.YthkngbdijoeolaaW.PrintMore Go.Proofs.Ythkngbdijoeolaa.Kit
/-! ### orders -/
/-- The first m of the order are numbers below many, each once. -/
def OrdTo (many : Int) (order : List Int) (m : Nat) : Prop := ∀ i, i < m → 0 ≤ order.getD i 0 ∧ order.getD i 0 < many ∧ ∀ j, j < i → order.getD j 0 ≠ order.getD i 0
def OrdAt (many : Int) (order : List Int) (i : Nat) : Prop := 0 ≤ order.getD i 0 ∧ order.getD i 0 < many ∧ ∀ j, j < i → order.getD j 0 ≠ order.getD i 0
instance (many : Int) (order : List Int) (i : Nat) : Decidable (OrdAt many order i) := by unfold OrdAt; infer_instance
def OrderP (many : Int) (order : List Int) : Prop := (order.length : Int) = many ∧ ∀ i, i < order.length → OrdAt many order i
instance (many : Int) (order : List Int) : Decidable (OrderP many order) := by unfold OrderP; infer_instance
theorem index_ev (l : List Int) (v : Int) (hn : l.length ≤ 9223372036854775806) : ∃ r, Ev (fun k => slices_Index_int_int.f k l v) r ∧ (0 ≤ r ↔ ∃ j, j < l.length ∧ l.getD j 0 = v) := by
  unfold slices_Index_int_int.f
  rcases first_bad (n := l.length) (P := fun j => ¬ v = rd l (j : Int)) with h | ⟨m, h1, h2, h3⟩
  · refine ⟨-1, ?_, ?_⟩
    · refine ev_back (F := fun k x => slices_Index_int_int.l0 k l v (l.length : Int) x) l.length ?_ (fun i hi e => ?_)
      · exact Ev.step (fun k => by rw [slices_Index_int_int.l0]) (Ev.neg (by omega) (Ev.now _))
      · refine Ev.step (fun k => by rw [slices_Index_int_int.l0]) (Ev.pos (by omega) (Ev.pos (by omega) (Ev.pos (by omega) (Ev.neg (h i hi) ?_))))
        rw [w64s i (by omega)]; exact e
    · exact ⟨fun h' => by omega, fun ⟨j, hj, e⟩ => absurd (by rw [rd_nat, e]) (h j hj)⟩
  · refine ⟨(m : Int), ?_, ?_⟩
    · refine ev_back (F := fun k x => slices_Index_int_int.l0 k l v (l.length : Int) x) m ?_ (fun i hi e => ?_)
      · exact Ev.step (fun k => by rw [slices_Index_int_int.l0]) (Ev.pos (by omega) (Ev.pos (by omega) (Ev.pos (by omega) (Ev.pos (Classical.byContradiction h2) (Ev.now _)))))
      · refine Ev.step (fun k => by rw [slices_Index_int_int.l0]) (Ev.pos (by omega) (Ev.pos (by omega) (Ev.pos (by omega) (Ev.neg (h3 i hi) ?_))))
        rw [w64s i (by omega)]; exact e
    · refine ⟨fun _ => ⟨m, h1, ?_⟩, fun _ => by omega⟩
      rw [← rd_nat]; exact (Classical.byContradiction h2 : v = rd l (m : Int)).symm
theorem contains_ev (l : List Int) (v : Int) (hn : l.length ≤ 9223372036854775806) : ∃ b, Ev (fun k => slices_Contains_int_int.f k l v) b ∧ (b = true ↔ ∃ j, j < l.length ∧ l.getD j 0 = v) := by
  obtain ⟨r, h1, h2⟩ := index_ev l v hn
  refine ⟨decide (r ≥ 0), ?_, ?_⟩
  · unfold slices_Contains_int_int.f
    exact Ev.bnd h1 (Ev.now _)
  · rw [decide_eq_true_eq]; exact h2
theorem take_getD (l : List Int) (i j : Nat) (h : j < i) : (l.take i).getD j 0 = l.getD j 0 := by
  simp [List.getD_eq_getElem?_getD, List.getElem?_take, h]
theorem contains_take (order : List Int) (i : Nat) (hi : i < order.length) (hn : order.length ≤ 1048577) : ∃ b, Ev (fun k => slices_Contains_int_int.f k (order.take i) (order.getD i 0)) b ∧ (b = true ↔ ∃ j, j < i ∧ order.getD j 0 = order.getD i 0) := by
  obtain ⟨c, c1, c2⟩ := contains_ev (order.take i) (order.getD i 0) (by simp; omega)
  refine ⟨c, c1, c2.trans ⟨?_, ?_⟩⟩
  · rintro ⟨j, h1, h2⟩
    rw [List.length_take] at h1
    exact ⟨j, by omega, by rw [← h2, take_getD _ _ _ (by omega)]⟩
  · rintro ⟨j, h1, h2⟩
    exact ⟨j, by rw [List.length_take]; omega, by rw [take_getD _ _ _ h1, h2]⟩
theorem ord_scan_end (many : Int) (order : List Int) : (if ∀ j, j < order.length → OrdAt many order j then ((order.length : Int) == many) else false) = decide (OrderP many order) := by
  by_cases h : ∀ j, j < order.length → OrdAt many order j
  · rw [if_pos h, Bool.eq_iff_iff, beq_iff_eq, decide_eq_true_eq]; exact ⟨fun e => ⟨e, h⟩, fun e => e.1⟩
  · rw [if_neg h]; symm; rw [decide_eq_false_iff_not]; exact fun e => h e.2
theorem iOrder (many : Int) (order : List Int) (hn : order.length ≤ 1048577) : Ev (fun k => impl_orderOk.f k many order) (decide (OrderP many order)) := by
  unfold impl_orderOk.f
  rw [← ord_scan_end]
  refine ev_scan (F := fun k x => impl_orderOk.l0 k many order order (order.length : Int) x) (n := order.length) (P := OrdAt many order) (fun _ => ?_) (fun i hi hp b hb => ?_) (fun i hi _ hp => ?_)
  · exact Ev.step (fun k => by rw [impl_orderOk.l0]) (Ev.neg (by omega) (Ev.now _))
  all_goals obtain ⟨c, c1, c3⟩ := contains_take order i (by omega) (by omega)
  · obtain ⟨p1, p2, p3⟩ := hp
    refine Ev.step (fun k => by rw [impl_orderOk.l0]) (Ev.pos (by omega) (Ev.pos (by omega) (Ev.pos (by omega) ?_)))
    rw [rd_nat, w64s i (by omega), Int.toNat_natCast]
    refine Ev.neg (by omega) (Ev.neg (by omega) (Ev.pos (by omega) (Ev.bnd c1 (Ev.neg ?_ hb))))
    rw [c3]; rintro ⟨j, h1, h2⟩; exact p3 j h1 h2
  · refine Ev.step (fun k => by rw [impl_orderOk.l0]) (Ev.pos (by omega) (Ev.pos (by omega) (Ev.pos (by omega) ?_)))
    rw [rd_nat, Int.toNat_natCast]
    refine Ev.iteS (fun _ => Ev.now _) (fun g1 => Ev.iteS (fun _ => Ev.now _) (fun g2 => Ev.pos (by omega) (Ev.bnd c1 (Ev.pos ?_ (Ev.now _)))))
    rw [c3]
    refine Classical.byContradiction (fun hx => hp ⟨by omega, by omega, fun j h1 h2 => hx ⟨j, h1, h2⟩⟩)
/-- The set of the first m numbers of an order. -/
def ordSet (order : List Int) : Nat → Nat
  | 0 => 0
  | m + 1 => ordSet order m ||| 2 ^ (order.getD m 0).toNat
theorem ordSet_bit {order : List Int} {m : Nat} (h : ∀ i, i < m → 0 ≤ order.getD i 0) (i : Nat) : (ordSet order m).testBit i = true ↔ ∃ j, j < m ∧ order.getD j 0 = (i : Int) := by
  induction m with
  | zero => simp [ordSet]
  | succ m ih =>
    unfold ordSet
    rw [Nat.testBit_or, Bool.or_eq_true, ih (fun i hi => h i (by omega)), Nat.testBit_two_pow, decide_eq_true_eq]
    constructor
    · rintro (⟨j, h1, h2⟩ | h1)
      · exact ⟨j, by omega, h2⟩
      · exact ⟨m, by omega, by rw [← h1]; exact (Int.toNat_of_nonneg (h m (by omega))).symm⟩
    · rintro ⟨j, h1, h2⟩
      by_cases e : j = m
      · subst e; right; rw [h2]; exact Int.toNat_natCast i
      · exact .inl ⟨j, by omega, h2⟩
theorem sOrder (many : Int) (hm : many ≤ 60) (order : List Int) (hn : order.length ≤ 1048577) : Ev (fun k => spec_l1Order.f k many order) (decide (OrderP many order)) := by
  unfold spec_l1Order.f
  rw [← ord_scan_end]
  have big : ∀ i, OrdTo many order i → ordSet order i < 2 ^ 60 := fun i ho => lt_of_bits (fun b hb => by
    obtain ⟨j, h1, h2⟩ := (ordSet_bit (fun i hi => (ho i hi).1) b).1 hb
    have := (ho j h1).2.1
    omega)
  have p60 : (2 : Nat) ^ 60 < 2 ^ 63 := by decide
  -- the loop, from a place on back to the first one, as long as all fits
  have back : ∀ n r, n ≤ order.length → OrdTo many order n → Ev (fun k => spec_l1Order.l0 k many order ((ordSet order n : Nat) : Int) (n : Int)) r → Ev (fun k => spec_l1Order.l0 k many order ((ordSet order 0 : Nat) : Int) 0) r := by
    intro n r
    induction n with
    | zero => intro _ _ h; exact h
    | succ n ih =>
      intro hl ho h
      have ho' : OrdTo many order n := fun i hi => ho i (by omega)
      refine ih (by omega) ho' ?_
      obtain ⟨p1, p2, p3⟩ := ho n (by omega)
      obtain ⟨v, hv⟩ := Int.eq_ofNat_of_zero_le p1
      have hb := big n ho'
      have hs := big (n + 1) ho
      refine Ev.step (fun k => by rw [spec_l1Order.l0]) (Ev.pos (by omega) (Ev.pos (by omega) ?_))
      rw [rd_nat, w64s n (by omega), hv, shr_tmod (by omega) v (by omega), shl_one v (by omega), or_nat _ _ (by omega) (Nat.pow_lt_pow_right (by decide) (by omega))]
      refine Ev.neg (by omega) (Ev.neg (by omega) (Ev.pos (by omega) (Ev.neg ?_ ?_)))
      · rw [b01_one]
        intro hx
        obtain ⟨j, h1, h2⟩ := (ordSet_bit (fun i hi => (ho' i hi).1) v).1 hx
        exact p3 j h1 (by rw [h2, hv])
      · have e : ordSet order (n + 1) = ordSet order n ||| 2 ^ v := by
          show ordSet order n ||| 2 ^ (order.getD n 0).toNat = _
          rw [hv, Int.toNat_natCast]
        rw [← e]; exact h
  rcases first_bad (n := order.length) (P := OrdAt many order) with h | ⟨m, h1, h2, h3⟩
  · rw [if_pos h]
    refine back order.length _ (Nat.le_refl _) (fun i hi => h i hi) ?_
    exact Ev.step (fun k => by rw [spec_l1Order.l0]) (Ev.neg (by omega) (Ev.now _))
  · rw [if_neg (fun hx => h2 (hx m h1))]
    refine back m _ (by omega) (fun i hi => h3 i hi) ?_
    refine Ev.step (fun k => by rw [spec_l1Order.l0]) (Ev.pos (by omega) (Ev.pos (by omega) ?_))
    rw [rd_nat]
    refine Ev.iteS (fun _ => Ev.now _) (fun g1 => Ev.iteS (fun _ => Ev.now _) (fun g2 => Ev.pos (by omega) ?_))
    obtain ⟨v, hv⟩ := Int.eq_ofNat_of_zero_le (show 0 ≤ order.getD m 0 by omega)
    have hb := big m (fun i hi => h3 i hi)
    rw [hv, shr_tmod (by omega) v (by omega)]
    refine Ev.pos ?_ (Ev.now _)
    rw [b01_one]
    refine (ordSet_bit (fun i hi => (h3 i hi).1) v).2 ?_
    refine Classical.byContradiction (fun hx => h2 ⟨by omega, by omega, fun j h4 h5 => hx ⟨j, h4, by rw [h5, hv]⟩⟩)
end Go.Proofs.Ythkngbdijoeolaa.Pure
