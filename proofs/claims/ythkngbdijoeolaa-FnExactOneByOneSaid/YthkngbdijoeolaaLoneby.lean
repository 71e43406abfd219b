/- Plain laws on what the functions compute. -/
import Derived.Test.YthkngbdijoeolaaKit
import Derived.Test.YthkngbdijoeolaaLspread2
import Derived.Test.YthkngbdijoeolaaLorder
import Derived.Test.YthkngbdijoeolaaF37
set_option linter.unusedVariables false
set_option linter.unusedSimpArgs false
namespace Go.Proofs.Ythkngbdijoeolaa.Pure
open Go Go.RowKit Go.Proofs.Ythkngbdijoeolaa.PAll Go.Proofs.YthkngbdijoeolaaW.PrintWords Go.Proofs.YthkngbdijoeolaaW.PrintLast Go.Proofs.YthkngbdijoeolaaW.PrintMore Go.Proofs.Ythkngbdijoeolaa.Kit
/-! ### OneByOne, both -/
def passTo (net needs order : List Int) (s : Nat) : Nat → Nat
  | 0 => s
  | m + 1 => if Lights net needs (passTo net needs order s m) (order.getD m 0).toNat then passTo net needs order s m ||| 2 ^ (order.getD m 0).toNat else passTo net needs order s m
def pass (net needs order : List Int) (s : Nat) : Nat := passTo net needs order s order.length
theorem passTo_yes {net needs order : List Int} {s m v : Nat} (hv : order.getD m 0 = (v : Int)) (h : needs.getD v 0 ≤ ((pcn (nb net v &&& passTo net needs order s m) : Nat) : Int)) : passTo net needs order s (m + 1) = passTo net needs order s m ||| 2 ^ v := by
  have e : (order.getD m 0).toNat = v := by rw [hv]; exact Int.toNat_natCast v
  rw [passTo, e, if_pos (show Lights net needs _ v from h)]
theorem passTo_no {net needs order : List Int} {s m v : Nat} (hv : order.getD m 0 = (v : Int)) (h : ¬ needs.getD v 0 ≤ ((pcn (nb net v &&& passTo net needs order s m) : Nat) : Int)) : passTo net needs order s (m + 1) = passTo net needs order s m := by
  have e : (order.getD m 0).toNat = v := by rw [hv]; exact Int.toNat_natCast v
  rw [passTo, e, if_neg (show ¬ Lights net needs _ v from h)]
theorem passTo_sub (net needs order : List Int) (s m : Nat) : Sub s (passTo net needs order s m) := by
  induction m with
  | zero => exact Sub.refl _
  | succ m ih =>
    intro i hi
    rw [passTo]
    by_cases h : Lights net needs (passTo net needs order s m) (order.getD m 0).toNat
    · rw [if_pos h, Nat.testBit_or, ih i hi]; rfl
    · rw [if_neg h]; exact ih i hi
theorem passTo_up (net needs order : List Int) (s : Nat) {m d : Nat} : Sub (passTo net needs order s m) (passTo net needs order s (m + d)) := by
  induction d with
  | zero => exact Sub.refl _
  | succ d ih =>
    intro i hi
    have h1 := ih i hi
    show (passTo net needs order s ((m + d) + 1)).testBit i = true
    rw [passTo]
    by_cases h : Lights net needs (passTo net needs order s (m + d)) (order.getD (m + d) 0).toNat
    · rw [if_pos h, Nat.testBit_or, h1]; rfl
    · rw [if_neg h]; exact h1
theorem passTo_lt {net needs order : List Int} (ho : OrderP net.length order) {s : Nat} (hs : s < 2 ^ net.length) : ∀ m, m ≤ order.length → passTo net needs order s m < 2 ^ net.length := by
  intro m
  induction m with
  | zero => intro _; exact hs
  | succ m ih =>
    intro hm
    rw [passTo]
    obtain ⟨a1, a2, _⟩ := ho.2 m (by omega)
    by_cases h : Lights net needs (passTo net needs order s m) (order.getD m 0).toNat
    · rw [if_pos h]; exact Nat.or_lt_two_pow (ih (by omega)) (Nat.pow_lt_pow_right (by decide) (by omega))
    · rw [if_neg h]; exact ih (by omega)
theorem passTo_in {net needs order : List Int} (ho : OrderP net.length order) {s c : Nat} (h : Sub s c) (hc : Closed net needs c) : ∀ m, m ≤ order.length → Sub (passTo net needs order s m) c := by
  intro m
  induction m with
  | zero => intro _; exact h
  | succ m ih =>
    intro hm i hi
    rw [passTo] at hi
    obtain ⟨a1, a2, _⟩ := ho.2 m (by omega)
    by_cases hl : Lights net needs (passTo net needs order s m) (order.getD m 0).toNat
    · rw [if_pos hl, Nat.testBit_or, Bool.or_eq_true, Nat.testBit_two_pow, decide_eq_true_eq] at hi
      rcases hi with hi | hi
      · exact ih (by omega) i hi
      · subst hi
        exact hc _ (by omega) (hl.mono (ih (by omega)))
    · rw [if_neg hl] at hi; exact ih (by omega) i hi
theorem cnt_or {m s v : Nat} (hv : v < m) (h : s.testBit v = false) : cnt m (s ||| 2 ^ v) = cnt m s + 1 := by
  induction m with
  | zero => omega
  | succ m ih =>
    rw [cnt_succ, cnt_succ, Nat.testBit_or, Nat.testBit_two_pow]
    by_cases e : v = m
    · subst e
      have : cnt v (s ||| 2 ^ v) = cnt v s := by
        refine Nat.le_antisymm (cnt_mono v (fun i hi hb => ?_)) (cnt_mono v (fun i hi hb => by rw [Nat.testBit_or, hb]; rfl))
        rw [Nat.testBit_or, Bool.or_eq_true, Nat.testBit_two_pow, decide_eq_true_eq] at hb
        rcases hb with hb | hb
        · exact hb
        · omega
      rw [this, h]; simp
    · rw [ih (by omega)]
      have : decide (v = m) = false := by simpa using e
      rw [this, Bool.or_false]; omega
/-- Each node stands in the order. -/
theorem order_all {n : Nat} (hn : n ≤ 6) {order : List Int} (ho : OrderP n order) {v : Nat} (hv : v < n) : ∃ j, j < order.length ∧ order.getD j 0 = (v : Int) := by
  have hlen : order.length = n := by have := ho.1; omega
  have pos : ∀ i, i < order.length → 0 ≤ order.getD i 0 := fun i hi => (ho.2 i hi).1
  have H : ∀ m, m ≤ order.length → cnt 6 (ordSet order m) = m := by
    intro m
    induction m with
    | zero => intro _; unfold ordSet; rfl
    | succ m ih =>
      intro hm
      obtain ⟨a1, a2, a3⟩ := ho.2 m (by omega)
      unfold ordSet
      rw [cnt_or (by omega), ih (by omega)]
      cases hb : (ordSet order m).testBit (order.getD m 0).toNat with
      | false => rfl
      | true =>
        obtain ⟨j, h1, h2⟩ := (ordSet_bit (fun i hi => pos i (by omega)) _).1 hb
        exact absurd (by rw [h2]; omega) (a3 j h1)
  refine Classical.byContradiction (fun hx => ?_)
  have h1 := H order.length (Nat.le_refl _)
  have h2 : (ordSet order order.length).testBit v = false := by
    cases hb : (ordSet order order.length).testBit v with
    | false => rfl
    | true => exact absurd ((ordSet_bit pos v).1 hb) hx
  have h3 : cnt 6 (ordSet order order.length) < cnt 6 (2 ^ n - 1) := by
    refine cnt_lt 6 (fun i _ hi => ?_) (by omega) h2 (by rw [full_bit]; simpa using hv)
    obtain ⟨j, h4, h5⟩ := (ordSet_bit pos i).1 hi
    have := (ho.2 j h4).2.1
    rw [full_bit]; simp; omega
  have h4 : cnt 6 (2 ^ n - 1) ≤ n := by
    rw [← cnt_of_lt (n := n) (by have := Nat.two_pow_pos n; omega) hn]; exact cnt_le n _
  omega
theorem pass_closed {net needs order : List Int} (hn : net.length ≤ 6) (ho : OrderP net.length order) {s : Nat} (h : pass net needs order s = s) : Closed net needs s := by
  intro i hi hl
  obtain ⟨j, h1, h2⟩ := order_all hn ho hi
  have a1 := passTo_sub net needs order s j
  have a2 := passTo_up net needs order s (m := j + 1) (d := order.length - (j + 1))
  rw [show j + 1 + (order.length - (j + 1)) = order.length by omega] at a2
  have a3 : (passTo net needs order s (j + 1)).testBit i = true := by
    have e := hl.mono a1
    rw [passTo_yes h2 e, Nat.testBit_or, Nat.testBit_two_pow]; simp
  have := a2 i a3
  rwa [show passTo net needs order s order.length = s from h] at this
theorem pass_more {net needs order : List Int} (ho : OrderP net.length order) (hn : net.length ≤ 6) {s : Nat} (hs : s < 2 ^ net.length) (h : pass net needs order s ≠ s) : cnt 6 s < cnt 6 (pass net needs order s) := by
  have h1 := passTo_sub net needs order s order.length
  have : ∃ j, j < 6 ∧ s.testBit j = false ∧ (pass net needs order s).testBit j = true := by
    refine Classical.byContradiction (fun hx => h ?_)
    refine sub_ext (fun i hi => ?_) h1
    cases hb : s.testBit i with
    | true => rfl
    | false => exact absurd ⟨i, by have := bit_lt (passTo_lt ho hs order.length (Nat.le_refl _)) hi; omega, hb, hi⟩ hx
  obtain ⟨j, h2, h3, h4⟩ := this
  exact cnt_lt 6 (fun i _ hi => h1 i hi) h2 h3 h4
theorem iObo_l1 {net needs order : List Int} (h : NeedsP net needs) (ho : OrderP net.length order) {s : Nat} (hs : s < 2 ^ net.length) {r : Int}
    (hend : Ev (fun k => if ((pass net needs order s : Nat) : Int) = (s : Int) then some ((pass net needs order s : Nat) : Int) else impl_OneByOne.l0 k net needs ((pass net needs order s : Nat) : Int) order) r) :
    Ev (fun k => impl_OneByOne.l0 k net needs (s : Int) order) r := by
  have hn := h.1.hi
  have h64 := pow_le64 hn
  have hlen := ho.1
  refine Ev.step (fun k => by rw [impl_OneByOne.l0]) ?_
  refine ev_for (F := fun k x a => impl_OneByOne.l1 k net needs a order (s : Int) order (order.length : Int) x) (n := order.length) (out := fun _ _ => r) (I := fun i a => a = ((passTo net needs order s i : Nat) : Int)) ?_ ?_ order.length 0 (by omega) _ rfl
  · rintro a rfl
    refine Ev.step (fun k => by rw [impl_OneByOne.l1]) (Ev.neg (by omega) ?_)
    exact hend
  · rintro i a hi rfl ih
    have hl := passTo_lt (needs := needs) ho hs i (by omega)
    obtain ⟨a1, a2, _⟩ := ho.2 i hi
    obtain ⟨v, hv⟩ := Int.eq_ofNat_of_zero_le a1
    have hk := h.2.1
    refine Ev.step (fun k => by rw [impl_OneByOne.l1]) ?_
    rw [rd_nat order, hv, w64s i (by omega)]
    refine Ev.pos (by omega) (Ev.pos (by omega) (Ev.pos (by omega) (Ev.pos (by omega) (Ev.pos (by omega) ?_))))
    refine Ev.bnd0 (ones_and h.1 (by omega) (by omega)) ?_
    rw [rd_nat]
    refine Ev.pos (by omega) (Ev.iteS (fun hc => ?_) (fun hc => ?_))
    · rw [or_bit (by omega) (by omega)]
      exact ih _ (by rw [passTo_yes hv hc])
    · exact ih _ (by rw [passTo_no hv hc])
theorem obo_is {net needs order : List Int} (h : NeedsP net needs) (ho : OrderP net.length order) {F : Nat → Int → Option Int}
    (hF : ∀ s : Nat, s < 2 ^ net.length → ∀ r, Ev (fun k => if ((pass net needs order s : Nat) : Int) = (s : Int) then some ((pass net needs order s : Nat) : Int) else F k ((pass net needs order s : Nat) : Int)) r → Ev (fun k => F k (s : Int)) r) :
    ∀ (f s s0 : Nat), s < 2 ^ net.length → 6 < cnt 6 s + f → Sub s0 s → Sub s (lit net needs s0) → Ev (fun k => F k (s : Int)) ((lit net needs s0 : Nat) : Int) := by
  intro f
  induction f with
  | zero => intro s _ _ hc; have := cnt_le 6 s; omega
  | succ f ih =>
    intro s s0 hs hc h1 h2
    have hn := h.1.hi
    refine hF s hs _ ?_
    by_cases e : pass net needs order s = s
    · refine Ev.pos (by rw [e]) (Ev.val ?_)
      rw [e]
      have hcl := pass_closed hn ho e
      have : s = lit net needs s0 := IsSpr.uniq ⟨h1, hcl, fun c c1 c2 => h2.trans ((lit_is hn s0).least c c1 c2)⟩ (lit_is hn s0)
      rw [← this]
    · have hm := pass_more ho hn hs e
      refine Ev.neg (by omega) (ih _ s0 (passTo_lt ho hs _ (Nat.le_refl _)) (by omega) (h1.trans (passTo_sub _ _ _ _ _)) ?_)
      exact passTo_in ho h2 (lit_is hn s0).closed _ (Nat.le_refl _)
/-- What OneByOne returns. -/
def oboR (net needs : List Int) (set : Int) (order : List Int) : Int :=
  if NeedsP net needs ∧ SetP net set ∧ OrderP net.length order then ((lit net needs set.toNat : Nat) : Int) else -1
theorem iOneByOne (net needs : List Int) (set : Int) (order : List Int) (hn : needs.length ≤ 1048576) (hq : order.length ≤ 1048577) : Ev (fun k => impl_OneByOne.f k net needs set order) (oboR net needs set order) := by
  unfold impl_OneByOne.f
  have out : ¬ (NeedsP net needs ∧ SetP net set ∧ OrderP net.length order) → Ev (fun k => impl_OneByOne.j0 k net needs set order true) (oboR net needs set order) := fun e =>
    Ev.step (fun k => by rw [impl_OneByOne.j0]) (Ev.pos rfl (Ev.val (by unfold oboR; rw [if_neg e])))
  refine Ev.bnd (iNeedsOk net needs hn) (Ev.iteS (fun h => ?_) (fun h => ?_))
  · simp only [decide_eq_true_eq] at h
    refine Ev.bnd (iSetOk net set) (Ev.iteS (fun h2 => ?_) (fun h2 => ?_))
    · simp only [decide_eq_true_eq] at h2
      refine Ev.bnd (iOrder (net.length : Int) order (by omega)) ?_
      by_cases h3 : OrderP net.length order
      · rw [decide_eq_true h3]
        refine Ev.step (fun k => by rw [impl_OneByOne.j0]) (Ev.neg (by decide) ?_)
        unfold oboR; rw [if_pos ⟨h, h2.2, h3⟩]
        obtain ⟨s, rfl, hs⟩ := h2.2.nat
        rw [Int.toNat_natCast]
        exact obo_is h h3 (F := fun k a => impl_OneByOne.l0 k net needs a order) (fun s hs r hr => iObo_l1 h h3 hs hr) 7 s s hs (by omega) (Sub.refl _) (lit_is h.1.hi s).sub
      · rw [decide_eq_false h3]; exact out (fun e => h3 e.2.2)
    · simp only [decide_eq_true_eq] at h2; exact out (fun e => h2 ⟨h.1, e.2.1⟩)
  · simp only [decide_eq_true_eq] at h; exact out (fun e => h e.1)
theorem sObo_l1 {net needs order : List Int} (h : NeedsP net needs) (ho : OrderP net.length order) {s : Nat} (hs : s < 2 ^ net.length) {r : Int}
    (hend : Ev (fun k => if ((pass net needs order s : Nat) : Int) = (s : Int) then some ((pass net needs order s : Nat) : Int) else spec_OneByOne.l0 k net needs order ((pass net needs order s : Nat) : Int) true) r) :
    Ev (fun k => spec_OneByOne.l0 k net needs order (s : Int) true) r := by
  have hn := h.1.hi
  have h64 := pow_le64 hn
  have hlen := ho.1
  refine Ev.step (fun k => by rw [spec_OneByOne.l0]) (Ev.pos rfl ?_)
  refine ev_for (F := fun k x a => spec_OneByOne.l1 k net needs order a (s : Int) x) (n := order.length) (out := fun _ _ => r) (I := fun i a => a = ((passTo net needs order s i : Nat) : Int)) ?_ ?_ order.length 0 (by omega) _ rfl
  · rintro a rfl
    refine Ev.step (fun k => by rw [spec_OneByOne.l1]) (Ev.neg (by omega) ?_)
    by_cases e : ((passTo net needs order s order.length : Nat) : Int) = (s : Int)
    · have hend' : Ev (fun _ => some ((passTo net needs order s order.length : Nat) : Int)) r := Ev.congr (fun k => (if_pos e).symm) hend
      rw [e] at hend' ⊢
      exact Ev.step (fun k => by rw [spec_OneByOne.l0]) (Ev.neg (by simp) hend')
    · have hend' : Ev (fun k => spec_OneByOne.l0 k net needs order ((passTo net needs order s order.length : Nat) : Int) true) r := Ev.congr (fun k => (if_neg e).symm) hend
      rw [bne_iff_ne.2 e]; exact hend'
  · rintro i a hi rfl ih
    have hl := passTo_lt (needs := needs) ho hs i (by omega)
    obtain ⟨a1, a2, _⟩ := ho.2 i hi
    obtain ⟨v, hv⟩ := Int.eq_ofNat_of_zero_le a1
    have hk := h.2.1
    refine Ev.step (fun k => by rw [spec_OneByOne.l1]) ?_
    rw [rd_nat order, hv, w64s i (by omega)]
    refine Ev.pos (by omega) (Ev.pos (by omega) (Ev.pos (by omega) (Ev.pos (by omega) ?_)))
    refine Ev.bnd (size4_and h.1 (by omega) (by omega)) ?_
    rw [rd_nat]
    refine Ev.pos (by omega) (Ev.iteS (fun hc => ?_) (fun hc => ?_))
    · rw [or_bit (by omega) (by omega)]
      exact ih _ (by rw [passTo_yes hv hc])
    · exact ih _ (by rw [passTo_no hv hc])
theorem sOneByOne (net needs : List Int) (set : Int) (order : List Int) (hn : needs.length ≤ 1048576) (hq : order.length ≤ 1048577) : Ev (fun k => spec_OneByOne.f k net needs set order) (oboR net needs set order) := by
  unfold spec_OneByOne.f
  have out : ¬ (NeedsP net needs ∧ SetP net set ∧ OrderP net.length order) → Ev (fun k => spec_OneByOne.j0 k net needs set order true) (oboR net needs set order) := fun e =>
    Ev.step (fun k => by rw [spec_OneByOne.j0]) (Ev.pos rfl (Ev.val (by unfold oboR; rw [if_neg e])))
  refine Ev.bnd (sNeedsOk net needs hn) (Ev.iteS (fun h => ?_) (fun h => ?_))
  · simp only [decide_eq_true_eq] at h
    refine Ev.bnd0 (l1In_eq _ _ _) ?_
    rw [top_eq h.1.hi]
    refine Ev.iteS (fun h2 => ?_) (fun h2 => ?_)
    · simp only [decide_eq_true_eq] at h2
      have hp : SetP net set := ⟨h2.1, by omega⟩
      refine Ev.bnd (sOrder (net.length : Int) (by have := h.1.hi; omega) order (by omega)) ?_
      by_cases h3 : OrderP net.length order
      · rw [decide_eq_true h3]
        refine Ev.step (fun k => by rw [spec_OneByOne.j0]) (Ev.neg (by decide) ?_)
        unfold oboR; rw [if_pos ⟨h, hp, h3⟩]
        obtain ⟨s, rfl, hs⟩ := hp.nat
        rw [Int.toNat_natCast]
        exact obo_is h h3 (F := fun k a => spec_OneByOne.l0 k net needs order a true) (fun s hs r hr => sObo_l1 h h3 hs hr) 7 s s hs (by omega) (Sub.refl _) (lit_is h.1.hi s).sub
      · rw [decide_eq_false h3]; exact out (fun e => h3 e.2.2)
    · simp only [decide_eq_true_eq] at h2
      exact out (fun e => h2 ⟨e.2.1.1, by have := e.2.1.2; omega⟩)
  · simp only [decide_eq_true_eq] at h; exact out (fun e => h e.1)
end Go.Proofs.Ythkngbdijoeolaa.Pure
