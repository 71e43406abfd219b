/- Plain laws on what the functions compute. -/
import Derived.Test.YthkngbdijoeolaaKit
set_option linter.unusedVariables false
set_option linter.unusedSimpArgs false
namespace Go.Proofs.Ythkngbdijoeolaa.Kit
open Go Go.RowKit Go.Proofs.YthkngbdijoeolaaW.PrintWords Go.Proofs.YthkngbdijoeolaaW.PrintLast Go.Proofs.YthkngbdijoeolaaW.PrintMore Go.Proofs.Ythkngbdijoeolaa.Kit
-- plain
/-! ### sets as numbers: how many they have; sets that grow by needs -/
def pcn (s : Nat) : Nat := ((List.range 6).filter (fun i => s.testBit i)).length
/-- How many of the first m bits are set. -/
def cnt (m : Nat) (s : Nat) : Nat := ((List.range m).filter (fun i => s.testBit i)).length
theorem cnt_succ (m s : Nat) : cnt (m + 1) s = cnt m s + (if s.testBit m = true then 1 else 0) := by
  unfold cnt
  rw [List.range_succ, List.filter_append, List.length_append]
  by_cases h : s.testBit m = true <;> simp [h]
theorem cnt_le (m s : Nat) : cnt m s ≤ m := by
  unfold cnt; exact Nat.le_trans (List.length_filter_le _ _) (by simp)
theorem cnt_mono {s t : Nat} (m : Nat) (h : ∀ i, i < m → s.testBit i = true → t.testBit i = true) : cnt m s ≤ cnt m t := by
  induction m with
  | zero => simp [cnt]
  | succ m ih =>
    rw [cnt_succ, cnt_succ]
    have h1 := ih (fun i hi => h i (by omega))
    by_cases h2 : s.testBit m = true
    · rw [if_pos h2, if_pos (h m (by omega) h2)]; omega
    · rw [if_neg h2]; omega
theorem cnt_lt {s t : Nat} (m : Nat) (h : ∀ i, i < m → s.testBit i = true → t.testBit i = true) {j : Nat} (hj : j < m) (h1 : s.testBit j = false) (h2 : t.testBit j = true) : cnt m s < cnt m t := by
  induction m with
  | zero => omega
  | succ m ih =>
    rw [cnt_succ, cnt_succ]
    by_cases e : j = m
    · subst e
      have := cnt_mono (s := s) (t := t) j (fun i hi => h i (by omega))
      rw [h1, h2]; simp; omega
    · have h3 := ih (fun i hi => h i (by omega)) (by omega)
      by_cases h4 : s.testBit m = true
      · rw [if_pos h4, if_pos (h m (by omega) h4)]; omega
      · rw [if_neg h4]; omega
theorem pcn_eq (s : Nat) : pcn s = cnt 6 s := rfl
theorem pcn_le (s : Nat) : pcn s ≤ 6 := cnt_le 6 s
theorem bit_lt {n s i : Nat} (h : s < 2 ^ n) (hb : s.testBit i = true) : i < n := by
  refine Classical.byContradiction (fun hi => ?_)
  have : s < 2 ^ i := Nat.lt_of_lt_of_le h (Nat.pow_le_pow_right (by decide) (by omega))
  rw [Nat.testBit_lt_two_pow this] at hb; cases hb
theorem cnt_of_lt {n s : Nat} (h : s < 2 ^ n) (hn : n ≤ 6) : cnt n s = cnt 6 s := by
  have H : ∀ d m, n + d = m → cnt m s = cnt n s := by
    intro d
    induction d with
    | zero => intro m hm; rw [← hm]; rfl
    | succ d ih =>
      intro m hm
      obtain ⟨m', rfl⟩ : ∃ m', m = m' + 1 := ⟨m - 1, by omega⟩
      rw [cnt_succ, ih m' (by omega)]
      have : s.testBit m' = false := by
        cases hb : s.testBit m' with
        | false => rfl
        | true => have := bit_lt h hb; omega
      rw [this]; simp
  exact (H (6 - n) 6 (by omega)).symm
theorem sub_ext {s t : Nat} (h : ∀ i, s.testBit i = true → t.testBit i = true) (h' : ∀ i, t.testBit i = true → s.testBit i = true) : s = t :=
  Nat.eq_of_testBit_eq (fun i => by
    cases h1 : s.testBit i with
    | true => rw [h i h1]
    | false =>
      cases h2 : t.testBit i with
      | false => rfl
      | true => rw [h' i h2] at h1; cases h1)
/-- s lies in t. -/
def Sub (s t : Nat) : Prop := ∀ i, s.testBit i = true → t.testBit i = true
theorem Sub.refl (s : Nat) : Sub s s := fun _ h => h
theorem Sub.trans {a b c : Nat} (h : Sub a b) (k : Sub b c) : Sub a c := fun i hi => k i (h i hi)
theorem Sub.and {s t : Nat} (h : Sub s t) (a : Nat) : Sub (a &&& s) (a &&& t) := fun i hi => by
  rw [Nat.testBit_and, Bool.and_eq_true] at *
  exact ⟨hi.1, h i hi.2⟩
theorem Sub.pcn {s t : Nat} (h : Sub s t) : pcn s ≤ pcn t := cnt_mono 6 (fun i _ hi => h i hi)
theorem full_bit {n i : Nat} : (2 ^ n - 1).testBit i = decide (i < n) := by rw [Nat.testBit_two_pow_sub_one]
theorem Sub.full {n s : Nat} (h : s < 2 ^ n) : Sub s (2 ^ n - 1) := fun i hi => by rw [full_bit]; simpa using bit_lt h hi
theorem lt_of_bits {n s : Nat} (h : ∀ i, s.testBit i = true → i < n) : s < 2 ^ n := by
  refine Nat.lt_pow_two_of_testBit s (fun i hi => ?_)
  cases hb : s.testBit i with
  | false => rfl
  | true => have := h i hb; omega
theorem pow_le64 {n : Nat} (h : n ≤ 6) : 2 ^ n ≤ 64 := Nat.pow_le_pow_right (n := 2) (by decide) h

/-- The neighbours of a node. -/
def nb (net : List Int) (i : Nat) : Nat := (net.getD i 0).toNat
theorem nb_cast {net : List Int} {i : Nat} (h : RowP net i) : net.getD i 0 = ((nb net i : Nat) : Int) := by unfold nb; exact (Int.toNat_of_nonneg h.1).symm
theorem nb_lt {net : List Int} {i : Nat} (h : RowP net i) : nb net i < 2 ^ net.length := by
  have h1 := h.2
  rw [nb_cast h] at h1
  exact_mod_cast h1
theorem nb_out {net : List Int} {i : Nat} (h : net.length ≤ i) : nb net i = 0 := by
  unfold nb; rw [List.getD_eq_getElem?_getD, List.getElem?_eq_none h]; rfl
theorem tb_nb (net : List Int) (i j : Nat) : tb (net.getD i 0) j = (nb net i).testBit j := rfl
theorem NetP.irr {net : List Int} (h : NetP net) (i : Nat) : (nb net i).testBit i = false := by
  by_cases hi : i < net.length
  · exact (h.sym i hi).1
  · rw [nb_out (by omega)]; simp
theorem NetP.in_ {net : List Int} (h : NetP net) {i j : Nat} (hb : (nb net i).testBit j = true) : i < net.length ∧ j < net.length := by
  by_cases hi : i < net.length
  · exact ⟨hi, bit_lt (nb_lt (h.row i hi)) hb⟩
  · rw [nb_out (by omega)] at hb; simp at hb
theorem NetP.symm {net : List Int} (h : NetP net) {i j : Nat} (hb : (nb net i).testBit j = true) : (nb net j).testBit i = true := by
  obtain ⟨hi, hj⟩ := h.in_ hb
  have := (h.sym i hi).2 j hj
  rw [tb_nb, tb_nb] at this
  rw [← this]; exact hb

/-- Does node i have as many neighbours in s as it needs? -/
def Lights (net needs : List Int) (s i : Nat) : Prop := needs.getD i 0 ≤ ((pcn (nb net i &&& s) : Nat) : Int)
instance (net needs : List Int) (s i : Nat) : Decidable (Lights net needs s i) := by unfold Lights; infer_instance
theorem Lights.mono {net needs : List Int} {s t i : Nat} (h : Sub s t) (hl : Lights net needs s i) : Lights net needs t i := by
  unfold Lights at *
  have := (h.and (nb net i)).pcn
  omega
def growTo (net needs : List Int) (s : Nat) : Nat → Nat
  | 0 => s
  | m + 1 => if Lights net needs s m then growTo net needs s m ||| 2 ^ m else growTo net needs s m
theorem growTo_yes {net needs : List Int} {s m : Nat} (h : needs.getD m 0 ≤ ((pcn (nb net m &&& s) : Nat) : Int)) : growTo net needs s (m + 1) = growTo net needs s m ||| 2 ^ m := by
  rw [growTo, if_pos (show Lights net needs s m from h)]
theorem growTo_no {net needs : List Int} {s m : Nat} (h : ¬ needs.getD m 0 ≤ ((pcn (nb net m &&& s) : Nat) : Int)) : growTo net needs s (m + 1) = growTo net needs s m := by
  rw [growTo, if_neg (show ¬ Lights net needs s m from h)]
def grow (net needs : List Int) (s : Nat) : Nat := growTo net needs s net.length
theorem growTo_bit (net needs : List Int) (s m i : Nat) : (growTo net needs s m).testBit i = true ↔ s.testBit i = true ∨ (i < m ∧ Lights net needs s i) := by
  induction m with
  | zero => simp [growTo]
  | succ m ih =>
    unfold growTo
    by_cases h : Lights net needs s m
    · rw [if_pos h, Nat.testBit_or, Bool.or_eq_true, ih, Nat.testBit_two_pow]
      constructor
      · rintro ((h1 | h1) | h1)
        · exact .inl h1
        · exact .inr ⟨by omega, h1.2⟩
        · simp at h1; subst h1; exact .inr ⟨by omega, h⟩
      · rintro (h1 | ⟨h1, h2⟩)
        · exact .inl (.inl h1)
        · by_cases e : i = m
          · subst e; exact .inr (by simp)
          · exact .inl (.inr ⟨by omega, h2⟩)
    · rw [if_neg h, ih]
      constructor
      · rintro (h1 | h1)
        · exact .inl h1
        · exact .inr ⟨by omega, h1.2⟩
      · rintro (h1 | ⟨h1, h2⟩)
        · exact .inl h1
        · by_cases e : i = m
          · subst e; exact absurd h2 h
          · exact .inr ⟨by omega, h2⟩
theorem growTo_lt {net needs : List Int} {s m : Nat} (hs : s < 2 ^ net.length) (hm : m ≤ net.length) : growTo net needs s m < 2 ^ net.length :=
  lt_of_bits (fun i hi => by
    rcases (growTo_bit net needs s m i).1 hi with h | h
    · exact bit_lt hs h
    · omega)
theorem grow_bit (net needs : List Int) (s i : Nat) : (grow net needs s).testBit i = true ↔ s.testBit i = true ∨ (i < net.length ∧ Lights net needs s i) := growTo_bit net needs s net.length i
theorem grow_lt {net needs : List Int} {s : Nat} (hs : s < 2 ^ net.length) : grow net needs s < 2 ^ net.length := growTo_lt hs (Nat.le_refl _)
theorem grow_sub (net needs : List Int) (s : Nat) : Sub s (grow net needs s) := fun i hi => (grow_bit net needs s i).2 (.inl hi)
theorem grow_mono {net needs : List Int} {s t : Nat} (h : Sub s t) : Sub (grow net needs s) (grow net needs t) := fun i hi => by
  rcases (grow_bit net needs s i).1 hi with h1 | ⟨h1, h2⟩
  · exact (grow_bit net needs t i).2 (.inl (h i h1))
  · exact (grow_bit net needs t i).2 (.inr ⟨h1, h2.mono h⟩)
/-- Closed: nothing more is lit. -/
def Closed (net needs : List Int) (s : Nat) : Prop := ∀ i, i < net.length → Lights net needs s i → s.testBit i = true
theorem grow_fix {net needs : List Int} {s : Nat} : grow net needs s = s ↔ Closed net needs s := by
  constructor
  · intro h i hi hl
    have := (grow_bit net needs s i).2 (.inr ⟨hi, hl⟩)
    rwa [h] at this
  · intro h
    exact sub_ext (fun i hi => ((grow_bit net needs s i).1 hi).elim id (fun hh => h i hh.1 hh.2)) (grow_sub net needs s)
theorem grow_more {net needs : List Int} {s : Nat} (hn : net.length ≤ 6) (h : grow net needs s ≠ s) : pcn s < pcn (grow net needs s) := by
  have : ∃ j, j < net.length ∧ s.testBit j = false ∧ (grow net needs s).testBit j = true := by
    refine Classical.byContradiction (fun hx => h ?_)
    rw [grow_fix]
    intro i hi hl
    cases hb : s.testBit i with
    | true => rfl
    | false => exact absurd ⟨i, hi, hb, (grow_bit net needs s i).2 (.inr ⟨hi, hl⟩)⟩ hx
  obtain ⟨j, hj, h1, h2⟩ := this
  exact cnt_lt 6 (fun i _ hi => grow_sub net needs s i hi) (by omega) h1 h2
/-- What is lit in the end, and after how many steps. -/
def spr (net needs : List Int) : Nat → Nat → Nat → Nat × Nat
  | 0, s, t => (s, t)
  | f + 1, s, t => if grow net needs s = s then (s, t) else spr net needs f (grow net needs s) (t + 1)
/-- The least closed set above s. -/
structure IsSpr (net needs : List Int) (s r : Nat) : Prop where
  sub : Sub s r
  closed : Closed net needs r
  least : ∀ c, Sub s c → Closed net needs c → Sub r c
theorem IsSpr.uniq {net needs : List Int} {s r r' : Nat} (h : IsSpr net needs s r) (h' : IsSpr net needs s r') : r = r' :=
  sub_ext (h.least r' h'.sub h'.closed) (h'.least r h.sub h.closed)
theorem spr_is {net needs : List Int} (hn : net.length ≤ 6) : ∀ (f s t : Nat), net.length ≤ 6 → 6 < cnt 6 s + f → IsSpr net needs s (spr net needs f s t).1 := by
  intro f
  induction f with
  | zero => intro s t _ h; have := cnt_le 6 s; omega
  | succ f ih =>
    intro s t _ h
    unfold spr
    by_cases e : grow net needs s = s
    · rw [if_pos e]
      exact ⟨Sub.refl _, grow_fix.1 e, fun c h1 _ => h1⟩
    · rw [if_neg e]
      have hm := grow_more hn e
      rw [pcn_eq, pcn_eq] at hm
      have := ih (grow net needs s) (t + 1) hn (by omega)
      refine ⟨(grow_sub net needs s).trans this.sub, this.closed, fun c h1 h2 => this.least c (fun i hi => ?_) h2⟩
      have := grow_mono h1 i hi
      rwa [grow_fix.2 h2] at this
theorem spr_steps {net needs : List Int} (hn : net.length ≤ 6) : ∀ (f s t : Nat), s < 2 ^ net.length → 6 < cnt 6 s + f → (spr net needs f s t).2 + cnt 6 s ≤ t + net.length := by
  intro f
  induction f with
  | zero => intro s t _ h; have := cnt_le 6 s; omega
  | succ f ih =>
    intro s t hs h
    unfold spr
    have hc := cnt_le net.length s
    rw [cnt_of_lt hs hn] at hc
    by_cases e : grow net needs s = s
    · rw [if_pos e]; simp only; omega
    · rw [if_neg e]
      have hm := grow_more hn e
      rw [pcn_eq, pcn_eq] at hm
      have := ih (grow net needs s) (t + 1) (grow_lt hs) (by omega)
      omega
theorem spr_lt {net needs : List Int} : ∀ (f s t : Nat), s < 2 ^ net.length → (spr net needs f s t).1 < 2 ^ net.length := by
  intro f
  induction f with
  | zero => intro s t h; exact h
  | succ f ih =>
    intro s t hs
    unfold spr
    by_cases e : grow net needs s = s
    · rw [if_pos e]; exact hs
    · rw [if_neg e]; exact ih _ _ (grow_lt hs)
/-- What is lit in the end from s on. -/
def lit (net needs : List Int) (s : Nat) : Nat := (spr net needs 7 s 0).1
def litAt (net needs : List Int) (s : Nat) : Nat := (spr net needs 7 s 0).2
theorem lit_is {net needs : List Int} (hn : net.length ≤ 6) (s : Nat) : IsSpr net needs s (lit net needs s) := spr_is hn 7 s 0 hn (by omega)
theorem lit_lt {net needs : List Int} {s : Nat} (hs : s < 2 ^ net.length) : lit net needs s < 2 ^ net.length := spr_lt 7 s 0 hs
theorem lit_mono {net needs : List Int} (hn : net.length ≤ 6) {s t : Nat} (h : Sub s t) : Sub (lit net needs s) (lit net needs t) :=
  (lit_is hn s).least _ (h.trans (lit_is hn t).sub) (lit_is hn t).closed
theorem lit_lit {net needs : List Int} (hn : net.length ≤ 6) (s : Nat) : spr net needs 7 (lit net needs s) 0 = (lit net needs s, 0) := by
  have := grow_fix.2 (lit_is (needs := needs) hn s).closed
  unfold spr; rw [if_pos this]
theorem litAt_le {net needs : List Int} (hn : net.length ≤ 6) {s : Nat} (hs : s < 2 ^ net.length) : litAt net needs s ≤ net.length := by
  have := spr_steps (needs := needs) hn 7 s 0 hs (by omega)
  unfold litAt; omega
end Go.Proofs.Ythkngbdijoeolaa.Kit
