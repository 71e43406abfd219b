/- Plain laws on what the functions compute. -/
import Derived.Test.YthkngbdijoeolaaKit
import Derived.Test.YthkngbdijoeolaaLsets
set_option linter.unusedVariables false
set_option linter.unusedSimpArgs false
namespace Go.Proofs.Ythkngbdijoeolaa.Kit
open Go Go.RowKit Go.Proofs.YthkngbdijoeolaaW.PrintWords Go.Proofs.YthkngbdijoeolaaW.PrintLast Go.Proofs.YthkngbdijoeolaaW.PrintMore Go.Proofs.Ythkngbdijoeolaa.Kit
-- plain
/-! ### states and steps -/
theorem ext_getD {a b : List Int} (hl : a.length = b.length) (h : ∀ j, j < a.length → a.getD j 0 = b.getD j 0) : a = b := by
  refine List.ext_getElem hl (fun i h1 h2 => ?_)
  have := h i h1
  rwa [List.getD_eq_getElem?_getD, List.getD_eq_getElem?_getD, List.getElem?_eq_getElem h1, List.getElem?_eq_getElem h2] at this
theorem set_getD (s : List Int) (i j : Nat) (v : Int) (h : i < s.length) : (s.set i v).getD j 0 = if i = j then v else s.getD j 0 := by
  rw [List.getD_eq_getElem?_getD, List.getElem?_set]
  by_cases e : i = j
  · subst e; rw [if_pos rfl, if_pos h, if_pos rfl]; rfl
  · rw [if_neg e, if_neg e, List.getD_eq_getElem?_getD]
theorem zeros_getD (n j : Nat) : (List.replicate n (0 : Int)).getD j 0 = 0 := by
  rw [List.getD_eq_getElem?_getD, List.getElem?_replicate]; split <;> rfl
theorem map_getD (n j : Nat) (f : Nat → Int) (h : j < n) : ((List.range n).map f).getD j 0 = f j := by
  rw [List.getD_eq_getElem?_getD, List.getElem?_map, List.getElem?_range h]; rfl
theorem map_succ (n : Nat) (f : Nat → Int) : (List.range (n + 1)).map f = (List.range n).map f ++ [f n] := by simp [List.range_succ]
theorem out_getD {s : List Int} {j : Nat} (h : s.length ≤ j) : s.getD j 0 = 0 := by
  rw [List.getD_eq_getElem?_getD, List.getElem?_eq_none h]; rfl
structure StateP (kinds : Int) (state : List Int) : Prop where
  k3 : 3 ≤ kinds
  k5 : kinds ≤ 5
  lo : 1 ≤ state.length
  hi : state.length ≤ 6
  row : ∀ i, i < state.length → 0 ≤ state.getD i 0 ∧ state.getD i 0 < kinds
instance (kinds : Int) (state : List Int) : Decidable (StateP kinds state) :=
  decidable_of_iff (3 ≤ kinds ∧ kinds ≤ 5 ∧ 1 ≤ state.length ∧ state.length ≤ 6 ∧ ∀ i, i < state.length → 0 ≤ state.getD i 0 ∧ state.getD i 0 < kinds)
    ⟨fun ⟨a, b, c, d, e⟩ => ⟨a, b, c, d, e⟩, fun ⟨a, b, c, d, e⟩ => ⟨a, b, c, d, e⟩⟩
theorem StateP.at_ {kinds : Int} {state : List Int} (h : StateP kinds state) (i : Nat) : 0 ≤ state.getD i 0 ∧ state.getD i 0 < kinds := by
  by_cases hi : i < state.length
  · exact h.row i hi
  · rw [out_getD (by omega)]; have := h.k3; omega
structure AskedP (net : List Int) (kinds : Int) (state : List Int) : Prop where
  nok : NetP net
  st : StateP kinds state
  len : state.length = net.length
instance (net : List Int) (kinds : Int) (state : List Int) : Decidable (AskedP net kinds state) :=
  decidable_of_iff (NetP net ∧ StateP kinds state ∧ state.length = net.length) ⟨fun ⟨a, b, c⟩ => ⟨a, b, c⟩, fun ⟨a, b, c⟩ => ⟨a, b, c⟩⟩
/-- The nodes that fire. -/
def firesTo (state : List Int) : Nat → Nat
  | 0 => 0
  | m + 1 => if state.getD m 0 = 1 then firesTo state m ||| 2 ^ m else firesTo state m
def fires (state : List Int) : Nat := firesTo state state.length
theorem firesTo_bit (state : List Int) (m i : Nat) : (firesTo state m).testBit i = true ↔ i < m ∧ state.getD i 0 = 1 := by
  induction m with
  | zero => simp [firesTo]
  | succ m ih =>
    rw [firesTo]
    by_cases h : state.getD m 0 = 1
    · rw [if_pos h, Nat.testBit_or, Bool.or_eq_true, ih, Nat.testBit_two_pow, decide_eq_true_eq]
      constructor
      · rintro (⟨h1, h2⟩ | h1)
        · exact ⟨by omega, h2⟩
        · subst h1; exact ⟨by omega, h⟩
      · rintro ⟨h1, h2⟩
        by_cases e : i = m
        · exact .inr e.symm
        · exact .inl ⟨by omega, h2⟩
    · rw [if_neg h, ih]
      constructor
      · rintro ⟨h1, h2⟩; exact ⟨by omega, h2⟩
      · rintro ⟨h1, h2⟩
        by_cases e : i = m
        · subst e; exact absurd h2 h
        · exact ⟨by omega, h2⟩
theorem fires_bit (state : List Int) (i : Nat) : (fires state).testBit i = true ↔ state.getD i 0 = 1 := by
  unfold fires
  rw [firesTo_bit]
  constructor
  · exact fun h => h.2
  · intro h
    refine ⟨?_, h⟩
    refine Classical.byContradiction (fun hx => ?_)
    rw [out_getD (by omega)] at h; cases h
theorem firesTo_lt (state : List Int) (m : Nat) : firesTo state m < 2 ^ m := lt_of_bits (fun i hi => ((firesTo_bit state m i).1 hi).1)
theorem fires_lt (state : List Int) : fires state < 2 ^ state.length := firesTo_lt _ _
theorem firesTo_yes {state : List Int} {m : Nat} (h : state.getD m 0 = 1) : firesTo state (m + 1) = firesTo state m ||| 2 ^ m := by rw [firesTo, if_pos h]
theorem firesTo_no {state : List Int} {m : Nat} (h : ¬ state.getD m 0 = 1) : firesTo state (m + 1) = firesTo state m := by rw [firesTo, if_neg h]
/-- What a node's kind becomes. -/
def nval (net : List Int) (kinds : Int) (needs state : List Int) (i : Nat) : Int :=
  if 0 < state.getD i 0 then (if state.getD i 0 + 1 = kinds then 0 else state.getD i 0 + 1)
  else if needs.getD i 0 ≤ ((pcn (nb net i &&& fires state) : Nat) : Int) then 1 else 0
def nstep (net : List Int) (kinds : Int) (needs state : List Int) : List Int := (List.range state.length).map (nval net kinds needs state)
def one1 (n : Nat) : List Int := List.replicate n 1
def fstep (net : List Int) (kinds : Int) (state : List Int) : List Int := nstep net kinds (one1 state.length) state
theorem nval_tired {net : List Int} {kinds : Int} {needs state : List Int} {i : Nat} (h : 0 < state.getD i 0) : nval net kinds needs state i = if state.getD i 0 + 1 = kinds then 0 else state.getD i 0 + 1 := by
  unfold nval; exact if_pos h
theorem nval_lit {net : List Int} {kinds : Int} {needs state : List Int} {i : Nat} (h : ¬ 0 < state.getD i 0) (h' : needs.getD i 0 ≤ ((pcn (nb net i &&& fires state) : Nat) : Int)) : nval net kinds needs state i = 1 := by
  unfold nval; rw [if_neg h, if_pos h']
theorem nval_rest {net : List Int} {kinds : Int} {needs state : List Int} {i : Nat} (h : ¬ 0 < state.getD i 0) (h' : ¬ needs.getD i 0 ≤ ((pcn (nb net i &&& fires state) : Nat) : Int)) : nval net kinds needs state i = 0 := by
  unfold nval; rw [if_neg h, if_neg h']
theorem nstep_len (net : List Int) (kinds : Int) (needs state : List Int) : (nstep net kinds needs state).length = state.length := by simp [nstep]
theorem nstep_at {net : List Int} {kinds : Int} {needs state : List Int} {i : Nat} (h : i < state.length) : (nstep net kinds needs state).getD i 0 = nval net kinds needs state i := map_getD _ _ _ h
theorem fstep_len (net : List Int) (kinds : Int) (state : List Int) : (fstep net kinds state).length = state.length := nstep_len _ _ _ _
theorem one1_at {n i : Nat} (h : i < n) : (one1 n).getD i 0 = 1 := by
  unfold one1; rw [List.getD_eq_getElem?_getD, List.getElem?_replicate, if_pos h]; rfl
theorem nval_ok {net : List Int} {kinds : Int} {needs state : List Int} (h : StateP kinds state) (i : Nat) : 0 ≤ nval net kinds needs state i ∧ nval net kinds needs state i < kinds := by
  unfold nval
  have h1 := h.at_ i
  have h2 := h.k3
  split
  · split <;> omega
  · split <;> omega
theorem nstep_ok {net : List Int} {kinds : Int} {needs state : List Int} (h : StateP kinds state) : StateP kinds (nstep net kinds needs state) := by
  refine ⟨h.k3, h.k5, by rw [nstep_len]; exact h.lo, by rw [nstep_len]; exact h.hi, fun i hi => ?_⟩
  rw [nstep_len] at hi
  rw [nstep_at hi]; exact nval_ok h i
theorem fstep_ok {net : List Int} {kinds : Int} {state : List Int} (h : StateP kinds state) : StateP kinds (fstep net kinds state) := nstep_ok h
theorem AskedP.step {net : List Int} {kinds : Int} {state : List Int} (h : AskedP net kinds state) (needs : List Int) : AskedP net kinds (nstep net kinds needs state) :=
  ⟨h.nok, nstep_ok h.st, by rw [nstep_len]; exact h.len⟩
theorem AskedP.fstep {net : List Int} {kinds : Int} {state : List Int} (h : AskedP net kinds state) : AskedP net kinds (fstep net kinds state) := h.step _
theorem kind_tmod {kinds k : Int} (h0 : 0 < k) (h1 : k < kinds) (hk : kinds ≤ 5) : Int.tmod (wrap64 (k + 1)) kinds = if k + 1 = kinds then 0 else k + 1 := by
  rw [w64 (by omega) (by omega), Int.tmod_eq_emod_of_nonneg (by omega)]
  by_cases e : k + 1 = kinds
  · rw [if_pos e, e]; exact Int.emod_self
  · rw [if_neg e]; exact Int.emod_eq_of_lt (by omega) (by omega)
theorem pcn_pos {x : Nat} (h : x < 64) : 1 ≤ pcn x ↔ x ≠ 0 := by
  constructor
  · rintro h1 rfl; revert h1; decide
  · intro h1
    refine Classical.byContradiction (fun h2 => h1 (Nat.eq_of_testBit_eq (fun i => ?_)))
    rw [Nat.zero_testBit]
    cases hb : x.testBit i with
    | false => rfl
    | true =>
      have hi := bit_lt (n := 6) h hb
      have := cnt_lt (s := 0) (t := x) 6 (fun i _ h => by simp at h) hi (by simp) hb
      rw [← pcn_eq, ← pcn_eq] at this
      omega
/-- Does a neighbour of the node fire? -/
def LitBy (net state : List Int) (i : Nat) : Prop := ∃ j, (nb net i).testBit j = true ∧ state.getD j 0 = 1
theorem litBy {net : List Int} (hn : NetP net) {state : List Int} {i : Nat} : LitBy net state i ↔ 1 ≤ pcn (nb net i &&& fires state) := by
  have h64 : nb net i < 64 := by
    by_cases hi : i < net.length
    · exact Nat.lt_of_lt_of_le (nb_lt (hn.row i hi)) (pow_le64 hn.hi)
    · rw [nb_out (by omega)]; omega
  rw [pcn_pos (Nat.lt_of_le_of_lt Nat.and_le_left h64)]
  constructor
  · rintro ⟨j, h1, h2⟩ h3
    have := congrArg (fun x => x.testBit j) h3
    simp only [Nat.testBit_and, h1, (fires_bit state j).2 h2, Nat.zero_testBit] at this
    cases this
  · intro h
    refine Classical.byContradiction (fun hx => h (Nat.eq_of_testBit_eq (fun j => ?_)))
    rw [Nat.zero_testBit, Nat.testBit_and]
    cases h1 : (nb net i).testBit j with
    | false => rfl
    | true =>
      cases h2 : (fires state).testBit j with
      | false => rfl
      | true => exact absurd ⟨j, h1, (fires_bit state j).1 h2⟩ hx
end Go.Proofs.Ythkngbdijoeolaa.Kit
