/- Plain laws on what the functions compute. -/
import Derived.Test.YthgboknndmiedaaKit
import Derived.Test.YthgboknndmiedaaF2
import Derived.Test.YthgboknndmiedaaF4
set_option linter.unusedVariables false
set_option linter.unusedSimpArgs false
namespace Go.Proofs.Ythgboknndmiedaa.Pure
open Go Go.RowKit Go.Proofs.Ythgboknndmiedaa.PAll Go.Proofs.YthgboknndmiedaaW.PrintWords Go.Proofs.YthgboknndmiedaaW.PrintLast Go.Proofs.YthgboknndmiedaaW.PrintMore Go.Proofs.Ythgboknndmiedaa.Kit
/-! ### lists of lights: compared, marked, held -/
theorem rdL (xs : List S43) (i : Nat) : rd_T43 xs (i : Int) = xs.getD i z43 := by simp [rd_T43]
theorem extL {a b : List S43} (hl : a.length = b.length) (h : ∀ j, j < a.length → a.getD j z43 = b.getD j z43) : a = b := by
  refine List.ext_getElem hl (fun i h1 h2 => ?_)
  have := h i h1
  rwa [List.getD_eq_getElem?_getD, List.getD_eq_getElem?_getD, List.getElem?_eq_getElem h1, List.getElem?_eq_getElem h2] at this
theorem setL (s : List S43) (i j : Nat) (v : S43) (h : i < s.length) : (s.set i v).getD j z43 = if i = j then v else s.getD j z43 := by
  rw [List.getD_eq_getElem?_getD, List.getElem?_set]
  by_cases e : i = j
  · subst e; rw [if_pos rfl, if_pos h, if_pos rfl]; rfl
  · rw [if_neg e, if_neg e, List.getD_eq_getElem?_getD]
theorem eqLight (a b : S43) : ∃ c, laws_eqLight.f a.f0 a.f1 b.f0 b.f1 = some c ∧ (c = true ↔ a = b) := by
  unfold laws_eqLight.f
  obtain ⟨a0, a1⟩ := a
  obtain ⟨b0, b1⟩ := b
  simp only
  by_cases h1 : a0 = b0
  · by_cases h2 : a1 = b1
    · exact ⟨true, by rw [if_pos h1, if_pos h2], by simp [h1, h2]⟩
    · exact ⟨false, by rw [if_pos h1, if_neg h2], by simp [h2]⟩
  · exact ⟨false, by rw [if_neg h1], by simp [h1]⟩
theorem eqLightS_self (a : List S43) (hn : a.length ≤ 1048576) : Ev (fun k => laws_eqLightS.f k a a) true := by
  unfold laws_eqLightS.f
  refine Ev.pos rfl ?_
  refine ev_back (F := fun k x => laws_eqLightS.l0 k a a x) a.length ?_ (fun i hi he => ?_)
  · exact Ev.step (fun k => by rw [laws_eqLightS.l0]) (Ev.neg (by omega) (Ev.now _))
  · refine Ev.step (fun k => by rw [laws_eqLightS.l0]) (Ev.pos (by omega) (Ev.pos (by omega) (Ev.pos (by omega) ?_)))
    rw [w64s i (by omega)]
    obtain ⟨c, h1, h2⟩ := eqLight (rd_T43 a (i : Int)) (rd_T43 a (i : Int))
    exact Ev.bnd0 h1 (Ev.pos (h2.2 rfl) he)
def MarkedL (m : Int) (s : List S43) : Prop := ∀ j, j < s.length → s.getD j z43 = ⟨m + 2 * j, m + 2 * j + 1⟩
theorem markLightS (l : List S43) (m : Int) (hm0 : 0 ≤ m) (hm : m ≤ 4194304) (hn : l.length ≤ 1048576) : ∃ s, s.length = l.length ∧ MarkedL m s ∧ Ev (fun k => laws_markLightS.f k l m) (m + 2 * l.length, s) := by
  unfold laws_markLightS.f
  have H : ∀ d i : Nat, i + d = l.length → ∀ s, s.length = l.length → (∀ j, j < i → s.getD j z43 = ⟨m + 2 * j, m + 2 * j + 1⟩) → ∃ s', s'.length = l.length ∧ MarkedL m s' ∧ Ev (fun k => laws_markLightS.l0 k s (m + 2 * i) (i : Int)) (m + 2 * l.length, s') := by
    intro d
    induction d with
    | zero =>
      intro i hi s h1 h2
      obtain rfl : i = l.length := by omega
      exact ⟨s, h1, fun j hj => h2 j (by omega), Ev.step (fun k => by rw [laws_markLightS.l0]) (Ev.neg (by omega) (Ev.now _))⟩
    | succ d ih =>
      intro i hi s h1 h2
      obtain ⟨s', a1, a2, a3⟩ := ih (i + 1) (by omega) ((s.set i ⟨m + 2 * i, (rd_T43 s (i : Int)).f1⟩).set i ⟨m + 2 * i, m + 2 * i + 1⟩) (by simp [h1]) (fun j hj => by
        rw [setL _ _ _ _ (by simp; omega), setL _ _ _ _ (by omega)]
        by_cases e : i = j
        · subst e; rw [if_pos rfl]
        · rw [if_neg e, if_neg e]; exact h2 j (by omega))
      refine ⟨s', a1, a2, Ev.step (fun k => by rw [laws_markLightS.l0]) (Ev.pos (by omega) (Ev.pos (by omega) (Ev.bnd0 rfl ?_)))⟩
      rw [w64s i (by omega), w64 (x := m + 2 * i + 1) (by omega) (by omega), w64 (x := m + 2 * i + 1 + 1) (by omega) (by omega), Int.toNat_natCast, show m + 2 * (i : Int) + 1 + 1 = m + 2 * ((i + 1 : Nat) : Int) by omega]
      rw [rdL (s.set i _) i, setL _ _ _ _ (by omega), if_pos rfl]
      exact a3
  obtain ⟨s', a1, a2, a3⟩ := H l.length 0 (by omega) l rfl (fun j h => by omega)
  refine ⟨s', a1, a2, ?_⟩
  simpa using a3
theorem heldLightS (s : List S43) (m : Int) (hm0 : 0 ≤ m) (hm : m ≤ 4194304) (hn : s.length ≤ 1048576) (hs : MarkedL m s) : Ev (fun k => laws_heldLightS.f k s m) (m + 2 * s.length) := by
  unfold laws_heldLightS.f
  have H : ∀ d i : Nat, i + d = s.length → Ev (fun k => laws_heldLightS.l0 k s (m + 2 * i) (i : Int)) (m + 2 * s.length) := by
    intro d
    induction d with
    | zero =>
      intro i hi
      obtain rfl : i = s.length := by omega
      exact Ev.step (fun k => by rw [laws_heldLightS.l0]) (Ev.neg (by omega) (Ev.now _))
    | succ d ih =>
      intro i hi
      refine Ev.step (fun k => by rw [laws_heldLightS.l0]) (Ev.pos (by omega) (Ev.pos (by omega) ?_))
      rw [rdL, hs i (by omega), w64s i (by omega), w64 (x := m + 2 * i + 1) (by omega) (by omega), w64 (x := m + 2 * i + 1 + 1) (by omega) (by omega), show m + 2 * (i : Int) + 1 + 1 = m + 2 * ((i + 1 : Nat) : Int) by omega]
      exact Ev.pos rfl (Ev.pos rfl (ih (i + 1) (by omega)))
  have := H s.length 0 (by omega)
  simpa using this
end Go.Proofs.Ythgboknndmiedaa.Pure
