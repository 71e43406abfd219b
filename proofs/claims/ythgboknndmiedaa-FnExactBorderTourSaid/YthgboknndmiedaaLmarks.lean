/- Plain laws on what the functions compute. -/
import Derived.Test.YthgboknndmiedaaKit
import Derived.Test.YthgboknndmiedaaLints
import Derived.Test.YthgboknndmiedaaF9
set_option linter.unusedVariables false
set_option linter.unusedSimpArgs false
namespace Go.Proofs.Ythgboknndmiedaa.Pure
open Go Go.RowKit Go.Proofs.Ythgboknndmiedaa.PAll Go.Proofs.YthgboknndmiedaaW.PrintWords Go.Proofs.YthgboknndmiedaaW.PrintLast Go.Proofs.YthgboknndmiedaaW.PrintMore Go.Proofs.Ythgboknndmiedaa.Kit
/-- A row of numbers from m on. -/
def Marked (m : Int) (s : List Int) : Prop := ∀ j, j < s.length → s.getD j 0 = m + j
theorem markIntS (l : List Int) (m : Int) (hm0 : 0 ≤ m) (hm : m ≤ 4194304) (hn : l.length ≤ 1048576) : ∃ s, s.length = l.length ∧ Marked m s ∧ Ev (fun k => laws_markIntS.f k l m) (m + l.length, s) := by
  unfold laws_markIntS.f
  have H : ∀ d i : Nat, i + d = l.length → ∀ s, s.length = l.length → (∀ j, j < i → s.getD j 0 = m + j) → ∃ s', s'.length = l.length ∧ Marked m s' ∧ Ev (fun k => laws_markIntS.l0 k s (m + i) (i : Int)) (m + l.length, s') := by
    intro d
    induction d with
    | zero =>
      intro i hi s h1 h2
      obtain rfl : i = l.length := by omega
      exact ⟨s, h1, fun j hj => h2 j (by omega), Ev.step (fun k => by rw [laws_markIntS.l0]) (Ev.neg (by omega) (Ev.now _))⟩
    | succ d ih =>
      intro i hi s h1 h2
      obtain ⟨s', a1, a2, a3⟩ := ih (i + 1) (by omega) (s.set i (m + i)) (by simp [h1]) (fun j hj => by
        rw [List.getD_eq_getElem?_getD, List.getElem?_set]
        by_cases e : i = j
        · subst e; rw [if_pos rfl, if_pos (by omega)]; rfl
        · rw [if_neg e, ← List.getD_eq_getElem?_getD]; exact h2 j (by omega))
      refine ⟨s', a1, a2, Ev.step (fun k => by rw [laws_markIntS.l0]) (Ev.pos (by omega) (Ev.pos (by omega) ?_))⟩
      rw [w64s i (by omega), w64 (x := m + i + 1) (by omega) (by omega), Int.toNat_natCast, show m + (i : Int) + 1 = m + ((i + 1 : Nat) : Int) by omega]
      exact a3
  obtain ⟨s', a1, a2, a3⟩ := H l.length 0 (by omega) l rfl (fun j h => by omega)
  refine ⟨s', a1, a2, ?_⟩
  simpa using a3
theorem heldIntS (s : List Int) (m : Int) (hm0 : 0 ≤ m) (hm : m ≤ 4194304) (hn : s.length ≤ 1048576) (hs : Marked m s) : Ev (fun k => laws_heldIntS.f k s m) (m + s.length) := by
  unfold laws_heldIntS.f
  have H : ∀ d i : Nat, i + d = s.length → Ev (fun k => laws_heldIntS.l0 k s (m + i) (i : Int)) (m + s.length) := by
    intro d
    induction d with
    | zero =>
      intro i hi
      obtain rfl : i = s.length := by omega
      exact Ev.step (fun k => by rw [laws_heldIntS.l0]) (Ev.neg (by omega) (Ev.now _))
    | succ d ih =>
      intro i hi
      refine Ev.step (fun k => by rw [laws_heldIntS.l0]) (Ev.pos (by omega) (Ev.pos (by omega) ?_))
      rw [rd_nat, hs i (by omega), w64s i (by omega), w64 (x := m + i + 1) (by omega) (by omega), show m + (i : Int) + 1 = m + ((i + 1 : Nat) : Int) by omega]
      exact Ev.pos rfl (ih (i + 1) (by omega))
  have := H s.length 0 (by omega)
  simpa using this
end Go.Proofs.Ythgboknndmiedaa.Pure
