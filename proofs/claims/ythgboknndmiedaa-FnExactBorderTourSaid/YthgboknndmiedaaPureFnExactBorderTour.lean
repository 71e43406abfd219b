/- Plain laws on what the functions compute. -/
import Derived.Test.YthgboknndmiedaaKit
import Derived.Test.YthgboknndmiedaaLmarks
import Derived.Test.YthgboknndmiedaaLnetok
import Derived.Test.YthgboknndmiedaaF9
import Derived.Test.YthgboknndmiedaaFFnExactBorderTour
set_option linter.unusedVariables false
set_option linter.unusedSimpArgs false
namespace Go.Proofs.Ythgboknndmiedaa.Pure
open Go Go.RowKit Go.Proofs.Ythgboknndmiedaa.PAll Go.Proofs.YthgboknndmiedaaW.PrintWords Go.Proofs.YthgboknndmiedaaW.PrintLast Go.Proofs.YthgboknndmiedaaW.PrintMore Go.Proofs.Ythgboknndmiedaa.Kit
def GridP (a b : Int) : Prop := 1 ≤ a ∧ a ≤ 6 ∧ 1 ≤ b ∧ b ≤ 6 ∧ a * b ≤ 6
instance (a b : Int) : Decidable (GridP a b) := by unfold GridP; infer_instance
theorem mul_small {a b : Int} (h1 : 1 ≤ a) (h2 : a ≤ 6) (h3 : 1 ≤ b) (h4 : b ≤ 6) : wrap64 (a * b) = a * b := by
  have : a * b ≤ 6 * 6 := Int.mul_le_mul h2 h4 (by omega) (by omega)
  have : 0 ≤ a * b := Int.mul_nonneg (by omega) (by omega)
  exact w64 (by omega) (by omega)
theorem sGrid (a b : Int) : spec_l12Ok.f a b = some (decide (GridP a b)) := by
  unfold spec_l12Ok.f
  rw [l1In_eq, l1In_eq]
  simp only [Option.bind_some, decide_eq_true_eq]
  by_cases h1 : 1 ≤ a ∧ a ≤ 6
  · by_cases h2 : 1 ≤ b ∧ b ≤ 6
    · rw [if_pos h1, if_pos h2, mul_small h1.1 h1.2 h2.1 h2.2]
      congr 1; rw [Bool.eq_iff_iff]; simp only [decide_eq_true_eq]
      exact ⟨fun h => ⟨h1.1, h1.2, h2.1, h2.2, h⟩, fun h => h.2.2.2.2⟩
    · rw [if_pos h1, if_neg h2]; congr 1; symm; rw [decide_eq_false_iff_not]; exact fun h => h2 ⟨h.2.2.1, h.2.2.2.1⟩
  · rw [if_neg h1]; congr 1; symm; rw [decide_eq_false_iff_not]; exact fun h => h1 ⟨h.1, h.2.1⟩
theorem iGrid (a b : Int) : impl_gridOk.f a b = some (decide (GridP a b)) := by
  unfold impl_gridOk.f
  by_cases h1 : 1 ≤ a ∧ a ≤ 6
  · by_cases h2 : 1 ≤ b ∧ b ≤ 6
    · rw [if_pos (by omega), if_pos (by omega), if_pos (by omega), if_pos (by omega), mul_small h1.1 h1.2 h2.1 h2.2]
      congr 1; rw [Bool.eq_iff_iff]; simp only [decide_eq_true_eq]
      exact ⟨fun h => ⟨h1.1, h1.2, h2.1, h2.2, h⟩, fun h => h.2.2.2.2⟩
    · have : decide (GridP a b) = false := by rw [decide_eq_false_iff_not]; exact fun h => h2 ⟨h.2.2.1, h.2.2.2.1⟩
      rw [this]; repeat' split
      all_goals first | rfl | omega
  · have : decide (GridP a b) = false := by rw [decide_eq_false_iff_not]; exact fun h => h1 ⟨h.1, h.2.1⟩
    rw [this]; repeat' split
    all_goals first | rfl | omega
theorem border_both (a b : Int) : ∃ r : List Int, r.length ≤ 100 ∧ Ev (fun k => spec_BorderTour.f k a b) r ∧ Ev (fun k => impl_BorderTour.f k a b) r := by
  by_cases h : GridP a b
  · by_cases h2 : 2 ≤ a ∧ 2 ≤ b
    · obtain ⟨g1, g2, g3, g4, g5⟩ := h
      have : (a = 2 ∧ b = 2) ∨ (a = 2 ∧ b = 3) ∨ (a = 3 ∧ b = 2) := by
        have ha : a = 2 ∨ a = 3 ∨ a = 4 ∨ a = 5 ∨ a = 6 := by omega
        rcases ha with rfl | rfl | rfl | rfl | rfl <;> omega
      rcases this with ⟨rfl, rfl⟩ | ⟨rfl, rfl⟩ | ⟨rfl, rfl⟩
      · exact ⟨[0, 1, 3, 2, 0], by decide, Ev.of (spec_BorderTour.mono 2 2) (k := 40) (by decide +kernel), Ev.of (impl_BorderTour.mono 2 2) (k := 40) (by decide +kernel)⟩
      · exact ⟨[0, 1, 2, 5, 4, 3, 0], by decide, Ev.of (spec_BorderTour.mono 2 3) (k := 40) (by decide +kernel), Ev.of (impl_BorderTour.mono 2 3) (k := 40) (by decide +kernel)⟩
      · exact ⟨[0, 1, 3, 5, 4, 2, 0], by decide, Ev.of (spec_BorderTour.mono 3 2) (k := 40) (by decide +kernel), Ev.of (impl_BorderTour.mono 3 2) (k := 40) (by decide +kernel)⟩
    · refine ⟨[], by simp, ?_, ?_⟩
      · unfold spec_BorderTour.f
        refine Ev.bnd0 rfl (Ev.bnd0 (sGrid a b) (Ev.pos (by simpa using h) (Ev.iteS (fun _ => ?_) (fun h3 => ?_))))
        · exact Ev.step (fun k => by rw [spec_BorderTour.j0]) (Ev.pos rfl (Ev.now _))
        · exact Ev.step (fun k => by rw [spec_BorderTour.j0]) (Ev.pos (by simp; omega) (Ev.now _))
      · unfold impl_BorderTour.f
        refine Ev.bnd0 (iGrid a b) (Ev.pos (by simpa using h) (Ev.iteS (fun _ => ?_) (fun h3 => ?_)))
        · exact Ev.step (fun k => by rw [impl_BorderTour.j0]) (Ev.pos rfl (Ev.now _))
        · exact Ev.step (fun k => by rw [impl_BorderTour.j0]) (Ev.pos (by simp; omega) (Ev.now _))
  · refine ⟨[], by simp, ?_, ?_⟩
    · unfold spec_BorderTour.f
      refine Ev.bnd0 rfl (Ev.bnd0 (sGrid a b) (Ev.neg (by simpa using h) ?_))
      exact Ev.step (fun k => by rw [spec_BorderTour.j0]) (Ev.pos rfl (Ev.now _))
    · unfold impl_BorderTour.f
      refine Ev.bnd0 (iGrid a b) (Ev.neg (by simpa using h) ?_)
      exact Ev.step (fun k => by rw [impl_BorderTour.j0]) (Ev.pos rfl (Ev.now _))
theorem FnExactBorderTour : laws_FnExactBorderTour.Pure := by
  intro a b _ _
  refine Ev.rounds (g := fun k => laws_FnExactBorderTour.f k a b) ?_
  unfold laws_FnExactBorderTour.f
  obtain ⟨r, hl, hs, hi⟩ := border_both a b
  have he := eqIntS r r (by omega)
  obtain ⟨s, m1, m2, m3⟩ := markIntS r 1 (by omega) (by omega) (by omega)
  have hh := heldIntS s 1 (by omega) (by omega) (by omega) m2
  refine Ev.bnd hs (Ev.bnd hi (Ev.bnd he (Ev.pos (by simp) (Ev.bnd m3 (Ev.bnd hh (Ev.neg (by omega) (Ev.pos (by omega) (Ev.bnd hi (Ev.bnd he (Ev.pos (by simp) (Ev.bnd hh (Ev.neg (by omega) (Ev.pos (by omega) (Ev.now _))))))))))))))
end Go.Proofs.Ythgboknndmiedaa.Pure
