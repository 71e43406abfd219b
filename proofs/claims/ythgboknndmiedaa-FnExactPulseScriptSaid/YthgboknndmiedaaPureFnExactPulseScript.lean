/- Plain laws on what the functions compute. -/
import Derived.Test.YthgboknndmiedaaKit
import Derived.Test.YthgboknndmiedaaLpulse
import Derived.Test.YthgboknndmiedaaFFnExactPulseScript
set_option linter.unusedVariables false
set_option linter.unusedSimpArgs false
namespace Go.Proofs.Ythgboknndmiedaa.Pure
open Go Go.RowKit Go.Proofs.Ythgboknndmiedaa.PAll Go.Proofs.YthgboknndmiedaaW.PrintWords Go.Proofs.YthgboknndmiedaaW.PrintLast Go.Proofs.YthgboknndmiedaaW.PrintMore Go.Proofs.Ythgboknndmiedaa.Kit
theorem FnExactPulseScript : laws_FnExactPulseScript.Pure := by
  intro a b c _ _ _
  refine Ev.rounds (g := fun k => laws_FnExactPulseScript.f k a b c) ?_
  unfold laws_FnExactPulseScript.f
  have hs := sPulse a b c
  have hi := iPulse a b c
  have hl : (pulseR a b c).length ≤ 8 := by
    unfold pulseR
    by_cases h : PulseP a b c
    · rw [if_pos h, pulses_len]; have := h.2.2.2.2.2.1; omega
    · rw [if_neg h]; simp
  have he := eqLightS_self (pulseR a b c) (by omega)
  obtain ⟨s, m1, m2, m3⟩ := markLightS (pulseR a b c) 1 (by omega) (by omega) (by omega)
  have hh := heldLightS s 1 (by omega) (by omega) (by omega) m2
  refine Ev.bnd hs (Ev.bnd hi (Ev.bnd he (Ev.pos (by simp) (Ev.bnd m3 (Ev.bnd hh (Ev.neg (by omega) (Ev.pos (by omega) (Ev.bnd hi (Ev.bnd he (Ev.pos (by simp) (Ev.bnd hh (Ev.neg (by omega) (Ev.pos (by omega) (Ev.now _))))))))))))))
end Go.Proofs.Ythgboknndmiedaa.Pure
