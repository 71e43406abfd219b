/- Plain laws on what the functions compute. -/
import Derived.Test.YthkngbdijoeolaaKit
import Derived.Test.YthkngbdijoeolaaLstates
import Derived.Test.YthkngbdijoeolaaF27
set_option linter.unusedVariables false
set_option linter.unusedSimpArgs false
namespace Go.Proofs.Ythkngbdijoeolaa.Pure
open Go Go.RowKit Go.Proofs.Ythkngbdijoeolaa.PAll Go.Proofs.YthkngbdijoeolaaW.PrintWords Go.Proofs.YthkngbdijoeolaaW.PrintLast Go.Proofs.YthkngbdijoeolaaW.PrintMore Go.Proofs.Ythkngbdijoeolaa.Kit
/-! ### lists of numbers: laid, compared, marked, held -/
theorem toIntS (l : List Int) (hn : l.length ≤ 1048576) : Ev (fun k => laws_toIntS.f k l) l := by
  unfold laws_toIntS.f
  refine Ev.pos (by omega) (Ev.pos (by omega) ?_)
  refine ev_for (F := fun k x s => laws_toIntS.l0 k l s x) (n := l.length) (out := fun _ _ => l) (I := fun i s => s.length = l.length ∧ ∀ j, j < i → s.getD j 0 = l.getD j 0) ?_ ?_ l.length 0 (by omega) _ ⟨by simp, fun j h => by omega⟩
  · rintro s ⟨h1, h2⟩
    refine Ev.step (fun k => by rw [laws_toIntS.l0]) (Ev.neg (by omega) (Ev.val (ext_getD h1 (fun j hj => h2 j (by omega)))))
  · rintro i s hi ⟨h1, h2⟩ ih
    refine Ev.step (fun k => by rw [laws_toIntS.l0]) (Ev.pos (by omega) (Ev.pos (by omega) (Ev.pos (by omega) ?_)))
    rw [w64s i (by omega)]
    refine ih _ ⟨by simp [h1], fun j hj => ?_⟩
    rw [rd_nat, Int.toNat_natCast, List.getD_eq_getElem?_getD, List.getElem?_set]
    by_cases e : i = j
    · subst e; simp [h1, hi]
    · rw [if_neg e, ← List.getD_eq_getElem?_getD]; exact h2 j (by omega)
theorem eqIntS (a b : List Int) (hn : a.length ≤ 1048576) : Ev (fun k => laws_eqIntS.f k a b) (decide (a = b)) := by
  unfold laws_eqIntS.f
  refine Ev.iteS (fun hl => ?_) (fun hl => Ev.val (by symm; simp only [decide_eq_false_iff_not]; exact fun h => hl (by rw [h])))
  have hl : a.length = b.length := by omega
  have H := ev_scan (F := fun k x => laws_eqIntS.l0 k a b x) (n := a.length) (P := fun j => a.getD j 0 = b.getD j 0) (r := true) (r' := false) (fun _ => ?_) (fun i hi hp c hc => ?_) (fun i hi _ hp => ?_)
  · refine Ev.to H ?_
    by_cases h : ∀ j, j < a.length → a.getD j 0 = b.getD j 0
    · rw [if_pos h]; symm; simp only [decide_eq_true_eq]; exact ext_getD hl h
    · rw [if_neg h]; symm; simp only [decide_eq_false_iff_not]; exact fun e => h (fun j _ => by rw [e])
  · exact Ev.step (fun k => by rw [laws_eqIntS.l0]) (Ev.neg (by omega) (Ev.now _))
  · refine Ev.step (fun k => by rw [laws_eqIntS.l0]) (Ev.pos (by omega) (Ev.pos (by omega) (Ev.pos (by omega) ?_)))
    rw [rd_nat, rd_nat, w64s i (by omega)]
    exact Ev.pos hp hc
  · refine Ev.step (fun k => by rw [laws_eqIntS.l0]) (Ev.pos (by omega) (Ev.pos (by omega) (Ev.pos (by omega) ?_)))
    rw [rd_nat, rd_nat]
    exact Ev.neg hp (Ev.now _)
end Go.Proofs.Ythkngbdijoeolaa.Pure
