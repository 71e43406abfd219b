/- Plain laws on what the functions compute. -/
import Derived.Test.YthkngbdijoeolaaKit
import Derived.Test.YthkngbdijoeolaaLnetok
import Derived.Test.YthkngbdijoeolaaF15
set_option linter.unusedVariables false
set_option linter.unusedSimpArgs false
namespace Go.Proofs.Ythkngbdijoeolaa.Pure
open Go Go.RowKit Go.Proofs.Ythkngbdijoeolaa.PAll Go.Proofs.YthkngbdijoeolaaW.PrintWords Go.Proofs.YthkngbdijoeolaaW.PrintLast Go.Proofs.YthkngbdijoeolaaW.PrintMore Go.Proofs.Ythkngbdijoeolaa.Kit
/-! ### NeedsOk, both -/
def NeedsP (net needs : List Int) : Prop := NetP net ∧ needs.length = net.length ∧ ∀ i, i < needs.length → 1 ≤ needs.getD i 0 ∧ needs.getD i 0 ≤ 6
instance (net needs : List Int) : Decidable (NeedsP net needs) := by unfold NeedsP; infer_instance
theorem needs_val (net needs : List Int) (h : ∀ i, i < needs.length → 1 ≤ needs.getD i 0 ∧ needs.getD i 0 ≤ 6) :
    Ev (fun _ => if decide (NetP net) = true then some ((needs.length : Int) == (net.length : Int)) else some false) (decide (NeedsP net needs)) := by
  refine Ev.iteS (fun hp => Ev.val ?_) (fun hp => Ev.val ?_)
  · rw [Bool.eq_iff_iff]; simp only [decide_eq_true_eq, beq_iff_eq] at *
    exact ⟨fun e => ⟨hp, by omega, h⟩, fun e => by have := e.2.1; omega⟩
  · symm; simp only [decide_eq_true_eq] at hp; simp only [decide_eq_false_iff_not]; exact fun e => hp e.1
theorem sNeedsOk (net needs : List Int) (hn : needs.length ≤ 1048577) : Ev (fun k => spec_NeedsOk.f k net needs) (decide (NeedsP net needs)) := by
  unfold spec_NeedsOk.f
  have H := ev_scan (F := fun k x => spec_NeedsOk.l0 k net needs x) (n := needs.length) (P := fun i => 1 ≤ needs.getD i 0 ∧ needs.getD i 0 ≤ 6) (r := decide (NeedsP net needs)) (r' := false) (fun h => ?_) (fun i hi hp b hb => ?_) (fun i hi _ hp => ?_)
  · refine Ev.to H ?_
    by_cases h : ∀ i, i < needs.length → 1 ≤ needs.getD i 0 ∧ needs.getD i 0 ≤ 6
    · rw [if_pos h]
    · rw [if_neg h]; symm; simp only [decide_eq_false_iff_not]; exact fun e => h e.2.2
  · exact Ev.step (fun k => by rw [spec_NeedsOk.l0]) (Ev.neg (by omega) (Ev.bnd (sNetOk net) (needs_val net needs h)))
  · refine Ev.step (fun k => by rw [spec_NeedsOk.l0]) (Ev.pos (by omega) (Ev.pos (by omega) (Ev.bnd0 (l1In_eq _ _ _) ?_)))
    rw [rd_nat, w64s i (by omega)]
    exact Ev.pos (by simpa using hp) hb
  · refine Ev.step (fun k => by rw [spec_NeedsOk.l0]) (Ev.pos (by omega) (Ev.pos (by omega) (Ev.bnd0 (l1In_eq _ _ _) ?_)))
    rw [rd_nat]
    exact Ev.neg (by simpa using hp) (Ev.now _)
theorem iNeedsOk (net needs : List Int) (hn : needs.length ≤ 1048577) : Ev (fun k => impl_NeedsOk.f k net needs) (decide (NeedsP net needs)) := by
  unfold impl_NeedsOk.f
  have H := ev_scan (F := fun k x => impl_NeedsOk.l0 k net needs needs (needs.length : Int) x) (n := needs.length) (P := fun i => 1 ≤ needs.getD i 0 ∧ needs.getD i 0 ≤ 6) (r := decide (NeedsP net needs)) (r' := false) (fun h => ?_) (fun i hi hp b hb => ?_) (fun i hi _ hp => ?_)
  · refine Ev.to H ?_
    by_cases h : ∀ i, i < needs.length → 1 ≤ needs.getD i 0 ∧ needs.getD i 0 ≤ 6
    · rw [if_pos h]
    · rw [if_neg h]; symm; simp only [decide_eq_false_iff_not]; exact fun e => h e.2.2
  · exact Ev.step (fun k => by rw [impl_NeedsOk.l0]) (Ev.neg (by omega) (Ev.bnd (iNetOk net) (needs_val net needs h)))
  · refine Ev.step (fun k => by rw [impl_NeedsOk.l0]) (Ev.pos (by omega) (Ev.pos (by omega) (Ev.pos (by omega) ?_)))
    rw [rd_nat, w64s i (by omega)]
    exact Ev.neg (by omega) (Ev.neg (by omega) hb)
  · refine Ev.step (fun k => by rw [impl_NeedsOk.l0]) (Ev.pos (by omega) (Ev.pos (by omega) (Ev.pos (by omega) ?_)))
    rw [rd_nat]
    exact Ev.iteS (fun _ => Ev.now _) (fun h1 => Ev.pos (by omega) (Ev.now _))
end Go.Proofs.Ythkngbdijoeolaa.Pure
