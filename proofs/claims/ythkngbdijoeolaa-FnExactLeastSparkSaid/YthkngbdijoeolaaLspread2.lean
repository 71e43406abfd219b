/- Plain laws on what the functions compute. -/
import Derived.Test.YthkngbdijoeolaaKit
import Derived.Test.YthkngbdijoeolaaLspread
import Derived.Test.YthkngbdijoeolaaLsize4
import Derived.Test.YthkngbdijoeolaaLneedsok
import Derived.Test.YthkngbdijoeolaaF26
set_option linter.unusedVariables false
set_option linter.unusedSimpArgs false
namespace Go.Proofs.Ythkngbdijoeolaa.Pure
open Go Go.RowKit Go.Proofs.Ythkngbdijoeolaa.PAll Go.Proofs.YthkngbdijoeolaaW.PrintWords Go.Proofs.YthkngbdijoeolaaW.PrintLast Go.Proofs.YthkngbdijoeolaaW.PrintMore Go.Proofs.Ythkngbdijoeolaa.Kit
/-! ### SpreadSet of the reference -/
theorem size4_and {net : List Int} (h : NetP net) {i : Nat} (hi : i < net.length) {s : Nat} (hs : s < 64) :
    Ev (fun k => spec_l4Size.f k (Go.bits .and .i64 (rd net (i : Int)) (s : Int))) ((pcn (nb net i &&& s) : Nat) : Int) := by
  have h1 := nb_small h i
  rw [rd_nat, nb_cast (h.row i hi), and_nat _ _ (by omega) (by omega)]
  exact size4 (and_small h1)
theorem sGrow {net needs : List Int} (h : NeedsP net needs) {s : Nat} (hs : s < 2 ^ net.length) : Ev (fun k => spec_l9Grow.f k net needs (s : Int)) ((grow net needs s : Nat) : Int) := by
  have hn := h.1.hi
  have h64 := pow_le64 hn
  unfold spec_l9Grow.f
  refine ev_for (F := fun k x a => spec_l9Grow.l0 k net needs (s : Int) a x) (n := net.length) (out := fun _ _ => ((grow net needs s : Nat) : Int)) (I := fun i a => a = ((growTo net needs s i : Nat) : Int)) ?_ ?_ net.length 0 (by omega) _ rfl
  · rintro a rfl
    refine Ev.step (fun k => by rw [spec_l9Grow.l0]) (Ev.neg (by omega) ?_)
    exact Ev.now ((grow net needs s : Nat) : Int)
  · rintro i a hi rfl ih
    have hl := growTo_lt (net := net) (needs := needs) (m := i) hs (by omega)
    refine Ev.step (fun k => by rw [spec_l9Grow.l0]) (Ev.pos (by omega) (Ev.pos (by omega) ?_))
    refine Ev.bnd (size4_and h.1 hi (by omega)) ?_
    have hk := h.2.1
    refine Ev.pos (by omega) ?_
    rw [rd_nat, w64s i (by omega)]
    refine Ev.iteS (fun hc => ?_) (fun hc => ?_)
    · rw [or_bit (by omega) (by omega)]
      exact ih _ (by rw [growTo_yes hc])
    · exact ih _ (by rw [growTo_no hc])
theorem sSpread_ev {net needs : List Int} (h : NeedsP net needs) : ∀ (f s t : Nat), s < 2 ^ net.length → 6 < cnt 6 s + f → t + f ≤ 100 →
    Ev (fun k => spec_SpreadSet.l0 k net needs (s : Int) (t : Int)) (((spr net needs f s t).1 : Int), ((spr net needs f s t).2 : Int)) := by
  intro f
  induction f with
  | zero => intro s t _ hc; have := cnt_le 6 s; omega
  | succ f ih =>
    intro s t hs hc ht
    refine Ev.step (fun k => by rw [spec_SpreadSet.l0]) (Ev.bnd (sGrow h hs) ?_)
    unfold spr
    by_cases e : grow net needs s = s
    · rw [if_pos e]; exact Ev.pos (by rw [e]) (Ev.now _)
    · rw [if_neg e]
      have hm := grow_more h.1.hi e
      rw [pcn_eq, pcn_eq] at hm
      refine Ev.neg (by omega) (Ev.bnd (sGrow h hs) ?_)
      rw [w64s t (by omega)]
      exact ih _ _ (grow_lt hs) (by omega) (by omega)
theorem top_eq {n : Nat} (hn : n ≤ 6) : wrap64 (shl .i64 1 (n : Int) - 1) = 2 ^ n - 1 := by
  have := pow6 hn
  have h2 : (0 : Int) < 2 ^ n := Int.pow_pos (by decide)
  rw [shl_one _ (by omega), w64 (by simp; omega) (by simp; omega)]
  simp
theorem sSpreadSet (net needs : List Int) (set : Int) (hn : needs.length ≤ 1048577) : Ev (fun k => spec_SpreadSet.f k net needs set) (spreadR net needs set) := by
  unfold spec_SpreadSet.f
  have out : ¬ (NeedsP net needs ∧ SetP net set) → Ev (fun k => spec_SpreadSet.j0 k net needs set true) (spreadR net needs set) := fun e =>
    Ev.step (fun k => by rw [spec_SpreadSet.j0]) (Ev.pos rfl (Ev.val (by unfold spreadR; rw [if_neg e])))
  refine Ev.bnd (sNeedsOk net needs hn) (Ev.iteS (fun h => ?_) (fun h => ?_))
  · simp only [decide_eq_true_eq] at h
    refine Ev.bnd0 (l1In_eq _ _ _) ?_
    rw [top_eq h.1.hi]
    by_cases h2 : 0 ≤ set ∧ set ≤ 2 ^ net.length - 1
    · rw [decide_eq_true h2]
      have hp : SetP net set := ⟨h2.1, by omega⟩
      obtain ⟨s, rfl, hs⟩ := hp.nat
      refine Ev.step (fun k => by rw [spec_SpreadSet.j0]) (Ev.neg (by decide) ?_)
      refine Ev.to (sSpread_ev h 7 s 0 hs (by omega) (by omega)) ?_
      unfold spreadR; rw [if_pos ⟨h, hp⟩, Int.toNat_natCast]; rfl
    · rw [decide_eq_false h2]
      exact out (fun e => h2 ⟨e.2.1, by have := e.2.2; omega⟩)
  · simp only [decide_eq_true_eq] at h
    exact out (fun e => h e.1)
end Go.Proofs.Ythkngbdijoeolaa.Pure
