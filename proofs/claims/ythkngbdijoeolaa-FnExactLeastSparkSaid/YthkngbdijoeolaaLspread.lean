/- Plain laws on what the functions compute. -/
import Derived.Test.YthkngbdijoeolaaKit
import Derived.Test.YthkngbdijoeolaaLones
import Derived.Test.YthkngbdijoeolaaLneedsok
import Derived.Test.YthkngbdijoeolaaF26
import Derived.Test.YthkngbdijoeolaaF28
import Derived.Test.YthkngbdijoeolaaF31
set_option linter.unusedVariables false
set_option linter.unusedSimpArgs false
namespace Go.Proofs.Ythkngbdijoeolaa.Pure
open Go Go.RowKit Go.Proofs.Ythkngbdijoeolaa.PAll Go.Proofs.YthkngbdijoeolaaW.PrintWords Go.Proofs.YthkngbdijoeolaaW.PrintLast Go.Proofs.YthkngbdijoeolaaW.PrintMore Go.Proofs.Ythkngbdijoeolaa.Kit
/-! ### SpreadSet of the program -/
theorem and_small {a b : Nat} (h : a < 64) : a &&& b < 64 := Nat.lt_of_le_of_lt Nat.and_le_left h
theorem nb_small {net : List Int} (h : NetP net) (i : Nat) : nb net i < 64 := by
  by_cases hi : i < net.length
  · exact Nat.lt_of_lt_of_le (nb_lt (h.row i hi)) (pow_le64 h.hi)
  · rw [nb_out (by omega)]; omega
theorem ones_and {net : List Int} (h : NetP net) {i : Nat} (hi : i < net.length) {s : Nat} (hs : s < 64) :
    bits_OnesCount.f (IntKind.u64.wrap (Go.bits .and .i64 (rd net (i : Int)) (s : Int))) = some ((pcn (nb net i &&& s) : Nat) : Int) := by
  have h1 := nb_small h i
  rw [rd_nat, nb_cast (h.row i hi), and_nat _ _ (by omega) (by omega)]
  exact ones (and_small h1)
theorem or_bit {s i : Nat} (hs : s < 64) (hi : i < 6) : Go.bits .or .i64 (s : Int) (shl .i64 1 (i : Int)) = ((s ||| 2 ^ i : Nat) : Int) := by
  have : (2 : Nat) ^ i ≤ 2 ^ 6 := Nat.pow_le_pow_right (by decide) (by omega)
  rw [shl_one i (by omega), or_nat _ _ (by omega) (by omega)]
theorem spread_l1 {net needs : List Int} (h : NeedsP net needs) {s : Nat} (hs : s < 2 ^ net.length) {t : Int} {r : Int × Int}
    (hend : Ev (fun k => if ((grow net needs s : Nat) : Int) = (s : Int) then some ((s : Int), t) else impl_spread.l0 k net needs ((grow net needs s : Nat) : Int) (wrap64 (t + 1))) r) :
    Ev (fun k => impl_spread.l0 k net needs (s : Int) t) r := by
  have hn := h.1.hi
  have h64 := pow_le64 hn
  refine Ev.step (fun k => by rw [impl_spread.l0]) ?_
  refine ev_for (F := fun k x a => impl_spread.l1 k net needs (s : Int) t a net (net.length : Int) x) (n := net.length) (out := fun _ _ => r) (I := fun i a => a = ((growTo net needs s i : Nat) : Int)) ?_ ?_ net.length 0 (by omega) _ rfl
  · rintro a rfl
    refine Ev.step (fun k => by rw [impl_spread.l1]) (Ev.neg (by omega) ?_)
    exact hend
  · rintro i a hi rfl ih
    have hl := growTo_lt (net := net) (needs := needs) (m := i) hs (by omega)
    refine Ev.step (fun k => by rw [impl_spread.l1]) (Ev.pos (by omega) (Ev.pos (by omega) (Ev.pos (by omega) ?_)))
    refine Ev.bnd0 (ones_and h.1 hi (by omega)) ?_
    have hk := h.2.1
    refine Ev.pos (by omega) ?_
    rw [rd_nat, w64s i (by omega)]
    refine Ev.iteS (fun hc => ?_) (fun hc => ?_)
    · rw [or_bit (by omega) (by omega)]
      exact ih _ (by rw [growTo_yes hc])
    · exact ih _ (by rw [growTo_no hc])
theorem spread_ev {net needs : List Int} (h : NeedsP net needs) : ∀ (f s t : Nat), s < 2 ^ net.length → 6 < cnt 6 s + f → t + f ≤ 100 →
    Ev (fun k => impl_spread.l0 k net needs (s : Int) (t : Int)) (((spr net needs f s t).1 : Int), ((spr net needs f s t).2 : Int)) := by
  intro f
  induction f with
  | zero => intro s t _ hc; have := cnt_le 6 s; omega
  | succ f ih =>
    intro s t hs hc ht
    refine spread_l1 h hs ?_
    unfold spr
    by_cases e : grow net needs s = s
    · rw [if_pos e]; exact Ev.pos (by rw [e]) (Ev.now _)
    · rw [if_neg e]
      have hm := grow_more h.1.hi e
      rw [pcn_eq, pcn_eq] at hm
      refine Ev.neg (by omega) ?_
      rw [w64s t (by omega)]
      exact ih _ _ (grow_lt hs) (by omega) (by omega)
theorem spread_f {net needs : List Int} (h : NeedsP net needs) {s : Nat} (hs : s < 2 ^ net.length) :
    Ev (fun k => impl_spread.f k net needs (s : Int)) ((lit net needs s : Int), (litAt net needs s : Int)) := spread_ev h 7 s 0 hs (by omega) (by omega)
def SetP (net : List Int) (set : Int) : Prop := 0 ≤ set ∧ set < 2 ^ net.length
instance (net : List Int) (set : Int) : Decidable (SetP net set) := by unfold SetP; infer_instance
theorem SetP.nat {net : List Int} {set : Int} (h : SetP net set) : ∃ s : Nat, set = (s : Int) ∧ s < 2 ^ net.length := by
  obtain ⟨s, rfl⟩ := Int.eq_ofNat_of_zero_le h.1
  exact ⟨s, rfl, by have := h.2; exact_mod_cast this⟩
theorem iSetOk (net : List Int) (set : Int) : Ev (fun k => impl_setOk.f k net set) (decide (NetP net ∧ SetP net set)) := by
  unfold impl_setOk.f
  refine Ev.bnd (iNetOk net) (Ev.iteS (fun h => ?_) (fun h => Ev.val ?_))
  · simp only [decide_eq_true_eq] at h
    have hn := h.hi
    rw [shl_one _ (by omega)]
    refine Ev.iteS (fun h1 => Ev.val ?_) (fun h1 => Ev.val ?_)
    · rw [Bool.eq_iff_iff]; simp only [decide_eq_true_eq]; unfold SetP
      simp only [Int.natCast_pow, Int.cast_ofNat_Int]
      exact ⟨fun e => ⟨h, h1, e⟩, fun e => e.2.2⟩
    · symm; simp only [decide_eq_false_iff_not]; exact fun e => h1 e.2.1
  · symm; simp only [decide_eq_true_eq] at h; simp only [decide_eq_false_iff_not]; exact fun e => h e.1
/-- What SpreadSet returns. -/
def spreadR (net needs : List Int) (set : Int) : Int × Int :=
  if NeedsP net needs ∧ SetP net set then (((lit net needs set.toNat : Nat) : Int), ((litAt net needs set.toNat : Nat) : Int)) else (-1, -1)
theorem iSpreadSet (net needs : List Int) (set : Int) (hn : needs.length ≤ 1048577) : Ev (fun k => impl_SpreadSet.f k net needs set) (spreadR net needs set) := by
  unfold impl_SpreadSet.f
  refine Ev.bnd (iNeedsOk net needs hn) (Ev.iteS (fun h => ?_) (fun h => Ev.val ?_))
  · simp only [decide_eq_true_eq] at h
    refine Ev.bnd (iSetOk net set) (Ev.iteS (fun h2 => ?_) (fun h2 => Ev.val ?_))
    · simp only [decide_eq_true_eq] at h2
      obtain ⟨s, rfl, hs⟩ := h2.2.nat
      refine Ev.bnd (spread_f h hs) (Ev.val ?_)
      unfold spreadR; rw [if_pos ⟨h, h2.2⟩, Int.toNat_natCast]
    · simp only [decide_eq_true_eq] at h2
      unfold spreadR; rw [if_neg (fun e => h2 ⟨h.1, e.2⟩)]
  · simp only [decide_eq_true_eq] at h
    unfold spreadR; rw [if_neg (fun e => h e.1)]
end Go.Proofs.Ythkngbdijoeolaa.Pure
