/- Plain laws on what the functions compute. -/
import Derived.Test.YthkngbdijoeolaaKit
import Derived.Test.YthkngbdijoeolaaLspread2
import Derived.Test.YthkngbdijoeolaaF39
set_option linter.unusedVariables false
set_option linter.unusedSimpArgs false
namespace Go.Proofs.Ythkngbdijoeolaa.Pure
open Go Go.RowKit Go.Proofs.Ythkngbdijoeolaa.PAll Go.Proofs.YthkngbdijoeolaaW.PrintWords Go.Proofs.YthkngbdijoeolaaW.PrintLast Go.Proofs.YthkngbdijoeolaaW.PrintMore Go.Proofs.Ythkngbdijoeolaa.Kit
/-! ### LeastSpark, both -/
def Full (net needs : List Int) (s : Nat) : Prop := lit net needs s = 2 ^ net.length - 1
instance (net needs : List Int) (s : Nat) : Decidable (Full net needs s) := by unfold Full; infer_instance
/-- The best one of the first m sets. -/
def bestTo (net needs : List Int) : Nat → Nat
  | 0 => 2 ^ net.length - 1
  | m + 1 => if pcn m < pcn (bestTo net needs m) ∧ Full net needs m then m else bestTo net needs m
def spark (net needs : List Int) : Nat := bestTo net needs (2 ^ net.length)
theorem bestTo_yes {net needs : List Int} {m : Nat} (h : pcn m < pcn (bestTo net needs m)) (h' : Full net needs m) : bestTo net needs (m + 1) = m := by rw [bestTo, if_pos ⟨h, h'⟩]
theorem bestTo_no {net needs : List Int} {m : Nat} (h : ¬ (pcn m < pcn (bestTo net needs m) ∧ Full net needs m)) : bestTo net needs (m + 1) = bestTo net needs m := by rw [bestTo, if_neg h]
theorem bestTo_lt (net needs : List Int) : ∀ m, m ≤ 2 ^ net.length → bestTo net needs m < 2 ^ net.length := by
  intro m
  induction m with
  | zero => intro _; rw [bestTo]; have := Nat.two_pow_pos net.length; omega
  | succ m ih =>
    intro hm
    rw [bestTo]
    by_cases h : pcn m < pcn (bestTo net needs m) ∧ Full net needs m
    · rw [if_pos h]; omega
    · rw [if_neg h]; exact ih (by omega)
theorem full_full {net : List Int} (hn : net.length ≤ 6) (needs : List Int) : Full net needs (2 ^ net.length - 1) := by
  have h2 := Nat.two_pow_pos net.length
  have h1 := lit_lt (net := net) (needs := needs) (s := 2 ^ net.length - 1) (by omega)
  refine sub_ext (fun i hi => ?_) (lit_is hn _).sub
  rw [full_bit]; simpa using bit_lt h1 hi
theorem bestTo_full {net : List Int} (hn : net.length ≤ 6) (needs : List Int) (m : Nat) : Full net needs (bestTo net needs m) := by
  induction m with
  | zero => rw [bestTo]; exact full_full hn needs
  | succ m ih =>
    rw [bestTo]
    by_cases h : pcn m < pcn (bestTo net needs m) ∧ Full net needs m
    · rw [if_pos h]; exact h.2
    · rw [if_neg h]; exact ih
theorem bestTo_least {net needs : List Int} (m s : Nat) (hs : s < m) (hf : Full net needs s) : pcn (bestTo net needs m) ≤ pcn s := by
  induction m with
  | zero => omega
  | succ m ih =>
    rw [bestTo]
    by_cases e : s = m
    · subst e
      by_cases h : pcn s < pcn (bestTo net needs s) ∧ Full net needs s
      · rw [if_pos h]; omega
      · rw [if_neg h]
        exact Nat.le_of_not_lt (fun hx => h ⟨hx, hf⟩)
    · have := ih (by omega)
      by_cases h : pcn m < pcn (bestTo net needs m) ∧ Full net needs m
      · rw [if_pos h]; omega
      · rw [if_neg h]; exact this
theorem spark_lt (net needs : List Int) : spark net needs < 2 ^ net.length := bestTo_lt net needs _ (Nat.le_refl _)
theorem spark_full {net : List Int} (hn : net.length ≤ 6) (needs : List Int) : lit net needs (spark net needs) = 2 ^ net.length - 1 := bestTo_full hn needs _
theorem spark_least {net needs : List Int} {s : Nat} (hs : s < 2 ^ net.length) (hf : lit net needs s = 2 ^ net.length - 1) : pcn (spark net needs) ≤ pcn s := bestTo_least _ s hs hf
/-- What LeastSpark returns. -/
def sparkR (net needs : List Int) : Int := if NeedsP net needs then ((spark net needs : Nat) : Int) else -1
theorem top_nat {n : Nat} (hn : n ≤ 6) : wrap64 (shl .i64 1 (n : Int) - 1) = ((2 ^ n - 1 : Nat) : Int) := by
  rw [top_eq hn]; have := Nat.two_pow_pos n; rw [Int.natCast_sub (by omega)]; simp
theorem iLeastSpark (net needs : List Int) (hq : needs.length ≤ 1048577) : Ev (fun k => impl_LeastSpark.f k net needs) (sparkR net needs) := by
  unfold impl_LeastSpark.f
  refine Ev.bnd (iNeedsOk net needs hq) (Ev.iteS (fun h => ?_) (fun h => ?_))
  · simp only [decide_eq_true_eq] at h
    have hn := h.1.hi
    have h64 := pow_le64 hn
    unfold sparkR; rw [if_pos h, top_nat hn, shl_one _ (by omega)]
    refine ev_for (F := fun k x a => impl_LeastSpark.l0 k net needs a ((2 ^ net.length : Nat) : Int) x) (n := 2 ^ net.length) (out := fun _ _ => ((spark net needs : Nat) : Int)) (I := fun i a => a = ((bestTo net needs i : Nat) : Int)) ?_ ?_ (2 ^ net.length) 0 (by omega) _ rfl
    · rintro a rfl
      refine Ev.step (fun k => by rw [impl_LeastSpark.l0]) (Ev.neg (by omega) ?_)
      exact Ev.now ((spark net needs : Nat) : Int)
    · rintro i a hi rfl ih
      have hb := bestTo_lt net needs i (by omega)
      refine Ev.step (fun k => by rw [impl_LeastSpark.l0]) (Ev.pos (by omega) ?_)
      refine Ev.bnd0 (ones (x := i) (by omega)) ?_
      refine Ev.bnd0 (ones (x := bestTo net needs i) (by omega)) ?_
      rw [w64s i (by omega), top_nat hn]
      refine Ev.iteS (fun hc => ?_) (fun hc => Ev.bnd (spread_f h hi) (Ev.iteS (fun hf => ?_) (fun hf => ?_)))
      · exact ih _ (by rw [bestTo_no (fun e => by omega)])
      · exact ih _ (by rw [bestTo_yes (by omega) (by have h' : ((lit net needs i : Nat) : Int) = ((2 ^ net.length - 1 : Nat) : Int) := hf; unfold Full; omega)])
      · have hx : ¬ (pcn i < pcn (bestTo net needs i) ∧ Full net needs i) := fun e => hf (show ((lit net needs i : Nat) : Int) = ((2 ^ net.length - 1 : Nat) : Int) by have := e.2; unfold Full at this; rw [this])
        exact ih _ (by rw [bestTo_no hx])
  · simp only [decide_eq_true_eq] at h
    unfold sparkR; rw [if_neg h]; exact Ev.now _
theorem sLeastSpark (net needs : List Int) (hq : needs.length ≤ 1048577) : Ev (fun k => spec_LeastSpark.f k net needs) (sparkR net needs) := by
  unfold spec_LeastSpark.f
  refine Ev.bnd (sNeedsOk net needs hq) (Ev.iteS (fun h => ?_) (fun h => ?_))
  · simp only [decide_eq_true_eq] at h
    have hn := h.1.hi
    have h64 := pow_le64 hn
    unfold sparkR; rw [if_pos h, top_nat hn]
    refine ev_for (F := fun k x a => spec_LeastSpark.l0 k net needs a x) (n := 2 ^ net.length) (out := fun _ _ => ((spark net needs : Nat) : Int)) (I := fun i a => a = ((bestTo net needs i : Nat) : Int)) ?_ ?_ (2 ^ net.length) 0 (by omega) _ rfl
    · rintro a rfl
      refine Ev.step (fun k => by rw [spec_LeastSpark.l0]) (Ev.neg (by rw [shl_one _ (by omega)]; omega) ?_)
      exact Ev.now ((spark net needs : Nat) : Int)
    · rintro i a hi rfl ih
      have hb := bestTo_lt net needs i (by omega)
      have hs := sSpreadSet net needs (i : Int) hq
      have e : spreadR net needs (i : Int) = (((lit net needs i : Nat) : Int), ((litAt net needs i : Nat) : Int)) := by
        unfold spreadR; rw [if_pos ⟨h, by omega, by exact_mod_cast hi⟩, Int.toNat_natCast]
      rw [e] at hs
      refine Ev.step (fun k => by rw [spec_LeastSpark.l0]) (Ev.pos (by rw [shl_one _ (by omega)]; omega) (Ev.bnd hs ?_))
      rw [w64s i (by omega), top_nat hn]
      refine Ev.iteS (fun hf => Ev.bnd (size4 (x := i) (by omega)) (Ev.bnd (size4 (x := bestTo net needs i) (by omega)) (Ev.iteS (fun hc => ?_) (fun hc => ?_)))) (fun hf => ?_)
      · exact ih _ (by rw [bestTo_yes (by omega) (by have h' : ((lit net needs i : Nat) : Int) = ((2 ^ net.length - 1 : Nat) : Int) := hf; unfold Full; omega)])
      · exact ih _ (by rw [bestTo_no (fun e => by omega)])
      · have hx : ¬ (pcn i < pcn (bestTo net needs i) ∧ Full net needs i) := fun e => hf (show ((lit net needs i : Nat) : Int) = ((2 ^ net.length - 1 : Nat) : Int) by have := e.2; unfold Full at this; rw [this])
        exact ih _ (by rw [bestTo_no hx])
  · simp only [decide_eq_true_eq] at h
    unfold sparkR; rw [if_neg h]; exact Ev.now _
end Go.Proofs.Ythkngbdijoeolaa.Pure
