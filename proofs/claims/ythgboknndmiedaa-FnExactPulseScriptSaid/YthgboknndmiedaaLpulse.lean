/- Plain laws on what the functions compute. -/
import Derived.Test.YthgboknndmiedaaKit
import Derived.Test.YthgboknndmiedaaLlights
import Derived.Test.YthgboknndmiedaaLnetok
import Derived.Test.YthgboknndmiedaaF4
set_option linter.unusedVariables false
set_option linter.unusedSimpArgs false
namespace Go.Proofs.Ythgboknndmiedaa.Pure
open Go Go.RowKit Go.Proofs.Ythgboknndmiedaa.PAll Go.Proofs.YthgboknndmiedaaW.PrintWords Go.Proofs.YthgboknndmiedaaW.PrintLast Go.Proofs.YthgboknndmiedaaW.PrintMore Go.Proofs.Ythgboknndmiedaa.Kit
/-! ### PulseScript, both -/
def PulseP (node every many : Int) : Prop := 0 ≤ node ∧ node ≤ 5 ∧ 1 ≤ every ∧ every ≤ 60 ∧ 0 ≤ many ∧ many ≤ 8 ∧ (0 < many → every * (many - 1) < 60)
instance (a b c : Int) : Decidable (PulseP a b c) := by unfold PulseP; infer_instance
def pulses (node every : Int) (n : Nat) : List S43 := (List.range n).map (fun (i : Nat) => (⟨every * (i : Int), node⟩ : S43))
theorem pulses_succ (node every : Int) (n : Nat) : pulses node every (n + 1) = pulses node every n ++ [⟨every * (n : Int), node⟩] := by simp [pulses, List.range_succ]
theorem pulses_len (node every : Int) (n : Nat) : (pulses node every n).length = n := by simp [pulses]
def pulseR (node every many : Int) : List S43 := if PulseP node every many then pulses node every many.toNat else []
theorem pulse_mul {e : Int} {n : Nat} (h1 : 1 ≤ e) (h2 : e ≤ 60) (hn : n ≤ 8) : 0 ≤ e * (n : Int) ∧ e * (n : Int) ≤ 480 := by
  have : e * (n : Int) ≤ 60 * 8 := Int.mul_le_mul h2 (by omega) (by omega) (by omega)
  exact ⟨Int.mul_nonneg (by omega) (by omega), by omega⟩
theorem sPulse (a b c : Int) : Ev (fun k => spec_PulseScript.f k a b c) (pulseR a b c) := by
  unfold spec_PulseScript.f
  have out : ¬ PulseP a b c → Ev (fun k => spec_PulseScript.j0 k a b c [] true) (pulseR a b c) := fun h =>
    Ev.step (fun k => by rw [spec_PulseScript.j0]) (Ev.pos rfl (Ev.val (by unfold pulseR; rw [if_neg h])))
  have go : PulseP a b c → Ev (fun k => spec_PulseScript.j0 k a b c [] false) (pulseR a b c) := by
    intro h
    refine Ev.step (fun k => by rw [spec_PulseScript.j0]) (Ev.neg (by decide) ?_)
    unfold pulseR; rw [if_pos h]
    obtain ⟨h1, h2, h3, h4, h5, h6, h7⟩ := h
    obtain ⟨n, rfl⟩ := Int.eq_ofNat_of_zero_le h5
    rw [Int.toNat_natCast]
    refine ev_for (F := fun k x s => spec_PulseScript.l0 k a b (n : Int) s x) (n := n) (out := fun _ _ => pulses a b n) (I := fun i s => s = pulses a b i) ?_ ?_ n 0 (by omega) _ rfl
    · rintro s rfl
      exact Ev.step (fun k => by rw [spec_PulseScript.l0]) (Ev.neg (by omega) (Ev.now _))
    · rintro i s hi rfl ih
      have := pulse_mul (n := i) h3 h4 (by omega)
      refine Ev.step (fun k => by rw [spec_PulseScript.l0]) (Ev.pos (by omega) (Ev.pos (by rw [pulses_len]; omega) ?_))
      rw [w64s i (by omega), w64 (by omega) (by omega)]
      exact ih _ (pulses_succ a b i).symm
  refine Ev.bnd0 rfl (Ev.bnd0 (l1In_eq _ _ _) (Ev.iteS (fun h1 => Ev.bnd0 (l1In_eq _ _ _) (Ev.iteS (fun h2 => Ev.bnd0 (l1In_eq _ _ _) (Ev.iteS (fun h3 => Ev.iteS (fun h4 => ?_) (fun h4 => ?_)) (fun h3 => ?_))) (fun h2 => ?_))) (fun h1 => ?_)))
  all_goals simp only [decide_eq_true_eq] at *
  · have hm : 0 ≤ b * (c - 1) ∧ b * (c - 1) ≤ 480 := by
      have := pulse_mul (e := b) (n := (c - 1).toNat) h2.1 h2.2 (by omega)
      rwa [Int.toNat_of_nonneg (by omega)] at this
    rw [w64 (x := c - 1) (by omega) (by omega), w64 (x := b * (c - 1)) (by omega) (by omega)]
    by_cases h5 : b * (c - 1) ≥ 60
    · rw [decide_eq_true h5]; exact out (fun h => by have := h.2.2.2.2.2.2 h4; omega)
    · rw [decide_eq_false h5]; exact go ⟨h1.1, h1.2, h2.1, h2.2, h3.1, h3.2, fun _ => by omega⟩
  · exact go ⟨h1.1, h1.2, h2.1, h2.2, h3.1, h3.2, fun h => absurd h h4⟩
  · exact out (fun h => h3 ⟨h.2.2.2.2.1, h.2.2.2.2.2.1⟩)
  · exact out (fun h => h2 ⟨h.2.2.1, h.2.2.2.1⟩)
  · exact out (fun h => h1 ⟨h.1, h.2.1⟩)
theorem iPulse (a b c : Int) : Ev (fun k => impl_PulseScript.f k a b c) (pulseR a b c) := by
  unfold impl_PulseScript.f
  have out : ¬ PulseP a b c → Ev (fun k => impl_PulseScript.j0 k a b c true) (pulseR a b c) := fun h =>
    Ev.step (fun k => by rw [impl_PulseScript.j0]) (Ev.pos rfl (Ev.val (by unfold pulseR; rw [if_neg h])))
  have out' : ∀ q : Bool, q = true → ¬ PulseP a b c → Ev (fun k => impl_PulseScript.j0 k a b c q) (pulseR a b c) := fun q h => h ▸ out
  refine Ev.iteS (fun h => out (fun p => by have := p.1; omega)) (fun g1 => Ev.iteS (fun h => out (fun p => by have := p.2.1; omega)) (fun g2 => Ev.iteS (fun h => out (fun p => by have := p.2.2.1; omega)) (fun g3 => Ev.iteS (fun h => out (fun p => by have := p.2.2.2.1; omega)) (fun g4 => Ev.iteS (fun h => out (fun p => by have := p.2.2.2.2.1; omega)) (fun g5 => ?_)))))
  by_cases g6 : c > 8
  · rw [decide_eq_true g6]; exact out (fun p => by have := p.2.2.2.2.2.1; omega)
  rw [decide_eq_false g6]
  refine Ev.step (fun k => by rw [impl_PulseScript.j0]) (Ev.neg (by decide) ?_)
  obtain ⟨n, rfl⟩ := Int.eq_ofNat_of_zero_le (show 0 ≤ c by omega)
  have step : ∀ (i : Nat), i < n → ∀ r, Ev (fun k => if b * (i : Int) ≥ 60 then some ([] : List S43) else impl_PulseScript.l0 k a b (pulses a b (i + 1)) (n : Int) ((i + 1 : Nat) : Int)) r → Ev (fun k => impl_PulseScript.l0 k a b (pulses a b i) (n : Int) (i : Int)) r := by
    intro i hi r h
    have := pulse_mul (e := b) (n := i) (by omega) (by omega) (by omega)
    have e2 : wrap64 ((i : Int) * b) = b * (i : Int) := by rw [Int.mul_comm, w64 (by omega) (by omega)]
    refine Ev.step (fun k => by rw [impl_PulseScript.l0]) (Ev.pos (by omega) ?_)
    rw [e2, w64s i (by omega)]
    rw [pulses_succ] at h
    by_cases h60 : b * (i : Int) ≥ 60
    · refine Ev.pos h60 ?_
      exact Ev.congr (fun _ => by rw [if_pos h60]) h
    · refine Ev.neg h60 (Ev.pos (by rw [pulses_len]; omega) ?_)
      exact Ev.congr (fun _ => by rw [if_neg h60]) h
  unfold pulseR
  by_cases hp : PulseP a b n
  · rw [if_pos hp, Int.toNat_natCast]
    refine ev_for (F := fun k x s => impl_PulseScript.l0 k a b s (n : Int) x) (n := n) (out := fun _ _ => pulses a b n) (I := fun i s => s = pulses a b i) ?_ ?_ n 0 (by omega) _ rfl
    · rintro s rfl
      exact Ev.step (fun k => by rw [impl_PulseScript.l0]) (Ev.neg (by omega) (Ev.now _))
    · rintro i s hi rfl ih
      refine step i hi _ (Ev.neg ?_ (ih _ rfl))
      have := hp.2.2.2.2.2.2 (by omega)
      have hle : b * (i : Int) ≤ b * ((n : Int) - 1) := Int.mul_le_mul_of_nonneg_left (by omega) (by omega)
      omega
  · rw [if_neg hp]
    have hn : 0 < n ∧ b * ((n : Int) - 1) ≥ 60 := by
      refine Classical.byContradiction (fun h => hp ⟨by omega, by omega, by omega, by omega, by omega, by omega, fun h' => ?_⟩)
      refine Classical.byContradiction (fun h'' => h ⟨by omega, by omega⟩)
    have H : ∀ d i : Nat, i + d = n → i < n → Ev (fun k => impl_PulseScript.l0 k a b (pulses a b i) (n : Int) (i : Int)) [] := by
      intro d
      induction d with
      | zero => intro i h1 h2; omega
      | succ d ih =>
        intro i h1 h2
        refine step i h2 _ (Ev.iteS (fun _ => Ev.now _) (fun h3 => ?_))
        by_cases h4 : i + 1 < n
        · exact ih (i + 1) (by omega) h4
        · have e : ((n : Int) - 1) = (i : Int) := by omega
          rw [e] at hn; exact absurd hn.2 h3
    exact H n 0 (by omega) hn.1
end Go.Proofs.Ythgboknndmiedaa.Pure
