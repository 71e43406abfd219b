/- Plain laws on what the functions compute. -/
import Derived.Test.YthgboknndmiedaaKit
import Derived.Test.YthgboknndmiedaaLlights
import Derived.Test.YthgboknndmiedaaLnetok
import Derived.Test.YthgboknndmiedaaF0
set_option linter.unusedVariables false
set_option linter.unusedSimpArgs false
namespace Go.Proofs.Ythgboknndmiedaa.Pure
open Go Go.RowKit Go.Proofs.Ythgboknndmiedaa.PAll Go.Proofs.YthgboknndmiedaaW.PrintWords Go.Proofs.YthgboknndmiedaaW.PrintLast Go.Proofs.YthgboknndmiedaaW.PrintMore Go.Proofs.Ythgboknndmiedaa.Kit
/-! ### ScriptOk, both -/
def LightP (nodes : Int) (l : List S43) (i : Nat) : Prop :=
  0 ≤ (l.getD i z43).f0 ∧ (l.getD i z43).f0 ≤ 59 ∧ 0 ≤ (l.getD i z43).f1 ∧ (l.getD i z43).f1 < nodes ∧
    (0 < i → (l.getD (i - 1) z43).f0 < (l.getD i z43).f0 ∨ ((l.getD i z43).f0 = (l.getD (i - 1) z43).f0 ∧ (l.getD (i - 1) z43).f1 < (l.getD i z43).f1))
instance (nodes : Int) (l : List S43) (i : Nat) : Decidable (LightP nodes l i) := by unfold LightP; infer_instance
def ScriptP (nodes : Int) (l : List S43) : Prop := 1 ≤ nodes ∧ nodes ≤ 6 ∧ l.length ≤ 8 ∧ ∀ i, i < l.length → LightP nodes l i
instance (nodes : Int) (l : List S43) : Decidable (ScriptP nodes l) := by unfold ScriptP; infer_instance
theorem w64p (i : Nat) (h0 : 0 < i) (h : i < 9223372036854775807) : wrap64 ((i : Int) - 1) = ((i - 1 : Nat) : Int) := by unfold wrap64; omega
theorem sScript_j1 (nodes : Int) (l : List S43) (hn : l.length ≤ 9223372036854775806) (i : Nat) (hi : i < l.length) {b : Bool} {Q : Prop} [Decidable Q]
    (hq : Q ↔ (0 < i → (l.getD (i - 1) z43).f0 < (l.getD i z43).f0 ∨ ((l.getD i z43).f0 = (l.getD (i - 1) z43).f0 ∧ (l.getD (i - 1) z43).f1 < (l.getD i z43).f1)))
    (h : Ev (fun k => if Q then spec_ScriptOk.l0 k nodes l ((i + 1 : Nat) : Int) else some false) b) : Ev (fun k => spec_ScriptOk.j1 k nodes l (i : Int) false) b := by
  refine Ev.step (fun k => by rw [spec_ScriptOk.j1]) (Ev.neg (by decide) ?_)
  by_cases h0 : 0 < i
  · rw [w64p i h0 (by omega), rdL, rdL, w64s i (by omega)]
    refine Ev.pos (by omega) (Ev.pos (by omega) (Ev.pos (by omega) (Ev.pos (by omega) (Ev.pos (by omega) ?_))))
    by_cases q : Q
    · have h' := Ev.congr (fun k => (if_pos q).symm) h
      rcases (hq.1 q) h0 with q1 | ⟨q1, q2⟩
      · exact Ev.neg (by omega) (Ev.neg (by omega) h')
      · exact Ev.neg (by omega) (Ev.pos (by omega) (Ev.neg (by omega) h'))
    · have h' := Ev.congr (fun k => (if_neg q).symm) h
      have q' : ¬ ((l.getD (i - 1) z43).f0 < (l.getD i z43).f0 ∨ ((l.getD i z43).f0 = (l.getD (i - 1) z43).f0 ∧ (l.getD (i - 1) z43).f1 < (l.getD i z43).f1)) := fun e => q (hq.2 (fun _ => e))
      refine Ev.iteS (fun _ => h') (fun g1 => Ev.iteS (fun g2 => Ev.iteS (fun _ => h') (fun g3 => ?_)) (fun g2 => ?_))
      · exact absurd (.inr ⟨g2, by omega⟩) q'
      · exact absurd (.inl (by omega)) q'
  · refine Ev.neg (by omega) ?_
    rw [w64s i (by omega)]
    exact Ev.congr (fun k => (if_pos (hq.2 (fun e => absurd e h0))).symm) h
theorem script_val (nodes : Int) (l : List S43) (h : ∀ i, i < l.length → LightP nodes l i) :
    (if (decide (1 ≤ nodes ∧ nodes ≤ 6)) = true then some (decide ((l.length : Int) ≤ 8)) else some false) = some (decide (ScriptP nodes l)) := by
  by_cases h1 : 1 ≤ nodes ∧ nodes ≤ 6
  · rw [if_pos (decide_eq_true h1)]; congr 1; rw [Bool.eq_iff_iff]; simp only [decide_eq_true_eq]
    exact ⟨fun e => ⟨h1.1, h1.2, by omega, h⟩, fun e => by have := e.2.2.1; omega⟩
  · rw [if_neg (by simpa using h1)]; congr 1; symm; simp only [decide_eq_false_iff_not]; exact fun e => h1 ⟨e.1, e.2.1⟩
theorem sScriptOk (nodes : Int) (l : List S43) (hn : l.length ≤ 9223372036854775806) : Ev (fun k => spec_ScriptOk.f k nodes l) (decide (ScriptP nodes l)) := by
  unfold spec_ScriptOk.f
  have out : ∀ i : Nat, Ev (fun k => spec_ScriptOk.j1 k nodes l (i : Int) true) false := fun i => Ev.step (fun k => by rw [spec_ScriptOk.j1]) (Ev.pos rfl (Ev.now _))
  have H := ev_scan (F := fun k x => spec_ScriptOk.l0 k nodes l x) (n := l.length) (P := LightP nodes l) (r := decide (ScriptP nodes l)) (r' := false) (fun h => ?_) (fun i hi hp b hb => ?_) (fun i hi _ hp => ?_)
  · refine Ev.to H ?_
    by_cases h : ∀ i, i < l.length → LightP nodes l i
    · rw [if_pos h]
    · rw [if_neg h]; symm; simp only [decide_eq_false_iff_not]; exact fun e => h e.2.2.2
  · refine Ev.step (fun k => by rw [spec_ScriptOk.l0]) (Ev.neg (by omega) ?_)
    refine Ev.bnd0 (l1In_eq _ _ _) ?_
    rw [script_val nodes l h]; exact Ev.now _
  · obtain ⟨p1, p2, p3, p4, p5⟩ := hp
    refine Ev.step (fun k => by rw [spec_ScriptOk.l0]) (Ev.pos (by omega) (Ev.pos (by omega) (Ev.bnd0 (l1In_eq _ _ _) ?_)))
    rw [rdL]
    refine Ev.pos (decide_eq_true ⟨p1, p2⟩) (Ev.neg (by omega) ?_)
    rw [decide_eq_false (by omega)]
    exact sScript_j1 nodes l hn i hi Iff.rfl (Ev.pos p5 hb)
  · refine Ev.step (fun k => by rw [spec_ScriptOk.l0]) (Ev.pos (by omega) (Ev.pos (by omega) (Ev.bnd0 (l1In_eq _ _ _) ?_)))
    rw [rdL]
    refine Ev.iteS (fun g1 => Ev.iteS (fun g2 => out i) (fun g2 => ?_)) (fun g1 => out i)
    simp only [decide_eq_true_eq] at g1
    by_cases g3 : (l.getD i z43).f1 ≥ nodes
    · rw [decide_eq_true g3]; exact out i
    · rw [decide_eq_false g3]
      exact sScript_j1 nodes l hn i hi Iff.rfl (Ev.neg (fun e => hp ⟨g1.1, g1.2, by omega, by omega, e⟩) (Ev.now _))
theorem iScript_j1 (nodes : Int) (l : List S43) (hn : l.length ≤ 9223372036854775806) (i : Nat) (hi : i < l.length) {b : Bool} {Q : Prop} [Decidable Q]
    (hq : Q ↔ (0 < i → (l.getD (i - 1) z43).f0 < (l.getD i z43).f0 ∨ ((l.getD i z43).f0 = (l.getD (i - 1) z43).f0 ∧ (l.getD (i - 1) z43).f1 < (l.getD i z43).f1)))
    (h : Ev (fun k => if Q then impl_ScriptOk.l0 k nodes l l (l.length : Int) ((i + 1 : Nat) : Int) else some false) b) : Ev (fun k => impl_ScriptOk.j1 k nodes l (i : Int) l (l.length : Int) (i : Int) false (l.getD i z43).f0 (l.getD i z43).f1) b := by
  refine Ev.step (fun k => by rw [impl_ScriptOk.j1]) (Ev.neg (by decide) ?_)
  by_cases h0 : 0 < i
  · rw [w64p i h0 (by omega), rdL, w64s i (by omega)]
    refine Ev.pos (by omega) (Ev.pos (by omega) (Ev.pos (by omega) ?_))
    by_cases q : Q
    · have h' := Ev.congr (fun k => (if_pos q).symm) h
      rcases (hq.1 q) h0 with q1 | ⟨q1, q2⟩
      · exact Ev.neg (by omega) (Ev.neg (by omega) h')
      · exact Ev.neg (by omega) (Ev.pos (by omega) (Ev.neg (by omega) h'))
    · have h' := Ev.congr (fun k => (if_neg q).symm) h
      have q' : ¬ ((l.getD (i - 1) z43).f0 < (l.getD i z43).f0 ∨ ((l.getD i z43).f0 = (l.getD (i - 1) z43).f0 ∧ (l.getD (i - 1) z43).f1 < (l.getD i z43).f1)) := fun e => q (hq.2 (fun _ => e))
      refine Ev.iteS (fun _ => h') (fun g1 => Ev.iteS (fun g2 => Ev.iteS (fun _ => h') (fun g3 => ?_)) (fun g2 => ?_))
      · exact absurd (.inr ⟨g2, by omega⟩) q'
      · exact absurd (.inl (by omega)) q'
  · refine Ev.neg (by omega) ?_
    rw [w64s i (by omega)]
    exact Ev.congr (fun k => (if_pos (hq.2 (fun e => absurd e h0))).symm) h
theorem iScriptOk (nodes : Int) (l : List S43) (hn : l.length ≤ 9223372036854775806) : Ev (fun k => impl_ScriptOk.f k nodes l) (decide (ScriptP nodes l)) := by
  unfold impl_ScriptOk.f
  have out : ∀ (i : Nat) x y, Ev (fun k => impl_ScriptOk.j1 k nodes l (i : Int) l (l.length : Int) (i : Int) true x y) false := fun i x y => Ev.step (fun k => by rw [impl_ScriptOk.j1]) (Ev.pos rfl (Ev.now _))
  have H := ev_scan (F := fun k x => impl_ScriptOk.l0 k nodes l l (l.length : Int) x) (n := l.length) (P := LightP nodes l) (r := decide (ScriptP nodes l)) (r' := false) (fun h => ?_) (fun i hi hp b hb => ?_) (fun i hi _ hp => ?_)
  · refine Ev.to H ?_
    by_cases h : ∀ i, i < l.length → LightP nodes l i
    · rw [if_pos h]
    · rw [if_neg h]; symm; simp only [decide_eq_false_iff_not]; exact fun e => h e.2.2.2
  · refine Ev.step (fun k => by rw [impl_ScriptOk.l0]) (Ev.neg (by omega) ?_)
    have e := script_val nodes l h
    by_cases h1 : 1 ≤ nodes ∧ nodes ≤ 6
    · rw [if_pos (decide_eq_true h1)] at e; rw [e]; exact Ev.pos h1.1 (Ev.pos h1.2 (Ev.now _))
    · rw [if_neg (by simpa using h1)] at e
      refine Ev.iteS (fun g1 => Ev.neg (fun g2 => h1 ⟨g1, g2⟩) (Ev.val (Option.some.inj e))) (fun g1 => Ev.val (Option.some.inj e))
  · obtain ⟨p1, p2, p3, p4, p5⟩ := hp
    refine Ev.step (fun k => by rw [impl_ScriptOk.l0]) (Ev.pos (by omega) (Ev.pos (by omega) (Ev.pos (by omega) ?_)))
    rw [rdL]
    refine Ev.neg (by omega) (Ev.neg (by omega) (Ev.neg (by omega) ?_))
    rw [decide_eq_false (by omega)]
    exact iScript_j1 nodes l hn i hi Iff.rfl (Ev.pos p5 hb)
  · refine Ev.step (fun k => by rw [impl_ScriptOk.l0]) (Ev.pos (by omega) (Ev.pos (by omega) (Ev.pos (by omega) ?_)))
    rw [rdL]
    refine Ev.iteS (fun g1 => out i _ _) (fun g1 => Ev.iteS (fun g2 => out i _ _) (fun g2 => Ev.iteS (fun g3 => out i _ _) (fun g3 => ?_)))
    by_cases g4 : (l.getD i z43).f1 ≥ nodes
    · rw [decide_eq_true g4]; exact out i _ _
    · rw [decide_eq_false g4]
      exact iScript_j1 nodes l hn i hi Iff.rfl (Ev.neg (fun e => hp ⟨by omega, by omega, by omega, by omega, e⟩) (Ev.now _))
end Go.Proofs.Ythgboknndmiedaa.Pure
