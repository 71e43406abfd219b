/- Plain laws on what the functions compute. -/
import Derived.Test.YthgboknndmiedaaKit
import Derived.Test.YthgboknndmiedaaF0
import Derived.Deep.SlicePairs
set_option linter.unusedVariables false
set_option linter.unusedSimpArgs false
namespace Go.Proofs.Ythgboknndmiedaa.Pure
open Go Go.RowKit Go.Proofs.Ythgboknndmiedaa.PAll Go.Proofs.YthgboknndmiedaaW.PrintWords Go.Proofs.YthgboknndmiedaaW.PrintLast Go.Proofs.YthgboknndmiedaaW.PrintMore Go.Proofs.Ythgboknndmiedaa.Kit
/-! ### a slice of lights that came in -/
open Go.ChangeShapes Go.WideShapes in
theorem open_lights {H : Type} {enc : TypeId × Value → H} {P : Program} {w : World} {base : Nat} {spare : Nat → Bool} {held : Bool} {t e : TypeId} {f0 f1 : Field} {fuel : Nat} {a : Option Addr} {len cap : Nat} {x : DataW H × List MemPlace}
    (ht : P.underlying t = some (.slice e)) (he : P.underlying e = some (.struct #[f0, f1])) (ce : P.cellsOf e = 2) (o0 : f0.offset = 0) (o1 : f1.offset = 1) (c0 : P.cellsOf f0.type = 1) (c1 : P.cellsOf f1.type = 1)
    (u0 : P.underlying f0.type = some (.int .i64)) (u1 : P.underlying f1.type = some (.int .i64))
    (h : DataW.trod enc P w base spare held fuel t [.slice a len cap] = some x) :
    ∃ l : List S45, l.length = len ∧ len ≤ cap ∧ len ≤ maxLen ∧ Kd.C k45 w a len l ∧ ∀ y ∈ l, (Lit.int .i64 y.f0).wf = true ∧ (Lit.int .i64 y.f1).wf = true := by
  rcases Go.Deep.open_slice_pairs ht he ce o0 o1 c0 c1 h with ⟨hcs, _⟩ | ⟨b, len', cap', m, n, V0, V1, D0, D1, P0, P1, hcs, _, hl, hm, hmm, _, hi⟩
  · simp at hcs
    obtain ⟨rfl, rfl, rfl⟩ := hcs
    exact ⟨[], rfl, Nat.le_refl _, by simp, ⟨rfl, by simp, fun h => absurd h (Nat.lt_irrefl 0)⟩, fun y hy => by cases hy⟩
  · simp at hcs
    obtain ⟨rfl, rfl, rfl⟩ := hcs
    have hlm : len ≤ m := by rw [hmm]; split <;> omega
    have each : ∀ i, i < len → ∃ q : Int × Int, w.cell? (b.add (i * 2)) = some (.int .i64 q.1) ∧ w.cell? (b.add (i * 2 + 1)) = some (.int .i64 q.2) ∧ (Lit.int .i64 q.1).wf = true ∧ (Lit.int .i64 q.2).wf = true := by
      intro i hlt
      obtain ⟨g0, g1, g2, g3⟩ := hi i (by omega)
      obtain ⟨n0, h0, _, hw0⟩ := DataW.trod_int u0 g2
      obtain ⟨n1, h1, _, hw1⟩ := DataW.trod_int u1 g3
      simp at h0 h1
      exact ⟨(n0, n1), by rw [g0, h0], by rw [g1, h1], hw0, hw1⟩
    obtain ⟨q, hq⟩ := Go.Deep.choose_lt each
    refine ⟨(List.range len).map (fun i => ⟨(q i).1, (q i).2⟩), by simp, hl, by omega, ⟨by simp, by simp only [maxLen] at hm; omega, fun _ => ⟨b, rfl, fun j p hj => ?_⟩⟩, fun y hy => ?_⟩
    · simp only [List.getElem?_map] at hj
      obtain ⟨i, hi', rfl⟩ := Option.map_eq_some_iff.1 hj
      obtain ⟨hlt, hji⟩ := List.getElem?_eq_some_iff.1 hi'
      simp at hji hlt
      subst hji
      refine ⟨_, rfl, k45_mk w _, fun i u hu => ?_⟩
      match i, hu with
      | 0, hu => simp at hu; subst hu; exact (hq j hlt).1
      | 1, hu => simp at hu; subst hu; exact (hq j hlt).2.1
      | i + 2, hu => simp at hu
    · simp only [List.mem_map, List.mem_range] at hy
      obtain ⟨i, hlt, rfl⟩ := hy
      exact ⟨(hq i hlt).2.2.1, (hq i hlt).2.2.2⟩
end Go.Proofs.Ythgboknndmiedaa.Pure
