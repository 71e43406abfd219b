/- Plain laws on what the functions compute. -/
import Derived.Test.YthgboknndmiedaaKit
import Derived.Test.YthgboknndmiedaaLlights
import Derived.Test.YthgboknndmiedaaF0
set_option linter.unusedVariables false
set_option linter.unusedSimpArgs false
namespace Go.Proofs.Ythgboknndmiedaa.Pure
open Go Go.RowKit Go.Proofs.Ythgboknndmiedaa.PAll Go.Proofs.YthgboknndmiedaaW.PrintWords Go.Proofs.YthgboknndmiedaaW.PrintLast Go.Proofs.YthgboknndmiedaaW.PrintMore Go.Proofs.Ythgboknndmiedaa.Kit
/-! ### lights of the laws, as the program's -/
def toL (l : List S45) : List S43 := l.map (fun x => (⟨x.f0, x.f1⟩ : S43))
theorem toL_len (l : List S45) : (toL l).length = l.length := by simp [toL]
theorem szLightS (l : List S45) (hn : l.length ≤ 9223372036854775807) : laws_szLightS.f l 1048576 = some (if l.length ≤ 1048576 then 1048576 - (l.length : Int) else -1) := by
  unfold laws_szLightS.f
  rw [w64 (by omega) (by omega)]
  by_cases h : l.length ≤ 1048576
  · rw [if_neg (by omega), if_pos h]
  · rw [if_pos (by omega), if_neg h]
theorem toLight (a b : Int) : laws_toLight.f a b = some (a, b) := rfl
theorem toLightS (l : List S45) (hn : l.length ≤ 1048576) : Ev (fun k => laws_toLightS.f k l) (toL l) := by
  unfold laws_toLightS.f
  refine Ev.pos (by omega) (Ev.pos (by omega) ?_)
  refine ev_for (F := fun k x s => laws_toLightS.l0 k l s x) (n := l.length) (out := fun _ _ => toL l) (I := fun i s => s.length = l.length ∧ ∀ j, j < i → s.getD j z43 = (toL l).getD j z43) ?_ ?_ l.length 0 (by omega) _ ⟨by simp, fun j h => by omega⟩
  · rintro s ⟨h1, h2⟩
    refine Ev.step (fun k => by rw [laws_toLightS.l0]) (Ev.neg (by omega) (Ev.val (extL (by rw [toL_len]; exact h1) (fun j hj => h2 j (by omega)))))
  · rintro i s hi ⟨h1, h2⟩ ih
    refine Ev.step (fun k => by rw [laws_toLightS.l0]) (Ev.pos (by omega) (Ev.pos (by omega) ?_))
    refine Ev.bnd0 (toLight _ _) ?_
    refine Ev.pos (by omega) ?_
    rw [w64s i (by omega)]
    refine ih _ ⟨by simp [h1], fun j hj => ?_⟩
    rw [Int.toNat_natCast, setL _ _ _ _ (by omega)]
    by_cases e : i = j
    · subst e
      rw [if_pos rfl]
      simp [rd_T45, toL, List.getD_eq_getElem?_getD, List.getElem?_map, List.getElem?_eq_getElem hi]
    · rw [if_neg e]; exact h2 j (by omega)
end Go.Proofs.Ythgboknndmiedaa.Pure
