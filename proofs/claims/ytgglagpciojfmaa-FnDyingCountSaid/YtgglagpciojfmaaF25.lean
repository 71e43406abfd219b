/- Own text of this session, written by a program of this session (wip/t/own.py) out of what the kit tells of the functions: each Go function as a Lean function, and the walk through its code. -/
import Derived.Test.YtgglagpciojfmaaT
import Derived.Test.YtgglagpciojfmaaF13
import Derived.Test.YtgglagpciojfmaaF7
import Derived.Test.YtgglagpciojfmaaF8
namespace Go.Proofs.Ytgglagpciojfmaa.PAll
open Go.RowKit Go.Proofs.YtgglagpciojfmaaW.PrintWords Go.Proofs.YtgglagpciojfmaaW.PrintLast Go.Proofs.YtgglagpciojfmaaW.PrintMore
attribute [local go_sem] max2_int min2_int max_two min_two max_three min_three max_four min_four   -- for this text's walks alone
set_option linter.unusedVariables false
set_option linter.unusedSimpArgs false

/-! ### impl_EndsAt: function 43 -/
def impl_EndsAt.l0 : Nat → List Int → Int → List Int → List Int → Int → Option Int
 | 0, _, _, _, _, _ => none
 | k + 1, x0, x1, x2, x7, x8 => (impl_NumberOf.f k x1 x2).bind fun t => if t = 0 then some x8 else if 0 ≤ t ∧ t < 1000000 ∧ x7.length < 1000000 then (if x7.contains t = true then some (-1) else (impl_needStep0.f k x0 x1 ([] : List Int) x2).bind fun s => impl_EndsAt.l0 k x0 x1 s (x7 ++ [t]) (wrap64 (x8 + 1))) else none
def impl_EndsAt.f (k : Nat) (l0 : List Int) (a1 : Int) (l2 : List Int) : Option Int := (impl_asked.f k l0 a1 l2).bind fun t => if t = true then impl_EndsAt.l0 k l0 a1 l2 [] 0 else some (-1)
theorem impl_EndsAt.mono_l : ∀ k x0 x1 x2 x7 x8, LeO (impl_EndsAt.l0 k x0 x1 x2 x7 x8) (impl_EndsAt.l0 (k + 1) x0 x1 x2 x7 x8)
 | 0 => fun _ _ _ _ _ r h => by simp [impl_EndsAt.l0] at h
 | k + 1 => fun x0 x1 x2 x7 x8 => by
  rw [impl_EndsAt.l0, impl_EndsAt.l0]
  exact LeO.bind (impl_NumberOf.mono x1 x2 k) (fun t => LeO.ite (LeO.refl _) (LeO.ite (LeO.ite (LeO.refl _) (LeO.bind (impl_needStep0.mono x0 x1 [] x2 k) (fun s => impl_EndsAt.mono_l k _ _ _ _ _))) (LeO.refl _)))
theorem impl_EndsAt.mono : ∀ a0 a1 a2 k, LeO (impl_EndsAt.f k a0 a1 a2) (impl_EndsAt.f (k + 1) a0 a1 a2) := by
 intro a0 a1 a2 k
 unfold impl_EndsAt.f
 exact LeO.bind (impl_asked.mono a0 a1 a2 k) (fun t => LeO.ite (impl_EndsAt.mono_l k _ _ _ _ _) (LeO.refl _))
set_option maxHeartbeats 8000000 in
set_option maxRecDepth 100000 in
theorem impl_EndsAt.calls (k : Nat) (A0 : Option Addr) (c0 : Nat) (l0 : List Int) (a1 : Int) (A2 : Option Addr) (c2 : Nat) (l2 : List Int) (r : Int) (w : World) (hr0 : Kd.C (Kd.int .i64) w A0 l0.length l0) (hc0 : l0.length ≤ c0) (hr2 : Kd.C (Kd.int .i64) w A2 l2.length l2) (hc2 : l2.length ≤ c2) (h : impl_EndsAt.f k l0 a1 l2 = some r) :
  Calls Try.prog 43 #[.slice A0 l0.length c0, .int .i64 a1, .slice A2 l2.length c2] w fun e w' => e = .returned (.int .i64 r) ∧ Below w.heap.size w w' := by
 obtain ⟨t, h1, h2⟩ := Option.bind_eq_some_iff.1 h
 have hmm := @run_makeMap Try.prog
 have HC := Aside0.mk (impl_asked.calls k A0 c0 l0 a1 A2 c2 l2 t w hr0 hc0 hr2 hc2 h1)
 cases t
 ·rw [if_neg (by decide)] at h2
  obtain rfl := Option.some.inj h2
  clear h h1 h2 hr0 hc0 hr2 hc2
  go_enter Try.func43, Try.ntmps43
  go_wp2_with ((with_reducible refine gate_callee (f := 50) rfl ?_); refine goesL_ (some 13) rfl rfl Try.func50 (by kernel_rfl) rfl #[.slice A0 l0.length c0, .int .i64 a1, .slice A2 l2.length c2] rfl zA ?_; (with_reducible refine HC.out.mono ?_); rintro e w2 ⟨rfl, ⟨nd, rfl⟩⟩; refine ⟨_, rfl, ?_⟩)
  go_ret
  exact ⟨rfl, zB (Below.refl w.heap.size w)⟩
 ·rw [if_pos rfl] at h2
  have H' := Aside0.mk h2
  have HR0 := Aside0.mk hr0
  have HR2 := Aside0.mk hr2
  have HC0 := Aside0.mk hc0
  have HC2 := Aside0.mk hc2
  clear h h1 h2 hr0 hc0 hr2 hc2
  go_enter Try.func43, Try.ntmps43
  go_wp2_with ((with_reducible refine gate_callee (f := 50) rfl ?_); refine goesL_ (some 13) rfl rfl Try.func50 (by kernel_rfl) rfl #[.slice A0 l0.length c0, .int .i64 a1, .slice A2 l2.length c2] rfl zA ?_; (with_reducible refine HC.out.mono ?_); rintro e w2 ⟨rfl, ⟨nd, rfl⟩⟩; refine ⟨_, rfl, ?_⟩)
  go_loopg [2, 8] k (fun kq v2 v8 w' => ∃ (x2 : List Int) (A : Option Addr) (c : Nat) (x7 : List Int) (x8 : Int), v2 = .slice A x2.length c ∧ v8 = .int .i64 x8 ∧ Aside0 (impl_EndsAt.l0 kq l0 a1 x2 x7 x8 = some r) ∧ Aside0 (Kd.C (Kd.int .i64) w' A x2.length x2) ∧ Aside0 (x2.length ≤ c) ∧ Aside0 (w'.ownsMap Try.prog 3 (plainElem Try.prog 4) w.heap.size x7.length (impl_maps.D (.lit (.bool true)) x7)) ∧ Aside0 (Below w.heap.size w w'))
  case atStart => exact ⟨l2, A2, c2, [], 0, rfl, rfl, H', ⟨zC HR2.out⟩, HC2, ⟨World.ownsMap_made (w.drewN nd) Try.prog 3 (plainElem Try.prog 4)⟩, ⟨zB (Below.refl w.heap.size w)⟩⟩
  case round =>
   clear H' HC HC2 HR2
   obtain ⟨x2, A, c, x7, x8, rfl, rfl, HA, HS, HSc, HM, HB⟩ := hrel
   cases gk with
   | zero => exact absurd HA.out (by simp [impl_EndsAt.l0])
   | succ k1 =>
    have H := HA.out
    clear HA
    simp only [impl_EndsAt.l0] at H
    obtain ⟨t, ht, H⟩ := Option.bind_eq_some_iff.1 H
    have HNum := Aside0.mk (impl_NumberOf.calls k1 a1 A c x2 t wr HS.out HSc.out ht)
    clear ht
    by_cases c1 : t = 0
    ·rw [if_pos c1] at H
     obtain rfl := Option.some.inj H
     subst c1
     clear H
     go_wp2_with ((with_reducible refine gate_callee (f := 58) rfl ?_); refine goesL_ (some 20) rfl rfl Try.func58 (by kernel_rfl) rfl #[.int .i64 a1, .slice A x2.length c] rfl zA ?_; (with_reducible refine HNum.out.mono ?_); rintro e w2 ⟨rfl, ⟨nd2, rfl⟩⟩; refine ⟨_, rfl, ?_⟩)
     go_ret
     exact ⟨rfl, zB HB.out⟩
    ·rw [if_neg c1] at H
     have c1b0 : (t == 0) = false := beq_eq_false_iff_ne.mpr c1
     by_cases c2 : 0 ≤ t ∧ t < 1000000 ∧ x7.length < 1000000
     ·rw [if_pos c2] at H
      obtain ⟨g0, g1, g2⟩ := c2
      have hwf := impl_maps.wf g0 g1
      have hlook := fun nd => impl_maps.look (w := wr.drewN nd) (b := w.heap.size) (n := x7.length) (L := x7) HM.out hwf
      have hkey := impl_maps.hkey hwf
      have G2 := Aside0.mk g2
      clear g0 g1 g2 c1
      by_cases c3 : x7.contains t = true
      ·rw [if_pos c3] at H
       rw [c3] at hlook
       obtain rfl := Option.some.inj H
       clear H c3 hkey hwf
       go_wp2_with ((with_reducible refine gate_callee (f := 58) rfl ?_); refine goesL_ (some 20) rfl rfl Try.func58 (by kernel_rfl) rfl #[.int .i64 a1, .slice A x2.length c] rfl zA ?_; (with_reducible refine HNum.out.mono ?_); rintro e w2 ⟨rfl, ⟨nd2, rfl⟩⟩; refine ⟨_, rfl, ?_⟩)
       go_ret
       exact ⟨rfl, zB HB.out⟩
      ·rw [if_neg c3] at H
       rw [Bool.eq_false_iff.mpr c3] at hlook
       obtain ⟨s, hs, H⟩ := Option.bind_eq_some_iff.1 H
       have HSt := Aside0.mk hs
       have H' := Aside0.mk H
       have HK := Aside0.mk hkey
       clear H hs hkey hwf c3
       go_wp2_with (first
        | ((with_reducible refine gate_callee (f := 58) rfl ?_); refine goesL_ (some 20) rfl rfl Try.func58 (by kernel_rfl) rfl #[.int .i64 a1, .slice A x2.length c] rfl zA ?_; (with_reducible refine HNum.out.mono ?_); rintro e w2 ⟨rfl, ⟨nd2, rfl⟩⟩; refine ⟨_, rfl, ?_⟩)
        | (at_mapUpdate; refine wpList_mapUpdate_own _ rfl _ _ _ 50 rfl 3 4 impl_maps.law Try.underlying50 (plainElem Try.prog 4) w.heap.size x7.length _ rfl HM.out (by have := G2.out; unfold maxLen; omega) _ _ _ rfl rfl HK.out _ [] (plainElem_bool Try.underlying4 true) ?_; intro w3 hown3 hgrow3; have HO3 := Aside0.mk hown3; have HS3 := Aside0.mk (impl_maps.rows HS.out HM.out hgrow3); have HB3 := Aside0.mk (impl_maps.under HB.out hgrow3 (Nat.le_refl _)); clear hown3 hgrow3)
        | ((with_reducible refine gate_callee (f := 54) rfl ?_); refine goesL_ (some 32) rfl rfl Try.func54 (by kernel_rfl) rfl #[.slice A0 l0.length c0, .int .i64 a1, .slice none 0 0, .slice A x2.length c] rfl zA ?_; (with_reducible refine (impl_needStep0.calls k1 A0 c0 l0 a1 A c x2 s w3 (Kd.C_below HR0.out HB3.out) HC0.out (Kd.C_nil _ _) (Nat.le_refl _) HS3.out HSc.out HSt.out).mono ?_); rintro e w4 ⟨v0, rfl, hr, hb⟩; refine ⟨_, rfl, ?_⟩; obtain ⟨A', c', e1⟩ := Kd.R_slice hr; subst e1; have HR := Aside0.mk hr; have HB4 := Aside0.mk hb; clear hb hr))
       go_roundg k1
       case measure => omega
       case rel => exact ⟨s, A', c', x7 ++ [t], _, rfl, rfl, H', ⟨(Kd.R_reads' HR.out).2.2⟩, ⟨(Kd.R_reads' HR.out).2.1⟩, ⟨by rw [impl_maps.snoc, List.length_append]; exact HO3.out.kept (grown_of_below HB4.out none) (by simp)⟩, ⟨below_step HB3.out HB4.out⟩⟩
     ·rw [if_neg c2] at H
      exact absurd H (by simp)

end Go.Proofs.Ytgglagpciojfmaa.PAll
