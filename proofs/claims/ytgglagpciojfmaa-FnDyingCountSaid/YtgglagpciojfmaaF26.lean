/- Own text of this session, written by a program of this session (wip/t/own.py) out of what the kit tells of the functions: each Go function as a Lean function, and the walk through its code. -/
import Derived.Test.YtgglagpciojfmaaT
import Derived.Test.YtgglagpciojfmaaF1
import Derived.Test.YtgglagpciojfmaaF12
import Derived.Test.YtgglagpciojfmaaF25
namespace Go.Proofs.Ytgglagpciojfmaa.PAll
open Go.RowKit Go.Proofs.YtgglagpciojfmaaW.PrintWords Go.Proofs.YtgglagpciojfmaaW.PrintLast Go.Proofs.YtgglagpciojfmaaW.PrintMore
attribute [local go_sem] max2_int min2_int max_two min_two max_three min_three max_four min_four   -- for this text's walks alone
set_option linter.unusedVariables false
set_option linter.unusedSimpArgs false

/-! ### impl_DyingCount: function 26 -/
def impl_DyingCount.hold (l0 : List Int) (a1 : Int) (k : Nat) (s : List Int) : Option Bool := (impl_EndsAt.f k l0 a1 s).bind fun x => some (decide (x ≥ 0))
theorem impl_DyingCount.hmono (l0 : List Int) (a1 : Int) (t : List Int) (k : Nat) : LeO (impl_DyingCount.hold l0 a1 k t) (impl_DyingCount.hold l0 a1 (k + 1) t) := LeO.bind (impl_EndsAt.mono l0 a1 t k) (fun _ => LeO.refl _)
def impl_DyingCount.f (k : Nat) (l0 : List Int) (a1 : Int) : Option (Int) := (impl_countable.f k l0 a1).bind fun t => if t = true then impl_countStates.g k (impl_DyingCount.hold l0 a1) l0 a1 else some (-1)
theorem impl_DyingCount.mono : ∀ a0 a1 k, LeO (impl_DyingCount.f k a0 a1) (impl_DyingCount.f (k + 1) a0 a1) := by
 intro a0 a1 k
 unfold impl_DyingCount.f
 exact LeO.bind (impl_countable.mono a0 a1 k) (fun _ => LeO.ite (impl_countStates.gmono (impl_DyingCount.hmono a0 a1) a0 a1 k) (LeO.refl _))
set_option maxHeartbeats 8000000 in
set_option maxRecDepth 100000 in
theorem impl_DyingCount.lit (b : Nat) (k : Nat) (A0 : Option Addr) (c0 : Nat) (l0 : List Int) (a1 : Int) (t : List Int) (A : Option Addr) (c : Nat) (r : Bool) (W : World) (hb : W.heap[b]? = some (.cells #[.slice A0 l0.length c0] 22 (0, 0))) (hb1 : W.heap[b + 1]? = some (.cells #[.int .i64 a1] 3 (0, 0))) (hr0 : Kd.C (Kd.int .i64) W A0 l0.length l0) (hc0 : l0.length ≤ c0) (hr : Kd.C (Kd.int .i64) W A t.length t) (hc : t.length ≤ c) (h : impl_DyingCount.hold l0 a1 k t = some r) :
  Calls Try.prog 66 #[.slice A t.length c, .pointer (some ⟨b, 0, none⟩), .pointer (some ⟨b + 1, 0, none⟩)] W fun e w' => e = .returned (.bool r) ∧ Below W.heap.size W w' := by
 obtain ⟨v, h1, h2⟩ := Option.bind_eq_some_iff.1 h
 obtain rfl := Option.some.inj h2
 have X := cell_of_one hb
 have X1 := cell_of_one hb1
 have HC := Aside0.mk (impl_EndsAt.calls k A0 c0 l0 a1 A c t v W hr0 hc0 hr hc h1)
 clear hb hb1 hr0 hc0 hr hc h h1 h2
 go_enter Try.func66, Try.ntmps66
 go_wp2_with ((with_reducible refine gate_callee (f := 43) rfl ?_); refine goesL_ (some 8) rfl rfl Try.func43 (by kernel_rfl) rfl #[.slice A0 l0.length c0, .int .i64 a1, .slice A t.length c] rfl zA ?_; (with_reducible refine HC.out.mono ?_); rintro e w2 ⟨rfl, hb⟩; refine ⟨_, rfl, ?_⟩; have HB := Aside0.mk hb; clear hb)
 go_ret
 exact ⟨rfl, HB.out⟩
set_option maxHeartbeats 8000000 in
set_option maxRecDepth 100000 in
theorem impl_DyingCount.calls (k : Nat) (A0 : Option Addr) (c0 : Nat) (l0 : List Int) (a1 : Int) (r : Int) (w : World) (hr0 : Kd.C (Kd.int .i64) w A0 l0.length l0) (hc0 : l0.length ≤ c0) (h : impl_DyingCount.f k l0 a1 = some r) :
  Calls Try.prog 26 #[.slice A0 l0.length c0, .int .i64 a1] w fun e w' => e = .returned (.int .i64 r) ∧ Below w.heap.size w w' := by
 obtain ⟨t, h1, h2⟩ := Option.bind_eq_some_iff.1 h
 have HX := Aside0.mk (impl_countStates.box2 w (.slice A0 l0.length c0) (.int .i64 a1) 22 3)
 have HC := Aside0.mk (impl_countable.calls k A0 c0 l0 a1 t ((w.alloc (.cells #[.slice A0 l0.length c0] 22)).alloc (.cells #[.int .i64 a1] 3)) (Kd.C_alloc (Kd.C_alloc hr0 _) _) hc0 h1)
 have hmf : ∀ (fn : Fn) (first cap : Array Value) (w : World), (Instr.makeFunc fn first cap).run Try.prog w = .ok (.func fn first cap) w := fun _ _ _ _ => rfl
 cases t
 ·rw [if_neg (by decide)] at h2
  obtain rfl := Option.some.inj h2
  clear h h1 h2 hr0 hc0
  go_enter Try.func26, Try.ntmps26
  go_wp2_with ((with_reducible refine gate_callee (f := 56) rfl ?_); refine goesL_ (some 7) rfl rfl Try.func56 (by kernel_rfl) rfl #[.slice A0 l0.length c0, .int .i64 a1] rfl zA ?_; (with_reducible refine HC.out.mono ?_); rintro e w2 ⟨rfl, ⟨nd, rfl⟩⟩; refine ⟨_, rfl, ?_⟩)
  go_ret
  exact ⟨rfl, zB HX.out.below⟩
 ·rw [if_pos rfl] at h2
  have H2 := Aside0.mk h2
  have HL : Aside0 (∀ k t b A c W, impl_DyingCount.hold l0 a1 k t = some b → impl_countStates.Box2 w (.slice A0 l0.length c0) (.int .i64 a1) 22 3 W → Kd.C (Kd.int .i64) W A t.length t → t.length ≤ c → Calls Try.prog 66 (#[.slice A t.length c] ++ #[.pointer (some ⟨w.heap.size, 0, none⟩), .pointer (some ⟨w.heap.size + 1, 0, none⟩)]) W fun e w' => e = .returned (.bool b) ∧ Below W.heap.size W w') :=
   ⟨fun k t b A c W h hx hr hc => impl_DyingCount.lit w.heap.size k A0 c0 l0 a1 t A c b W hx.b0 hx.b1 (Kd.C_below hr0 hx.below) hc0 hr hc h⟩
  clear h h1 h2 hr0 hc0
  go_enter Try.func26, Try.ntmps26
  go_wp2_with (first
   | ((with_reducible refine gate_callee (f := 56) rfl ?_); refine goesL_ (some 7) rfl rfl Try.func56 (by kernel_rfl) rfl #[.slice A0 l0.length c0, .int .i64 a1] rfl zA ?_; (with_reducible refine HC.out.mono ?_); rintro e w2 ⟨rfl, ⟨nd, rfl⟩⟩; refine ⟨_, rfl, ?_⟩; have HX2 := Aside0.mk (HX.out.later (pw_below_drewN (Below.refl _ _) nd)); have Y0 := cell_of_one HX2.out.b0; have Y1 := cell_of_one HX2.out.b1)
   | ((with_reducible refine gate_callee (f := 51) rfl ?_); refine goesL_ (some 12) rfl rfl Try.func51 (by kernel_rfl) rfl #[.slice A0 l0.length c0, .int .i64 a1, .func (.func 66) #[] #[.pointer (some ⟨w.heap.size, 0, none⟩), .pointer (some ⟨w.heap.size + 1, 0, none⟩)]] rfl zA ?_; (with_reducible refine (impl_countStates.plain _ (w.heap.size + 2) 66 _ _ _ (fun W W' h1 h2 => h1.later h2) Try.func66 (by kernel_rfl) rfl HL.out k A0 c0 l0 a1 r _ ?hsz HX2.out H2.out).mono ?_); (case hsz => simp); rintro e w2 ⟨rfl, hx⟩; refine ⟨_, rfl, ?_⟩; have HX3 := Aside0.mk hx; clear hx))
  go_ret
  exact ⟨rfl, HX3.out.below⟩

end Go.Proofs.Ytgglagpciojfmaa.PAll
