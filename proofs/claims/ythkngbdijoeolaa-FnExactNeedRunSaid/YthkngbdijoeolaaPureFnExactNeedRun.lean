/- What the law FnExactNeedRun asks, proved over the functions: for every input that its guards let in, it answers true. -/
import Derived.Test.YthkngbdijoeolaaKit
import Derived.Test.YthkngbdijoeolaaF0
import Derived.Test.YthkngbdijoeolaaF1
import Derived.Test.YthkngbdijoeolaaF10
import Derived.Test.YthkngbdijoeolaaF15
import Derived.Test.YthkngbdijoeolaaF22
import Derived.Test.YthkngbdijoeolaaF25
import Derived.Test.YthkngbdijoeolaaF26
import Derived.Test.YthkngbdijoeolaaF27
import Derived.Test.YthkngbdijoeolaaF28
import Derived.Test.YthkngbdijoeolaaF30
import Derived.Test.YthkngbdijoeolaaF31
import Derived.Test.YthkngbdijoeolaaF33
import Derived.Test.YthkngbdijoeolaaF34
import Derived.Test.YthkngbdijoeolaaF35
import Derived.Test.YthkngbdijoeolaaF41
import Derived.Test.YthkngbdijoeolaaFFnExactNeedRun
set_option linter.unusedVariables false
set_option linter.unusedSimpArgs false
namespace Go.Proofs.Ythkngbdijoeolaa.Pure
open Go Go.RowKit Go.Proofs.Ythkngbdijoeolaa.PAll Go.Proofs.YthkngbdijoeolaaW.PrintWords Go.Proofs.YthkngbdijoeolaaW.PrintLast Go.Proofs.YthkngbdijoeolaaW.PrintMore Go.Proofs.Ythkngbdijoeolaa.Kit
/-! ### NetOk, both -/
theorem l1In_eq (a b c : Int) : spec_l1In.f a b c = some (decide (b ≤ a ∧ a ≤ c)) := by
  unfold spec_l1In.f
  by_cases h : a ≥ b
  · rw [if_pos h]; simp [h]
  · rw [if_neg h]; simp; omega
def SymQ (net : List Int) (i j : Nat) : Prop := tb (net.getD i 0) j = tb (net.getD j 0) i ∧ (j = i → tb (net.getD i 0) i = false)
instance (net : List Int) (i j : Nat) : Decidable (SymQ net i j) := by unfold SymQ; infer_instance
theorem symQ {net : List Int} {i : Nat} (hi : i < net.length) : SymP net i ↔ ∀ j, j < net.length → SymQ net i j := by
  constructor
  · rintro ⟨h1, h2⟩ j hj
    exact ⟨h2 j hj, fun _ => h1⟩
  · intro h
    exact ⟨(h i hi).2 rfl, fun j hj => (h j hj).1⟩
theorem sNetOk_l2 (net : List Int) (hn : net.length ≤ 6) (hr : ∀ i, i < net.length → RowP net i) (i : Nat) (hi : i < net.length) (j : Nat) (hj : j < net.length) (c : Bool)
    (h : Ev (fun k => if b01 (tb (net.getD i 0) j) = b01 (tb (net.getD j 0) i) then (if (j : Int) = (i : Int) then (if b01 (tb (net.getD i 0) j) = 1 then some false else spec_NetOk.l2 k net (i : Int) ((j + 1 : Nat) : Int)) else spec_NetOk.l2 k net (i : Int) ((j + 1 : Nat) : Int)) else some false) c) : Ev (fun k => spec_NetOk.l2 k net (i : Int) (j : Int)) c := by
  have e1 : Int.tmod (shr .i64 (rd net (i : Int)) (j : Int)) 2 = b01 (tb (net.getD i 0) j) := by rw [rd_nat]; exact shr_tmod (hr i hi).1 j (by omega)
  have e2 : Int.tmod (shr .i64 (rd net (j : Int)) (i : Int)) 2 = b01 (tb (net.getD j 0) i) := by rw [rd_nat]; exact shr_tmod (hr j hj).1 i (by omega)
  refine Ev.step (fun k => by rw [spec_NetOk.l2]) ?_
  rw [e1, e2, w64s j (by omega)]
  exact Ev.pos (by omega) (Ev.pos (by omega) (Ev.pos (by omega) (Ev.pos (by omega) h)))
theorem sNetOk_l1 (net : List Int) (hn : net.length ≤ 6) (hr : ∀ i, i < net.length → RowP net i) :
    Ev (fun k => spec_NetOk.l1 k net 0) (if ∀ j, j < net.length → SymP net j then true else false) := by
  refine ev_scan (F := fun k x => spec_NetOk.l1 k net x) (fun _ => ?_) (fun i hi hp b hb => ?_) (fun i hi _ hp => ?_)
  · exact Ev.step (fun k => by rw [spec_NetOk.l1]) (Ev.neg (by omega) (Ev.now _))
  all_goals refine Ev.step (fun k => by rw [spec_NetOk.l1]) (Ev.pos (by omega) ?_)
  all_goals rw [symQ hi] at hp
  · have H := ev_scan (F := fun k x => spec_NetOk.l2 k net (i : Int) x) (n := net.length) (P := SymQ net i) (r := b) (r' := false) (fun _ => ?_) (fun j hj hq c hc => ?_) (fun j hj _ hq => absurd (hp j hj) hq)
    · rw [if_pos hp] at H; exact H
    · refine Ev.step (fun k => by rw [spec_NetOk.l2]) (Ev.neg (by omega) ?_)
      rw [w64s i (by omega)]; exact hb
    · refine sNetOk_l2 net hn hr i hi j hj c (Ev.pos (b01_eq.2 hq.1) (Ev.iteS (fun h => Ev.neg (fun h' => ?_) hc) (fun h => hc)))
      obtain rfl : j = i := by omega
      rw [hq.2 rfl] at h'; cases h'
  · have H := ev_scan (F := fun k x => spec_NetOk.l2 k net (i : Int) x) (n := net.length) (P := SymQ net i) (r := true) (r' := false) (fun h => absurd h hp) (fun j hj hq c hc => ?_) (fun j hj _ hq => ?_)
    · rw [if_neg hp] at H; exact H
    · refine sNetOk_l2 net hn hr i hi j hj c (Ev.pos (b01_eq.2 hq.1) (Ev.iteS (fun h => Ev.neg (fun h' => ?_) hc) (fun h => hc)))
      obtain rfl : j = i := by omega
      rw [hq.2 rfl] at h'; cases h'
    · refine sNetOk_l2 net hn hr i hi j hj false (Ev.iteS (fun h => ?_) (fun h => Ev.now _))
      have h1 := b01_eq.1 h
      by_cases h2 : j = i
      · subst h2
        refine Ev.pos rfl (Ev.pos ?_ (Ev.now _))
        rw [b01_one]
        by_cases h3 : tb (net.getD j 0) j = true
        · exact h3
        · exact absurd ⟨rfl, fun _ => by simpa using h3⟩ hq
      · exact absurd ⟨h1, fun h => absurd h h2⟩ hq
theorem sNetOk (net : List Int) : Ev (fun k => spec_NetOk.f k net) (decide (NetP net)) := by
  unfold spec_NetOk.f
  refine Ev.bnd0 (l1In_eq _ _ _) ?_
  by_cases hn : 1 ≤ net.length ∧ net.length ≤ 6
  · refine Ev.pos (by simp; omega) ?_
    have hs : wrap64 (shl .i64 1 (net.length : Int) - 1) = 2 ^ net.length - 1 := by
      have := pow6 hn.2
      have h2 : (0 : Int) < 2 ^ net.length := Int.pow_pos (by decide)
      rw [shl_one _ (by omega), w64 (by simp; omega) (by simp; omega)]
      simp
    have pre : ∀ (i : Nat), i < net.length → ∀ c, Ev (fun k => if (decide (0 ≤ net.getD i 0 ∧ net.getD i 0 ≤ 2 ^ net.length - 1)) = true then spec_NetOk.l0 k net ((i + 1 : Nat) : Int) else some false) c → Ev (fun k => spec_NetOk.l0 k net (i : Int)) c := by
      intro i hi c h
      refine Ev.step (fun k => by rw [spec_NetOk.l0]) (Ev.pos (by omega) (Ev.pos (by omega) (Ev.bnd0 (l1In_eq _ _ _) ?_)))
      rw [rd_nat, hs, w64s i (by omega)]
      exact h
    have H := ev_scan (F := fun k x => spec_NetOk.l0 k net x) (n := net.length) (P := RowP net) (r := decide (NetP net)) (r' := false) (fun hr => ?_) (fun i hi hp b hb => ?_) (fun i hi _ hp => ?_)
    · refine Ev.to H ?_
      by_cases hr : ∀ i, i < net.length → RowP net i
      · rw [if_pos hr]
      · rw [if_neg hr]; symm; simp only [decide_eq_false_iff_not]; exact fun h => hr h.row
    · refine Ev.step (fun k => by rw [spec_NetOk.l0]) (Ev.neg (by omega) (Ev.to (sNetOk_l1 net hn.2 hr) ?_))
      rw [Bool.eq_iff_iff]
      simp only [decide_eq_true_eq]
      by_cases h : ∀ j, j < net.length → SymP net j
      · rw [if_pos h]; exact ⟨fun _ => ⟨hn.1, hn.2, hr, h⟩, fun _ => rfl⟩
      · rw [if_neg h]; exact ⟨fun h => (by cases h), fun h' => absurd h'.sym h⟩
    · exact pre i hi b (Ev.pos (by unfold RowP at hp; simp only [decide_eq_true_eq]; omega) hb)
    · exact pre i hi false (Ev.neg (by unfold RowP at hp; simp only [decide_eq_true_eq]; omega) (Ev.now _))
  · refine Ev.neg (by simp; omega) (Ev.val ?_)
    symm
    simp only [decide_eq_false_iff_not]
    exact fun h => hn ⟨h.lo, h.hi⟩
theorem iNetOk_l1 (net : List Int) (hn : net.length ≤ 6) (i : Nat) (hi : i < net.length) (x14 : List Int) (x15 x16 : Int) (v : Int) (j : Nat) (hj : j < net.length) (c : Bool)
    (h : Ev (fun k => if Go.bits .and .i64 (shr .i64 v (j : Int)) 1 = Go.bits .and .i64 (shr .i64 (net.getD j 0) (i : Int)) 1 then impl_NetOk.l1 k net (i : Int) v x14 x15 x16 (net.length : Int) ((j + 1 : Nat) : Int) else some false) c) :
    Ev (fun k => impl_NetOk.l1 k net (i : Int) v x14 x15 x16 (net.length : Int) (j : Int)) c := by
  refine Ev.step (fun k => by rw [impl_NetOk.l1]) ?_
  rw [rd_nat, w64s j (by omega)]
  exact Ev.pos (by omega) (Ev.pos (by omega) (Ev.pos (by omega) (Ev.pos (by omega) h)))
/-- What impl.NetOk asks of a row, as it asks. -/
def AskP (net : List Int) (i : Nat) : Prop :=
  0 ≤ net.getD i 0 ∧ net.getD i 0 < 2 ^ net.length ∧ ¬ Go.bits .and .i64 (shr .i64 (net.getD i 0) (i : Int)) 1 = 1 ∧
    ∀ j, j < net.length → Go.bits .and .i64 (shr .i64 (net.getD i 0) (j : Int)) 1 = Go.bits .and .i64 (shr .i64 (net.getD j 0) (i : Int)) 1
theorem asks {net : List Int} (hn : net.length ≤ 6) : (∀ i, i < net.length → AskP net i) ↔ (∀ i, i < net.length → RowP net i) ∧ ∀ i, i < net.length → SymP net i := by
  constructor
  · intro h
    have hr : ∀ i, i < net.length → RowP net i := fun i hi => ⟨(h i hi).1, (h i hi).2.1⟩
    refine ⟨hr, fun i hi => ⟨?_, fun j hj => ?_⟩⟩
    · have h1 := (h i hi).2.2.1
      have h2 := (hr i hi).big hn
      rw [shr_and (hr i hi).1 (by omega) i (by omega), b01_one] at h1
      simpa using h1
    · have h1 := (h i hi).2.2.2 j hj
      have h2 := (hr i hi).big hn
      have h3 := (hr j hj).big hn
      rw [shr_and (hr i hi).1 (by omega) j (by omega), shr_and (hr j hj).1 (by omega) i (by omega), b01_eq] at h1
      exact h1
  · rintro ⟨hr, hs⟩ i hi
    have h2 := (hr i hi).big hn
    refine ⟨(hr i hi).1, (hr i hi).2, ?_, fun j hj => ?_⟩
    · rw [shr_and (hr i hi).1 (by omega) i (by omega), b01_one, (hs i hi).1]; simp
    · have h3 := (hr j hj).big hn
      rw [shr_and (hr i hi).1 (by omega) j (by omega), shr_and (hr j hj).1 (by omega) i (by omega), b01_eq]
      exact (hs i hi).2 j hj
theorem iNetOk (net : List Int) : Ev (fun k => impl_NetOk.f k net) (decide (NetP net)) := by
  unfold impl_NetOk.f
  have stop : ¬ (1 ≤ net.length ∧ net.length ≤ 6) → Ev (fun k => impl_NetOk.j0 k net true) (decide (NetP net)) := fun hn =>
    Ev.step (fun k => by rw [impl_NetOk.j0]) (Ev.pos rfl (Ev.val (by symm; simp only [decide_eq_false_iff_not]; exact fun h => hn ⟨h.lo, h.hi⟩)))
  refine Ev.iteS (fun h1 => stop (by omega)) (fun h1 => ?_)
  by_cases h2 : (net.length : Int) > 6
  · rw [decide_eq_true h2]; exact stop (by omega)
  rw [decide_eq_false h2]
  have hn : net.length ≤ 6 := by omega
  refine Ev.step (fun k => by rw [impl_NetOk.j0]) (Ev.neg (by decide) ?_)
  classical
  have H := ev_scan (F := fun k x => impl_NetOk.l0 k net net (net.length : Int) x) (n := net.length) (P := AskP net) (r := true) (r' := false) (fun _ => ?_) (fun i hi hp b hb => ?_) (fun i hi _ hp => ?_)
  · refine Ev.to H ?_
    by_cases hr : ∀ i, i < net.length → AskP net i
    · rw [if_pos hr]; symm; simp only [decide_eq_true_eq]; exact ⟨by omega, hn, ((asks hn).1 hr).1, ((asks hn).1 hr).2⟩
    · rw [if_neg hr]; symm; simp only [decide_eq_false_iff_not]; exact fun h => hr ((asks hn).2 ⟨h.row, h.sym⟩)
  · exact Ev.step (fun k => by rw [impl_NetOk.l0]) (Ev.neg (by omega) (Ev.now _))
  · obtain ⟨a1, a2, a3, a4⟩ := hp
    refine Ev.step (fun k => by rw [impl_NetOk.l0]) (Ev.pos (by omega) (Ev.pos (by omega) (Ev.pos (by omega) ?_)))
    rw [rd_nat, shl_one _ (by omega), beq_eq_false_iff_ne.2 a3]
    refine Ev.neg (by omega) (Ev.neg (by simp; exact_mod_cast a2) ?_)
    refine Ev.step (fun k => by rw [impl_NetOk.j2]) (Ev.neg (by decide) ?_)
    refine ev_back (F := fun k x => impl_NetOk.l1 k net (i : Int) (net.getD i 0) net (net.length : Int) (i : Int) (net.length : Int) x) net.length ?_ (fun j hj e => ?_)
    · refine Ev.step (fun k => by rw [impl_NetOk.l1]) (Ev.neg (by omega) ?_)
      rw [w64s i (by omega)]; exact hb
    · exact iNetOk_l1 net hn i hi _ _ _ _ j hj b (Ev.pos (a4 j hj) e)
  · refine Ev.step (fun k => by rw [impl_NetOk.l0]) (Ev.pos (by omega) (Ev.pos (by omega) (Ev.pos (by omega) ?_)))
    rw [rd_nat, shl_one _ (by omega)]
    have out : ∀ v, Ev (fun k => impl_NetOk.j2 k net (i : Int) v net (net.length : Int) (i : Int) true) false := fun v =>
      Ev.step (fun k => by rw [impl_NetOk.j2]) (Ev.pos rfl (Ev.now _))
    refine Ev.iteS (fun _ => out _) (fun b1 => Ev.iteS (fun _ => out _) (fun b2 => ?_))
    by_cases b3 : Go.bits .and .i64 (shr .i64 (net.getD i 0) (i : Int)) 1 = 1
    · rw [b3]; exact out _
    rw [beq_eq_false_iff_ne.2 b3]
    refine Ev.step (fun k => by rw [impl_NetOk.j2]) (Ev.neg (by decide) ?_)
    have hq : ¬ ∀ j, j < net.length → Go.bits .and .i64 (shr .i64 (net.getD i 0) (j : Int)) 1 = Go.bits .and .i64 (shr .i64 (net.getD j 0) (i : Int)) 1 := fun h => hp ⟨by omega, by simp at b2; exact_mod_cast b2, b3, h⟩
    rcases first_bad (n := net.length) (P := fun j => Go.bits .and .i64 (shr .i64 (net.getD i 0) (j : Int)) 1 = Go.bits .and .i64 (shr .i64 (net.getD j 0) (i : Int)) 1) with h | ⟨m, h4, h5, h6⟩
    · exact absurd h hq
    · refine ev_back (F := fun k x => impl_NetOk.l1 k net (i : Int) (net.getD i 0) net (net.length : Int) (i : Int) (net.length : Int) x) m ?_ (fun j hj e => ?_)
      · exact iNetOk_l1 net hn i hi _ _ _ _ m h4 false (Ev.neg h5 (Ev.now _))
      · exact iNetOk_l1 net hn i hi _ _ _ _ j (by omega) false (Ev.pos (h6 j hj) e)

/-! ### StateOk and asked -/
theorem iStateOk (kinds : Int) (state : List Int) (hn : state.length ≤ 1048577) : Ev (fun k => impl_StateOk.f k kinds state) (decide (StateP kinds state)) := by
  unfold impl_StateOk.f
  have H := ev_scan (F := fun k x => impl_StateOk.l0 k kinds state state (state.length : Int) x) (n := state.length) (P := fun i => 0 ≤ state.getD i 0 ∧ state.getD i 0 < kinds) (r := decide (StateP kinds state)) (r' := false) (fun h => ?_) (fun i hi hp b hb => ?_) (fun i hi _ hp => ?_)
  · refine Ev.to H ?_
    by_cases h : ∀ i, i < state.length → 0 ≤ state.getD i 0 ∧ state.getD i 0 < kinds
    · rw [if_pos h]
    · rw [if_neg h]; symm; simp only [decide_eq_false_iff_not]; exact fun e => h e.row
  · refine Ev.step (fun k => by rw [impl_StateOk.l0]) (Ev.neg (by omega) ?_)
    have no : ¬ StateP kinds state → decide (StateP kinds state) = false := fun e => decide_eq_false e
    refine Ev.iteS (fun g1 => Ev.iteS (fun g2 => Ev.iteS (fun g3 => Ev.val ?_) (fun g => Ev.val (no (fun e => by have := e.lo; omega)).symm)) (fun g => Ev.val (no (fun e => by have := e.k5; omega)).symm)) (fun g => Ev.val (no (fun e => by have := e.k3; omega)).symm)
    rw [Bool.eq_iff_iff]; simp only [decide_eq_true_eq]
    exact ⟨fun e => ⟨g1, g2, by omega, by omega, h⟩, fun e => by have := e.hi; omega⟩
  · refine Ev.step (fun k => by rw [impl_StateOk.l0]) (Ev.pos (by omega) (Ev.pos (by omega) (Ev.pos (by omega) ?_)))
    rw [rd_nat, w64s i (by omega)]
    exact Ev.neg (by omega) (Ev.neg (by omega) hb)
  · refine Ev.step (fun k => by rw [impl_StateOk.l0]) (Ev.pos (by omega) (Ev.pos (by omega) (Ev.pos (by omega) ?_)))
    rw [rd_nat]
    exact Ev.iteS (fun _ => Ev.now _) (fun h1 => Ev.pos (by omega) (Ev.now _))
theorem iAsked (net : List Int) (kinds : Int) (state : List Int) (hn : state.length ≤ 1048577) : Ev (fun k => impl_asked.f k net kinds state) (decide (AskedP net kinds state)) := by
  unfold impl_asked.f
  have no : ¬ AskedP net kinds state → false = decide (AskedP net kinds state) := fun e => (decide_eq_false e).symm
  refine Ev.bnd (iNetOk net) (Ev.iteS (fun h => Ev.bnd (iStateOk kinds state hn) (Ev.iteS (fun h2 => Ev.val ?_) (fun h2 => Ev.val (no ?_)))) (fun h => Ev.val (no ?_)))
  all_goals simp only [decide_eq_true_eq] at *
  · rw [Bool.eq_iff_iff, beq_iff_eq, decide_eq_true_eq]
    exact ⟨fun e => ⟨h, h2, by omega⟩, fun e => by have := e.len; omega⟩
  · exact fun e => h2 e.st
  · exact fun e => h e.nok

/-! ### bits.OnesCount, for small numbers -/
theorem ones_fin : ∀ x : Fin 64, bits_OnesCount.f (IntKind.u64.wrap (x.val : Int)) = some ((pcn x.val : Nat) : Int) := by decide +kernel
theorem ones {x : Nat} (h : x < 64) : bits_OnesCount.f (IntKind.u64.wrap (x : Int)) = some ((pcn x : Nat) : Int) := ones_fin ⟨x, h⟩

/-! ### NeedsOk, both -/
def NeedsP (net needs : List Int) : Prop := NetP net ∧ needs.length = net.length ∧ ∀ i, i < needs.length → 1 ≤ needs.getD i 0 ∧ needs.getD i 0 ≤ 6
instance (net needs : List Int) : Decidable (NeedsP net needs) := by unfold NeedsP; infer_instance
theorem needs_val (net needs : List Int) (h : ∀ i, i < needs.length → 1 ≤ needs.getD i 0 ∧ needs.getD i 0 ≤ 6) :
    Ev (fun _ => if decide (NetP net) = true then some ((needs.length : Int) == (net.length : Int)) else some false) (decide (NeedsP net needs)) := by
  refine Ev.iteS (fun hp => Ev.val ?_) (fun hp => Ev.val ?_)
  · rw [Bool.eq_iff_iff]; simp only [decide_eq_true_eq, beq_iff_eq] at *
    exact ⟨fun e => ⟨hp, by omega, h⟩, fun e => by have := e.2.1; omega⟩
  · symm; simp only [decide_eq_true_eq] at hp; simp only [decide_eq_false_iff_not]; exact fun e => hp e.1
theorem sNeedsOk (net needs : List Int) (hn : needs.length ≤ 1048577) : Ev (fun k => spec_NeedsOk.f k net needs) (decide (NeedsP net needs)) := by
  unfold spec_NeedsOk.f
  have H := ev_scan (F := fun k x => spec_NeedsOk.l0 k net needs x) (n := needs.length) (P := fun i => 1 ≤ needs.getD i 0 ∧ needs.getD i 0 ≤ 6) (r := decide (NeedsP net needs)) (r' := false) (fun h => ?_) (fun i hi hp b hb => ?_) (fun i hi _ hp => ?_)
  · refine Ev.to H ?_
    by_cases h : ∀ i, i < needs.length → 1 ≤ needs.getD i 0 ∧ needs.getD i 0 ≤ 6
    · rw [if_pos h]
    · rw [if_neg h]; symm; simp only [decide_eq_false_iff_not]; exact fun e => h e.2.2
  · exact Ev.step (fun k => by rw [spec_NeedsOk.l0]) (Ev.neg (by omega) (Ev.bnd (sNetOk net) (needs_val net needs h)))
  · refine Ev.step (fun k => by rw [spec_NeedsOk.l0]) (Ev.pos (by omega) (Ev.pos (by omega) (Ev.bnd0 (l1In_eq _ _ _) ?_)))
    rw [rd_nat, w64s i (by omega)]
    exact Ev.pos (by simpa using hp) hb
  · refine Ev.step (fun k => by rw [spec_NeedsOk.l0]) (Ev.pos (by omega) (Ev.pos (by omega) (Ev.bnd0 (l1In_eq _ _ _) ?_)))
    rw [rd_nat]
    exact Ev.neg (by simpa using hp) (Ev.now _)
theorem iNeedsOk (net needs : List Int) (hn : needs.length ≤ 1048577) : Ev (fun k => impl_NeedsOk.f k net needs) (decide (NeedsP net needs)) := by
  unfold impl_NeedsOk.f
  have H := ev_scan (F := fun k x => impl_NeedsOk.l0 k net needs needs (needs.length : Int) x) (n := needs.length) (P := fun i => 1 ≤ needs.getD i 0 ∧ needs.getD i 0 ≤ 6) (r := decide (NeedsP net needs)) (r' := false) (fun h => ?_) (fun i hi hp b hb => ?_) (fun i hi _ hp => ?_)
  · refine Ev.to H ?_
    by_cases h : ∀ i, i < needs.length → 1 ≤ needs.getD i 0 ∧ needs.getD i 0 ≤ 6
    · rw [if_pos h]
    · rw [if_neg h]; symm; simp only [decide_eq_false_iff_not]; exact fun e => h e.2.2
  · exact Ev.step (fun k => by rw [impl_NeedsOk.l0]) (Ev.neg (by omega) (Ev.bnd (iNetOk net) (needs_val net needs h)))
  · refine Ev.step (fun k => by rw [impl_NeedsOk.l0]) (Ev.pos (by omega) (Ev.pos (by omega) (Ev.pos (by omega) ?_)))
    rw [rd_nat, w64s i (by omega)]
    exact Ev.neg (by omega) (Ev.neg (by omega) hb)
  · refine Ev.step (fun k => by rw [impl_NeedsOk.l0]) (Ev.pos (by omega) (Ev.pos (by omega) (Ev.pos (by omega) ?_)))
    rw [rd_nat]
    exact Ev.iteS (fun _ => Ev.now _) (fun h1 => Ev.pos (by omega) (Ev.now _))

/-! ### SpreadSet of the program -/
theorem and_small {a b : Nat} (h : a < 64) : a &&& b < 64 := Nat.lt_of_le_of_lt Nat.and_le_left h
theorem nb_small {net : List Int} (h : NetP net) (i : Nat) : nb net i < 64 := by
  by_cases hi : i < net.length
  · exact Nat.lt_of_lt_of_le (nb_lt (h.row i hi)) (pow_le64 h.hi)
  · rw [nb_out (by omega)]; omega
theorem ones_and {net : List Int} (h : NetP net) {i : Nat} (hi : i < net.length) {s : Nat} (hs : s < 64) :
    bits_OnesCount.f (IntKind.u64.wrap (Go.bits .and .i64 (rd net (i : Int)) (s : Int))) = some ((pcn (nb net i &&& s) : Nat) : Int) := by
  have h1 := nb_small h i
  rw [rd_nat, nb_cast (h.row i hi), and_nat _ _ (by omega) (by omega)]
  exact ones (and_small h1)
theorem or_bit {s i : Nat} (hs : s < 64) (hi : i < 6) : Go.bits .or .i64 (s : Int) (shl .i64 1 (i : Int)) = ((s ||| 2 ^ i : Nat) : Int) := by
  have : (2 : Nat) ^ i ≤ 2 ^ 6 := Nat.pow_le_pow_right (by decide) (by omega)
  rw [shl_one i (by omega), or_nat _ _ (by omega) (by omega)]
theorem spread_l1 {net needs : List Int} (h : NeedsP net needs) {s : Nat} (hs : s < 2 ^ net.length) {t : Int} {r : Int × Int}
    (hend : Ev (fun k => if ((grow net needs s : Nat) : Int) = (s : Int) then some ((s : Int), t) else impl_spread.l0 k net needs ((grow net needs s : Nat) : Int) (wrap64 (t + 1))) r) :
    Ev (fun k => impl_spread.l0 k net needs (s : Int) t) r := by
  have hn := h.1.hi
  have h64 := pow_le64 hn
  refine Ev.step (fun k => by rw [impl_spread.l0]) ?_
  refine ev_for (F := fun k x a => impl_spread.l1 k net needs (s : Int) t a net (net.length : Int) x) (n := net.length) (out := fun _ _ => r) (I := fun i a => a = ((growTo net needs s i : Nat) : Int)) ?_ ?_ net.length 0 (by omega) _ rfl
  · rintro a rfl
    refine Ev.step (fun k => by rw [impl_spread.l1]) (Ev.neg (by omega) ?_)
    exact hend
  · rintro i a hi rfl ih
    have hl := growTo_lt (net := net) (needs := needs) (m := i) hs (by omega)
    refine Ev.step (fun k => by rw [impl_spread.l1]) (Ev.pos (by omega) (Ev.pos (by omega) (Ev.pos (by omega) ?_)))
    refine Ev.bnd0 (ones_and h.1 hi (by omega)) ?_
    have hk := h.2.1
    refine Ev.pos (by omega) ?_
    rw [rd_nat, w64s i (by omega)]
    refine Ev.iteS (fun hc => ?_) (fun hc => ?_)
    · rw [or_bit (by omega) (by omega)]
      exact ih _ (by rw [growTo_yes hc])
    · exact ih _ (by rw [growTo_no hc])
theorem spread_ev {net needs : List Int} (h : NeedsP net needs) : ∀ (f s t : Nat), s < 2 ^ net.length → 6 < cnt 6 s + f → t + f ≤ 100 →
    Ev (fun k => impl_spread.l0 k net needs (s : Int) (t : Int)) (((spr net needs f s t).1 : Int), ((spr net needs f s t).2 : Int)) := by
  intro f
  induction f with
  | zero => intro s t _ hc; have := cnt_le 6 s; omega
  | succ f ih =>
    intro s t hs hc ht
    refine spread_l1 h hs ?_
    unfold spr
    by_cases e : grow net needs s = s
    · rw [if_pos e]; exact Ev.pos (by rw [e]) (Ev.now _)
    · rw [if_neg e]
      have hm := grow_more h.1.hi e
      rw [pcn_eq, pcn_eq] at hm
      refine Ev.neg (by omega) ?_
      rw [w64s t (by omega)]
      exact ih _ _ (grow_lt hs) (by omega) (by omega)
theorem spread_f {net needs : List Int} (h : NeedsP net needs) {s : Nat} (hs : s < 2 ^ net.length) :
    Ev (fun k => impl_spread.f k net needs (s : Int)) ((lit net needs s : Int), (litAt net needs s : Int)) := spread_ev h 7 s 0 hs (by omega) (by omega)
def SetP (net : List Int) (set : Int) : Prop := 0 ≤ set ∧ set < 2 ^ net.length
instance (net : List Int) (set : Int) : Decidable (SetP net set) := by unfold SetP; infer_instance
theorem SetP.nat {net : List Int} {set : Int} (h : SetP net set) : ∃ s : Nat, set = (s : Int) ∧ s < 2 ^ net.length := by
  obtain ⟨s, rfl⟩ := Int.eq_ofNat_of_zero_le h.1
  exact ⟨s, rfl, by have := h.2; exact_mod_cast this⟩
theorem iSetOk (net : List Int) (set : Int) : Ev (fun k => impl_setOk.f k net set) (decide (NetP net ∧ SetP net set)) := by
  unfold impl_setOk.f
  refine Ev.bnd (iNetOk net) (Ev.iteS (fun h => ?_) (fun h => Ev.val ?_))
  · simp only [decide_eq_true_eq] at h
    have hn := h.hi
    rw [shl_one _ (by omega)]
    refine Ev.iteS (fun h1 => Ev.val ?_) (fun h1 => Ev.val ?_)
    · rw [Bool.eq_iff_iff]; simp only [decide_eq_true_eq]; unfold SetP
      simp only [Int.natCast_pow, Int.cast_ofNat_Int]
      exact ⟨fun e => ⟨h, h1, e⟩, fun e => e.2.2⟩
    · symm; simp only [decide_eq_false_iff_not]; exact fun e => h1 e.2.1
  · symm; simp only [decide_eq_true_eq] at h; simp only [decide_eq_false_iff_not]; exact fun e => h e.1
/-- What SpreadSet returns. -/
def spreadR (net needs : List Int) (set : Int) : Int × Int :=
  if NeedsP net needs ∧ SetP net set then (((lit net needs set.toNat : Nat) : Int), ((litAt net needs set.toNat : Nat) : Int)) else (-1, -1)
theorem iSpreadSet (net needs : List Int) (set : Int) (hn : needs.length ≤ 1048577) : Ev (fun k => impl_SpreadSet.f k net needs set) (spreadR net needs set) := by
  unfold impl_SpreadSet.f
  refine Ev.bnd (iNeedsOk net needs hn) (Ev.iteS (fun h => ?_) (fun h => Ev.val ?_))
  · simp only [decide_eq_true_eq] at h
    refine Ev.bnd (iSetOk net set) (Ev.iteS (fun h2 => ?_) (fun h2 => Ev.val ?_))
    · simp only [decide_eq_true_eq] at h2
      obtain ⟨s, rfl, hs⟩ := h2.2.nat
      refine Ev.bnd (spread_f h hs) (Ev.val ?_)
      unfold spreadR; rw [if_pos ⟨h, h2.2⟩, Int.toNat_natCast]
    · simp only [decide_eq_true_eq] at h2
      unfold spreadR; rw [if_neg (fun e => h2 ⟨h.1, e.2⟩)]
  · simp only [decide_eq_true_eq] at h
    unfold spreadR; rw [if_neg (fun e => h e.1)]

/-! ### a step of the program, without needs -/
/-- How many of the first m nodes are neighbours of node i that fire. -/
theorem cnt_and_succ (net : List Int) (state : List Int) (i j : Nat) : cnt (j + 1) (nb net i &&& fires state) = cnt j (nb net i &&& fires state) + (if (nb net i).testBit j = true ∧ state.getD j 0 = 1 then 1 else 0) := by
  rw [cnt_succ]
  congr 1
  by_cases h : (nb net i).testBit j = true ∧ state.getD j 0 = 1
  · rw [if_pos h, if_pos (by rw [Nat.testBit_and, h.1, (fires_bit state j).2 h.2]; rfl)]
  · rw [if_neg h, if_neg (fun e => h ?_)]
    rw [Nat.testBit_and, Bool.and_eq_true] at e
    exact ⟨e.1, (fires_bit state j).1 e.2⟩
theorem and_lt_len {net state : List Int} {kinds : Int} (h : AskedP net kinds state) (i : Nat) : nb net i &&& fires state < 2 ^ state.length :=
  Nat.lt_of_le_of_lt Nat.and_le_right (fires_lt state)
theorem shr_and_nb {net : List Int} (hn : NetP net) {i : Nat} (hi : i < net.length) (j : Nat) (hj : j ≤ 64) : Go.bits .and .i64 (shr .i64 (rd net (i : Int)) (j : Int)) 1 = b01 ((nb net i).testBit j) := by
  rw [rd_nat, shr_and (hn.row i hi).1 (by have := (hn.row i hi).big hn.hi; omega) j hj]
  rfl
theorem and_fires {net state : List Int} {kinds : Int} (h : AskedP net kinds state) {i : Nat} (hi : i < state.length) : Go.bits .and .i64 (rd net (i : Int)) ((fires state : Nat) : Int) = ((nb net i &&& fires state : Nat) : Int) := by
  have hlen := h.len
  have h1 := nb_small h.nok i
  have h2 := fires_lt state
  have h3 := pow_le64 h.st.hi
  rw [rd_nat, nb_cast (h.nok.row i (by omega)), and_nat _ _ (by omega) (by omega)]
theorem step0_l1 {net state : List Int} {kinds : Int} (h : AskedP net kinds state) (l2 : List Int) (out : List Int) (hout : out.length = state.length) (i : Nat) (hi : i < state.length) (r : List Int)
    (hend : Ev (fun k => impl_needStep0.l0 k net kinds state (if 1 ≤ pcn (nb net i &&& fires state) then out.set i 1 else out) state (state.length : Int) ((i + 1 : Nat) : Int)) r) :
    Ev (fun k => impl_needStep0.l1 k net kinds state out (i : Int) 0 1 state (state.length : Int) (i : Int) state (state.length : Int) 0) r := by
  have hlen := h.len
  have hn := h.nok.hi
  refine ev_for (F := fun k x a => impl_needStep0.l1 k net kinds state out (i : Int) a 1 state (state.length : Int) (i : Int) state (state.length : Int) x) (n := state.length) (out := fun _ _ => r) (I := fun j a => a = ((cnt j (nb net i &&& fires state) : Nat) : Int)) ?_ ?_ state.length 0 (by omega) _ (by simp [cnt])
  · rintro a rfl
    refine Ev.step (fun k => by rw [impl_needStep0.l1]) (Ev.neg (by omega) ?_)
    have e : cnt state.length (nb net i &&& fires state) = pcn (nb net i &&& fires state) := cnt_of_lt (and_lt_len h i) (by omega)
    rw [e, w64s i (by omega)]
    refine Ev.iteS (fun g => ?_) (fun g => ?_)
    · rw [if_pos (by omega)] at hend
      exact Ev.pos (by omega) (Ev.pos (by omega) hend)
    · rw [if_neg (by omega)] at hend; exact hend
  · rintro j a hj rfl ih
    refine Ev.step (fun k => by rw [impl_needStep0.l1]) ?_
    rw [shr_and_nb h.nok (by omega) j (by omega), rd_nat state j, w64s j (by omega)]
    refine Ev.pos (by omega) (Ev.pos (by omega) (Ev.pos (by omega) (Ev.pos (by omega) (Ev.pos (by omega) ?_))))
    have hc := cnt_le j (nb net i &&& fires state)
    refine Ev.iteS (fun g1 => Ev.iteS (fun g2 => ?_) (fun g2 => ?_)) (fun g1 => ?_)
    · rw [w64s _ (by omega)]; exact ih _ (by rw [cnt_and_succ, if_pos ⟨b01_one.1 g1, g2⟩])
    · exact ih _ (by rw [cnt_and_succ, if_neg (fun e => g2 e.2)]; rfl)
    · exact ih _ (by rw [cnt_and_succ, if_neg (fun e => g1 (b01_one.2 e.1))]; rfl)
theorem step0_ev {net state : List Int} {kinds : Int} (h : AskedP net kinds state) : Ev (fun k => impl_needStep0.f k net kinds [] state) (fstep net kinds state) := by
  have hlen := h.len
  have hn := h.nok.hi
  have hk := h.st.k3
  unfold impl_needStep0.f
  refine Ev.pos (by omega) (Ev.pos (by omega) ?_)
  refine ev_for (F := fun k x a => impl_needStep0.l0 k net kinds state a state (state.length : Int) x) (n := state.length) (out := fun _ _ => fstep net kinds state) (I := fun i s => s.length = state.length ∧ (∀ j, j < i → s.getD j 0 = nval net kinds (one1 state.length) state j) ∧ ∀ j, i ≤ j → s.getD j 0 = 0) ?_ ?_ state.length 0 (by omega) _ ⟨by simp, fun j hj => by omega, fun j _ => zeros_getD _ _⟩
  · rintro s ⟨h1, h2, _⟩
    refine Ev.step (fun k => by rw [impl_needStep0.l0]) (Ev.neg (by omega) (Ev.val ?_))
    exact ext_getD (by rw [fstep_len]; exact h1) (fun j hj => by rw [h2 j (by omega)]; exact (nstep_at (by omega)).symm)
  · rintro i s hi ⟨h1, h2, h3⟩ ih
    have hs := h.st.row i hi
    refine Ev.step (fun k => by rw [impl_needStep0.l0]) (Ev.pos (by omega) (Ev.pos (by omega) (Ev.pos (by omega) ?_)))
    rw [rd_nat, w64s i (by omega)]
    have next : ∀ v, v = nval net kinds (one1 state.length) state i → ∀ s' : List Int, s'.length = state.length → s'.getD i 0 = v → (∀ j, j ≠ i → s'.getD j 0 = s.getD j 0) → Ev (fun k => impl_needStep0.l0 k net kinds state s' state (state.length : Int) ((i + 1 : Nat) : Int)) (fstep net kinds state) := by
      intro v hv s' e1 e2 e3
      refine ih s' ⟨e1, fun j hj => ?_, fun j hj => ?_⟩
      · by_cases e : j = i
        · subst e; rw [e2, hv]
        · rw [e3 j e]; exact h2 j (by omega)
      · rw [e3 j (by omega)]; exact h3 j (by omega)
    refine Ev.iteS (fun g => ?_) (fun g => ?_)
    · refine Ev.neg (by omega) (Ev.pos (by omega) ?_)
      rw [Int.toNat_natCast, kind_tmod (by omega) hs.2 h.st.k5]
      refine next _ (nval_tired (by omega)).symm _ (by simp [h1]) (by rw [set_getD _ _ _ _ (by omega), if_pos rfl]) (fun j hj => by rw [set_getD _ _ _ _ (by omega), if_neg (by omega)])
    · refine step0_l1 h [] s h1 i hi _ ?_
      by_cases gl : 1 ≤ pcn (nb net i &&& fires state)
      · rw [if_pos gl]
        refine next 1 (nval_lit (by omega) (by rw [one1_at hi]; omega)).symm _ (by simp [h1]) (by rw [set_getD _ _ _ _ (by omega), if_pos rfl]) (fun j hj => by rw [set_getD _ _ _ _ (by omega), if_neg (by omega)])
      · rw [if_neg gl]
        refine next 0 (nval_rest (by omega) (by rw [one1_at hi]; omega)).symm _ h1 (h3 i (Nat.le_refl _)) (fun j hj => rfl)

/-! ### a step of the program, with needs -/
theorem stepn_l1 {net state needs : List Int} {kinds : Int} (h : AskedP net kinds state) (hw : NeedsP net needs) (out : List Int) (hout : out.length = state.length) (i : Nat) (hi : i < state.length) (r : List Int)
    (hend : Ev (fun k => impl_needStepN.l0 k net kinds needs state (if needs.getD i 0 ≤ ((pcn (nb net i &&& fires state) : Nat) : Int) then out.set i 1 else out) state (state.length : Int) ((i + 1 : Nat) : Int)) r) :
    Ev (fun k => impl_needStepN.l1 k net kinds needs state out (i : Int) 0 state (state.length : Int) (i : Int) state (state.length : Int) 0) r := by
  have hlen := h.len
  have hn := h.nok.hi
  have hq := hw.2.1
  refine ev_for (F := fun k x a => impl_needStepN.l1 k net kinds needs state out (i : Int) a state (state.length : Int) (i : Int) state (state.length : Int) x) (n := state.length) (out := fun _ _ => r) (I := fun j a => a = ((cnt j (nb net i &&& fires state) : Nat) : Int)) ?_ ?_ state.length 0 (by omega) _ (by simp [cnt])
  · rintro a rfl
    refine Ev.step (fun k => by rw [impl_needStepN.l1]) (Ev.neg (by omega) ?_)
    have e : cnt state.length (nb net i &&& fires state) = pcn (nb net i &&& fires state) := cnt_of_lt (and_lt_len h i) (by omega)
    rw [e, w64s i (by omega), rd_nat needs i]
    refine Ev.pos (by omega) (Ev.pos (by omega) (Ev.iteS (fun g => ?_) (fun g => ?_)))
    · rw [if_pos (by omega)] at hend
      exact Ev.pos (by omega) hend
    · rw [if_neg (by omega)] at hend; exact hend
  · rintro j a hj rfl ih
    refine Ev.step (fun k => by rw [impl_needStepN.l1]) ?_
    rw [shr_and_nb h.nok (by omega) j (by omega), rd_nat state j, w64s j (by omega)]
    refine Ev.pos (by omega) (Ev.pos (by omega) (Ev.pos (by omega) (Ev.pos (by omega) (Ev.pos (by omega) ?_))))
    have hc := cnt_le j (nb net i &&& fires state)
    refine Ev.iteS (fun g1 => Ev.iteS (fun g2 => ?_) (fun g2 => ?_)) (fun g1 => ?_)
    · rw [w64s _ (by omega)]; exact ih _ (by rw [cnt_and_succ, if_pos ⟨b01_one.1 g1, g2⟩])
    · exact ih _ (by rw [cnt_and_succ, if_neg (fun e => g2 e.2)]; rfl)
    · exact ih _ (by rw [cnt_and_succ, if_neg (fun e => g1 (b01_one.2 e.1))]; rfl)
theorem stepn_ev {net state needs : List Int} {kinds : Int} (h : AskedP net kinds state) (hw : NeedsP net needs) : Ev (fun k => impl_needStep.f k net kinds needs state) (nstep net kinds needs state) := by
  have hlen := h.len
  have hn := h.nok.hi
  have hlo := h.nok.lo
  have hk := h.st.k3
  have hq := hw.2.1
  unfold impl_needStep.f
  refine Ev.pos (by omega) ?_
  unfold impl_needStepN.f
  refine Ev.pos (by omega) (Ev.pos (by omega) ?_)
  refine ev_for (F := fun k x a => impl_needStepN.l0 k net kinds needs state a state (state.length : Int) x) (n := state.length) (out := fun _ _ => nstep net kinds needs state) (I := fun i s => s.length = state.length ∧ (∀ j, j < i → s.getD j 0 = nval net kinds needs state j) ∧ ∀ j, i ≤ j → s.getD j 0 = 0) ?_ ?_ state.length 0 (by omega) _ ⟨by simp, fun j hj => by omega, fun j _ => zeros_getD _ _⟩
  · rintro s ⟨h1, h2, _⟩
    refine Ev.step (fun k => by rw [impl_needStepN.l0]) (Ev.neg (by omega) (Ev.val ?_))
    exact ext_getD (by rw [nstep_len]; exact h1) (fun j hj => by rw [h2 j (by omega)]; exact (nstep_at (by omega)).symm)
  · rintro i s hi ⟨h1, h2, h3⟩ ih
    have hs := h.st.row i hi
    refine Ev.step (fun k => by rw [impl_needStepN.l0]) (Ev.pos (by omega) (Ev.pos (by omega) (Ev.pos (by omega) ?_)))
    rw [rd_nat, w64s i (by omega)]
    have next : ∀ v, v = nval net kinds needs state i → ∀ s' : List Int, s'.length = state.length → s'.getD i 0 = v → (∀ j, j ≠ i → s'.getD j 0 = s.getD j 0) → Ev (fun k => impl_needStepN.l0 k net kinds needs state s' state (state.length : Int) ((i + 1 : Nat) : Int)) (nstep net kinds needs state) := by
      intro v hv s' e1 e2 e3
      refine ih s' ⟨e1, fun j hj => ?_, fun j hj => ?_⟩
      · by_cases e : j = i
        · subst e; rw [e2, hv]
        · rw [e3 j e]; exact h2 j (by omega)
      · rw [e3 j (by omega)]; exact h3 j (by omega)
    refine Ev.iteS (fun g => ?_) (fun g => ?_)
    · refine Ev.neg (by omega) (Ev.pos (by omega) ?_)
      rw [Int.toNat_natCast, kind_tmod (by omega) hs.2 h.st.k5]
      refine next _ (nval_tired (by omega)).symm _ (by simp [h1]) (by rw [set_getD _ _ _ _ (by omega), if_pos rfl]) (fun j hj => by rw [set_getD _ _ _ _ (by omega), if_neg (by omega)])
    · refine stepn_l1 h hw s h1 i hi _ ?_
      by_cases gl : needs.getD i 0 ≤ ((pcn (nb net i &&& fires state) : Nat) : Int)
      · rw [if_pos gl]
        refine next 1 (nval_lit (by omega) gl).symm _ (by simp [h1]) (by rw [set_getD _ _ _ _ (by omega), if_pos rfl]) (fun j hj => by rw [set_getD _ _ _ _ (by omega), if_neg (by omega)])
      · rw [if_neg gl]
        refine next 0 (nval_rest (by omega) gl).symm _ h1 (h3 i (Nat.le_refl _)) (fun j hj => rfl)
/-- What NeedStep returns. -/
def needStepR (net : List Int) (kinds : Int) (needs state : List Int) : List Int := if AskedP net kinds state ∧ NeedsP net needs then nstep net kinds needs state else []
theorem iNeedStep (net : List Int) (kinds : Int) (needs state : List Int) (hn : needs.length ≤ 1048577) (hs : state.length ≤ 1048577) : Ev (fun k => impl_NeedStep.f k net kinds needs state) (needStepR net kinds needs state) := by
  unfold impl_NeedStep.f
  refine Ev.bnd (iNeedsOk net needs hn) (Ev.iteS (fun h => Ev.bnd (iAsked net kinds state hs) (Ev.iteS (fun h2 => ?_) (fun h2 => Ev.val ?_))) (fun h => Ev.val ?_))
  all_goals simp only [decide_eq_true_eq] at *
  · refine Ev.bnd (stepn_ev h2 h) (Ev.val ?_)
    unfold needStepR; rw [if_pos ⟨h2, h⟩]
  · unfold needStepR; rw [if_neg (fun e => h2 e.1)]
  · unfold needStepR; rw [if_neg (fun e => h e.2)]

theorem sStateOk (kinds : Int) (state : List Int) (hn : state.length ≤ 1048577) : Ev (fun k => spec_StateOk.f k kinds state) (decide (StateP kinds state)) := by
  unfold spec_StateOk.f
  have H := ev_scan (F := fun k x => spec_StateOk.l0 k kinds state x) (n := state.length) (P := fun i => 0 ≤ state.getD i 0 ∧ state.getD i 0 < kinds) (r := decide (StateP kinds state)) (r' := false) (fun h => ?_) (fun i hi hp b hb => ?_) (fun i hi _ hp => ?_)
  · refine Ev.to H ?_
    by_cases h : ∀ i, i < state.length → 0 ≤ state.getD i 0 ∧ state.getD i 0 < kinds
    · rw [if_pos h]
    · rw [if_neg h]; symm; simp only [decide_eq_false_iff_not]; exact fun e => h e.row
  · refine Ev.step (fun k => by rw [spec_StateOk.l0]) (Ev.neg (by omega) ?_)
    refine Ev.bnd0 (l1In_eq _ _ _) ?_
    refine Ev.iteS (fun g1 => Ev.bnd0 (l1In_eq _ _ _) (Ev.val ?_)) (fun g => Ev.val ?_)
    · simp only [decide_eq_true_eq] at g1
      rw [Bool.eq_iff_iff]; simp only [decide_eq_true_eq]
      exact ⟨fun e => ⟨g1.1, g1.2, by omega, by omega, h⟩, fun e => by have := e.lo; have := e.hi; omega⟩
    · simp only [decide_eq_true_eq] at g
      symm; rw [decide_eq_false_iff_not]; exact fun e => g ⟨e.k3, e.k5⟩
  · refine Ev.step (fun k => by rw [spec_StateOk.l0]) (Ev.pos (by omega) (Ev.pos (by omega) ?_))
    rw [rd_nat, w64s i (by omega)]
    exact Ev.neg (by omega) (Ev.neg (by omega) hb)
  · refine Ev.step (fun k => by rw [spec_StateOk.l0]) (Ev.pos (by omega) (Ev.pos (by omega) ?_))
    rw [rd_nat]
    exact Ev.iteS (fun _ => Ev.now _) (fun h1 => Ev.pos (by omega) (Ev.now _))
theorem sL3Ok (net : List Int) (kinds : Int) (state : List Int) (hn : state.length ≤ 1048577) : Ev (fun k => spec_l3Ok.f k net kinds state) (decide (AskedP net kinds state)) := by
  unfold spec_l3Ok.f
  have no : ¬ AskedP net kinds state → false = decide (AskedP net kinds state) := fun e => (decide_eq_false e).symm
  refine Ev.bnd (sNetOk net) (Ev.iteS (fun h => Ev.bnd (sStateOk kinds state hn) (Ev.iteS (fun h2 => Ev.val ?_) (fun h2 => Ev.val (no ?_)))) (fun h => Ev.val (no ?_)))
  all_goals simp only [decide_eq_true_eq] at *
  · rw [Bool.eq_iff_iff, beq_iff_eq, decide_eq_true_eq]
    exact ⟨fun e => ⟨h, h2, by omega⟩, fun e => by have := e.len; omega⟩
  · exact fun e => h2 e.st
  · exact fun e => h e.nok

theorem size4_fin : ∀ x : Fin 64, spec_l4Size.f 8 (x.val : Int) = some ((pcn x.val : Nat) : Int) := by decide +kernel
theorem size4 {x : Nat} (h : x < 64) : Ev (fun k => spec_l4Size.f k (x : Int)) ((pcn x : Nat) : Int) := Ev.of (spec_l4Size.mono x) (size4_fin ⟨x, h⟩)

/-! ### NeedStep of the reference -/
theorem sNeed_l1 {net state needs : List Int} {kinds : Int} (h : AskedP net kinds state) (hw : NeedsP net needs) : Ev (fun k => spec_NeedStep.l1 k net kinds needs state ((fires state : Nat) : Int) [] 0) (nstep net kinds needs state) := by
  have hlen := h.len
  have hn := h.nok.hi
  have hk := h.st.k3
  have hq := hw.2.1
  refine ev_for (F := fun k x a => spec_NeedStep.l1 k net kinds needs state ((fires state : Nat) : Int) a x) (n := state.length) (out := fun _ _ => nstep net kinds needs state) (I := fun i s => s = (List.range i).map (nval net kinds needs state)) ?_ ?_ state.length 0 (by omega) _ rfl
  · rintro s rfl
    refine Ev.step (fun k => by rw [spec_NeedStep.l1]) (Ev.neg (by omega) ?_)
    exact Ev.now (nstep net kinds needs state)
  · rintro i s hi rfl ih
    have hs := h.st.row i hi
    have hl : ((List.range i).map (nval net kinds needs state)).length < 17592186044416 := by simp; omega
    have next : ∀ v, v = nval net kinds needs state i → Ev (fun k => spec_NeedStep.l1 k net kinds needs state ((fires state : Nat) : Int) ((List.range i).map (nval net kinds needs state) ++ [v]) ((i + 1 : Nat) : Int)) (nstep net kinds needs state) := fun v hv => ih _ (by rw [map_succ, hv])
    refine Ev.step (fun k => by rw [spec_NeedStep.l1]) (Ev.pos (by omega) (Ev.pos (by omega) ?_))
    rw [rd_nat state, w64s i (by omega)]
    refine Ev.iteS (fun g => ?_) (fun g => ?_)
    · refine Ev.neg (by omega) (Ev.pos hl ?_)
      rw [kind_tmod (by omega) hs.2 h.st.k5]
      exact next _ (nval_tired (by omega)).symm
    · refine Ev.pos (by omega) ?_
      rw [and_fires h hi]
      refine Ev.bnd (size4 (Nat.lt_of_le_of_lt Nat.and_le_left (nb_small h.nok i))) ?_
      rw [rd_nat needs]
      refine Ev.pos (by omega) (Ev.iteS (fun gl => Ev.pos hl ?_) (fun gl => Ev.pos hl ?_))
      · exact next 1 (nval_lit (by omega) gl).symm
      · exact next _ (by rw [nval_rest (by omega) gl]; omega)
theorem sNeedStep (net : List Int) (kinds : Int) (needs state : List Int) (hn : needs.length ≤ 1048577) (hs : state.length ≤ 1048577) : Ev (fun k => spec_NeedStep.f k net kinds needs state) (needStepR net kinds needs state) := by
  unfold spec_NeedStep.f
  have out : ¬ (AskedP net kinds state ∧ NeedsP net needs) → Ev (fun k => spec_NeedStep.j0 k net kinds needs state true) (needStepR net kinds needs state) := fun e =>
    Ev.step (fun k => by rw [spec_NeedStep.j0]) (Ev.pos rfl (Ev.val (by unfold needStepR; rw [if_neg e])))
  refine Ev.bnd (sL3Ok net kinds state hs) (Ev.iteS (fun h => Ev.bnd (sNeedsOk net needs hn) ?_) (fun h => ?_))
  all_goals simp only [decide_eq_true_eq] at *
  · by_cases hw : NeedsP net needs
    · rw [decide_eq_true hw]
      refine Ev.step (fun k => by rw [spec_NeedStep.j0]) (Ev.neg (by decide) ?_)
      unfold needStepR; rw [if_pos ⟨h, hw⟩]
      have hlen := h.len
      have hh := h.nok.hi
      refine ev_for (F := fun k x a => spec_NeedStep.l0 k net kinds needs state a x) (n := state.length) (out := fun _ _ => nstep net kinds needs state) (I := fun i a => a = ((firesTo state i : Nat) : Int)) ?_ ?_ state.length 0 (by omega) _ rfl
      · rintro a rfl
        refine Ev.step (fun k => by rw [spec_NeedStep.l0]) (Ev.neg (by omega) ?_)
        exact sNeed_l1 h hw
      · rintro i a hi rfl ih
        have hl := firesTo_lt state i
        have hp : (2 : Nat) ^ i ≤ 2 ^ 6 := Nat.pow_le_pow_right (by decide) (by omega)
        refine Ev.step (fun k => by rw [spec_NeedStep.l0]) (Ev.pos (by omega) (Ev.pos (by omega) ?_))
        rw [rd_nat, w64s i (by omega)]
        refine Ev.iteS (fun g => ?_) (fun g => ?_)
        · rw [or_bit (by omega) (by omega)]
          exact ih _ (by rw [firesTo_yes g])
        · exact ih _ (by rw [firesTo_no g])
    · rw [decide_eq_false hw]; exact out (fun e => hw e.2)
  · exact out (fun e => h e.1)

/-! ### NeedRun, both -/
def nrun (net : List Int) (kinds : Int) (needs state : List Int) : Nat → List Int
  | 0 => state
  | m + 1 => nstep net kinds needs (nrun net kinds needs state m)
theorem nrun_asked {net : List Int} {kinds : Int} {needs state : List Int} (h : AskedP net kinds state) : ∀ m, AskedP net kinds (nrun net kinds needs state m)
  | 0 => h
  | m + 1 => (nrun_asked h m).step needs
def needRunR (net : List Int) (kinds : Int) (needs state : List Int) (steps : Int) : List Int :=
  if AskedP net kinds state ∧ NeedsP net needs ∧ 0 ≤ steps ∧ steps ≤ 60 then nrun net kinds needs state steps.toNat else []
theorem clone_eq {l : List Int} (h : l.length < 17592186044416) : slices_Clone_int_int.f l = some l := by
  unfold slices_Clone_int_int.f
  rw [Option.bind_some, if_pos (by simpa using h)]; rfl
theorem iNeedRun (net : List Int) (kinds : Int) (needs state : List Int) (steps : Int) (hn : needs.length ≤ 1048577) (hs : state.length ≤ 1048577) : Ev (fun k => impl_NeedRun.f k net kinds needs state steps) (needRunR net kinds needs state steps) := by
  unfold impl_NeedRun.f
  have out : ¬ (AskedP net kinds state ∧ NeedsP net needs ∧ 0 ≤ steps ∧ steps ≤ 60) → Ev (fun k => impl_NeedRun.j0 k net kinds needs state steps true) (needRunR net kinds needs state steps) := fun e =>
    Ev.step (fun k => by rw [impl_NeedRun.j0]) (Ev.pos rfl (Ev.val (by unfold needRunR; rw [if_neg e])))
  refine Ev.bnd (iNeedsOk net needs hn) (Ev.iteS (fun hw => Ev.bnd (iAsked net kinds state hs) (Ev.iteS (fun h => Ev.iteS (fun g => ?_) (fun g => ?_)) (fun h => ?_))) (fun hw => ?_))
  all_goals simp only [decide_eq_true_eq] at *
  · exact out (fun e => by omega)
  · by_cases g2 : steps > 60
    · rw [decide_eq_true g2]; exact out (fun e => by omega)
    · rw [decide_eq_false g2]
      refine Ev.step (fun k => by rw [impl_NeedRun.j0]) (Ev.neg (by decide) (Ev.bnd0 (clone_eq (by omega)) ?_))
      unfold needRunR; rw [if_pos ⟨h, hw, by omega, by omega⟩]
      obtain ⟨n, rfl⟩ := Int.eq_ofNat_of_zero_le (show 0 ≤ steps by omega)
      rw [Int.toNat_natCast]
      refine ev_for (F := fun k x a => impl_NeedRun.l0 k net kinds needs a (n : Int) x) (n := n) (out := fun _ _ => nrun net kinds needs state n) (I := fun i a => a = nrun net kinds needs state i) ?_ ?_ n 0 (by omega) _ rfl
      · rintro a rfl
        exact Ev.step (fun k => by rw [impl_NeedRun.l0]) (Ev.neg (by omega) (Ev.now _))
      · rintro i a hi rfl ih
        refine Ev.step (fun k => by rw [impl_NeedRun.l0]) (Ev.pos (by omega) (Ev.bnd (stepn_ev (nrun_asked h i) hw) ?_))
        rw [w64s i (by omega)]
        exact ih _ rfl
  · exact out (fun e => h e.1)
  · exact out (fun e => hw e.2.1)
theorem sNeedRun (net : List Int) (kinds : Int) (needs state : List Int) (steps : Int) (hn : needs.length ≤ 1048577) (hs : state.length ≤ 1048577) : Ev (fun k => spec_NeedRun.f k net kinds needs state steps) (needRunR net kinds needs state steps) := by
  unfold spec_NeedRun.f
  have out : ¬ (AskedP net kinds state ∧ NeedsP net needs ∧ 0 ≤ steps ∧ steps ≤ 60) → Ev (fun k => spec_NeedRun.j0 k net kinds needs state steps true) (needRunR net kinds needs state steps) := fun e =>
    Ev.step (fun k => by rw [spec_NeedRun.j0]) (Ev.pos rfl (Ev.val (by unfold needRunR; rw [if_neg e])))
  refine Ev.bnd (sL3Ok net kinds state hs) (Ev.iteS (fun h => Ev.bnd (sNeedsOk net needs hn) (Ev.iteS (fun hw => Ev.bnd0 (l1In_eq _ _ _) ?_) (fun hw => ?_))) (fun h => ?_))
  all_goals simp only [decide_eq_true_eq] at *
  · by_cases g2 : 0 ≤ steps ∧ steps ≤ 60
    · rw [decide_eq_true g2]
      refine Ev.step (fun k => by rw [spec_NeedRun.j0]) (Ev.neg (by decide) ?_)
      refine Ev.bnd0 rfl ?_
      refine Ev.pos (by simp; omega) ?_
      unfold needRunR; rw [if_pos ⟨h, hw, g2⟩]
      obtain ⟨n, rfl⟩ := Int.eq_ofNat_of_zero_le g2.1
      rw [Int.toNat_natCast]
      refine ev_for (F := fun k x a => spec_NeedRun.l0 k net kinds needs (n : Int) a x) (n := n) (out := fun _ _ => nrun net kinds needs state n) (I := fun i a => a = nrun net kinds needs state i) ?_ ?_ n 0 (by omega) _ rfl
      · rintro a rfl
        exact Ev.step (fun k => by rw [spec_NeedRun.l0]) (Ev.neg (by omega) (Ev.now _))
      · rintro i a hi rfl ih
        have ha := nrun_asked (needs := needs) h i
        have hl := ha.len
        have hh := ha.st.hi
        have e := sNeedStep net kinds needs (nrun net kinds needs state i) hn (by omega)
        unfold needStepR at e
        rw [if_pos ⟨ha, hw⟩] at e
        refine Ev.step (fun k => by rw [spec_NeedRun.l0]) (Ev.pos (by omega) (Ev.bnd e ?_))
        rw [w64s i (by omega)]
        exact ih _ rfl
    · rw [decide_eq_false g2]; exact out (fun e => g2 e.2.2)
  · exact out (fun e => hw e.2.1)
  · exact out (fun e => h e.1)

/-! ### lists of numbers: laid, compared, marked, held -/
theorem toIntS (l : List Int) (hn : l.length ≤ 1048576) : Ev (fun k => laws_toIntS.f k l) l := by
  unfold laws_toIntS.f
  refine Ev.pos (by omega) (Ev.pos (by omega) ?_)
  refine ev_for (F := fun k x s => laws_toIntS.l0 k l s x) (n := l.length) (out := fun _ _ => l) (I := fun i s => s.length = l.length ∧ ∀ j, j < i → s.getD j 0 = l.getD j 0) ?_ ?_ l.length 0 (by omega) _ ⟨by simp, fun j h => by omega⟩
  · rintro s ⟨h1, h2⟩
    refine Ev.step (fun k => by rw [laws_toIntS.l0]) (Ev.neg (by omega) (Ev.val (ext_getD h1 (fun j hj => h2 j (by omega)))))
  · rintro i s hi ⟨h1, h2⟩ ih
    refine Ev.step (fun k => by rw [laws_toIntS.l0]) (Ev.pos (by omega) (Ev.pos (by omega) (Ev.pos (by omega) ?_)))
    rw [w64s i (by omega)]
    refine ih _ ⟨by simp [h1], fun j hj => ?_⟩
    rw [rd_nat, Int.toNat_natCast, List.getD_eq_getElem?_getD, List.getElem?_set]
    by_cases e : i = j
    · subst e; simp [h1, hi]
    · rw [if_neg e, ← List.getD_eq_getElem?_getD]; exact h2 j (by omega)
theorem eqIntS (a b : List Int) (hn : a.length ≤ 1048576) : Ev (fun k => laws_eqIntS.f k a b) (decide (a = b)) := by
  unfold laws_eqIntS.f
  refine Ev.iteS (fun hl => ?_) (fun hl => Ev.val (by symm; simp only [decide_eq_false_iff_not]; exact fun h => hl (by rw [h])))
  have hl : a.length = b.length := by omega
  have H := ev_scan (F := fun k x => laws_eqIntS.l0 k a b x) (n := a.length) (P := fun j => a.getD j 0 = b.getD j 0) (r := true) (r' := false) (fun _ => ?_) (fun i hi hp c hc => ?_) (fun i hi _ hp => ?_)
  · refine Ev.to H ?_
    by_cases h : ∀ j, j < a.length → a.getD j 0 = b.getD j 0
    · rw [if_pos h]; symm; simp only [decide_eq_true_eq]; exact ext_getD hl h
    · rw [if_neg h]; symm; simp only [decide_eq_false_iff_not]; exact fun e => h (fun j _ => by rw [e])
  · exact Ev.step (fun k => by rw [laws_eqIntS.l0]) (Ev.neg (by omega) (Ev.now _))
  · refine Ev.step (fun k => by rw [laws_eqIntS.l0]) (Ev.pos (by omega) (Ev.pos (by omega) (Ev.pos (by omega) ?_)))
    rw [rd_nat, rd_nat, w64s i (by omega)]
    exact Ev.pos hp hc
  · refine Ev.step (fun k => by rw [laws_eqIntS.l0]) (Ev.pos (by omega) (Ev.pos (by omega) (Ev.pos (by omega) ?_)))
    rw [rd_nat, rd_nat]
    exact Ev.neg hp (Ev.now _)

/-- A row of numbers from m on. -/
def Marked (m : Int) (s : List Int) : Prop := ∀ j, j < s.length → s.getD j 0 = m + j
theorem markIntS (l : List Int) (m : Int) (hm0 : 0 ≤ m) (hm : m ≤ 4194304) (hn : l.length ≤ 1048576) : ∃ s, s.length = l.length ∧ Marked m s ∧ Ev (fun k => laws_markIntS.f k l m) (m + l.length, s) := by
  unfold laws_markIntS.f
  have H : ∀ d i : Nat, i + d = l.length → ∀ s, s.length = l.length → (∀ j, j < i → s.getD j 0 = m + j) → ∃ s', s'.length = l.length ∧ Marked m s' ∧ Ev (fun k => laws_markIntS.l0 k s (m + i) (i : Int)) (m + l.length, s') := by
    intro d
    induction d with
    | zero =>
      intro i hi s h1 h2
      obtain rfl : i = l.length := by omega
      exact ⟨s, h1, fun j hj => h2 j (by omega), Ev.step (fun k => by rw [laws_markIntS.l0]) (Ev.neg (by omega) (Ev.now _))⟩
    | succ d ih =>
      intro i hi s h1 h2
      obtain ⟨s', a1, a2, a3⟩ := ih (i + 1) (by omega) (s.set i (m + i)) (by simp [h1]) (fun j hj => by
        rw [List.getD_eq_getElem?_getD, List.getElem?_set]
        by_cases e : i = j
        · subst e; rw [if_pos rfl, if_pos (by omega)]; rfl
        · rw [if_neg e, ← List.getD_eq_getElem?_getD]; exact h2 j (by omega))
      refine ⟨s', a1, a2, Ev.step (fun k => by rw [laws_markIntS.l0]) (Ev.pos (by omega) (Ev.pos (by omega) ?_))⟩
      rw [w64s i (by omega), w64 (x := m + i + 1) (by omega) (by omega), Int.toNat_natCast, show m + (i : Int) + 1 = m + ((i + 1 : Nat) : Int) by omega]
      exact a3
  obtain ⟨s', a1, a2, a3⟩ := H l.length 0 (by omega) l rfl (fun j h => by omega)
  refine ⟨s', a1, a2, ?_⟩
  simpa using a3
theorem heldIntS (s : List Int) (m : Int) (hm0 : 0 ≤ m) (hm : m ≤ 4194304) (hn : s.length ≤ 1048576) (hs : Marked m s) : Ev (fun k => laws_heldIntS.f k s m) (m + s.length) := by
  unfold laws_heldIntS.f
  have H : ∀ d i : Nat, i + d = s.length → Ev (fun k => laws_heldIntS.l0 k s (m + i) (i : Int)) (m + s.length) := by
    intro d
    induction d with
    | zero =>
      intro i hi
      obtain rfl : i = s.length := by omega
      exact Ev.step (fun k => by rw [laws_heldIntS.l0]) (Ev.neg (by omega) (Ev.now _))
    | succ d ih =>
      intro i hi
      refine Ev.step (fun k => by rw [laws_heldIntS.l0]) (Ev.pos (by omega) (Ev.pos (by omega) ?_))
      rw [rd_nat, hs i (by omega), w64s i (by omega), w64 (x := m + i + 1) (by omega) (by omega), show m + (i : Int) + 1 = m + ((i + 1 : Nat) : Int) by omega]
      exact Ev.pos rfl (ih (i + 1) (by omega))
  have := H s.length 0 (by omega)
  simpa using this

theorem needRunR_len (net : List Int) (kinds : Int) (needs state : List Int) (steps : Int) : (needRunR net kinds needs state steps).length ≤ 6 := by
  unfold needRunR
  by_cases h : AskedP net kinds state ∧ NeedsP net needs ∧ 0 ≤ steps ∧ steps ≤ 60
  · rw [if_pos h]; exact (nrun_asked h.1 _).st.hi
  · rw [if_neg h]; simp
theorem FnExactNeedRun : laws_FnExactNeedRun.Pure := by
  intro l0 a l2 l3 b _ _ _ _ _ _ _ _ _ _ _
  refine Ev.rounds (g := fun k => laws_FnExactNeedRun.f k l0 a l2 l3 b) ?_
  unfold laws_FnExactNeedRun.f
  refine Ev.iteS (fun _ => Ev.now _) (fun h0 => Ev.iteS (fun _ => Ev.now _) (fun h1 => Ev.iteS (fun _ => Ev.now _) (fun h3 => ?_)))
  have t0 := toIntS l0 (by omega)
  have t2 := toIntS l2 (by omega)
  have t3 := toIntS l3 (by omega)
  have e0 := eqIntS l0 l0 (by omega)
  have e2 := eqIntS l2 l2 (by omega)
  have e3 := eqIntS l3 l3 (by omega)
  have i0 := iNeedRun l0 a l2 l3 b (by omega) (by omega)
  have s0 := sNeedRun l0 a l2 l3 b (by omega) (by omega)
  have hr := needRunR_len l0 a l2 l3 b
  have e4 := eqIntS (needRunR l0 a l2 l3 b) (needRunR l0 a l2 l3 b) (by omega)
  obtain ⟨s1, a1, a2, a3⟩ := markIntS l0 1 (by omega) (by omega) (by omega)
  obtain ⟨s2, b1, b2, b3⟩ := markIntS l2 (1 + l0.length) (by omega) (by omega) (by omega)
  obtain ⟨s3, c1, c2, c3⟩ := markIntS l3 (1 + l0.length + l2.length) (by omega) (by omega) (by omega)
  obtain ⟨s, m1, m2, m3⟩ := markIntS (needRunR l0 a l2 l3 b) 1 (by omega) (by omega) (by omega)
  have hh := heldIntS s 1 (by omega) (by omega) (by omega) m2
  have j0 : Ev (fun k => laws_FnExactNeedRun.j0 k l0 a l2 l3 b (needRunR l0 a l2 l3 b) (needRunR l0 a l2 l3 b) (!decide (needRunR l0 a l2 l3 b = needRunR l0 a l2 l3 b))) true := by
    refine Ev.step (fun k => by rw [laws_FnExactNeedRun.j0]) (Ev.neg (by simp) ?_)
    repeat (first | exact Ev.now _ | (refine Ev.bnd m3 ?_) | (refine Ev.bnd hh ?_) | (refine Ev.bnd t0 ?_) | (refine Ev.bnd t2 ?_) | (refine Ev.bnd t3 ?_) | (refine Ev.bnd i0 ?_) | (refine Ev.bnd e4 ?_) | (refine Ev.pos (by first | rfl | omega | (simp; done)) ?_) | (refine Ev.neg (by first | omega | (simp; done)) ?_))
  repeat (first | exact Ev.now _ | (refine Ev.bnd t0 ?_) | (refine Ev.bnd t2 ?_) | (refine Ev.bnd t3 ?_) | (refine Ev.bnd i0 ?_) | (refine Ev.bnd s0 ?_) | (refine Ev.bnd e4 ?_) | (refine Ev.bnd e0 ?_) | (refine Ev.bnd e2 ?_) | (refine Ev.bnd e3 ?_) | (refine Ev.bnd a3 ?_) | (refine Ev.bnd b3 ?_) | (refine Ev.bnd c3 ?_) | (refine Ev.pos (by first | rfl | omega | (simp; done)) ?_) | (refine Ev.neg (by first | omega | (simp; done)) ?_))
  exact j0
end Go.Proofs.Ythkngbdijoeolaa.Pure
