/- What the law FnExactScriptFired asks, proved over the functions: for every input that its guards let in, it answers true. -/
import Derived.Test.YtfhkahlfpchhpaaKit
import Derived.Test.YtfhkahlfpchhpaaF1
import Derived.Test.YtfhkahlfpchhpaaF17
import Derived.Test.YtfhkahlfpchhpaaF19
import Derived.Test.YtfhkahlfpchhpaaF28
import Derived.Test.YtfhkahlfpchhpaaF30
import Derived.Test.YtfhkahlfpchhpaaF31
import Derived.Test.YtfhkahlfpchhpaaF32
import Derived.Test.YtfhkahlfpchhpaaF34
import Derived.Test.YtfhkahlfpchhpaaF35
import Derived.Test.YtfhkahlfpchhpaaF38
import Derived.Test.YtfhkahlfpchhpaaF9
import Derived.Test.YtfhkahlfpchhpaaFFnExactScriptFired
import Derived.Test.YtfhkahlfpchhpaaT
import Derived.Deep.SlicePairs
set_option linter.unusedVariables false
set_option linter.unusedSimpArgs false
namespace Go.Proofs.Ytfhkahlfpchhpaa.Pure
open Go Go.RowKit Go.Proofs.Ytfhkahlfpchhpaa.PAll Go.Proofs.YtfhkahlfpchhpaaW.PrintWords Go.Proofs.YtfhkahlfpchhpaaW.PrintLast Go.Proofs.YtfhkahlfpchhpaaW.PrintMore Go.Proofs.Ytfhkahlfpchhpaa.Kit
/-! ### NetOk, both -/
theorem l1In_eq (a b c : Int) : spec_l1In.f a b c = some (decide (b ≤ a ∧ a ≤ c)) := by
  unfold spec_l1In.f
  by_cases h : a ≥ b
  · rw [if_pos h]; simp [h]
  · rw [if_neg h]; simp; omega
def SymQ (net : List Int) (i j : Nat) : Prop := tb (net.getD i 0) j = tb (net.getD j 0) i ∧ (j = i → tb (net.getD i 0) i = false)
instance (net : List Int) (i j : Nat) : Decidable (SymQ net i j) := by unfold SymQ; infer_instance
theorem symQ {net : List Int} {i : Nat} (hi : i < net.length) : SymP net i ↔ ∀ j, j < net.length → SymQ net i j := by
  constructor
  · rintro ⟨h1, h2⟩ j hj
    exact ⟨h2 j hj, fun _ => h1⟩
  · intro h
    exact ⟨(h i hi).2 rfl, fun j hj => (h j hj).1⟩
theorem sNetOk_l2 (net : List Int) (hn : net.length ≤ 6) (hr : ∀ i, i < net.length → RowP net i) (i : Nat) (hi : i < net.length) (j : Nat) (hj : j < net.length) (c : Bool)
    (h : Ev (fun k => if b01 (tb (net.getD i 0) j) = b01 (tb (net.getD j 0) i) then (if (j : Int) = (i : Int) then (if b01 (tb (net.getD i 0) j) = 1 then some false else spec_NetOk.l2 k net (i : Int) ((j + 1 : Nat) : Int)) else spec_NetOk.l2 k net (i : Int) ((j + 1 : Nat) : Int)) else some false) c) : Ev (fun k => spec_NetOk.l2 k net (i : Int) (j : Int)) c := by
  have e1 : Int.tmod (shr .i64 (rd net (i : Int)) (j : Int)) 2 = b01 (tb (net.getD i 0) j) := by rw [rd_nat]; exact shr_tmod (hr i hi).1 j (by omega)
  have e2 : Int.tmod (shr .i64 (rd net (j : Int)) (i : Int)) 2 = b01 (tb (net.getD j 0) i) := by rw [rd_nat]; exact shr_tmod (hr j hj).1 i (by omega)
  refine Ev.step (fun k => by rw [spec_NetOk.l2]) ?_
  rw [e1, e2, w64s j (by omega)]
  exact Ev.pos (by omega) (Ev.pos (by omega) (Ev.pos (by omega) (Ev.pos (by omega) h)))
theorem sNetOk_l1 (net : List Int) (hn : net.length ≤ 6) (hr : ∀ i, i < net.length → RowP net i) :
    Ev (fun k => spec_NetOk.l1 k net 0) (if ∀ j, j < net.length → SymP net j then true else false) := by
  refine ev_scan (F := fun k x => spec_NetOk.l1 k net x) (fun _ => ?_) (fun i hi hp b hb => ?_) (fun i hi _ hp => ?_)
  · exact Ev.step (fun k => by rw [spec_NetOk.l1]) (Ev.neg (by omega) (Ev.now _))
  all_goals refine Ev.step (fun k => by rw [spec_NetOk.l1]) (Ev.pos (by omega) ?_)
  all_goals rw [symQ hi] at hp
  · have H := ev_scan (F := fun k x => spec_NetOk.l2 k net (i : Int) x) (n := net.length) (P := SymQ net i) (r := b) (r' := false) (fun _ => ?_) (fun j hj hq c hc => ?_) (fun j hj _ hq => absurd (hp j hj) hq)
    · rw [if_pos hp] at H; exact H
    · refine Ev.step (fun k => by rw [spec_NetOk.l2]) (Ev.neg (by omega) ?_)
      rw [w64s i (by omega)]; exact hb
    · refine sNetOk_l2 net hn hr i hi j hj c (Ev.pos (b01_eq.2 hq.1) (Ev.iteS (fun h => Ev.neg (fun h' => ?_) hc) (fun h => hc)))
      obtain rfl : j = i := by omega
      rw [hq.2 rfl] at h'; cases h'
  · have H := ev_scan (F := fun k x => spec_NetOk.l2 k net (i : Int) x) (n := net.length) (P := SymQ net i) (r := true) (r' := false) (fun h => absurd h hp) (fun j hj hq c hc => ?_) (fun j hj _ hq => ?_)
    · rw [if_neg hp] at H; exact H
    · refine sNetOk_l2 net hn hr i hi j hj c (Ev.pos (b01_eq.2 hq.1) (Ev.iteS (fun h => Ev.neg (fun h' => ?_) hc) (fun h => hc)))
      obtain rfl : j = i := by omega
      rw [hq.2 rfl] at h'; cases h'
    · refine sNetOk_l2 net hn hr i hi j hj false (Ev.iteS (fun h => ?_) (fun h => Ev.now _))
      have h1 := b01_eq.1 h
      by_cases h2 : j = i
      · subst h2
        refine Ev.pos rfl (Ev.pos ?_ (Ev.now _))
        rw [b01_one]
        by_cases h3 : tb (net.getD j 0) j = true
        · exact h3
        · exact absurd ⟨rfl, fun _ => by simpa using h3⟩ hq
      · exact absurd ⟨h1, fun h => absurd h h2⟩ hq
theorem sNetOk (net : List Int) : Ev (fun k => spec_NetOk.f k net) (decide (NetP net)) := by
  unfold spec_NetOk.f
  refine Ev.bnd0 (l1In_eq _ _ _) ?_
  by_cases hn : 1 ≤ net.length ∧ net.length ≤ 6
  · refine Ev.pos (by simp; omega) ?_
    have hs : wrap64 (shl .i64 1 (net.length : Int) - 1) = 2 ^ net.length - 1 := by
      have := pow6 hn.2
      have h2 : (0 : Int) < 2 ^ net.length := Int.pow_pos (by decide)
      rw [shl_one _ (by omega), w64 (by simp; omega) (by simp; omega)]
      simp
    have pre : ∀ (i : Nat), i < net.length → ∀ c, Ev (fun k => if (decide (0 ≤ net.getD i 0 ∧ net.getD i 0 ≤ 2 ^ net.length - 1)) = true then spec_NetOk.l0 k net ((i + 1 : Nat) : Int) else some false) c → Ev (fun k => spec_NetOk.l0 k net (i : Int)) c := by
      intro i hi c h
      refine Ev.step (fun k => by rw [spec_NetOk.l0]) (Ev.pos (by omega) (Ev.pos (by omega) (Ev.bnd0 (l1In_eq _ _ _) ?_)))
      rw [rd_nat, hs, w64s i (by omega)]
      exact h
    have H := ev_scan (F := fun k x => spec_NetOk.l0 k net x) (n := net.length) (P := RowP net) (r := decide (NetP net)) (r' := false) (fun hr => ?_) (fun i hi hp b hb => ?_) (fun i hi _ hp => ?_)
    · refine Ev.to H ?_
      by_cases hr : ∀ i, i < net.length → RowP net i
      · rw [if_pos hr]
      · rw [if_neg hr]; symm; simp only [decide_eq_false_iff_not]; exact fun h => hr h.row
    · refine Ev.step (fun k => by rw [spec_NetOk.l0]) (Ev.neg (by omega) (Ev.to (sNetOk_l1 net hn.2 hr) ?_))
      rw [Bool.eq_iff_iff]
      simp only [decide_eq_true_eq]
      by_cases h : ∀ j, j < net.length → SymP net j
      · rw [if_pos h]; exact ⟨fun _ => ⟨hn.1, hn.2, hr, h⟩, fun _ => rfl⟩
      · rw [if_neg h]; exact ⟨fun h => (by cases h), fun h' => absurd h'.sym h⟩
    · exact pre i hi b (Ev.pos (by unfold RowP at hp; simp only [decide_eq_true_eq]; omega) hb)
    · exact pre i hi false (Ev.neg (by unfold RowP at hp; simp only [decide_eq_true_eq]; omega) (Ev.now _))
  · refine Ev.neg (by simp; omega) (Ev.val ?_)
    symm
    simp only [decide_eq_false_iff_not]
    exact fun h => hn ⟨h.lo, h.hi⟩
theorem iNetOk_l1 (net : List Int) (hn : net.length ≤ 6) (i : Nat) (hi : i < net.length) (x14 : List Int) (x15 x16 : Int) (v : Int) (j : Nat) (hj : j < net.length) (c : Bool)
    (h : Ev (fun k => if Go.bits .and .i64 (shr .i64 v (j : Int)) 1 = Go.bits .and .i64 (shr .i64 (net.getD j 0) (i : Int)) 1 then impl_NetOk.l1 k net (i : Int) v x14 x15 x16 (net.length : Int) ((j + 1 : Nat) : Int) else some false) c) :
    Ev (fun k => impl_NetOk.l1 k net (i : Int) v x14 x15 x16 (net.length : Int) (j : Int)) c := by
  refine Ev.step (fun k => by rw [impl_NetOk.l1]) ?_
  rw [rd_nat, w64s j (by omega)]
  exact Ev.pos (by omega) (Ev.pos (by omega) (Ev.pos (by omega) (Ev.pos (by omega) h)))
/-- What impl.NetOk asks of a row, as it asks. -/
def AskP (net : List Int) (i : Nat) : Prop :=
  0 ≤ net.getD i 0 ∧ net.getD i 0 < 2 ^ net.length ∧ ¬ Go.bits .and .i64 (shr .i64 (net.getD i 0) (i : Int)) 1 = 1 ∧
    ∀ j, j < net.length → Go.bits .and .i64 (shr .i64 (net.getD i 0) (j : Int)) 1 = Go.bits .and .i64 (shr .i64 (net.getD j 0) (i : Int)) 1
theorem asks {net : List Int} (hn : net.length ≤ 6) : (∀ i, i < net.length → AskP net i) ↔ (∀ i, i < net.length → RowP net i) ∧ ∀ i, i < net.length → SymP net i := by
  constructor
  · intro h
    have hr : ∀ i, i < net.length → RowP net i := fun i hi => ⟨(h i hi).1, (h i hi).2.1⟩
    refine ⟨hr, fun i hi => ⟨?_, fun j hj => ?_⟩⟩
    · have h1 := (h i hi).2.2.1
      have h2 := (hr i hi).big hn
      rw [shr_and (hr i hi).1 (by omega) i (by omega), b01_one] at h1
      simpa using h1
    · have h1 := (h i hi).2.2.2 j hj
      have h2 := (hr i hi).big hn
      have h3 := (hr j hj).big hn
      rw [shr_and (hr i hi).1 (by omega) j (by omega), shr_and (hr j hj).1 (by omega) i (by omega), b01_eq] at h1
      exact h1
  · rintro ⟨hr, hs⟩ i hi
    have h2 := (hr i hi).big hn
    refine ⟨(hr i hi).1, (hr i hi).2, ?_, fun j hj => ?_⟩
    · rw [shr_and (hr i hi).1 (by omega) i (by omega), b01_one, (hs i hi).1]; simp
    · have h3 := (hr j hj).big hn
      rw [shr_and (hr i hi).1 (by omega) j (by omega), shr_and (hr j hj).1 (by omega) i (by omega), b01_eq]
      exact (hs i hi).2 j hj
theorem iNetOk (net : List Int) : Ev (fun k => impl_NetOk.f k net) (decide (NetP net)) := by
  unfold impl_NetOk.f
  have stop : ¬ (1 ≤ net.length ∧ net.length ≤ 6) → Ev (fun k => impl_NetOk.j0 k net true) (decide (NetP net)) := fun hn =>
    Ev.step (fun k => by rw [impl_NetOk.j0]) (Ev.pos rfl (Ev.val (by symm; simp only [decide_eq_false_iff_not]; exact fun h => hn ⟨h.lo, h.hi⟩)))
  refine Ev.iteS (fun h1 => stop (by omega)) (fun h1 => ?_)
  by_cases h2 : (net.length : Int) > 6
  · rw [decide_eq_true h2]; exact stop (by omega)
  rw [decide_eq_false h2]
  have hn : net.length ≤ 6 := by omega
  refine Ev.step (fun k => by rw [impl_NetOk.j0]) (Ev.neg (by decide) ?_)
  classical
  have H := ev_scan (F := fun k x => impl_NetOk.l0 k net net (net.length : Int) x) (n := net.length) (P := AskP net) (r := true) (r' := false) (fun _ => ?_) (fun i hi hp b hb => ?_) (fun i hi _ hp => ?_)
  · refine Ev.to H ?_
    by_cases hr : ∀ i, i < net.length → AskP net i
    · rw [if_pos hr]; symm; simp only [decide_eq_true_eq]; exact ⟨by omega, hn, ((asks hn).1 hr).1, ((asks hn).1 hr).2⟩
    · rw [if_neg hr]; symm; simp only [decide_eq_false_iff_not]; exact fun h => hr ((asks hn).2 ⟨h.row, h.sym⟩)
  · exact Ev.step (fun k => by rw [impl_NetOk.l0]) (Ev.neg (by omega) (Ev.now _))
  · obtain ⟨a1, a2, a3, a4⟩ := hp
    refine Ev.step (fun k => by rw [impl_NetOk.l0]) (Ev.pos (by omega) (Ev.pos (by omega) (Ev.pos (by omega) ?_)))
    rw [rd_nat, shl_one _ (by omega), beq_eq_false_iff_ne.2 a3]
    refine Ev.neg (by omega) (Ev.neg (by simp; exact_mod_cast a2) ?_)
    refine Ev.step (fun k => by rw [impl_NetOk.j2]) (Ev.neg (by decide) ?_)
    refine ev_back (F := fun k x => impl_NetOk.l1 k net (i : Int) (net.getD i 0) net (net.length : Int) (i : Int) (net.length : Int) x) net.length ?_ (fun j hj e => ?_)
    · refine Ev.step (fun k => by rw [impl_NetOk.l1]) (Ev.neg (by omega) ?_)
      rw [w64s i (by omega)]; exact hb
    · exact iNetOk_l1 net hn i hi _ _ _ _ j hj b (Ev.pos (a4 j hj) e)
  · refine Ev.step (fun k => by rw [impl_NetOk.l0]) (Ev.pos (by omega) (Ev.pos (by omega) (Ev.pos (by omega) ?_)))
    rw [rd_nat, shl_one _ (by omega)]
    have out : ∀ v, Ev (fun k => impl_NetOk.j2 k net (i : Int) v net (net.length : Int) (i : Int) true) false := fun v =>
      Ev.step (fun k => by rw [impl_NetOk.j2]) (Ev.pos rfl (Ev.now _))
    refine Ev.iteS (fun _ => out _) (fun b1 => Ev.iteS (fun _ => out _) (fun b2 => ?_))
    by_cases b3 : Go.bits .and .i64 (shr .i64 (net.getD i 0) (i : Int)) 1 = 1
    · rw [b3]; exact out _
    rw [beq_eq_false_iff_ne.2 b3]
    refine Ev.step (fun k => by rw [impl_NetOk.j2]) (Ev.neg (by decide) ?_)
    have hq : ¬ ∀ j, j < net.length → Go.bits .and .i64 (shr .i64 (net.getD i 0) (j : Int)) 1 = Go.bits .and .i64 (shr .i64 (net.getD j 0) (i : Int)) 1 := fun h => hp ⟨by omega, by simp at b2; exact_mod_cast b2, b3, h⟩
    rcases first_bad (n := net.length) (P := fun j => Go.bits .and .i64 (shr .i64 (net.getD i 0) (j : Int)) 1 = Go.bits .and .i64 (shr .i64 (net.getD j 0) (i : Int)) 1) with h | ⟨m, h4, h5, h6⟩
    · exact absurd h hq
    · refine ev_back (F := fun k x => impl_NetOk.l1 k net (i : Int) (net.getD i 0) net (net.length : Int) (i : Int) (net.length : Int) x) m ?_ (fun j hj e => ?_)
      · exact iNetOk_l1 net hn i hi _ _ _ _ m h4 false (Ev.neg h5 (Ev.now _))
      · exact iNetOk_l1 net hn i hi _ _ _ _ j (by omega) false (Ev.pos (h6 j hj) e)

/-! ### StateOk and asked -/
theorem iStateOk (kinds : Int) (state : List Int) (hn : state.length ≤ 1048577) : Ev (fun k => impl_StateOk.f k kinds state) (decide (StateP kinds state)) := by
  unfold impl_StateOk.f
  have H := ev_scan (F := fun k x => impl_StateOk.l0 k kinds state state (state.length : Int) x) (n := state.length) (P := fun i => 0 ≤ state.getD i 0 ∧ state.getD i 0 < kinds) (r := decide (StateP kinds state)) (r' := false) (fun h => ?_) (fun i hi hp b hb => ?_) (fun i hi _ hp => ?_)
  · refine Ev.to H ?_
    by_cases h : ∀ i, i < state.length → 0 ≤ state.getD i 0 ∧ state.getD i 0 < kinds
    · rw [if_pos h]
    · rw [if_neg h]; symm; simp only [decide_eq_false_iff_not]; exact fun e => h e.row
  · refine Ev.step (fun k => by rw [impl_StateOk.l0]) (Ev.neg (by omega) ?_)
    have no : ¬ StateP kinds state → decide (StateP kinds state) = false := fun e => decide_eq_false e
    refine Ev.iteS (fun g1 => Ev.iteS (fun g2 => Ev.iteS (fun g3 => Ev.val ?_) (fun g => Ev.val (no (fun e => by have := e.lo; omega)).symm)) (fun g => Ev.val (no (fun e => by have := e.k5; omega)).symm)) (fun g => Ev.val (no (fun e => by have := e.k3; omega)).symm)
    rw [Bool.eq_iff_iff]; simp only [decide_eq_true_eq]
    exact ⟨fun e => ⟨g1, g2, by omega, by omega, h⟩, fun e => by have := e.hi; omega⟩
  · refine Ev.step (fun k => by rw [impl_StateOk.l0]) (Ev.pos (by omega) (Ev.pos (by omega) (Ev.pos (by omega) ?_)))
    rw [rd_nat, w64s i (by omega)]
    exact Ev.neg (by omega) (Ev.neg (by omega) hb)
  · refine Ev.step (fun k => by rw [impl_StateOk.l0]) (Ev.pos (by omega) (Ev.pos (by omega) (Ev.pos (by omega) ?_)))
    rw [rd_nat]
    exact Ev.iteS (fun _ => Ev.now _) (fun h1 => Ev.pos (by omega) (Ev.now _))
theorem iAsked (net : List Int) (kinds : Int) (state : List Int) (hn : state.length ≤ 1048577) : Ev (fun k => impl_asked.f k net kinds state) (decide (AskedP net kinds state)) := by
  unfold impl_asked.f
  have no : ¬ AskedP net kinds state → false = decide (AskedP net kinds state) := fun e => (decide_eq_false e).symm
  refine Ev.bnd (iNetOk net) (Ev.iteS (fun h => Ev.bnd (iStateOk kinds state hn) (Ev.iteS (fun h2 => Ev.val ?_) (fun h2 => Ev.val (no ?_)))) (fun h => Ev.val (no ?_)))
  all_goals simp only [decide_eq_true_eq] at *
  · rw [Bool.eq_iff_iff, beq_iff_eq, decide_eq_true_eq]
    exact ⟨fun e => ⟨h, h2, by omega⟩, fun e => by have := e.len; omega⟩
  · exact fun e => h2 e.st
  · exact fun e => h e.nok

/-! ### a step of the program, without needs -/
/-- How many of the first m nodes are neighbours of node i that fire. -/
theorem cnt_and_succ (net : List Int) (state : List Int) (i j : Nat) : cnt (j + 1) (nb net i &&& fires state) = cnt j (nb net i &&& fires state) + (if (nb net i).testBit j = true ∧ state.getD j 0 = 1 then 1 else 0) := by
  rw [cnt_succ]
  congr 1
  by_cases h : (nb net i).testBit j = true ∧ state.getD j 0 = 1
  · rw [if_pos h, if_pos (by rw [Nat.testBit_and, h.1, (fires_bit state j).2 h.2]; rfl)]
  · rw [if_neg h, if_neg (fun e => h ?_)]
    rw [Nat.testBit_and, Bool.and_eq_true] at e
    exact ⟨e.1, (fires_bit state j).1 e.2⟩
theorem and_lt_len {net state : List Int} {kinds : Int} (h : AskedP net kinds state) (i : Nat) : nb net i &&& fires state < 2 ^ state.length :=
  Nat.lt_of_le_of_lt Nat.and_le_right (fires_lt state)
theorem shr_and_nb {net : List Int} (hn : NetP net) {i : Nat} (hi : i < net.length) (j : Nat) (hj : j ≤ 64) : Go.bits .and .i64 (shr .i64 (rd net (i : Int)) (j : Int)) 1 = b01 ((nb net i).testBit j) := by
  rw [rd_nat, shr_and (hn.row i hi).1 (by have := (hn.row i hi).big hn.hi; omega) j hj]
  rfl
theorem and_fires {net state : List Int} {kinds : Int} (h : AskedP net kinds state) {i : Nat} (hi : i < state.length) : Go.bits .and .i64 (rd net (i : Int)) ((fires state : Nat) : Int) = ((nb net i &&& fires state : Nat) : Int) := by
  have hlen := h.len
  have h1 := nb_small h.nok i
  have h2 := fires_lt state
  have h3 := pow_le64 h.st.hi
  rw [rd_nat, nb_cast (h.nok.row i (by omega)), and_nat _ _ (by omega) (by omega)]
theorem step0_l1 {net state : List Int} {kinds : Int} (h : AskedP net kinds state) (l2 : List Int) (out : List Int) (hout : out.length = state.length) (i : Nat) (hi : i < state.length) (r : List Int)
    (hend : Ev (fun k => impl_needStep0.l0 k net kinds state (if 1 ≤ pcn (nb net i &&& fires state) then out.set i 1 else out) state (state.length : Int) ((i + 1 : Nat) : Int)) r) :
    Ev (fun k => impl_needStep0.l1 k net kinds state out (i : Int) 0 1 state (state.length : Int) (i : Int) state (state.length : Int) 0) r := by
  have hlen := h.len
  have hn := h.nok.hi
  refine ev_for (F := fun k x a => impl_needStep0.l1 k net kinds state out (i : Int) a 1 state (state.length : Int) (i : Int) state (state.length : Int) x) (n := state.length) (out := fun _ _ => r) (I := fun j a => a = ((cnt j (nb net i &&& fires state) : Nat) : Int)) ?_ ?_ state.length 0 (by omega) _ (by simp [cnt])
  · rintro a rfl
    refine Ev.step (fun k => by rw [impl_needStep0.l1]) (Ev.neg (by omega) ?_)
    have e : cnt state.length (nb net i &&& fires state) = pcn (nb net i &&& fires state) := cnt_of_lt (and_lt_len h i) (by omega)
    rw [e, w64s i (by omega)]
    refine Ev.iteS (fun g => ?_) (fun g => ?_)
    · rw [if_pos (by omega)] at hend
      exact Ev.pos (by omega) (Ev.pos (by omega) hend)
    · rw [if_neg (by omega)] at hend; exact hend
  · rintro j a hj rfl ih
    refine Ev.step (fun k => by rw [impl_needStep0.l1]) ?_
    rw [shr_and_nb h.nok (by omega) j (by omega), rd_nat state j, w64s j (by omega)]
    refine Ev.pos (by omega) (Ev.pos (by omega) (Ev.pos (by omega) (Ev.pos (by omega) (Ev.pos (by omega) ?_))))
    have hc := cnt_le j (nb net i &&& fires state)
    refine Ev.iteS (fun g1 => Ev.iteS (fun g2 => ?_) (fun g2 => ?_)) (fun g1 => ?_)
    · rw [w64s _ (by omega)]; exact ih _ (by rw [cnt_and_succ, if_pos ⟨b01_one.1 g1, g2⟩])
    · exact ih _ (by rw [cnt_and_succ, if_neg (fun e => g2 e.2)]; rfl)
    · exact ih _ (by rw [cnt_and_succ, if_neg (fun e => g1 (b01_one.2 e.1))]; rfl)
theorem step0_ev {net state : List Int} {kinds : Int} (h : AskedP net kinds state) : Ev (fun k => impl_needStep0.f k net kinds [] state) (fstep net kinds state) := by
  have hlen := h.len
  have hn := h.nok.hi
  have hk := h.st.k3
  unfold impl_needStep0.f
  refine Ev.pos (by omega) (Ev.pos (by omega) ?_)
  refine ev_for (F := fun k x a => impl_needStep0.l0 k net kinds state a state (state.length : Int) x) (n := state.length) (out := fun _ _ => fstep net kinds state) (I := fun i s => s.length = state.length ∧ (∀ j, j < i → s.getD j 0 = nval net kinds (one1 state.length) state j) ∧ ∀ j, i ≤ j → s.getD j 0 = 0) ?_ ?_ state.length 0 (by omega) _ ⟨by simp, fun j hj => by omega, fun j _ => zeros_getD _ _⟩
  · rintro s ⟨h1, h2, _⟩
    refine Ev.step (fun k => by rw [impl_needStep0.l0]) (Ev.neg (by omega) (Ev.val ?_))
    exact ext_getD (by rw [fstep_len]; exact h1) (fun j hj => by rw [h2 j (by omega)]; exact (nstep_at (by omega)).symm)
  · rintro i s hi ⟨h1, h2, h3⟩ ih
    have hs := h.st.row i hi
    refine Ev.step (fun k => by rw [impl_needStep0.l0]) (Ev.pos (by omega) (Ev.pos (by omega) (Ev.pos (by omega) ?_)))
    rw [rd_nat, w64s i (by omega)]
    have next : ∀ v, v = nval net kinds (one1 state.length) state i → ∀ s' : List Int, s'.length = state.length → s'.getD i 0 = v → (∀ j, j ≠ i → s'.getD j 0 = s.getD j 0) → Ev (fun k => impl_needStep0.l0 k net kinds state s' state (state.length : Int) ((i + 1 : Nat) : Int)) (fstep net kinds state) := by
      intro v hv s' e1 e2 e3
      refine ih s' ⟨e1, fun j hj => ?_, fun j hj => ?_⟩
      · by_cases e : j = i
        · subst e; rw [e2, hv]
        · rw [e3 j e]; exact h2 j (by omega)
      · rw [e3 j (by omega)]; exact h3 j (by omega)
    refine Ev.iteS (fun g => ?_) (fun g => ?_)
    · refine Ev.neg (by omega) (Ev.pos (by omega) ?_)
      rw [Int.toNat_natCast, kind_tmod (by omega) hs.2 h.st.k5]
      refine next _ (nval_tired (by omega)).symm _ (by simp [h1]) (by rw [set_getD _ _ _ _ (by omega), if_pos rfl]) (fun j hj => by rw [set_getD _ _ _ _ (by omega), if_neg (by omega)])
    · refine step0_l1 h [] s h1 i hi _ ?_
      by_cases gl : 1 ≤ pcn (nb net i &&& fires state)
      · rw [if_pos gl]
        refine next 1 (nval_lit (by omega) (by rw [one1_at hi]; omega)).symm _ (by simp [h1]) (by rw [set_getD _ _ _ _ (by omega), if_pos rfl]) (fun j hj => by rw [set_getD _ _ _ _ (by omega), if_neg (by omega)])
      · rw [if_neg gl]
        refine next 0 (nval_rest (by omega) (by rw [one1_at hi]; omega)).symm _ h1 (h3 i (Nat.le_refl _)) (fun j hj => rfl)

theorem sStateOk (kinds : Int) (state : List Int) (hn : state.length ≤ 1048577) : Ev (fun k => spec_StateOk.f k kinds state) (decide (StateP kinds state)) := by
  unfold spec_StateOk.f
  have H := ev_scan (F := fun k x => spec_StateOk.l0 k kinds state x) (n := state.length) (P := fun i => 0 ≤ state.getD i 0 ∧ state.getD i 0 < kinds) (r := decide (StateP kinds state)) (r' := false) (fun h => ?_) (fun i hi hp b hb => ?_) (fun i hi _ hp => ?_)
  · refine Ev.to H ?_
    by_cases h : ∀ i, i < state.length → 0 ≤ state.getD i 0 ∧ state.getD i 0 < kinds
    · rw [if_pos h]
    · rw [if_neg h]; symm; simp only [decide_eq_false_iff_not]; exact fun e => h e.row
  · refine Ev.step (fun k => by rw [spec_StateOk.l0]) (Ev.neg (by omega) ?_)
    refine Ev.bnd0 (l1In_eq _ _ _) ?_
    refine Ev.iteS (fun g1 => Ev.bnd0 (l1In_eq _ _ _) (Ev.val ?_)) (fun g => Ev.val ?_)
    · simp only [decide_eq_true_eq] at g1
      rw [Bool.eq_iff_iff]; simp only [decide_eq_true_eq]
      exact ⟨fun e => ⟨g1.1, g1.2, by omega, by omega, h⟩, fun e => by have := e.lo; have := e.hi; omega⟩
    · simp only [decide_eq_true_eq] at g
      symm; rw [decide_eq_false_iff_not]; exact fun e => g ⟨e.k3, e.k5⟩
  · refine Ev.step (fun k => by rw [spec_StateOk.l0]) (Ev.pos (by omega) (Ev.pos (by omega) ?_))
    rw [rd_nat, w64s i (by omega)]
    exact Ev.neg (by omega) (Ev.neg (by omega) hb)
  · refine Ev.step (fun k => by rw [spec_StateOk.l0]) (Ev.pos (by omega) (Ev.pos (by omega) ?_))
    rw [rd_nat]
    exact Ev.iteS (fun _ => Ev.now _) (fun h1 => Ev.pos (by omega) (Ev.now _))
theorem sL3Ok (net : List Int) (kinds : Int) (state : List Int) (hn : state.length ≤ 1048577) : Ev (fun k => spec_l3Ok.f k net kinds state) (decide (AskedP net kinds state)) := by
  unfold spec_l3Ok.f
  have no : ¬ AskedP net kinds state → false = decide (AskedP net kinds state) := fun e => (decide_eq_false e).symm
  refine Ev.bnd (sNetOk net) (Ev.iteS (fun h => Ev.bnd (sStateOk kinds state hn) (Ev.iteS (fun h2 => Ev.val ?_) (fun h2 => Ev.val (no ?_)))) (fun h => Ev.val (no ?_)))
  all_goals simp only [decide_eq_true_eq] at *
  · rw [Bool.eq_iff_iff, beq_iff_eq, decide_eq_true_eq]
    exact ⟨fun e => ⟨h, h2, by omega⟩, fun e => by have := e.len; omega⟩
  · exact fun e => h2 e.st
  · exact fun e => h e.nok

/-! ### a step of the reference -/
theorem l3_l1 {net state : List Int} {kinds : Int} (h : AskedP net kinds state) : Ev (fun k => spec_l3Step.l1 k net kinds state ((fires state : Nat) : Int) [] 0) (fstep net kinds state) := by
  have hlen := h.len
  have hn := h.nok.hi
  have hk := h.st.k3
  refine ev_for (F := fun k x a => spec_l3Step.l1 k net kinds state ((fires state : Nat) : Int) a x) (n := state.length) (out := fun _ _ => fstep net kinds state) (I := fun i s => s = (List.range i).map (nval net kinds (one1 state.length) state)) ?_ ?_ state.length 0 (by omega) _ rfl
  · rintro s rfl
    refine Ev.step (fun k => by rw [spec_l3Step.l1]) (Ev.neg (by omega) ?_)
    exact Ev.now (fstep net kinds state)
  · rintro i s hi rfl ih
    have hs := h.st.row i hi
    have hl : ((List.range i).map (nval net kinds (one1 state.length) state)).length < 17592186044416 := by simp; omega
    have next : ∀ v, v = nval net kinds (one1 state.length) state i → Ev (fun k => spec_l3Step.l1 k net kinds state ((fires state : Nat) : Int) ((List.range i).map (nval net kinds (one1 state.length) state) ++ [v]) ((i + 1 : Nat) : Int)) (fstep net kinds state) := fun v hv => ih _ (by rw [map_succ, hv])
    have hp := pcn_pos (Nat.lt_of_le_of_lt (m := nb net i) (n := nb net i &&& fires state) Nat.and_le_left (nb_small h.nok i))
    refine Ev.step (fun k => by rw [spec_l3Step.l1]) (Ev.pos (by omega) (Ev.pos (by omega) ?_))
    rw [rd_nat state, w64s i (by omega)]
    refine Ev.iteS (fun g => ?_) (fun g => ?_)
    · refine Ev.neg (by omega) (Ev.pos hl ?_)
      rw [kind_tmod (by omega) hs.2 h.st.k5]
      exact next _ (nval_tired (by omega)).symm
    · refine Ev.pos (by omega) ?_
      rw [and_fires h hi]
      refine Ev.iteS (fun gl => Ev.pos hl ?_) (fun gl => Ev.pos hl ?_)
      · have : ¬ 1 ≤ pcn (nb net i &&& fires state) := fun e => (hp.1 e) (by omega)
        exact next _ (by rw [nval_rest (by omega) (by rw [one1_at hi]; omega)]; omega)
      · have : 1 ≤ pcn (nb net i &&& fires state) := hp.2 (by omega)
        exact next 1 (nval_lit (by omega) (by rw [one1_at hi]; omega)).symm
theorem l3Step_ev {net state : List Int} {kinds : Int} (h : AskedP net kinds state) : Ev (fun k => spec_l3Step.f k net kinds state) (fstep net kinds state) := by
  have hlen := h.len
  have hh := h.nok.hi
  unfold spec_l3Step.f
  refine ev_for (F := fun k x a => spec_l3Step.l0 k net kinds state a x) (n := state.length) (out := fun _ _ => fstep net kinds state) (I := fun i a => a = ((firesTo state i : Nat) : Int)) ?_ ?_ state.length 0 (by omega) _ rfl
  · rintro a rfl
    refine Ev.step (fun k => by rw [spec_l3Step.l0]) (Ev.neg (by omega) ?_)
    exact l3_l1 h
  · rintro i a hi rfl ih
    have hl := firesTo_lt state i
    have hp : (2 : Nat) ^ i ≤ 2 ^ 6 := Nat.pow_le_pow_right (by decide) (by omega)
    refine Ev.step (fun k => by rw [spec_l3Step.l0]) (Ev.pos (by omega) (Ev.pos (by omega) ?_))
    rw [rd_nat, w64s i (by omega)]
    refine Ev.iteS (fun g => ?_) (fun g => ?_)
    · rw [or_bit (by omega) (by omega)]
      exact ih _ (by rw [firesTo_yes g])
    · exact ih _ (by rw [firesTo_no g])

/-! ### lists of lights: compared, marked, held -/
theorem rdL (xs : List S64) (i : Nat) : rd_T64 xs (i : Int) = xs.getD i z64 := by simp [rd_T64]
theorem extL {a b : List S64} (hl : a.length = b.length) (h : ∀ j, j < a.length → a.getD j z64 = b.getD j z64) : a = b := by
  refine List.ext_getElem hl (fun i h1 h2 => ?_)
  have := h i h1
  rwa [List.getD_eq_getElem?_getD, List.getD_eq_getElem?_getD, List.getElem?_eq_getElem h1, List.getElem?_eq_getElem h2] at this
theorem setL (s : List S64) (i j : Nat) (v : S64) (h : i < s.length) : (s.set i v).getD j z64 = if i = j then v else s.getD j z64 := by
  rw [List.getD_eq_getElem?_getD, List.getElem?_set]
  by_cases e : i = j
  · subst e; rw [if_pos rfl, if_pos h, if_pos rfl]; rfl
  · rw [if_neg e, if_neg e, List.getD_eq_getElem?_getD]

/-! ### ScriptOk, both -/
def LightP (nodes : Int) (l : List S64) (i : Nat) : Prop :=
  0 ≤ (l.getD i z64).f0 ∧ (l.getD i z64).f0 ≤ 59 ∧ 0 ≤ (l.getD i z64).f1 ∧ (l.getD i z64).f1 < nodes ∧
    (0 < i → (l.getD (i - 1) z64).f0 < (l.getD i z64).f0 ∨ ((l.getD i z64).f0 = (l.getD (i - 1) z64).f0 ∧ (l.getD (i - 1) z64).f1 < (l.getD i z64).f1))
instance (nodes : Int) (l : List S64) (i : Nat) : Decidable (LightP nodes l i) := by unfold LightP; infer_instance
def ScriptP (nodes : Int) (l : List S64) : Prop := 1 ≤ nodes ∧ nodes ≤ 6 ∧ l.length ≤ 8 ∧ ∀ i, i < l.length → LightP nodes l i
instance (nodes : Int) (l : List S64) : Decidable (ScriptP nodes l) := by unfold ScriptP; infer_instance
theorem w64p (i : Nat) (h0 : 0 < i) (h : i < 9223372036854775807) : wrap64 ((i : Int) - 1) = ((i - 1 : Nat) : Int) := by unfold wrap64; omega
theorem sScript_j1 (nodes : Int) (l : List S64) (hn : l.length ≤ 9223372036854775806) (i : Nat) (hi : i < l.length) {b : Bool} {Q : Prop} [Decidable Q]
    (hq : Q ↔ (0 < i → (l.getD (i - 1) z64).f0 < (l.getD i z64).f0 ∨ ((l.getD i z64).f0 = (l.getD (i - 1) z64).f0 ∧ (l.getD (i - 1) z64).f1 < (l.getD i z64).f1)))
    (h : Ev (fun k => if Q then spec_ScriptOk.l0 k nodes l ((i + 1 : Nat) : Int) else some false) b) : Ev (fun k => spec_ScriptOk.j1 k nodes l (i : Int) false) b := by
  refine Ev.step (fun k => by rw [spec_ScriptOk.j1]) (Ev.neg (by decide) ?_)
  by_cases h0 : 0 < i
  · rw [w64p i h0 (by omega), rdL, rdL, w64s i (by omega)]
    refine Ev.pos (by omega) (Ev.pos (by omega) (Ev.pos (by omega) (Ev.pos (by omega) (Ev.pos (by omega) ?_))))
    by_cases q : Q
    · have h' := Ev.congr (fun k => (if_pos q).symm) h
      rcases (hq.1 q) h0 with q1 | ⟨q1, q2⟩
      · exact Ev.neg (by omega) (Ev.neg (by omega) h')
      · exact Ev.neg (by omega) (Ev.pos (by omega) (Ev.neg (by omega) h'))
    · have h' := Ev.congr (fun k => (if_neg q).symm) h
      have q' : ¬ ((l.getD (i - 1) z64).f0 < (l.getD i z64).f0 ∨ ((l.getD i z64).f0 = (l.getD (i - 1) z64).f0 ∧ (l.getD (i - 1) z64).f1 < (l.getD i z64).f1)) := fun e => q (hq.2 (fun _ => e))
      refine Ev.iteS (fun _ => h') (fun g1 => Ev.iteS (fun g2 => Ev.iteS (fun _ => h') (fun g3 => ?_)) (fun g2 => ?_))
      · exact absurd (.inr ⟨g2, by omega⟩) q'
      · exact absurd (.inl (by omega)) q'
  · refine Ev.neg (by omega) ?_
    rw [w64s i (by omega)]
    exact Ev.congr (fun k => (if_pos (hq.2 (fun e => absurd e h0))).symm) h
theorem script_val (nodes : Int) (l : List S64) (h : ∀ i, i < l.length → LightP nodes l i) :
    (if (decide (1 ≤ nodes ∧ nodes ≤ 6)) = true then some (decide ((l.length : Int) ≤ 8)) else some false) = some (decide (ScriptP nodes l)) := by
  by_cases h1 : 1 ≤ nodes ∧ nodes ≤ 6
  · rw [if_pos (decide_eq_true h1)]; congr 1; rw [Bool.eq_iff_iff]; simp only [decide_eq_true_eq]
    exact ⟨fun e => ⟨h1.1, h1.2, by omega, h⟩, fun e => by have := e.2.2.1; omega⟩
  · rw [if_neg (by simpa using h1)]; congr 1; symm; simp only [decide_eq_false_iff_not]; exact fun e => h1 ⟨e.1, e.2.1⟩
theorem sScriptOk (nodes : Int) (l : List S64) (hn : l.length ≤ 9223372036854775806) : Ev (fun k => spec_ScriptOk.f k nodes l) (decide (ScriptP nodes l)) := by
  unfold spec_ScriptOk.f
  have out : ∀ i : Nat, Ev (fun k => spec_ScriptOk.j1 k nodes l (i : Int) true) false := fun i => Ev.step (fun k => by rw [spec_ScriptOk.j1]) (Ev.pos rfl (Ev.now _))
  have H := ev_scan (F := fun k x => spec_ScriptOk.l0 k nodes l x) (n := l.length) (P := LightP nodes l) (r := decide (ScriptP nodes l)) (r' := false) (fun h => ?_) (fun i hi hp b hb => ?_) (fun i hi _ hp => ?_)
  · refine Ev.to H ?_
    by_cases h : ∀ i, i < l.length → LightP nodes l i
    · rw [if_pos h]
    · rw [if_neg h]; symm; simp only [decide_eq_false_iff_not]; exact fun e => h e.2.2.2
  · refine Ev.step (fun k => by rw [spec_ScriptOk.l0]) (Ev.neg (by omega) ?_)
    refine Ev.bnd0 (l1In_eq _ _ _) ?_
    rw [script_val nodes l h]; exact Ev.now _
  · obtain ⟨p1, p2, p3, p4, p5⟩ := hp
    refine Ev.step (fun k => by rw [spec_ScriptOk.l0]) (Ev.pos (by omega) (Ev.pos (by omega) (Ev.bnd0 (l1In_eq _ _ _) ?_)))
    rw [rdL]
    refine Ev.pos (decide_eq_true ⟨p1, p2⟩) (Ev.neg (by omega) ?_)
    rw [decide_eq_false (by omega)]
    exact sScript_j1 nodes l hn i hi Iff.rfl (Ev.pos p5 hb)
  · refine Ev.step (fun k => by rw [spec_ScriptOk.l0]) (Ev.pos (by omega) (Ev.pos (by omega) (Ev.bnd0 (l1In_eq _ _ _) ?_)))
    rw [rdL]
    refine Ev.iteS (fun g1 => Ev.iteS (fun g2 => out i) (fun g2 => ?_)) (fun g1 => out i)
    simp only [decide_eq_true_eq] at g1
    by_cases g3 : (l.getD i z64).f1 ≥ nodes
    · rw [decide_eq_true g3]; exact out i
    · rw [decide_eq_false g3]
      exact sScript_j1 nodes l hn i hi Iff.rfl (Ev.neg (fun e => hp ⟨g1.1, g1.2, by omega, by omega, e⟩) (Ev.now _))
theorem iScript_j1 (nodes : Int) (l : List S64) (hn : l.length ≤ 9223372036854775806) (i : Nat) (hi : i < l.length) {b : Bool} {Q : Prop} [Decidable Q]
    (hq : Q ↔ (0 < i → (l.getD (i - 1) z64).f0 < (l.getD i z64).f0 ∨ ((l.getD i z64).f0 = (l.getD (i - 1) z64).f0 ∧ (l.getD (i - 1) z64).f1 < (l.getD i z64).f1)))
    (h : Ev (fun k => if Q then impl_ScriptOk.l0 k nodes l l (l.length : Int) ((i + 1 : Nat) : Int) else some false) b) : Ev (fun k => impl_ScriptOk.j1 k nodes l (i : Int) l (l.length : Int) (i : Int) false (l.getD i z64).f0 (l.getD i z64).f1) b := by
  refine Ev.step (fun k => by rw [impl_ScriptOk.j1]) (Ev.neg (by decide) ?_)
  by_cases h0 : 0 < i
  · rw [w64p i h0 (by omega), rdL, w64s i (by omega)]
    refine Ev.pos (by omega) (Ev.pos (by omega) (Ev.pos (by omega) ?_))
    by_cases q : Q
    · have h' := Ev.congr (fun k => (if_pos q).symm) h
      rcases (hq.1 q) h0 with q1 | ⟨q1, q2⟩
      · exact Ev.neg (by omega) (Ev.neg (by omega) h')
      · exact Ev.neg (by omega) (Ev.pos (by omega) (Ev.neg (by omega) h'))
    · have h' := Ev.congr (fun k => (if_neg q).symm) h
      have q' : ¬ ((l.getD (i - 1) z64).f0 < (l.getD i z64).f0 ∨ ((l.getD i z64).f0 = (l.getD (i - 1) z64).f0 ∧ (l.getD (i - 1) z64).f1 < (l.getD i z64).f1)) := fun e => q (hq.2 (fun _ => e))
      refine Ev.iteS (fun _ => h') (fun g1 => Ev.iteS (fun g2 => Ev.iteS (fun _ => h') (fun g3 => ?_)) (fun g2 => ?_))
      · exact absurd (.inr ⟨g2, by omega⟩) q'
      · exact absurd (.inl (by omega)) q'
  · refine Ev.neg (by omega) ?_
    rw [w64s i (by omega)]
    exact Ev.congr (fun k => (if_pos (hq.2 (fun e => absurd e h0))).symm) h
theorem iScriptOk (nodes : Int) (l : List S64) (hn : l.length ≤ 9223372036854775806) : Ev (fun k => impl_ScriptOk.f k nodes l) (decide (ScriptP nodes l)) := by
  unfold impl_ScriptOk.f
  have out : ∀ (i : Nat) x y, Ev (fun k => impl_ScriptOk.j1 k nodes l (i : Int) l (l.length : Int) (i : Int) true x y) false := fun i x y => Ev.step (fun k => by rw [impl_ScriptOk.j1]) (Ev.pos rfl (Ev.now _))
  have H := ev_scan (F := fun k x => impl_ScriptOk.l0 k nodes l l (l.length : Int) x) (n := l.length) (P := LightP nodes l) (r := decide (ScriptP nodes l)) (r' := false) (fun h => ?_) (fun i hi hp b hb => ?_) (fun i hi _ hp => ?_)
  · refine Ev.to H ?_
    by_cases h : ∀ i, i < l.length → LightP nodes l i
    · rw [if_pos h]
    · rw [if_neg h]; symm; simp only [decide_eq_false_iff_not]; exact fun e => h e.2.2.2
  · refine Ev.step (fun k => by rw [impl_ScriptOk.l0]) (Ev.neg (by omega) ?_)
    have e := script_val nodes l h
    by_cases h1 : 1 ≤ nodes ∧ nodes ≤ 6
    · rw [if_pos (decide_eq_true h1)] at e; rw [e]; exact Ev.pos h1.1 (Ev.pos h1.2 (Ev.now _))
    · rw [if_neg (by simpa using h1)] at e
      refine Ev.iteS (fun g1 => Ev.neg (fun g2 => h1 ⟨g1, g2⟩) (Ev.val (Option.some.inj e))) (fun g1 => Ev.val (Option.some.inj e))
  · obtain ⟨p1, p2, p3, p4, p5⟩ := hp
    refine Ev.step (fun k => by rw [impl_ScriptOk.l0]) (Ev.pos (by omega) (Ev.pos (by omega) (Ev.pos (by omega) ?_)))
    rw [rdL]
    refine Ev.neg (by omega) (Ev.neg (by omega) (Ev.neg (by omega) ?_))
    rw [decide_eq_false (by omega)]
    exact iScript_j1 nodes l hn i hi Iff.rfl (Ev.pos p5 hb)
  · refine Ev.step (fun k => by rw [impl_ScriptOk.l0]) (Ev.pos (by omega) (Ev.pos (by omega) (Ev.pos (by omega) ?_)))
    rw [rdL]
    refine Ev.iteS (fun g1 => out i _ _) (fun g1 => Ev.iteS (fun g2 => out i _ _) (fun g2 => Ev.iteS (fun g3 => out i _ _) (fun g3 => ?_)))
    by_cases g4 : (l.getD i z64).f1 ≥ nodes
    · rw [decide_eq_true g4]; exact out i _ _
    · rw [decide_eq_false g4]
      exact iScript_j1 nodes l hn i hi Iff.rfl (Ev.neg (fun e => hp ⟨by omega, by omega, by omega, by omega, e⟩) (Ev.now _))

/-! ### scripted, ScriptFired of the program -/
def toP (l : List S64) : List (Int × Int) := l.map (fun x => (x.f0, x.f1))
theorem toP_len (l : List S64) : (toP l).length = l.length := by simp [toP]
theorem toP_at (l : List S64) (j : Nat) : (toP l).getD j (0, 0) = ((l.getD j z64).f0, (l.getD j z64).f1) := by
  unfold toP
  rw [List.getD_eq_getElem?_getD, List.getD_eq_getElem?_getD, List.getElem?_map]
  cases l[j]? <;> rfl
theorem clone_eq {l : List Int} (h : l.length < 17592186044416) : slices_Clone_int_int.f l = some l := by
  unfold slices_Clone_int_int.f
  rw [Option.bind_some, if_pos (by simpa using h)]; rfl
theorem scripted_l2 {net : List Int} {kinds : Int} {l : List S64} {lit next : List Int} (hk : next.length = net.length) (hl : lit.length = net.length) (hn : net.length ≤ 6) (h10 : ∀ i, i < net.length → next.getD i 0 = 1 → lit.getD i 0 = 0)
    (g : Nat → Int) (hg : ∀ i, 0 ≤ g i ∧ g i ≤ 1000) (fr : List Int) (hf : fr.length = net.length) (hfr : ∀ i, i < net.length → fr.getD i 0 = g i) (steps t : Int) (r : List Int × List Int)
    (hend : ∀ fr' : List Int, fr'.length = net.length → (∀ i, i < net.length → fr'.getD i 0 = g i + i01 (next.getD i 0 = 1)) → Ev (fun k => impl_scripted.l0 k net kinds l next fr' steps (wrap64 (t + 1))) r) :
    Ev (fun k => impl_scripted.l2 k net kinds l lit fr next steps t next (next.length : Int) 0) r := by
  refine ev_for (F := fun k x a => impl_scripted.l2 k net kinds l lit a next steps t next (next.length : Int) x) (n := next.length) (out := fun _ _ => r) (I := fun i s => s.length = net.length ∧ (∀ j, j < i → s.getD j 0 = g j + i01 (next.getD j 0 = 1)) ∧ ∀ j, i ≤ j → j < net.length → s.getD j 0 = g j) ?_ ?_ next.length 0 (by omega) _ ⟨hf, fun j hj => by omega, fun j _ hj => hfr j hj⟩
  · rintro s ⟨h1, h2, _⟩
    exact Ev.step (fun k => by rw [impl_scripted.l2]) (Ev.neg (by omega) (hend s h1 (fun i hi => h2 i (by omega))))
  · rintro i s hi ⟨h1, h2, h3⟩ ih
    have hg' := hg i
    refine Ev.step (fun k => by rw [impl_scripted.l2]) (Ev.pos (by omega) (Ev.pos (by omega) (Ev.pos (by omega) ?_)))
    rw [rd_nat next, rd_nat lit, rd_nat s, w64s i (by omega)]
    refine Ev.iteS (fun c => ?_) (fun c => ?_)
    · have h0 := h10 i (by omega) c
      refine Ev.pos (by omega) (Ev.neg (by omega) (Ev.pos (by omega) ?_))
      rw [Int.toNat_natCast, h3 i (Nat.le_refl _) (by omega), w64 (by omega) (by omega)]
      refine ih _ ⟨by simp [h1], fun j hj => ?_, fun j hj hj' => ?_⟩
      · rw [set_getD _ _ _ _ (by omega)]
        by_cases e : i = j
        · subst e; rw [if_pos rfl]; unfold i01; rw [if_pos c]
        · rw [if_neg e]; exact h2 j (by omega)
      · rw [set_getD _ _ _ _ (by omega), if_neg (by omega)]; exact h3 j (by omega) hj'
    · refine ih _ ⟨h1, fun j hj => ?_, fun j hj hj' => h3 j (by omega) hj'⟩
      by_cases e : j = i
      · subst e; rw [h3 j (Nat.le_refl _) (by omega)]; unfold i01; rw [if_neg c]; omega
      · exact h2 j (by omega)
theorem scripted_l1 {net : List Int} {kinds : Int} {l : List S64} (hs : ScriptP net.length l) {state : List Int} (ha : AskedP net kinds state) (g : Nat → Int) (hg : ∀ i, 0 ≤ g i ∧ g i ≤ 500) (fr : List Int) (hf : fr.length = net.length) (hfr : ∀ i, i < net.length → fr.getD i 0 = g i) (steps : Int) (t : Nat) (r : List Int × List Int)
    (hend : ∀ fr' : List Int, fr'.length = net.length → (∀ i, i < net.length → fr'.getD i 0 = g i + i01 (Lit1 (toP l) (t : Int) state i)) → Ev (fun k => (impl_needStep0.f k net kinds [] (litS (toP l) (t : Int) state)).bind fun q => impl_scripted.l2 k net kinds l (litS (toP l) (t : Int) state) fr' q steps (t : Int) q (q.length : Int) 0) r) :
    Ev (fun k => impl_scripted.l1 k net kinds l state fr (t : Int) steps (t : Int) l (l.length : Int) 0) r := by
  have hlen := ha.len
  have hn := ha.nok.hi
  have hl8 := hs.2.2.1
  refine ev_for (F := fun k x (a : List Int × List Int) => impl_scripted.l1 k net kinds l a.1 a.2 (t : Int) steps (t : Int) l (l.length : Int) x) (n := l.length) (out := fun _ _ => r)
    (I := fun m a => a.1.length = state.length ∧ a.2.length = net.length ∧ (∀ i, i < state.length → a.1.getD i 0 = litVal (toP l) (t : Int) state m i) ∧ ∀ i, i < net.length → a.2.getD i 0 = g i + i01 (state.getD i 0 = 0 ∧ LightsTo (toP l) (t : Int) m i)) ?_ ?_ l.length 0 (by omega) (state, fr) ⟨rfl, hf, fun i hi => ?_, fun i hi => ?_⟩
  · rintro ⟨now, fr'⟩ ⟨h1, h2, h3, h4⟩
    refine Ev.step (fun k => by rw [impl_scripted.l1]) (Ev.neg (by omega) ?_)
    have e : now = litS (toP l) (t : Int) state := ext_getD (by rw [litS_len]; exact h1) (fun i hi => by rw [h3 i (by simp only at h1 hi; omega), litS_at (by simp only at h1 hi; omega), toP_len])
    simp only
    rw [e]
    exact hend fr' h2 (fun i hi => by rw [h4 i hi]; congr 1; exact i01_iff (by unfold Lit1; rw [toP_len]))
  · rintro m ⟨now, fr'⟩ hm ⟨h1, h2, h3, h4⟩ ih
    simp only at h1 h2 h3 h4
    obtain ⟨p1, p2, p3, p4, _⟩ := hs.2.2.2 m hm
    obtain ⟨v, hv⟩ := Int.eq_ofNat_of_zero_le p3
    have succ : ∀ i, LightsTo (toP l) (t : Int) (m + 1) i ↔ LightsTo (toP l) (t : Int) m i ∨ ((l.getD m z64).f0 = (t : Int) ∧ v = i) := fun i => by
      rw [lightsTo_succ, toP_at]; simp only; rw [hv]
      constructor
      · rintro (h | ⟨h5, h6⟩)
        · exact .inl h
        · exact .inr ⟨h5, by omega⟩
      · rintro (h | ⟨h5, h6⟩)
        · exact .inl h
        · exact .inr ⟨h5, by omega⟩
    show Ev (fun k => impl_scripted.l1 k net kinds l now fr' (t : Int) steps (t : Int) l (l.length : Int) (m : Int)) r
    refine Ev.step (fun k => by rw [impl_scripted.l1]) (Ev.pos (by omega) (Ev.pos (by omega) (Ev.pos (by omega) ?_)))
    rw [rdL, w64s m (by omega), hv]
    have same : (∀ i, LightsTo (toP l) (t : Int) (m + 1) i ∧ state.getD i 0 = 0 ↔ LightsTo (toP l) (t : Int) m i ∧ state.getD i 0 = 0) → Ev (fun k => impl_scripted.l1 k net kinds l now fr' (t : Int) steps (t : Int) l (l.length : Int) ((m + 1 : Nat) : Int)) r := by
      intro hx
      refine ih (now, fr') ⟨h1, h2, fun i hi => ?_, fun i hi => ?_⟩
      · rw [h3 i hi]; unfold litVal
        by_cases c : state.getD i 0 = 0 ∧ LightsTo (toP l) (t : Int) m i
        · rw [if_pos c, if_pos ⟨c.1, ((hx i).2 ⟨c.2, c.1⟩).1⟩]
        · rw [if_neg c, if_neg (fun e => c ⟨e.1, ((hx i).1 ⟨e.2, e.1⟩).1⟩)]
      · rw [h4 i hi]; congr 1
        exact i01_iff ⟨fun e => ⟨e.1, ((hx i).2 ⟨e.2, e.1⟩).1⟩, fun e => ⟨e.1, ((hx i).1 ⟨e.2, e.1⟩).1⟩⟩
    refine Ev.iteS (fun c1 => ?_) (fun c1 => ?_)
    · rw [rd_nat now]
      refine Ev.pos (by omega) (Ev.pos (by omega) (Ev.iteS (fun c2 => ?_) (fun c2 => ?_)))
      · refine Ev.pos (by omega) ?_
        have e1 := h3 v (by omega)
        rw [c2] at e1
        have e2 : state.getD v 0 = 0 ∧ ¬ LightsTo (toP l) (t : Int) m v := by
          unfold litVal at e1
          by_cases c : state.getD v 0 = 0 ∧ LightsTo (toP l) (t : Int) m v
          · rw [if_pos c] at e1; cases e1
          · rw [if_neg c] at e1; exact ⟨e1.symm, fun e => c ⟨e1.symm, e⟩⟩
        have hg' := hg v
        rw [Int.toNat_natCast, rd_nat fr', h4 v (by omega)]
        have e3 : i01 (state.getD v 0 = 0 ∧ LightsTo (toP l) (t : Int) m v) = 0 := by unfold i01; rw [if_neg (fun e => e2.2 e.2)]
        rw [e3, w64 (by omega) (by omega)]
        refine ih (now.set v 1, fr'.set v (g v + 0 + 1)) ⟨by simp [h1], by simp [h2], fun i hi => ?_, fun i hi => ?_⟩
        · simp only; rw [set_getD _ _ _ _ (by omega)]
          by_cases e : v = i
          · subst e; rw [if_pos rfl]; unfold litVal; rw [if_pos ⟨e2.1, (succ v).2 (.inr ⟨c1, rfl⟩)⟩]
          · rw [if_neg e, h3 i hi]; unfold litVal
            have hx : LightsTo (toP l) (t : Int) (m + 1) i ↔ LightsTo (toP l) (t : Int) m i := (succ i).trans ⟨fun h => h.elim id (fun h => absurd h.2 e), .inl⟩
            by_cases c : state.getD i 0 = 0 ∧ LightsTo (toP l) (t : Int) m i
            · rw [if_pos c, if_pos ⟨c.1, hx.2 c.2⟩]
            · rw [if_neg c, if_neg (fun h => c ⟨h.1, hx.1 h.2⟩)]
        · simp only; rw [set_getD _ _ _ _ (by omega)]
          by_cases e : v = i
          · subst e; rw [if_pos rfl]; unfold i01; rw [if_pos ⟨e2.1, (succ v).2 (.inr ⟨c1, rfl⟩)⟩]; omega
          · rw [if_neg e, h4 i hi]; congr 1
            have hx : LightsTo (toP l) (t : Int) (m + 1) i ↔ LightsTo (toP l) (t : Int) m i := (succ i).trans ⟨fun h => h.elim id (fun h => absurd h.2 e), .inl⟩
            exact i01_iff ⟨fun h => ⟨h.1, hx.2 h.2⟩, fun h => ⟨h.1, hx.1 h.2⟩⟩
      · refine same (fun i => ?_)
        have e1 := h3 v (by omega)
        by_cases e : v = i
        · subst e
          constructor
          · rintro ⟨_, h6⟩
            refine ⟨?_, h6⟩
            refine Classical.byContradiction (fun hx => c2 ?_)
            rw [e1]; unfold litVal; rw [if_neg (fun h => hx h.2)]; exact h6
          · rintro ⟨h5, h6⟩; exact ⟨(succ v).2 (.inl h5), h6⟩
        · constructor
          · rintro ⟨h5, h6⟩; exact ⟨((succ i).1 h5).elim id (fun h => absurd h.2 e), h6⟩
          · rintro ⟨h5, h6⟩; exact ⟨(succ i).2 (.inl h5), h6⟩
    · refine same (fun i => ⟨fun h => ⟨((succ i).1 h.1).elim id (fun h => absurd h.1 c1), h.2⟩, fun h => ⟨(succ i).2 (.inl h.1), h.2⟩⟩)
  · simp only; unfold litVal; rw [if_neg]; rintro ⟨_, j, h, _⟩; omega
  · simp only; rw [hfr i hi]; unfold i01; rw [if_neg (by rintro ⟨_, j, h, _⟩; omega)]; omega
theorem scripted_ev {net : List Int} {kinds : Int} {l : List S64} (hs : ScriptP net.length l) {state : List Int} (ha : AskedP net kinds state) (n : Nat) (hn60 : n ≤ 60) :
    Ev (fun k => impl_scripted.f k net kinds state l (n : Int)) (srun net kinds (toP l) state n, sfiredRow net kinds (toP l) state n) := by
  have hlen := ha.len
  have hn := ha.nok.hi
  unfold impl_scripted.f
  refine Ev.bnd0 (clone_eq (by omega)) ?_
  refine Ev.pos (by omega) (Ev.pos (by omega) ?_)
  refine ev_for (F := fun k x (a : List Int × List Int) => impl_scripted.l0 k net kinds l a.1 a.2 (n : Int) x) (n := n) (out := fun _ _ => (srun net kinds (toP l) state n, sfiredRow net kinds (toP l) state n))
    (I := fun t a => a.1 = srun net kinds (toP l) state t ∧ a.2.length = net.length ∧ ∀ i, i < net.length → a.2.getD i 0 = sfired net kinds (toP l) state t i) ?_ ?_ n 0 (by omega) (state, List.replicate ((net.length : Int)).toNat 0) ⟨rfl, by simp, fun i hi => zeros_getD _ _⟩
  · rintro ⟨now, fr⟩ ⟨h1, h2, h3⟩
    simp only at h1 h2 h3
    refine Ev.step (fun k => by rw [impl_scripted.l0]) (Ev.neg (by omega) (Ev.val ?_))
    simp only
    rw [h1, ext_getD (a := fr) (b := sfiredRow net kinds (toP l) state n) (by simp [sfiredRow, h2]) (fun j hj => by rw [h3 j (by omega)]; exact (map_getD _ _ _ (by omega)).symm)]
  · rintro t ⟨now, fr⟩ ht ⟨h1, h2, h3⟩ ih
    simp only at h1 h2 h3
    subst h1
    have hst := srun_asked (sc := toP l) ha t
    have hlt := hst.lit (toP l) (t : Int)
    refine Ev.step (fun k => by rw [impl_scripted.l0]) (Ev.pos (by omega) ?_)
    refine scripted_l1 hs hst (sfired net kinds (toP l) state t) (fun i => by have := sfired_le net kinds (toP l) state t i; omega) fr h2 h3 (n : Int) t _ (fun fr' f1 f2 => ?_)
    refine Ev.bnd (step0_ev hlt) ?_
    refine scripted_l2 (g := fun i => sfired net kinds (toP l) state t i + i01 (Lit1 (toP l) (t : Int) (srun net kinds (toP l) state t) i)) (by rw [fstep_len]; exact hlt.len) hlt.len hn (fun i hi e => fstep_one hlt.st (by rw [hlt.len]; exact hi) e) (fun i => by have := sfired_le net kinds (toP l) state t i; have := i01_le (Lit1 (toP l) (t : Int) (srun net kinds (toP l) state t) i); omega) fr' f1 f2 (n : Int) (t : Int) _ (fun fr'' k1 k2 => ?_)
    rw [w64s t (by omega)]
    exact ih (_, fr'') ⟨rfl, k1, fun i hi => by rw [k2 i hi]; rfl⟩
/-- What ScriptFired returns. -/
def scriptFiredR (net : List Int) (kinds : Int) (state : List Int) (l : List S64) (steps : Int) : List Int :=
  if AskedP net kinds state ∧ ScriptP net.length l ∧ 0 ≤ steps ∧ steps ≤ 60 then sfiredRow net kinds (toP l) state steps.toNat else []
theorem iScriptFired (net : List Int) (kinds : Int) (state : List Int) (l : List S64) (steps : Int) (hq : state.length ≤ 1048577) (hl : l.length ≤ 1048577) : Ev (fun k => impl_ScriptFired.f k net kinds state l steps) (scriptFiredR net kinds state l steps) := by
  unfold impl_ScriptFired.f
  have no : ¬ (AskedP net kinds state ∧ ScriptP net.length l ∧ 0 ≤ steps ∧ steps ≤ 60) → ([] : List Int) = scriptFiredR net kinds state l steps := fun e => by unfold scriptFiredR; rw [if_neg e]
  refine Ev.bnd (iAsked net kinds state hq) (Ev.iteS (fun h => Ev.bnd (iScriptOk (net.length : Int) l (by omega)) (Ev.iteS (fun hs => Ev.iteS (fun g => Ev.val (no ?_)) (fun g => Ev.iteS (fun g2 => Ev.val (no ?_)) (fun g2 => ?_))) (fun hs => Ev.val (no ?_)))) (fun h => Ev.val (no ?_)))
  all_goals simp only [decide_eq_true_eq] at *
  · exact fun e => by omega
  · exact fun e => by omega
  · obtain ⟨n, rfl⟩ := Int.eq_ofNat_of_zero_le (show 0 ≤ steps by omega)
    refine Ev.bnd (scripted_ev hs h n (by omega)) (Ev.val ?_)
    unfold scriptFiredR; rw [if_pos ⟨h, hs, by omega, by omega⟩, Int.toNat_natCast]
  · exact fun e => hs e.2.1
  · exact fun e => h e.1

/-! ### the lights of a time, of the reference -/
theorem l10_ev {nodes : Int} {l : List S64} (hs : ScriptP nodes l) {state : List Int} (hlen : (state.length : Int) = nodes) (t : Nat) : Ev (fun k => spec_l10Lit.f k state l (t : Int)) (litS (toP l) (t : Int) state) := by
  have hn := hs.2.1
  have hl8 := hs.2.2.1
  unfold spec_l10Lit.f
  refine Ev.bnd0 rfl ?_
  refine Ev.pos (by simp; omega) ?_
  refine ev_for (F := fun k x a => spec_l10Lit.l0 k l (t : Int) a x) (n := l.length) (out := fun _ _ => litS (toP l) (t : Int) state) (I := fun m a => a.length = state.length ∧ ∀ i, i < state.length → a.getD i 0 = litVal (toP l) (t : Int) state m i) ?_ ?_ l.length 0 (by omega) ([] ++ state) ⟨rfl, fun i hi => ?_⟩
  · rintro now ⟨h1, h3⟩
    refine Ev.step (fun k => by rw [spec_l10Lit.l0]) (Ev.neg (by omega) (Ev.val ?_))
    exact ext_getD (by rw [litS_len]; exact h1) (fun i hi => by rw [h3 i (by omega), litS_at (by omega), toP_len])
  · rintro m now hm ⟨h1, h3⟩ ih
    obtain ⟨p1, p2, p3, p4, _⟩ := hs.2.2.2 m hm
    obtain ⟨v, hv⟩ := Int.eq_ofNat_of_zero_le p3
    have succ : ∀ i, LightsTo (toP l) (t : Int) (m + 1) i ↔ LightsTo (toP l) (t : Int) m i ∨ ((l.getD m z64).f0 = (t : Int) ∧ v = i) := fun i => by
      rw [lightsTo_succ, toP_at]; simp only; rw [hv]
      constructor
      · rintro (h | ⟨h5, h6⟩)
        · exact .inl h
        · exact .inr ⟨h5, by omega⟩
      · rintro (h | ⟨h5, h6⟩)
        · exact .inl h
        · exact .inr ⟨h5, by omega⟩
    refine Ev.step (fun k => by rw [spec_l10Lit.l0]) (Ev.pos (by omega) (Ev.pos (by omega) ?_))
    rw [rdL, w64s m (by omega), hv]
    have same : (∀ i, LightsTo (toP l) (t : Int) (m + 1) i ∧ state.getD i 0 = 0 ↔ LightsTo (toP l) (t : Int) m i ∧ state.getD i 0 = 0) → Ev (fun k => spec_l10Lit.l0 k l (t : Int) now ((m + 1 : Nat) : Int)) (litS (toP l) (t : Int) state) := by
      intro hx
      refine ih now ⟨h1, fun i hi => ?_⟩
      rw [h3 i hi]; unfold litVal
      by_cases c : state.getD i 0 = 0 ∧ LightsTo (toP l) (t : Int) m i
      · rw [if_pos c, if_pos ⟨c.1, ((hx i).2 ⟨c.2, c.1⟩).1⟩]
      · rw [if_neg c, if_neg (fun e => c ⟨e.1, ((hx i).1 ⟨e.2, e.1⟩).1⟩)]
    refine Ev.iteS (fun c1 => ?_) (fun c1 => ?_)
    · rw [rd_nat now]
      refine Ev.pos (by omega) (Ev.pos (by omega) (Ev.iteS (fun c2 => ?_) (fun c2 => ?_)))
      · have e1 := h3 v (by omega)
        rw [c2] at e1
        have e2 : state.getD v 0 = 0 ∧ ¬ LightsTo (toP l) (t : Int) m v := by
          unfold litVal at e1
          by_cases c : state.getD v 0 = 0 ∧ LightsTo (toP l) (t : Int) m v
          · rw [if_pos c] at e1; cases e1
          · rw [if_neg c] at e1; exact ⟨e1.symm, fun e => c ⟨e1.symm, e⟩⟩
        rw [Int.toNat_natCast]
        refine ih (now.set v 1) ⟨by simp [h1], fun i hi => ?_⟩
        rw [set_getD _ _ _ _ (by omega)]
        by_cases e : v = i
        · subst e; rw [if_pos rfl]; unfold litVal; rw [if_pos ⟨e2.1, (succ v).2 (.inr ⟨c1, rfl⟩)⟩]
        · rw [if_neg e, h3 i hi]; unfold litVal
          have hx : LightsTo (toP l) (t : Int) (m + 1) i ↔ LightsTo (toP l) (t : Int) m i := (succ i).trans ⟨fun h => h.elim id (fun h => absurd h.2 e), .inl⟩
          by_cases c : state.getD i 0 = 0 ∧ LightsTo (toP l) (t : Int) m i
          · rw [if_pos c, if_pos ⟨c.1, hx.2 c.2⟩]
          · rw [if_neg c, if_neg (fun h => c ⟨h.1, hx.1 h.2⟩)]
      · refine same (fun i => ?_)
        have e1 := h3 v (by omega)
        by_cases e : v = i
        · subst e
          constructor
          · rintro ⟨_, h6⟩
            refine ⟨?_, h6⟩
            refine Classical.byContradiction (fun hx => c2 ?_)
            rw [e1]; unfold litVal; rw [if_neg (fun h => hx h.2)]; exact h6
          · rintro ⟨h5, h6⟩; exact ⟨(succ v).2 (.inl h5), h6⟩
        · constructor
          · rintro ⟨h5, h6⟩; exact ⟨((succ i).1 h5).elim id (fun h => absurd h.2 e), h6⟩
          · rintro ⟨h5, h6⟩; exact ⟨(succ i).2 (.inl h5), h6⟩
    · refine same (fun i => ⟨fun h => ⟨((succ i).1 h.1).elim id (fun h => absurd h.1 c1), h.2⟩, fun h => ⟨(succ i).2 (.inl h.1), h.2⟩⟩)
  · unfold litVal; rw [if_neg]; · rfl
    · rintro ⟨_, j, h, _⟩; omega

/-! ### ScriptFired of the reference -/
theorem sFired_l1 {net : List Int} {kinds : Int} {l : List S64} {now : List Int} (t : Nat) (hnow : StateP kinds now) (hlen : now.length = net.length) (hn : net.length ≤ 6) (hlo : 1 ≤ net.length) {next : List Int} (hnx : next.length = net.length)
    (g : Nat → Int) (hg : ∀ i, 0 ≤ g i ∧ g i ≤ 500) (fr : List Int) (hf : fr.length = net.length) (hfr : ∀ i, i < net.length → fr.getD i 0 = g i) (steps : Int) (r : List Int)
    (hend : ∀ fr' : List Int, fr'.length = net.length → (∀ i, i < net.length → fr'.getD i 0 = g i + i01 (Lit1 (toP l) (t : Int) now i) + i01 (next.getD i 0 = 1)) → Ev (fun k => spec_ScriptFired.l0 k net kinds l steps fr' next ((t + 1 : Nat) : Int)) r) (ht : t ≤ 100) :
    Ev (fun k => spec_ScriptFired.l1 k net kinds l steps fr now (t : Int) (litS (toP l) (t : Int) now) next 0) r := by
  have hll := litS_len (toP l) (t : Int) now
  refine ev_for (F := fun k x a => spec_ScriptFired.l1 k net kinds l steps a now (t : Int) (litS (toP l) (t : Int) now) next x) (n := net.length) (out := fun _ _ => r) (I := fun i s => s.length = net.length ∧ (∀ j, j < i → s.getD j 0 = g j + i01 (Lit1 (toP l) (t : Int) now j) + i01 (next.getD j 0 = 1)) ∧ ∀ j, i ≤ j → j < net.length → s.getD j 0 = g j) ?_ ?_ net.length 0 (by omega) _ ⟨hf, fun j hj => by omega, fun j _ hj => hfr j hj⟩
  · rintro s ⟨h1, h2, _⟩
    refine Ev.step (fun k => by rw [spec_ScriptFired.l1]) (Ev.neg (by omega) ?_)
    rw [w64s t (by omega)]
    exact hend s h1 (fun i hi => h2 i (by omega))
  · rintro i s hi ⟨h1, h2, h3⟩ ih
    have hg' := hg i
    have hs := hnow.row i (by omega)
    have go : ∀ s' : List Int, s'.length = net.length → s'.getD i 0 = g i + i01 (Lit1 (toP l) (t : Int) now i) + i01 (next.getD i 0 = 1) → (∀ j, j ≠ i → s'.getD j 0 = s.getD j 0) → Ev (fun k => spec_ScriptFired.l1 k net kinds l steps s' now (t : Int) (litS (toP l) (t : Int) now) next ((i + 1 : Nat) : Int)) r := by
      intro s' e1 e2 e3
      refine ih s' ⟨e1, fun j hj => ?_, fun j hj hj' => ?_⟩
      · by_cases e : j = i
        · subst e; exact e2
        · rw [e3 j e]; exact h2 j (by omega)
      · rw [e3 j (by omega)]; exact h3 j (by omega) hj'
    have e0 := h3 i (Nat.le_refl _) hi
    have lit : Lit1 (toP l) (t : Int) now i ↔ now.getD i 0 = 0 ∧ (litS (toP l) (t : Int) now).getD i 0 = 1 := by
      rw [litS_at (by omega)]; unfold Lit1 litVal
      constructor
      · intro h; exact ⟨h.1, if_pos h⟩
      · rintro ⟨a, b⟩
        by_cases c : now.getD i 0 = 0 ∧ LightsTo (toP l) (t : Int) (toP l).length i
        · exact c
        · rw [if_neg c] at b; omega
    -- what follows behind the first count
    have after : ∀ (b : Bool), (b = true ↔ Lit1 (toP l) (t : Int) now i) → Ev (fun k => spec_ScriptFired.j3 k net kinds l steps s now (t : Int) (litS (toP l) (t : Int) now) next (i : Int) b) r := by
      intro b hb
      refine Ev.step (fun k => by rw [spec_ScriptFired.j3]) (Ev.iteS (fun hb1 => ?_) (fun hb1 => ?_))
      · have hL := hb.1 hb1
        have i1 : i01 (Lit1 (toP l) (t : Int) now i) = 1 := by unfold i01; rw [if_pos hL]
        refine Ev.pos (by omega) (Ev.pos (by omega) ?_)
        rw [rd_nat, e0, w64 (by omega) (by omega), Int.toNat_natCast, w64s i (by omega)]
        refine Ev.bnd0 rfl ?_
        refine Ev.pos (by omega) ?_
        rw [rd_nat, rd_nat, set_getD _ _ _ _ (by omega), if_pos rfl, w64 (by omega) (by omega)]
        refine Ev.iteS (fun c => go _ (by simp [h1]) ?_ (fun j hj => ?_)) (fun c => go _ (by simp [h1]) ?_ (fun j hj => ?_))
        · rw [set_getD _ _ _ _ (by simp; omega), if_pos rfl, i1]; unfold i01; rw [if_pos c]
        · rw [set_getD _ _ _ _ (by simp; omega), if_neg (by omega), set_getD _ _ _ _ (by omega), if_neg (by omega)]
        · rw [set_getD _ _ _ _ (by omega), if_pos rfl, i1]; unfold i01; rw [if_neg c]; omega
        · rw [set_getD _ _ _ _ (by omega), if_neg (by omega)]
      · have hL : ¬ Lit1 (toP l) (t : Int) now i := fun e => hb1 (hb.2 e)
        have i1 : i01 (Lit1 (toP l) (t : Int) now i) = 0 := by unfold i01; rw [if_neg hL]
        refine Ev.pos (by omega) (Ev.pos (by omega) ?_)
        rw [rd_nat, rd_nat, e0, w64 (by omega) (by omega), Int.toNat_natCast, w64s i (by omega)]
        refine Ev.iteS (fun c => Ev.pos (by omega) (go _ (by simp [h1]) ?_ (fun j hj => ?_))) (fun c => go _ h1 ?_ (fun j hj => rfl))
        · rw [set_getD _ _ _ _ (by omega), if_pos rfl, i1]; unfold i01; rw [if_pos c]; omega
        · rw [set_getD _ _ _ _ (by omega), if_neg (by omega)]
        · rw [e0, i1]; unfold i01; rw [if_neg c]; omega
    refine Ev.step (fun k => by rw [spec_ScriptFired.l1]) (Ev.pos (by omega) (Ev.pos (by omega) (Ev.pos (by omega) ?_)))
    rw [rd_nat now, rd_nat (litS _ _ _)]
    refine Ev.iteS (fun c => Ev.pos (by omega) (after _ ?_)) (fun c => after _ ?_)
    · rw [beq_iff_eq, lit]; exact ⟨fun e => ⟨c, e⟩, fun e => e.2⟩
    · constructor
      · intro e; cases e
      · intro e; exact absurd (lit.1 e).1 c
theorem sScriptFired (net : List Int) (kinds : Int) (state : List Int) (l : List S64) (steps : Int) (hq : state.length ≤ 1048577) (hl : l.length ≤ 1048577) : Ev (fun k => spec_ScriptFired.f k net kinds state l steps) (scriptFiredR net kinds state l steps) := by
  unfold spec_ScriptFired.f
  have out : ¬ (AskedP net kinds state ∧ ScriptP net.length l ∧ 0 ≤ steps ∧ steps ≤ 60) → Ev (fun k => spec_ScriptFired.j0 k net kinds state l steps true) (scriptFiredR net kinds state l steps) := fun e =>
    Ev.step (fun k => by rw [spec_ScriptFired.j0]) (Ev.pos rfl (Ev.val (by unfold scriptFiredR; rw [if_neg e])))
  refine Ev.bnd (sL3Ok net kinds state hq) (Ev.iteS (fun h => Ev.bnd (sScriptOk (net.length : Int) l (by omega)) (Ev.iteS (fun hs => Ev.bnd0 (l1In_eq _ _ _) ?_) (fun hs => ?_))) (fun h => ?_))
  all_goals simp only [decide_eq_true_eq] at *
  · by_cases g2 : 0 ≤ steps ∧ steps ≤ 60
    · rw [decide_eq_true g2]
      have hl2 := h.st.hi
      have hlen := h.len
      have hlo := h.nok.lo
      refine Ev.step (fun k => by rw [spec_ScriptFired.j0]) (Ev.neg (by decide) (Ev.pos (by omega) (Ev.pos (by omega) ?_)))
      refine Ev.bnd0 rfl ?_
      refine Ev.pos (by simp; omega) ?_
      unfold scriptFiredR; rw [if_pos ⟨h, hs, g2⟩]
      obtain ⟨n, rfl⟩ := Int.eq_ofNat_of_zero_le g2.1
      rw [Int.toNat_natCast]
      refine ev_for (F := fun k x (a : List Int × List Int) => spec_ScriptFired.l0 k net kinds l (n : Int) a.2 a.1 x) (n := n) (out := fun _ _ => sfiredRow net kinds (toP l) state n)
        (I := fun t a => a.1 = srun net kinds (toP l) state t ∧ a.2.length = net.length ∧ ∀ i, i < net.length → a.2.getD i 0 = sfired net kinds (toP l) state t i) ?_ ?_ n 0 (by omega) ([] ++ state, List.replicate ((net.length : Int)).toNat 0) ⟨rfl, by simp, fun i hi => zeros_getD _ _⟩
      · rintro ⟨now, fr⟩ ⟨h1, h2, h3⟩
        simp only at h1 h2 h3
        refine Ev.step (fun k => by rw [spec_ScriptFired.l0]) (Ev.neg (by omega) (Ev.val ?_))
        exact ext_getD (a := fr) (by simp [sfiredRow, h2]) (fun j hj => by rw [h3 j (by omega)]; exact (map_getD _ _ _ (by omega)).symm)
      · rintro t ⟨now, fr⟩ ht ⟨h1, h2, h3⟩ ih
        simp only at h1 h2 h3
        subst h1
        have hst := srun_asked (sc := toP l) h t
        have hsl := hst.len
        show Ev (fun k => spec_ScriptFired.l0 k net kinds l (n : Int) fr (srun net kinds (toP l) state t) (t : Int)) _
        refine Ev.step (fun k => by rw [spec_ScriptFired.l0]) (Ev.pos (by omega) (Ev.bnd (l10_ev hs (by omega) t) (Ev.bnd (l3Step_ev (hst.lit _ _)) ?_)))
        refine sFired_l1 t hst.st hsl (by omega) hlo (by rw [fstep_len, litS_len]; exact hsl) (sfired net kinds (toP l) state t) (fun i => by have := sfired_le net kinds (toP l) state t i; omega) fr h2 h3 (n : Int) _ (fun fr' f1 f2 => ?_) (by omega)
        exact ih (_, fr') ⟨rfl, f1, fun i hi => by rw [f2 i hi]; rfl⟩
    · rw [decide_eq_false g2]; exact out (fun e => g2 e.2.2)
  · exact out (fun e => hs e.2.1)
  · exact out (fun e => h e.1)

/-! ### lists of numbers: laid, compared, marked, held -/
theorem toIntS (l : List Int) (hn : l.length ≤ 1048576) : Ev (fun k => laws_toIntS.f k l) l := by
  unfold laws_toIntS.f
  refine Ev.pos (by omega) (Ev.pos (by omega) ?_)
  refine ev_for (F := fun k x s => laws_toIntS.l0 k l s x) (n := l.length) (out := fun _ _ => l) (I := fun i s => s.length = l.length ∧ ∀ j, j < i → s.getD j 0 = l.getD j 0) ?_ ?_ l.length 0 (by omega) _ ⟨by simp, fun j h => by omega⟩
  · rintro s ⟨h1, h2⟩
    refine Ev.step (fun k => by rw [laws_toIntS.l0]) (Ev.neg (by omega) (Ev.val (ext_getD h1 (fun j hj => h2 j (by omega)))))
  · rintro i s hi ⟨h1, h2⟩ ih
    refine Ev.step (fun k => by rw [laws_toIntS.l0]) (Ev.pos (by omega) (Ev.pos (by omega) (Ev.pos (by omega) ?_)))
    rw [w64s i (by omega)]
    refine ih _ ⟨by simp [h1], fun j hj => ?_⟩
    rw [rd_nat, Int.toNat_natCast, List.getD_eq_getElem?_getD, List.getElem?_set]
    by_cases e : i = j
    · subst e; simp [h1, hi]
    · rw [if_neg e, ← List.getD_eq_getElem?_getD]; exact h2 j (by omega)
theorem eqIntS (a b : List Int) (hn : a.length ≤ 1048576) : Ev (fun k => laws_eqIntS.f k a b) (decide (a = b)) := by
  unfold laws_eqIntS.f
  refine Ev.iteS (fun hl => ?_) (fun hl => Ev.val (by symm; simp only [decide_eq_false_iff_not]; exact fun h => hl (by rw [h])))
  have hl : a.length = b.length := by omega
  have H := ev_scan (F := fun k x => laws_eqIntS.l0 k a b x) (n := a.length) (P := fun j => a.getD j 0 = b.getD j 0) (r := true) (r' := false) (fun _ => ?_) (fun i hi hp c hc => ?_) (fun i hi _ hp => ?_)
  · refine Ev.to H ?_
    by_cases h : ∀ j, j < a.length → a.getD j 0 = b.getD j 0
    · rw [if_pos h]; symm; simp only [decide_eq_true_eq]; exact ext_getD hl h
    · rw [if_neg h]; symm; simp only [decide_eq_false_iff_not]; exact fun e => h (fun j _ => by rw [e])
  · exact Ev.step (fun k => by rw [laws_eqIntS.l0]) (Ev.neg (by omega) (Ev.now _))
  · refine Ev.step (fun k => by rw [laws_eqIntS.l0]) (Ev.pos (by omega) (Ev.pos (by omega) (Ev.pos (by omega) ?_)))
    rw [rd_nat, rd_nat, w64s i (by omega)]
    exact Ev.pos hp hc
  · refine Ev.step (fun k => by rw [laws_eqIntS.l0]) (Ev.pos (by omega) (Ev.pos (by omega) (Ev.pos (by omega) ?_)))
    rw [rd_nat, rd_nat]
    exact Ev.neg hp (Ev.now _)

/-- A row of numbers from m on. -/
def Marked (m : Int) (s : List Int) : Prop := ∀ j, j < s.length → s.getD j 0 = m + j
theorem markIntS (l : List Int) (m : Int) (hm0 : 0 ≤ m) (hm : m ≤ 4194304) (hn : l.length ≤ 1048576) : ∃ s, s.length = l.length ∧ Marked m s ∧ Ev (fun k => laws_markIntS.f k l m) (m + l.length, s) := by
  unfold laws_markIntS.f
  have H : ∀ d i : Nat, i + d = l.length → ∀ s, s.length = l.length → (∀ j, j < i → s.getD j 0 = m + j) → ∃ s', s'.length = l.length ∧ Marked m s' ∧ Ev (fun k => laws_markIntS.l0 k s (m + i) (i : Int)) (m + l.length, s') := by
    intro d
    induction d with
    | zero =>
      intro i hi s h1 h2
      obtain rfl : i = l.length := by omega
      exact ⟨s, h1, fun j hj => h2 j (by omega), Ev.step (fun k => by rw [laws_markIntS.l0]) (Ev.neg (by omega) (Ev.now _))⟩
    | succ d ih =>
      intro i hi s h1 h2
      obtain ⟨s', a1, a2, a3⟩ := ih (i + 1) (by omega) (s.set i (m + i)) (by simp [h1]) (fun j hj => by
        rw [List.getD_eq_getElem?_getD, List.getElem?_set]
        by_cases e : i = j
        · subst e; rw [if_pos rfl, if_pos (by omega)]; rfl
        · rw [if_neg e, ← List.getD_eq_getElem?_getD]; exact h2 j (by omega))
      refine ⟨s', a1, a2, Ev.step (fun k => by rw [laws_markIntS.l0]) (Ev.pos (by omega) (Ev.pos (by omega) ?_))⟩
      rw [w64s i (by omega), w64 (x := m + i + 1) (by omega) (by omega), Int.toNat_natCast, show m + (i : Int) + 1 = m + ((i + 1 : Nat) : Int) by omega]
      exact a3
  obtain ⟨s', a1, a2, a3⟩ := H l.length 0 (by omega) l rfl (fun j h => by omega)
  refine ⟨s', a1, a2, ?_⟩
  simpa using a3
theorem heldIntS (s : List Int) (m : Int) (hm0 : 0 ≤ m) (hm : m ≤ 4194304) (hn : s.length ≤ 1048576) (hs : Marked m s) : Ev (fun k => laws_heldIntS.f k s m) (m + s.length) := by
  unfold laws_heldIntS.f
  have H : ∀ d i : Nat, i + d = s.length → Ev (fun k => laws_heldIntS.l0 k s (m + i) (i : Int)) (m + s.length) := by
    intro d
    induction d with
    | zero =>
      intro i hi
      obtain rfl : i = s.length := by omega
      exact Ev.step (fun k => by rw [laws_heldIntS.l0]) (Ev.neg (by omega) (Ev.now _))
    | succ d ih =>
      intro i hi
      refine Ev.step (fun k => by rw [laws_heldIntS.l0]) (Ev.pos (by omega) (Ev.pos (by omega) ?_))
      rw [rd_nat, hs i (by omega), w64s i (by omega), w64 (x := m + i + 1) (by omega) (by omega), show m + (i : Int) + 1 = m + ((i + 1 : Nat) : Int) by omega]
      exact Ev.pos rfl (ih (i + 1) (by omega))
  have := H s.length 0 (by omega)
  simpa using this

/-! ### lights of the laws, as the program's -/
def toL (l : List S87) : List S64 := l.map (fun x => (⟨x.f0, x.f1⟩ : S64))
theorem toL_len (l : List S87) : (toL l).length = l.length := by simp [toL]
theorem szLightS (l : List S87) (hn : l.length ≤ 9223372036854775807) : laws_szLightS.f l 1048576 = some (if l.length ≤ 1048576 then 1048576 - (l.length : Int) else -1) := by
  unfold laws_szLightS.f
  rw [w64 (by omega) (by omega)]
  by_cases h : l.length ≤ 1048576
  · rw [if_neg (by omega), if_pos h]
  · rw [if_pos (by omega), if_neg h]
theorem toLight (a b : Int) : laws_toLight.f a b = some (a, b) := rfl
theorem toLightS (l : List S87) (hn : l.length ≤ 1048576) : Ev (fun k => laws_toLightS.f k l) (toL l) := by
  unfold laws_toLightS.f
  refine Ev.pos (by omega) (Ev.pos (by omega) ?_)
  refine ev_for (F := fun k x s => laws_toLightS.l0 k l s x) (n := l.length) (out := fun _ _ => toL l) (I := fun i s => s.length = l.length ∧ ∀ j, j < i → s.getD j z64 = (toL l).getD j z64) ?_ ?_ l.length 0 (by omega) _ ⟨by simp, fun j h => by omega⟩
  · rintro s ⟨h1, h2⟩
    refine Ev.step (fun k => by rw [laws_toLightS.l0]) (Ev.neg (by omega) (Ev.val (extL (by rw [toL_len]; exact h1) (fun j hj => h2 j (by omega)))))
  · rintro i s hi ⟨h1, h2⟩ ih
    refine Ev.step (fun k => by rw [laws_toLightS.l0]) (Ev.pos (by omega) (Ev.pos (by omega) ?_))
    refine Ev.bnd0 (toLight _ _) ?_
    refine Ev.pos (by omega) ?_
    rw [w64s i (by omega)]
    refine ih _ ⟨by simp [h1], fun j hj => ?_⟩
    rw [Int.toNat_natCast, setL _ _ _ _ (by omega)]
    by_cases e : i = j
    · subst e
      rw [if_pos rfl]
      simp [rd_T87, toL, List.getD_eq_getElem?_getD, List.getElem?_map, List.getElem?_eq_getElem hi]
    · rw [if_neg e]; exact h2 j (by omega)

theorem eqLight (a b : S64) : ∃ c, laws_eqLight.f a.f0 a.f1 b.f0 b.f1 = some c ∧ (c = true ↔ a = b) := by
  unfold laws_eqLight.f
  obtain ⟨a0, a1⟩ := a
  obtain ⟨b0, b1⟩ := b
  simp only
  by_cases h1 : a0 = b0
  · by_cases h2 : a1 = b1
    · exact ⟨true, by rw [if_pos h1, if_pos h2], by simp [h1, h2]⟩
    · exact ⟨false, by rw [if_pos h1, if_neg h2], by simp [h2]⟩
  · exact ⟨false, by rw [if_neg h1], by simp [h1]⟩
theorem eqLightS_self (a : List S64) (hn : a.length ≤ 1048576) : Ev (fun k => laws_eqLightS.f k a a) true := by
  unfold laws_eqLightS.f
  refine Ev.pos rfl ?_
  refine ev_back (F := fun k x => laws_eqLightS.l0 k a a x) a.length ?_ (fun i hi he => ?_)
  · exact Ev.step (fun k => by rw [laws_eqLightS.l0]) (Ev.neg (by omega) (Ev.now _))
  · refine Ev.step (fun k => by rw [laws_eqLightS.l0]) (Ev.pos (by omega) (Ev.pos (by omega) (Ev.pos (by omega) ?_)))
    rw [w64s i (by omega)]
    obtain ⟨c, h1, h2⟩ := eqLight (rd_T64 a (i : Int)) (rd_T64 a (i : Int))
    exact Ev.bnd0 h1 (Ev.pos (h2.2 rfl) he)

def MarkedL (m : Int) (s : List S64) : Prop := ∀ j, j < s.length → s.getD j z64 = ⟨m + 2 * j, m + 2 * j + 1⟩
theorem markLightS (l : List S64) (m : Int) (hm0 : 0 ≤ m) (hm : m ≤ 4194304) (hn : l.length ≤ 1048576) : ∃ s, s.length = l.length ∧ MarkedL m s ∧ Ev (fun k => laws_markLightS.f k l m) (m + 2 * l.length, s) := by
  unfold laws_markLightS.f
  have H : ∀ d i : Nat, i + d = l.length → ∀ s, s.length = l.length → (∀ j, j < i → s.getD j z64 = ⟨m + 2 * j, m + 2 * j + 1⟩) → ∃ s', s'.length = l.length ∧ MarkedL m s' ∧ Ev (fun k => laws_markLightS.l0 k s (m + 2 * i) (i : Int)) (m + 2 * l.length, s') := by
    intro d
    induction d with
    | zero =>
      intro i hi s h1 h2
      obtain rfl : i = l.length := by omega
      exact ⟨s, h1, fun j hj => h2 j (by omega), Ev.step (fun k => by rw [laws_markLightS.l0]) (Ev.neg (by omega) (Ev.now _))⟩
    | succ d ih =>
      intro i hi s h1 h2
      obtain ⟨s', a1, a2, a3⟩ := ih (i + 1) (by omega) ((s.set i ⟨m + 2 * i, (rd_T64 s (i : Int)).f1⟩).set i ⟨m + 2 * i, m + 2 * i + 1⟩) (by simp [h1]) (fun j hj => by
        rw [setL _ _ _ _ (by simp; omega), setL _ _ _ _ (by omega)]
        by_cases e : i = j
        · subst e; rw [if_pos rfl]
        · rw [if_neg e, if_neg e]; exact h2 j (by omega))
      refine ⟨s', a1, a2, Ev.step (fun k => by rw [laws_markLightS.l0]) (Ev.pos (by omega) (Ev.pos (by omega) (Ev.bnd0 rfl ?_)))⟩
      rw [w64s i (by omega), w64 (x := m + 2 * i + 1) (by omega) (by omega), w64 (x := m + 2 * i + 1 + 1) (by omega) (by omega), Int.toNat_natCast, show m + 2 * (i : Int) + 1 + 1 = m + 2 * ((i + 1 : Nat) : Int) by omega]
      rw [rdL (s.set i _) i, setL _ _ _ _ (by omega), if_pos rfl]
      exact a3
  obtain ⟨s', a1, a2, a3⟩ := H l.length 0 (by omega) l rfl (fun j h => by omega)
  refine ⟨s', a1, a2, ?_⟩
  simpa using a3

/-! ### a slice of lights that came in -/
open Go.ChangeShapes Go.WideShapes in
theorem open_lights {H : Type} {enc : TypeId × Value → H} {P : Program} {w : World} {base : Nat} {spare : Nat → Bool} {held : Bool} {t e : TypeId} {f0 f1 : Field} {fuel : Nat} {a : Option Addr} {len cap : Nat} {x : DataW H × List MemPlace}
    (ht : P.underlying t = some (.slice e)) (he : P.underlying e = some (.struct #[f0, f1])) (ce : P.cellsOf e = 2) (o0 : f0.offset = 0) (o1 : f1.offset = 1) (c0 : P.cellsOf f0.type = 1) (c1 : P.cellsOf f1.type = 1)
    (u0 : P.underlying f0.type = some (.int .i64)) (u1 : P.underlying f1.type = some (.int .i64))
    (h : DataW.trod enc P w base spare held fuel t [.slice a len cap] = some x) :
    ∃ l : List S87, l.length = len ∧ len ≤ cap ∧ len ≤ maxLen ∧ Kd.C k87 w a len l ∧ ∀ y ∈ l, (Lit.int .i64 y.f0).wf = true ∧ (Lit.int .i64 y.f1).wf = true := by
  rcases Go.Deep.open_slice_pairs ht he ce o0 o1 c0 c1 h with ⟨hcs, _⟩ | ⟨b, len', cap', m, n, V0, V1, D0, D1, P0, P1, hcs, _, hl, hm, hmm, _, hi⟩
  · simp at hcs
    obtain ⟨rfl, rfl, rfl⟩ := hcs
    exact ⟨[], rfl, Nat.le_refl _, by simp, ⟨rfl, by simp, fun h => absurd h (Nat.lt_irrefl 0)⟩, fun y hy => by cases hy⟩
  · simp at hcs
    obtain ⟨rfl, rfl, rfl⟩ := hcs
    have hlm : len ≤ m := by rw [hmm]; split <;> omega
    have each : ∀ i, i < len → ∃ q : Int × Int, w.cell? (b.add (i * 2)) = some (.int .i64 q.1) ∧ w.cell? (b.add (i * 2 + 1)) = some (.int .i64 q.2) ∧ (Lit.int .i64 q.1).wf = true ∧ (Lit.int .i64 q.2).wf = true := by
      intro i hlt
      obtain ⟨g0, g1, g2, g3⟩ := hi i (by omega)
      obtain ⟨n0, h0, _, hw0⟩ := DataW.trod_int u0 g2
      obtain ⟨n1, h1, _, hw1⟩ := DataW.trod_int u1 g3
      simp at h0 h1
      exact ⟨(n0, n1), by rw [g0, h0], by rw [g1, h1], hw0, hw1⟩
    obtain ⟨q, hq⟩ := Go.Deep.choose_lt each
    refine ⟨(List.range len).map (fun i => ⟨(q i).1, (q i).2⟩), by simp, hl, by omega, ⟨by simp, by simp only [maxLen] at hm; omega, fun _ => ⟨b, rfl, fun j p hj => ?_⟩⟩, fun y hy => ?_⟩
    · simp only [List.getElem?_map] at hj
      obtain ⟨i, hi', rfl⟩ := Option.map_eq_some_iff.1 hj
      obtain ⟨hlt, hji⟩ := List.getElem?_eq_some_iff.1 hi'
      simp at hji hlt
      subst hji
      refine ⟨_, rfl, k87_mk w _, fun i u hu => ?_⟩
      match i, hu with
      | 0, hu => simp at hu; subst hu; exact (hq j hlt).1
      | 1, hu => simp at hu; subst hu; exact (hq j hlt).2.1
      | i + 2, hu => simp at hu
    · simp only [List.mem_map, List.mem_range] at hy
      obtain ⟨i, hlt, rfl⟩ := hy
      exact ⟨(hq i hlt).2.2.1, (hq i hlt).2.2.2⟩

def FnExactScriptFiredPure : Prop := ∀ (l0 : List Int) (a : Int) (l2 : List Int) (l3 : List S87) (b : Int), l0.length ≤ maxLen → l2.length ≤ maxLen → l3.length ≤ maxLen → ∃ k, laws_FnExactScriptFired.f k l0 a l2 l3 b = some true
theorem scriptFiredR_len (net : List Int) (kinds : Int) (state : List Int) (l : List S64) (steps : Int) : (scriptFiredR net kinds state l steps).length ≤ 6 := by
  unfold scriptFiredR
  by_cases h : AskedP net kinds state ∧ ScriptP net.length l ∧ 0 ≤ steps ∧ steps ≤ 60
  · rw [if_pos h]; simp [sfiredRow]; exact h.1.nok.hi
  · rw [if_neg h]; simp
theorem FnExactScriptFired : FnExactScriptFiredPure := by
  intro l0 a l2 l3 b _ _ hm3
  refine Ev.rounds (g := fun k => laws_FnExactScriptFired.f k l0 a l2 l3 b) ?_
  unfold laws_FnExactScriptFired.f
  refine Ev.iteS (fun _ => Ev.now _) (fun h0 => Ev.iteS (fun _ => Ev.now _) (fun h1 => ?_))
  refine Ev.bnd0 (szLightS l3 hm3) ?_
  by_cases h3 : l3.length ≤ 1048576
  · rw [if_pos h3]
    have t0 := toIntS l0 (by omega)
    have t2 := toIntS l2 (by omega)
    have t3 := toLightS l3 h3
    have hl3 := toL_len l3
    have e0 := eqIntS l0 l0 (by omega)
    have e2 := eqIntS l2 l2 (by omega)
    have e3 := eqLightS_self (toL l3) (by omega)
    have i0 := iScriptFired l0 a l2 (toL l3) b (by omega) (by omega)
    have s0 := sScriptFired l0 a l2 (toL l3) b (by omega) (by omega)
    have hr := scriptFiredR_len l0 a l2 (toL l3) b
    have e4 := eqIntS (scriptFiredR l0 a l2 (toL l3) b) (scriptFiredR l0 a l2 (toL l3) b) (by omega)
    obtain ⟨s1, a1, a2, a3⟩ := markIntS l0 1 (by omega) (by omega) (by omega)
    obtain ⟨s2, b1, b2, b3⟩ := markIntS l2 (1 + l0.length) (by omega) (by omega) (by omega)
    obtain ⟨s3, c1, c2, c3⟩ := markLightS (toL l3) (1 + l0.length + l2.length) (by omega) (by omega) (by omega)
    obtain ⟨s, m1, m2, m3⟩ := markIntS (scriptFiredR l0 a l2 (toL l3) b) 1 (by omega) (by omega) (by omega)
    have hh := heldIntS s 1 (by omega) (by omega) (by omega) m2
    have j0 : Ev (fun k => laws_FnExactScriptFired.j0 k l0 a l2 l3 b (scriptFiredR l0 a l2 (toL l3) b) (scriptFiredR l0 a l2 (toL l3) b) (!decide (scriptFiredR l0 a l2 (toL l3) b = scriptFiredR l0 a l2 (toL l3) b))) true := by
      refine Ev.step (fun k => by rw [laws_FnExactScriptFired.j0]) (Ev.neg (by simp) ?_)
      repeat (first | exact Ev.now _ | (refine Ev.bnd m3 ?_) | (refine Ev.bnd hh ?_) | (refine Ev.bnd t0 ?_) | (refine Ev.bnd t2 ?_) | (refine Ev.bnd t3 ?_) | (refine Ev.bnd i0 ?_) | (refine Ev.bnd e4 ?_) | (refine Ev.pos (by first | rfl | omega | (simp; done)) ?_) | (refine Ev.neg (by first | omega | (simp; done)) ?_))
    refine Ev.neg (by omega) ?_
    repeat (first | exact Ev.now _ | (refine Ev.bnd t0 ?_) | (refine Ev.bnd t2 ?_) | (refine Ev.bnd t3 ?_) | (refine Ev.bnd i0 ?_) | (refine Ev.bnd s0 ?_) | (refine Ev.bnd e4 ?_) | (refine Ev.bnd e0 ?_) | (refine Ev.bnd e2 ?_) | (refine Ev.bnd e3 ?_) | (refine Ev.bnd a3 ?_) | (refine Ev.bnd b3 ?_) | (refine Ev.bnd c3 ?_) | (refine Ev.pos (by first | rfl | omega | (simp; done)) ?_) | (refine Ev.neg (by first | omega | (simp; done)) ?_))
    exact j0
  · rw [if_neg h3]
    exact Ev.pos (by omega) (Ev.now _)
end Go.Proofs.Ytfhkahlfpchhpaa.Pure
