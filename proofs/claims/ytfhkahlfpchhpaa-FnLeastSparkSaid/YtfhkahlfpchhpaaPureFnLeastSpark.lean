/- What the law FnLeastSpark asks, proved over the functions: for every input that its guards let in, it answers true. -/
import Derived.Test.YtfhkahlfpchhpaaKit
import Derived.Test.YtfhkahlfpchhpaaF0
import Derived.Test.YtfhkahlfpchhpaaF1
import Derived.Test.YtfhkahlfpchhpaaF10
import Derived.Test.YtfhkahlfpchhpaaF11
import Derived.Test.YtfhkahlfpchhpaaF13
import Derived.Test.YtfhkahlfpchhpaaF2
import Derived.Test.YtfhkahlfpchhpaaF23
import Derived.Test.YtfhkahlfpchhpaaF4
import Derived.Test.YtfhkahlfpchhpaaF6
import Derived.Test.YtfhkahlfpchhpaaF8
import Derived.Test.YtfhkahlfpchhpaaF9
import Derived.Test.YtfhkahlfpchhpaaFFnLeastSpark
set_option linter.unusedVariables false
set_option linter.unusedSimpArgs false
namespace Go.Proofs.Ytfhkahlfpchhpaa.Pure
open Go Go.RowKit Go.Proofs.Ytfhkahlfpchhpaa.PAll Go.Proofs.YtfhkahlfpchhpaaW.PrintWords Go.Proofs.YtfhkahlfpchhpaaW.PrintLast Go.Proofs.YtfhkahlfpchhpaaW.PrintMore Go.Proofs.Ytfhkahlfpchhpaa.Kit
/-! ### bits.OnesCount, for small numbers -/
theorem ones_fin : ∀ x : Fin 64, bits_OnesCount.f (IntKind.u64.wrap (x.val : Int)) = some ((pcn x.val : Nat) : Int) := by decide +kernel
theorem ones {x : Nat} (h : x < 64) : bits_OnesCount.f (IntKind.u64.wrap (x : Int)) = some ((pcn x : Nat) : Int) := ones_fin ⟨x, h⟩

/-! ### NetOk, both -/
theorem l1In_eq (a b c : Int) : spec_l1In.f a b c = some (decide (b ≤ a ∧ a ≤ c)) := by
  unfold spec_l1In.f
  by_cases h : a ≥ b
  · rw [if_pos h]; simp [h]
  · rw [if_neg h]; simp; omega
def SymQ (net : List Int) (i j : Nat) : Prop := tb (net.getD i 0) j = tb (net.getD j 0) i ∧ (j = i → tb (net.getD i 0) i = false)
instance (net : List Int) (i j : Nat) : Decidable (SymQ net i j) := by unfold SymQ; infer_instance
theorem symQ {net : List Int} {i : Nat} (hi : i < net.length) : SymP net i ↔ ∀ j, j < net.length → SymQ net i j := by
  constructor
  · rintro ⟨h1, h2⟩ j hj
    exact ⟨h2 j hj, fun _ => h1⟩
  · intro h
    exact ⟨(h i hi).2 rfl, fun j hj => (h j hj).1⟩
theorem sNetOk_l2 (net : List Int) (hn : net.length ≤ 6) (hr : ∀ i, i < net.length → RowP net i) (i : Nat) (hi : i < net.length) (j : Nat) (hj : j < net.length) (c : Bool)
    (h : Ev (fun k => if b01 (tb (net.getD i 0) j) = b01 (tb (net.getD j 0) i) then (if (j : Int) = (i : Int) then (if b01 (tb (net.getD i 0) j) = 1 then some false else spec_NetOk.l2 k net (i : Int) ((j + 1 : Nat) : Int)) else spec_NetOk.l2 k net (i : Int) ((j + 1 : Nat) : Int)) else some false) c) : Ev (fun k => spec_NetOk.l2 k net (i : Int) (j : Int)) c := by
  have e1 : Int.tmod (shr .i64 (rd net (i : Int)) (j : Int)) 2 = b01 (tb (net.getD i 0) j) := by rw [rd_nat]; exact shr_tmod (hr i hi).1 j (by omega)
  have e2 : Int.tmod (shr .i64 (rd net (j : Int)) (i : Int)) 2 = b01 (tb (net.getD j 0) i) := by rw [rd_nat]; exact shr_tmod (hr j hj).1 i (by omega)
  refine Ev.step (fun k => by rw [spec_NetOk.l2]) ?_
  rw [e1, e2, w64s j (by omega)]
  exact Ev.pos (by omega) (Ev.pos (by omega) (Ev.pos (by omega) (Ev.pos (by omega) h)))
theorem sNetOk_l1 (net : List Int) (hn : net.length ≤ 6) (hr : ∀ i, i < net.length → RowP net i) :
    Ev (fun k => spec_NetOk.l1 k net 0) (if ∀ j, j < net.length → SymP net j then true else false) := by
  refine ev_scan (F := fun k x => spec_NetOk.l1 k net x) (fun _ => ?_) (fun i hi hp b hb => ?_) (fun i hi _ hp => ?_)
  · exact Ev.step (fun k => by rw [spec_NetOk.l1]) (Ev.neg (by omega) (Ev.now _))
  all_goals refine Ev.step (fun k => by rw [spec_NetOk.l1]) (Ev.pos (by omega) ?_)
  all_goals rw [symQ hi] at hp
  · have H := ev_scan (F := fun k x => spec_NetOk.l2 k net (i : Int) x) (n := net.length) (P := SymQ net i) (r := b) (r' := false) (fun _ => ?_) (fun j hj hq c hc => ?_) (fun j hj _ hq => absurd (hp j hj) hq)
    · rw [if_pos hp] at H; exact H
    · refine Ev.step (fun k => by rw [spec_NetOk.l2]) (Ev.neg (by omega) ?_)
      rw [w64s i (by omega)]; exact hb
    · refine sNetOk_l2 net hn hr i hi j hj c (Ev.pos (b01_eq.2 hq.1) (Ev.iteS (fun h => Ev.neg (fun h' => ?_) hc) (fun h => hc)))
      obtain rfl : j = i := by omega
      rw [hq.2 rfl] at h'; cases h'
  · have H := ev_scan (F := fun k x => spec_NetOk.l2 k net (i : Int) x) (n := net.length) (P := SymQ net i) (r := true) (r' := false) (fun h => absurd h hp) (fun j hj hq c hc => ?_) (fun j hj _ hq => ?_)
    · rw [if_neg hp] at H; exact H
    · refine sNetOk_l2 net hn hr i hi j hj c (Ev.pos (b01_eq.2 hq.1) (Ev.iteS (fun h => Ev.neg (fun h' => ?_) hc) (fun h => hc)))
      obtain rfl : j = i := by omega
      rw [hq.2 rfl] at h'; cases h'
    · refine sNetOk_l2 net hn hr i hi j hj false (Ev.iteS (fun h => ?_) (fun h => Ev.now _))
      have h1 := b01_eq.1 h
      by_cases h2 : j = i
      · subst h2
        refine Ev.pos rfl (Ev.pos ?_ (Ev.now _))
        rw [b01_one]
        by_cases h3 : tb (net.getD j 0) j = true
        · exact h3
        · exact absurd ⟨rfl, fun _ => by simpa using h3⟩ hq
      · exact absurd ⟨h1, fun h => absurd h h2⟩ hq
theorem sNetOk (net : List Int) : Ev (fun k => spec_NetOk.f k net) (decide (NetP net)) := by
  unfold spec_NetOk.f
  refine Ev.bnd0 (l1In_eq _ _ _) ?_
  by_cases hn : 1 ≤ net.length ∧ net.length ≤ 6
  · refine Ev.pos (by simp; omega) ?_
    have hs : wrap64 (shl .i64 1 (net.length : Int) - 1) = 2 ^ net.length - 1 := by
      have := pow6 hn.2
      have h2 : (0 : Int) < 2 ^ net.length := Int.pow_pos (by decide)
      rw [shl_one _ (by omega), w64 (by simp; omega) (by simp; omega)]
      simp
    have pre : ∀ (i : Nat), i < net.length → ∀ c, Ev (fun k => if (decide (0 ≤ net.getD i 0 ∧ net.getD i 0 ≤ 2 ^ net.length - 1)) = true then spec_NetOk.l0 k net ((i + 1 : Nat) : Int) else some false) c → Ev (fun k => spec_NetOk.l0 k net (i : Int)) c := by
      intro i hi c h
      refine Ev.step (fun k => by rw [spec_NetOk.l0]) (Ev.pos (by omega) (Ev.pos (by omega) (Ev.bnd0 (l1In_eq _ _ _) ?_)))
      rw [rd_nat, hs, w64s i (by omega)]
      exact h
    have H := ev_scan (F := fun k x => spec_NetOk.l0 k net x) (n := net.length) (P := RowP net) (r := decide (NetP net)) (r' := false) (fun hr => ?_) (fun i hi hp b hb => ?_) (fun i hi _ hp => ?_)
    · refine Ev.to H ?_
      by_cases hr : ∀ i, i < net.length → RowP net i
      · rw [if_pos hr]
      · rw [if_neg hr]; symm; simp only [decide_eq_false_iff_not]; exact fun h => hr h.row
    · refine Ev.step (fun k => by rw [spec_NetOk.l0]) (Ev.neg (by omega) (Ev.to (sNetOk_l1 net hn.2 hr) ?_))
      rw [Bool.eq_iff_iff]
      simp only [decide_eq_true_eq]
      by_cases h : ∀ j, j < net.length → SymP net j
      · rw [if_pos h]; exact ⟨fun _ => ⟨hn.1, hn.2, hr, h⟩, fun _ => rfl⟩
      · rw [if_neg h]; exact ⟨fun h => (by cases h), fun h' => absurd h'.sym h⟩
    · exact pre i hi b (Ev.pos (by unfold RowP at hp; simp only [decide_eq_true_eq]; omega) hb)
    · exact pre i hi false (Ev.neg (by unfold RowP at hp; simp only [decide_eq_true_eq]; omega) (Ev.now _))
  · refine Ev.neg (by simp; omega) (Ev.val ?_)
    symm
    simp only [decide_eq_false_iff_not]
    exact fun h => hn ⟨h.lo, h.hi⟩
theorem iNetOk_l1 (net : List Int) (hn : net.length ≤ 6) (i : Nat) (hi : i < net.length) (x14 : List Int) (x15 x16 : Int) (v : Int) (j : Nat) (hj : j < net.length) (c : Bool)
    (h : Ev (fun k => if Go.bits .and .i64 (shr .i64 v (j : Int)) 1 = Go.bits .and .i64 (shr .i64 (net.getD j 0) (i : Int)) 1 then impl_NetOk.l1 k net (i : Int) v x14 x15 x16 (net.length : Int) ((j + 1 : Nat) : Int) else some false) c) :
    Ev (fun k => impl_NetOk.l1 k net (i : Int) v x14 x15 x16 (net.length : Int) (j : Int)) c := by
  refine Ev.step (fun k => by rw [impl_NetOk.l1]) ?_
  rw [rd_nat, w64s j (by omega)]
  exact Ev.pos (by omega) (Ev.pos (by omega) (Ev.pos (by omega) (Ev.pos (by omega) h)))
/-- What impl.NetOk asks of a row, as it asks. -/
def AskP (net : List Int) (i : Nat) : Prop :=
  0 ≤ net.getD i 0 ∧ net.getD i 0 < 2 ^ net.length ∧ ¬ Go.bits .and .i64 (shr .i64 (net.getD i 0) (i : Int)) 1 = 1 ∧
    ∀ j, j < net.length → Go.bits .and .i64 (shr .i64 (net.getD i 0) (j : Int)) 1 = Go.bits .and .i64 (shr .i64 (net.getD j 0) (i : Int)) 1
theorem asks {net : List Int} (hn : net.length ≤ 6) : (∀ i, i < net.length → AskP net i) ↔ (∀ i, i < net.length → RowP net i) ∧ ∀ i, i < net.length → SymP net i := by
  constructor
  · intro h
    have hr : ∀ i, i < net.length → RowP net i := fun i hi => ⟨(h i hi).1, (h i hi).2.1⟩
    refine ⟨hr, fun i hi => ⟨?_, fun j hj => ?_⟩⟩
    · have h1 := (h i hi).2.2.1
      have h2 := (hr i hi).big hn
      rw [shr_and (hr i hi).1 (by omega) i (by omega), b01_one] at h1
      simpa using h1
    · have h1 := (h i hi).2.2.2 j hj
      have h2 := (hr i hi).big hn
      have h3 := (hr j hj).big hn
      rw [shr_and (hr i hi).1 (by omega) j (by omega), shr_and (hr j hj).1 (by omega) i (by omega), b01_eq] at h1
      exact h1
  · rintro ⟨hr, hs⟩ i hi
    have h2 := (hr i hi).big hn
    refine ⟨(hr i hi).1, (hr i hi).2, ?_, fun j hj => ?_⟩
    · rw [shr_and (hr i hi).1 (by omega) i (by omega), b01_one, (hs i hi).1]; simp
    · have h3 := (hr j hj).big hn
      rw [shr_and (hr i hi).1 (by omega) j (by omega), shr_and (hr j hj).1 (by omega) i (by omega), b01_eq]
      exact (hs i hi).2 j hj
theorem iNetOk (net : List Int) : Ev (fun k => impl_NetOk.f k net) (decide (NetP net)) := by
  unfold impl_NetOk.f
  have stop : ¬ (1 ≤ net.length ∧ net.length ≤ 6) → Ev (fun k => impl_NetOk.j0 k net true) (decide (NetP net)) := fun hn =>
    Ev.step (fun k => by rw [impl_NetOk.j0]) (Ev.pos rfl (Ev.val (by symm; simp only [decide_eq_false_iff_not]; exact fun h => hn ⟨h.lo, h.hi⟩)))
  refine Ev.iteS (fun h1 => stop (by omega)) (fun h1 => ?_)
  by_cases h2 : (net.length : Int) > 6
  · rw [decide_eq_true h2]; exact stop (by omega)
  rw [decide_eq_false h2]
  have hn : net.length ≤ 6 := by omega
  refine Ev.step (fun k => by rw [impl_NetOk.j0]) (Ev.neg (by decide) ?_)
  classical
  have H := ev_scan (F := fun k x => impl_NetOk.l0 k net net (net.length : Int) x) (n := net.length) (P := AskP net) (r := true) (r' := false) (fun _ => ?_) (fun i hi hp b hb => ?_) (fun i hi _ hp => ?_)
  · refine Ev.to H ?_
    by_cases hr : ∀ i, i < net.length → AskP net i
    · rw [if_pos hr]; symm; simp only [decide_eq_true_eq]; exact ⟨by omega, hn, ((asks hn).1 hr).1, ((asks hn).1 hr).2⟩
    · rw [if_neg hr]; symm; simp only [decide_eq_false_iff_not]; exact fun h => hr ((asks hn).2 ⟨h.row, h.sym⟩)
  · exact Ev.step (fun k => by rw [impl_NetOk.l0]) (Ev.neg (by omega) (Ev.now _))
  · obtain ⟨a1, a2, a3, a4⟩ := hp
    refine Ev.step (fun k => by rw [impl_NetOk.l0]) (Ev.pos (by omega) (Ev.pos (by omega) (Ev.pos (by omega) ?_)))
    rw [rd_nat, shl_one _ (by omega), beq_eq_false_iff_ne.2 a3]
    refine Ev.neg (by omega) (Ev.neg (by simp; exact_mod_cast a2) ?_)
    refine Ev.step (fun k => by rw [impl_NetOk.j2]) (Ev.neg (by decide) ?_)
    refine ev_back (F := fun k x => impl_NetOk.l1 k net (i : Int) (net.getD i 0) net (net.length : Int) (i : Int) (net.length : Int) x) net.length ?_ (fun j hj e => ?_)
    · refine Ev.step (fun k => by rw [impl_NetOk.l1]) (Ev.neg (by omega) ?_)
      rw [w64s i (by omega)]; exact hb
    · exact iNetOk_l1 net hn i hi _ _ _ _ j hj b (Ev.pos (a4 j hj) e)
  · refine Ev.step (fun k => by rw [impl_NetOk.l0]) (Ev.pos (by omega) (Ev.pos (by omega) (Ev.pos (by omega) ?_)))
    rw [rd_nat, shl_one _ (by omega)]
    have out : ∀ v, Ev (fun k => impl_NetOk.j2 k net (i : Int) v net (net.length : Int) (i : Int) true) false := fun v =>
      Ev.step (fun k => by rw [impl_NetOk.j2]) (Ev.pos rfl (Ev.now _))
    refine Ev.iteS (fun _ => out _) (fun b1 => Ev.iteS (fun _ => out _) (fun b2 => ?_))
    by_cases b3 : Go.bits .and .i64 (shr .i64 (net.getD i 0) (i : Int)) 1 = 1
    · rw [b3]; exact out _
    rw [beq_eq_false_iff_ne.2 b3]
    refine Ev.step (fun k => by rw [impl_NetOk.j2]) (Ev.neg (by decide) ?_)
    have hq : ¬ ∀ j, j < net.length → Go.bits .and .i64 (shr .i64 (net.getD i 0) (j : Int)) 1 = Go.bits .and .i64 (shr .i64 (net.getD j 0) (i : Int)) 1 := fun h => hp ⟨by omega, by simp at b2; exact_mod_cast b2, b3, h⟩
    rcases first_bad (n := net.length) (P := fun j => Go.bits .and .i64 (shr .i64 (net.getD i 0) (j : Int)) 1 = Go.bits .and .i64 (shr .i64 (net.getD j 0) (i : Int)) 1) with h | ⟨m, h4, h5, h6⟩
    · exact absurd h hq
    · refine ev_back (F := fun k x => impl_NetOk.l1 k net (i : Int) (net.getD i 0) net (net.length : Int) (i : Int) (net.length : Int) x) m ?_ (fun j hj e => ?_)
      · exact iNetOk_l1 net hn i hi _ _ _ _ m h4 false (Ev.neg h5 (Ev.now _))
      · exact iNetOk_l1 net hn i hi _ _ _ _ j (by omega) false (Ev.pos (h6 j hj) e)

/-! ### NeedsOk, both -/
def NeedsP (net needs : List Int) : Prop := NetP net ∧ needs.length = net.length ∧ ∀ i, i < needs.length → 1 ≤ needs.getD i 0 ∧ needs.getD i 0 ≤ 6
instance (net needs : List Int) : Decidable (NeedsP net needs) := by unfold NeedsP; infer_instance
theorem needs_val (net needs : List Int) (h : ∀ i, i < needs.length → 1 ≤ needs.getD i 0 ∧ needs.getD i 0 ≤ 6) :
    Ev (fun _ => if decide (NetP net) = true then some ((needs.length : Int) == (net.length : Int)) else some false) (decide (NeedsP net needs)) := by
  refine Ev.iteS (fun hp => Ev.val ?_) (fun hp => Ev.val ?_)
  · rw [Bool.eq_iff_iff]; simp only [decide_eq_true_eq, beq_iff_eq] at *
    exact ⟨fun e => ⟨hp, by omega, h⟩, fun e => by have := e.2.1; omega⟩
  · symm; simp only [decide_eq_true_eq] at hp; simp only [decide_eq_false_iff_not]; exact fun e => hp e.1
theorem sNeedsOk (net needs : List Int) (hn : needs.length ≤ 1048577) : Ev (fun k => spec_NeedsOk.f k net needs) (decide (NeedsP net needs)) := by
  unfold spec_NeedsOk.f
  have H := ev_scan (F := fun k x => spec_NeedsOk.l0 k net needs x) (n := needs.length) (P := fun i => 1 ≤ needs.getD i 0 ∧ needs.getD i 0 ≤ 6) (r := decide (NeedsP net needs)) (r' := false) (fun h => ?_) (fun i hi hp b hb => ?_) (fun i hi _ hp => ?_)
  · refine Ev.to H ?_
    by_cases h : ∀ i, i < needs.length → 1 ≤ needs.getD i 0 ∧ needs.getD i 0 ≤ 6
    · rw [if_pos h]
    · rw [if_neg h]; symm; simp only [decide_eq_false_iff_not]; exact fun e => h e.2.2
  · exact Ev.step (fun k => by rw [spec_NeedsOk.l0]) (Ev.neg (by omega) (Ev.bnd (sNetOk net) (needs_val net needs h)))
  · refine Ev.step (fun k => by rw [spec_NeedsOk.l0]) (Ev.pos (by omega) (Ev.pos (by omega) (Ev.bnd0 (l1In_eq _ _ _) ?_)))
    rw [rd_nat, w64s i (by omega)]
    exact Ev.pos (by simpa using hp) hb
  · refine Ev.step (fun k => by rw [spec_NeedsOk.l0]) (Ev.pos (by omega) (Ev.pos (by omega) (Ev.bnd0 (l1In_eq _ _ _) ?_)))
    rw [rd_nat]
    exact Ev.neg (by simpa using hp) (Ev.now _)
theorem iNeedsOk (net needs : List Int) (hn : needs.length ≤ 1048577) : Ev (fun k => impl_NeedsOk.f k net needs) (decide (NeedsP net needs)) := by
  unfold impl_NeedsOk.f
  have H := ev_scan (F := fun k x => impl_NeedsOk.l0 k net needs needs (needs.length : Int) x) (n := needs.length) (P := fun i => 1 ≤ needs.getD i 0 ∧ needs.getD i 0 ≤ 6) (r := decide (NeedsP net needs)) (r' := false) (fun h => ?_) (fun i hi hp b hb => ?_) (fun i hi _ hp => ?_)
  · refine Ev.to H ?_
    by_cases h : ∀ i, i < needs.length → 1 ≤ needs.getD i 0 ∧ needs.getD i 0 ≤ 6
    · rw [if_pos h]
    · rw [if_neg h]; symm; simp only [decide_eq_false_iff_not]; exact fun e => h e.2.2
  · exact Ev.step (fun k => by rw [impl_NeedsOk.l0]) (Ev.neg (by omega) (Ev.bnd (iNetOk net) (needs_val net needs h)))
  · refine Ev.step (fun k => by rw [impl_NeedsOk.l0]) (Ev.pos (by omega) (Ev.pos (by omega) (Ev.pos (by omega) ?_)))
    rw [rd_nat, w64s i (by omega)]
    exact Ev.neg (by omega) (Ev.neg (by omega) hb)
  · refine Ev.step (fun k => by rw [impl_NeedsOk.l0]) (Ev.pos (by omega) (Ev.pos (by omega) (Ev.pos (by omega) ?_)))
    rw [rd_nat]
    exact Ev.iteS (fun _ => Ev.now _) (fun h1 => Ev.pos (by omega) (Ev.now _))

/-! ### SpreadSet of the program -/
theorem ones_and {net : List Int} (h : NetP net) {i : Nat} (hi : i < net.length) {s : Nat} (hs : s < 64) :
    bits_OnesCount.f (IntKind.u64.wrap (Go.bits .and .i64 (rd net (i : Int)) (s : Int))) = some ((pcn (nb net i &&& s) : Nat) : Int) := by
  have h1 := nb_small h i
  rw [rd_nat, nb_cast (h.row i hi), and_nat _ _ (by omega) (by omega)]
  exact ones (and_small h1)
theorem spread_l1 {net needs : List Int} (h : NeedsP net needs) {s : Nat} (hs : s < 2 ^ net.length) {t : Int} {r : Int × Int}
    (hend : Ev (fun k => if ((grow net needs s : Nat) : Int) = (s : Int) then some ((s : Int), t) else impl_spread.l0 k net needs ((grow net needs s : Nat) : Int) (wrap64 (t + 1))) r) :
    Ev (fun k => impl_spread.l0 k net needs (s : Int) t) r := by
  have hn := h.1.hi
  have h64 := pow_le64 hn
  refine Ev.step (fun k => by rw [impl_spread.l0]) ?_
  refine ev_for (F := fun k x a => impl_spread.l1 k net needs (s : Int) t a net (net.length : Int) x) (n := net.length) (out := fun _ _ => r) (I := fun i a => a = ((growTo net needs s i : Nat) : Int)) ?_ ?_ net.length 0 (by omega) _ rfl
  · rintro a rfl
    refine Ev.step (fun k => by rw [impl_spread.l1]) (Ev.neg (by omega) ?_)
    exact hend
  · rintro i a hi rfl ih
    have hl := growTo_lt (net := net) (needs := needs) (m := i) hs (by omega)
    refine Ev.step (fun k => by rw [impl_spread.l1]) (Ev.pos (by omega) (Ev.pos (by omega) (Ev.pos (by omega) ?_)))
    refine Ev.bnd0 (ones_and h.1 hi (by omega)) ?_
    have hk := h.2.1
    refine Ev.pos (by omega) ?_
    rw [rd_nat, w64s i (by omega)]
    refine Ev.iteS (fun hc => ?_) (fun hc => ?_)
    · rw [or_bit (by omega) (by omega)]
      exact ih _ (by rw [growTo_yes hc])
    · exact ih _ (by rw [growTo_no hc])
theorem spread_ev {net needs : List Int} (h : NeedsP net needs) : ∀ (f s t : Nat), s < 2 ^ net.length → 6 < cnt 6 s + f → t + f ≤ 100 →
    Ev (fun k => impl_spread.l0 k net needs (s : Int) (t : Int)) (((spr net needs f s t).1 : Int), ((spr net needs f s t).2 : Int)) := by
  intro f
  induction f with
  | zero => intro s t _ hc; have := cnt_le 6 s; omega
  | succ f ih =>
    intro s t hs hc ht
    refine spread_l1 h hs ?_
    unfold spr
    by_cases e : grow net needs s = s
    · rw [if_pos e]; exact Ev.pos (by rw [e]) (Ev.now _)
    · rw [if_neg e]
      have hm := grow_more h.1.hi e
      rw [pcn_eq, pcn_eq] at hm
      refine Ev.neg (by omega) ?_
      rw [w64s t (by omega)]
      exact ih _ _ (grow_lt hs) (by omega) (by omega)
theorem spread_f {net needs : List Int} (h : NeedsP net needs) {s : Nat} (hs : s < 2 ^ net.length) :
    Ev (fun k => impl_spread.f k net needs (s : Int)) ((lit net needs s : Int), (litAt net needs s : Int)) := spread_ev h 7 s 0 hs (by omega) (by omega)
theorem iSetOk (net : List Int) (set : Int) : Ev (fun k => impl_setOk.f k net set) (decide (NetP net ∧ SetP net set)) := by
  unfold impl_setOk.f
  refine Ev.bnd (iNetOk net) (Ev.iteS (fun h => ?_) (fun h => Ev.val ?_))
  · simp only [decide_eq_true_eq] at h
    have hn := h.hi
    rw [shl_one _ (by omega)]
    refine Ev.iteS (fun h1 => Ev.val ?_) (fun h1 => Ev.val ?_)
    · rw [Bool.eq_iff_iff]; simp only [decide_eq_true_eq]; unfold SetP
      simp only [Int.natCast_pow, Int.cast_ofNat_Int]
      exact ⟨fun e => ⟨h, h1, e⟩, fun e => e.2.2⟩
    · symm; simp only [decide_eq_false_iff_not]; exact fun e => h1 e.2.1
  · symm; simp only [decide_eq_true_eq] at h; simp only [decide_eq_false_iff_not]; exact fun e => h e.1
/-- What SpreadSet returns. -/
def spreadR (net needs : List Int) (set : Int) : Int × Int :=
  if NeedsP net needs ∧ SetP net set then (((lit net needs set.toNat : Nat) : Int), ((litAt net needs set.toNat : Nat) : Int)) else (-1, -1)
theorem iSpreadSet (net needs : List Int) (set : Int) (hn : needs.length ≤ 1048577) : Ev (fun k => impl_SpreadSet.f k net needs set) (spreadR net needs set) := by
  unfold impl_SpreadSet.f
  refine Ev.bnd (iNeedsOk net needs hn) (Ev.iteS (fun h => ?_) (fun h => Ev.val ?_))
  · simp only [decide_eq_true_eq] at h
    refine Ev.bnd (iSetOk net set) (Ev.iteS (fun h2 => ?_) (fun h2 => Ev.val ?_))
    · simp only [decide_eq_true_eq] at h2
      obtain ⟨s, rfl, hs⟩ := h2.2.nat
      refine Ev.bnd (spread_f h hs) (Ev.val ?_)
      unfold spreadR; rw [if_pos ⟨h, h2.2⟩, Int.toNat_natCast]
    · simp only [decide_eq_true_eq] at h2
      unfold spreadR; rw [if_neg (fun e => h2 ⟨h.1, e.2⟩)]
  · simp only [decide_eq_true_eq] at h
    unfold spreadR; rw [if_neg (fun e => h e.1)]

theorem size4_fin : ∀ x : Fin 64, spec_l4Size.f 8 (x.val : Int) = some ((pcn x.val : Nat) : Int) := by decide +kernel
theorem size4 {x : Nat} (h : x < 64) : Ev (fun k => spec_l4Size.f k (x : Int)) ((pcn x : Nat) : Int) := Ev.of (spec_l4Size.mono x) (size4_fin ⟨x, h⟩)

/-! ### SpreadSet of the reference -/
theorem size4_and {net : List Int} (h : NetP net) {i : Nat} (hi : i < net.length) {s : Nat} (hs : s < 64) :
    Ev (fun k => spec_l4Size.f k (Go.bits .and .i64 (rd net (i : Int)) (s : Int))) ((pcn (nb net i &&& s) : Nat) : Int) := by
  have h1 := nb_small h i
  rw [rd_nat, nb_cast (h.row i hi), and_nat _ _ (by omega) (by omega)]
  exact size4 (and_small h1)
theorem sGrow {net needs : List Int} (h : NeedsP net needs) {s : Nat} (hs : s < 2 ^ net.length) : Ev (fun k => spec_l9Grow.f k net needs (s : Int)) ((grow net needs s : Nat) : Int) := by
  have hn := h.1.hi
  have h64 := pow_le64 hn
  unfold spec_l9Grow.f
  refine ev_for (F := fun k x a => spec_l9Grow.l0 k net needs (s : Int) a x) (n := net.length) (out := fun _ _ => ((grow net needs s : Nat) : Int)) (I := fun i a => a = ((growTo net needs s i : Nat) : Int)) ?_ ?_ net.length 0 (by omega) _ rfl
  · rintro a rfl
    refine Ev.step (fun k => by rw [spec_l9Grow.l0]) (Ev.neg (by omega) ?_)
    exact Ev.now ((grow net needs s : Nat) : Int)
  · rintro i a hi rfl ih
    have hl := growTo_lt (net := net) (needs := needs) (m := i) hs (by omega)
    refine Ev.step (fun k => by rw [spec_l9Grow.l0]) (Ev.pos (by omega) (Ev.pos (by omega) ?_))
    refine Ev.bnd (size4_and h.1 hi (by omega)) ?_
    have hk := h.2.1
    refine Ev.pos (by omega) ?_
    rw [rd_nat, w64s i (by omega)]
    refine Ev.iteS (fun hc => ?_) (fun hc => ?_)
    · rw [or_bit (by omega) (by omega)]
      exact ih _ (by rw [growTo_yes hc])
    · exact ih _ (by rw [growTo_no hc])
theorem sSpread_ev {net needs : List Int} (h : NeedsP net needs) : ∀ (f s t : Nat), s < 2 ^ net.length → 6 < cnt 6 s + f → t + f ≤ 100 →
    Ev (fun k => spec_SpreadSet.l0 k net needs (s : Int) (t : Int)) (((spr net needs f s t).1 : Int), ((spr net needs f s t).2 : Int)) := by
  intro f
  induction f with
  | zero => intro s t _ hc; have := cnt_le 6 s; omega
  | succ f ih =>
    intro s t hs hc ht
    refine Ev.step (fun k => by rw [spec_SpreadSet.l0]) (Ev.bnd (sGrow h hs) ?_)
    unfold spr
    by_cases e : grow net needs s = s
    · rw [if_pos e]; exact Ev.pos (by rw [e]) (Ev.now _)
    · rw [if_neg e]
      have hm := grow_more h.1.hi e
      rw [pcn_eq, pcn_eq] at hm
      refine Ev.neg (by omega) (Ev.bnd (sGrow h hs) ?_)
      rw [w64s t (by omega)]
      exact ih _ _ (grow_lt hs) (by omega) (by omega)
theorem sSpreadSet (net needs : List Int) (set : Int) (hn : needs.length ≤ 1048577) : Ev (fun k => spec_SpreadSet.f k net needs set) (spreadR net needs set) := by
  unfold spec_SpreadSet.f
  have out : ¬ (NeedsP net needs ∧ SetP net set) → Ev (fun k => spec_SpreadSet.j0 k net needs set true) (spreadR net needs set) := fun e =>
    Ev.step (fun k => by rw [spec_SpreadSet.j0]) (Ev.pos rfl (Ev.val (by unfold spreadR; rw [if_neg e])))
  refine Ev.bnd (sNeedsOk net needs hn) (Ev.iteS (fun h => ?_) (fun h => ?_))
  · simp only [decide_eq_true_eq] at h
    refine Ev.bnd0 (l1In_eq _ _ _) ?_
    rw [top_eq h.1.hi]
    by_cases h2 : 0 ≤ set ∧ set ≤ 2 ^ net.length - 1
    · rw [decide_eq_true h2]
      have hp : SetP net set := ⟨h2.1, by omega⟩
      obtain ⟨s, rfl, hs⟩ := hp.nat
      refine Ev.step (fun k => by rw [spec_SpreadSet.j0]) (Ev.neg (by decide) ?_)
      refine Ev.to (sSpread_ev h 7 s 0 hs (by omega) (by omega)) ?_
      unfold spreadR; rw [if_pos ⟨h, hp⟩, Int.toNat_natCast]; rfl
    · rw [decide_eq_false h2]
      exact out (fun e => h2 ⟨e.2.1, by have := e.2.2; omega⟩)
  · simp only [decide_eq_true_eq] at h
    exact out (fun e => h e.1)

/-! ### LeastSpark, both -/
def Full (net needs : List Int) (s : Nat) : Prop := lit net needs s = 2 ^ net.length - 1
instance (net needs : List Int) (s : Nat) : Decidable (Full net needs s) := by unfold Full; infer_instance
/-- The best one of the first m sets. -/
def bestTo (net needs : List Int) : Nat → Nat
  | 0 => 2 ^ net.length - 1
  | m + 1 => if pcn m < pcn (bestTo net needs m) ∧ Full net needs m then m else bestTo net needs m
def spark (net needs : List Int) : Nat := bestTo net needs (2 ^ net.length)
theorem bestTo_yes {net needs : List Int} {m : Nat} (h : pcn m < pcn (bestTo net needs m)) (h' : Full net needs m) : bestTo net needs (m + 1) = m := by rw [bestTo, if_pos ⟨h, h'⟩]
theorem bestTo_no {net needs : List Int} {m : Nat} (h : ¬ (pcn m < pcn (bestTo net needs m) ∧ Full net needs m)) : bestTo net needs (m + 1) = bestTo net needs m := by rw [bestTo, if_neg h]
theorem bestTo_lt (net needs : List Int) : ∀ m, m ≤ 2 ^ net.length → bestTo net needs m < 2 ^ net.length := by
  intro m
  induction m with
  | zero => intro _; rw [bestTo]; have := Nat.two_pow_pos net.length; omega
  | succ m ih =>
    intro hm
    rw [bestTo]
    by_cases h : pcn m < pcn (bestTo net needs m) ∧ Full net needs m
    · rw [if_pos h]; omega
    · rw [if_neg h]; exact ih (by omega)
theorem full_full {net : List Int} (hn : net.length ≤ 6) (needs : List Int) : Full net needs (2 ^ net.length - 1) := by
  have h2 := Nat.two_pow_pos net.length
  have h1 := lit_lt (net := net) (needs := needs) (s := 2 ^ net.length - 1) (by omega)
  refine sub_ext (fun i hi => ?_) (lit_is hn _).sub
  rw [full_bit]; simpa using bit_lt h1 hi
theorem bestTo_full {net : List Int} (hn : net.length ≤ 6) (needs : List Int) (m : Nat) : Full net needs (bestTo net needs m) := by
  induction m with
  | zero => rw [bestTo]; exact full_full hn needs
  | succ m ih =>
    rw [bestTo]
    by_cases h : pcn m < pcn (bestTo net needs m) ∧ Full net needs m
    · rw [if_pos h]; exact h.2
    · rw [if_neg h]; exact ih
theorem bestTo_least {net needs : List Int} (m s : Nat) (hs : s < m) (hf : Full net needs s) : pcn (bestTo net needs m) ≤ pcn s := by
  induction m with
  | zero => omega
  | succ m ih =>
    rw [bestTo]
    by_cases e : s = m
    · subst e
      by_cases h : pcn s < pcn (bestTo net needs s) ∧ Full net needs s
      · rw [if_pos h]; omega
      · rw [if_neg h]
        exact Nat.le_of_not_lt (fun hx => h ⟨hx, hf⟩)
    · have := ih (by omega)
      by_cases h : pcn m < pcn (bestTo net needs m) ∧ Full net needs m
      · rw [if_pos h]; omega
      · rw [if_neg h]; exact this
theorem spark_lt (net needs : List Int) : spark net needs < 2 ^ net.length := bestTo_lt net needs _ (Nat.le_refl _)
theorem spark_full {net : List Int} (hn : net.length ≤ 6) (needs : List Int) : lit net needs (spark net needs) = 2 ^ net.length - 1 := bestTo_full hn needs _
theorem spark_least {net needs : List Int} {s : Nat} (hs : s < 2 ^ net.length) (hf : lit net needs s = 2 ^ net.length - 1) : pcn (spark net needs) ≤ pcn s := bestTo_least _ s hs hf
/-- What LeastSpark returns. -/
def sparkR (net needs : List Int) : Int := if NeedsP net needs then ((spark net needs : Nat) : Int) else -1
theorem top_nat {n : Nat} (hn : n ≤ 6) : wrap64 (shl .i64 1 (n : Int) - 1) = ((2 ^ n - 1 : Nat) : Int) := by
  rw [top_eq hn]; have := Nat.two_pow_pos n; rw [Int.natCast_sub (by omega)]; simp
theorem iLeastSpark (net needs : List Int) (hq : needs.length ≤ 1048577) : Ev (fun k => impl_LeastSpark.f k net needs) (sparkR net needs) := by
  unfold impl_LeastSpark.f
  refine Ev.bnd (iNeedsOk net needs hq) (Ev.iteS (fun h => ?_) (fun h => ?_))
  · simp only [decide_eq_true_eq] at h
    have hn := h.1.hi
    have h64 := pow_le64 hn
    unfold sparkR; rw [if_pos h, top_nat hn, shl_one _ (by omega)]
    refine ev_for (F := fun k x a => impl_LeastSpark.l0 k net needs a ((2 ^ net.length : Nat) : Int) x) (n := 2 ^ net.length) (out := fun _ _ => ((spark net needs : Nat) : Int)) (I := fun i a => a = ((bestTo net needs i : Nat) : Int)) ?_ ?_ (2 ^ net.length) 0 (by omega) _ rfl
    · rintro a rfl
      refine Ev.step (fun k => by rw [impl_LeastSpark.l0]) (Ev.neg (by omega) ?_)
      exact Ev.now ((spark net needs : Nat) : Int)
    · rintro i a hi rfl ih
      have hb := bestTo_lt net needs i (by omega)
      refine Ev.step (fun k => by rw [impl_LeastSpark.l0]) (Ev.pos (by omega) ?_)
      refine Ev.bnd0 (ones (x := i) (by omega)) ?_
      refine Ev.bnd0 (ones (x := bestTo net needs i) (by omega)) ?_
      rw [w64s i (by omega), top_nat hn]
      refine Ev.iteS (fun hc => ?_) (fun hc => Ev.bnd (spread_f h hi) (Ev.iteS (fun hf => ?_) (fun hf => ?_)))
      · exact ih _ (by rw [bestTo_no (fun e => by omega)])
      · exact ih _ (by rw [bestTo_yes (by omega) (by have h' : ((lit net needs i : Nat) : Int) = ((2 ^ net.length - 1 : Nat) : Int) := hf; unfold Full; omega)])
      · have hx : ¬ (pcn i < pcn (bestTo net needs i) ∧ Full net needs i) := fun e => hf (show ((lit net needs i : Nat) : Int) = ((2 ^ net.length - 1 : Nat) : Int) by have := e.2; unfold Full at this; rw [this])
        exact ih _ (by rw [bestTo_no hx])
  · simp only [decide_eq_true_eq] at h
    unfold sparkR; rw [if_neg h]; exact Ev.now _
theorem sLeastSpark (net needs : List Int) (hq : needs.length ≤ 1048577) : Ev (fun k => spec_LeastSpark.f k net needs) (sparkR net needs) := by
  unfold spec_LeastSpark.f
  refine Ev.bnd (sNeedsOk net needs hq) (Ev.iteS (fun h => ?_) (fun h => ?_))
  · simp only [decide_eq_true_eq] at h
    have hn := h.1.hi
    have h64 := pow_le64 hn
    unfold sparkR; rw [if_pos h, top_nat hn]
    refine ev_for (F := fun k x a => spec_LeastSpark.l0 k net needs a x) (n := 2 ^ net.length) (out := fun _ _ => ((spark net needs : Nat) : Int)) (I := fun i a => a = ((bestTo net needs i : Nat) : Int)) ?_ ?_ (2 ^ net.length) 0 (by omega) _ rfl
    · rintro a rfl
      refine Ev.step (fun k => by rw [spec_LeastSpark.l0]) (Ev.neg (by rw [shl_one _ (by omega)]; omega) ?_)
      exact Ev.now ((spark net needs : Nat) : Int)
    · rintro i a hi rfl ih
      have hb := bestTo_lt net needs i (by omega)
      have hs := sSpreadSet net needs (i : Int) hq
      have e : spreadR net needs (i : Int) = (((lit net needs i : Nat) : Int), ((litAt net needs i : Nat) : Int)) := by
        unfold spreadR; rw [if_pos ⟨h, by omega, by exact_mod_cast hi⟩, Int.toNat_natCast]
      rw [e] at hs
      refine Ev.step (fun k => by rw [spec_LeastSpark.l0]) (Ev.pos (by rw [shl_one _ (by omega)]; omega) (Ev.bnd hs ?_))
      rw [w64s i (by omega), top_nat hn]
      refine Ev.iteS (fun hf => Ev.bnd (size4 (x := i) (by omega)) (Ev.bnd (size4 (x := bestTo net needs i) (by omega)) (Ev.iteS (fun hc => ?_) (fun hc => ?_)))) (fun hf => ?_)
      · exact ih _ (by rw [bestTo_yes (by omega) (by have h' : ((lit net needs i : Nat) : Int) = ((2 ^ net.length - 1 : Nat) : Int) := hf; unfold Full; omega)])
      · exact ih _ (by rw [bestTo_no (fun e => by omega)])
      · have hx : ¬ (pcn i < pcn (bestTo net needs i) ∧ Full net needs i) := fun e => hf (show ((lit net needs i : Nat) : Int) = ((2 ^ net.length - 1 : Nat) : Int) by have := e.2; unfold Full at this; rw [this])
        exact ih _ (by rw [bestTo_no hx])
  · simp only [decide_eq_true_eq] at h
    unfold sparkR; rw [if_neg h]; exact Ev.now _

/-! ### drawing -/
def BytesP (b : List Int) : Prop := b.length ≤ 2000 ∧ ∀ i, 0 ≤ b.getD i 0 ∧ b.getD i 0 < 256
theorem rd_byte {b : List Int} (h : BytesP b) (i : Int) : 0 ≤ rd b i ∧ rd b i < 256 := h.2 i.toNat
theorem bytes_of {l : List Int} (h : ∀ x ∈ l, (Lit.int .u8 x).wf = true) (i : Nat) : 0 ≤ l.getD i 0 ∧ l.getD i 0 < 256 := by
  rw [List.getD_eq_getElem?_getD]
  by_cases hi : i < l.length
  · rw [List.getElem?_eq_getElem hi]
    have := h _ (List.getElem_mem hi)
    have h' : IntKind.u8.min ≤ l[i] ∧ l[i] ≤ IntKind.u8.max := by simpa [Lit.wf] using this
    have e : IntKind.u8.min = 0 := by decide
    have e' : IntKind.u8.max = 255 := by decide
    simp only [Option.getD_some]
    omega
  · rw [List.getElem?_eq_none (by omega)]; simp
theorem open_ev (l : List Int) (h : ∀ x ∈ l, (Lit.int .u8 x).wf = true) : ∃ b, spec_l20Open.f l = some (b, 0) ∧ BytesP b := by
  unfold spec_l20Open.f
  by_cases h1 : (l.length : Int) > 2000
  · refine ⟨l.take 2000, by rw [if_pos h1, if_pos (by omega)], by simp; omega, fun i => ?_⟩
    rw [List.getD_eq_getElem?_getD, List.getElem?_take]
    split
    · rw [← List.getD_eq_getElem?_getD]; exact bytes_of h i
    · simp
  · exact ⟨l, by rw [if_neg h1], by omega, bytes_of h⟩
theorem xor_nonneg {a b : Int} (ha : 0 ≤ a) (ha' : a < 2 ^ 62) (hb : 0 ≤ b) (hb' : b < 2 ^ 62) : 0 ≤ Go.bits .xor .i64 a b := by
  obtain ⟨x, rfl⟩ := Int.eq_ofNat_of_zero_le ha
  obtain ⟨y, rfl⟩ := Int.eq_ofNat_of_zero_le hb
  have hx : x < 2 ^ 62 := by exact_mod_cast ha'
  have hy : y < 2 ^ 62 := by exact_mod_cast hb'
  have e1 : x % 2 ^ IntKind.i64.bits = x := Nat.mod_eq_of_lt (Nat.lt_of_lt_of_le hx (by decide))
  have e2 : y % 2 ^ IntKind.i64.bits = y := Nat.mod_eq_of_lt (Nat.lt_of_lt_of_le hy (by decide))
  have h1 : x ^^^ y < 2 ^ 62 := Nat.xor_lt_two_pow hx hy
  simp only [Go.bits, BitVec.ofInt_natCast, BitVec.toNat_xor, BitVec.toNat_ofNat, e1, e2]
  have h2 : ((x ^^^ y : Nat) : Int) < 2 ^ 62 := by exact_mod_cast h1
  rw [wraps_i64 _ (Int.natCast_nonneg _) (by omega)]
  exact Int.natCast_nonneg _
theorem tmod_in {a n : Int} (ha : 0 ≤ a) (hn : 0 < n) : 0 ≤ Int.tmod a n ∧ Int.tmod a n < n := ⟨Int.tmod_nonneg n ha, Int.tmod_lt_of_pos a hn⟩
theorem pick_ev {b : List Int} (hb : BytesP b) {p n : Int} (hp0 : 0 ≤ p) (hp : p ≤ 1000000) (hn : 1 ≤ n) (hn' : n ≤ 1000000) : ∃ v, 0 ≤ v ∧ v < n ∧ Ev (fun k => spec_l20Rd_pick.f k b p n) (v, p + 1) := by
  unfold spec_l20Rd_pick.f
  rw [w64 (x := p + 1) (by omega) (by omega)]
  by_cases h0 : (b.length : Int) = 0
  · refine ⟨0, by omega, by omega, Ev.neg (by omega) ?_⟩
    rw [beq_iff_eq.2 h0]
    exact Ev.step (fun k => by rw [spec_l20Rd_pick.j0]) (Ev.pos rfl (Ev.now _))
  · have hb1 := hb.1
    have e1 : wrap64 (p + 1 - 1) = p := by rw [w64 (by omega) (by omega)]; omega
    by_cases h1 : p < (b.length : Int)
    · have hr := rd_byte hb p
      obtain ⟨g1, g2⟩ := tmod_in (a := wrap64 (rd b p)) (n := n) (by rw [w64 (by omega) (by omega)]; omega) (by omega)
      refine ⟨Int.tmod (wrap64 (rd b p)) n, g1, g2, Ev.neg (by omega) ?_⟩
      rw [beq_eq_false_iff_ne.2 h0]
      refine Ev.step (fun k => by rw [spec_l20Rd_pick.j0]) (Ev.neg (by decide) ?_)
      rw [e1]
      exact Ev.pos h1 (Ev.pos (by omega) (Ev.neg (by omega) (Ev.now _)))
    · have hl : 0 < (b.length : Int) := by omega
      obtain ⟨a1, a2⟩ := tmod_in (a := p) (n := b.length) (by omega) hl
      obtain ⟨a3, a4⟩ := tmod_in (a := wrap64 (wrap64 (p * 7) + 3)) (n := b.length) (by rw [w64 (x := p * 7) (by omega) (by omega), w64 (by omega) (by omega)]; omega) hl
      have r1 := rd_byte hb (Int.tmod p b.length)
      have r2 := rd_byte hb (Int.tmod (wrap64 (wrap64 (p * 7) + 3)) b.length)
      have d1 : 0 ≤ Int.tdiv p b.length := Int.tdiv_nonneg hp0 (by omega)
      have d2 : Int.tdiv p b.length ≤ p := Int.tdiv_le_self _ hp0
      have fin : ∀ X, 0 ≤ X → X ≤ 200000000 → 0 ≤ Int.tmod (Go.bits .xor .i64 X (wrap64 (Int.tdiv X 64))) n ∧ Int.tmod (Go.bits .xor .i64 X (wrap64 (Int.tdiv X 64))) n < n := by
        intro X x0 x1
        have e : Int.tdiv X 64 = X / 64 := Int.tdiv_eq_ediv_of_nonneg x0
        rw [e, w64 (by omega) (by omega)]
        exact tmod_in (xor_nonneg x0 (by omega) (by omega) (by omega)) (by omega)
      obtain ⟨X, hX, x0, x1⟩ : ∃ X, X = wrap64 (wrap64 (wrap64 (wrap64 (wrap64 (rd b (Int.tmod p b.length)) * 131) + wrap64 (wrap64 (rd b (Int.tmod (wrap64 (wrap64 (p * 7) + 3)) b.length)) * 1117)) + wrap64 (p * 29)) + wrap64 (wrap64 (Int.tdiv p b.length) * 53)) ∧ 0 ≤ X ∧ X ≤ 200000000 := by
        refine ⟨_, rfl, ?_⟩
        generalize rd b (Int.tmod p b.length) = u at *
        generalize rd b (Int.tmod (wrap64 (wrap64 (p * 7) + 3)) b.length) = v at *
        generalize Int.tdiv p b.length = w at *
        rw [w64 (x := u) (by omega) (by omega), w64 (x := v) (by omega) (by omega), w64 (x := w) (by omega) (by omega)]
        rw [w64 (x := u * 131) (by omega) (by omega), w64 (x := v * 1117) (by omega) (by omega), w64 (x := p * 29) (by omega) (by omega), w64 (x := w * 53) (by omega) (by omega)]
        rw [w64 (x := u * 131 + v * 1117) (by omega) (by omega), w64 (x := u * 131 + v * 1117 + p * 29) (by omega) (by omega), w64 (x := u * 131 + v * 1117 + p * 29 + w * 53) (by omega) (by omega)]
        omega
      refine ⟨Int.tmod (Go.bits .xor .i64 X (wrap64 (Int.tdiv X 64))) n, (fin X x0 x1).1, (fin X x0 x1).2, Ev.neg (by omega) ?_⟩
      rw [beq_eq_false_iff_ne.2 h0]
      refine Ev.step (fun k => by rw [spec_l20Rd_pick.j0]) (Ev.neg (by decide) ?_)
      rw [e1, ← hX]
      exact Ev.neg h1 (Ev.neg h0 (Ev.pos a1 (Ev.pos a2 (Ev.pos a3 (Ev.pos a4 (Ev.neg (by omega) (Ev.now _)))))))

theorem odd_ev {b : List Int} (hb : BytesP b) {p n : Int} (hp0 : 0 ≤ p) (hp : p ≤ 1000000) (hn' : n ≤ 1000000) : ∃ c p', p ≤ p' ∧ p' ≤ p + 1 ∧ Ev (fun k => spec_l20Rd_odd.f k b p n) (c, p') := by
  unfold spec_l20Rd_odd.f
  by_cases h : n > 0
  · obtain ⟨v, _, _, h3⟩ := pick_ev hb hp0 hp (n := n) (by omega) hn'
    exact ⟨_, _, by omega, by omega, Ev.pos h (Ev.bnd h3 (Ev.now _))⟩
  · exact ⟨_, _, by omega, by omega, Ev.neg h (Ev.now _)⟩

/-! ### drawing a net -/
theorem pathNet_ev {n : Int} (h0 : 1 ≤ n) (h1 : n ≤ 6) : ∃ l : List Int, (l.length : Int) = n ∧ Ev (fun k => spec_PathNet.f k n) l := by
  have : n = 1 ∨ n = 2 ∨ n = 3 ∨ n = 4 ∨ n = 5 ∨ n = 6 := by omega
  rcases this with rfl | rfl | rfl | rfl | rfl | rfl
  · exact ⟨[0], rfl, Ev.of (spec_PathNet.mono 1) (k := 40) (by decide +kernel)⟩
  · exact ⟨[2, 1], rfl, Ev.of (spec_PathNet.mono 2) (k := 40) (by decide +kernel)⟩
  · exact ⟨[2, 5, 2], rfl, Ev.of (spec_PathNet.mono 3) (k := 40) (by decide +kernel)⟩
  · exact ⟨[2, 5, 10, 4], rfl, Ev.of (spec_PathNet.mono 4) (k := 40) (by decide +kernel)⟩
  · exact ⟨[2, 5, 10, 20, 8], rfl, Ev.of (spec_PathNet.mono 5) (k := 40) (by decide +kernel)⟩
  · exact ⟨[2, 5, 10, 20, 40, 16], rfl, Ev.of (spec_PathNet.mono 6) (k := 40) (by decide +kernel)⟩
theorem ringNet_ev {n : Int} (h0 : 3 ≤ n) (h1 : n ≤ 6) : ∃ l : List Int, (l.length : Int) = n ∧ Ev (fun k => spec_RingNet.f k n) l := by
  have : n = 3 ∨ n = 4 ∨ n = 5 ∨ n = 6 := by omega
  rcases this with rfl | rfl | rfl | rfl
  · exact ⟨[6, 5, 3], rfl, Ev.of (spec_RingNet.mono 3) (k := 40) (by decide +kernel)⟩
  · exact ⟨[10, 5, 10, 5], rfl, Ev.of (spec_RingNet.mono 4) (k := 40) (by decide +kernel)⟩
  · exact ⟨[18, 5, 10, 20, 9], rfl, Ev.of (spec_RingNet.mono 5) (k := 40) (by decide +kernel)⟩
  · exact ⟨[34, 5, 10, 20, 40, 17], rfl, Ev.of (spec_RingNet.mono 6) (k := 40) (by decide +kernel)⟩
theorem net_l0 {b : List Int} (hb : BytesP b) {n nodes : Int} (hn : n ≤ 1000) (h1 : 1 ≤ nodes) (h6 : nodes ≤ 6) : ∀ (m : Nat) (net : List Int) (p : Int), (net.length : Int) = nodes → 0 ≤ p → p + 2 * m ≤ 900000 →
    ∃ net' p', net'.length ≤ 6 ∧ p ≤ p' ∧ p' ≤ p + 2 * m + 2 ∧ Ev (fun k => spec_l20Net.l0 k n nodes net (m : Int) b p) (net', p') := by
  intro m
  induction m with
  | zero =>
    intro net p hl hp0 hp
    obtain ⟨c, p1, a1, a2, a3⟩ := odd_ev hb hp0 (p := p) (n := n) (by omega) (by omega)
    obtain ⟨v, v0, v1, v2⟩ := pick_ev hb (p := p1) (n := 3) (by omega) (by omega) (by omega) (by omega)
    have hnz : 0 < (net.length : Int) := by omega
    have start : ∀ q, Ev (fun k => if c = true then (spec_l20Rd_pick.f k b p1 3).bind fun bt => (if bt.1 = 0 then some ((([] : List Int)), bt.2) else (if bt.1 = 1 then (if 0 < (net.length : Int) then some ((net.set (0 : Int).toNat (Go.bits .or .i64 (rd net 0) 1)), bt.2) else none) else (if 0 < (net.length : Int) then (if 0 ≤ (wrap64 (nodes - 1)) then ((some (net.set (0 : Int).toNat (Go.bits .xor .i64 (rd net 0) (shl .i64 1 (wrap64 (nodes - 1)))) : List Int)).bind fun y => (if nodes = 1 then some ((y.set (0 : Int).toNat (-1)), bt.2) else some (y, bt.2))) else none) else none))) else some (net, p1)) q → Ev (fun k => spec_l20Net.l0 k n nodes net ((0 : Nat) : Int) b p) q := fun q h =>
      Ev.step (fun k => by rw [spec_l20Net.l0]) (Ev.neg (by omega) (Ev.bnd a3 h))
    by_cases hc : c = true
    · by_cases e0 : v = 0
      · exact ⟨[], p1 + 1, by simp, by omega, by omega, start _ (Ev.pos hc (Ev.bnd v2 (Ev.pos e0 (Ev.now _))))⟩
      · by_cases e1 : v = 1
        · exact ⟨net.set (0 : Int).toNat (Go.bits .or .i64 (rd net 0) 1), p1 + 1, by simp; omega, by omega, by omega, start _ (Ev.pos hc (Ev.bnd v2 (Ev.neg e0 (Ev.pos e1 (Ev.pos hnz (Ev.now _))))))⟩
        · by_cases e2 : nodes = 1
          · refine ⟨(net.set (0 : Int).toNat (Go.bits .xor .i64 (rd net 0) (shl .i64 1 (wrap64 (nodes - 1))))).set (0 : Int).toNat (-1), p1 + 1, by simp; omega, by omega, by omega, start _ (Ev.pos hc (Ev.bnd v2 (Ev.neg e0 (Ev.neg e1 (Ev.pos hnz (Ev.pos (by rw [w64 (by omega) (by omega)]; omega) ?_))))))⟩
            refine Ev.bnd0 rfl ?_
            exact Ev.pos e2 (Ev.now _)
          · refine ⟨net.set (0 : Int).toNat (Go.bits .xor .i64 (rd net 0) (shl .i64 1 (wrap64 (nodes - 1)))), p1 + 1, by simp; omega, by omega, by omega, start _ (Ev.pos hc (Ev.bnd v2 (Ev.neg e0 (Ev.neg e1 (Ev.pos hnz (Ev.pos (by rw [w64 (by omega) (by omega)]; omega) ?_))))))⟩
            refine Ev.bnd0 rfl ?_
            exact Ev.neg e2 (Ev.now _)
    · exact ⟨net, p1, by omega, by omega, by omega, start _ (Ev.neg hc (Ev.now _))⟩
  | succ m ih =>
    intro net p hl hp0 hp
    obtain ⟨u, u0, u1, u2⟩ := pick_ev hb (p := p) (n := nodes) (by omega) (by omega) (by omega) (by omega)
    obtain ⟨v, v0, v1, v2⟩ := pick_ev hb (p := p + 1) (n := nodes) (by omega) (by omega) (by omega) (by omega)
    have em : wrap64 (((m + 1 : Nat) : Int) - 1) = (m : Int) := by rw [w64 (by omega) (by omega)]; omega
    have ep : p + 1 + 1 = p + 2 := by omega
    by_cases e : u = v
    · obtain ⟨net', p', b1, b2, b3, b4⟩ := ih net (p + 2) hl (by omega) (by omega)
      refine ⟨net', p', b1, by omega, by omega, Ev.step (fun k => by rw [spec_l20Net.l0]) (Ev.pos (by omega) (Ev.bnd u2 (Ev.bnd v2 (Ev.pos e ?_))))⟩
      rw [em, ep]; exact b4
    · obtain ⟨net', p', b1, b2, b3, b4⟩ := ih ((net.set (u : Int).toNat (Go.bits .or .i64 (rd net u) (shl .i64 1 v))).set (v : Int).toNat (Go.bits .or .i64 (rd (net.set (u : Int).toNat (Go.bits .or .i64 (rd net u) (shl .i64 1 v))) v) (shl .i64 1 u))) (p + 2) (by simp; exact hl) (by omega) (by omega)
      refine ⟨net', p', b1, by omega, by omega, Ev.step (fun k => by rw [spec_l20Net.l0]) (Ev.pos (by omega) (Ev.bnd u2 (Ev.bnd v2 (Ev.neg e (Ev.pos u0 (Ev.pos (show u < (net.length : Int) by omega) (Ev.pos v0 ?_)))))))⟩
      refine Ev.bnd0 rfl ?_
      refine Ev.pos (show v < (net.length : Int) by omega) ?_
      rw [em, ep]; exact b4
theorem net_ev {b : List Int} (hb : BytesP b) {p n : Int} (hp0 : 0 ≤ p) (hp : p ≤ 800000) (hn : n ≤ 1000) : ∃ net p', net.length ≤ 6 ∧ p ≤ p' ∧ p' ≤ p + 20 ∧ Ev (fun k => spec_l20Net.f k b p n) (net, p') := by
  unfold spec_l20Net.f
  obtain ⟨u, u0, u1, u2⟩ := pick_ev hb (p := p) (n := 6) (by omega) (by omega) (by omega) (by omega)
  obtain ⟨v, v0, v1, v2⟩ := pick_ev hb (p := p + 1) (n := 4) (by omega) (by omega) (by omega) (by omega)
  obtain ⟨w, x0, x1, x2⟩ := pick_ev hb (p := p + 1 + 1) (n := 6) (by omega) (by omega) (by omega) (by omega)
  obtain ⟨m, rfl⟩ := Int.eq_ofNat_of_zero_le x0
  have en : wrap64 (1 + u) = 1 + u := w64 (by omega) (by omega)
  obtain ⟨l, hl, hl2⟩ := pathNet_ev (n := 1 + u) (by omega) (by omega)
  have go : ∀ net : List Int, (net.length : Int) = 1 + u → ∃ net' p', net'.length ≤ 6 ∧ p ≤ p' ∧ p' ≤ p + 20 ∧ Ev (fun k => spec_l20Net.j0 k n (1 + u) net b (p + 1 + 1)) (net', p') := by
    intro net hnet
    obtain ⟨net', p', b1, b2, b3, b4⟩ := net_l0 hb hn (by omega) (by omega) m net (p + 1 + 1 + 1) hnet (by omega) (by omega)
    exact ⟨net', p', b1, by omega, by omega, Ev.step (fun k => by rw [spec_l20Net.j0]) (Ev.bnd x2 b4)⟩
  by_cases e0 : v = 0
  · by_cases e3 : 1 + u ≥ 3
    · obtain ⟨l3, hl3, hl4⟩ := ringNet_ev (n := 1 + u) e3 (by omega)
      obtain ⟨net', p', b1, b2, b3, b4⟩ := go l3 hl3
      exact ⟨net', p', b1, b2, b3, by refine Ev.bnd u2 ?_; dsimp only; rw [en]; refine Ev.bnd hl2 (Ev.bnd v2 ?_); dsimp only; exact (Ev.pos e0 (Ev.pos e3 (Ev.bnd hl4 b4)))⟩
    · obtain ⟨net', p', b1, b2, b3, b4⟩ := go l hl
      exact ⟨net', p', b1, b2, b3, by refine Ev.bnd u2 ?_; dsimp only; rw [en]; refine Ev.bnd hl2 (Ev.bnd v2 ?_); dsimp only; exact (Ev.pos e0 (Ev.neg e3 b4))⟩
  · by_cases e1 : v = 1
    · obtain ⟨net', p', b1, b2, b3, b4⟩ := go (List.replicate (1 + u).toNat 0) (by simp; omega)
      exact ⟨net', p', b1, b2, b3, by refine Ev.bnd u2 ?_; dsimp only; rw [en]; refine Ev.bnd hl2 (Ev.bnd v2 ?_); dsimp only; exact (Ev.neg e0 (Ev.pos e1 (Ev.pos (by omega) (Ev.pos (by omega) b4))))⟩
    · obtain ⟨net', p', b1, b2, b3, b4⟩ := go l hl
      exact ⟨net', p', b1, b2, b3, by refine Ev.bnd u2 ?_; dsimp only; rw [en]; refine Ev.bnd hl2 (Ev.bnd v2 ?_); dsimp only; exact (Ev.neg e0 (Ev.neg e1 b4))⟩

theorem needs_ev {b : List Int} (hb : BytesP b) {p n : Int} (m : Nat) (hm : m ≤ 6) (hp0 : 0 ≤ p) (hp : p ≤ 800000) (hn : n ≤ 1000) : ∃ needs p', needs.length ≤ 7 ∧ p ≤ p' ∧ p' ≤ p + 20 ∧ Ev (fun k => spec_l20Needs.f k b p (m : Int) n) (needs, p') := by
  unfold spec_l20Needs.f
  have H : ∀ d i : Nat, i + d = m → ∀ (s : List Int) (q : Int), s.length = i → 0 ≤ q → q + 2 * d ≤ 800100 → ∃ needs p', needs.length ≤ 7 ∧ q ≤ p' ∧ p' ≤ q + 2 * d + 4 ∧ Ev (fun k => spec_l20Needs.l0 k (m : Int) n s (i : Int) b q) (needs, p') := by
    intro d
    induction d with
    | zero =>
      intro i hi s q hs q0 q1
      obtain ⟨c, p1, a1, a2, a3⟩ := odd_ev hb (p := q) (n := n) (by omega) (by omega) (by omega)
      obtain ⟨v, v0, v1, v2⟩ := pick_ev hb (p := p1) (n := 2) (by omega) (by omega) (by omega) (by omega)
      obtain ⟨w, w0, w1, w2⟩ := pick_ev hb (p := p1 + 1) (n := 2) (by omega) (by omega) (by omega) (by omega)
      by_cases hc : c = true
      · by_cases e0 : v = 0
        · refine ⟨s ++ [1], p1 + 1, by simp; omega, by omega, by omega, Ev.step (fun k => by rw [spec_l20Needs.l0]) (Ev.neg (by omega) (Ev.bnd a3 (Ev.pos hc (Ev.bnd v2 (Ev.pos e0 (Ev.pos (show s.length < 17592186044416 by omega) (Ev.now _)))))))⟩
        · by_cases e1 : 0 < s.length
          · refine ⟨s.set (0 : Int).toNat (rd [0, 7] w), p1 + 1 + 1, by simp; omega, by omega, by omega, Ev.step (fun k => by rw [spec_l20Needs.l0]) (Ev.neg (by omega) (Ev.bnd a3 (Ev.pos hc (Ev.bnd v2 (Ev.neg e0 (Ev.pos (show (s.length : Int) > 0 by omega) ?_))))))⟩
            refine Ev.bnd0 rfl ?_
            refine Ev.bnd w2 (Ev.pos w0 (Ev.pos (show w < (([0, 7] : List Int).length : Int) by simp; omega) (Ev.pos (show 0 < (s.length : Int) by omega) (Ev.now _))))
          · exact ⟨s, p1 + 1, by omega, by omega, by omega, Ev.step (fun k => by rw [spec_l20Needs.l0]) (Ev.neg (by omega) (Ev.bnd a3 (Ev.pos hc (Ev.bnd v2 (Ev.neg e0 (Ev.neg (show ¬ (s.length : Int) > 0 by omega) (Ev.now _)))))))⟩
      · exact ⟨s, p1, by omega, by omega, by omega, Ev.step (fun k => by rw [spec_l20Needs.l0]) (Ev.neg (by omega) (Ev.bnd a3 (Ev.neg hc (Ev.now _))))⟩
    | succ d ih =>
      intro i hi s q hs q0 q1
      obtain ⟨v, v0, v1, v2⟩ := pick_ev hb (p := q) (n := 2) (by omega) (by omega) (by omega) (by omega)
      obtain ⟨w, w0, w1, w2⟩ := pick_ev hb (p := q + 1) (n := 6) (by omega) (by omega) (by omega) (by omega)
      obtain ⟨needs, p', b1, b2, b3, b4⟩ := ih (i + 1) (by omega) (s ++ [wrap64 (wrap64 (1 + v) + wrap64 (Int.tdiv w 5))]) (q + 1 + 1) (by simp; omega) (by omega) (by omega)
      refine ⟨needs, p', b1, by omega, by omega, Ev.step (fun k => by rw [spec_l20Needs.l0]) (Ev.pos (by omega) (Ev.bnd v2 (Ev.bnd w2 (Ev.pos (show s.length < 17592186044416 by omega) ?_))))⟩
      rw [w64s i (by omega)]; exact b4
  obtain ⟨needs, p', b1, b2, b3, b4⟩ := H m 0 (by omega) [] p rfl hp0 (by omega)
  exact ⟨needs, p', b1, b2, by omega, b4⟩

theorem alive_ev : Ev (fun k => laws_alive.f k) true := by
  unfold laws_alive.f
  have h1 : decide (NetP [2, 1]) = true := by decide +kernel
  have h2 : decide (NetP [1]) = false := by decide +kernel
  refine Ev.bnd (iNetOk [2, 1]) (Ev.pos h1 (Ev.bnd (iNetOk [1]) (Ev.val ?_)))
  rw [h2]; rfl

/-! ### DistancesFrom of the program -/
theorem dist_l2 {net : List Int} (hn : NetP net) {s t : Nat} (hs : s < 2 ^ net.length) {set : Nat} (hset : set < 64) (hw : ∀ i, (distTo net s t i < 0 ∧ set.testBit i = true) ↔ (distTo net s t i < 0 ∧ (ball net s t).testBit i = true)) (ht : t ≤ 20) (out : List Int) (hl : out.length = net.length) (ho : ∀ i, i < net.length → out.getD i 0 = distTo net s t i) (r : List Int)
    (hend : ∀ (out' : List Int) (next : Nat), next < 2 ^ net.length → out'.length = net.length → (∀ i, i < net.length → out'.getD i 0 = distTo net s (t + 1) i) → (∀ i, next.testBit i = true ↔ ∃ j, (nb net j).testBit i = true ∧ distTo net s t j < 0 ∧ (ball net s t).testBit j = true) → Ev (fun k => impl_DistancesFrom.l1 k net (next : Int) out' ((t + 1 : Nat) : Int)) r) :
    Ev (fun k => impl_DistancesFrom.l2 k net (set : Int) out (t : Int) 0 (out.length : Int) 0) r := by
  have hh := hn.hi
  rw [hl]
  refine ev_for (F := fun k x (a : List Int × Int) => impl_DistancesFrom.l2 k net (set : Int) a.1 (t : Int) a.2 (net.length : Int) x) (n := net.length) (out := fun _ _ => r)
    (I := fun m a => a.1.length = net.length ∧ (∀ i, i < m → a.1.getD i 0 = distTo net s (t + 1) i) ∧ (∀ i, m ≤ i → i < net.length → a.1.getD i 0 = distTo net s t i) ∧ ∃ next : Nat, a.2 = (next : Int) ∧ next < 2 ^ net.length ∧ ∀ i, next.testBit i = true ↔ ∃ j, j < m ∧ (nb net j).testBit i = true ∧ distTo net s t j < 0 ∧ (ball net s t).testBit j = true) ?_ ?_ net.length 0 (by omega) (out, 0) ⟨hl, fun i hi => by omega, fun i _ hi => ho i hi, 0, rfl, Nat.two_pow_pos _, fun i => by simp⟩
  · rintro ⟨o, nx⟩ ⟨h1, h2, _, next, h3, h4, h5⟩
    simp only at h1 h2 h3
    subst h3
    refine Ev.step (fun k => by rw [impl_DistancesFrom.l2]) (Ev.neg (by omega) ?_)
    rw [w64s t (by omega)]
    refine hend o next h4 h1 (fun i hi => h2 i (by omega)) (fun i => (h5 i).trans ⟨fun ⟨j, _, h⟩ => ⟨j, h⟩, fun ⟨j, h⟩ => ⟨j, (hn.in_ h.1).1, h⟩⟩)
  · rintro m ⟨o, nx⟩ hm ⟨h1, h2, h2', next, h3, h4, h5⟩ ih
    simp only at h1 h2 h2' h3
    subst h3
    have h64 := pow_le64 hh
    have hnb := nb_lt (hn.row m hm)
    show Ev (fun k => impl_DistancesFrom.l2 k net (set : Int) o (t : Int) (next : Int) (net.length : Int) (m : Int)) r
    have go : ∀ (o' : List Int) (next' : Nat), o'.length = net.length → o'.getD m 0 = distTo net s (t + 1) m → (∀ i, i ≠ m → o'.getD i 0 = o.getD i 0) → next' < 2 ^ net.length → (∀ i, next'.testBit i = true ↔ next.testBit i = true ∨ ((nb net m).testBit i = true ∧ distTo net s t m < 0 ∧ (ball net s t).testBit m = true)) → Ev (fun k => impl_DistancesFrom.l2 k net (set : Int) o' (t : Int) (next' : Int) (net.length : Int) ((m + 1 : Nat) : Int)) r := by
      intro o' next' e1 e2 e3 e4 e5
      refine ih (o', (next' : Int)) ⟨e1, fun i hi => ?_, fun i hi hi' => ?_, next', rfl, e4, fun i => ?_⟩
      · simp only
        by_cases e : i = m
        · subst e; exact e2
        · rw [e3 i e]; exact h2 i (by omega)
      · simp only; rw [e3 i (by omega)]; exact h2' i (by omega) hi'
      · rw [e5, h5]
        constructor
        · rintro (⟨j, hj, h⟩ | h)
          · exact ⟨j, by omega, h⟩
          · exact ⟨m, by omega, h⟩
        · rintro ⟨j, hj, h⟩
          by_cases e : j = m
          · subst e; exact .inr h
          · exact .inl ⟨j, by omega, h⟩
    have same : ¬ (distTo net s t m < 0 ∧ (ball net s t).testBit m = true) → Ev (fun k => impl_DistancesFrom.l2 k net (set : Int) o (t : Int) (next : Int) (net.length : Int) ((m + 1 : Nat) : Int)) r := fun hc =>
      go o next h1 (by rw [h2' m (Nat.le_refl _) hm, distTo, if_neg hc]) (fun i _ => rfl) h4 (fun i => ⟨.inl, fun h => h.elim id (fun h => absurd h.2 hc)⟩)
    refine Ev.step (fun k => by rw [impl_DistancesFrom.l2]) (Ev.pos (by omega) (Ev.pos (by omega) ?_))
    rw [shr_and (by omega) (by omega) m (by omega), rd_nat o, rd_nat net, w64s m (by omega), h2' m (Nat.le_refl _) hm]
    refine Ev.iteS (fun c1 => Ev.pos (by omega) (Ev.iteS (fun c2 => Ev.pos (by omega) ?_) (fun c2 => ?_))) (fun c1 => ?_)
    · have hc := (hw m).1 ⟨c2, by have := b01_one.1 c1; unfold tb at this; rwa [Int.toNat_natCast] at this⟩
      rw [Int.toNat_natCast, nb_cast (hn.row m hm), or_nat _ _ (by omega) (by omega)]
      refine go _ (next ||| nb net m) (by simp [h1]) (by rw [set_getD _ _ _ _ (by omega), if_pos rfl, distTo, if_pos hc]) (fun i hi => by rw [set_getD _ _ _ _ (by omega), if_neg (by omega)]) (Nat.or_lt_two_pow h4 hnb) (fun i => ?_)
      rw [Nat.testBit_or, Bool.or_eq_true]
      exact ⟨fun h => h.imp id (fun h => ⟨h, hc⟩), fun h => h.imp id (fun h => h.1)⟩
    · exact same (fun h => c2 h.1)
    · refine same (fun h => c1 ?_)
      have := (hw m).2 h
      rw [b01_one]; unfold tb; rw [Int.toNat_natCast]; exact this.2
/-- Where nothing new is come to, all is told. -/
theorem told_stay {net : List Int} (hn : NetP net) {s t : Nat} (h : ∀ i, (ball net s t).testBit i = true → 0 ≤ distTo net s t i) : ∀ d, (∀ i, (ball net s (t + d)).testBit i = true → 0 ≤ distTo net s t i) ∧ ∀ i, distTo net s (t + d) i = distTo net s t i := by
  intro d
  induction d with
  | zero => exact ⟨h, fun i => rfl⟩
  | succ d ih =>
    refine ⟨fun i hi => ?_, fun i => ?_⟩
    · rcases (ball_succ hn s (t + d) i).1 hi with h1 | ⟨j, h1, h2⟩
      · exact ih.1 i h1
      · obtain ⟨e, _, e2, e3, _⟩ := distTo_val (ih.1 j h2)
        exact h i (ball_mono s (t := e + 1) (by omega) i ((ball_succ hn s e i).2 (.inr ⟨j, h1, e3⟩)))
    · show distTo net s ((t + d) + 1) i = _
      rw [distTo, ih.2 i, if_neg]
      rintro ⟨h1, h2⟩
      have := ih.1 i h2
      omega
theorem dist_l1 {net : List Int} (hn : NetP net) {s : Nat} (hs : s < 2 ^ net.length) : ∀ (f t set : Nat), t + f = 8 → set < 2 ^ net.length → (∀ i, (distTo net s t i < 0 ∧ set.testBit i = true) ↔ (distTo net s t i < 0 ∧ (ball net s t).testBit i = true)) → (t = 8 → set = 0) →
    ∀ out : List Int, out.length = net.length → (∀ i, i < net.length → out.getD i 0 = distTo net s t i) → Ev (fun k => impl_DistancesFrom.l1 k net (set : Int) out (t : Int)) (distRow net s) := by
  have h64 := pow_le64 hn.hi
  have fin : ∀ (t set : Nat), t ≤ 8 → set = 0 → (∀ i, (distTo net s t i < 0 ∧ set.testBit i = true) ↔ (distTo net s t i < 0 ∧ (ball net s t).testBit i = true)) → ∀ out : List Int, out.length = net.length → (∀ i, i < net.length → out.getD i 0 = distTo net s t i) → Ev (fun k => impl_DistancesFrom.l1 k net (set : Int) out (t : Int)) (distRow net s) := by
    intro t set ht e hw out hl ho
    subst e
    refine Ev.step (fun k => by rw [impl_DistancesFrom.l1]) (Ev.pos (by omega) (Ev.val (ext_getD (by rw [distRow_len]; exact hl) (fun i hi => ?_))))
    rw [ho i (by omega), distRow_at (by omega)]
    have := (told_stay hn (s := s) (t := t) (fun i hi => ?_) (8 - t)).2 i
    · rw [show t + (8 - t) = 8 by omega] at this; exact this.symm
    · refine Classical.byContradiction (fun hx => ?_)
      have := ((hw i).2 ⟨by omega, hi⟩).2
      simp at this
  intro f
  induction f with
  | zero =>
    intro t set ht hset hw h8 out hl ho
    exact fin t set (by omega) (h8 (by omega)) hw out hl ho
  | succ f ih =>
    intro t set ht hset hw h8 out hl ho
    by_cases e : set = 0
    · exact fin t set (by omega) e hw out hl ho
    · refine Ev.step (fun k => by rw [impl_DistancesFrom.l1]) (Ev.neg (by omega) ?_)
      refine dist_l2 hn hs (by omega) hw (by omega) out hl ho _ (fun out' next n1 n2 n3 n4 => ?_)
      refine ih (t + 1) next (by omega) n1 (fun i => ?_) (fun h => ?_) out' n2 n3
      · constructor
        · rintro ⟨h1, h2⟩
          obtain ⟨j, h3, _, h5⟩ := (n4 i).1 h2
          exact ⟨h1, (ball_succ hn s t i).2 (.inr ⟨j, hn.symm h3, h5⟩)⟩
        · rintro ⟨h1, h2⟩
          refine ⟨h1, (n4 i).2 ?_⟩
          have all := distTo_neg.1 h1
          rcases (ball_succ hn s t i).1 h2 with h3 | ⟨j, h3, h4⟩
          · rw [all t (by omega)] at h3; cases h3
          · refine ⟨j, hn.symm h3, ?_, h4⟩
            refine Classical.byContradiction (fun hx => ?_)
            obtain ⟨e, _, e2, e3, _⟩ := distTo_val (show 0 ≤ distTo net s t j by omega)
            have := all (e + 1) (by omega)
            rw [(ball_succ hn s e i).2 (.inr ⟨j, h3, e3⟩)] at this
            cases this
      · refine Nat.eq_of_testBit_eq (fun i => ?_)
        rw [Nat.zero_testBit]
        cases hb : next.testBit i with
        | false => rfl
        | true =>
          obtain ⟨j, _, h4, h5⟩ := (n4 i).1 hb
          have h6 := (last_is hn hs).2.1
          have h7 := hn.hi
          have h8 := distTo_neg.1 h4 (lastAt net s) (by omega)
          rw [ball_late hn hs (by omega)] at h5
          rw [ball_late hn hs (Nat.le_refl _), h5] at h8
          cases h8
/-- What DistancesFrom returns. -/
def distR (net : List Int) (set : Int) : List Int := if NetP net ∧ SetP net set then distRow net set.toNat else []
theorem iDistances (net : List Int) (set : Int) : Ev (fun k => impl_DistancesFrom.f k net set) (distR net set) := by
  unfold impl_DistancesFrom.f
  refine Ev.bnd (iSetOk net set) (Ev.iteS (fun h => ?_) (fun h => ?_))
  all_goals simp only [decide_eq_true_eq] at h
  · have hh := h.1.hi
    obtain ⟨s, rfl, hs⟩ := h.2.nat
    refine Ev.pos (by omega) (Ev.pos (by omega) ?_)
    refine Ev.bnd0 rfl ?_
    unfold distR; rw [if_pos h, Int.toNat_natCast, Int.toNat_natCast]
    refine ev_for (F := fun k x a => impl_DistancesFrom.l0 k net (s : Int) a ((List.replicate net.length (0 : Int)).length : Int) x) (n := net.length) (out := fun _ _ => distRow net s) (I := fun m a => a.length = net.length ∧ ∀ i, i < m → a.getD i 0 = -1) ?_ ?_ net.length 0 (by omega) _ ⟨by simp, fun i hi => by omega⟩
    · rintro out ⟨h1, h2⟩
      refine Ev.step (fun k => by rw [impl_DistancesFrom.l0]) (Ev.neg (by simp) ?_)
      exact dist_l1 h.1 hs 8 0 s (by omega) hs (fun i => Iff.rfl) (fun h => by omega) out h1 (fun i hi => h2 i hi)
    · rintro m out hm ⟨h1, h2⟩ ih
      refine Ev.step (fun k => by rw [impl_DistancesFrom.l0]) (Ev.pos (by simp; omega) (Ev.pos (by omega) (Ev.pos (by omega) ?_)))
      rw [w64s m (by omega), Int.toNat_natCast]
      refine ih _ ⟨by simp [h1], fun i hi => ?_⟩
      rw [set_getD _ _ _ _ (by omega)]
      by_cases e : m = i
      · rw [if_pos e]
      · rw [if_neg e]; exact h2 i (by omega)
  · unfold distR; rw [if_neg h]; exact Ev.now _

/-! ### PartsOf of the program -/
def partsRow (net : List Int) : List Int := (List.range net.length).map (fun i => ((partOf net i : Nat) : Int))
theorem partsRow_len (net : List Int) : (partsRow net).length = net.length := by simp [partsRow]
theorem partsRow_at {net : List Int} {i : Nat} (h : i < net.length) : (partsRow net).getD i 0 = ((partOf net i : Nat) : Int) := map_getD _ _ _ h
theorem reach_dist {net : List Int} (hn : NetP net) {i : Nat} (hi : i < net.length) (k : Nat) : Come net i k ↔ 0 ≤ dist net (2 ^ i) k := (dist_iff hn (pow_lt_len hi) k).symm
theorem iParts {net : List Int} (hn : NetP net) : Ev (fun k => impl_PartsOf.f k net) (partsRow net) := by
  have hh := hn.hi
  unfold impl_PartsOf.f
  refine Ev.bnd (iNetOk net) (Ev.pos (decide_eq_true hn) ?_)
  refine ev_for (F := fun k x a => impl_PartsOf.l0 k net a (net.length : Int) x) (n := net.length) (out := fun _ _ => partsRow net) (I := fun i a => a = (List.range i).map (fun i => ((partOf net i : Nat) : Int))) ?_ ?_ net.length 0 (by omega) _ rfl
  · rintro a rfl
    refine Ev.step (fun k => by rw [impl_PartsOf.l0]) (Ev.neg (by omega) ?_)
    exact Ev.now (partsRow net)
  · rintro i a hi rfl ih
    have hp : (2 : Nat) ^ i ≤ 2 ^ 6 := Nat.pow_le_pow_right (by decide) (by omega)
    have d0 := iDistances net ((2 ^ i : Nat) : Int)
    unfold distR at d0
    have hset : SetP net ((2 ^ i : Nat) : Int) := ⟨Int.natCast_nonneg _, by have := pow_lt_len hi; exact_mod_cast this⟩
    rw [if_pos ⟨hn, hset⟩, Int.toNat_natCast] at d0
    obtain ⟨q1, q2, q3⟩ := partOf_is hn hi
    have hdl := distRow_len net (2 ^ i)
    refine Ev.step (fun k => by rw [impl_PartsOf.l0]) (Ev.pos (by omega) (Ev.pos (by omega) ?_))
    rw [shl_one i (by omega)]
    refine Ev.bnd d0 ?_
    rw [hdl]
    refine ev_back (F := fun k x => impl_PartsOf.l1 k net ((List.range i).map (fun i => ((partOf net i : Nat) : Int))) (net.length : Int) (i : Int) (distRow net (2 ^ i)) (net.length : Int) x) (partOf net i) ?_ (fun j hj e => ?_)
    · refine Ev.step (fun k => by rw [impl_PartsOf.l1]) (Ev.pos (by omega) (Ev.pos (by omega) (Ev.pos (by omega) ?_)))
      rw [rd_nat, distRow_at q1, w64s i (by omega)]
      refine Ev.pos ((reach_dist hn hi _).1 q2) (Ev.pos (by simp; omega) ?_)
      exact ih _ (by rw [map_succ])
    · refine Ev.step (fun k => by rw [impl_PartsOf.l1]) (Ev.pos (by omega) (Ev.pos (by omega) (Ev.pos (by omega) ?_)))
      rw [rd_nat, distRow_at (by omega), w64s j (by omega)]
      exact Ev.neg (fun h => q3 j hj ((reach_dist hn hi j).2 h)) e

/-! ### needs of one -/
theorem one1_len (n : Nat) : (one1 n).length = n := by simp [one1]
theorem one1_succ (n : Nat) : one1 n ++ [1] = one1 (n + 1) := by unfold one1; rw [List.replicate_succ']
theorem needs_one {net : List Int} (h : NetP net) : NeedsP net (one1 net.length) := ⟨h, one1_len _, fun i hi => by rw [one1_at (by rw [one1_len] at hi; exact hi)]; omega⟩

theorem spreadR_yes {net needs : List Int} (hw : NeedsP net needs) {s : Nat} (hs : s < 2 ^ net.length) : spreadR net needs (s : Int) = (((lit net needs s : Nat) : Int), ((litAt net needs s : Nat) : Int)) := by
  unfold spreadR; rw [if_pos ⟨hw, by omega, by exact_mod_cast hs⟩, Int.toNat_natCast]
theorem shr_nat_tmod (s i : Nat) (hi : i ≤ 64) : (shr .i64 (mx (s : Int) 0) (i : Int)) % 2 = b01 (s.testBit i) := by
  have : mx (s : Int) 0 = (s : Int) := by unfold mx; split <;> omega
  rw [this, shr_nat s i hi, Nat.testBit_eq_decide_div_mod_eq]
  unfold b01
  generalize s / 2 ^ i = q
  rcases Nat.mod_two_eq_zero_or_one q with h | h
  · rw [h]; simp; omega
  · rw [h]; simp; omega
/-- The set without a node of it. -/
theorem xor_bit : ∀ s, s < 64 → ∀ k, k < 6 → s.testBit k = true → s = (s ^^^ 2 ^ k) + 2 ^ k := by decide +kernel
theorem drop_bit {s k : Nat} (hs : s < 64) (h : s.testBit k = true) : ∃ s', s = s' + 2 ^ k ∧ s'.testBit k = false ∧ ∀ i, i ≠ k → s'.testBit i = s.testBit i := by
  refine ⟨s ^^^ 2 ^ k, xor_bit s hs k (bit_lt (n := 6) hs h) h, ?_, fun i hi => ?_⟩
  · rw [Nat.testBit_xor, Nat.testBit_two_pow, h]; simp
  · rw [Nat.testBit_xor, Nat.testBit_two_pow]
    have : decide (k = i) = false := by simpa using fun e => hi e.symm
    rw [this, Bool.xor_false]
theorem FnLeastSpark : laws_FnLeastSpark.Pure := by
  intro l _ _ hw
  refine Ev.rounds (g := fun k => laws_FnLeastSpark.f k l) ?_
  unfold laws_FnLeastSpark.f
  refine Ev.iteS (fun _ => Ev.now _) (fun _ => ?_)
  obtain ⟨b, hb, hB⟩ := open_ev l hw
  obtain ⟨net, p', a1, a2, a3, a4⟩ := net_ev hB (p := 0) (n := 14) (by omega) (by omega) (by omega)
  obtain ⟨needs, p2, b1, b2, b3, b4⟩ := needs_ev hB (p := p') (n := 12) net.length a1 (by omega) (by omega) (by omega)
  have hd : Ev (fun k => spec_DrawLeastSpark.f k l) (net, needs) := by
    unfold spec_DrawLeastSpark.f
    exact Ev.bnd0 hb (Ev.bnd a4 (Ev.bnd b4 (Ev.now _)))
  have i0 := iLeastSpark net needs (by omega)
  have s0 := sLeastSpark net needs (by omega)
  refine Ev.bnd hd (Ev.bnd i0 (Ev.bnd s0 (Ev.pos rfl ?_)))
  dsimp only
  by_cases hp : NeedsP net needs
  · have hn := hp.1
    have hh := hn.hi
    have h64 := pow_le64 hh
    have e : sparkR net needs = ((spark net needs : Nat) : Int) := by unfold sparkR; rw [if_pos hp]
    rw [e]
    have hsl := spark_lt net needs
    have hsf := spark_full hh needs
    have q0 := iSpreadSet net needs ((spark net needs : Nat) : Int) (by omega)
    rw [spreadR_yes hp hsl, hsf] at q0
    refine Ev.neg (by omega) (Ev.bnd q0 (Ev.bnd (iParts hn) ?_))
    dsimp only
    rw [top_nat hh]
    have hpl := partsRow_len net
    -- the sparks of needs of one
    have k2 := iLeastSpark net (one1 net.length) (by rw [one1_len]; omega)
    unfold sparkR at k2
    rw [if_pos (needs_one hn)] at k2
    have v1 := spark_lt net (one1 net.length)
    have v2 := spark_full hh (one1 net.length)
    have hmany : cnt net.length (spark net (one1 net.length)) = partsN net net.length := by
      rw [cnt_of_lt v1 hh]
      refine Nat.le_antisymm ?_ (full_parts hn v1 v2)
      have := spark_least (needs := one1 net.length) (lt_of_bits (fun i hi => ((reps_bit net net.length i).1 hi).1)) (reps_full hn)
      rw [cnt_reps hh] at this
      exact this
    have tail : Ev (fun k => (impl_LeastSpark.f k net (one1 net.length)).bind fun t593 => laws_FnLeastSpark.l1 k net ((2 ^ net.length - 1 : Nat) : Int) ((2 ^ net.length - 1 : Nat) : Int) ((partsN net net.length : Nat) : Int) t593 0 0) true := by
      refine Ev.bnd k2 ?_
      refine ev_for (F := fun k x a => laws_FnLeastSpark.l1 k net ((2 ^ net.length - 1 : Nat) : Int) ((2 ^ net.length - 1 : Nat) : Int) ((partsN net net.length : Nat) : Int) ((spark net (one1 net.length) : Nat) : Int) a x) (n := net.length) (out := fun _ _ => true) (I := fun i a => a = ((cnt i (spark net (one1 net.length)) : Nat) : Int)) ?_ ?_ net.length 0 (by omega) _ (by simp [cnt])
      · rintro a rfl
        refine Ev.step (fun k => by rw [laws_FnLeastSpark.l1]) (Ev.neg (by omega) (Ev.pos rfl (Ev.val ?_)))
        rw [beq_iff_eq, hmany]
      · rintro i a hi rfl ih
        have c1 := cnt_le i (spark net (one1 net.length))
        have bb : 0 ≤ b01 ((spark net (one1 net.length)).testBit i) ∧ b01 ((spark net (one1 net.length)).testBit i) ≤ 1 := by unfold b01; split <;> omega
        refine Ev.step (fun k => by rw [laws_FnLeastSpark.l1]) (Ev.pos (by omega) (Ev.pos (by omega) ?_))
        rw [shr_nat_tmod _ i (by omega), w64s i (by omega), w64 (by omega) (by omega)]
        refine ih _ ?_
        rw [cnt_succ]; unfold b01; split <;> omega
    refine ev_for (F := fun k x (a : List Int × Int) => laws_FnLeastSpark.l0 k net needs ((spark net needs : Nat) : Int) ((2 ^ net.length - 1 : Nat) : Int) ((2 ^ net.length - 1 : Nat) : Int) a.1 a.2 (partsRow net) x) (n := net.length) (out := fun _ _ => true) (I := fun i a => a.1 = one1 i ∧ a.2 = ((partsN net i : Nat) : Int)) ?_ ?_ net.length 0 (by omega) ([], 0) ⟨rfl, rfl⟩
    · rintro ⟨o, c⟩ ⟨h1, h2⟩
      simp only at h1 h2
      subst h1 h2
      refine Ev.step (fun k => by rw [laws_FnLeastSpark.l0]) (Ev.neg (by omega) ?_)
      exact tail
    · rintro i ⟨o, c⟩ hi ⟨h1, h2⟩ ih
      simp only at h1 h2
      subst h1 h2
      have hcp : partsN net i ≤ i := by unfold partsN cp; exact Nat.le_trans (List.length_filter_le _ _) (by simp)
      have after : Ev (fun k => laws_FnLeastSpark.j2 k net needs ((spark net needs : Nat) : Int) ((2 ^ net.length - 1 : Nat) : Int) ((2 ^ net.length - 1 : Nat) : Int) (one1 (i + 1)) ((partsN net (i + 1) : Nat) : Int) (partsRow net) (i : Int)) true := by
        refine Ev.step (fun k => by rw [laws_FnLeastSpark.j2]) (Ev.pos (by omega) ?_)
        rw [shr_tmod (by omega) i (by omega), w64s i (by omega), shl_one i (by omega)]
        have ht : tb ((spark net needs : Nat) : Int) i = (spark net needs).testBit i := by unfold tb; rw [Int.toNat_natCast]
        rw [ht]
        refine Ev.iteS (fun c1 => ?_) (fun c1 => ih (one1 (i + 1), _) ⟨rfl, rfl⟩)
        have hbit := b01_one.1 c1
        have v0 := spark_lt net needs
        have hpi := Nat.two_pow_pos i
        have h64 := pow_le64 hh
        obtain ⟨s', d1, d2, d3⟩ := drop_bit (by omega) hbit
        have hs' : s' < 2 ^ net.length := by omega
        have ew : wrap64 (((spark net needs : Nat) : Int) - ((2 ^ i : Nat) : Int)) = (s' : Int) := by rw [w64 (by omega) (by omega)]; omega
        rw [ew]
        have q1 := iSpreadSet net needs (s' : Int) (by omega)
        rw [spreadR_yes hp hs'] at q1
        refine Ev.bnd q1 (Ev.neg ?_ (ih (one1 (i + 1), _) ⟨rfl, rfl⟩))
        intro he
        have he' : lit net needs s' = 2 ^ net.length - 1 := by
          have : ((lit net needs s' : Nat) : Int) = ((2 ^ net.length - 1 : Nat) : Int) := he
          omega
        have h5 := spark_least hs' he'
        have h6 : cnt 6 s' < cnt 6 (spark net needs) := cnt_lt 6 (fun j _ hj => by
          by_cases ej : j = i
          · subst ej; exact hbit
          · rw [← d3 j ej]; exact hj) (by omega) d2 hbit
        rw [pcn_eq, pcn_eq] at h5
        omega
      have hsucc : partsN net (i + 1) = partsN net i + (if partOf net i = i then 1 else 0) := by unfold partsN; rw [cp_succ]; simp
      show Ev (fun k => laws_FnLeastSpark.l0 k net needs ((spark net needs : Nat) : Int) ((2 ^ net.length - 1 : Nat) : Int) ((2 ^ net.length - 1 : Nat) : Int) (one1 i) ((partsN net i : Nat) : Int) (partsRow net) (i : Int)) true
      refine Ev.step (fun k => by rw [laws_FnLeastSpark.l0]) (Ev.pos (by omega) (Ev.pos (by rw [one1_len]; omega) ?_))
      rw [one1_succ, rd_nat, partsRow_at hi]
      refine Ev.bnd0 rfl ?_
      refine Ev.pos (by omega) (Ev.pos (by omega) (Ev.pos (by omega) ?_))
      refine Ev.step (fun k => by rw [laws_FnLeastSpark.j1]) (Ev.iteS (fun c1 => ?_) (fun c1 => ?_))
      · rw [beq_iff_eq] at c1
        rw [w64 (by omega) (by omega)]
        have : (((partsN net i : Nat) : Int) + 1) = ((partsN net (i + 1) : Nat) : Int) := by rw [hsucc, if_pos (by omega)]; omega
        rw [this]; exact after
      · rw [beq_iff_eq] at c1
        have : ((partsN net i : Nat) : Int) = ((partsN net (i + 1) : Nat) : Int) := by rw [hsucc, if_neg (by omega)]; omega
        rw [this]; exact after
  · have e : sparkR net needs = -1 := by unfold sparkR; rw [if_neg hp]
    rw [e]
    refine Ev.pos (by decide) (Ev.pos rfl (Ev.bnd (iNeedsOk net needs (by omega)) (Ev.neg (by simpa using hp) (Ev.bnd alive_ev (Ev.now _)))))
end Go.Proofs.Ytfhkahlfpchhpaa.Pure
