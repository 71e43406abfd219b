/- What the law FnNeedsOk asks, proved over the functions: for every input that its guards let in, it answers true. -/
import Derived.Test.YthkngbdijoeolaaKit
import Derived.Test.YthkngbdijoeolaaF0
import Derived.Test.YthkngbdijoeolaaF13
import Derived.Test.YthkngbdijoeolaaF14
import Derived.Test.YthkngbdijoeolaaF15
import Derived.Test.YthkngbdijoeolaaF3
import Derived.Test.YthkngbdijoeolaaFFnNeedsOk
set_option linter.unusedVariables false
set_option linter.unusedSimpArgs false
namespace Go.Proofs.Ythkngbdijoeolaa.Pure
open Go Go.RowKit Go.Proofs.Ythkngbdijoeolaa.PAll Go.Proofs.YthkngbdijoeolaaW.PrintWords Go.Proofs.YthkngbdijoeolaaW.PrintLast Go.Proofs.YthkngbdijoeolaaW.PrintMore Go.Proofs.Ythkngbdijoeolaa.Kit
/-! ### NetOk, both -/
theorem l1In_eq (a b c : Int) : spec_l1In.f a b c = some (decide (b ≤ a ∧ a ≤ c)) := by
  unfold spec_l1In.f
  by_cases h : a ≥ b
  · rw [if_pos h]; simp [h]
  · rw [if_neg h]; simp; omega
def SymQ (net : List Int) (i j : Nat) : Prop := tb (net.getD i 0) j = tb (net.getD j 0) i ∧ (j = i → tb (net.getD i 0) i = false)
instance (net : List Int) (i j : Nat) : Decidable (SymQ net i j) := by unfold SymQ; infer_instance
theorem symQ {net : List Int} {i : Nat} (hi : i < net.length) : SymP net i ↔ ∀ j, j < net.length → SymQ net i j := by
  constructor
  · rintro ⟨h1, h2⟩ j hj
    exact ⟨h2 j hj, fun _ => h1⟩
  · intro h
    exact ⟨(h i hi).2 rfl, fun j hj => (h j hj).1⟩
theorem sNetOk_l2 (net : List Int) (hn : net.length ≤ 6) (hr : ∀ i, i < net.length → RowP net i) (i : Nat) (hi : i < net.length) (j : Nat) (hj : j < net.length) (c : Bool)
    (h : Ev (fun k => if b01 (tb (net.getD i 0) j) = b01 (tb (net.getD j 0) i) then (if (j : Int) = (i : Int) then (if b01 (tb (net.getD i 0) j) = 1 then some false else spec_NetOk.l2 k net (i : Int) ((j + 1 : Nat) : Int)) else spec_NetOk.l2 k net (i : Int) ((j + 1 : Nat) : Int)) else some false) c) : Ev (fun k => spec_NetOk.l2 k net (i : Int) (j : Int)) c := by
  have e1 : Int.tmod (shr .i64 (rd net (i : Int)) (j : Int)) 2 = b01 (tb (net.getD i 0) j) := by rw [rd_nat]; exact shr_tmod (hr i hi).1 j (by omega)
  have e2 : Int.tmod (shr .i64 (rd net (j : Int)) (i : Int)) 2 = b01 (tb (net.getD j 0) i) := by rw [rd_nat]; exact shr_tmod (hr j hj).1 i (by omega)
  refine Ev.step (fun k => by rw [spec_NetOk.l2]) ?_
  rw [e1, e2, w64s j (by omega)]
  exact Ev.pos (by omega) (Ev.pos (by omega) (Ev.pos (by omega) (Ev.pos (by omega) h)))
theorem sNetOk_l1 (net : List Int) (hn : net.length ≤ 6) (hr : ∀ i, i < net.length → RowP net i) :
    Ev (fun k => spec_NetOk.l1 k net 0) (if ∀ j, j < net.length → SymP net j then true else false) := by
  refine ev_scan (F := fun k x => spec_NetOk.l1 k net x) (fun _ => ?_) (fun i hi hp b hb => ?_) (fun i hi _ hp => ?_)
  · exact Ev.step (fun k => by rw [spec_NetOk.l1]) (Ev.neg (by omega) (Ev.now _))
  all_goals refine Ev.step (fun k => by rw [spec_NetOk.l1]) (Ev.pos (by omega) ?_)
  all_goals rw [symQ hi] at hp
  · have H := ev_scan (F := fun k x => spec_NetOk.l2 k net (i : Int) x) (n := net.length) (P := SymQ net i) (r := b) (r' := false) (fun _ => ?_) (fun j hj hq c hc => ?_) (fun j hj _ hq => absurd (hp j hj) hq)
    · rw [if_pos hp] at H; exact H
    · refine Ev.step (fun k => by rw [spec_NetOk.l2]) (Ev.neg (by omega) ?_)
      rw [w64s i (by omega)]; exact hb
    · refine sNetOk_l2 net hn hr i hi j hj c (Ev.pos (b01_eq.2 hq.1) (Ev.iteS (fun h => Ev.neg (fun h' => ?_) hc) (fun h => hc)))
      obtain rfl : j = i := by omega
      rw [hq.2 rfl] at h'; cases h'
  · have H := ev_scan (F := fun k x => spec_NetOk.l2 k net (i : Int) x) (n := net.length) (P := SymQ net i) (r := true) (r' := false) (fun h => absurd h hp) (fun j hj hq c hc => ?_) (fun j hj _ hq => ?_)
    · rw [if_neg hp] at H; exact H
    · refine sNetOk_l2 net hn hr i hi j hj c (Ev.pos (b01_eq.2 hq.1) (Ev.iteS (fun h => Ev.neg (fun h' => ?_) hc) (fun h => hc)))
      obtain rfl : j = i := by omega
      rw [hq.2 rfl] at h'; cases h'
    · refine sNetOk_l2 net hn hr i hi j hj false (Ev.iteS (fun h => ?_) (fun h => Ev.now _))
      have h1 := b01_eq.1 h
      by_cases h2 : j = i
      · subst h2
        refine Ev.pos rfl (Ev.pos ?_ (Ev.now _))
        rw [b01_one]
        by_cases h3 : tb (net.getD j 0) j = true
        · exact h3
        · exact absurd ⟨rfl, fun _ => by simpa using h3⟩ hq
      · exact absurd ⟨h1, fun h => absurd h h2⟩ hq
theorem sNetOk (net : List Int) : Ev (fun k => spec_NetOk.f k net) (decide (NetP net)) := by
  unfold spec_NetOk.f
  refine Ev.bnd0 (l1In_eq _ _ _) ?_
  by_cases hn : 1 ≤ net.length ∧ net.length ≤ 6
  · refine Ev.pos (by simp; omega) ?_
    have hs : wrap64 (shl .i64 1 (net.length : Int) - 1) = 2 ^ net.length - 1 := by
      have := pow6 hn.2
      have h2 : (0 : Int) < 2 ^ net.length := Int.pow_pos (by decide)
      rw [shl_one _ (by omega), w64 (by simp; omega) (by simp; omega)]
      simp
    have pre : ∀ (i : Nat), i < net.length → ∀ c, Ev (fun k => if (decide (0 ≤ net.getD i 0 ∧ net.getD i 0 ≤ 2 ^ net.length - 1)) = true then spec_NetOk.l0 k net ((i + 1 : Nat) : Int) else some false) c → Ev (fun k => spec_NetOk.l0 k net (i : Int)) c := by
      intro i hi c h
      refine Ev.step (fun k => by rw [spec_NetOk.l0]) (Ev.pos (by omega) (Ev.pos (by omega) (Ev.bnd0 (l1In_eq _ _ _) ?_)))
      rw [rd_nat, hs, w64s i (by omega)]
      exact h
    have H := ev_scan (F := fun k x => spec_NetOk.l0 k net x) (n := net.length) (P := RowP net) (r := decide (NetP net)) (r' := false) (fun hr => ?_) (fun i hi hp b hb => ?_) (fun i hi _ hp => ?_)
    · refine Ev.to H ?_
      by_cases hr : ∀ i, i < net.length → RowP net i
      · rw [if_pos hr]
      · rw [if_neg hr]; symm; simp only [decide_eq_false_iff_not]; exact fun h => hr h.row
    · refine Ev.step (fun k => by rw [spec_NetOk.l0]) (Ev.neg (by omega) (Ev.to (sNetOk_l1 net hn.2 hr) ?_))
      rw [Bool.eq_iff_iff]
      simp only [decide_eq_true_eq]
      by_cases h : ∀ j, j < net.length → SymP net j
      · rw [if_pos h]; exact ⟨fun _ => ⟨hn.1, hn.2, hr, h⟩, fun _ => rfl⟩
      · rw [if_neg h]; exact ⟨fun h => (by cases h), fun h' => absurd h'.sym h⟩
    · exact pre i hi b (Ev.pos (by unfold RowP at hp; simp only [decide_eq_true_eq]; omega) hb)
    · exact pre i hi false (Ev.neg (by unfold RowP at hp; simp only [decide_eq_true_eq]; omega) (Ev.now _))
  · refine Ev.neg (by simp; omega) (Ev.val ?_)
    symm
    simp only [decide_eq_false_iff_not]
    exact fun h => hn ⟨h.lo, h.hi⟩
theorem iNetOk_l1 (net : List Int) (hn : net.length ≤ 6) (i : Nat) (hi : i < net.length) (x14 : List Int) (x15 x16 : Int) (v : Int) (j : Nat) (hj : j < net.length) (c : Bool)
    (h : Ev (fun k => if Go.bits .and .i64 (shr .i64 v (j : Int)) 1 = Go.bits .and .i64 (shr .i64 (net.getD j 0) (i : Int)) 1 then impl_NetOk.l1 k net (i : Int) v x14 x15 x16 (net.length : Int) ((j + 1 : Nat) : Int) else some false) c) :
    Ev (fun k => impl_NetOk.l1 k net (i : Int) v x14 x15 x16 (net.length : Int) (j : Int)) c := by
  refine Ev.step (fun k => by rw [impl_NetOk.l1]) ?_
  rw [rd_nat, w64s j (by omega)]
  exact Ev.pos (by omega) (Ev.pos (by omega) (Ev.pos (by omega) (Ev.pos (by omega) h)))
/-- What impl.NetOk asks of a row, as it asks. -/
def AskP (net : List Int) (i : Nat) : Prop :=
  0 ≤ net.getD i 0 ∧ net.getD i 0 < 2 ^ net.length ∧ ¬ Go.bits .and .i64 (shr .i64 (net.getD i 0) (i : Int)) 1 = 1 ∧
    ∀ j, j < net.length → Go.bits .and .i64 (shr .i64 (net.getD i 0) (j : Int)) 1 = Go.bits .and .i64 (shr .i64 (net.getD j 0) (i : Int)) 1
theorem asks {net : List Int} (hn : net.length ≤ 6) : (∀ i, i < net.length → AskP net i) ↔ (∀ i, i < net.length → RowP net i) ∧ ∀ i, i < net.length → SymP net i := by
  constructor
  · intro h
    have hr : ∀ i, i < net.length → RowP net i := fun i hi => ⟨(h i hi).1, (h i hi).2.1⟩
    refine ⟨hr, fun i hi => ⟨?_, fun j hj => ?_⟩⟩
    · have h1 := (h i hi).2.2.1
      have h2 := (hr i hi).big hn
      rw [shr_and (hr i hi).1 (by omega) i (by omega), b01_one] at h1
      simpa using h1
    · have h1 := (h i hi).2.2.2 j hj
      have h2 := (hr i hi).big hn
      have h3 := (hr j hj).big hn
      rw [shr_and (hr i hi).1 (by omega) j (by omega), shr_and (hr j hj).1 (by omega) i (by omega), b01_eq] at h1
      exact h1
  · rintro ⟨hr, hs⟩ i hi
    have h2 := (hr i hi).big hn
    refine ⟨(hr i hi).1, (hr i hi).2, ?_, fun j hj => ?_⟩
    · rw [shr_and (hr i hi).1 (by omega) i (by omega), b01_one, (hs i hi).1]; simp
    · have h3 := (hr j hj).big hn
      rw [shr_and (hr i hi).1 (by omega) j (by omega), shr_and (hr j hj).1 (by omega) i (by omega), b01_eq]
      exact (hs i hi).2 j hj
theorem iNetOk (net : List Int) : Ev (fun k => impl_NetOk.f k net) (decide (NetP net)) := by
  unfold impl_NetOk.f
  have stop : ¬ (1 ≤ net.length ∧ net.length ≤ 6) → Ev (fun k => impl_NetOk.j0 k net true) (decide (NetP net)) := fun hn =>
    Ev.step (fun k => by rw [impl_NetOk.j0]) (Ev.pos rfl (Ev.val (by symm; simp only [decide_eq_false_iff_not]; exact fun h => hn ⟨h.lo, h.hi⟩)))
  refine Ev.iteS (fun h1 => stop (by omega)) (fun h1 => ?_)
  by_cases h2 : (net.length : Int) > 6
  · rw [decide_eq_true h2]; exact stop (by omega)
  rw [decide_eq_false h2]
  have hn : net.length ≤ 6 := by omega
  refine Ev.step (fun k => by rw [impl_NetOk.j0]) (Ev.neg (by decide) ?_)
  classical
  have H := ev_scan (F := fun k x => impl_NetOk.l0 k net net (net.length : Int) x) (n := net.length) (P := AskP net) (r := true) (r' := false) (fun _ => ?_) (fun i hi hp b hb => ?_) (fun i hi _ hp => ?_)
  · refine Ev.to H ?_
    by_cases hr : ∀ i, i < net.length → AskP net i
    · rw [if_pos hr]; symm; simp only [decide_eq_true_eq]; exact ⟨by omega, hn, ((asks hn).1 hr).1, ((asks hn).1 hr).2⟩
    · rw [if_neg hr]; symm; simp only [decide_eq_false_iff_not]; exact fun h => hr ((asks hn).2 ⟨h.row, h.sym⟩)
  · exact Ev.step (fun k => by rw [impl_NetOk.l0]) (Ev.neg (by omega) (Ev.now _))
  · obtain ⟨a1, a2, a3, a4⟩ := hp
    refine Ev.step (fun k => by rw [impl_NetOk.l0]) (Ev.pos (by omega) (Ev.pos (by omega) (Ev.pos (by omega) ?_)))
    rw [rd_nat, shl_one _ (by omega), beq_eq_false_iff_ne.2 a3]
    refine Ev.neg (by omega) (Ev.neg (by simp; exact_mod_cast a2) ?_)
    refine Ev.step (fun k => by rw [impl_NetOk.j2]) (Ev.neg (by decide) ?_)
    refine ev_back (F := fun k x => impl_NetOk.l1 k net (i : Int) (net.getD i 0) net (net.length : Int) (i : Int) (net.length : Int) x) net.length ?_ (fun j hj e => ?_)
    · refine Ev.step (fun k => by rw [impl_NetOk.l1]) (Ev.neg (by omega) ?_)
      rw [w64s i (by omega)]; exact hb
    · exact iNetOk_l1 net hn i hi _ _ _ _ j hj b (Ev.pos (a4 j hj) e)
  · refine Ev.step (fun k => by rw [impl_NetOk.l0]) (Ev.pos (by omega) (Ev.pos (by omega) (Ev.pos (by omega) ?_)))
    rw [rd_nat, shl_one _ (by omega)]
    have out : ∀ v, Ev (fun k => impl_NetOk.j2 k net (i : Int) v net (net.length : Int) (i : Int) true) false := fun v =>
      Ev.step (fun k => by rw [impl_NetOk.j2]) (Ev.pos rfl (Ev.now _))
    refine Ev.iteS (fun _ => out _) (fun b1 => Ev.iteS (fun _ => out _) (fun b2 => ?_))
    by_cases b3 : Go.bits .and .i64 (shr .i64 (net.getD i 0) (i : Int)) 1 = 1
    · rw [b3]; exact out _
    rw [beq_eq_false_iff_ne.2 b3]
    refine Ev.step (fun k => by rw [impl_NetOk.j2]) (Ev.neg (by decide) ?_)
    have hq : ¬ ∀ j, j < net.length → Go.bits .and .i64 (shr .i64 (net.getD i 0) (j : Int)) 1 = Go.bits .and .i64 (shr .i64 (net.getD j 0) (i : Int)) 1 := fun h => hp ⟨by omega, by simp at b2; exact_mod_cast b2, b3, h⟩
    rcases first_bad (n := net.length) (P := fun j => Go.bits .and .i64 (shr .i64 (net.getD i 0) (j : Int)) 1 = Go.bits .and .i64 (shr .i64 (net.getD j 0) (i : Int)) 1) with h | ⟨m, h4, h5, h6⟩
    · exact absurd h hq
    · refine ev_back (F := fun k x => impl_NetOk.l1 k net (i : Int) (net.getD i 0) net (net.length : Int) (i : Int) (net.length : Int) x) m ?_ (fun j hj e => ?_)
      · exact iNetOk_l1 net hn i hi _ _ _ _ m h4 false (Ev.neg h5 (Ev.now _))
      · exact iNetOk_l1 net hn i hi _ _ _ _ j (by omega) false (Ev.pos (h6 j hj) e)

/-! ### NeedsOk, both -/
def NeedsP (net needs : List Int) : Prop := NetP net ∧ needs.length = net.length ∧ ∀ i, i < needs.length → 1 ≤ needs.getD i 0 ∧ needs.getD i 0 ≤ 6
instance (net needs : List Int) : Decidable (NeedsP net needs) := by unfold NeedsP; infer_instance
theorem needs_val (net needs : List Int) (h : ∀ i, i < needs.length → 1 ≤ needs.getD i 0 ∧ needs.getD i 0 ≤ 6) :
    Ev (fun _ => if decide (NetP net) = true then some ((needs.length : Int) == (net.length : Int)) else some false) (decide (NeedsP net needs)) := by
  refine Ev.iteS (fun hp => Ev.val ?_) (fun hp => Ev.val ?_)
  · rw [Bool.eq_iff_iff]; simp only [decide_eq_true_eq, beq_iff_eq] at *
    exact ⟨fun e => ⟨hp, by omega, h⟩, fun e => by have := e.2.1; omega⟩
  · symm; simp only [decide_eq_true_eq] at hp; simp only [decide_eq_false_iff_not]; exact fun e => hp e.1
theorem sNeedsOk (net needs : List Int) (hn : needs.length ≤ 1048577) : Ev (fun k => spec_NeedsOk.f k net needs) (decide (NeedsP net needs)) := by
  unfold spec_NeedsOk.f
  have H := ev_scan (F := fun k x => spec_NeedsOk.l0 k net needs x) (n := needs.length) (P := fun i => 1 ≤ needs.getD i 0 ∧ needs.getD i 0 ≤ 6) (r := decide (NeedsP net needs)) (r' := false) (fun h => ?_) (fun i hi hp b hb => ?_) (fun i hi _ hp => ?_)
  · refine Ev.to H ?_
    by_cases h : ∀ i, i < needs.length → 1 ≤ needs.getD i 0 ∧ needs.getD i 0 ≤ 6
    · rw [if_pos h]
    · rw [if_neg h]; symm; simp only [decide_eq_false_iff_not]; exact fun e => h e.2.2
  · exact Ev.step (fun k => by rw [spec_NeedsOk.l0]) (Ev.neg (by omega) (Ev.bnd (sNetOk net) (needs_val net needs h)))
  · refine Ev.step (fun k => by rw [spec_NeedsOk.l0]) (Ev.pos (by omega) (Ev.pos (by omega) (Ev.bnd0 (l1In_eq _ _ _) ?_)))
    rw [rd_nat, w64s i (by omega)]
    exact Ev.pos (by simpa using hp) hb
  · refine Ev.step (fun k => by rw [spec_NeedsOk.l0]) (Ev.pos (by omega) (Ev.pos (by omega) (Ev.bnd0 (l1In_eq _ _ _) ?_)))
    rw [rd_nat]
    exact Ev.neg (by simpa using hp) (Ev.now _)
theorem iNeedsOk (net needs : List Int) (hn : needs.length ≤ 1048577) : Ev (fun k => impl_NeedsOk.f k net needs) (decide (NeedsP net needs)) := by
  unfold impl_NeedsOk.f
  have H := ev_scan (F := fun k x => impl_NeedsOk.l0 k net needs needs (needs.length : Int) x) (n := needs.length) (P := fun i => 1 ≤ needs.getD i 0 ∧ needs.getD i 0 ≤ 6) (r := decide (NeedsP net needs)) (r' := false) (fun h => ?_) (fun i hi hp b hb => ?_) (fun i hi _ hp => ?_)
  · refine Ev.to H ?_
    by_cases h : ∀ i, i < needs.length → 1 ≤ needs.getD i 0 ∧ needs.getD i 0 ≤ 6
    · rw [if_pos h]
    · rw [if_neg h]; symm; simp only [decide_eq_false_iff_not]; exact fun e => h e.2.2
  · exact Ev.step (fun k => by rw [impl_NeedsOk.l0]) (Ev.neg (by omega) (Ev.bnd (iNetOk net) (needs_val net needs h)))
  · refine Ev.step (fun k => by rw [impl_NeedsOk.l0]) (Ev.pos (by omega) (Ev.pos (by omega) (Ev.pos (by omega) ?_)))
    rw [rd_nat, w64s i (by omega)]
    exact Ev.neg (by omega) (Ev.neg (by omega) hb)
  · refine Ev.step (fun k => by rw [impl_NeedsOk.l0]) (Ev.pos (by omega) (Ev.pos (by omega) (Ev.pos (by omega) ?_)))
    rw [rd_nat]
    exact Ev.iteS (fun _ => Ev.now _) (fun h1 => Ev.pos (by omega) (Ev.now _))

/-! ### needs of one -/
theorem one1_len (n : Nat) : (one1 n).length = n := by simp [one1]
theorem one1_succ (n : Nat) : one1 n ++ [1] = one1 (n + 1) := by unfold one1; rw [List.replicate_succ']
theorem needs_one {net : List Int} (h : NetP net) : NeedsP net (one1 net.length) := ⟨h, one1_len _, fun i hi => by rw [one1_at (by rw [one1_len] at hi; exact hi)]; omega⟩

/-! ### drawing -/
def BytesP (b : List Int) : Prop := b.length ≤ 2000 ∧ ∀ i, 0 ≤ b.getD i 0 ∧ b.getD i 0 < 256
theorem rd_byte {b : List Int} (h : BytesP b) (i : Int) : 0 ≤ rd b i ∧ rd b i < 256 := h.2 i.toNat
theorem bytes_of {l : List Int} (h : ∀ x ∈ l, (Lit.int .u8 x).wf = true) (i : Nat) : 0 ≤ l.getD i 0 ∧ l.getD i 0 < 256 := by
  rw [List.getD_eq_getElem?_getD]
  by_cases hi : i < l.length
  · rw [List.getElem?_eq_getElem hi]
    have := h _ (List.getElem_mem hi)
    have h' : IntKind.u8.min ≤ l[i] ∧ l[i] ≤ IntKind.u8.max := by simpa [Lit.wf] using this
    have e : IntKind.u8.min = 0 := by decide
    have e' : IntKind.u8.max = 255 := by decide
    simp only [Option.getD_some]
    omega
  · rw [List.getElem?_eq_none (by omega)]; simp
theorem open_ev (l : List Int) (h : ∀ x ∈ l, (Lit.int .u8 x).wf = true) : ∃ b, spec_l20Open.f l = some (b, 0) ∧ BytesP b := by
  unfold spec_l20Open.f
  by_cases h1 : (l.length : Int) > 2000
  · refine ⟨l.take 2000, by rw [if_pos h1, if_pos (by omega)], by simp; omega, fun i => ?_⟩
    rw [List.getD_eq_getElem?_getD, List.getElem?_take]
    split
    · rw [← List.getD_eq_getElem?_getD]; exact bytes_of h i
    · simp
  · exact ⟨l, by rw [if_neg h1], by omega, bytes_of h⟩
theorem xor_nonneg {a b : Int} (ha : 0 ≤ a) (ha' : a < 2 ^ 62) (hb : 0 ≤ b) (hb' : b < 2 ^ 62) : 0 ≤ Go.bits .xor .i64 a b := by
  obtain ⟨x, rfl⟩ := Int.eq_ofNat_of_zero_le ha
  obtain ⟨y, rfl⟩ := Int.eq_ofNat_of_zero_le hb
  have hx : x < 2 ^ 62 := by exact_mod_cast ha'
  have hy : y < 2 ^ 62 := by exact_mod_cast hb'
  have e1 : x % 2 ^ IntKind.i64.bits = x := Nat.mod_eq_of_lt (Nat.lt_of_lt_of_le hx (by decide))
  have e2 : y % 2 ^ IntKind.i64.bits = y := Nat.mod_eq_of_lt (Nat.lt_of_lt_of_le hy (by decide))
  have h1 : x ^^^ y < 2 ^ 62 := Nat.xor_lt_two_pow hx hy
  simp only [Go.bits, BitVec.ofInt_natCast, BitVec.toNat_xor, BitVec.toNat_ofNat, e1, e2]
  have h2 : ((x ^^^ y : Nat) : Int) < 2 ^ 62 := by exact_mod_cast h1
  rw [wraps_i64 _ (Int.natCast_nonneg _) (by omega)]
  exact Int.natCast_nonneg _
theorem tmod_in {a n : Int} (ha : 0 ≤ a) (hn : 0 < n) : 0 ≤ Int.tmod a n ∧ Int.tmod a n < n := ⟨Int.tmod_nonneg n ha, Int.tmod_lt_of_pos a hn⟩
theorem pick_ev {b : List Int} (hb : BytesP b) {p n : Int} (hp0 : 0 ≤ p) (hp : p ≤ 1000000) (hn : 1 ≤ n) (hn' : n ≤ 1000000) : ∃ v, 0 ≤ v ∧ v < n ∧ Ev (fun k => spec_l20Rd_pick.f k b p n) (v, p + 1) := by
  unfold spec_l20Rd_pick.f
  rw [w64 (x := p + 1) (by omega) (by omega)]
  by_cases h0 : (b.length : Int) = 0
  · refine ⟨0, by omega, by omega, Ev.neg (by omega) ?_⟩
    rw [beq_iff_eq.2 h0]
    exact Ev.step (fun k => by rw [spec_l20Rd_pick.j0]) (Ev.pos rfl (Ev.now _))
  · have hb1 := hb.1
    have e1 : wrap64 (p + 1 - 1) = p := by rw [w64 (by omega) (by omega)]; omega
    by_cases h1 : p < (b.length : Int)
    · have hr := rd_byte hb p
      obtain ⟨g1, g2⟩ := tmod_in (a := wrap64 (rd b p)) (n := n) (by rw [w64 (by omega) (by omega)]; omega) (by omega)
      refine ⟨Int.tmod (wrap64 (rd b p)) n, g1, g2, Ev.neg (by omega) ?_⟩
      rw [beq_eq_false_iff_ne.2 h0]
      refine Ev.step (fun k => by rw [spec_l20Rd_pick.j0]) (Ev.neg (by decide) ?_)
      rw [e1]
      exact Ev.pos h1 (Ev.pos (by omega) (Ev.neg (by omega) (Ev.now _)))
    · have hl : 0 < (b.length : Int) := by omega
      obtain ⟨a1, a2⟩ := tmod_in (a := p) (n := b.length) (by omega) hl
      obtain ⟨a3, a4⟩ := tmod_in (a := wrap64 (wrap64 (p * 7) + 3)) (n := b.length) (by rw [w64 (x := p * 7) (by omega) (by omega), w64 (by omega) (by omega)]; omega) hl
      have r1 := rd_byte hb (Int.tmod p b.length)
      have r2 := rd_byte hb (Int.tmod (wrap64 (wrap64 (p * 7) + 3)) b.length)
      have d1 : 0 ≤ Int.tdiv p b.length := Int.tdiv_nonneg hp0 (by omega)
      have d2 : Int.tdiv p b.length ≤ p := Int.tdiv_le_self _ hp0
      have fin : ∀ X, 0 ≤ X → X ≤ 200000000 → 0 ≤ Int.tmod (Go.bits .xor .i64 X (wrap64 (Int.tdiv X 64))) n ∧ Int.tmod (Go.bits .xor .i64 X (wrap64 (Int.tdiv X 64))) n < n := by
        intro X x0 x1
        have e : Int.tdiv X 64 = X / 64 := Int.tdiv_eq_ediv_of_nonneg x0
        rw [e, w64 (by omega) (by omega)]
        exact tmod_in (xor_nonneg x0 (by omega) (by omega) (by omega)) (by omega)
      obtain ⟨X, hX, x0, x1⟩ : ∃ X, X = wrap64 (wrap64 (wrap64 (wrap64 (wrap64 (rd b (Int.tmod p b.length)) * 131) + wrap64 (wrap64 (rd b (Int.tmod (wrap64 (wrap64 (p * 7) + 3)) b.length)) * 1117)) + wrap64 (p * 29)) + wrap64 (wrap64 (Int.tdiv p b.length) * 53)) ∧ 0 ≤ X ∧ X ≤ 200000000 := by
        refine ⟨_, rfl, ?_⟩
        generalize rd b (Int.tmod p b.length) = u at *
        generalize rd b (Int.tmod (wrap64 (wrap64 (p * 7) + 3)) b.length) = v at *
        generalize Int.tdiv p b.length = w at *
        rw [w64 (x := u) (by omega) (by omega), w64 (x := v) (by omega) (by omega), w64 (x := w) (by omega) (by omega)]
        rw [w64 (x := u * 131) (by omega) (by omega), w64 (x := v * 1117) (by omega) (by omega), w64 (x := p * 29) (by omega) (by omega), w64 (x := w * 53) (by omega) (by omega)]
        rw [w64 (x := u * 131 + v * 1117) (by omega) (by omega), w64 (x := u * 131 + v * 1117 + p * 29) (by omega) (by omega), w64 (x := u * 131 + v * 1117 + p * 29 + w * 53) (by omega) (by omega)]
        omega
      refine ⟨Int.tmod (Go.bits .xor .i64 X (wrap64 (Int.tdiv X 64))) n, (fin X x0 x1).1, (fin X x0 x1).2, Ev.neg (by omega) ?_⟩
      rw [beq_eq_false_iff_ne.2 h0]
      refine Ev.step (fun k => by rw [spec_l20Rd_pick.j0]) (Ev.neg (by decide) ?_)
      rw [e1, ← hX]
      exact Ev.neg h1 (Ev.neg h0 (Ev.pos a1 (Ev.pos a2 (Ev.pos a3 (Ev.pos a4 (Ev.neg (by omega) (Ev.now _)))))))

theorem odd_ev {b : List Int} (hb : BytesP b) {p n : Int} (hp0 : 0 ≤ p) (hp : p ≤ 1000000) (hn' : n ≤ 1000000) : ∃ c p', p ≤ p' ∧ p' ≤ p + 1 ∧ Ev (fun k => spec_l20Rd_odd.f k b p n) (c, p') := by
  unfold spec_l20Rd_odd.f
  by_cases h : n > 0
  · obtain ⟨v, _, _, h3⟩ := pick_ev hb hp0 hp (n := n) (by omega) hn'
    exact ⟨_, _, by omega, by omega, Ev.pos h (Ev.bnd h3 (Ev.now _))⟩
  · exact ⟨_, _, by omega, by omega, Ev.neg h (Ev.now _)⟩

/-! ### drawing a net -/
theorem pathNet_ev {n : Int} (h0 : 1 ≤ n) (h1 : n ≤ 6) : ∃ l : List Int, (l.length : Int) = n ∧ Ev (fun k => spec_PathNet.f k n) l := by
  have : n = 1 ∨ n = 2 ∨ n = 3 ∨ n = 4 ∨ n = 5 ∨ n = 6 := by omega
  rcases this with rfl | rfl | rfl | rfl | rfl | rfl
  · exact ⟨[0], rfl, Ev.of (spec_PathNet.mono 1) (k := 40) (by decide +kernel)⟩
  · exact ⟨[2, 1], rfl, Ev.of (spec_PathNet.mono 2) (k := 40) (by decide +kernel)⟩
  · exact ⟨[2, 5, 2], rfl, Ev.of (spec_PathNet.mono 3) (k := 40) (by decide +kernel)⟩
  · exact ⟨[2, 5, 10, 4], rfl, Ev.of (spec_PathNet.mono 4) (k := 40) (by decide +kernel)⟩
  · exact ⟨[2, 5, 10, 20, 8], rfl, Ev.of (spec_PathNet.mono 5) (k := 40) (by decide +kernel)⟩
  · exact ⟨[2, 5, 10, 20, 40, 16], rfl, Ev.of (spec_PathNet.mono 6) (k := 40) (by decide +kernel)⟩
theorem ringNet_ev {n : Int} (h0 : 3 ≤ n) (h1 : n ≤ 6) : ∃ l : List Int, (l.length : Int) = n ∧ Ev (fun k => spec_RingNet.f k n) l := by
  have : n = 3 ∨ n = 4 ∨ n = 5 ∨ n = 6 := by omega
  rcases this with rfl | rfl | rfl | rfl
  · exact ⟨[6, 5, 3], rfl, Ev.of (spec_RingNet.mono 3) (k := 40) (by decide +kernel)⟩
  · exact ⟨[10, 5, 10, 5], rfl, Ev.of (spec_RingNet.mono 4) (k := 40) (by decide +kernel)⟩
  · exact ⟨[18, 5, 10, 20, 9], rfl, Ev.of (spec_RingNet.mono 5) (k := 40) (by decide +kernel)⟩
  · exact ⟨[34, 5, 10, 20, 40, 17], rfl, Ev.of (spec_RingNet.mono 6) (k := 40) (by decide +kernel)⟩
theorem net_l0 {b : List Int} (hb : BytesP b) {n nodes : Int} (hn : n ≤ 1000) (h1 : 1 ≤ nodes) (h6 : nodes ≤ 6) : ∀ (m : Nat) (net : List Int) (p : Int), (net.length : Int) = nodes → 0 ≤ p → p + 2 * m ≤ 900000 →
    ∃ net' p', net'.length ≤ 6 ∧ p ≤ p' ∧ p' ≤ p + 2 * m + 2 ∧ Ev (fun k => spec_l20Net.l0 k n nodes net (m : Int) b p) (net', p') := by
  intro m
  induction m with
  | zero =>
    intro net p hl hp0 hp
    obtain ⟨c, p1, a1, a2, a3⟩ := odd_ev hb hp0 (p := p) (n := n) (by omega) (by omega)
    obtain ⟨v, v0, v1, v2⟩ := pick_ev hb (p := p1) (n := 3) (by omega) (by omega) (by omega) (by omega)
    have hnz : 0 < (net.length : Int) := by omega
    have start : ∀ q, Ev (fun k => if c = true then (spec_l20Rd_pick.f k b p1 3).bind fun bt => (if bt.1 = 0 then some ((([] : List Int)), bt.2) else (if bt.1 = 1 then (if 0 < (net.length : Int) then some ((net.set (0 : Int).toNat (Go.bits .or .i64 (rd net 0) 1)), bt.2) else none) else (if 0 < (net.length : Int) then (if 0 ≤ (wrap64 (nodes - 1)) then ((some (net.set (0 : Int).toNat (Go.bits .xor .i64 (rd net 0) (shl .i64 1 (wrap64 (nodes - 1)))) : List Int)).bind fun y => (if nodes = 1 then some ((y.set (0 : Int).toNat (-1)), bt.2) else some (y, bt.2))) else none) else none))) else some (net, p1)) q → Ev (fun k => spec_l20Net.l0 k n nodes net ((0 : Nat) : Int) b p) q := fun q h =>
      Ev.step (fun k => by rw [spec_l20Net.l0]) (Ev.neg (by omega) (Ev.bnd a3 h))
    by_cases hc : c = true
    · by_cases e0 : v = 0
      · exact ⟨[], p1 + 1, by simp, by omega, by omega, start _ (Ev.pos hc (Ev.bnd v2 (Ev.pos e0 (Ev.now _))))⟩
      · by_cases e1 : v = 1
        · exact ⟨net.set (0 : Int).toNat (Go.bits .or .i64 (rd net 0) 1), p1 + 1, by simp; omega, by omega, by omega, start _ (Ev.pos hc (Ev.bnd v2 (Ev.neg e0 (Ev.pos e1 (Ev.pos hnz (Ev.now _))))))⟩
        · by_cases e2 : nodes = 1
          · refine ⟨(net.set (0 : Int).toNat (Go.bits .xor .i64 (rd net 0) (shl .i64 1 (wrap64 (nodes - 1))))).set (0 : Int).toNat (-1), p1 + 1, by simp; omega, by omega, by omega, start _ (Ev.pos hc (Ev.bnd v2 (Ev.neg e0 (Ev.neg e1 (Ev.pos hnz (Ev.pos (by rw [w64 (by omega) (by omega)]; omega) ?_))))))⟩
            refine Ev.bnd0 rfl ?_
            exact Ev.pos e2 (Ev.now _)
          · refine ⟨net.set (0 : Int).toNat (Go.bits .xor .i64 (rd net 0) (shl .i64 1 (wrap64 (nodes - 1)))), p1 + 1, by simp; omega, by omega, by omega, start _ (Ev.pos hc (Ev.bnd v2 (Ev.neg e0 (Ev.neg e1 (Ev.pos hnz (Ev.pos (by rw [w64 (by omega) (by omega)]; omega) ?_))))))⟩
            refine Ev.bnd0 rfl ?_
            exact Ev.neg e2 (Ev.now _)
    · exact ⟨net, p1, by omega, by omega, by omega, start _ (Ev.neg hc (Ev.now _))⟩
  | succ m ih =>
    intro net p hl hp0 hp
    obtain ⟨u, u0, u1, u2⟩ := pick_ev hb (p := p) (n := nodes) (by omega) (by omega) (by omega) (by omega)
    obtain ⟨v, v0, v1, v2⟩ := pick_ev hb (p := p + 1) (n := nodes) (by omega) (by omega) (by omega) (by omega)
    have em : wrap64 (((m + 1 : Nat) : Int) - 1) = (m : Int) := by rw [w64 (by omega) (by omega)]; omega
    have ep : p + 1 + 1 = p + 2 := by omega
    by_cases e : u = v
    · obtain ⟨net', p', b1, b2, b3, b4⟩ := ih net (p + 2) hl (by omega) (by omega)
      refine ⟨net', p', b1, by omega, by omega, Ev.step (fun k => by rw [spec_l20Net.l0]) (Ev.pos (by omega) (Ev.bnd u2 (Ev.bnd v2 (Ev.pos e ?_))))⟩
      rw [em, ep]; exact b4
    · obtain ⟨net', p', b1, b2, b3, b4⟩ := ih ((net.set (u : Int).toNat (Go.bits .or .i64 (rd net u) (shl .i64 1 v))).set (v : Int).toNat (Go.bits .or .i64 (rd (net.set (u : Int).toNat (Go.bits .or .i64 (rd net u) (shl .i64 1 v))) v) (shl .i64 1 u))) (p + 2) (by simp; exact hl) (by omega) (by omega)
      refine ⟨net', p', b1, by omega, by omega, Ev.step (fun k => by rw [spec_l20Net.l0]) (Ev.pos (by omega) (Ev.bnd u2 (Ev.bnd v2 (Ev.neg e (Ev.pos u0 (Ev.pos (show u < (net.length : Int) by omega) (Ev.pos v0 ?_)))))))⟩
      refine Ev.bnd0 rfl ?_
      refine Ev.pos (show v < (net.length : Int) by omega) ?_
      rw [em, ep]; exact b4
theorem net_ev {b : List Int} (hb : BytesP b) {p n : Int} (hp0 : 0 ≤ p) (hp : p ≤ 800000) (hn : n ≤ 1000) : ∃ net p', net.length ≤ 6 ∧ p ≤ p' ∧ p' ≤ p + 20 ∧ Ev (fun k => spec_l20Net.f k b p n) (net, p') := by
  unfold spec_l20Net.f
  obtain ⟨u, u0, u1, u2⟩ := pick_ev hb (p := p) (n := 6) (by omega) (by omega) (by omega) (by omega)
  obtain ⟨v, v0, v1, v2⟩ := pick_ev hb (p := p + 1) (n := 4) (by omega) (by omega) (by omega) (by omega)
  obtain ⟨w, x0, x1, x2⟩ := pick_ev hb (p := p + 1 + 1) (n := 6) (by omega) (by omega) (by omega) (by omega)
  obtain ⟨m, rfl⟩ := Int.eq_ofNat_of_zero_le x0
  have en : wrap64 (1 + u) = 1 + u := w64 (by omega) (by omega)
  obtain ⟨l, hl, hl2⟩ := pathNet_ev (n := 1 + u) (by omega) (by omega)
  have go : ∀ net : List Int, (net.length : Int) = 1 + u → ∃ net' p', net'.length ≤ 6 ∧ p ≤ p' ∧ p' ≤ p + 20 ∧ Ev (fun k => spec_l20Net.j0 k n (1 + u) net b (p + 1 + 1)) (net', p') := by
    intro net hnet
    obtain ⟨net', p', b1, b2, b3, b4⟩ := net_l0 hb hn (by omega) (by omega) m net (p + 1 + 1 + 1) hnet (by omega) (by omega)
    exact ⟨net', p', b1, by omega, by omega, Ev.step (fun k => by rw [spec_l20Net.j0]) (Ev.bnd x2 b4)⟩
  by_cases e0 : v = 0
  · by_cases e3 : 1 + u ≥ 3
    · obtain ⟨l3, hl3, hl4⟩ := ringNet_ev (n := 1 + u) e3 (by omega)
      obtain ⟨net', p', b1, b2, b3, b4⟩ := go l3 hl3
      exact ⟨net', p', b1, b2, b3, by refine Ev.bnd u2 ?_; dsimp only; rw [en]; refine Ev.bnd hl2 (Ev.bnd v2 ?_); dsimp only; exact (Ev.pos e0 (Ev.pos e3 (Ev.bnd hl4 b4)))⟩
    · obtain ⟨net', p', b1, b2, b3, b4⟩ := go l hl
      exact ⟨net', p', b1, b2, b3, by refine Ev.bnd u2 ?_; dsimp only; rw [en]; refine Ev.bnd hl2 (Ev.bnd v2 ?_); dsimp only; exact (Ev.pos e0 (Ev.neg e3 b4))⟩
  · by_cases e1 : v = 1
    · obtain ⟨net', p', b1, b2, b3, b4⟩ := go (List.replicate (1 + u).toNat 0) (by simp; omega)
      exact ⟨net', p', b1, b2, b3, by refine Ev.bnd u2 ?_; dsimp only; rw [en]; refine Ev.bnd hl2 (Ev.bnd v2 ?_); dsimp only; exact (Ev.neg e0 (Ev.pos e1 (Ev.pos (by omega) (Ev.pos (by omega) b4))))⟩
    · obtain ⟨net', p', b1, b2, b3, b4⟩ := go l hl
      exact ⟨net', p', b1, b2, b3, by refine Ev.bnd u2 ?_; dsimp only; rw [en]; refine Ev.bnd hl2 (Ev.bnd v2 ?_); dsimp only; exact (Ev.neg e0 (Ev.neg e1 b4))⟩

theorem needs_ev {b : List Int} (hb : BytesP b) {p n : Int} (m : Nat) (hm : m ≤ 6) (hp0 : 0 ≤ p) (hp : p ≤ 800000) (hn : n ≤ 1000) : ∃ needs p', needs.length ≤ 7 ∧ p ≤ p' ∧ p' ≤ p + 20 ∧ Ev (fun k => spec_l20Needs.f k b p (m : Int) n) (needs, p') := by
  unfold spec_l20Needs.f
  have H : ∀ d i : Nat, i + d = m → ∀ (s : List Int) (q : Int), s.length = i → 0 ≤ q → q + 2 * d ≤ 800100 → ∃ needs p', needs.length ≤ 7 ∧ q ≤ p' ∧ p' ≤ q + 2 * d + 4 ∧ Ev (fun k => spec_l20Needs.l0 k (m : Int) n s (i : Int) b q) (needs, p') := by
    intro d
    induction d with
    | zero =>
      intro i hi s q hs q0 q1
      obtain ⟨c, p1, a1, a2, a3⟩ := odd_ev hb (p := q) (n := n) (by omega) (by omega) (by omega)
      obtain ⟨v, v0, v1, v2⟩ := pick_ev hb (p := p1) (n := 2) (by omega) (by omega) (by omega) (by omega)
      obtain ⟨w, w0, w1, w2⟩ := pick_ev hb (p := p1 + 1) (n := 2) (by omega) (by omega) (by omega) (by omega)
      by_cases hc : c = true
      · by_cases e0 : v = 0
        · refine ⟨s ++ [1], p1 + 1, by simp; omega, by omega, by omega, Ev.step (fun k => by rw [spec_l20Needs.l0]) (Ev.neg (by omega) (Ev.bnd a3 (Ev.pos hc (Ev.bnd v2 (Ev.pos e0 (Ev.pos (show s.length < 17592186044416 by omega) (Ev.now _)))))))⟩
        · by_cases e1 : 0 < s.length
          · refine ⟨s.set (0 : Int).toNat (rd [0, 7] w), p1 + 1 + 1, by simp; omega, by omega, by omega, Ev.step (fun k => by rw [spec_l20Needs.l0]) (Ev.neg (by omega) (Ev.bnd a3 (Ev.pos hc (Ev.bnd v2 (Ev.neg e0 (Ev.pos (show (s.length : Int) > 0 by omega) ?_))))))⟩
            refine Ev.bnd0 rfl ?_
            refine Ev.bnd w2 (Ev.pos w0 (Ev.pos (show w < (([0, 7] : List Int).length : Int) by simp; omega) (Ev.pos (show 0 < (s.length : Int) by omega) (Ev.now _))))
          · exact ⟨s, p1 + 1, by omega, by omega, by omega, Ev.step (fun k => by rw [spec_l20Needs.l0]) (Ev.neg (by omega) (Ev.bnd a3 (Ev.pos hc (Ev.bnd v2 (Ev.neg e0 (Ev.neg (show ¬ (s.length : Int) > 0 by omega) (Ev.now _)))))))⟩
      · exact ⟨s, p1, by omega, by omega, by omega, Ev.step (fun k => by rw [spec_l20Needs.l0]) (Ev.neg (by omega) (Ev.bnd a3 (Ev.neg hc (Ev.now _))))⟩
    | succ d ih =>
      intro i hi s q hs q0 q1
      obtain ⟨v, v0, v1, v2⟩ := pick_ev hb (p := q) (n := 2) (by omega) (by omega) (by omega) (by omega)
      obtain ⟨w, w0, w1, w2⟩ := pick_ev hb (p := q + 1) (n := 6) (by omega) (by omega) (by omega) (by omega)
      obtain ⟨needs, p', b1, b2, b3, b4⟩ := ih (i + 1) (by omega) (s ++ [wrap64 (wrap64 (1 + v) + wrap64 (Int.tdiv w 5))]) (q + 1 + 1) (by simp; omega) (by omega) (by omega)
      refine ⟨needs, p', b1, by omega, by omega, Ev.step (fun k => by rw [spec_l20Needs.l0]) (Ev.pos (by omega) (Ev.bnd v2 (Ev.bnd w2 (Ev.pos (show s.length < 17592186044416 by omega) ?_))))⟩
      rw [w64s i (by omega)]; exact b4
  obtain ⟨needs, p', b1, b2, b3, b4⟩ := H m 0 (by omega) [] p rfl hp0 (by omega)
  exact ⟨needs, p', b1, b2, by omega, b4⟩

theorem alive_ev : Ev (fun k => laws_alive.f k) true := by
  unfold laws_alive.f
  have h1 : decide (NetP [2, 1]) = true := by decide +kernel
  have h2 : decide (NetP [1]) = false := by decide +kernel
  refine Ev.bnd (iNetOk [2, 1]) (Ev.pos h1 (Ev.bnd (iNetOk [1]) (Ev.val ?_)))
  rw [h2]; rfl

theorem FnNeedsOk : laws_FnNeedsOk.Pure := by
  intro l _ _ hw
  refine Ev.rounds (g := fun k => laws_FnNeedsOk.f k l) ?_
  unfold laws_FnNeedsOk.f
  refine Ev.iteS (fun _ => Ev.now _) (fun _ => ?_)
  obtain ⟨b, hb, hB⟩ := open_ev l hw
  obtain ⟨net, p', a1, a2, a3, a4⟩ := net_ev hB (p := 0) (n := 6) (by omega) (by omega) (by omega)
  obtain ⟨needs, p2, b1, b2, b3, b4⟩ := needs_ev hB (p := p') (n := 4) net.length a1 (by omega) (by omega) (by omega)
  have hd : Ev (fun k => spec_DrawNeedsOk.f k l) (net, needs) := by
    unfold spec_DrawNeedsOk.f
    exact Ev.bnd0 hb (Ev.bnd a4 (Ev.bnd b4 (Ev.now _)))
  refine Ev.bnd hd ?_
  dsimp only
  refine Ev.bnd (iNeedsOk net needs (by omega)) (Ev.bnd (sNeedsOk net needs (by omega)) (Ev.neg (by simp) ?_))
  refine ev_for (F := fun k x a => laws_FnNeedsOk.l0 k net needs (decide (NeedsP net needs)) a x) (n := net.length) (out := fun _ _ => true) (I := fun i a => a = one1 i) ?_ ?_ net.length 0 (by omega) _ rfl
  · rintro a rfl
    refine Ev.step (fun k => by rw [laws_FnNeedsOk.l0]) (Ev.neg (by omega) ?_)
    refine Ev.bnd (iNeedsOk net (one1 net.length) (by rw [one1_len]; omega)) (Ev.bnd (iNetOk net) ?_)
    have e : decide (NeedsP net (one1 net.length)) = decide (NetP net) := by
      rw [Bool.eq_iff_iff]; simp only [decide_eq_true_eq]
      exact ⟨fun h => h.1, fun h => needs_one h⟩
    rw [e]
    refine Ev.pos (by simp) ?_
    refine Ev.iteS (fun h => ?_) (fun _ => Ev.bnd alive_ev (Ev.now _))
    have h' := of_decide_eq_true h
    exact Ev.pos (by have := h'.2.1; omega) (Ev.bnd alive_ev (Ev.now _))
  · rintro i a hi rfl ih
    refine Ev.step (fun k => by rw [laws_FnNeedsOk.l0]) (Ev.pos (by omega) (Ev.pos (by rw [one1_len]; omega) ?_))
    rw [w64s i (by omega), one1_succ]; exact ih _ rfl
end Go.Proofs.Ythkngbdijoeolaa.Pure
