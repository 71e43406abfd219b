/- What the law FnFrontStep asks, proved over the functions: for every input that its guards let in, it answers true. -/
import Derived.Test.YthkngbdijoeolaaKit
import Derived.Test.YthkngbdijoeolaaF2
import Derived.Test.YthkngbdijoeolaaF21
import Derived.Test.YthkngbdijoeolaaF3
import Derived.Test.YthkngbdijoeolaaF4
import Derived.Test.YthkngbdijoeolaaF5
import Derived.Test.YthkngbdijoeolaaF6
import Derived.Test.YthkngbdijoeolaaFFnFrontStep
set_option linter.unusedVariables false
set_option linter.unusedSimpArgs false
namespace Go.Proofs.Ythkngbdijoeolaa.Pure
open Go Go.RowKit Go.Proofs.Ythkngbdijoeolaa.PAll Go.Proofs.YthkngbdijoeolaaW.PrintWords Go.Proofs.YthkngbdijoeolaaW.PrintLast Go.Proofs.YthkngbdijoeolaaW.PrintMore Go.Proofs.Ythkngbdijoeolaa.Kit
/-! ### drawing -/
def BytesP (b : List Int) : Prop := b.length ≤ 2000 ∧ ∀ i, 0 ≤ b.getD i 0 ∧ b.getD i 0 < 256
theorem rd_byte {b : List Int} (h : BytesP b) (i : Int) : 0 ≤ rd b i ∧ rd b i < 256 := h.2 i.toNat
theorem bytes_of {l : List Int} (h : ∀ x ∈ l, (Lit.int .u8 x).wf = true) (i : Nat) : 0 ≤ l.getD i 0 ∧ l.getD i 0 < 256 := by
  rw [List.getD_eq_getElem?_getD]
  by_cases hi : i < l.length
  · rw [List.getElem?_eq_getElem hi]
    have := h _ (List.getElem_mem hi)
    have h' : IntKind.u8.min ≤ l[i] ∧ l[i] ≤ IntKind.u8.max := by simpa [Lit.wf] using this
    have e : IntKind.u8.min = 0 := by decide
    have e' : IntKind.u8.max = 255 := by decide
    simp only [Option.getD_some]
    omega
  · rw [List.getElem?_eq_none (by omega)]; simp
theorem open_ev (l : List Int) (h : ∀ x ∈ l, (Lit.int .u8 x).wf = true) : ∃ b, spec_l20Open.f l = some (b, 0) ∧ BytesP b := by
  unfold spec_l20Open.f
  by_cases h1 : (l.length : Int) > 2000
  · refine ⟨l.take 2000, by rw [if_pos h1, if_pos (by omega)], by simp; omega, fun i => ?_⟩
    rw [List.getD_eq_getElem?_getD, List.getElem?_take]
    split
    · rw [← List.getD_eq_getElem?_getD]; exact bytes_of h i
    · simp
  · exact ⟨l, by rw [if_neg h1], by omega, bytes_of h⟩
theorem xor_nonneg {a b : Int} (ha : 0 ≤ a) (ha' : a < 2 ^ 62) (hb : 0 ≤ b) (hb' : b < 2 ^ 62) : 0 ≤ Go.bits .xor .i64 a b := by
  obtain ⟨x, rfl⟩ := Int.eq_ofNat_of_zero_le ha
  obtain ⟨y, rfl⟩ := Int.eq_ofNat_of_zero_le hb
  have hx : x < 2 ^ 62 := by exact_mod_cast ha'
  have hy : y < 2 ^ 62 := by exact_mod_cast hb'
  have e1 : x % 2 ^ IntKind.i64.bits = x := Nat.mod_eq_of_lt (Nat.lt_of_lt_of_le hx (by decide))
  have e2 : y % 2 ^ IntKind.i64.bits = y := Nat.mod_eq_of_lt (Nat.lt_of_lt_of_le hy (by decide))
  have h1 : x ^^^ y < 2 ^ 62 := Nat.xor_lt_two_pow hx hy
  simp only [Go.bits, BitVec.ofInt_natCast, BitVec.toNat_xor, BitVec.toNat_ofNat, e1, e2]
  have h2 : ((x ^^^ y : Nat) : Int) < 2 ^ 62 := by exact_mod_cast h1
  rw [wraps_i64 _ (Int.natCast_nonneg _) (by omega)]
  exact Int.natCast_nonneg _
theorem tmod_in {a n : Int} (ha : 0 ≤ a) (hn : 0 < n) : 0 ≤ Int.tmod a n ∧ Int.tmod a n < n := ⟨Int.tmod_nonneg n ha, Int.tmod_lt_of_pos a hn⟩
theorem pick_ev {b : List Int} (hb : BytesP b) {p n : Int} (hp0 : 0 ≤ p) (hp : p ≤ 1000000) (hn : 1 ≤ n) (hn' : n ≤ 1000000) : ∃ v, 0 ≤ v ∧ v < n ∧ Ev (fun k => spec_l20Rd_pick.f k b p n) (v, p + 1) := by
  unfold spec_l20Rd_pick.f
  rw [w64 (x := p + 1) (by omega) (by omega)]
  by_cases h0 : (b.length : Int) = 0
  · refine ⟨0, by omega, by omega, Ev.neg (by omega) ?_⟩
    rw [beq_iff_eq.2 h0]
    exact Ev.step (fun k => by rw [spec_l20Rd_pick.j0]) (Ev.pos rfl (Ev.now _))
  · have hb1 := hb.1
    have e1 : wrap64 (p + 1 - 1) = p := by rw [w64 (by omega) (by omega)]; omega
    by_cases h1 : p < (b.length : Int)
    · have hr := rd_byte hb p
      obtain ⟨g1, g2⟩ := tmod_in (a := wrap64 (rd b p)) (n := n) (by rw [w64 (by omega) (by omega)]; omega) (by omega)
      refine ⟨Int.tmod (wrap64 (rd b p)) n, g1, g2, Ev.neg (by omega) ?_⟩
      rw [beq_eq_false_iff_ne.2 h0]
      refine Ev.step (fun k => by rw [spec_l20Rd_pick.j0]) (Ev.neg (by decide) ?_)
      rw [e1]
      exact Ev.pos h1 (Ev.pos (by omega) (Ev.neg (by omega) (Ev.now _)))
    · have hl : 0 < (b.length : Int) := by omega
      obtain ⟨a1, a2⟩ := tmod_in (a := p) (n := b.length) (by omega) hl
      obtain ⟨a3, a4⟩ := tmod_in (a := wrap64 (wrap64 (p * 7) + 3)) (n := b.length) (by rw [w64 (x := p * 7) (by omega) (by omega), w64 (by omega) (by omega)]; omega) hl
      have r1 := rd_byte hb (Int.tmod p b.length)
      have r2 := rd_byte hb (Int.tmod (wrap64 (wrap64 (p * 7) + 3)) b.length)
      have d1 : 0 ≤ Int.tdiv p b.length := Int.tdiv_nonneg hp0 (by omega)
      have d2 : Int.tdiv p b.length ≤ p := Int.tdiv_le_self _ hp0
      have fin : ∀ X, 0 ≤ X → X ≤ 200000000 → 0 ≤ Int.tmod (Go.bits .xor .i64 X (wrap64 (Int.tdiv X 64))) n ∧ Int.tmod (Go.bits .xor .i64 X (wrap64 (Int.tdiv X 64))) n < n := by
        intro X x0 x1
        have e : Int.tdiv X 64 = X / 64 := Int.tdiv_eq_ediv_of_nonneg x0
        rw [e, w64 (by omega) (by omega)]
        exact tmod_in (xor_nonneg x0 (by omega) (by omega) (by omega)) (by omega)
      obtain ⟨X, hX, x0, x1⟩ : ∃ X, X = wrap64 (wrap64 (wrap64 (wrap64 (wrap64 (rd b (Int.tmod p b.length)) * 131) + wrap64 (wrap64 (rd b (Int.tmod (wrap64 (wrap64 (p * 7) + 3)) b.length)) * 1117)) + wrap64 (p * 29)) + wrap64 (wrap64 (Int.tdiv p b.length) * 53)) ∧ 0 ≤ X ∧ X ≤ 200000000 := by
        refine ⟨_, rfl, ?_⟩
        generalize rd b (Int.tmod p b.length) = u at *
        generalize rd b (Int.tmod (wrap64 (wrap64 (p * 7) + 3)) b.length) = v at *
        generalize Int.tdiv p b.length = w at *
        rw [w64 (x := u) (by omega) (by omega), w64 (x := v) (by omega) (by omega), w64 (x := w) (by omega) (by omega)]
        rw [w64 (x := u * 131) (by omega) (by omega), w64 (x := v * 1117) (by omega) (by omega), w64 (x := p * 29) (by omega) (by omega), w64 (x := w * 53) (by omega) (by omega)]
        rw [w64 (x := u * 131 + v * 1117) (by omega) (by omega), w64 (x := u * 131 + v * 1117 + p * 29) (by omega) (by omega), w64 (x := u * 131 + v * 1117 + p * 29 + w * 53) (by omega) (by omega)]
        omega
      refine ⟨Int.tmod (Go.bits .xor .i64 X (wrap64 (Int.tdiv X 64))) n, (fin X x0 x1).1, (fin X x0 x1).2, Ev.neg (by omega) ?_⟩
      rw [beq_eq_false_iff_ne.2 h0]
      refine Ev.step (fun k => by rw [spec_l20Rd_pick.j0]) (Ev.neg (by decide) ?_)
      rw [e1, ← hX]
      exact Ev.neg h1 (Ev.neg h0 (Ev.pos a1 (Ev.pos a2 (Ev.pos a3 (Ev.pos a4 (Ev.neg (by omega) (Ev.now _)))))))

theorem odd_ev {b : List Int} (hb : BytesP b) {p n : Int} (hp0 : 0 ≤ p) (hp : p ≤ 1000000) (hn' : n ≤ 1000000) : ∃ c p', p ≤ p' ∧ p' ≤ p + 1 ∧ Ev (fun k => spec_l20Rd_odd.f k b p n) (c, p') := by
  unfold spec_l20Rd_odd.f
  by_cases h : n > 0
  · obtain ⟨v, _, _, h3⟩ := pick_ev hb hp0 hp (n := n) (by omega) hn'
    exact ⟨_, _, by omega, by omega, Ev.pos h (Ev.bnd h3 (Ev.now _))⟩
  · exact ⟨_, _, by omega, by omega, Ev.neg h (Ev.now _)⟩

/-! ### drawing a state -/
def rowsD (kinds : Nat) : Nat → List (List Int)
  | 0 => [[]]
  | n + 1 => (rowsD kinds n).flatMap (fun r => (List.range kinds).map (fun v => r ++ [((v : Nat) : Int)]))
def statesD (kinds n : Nat) : List (List Int) := [] :: (rowsD kinds n ++ (rowsD kinds n).map (fun s => s.set (n - 1) (kinds : Int)))
theorem rowsD_len {kinds : Nat} : ∀ (n : Nat) (s : List Int), s ∈ rowsD kinds n → s.length = n := by
  intro n
  induction n with
  | zero => intro s h; simp [rowsD] at h; simp [h]
  | succ n ih =>
    intro s h
    simp only [rowsD, List.mem_flatMap, List.mem_map] at h
    obtain ⟨r, hr, v, _, rfl⟩ := h
    simp [ih r hr]
theorem statesD_len {kinds n : Nat} {s : List Int} (h : s ∈ statesD kinds n) : s.length ≤ n := by
  simp only [statesD, List.mem_cons, List.mem_append, List.mem_map] at h
  rcases h with rfl | h | ⟨r, hr, rfl⟩
  · simp
  · exact Nat.le_of_eq (rowsD_len n s h)
  · rw [List.length_set]; exact Nat.le_of_eq (rowsD_len n r hr)
theorem rowsD_more {kinds n : Nat} {s : List Int} (h : s ∈ rowsD kinds n) {v : Int} (h0 : 0 ≤ v) (h1 : v < (kinds : Int)) : s ++ [v] ∈ rowsD kinds (n + 1) := by
  simp only [rowsD, List.mem_flatMap, List.mem_map]
  exact ⟨s, h, v.toNat, by rw [List.mem_range]; omega, by rw [Int.toNat_of_nonneg h0]⟩
theorem state_ev {b : List Int} (hb : BytesP b) {p o : Int} (n kinds : Nat) (hn1 : 1 ≤ n) (hn : n ≤ 6) (hk1 : 1 ≤ kinds) (hk : kinds ≤ 6) (hp0 : 0 ≤ p) (hp : p ≤ 800000) (ho : o ≤ 1000) :
    ∃ s p', s ∈ statesD kinds n ∧ p ≤ p' ∧ p' ≤ p + 20 ∧ Ev (fun k => spec_l20State.f k b p (n : Int) (kinds : Int) o) (s, p') := by
  unfold spec_l20State.f
  obtain ⟨z, z0, z1, z2⟩ := pick_ev hb (p := p) (n := 3) (by omega) (by omega) (by omega) (by omega)
  have H : ∀ d i : Nat, i + d = n → ∀ (s : List Int) (q : Int), s ∈ rowsD kinds i → 0 ≤ q → q + 2 * d ≤ 800100 → ∃ s' p', s' ∈ statesD kinds n ∧ q ≤ p' ∧ p' ≤ q + 2 * d + 2 ∧ Ev (fun k => spec_l20State.l0 k (n : Int) (kinds : Int) o s z (i : Int) b q) (s', p') := by
    intro d
    induction d with
    | zero =>
      intro i hi s q hs q0 q1
      have hl := rowsD_len i s hs
      obtain rfl : i = n := by omega
      obtain ⟨c, p1, a1, a2, a3⟩ := odd_ev hb (p := q) (n := o) (by omega) (by omega) (by omega)
      obtain ⟨v, v0, v1, v2⟩ := pick_ev hb (p := p1) (n := 2) (by omega) (by omega) (by omega) (by omega)
      have e : wrap64 ((s.length : Int) - 1) = ((i - 1 : Nat) : Int) := by rw [w64 (by omega) (by omega)]; omega
      by_cases hc : c = true
      · by_cases e0 : v = 0
        · exact ⟨[], p1 + 1, by simp [statesD], by omega, by omega, Ev.step (fun k => by rw [spec_l20State.l0]) (Ev.neg (by omega) (Ev.bnd a3 (Ev.pos hc (Ev.bnd v2 (Ev.pos e0 (Ev.now _))))))⟩
        · refine ⟨s.set (i - 1) (kinds : Int), p1 + 1, ?_, by omega, by omega, Ev.step (fun k => by rw [spec_l20State.l0]) (Ev.neg (by omega) (Ev.bnd a3 (Ev.pos hc (Ev.bnd v2 (Ev.neg e0 ?_)))))⟩
          · simp only [statesD, List.mem_cons, List.mem_append, List.mem_map]
            exact Or.inr (Or.inr ⟨s, hs, rfl⟩)
          · rw [e]
            refine Ev.pos (by omega) (Ev.pos (by omega) ?_)
            rw [Int.toNat_natCast]
            exact Ev.now _
      · exact ⟨s, p1, by simp [statesD, hs], by omega, by omega, Ev.step (fun k => by rw [spec_l20State.l0]) (Ev.neg (by omega) (Ev.bnd a3 (Ev.neg hc (Ev.now _))))⟩
    | succ d ih =>
      intro i hi s q hs q0 q1
      have hl := rowsD_len i s hs
      have go : ∀ (v : Int) (q' : Int), 0 ≤ v → v < (kinds : Int) → q ≤ q' → q' ≤ q + 2 → ∃ s' p', s' ∈ statesD kinds n ∧ q ≤ p' ∧ p' ≤ q + 2 * (d + 1 : Nat) + 2 ∧ Ev (fun k => spec_l20State.l0 k (n : Int) (kinds : Int) o (s ++ [v]) z (wrap64 ((i : Int) + 1)) b q') (s', p') := by
        intro v q' v0 v1 g0 g1
        obtain ⟨s', p', b1, b2, b3, b4⟩ := ih (i + 1) (by omega) (s ++ [v]) q' (rowsD_more hs v0 v1) (by omega) (by omega)
        rw [w64s i (by omega)]
        exact ⟨s', p', b1, by omega, by omega, b4⟩
      obtain ⟨u, u0, u1, u2⟩ := pick_ev hb (p := q) (n := 3) (by omega) (by omega) (by omega) (by omega)
      obtain ⟨v, v0, v1, v2⟩ := pick_ev hb (p := q + 1) (n := (kinds : Int)) (by omega) (by omega) (by omega) (by omega)
      obtain ⟨w, w0, w1, w2⟩ := pick_ev hb (p := q) (n := (kinds : Int)) (by omega) (by omega) (by omega) (by omega)
      have hc : s.length < 17592186044416 := by omega
      by_cases hz : z > 0
      · by_cases hu : u < z
        · obtain ⟨s', p', b1, b2, b3, b4⟩ := go 0 (q + 1) (by omega) (by omega) (by omega) (by omega)
          exact ⟨s', p', b1, b2, b3, Ev.step (fun k => by rw [spec_l20State.l0]) (Ev.pos (by omega) (Ev.pos hz (Ev.bnd u2 (Ev.pos hu (Ev.pos hc b4)))))⟩
        · obtain ⟨s', p', b1, b2, b3, b4⟩ := go v (q + 1 + 1) v0 v1 (by omega) (by omega)
          exact ⟨s', p', b1, b2, b3, Ev.step (fun k => by rw [spec_l20State.l0]) (Ev.pos (by omega) (Ev.pos hz (Ev.bnd u2 (Ev.neg hu (Ev.bnd v2 (Ev.pos hc b4))))))⟩
      · obtain ⟨s', p', b1, b2, b3, b4⟩ := go w (q + 1) w0 w1 (by omega) (by omega)
        exact ⟨s', p', b1, b2, b3, Ev.step (fun k => by rw [spec_l20State.l0]) (Ev.pos (by omega) (Ev.neg hz (Ev.bnd w2 (Ev.pos hc b4))))⟩
  obtain ⟨s', p', b1, b2, b3, b4⟩ := H n 0 (by omega) [] (p + 1) (by simp [rowsD]) (by omega) (by omega)
  exact ⟨s', p', b1, by omega, by omega, Ev.bnd z2 b4⟩

theorem ring_ev {b : List Int} (hb : BytesP b) {p o : Int} (hp0 : 0 ≤ p) (hp : p ≤ 700000) (ho : o ≤ 1000) :
    ∃ n s p', 3 ≤ n ∧ n ≤ 6 ∧ s ∈ statesD 3 n ∧ p ≤ p' ∧ p' ≤ p + 30 ∧ Ev (fun k => spec_l20Ring.f k b p o) (s, p') := by
  unfold spec_l20Ring.f
  obtain ⟨u, u0, u1, u2⟩ := pick_ev hb (p := p) (n := 4) (by omega) (by omega) (by omega) (by omega)
  obtain ⟨m, rfl⟩ := Int.eq_ofNat_of_zero_le u0
  obtain ⟨s, p', b1, b2, b3, b4⟩ := state_ev hb (p := p + 1) (o := o) (3 + m) 3 (by omega) (by omega) (by omega) (by omega) (by omega) (by omega) ho
  refine ⟨3 + m, s, p', by omega, by omega, b1, by omega, by omega, Ev.bnd u2 ?_⟩
  dsimp only
  rw [show wrap64 (3 + (m : Int)) = ((3 + m : Nat) : Int) from by rw [w64 (by omega) (by omega)]; omega]
  exact Ev.bnd b4 (Ev.now _)

/-! ### drawing fronts -/
def rows3 : Nat → List (List Int)
  | 0 => [[]]
  | n + 1 => [-1, 0, 1].flatMap (fun v => (rows3 n).map (fun t => v :: t))
def frontsD : List (List Int) := [] :: [2, 3, 4, 5].flatMap (fun m => [-2, -1, 0, 1].flatMap (fun v => (rows3 m).map (fun t => v :: t)))
def tri (x : Int) : Bool := decide (-1 ≤ x) && decide (x ≤ 1)
theorem rows3_mem : ∀ t : List Int, t.all tri = true → t ∈ rows3 t.length := by
  intro t
  induction t with
  | nil => intro _; simp [rows3]
  | cons v t ih =>
    intro h
    simp only [List.all_cons, Bool.and_eq_true, tri, decide_eq_true_eq] at h
    simp only [rows3, List.length_cons, List.mem_flatMap, List.mem_map]
    refine ⟨v, ?_, t, ih (by simpa [tri] using h.2), rfl⟩
    simp; omega
theorem frontsD_mem {v : Int} {t : List Int} (h0 : -2 ≤ v) (h1 : v ≤ 1) (ht : t.all tri = true) (h2 : 2 ≤ t.length) (h3 : t.length ≤ 5) : v :: t ∈ frontsD := by
  simp only [frontsD, List.mem_cons, List.mem_flatMap, List.mem_map]
  refine Or.inr ⟨t.length, ?_, v, ?_, t, rows3_mem t ht, rfl⟩
  · simp; omega
  · simp; omega
theorem frontsD_all {P : List Int → Bool} (h : frontsD.all P = true) {r : List Int} (hr : r ∈ frontsD) : P r = true := List.all_eq_true.1 h r hr
theorem frontsD_of {P : List Int → Bool} (h0 : P [] = true) (h : ∀ m ∈ [2, 3, 4, 5], ∀ v ∈ [(-2 : Int), -1, 0, 1], (rows3 m).all (fun t => P (v :: t)) = true) : frontsD.all P = true := by
  refine List.all_eq_true.2 (fun r hr => ?_)
  simp only [frontsD, List.mem_cons, List.mem_flatMap, List.mem_map] at hr
  rcases hr with rfl | ⟨m, hm, v, hv, t, ht, rfl⟩
  · exact h0
  · exact List.all_eq_true.1 (h m (by simpa using hm) v (by simpa using hv)) t ht
def okRow (o : Option (List Int)) : Bool := match o with | some r => r.isEmpty || (decide (3 ≤ r.length) && decide (r.length ≤ 6) && r.all tri) | none => false
theorem frontRow_all : [3, 4, 5, 6].all (fun n => (statesD 3 n).all (fun s => okRow (spec_FrontRow.f 60 s))) = true := by decide +kernel
theorem frontRow_ev {n : Nat} (h3 : 3 ≤ n) (h6 : n ≤ 6) {s : List Int} (hs : s ∈ statesD 3 n) : ∃ r, (r = [] ∨ 3 ≤ r.length ∧ r.length ≤ 6 ∧ r.all tri = true) ∧ Ev (fun k => spec_FrontRow.f k s) r := by
  have h := List.all_eq_true.1 (List.all_eq_true.1 frontRow_all n (by simp; omega)) s hs
  cases e : spec_FrontRow.f 60 s with
  | none => rw [e] at h; simp [okRow] at h
  | some r =>
    rw [e] at h
    simp only [okRow, Bool.or_eq_true, Bool.and_eq_true, decide_eq_true_eq] at h
    refine ⟨r, ?_, Ev.of (spec_FrontRow.mono s) (k := 60) e⟩
    rcases h with h | h
    · exact Or.inl (by simpa using h)
    · exact Or.inr ⟨h.1.1, h.1.2, h.2⟩
theorem fronts_ev {b : List Int} (hb : BytesP b) {p : Int} (hp0 : 0 ≤ p) (hp : p ≤ 600000) : ∃ r p', r ∈ frontsD ∧ p ≤ p' ∧ p' ≤ p + 40 ∧ Ev (fun k => spec_l20Fronts.f k b p) (r, p') := by
  unfold spec_l20Fronts.f
  obtain ⟨n, s, p1, n3, n6, hs, a1, a2, a3⟩ := ring_ev hb hp0 (p := p) (o := 12) (by omega) (by omega)
  obtain ⟨r, hr, r2⟩ := frontRow_ev n3 n6 hs
  obtain ⟨c, p2, c1, c2, c3⟩ := odd_ev hb (p := p1) (n := 12) (by omega) (by omega) (by omega)
  obtain ⟨v, v0, v1, v2⟩ := pick_ev hb (p := p2) (n := 4) (by omega) (by omega) (by omega) (by omega)
  have hm : r ∈ frontsD := by
    rcases hr with rfl | ⟨h3, h6, ht⟩
    · simp [frontsD]
    · cases r with
      | nil => simp [frontsD]
      | cons x t =>
        simp only [List.all_cons, Bool.and_eq_true, tri, decide_eq_true_eq] at ht
        simp only [List.length_cons] at h3 h6
        exact frontsD_mem (by omega) (by omega) (by simpa [tri] using ht.2) (by omega) (by omega)
  by_cases hc : c = true
  · by_cases hl : (r.length : Int) > 0
    · rcases hr with rfl | ⟨h3, h6, ht⟩
      · simp at hl
      · cases r with
        | nil => simp at hl
        | cons x t =>
          simp only [List.all_cons, Bool.and_eq_true, tri, decide_eq_true_eq] at ht
          simp only [List.length_cons] at h3 h6
          refine ⟨(x :: t).set (0 : Int).toNat (wrap64 (v - 2)), p2 + 1, ?_, by omega, by omega, Ev.bnd a3 (Ev.bnd r2 (Ev.bnd c3 (Ev.pos hc (Ev.pos hl (Ev.bnd v2 (Ev.pos (by omega) (Ev.now _)))))))⟩
          rw [w64 (by omega) (by omega)]
          exact frontsD_mem (by omega) (by omega) (by simpa [tri] using ht.2) (by omega) (by omega)
    · exact ⟨r, p2, hm, by omega, by omega, Ev.bnd a3 (Ev.bnd r2 (Ev.bnd c3 (Ev.pos hc (Ev.neg hl (Ev.now _)))))⟩
  · exact ⟨r, p2, hm, by omega, by omega, Ev.bnd a3 (Ev.bnd r2 (Ev.bnd c3 (Ev.neg hc (Ev.now _))))⟩

def restFnFrontStep (k : Nat) (t529 : List Int) : Option Bool := ((impl_FrontStep.f k t529).bind fun t532 => ((spec_FrontStep.f k t529).bind fun t535 => ((laws_sameInts.f k t532 t535).bind fun t538 => (if t538 = true then (if (t532.length : Int) = 0 then ((impl_FrontsOk.f k t529).bind fun t539 => (if t539 = true then (some false) else ((laws_alive.f k).bind fun t540 => (some t540)))) else (laws_FnFrontStep.l0 k t529 t532 0 0 0 0)) else (some false)))))
theorem restFnFrontStep_mono (t : List Int) (k : Nat) : LeO (restFnFrontStep k t) (restFnFrontStep (k + 1) t) := by
  obtain ⟨ih0, ih1⟩ := laws_FnFrontStep.mono_l k
  unfold restFnFrontStep
  repeat' first
    | (with_reducible apply ih0)
    | (with_reducible apply ih1)
    | (with_reducible exact impl_FrontStep.mono _ _)
    | (with_reducible exact impl_FrontsOk.mono _ _)
    | (with_reducible exact laws_alive.mono _)
    | (with_reducible exact laws_sameInts.mono _ _ _)
    | (with_reducible exact spec_FrontStep.mono _ _)
    | (with_reducible exact LeO.refl _)
    | (with_reducible exact LeO.none _)
    | (with_reducible refine LeO.ite ?_ ?_)
    | (with_reducible refine LeO.bind ?_ (fun _ => ?_))
    | exact LeO.none _
    | refine LeO.ite ?_ ?_
    | refine LeO.bind ?_ (fun _ => ?_)
theorem restFnFrontStep_2_0 : (rows3 2).all (fun t => restFnFrontStep 200 ((-2) :: t) == some true) = true := by kernel_rfl
theorem restFnFrontStep_2_1 : (rows3 2).all (fun t => restFnFrontStep 200 ((-1) :: t) == some true) = true := by kernel_rfl
theorem restFnFrontStep_2_2 : (rows3 2).all (fun t => restFnFrontStep 200 (0 :: t) == some true) = true := by kernel_rfl
theorem restFnFrontStep_2_3 : (rows3 2).all (fun t => restFnFrontStep 200 (1 :: t) == some true) = true := by kernel_rfl
theorem restFnFrontStep_3_0 : (rows3 3).all (fun t => restFnFrontStep 200 ((-2) :: t) == some true) = true := by kernel_rfl
theorem restFnFrontStep_3_1 : (rows3 3).all (fun t => restFnFrontStep 200 ((-1) :: t) == some true) = true := by kernel_rfl
theorem restFnFrontStep_3_2 : (rows3 3).all (fun t => restFnFrontStep 200 (0 :: t) == some true) = true := by kernel_rfl
theorem restFnFrontStep_3_3 : (rows3 3).all (fun t => restFnFrontStep 200 (1 :: t) == some true) = true := by kernel_rfl
theorem restFnFrontStep_4_0 : (rows3 4).all (fun t => restFnFrontStep 200 ((-2) :: t) == some true) = true := by kernel_rfl
theorem restFnFrontStep_4_1 : (rows3 4).all (fun t => restFnFrontStep 200 ((-1) :: t) == some true) = true := by kernel_rfl
theorem restFnFrontStep_4_2 : (rows3 4).all (fun t => restFnFrontStep 200 (0 :: t) == some true) = true := by kernel_rfl
theorem restFnFrontStep_4_3 : (rows3 4).all (fun t => restFnFrontStep 200 (1 :: t) == some true) = true := by kernel_rfl
theorem restFnFrontStep_5_0 : (rows3 5).all (fun t => restFnFrontStep 200 ((-2) :: t) == some true) = true := by kernel_rfl
theorem restFnFrontStep_5_1 : (rows3 5).all (fun t => restFnFrontStep 200 ((-1) :: t) == some true) = true := by kernel_rfl
theorem restFnFrontStep_5_2 : (rows3 5).all (fun t => restFnFrontStep 200 (0 :: t) == some true) = true := by kernel_rfl
theorem restFnFrontStep_5_3 : (rows3 5).all (fun t => restFnFrontStep 200 (1 :: t) == some true) = true := by kernel_rfl
theorem restFnFrontStep_nil : (restFnFrontStep 200 ([] : List Int) == some true) = true := by kernel_rfl
theorem restFnFrontStep_all : frontsD.all (fun t => restFnFrontStep 200 t == some true) = true := by
  refine frontsD_of (P := fun t => restFnFrontStep 200 t == some true) restFnFrontStep_nil (fun m hm v hv => ?_)
  simp only [List.mem_cons, List.not_mem_nil, or_false] at hm hv
  rcases hm with rfl | rfl | rfl | rfl <;> rcases hv with rfl | rfl | rfl | rfl
  · exact restFnFrontStep_2_0
  · exact restFnFrontStep_2_1
  · exact restFnFrontStep_2_2
  · exact restFnFrontStep_2_3
  · exact restFnFrontStep_3_0
  · exact restFnFrontStep_3_1
  · exact restFnFrontStep_3_2
  · exact restFnFrontStep_3_3
  · exact restFnFrontStep_4_0
  · exact restFnFrontStep_4_1
  · exact restFnFrontStep_4_2
  · exact restFnFrontStep_4_3
  · exact restFnFrontStep_5_0
  · exact restFnFrontStep_5_1
  · exact restFnFrontStep_5_2
  · exact restFnFrontStep_5_3
theorem drawFnFrontStep {l : List Int} (hw : ∀ x ∈ l, (Lit.int .u8 x).wf = true) : ∃ t, t ∈ frontsD ∧ Ev (fun k => spec_DrawFrontStep.f k l) t := by
  unfold spec_DrawFrontStep.f
  obtain ⟨b, e, hb⟩ := open_ev l hw
  obtain ⟨r, p, hr, _, _, h⟩ := fronts_ev hb (p := 0) (by omega) (by omega)
  exact ⟨r, hr, Ev.bnd0 e (Ev.bnd h (Ev.now _))⟩
theorem FnFrontStep : laws_FnFrontStep.Pure := by
  intro l0 _ _ hw
  refine Ev.rounds (g := fun k => laws_FnFrontStep.f k l0) ?_
  unfold laws_FnFrontStep.f
  refine Ev.iteS (fun _ => Ev.now _) (fun _ => ?_)
  obtain ⟨t, ht, hd⟩ := drawFnFrontStep hw
  refine Ev.bnd hd ?_
  have h := frontsD_all restFnFrontStep_all ht
  simp only [beq_iff_eq] at h
  exact Ev.of (restFnFrontStep_mono t) (k := 200) h
end Go.Proofs.Ythkngbdijoeolaa.Pure
