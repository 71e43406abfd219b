/- What the law FnScriptOk asks, proved over the functions: for every input that its guards let in, it answers true. -/
import Derived.Test.YtfhkahlfpchhpaaKit
import Derived.Test.YtfhkahlfpchhpaaF0
import Derived.Test.YtfhkahlfpchhpaaF1
import Derived.Test.YtfhkahlfpchhpaaF30
import Derived.Test.YtfhkahlfpchhpaaF35
import Derived.Test.YtfhkahlfpchhpaaF40
import Derived.Test.YtfhkahlfpchhpaaF9
import Derived.Test.YtfhkahlfpchhpaaFFnScriptOk
import Derived.Test.YtfhkahlfpchhpaaT
set_option linter.unusedVariables false
set_option linter.unusedSimpArgs false
namespace Go.Proofs.Ytfhkahlfpchhpaa.Pure
open Go Go.RowKit Go.Proofs.Ytfhkahlfpchhpaa.PAll Go.Proofs.YtfhkahlfpchhpaaW.PrintWords Go.Proofs.YtfhkahlfpchhpaaW.PrintLast Go.Proofs.YtfhkahlfpchhpaaW.PrintMore Go.Proofs.Ytfhkahlfpchhpaa.Kit
/-! ### drawing -/
def BytesP (b : List Int) : Prop := b.length ≤ 2000 ∧ ∀ i, 0 ≤ b.getD i 0 ∧ b.getD i 0 < 256
theorem rd_byte {b : List Int} (h : BytesP b) (i : Int) : 0 ≤ rd b i ∧ rd b i < 256 := h.2 i.toNat
theorem bytes_of {l : List Int} (h : ∀ x ∈ l, (Lit.int .u8 x).wf = true) (i : Nat) : 0 ≤ l.getD i 0 ∧ l.getD i 0 < 256 := by
  rw [List.getD_eq_getElem?_getD]
  by_cases hi : i < l.length
  · rw [List.getElem?_eq_getElem hi]
    have := h _ (List.getElem_mem hi)
    have h' : IntKind.u8.min ≤ l[i] ∧ l[i] ≤ IntKind.u8.max := by simpa [Lit.wf] using this
    have e : IntKind.u8.min = 0 := by decide
    have e' : IntKind.u8.max = 255 := by decide
    simp only [Option.getD_some]
    omega
  · rw [List.getElem?_eq_none (by omega)]; simp
theorem open_ev (l : List Int) (h : ∀ x ∈ l, (Lit.int .u8 x).wf = true) : ∃ b, spec_l20Open.f l = some (b, 0) ∧ BytesP b := by
  unfold spec_l20Open.f
  by_cases h1 : (l.length : Int) > 2000
  · refine ⟨l.take 2000, by rw [if_pos h1, if_pos (by omega)], by simp; omega, fun i => ?_⟩
    rw [List.getD_eq_getElem?_getD, List.getElem?_take]
    split
    · rw [← List.getD_eq_getElem?_getD]; exact bytes_of h i
    · simp
  · exact ⟨l, by rw [if_neg h1], by omega, bytes_of h⟩
theorem xor_nonneg {a b : Int} (ha : 0 ≤ a) (ha' : a < 2 ^ 62) (hb : 0 ≤ b) (hb' : b < 2 ^ 62) : 0 ≤ Go.bits .xor .i64 a b := by
  obtain ⟨x, rfl⟩ := Int.eq_ofNat_of_zero_le ha
  obtain ⟨y, rfl⟩ := Int.eq_ofNat_of_zero_le hb
  have hx : x < 2 ^ 62 := by exact_mod_cast ha'
  have hy : y < 2 ^ 62 := by exact_mod_cast hb'
  have e1 : x % 2 ^ IntKind.i64.bits = x := Nat.mod_eq_of_lt (Nat.lt_of_lt_of_le hx (by decide))
  have e2 : y % 2 ^ IntKind.i64.bits = y := Nat.mod_eq_of_lt (Nat.lt_of_lt_of_le hy (by decide))
  have h1 : x ^^^ y < 2 ^ 62 := Nat.xor_lt_two_pow hx hy
  simp only [Go.bits, BitVec.ofInt_natCast, BitVec.toNat_xor, BitVec.toNat_ofNat, e1, e2]
  have h2 : ((x ^^^ y : Nat) : Int) < 2 ^ 62 := by exact_mod_cast h1
  rw [wraps_i64 _ (Int.natCast_nonneg _) (by omega)]
  exact Int.natCast_nonneg _
theorem tmod_in {a n : Int} (ha : 0 ≤ a) (hn : 0 < n) : 0 ≤ Int.tmod a n ∧ Int.tmod a n < n := ⟨Int.tmod_nonneg n ha, Int.tmod_lt_of_pos a hn⟩
theorem pick_ev {b : List Int} (hb : BytesP b) {p n : Int} (hp0 : 0 ≤ p) (hp : p ≤ 1000000) (hn : 1 ≤ n) (hn' : n ≤ 1000000) : ∃ v, 0 ≤ v ∧ v < n ∧ Ev (fun k => spec_l20Rd_pick.f k b p n) (v, p + 1) := by
  unfold spec_l20Rd_pick.f
  rw [w64 (x := p + 1) (by omega) (by omega)]
  by_cases h0 : (b.length : Int) = 0
  · refine ⟨0, by omega, by omega, Ev.neg (by omega) ?_⟩
    rw [beq_iff_eq.2 h0]
    exact Ev.step (fun k => by rw [spec_l20Rd_pick.j0]) (Ev.pos rfl (Ev.now _))
  · have hb1 := hb.1
    have e1 : wrap64 (p + 1 - 1) = p := by rw [w64 (by omega) (by omega)]; omega
    by_cases h1 : p < (b.length : Int)
    · have hr := rd_byte hb p
      obtain ⟨g1, g2⟩ := tmod_in (a := wrap64 (rd b p)) (n := n) (by rw [w64 (by omega) (by omega)]; omega) (by omega)
      refine ⟨Int.tmod (wrap64 (rd b p)) n, g1, g2, Ev.neg (by omega) ?_⟩
      rw [beq_eq_false_iff_ne.2 h0]
      refine Ev.step (fun k => by rw [spec_l20Rd_pick.j0]) (Ev.neg (by decide) ?_)
      rw [e1]
      exact Ev.pos h1 (Ev.pos (by omega) (Ev.neg (by omega) (Ev.now _)))
    · have hl : 0 < (b.length : Int) := by omega
      obtain ⟨a1, a2⟩ := tmod_in (a := p) (n := b.length) (by omega) hl
      obtain ⟨a3, a4⟩ := tmod_in (a := wrap64 (wrap64 (p * 7) + 3)) (n := b.length) (by rw [w64 (x := p * 7) (by omega) (by omega), w64 (by omega) (by omega)]; omega) hl
      have r1 := rd_byte hb (Int.tmod p b.length)
      have r2 := rd_byte hb (Int.tmod (wrap64 (wrap64 (p * 7) + 3)) b.length)
      have d1 : 0 ≤ Int.tdiv p b.length := Int.tdiv_nonneg hp0 (by omega)
      have d2 : Int.tdiv p b.length ≤ p := Int.tdiv_le_self _ hp0
      have fin : ∀ X, 0 ≤ X → X ≤ 200000000 → 0 ≤ Int.tmod (Go.bits .xor .i64 X (wrap64 (Int.tdiv X 64))) n ∧ Int.tmod (Go.bits .xor .i64 X (wrap64 (Int.tdiv X 64))) n < n := by
        intro X x0 x1
        have e : Int.tdiv X 64 = X / 64 := Int.tdiv_eq_ediv_of_nonneg x0
        rw [e, w64 (by omega) (by omega)]
        exact tmod_in (xor_nonneg x0 (by omega) (by omega) (by omega)) (by omega)
      obtain ⟨X, hX, x0, x1⟩ : ∃ X, X = wrap64 (wrap64 (wrap64 (wrap64 (wrap64 (rd b (Int.tmod p b.length)) * 131) + wrap64 (wrap64 (rd b (Int.tmod (wrap64 (wrap64 (p * 7) + 3)) b.length)) * 1117)) + wrap64 (p * 29)) + wrap64 (wrap64 (Int.tdiv p b.length) * 53)) ∧ 0 ≤ X ∧ X ≤ 200000000 := by
        refine ⟨_, rfl, ?_⟩
        generalize rd b (Int.tmod p b.length) = u at *
        generalize rd b (Int.tmod (wrap64 (wrap64 (p * 7) + 3)) b.length) = v at *
        generalize Int.tdiv p b.length = w at *
        rw [w64 (x := u) (by omega) (by omega), w64 (x := v) (by omega) (by omega), w64 (x := w) (by omega) (by omega)]
        rw [w64 (x := u * 131) (by omega) (by omega), w64 (x := v * 1117) (by omega) (by omega), w64 (x := p * 29) (by omega) (by omega), w64 (x := w * 53) (by omega) (by omega)]
        rw [w64 (x := u * 131 + v * 1117) (by omega) (by omega), w64 (x := u * 131 + v * 1117 + p * 29) (by omega) (by omega), w64 (x := u * 131 + v * 1117 + p * 29 + w * 53) (by omega) (by omega)]
        omega
      refine ⟨Int.tmod (Go.bits .xor .i64 X (wrap64 (Int.tdiv X 64))) n, (fin X x0 x1).1, (fin X x0 x1).2, Ev.neg (by omega) ?_⟩
      rw [beq_eq_false_iff_ne.2 h0]
      refine Ev.step (fun k => by rw [spec_l20Rd_pick.j0]) (Ev.neg (by decide) ?_)
      rw [e1, ← hX]
      exact Ev.neg h1 (Ev.neg h0 (Ev.pos a1 (Ev.pos a2 (Ev.pos a3 (Ev.pos a4 (Ev.neg (by omega) (Ev.now _)))))))

theorem odd_ev {b : List Int} (hb : BytesP b) {p n : Int} (hp0 : 0 ≤ p) (hp : p ≤ 1000000) (hn' : n ≤ 1000000) : ∃ c p', p ≤ p' ∧ p' ≤ p + 1 ∧ Ev (fun k => spec_l20Rd_odd.f k b p n) (c, p') := by
  unfold spec_l20Rd_odd.f
  by_cases h : n > 0
  · obtain ⟨v, _, _, h3⟩ := pick_ev hb hp0 hp (n := n) (by omega) hn'
    exact ⟨_, _, by omega, by omega, Ev.pos h (Ev.bnd h3 (Ev.now _))⟩
  · exact ⟨_, _, by omega, by omega, Ev.neg h (Ev.now _)⟩

/-! ### drawing a script -/
theorem script_tail {b : List Int} (hb : BytesP b) {nodes o : Int} (ho : o ≤ 1000) (l : List S64) (t x y p : Int) (hl : l.length ≤ 1000) (hp0 : 0 ≤ p) (hp : p ≤ 900000) :
    ∃ l' p', l'.length ≤ l.length + 1 ∧ p ≤ p' ∧ p' ≤ p + 2 ∧ Ev (fun k => spec_l20Script.j1 k nodes o l t x y false b p) (l', p') := by
  obtain ⟨c, p1, a1, a2, a3⟩ := odd_ev hb (p := p) (n := o) hp0 (by omega) (by omega)
  obtain ⟨v, v0, v1, v2⟩ := pick_ev hb (p := p1) (n := 3) (by omega) (by omega) (by omega) (by omega)
  by_cases hc : c = true
  · obtain ⟨y, hy⟩ : ∃ y : S64, y = ⟨(rd_T64 [(⟨(-1), 0⟩ : S64), (⟨60, 0⟩ : S64), (⟨59, 6⟩ : S64)] v).f0, (rd_T64 [(⟨(-1), 0⟩ : S64), (⟨60, 0⟩ : S64), (⟨59, 6⟩ : S64)] v).f1⟩ := ⟨_, rfl⟩
    refine ⟨l ++ [y], p1 + 1, by simp, by omega, by omega, ?_⟩
    refine Ev.step (fun k => by rw [spec_l20Script.j1]) (Ev.neg (by decide) (Ev.bnd a3 (Ev.pos hc ?_)))
    refine Ev.bnd0 rfl ?_
    refine Ev.bnd v2 (Ev.pos v0 (Ev.pos (show v < ((3 : Nat) : Int) by omega) (Ev.pos (by omega) ?_)))
    rw [hy]
    exact Ev.now _
  · exact ⟨l, p1, by omega, by omega, by omega, Ev.step (fun k => by rw [spec_l20Script.j1]) (Ev.neg (by decide) (Ev.bnd a3 (Ev.neg hc (Ev.now _))))⟩
theorem script_l0 {b : List Int} (hb : BytesP b) {nodes o : Int} (h1 : 0 ≤ nodes) (h6 : nodes ≤ 1000) (ho : o ≤ 1000) : ∀ (m : Nat) (l : List S64) (t x p : Int), l.length + m ≤ 1000 → 0 ≤ p → p + 5 * m ≤ 900000 →
    ∃ l' p', l'.length ≤ l.length + m + 1 ∧ p ≤ p' ∧ p' ≤ p + 5 * m + 2 ∧ Ev (fun k => spec_l20Script.l0 k nodes o l t x (m : Int) b p) (l', p') := by
  intro m
  induction m with
  | zero =>
    intro l t x p hl hp0 hp
    obtain ⟨l', p', c1, c2, c3, c4⟩ := script_tail hb ho l t x ((0 : Nat) : Int) p (by omega) hp0 (by omega) (nodes := nodes)
    exact ⟨l', p', by omega, by omega, by omega, Ev.step (fun k => by rw [spec_l20Script.l0]) (Ev.neg (by omega) c4)⟩
  | succ m ih =>
    intro l t x p hl hp0 hp
    by_cases hz : nodes = 0
    · obtain ⟨l', p', c1, c2, c3, c4⟩ := script_tail hb ho l t x ((m + 1 : Nat) : Int) p (by omega) hp0 (by omega) (nodes := nodes)
      refine ⟨l', p', by omega, by omega, by omega, Ev.step (fun k => by rw [spec_l20Script.l0]) (Ev.pos (by omega) ?_)⟩
      rw [show decide (nodes > 0) = false from decide_eq_false (by omega)]; exact c4
    have em : wrap64 (((m + 1 : Nat) : Int) - 1) = (m : Int) := by rw [w64 (by omega) (by omega)]; omega
    have next : ∀ (y : S64) (t' x' q : Int), p ≤ q → q ≤ p + 5 → ∃ l' p', l'.length ≤ l.length + (m + 1) + 1 ∧ p ≤ p' ∧ p' ≤ p + 5 * (m + 1 : Nat) + 2 ∧ Ev (fun k => spec_l20Script.l0 k nodes o (l ++ [y]) t' x' (wrap64 (((m + 1 : Nat) : Int) - 1)) b q) (l', p') := by
      intro y t' x' q q0 q1
      obtain ⟨l', p', c1, c2, c3, c4⟩ := ih (l ++ [y]) t' x' q (by simp; omega) (by omega) (by omega)
      rw [List.length_append, List.length_singleton] at c1
      rw [em]
      exact ⟨l', p', by omega, by omega, by omega, c4⟩
    have j2 : ∀ (t' x' q : Int) (c : Bool), p ≤ q → q ≤ p + 3 → ∃ l' p', l'.length ≤ l.length + (m + 1) + 1 ∧ p ≤ p' ∧ p' ≤ p + 5 * (m + 1 : Nat) + 2 ∧ Ev (fun k => spec_l20Script.j2 k nodes o l t' x' ((m + 1 : Nat) : Int) c b q) (l', p') := by
      intro t' x' q c q0 q1
      obtain ⟨u, u0, u1, u2⟩ := pick_ev hb (p := q) (n := 4) (by omega) (by omega) (by omega) (by omega)
      obtain ⟨v, v0, v1, v2⟩ := pick_ev hb (p := q + 1) (n := nodes) (by omega) (by omega) (by omega) (by omega)
      cases c with
      | true =>
        obtain ⟨l', p', c1, c2, c3, c4⟩ := next ⟨wrap64 (wrap64 (t' + 1) + u), v⟩ (wrap64 (wrap64 (t' + 1) + u)) v (q + 1 + 1) (by omega) (by omega)
        refine ⟨l', p', c1, c2, c3, Ev.step (fun k => by rw [spec_l20Script.j2]) (Ev.pos rfl (Ev.bnd u2 (Ev.bnd v2 ?_)))⟩
        exact Ev.pos (show l.length < 8796093022208 by omega) c4
      | false =>
        obtain ⟨l', p', c1, c2, c3, c4⟩ := next ⟨t', x'⟩ t' x' q (by omega) (by omega)
        refine ⟨l', p', c1, c2, c3, Ev.step (fun k => by rw [spec_l20Script.j2]) (Ev.neg (by decide) ?_)⟩
        exact Ev.pos (show l.length < 8796093022208 by omega) c4
    obtain ⟨v, v0, v1, v2⟩ := pick_ev hb (p := p) (n := 2) (by omega) (by omega) (by omega) (by omega)
    obtain ⟨w, w0, w1, w2⟩ := pick_ev hb (p := p + 1) (n := 3) (by omega) (by omega) (by omega) (by omega)
    by_cases hg : wrap64 (wrap64 (x + 1) + v) ≥ nodes
    · obtain ⟨l', p', c1, c2, c3, c4⟩ := j2 t (wrap64 (wrap64 (x + 1) + v)) (p + 1) true (by omega) (by omega)
      exact ⟨l', p', by omega, c2, c3, Ev.step (fun k => by rw [spec_l20Script.l0]) (Ev.pos (by omega) (Ev.step (fun k => by rw [spec_l20Script.j1]) (Ev.pos (decide_eq_true (by omega)) (Ev.bnd v2 (Ev.pos hg c4)))))⟩
    · obtain ⟨l', p', c1, c2, c3, c4⟩ := j2 t (wrap64 (wrap64 (x + 1) + v)) (p + 1 + 1) (decide (w > 0)) (by omega) (by omega)
      exact ⟨l', p', by omega, c2, c3, Ev.step (fun k => by rw [spec_l20Script.l0]) (Ev.pos (by omega) (Ev.step (fun k => by rw [spec_l20Script.j1]) (Ev.pos (decide_eq_true (by omega)) (Ev.bnd v2 (Ev.neg hg (Ev.bnd w2 c4))))))⟩
theorem script_ev {b : List Int} (hb : BytesP b) {nodes o p : Int} (h1 : 0 ≤ nodes) (h6 : nodes ≤ 1000) (ho : o ≤ 1000) (hp0 : 0 ≤ p) (hp : p ≤ 800000) :
    ∃ (l : List S64) (p' : Int), l.length ≤ 6 ∧ p ≤ p' ∧ p' ≤ p + 40 ∧ Ev (fun k => spec_l20Script.f k b p nodes o) (l, p') := by
  unfold spec_l20Script.f
  obtain ⟨u, u0, u1, u2⟩ := pick_ev hb (p := p) (n := 6) (by omega) (by omega) (by omega) (by omega)
  obtain ⟨m, rfl⟩ := Int.eq_ofNat_of_zero_le u0
  obtain ⟨l', p', c1, c2, c3, c4⟩ := script_l0 hb h1 h6 ho m [] 0 (-1) (p + 1) (by simp; omega) (by omega) (by omega)
  exact ⟨l', p', by simpa using (show l'.length ≤ 6 by simp at c1; omega), by omega, by omega, Ev.bnd u2 c4⟩

/-! ### lists of lights: compared, marked, held -/
theorem rdL (xs : List S64) (i : Nat) : rd_T64 xs (i : Int) = xs.getD i z64 := by simp [rd_T64]
theorem extL {a b : List S64} (hl : a.length = b.length) (h : ∀ j, j < a.length → a.getD j z64 = b.getD j z64) : a = b := by
  refine List.ext_getElem hl (fun i h1 h2 => ?_)
  have := h i h1
  rwa [List.getD_eq_getElem?_getD, List.getD_eq_getElem?_getD, List.getElem?_eq_getElem h1, List.getElem?_eq_getElem h2] at this
theorem setL (s : List S64) (i j : Nat) (v : S64) (h : i < s.length) : (s.set i v).getD j z64 = if i = j then v else s.getD j z64 := by
  rw [List.getD_eq_getElem?_getD, List.getElem?_set]
  by_cases e : i = j
  · subst e; rw [if_pos rfl, if_pos h, if_pos rfl]; rfl
  · rw [if_neg e, if_neg e, List.getD_eq_getElem?_getD]

/-! ### NetOk, both -/
theorem l1In_eq (a b c : Int) : spec_l1In.f a b c = some (decide (b ≤ a ∧ a ≤ c)) := by
  unfold spec_l1In.f
  by_cases h : a ≥ b
  · rw [if_pos h]; simp [h]
  · rw [if_neg h]; simp; omega
def SymQ (net : List Int) (i j : Nat) : Prop := tb (net.getD i 0) j = tb (net.getD j 0) i ∧ (j = i → tb (net.getD i 0) i = false)
instance (net : List Int) (i j : Nat) : Decidable (SymQ net i j) := by unfold SymQ; infer_instance
theorem symQ {net : List Int} {i : Nat} (hi : i < net.length) : SymP net i ↔ ∀ j, j < net.length → SymQ net i j := by
  constructor
  · rintro ⟨h1, h2⟩ j hj
    exact ⟨h2 j hj, fun _ => h1⟩
  · intro h
    exact ⟨(h i hi).2 rfl, fun j hj => (h j hj).1⟩
theorem sNetOk_l2 (net : List Int) (hn : net.length ≤ 6) (hr : ∀ i, i < net.length → RowP net i) (i : Nat) (hi : i < net.length) (j : Nat) (hj : j < net.length) (c : Bool)
    (h : Ev (fun k => if b01 (tb (net.getD i 0) j) = b01 (tb (net.getD j 0) i) then (if (j : Int) = (i : Int) then (if b01 (tb (net.getD i 0) j) = 1 then some false else spec_NetOk.l2 k net (i : Int) ((j + 1 : Nat) : Int)) else spec_NetOk.l2 k net (i : Int) ((j + 1 : Nat) : Int)) else some false) c) : Ev (fun k => spec_NetOk.l2 k net (i : Int) (j : Int)) c := by
  have e1 : Int.tmod (shr .i64 (rd net (i : Int)) (j : Int)) 2 = b01 (tb (net.getD i 0) j) := by rw [rd_nat]; exact shr_tmod (hr i hi).1 j (by omega)
  have e2 : Int.tmod (shr .i64 (rd net (j : Int)) (i : Int)) 2 = b01 (tb (net.getD j 0) i) := by rw [rd_nat]; exact shr_tmod (hr j hj).1 i (by omega)
  refine Ev.step (fun k => by rw [spec_NetOk.l2]) ?_
  rw [e1, e2, w64s j (by omega)]
  exact Ev.pos (by omega) (Ev.pos (by omega) (Ev.pos (by omega) (Ev.pos (by omega) h)))
theorem sNetOk_l1 (net : List Int) (hn : net.length ≤ 6) (hr : ∀ i, i < net.length → RowP net i) :
    Ev (fun k => spec_NetOk.l1 k net 0) (if ∀ j, j < net.length → SymP net j then true else false) := by
  refine ev_scan (F := fun k x => spec_NetOk.l1 k net x) (fun _ => ?_) (fun i hi hp b hb => ?_) (fun i hi _ hp => ?_)
  · exact Ev.step (fun k => by rw [spec_NetOk.l1]) (Ev.neg (by omega) (Ev.now _))
  all_goals refine Ev.step (fun k => by rw [spec_NetOk.l1]) (Ev.pos (by omega) ?_)
  all_goals rw [symQ hi] at hp
  · have H := ev_scan (F := fun k x => spec_NetOk.l2 k net (i : Int) x) (n := net.length) (P := SymQ net i) (r := b) (r' := false) (fun _ => ?_) (fun j hj hq c hc => ?_) (fun j hj _ hq => absurd (hp j hj) hq)
    · rw [if_pos hp] at H; exact H
    · refine Ev.step (fun k => by rw [spec_NetOk.l2]) (Ev.neg (by omega) ?_)
      rw [w64s i (by omega)]; exact hb
    · refine sNetOk_l2 net hn hr i hi j hj c (Ev.pos (b01_eq.2 hq.1) (Ev.iteS (fun h => Ev.neg (fun h' => ?_) hc) (fun h => hc)))
      obtain rfl : j = i := by omega
      rw [hq.2 rfl] at h'; cases h'
  · have H := ev_scan (F := fun k x => spec_NetOk.l2 k net (i : Int) x) (n := net.length) (P := SymQ net i) (r := true) (r' := false) (fun h => absurd h hp) (fun j hj hq c hc => ?_) (fun j hj _ hq => ?_)
    · rw [if_neg hp] at H; exact H
    · refine sNetOk_l2 net hn hr i hi j hj c (Ev.pos (b01_eq.2 hq.1) (Ev.iteS (fun h => Ev.neg (fun h' => ?_) hc) (fun h => hc)))
      obtain rfl : j = i := by omega
      rw [hq.2 rfl] at h'; cases h'
    · refine sNetOk_l2 net hn hr i hi j hj false (Ev.iteS (fun h => ?_) (fun h => Ev.now _))
      have h1 := b01_eq.1 h
      by_cases h2 : j = i
      · subst h2
        refine Ev.pos rfl (Ev.pos ?_ (Ev.now _))
        rw [b01_one]
        by_cases h3 : tb (net.getD j 0) j = true
        · exact h3
        · exact absurd ⟨rfl, fun _ => by simpa using h3⟩ hq
      · exact absurd ⟨h1, fun h => absurd h h2⟩ hq
theorem sNetOk (net : List Int) : Ev (fun k => spec_NetOk.f k net) (decide (NetP net)) := by
  unfold spec_NetOk.f
  refine Ev.bnd0 (l1In_eq _ _ _) ?_
  by_cases hn : 1 ≤ net.length ∧ net.length ≤ 6
  · refine Ev.pos (by simp; omega) ?_
    have hs : wrap64 (shl .i64 1 (net.length : Int) - 1) = 2 ^ net.length - 1 := by
      have := pow6 hn.2
      have h2 : (0 : Int) < 2 ^ net.length := Int.pow_pos (by decide)
      rw [shl_one _ (by omega), w64 (by simp; omega) (by simp; omega)]
      simp
    have pre : ∀ (i : Nat), i < net.length → ∀ c, Ev (fun k => if (decide (0 ≤ net.getD i 0 ∧ net.getD i 0 ≤ 2 ^ net.length - 1)) = true then spec_NetOk.l0 k net ((i + 1 : Nat) : Int) else some false) c → Ev (fun k => spec_NetOk.l0 k net (i : Int)) c := by
      intro i hi c h
      refine Ev.step (fun k => by rw [spec_NetOk.l0]) (Ev.pos (by omega) (Ev.pos (by omega) (Ev.bnd0 (l1In_eq _ _ _) ?_)))
      rw [rd_nat, hs, w64s i (by omega)]
      exact h
    have H := ev_scan (F := fun k x => spec_NetOk.l0 k net x) (n := net.length) (P := RowP net) (r := decide (NetP net)) (r' := false) (fun hr => ?_) (fun i hi hp b hb => ?_) (fun i hi _ hp => ?_)
    · refine Ev.to H ?_
      by_cases hr : ∀ i, i < net.length → RowP net i
      · rw [if_pos hr]
      · rw [if_neg hr]; symm; simp only [decide_eq_false_iff_not]; exact fun h => hr h.row
    · refine Ev.step (fun k => by rw [spec_NetOk.l0]) (Ev.neg (by omega) (Ev.to (sNetOk_l1 net hn.2 hr) ?_))
      rw [Bool.eq_iff_iff]
      simp only [decide_eq_true_eq]
      by_cases h : ∀ j, j < net.length → SymP net j
      · rw [if_pos h]; exact ⟨fun _ => ⟨hn.1, hn.2, hr, h⟩, fun _ => rfl⟩
      · rw [if_neg h]; exact ⟨fun h => (by cases h), fun h' => absurd h'.sym h⟩
    · exact pre i hi b (Ev.pos (by unfold RowP at hp; simp only [decide_eq_true_eq]; omega) hb)
    · exact pre i hi false (Ev.neg (by unfold RowP at hp; simp only [decide_eq_true_eq]; omega) (Ev.now _))
  · refine Ev.neg (by simp; omega) (Ev.val ?_)
    symm
    simp only [decide_eq_false_iff_not]
    exact fun h => hn ⟨h.lo, h.hi⟩
theorem iNetOk_l1 (net : List Int) (hn : net.length ≤ 6) (i : Nat) (hi : i < net.length) (x14 : List Int) (x15 x16 : Int) (v : Int) (j : Nat) (hj : j < net.length) (c : Bool)
    (h : Ev (fun k => if Go.bits .and .i64 (shr .i64 v (j : Int)) 1 = Go.bits .and .i64 (shr .i64 (net.getD j 0) (i : Int)) 1 then impl_NetOk.l1 k net (i : Int) v x14 x15 x16 (net.length : Int) ((j + 1 : Nat) : Int) else some false) c) :
    Ev (fun k => impl_NetOk.l1 k net (i : Int) v x14 x15 x16 (net.length : Int) (j : Int)) c := by
  refine Ev.step (fun k => by rw [impl_NetOk.l1]) ?_
  rw [rd_nat, w64s j (by omega)]
  exact Ev.pos (by omega) (Ev.pos (by omega) (Ev.pos (by omega) (Ev.pos (by omega) h)))
/-- What impl.NetOk asks of a row, as it asks. -/
def AskP (net : List Int) (i : Nat) : Prop :=
  0 ≤ net.getD i 0 ∧ net.getD i 0 < 2 ^ net.length ∧ ¬ Go.bits .and .i64 (shr .i64 (net.getD i 0) (i : Int)) 1 = 1 ∧
    ∀ j, j < net.length → Go.bits .and .i64 (shr .i64 (net.getD i 0) (j : Int)) 1 = Go.bits .and .i64 (shr .i64 (net.getD j 0) (i : Int)) 1
theorem asks {net : List Int} (hn : net.length ≤ 6) : (∀ i, i < net.length → AskP net i) ↔ (∀ i, i < net.length → RowP net i) ∧ ∀ i, i < net.length → SymP net i := by
  constructor
  · intro h
    have hr : ∀ i, i < net.length → RowP net i := fun i hi => ⟨(h i hi).1, (h i hi).2.1⟩
    refine ⟨hr, fun i hi => ⟨?_, fun j hj => ?_⟩⟩
    · have h1 := (h i hi).2.2.1
      have h2 := (hr i hi).big hn
      rw [shr_and (hr i hi).1 (by omega) i (by omega), b01_one] at h1
      simpa using h1
    · have h1 := (h i hi).2.2.2 j hj
      have h2 := (hr i hi).big hn
      have h3 := (hr j hj).big hn
      rw [shr_and (hr i hi).1 (by omega) j (by omega), shr_and (hr j hj).1 (by omega) i (by omega), b01_eq] at h1
      exact h1
  · rintro ⟨hr, hs⟩ i hi
    have h2 := (hr i hi).big hn
    refine ⟨(hr i hi).1, (hr i hi).2, ?_, fun j hj => ?_⟩
    · rw [shr_and (hr i hi).1 (by omega) i (by omega), b01_one, (hs i hi).1]; simp
    · have h3 := (hr j hj).big hn
      rw [shr_and (hr i hi).1 (by omega) j (by omega), shr_and (hr j hj).1 (by omega) i (by omega), b01_eq]
      exact (hs i hi).2 j hj
theorem iNetOk (net : List Int) : Ev (fun k => impl_NetOk.f k net) (decide (NetP net)) := by
  unfold impl_NetOk.f
  have stop : ¬ (1 ≤ net.length ∧ net.length ≤ 6) → Ev (fun k => impl_NetOk.j0 k net true) (decide (NetP net)) := fun hn =>
    Ev.step (fun k => by rw [impl_NetOk.j0]) (Ev.pos rfl (Ev.val (by symm; simp only [decide_eq_false_iff_not]; exact fun h => hn ⟨h.lo, h.hi⟩)))
  refine Ev.iteS (fun h1 => stop (by omega)) (fun h1 => ?_)
  by_cases h2 : (net.length : Int) > 6
  · rw [decide_eq_true h2]; exact stop (by omega)
  rw [decide_eq_false h2]
  have hn : net.length ≤ 6 := by omega
  refine Ev.step (fun k => by rw [impl_NetOk.j0]) (Ev.neg (by decide) ?_)
  classical
  have H := ev_scan (F := fun k x => impl_NetOk.l0 k net net (net.length : Int) x) (n := net.length) (P := AskP net) (r := true) (r' := false) (fun _ => ?_) (fun i hi hp b hb => ?_) (fun i hi _ hp => ?_)
  · refine Ev.to H ?_
    by_cases hr : ∀ i, i < net.length → AskP net i
    · rw [if_pos hr]; symm; simp only [decide_eq_true_eq]; exact ⟨by omega, hn, ((asks hn).1 hr).1, ((asks hn).1 hr).2⟩
    · rw [if_neg hr]; symm; simp only [decide_eq_false_iff_not]; exact fun h => hr ((asks hn).2 ⟨h.row, h.sym⟩)
  · exact Ev.step (fun k => by rw [impl_NetOk.l0]) (Ev.neg (by omega) (Ev.now _))
  · obtain ⟨a1, a2, a3, a4⟩ := hp
    refine Ev.step (fun k => by rw [impl_NetOk.l0]) (Ev.pos (by omega) (Ev.pos (by omega) (Ev.pos (by omega) ?_)))
    rw [rd_nat, shl_one _ (by omega), beq_eq_false_iff_ne.2 a3]
    refine Ev.neg (by omega) (Ev.neg (by simp; exact_mod_cast a2) ?_)
    refine Ev.step (fun k => by rw [impl_NetOk.j2]) (Ev.neg (by decide) ?_)
    refine ev_back (F := fun k x => impl_NetOk.l1 k net (i : Int) (net.getD i 0) net (net.length : Int) (i : Int) (net.length : Int) x) net.length ?_ (fun j hj e => ?_)
    · refine Ev.step (fun k => by rw [impl_NetOk.l1]) (Ev.neg (by omega) ?_)
      rw [w64s i (by omega)]; exact hb
    · exact iNetOk_l1 net hn i hi _ _ _ _ j hj b (Ev.pos (a4 j hj) e)
  · refine Ev.step (fun k => by rw [impl_NetOk.l0]) (Ev.pos (by omega) (Ev.pos (by omega) (Ev.pos (by omega) ?_)))
    rw [rd_nat, shl_one _ (by omega)]
    have out : ∀ v, Ev (fun k => impl_NetOk.j2 k net (i : Int) v net (net.length : Int) (i : Int) true) false := fun v =>
      Ev.step (fun k => by rw [impl_NetOk.j2]) (Ev.pos rfl (Ev.now _))
    refine Ev.iteS (fun _ => out _) (fun b1 => Ev.iteS (fun _ => out _) (fun b2 => ?_))
    by_cases b3 : Go.bits .and .i64 (shr .i64 (net.getD i 0) (i : Int)) 1 = 1
    · rw [b3]; exact out _
    rw [beq_eq_false_iff_ne.2 b3]
    refine Ev.step (fun k => by rw [impl_NetOk.j2]) (Ev.neg (by decide) ?_)
    have hq : ¬ ∀ j, j < net.length → Go.bits .and .i64 (shr .i64 (net.getD i 0) (j : Int)) 1 = Go.bits .and .i64 (shr .i64 (net.getD j 0) (i : Int)) 1 := fun h => hp ⟨by omega, by simp at b2; exact_mod_cast b2, b3, h⟩
    rcases first_bad (n := net.length) (P := fun j => Go.bits .and .i64 (shr .i64 (net.getD i 0) (j : Int)) 1 = Go.bits .and .i64 (shr .i64 (net.getD j 0) (i : Int)) 1) with h | ⟨m, h4, h5, h6⟩
    · exact absurd h hq
    · refine ev_back (F := fun k x => impl_NetOk.l1 k net (i : Int) (net.getD i 0) net (net.length : Int) (i : Int) (net.length : Int) x) m ?_ (fun j hj e => ?_)
      · exact iNetOk_l1 net hn i hi _ _ _ _ m h4 false (Ev.neg h5 (Ev.now _))
      · exact iNetOk_l1 net hn i hi _ _ _ _ j (by omega) false (Ev.pos (h6 j hj) e)

/-! ### ScriptOk, both -/
def LightP (nodes : Int) (l : List S64) (i : Nat) : Prop :=
  0 ≤ (l.getD i z64).f0 ∧ (l.getD i z64).f0 ≤ 59 ∧ 0 ≤ (l.getD i z64).f1 ∧ (l.getD i z64).f1 < nodes ∧
    (0 < i → (l.getD (i - 1) z64).f0 < (l.getD i z64).f0 ∨ ((l.getD i z64).f0 = (l.getD (i - 1) z64).f0 ∧ (l.getD (i - 1) z64).f1 < (l.getD i z64).f1))
instance (nodes : Int) (l : List S64) (i : Nat) : Decidable (LightP nodes l i) := by unfold LightP; infer_instance
def ScriptP (nodes : Int) (l : List S64) : Prop := 1 ≤ nodes ∧ nodes ≤ 6 ∧ l.length ≤ 8 ∧ ∀ i, i < l.length → LightP nodes l i
instance (nodes : Int) (l : List S64) : Decidable (ScriptP nodes l) := by unfold ScriptP; infer_instance
theorem w64p (i : Nat) (h0 : 0 < i) (h : i < 9223372036854775807) : wrap64 ((i : Int) - 1) = ((i - 1 : Nat) : Int) := by unfold wrap64; omega
theorem sScript_j1 (nodes : Int) (l : List S64) (hn : l.length ≤ 9223372036854775806) (i : Nat) (hi : i < l.length) {b : Bool} {Q : Prop} [Decidable Q]
    (hq : Q ↔ (0 < i → (l.getD (i - 1) z64).f0 < (l.getD i z64).f0 ∨ ((l.getD i z64).f0 = (l.getD (i - 1) z64).f0 ∧ (l.getD (i - 1) z64).f1 < (l.getD i z64).f1)))
    (h : Ev (fun k => if Q then spec_ScriptOk.l0 k nodes l ((i + 1 : Nat) : Int) else some false) b) : Ev (fun k => spec_ScriptOk.j1 k nodes l (i : Int) false) b := by
  refine Ev.step (fun k => by rw [spec_ScriptOk.j1]) (Ev.neg (by decide) ?_)
  by_cases h0 : 0 < i
  · rw [w64p i h0 (by omega), rdL, rdL, w64s i (by omega)]
    refine Ev.pos (by omega) (Ev.pos (by omega) (Ev.pos (by omega) (Ev.pos (by omega) (Ev.pos (by omega) ?_))))
    by_cases q : Q
    · have h' := Ev.congr (fun k => (if_pos q).symm) h
      rcases (hq.1 q) h0 with q1 | ⟨q1, q2⟩
      · exact Ev.neg (by omega) (Ev.neg (by omega) h')
      · exact Ev.neg (by omega) (Ev.pos (by omega) (Ev.neg (by omega) h'))
    · have h' := Ev.congr (fun k => (if_neg q).symm) h
      have q' : ¬ ((l.getD (i - 1) z64).f0 < (l.getD i z64).f0 ∨ ((l.getD i z64).f0 = (l.getD (i - 1) z64).f0 ∧ (l.getD (i - 1) z64).f1 < (l.getD i z64).f1)) := fun e => q (hq.2 (fun _ => e))
      refine Ev.iteS (fun _ => h') (fun g1 => Ev.iteS (fun g2 => Ev.iteS (fun _ => h') (fun g3 => ?_)) (fun g2 => ?_))
      · exact absurd (.inr ⟨g2, by omega⟩) q'
      · exact absurd (.inl (by omega)) q'
  · refine Ev.neg (by omega) ?_
    rw [w64s i (by omega)]
    exact Ev.congr (fun k => (if_pos (hq.2 (fun e => absurd e h0))).symm) h
theorem script_val (nodes : Int) (l : List S64) (h : ∀ i, i < l.length → LightP nodes l i) :
    (if (decide (1 ≤ nodes ∧ nodes ≤ 6)) = true then some (decide ((l.length : Int) ≤ 8)) else some false) = some (decide (ScriptP nodes l)) := by
  by_cases h1 : 1 ≤ nodes ∧ nodes ≤ 6
  · rw [if_pos (decide_eq_true h1)]; congr 1; rw [Bool.eq_iff_iff]; simp only [decide_eq_true_eq]
    exact ⟨fun e => ⟨h1.1, h1.2, by omega, h⟩, fun e => by have := e.2.2.1; omega⟩
  · rw [if_neg (by simpa using h1)]; congr 1; symm; simp only [decide_eq_false_iff_not]; exact fun e => h1 ⟨e.1, e.2.1⟩
theorem sScriptOk (nodes : Int) (l : List S64) (hn : l.length ≤ 9223372036854775806) : Ev (fun k => spec_ScriptOk.f k nodes l) (decide (ScriptP nodes l)) := by
  unfold spec_ScriptOk.f
  have out : ∀ i : Nat, Ev (fun k => spec_ScriptOk.j1 k nodes l (i : Int) true) false := fun i => Ev.step (fun k => by rw [spec_ScriptOk.j1]) (Ev.pos rfl (Ev.now _))
  have H := ev_scan (F := fun k x => spec_ScriptOk.l0 k nodes l x) (n := l.length) (P := LightP nodes l) (r := decide (ScriptP nodes l)) (r' := false) (fun h => ?_) (fun i hi hp b hb => ?_) (fun i hi _ hp => ?_)
  · refine Ev.to H ?_
    by_cases h : ∀ i, i < l.length → LightP nodes l i
    · rw [if_pos h]
    · rw [if_neg h]; symm; simp only [decide_eq_false_iff_not]; exact fun e => h e.2.2.2
  · refine Ev.step (fun k => by rw [spec_ScriptOk.l0]) (Ev.neg (by omega) ?_)
    refine Ev.bnd0 (l1In_eq _ _ _) ?_
    rw [script_val nodes l h]; exact Ev.now _
  · obtain ⟨p1, p2, p3, p4, p5⟩ := hp
    refine Ev.step (fun k => by rw [spec_ScriptOk.l0]) (Ev.pos (by omega) (Ev.pos (by omega) (Ev.bnd0 (l1In_eq _ _ _) ?_)))
    rw [rdL]
    refine Ev.pos (decide_eq_true ⟨p1, p2⟩) (Ev.neg (by omega) ?_)
    rw [decide_eq_false (by omega)]
    exact sScript_j1 nodes l hn i hi Iff.rfl (Ev.pos p5 hb)
  · refine Ev.step (fun k => by rw [spec_ScriptOk.l0]) (Ev.pos (by omega) (Ev.pos (by omega) (Ev.bnd0 (l1In_eq _ _ _) ?_)))
    rw [rdL]
    refine Ev.iteS (fun g1 => Ev.iteS (fun g2 => out i) (fun g2 => ?_)) (fun g1 => out i)
    simp only [decide_eq_true_eq] at g1
    by_cases g3 : (l.getD i z64).f1 ≥ nodes
    · rw [decide_eq_true g3]; exact out i
    · rw [decide_eq_false g3]
      exact sScript_j1 nodes l hn i hi Iff.rfl (Ev.neg (fun e => hp ⟨g1.1, g1.2, by omega, by omega, e⟩) (Ev.now _))
theorem iScript_j1 (nodes : Int) (l : List S64) (hn : l.length ≤ 9223372036854775806) (i : Nat) (hi : i < l.length) {b : Bool} {Q : Prop} [Decidable Q]
    (hq : Q ↔ (0 < i → (l.getD (i - 1) z64).f0 < (l.getD i z64).f0 ∨ ((l.getD i z64).f0 = (l.getD (i - 1) z64).f0 ∧ (l.getD (i - 1) z64).f1 < (l.getD i z64).f1)))
    (h : Ev (fun k => if Q then impl_ScriptOk.l0 k nodes l l (l.length : Int) ((i + 1 : Nat) : Int) else some false) b) : Ev (fun k => impl_ScriptOk.j1 k nodes l (i : Int) l (l.length : Int) (i : Int) false (l.getD i z64).f0 (l.getD i z64).f1) b := by
  refine Ev.step (fun k => by rw [impl_ScriptOk.j1]) (Ev.neg (by decide) ?_)
  by_cases h0 : 0 < i
  · rw [w64p i h0 (by omega), rdL, w64s i (by omega)]
    refine Ev.pos (by omega) (Ev.pos (by omega) (Ev.pos (by omega) ?_))
    by_cases q : Q
    · have h' := Ev.congr (fun k => (if_pos q).symm) h
      rcases (hq.1 q) h0 with q1 | ⟨q1, q2⟩
      · exact Ev.neg (by omega) (Ev.neg (by omega) h')
      · exact Ev.neg (by omega) (Ev.pos (by omega) (Ev.neg (by omega) h'))
    · have h' := Ev.congr (fun k => (if_neg q).symm) h
      have q' : ¬ ((l.getD (i - 1) z64).f0 < (l.getD i z64).f0 ∨ ((l.getD i z64).f0 = (l.getD (i - 1) z64).f0 ∧ (l.getD (i - 1) z64).f1 < (l.getD i z64).f1)) := fun e => q (hq.2 (fun _ => e))
      refine Ev.iteS (fun _ => h') (fun g1 => Ev.iteS (fun g2 => Ev.iteS (fun _ => h') (fun g3 => ?_)) (fun g2 => ?_))
      · exact absurd (.inr ⟨g2, by omega⟩) q'
      · exact absurd (.inl (by omega)) q'
  · refine Ev.neg (by omega) ?_
    rw [w64s i (by omega)]
    exact Ev.congr (fun k => (if_pos (hq.2 (fun e => absurd e h0))).symm) h
theorem iScriptOk (nodes : Int) (l : List S64) (hn : l.length ≤ 9223372036854775806) : Ev (fun k => impl_ScriptOk.f k nodes l) (decide (ScriptP nodes l)) := by
  unfold impl_ScriptOk.f
  have out : ∀ (i : Nat) x y, Ev (fun k => impl_ScriptOk.j1 k nodes l (i : Int) l (l.length : Int) (i : Int) true x y) false := fun i x y => Ev.step (fun k => by rw [impl_ScriptOk.j1]) (Ev.pos rfl (Ev.now _))
  have H := ev_scan (F := fun k x => impl_ScriptOk.l0 k nodes l l (l.length : Int) x) (n := l.length) (P := LightP nodes l) (r := decide (ScriptP nodes l)) (r' := false) (fun h => ?_) (fun i hi hp b hb => ?_) (fun i hi _ hp => ?_)
  · refine Ev.to H ?_
    by_cases h : ∀ i, i < l.length → LightP nodes l i
    · rw [if_pos h]
    · rw [if_neg h]; symm; simp only [decide_eq_false_iff_not]; exact fun e => h e.2.2.2
  · refine Ev.step (fun k => by rw [impl_ScriptOk.l0]) (Ev.neg (by omega) ?_)
    have e := script_val nodes l h
    by_cases h1 : 1 ≤ nodes ∧ nodes ≤ 6
    · rw [if_pos (decide_eq_true h1)] at e; rw [e]; exact Ev.pos h1.1 (Ev.pos h1.2 (Ev.now _))
    · rw [if_neg (by simpa using h1)] at e
      refine Ev.iteS (fun g1 => Ev.neg (fun g2 => h1 ⟨g1, g2⟩) (Ev.val (Option.some.inj e))) (fun g1 => Ev.val (Option.some.inj e))
  · obtain ⟨p1, p2, p3, p4, p5⟩ := hp
    refine Ev.step (fun k => by rw [impl_ScriptOk.l0]) (Ev.pos (by omega) (Ev.pos (by omega) (Ev.pos (by omega) ?_)))
    rw [rdL]
    refine Ev.neg (by omega) (Ev.neg (by omega) (Ev.neg (by omega) ?_))
    rw [decide_eq_false (by omega)]
    exact iScript_j1 nodes l hn i hi Iff.rfl (Ev.pos p5 hb)
  · refine Ev.step (fun k => by rw [impl_ScriptOk.l0]) (Ev.pos (by omega) (Ev.pos (by omega) (Ev.pos (by omega) ?_)))
    rw [rdL]
    refine Ev.iteS (fun g1 => out i _ _) (fun g1 => Ev.iteS (fun g2 => out i _ _) (fun g2 => Ev.iteS (fun g3 => out i _ _) (fun g3 => ?_)))
    by_cases g4 : (l.getD i z64).f1 ≥ nodes
    · rw [decide_eq_true g4]; exact out i _ _
    · rw [decide_eq_false g4]
      exact iScript_j1 nodes l hn i hi Iff.rfl (Ev.neg (fun e => hp ⟨by omega, by omega, by omega, by omega, e⟩) (Ev.now _))

theorem alive_ev : Ev (fun k => laws_alive.f k) true := by
  unfold laws_alive.f
  have h1 : decide (NetP [2, 1]) = true := by decide +kernel
  have h2 : decide (NetP [1]) = false := by decide +kernel
  refine Ev.bnd (iNetOk [2, 1]) (Ev.pos h1 (Ev.bnd (iNetOk [1]) (Ev.val ?_)))
  rw [h2]; rfl

theorem script_take {nodes : Int} {l : List S64} (h : ScriptP nodes l) (m : Nat) : ScriptP nodes (l.take m) := by
  obtain ⟨h1, h2, h3, h4⟩ := h
  have hl : (l.take m).length ≤ l.length := by rw [List.length_take]; omega
  refine ⟨h1, h2, by omega, fun i hi => ?_⟩
  have hm : i < m := by rw [List.length_take] at hi; omega
  have e : ∀ j, j ≤ i → (l.take m).getD j z64 = l.getD j z64 := fun j hj => by
    rw [List.getD_eq_getElem?_getD, List.getElem?_take, if_pos (by omega), ← List.getD_eq_getElem?_getD]
  have := h4 i (by omega)
  unfold LightP at this ⊢
  rw [e i (Nat.le_refl _), e (i - 1) (by omega)]
  exact this
theorem FnScriptOk : laws_FnScriptOk.Pure := by
  intro l0 _ _ hw
  refine Ev.rounds (g := fun k => laws_FnScriptOk.f k l0) ?_
  unfold laws_FnScriptOk.f
  refine Ev.iteS (fun _ => Ev.now _) (fun _ => ?_)
  obtain ⟨b, hb, hB⟩ := open_ev l0 hw
  obtain ⟨u, u0, u1, u2⟩ := pick_ev hB (p := 0) (n := 6) (by omega) (by omega) (by omega) (by omega)
  obtain ⟨v, v0, v1, v2⟩ := pick_ev hB (p := 0 + 1) (n := 20) (by omega) (by omega) (by omega) (by omega)
  obtain ⟨l, p', c1, c2, c3, c4⟩ := script_ev hB (nodes := wrap64 (1 + u)) (o := 3) (p := 0 + 1 + 1) (by rw [w64 (by omega) (by omega)]; omega) (by rw [w64 (by omega) (by omega)]; omega) (by omega) (by omega) (by omega)
  obtain ⟨nodes, hd⟩ : ∃ nodes, Ev (fun k => spec_DrawScriptOk.f k l0) (nodes, l) := by
    unfold spec_DrawScriptOk.f
    exact ⟨_, Ev.bnd0 hb (Ev.bnd u2 (Ev.bnd v2 (Ev.bnd c4 (Ev.now _))))⟩
  refine Ev.bnd hd ?_
  dsimp only
  refine Ev.bnd (iScriptOk nodes l (by omega)) (Ev.bnd (sScriptOk nodes l (by omega)) (Ev.neg (by simp) ?_))
  have out : ¬ (1 ≤ nodes ∧ nodes ≤ 6) → Ev (fun k => laws_FnScriptOk.j0 k nodes l (decide (ScriptP nodes l)) true) true := by
    intro h
    refine Ev.step (fun k => by rw [laws_FnScriptOk.j0]) (Ev.pos rfl (Ev.neg ?_ (Ev.bnd alive_ev (Ev.now _))))
    rw [decide_eq_true_eq]; exact fun e => h ⟨e.1, e.2.1⟩
  refine Ev.iteS (fun h => out (by omega)) (fun h => ?_)
  by_cases h6 : nodes > 6
  · rw [decide_eq_true h6]; exact out (by omega)
  · rw [decide_eq_false h6]
    have hnil : ScriptP nodes ([] : List S64) := ⟨by omega, by omega, by simp, fun i hi => by simp at hi⟩
    refine Ev.step (fun k => by rw [laws_FnScriptOk.j0]) (Ev.neg (by decide) ?_)
    refine Ev.bnd0 rfl ?_
    refine Ev.pos (show (0 : Nat) + l.length < _ by omega) ?_
    refine Ev.bnd0 rfl ?_
    simp only [List.nil_append]
    refine Ev.iteS (fun hl => ?_) (fun hl => ?_)
    · refine Ev.bnd0 rfl ?_
      have e : wrap64 ((l.length : Int) - 1) = ((l.length - 1 : Nat) : Int) := by rw [w64 (by omega) (by omega)]; omega
      rw [e]
      refine Ev.pos (by omega) (Ev.pos (by omega) ?_)
      refine Ev.bnd0 rfl ?_
      rw [Int.toNat_natCast]
      have ht : (l.take (l.length - 1)).length ≤ 6 := by rw [List.length_take]; omega
      refine Ev.pos (show (0 : Nat) + (l.take (l.length - 1)).length < _ by omega) ?_
      refine Ev.bnd (iScriptOk nodes [] (by simp)) (Ev.pos (decide_eq_true hnil) ?_)
      refine Ev.iteS (fun h2 => ?_) (fun _ => Ev.bnd alive_ev (Ev.now _))
      have h3 := script_take (of_decide_eq_true h2) (l.length - 1)
      refine Ev.bnd (iScriptOk nodes (l.take (l.length - 1)) (by omega)) ?_
      exact Ev.pos (decide_eq_true h3) (Ev.bnd alive_ev (Ev.now _))
    · refine Ev.bnd (iScriptOk nodes [] (by simp)) (Ev.pos (decide_eq_true hnil) ?_)
      refine Ev.iteS (fun h2 => ?_) (fun _ => Ev.bnd alive_ev (Ev.now _))
      refine Ev.bnd (iScriptOk nodes l (by omega)) ?_
      exact Ev.pos h2 (Ev.bnd alive_ev (Ev.now _))
end Go.Proofs.Ytfhkahlfpchhpaa.Pure
