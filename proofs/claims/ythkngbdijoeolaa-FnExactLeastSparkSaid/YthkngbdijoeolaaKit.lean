/- Plain lemmas of this session: rounds of printed loops, machine numbers, bits. No program in sight. -/
import Derived.Test.YthkngbdijoeolaaWMore
import Derived.Laws.BitsLemmas
set_option linter.unusedVariables false
set_option linter.unusedSimpArgs false
namespace Go.Proofs.Ythkngbdijoeolaa.Kit
open Go Go.RowKit Go.Proofs.YthkngbdijoeolaaW.PrintWords Go.Proofs.YthkngbdijoeolaaW.PrintLast Go.Proofs.YthkngbdijoeolaaW.PrintMore

/-! ### rounds -/
theorem Ev.pos {α : Type} {c : Prop} [Decidable c] {f g : Nat → Option α} {r : α} (h : c) (e : Ev f r) : Ev (fun k => if c then f k else g k) r :=
  Ev.congr (fun _ => if_pos h) e
theorem Ev.neg {α : Type} {c : Prop} [Decidable c] {f g : Nat → Option α} {r : α} (h : ¬ c) (e : Ev g r) : Ev (fun k => if c then f k else g k) r :=
  Ev.congr (fun _ => if_neg h) e
theorem Ev.iteS {α : Type} {c : Prop} [Decidable c] {f g : Nat → Option α} {r : α} (h : c → Ev f r) (h' : ¬ c → Ev g r) : Ev (fun k => if c then f k else g k) r := by
  by_cases hc : c
  · exact Ev.pos hc (h hc)
  · exact Ev.neg hc (h' hc)
theorem Ev.val {α : Type} {r s : α} (h : r = s) : Ev (fun _ => some r) s := h ▸ Ev.now r
theorem Ev.to {α : Type} {g : Nat → Option α} {r s : α} (e : Ev g r) (h : r = s) : Ev g s := h ▸ e
theorem Ev.bnd {α β : Type} {g : Nat → Option α} {f : Nat → α → Option β} {a : α} {r : β} (h : Ev g a) (k : Ev (fun n => f n a) r) : Ev (fun n => (g n).bind (f n)) r := Ev.bind h k
theorem Ev.bnd0 {α β : Type} {g : Option α} {f : Nat → α → Option β} {a : α} {r : β} (h : g = some a) (k : Ev (fun n => f n a) r) : Ev (fun n => g.bind (f n)) r :=
  Ev.congr (fun n => by rw [h]; rfl) k
/-- A loop upwards: from a place on back to the first one. -/
theorem ev_back {ρ : Type} {F : Nat → Int → Option ρ} {r : ρ} (n : Nat) (h : Ev (fun k => F k (n : Int)) r)
    (hgo : ∀ i : Nat, i < n → Ev (fun k => F k ((i + 1 : Nat) : Int)) r → Ev (fun k => F k (i : Int)) r) : Ev (fun k => F k ((0 : Nat) : Int)) r := by
  induction n with
  | zero => exact h
  | succ n ih => exact ih (hgo n (by omega) h) (fun i hi => hgo i (by omega))
/-- The first one that does not fit, or none. -/
theorem first_bad {n : Nat} {P : Nat → Prop} : (∀ j, j < n → P j) ∨ ∃ i, i < n ∧ ¬ P i ∧ ∀ j, j < i → P j := by
  induction n with
  | zero => exact .inl (fun j h => by omega)
  | succ n ih =>
    rcases ih with h | ⟨i, h1, h2, h3⟩
    · by_cases hp : P n
      · exact .inl (fun j hj => by
          by_cases e : j = n
          · subst e; exact hp
          · exact h j (by omega))
      · exact .inr ⟨n, by omega, hp, h⟩
    · exact .inr ⟨i, by omega, h2, h3⟩
/-- A loop upwards that looks for what does not fit. -/
theorem ev_scan {ρ : Type} {F : Nat → Int → Option ρ} {n : Nat} {P : Nat → Prop} [Decidable (∀ j, j < n → P j)] {r r' : ρ}
    (hend : (∀ j, j < n → P j) → Ev (fun k => F k (n : Int)) r)
    (hgo : ∀ i : Nat, i < n → P i → ∀ b, Ev (fun k => F k ((i + 1 : Nat) : Int)) b → Ev (fun k => F k (i : Int)) b)
    (hstop : ∀ i : Nat, i < n → (∀ j, j < i → P j) → ¬ P i → Ev (fun k => F k (i : Int)) r') :
    Ev (fun k => F k 0) (if ∀ j, j < n → P j then r else r') := by
  by_cases h : ∀ j, j < n → P j
  · rw [if_pos h]
    exact ev_back n (hend h) (fun i hi he => hgo i hi (h i hi) _ he)
  · rw [if_neg h]
    rcases first_bad (n := n) (P := P) with h' | ⟨i, h1, h2, h3⟩
    · exact absurd h' h
    · exact ev_back i (hstop i h1 h3 h2) (fun j hj he => hgo j (by omega) (h3 j hj) _ he)
/-- A loop upwards with a state: what it comes to is told by what its rounds do. -/
theorem ev_for {σ ρ : Type} {F : Nat → Int → σ → Option ρ} {n : Nat} {out : Nat → σ → ρ} {I : Nat → σ → Prop}
    (hend : ∀ s, I n s → Ev (fun k => F k (n : Int) s) (out n s))
    (hstep : ∀ (i : Nat) s, i < n → I i s → (∀ s', I (i + 1) s' → Ev (fun k => F k ((i + 1 : Nat) : Int) s') (out (i + 1) s')) → Ev (fun k => F k (i : Int) s) (out i s)) :
    ∀ d i : Nat, i + d = n → ∀ s, I i s → Ev (fun k => F k (i : Int) s) (out i s) := by
  intro d
  induction d with
  | zero =>
    intro i hi s hs
    obtain rfl : i = n := by omega
    exact hend s hs
  | succ d ih =>
    intro i hi s hs
    exact hstep i s (by omega) hs (fun s' hs' => ih (i + 1) (by omega) s' hs')

/-! ### numbers -/
theorem w64 {x : Int} (h0 : -9223372036854775808 ≤ x) (h1 : x < 9223372036854775808) : wrap64 x = x := by unfold wrap64; omega
theorem w64s (i : Nat) (h : i < 9223372036854775807) : wrap64 ((i : Int) + 1) = ((i + 1 : Nat) : Int) := by unfold wrap64; omega
theorem wf64 {x : Int} (h : (Lit.int .i64 x).wf = true) : -9223372036854775808 ≤ x ∧ x < 9223372036854775808 := by
  have h' : IntKind.i64.min ≤ x ∧ x ≤ 9223372036854775807 := by simpa [Lit.wf] using h
  have e : IntKind.i64.min = -9223372036854775808 := by decide
  omega

/-! ### bits -/
def tb (x : Int) (i : Nat) : Bool := x.toNat.testBit i
def b01 (b : Bool) : Int := if b = true then 1 else 0
theorem b01_eq {a b : Bool} : b01 a = b01 b ↔ a = b := by cases a <;> cases b <;> simp [b01]
theorem b01_one {a : Bool} : b01 a = 1 ↔ a = true := by cases a <;> simp [b01]
theorem b01_zero {a : Bool} : b01 a = 0 ↔ a = false := by cases a <;> simp [b01]
theorem shr_nat (a i : Nat) (hi : i ≤ 64) : shr .i64 (a : Int) (i : Int) = ((a / 2 ^ i : Nat) : Int) := by
  unfold shr
  have : min (i : Int).toNat IntKind.i64.bits = i := by simp [IntKind.bits]; omega
  rw [this]; simp
theorem shr_tmod {x : Int} (h0 : 0 ≤ x) (i : Nat) (hi : i ≤ 64) : Int.tmod (shr .i64 x (i : Int)) 2 = b01 (tb x i) := by
  obtain ⟨a, rfl⟩ := Int.eq_ofNat_of_zero_le h0
  rw [shr_nat a i hi]
  generalize e : a / 2 ^ i = q
  rw [Int.tmod_eq_emod_of_nonneg (Int.natCast_nonneg _)]
  unfold tb b01
  rw [Int.toNat_natCast, Nat.testBit_eq_decide_div_mod_eq, e]
  rcases Nat.mod_two_eq_zero_or_one q with h | h
  · rw [h]; simp; omega
  · rw [h]; simp; omega
theorem wraps_i64 (n : Int) (h0 : 0 ≤ n) (h1 : n < 2 ^ 63) : IntKind.i64.wrap n = n := by rw [IntKind.wrap_i64]; omega
theorem and_nat (a b : Nat) (ha : a < 2 ^ 63) (hb : b < 2 ^ 63) : Go.bits .and .i64 (a : Int) (b : Int) = ((a &&& b : Nat) : Int) := (bits_nat .i64 63 (by decide) wraps_i64 a b ha hb).1
theorem or_nat (a b : Nat) (ha : a < 2 ^ 63) (hb : b < 2 ^ 63) : Go.bits .or .i64 (a : Int) (b : Int) = ((a ||| b : Nat) : Int) := (bits_nat .i64 63 (by decide) wraps_i64 a b ha hb).2
theorem shr_and {x : Int} (h0 : 0 ≤ x) (h1 : x < 2 ^ 63) (i : Nat) (hi : i ≤ 64) : Go.bits .and .i64 (shr .i64 x (i : Int)) 1 = b01 (tb x i) := by
  obtain ⟨a, rfl⟩ := Int.eq_ofNat_of_zero_le h0
  rw [shr_nat a i hi]
  have ha : a < 2 ^ 63 := by exact_mod_cast h1
  have h2 : a / 2 ^ i < 2 ^ 63 := Nat.lt_of_le_of_lt (Nat.div_le_self _ _) ha
  have := and_nat (a / 2 ^ i) 1 h2 (by decide)
  rw [show ((1 : Nat) : Int) = 1 from rfl] at this
  rw [this, Nat.and_one_is_mod]
  unfold tb b01
  rw [Int.toNat_natCast, Nat.testBit_eq_decide_div_mod_eq]
  rcases Nat.mod_two_eq_zero_or_one (a / 2 ^ i) with h | h <;> simp [h]
theorem shl_one (i : Nat) (hi : i ≤ 62) : shl .i64 1 (i : Int) = ((2 ^ i : Nat) : Int) := by
  unfold shl
  have : min (i : Int).toNat IntKind.i64.bits = i := by simp [IntKind.bits]; omega
  rw [this, Int.one_mul]
  have h : (2 : Nat) ^ i < 2 ^ 63 := Nat.pow_lt_pow_right (by decide) (by omega)
  rw [wraps_i64]
  · simp
  · exact Int.le_of_lt (Int.pow_pos (by decide))
  · exact_mod_cast h

/-! ### nets -/
def RowP (net : List Int) (i : Nat) : Prop := 0 ≤ net.getD i 0 ∧ net.getD i 0 < 2 ^ net.length
instance (net : List Int) (i : Nat) : Decidable (RowP net i) := by unfold RowP; infer_instance
def SymP (net : List Int) (i : Nat) : Prop := tb (net.getD i 0) i = false ∧ ∀ j, j < net.length → tb (net.getD i 0) j = tb (net.getD j 0) i
instance (net : List Int) (i : Nat) : Decidable (SymP net i) := by unfold SymP; infer_instance
structure NetP (net : List Int) : Prop where
  lo : 1 ≤ net.length
  hi : net.length ≤ 6
  row : ∀ i, i < net.length → RowP net i
  sym : ∀ i, i < net.length → SymP net i
instance (net : List Int) : Decidable (NetP net) :=
  decidable_of_iff (1 ≤ net.length ∧ net.length ≤ 6 ∧ (∀ i, i < net.length → RowP net i) ∧ ∀ i, i < net.length → SymP net i)
    ⟨fun ⟨a, b, c, d⟩ => ⟨a, b, c, d⟩, fun ⟨a, b, c, d⟩ => ⟨a, b, c, d⟩⟩
theorem pow6 {n : Nat} (h : n ≤ 6) : (2 : Int) ^ n ≤ 64 := by
  have : (2 : Nat) ^ n ≤ 2 ^ 6 := Nat.pow_le_pow_right (by decide) h
  exact_mod_cast this
theorem RowP.big {net : List Int} {i : Nat} (h : RowP net i) (hn : net.length ≤ 6) : net.getD i 0 < 64 := by
  have := pow6 hn; unfold RowP at h; omega

/-! ### lists -/
theorem set_len (xs : List Int) (i : Nat) (v : Int) : (xs.set i v).length = xs.length := by simp
theorem rd_nat (xs : List Int) (i : Nat) : rd xs (i : Int) = xs.getD i 0 := by simp [rd]
end Go.Proofs.Ythkngbdijoeolaa.Kit
