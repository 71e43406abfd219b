/- Own text of this session, written by a program of this session (wip/t/own.py) out of what the kit tells of the functions: each Go function as a Lean function, and the walk through its code. -/
import Derived.Test.YtgglagpciojfmaaT
import Derived.Test.YtgglagpciojfmaaF1
import Derived.Test.YtgglagpciojfmaaF12
import Derived.Test.YtgglagpciojfmaaF13
import Derived.Test.YtgglagpciojfmaaF8
namespace Go.Proofs.Ytgglagpciojfmaa.PAll
open Go.RowKit Go.Proofs.YtgglagpciojfmaaW.PrintWords Go.Proofs.YtgglagpciojfmaaW.PrintLast Go.Proofs.YtgglagpciojfmaaW.PrintMore
attribute [local go_sem] max2_int min2_int max_two min_two max_three min_three max_four min_four   -- for this text's walks alone
set_option linter.unusedVariables false
set_option linter.unusedSimpArgs false

/-! ### impl_EdenCount: function 20 -/
def impl_EdenCount.add (acc : List Int) (x : Int) : List Int := if acc.contains x = true then acc else acc ++ [x]
/-- How many different ones. -/
def impl_EdenCount.dist (L : List Int) : Nat := (L.foldl impl_EdenCount.add []).length
theorem impl_EdenCount.addKey (x : Int) (acc : List Int) : Maps.addKey (acc.map (Lit.int .i64)) (.int .i64 x) = (impl_EdenCount.add acc x).map (Lit.int .i64) := by
 unfold Maps.addKey impl_EdenCount.add
 rw [List.any_map, show (acc.any ((fun y : Lit => y.sameKey (.int .i64 x)) ∘ Lit.int .i64)) = acc.contains x from impl_maps.any_int x acc]
 split <;> simp
theorem impl_EdenCount.foldKeys : ∀ (L acc : List Int), (L.map (Lit.int .i64)).foldl Maps.addKey (acc.map (Lit.int .i64)) = (L.foldl impl_EdenCount.add acc).map (Lit.int .i64)
 | [], _ => rfl
 | x :: r, acc => by
  rw [List.map_cons, List.foldl_cons, List.foldl_cons, impl_EdenCount.addKey]
  exact impl_EdenCount.foldKeys r _
theorem impl_EdenCount.size (u : DataW Unit) (L : List Int) : Maps.size (impl_maps.D u L) = impl_EdenCount.dist L := by
 unfold impl_maps.D
 rw [Maps.size_setOf u _ (fun y hy => impl_maps.key hy)]
 have := impl_EdenCount.foldKeys L []
 rw [List.map_nil] at this
 rw [this, List.length_map]; rfl
def impl_EdenCount.hold (l0 : List Int) (a1 : Int) (k : Nat) (t : List Int) (s : List Int) : Option (Bool × List Int) := (impl_needStep0.f k l0 a1 ([] : List Int) t).bind fun v => (impl_NumberOf.f k a1 v).bind fun x => if 0 ≤ x ∧ x < 1000000 ∧ s.length < 1000000 then some (true, s ++ [x]) else none
theorem impl_EdenCount.hmono (l0 : List Int) (a1 : Int) (t s : List Int) (k : Nat) : LeO (impl_EdenCount.hold l0 a1 k t s) (impl_EdenCount.hold l0 a1 (k + 1) t s) := LeO.bind (impl_needStep0.mono l0 a1 [] t k) (fun v => LeO.bind (impl_NumberOf.mono a1 v k) (fun _ => LeO.refl _))
def impl_EdenCount.f (k : Nat) (l0 : List Int) (a1 : Int) : Option (Int) := (impl_countable.f k l0 a1).bind fun t => if t = true then ((impl_countStates.f k (impl_EdenCount.hold l0 a1) l0 a1 []).bind fun r => some (wrap64 (r.1 - (impl_EdenCount.dist r.2 : Int)))) else some (-1)
theorem impl_EdenCount.mono : ∀ a0 a1 k, LeO (impl_EdenCount.f k a0 a1) (impl_EdenCount.f (k + 1) a0 a1) := by
 intro a0 a1 k
 unfold impl_EdenCount.f
 exact LeO.bind (impl_countable.mono a0 a1 k) (fun _ => LeO.ite (LeO.bind (impl_countStates.mono (impl_EdenCount.hmono a0 a1) a0 a1 [] k) (fun _ => LeO.refl _)) (LeO.refl _))
/-- What the boxes hold, and the map. -/
structure impl_EdenCount.Bx (w : World) (v : Value) (a1 : Int) (s : List Int) (W : World) : Prop where
 b0 : W.heap[w.heap.size]? = some (.cells #[v] 22 (0, 0))
 b1 : W.heap[w.heap.size + 1]? = some (.cells #[.int .i64 a1] 3 (0, 0))
 b3 : W.heap[w.heap.size + 1 + 1 + 1]? = some (.cells #[.map (some (w.heap.size + 1 + 1))] 50 (0, 0))
 map : W.ownsMap Try.prog 3 (plainElem Try.prog 4) (w.heap.size + 1 + 1) s.length (impl_maps.D (.lit (.bool true)) s)
 below : Below w.heap.size w W
theorem impl_EdenCount.Bx.later {w : World} {v : Value} {a1 : Int} {s : List Int} {W W' : World} (h : impl_EdenCount.Bx w v a1 s W) (hb : Below (w.heap.size + 4) W W') : impl_EdenCount.Bx w v a1 s W' := by
 refine ⟨(hb.block _ (by omega)).trans h.b0, (hb.block _ (by omega)).trans h.b1, (hb.block _ (by omega)).trans h.b3, ?_, h.below.trans (hb.mono (by omega))⟩
 obtain ⟨es, clock, h1, h2⟩ := h.map
 exact ⟨es, clock, (hb.block _ (by omega)).trans h1, h2⟩
theorem impl_EdenCount.far {W W1 W2 : World} {b : Nat} {a : Addr} {v : Value} (hb : Below W.heap.size W W1) (hg : W1.grownBy W2 (some b)) (hc : W.cell? a = some v) (hne : some a.block ≠ some b) : W2.cell? a = some v := by
 have h1 : W1.cell? a = some v := (hb.cell (World.block_lt_of_cell? W _ hc)).trans hc
 exact (hg.cell_far a (World.block_lt_of_cell? _ _ h1) hne).trans h1
theorem impl_EdenCount.farB {W W1 W2 : World} {b i : Nat} {o : Obj} (hb : Below W.heap.size W W1) (hg : W1.grownBy W2 (some b)) (hc : W.heap[i]? = some o) (hne : some i ≠ some b) : W2.heap[i]? = some o := by
 have hlt := lt_of_block hc
 exact (hg.block i (Nat.lt_of_lt_of_le hlt hb.size) hne).trans ((hb.block i hlt).trans hc)
set_option maxHeartbeats 8000000 in
set_option maxRecDepth 100000 in
theorem impl_EdenCount.lit (w : World) (k : Nat) (A0 : Option Addr) (c0 : Nat) (l0 : List Int) (a1 : Int) (t s s' : List Int) (A : Option Addr) (c : Nat) (r : Bool) (W : World) (hx : impl_EdenCount.Bx w (.slice A0 l0.length c0) a1 s W) (hr0 : Kd.C (Kd.int .i64) w A0 l0.length l0) (hc0 : l0.length ≤ c0) (hr : Kd.C (Kd.int .i64) W A t.length t) (hc : t.length ≤ c) (h : impl_EdenCount.hold l0 a1 k t s = some (r, s')) :
  Calls Try.prog 57 (#[.slice A t.length c] ++ #[.pointer (some ⟨w.heap.size + 1 + 1 + 1, 0, none⟩), .pointer (some ⟨w.heap.size + 1, 0, none⟩), .pointer (some ⟨w.heap.size, 0, none⟩)]) W fun e w' => e = .returned (.bool r) ∧ impl_EdenCount.Bx w (.slice A0 l0.length c0) a1 s' w' ∧ Kept W w' (fun i => i < w.heap.size + 4) := by
 obtain ⟨v, h1, h2⟩ := Option.bind_eq_some_iff.1 h
 obtain ⟨x, h3, h4⟩ := Option.bind_eq_some_iff.1 h2
 by_cases c2 : 0 ≤ x ∧ x < 1000000 ∧ s.length < 1000000
 ·rw [if_pos c2] at h4
  simp only [Option.some.injEq, Prod.mk.injEq] at h4
  obtain ⟨rfl, rfl⟩ := h4
  obtain ⟨g0, g1, g2⟩ := c2
  have hwf := Aside0.mk (impl_maps.wf g0 g1)
  have G2 := Aside0.mk g2
  have X := cell_of_one hx.b0
  have X1 := cell_of_one hx.b1
  have X3 := cell_of_one hx.b3
  have HX := Aside0.mk hx
  have HR := Aside0.mk (And.intro (Kd.C_below hr0 hx.below) hr)
  have HC := Aside0.mk (And.intro hc0 hc)
  have H1 := Aside0.mk h1
  have H3 := Aside0.mk h3
  clear hx hr0 hc0 hr hc h h1 h2 h3 g0 g1 g2
  refine calls_of_args (args' := #[.slice A t.length c, .pointer (some ⟨w.heap.size + 1 + 1 + 1, 0, none⟩), .pointer (some ⟨w.heap.size + 1, 0, none⟩), .pointer (some ⟨w.heap.size, 0, none⟩)]) rfl ?_
  go_enter Try.func57, Try.ntmps57
  go_wp2_with fail
  go_region_held3 (fun w' => w'.cell? ⟨w.heap.size + 1 + 1 + 1, 0, none⟩ = some (.map (some (w.heap.size + 1 + 1))) ∧ w'.cell? ⟨w.heap.size + 1, 0, none⟩ = some (.int .i64 a1) ∧ w'.cell? ⟨w.heap.size, 0, none⟩ = some (.slice A0 l0.length c0))
   (first | exact ⟨X3, X1, X⟩ | exact ⟨(HB1.out.cell (World.block_lt_of_cell? W _ X3)).trans X3, (HB1.out.cell (World.block_lt_of_cell? W _ X1)).trans X1, (HB1.out.cell (World.block_lt_of_cell? W _ X)).trans X⟩ | exact ⟨(HB2.out.cell (World.block_lt_of_cell? W _ X3)).trans X3, (HB2.out.cell (World.block_lt_of_cell? W _ X1)).trans X1, (HB2.out.cell (World.block_lt_of_cell? W _ X)).trans X⟩ | exact HS6.out)
   (first
    | (go_at_call 54; refine (impl_needStep0.calls k A0 c0 l0 a1 A c t v _ (zC HR.out.1) HC.out.1 (Kd.C_nil _ _) (Nat.le_refl _) (zC HR.out.2) HC.out.2 H1.out).mono ?_; rintro e w4 ⟨v0, rfl, hr4, hb4⟩; obtain ⟨A', c', e1⟩ := Kd.R_slice hr4; subst e1; have HR4 := Aside0.mk hr4; have HB1 := Aside0.mk (below_step (zB (Below.refl W.heap.size W)) hb4); clear hr4 hb4)
    | (go_at_call 58; refine (impl_NumberOf.calls k a1 A' c' v x _ (zC (Kd.R_reads' HR4.out).2.2) (Kd.R_reads' HR4.out).2.1 H3.out).mono ?_; rintro e w5 ⟨rfl, ⟨nd, rfl⟩⟩; have HB2 : Aside0 (Below W.heap.size W (w4.drewN nd)) := ⟨zB HB1.out⟩; obtain ⟨w6, hrun6, hown6, hgrow6⟩ := (HX.out.map.kept (grown_of_below HB2.out none) (by simp)).update impl_maps.law Try.underlying50 (by have := G2.out; unfold maxLen; omega) (impl_maps.hkey hwf.out) (plainElem_bool Try.underlying4 true); have HO6 := Aside0.mk hown6; have HG6 := Aside0.mk hgrow6; have HS6 := Aside0.mk (And.intro (impl_EdenCount.far HB2.out HG6.out X3 (fun e => by simp only [Option.some.injEq] at e; omega)) (And.intro (impl_EdenCount.far HB2.out HG6.out X1 (fun e => by simp only [Option.some.injEq] at e; omega)) (impl_EdenCount.far HB2.out HG6.out X (fun e => by simp only [Option.some.injEq] at e; omega)))); clear hown6 hgrow6))
  go_wp2
  go_ret
  refine ⟨rfl, ⟨impl_EdenCount.farB HB2.out HG6.out HX.out.b0 (fun e => by simp only [Option.some.injEq] at e; omega), impl_EdenCount.farB HB2.out HG6.out HX.out.b1 (fun e => by simp only [Option.some.injEq] at e; omega), impl_EdenCount.farB HB2.out HG6.out HX.out.b3 (fun e => by simp only [Option.some.injEq] at e; omega), ?_, ?_⟩, ?_⟩
  ·rw [impl_maps.snoc, List.length_append]; exact HO6.out
  ·exact (HX.out.below.trans (HB2.out.mono HX.out.below.size)).grown HG6.out (Nat.le_trans HX.out.below.size HB2.out.size) (fun k hk => by cases hk; omega)
  ·exact Kept.of_grown HG6.out (Kept.of_below HB2.out _) (fun k hk => by cases hk; left; omega)
 ·rw [if_neg c2] at h4
  exact absurd h4 (by simp)
theorem impl_EdenCount.start (w : World) (v : Value) (a1 : Int) (nd : Nat) : impl_EdenCount.Bx w v a1 [] (((((w.alloc (.cells #[v] 22)).alloc (.cells #[.int .i64 a1] 3)).drewN nd).alloc (.map #[] 0)).alloc (.cells #[.map (some (w.heap.size + 1 + 1))] 50)) := by
 have h := impl_countStates.box2 w v (.int .i64 a1) 22 3
 have hs : ((w.alloc (.cells #[v] 22)).alloc (.cells #[.int .i64 a1] 3)).heap.size = w.heap.size + 1 + 1 := by simp
 have hm := World.ownsMap_made (((w.alloc (.cells #[v] 22)).alloc (.cells #[.int .i64 a1] 3)).drewN nd) Try.prog 3 (plainElem (H := Unit) Try.prog 4)
 have hs2 : ((((w.alloc (.cells #[v] 22)).alloc (.cells #[.int .i64 a1] 3)).drewN nd).alloc (.map #[] 0)).heap.size = w.heap.size + 1 + 1 + 1 := by simp
 refine ⟨?_, ?_, ?_, ?_, ?_⟩
 ·rw [Below.heap_alloc _ _ _ (by rw [hs2]; omega), Below.heap_alloc _ _ _ (by simp; omega)]; exact h.b0
 ·rw [Below.heap_alloc _ _ _ (by rw [hs2]; omega), Below.heap_alloc _ _ _ (by simp)]; exact h.b1
 ·have := heap_alloc_new ((((w.alloc (.cells #[v] 22)).alloc (.cells #[.int .i64 a1] 3)).drewN nd).alloc (.map #[] 0)) (.cells #[.map (some (w.heap.size + 1 + 1))] 50)
  rw [hs2] at this; exact this
 ·have e : (((w.alloc (.cells #[v] 22)).alloc (.cells #[.int .i64 a1] 3)).drewN nd).heap.size = w.heap.size + 1 + 1 := by simp
  rw [e] at hm
  exact hm.alloc _
 ·exact zB h.below
set_option maxHeartbeats 8000000 in
set_option maxRecDepth 100000 in
theorem impl_EdenCount.calls (k : Nat) (A0 : Option Addr) (c0 : Nat) (l0 : List Int) (a1 : Int) (r : Int) (w : World) (hr0 : Kd.C (Kd.int .i64) w A0 l0.length l0) (hc0 : l0.length ≤ c0) (h : impl_EdenCount.f k l0 a1 = some r) :
  Calls Try.prog 20 #[.slice A0 l0.length c0, .int .i64 a1] w fun e w' => e = .returned (.int .i64 r) ∧ Below w.heap.size w w' := by
 obtain ⟨t, h1, h2⟩ := Option.bind_eq_some_iff.1 h
 have hmm := @run_makeMap Try.prog
 have HX := Aside0.mk (impl_countStates.box2 w (.slice A0 l0.length c0) (.int .i64 a1) 22 3)
 have HC := Aside0.mk (impl_countable.calls k A0 c0 l0 a1 t ((w.alloc (.cells #[.slice A0 l0.length c0] 22)).alloc (.cells #[.int .i64 a1] 3)) (Kd.C_alloc (Kd.C_alloc hr0 _) _) hc0 h1)
 have hmf : ∀ (fn : Fn) (first cap : Array Value) (w : World), (Instr.makeFunc fn first cap).run Try.prog w = .ok (.func fn first cap) w := fun _ _ _ _ => rfl
 cases t
 ·rw [if_neg (by decide)] at h2
  obtain rfl := Option.some.inj h2
  clear h h1 h2 hr0 hc0
  go_enter Try.func20, Try.ntmps20
  go_wp2_with ((with_reducible refine gate_callee (f := 56) rfl ?_); refine goesL_ (some 9) rfl rfl Try.func56 (by kernel_rfl) rfl #[.slice A0 l0.length c0, .int .i64 a1] rfl zA ?_; (with_reducible refine HC.out.mono ?_); rintro e w2 ⟨rfl, ⟨nd, rfl⟩⟩; refine ⟨_, rfl, ?_⟩)
  go_ret
  exact ⟨rfl, zB HX.out.below⟩
 ·rw [if_pos rfl] at h2
  obtain ⟨r2, h3, h4⟩ := Option.bind_eq_some_iff.1 h2
  obtain rfl := Option.some.inj h4
  obtain ⟨n, L⟩ := r2
  have H3 := Aside0.mk h3
  have HL : Aside0 (∀ k t s b s' A c W, impl_EdenCount.hold l0 a1 k t s = some (b, s') → impl_EdenCount.Bx w (.slice A0 l0.length c0) a1 s W → w.heap.size + 4 ≤ W.heap.size → Kd.C (Kd.int .i64) W A t.length t → t.length ≤ c → Calls Try.prog 57 (#[.slice A t.length c] ++ #[.pointer (some ⟨w.heap.size + 1 + 1 + 1, 0, none⟩), .pointer (some ⟨w.heap.size + 1, 0, none⟩), .pointer (some ⟨w.heap.size, 0, none⟩)]) W fun e w' => e = .returned (.bool b) ∧ impl_EdenCount.Bx w (.slice A0 l0.length c0) a1 s' w' ∧ Kept W w' (fun i => i < w.heap.size + 4)) :=
   ⟨fun k t s b s' A c W h hx hB hr hc => impl_EdenCount.lit w k A0 c0 l0 a1 t s s' A c b W hx hr0 hc0 hr hc h⟩
  have hsize := impl_EdenCount.size (.lit (.bool true)) L
  have HSz := Aside0.mk hsize
  clear h h1 h2 h3 h4 hr0 hc0 hsize
  go_enter Try.func20, Try.ntmps20
  go_wp2_with (first
   | ((with_reducible refine gate_callee (f := 56) rfl ?_); refine goesL_ (some 9) rfl rfl Try.func56 (by kernel_rfl) rfl #[.slice A0 l0.length c0, .int .i64 a1] rfl zA ?_; (with_reducible refine HC.out.mono ?_); rintro e w2 ⟨rfl, ⟨nd, rfl⟩⟩; refine ⟨_, rfl, ?_⟩)
   | ((with_reducible refine gate_callee (f := 51) rfl ?_); refine goesL_ (some 15) rfl rfl Try.func51 (by kernel_rfl) rfl #[.slice A0 l0.length c0, .int .i64 a1, .func (.func 57) #[] #[.pointer (some ⟨w.heap.size + 1 + 1 + 1, 0, none⟩), .pointer (some ⟨w.heap.size + 1, 0, none⟩), .pointer (some ⟨w.heap.size, 0, none⟩)]] rfl zA ?_; (with_reducible refine (impl_countStates.calls (impl_EdenCount.hold l0 a1) (w.heap.size + 4) 57 _ _ (impl_EdenCount.Bx w (.slice A0 l0.length c0) a1) (fun s W W' h1 h2 => h1.later h2) Try.func57 (by kernel_rfl) rfl HL.out k A0 c0 l0 a1 [] n L _ ?hsz (impl_EdenCount.start w _ a1 nd) H3.out).mono ?_); (case hsz => simp); rintro e w2 ⟨rfl, hx⟩; refine ⟨_, rfl, ?_⟩; have X3 := cell_of_one hx.b3; have HX3 := Aside0.mk hx; clear hx)
   | (at_len; refine wpList_len_own _ rfl _ 50 rfl 3 4 Try.underlying50 _ (w.heap.size + 1 + 1) L.length _ rfl HX3.out.map ?_; rw [HSz.out]))
  go_ret
  exact ⟨rfl, HX3.out.below⟩

end Go.Proofs.Ytgglagpciojfmaa.PAll
