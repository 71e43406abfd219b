/- Own text of this session, written by a program of this session (wip/t/own.py) out of what the kit tells of the functions: each Go function as a Lean function, and the walk through its code. -/
import Derived.Test.YtmkakbimlnigbaaDoorT
import Derived.Test.YtmkakbimlnigbaaDoorF1
namespace Go.Proofs.YtmkakbimlnigbaaDoor.PAll
open Go.RowKit Go.Proofs.YtmkakbimlnigbaaDoorW.PrintWords Go.Proofs.YtmkakbimlnigbaaDoorW.PrintLast Go.Proofs.YtmkakbimlnigbaaDoorW.PrintMore
attribute [local go_sem] max2_int min2_int max_two min_two max_three min_three max_four min_four   -- for this text's walks alone
set_option linter.unusedVariables false
set_option linter.unusedSimpArgs false

/-! ### impl_ReadScript: function 13 -/
/-- What the library's own variables hold, as far as it is asked. -/
structure Vars (w : World) : Prop where
 m : ∃ m, w.cell? ⟨0, 0, none⟩ = some (.int .i64 m)
 syn : ∃ tp p, w.var? Tryd.prog "strconv.ErrSyntax" = some #[.iface tp p]
 rng : ∃ tp p, w.var? Tryd.prog "strconv.ErrRange" = some #[.iface tp p]
theorem Vars.var {w w' : World} (hb : Below w.heap.size w w') {n : String} {cs : Array Value} (h : w.var? Tryd.prog n = some cs) : w'.var? Tryd.prog n = some cs := by
 unfold World.var? at h ⊢
 obtain ⟨g, h1, h2⟩ := Option.bind_eq_some_iff.1 h
 refine Option.bind_eq_some_iff.2 ⟨g, h1, ?_⟩
 cases hg : w.heap[g]? with
 | none => rw [hg] at h2; cases h2
 | some o => rw [hb.block g (lt_of_block hg), hg]; rw [hg] at h2; exact h2
theorem Vars.below {w w' : World} (h : Vars w) (hb : Below w.heap.size w w') : Vars w' := by
 obtain ⟨⟨m, h1⟩, ⟨a, b, h2⟩, ⟨c, d, h3⟩⟩ := h
 exact ⟨⟨m, (hb.cell (World.block_lt_of_cell? w _ h1)).trans h1⟩, ⟨a, b, Vars.var hb h2⟩, ⟨c, d, Vars.var hb h3⟩⟩
theorem impl_ReadScript.atoi_ok (s : ByteArray) (v : Int) (w : World) (hs : s.size ≤ 281474976710656) (h : Lib.atoiAll s.data.toList = .ok v) :
  Calls Tryd.prog 31 #[.string s] w fun e w' => e = .returned (.tuple #[.int .i64 v, .nilIface]) ∧ Below w.heap.size w w' := by
 refine (Tryd.strconv_Atoi_ok s (by omega) v h w).mono ?_
 rintro e w' ⟨rfl, rfl | ⟨t, rfl⟩⟩
 ·exact ⟨rfl, Below.refl _ _⟩
 ·exact ⟨rfl, Lib.bytesWorld_below w 5 t⟩
theorem impl_ReadScript.atoi_err (s : ByteArray) (w : World) (hs : s.size ≤ 281474976710656) (hv : Vars w) (h : ∀ v, Lib.atoiAll s.data.toList ≠ .ok v) :
  Calls Tryd.prog 31 #[.string s] w fun e w' => ∃ v N, e = .returned (.tuple #[.int .i64 v, .iface 82 (.pointer (some ⟨N, 0, none⟩))]) ∧ Below w.heap.size w w' := by
 cases ha : Lib.atoiAll s.data.toList with
 | ok v => exact absurd ha (h v)
 | «syntax» =>
  obtain ⟨tp, p, hp⟩ := hv.syn
  refine (Tryd.strconv_Atoi_syntax_var s hs ha tp p w hp).mono ?_
  rintro e w' ⟨N, rfl, _, _, hb⟩
  exact ⟨_, N, rfl, hb⟩
 | range =>
  obtain ⟨tp, p, hp⟩ := hv.rng
  refine (Tryd.strconv_Atoi_range_var s hs ha tp p w hp).mono ?_
  rintro e w' ⟨N, rfl, _, _, hb⟩
  exact ⟨_, N, rfl, hb⟩
def impl_ReadScript.cut (p : ByteArray) : List UInt8 × List UInt8 × Bool := Lib.cut p.data.toList [58]
def impl_ReadScript.comma : ByteArray := ⟨#[44]⟩
def impl_ReadScript.pieces (s : ByteArray) : List ByteArray := Lib.splitB impl_ReadScript.comma 0 (Lib.countB s impl_ReadScript.comma) s
/-- What the pieces tell; none: refused. -/
def impl_ReadScript.parts : List ByteArray → List S43 → Option (List S43)
 | [], out => some out
 | p :: t, out => match Lib.atoiAll (impl_ReadScript.cut p).1, Lib.atoiAll (impl_ReadScript.cut p).2.1 with
  | .ok x, .ok y => if (impl_ReadScript.cut p).2.2 = true ∧ out.length ≤ 8 then impl_ReadScript.parts t (out ++ [⟨x, y⟩]) else none
  | _, _ => none
def impl_ReadScript.told (a1 : ByteArray) : Option (List S43) := if a1.toList = [46] then some [] else impl_ReadScript.parts (impl_ReadScript.pieces a1) []
def impl_ReadScript.f (k : Nat) (a0 : Int) (a1 : ByteArray) : Option (List S43 × Bool) := if a1.size < 4294967281 ∧ (impl_ReadScript.pieces a1).all (fun p => decide (p.size < 4294967281)) = true then (match impl_ReadScript.told a1 with
 | none => some ([], false)
 | some out => (impl_ScriptText.f k a0 out).bind fun t => if t.toList = a1.toList then some (out, true) else some ([], false)) else none
theorem impl_ReadScript.mono : ∀ a0 a1 k, LeO (impl_ReadScript.f k a0 a1) (impl_ReadScript.f (k + 1) a0 a1) := by
 intro a0 a1 k
 unfold impl_ReadScript.f
 refine LeO.ite ?_ (LeO.refl _)
 cases impl_ReadScript.told a1 with
 | none => exact LeO.refl _
 | some out => exact LeO.bind (impl_ScriptText.mono _ _ k) (fun _ => LeO.refl _)
theorem impl_ReadScript.cut_le (p : ByteArray) : (impl_ReadScript.cut p).1.length ≤ p.size ∧ (impl_ReadScript.cut p).2.1.length ≤ p.size := by
 unfold impl_ReadScript.cut Lib.cut
 have : p.data.toList.length = p.size := by simp
 split
 ·simp only [List.length_take, List.length_drop]; omega
 ·simp
theorem impl_ReadScript.cut_calls (p : ByteArray) (ca cb : List UInt8) (cc : Bool) (w : World) (hc : impl_ReadScript.cut p = (ca, cb, cc)) (hp : p.size < 4294967281) (hv : Vars w) :
  Calls Tryd.prog 30 #[.string p, .string ⟨#[58]⟩] w fun e w' => e = .returned (.tuple #[.string ⟨ca.toArray⟩, .string ⟨cb.toArray⟩, .bool cc]) ∧ Below w.heap.size w w' := by
 obtain ⟨m, hm⟩ := hv.m
 refine (Tryd.strings_Cut p ⟨#[58]⟩ m w hp hm).mono ?_
 rintro e w' ⟨rfl, n, rfl⟩
 have e1 : Lib.cut p.data.toList (⟨#[58]⟩ : ByteArray).data.toList = (ca, cb, cc) := hc
 rw [e1]
 exact ⟨rfl, pw_below_drewN (Below.refl _ _) n⟩
theorem impl_ReadScript.bad {p : ByteArray} {t : List ByteArray} {out : List S43} {ca cb : List UInt8} {cc : Bool} (hc : impl_ReadScript.cut p = (ca, cb, cc)) (h : (∀ v, Lib.atoiAll ca ≠ .ok v) ∨ (∀ v, Lib.atoiAll cb ≠ .ok v) ∨ cc = false ∨ ¬ out.length ≤ 8) : impl_ReadScript.parts (p :: t) out = none := by
 unfold impl_ReadScript.parts
 rw [hc]
 cases ha : Lib.atoiAll ca with
 | ok x =>
  cases hb : Lib.atoiAll cb with
  | ok y =>
   rcases h with h | h | h | h
   ·exact absurd ha (h x)
   ·exact absurd hb (h y)
   ·subst h; rfl
   ·simp only []; rw [if_neg (fun e => h e.2)]
  | «syntax» => rfl
  | range => rfl
 | «syntax» => rfl
 | range => rfl
theorem impl_ReadScript.good {p : ByteArray} {t : List ByteArray} {out : List S43} {ca cb : List UInt8} {cc : Bool} (hc : impl_ReadScript.cut p = (ca, cb, cc)) {x y : Int} (ha : Lib.atoiAll ca = .ok x) (hb : Lib.atoiAll cb = .ok y) (hcc : cc = true) (hl : out.length ≤ 8) : impl_ReadScript.parts (p :: t) out = impl_ReadScript.parts t (out ++ [⟨x, y⟩]) := by
 rw [impl_ReadScript.parts, hc]
 simp only [ha, hb]
 rw [if_pos ⟨hcc, hl⟩]
/-- The row of the pieces. -/
def impl_ReadScript.Row (g : Nat) (ps : List ByteArray) (w : World) : Prop := w.heap[g]? = some (.cells (ps.map Value.string).toArray 9 (0, 0))
theorem impl_ReadScript.Row.cell {g : Nat} {ps : List ByteArray} {w : World} (h : impl_ReadScript.Row g ps w) {i : Nat} (hi : i < ps.length) : w.cell? ⟨g, i, none⟩ = some (.string ps[i]) := by
 unfold impl_ReadScript.Row at h
 simp [World.cell?, h, hi]
theorem impl_ReadScript.kept {g : Nat} {ps : List ByteArray} {w W W' : World} (h : impl_ReadScript.Row g ps w) (h0 : Below w.heap.size w W) (hb : Below W.heap.size W W') : impl_ReadScript.Row g ps W' := by
 unfold impl_ReadScript.Row at *
 have h1 := (h0.block g (lt_of_block h)).trans h
 exact (hb.block g (lt_of_block h1)).trans h1
theorem impl_ReadScript.keptG {g : Nat} {ps : List ByteArray} {w W W' : World} {base : Nat} {ok : Nat → Prop} {v : Value} {xs : List S43} (h : impl_ReadScript.Row g ps w) (hr : Kd.R k43 43 W base ok v xs) (h0 : Below w.heap.size w W) (hg : W.grownBy W' v.ownBlock) : impl_ReadScript.Row g ps W' := by
 unfold impl_ReadScript.Row at *
 have h1 := (h0.block g (lt_of_block h)).trans h
 refine (hg.block g (lt_of_block h1) (fun e => ?_)).trans h1
 obtain ⟨cells, hc⟩ := Kd.R_typed hr g e.symm
 rw [hc] at h1
 simp at h1
set_option maxHeartbeats 16000000 in
set_option maxRecDepth 100000 in
theorem impl_ReadScript.calls (k : Nat) (a0 : Int) (a1 : ByteArray) (r1 : List (S43)) (r2 : Bool) (w : World) (hv : Vars w) (h : impl_ReadScript.f k a0 a1 = some (r1, r2)) :
  Calls Tryd.prog 13 #[.int .i64 a0, .string a1] w fun e w' => ∃ v0_ : Value, e = .returned (.tuple #[v0_, .bool r2]) ∧ Kd.R k43 43 w' w.heap.size (fun _ => True) v0_ r1 ∧ Below w.heap.size w w' := by
 have hu43 := Tryd.underlying43
 have HB := Aside0.mk (Below.refl w.heap.size w)
 have HV := Aside0.mk hv
 unfold impl_ReadScript.f at h
 by_cases c1 : a1.size < 4294967281 ∧ (impl_ReadScript.pieces a1).all (fun p => decide (p.size < 4294967281)) = true
 case neg => rw [if_neg c1] at h; cases h
 rw [if_pos c1] at h
 obtain ⟨c1, call⟩ := c1
 have H' := Aside0.mk h
 have C1 := Aside0.mk c1
 have CA : Aside0 (∀ p, p ∈ impl_ReadScript.pieces a1 → p.size < 4294967281) := ⟨fun p hp => by have := List.all_eq_true.1 call p hp; simpa using this⟩
 clear hv h c1 call
 by_cases cd : a1.toList = [46]
 ·have cdb : (a1.toList == ([46] : List UInt8)) = true := beq_iff_eq.mpr cd
  have ht : impl_ReadScript.told a1 = some [] := by unfold impl_ReadScript.told; rw [if_pos cd]
  have H := H'.out
  rw [ht] at H
  obtain ⟨t, h1, H⟩ := Option.bind_eq_some_iff.1 H
  have A1 := Aside0.mk h1
  have HH := Aside0.mk H
  clear H H' h1 ht
  by_cases c2 : t.toList = a1.toList
  ·have c2b : (t.toList == a1.toList) = true := beq_iff_eq.mpr c2
   have H := HH.out
   rw [if_pos c2] at H
   obtain ⟨rfl, rfl⟩ : ([] : List S43) = r1 ∧ true = r2 := by simpa using H
   clear H HH c2
   clear cd
   go_enter Tryd.func13, Tryd.ntmps13
   go_wp2_with (first | ((with_reducible refine gate_dst (N := 16) rfl ?_); refine Kd.R_lit k43 _ 43 ?hg (N := 16) ?hd (xs := ([] : List (S43))) (inner := []) (ok := fun _ => True) (okp := fun _ => True) ?hr ?hp (fun _ hk => hk) trivial (Below.refl _ _) (Nat.le_refl _) (by simp) ?_; (case hd => rfl); (case hg => rfl); (case hr => first | (go_simp; done) | (go_simp; rfl)); (case hp => exact (Reps.none _ _)); intro v16 w4 ho5 hb hg_ hnew_; clear hg_ hnew_; have n0_ := Aside0.mk (Kd.R_lower ho5 (below_size (zB HB.out))); have n1_ := Aside0.mk (below_step (zB HB.out) hb); clear HB; have HO := n0_; have HB := n1_; clear n0_ n1_; clear hb ho5; obtain ⟨Ao, co, eo⟩ := Kd.R_slice HO.out; subst eo) | ((with_reducible refine gate_callee (f := 10) rfl ?_); refine goesL_ (some 66) rfl rfl Tryd.func10 (by kernel_rfl) rfl #[.int .i64 a0, .slice Ao ([] : List S43).length co] rfl zA ?_; (with_reducible refine (impl_ScriptText.calls k a0 Ao co ([] : List S43) t _ (zC (Kd.R_reads' HO.out).2.2) (Kd.R_reads' HO.out).2.1 A1.out).mono ?_); rintro e w9 ⟨rfl, hb⟩; refine ⟨_, rfl, ?_⟩; have n0_ := Aside0.mk (Kd.R_below (zR HO.out) hb); have n1_ := Aside0.mk (below_step (zB HB.out) hb); clear HO HB; have HO := n0_; have HB := n1_; clear n0_ n1_ hb))
   go_ret2
   exact ⟨_, rfl, zR HO.out, zB HB.out⟩
  ·have c2b : (t.toList == a1.toList) = false := beq_eq_false_iff_ne.mpr c2
   have H := HH.out
   rw [if_neg c2] at H
   obtain ⟨rfl, rfl⟩ : ([] : List S43) = r1 ∧ false = r2 := by simpa using H
   clear H HH c2
   clear cd
   go_enter Tryd.func13, Tryd.ntmps13
   go_wp2_with (first | ((with_reducible refine gate_dst (N := 16) rfl ?_); refine Kd.R_lit k43 _ 43 ?hg (N := 16) ?hd (xs := ([] : List (S43))) (inner := []) (ok := fun _ => True) (okp := fun _ => True) ?hr ?hp (fun _ hk => hk) trivial (Below.refl _ _) (Nat.le_refl _) (by simp) ?_; (case hd => rfl); (case hg => rfl); (case hr => first | (go_simp; done) | (go_simp; rfl)); (case hp => exact (Reps.none _ _)); intro v16 w4 ho5 hb hg_ hnew_; clear hg_ hnew_; have n0_ := Aside0.mk (Kd.R_lower ho5 (below_size (zB HB.out))); have n1_ := Aside0.mk (below_step (zB HB.out) hb); clear HB; have HO := n0_; have HB := n1_; clear n0_ n1_; clear hb ho5; obtain ⟨Ao, co, eo⟩ := Kd.R_slice HO.out; subst eo) | ((with_reducible refine gate_callee (f := 10) rfl ?_); refine goesL_ (some 66) rfl rfl Tryd.func10 (by kernel_rfl) rfl #[.int .i64 a0, .slice Ao ([] : List S43).length co] rfl zA ?_; (with_reducible refine (impl_ScriptText.calls k a0 Ao co ([] : List S43) t _ (zC (Kd.R_reads' HO.out).2.2) (Kd.R_reads' HO.out).2.1 A1.out).mono ?_); rintro e w9 ⟨rfl, hb⟩; refine ⟨_, rfl, ?_⟩; have n0_ := Aside0.mk (Kd.R_below (zR HO.out) hb); have n1_ := Aside0.mk (below_step (zB HB.out) hb); clear HO HB; have HO := n0_; have HB := n1_; clear n0_ n1_ hb))
   go_ret2
   exact ⟨_, rfl, Kd.R_nil _ _ _ _ _, zB HB.out⟩
 ·have cdb : (a1.toList == ([46] : List UInt8)) = false := beq_eq_false_iff_ne.mpr cd
  obtain ⟨ps, hps⟩ : ∃ ps, ps = impl_ReadScript.pieces a1 := ⟨_, rfl⟩
  have hlen : Lib.countB a1 impl_ReadScript.comma + 1 = ps.length := by rw [hps]; exact (Lib.splitB_all impl_ReadScript.comma (by decide) 0 _ a1 rfl).symm
  have ht : Aside0 (impl_ReadScript.parts (ps.drop 0) [] = impl_ReadScript.told a1) := ⟨by unfold impl_ReadScript.told; rw [if_neg cd, hps]; rfl⟩
  rw [← hps] at CA
  have HPS : Aside0 (Lib.splitB impl_ReadScript.comma 0 (Lib.countB a1 impl_ReadScript.comma) a1 = ps) := ⟨hps.symm⟩
  have HLN := Aside0.mk hlen
  obtain ⟨n, hn⟩ : ∃ n, n = ps.length := ⟨_, rfl⟩
  have HN := Aside0.mk hn
  clear hps cd hlen hn
  go_enter Tryd.func13, Tryd.ntmps13
  go_wp2_with (first
   | ((with_reducible refine gate_dst (N := 16) rfl ?_); refine Kd.R_lit k43 _ 43 ?hg (N := 16) ?hd (xs := ([] : List (S43))) (inner := []) (ok := fun _ => True) (okp := fun _ => True) ?hr ?hp (fun _ hk => hk) trivial (Below.refl _ _) (Nat.le_refl _) (by simp) ?_; (case hd => rfl); (case hg => rfl); (case hr => first | (go_simp; done) | (go_simp; rfl)); (case hp => exact (Reps.none _ _)); intro v16 w4 ho5 hb hg_ hnew_; clear hg_ hnew_; have n0_ := Aside0.mk (Kd.R_lower ho5 (below_size (zB HB.out))); have n1_ := Aside0.mk (below_step (zB HB.out) hb); clear HB; have HO := n0_; have HB := n1_; clear n0_ n1_; clear hb ho5)
   | ((with_reducible refine gate_callee (f := 29) rfl ?_); refine goesL_ (some 20) rfl rfl Tryd.func29 (by kernel_rfl) rfl #[.string a1, .string impl_ReadScript.comma] rfl zA ?_; (obtain ⟨m, hm⟩ := (HV.out.below (zB HB.out)).m; (with_reducible refine (Tryd.strings_Split a1 impl_ReadScript.comma m _ C1.out hm (by decide)).mono ?_)); rintro e w5 ⟨rfl, hw5⟩; have hps_ : Lib.splitB impl_ReadScript.comma 0 (Lib.countB a1 impl_ReadScript.comma) a1 = ps := HPS.out; rw [hps_] at hw5; subst hw5; clear hps_; refine ⟨_, rfl, ?_⟩))
  have HP : Aside0 (impl_ReadScript.Row w4.heap.size ps (w4.alloc (.cells (ps.map Value.string).toArray 9))) := ⟨heap_alloc_new _ _⟩
  have n0_ := Aside0.mk (Kd.R_alloc HO.out (.cells (ps.map Value.string).toArray 9))
  have n1_ := Aside0.mk (below_alloc HB.out (.cells (ps.map Value.string).toArray 9))
  clear HO HB
  have HO := n0_
  have HB := n1_
  clear n0_ n1_
  go_loopg [6, 22] n (fun kq v6 v22 w' => ∃ (xs : List S43) (i : Nat), v22 = .int .i64 (i : Int) ∧ Aside0 (i + kq = n) ∧ Aside0 (impl_ReadScript.parts (ps.drop i) xs = impl_ReadScript.told a1) ∧ Aside0 (Kd.R k43 43 w' w.heap.size (fun _ => True) v6 xs) ∧ Aside0 (impl_ReadScript.Row w4.heap.size ps w') ∧ Aside0 (Below w.heap.size w w'))
  case atStart => exact ⟨[], 0, rfl, ⟨by omega⟩, ht, HO, HP, HB⟩
  case round =>
   clear HO HB HP ht
   obtain ⟨xs, i, rfl, HI, HT, HO, HP, HB⟩ := hrel
   obtain ⟨Ao, co, eo⟩ := Kd.R_slice HO.out
   subst eo
   have hln := HLN.out
   have hnn := HN.out
   have hii := HI.out
   cases gk with
   | zero =>
    have c1b : decide ((i : Int) < ((Lib.countB a1 impl_ReadScript.comma + 1 : Nat) : Int)) = false := decide_eq_false (by omega)
    have c1c : decide ((i : Int) < (Lib.countB a1 impl_ReadScript.comma : Int) + 1) = false := decide_eq_false (by omega)
    have hto : impl_ReadScript.told a1 = some xs := by rw [← HT.out, List.drop_eq_nil_of_le (by omega)]; rfl
    have H := H'.out
    rw [hto] at H
    obtain ⟨t, h1, H⟩ := Option.bind_eq_some_iff.1 H
    have A1 := Aside0.mk h1
    have HH := Aside0.mk H
    clear H H' h1 hto HT hln hnn hii
    by_cases c2 : t.toList = a1.toList
    ·have c2b : (t.toList == a1.toList) = true := beq_iff_eq.mpr c2
     have H := HH.out
     rw [if_pos c2] at H
     obtain ⟨rfl, rfl⟩ : xs = r1 ∧ true = r2 := by simpa using H
     clear H HH c2
     go_wp2_with (first | ((with_reducible refine gate_callee (f := 10) rfl ?_); refine goesL_ (some 66) rfl rfl Tryd.func10 (by kernel_rfl) rfl #[.int .i64 a0, .slice Ao xs.length co] rfl zA ?_; (with_reducible refine (impl_ScriptText.calls k a0 Ao co xs t _ (zC (Kd.R_reads' HO.out).2.2) (Kd.R_reads' HO.out).2.1 A1.out).mono ?_); rintro e w9 ⟨rfl, hb⟩; refine ⟨_, rfl, ?_⟩; have n0_ := Aside0.mk (Kd.R_below (zR HO.out) hb); have n1_ := Aside0.mk (below_step (zB HB.out) hb); clear HO HB; have HO := n0_; have HB := n1_; clear n0_ n1_ hb))
     go_ret2
     exact ⟨_, rfl, Kd.R_mono HO.out (fun _ _ => trivial), zB HB.out⟩
    ·have c2b : (t.toList == a1.toList) = false := beq_eq_false_iff_ne.mpr c2
     have H := HH.out
     rw [if_neg c2] at H
     obtain ⟨rfl, rfl⟩ : ([] : List S43) = r1 ∧ false = r2 := by simpa using H
     clear H HH c2
     go_wp2_with (first | ((with_reducible refine gate_callee (f := 10) rfl ?_); refine goesL_ (some 66) rfl rfl Tryd.func10 (by kernel_rfl) rfl #[.int .i64 a0, .slice Ao xs.length co] rfl zA ?_; (with_reducible refine (impl_ScriptText.calls k a0 Ao co xs t _ (zC (Kd.R_reads' HO.out).2.2) (Kd.R_reads' HO.out).2.1 A1.out).mono ?_); rintro e w9 ⟨rfl, hb⟩; refine ⟨_, rfl, ?_⟩; have n0_ := Aside0.mk (Kd.R_below (zR HO.out) hb); have n1_ := Aside0.mk (below_step (zB HB.out) hb); clear HO HB; have HO := n0_; have HB := n1_; clear n0_ n1_ hb))
     go_ret2
     exact ⟨_, rfl, Kd.R_nil _ _ _ _ _, zB HB.out⟩
   | succ k2 =>
    have c1b : decide ((i : Int) < ((Lib.countB a1 impl_ReadScript.comma + 1 : Nat) : Int)) = true := decide_eq_true (by omega)
    have c1c : decide ((i : Int) < (Lib.countB a1 impl_ReadScript.comma : Int) + 1) = true := decide_eq_true (by omega)
    have c1d : ((i : Int) < (Lib.countB a1 impl_ReadScript.comma : Int) + 1) = True := eq_true (by omega)
    have hip : i < ps.length := by omega
    obtain ⟨p, hp⟩ : ∃ p, p = ps[i] := ⟨_, rfl⟩
    have hdr : ps.drop i = p :: ps.drop (i + 1) := by rw [hp]; exact List.drop_eq_getElem_cons hip
    have hcell := impl_ReadScript.Row.cell HP.out hip
    rw [← hp] at hcell
    have HSZ : Aside0 (p.size < 4294967281) := ⟨CA.out p (by rw [hp]; exact List.getElem_mem hip)⟩
    obtain ⟨ca, cb, cc, hc⟩ : ∃ ca cb cc, impl_ReadScript.cut p = (ca, cb, cc) := ⟨_, _, _, rfl⟩
    have hle := impl_ReadScript.cut_le p
    rw [hc] at hle
    have hle1 : ca.length ≤ p.size := hle.1
    have hle2 : cb.length ≤ p.size := hle.2
    have hcb := Lib.countB_le impl_ReadScript.comma (by decide) a1.size a1 (Nat.le_refl _)
    have hsz1 := C1.out
    have HC := Aside0.mk hc
    have HSZca : Aside0 ((⟨ca.toArray⟩ : ByteArray).size ≤ 281474976710656) := ⟨by
           have := HSZ.out
           have e : (⟨ca.toArray⟩ : ByteArray).size = ca.length := by show ca.toArray.size = ca.length; simp
           omega⟩
    have HSZcb : Aside0 ((⟨cb.toArray⟩ : ByteArray).size ≤ 281474976710656) := ⟨by
           have := HSZ.out
           have e : (⟨cb.toArray⟩ : ByteArray).size = cb.length := by show cb.toArray.size = cb.length; simp
           omega⟩
    have HT2 := HT.out
    rw [hdr] at HT2
    have HTT := Aside0.mk HT2
    have W1 : Aside0 (wrap64 ((i : Int) + 1) = ((i + 1 : Nat) : Int)) := ⟨by unfold wrap64; omega⟩
    clear hdr hp hle hc HT HT2 hle1 hle2 hcb hsz1 hln hnn hii
    by_cases ha : ∃ x, Lib.atoiAll ca = .ok x
    ·obtain ⟨x, hx⟩ := ha
     have HA : Aside0 (Lib.atoiAll (⟨ca.toArray⟩ : ByteArray).data.toList = .ok x) := ⟨hx⟩
     by_cases hb : ∃ y, Lib.atoiAll cb = .ok y
     ·obtain ⟨y, hy⟩ := hb
      have HBt : Aside0 (Lib.atoiAll (⟨cb.toArray⟩ : ByteArray).data.toList = .ok y) := ⟨hy⟩
      cases cc with
      | false =>
       have hb_ := impl_ReadScript.bad (t := ps.drop (i + 1)) (out := xs) HC.out (.inr (.inr (.inl rfl)))
       have H := H'.out
       rw [← HTT.out, hb_] at H
       obtain ⟨rfl, rfl⟩ : ([] : List S43) = r1 ∧ false = r2 := by simpa using H
       clear H hb_ HTT
       go_wp2_with (first | ((with_reducible refine gate_callee (f := 30) rfl ?_); refine goesL_ (some 28) rfl rfl Tryd.func30 (by kernel_rfl) rfl #[.string p, .string ⟨#[58]⟩] rfl zA ?_; (with_reducible refine (impl_ReadScript.cut_calls p ca cb _ _ HC.out HSZ.out (HV.out.below (zB HB.out))).mono ?_); rintro e w6 ⟨rfl, hb⟩; refine ⟨_, rfl, ?_⟩; have n1_ := Aside0.mk (below_step (zB HB.out) hb); have n2_ := Aside0.mk (Kd.R_below (zR HO.out) hb); have n3_ := Aside0.mk (impl_ReadScript.kept HP.out (zB (Below.refl _ _)) hb); clear HB HO HP; have HB := n1_; have HO := n2_; have HP := n3_; clear n1_ n2_ n3_ hb) | ((with_reducible refine gate_callee (f := 31) rfl ?_); refine goesL_ (some 34) rfl rfl Tryd.func31 (by kernel_rfl) rfl #[.string ⟨ca.toArray⟩] rfl zA ?_; (with_reducible refine (impl_ReadScript.atoi_ok ⟨ca.toArray⟩ x _ HSZca.out HA.out).mono ?_); rintro e w7 ⟨rfl, hb⟩; refine ⟨_, rfl, ?_⟩; have n1_ := Aside0.mk (below_step (zB HB.out) hb); have n2_ := Aside0.mk (Kd.R_below (zR HO.out) hb); have n3_ := Aside0.mk (impl_ReadScript.kept HP.out (zB (Below.refl _ _)) hb); clear HB HO HP; have HB := n1_; have HO := n2_; have HP := n3_; clear n1_ n2_ n3_ hb) | ((with_reducible refine gate_callee (f := 31) rfl ?_); refine goesL_ (some 39) rfl rfl Tryd.func31 (by kernel_rfl) rfl #[.string ⟨cb.toArray⟩] rfl zA ?_; (with_reducible refine (impl_ReadScript.atoi_ok ⟨cb.toArray⟩ y _ HSZcb.out HBt.out).mono ?_); rintro e w7 ⟨rfl, hb⟩; refine ⟨_, rfl, ?_⟩; have n1_ := Aside0.mk (below_step (zB HB.out) hb); have n2_ := Aside0.mk (Kd.R_below (zR HO.out) hb); have n3_ := Aside0.mk (impl_ReadScript.kept HP.out (zB (Below.refl _ _)) hb); clear HB HO HP; have HB := n1_; have HO := n2_; have HP := n3_; clear n1_ n2_ n3_ hb))
       go_ret2
       exact ⟨_, rfl, Kd.R_nil _ _ _ _ _, zB HB.out⟩
      | true =>
       by_cases cl : xs.length ≤ 8
       ·have clb : decide (8 < (xs.length : Int)) = false := decide_eq_false (by omega)
        have CL := Aside0.mk cl
        have hgd := impl_ReadScript.good (t := ps.drop (i + 1)) (out := xs) HC.out hx hy rfl cl
        have HN2 := Aside0.mk (hgd.symm.trans HTT.out)
        clear hgd cl hx hy
        go_wp2_with (first | ((with_reducible refine gate_callee (f := 30) rfl ?_); refine goesL_ (some 28) rfl rfl Tryd.func30 (by kernel_rfl) rfl #[.string p, .string ⟨#[58]⟩] rfl zA ?_; (with_reducible refine (impl_ReadScript.cut_calls p ca cb _ _ HC.out HSZ.out (HV.out.below (zB HB.out))).mono ?_); rintro e w6 ⟨rfl, hb⟩; refine ⟨_, rfl, ?_⟩; have n1_ := Aside0.mk (below_step (zB HB.out) hb); have n2_ := Aside0.mk (Kd.R_below (zR HO.out) hb); have n3_ := Aside0.mk (impl_ReadScript.kept HP.out (zB (Below.refl _ _)) hb); clear HB HO HP; have HB := n1_; have HO := n2_; have HP := n3_; clear n1_ n2_ n3_ hb) | ((with_reducible refine gate_callee (f := 31) rfl ?_); refine goesL_ (some 34) rfl rfl Tryd.func31 (by kernel_rfl) rfl #[.string ⟨ca.toArray⟩] rfl zA ?_; (with_reducible refine (impl_ReadScript.atoi_ok ⟨ca.toArray⟩ x _ HSZca.out HA.out).mono ?_); rintro e w7 ⟨rfl, hb⟩; refine ⟨_, rfl, ?_⟩; have n1_ := Aside0.mk (below_step (zB HB.out) hb); have n2_ := Aside0.mk (Kd.R_below (zR HO.out) hb); have n3_ := Aside0.mk (impl_ReadScript.kept HP.out (zB (Below.refl _ _)) hb); clear HB HO HP; have HB := n1_; have HO := n2_; have HP := n3_; clear n1_ n2_ n3_ hb) | ((with_reducible refine gate_callee (f := 31) rfl ?_); refine goesL_ (some 39) rfl rfl Tryd.func31 (by kernel_rfl) rfl #[.string ⟨cb.toArray⟩] rfl zA ?_; (with_reducible refine (impl_ReadScript.atoi_ok ⟨cb.toArray⟩ y _ HSZcb.out HBt.out).mono ?_); rintro e w7 ⟨rfl, hb⟩; refine ⟨_, rfl, ?_⟩; have n1_ := Aside0.mk (below_step (zB HB.out) hb); have n2_ := Aside0.mk (Kd.R_below (zR HO.out) hb); have n3_ := Aside0.mk (impl_ReadScript.kept HP.out (zB (Below.refl _ _)) hb); clear HB HO HP; have HB := n1_; have HO := n2_; have HP := n3_; clear n1_ n2_ n3_ hb) | ((with_reducible refine gate_builtin (b := .append) (xs := #[.tmp 57, .tmp 61]) rfl ?_); at_builtin; refine Kd.R_append k43 (w0 := w) w.heap.size rfl (.tmp 57) (.tmp 61) 25 43 (.agg #[(.int .i64 0), (.int .i64 0)]) 16 rfl Tryd.underlying25 info43 rfl (by decide) (by omega) (.slice Ao xs.length co) xs (⟨x, y⟩ : S43) [.int .i64 x, .int .i64 y] (fun _ => True) (fun _ => False) rfl rfl ?aP (fun _ hk => hk.elim) ?aF ?aO ?aB ?aS ?aL ?_; (case aP => exact k43_mkM _ _ _ (⟨x, y⟩ : S43)); (case aB => exact zB HB.out); (case aF => exact (fun _ _ => trivial)); (case aO => exact zR HO.out); (case aS => exact (below_size (zB HB.out))); (case aL => have := CL.out; omega); intro v6n w25 ho hb hg hat; have HP2 := Aside0.mk (impl_ReadScript.keptG HP.out (zR HO.out) (zB (Below.refl _ _)) hg); have HB2 := Aside0.mk hb; have HO2 := Aside0.mk ho; clear ho hb hg hat HP HB HO))
        go_roundg k2
        case rel => exact ⟨xs ++ [⟨x, y⟩], i + 1, by rw [W1.out], ⟨by have := HI.out; omega⟩, HN2, HO2, HP2, HB2⟩
        all_goals omega
       ·have clb : decide (8 < (xs.length : Int)) = true := decide_eq_true (by omega)
        have hb_ := impl_ReadScript.bad (t := ps.drop (i + 1)) (out := xs) HC.out (.inr (.inr (.inr cl)))
        have H := H'.out
        rw [← HTT.out, hb_] at H
        obtain ⟨rfl, rfl⟩ : ([] : List S43) = r1 ∧ false = r2 := by simpa using H
        clear H hb_ HTT
        clear cl hx hy
        go_wp2_with (first | ((with_reducible refine gate_callee (f := 30) rfl ?_); refine goesL_ (some 28) rfl rfl Tryd.func30 (by kernel_rfl) rfl #[.string p, .string ⟨#[58]⟩] rfl zA ?_; (with_reducible refine (impl_ReadScript.cut_calls p ca cb _ _ HC.out HSZ.out (HV.out.below (zB HB.out))).mono ?_); rintro e w6 ⟨rfl, hb⟩; refine ⟨_, rfl, ?_⟩; have n1_ := Aside0.mk (below_step (zB HB.out) hb); have n2_ := Aside0.mk (Kd.R_below (zR HO.out) hb); have n3_ := Aside0.mk (impl_ReadScript.kept HP.out (zB (Below.refl _ _)) hb); clear HB HO HP; have HB := n1_; have HO := n2_; have HP := n3_; clear n1_ n2_ n3_ hb) | ((with_reducible refine gate_callee (f := 31) rfl ?_); refine goesL_ (some 34) rfl rfl Tryd.func31 (by kernel_rfl) rfl #[.string ⟨ca.toArray⟩] rfl zA ?_; (with_reducible refine (impl_ReadScript.atoi_ok ⟨ca.toArray⟩ x _ HSZca.out HA.out).mono ?_); rintro e w7 ⟨rfl, hb⟩; refine ⟨_, rfl, ?_⟩; have n1_ := Aside0.mk (below_step (zB HB.out) hb); have n2_ := Aside0.mk (Kd.R_below (zR HO.out) hb); have n3_ := Aside0.mk (impl_ReadScript.kept HP.out (zB (Below.refl _ _)) hb); clear HB HO HP; have HB := n1_; have HO := n2_; have HP := n3_; clear n1_ n2_ n3_ hb) | ((with_reducible refine gate_callee (f := 31) rfl ?_); refine goesL_ (some 39) rfl rfl Tryd.func31 (by kernel_rfl) rfl #[.string ⟨cb.toArray⟩] rfl zA ?_; (with_reducible refine (impl_ReadScript.atoi_ok ⟨cb.toArray⟩ y _ HSZcb.out HBt.out).mono ?_); rintro e w7 ⟨rfl, hb⟩; refine ⟨_, rfl, ?_⟩; have n1_ := Aside0.mk (below_step (zB HB.out) hb); have n2_ := Aside0.mk (Kd.R_below (zR HO.out) hb); have n3_ := Aside0.mk (impl_ReadScript.kept HP.out (zB (Below.refl _ _)) hb); clear HB HO HP; have HB := n1_; have HO := n2_; have HP := n3_; clear n1_ n2_ n3_ hb))
        go_ret2
        exact ⟨_, rfl, Kd.R_nil _ _ _ _ _, zB HB.out⟩
     ·have hy : ∀ v, Lib.atoiAll (⟨cb.toArray⟩ : ByteArray).data.toList ≠ .ok v := fun v e => hb ⟨v, e⟩
      have HBt := Aside0.mk hy
      cases cc with
      | false =>
       have hb_ := impl_ReadScript.bad (t := ps.drop (i + 1)) (out := xs) HC.out (.inr (.inr (.inl rfl)))
       have H := H'.out
       rw [← HTT.out, hb_] at H
       obtain ⟨rfl, rfl⟩ : ([] : List S43) = r1 ∧ false = r2 := by simpa using H
       clear H hb_ HTT
       go_wp2_with (first | ((with_reducible refine gate_callee (f := 30) rfl ?_); refine goesL_ (some 28) rfl rfl Tryd.func30 (by kernel_rfl) rfl #[.string p, .string ⟨#[58]⟩] rfl zA ?_; (with_reducible refine (impl_ReadScript.cut_calls p ca cb _ _ HC.out HSZ.out (HV.out.below (zB HB.out))).mono ?_); rintro e w6 ⟨rfl, hb⟩; refine ⟨_, rfl, ?_⟩; have n1_ := Aside0.mk (below_step (zB HB.out) hb); have n2_ := Aside0.mk (Kd.R_below (zR HO.out) hb); have n3_ := Aside0.mk (impl_ReadScript.kept HP.out (zB (Below.refl _ _)) hb); clear HB HO HP; have HB := n1_; have HO := n2_; have HP := n3_; clear n1_ n2_ n3_ hb) | ((with_reducible refine gate_callee (f := 31) rfl ?_); refine goesL_ (some 34) rfl rfl Tryd.func31 (by kernel_rfl) rfl #[.string ⟨ca.toArray⟩] rfl zA ?_; (with_reducible refine (impl_ReadScript.atoi_ok ⟨ca.toArray⟩ x _ HSZca.out HA.out).mono ?_); rintro e w7 ⟨rfl, hb⟩; refine ⟨_, rfl, ?_⟩; have n1_ := Aside0.mk (below_step (zB HB.out) hb); have n2_ := Aside0.mk (Kd.R_below (zR HO.out) hb); have n3_ := Aside0.mk (impl_ReadScript.kept HP.out (zB (Below.refl _ _)) hb); clear HB HO HP; have HB := n1_; have HO := n2_; have HP := n3_; clear n1_ n2_ n3_ hb) | ((with_reducible refine gate_callee (f := 31) rfl ?_); refine goesL_ (some 39) rfl rfl Tryd.func31 (by kernel_rfl) rfl #[.string ⟨cb.toArray⟩] rfl zA ?_; (with_reducible refine (impl_ReadScript.atoi_err ⟨cb.toArray⟩ _ HSZcb.out (HV.out.below (zB HB.out)) HBt.out).mono ?_); rintro e w7 ⟨vcb, Ncb, rfl, hb⟩; refine ⟨_, rfl, ?_⟩; have n1_ := Aside0.mk (below_step (zB HB.out) hb); have n2_ := Aside0.mk (Kd.R_below (zR HO.out) hb); have n3_ := Aside0.mk (impl_ReadScript.kept HP.out (zB (Below.refl _ _)) hb); clear HB HO HP; have HB := n1_; have HO := n2_; have HP := n3_; clear n1_ n2_ n3_ hb))
       go_ret2
       exact ⟨_, rfl, Kd.R_nil _ _ _ _ _, zB HB.out⟩
      | true =>
       have hb_ := impl_ReadScript.bad (t := ps.drop (i + 1)) (out := xs) HC.out (.inr (.inl hy))
       have H := H'.out
       rw [← HTT.out, hb_] at H
       obtain ⟨rfl, rfl⟩ : ([] : List S43) = r1 ∧ false = r2 := by simpa using H
       clear H hb_ HTT
       go_wp2_with (first | ((with_reducible refine gate_callee (f := 30) rfl ?_); refine goesL_ (some 28) rfl rfl Tryd.func30 (by kernel_rfl) rfl #[.string p, .string ⟨#[58]⟩] rfl zA ?_; (with_reducible refine (impl_ReadScript.cut_calls p ca cb _ _ HC.out HSZ.out (HV.out.below (zB HB.out))).mono ?_); rintro e w6 ⟨rfl, hb⟩; refine ⟨_, rfl, ?_⟩; have n1_ := Aside0.mk (below_step (zB HB.out) hb); have n2_ := Aside0.mk (Kd.R_below (zR HO.out) hb); have n3_ := Aside0.mk (impl_ReadScript.kept HP.out (zB (Below.refl _ _)) hb); clear HB HO HP; have HB := n1_; have HO := n2_; have HP := n3_; clear n1_ n2_ n3_ hb) | ((with_reducible refine gate_callee (f := 31) rfl ?_); refine goesL_ (some 34) rfl rfl Tryd.func31 (by kernel_rfl) rfl #[.string ⟨ca.toArray⟩] rfl zA ?_; (with_reducible refine (impl_ReadScript.atoi_ok ⟨ca.toArray⟩ x _ HSZca.out HA.out).mono ?_); rintro e w7 ⟨rfl, hb⟩; refine ⟨_, rfl, ?_⟩; have n1_ := Aside0.mk (below_step (zB HB.out) hb); have n2_ := Aside0.mk (Kd.R_below (zR HO.out) hb); have n3_ := Aside0.mk (impl_ReadScript.kept HP.out (zB (Below.refl _ _)) hb); clear HB HO HP; have HB := n1_; have HO := n2_; have HP := n3_; clear n1_ n2_ n3_ hb) | ((with_reducible refine gate_callee (f := 31) rfl ?_); refine goesL_ (some 39) rfl rfl Tryd.func31 (by kernel_rfl) rfl #[.string ⟨cb.toArray⟩] rfl zA ?_; (with_reducible refine (impl_ReadScript.atoi_err ⟨cb.toArray⟩ _ HSZcb.out (HV.out.below (zB HB.out)) HBt.out).mono ?_); rintro e w7 ⟨vcb, Ncb, rfl, hb⟩; refine ⟨_, rfl, ?_⟩; have n1_ := Aside0.mk (below_step (zB HB.out) hb); have n2_ := Aside0.mk (Kd.R_below (zR HO.out) hb); have n3_ := Aside0.mk (impl_ReadScript.kept HP.out (zB (Below.refl _ _)) hb); clear HB HO HP; have HB := n1_; have HO := n2_; have HP := n3_; clear n1_ n2_ n3_ hb))
       go_ret2
       exact ⟨_, rfl, Kd.R_nil _ _ _ _ _, zB HB.out⟩
    ·have hx : ∀ v, Lib.atoiAll (⟨ca.toArray⟩ : ByteArray).data.toList ≠ .ok v := fun v e => ha ⟨v, e⟩
     have HA := Aside0.mk hx
     by_cases hb : ∃ y, Lib.atoiAll cb = .ok y
     ·obtain ⟨y, hy⟩ := hb
      have HBt : Aside0 (Lib.atoiAll (⟨cb.toArray⟩ : ByteArray).data.toList = .ok y) := ⟨hy⟩
      cases cc with
      | false =>
       have hb_ := impl_ReadScript.bad (t := ps.drop (i + 1)) (out := xs) HC.out (.inr (.inr (.inl rfl)))
       have H := H'.out
       rw [← HTT.out, hb_] at H
       obtain ⟨rfl, rfl⟩ : ([] : List S43) = r1 ∧ false = r2 := by simpa using H
       clear H hb_ HTT
       go_wp2_with (first | ((with_reducible refine gate_callee (f := 30) rfl ?_); refine goesL_ (some 28) rfl rfl Tryd.func30 (by kernel_rfl) rfl #[.string p, .string ⟨#[58]⟩] rfl zA ?_; (with_reducible refine (impl_ReadScript.cut_calls p ca cb _ _ HC.out HSZ.out (HV.out.below (zB HB.out))).mono ?_); rintro e w6 ⟨rfl, hb⟩; refine ⟨_, rfl, ?_⟩; have n1_ := Aside0.mk (below_step (zB HB.out) hb); have n2_ := Aside0.mk (Kd.R_below (zR HO.out) hb); have n3_ := Aside0.mk (impl_ReadScript.kept HP.out (zB (Below.refl _ _)) hb); clear HB HO HP; have HB := n1_; have HO := n2_; have HP := n3_; clear n1_ n2_ n3_ hb) | ((with_reducible refine gate_callee (f := 31) rfl ?_); refine goesL_ (some 34) rfl rfl Tryd.func31 (by kernel_rfl) rfl #[.string ⟨ca.toArray⟩] rfl zA ?_; (with_reducible refine (impl_ReadScript.atoi_err ⟨ca.toArray⟩ _ HSZca.out (HV.out.below (zB HB.out)) HA.out).mono ?_); rintro e w7 ⟨vca, Nca, rfl, hb⟩; refine ⟨_, rfl, ?_⟩; have n1_ := Aside0.mk (below_step (zB HB.out) hb); have n2_ := Aside0.mk (Kd.R_below (zR HO.out) hb); have n3_ := Aside0.mk (impl_ReadScript.kept HP.out (zB (Below.refl _ _)) hb); clear HB HO HP; have HB := n1_; have HO := n2_; have HP := n3_; clear n1_ n2_ n3_ hb) | ((with_reducible refine gate_callee (f := 31) rfl ?_); refine goesL_ (some 39) rfl rfl Tryd.func31 (by kernel_rfl) rfl #[.string ⟨cb.toArray⟩] rfl zA ?_; (with_reducible refine (impl_ReadScript.atoi_ok ⟨cb.toArray⟩ y _ HSZcb.out HBt.out).mono ?_); rintro e w7 ⟨rfl, hb⟩; refine ⟨_, rfl, ?_⟩; have n1_ := Aside0.mk (below_step (zB HB.out) hb); have n2_ := Aside0.mk (Kd.R_below (zR HO.out) hb); have n3_ := Aside0.mk (impl_ReadScript.kept HP.out (zB (Below.refl _ _)) hb); clear HB HO HP; have HB := n1_; have HO := n2_; have HP := n3_; clear n1_ n2_ n3_ hb))
       go_ret2
       exact ⟨_, rfl, Kd.R_nil _ _ _ _ _, zB HB.out⟩
      | true =>
       have hb_ := impl_ReadScript.bad (t := ps.drop (i + 1)) (out := xs) HC.out (.inl hx)
       have H := H'.out
       rw [← HTT.out, hb_] at H
       obtain ⟨rfl, rfl⟩ : ([] : List S43) = r1 ∧ false = r2 := by simpa using H
       clear H hb_ HTT
       go_wp2_with (first | ((with_reducible refine gate_callee (f := 30) rfl ?_); refine goesL_ (some 28) rfl rfl Tryd.func30 (by kernel_rfl) rfl #[.string p, .string ⟨#[58]⟩] rfl zA ?_; (with_reducible refine (impl_ReadScript.cut_calls p ca cb _ _ HC.out HSZ.out (HV.out.below (zB HB.out))).mono ?_); rintro e w6 ⟨rfl, hb⟩; refine ⟨_, rfl, ?_⟩; have n1_ := Aside0.mk (below_step (zB HB.out) hb); have n2_ := Aside0.mk (Kd.R_below (zR HO.out) hb); have n3_ := Aside0.mk (impl_ReadScript.kept HP.out (zB (Below.refl _ _)) hb); clear HB HO HP; have HB := n1_; have HO := n2_; have HP := n3_; clear n1_ n2_ n3_ hb) | ((with_reducible refine gate_callee (f := 31) rfl ?_); refine goesL_ (some 34) rfl rfl Tryd.func31 (by kernel_rfl) rfl #[.string ⟨ca.toArray⟩] rfl zA ?_; (with_reducible refine (impl_ReadScript.atoi_err ⟨ca.toArray⟩ _ HSZca.out (HV.out.below (zB HB.out)) HA.out).mono ?_); rintro e w7 ⟨vca, Nca, rfl, hb⟩; refine ⟨_, rfl, ?_⟩; have n1_ := Aside0.mk (below_step (zB HB.out) hb); have n2_ := Aside0.mk (Kd.R_below (zR HO.out) hb); have n3_ := Aside0.mk (impl_ReadScript.kept HP.out (zB (Below.refl _ _)) hb); clear HB HO HP; have HB := n1_; have HO := n2_; have HP := n3_; clear n1_ n2_ n3_ hb) | ((with_reducible refine gate_callee (f := 31) rfl ?_); refine goesL_ (some 39) rfl rfl Tryd.func31 (by kernel_rfl) rfl #[.string ⟨cb.toArray⟩] rfl zA ?_; (with_reducible refine (impl_ReadScript.atoi_ok ⟨cb.toArray⟩ y _ HSZcb.out HBt.out).mono ?_); rintro e w7 ⟨rfl, hb⟩; refine ⟨_, rfl, ?_⟩; have n1_ := Aside0.mk (below_step (zB HB.out) hb); have n2_ := Aside0.mk (Kd.R_below (zR HO.out) hb); have n3_ := Aside0.mk (impl_ReadScript.kept HP.out (zB (Below.refl _ _)) hb); clear HB HO HP; have HB := n1_; have HO := n2_; have HP := n3_; clear n1_ n2_ n3_ hb))
       go_ret2
       exact ⟨_, rfl, Kd.R_nil _ _ _ _ _, zB HB.out⟩
     ·have hy : ∀ v, Lib.atoiAll (⟨cb.toArray⟩ : ByteArray).data.toList ≠ .ok v := fun v e => hb ⟨v, e⟩
      have HBt := Aside0.mk hy
      cases cc with
      | false =>
       have hb_ := impl_ReadScript.bad (t := ps.drop (i + 1)) (out := xs) HC.out (.inr (.inr (.inl rfl)))
       have H := H'.out
       rw [← HTT.out, hb_] at H
       obtain ⟨rfl, rfl⟩ : ([] : List S43) = r1 ∧ false = r2 := by simpa using H
       clear H hb_ HTT
       go_wp2_with (first | ((with_reducible refine gate_callee (f := 30) rfl ?_); refine goesL_ (some 28) rfl rfl Tryd.func30 (by kernel_rfl) rfl #[.string p, .string ⟨#[58]⟩] rfl zA ?_; (with_reducible refine (impl_ReadScript.cut_calls p ca cb _ _ HC.out HSZ.out (HV.out.below (zB HB.out))).mono ?_); rintro e w6 ⟨rfl, hb⟩; refine ⟨_, rfl, ?_⟩; have n1_ := Aside0.mk (below_step (zB HB.out) hb); have n2_ := Aside0.mk (Kd.R_below (zR HO.out) hb); have n3_ := Aside0.mk (impl_ReadScript.kept HP.out (zB (Below.refl _ _)) hb); clear HB HO HP; have HB := n1_; have HO := n2_; have HP := n3_; clear n1_ n2_ n3_ hb) | ((with_reducible refine gate_callee (f := 31) rfl ?_); refine goesL_ (some 34) rfl rfl Tryd.func31 (by kernel_rfl) rfl #[.string ⟨ca.toArray⟩] rfl zA ?_; (with_reducible refine (impl_ReadScript.atoi_err ⟨ca.toArray⟩ _ HSZca.out (HV.out.below (zB HB.out)) HA.out).mono ?_); rintro e w7 ⟨vca, Nca, rfl, hb⟩; refine ⟨_, rfl, ?_⟩; have n1_ := Aside0.mk (below_step (zB HB.out) hb); have n2_ := Aside0.mk (Kd.R_below (zR HO.out) hb); have n3_ := Aside0.mk (impl_ReadScript.kept HP.out (zB (Below.refl _ _)) hb); clear HB HO HP; have HB := n1_; have HO := n2_; have HP := n3_; clear n1_ n2_ n3_ hb) | ((with_reducible refine gate_callee (f := 31) rfl ?_); refine goesL_ (some 39) rfl rfl Tryd.func31 (by kernel_rfl) rfl #[.string ⟨cb.toArray⟩] rfl zA ?_; (with_reducible refine (impl_ReadScript.atoi_err ⟨cb.toArray⟩ _ HSZcb.out (HV.out.below (zB HB.out)) HBt.out).mono ?_); rintro e w7 ⟨vcb, Ncb, rfl, hb⟩; refine ⟨_, rfl, ?_⟩; have n1_ := Aside0.mk (below_step (zB HB.out) hb); have n2_ := Aside0.mk (Kd.R_below (zR HO.out) hb); have n3_ := Aside0.mk (impl_ReadScript.kept HP.out (zB (Below.refl _ _)) hb); clear HB HO HP; have HB := n1_; have HO := n2_; have HP := n3_; clear n1_ n2_ n3_ hb))
       go_ret2
       exact ⟨_, rfl, Kd.R_nil _ _ _ _ _, zB HB.out⟩
      | true =>
       have hb_ := impl_ReadScript.bad (t := ps.drop (i + 1)) (out := xs) HC.out (.inl hx)
       have H := H'.out
       rw [← HTT.out, hb_] at H
       obtain ⟨rfl, rfl⟩ : ([] : List S43) = r1 ∧ false = r2 := by simpa using H
       clear H hb_ HTT
       go_wp2_with (first | ((with_reducible refine gate_callee (f := 30) rfl ?_); refine goesL_ (some 28) rfl rfl Tryd.func30 (by kernel_rfl) rfl #[.string p, .string ⟨#[58]⟩] rfl zA ?_; (with_reducible refine (impl_ReadScript.cut_calls p ca cb _ _ HC.out HSZ.out (HV.out.below (zB HB.out))).mono ?_); rintro e w6 ⟨rfl, hb⟩; refine ⟨_, rfl, ?_⟩; have n1_ := Aside0.mk (below_step (zB HB.out) hb); have n2_ := Aside0.mk (Kd.R_below (zR HO.out) hb); have n3_ := Aside0.mk (impl_ReadScript.kept HP.out (zB (Below.refl _ _)) hb); clear HB HO HP; have HB := n1_; have HO := n2_; have HP := n3_; clear n1_ n2_ n3_ hb) | ((with_reducible refine gate_callee (f := 31) rfl ?_); refine goesL_ (some 34) rfl rfl Tryd.func31 (by kernel_rfl) rfl #[.string ⟨ca.toArray⟩] rfl zA ?_; (with_reducible refine (impl_ReadScript.atoi_err ⟨ca.toArray⟩ _ HSZca.out (HV.out.below (zB HB.out)) HA.out).mono ?_); rintro e w7 ⟨vca, Nca, rfl, hb⟩; refine ⟨_, rfl, ?_⟩; have n1_ := Aside0.mk (below_step (zB HB.out) hb); have n2_ := Aside0.mk (Kd.R_below (zR HO.out) hb); have n3_ := Aside0.mk (impl_ReadScript.kept HP.out (zB (Below.refl _ _)) hb); clear HB HO HP; have HB := n1_; have HO := n2_; have HP := n3_; clear n1_ n2_ n3_ hb) | ((with_reducible refine gate_callee (f := 31) rfl ?_); refine goesL_ (some 39) rfl rfl Tryd.func31 (by kernel_rfl) rfl #[.string ⟨cb.toArray⟩] rfl zA ?_; (with_reducible refine (impl_ReadScript.atoi_err ⟨cb.toArray⟩ _ HSZcb.out (HV.out.below (zB HB.out)) HBt.out).mono ?_); rintro e w7 ⟨vcb, Ncb, rfl, hb⟩; refine ⟨_, rfl, ?_⟩; have n1_ := Aside0.mk (below_step (zB HB.out) hb); have n2_ := Aside0.mk (Kd.R_below (zR HO.out) hb); have n3_ := Aside0.mk (impl_ReadScript.kept HP.out (zB (Below.refl _ _)) hb); clear HB HO HP; have HB := n1_; have HO := n2_; have HP := n3_; clear n1_ n2_ n3_ hb))
       go_ret2
       exact ⟨_, rfl, Kd.R_nil _ _ _ _ _, zB HB.out⟩

end Go.Proofs.YtmkakbimlnigbaaDoor.PAll
