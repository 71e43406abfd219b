/- Own text of this session, written by a program of this session (wip/t/own.py) out of what the kit tells of the functions: each Go function as a Lean function, and the walk through its code. -/
import Derived.Test.YtmkakbimlnigbaaDoorT
import Derived.Test.YtmkakbimlnigbaaDoorF1
import Derived.Test.YtmkakbimlnigbaaDoorF18
namespace Go.Proofs.YtmkakbimlnigbaaDoor.PAll
open Go.RowKit Go.Proofs.YtmkakbimlnigbaaDoorW.PrintWords Go.Proofs.YtmkakbimlnigbaaDoorW.PrintLast Go.Proofs.YtmkakbimlnigbaaDoorW.PrintMore
attribute [local go_sem] max2_int min2_int max_two min_two max_three min_three max_four min_four   -- for this text's walks alone
set_option linter.unusedVariables false
set_option linter.unusedSimpArgs false

attribute [local go_sem high] eqA43
/-! ### spec_DrawReadScript: function 20 -/
def spec_DrawReadScript.f (k : Nat) (l0 : List Int) : Option (Int × ByteArray) := (spec_l20Open.f l0).bind fun bt371 => ((spec_l20Rd_pick.f k bt371.1 bt371.2 6).bind fun bt374 => ((spec_l20Script.f k bt371.1 bt374.2 (wrap64 (1 + bt374.1)) 0).bind fun bt376 => ((spec_ScriptText.f k (wrap64 (1 + bt374.1)) bt376.1).bind fun t380 => ((spec_l20Rd_pick.f k bt371.1 bt376.2 3).bind fun bt381 => (if bt381.1 = 0 then ((spec_l20Rd_pick.f k bt371.1 bt381.2 (t380.size : Int)).bind fun bt383 => (if 0 ≤ bt383.1 then (if bt383.1 ≤ (t380.size : Int) then ((some (([(⟨#[]⟩ : ByteArray), (⟨#[58]⟩ : ByteArray), (⟨#[44]⟩ : ByteArray), (⟨#[48]⟩ : ByteArray), (⟨#[57]⟩ : ByteArray), (⟨#[46]⟩ : ByteArray)] : List ByteArray) : List ByteArray)).bind fun y385 => ((spec_l20Rd_pick.f k bt371.1 bt383.2 6).bind fun bt388 => (if 0 ≤ bt388.1 then (if bt388.1 < (y385.length : Int) then (if (t380.extract 0 (bt383.1 : Int).toNat).size + (rdOf ByteArray.empty y385 bt388.1).size ≤ 9223372036854775807 then ((spec_l20Rd_pick.f k bt371.1 bt388.2 2).bind fun bt391 => (if 0 ≤ (wrap64 (bt383.1 + bt391.1)) then (if (wrap64 (bt383.1 + bt391.1)) ≤ (t380.size : Int) then (if ((t380.extract 0 (bt383.1 : Int).toNat) ++ (rdOf ByteArray.empty y385 bt388.1)).size + (t380.extract ((wrap64 (bt383.1 + bt391.1)) : Int).toNat t380.size).size ≤ 9223372036854775807 then (some (wrap64 (1 + bt374.1), ((t380.extract 0 (bt383.1 : Int).toNat) ++ (rdOf ByteArray.empty y385 bt388.1)) ++ (t380.extract ((wrap64 (bt383.1 + bt391.1)) : Int).toNat t380.size))) else (none)) else (none)) else (none))) else (none)) else (none)) else (none)))) else (none)) else (none))) else (some (wrap64 (1 + bt374.1), t380)))))))
theorem spec_DrawReadScript.mono : ∀ a0 k, LeO (spec_DrawReadScript.f k a0) (spec_DrawReadScript.f (k + 1) a0) := by
 intro a0 k
 unfold spec_DrawReadScript.f
 repeat' first
   | (with_reducible exact spec_ScriptText.mono _ _ _)
   | (with_reducible exact spec_l20Rd_pick.mono _ _ _ _)
   | (with_reducible exact spec_l20Script.mono _ _ _ _ _)
   | (with_reducible exact LeO.refl _)
   | (with_reducible exact LeO.none _)
   | (with_reducible refine LeO.ite ?_ ?_)
   | (with_reducible refine LeO.bind ?_ (fun _ => ?_))
   | exact spec_ScriptText.mono _ _ _
   | exact spec_l20Rd_pick.mono _ _ _ _
   | exact spec_l20Script.mono _ _ _ _ _
   | exact LeO.none _
   | refine LeO.ite ?_ ?_
   | refine LeO.bind ?_ (fun _ => ?_)
def spec_DrawReadScript.T6 : Bool × List (List Nat × List Nat) := (true, [([], []), ([], []), ([], []), ([1, 2], [1, 2]), ([], []), ([], []), ([5], [5]), ([4, 6], [4, 6]), ([7], [7]), ([3, 8], [3, 8]), ([], []), ([], []), ([], []), ([12, 6], [12]), ([11, 13], [11, 13]), ([10, 14], [10, 14]), ([9, 15], [9, 15]), ([0, 13, 0], [0]), ([16, 17, 0, 1, 2, 3, 4, 5, 6, 7, 8, 9, 10, 11, 12, 13, 14, 15, 16, 17], [16])])
def spec_DrawReadScript.B6 : List Nat := [0, 0, 0, 6, 0, 0, 32, 112, 240, 510, 0, 0, 0, 4192, 14432, 31840, 65534, 12385, 262143]
theorem spec_DrawReadScript.tab6 : rtab .any (opsOf Tryd.f20 6) = spec_DrawReadScript.T6 := by kernel_rfl
theorem spec_DrawReadScript.bits6 : waitsOk spec_DrawReadScript.T6.2 spec_DrawReadScript.B6 = true := by kernel_rfl
set_option maxHeartbeats 8000000 in
set_option maxRecDepth 100000 in
theorem spec_DrawReadScript.calls (k : Nat) (A0 : Option Addr) (c0 : Nat) (l0 : List Int) (r1 : Int) (r2 : ByteArray) (w : World) (hr0 : Kd.C (Kd.int .u8) w A0 l0.length l0) (hc0 : l0.length ≤ c0) (h : spec_DrawReadScript.f k l0 = some (r1, r2)) :
  Calls Tryd.prog 20 #[.slice A0 l0.length c0] w fun e w' => e = .returned (.tuple #[.int .i64 r1, .string r2]) ∧ Below w.heap.size w w' := by
 have HR0 := Aside0.mk hr0
 have HC0 := Aside0.mk hc0
 clear hr0 hc0
 have HB := Aside0.mk (Below.refl w.heap.size w)
 have H : ((spec_l20Open.f l0).bind fun bt371 => ((spec_l20Rd_pick.f k bt371.1 bt371.2 6).bind fun bt374 => ((spec_l20Script.f k bt371.1 bt374.2 (wrap64 (1 + bt374.1)) 0).bind fun bt376 => ((spec_ScriptText.f k (wrap64 (1 + bt374.1)) bt376.1).bind fun t380 => ((spec_l20Rd_pick.f k bt371.1 bt376.2 3).bind fun bt381 => (if bt381.1 = 0 then ((spec_l20Rd_pick.f k bt371.1 bt381.2 (t380.size : Int)).bind fun bt383 => (if 0 ≤ bt383.1 then (if bt383.1 ≤ (t380.size : Int) then ((some (([(⟨#[]⟩ : ByteArray), (⟨#[58]⟩ : ByteArray), (⟨#[44]⟩ : ByteArray), (⟨#[48]⟩ : ByteArray), (⟨#[57]⟩ : ByteArray), (⟨#[46]⟩ : ByteArray)] : List ByteArray) : List ByteArray)).bind fun y385 => ((spec_l20Rd_pick.f k bt371.1 bt383.2 6).bind fun bt388 => (if 0 ≤ bt388.1 then (if bt388.1 < (y385.length : Int) then (if (t380.extract 0 (bt383.1 : Int).toNat).size + (rdOf ByteArray.empty y385 bt388.1).size ≤ 9223372036854775807 then ((spec_l20Rd_pick.f k bt371.1 bt388.2 2).bind fun bt391 => (if 0 ≤ (wrap64 (bt383.1 + bt391.1)) then (if (wrap64 (bt383.1 + bt391.1)) ≤ (t380.size : Int) then (if ((t380.extract 0 (bt383.1 : Int).toNat) ++ (rdOf ByteArray.empty y385 bt388.1)).size + (t380.extract ((wrap64 (bt383.1 + bt391.1)) : Int).toNat t380.size).size ≤ 9223372036854775807 then (some (wrap64 (1 + bt374.1), ((t380.extract 0 (bt383.1 : Int).toNat) ++ (rdOf ByteArray.empty y385 bt388.1)) ++ (t380.extract ((wrap64 (bt383.1 + bt391.1)) : Int).toNat t380.size))) else (none)) else (none)) else (none))) else (none)) else (none)) else (none)))) else (none)) else (none))) else (some (wrap64 (1 + bt374.1), t380)))))))) = some (r1, r2) := h
 clear h
 replace H := Option.bind_eq_some_iff.mp H
 obtain ⟨⟨t371, t372⟩, A20, H⟩ := H
 replace H : ((spec_l20Rd_pick.f k t371 t372 6).bind fun bt374 => ((spec_l20Script.f k t371 bt374.2 (wrap64 (1 + bt374.1)) 0).bind fun bt376 => ((spec_ScriptText.f k (wrap64 (1 + bt374.1)) bt376.1).bind fun t380 => ((spec_l20Rd_pick.f k t371 bt376.2 3).bind fun bt381 => (if bt381.1 = 0 then ((spec_l20Rd_pick.f k t371 bt381.2 (t380.size : Int)).bind fun bt383 => (if 0 ≤ bt383.1 then (if bt383.1 ≤ (t380.size : Int) then ((some (([(⟨#[]⟩ : ByteArray), (⟨#[58]⟩ : ByteArray), (⟨#[44]⟩ : ByteArray), (⟨#[48]⟩ : ByteArray), (⟨#[57]⟩ : ByteArray), (⟨#[46]⟩ : ByteArray)] : List ByteArray) : List ByteArray)).bind fun y385 => ((spec_l20Rd_pick.f k t371 bt383.2 6).bind fun bt388 => (if 0 ≤ bt388.1 then (if bt388.1 < (y385.length : Int) then (if (t380.extract 0 (bt383.1 : Int).toNat).size + (rdOf ByteArray.empty y385 bt388.1).size ≤ 9223372036854775807 then ((spec_l20Rd_pick.f k t371 bt388.2 2).bind fun bt391 => (if 0 ≤ (wrap64 (bt383.1 + bt391.1)) then (if (wrap64 (bt383.1 + bt391.1)) ≤ (t380.size : Int) then (if ((t380.extract 0 (bt383.1 : Int).toNat) ++ (rdOf ByteArray.empty y385 bt388.1)).size + (t380.extract ((wrap64 (bt383.1 + bt391.1)) : Int).toNat t380.size).size ≤ 9223372036854775807 then (some (wrap64 (1 + bt374.1), ((t380.extract 0 (bt383.1 : Int).toNat) ++ (rdOf ByteArray.empty y385 bt388.1)) ++ (t380.extract ((wrap64 (bt383.1 + bt391.1)) : Int).toNat t380.size))) else (none)) else (none)) else (none))) else (none)) else (none)) else (none)))) else (none)) else (none))) else (some (wrap64 (1 + bt374.1), t380))))))) = some (r1, r2) := H
 have A2 := Aside0.mk A20
 clear A20
 replace H := Option.bind_eq_some_iff.mp H
 obtain ⟨⟨t374, t375⟩, A30, H⟩ := H
 replace H : ((spec_l20Script.f k t371 t375 (wrap64 (1 + t374)) 0).bind fun bt376 => ((spec_ScriptText.f k (wrap64 (1 + t374)) bt376.1).bind fun t380 => ((spec_l20Rd_pick.f k t371 bt376.2 3).bind fun bt381 => (if bt381.1 = 0 then ((spec_l20Rd_pick.f k t371 bt381.2 (t380.size : Int)).bind fun bt383 => (if 0 ≤ bt383.1 then (if bt383.1 ≤ (t380.size : Int) then ((some (([(⟨#[]⟩ : ByteArray), (⟨#[58]⟩ : ByteArray), (⟨#[44]⟩ : ByteArray), (⟨#[48]⟩ : ByteArray), (⟨#[57]⟩ : ByteArray), (⟨#[46]⟩ : ByteArray)] : List ByteArray) : List ByteArray)).bind fun y385 => ((spec_l20Rd_pick.f k t371 bt383.2 6).bind fun bt388 => (if 0 ≤ bt388.1 then (if bt388.1 < (y385.length : Int) then (if (t380.extract 0 (bt383.1 : Int).toNat).size + (rdOf ByteArray.empty y385 bt388.1).size ≤ 9223372036854775807 then ((spec_l20Rd_pick.f k t371 bt388.2 2).bind fun bt391 => (if 0 ≤ (wrap64 (bt383.1 + bt391.1)) then (if (wrap64 (bt383.1 + bt391.1)) ≤ (t380.size : Int) then (if ((t380.extract 0 (bt383.1 : Int).toNat) ++ (rdOf ByteArray.empty y385 bt388.1)).size + (t380.extract ((wrap64 (bt383.1 + bt391.1)) : Int).toNat t380.size).size ≤ 9223372036854775807 then (some (wrap64 (1 + t374), ((t380.extract 0 (bt383.1 : Int).toNat) ++ (rdOf ByteArray.empty y385 bt388.1)) ++ (t380.extract ((wrap64 (bt383.1 + bt391.1)) : Int).toNat t380.size))) else (none)) else (none)) else (none))) else (none)) else (none)) else (none)))) else (none)) else (none))) else (some (wrap64 (1 + t374), t380)))))) = some (r1, r2) := H
 have A3 := Aside0.mk A30
 clear A30
 replace H := Option.bind_eq_some_iff.mp H
 obtain ⟨⟨t376, t379⟩, A40, H⟩ := H
 replace H : ((spec_ScriptText.f k (wrap64 (1 + t374)) t376).bind fun t380 => ((spec_l20Rd_pick.f k t371 t379 3).bind fun bt381 => (if bt381.1 = 0 then ((spec_l20Rd_pick.f k t371 bt381.2 (t380.size : Int)).bind fun bt383 => (if 0 ≤ bt383.1 then (if bt383.1 ≤ (t380.size : Int) then ((some (([(⟨#[]⟩ : ByteArray), (⟨#[58]⟩ : ByteArray), (⟨#[44]⟩ : ByteArray), (⟨#[48]⟩ : ByteArray), (⟨#[57]⟩ : ByteArray), (⟨#[46]⟩ : ByteArray)] : List ByteArray) : List ByteArray)).bind fun y385 => ((spec_l20Rd_pick.f k t371 bt383.2 6).bind fun bt388 => (if 0 ≤ bt388.1 then (if bt388.1 < (y385.length : Int) then (if (t380.extract 0 (bt383.1 : Int).toNat).size + (rdOf ByteArray.empty y385 bt388.1).size ≤ 9223372036854775807 then ((spec_l20Rd_pick.f k t371 bt388.2 2).bind fun bt391 => (if 0 ≤ (wrap64 (bt383.1 + bt391.1)) then (if (wrap64 (bt383.1 + bt391.1)) ≤ (t380.size : Int) then (if ((t380.extract 0 (bt383.1 : Int).toNat) ++ (rdOf ByteArray.empty y385 bt388.1)).size + (t380.extract ((wrap64 (bt383.1 + bt391.1)) : Int).toNat t380.size).size ≤ 9223372036854775807 then (some (wrap64 (1 + t374), ((t380.extract 0 (bt383.1 : Int).toNat) ++ (rdOf ByteArray.empty y385 bt388.1)) ++ (t380.extract ((wrap64 (bt383.1 + bt391.1)) : Int).toNat t380.size))) else (none)) else (none)) else (none))) else (none)) else (none)) else (none)))) else (none)) else (none))) else (some (wrap64 (1 + t374), t380))))) = some (r1, r2) := H
 have A4 := Aside0.mk A40
 clear A40
 replace H := Option.bind_eq_some_iff.mp H
 obtain ⟨t380, A50, H⟩ := H
 replace H : ((spec_l20Rd_pick.f k t371 t379 3).bind fun bt381 => (if bt381.1 = 0 then ((spec_l20Rd_pick.f k t371 bt381.2 (t380.size : Int)).bind fun bt383 => (if 0 ≤ bt383.1 then (if bt383.1 ≤ (t380.size : Int) then ((some (([(⟨#[]⟩ : ByteArray), (⟨#[58]⟩ : ByteArray), (⟨#[44]⟩ : ByteArray), (⟨#[48]⟩ : ByteArray), (⟨#[57]⟩ : ByteArray), (⟨#[46]⟩ : ByteArray)] : List ByteArray) : List ByteArray)).bind fun y385 => ((spec_l20Rd_pick.f k t371 bt383.2 6).bind fun bt388 => (if 0 ≤ bt388.1 then (if bt388.1 < (y385.length : Int) then (if (t380.extract 0 (bt383.1 : Int).toNat).size + (rdOf ByteArray.empty y385 bt388.1).size ≤ 9223372036854775807 then ((spec_l20Rd_pick.f k t371 bt388.2 2).bind fun bt391 => (if 0 ≤ (wrap64 (bt383.1 + bt391.1)) then (if (wrap64 (bt383.1 + bt391.1)) ≤ (t380.size : Int) then (if ((t380.extract 0 (bt383.1 : Int).toNat) ++ (rdOf ByteArray.empty y385 bt388.1)).size + (t380.extract ((wrap64 (bt383.1 + bt391.1)) : Int).toNat t380.size).size ≤ 9223372036854775807 then (some (wrap64 (1 + t374), ((t380.extract 0 (bt383.1 : Int).toNat) ++ (rdOf ByteArray.empty y385 bt388.1)) ++ (t380.extract ((wrap64 (bt383.1 + bt391.1)) : Int).toNat t380.size))) else (none)) else (none)) else (none))) else (none)) else (none)) else (none)))) else (none)) else (none))) else (some (wrap64 (1 + t374), t380)))) = some (r1, r2) := H
 have A5 := Aside0.mk A50
 clear A50
 replace H := Option.bind_eq_some_iff.mp H
 obtain ⟨⟨t381, t382⟩, A60, H⟩ := H
 replace H : (if t381 = 0 then ((spec_l20Rd_pick.f k t371 t382 (t380.size : Int)).bind fun bt383 => (if 0 ≤ bt383.1 then (if bt383.1 ≤ (t380.size : Int) then ((some (([(⟨#[]⟩ : ByteArray), (⟨#[58]⟩ : ByteArray), (⟨#[44]⟩ : ByteArray), (⟨#[48]⟩ : ByteArray), (⟨#[57]⟩ : ByteArray), (⟨#[46]⟩ : ByteArray)] : List ByteArray) : List ByteArray)).bind fun y385 => ((spec_l20Rd_pick.f k t371 bt383.2 6).bind fun bt388 => (if 0 ≤ bt388.1 then (if bt388.1 < (y385.length : Int) then (if (t380.extract 0 (bt383.1 : Int).toNat).size + (rdOf ByteArray.empty y385 bt388.1).size ≤ 9223372036854775807 then ((spec_l20Rd_pick.f k t371 bt388.2 2).bind fun bt391 => (if 0 ≤ (wrap64 (bt383.1 + bt391.1)) then (if (wrap64 (bt383.1 + bt391.1)) ≤ (t380.size : Int) then (if ((t380.extract 0 (bt383.1 : Int).toNat) ++ (rdOf ByteArray.empty y385 bt388.1)).size + (t380.extract ((wrap64 (bt383.1 + bt391.1)) : Int).toNat t380.size).size ≤ 9223372036854775807 then (some (wrap64 (1 + t374), ((t380.extract 0 (bt383.1 : Int).toNat) ++ (rdOf ByteArray.empty y385 bt388.1)) ++ (t380.extract ((wrap64 (bt383.1 + bt391.1)) : Int).toNat t380.size))) else (none)) else (none)) else (none))) else (none)) else (none)) else (none)))) else (none)) else (none))) else (some (wrap64 (1 + t374), t380))) = some (r1, r2) := H
 have A6 := Aside0.mk A60
 clear A60
 by_cases c7 : t381 = 0
 ·rw [if_pos c7] at H
  have c7b0 : (t381 == 0) = true := beq_iff_eq.mpr c7
  have c7b1 : (t381 != 0) = false := bne_eq_false_iff_eq.mpr c7
  clear c7
  replace H := Option.bind_eq_some_iff.mp H
  obtain ⟨⟨t383, t384⟩, A80, H⟩ := H
  replace H : (if 0 ≤ t383 then (if t383 ≤ (t380.size : Int) then ((some (([(⟨#[]⟩ : ByteArray), (⟨#[58]⟩ : ByteArray), (⟨#[44]⟩ : ByteArray), (⟨#[48]⟩ : ByteArray), (⟨#[57]⟩ : ByteArray), (⟨#[46]⟩ : ByteArray)] : List ByteArray) : List ByteArray)).bind fun y385 => ((spec_l20Rd_pick.f k t371 t384 6).bind fun bt388 => (if 0 ≤ bt388.1 then (if bt388.1 < (y385.length : Int) then (if (t380.extract 0 (t383 : Int).toNat).size + (rdOf ByteArray.empty y385 bt388.1).size ≤ 9223372036854775807 then ((spec_l20Rd_pick.f k t371 bt388.2 2).bind fun bt391 => (if 0 ≤ (wrap64 (t383 + bt391.1)) then (if (wrap64 (t383 + bt391.1)) ≤ (t380.size : Int) then (if ((t380.extract 0 (t383 : Int).toNat) ++ (rdOf ByteArray.empty y385 bt388.1)).size + (t380.extract ((wrap64 (t383 + bt391.1)) : Int).toNat t380.size).size ≤ 9223372036854775807 then (some (wrap64 (1 + t374), ((t380.extract 0 (t383 : Int).toNat) ++ (rdOf ByteArray.empty y385 bt388.1)) ++ (t380.extract ((wrap64 (t383 + bt391.1)) : Int).toNat t380.size))) else (none)) else (none)) else (none))) else (none)) else (none)) else (none)))) else (none)) else (none)) = some (r1, r2) := H
  have A8 := Aside0.mk A80
  clear A80
  by_cases c9 : 0 ≤ t383
  ·rw [if_pos c9] at H
   have c9b0 := eq_true c9
   have c9b1 : decide (0 ≤ t383) = true := decide_eq_true c9
   clear c9
   by_cases c10 : t383 ≤ (t380.size : Int)
   ·rw [if_pos c10] at H
    have c10b0 := eq_true c10
    have c10b1 : decide (t383 ≤ (t380.size : Int)) = true := decide_eq_true c10
    clear c10
    obtain ⟨y385, hy385⟩ : ∃ y_ : List ByteArray, y_ = (([(⟨#[]⟩ : ByteArray), (⟨#[58]⟩ : ByteArray), (⟨#[44]⟩ : ByteArray), (⟨#[48]⟩ : ByteArray), (⟨#[57]⟩ : ByteArray), (⟨#[46]⟩ : ByteArray)] : List ByteArray)) := ⟨_, rfl⟩
    replace H : ((spec_l20Rd_pick.f k t371 t384 6).bind fun bt388 => (if 0 ≤ bt388.1 then (if bt388.1 < (y385.length : Int) then (if (t380.extract 0 (t383 : Int).toNat).size + (rdOf ByteArray.empty y385 bt388.1).size ≤ 9223372036854775807 then ((spec_l20Rd_pick.f k t371 bt388.2 2).bind fun bt391 => (if 0 ≤ (wrap64 (t383 + bt391.1)) then (if (wrap64 (t383 + bt391.1)) ≤ (t380.size : Int) then (if ((t380.extract 0 (t383 : Int).toNat) ++ (rdOf ByteArray.empty y385 bt388.1)).size + (t380.extract ((wrap64 (t383 + bt391.1)) : Int).toNat t380.size).size ≤ 9223372036854775807 then (some (wrap64 (1 + t374), ((t380.extract 0 (t383 : Int).toNat) ++ (rdOf ByteArray.empty y385 bt388.1)) ++ (t380.extract ((wrap64 (t383 + bt391.1)) : Int).toNat t380.size))) else (none)) else (none)) else (none))) else (none)) else (none)) else (none))) = some (r1, r2) := by first | (rw [hy385]; with_reducible exact H) | (have H2_ := (Option.bind_some _ _).symm.trans H; rw [hy385]; with_reducible exact H2_) | (have H2_ := (Option.bind_some _ _).symm.trans H; with_reducible exact H2_) | with_reducible exact H | (rw [hy385]; exact H) | exact H
    have Ny385 := Aside0.mk hy385
    clear hy385
    replace H := Option.bind_eq_some_iff.mp H
    obtain ⟨⟨t388, t389⟩, A110, H⟩ := H
    replace H : (if 0 ≤ t388 then (if t388 < (y385.length : Int) then (if (t380.extract 0 (t383 : Int).toNat).size + (rdOf ByteArray.empty y385 t388).size ≤ 9223372036854775807 then ((spec_l20Rd_pick.f k t371 t389 2).bind fun bt391 => (if 0 ≤ (wrap64 (t383 + bt391.1)) then (if (wrap64 (t383 + bt391.1)) ≤ (t380.size : Int) then (if ((t380.extract 0 (t383 : Int).toNat) ++ (rdOf ByteArray.empty y385 t388)).size + (t380.extract ((wrap64 (t383 + bt391.1)) : Int).toNat t380.size).size ≤ 9223372036854775807 then (some (wrap64 (1 + t374), ((t380.extract 0 (t383 : Int).toNat) ++ (rdOf ByteArray.empty y385 t388)) ++ (t380.extract ((wrap64 (t383 + bt391.1)) : Int).toNat t380.size))) else (none)) else (none)) else (none))) else (none)) else (none)) else (none)) = some (r1, r2) := H
    have A11 := Aside0.mk A110
    clear A110
    by_cases c12 : 0 ≤ t388
    ·rw [if_pos c12] at H
     have c12b0 : decide (0 ≤ t388) = true := decide_eq_true c12
     clear c12
     by_cases c13 : t388 < (y385.length : Int)
     ·rw [if_pos c13] at H
      have c13b0 : decide (t388 < (y385.length : Int)) = true := decide_eq_true c13
      clear c13
      by_cases c14 : (t380.extract 0 (t383 : Int).toNat).size + (rdOf ByteArray.empty y385 t388).size ≤ 9223372036854775807
      ·rw [if_pos c14] at H
       have c14b0 := eq_true c14
       have c14b1 : decide ((t380.extract 0 (t383 : Int).toNat).size + (rdOf ByteArray.empty y385 t388).size ≤ 9223372036854775807) = true := decide_eq_true c14
       try have c14b2 : (9223372036854775807 < (t380.extract 0 (t383 : Int).toNat).size + (rdOf ByteArray.empty y385 t388).size) = False := eq_false (Nat.not_lt.2 c14)
       replace H := Option.bind_eq_some_iff.mp H
       obtain ⟨⟨t391, t392⟩, A150, H⟩ := H
       replace H : (if 0 ≤ (wrap64 (t383 + t391)) then (if (wrap64 (t383 + t391)) ≤ (t380.size : Int) then (if ((t380.extract 0 (t383 : Int).toNat) ++ (rdOf ByteArray.empty y385 t388)).size + (t380.extract ((wrap64 (t383 + t391)) : Int).toNat t380.size).size ≤ 9223372036854775807 then (some (wrap64 (1 + t374), ((t380.extract 0 (t383 : Int).toNat) ++ (rdOf ByteArray.empty y385 t388)) ++ (t380.extract ((wrap64 (t383 + t391)) : Int).toNat t380.size))) else (none)) else (none)) else (none)) = some (r1, r2) := H
       have A15 := Aside0.mk A150
       clear A150
       obtain ⟨ji16, hji16⟩ : ∃ j_ : Int, (wrap64 (t383 + t391)) = j_ := ⟨_, rfl⟩
       replace H : (if 0 ≤ (ji16) then (if (ji16) ≤ (t380.size : Int) then (if ((t380.extract 0 (t383 : Int).toNat) ++ (rdOf ByteArray.empty y385 t388)).size + (t380.extract ((ji16) : Int).toNat t380.size).size ≤ 9223372036854775807 then (some (wrap64 (1 + t374), ((t380.extract 0 (t383 : Int).toNat) ++ (rdOf ByteArray.empty y385 t388)) ++ (t380.extract ((ji16) : Int).toNat t380.size))) else (none)) else (none)) else (none)) = some (r1, r2) := by first | (rw [hji16] at H; exact H) | (simp only [hji16] at H ⊢; exact H)
       (try rw [hji16] at A2)
       (try rw [hji16] at A3)
       (try rw [hji16] at A4)
       (try rw [hji16] at A5)
       (try rw [hji16] at A6)
       (try rw [hji16] at A8)
       (try rw [hji16] at A11)
       (try rw [hji16] at A15)
       have hji16w : (IntKind.i64.wrap (t383 + t391)) = ji16 := (i64_w _).trans hji16
       by_cases c17 : 0 ≤ (ji16)
       ·rw [if_pos c17] at H
        have c17b0 := eq_true c17
        have c17b1 : decide (0 ≤ (ji16)) = true := decide_eq_true c17
        clear c17
        by_cases c18 : (ji16) ≤ (t380.size : Int)
        ·rw [if_pos c18] at H
         have c18b0 := eq_true c18
         have c18b1 : decide ((ji16) ≤ (t380.size : Int)) = true := decide_eq_true c18
         clear c18
         by_cases c19 : ((t380.extract 0 (t383 : Int).toNat) ++ (rdOf ByteArray.empty y385 t388)).size + (t380.extract ((ji16) : Int).toNat t380.size).size ≤ 9223372036854775807
         ·rw [if_pos c19] at H
          have c19b0 := eq_true c19
          have c19b1 : decide (((t380.extract 0 (t383 : Int).toNat) ++ (rdOf ByteArray.empty y385 t388)).size + (t380.extract ((ji16) : Int).toNat t380.size).size ≤ 9223372036854775807) = true := decide_eq_true c19
          try have c19b2 : (9223372036854775807 < ((t380.extract 0 (t383 : Int).toNat) ++ (rdOf ByteArray.empty y385 t388)).size + (t380.extract ((ji16) : Int).toNat t380.size).size) = False := eq_false (Nat.not_lt.2 c19)
          try have c19b3 : (9223372036854775807 < t380.extract 0 (t383 : Int).toNat.size + rdOf ByteArray.empty y385 t388.size + (t380.extract ((ji16) : Int).toNat t380.size).size) = False := eq_false (by have h_ := c19; simp only [ByteArray.size_append] at h_; have e44_ : (⟨#[44]⟩ : ByteArray).size = 1 := rfl; have e58_ : (⟨#[58]⟩ : ByteArray).size = 1 := rfl; omega)
          simp only [Option.some.injEq, Prod.mk.injEq] at H
          obtain ⟨rfl, rfl⟩ := H
          go_enter Tryd.func20, Tryd.ntmps20
          try go_wp2_with (first | ((with_reducible refine gate_callee (f := 32) rfl ?_); refine goesL_ (some 9) rfl rfl Tryd.func32 (by kernel_rfl) rfl #[.slice A0 l0.length c0] rfl zA ?_; (with_reducible refine (spec_l20Open.calls _ _ l0 t371 t372 w _ ?side1 ?side2 ?side3 A2.out).mono ?_); (case side1 => exact zB HB.out); (case side2 => exact HR0.out); (case side3 => exact HC0.out); rintro e w20 ⟨g373, rfl, hi, hb, hb2⟩; refine ⟨_, rfl, ?_⟩; have n0_ := Aside0.mk (hb); have n1_ := Aside0.mk (hi); clear HB; have HB := n0_; have HI373 := n1_; clear n0_ n1_; (try clear hb); (try clear hb2); (try clear hk); (try clear hi)) | ((with_reducible refine gate_callee (f := 33) rfl ?_); refine goesL_ (some 11) rfl rfl Tryd.func33 (by kernel_rfl) rfl #[.pointer (some ⟨g373, 0, none⟩), .int .i64 6] rfl zA ?_; (with_reducible refine (spec_l20Rd_pick.calls k g373 t371 t372 6 t374 t375 w _ ?side1 ?side2 A3.out).mono ?_); (case side1 => exact zI73 HI373.out); (case side2 => exact zE73 HB.out HI373.out); rintro e w21 ⟨rfl, hi, hb, hk⟩; refine ⟨_, rfl, ?_⟩; have n0_ := Aside0.mk (hb); have n1_ := Aside0.mk (hi); clear HB; clear HI373; have HB := n0_; have HI373 := n1_; clear n0_ n1_; (try clear hb); (try clear hb2); (try clear hk); (try clear hi)) | ((with_reducible refine gate_callee (f := 34) rfl ?_); refine goesL_ (some 16) rfl rfl Tryd.func34 (by kernel_rfl) rfl #[.pointer (some ⟨g373, 0, none⟩), .int .i64 (wrap64 (1 + t374)), .int .i64 0] rfl zA ?_; (with_reducible refine (spec_l20Script.calls k g373 t371 t375 (wrap64 (1 + t374)) 0 t376 t379 w _ ?side1 ?side2 A4.out).mono ?_); (case side1 => exact zI73 HI373.out); (case side2 => exact zE73 HB.out HI373.out); rintro e w22 ⟨v377, rfl, ho0, hi, hb, hk⟩; refine ⟨_, rfl, ?_⟩; have n0_ := Aside0.mk (Kd.R_lower ho0 (below_size (zE73 HB.out HI373.out))); have n1_ := Aside0.mk (hb); have n2_ := Aside0.mk (hi); clear HB; clear HI373; have HO378 := n0_; have HB := n1_; have HI373 := n2_; clear n0_ n1_ n2_; (try clear hb); (try clear hb2); (try clear hk); (try clear hi); (try clear ho0); obtain ⟨Ao23, co23, eo23⟩ := Kd.R_slice HO378.out; subst eo23) | ((with_reducible refine gate_callee (f := 8) rfl ?_); refine goesL_ (some 17) rfl rfl Tryd.func8 (by kernel_rfl) rfl #[.int .i64 (wrap64 (1 + t374)), .slice Ao23 t376.length co23] rfl zA ?_; (with_reducible refine (spec_ScriptText.calls k (wrap64 (1 + t374)) _ _ t376 t380 _ ?side1 ?side2 A5.out).mono ?_); (case side1 => exact zC (Kd.R_reads' HO378.out).2.2); (case side2 => exact (Kd.R_reads' HO378.out).2.1); rintro e w24 ⟨rfl, hb⟩; refine ⟨_, rfl, ?_⟩; have n0_ := Aside0.mk (Kd.R_below (zR HO378.out) hb); have n1_ := Aside0.mk (IsS73.below (zI73 HI373.out) hb); have n2_ := Aside0.mk (below_step (zE73 HB.out HI373.out) hb); clear HO378; clear HI373; clear HB; have HO378 := n0_; have HI373 := n1_; have HB := n2_; clear n0_ n1_ n2_; (try clear hb); (try clear hb2); (try clear hk); (try clear hi)) | ((with_reducible refine gate_callee (f := 33) rfl ?_); refine goesL_ (some 19) rfl rfl Tryd.func33 (by kernel_rfl) rfl #[.pointer (some ⟨g373, 0, none⟩), .int .i64 3] rfl zA ?_; (with_reducible refine (spec_l20Rd_pick.calls k g373 t371 t379 3 t381 t382 w _ ?side1 ?side2 A6.out).mono ?_); (case side1 => exact zI73 HI373.out); (case side2 => exact zE73 HB.out HI373.out); rintro e w25 ⟨rfl, hi, hb, hk⟩; refine ⟨_, rfl, ?_⟩; have n0_ := Aside0.mk (Kd.R_mono (Kd.R_keep (IsS73.apart (show IsS73 w _ g373 t371 t379 from zI73 HI373.out) (zR HO378.out) (by decide)) hk (fun _ h => h.2)) (fun _ h => h.1)); have n1_ := Aside0.mk (hb); have n2_ := Aside0.mk (hi); clear HO378; clear HB; clear HI373; have HO378 := n0_; have HB := n1_; have HI373 := n2_; clear n0_ n1_ n2_; (try clear hb); (try clear hb2); (try clear hk); (try clear hi)) | ((with_reducible refine gate_callee (f := 33) rfl ?_); refine goesL_ (some 24) rfl rfl Tryd.func33 (by kernel_rfl) rfl #[.pointer (some ⟨g373, 0, none⟩), .int .i64 (t380.size : Int)] rfl zA ?_; (with_reducible refine (spec_l20Rd_pick.calls k g373 t371 t382 (t380.size : Int) t383 t384 w _ ?side1 ?side2 A8.out).mono ?_); (case side1 => exact zI73 HI373.out); (case side2 => exact zE73 HB.out HI373.out); rintro e w26 ⟨rfl, hi, hb, hk⟩; refine ⟨_, rfl, ?_⟩; have n0_ := Aside0.mk (Kd.R_mono (Kd.R_keep (IsS73.apart (show IsS73 w _ g373 t371 t382 from zI73 HI373.out) (zR HO378.out) (by decide)) hk (fun _ h => h.2)) (fun _ h => h.1)); have n1_ := Aside0.mk (hb); have n2_ := Aside0.mk (hi); clear HO378; clear HB; clear HI373; have HO378 := n0_; have HB := n1_; have HI373 := n2_; clear n0_ n1_ n2_; (try clear hb); (try clear hb2); (try clear hk); (try clear hi)))
          have pi390 : (0 ≤ (t388 : Int)) = True := eq_true (zD)
          have qi390 : (t388 < (y385.length : Int)) = True := eq_true (zD)
          have n0_ := Aside0.mk (Kd.R_drew HO378.out)
          have n1_ := Aside0.mk (IsS73.drew HI373.out)
          have n2_ := Aside0.mk (below_drew1 HB.out)
          clear HO378
          clear HI373
          clear HB
          have HO378 := n0_
          have HI373 := n1_
          have HB := n2_
          clear n0_ n1_ n2_
          refine start_ (n := 19) (S := fun w' => True) (ds := []) #[false, false, false, false, false, false, false, false, false, false, false, false, false, false, false, false, false, false, false] (by kernel_rfl) rfl rfl trivial (fun hHeld => ?_); refine with_tabW spec_DrawReadScript.tab6 spec_DrawReadScript.bits6 (fun HT_ HW_ => ?_)
          generalize w26.drew = w27 at HO378 HI373 HB hHeld ⊢
          refine pure_ (i := 0) (N := some 25) (v := ?_) (a' := ?_) #[true, false, false, false, false, false, false, false, false, false, false, false, false, false, false, false, false, false, false] rfl rfl (any_of HT_.out (by kernel_rfl)) (fun _ _ _ h => h) (Or.inl ⟨by rfl, ?_⟩) ?_ ?_
          rotate_left
          ·intro w'
           go_simp
           with_reducible rfl
          rotate_left
          ·simp only [Act.put, List.setIfInBounds_toArray, List.set_cons_zero, List.set_cons_succ, i64_w, i32_w]
           rfl
          refine pure_ (i := 1) (N := some 26) (v := ?_) (a' := ?_) #[true, true, false, false, false, false, false, false, false, false, false, false, false, false, false, false, false, false, false] rfl rfl (any_of HT_.out (by kernel_rfl)) (fun _ _ _ h => h) (Or.inl ⟨by rfl, ?_⟩) ?_ ?_
          rotate_left
          ·intro w'
           go_simp
           with_reducible rfl
          rotate_left
          ·simp only [Act.put, List.setIfInBounds_toArray, List.set_cons_zero, List.set_cons_succ, i64_w, i32_w]
           rfl
          refine pure_ (i := 2) (N := some 27) (v := ?_) (a' := ?_) #[true, true, true, false, false, false, false, false, false, false, false, false, false, false, false, false, false, false, false] rfl rfl (any_of HT_.out (by kernel_rfl)) (fun _ _ _ h => h) (Or.inl ⟨by rfl, ?_⟩) ?_ ?_
          rotate_left
          ·intro w'
           go_simp
           with_reducible rfl
          rotate_left
          ·simp only [Act.put, List.setIfInBounds_toArray, List.set_cons_zero, List.set_cons_succ, i64_w, i32_w]
           rfl
          refine pure_ (i := 5) (N := some 30) (v := ?_) (a' := ?_) #[true, true, true, false, false, true, false, false, false, false, false, false, false, false, false, false, false, false, false] rfl rfl (any_of HT_.out (by kernel_rfl)) (fun _ _ _ h => h) (Or.inl ⟨by rfl, ?_⟩) ?_ ?_
          rotate_left
          ·intro w'
           go_simp
           with_reducible rfl
          rotate_left
          ·simp only [Act.put, List.setIfInBounds_toArray, List.set_cons_zero, List.set_cons_succ, i64_w, i32_w]
           rfl
          refine pure_ (i := 10) (N := some 35) (v := ?_) (a' := ?_) #[true, true, true, false, false, true, false, false, false, false, true, false, false, false, false, false, false, false, false] rfl rfl (any_of HT_.out (by kernel_rfl)) (fun _ _ _ h => h) (Or.inl ⟨by rfl, ?_⟩) ?_ ?_
          rotate_left
          ·intro w'
           go_simp
           with_reducible rfl
          rotate_left
          ·simp only [Act.put, List.setIfInBounds_toArray, List.set_cons_zero, List.set_cons_succ, i64_w, i32_w]
           rfl
          refine pure_ (i := 11) (N := some 36) (v := ?_) (a' := ?_) #[true, true, true, false, false, true, false, false, false, false, true, true, false, false, false, false, false, false, false] rfl rfl (any_of HT_.out (by kernel_rfl)) (fun _ _ _ h => h) (Or.inl ⟨by rfl, ?_⟩) ?_ ?_
          rotate_left
          ·intro w'
           go_simp
           with_reducible rfl
          rotate_left
          ·simp only [Act.put, List.setIfInBounds_toArray, List.set_cons_zero, List.set_cons_succ, i64_w, i32_w]
           rfl
          refine pure_ (i := 12) (N := some 37) (v := ?_) (a' := ?_) #[true, true, true, false, false, true, false, false, false, false, true, true, true, false, false, false, false, false, false] rfl rfl (any_of HT_.out (by kernel_rfl)) (fun _ _ _ h => h) (Or.inl ⟨by rfl, ?_⟩) ?_ ?_
          rotate_left
          ·intro w'
           go_simp
           with_reducible rfl
          rotate_left
          ·simp only [Act.put, List.setIfInBounds_toArray, List.set_cons_zero, List.set_cons_succ, i64_w, i32_w]
           rfl
          refine inv_at [3, 4, 6, 7, 8, 9, 13, 14, 15, 16, 17, 18] (fun a0_ b a w' => ∃ (v386 : Value) (adz_v386 : Addr) (m7_ : Value), a = putSel a0_ b [(3, 28, .string (t380.extract 0 (t383 : Int).toNat)), (4, 29, v386), (6, 31, .int .i64 t388), (7, 32, m7_), (8, 33, .string (rdOf ByteArray.empty y385 t388)), (9, 34, .string ((t380.extract 0 (t383 : Int).toNat) ++ (rdOf ByteArray.empty y385 t388))), (13, 38, .int .i64 t391), (14, 39, .int .i64 ji16), (15, 40, .string (t380.extract ((ji16) : Int).toNat t380.size)), (16, 41, .string (((t380.extract 0 (t383 : Int).toNat) ++ (rdOf ByteArray.empty y385 t388)) ++ (t380.extract ((ji16) : Int).toNat t380.size))), (17, 2, .int .i64 (wrap64 (1 + t374))), (18, 3, .string (((t380.extract 0 (t383 : Int).toNat) ++ (rdOf ByteArray.empty y385 t388)) ++ (t380.extract ((ji16) : Int).toNat t380.size)))] ∧ (Kd.R k43 43 w' w.heap.size (fun _ => True) (.slice Ao23 t376.length co23) t376) ∧ (b 6 = false → IsS73 w w' g373 t371 t384) ∧ (Below w.heap.size w w') ∧ (b 4 = true → Kd.R Kd.string 9 w' w.heap.size (fun _ => True) v386 y385) ∧ (b 4 = true → ∃ c_, (v386 : Value) = .slice (some adz_v386) y385.length c_) ∧ (b 6 = true → b 13 = false → IsS73 w w' g373 t371 t389) ∧ (b 13 = true → IsS73 w w' g373 t371 t392) ∧ (b 7 = true → (m7_ : Value) = .pointer (some (adz_v386.add (t388).toNat)))) HT_.out HW_.out (by kernel_rfl) (by kernel_rfl) ?_ ?_ ?_
          ·exact ⟨.bool false, ⟨0, 0, none⟩, .bool false, by simp only [putSel, Bool.false_eq_true, if_false], HO378.out, fun _ => HI373.out, HB.out, fun h_ => absurd h_ (by decide), fun h_ => absurd h_ (by decide), fun h_ => absurd h_ (by decide), fun h_ => absurd h_ (by decide), fun h_ => absurd h_ (by decide)⟩
          ·skip
           clear HB HI373 HO378
           refine steps_cons ?_ ?_
           ·rintro b a w' ⟨v386, adz_v386, m7_, ha, Q_HO378, Q_HI373, Q_HB, Q_HO387, Q_HA_HO387, Q_HI373_e6, Q_HI373_e13, Q_X7_⟩ hb_ hon hoff
            refine ⟨_, rfl, fun K hK => ?_⟩
            have e26 : a.tmps[26]? = some (.string t380) := by rw [ha]; exact (putSel_off rfl).trans rfl
            have e27 : a.tmps[27]? = some (.int .i64 t383) := by rw [ha]; exact (putSel_off rfl).trans rfl
            replace ha := Aside0.mk ha
            have HO378 := Aside0.mk Q_HO378
            have HB := Aside0.mk Q_HB
            refine value_ (w1 := w') (v := .string (t380.extract 0 (t383 : Int).toNat)) (by rfl) rfl ?_ ?_
            ·go_simp
             (try simp only [i64_w])
             try rfl
            refine hK.out _ _ ⟨v386, adz_v386, m7_, (by rw [ha.out]; exact putSel_upk 0 hb_ rfl rfl rfl), Q_HO378, Q_HI373, Q_HB, Q_HO387, Q_HA_HO387, Q_HI373_e6, Q_HI373_e13, Q_X7_⟩
           refine steps_cons ?_ ?_
           ·rintro b a w' ⟨v386, adz_v386, m7_, ha, Q_HO378, Q_HI373, Q_HB, Q_HO387, Q_HA_HO387, Q_HI373_e6, Q_HI373_e13, Q_X7_⟩ hb_ hon hoff
            refine ⟨_, rfl, fun K hK => ?_⟩
            replace ha := Aside0.mk ha
            have HO378 := Aside0.mk Q_HO378
            have HB := Aside0.mk Q_HB
            refine Kd.R_lit_step Kd.string _ 9 ?hg (N := 29) ?hd (xs := ([(⟨#[]⟩ : ByteArray), (⟨#[58]⟩ : ByteArray), (⟨#[44]⟩ : ByteArray), (⟨#[48]⟩ : ByteArray), (⟨#[57]⟩ : ByteArray), (⟨#[46]⟩ : ByteArray)] : List ByteArray)) (inner := [.string (⟨#[]⟩ : ByteArray), .string (⟨#[58]⟩ : ByteArray), .string (⟨#[44]⟩ : ByteArray), .string (⟨#[48]⟩ : ByteArray), .string (⟨#[57]⟩ : ByteArray), .string (⟨#[46]⟩ : ByteArray)]) (ok := fun _ => True) (okp := fun _ => True) ?hr ?hp (fun _ hk => hk) trivial (Below.refl _ _) (Nat.le_refl _) (by simp) ?_; (case hd => rfl); (case hg => rfl); (case hr => first | (go_simp; done) | (go_simp; rfl)); (case hp => exact (Reps.one (show Kd.M Kd.string _ _ _ (⟨#[]⟩ : ByteArray) [.string (⟨#[]⟩ : ByteArray)] from rfl) (Reps.one (show Kd.M Kd.string _ _ _ (⟨#[58]⟩ : ByteArray) [.string (⟨#[58]⟩ : ByteArray)] from rfl) (Reps.one (show Kd.M Kd.string _ _ _ (⟨#[44]⟩ : ByteArray) [.string (⟨#[44]⟩ : ByteArray)] from rfl) (Reps.one (show Kd.M Kd.string _ _ _ (⟨#[48]⟩ : ByteArray) [.string (⟨#[48]⟩ : ByteArray)] from rfl) (Reps.one (show Kd.M Kd.string _ _ _ (⟨#[57]⟩ : ByteArray) [.string (⟨#[57]⟩ : ByteArray)] from rfl) (Reps.one (show Kd.M Kd.string _ _ _ (⟨#[46]⟩ : ByteArray) [.string (⟨#[46]⟩ : ByteArray)] from rfl) (Reps.none _ _))))))))
            intro v386 w28 ho29 hb hg_ hnew_
            clear hg_ hnew_
            (first | rw [← Ny385.out] at ho29 | (simp only [Int.reduceToNat] at ho29; rw [← Ny385.out] at ho29))
            have n0_ := Aside0.mk (Kd.R_below (zR HO378.out) hb)
            have n1_ := Aside0.mk (Kd.R_lower ho29 (below_size (zB HB.out)))
            have n3_ := Aside0.mk (below_step (zB HB.out) hb)
            have z_HI373 := fun (h0_ : b 6 = false) => (show IsS73 w w28 g373 t371 t384 from by first | exact (IsS73.below (by repeat (first | (with_reducible first | exact (Q_HI373 h0_) | apply IsS73.alloc | apply IsS73.drewN | apply IsS73.drew | apply IsS73.set_1) | exact (Q_HI373 h0_))) hb))
            have z_HI373_e6 := fun (h0_ : b 6 = true) (h1_ : b 13 = false) => (show IsS73 w w28 g373 t371 t389 from by first | exact (IsS73.below (by repeat (first | (with_reducible first | exact (Q_HI373_e6 h0_ h1_) | apply IsS73.alloc | apply IsS73.drewN | apply IsS73.drew | apply IsS73.set_1) | exact (Q_HI373_e6 h0_ h1_))) hb))
            have z_HI373_e13 := fun (h0_ : b 13 = true) => (show IsS73 w w28 g373 t371 t392 from by first | exact (IsS73.below (by repeat (first | (with_reducible first | exact (Q_HI373_e13 h0_) | apply IsS73.alloc | apply IsS73.drewN | apply IsS73.drew | apply IsS73.set_1) | exact (Q_HI373_e13 h0_))) hb))
            clear HO378
            clear HB
            have HO378 := n0_
            have HO387 := n1_
            have HB := n3_
            clear n0_ n1_ n3_
            clear hb ho29
            obtain ⟨Ao30, co30, eo30⟩ := Kd.R_slice HO387.out
            subst eo30
            obtain ⟨ado30, fo30, _⟩ := Kd.at_string (Kd.R_reads' HO387.out).2.2 0 (by decide) (by rw [Ny385.out]; simp)
            cases fo30
            refine hK.out _ _ ⟨.slice (some ado30) y385.length co30, ado30, m7_, (by rw [ha.out]; exact putSel_upk 1 hb_ rfl rfl rfl), (zR HO378.out), z_HI373, (zB HB.out), fun _ => (zR HO387.out), fun _ => ⟨_, rfl⟩, z_HI373_e6, z_HI373_e13, fun h0_ => absurd ((hoff 7 (by kernel_rfl)).symm.trans h0_) (by decide)⟩
           refine steps_cons ?_ ?_
           ·rintro b a w' ⟨v386, adz_v386, m7_, ha, Q_HO378, Q_HI373, Q_HB, Q_HO387, Q_HA_HO387, Q_HI373_e6, Q_HI373_e13, Q_X7_⟩ hb_ hon hoff
            refine ⟨_, rfl, fun K hK => ?_⟩
            have e30 : a.tmps[30]? = some (.pointer (some ⟨g373, 0, none⟩)) := by rw [ha]; exact (putSel_off rfl).trans rfl
            replace ha := Aside0.mk ha
            have HO378 := Aside0.mk Q_HO378
            have HI373 := Aside0.mk (Q_HI373 hb_)
            have HB := Aside0.mk Q_HB
            refine goes_ Tryd.func33 (by kernel_rfl) rfl #[.pointer (some ⟨g373, 0, none⟩), .int .i64 6] (by rfl) rfl rfl (by first | (simp only [List.map_toArray, List.map_cons, List.map_nil, Act.eval, Array.getD_eq_getD_getElem?, Option.getD_some, e30]; done) | (simp only [List.map_toArray, List.map_cons, List.map_nil, Act.eval, Array.getD_eq_getD_getElem?, Option.getD_some, e30]; rfl)) ?_
            with_reducible refine (spec_l20Rd_pick.calls k g373 t371 t384 6 t388 t389 w _ ?side1 ?side2 A11.out).mono ?_
            (case side1 => exact zI73 HI373.out)
            (case side2 => exact zE73 HB.out HI373.out)
            rintro e w28 ⟨rfl, hi, hb, hk⟩
            refine ⟨_, rfl, ?_⟩
            have n0_ := Aside0.mk (Kd.R_mono (Kd.R_keep (IsS73.apart (show IsS73 w _ g373 t371 t384 from zI73 HI373.out) (zR HO378.out) (by decide)) hk (fun _ h => h.2)) (fun _ h => h.1))
            have n1_ := Aside0.mk (hb)
            have n2_ := Aside0.mk (hi)
            have z_HO387 := fun (h0_ : b 4 = true) => (show Kd.R Kd.string 9 w28 w.heap.size (fun _ => True) v386 y385 from by first | exact (Kd.R_mono (Kd.R_keep (IsS73.apart (show IsS73 w _ g373 t371 t384 from zI73 HI373.out) (by (with_reducible repeat (first | apply Kd.R_alloc | apply Kd.R_drewN | apply Kd.R_drew)); exact (Q_HO387 h0_)) (by decide)) hk (fun _ h => h.2)) (fun _ h => h.1)) | exact Kd.R_mono (Kd.R_mono (Kd.R_keep (IsS73.apart (show IsS73 w _ g373 t371 t384 from zI73 HI373.out) (by (with_reducible repeat (first | apply Kd.R_alloc | apply Kd.R_drewN | apply Kd.R_drew)); exact (Q_HO387 h0_)) (by decide)) hk (fun _ h => h.2)) (fun _ h => h.1)) (fun _ h_ => by first | trivial | exact h_ | exact h_.1))
            clear HO378
            clear HB
            clear HI373
            have HO378 := n0_
            have HB := n1_
            have HI373 := n2_
            clear n0_ n1_ n2_
            (try clear hb)
            (try clear hb2)
            (try clear hk)
            (try clear hi)
            refine hK.out _ _ ⟨v386, adz_v386, m7_, (by rw [ha.out]; exact putSel_upk 2 hb_ rfl rfl rfl), (zR HO378.out), fun h0_ => absurd ((up_self b 6).symm.trans h0_) (by decide), (zE73 HB.out HI373.out), z_HO387, Q_HA_HO387, fun _ _ => (zI73 HI373.out), fun h0_ => absurd ((hoff 13 (by kernel_rfl)).symm.trans h0_) (by decide), fun h0_ => absurd ((hoff 7 (by kernel_rfl)).symm.trans h0_) (by decide)⟩
           refine steps_cons ?_ ?_
           ·rintro b a w' ⟨v386, adz_v386, m7_, ha, Q_HO378, Q_HI373, Q_HB, Q_HO387, Q_HA_HO387, Q_HI373_e6, Q_HI373_e13, Q_X7_⟩ hb_ hon hoff
            refine ⟨_, rfl, fun K hK => ?_⟩
            have e29 : a.tmps[29]? = some (v386) := by rw [ha]; exact putSel_on (e := (4, 29, v386)) 1 rfl rfl (hon 4 (by kernel_rfl)) rfl
            have e31 : a.tmps[31]? = some (.int .i64 t388) := by rw [ha]; exact putSel_on (e := (6, 31, .int .i64 t388)) 2 rfl rfl (hon 6 (by kernel_rfl)) rfl
            replace ha := Aside0.mk ha
            have HO378 := Aside0.mk Q_HO378
            have HB := Aside0.mk Q_HB
            have HO387 := Aside0.mk (Q_HO387 (hon 4 (by kernel_rfl)))
            have HA_HO387 := Aside0.mk (Q_HA_HO387 (hon 4 (by kernel_rfl)))
            obtain ⟨c_, hv_⟩ := HA_HO387.out
            rw [hv_] at e29
            refine value_ (w1 := w') (v := .pointer (some (adz_v386.add (t388).toNat))) (by rfl) rfl ?_ ?_
            ·go_simp
             (try simp only [i64_w])
             try rfl
            refine hK.out _ _ ⟨v386, adz_v386, (.pointer (some (adz_v386.add (t388).toNat))), (by rw [ha.out]; exact putSel_upk 3 hb_ rfl rfl rfl), Q_HO378, fun h0_ => absurd ((hon 6 (by kernel_rfl)).symm.trans h0_) (by decide), Q_HB, Q_HO387, Q_HA_HO387, Q_HI373_e6, Q_HI373_e13, fun _ => rfl⟩
           refine steps_cons ?_ ?_
           ·rintro b a w' ⟨v386, adz_v386, m7_, ha, Q_HO378, Q_HI373, Q_HB, Q_HO387, Q_HA_HO387, Q_HI373_e6, Q_HI373_e13, Q_X7_⟩ hb_ hon hoff
            refine ⟨_, rfl, fun K hK => ?_⟩
            have e32 : a.tmps[32]? = some (m7_) := by rw [ha]; exact putSel_on (e := (7, 32, m7_)) 3 rfl rfl (hon 7 (by kernel_rfl)) rfl
            rw [Q_X7_ (hon 7 (by kernel_rfl))] at e32
            replace ha := Aside0.mk ha
            have HO378 := Aside0.mk Q_HO378
            have HB := Aside0.mk Q_HB
            have HO387 := Aside0.mk (Q_HO387 (hon 4 (by kernel_rfl)))
            have HA_HO387 := Aside0.mk (Q_HA_HO387 (hon 4 (by kernel_rfl)))
            obtain ⟨c_, hv_⟩ := HA_HO387.out
            have hF_ := HO387.out
            rw [hv_] at hF_
            obtain ⟨ad_, ea_, hx_⟩ := Kd.at_string (Kd.R_reads' hF_).2.2 t388 (of_eq_true pi390) (of_eq_true qi390)
            cases ea_
            refine value_ (w1 := w') (v := .string (rdOf ByteArray.empty y385 t388)) (by rfl) rfl ?_ ?_
            ·go_simp
             (try simp only [i64_w])
             try rfl
            refine hK.out _ _ ⟨v386, adz_v386, m7_, (by rw [ha.out]; exact putSel_upk 4 hb_ rfl rfl rfl), Q_HO378, fun h0_ => absurd ((hon 6 (by kernel_rfl)).symm.trans h0_) (by decide), Q_HB, Q_HO387, Q_HA_HO387, Q_HI373_e6, Q_HI373_e13, Q_X7_⟩
           refine steps_cons ?_ ?_
           ·rintro b a w' ⟨v386, adz_v386, m7_, ha, Q_HO378, Q_HI373, Q_HB, Q_HO387, Q_HA_HO387, Q_HI373_e6, Q_HI373_e13, Q_X7_⟩ hb_ hon hoff
            refine ⟨_, rfl, fun K hK => ?_⟩
            have e28 : a.tmps[28]? = some (.string (t380.extract 0 (t383 : Int).toNat)) := by rw [ha]; exact putSel_on (e := (3, 28, .string (t380.extract 0 (t383 : Int).toNat))) 0 rfl rfl (hon 3 (by kernel_rfl)) rfl
            have e33 : a.tmps[33]? = some (.string (rdOf ByteArray.empty y385 t388)) := by rw [ha]; exact putSel_on (e := (8, 33, .string (rdOf ByteArray.empty y385 t388))) 4 rfl rfl (hon 8 (by kernel_rfl)) rfl
            replace ha := Aside0.mk ha
            have HO378 := Aside0.mk Q_HO378
            have HB := Aside0.mk Q_HB
            have HO387 := Aside0.mk (Q_HO387 (hon 4 (by kernel_rfl)))
            have HA_HO387 := Aside0.mk (Q_HA_HO387 (hon 4 (by kernel_rfl)))
            refine value_ (w1 := w') (v := .string ((t380.extract 0 (t383 : Int).toNat) ++ (rdOf ByteArray.empty y385 t388))) (by rfl) rfl ?_ ?_
            ·go_simp
             (try simp only [i64_w])
             try rfl
             all_goals (first | (have h1_ := c14; have h2_ := of_eq_true c10b0; rw [ByteArray.size_extract] at h1_; omega) | (have h1_ := c19; have h2_ := of_eq_true c10b0; have h3_ := of_eq_true c18b0; simp only [ByteArray.size_append, ByteArray.size_extract] at h1_; omega))
            refine hK.out _ _ ⟨v386, adz_v386, m7_, (by rw [ha.out]; exact putSel_upk 5 hb_ rfl rfl rfl), Q_HO378, fun h0_ => absurd ((hon 6 (by kernel_rfl)).symm.trans h0_) (by decide), Q_HB, Q_HO387, Q_HA_HO387, Q_HI373_e6, Q_HI373_e13, Q_X7_⟩
           refine steps_cons ?_ ?_
           ·rintro b a w' ⟨v386, adz_v386, m7_, ha, Q_HO378, Q_HI373, Q_HB, Q_HO387, Q_HA_HO387, Q_HI373_e6, Q_HI373_e13, Q_X7_⟩ hb_ hon hoff
            refine ⟨_, rfl, fun K hK => ?_⟩
            have e37 : a.tmps[37]? = some (.pointer (some ⟨g373, 0, none⟩)) := by rw [ha]; exact (putSel_off rfl).trans rfl
            replace ha := Aside0.mk ha
            have HO378 := Aside0.mk Q_HO378
            have HB := Aside0.mk Q_HB
            have HI373 := Aside0.mk (Q_HI373_e6 (hon 6 (by kernel_rfl)) hb_)
            refine goes_ Tryd.func33 (by kernel_rfl) rfl #[.pointer (some ⟨g373, 0, none⟩), .int .i64 2] (by rfl) rfl rfl (by first | (simp only [List.map_toArray, List.map_cons, List.map_nil, Act.eval, Array.getD_eq_getD_getElem?, Option.getD_some, e37]; done) | (simp only [List.map_toArray, List.map_cons, List.map_nil, Act.eval, Array.getD_eq_getD_getElem?, Option.getD_some, e37]; rfl)) ?_
            with_reducible refine (spec_l20Rd_pick.calls k g373 t371 t389 2 t391 t392 w _ ?side1 ?side2 A15.out).mono ?_
            (case side1 => exact zI73 HI373.out)
            (case side2 => exact zE73 HB.out HI373.out)
            rintro e w30 ⟨rfl, hi, hb, hk⟩
            refine ⟨_, rfl, ?_⟩
            have n0_ := Aside0.mk (Kd.R_mono (Kd.R_keep (IsS73.apart (show IsS73 w _ g373 t371 t389 from zI73 HI373.out) (zR HO378.out) (by decide)) hk (fun _ h => h.2)) (fun _ h => h.1))
            have n1_ := Aside0.mk (hb)
            have n2_ := Aside0.mk (hi)
            have z_HO387 := fun (h0_ : b 4 = true) => (show Kd.R Kd.string 9 w30 w.heap.size (fun _ => True) v386 y385 from by first | exact (Kd.R_mono (Kd.R_keep (IsS73.apart (show IsS73 w _ g373 t371 t389 from zI73 HI373.out) (by (with_reducible repeat (first | apply Kd.R_alloc | apply Kd.R_drewN | apply Kd.R_drew)); exact (Q_HO387 h0_)) (by decide)) hk (fun _ h => h.2)) (fun _ h => h.1)) | exact Kd.R_mono (Kd.R_mono (Kd.R_keep (IsS73.apart (show IsS73 w _ g373 t371 t389 from zI73 HI373.out) (by (with_reducible repeat (first | apply Kd.R_alloc | apply Kd.R_drewN | apply Kd.R_drew)); exact (Q_HO387 h0_)) (by decide)) hk (fun _ h => h.2)) (fun _ h => h.1)) (fun _ h_ => by first | trivial | exact h_ | exact h_.1))
            clear HO378
            clear HB
            clear HI373
            have HO378 := n0_
            have HB := n1_
            have HI373 := n2_
            clear n0_ n1_ n2_
            (try clear hb)
            (try clear hb2)
            (try clear hk)
            (try clear hi)
            refine hK.out _ _ ⟨v386, adz_v386, m7_, (by rw [ha.out]; exact putSel_upk 6 hb_ rfl rfl rfl), (zR HO378.out), fun h0_ => absurd ((hon 6 (by kernel_rfl)).symm.trans h0_) (by decide), (zE73 HB.out HI373.out), z_HO387, Q_HA_HO387, fun _ h1_ => absurd ((up_self b 13).symm.trans h1_) (by decide), fun _ => (zI73 HI373.out), Q_X7_⟩
           refine steps_cons ?_ ?_
           ·rintro b a w' ⟨v386, adz_v386, m7_, ha, Q_HO378, Q_HI373, Q_HB, Q_HO387, Q_HA_HO387, Q_HI373_e6, Q_HI373_e13, Q_X7_⟩ hb_ hon hoff
            refine ⟨_, rfl, fun K hK => ?_⟩
            have e36 : a.tmps[36]? = some (.int .i64 t383) := by rw [ha]; exact (putSel_off rfl).trans rfl
            have e38 : a.tmps[38]? = some (.int .i64 t391) := by rw [ha]; exact putSel_on (e := (13, 38, .int .i64 t391)) 6 rfl rfl (hon 13 (by kernel_rfl)) rfl
            replace ha := Aside0.mk ha
            have HO378 := Aside0.mk Q_HO378
            have HB := Aside0.mk Q_HB
            have HI373 := Aside0.mk (Q_HI373_e13 (hon 13 (by kernel_rfl)))
            refine value_ (w1 := w') (v := .int .i64 ji16) (by rfl) rfl ?_ ?_
            ·go_simp
             (try simp only [i64_w])
             try rfl
            refine hK.out _ _ ⟨v386, adz_v386, m7_, (by rw [ha.out]; exact putSel_upk 7 hb_ rfl rfl rfl), Q_HO378, fun h0_ => absurd ((hon 6 (by kernel_rfl)).symm.trans h0_) (by decide), Q_HB, Q_HO387, Q_HA_HO387, fun _ h1_ => absurd ((hon 13 (by kernel_rfl)).symm.trans h1_) (by decide), Q_HI373_e13, Q_X7_⟩
           refine steps_cons ?_ ?_
           ·rintro b a w' ⟨v386, adz_v386, m7_, ha, Q_HO378, Q_HI373, Q_HB, Q_HO387, Q_HA_HO387, Q_HI373_e6, Q_HI373_e13, Q_X7_⟩ hb_ hon hoff
            refine ⟨_, rfl, fun K hK => ?_⟩
            have e35 : a.tmps[35]? = some (.string t380) := by rw [ha]; exact (putSel_off rfl).trans rfl
            have e39 : a.tmps[39]? = some (.int .i64 ji16) := by rw [ha]; exact putSel_on (e := (14, 39, .int .i64 ji16)) 7 rfl rfl (hon 14 (by kernel_rfl)) rfl
            replace ha := Aside0.mk ha
            have HO378 := Aside0.mk Q_HO378
            have HB := Aside0.mk Q_HB
            have HI373 := Aside0.mk (Q_HI373_e13 (hon 13 (by kernel_rfl)))
            refine value_ (w1 := w') (v := .string (t380.extract ((ji16) : Int).toNat t380.size)) (by rfl) rfl ?_ ?_
            ·go_simp
             (try simp only [i64_w])
             try rfl
            refine hK.out _ _ ⟨v386, adz_v386, m7_, (by rw [ha.out]; exact putSel_upk 8 hb_ rfl rfl rfl), Q_HO378, fun h0_ => absurd ((hon 6 (by kernel_rfl)).symm.trans h0_) (by decide), Q_HB, Q_HO387, Q_HA_HO387, fun _ h1_ => absurd ((hon 13 (by kernel_rfl)).symm.trans h1_) (by decide), Q_HI373_e13, Q_X7_⟩
           refine steps_cons ?_ ?_
           ·rintro b a w' ⟨v386, adz_v386, m7_, ha, Q_HO378, Q_HI373, Q_HB, Q_HO387, Q_HA_HO387, Q_HI373_e6, Q_HI373_e13, Q_X7_⟩ hb_ hon hoff
            refine ⟨_, rfl, fun K hK => ?_⟩
            have e34 : a.tmps[34]? = some (.string ((t380.extract 0 (t383 : Int).toNat) ++ (rdOf ByteArray.empty y385 t388))) := by rw [ha]; exact putSel_on (e := (9, 34, .string ((t380.extract 0 (t383 : Int).toNat) ++ (rdOf ByteArray.empty y385 t388)))) 5 rfl rfl (hon 9 (by kernel_rfl)) rfl
            have e40 : a.tmps[40]? = some (.string (t380.extract ((ji16) : Int).toNat t380.size)) := by rw [ha]; exact putSel_on (e := (15, 40, .string (t380.extract ((ji16) : Int).toNat t380.size))) 8 rfl rfl (hon 15 (by kernel_rfl)) rfl
            replace ha := Aside0.mk ha
            have HO378 := Aside0.mk Q_HO378
            have HB := Aside0.mk Q_HB
            have HO387 := Aside0.mk (Q_HO387 (hon 4 (by kernel_rfl)))
            have HA_HO387 := Aside0.mk (Q_HA_HO387 (hon 4 (by kernel_rfl)))
            have HI373 := Aside0.mk (Q_HI373_e13 (hon 13 (by kernel_rfl)))
            refine value_ (w1 := w') (v := .string (((t380.extract 0 (t383 : Int).toNat) ++ (rdOf ByteArray.empty y385 t388)) ++ (t380.extract ((ji16) : Int).toNat t380.size))) (by rfl) rfl ?_ ?_
            ·go_simp
             (try simp only [i64_w])
             try rfl
             all_goals (first | (have h1_ := c14; have h2_ := of_eq_true c10b0; rw [ByteArray.size_extract] at h1_; omega) | (have h1_ := c19; have h2_ := of_eq_true c10b0; have h3_ := of_eq_true c18b0; simp only [ByteArray.size_append, ByteArray.size_extract] at h1_; omega))
            refine hK.out _ _ ⟨v386, adz_v386, m7_, (by rw [ha.out]; exact putSel_upk 9 hb_ rfl rfl rfl), Q_HO378, fun h0_ => absurd ((hon 6 (by kernel_rfl)).symm.trans h0_) (by decide), Q_HB, Q_HO387, Q_HA_HO387, fun _ h1_ => absurd ((hon 13 (by kernel_rfl)).symm.trans h1_) (by decide), Q_HI373_e13, Q_X7_⟩
           refine steps_cons ?_ ?_
           ·rintro b a w' ⟨v386, adz_v386, m7_, ha, Q_HO378, Q_HI373, Q_HB, Q_HO387, Q_HA_HO387, Q_HI373_e6, Q_HI373_e13, Q_X7_⟩ hb_ hon hoff
            refine ⟨_, rfl, fun K hK => ?_⟩
            have e25 : a.tmps[25]? = some (.int .i64 (wrap64 (1 + t374))) := by rw [ha]; exact (putSel_off rfl).trans rfl
            replace ha := Aside0.mk ha
            have HO378 := Aside0.mk Q_HO378
            have HB := Aside0.mk Q_HB
            have HI373 := Aside0.mk (Q_HI373_e13 (hon 13 (by kernel_rfl)))
            refine value_ (w1 := w') (v := .int .i64 (wrap64 (1 + t374))) (by rfl) rfl ?_ ?_
            ·go_simp
             (try simp only [i64_w])
             try rfl
            refine hK.out _ _ ⟨v386, adz_v386, m7_, (by rw [ha.out]; exact putSel_upk 10 hb_ rfl rfl rfl), Q_HO378, fun h0_ => absurd ((hon 6 (by kernel_rfl)).symm.trans h0_) (by decide), Q_HB, Q_HO387, Q_HA_HO387, fun _ h1_ => absurd ((hon 13 (by kernel_rfl)).symm.trans h1_) (by decide), Q_HI373_e13, Q_X7_⟩
           refine steps_cons ?_ ?_
           ·rintro b a w' ⟨v386, adz_v386, m7_, ha, Q_HO378, Q_HI373, Q_HB, Q_HO387, Q_HA_HO387, Q_HI373_e6, Q_HI373_e13, Q_X7_⟩ hb_ hon hoff
            refine ⟨_, rfl, fun K hK => ?_⟩
            have e41 : a.tmps[41]? = some (.string (((t380.extract 0 (t383 : Int).toNat) ++ (rdOf ByteArray.empty y385 t388)) ++ (t380.extract ((ji16) : Int).toNat t380.size))) := by rw [ha]; exact putSel_on (e := (16, 41, .string (((t380.extract 0 (t383 : Int).toNat) ++ (rdOf ByteArray.empty y385 t388)) ++ (t380.extract ((ji16) : Int).toNat t380.size)))) 9 rfl rfl (hon 16 (by kernel_rfl)) rfl
            replace ha := Aside0.mk ha
            have HO378 := Aside0.mk Q_HO378
            have HB := Aside0.mk Q_HB
            have HO387 := Aside0.mk (Q_HO387 (hon 4 (by kernel_rfl)))
            have HA_HO387 := Aside0.mk (Q_HA_HO387 (hon 4 (by kernel_rfl)))
            have HI373 := Aside0.mk (Q_HI373_e13 (hon 13 (by kernel_rfl)))
            refine value_ (w1 := w') (v := .string (((t380.extract 0 (t383 : Int).toNat) ++ (rdOf ByteArray.empty y385 t388)) ++ (t380.extract ((ji16) : Int).toNat t380.size))) (by rfl) rfl ?_ ?_
            ·go_simp
             (try simp only [i64_w])
             try rfl
             all_goals (first | (have h1_ := c14; have h2_ := of_eq_true c10b0; rw [ByteArray.size_extract] at h1_; omega) | (have h1_ := c19; have h2_ := of_eq_true c10b0; have h3_ := of_eq_true c18b0; simp only [ByteArray.size_append, ByteArray.size_extract] at h1_; omega))
            refine hK.out _ _ ⟨v386, adz_v386, m7_, (by rw [ha.out]; exact putSel_upk 11 hb_ rfl rfl rfl), Q_HO378, fun h0_ => absurd ((hon 6 (by kernel_rfl)).symm.trans h0_) (by decide), Q_HB, Q_HO387, Q_HA_HO387, fun _ h1_ => absurd ((hon 13 (by kernel_rfl)).symm.trans h1_) (by decide), Q_HI373_e13, Q_X7_⟩
           exact steps_nil
          rintro b a w33 hall ⟨v386, adz_v386, m7_, ha, Q_HO378, Q_HI373, Q_HB, Q_HO387, Q_HA_HO387, Q_HI373_e6, Q_HI373_e13, Q_X7_⟩
          clear HB HI373 HO378
          have hb3_ := hall 3 (by kernel_rfl)
          have hb4_ := hall 4 (by kernel_rfl)
          have hb6_ := hall 6 (by kernel_rfl)
          have hb7_ := hall 7 (by kernel_rfl)
          have hb8_ := hall 8 (by kernel_rfl)
          have hb9_ := hall 9 (by kernel_rfl)
          have hb13_ := hall 13 (by kernel_rfl)
          have hb14_ := hall 14 (by kernel_rfl)
          have hb15_ := hall 15 (by kernel_rfl)
          have hb16_ := hall 16 (by kernel_rfl)
          have hb17_ := hall 17 (by kernel_rfl)
          have hb18_ := hall 18 (by kernel_rfl)
          subst ha
          obtain rfl := Q_X7_ hb7_
          simp only [putSel, hb3_, hb4_, hb6_, hb7_, hb8_, hb9_, hb13_, hb14_, hb15_, hb16_, hb17_, hb18_, if_true, Act.put, List.setIfInBounds_toArray, List.set_cons_zero, List.set_cons_succ]
          have HO378 := Aside0.mk Q_HO378
          clear Q_HO378
          clear Q_HI373
          have HB := Aside0.mk Q_HB
          clear Q_HB
          have HO387 := Aside0.mk (Q_HO387 hb4_)
          clear Q_HO387
          have HA_HO387 := Aside0.mk (Q_HA_HO387 hb4_)
          clear Q_HA_HO387
          clear Q_HI373_e6
          have HI373 := Aside0.mk (Q_HI373_e13 hb13_)
          clear Q_HI373_e13
          clear hall hb3_ hb4_ hb6_ hb7_ hb8_ hb9_ hb13_ hb14_ hb15_ hb16_ hb17_ hb18_
          obtain ⟨co34, eo34⟩ := HA_HO387.out
          clear HA_HO387
          subst eo34
          try go_wp2
          go_ret2
          exact ⟨by first | rfl | (simp [errW_none, errW_some] <;> rfl) | (simp only [← hji16]; first | rfl | (simp [errW_none, errW_some] <;> rfl)) | (simp [*, errW_none, errW_some] <;> rfl), zE73 HB.out HI373.out⟩
         ·rw [if_neg c19] at H
          exact absurd H (by simp)
        ·rw [if_neg c18] at H
         exact absurd H (by simp)
       ·rw [if_neg c17] at H
        exact absurd H (by simp)
      ·rw [if_neg c14] at H
       exact absurd H (by simp)
     ·rw [if_neg c13] at H
      exact absurd H (by simp)
    ·rw [if_neg c12] at H
     exact absurd H (by simp)
   ·rw [if_neg c10] at H
    exact absurd H (by simp)
  ·rw [if_neg c9] at H
   exact absurd H (by simp)
 ·rw [if_neg c7] at H
  have c7b0 : (t381 == 0) = false := beq_eq_false_iff_ne.mpr c7
  have c7b1 : (t381 != 0) = true := bne_iff_ne.mpr c7
  simp only [Option.some.injEq, Prod.mk.injEq] at H
  obtain ⟨rfl, rfl⟩ := H
  go_enter Tryd.func20, Tryd.ntmps20
  go_wp2_with (first | ((with_reducible refine gate_callee (f := 32) rfl ?_); refine goesL_ (some 9) rfl rfl Tryd.func32 (by kernel_rfl) rfl #[.slice A0 l0.length c0] rfl zA ?_; (with_reducible refine (spec_l20Open.calls _ _ l0 t371 t372 w _ ?side1 ?side2 ?side3 A2.out).mono ?_); (case side1 => exact zB HB.out); (case side2 => exact HR0.out); (case side3 => exact HC0.out); rintro e w35 ⟨g373, rfl, hi, hb, hb2⟩; refine ⟨_, rfl, ?_⟩; have n0_ := Aside0.mk (hb); have n1_ := Aside0.mk (hi); clear HB; have HB := n0_; have HI373 := n1_; clear n0_ n1_; (try clear hb); (try clear hb2); (try clear hk); (try clear hi)) | ((with_reducible refine gate_callee (f := 33) rfl ?_); refine goesL_ (some 11) rfl rfl Tryd.func33 (by kernel_rfl) rfl #[.pointer (some ⟨g373, 0, none⟩), .int .i64 6] rfl zA ?_; (with_reducible refine (spec_l20Rd_pick.calls k g373 t371 t372 6 t374 t375 w _ ?side1 ?side2 A3.out).mono ?_); (case side1 => exact zI73 HI373.out); (case side2 => exact zE73 HB.out HI373.out); rintro e w36 ⟨rfl, hi, hb, hk⟩; refine ⟨_, rfl, ?_⟩; have n0_ := Aside0.mk (hb); have n1_ := Aside0.mk (hi); clear HB; clear HI373; have HB := n0_; have HI373 := n1_; clear n0_ n1_; (try clear hb); (try clear hb2); (try clear hk); (try clear hi)) | ((with_reducible refine gate_callee (f := 34) rfl ?_); refine goesL_ (some 16) rfl rfl Tryd.func34 (by kernel_rfl) rfl #[.pointer (some ⟨g373, 0, none⟩), .int .i64 (wrap64 (1 + t374)), .int .i64 0] rfl zA ?_; (with_reducible refine (spec_l20Script.calls k g373 t371 t375 (wrap64 (1 + t374)) 0 t376 t379 w _ ?side1 ?side2 A4.out).mono ?_); (case side1 => exact zI73 HI373.out); (case side2 => exact zE73 HB.out HI373.out); rintro e w37 ⟨v377, rfl, ho0, hi, hb, hk⟩; refine ⟨_, rfl, ?_⟩; have n0_ := Aside0.mk (Kd.R_lower ho0 (below_size (zE73 HB.out HI373.out))); have n1_ := Aside0.mk (hb); have n2_ := Aside0.mk (hi); clear HB; clear HI373; have HO378 := n0_; have HB := n1_; have HI373 := n2_; clear n0_ n1_ n2_; (try clear hb); (try clear hb2); (try clear hk); (try clear hi); (try clear ho0); obtain ⟨Ao38, co38, eo38⟩ := Kd.R_slice HO378.out; subst eo38) | ((with_reducible refine gate_callee (f := 8) rfl ?_); refine goesL_ (some 17) rfl rfl Tryd.func8 (by kernel_rfl) rfl #[.int .i64 (wrap64 (1 + t374)), .slice Ao38 t376.length co38] rfl zA ?_; (with_reducible refine (spec_ScriptText.calls k (wrap64 (1 + t374)) _ _ t376 t380 _ ?side1 ?side2 A5.out).mono ?_); (case side1 => exact zC (Kd.R_reads' HO378.out).2.2); (case side2 => exact (Kd.R_reads' HO378.out).2.1); rintro e w39 ⟨rfl, hb⟩; refine ⟨_, rfl, ?_⟩; have n0_ := Aside0.mk (Kd.R_below (zR HO378.out) hb); have n1_ := Aside0.mk (IsS73.below (zI73 HI373.out) hb); have n2_ := Aside0.mk (below_step (zE73 HB.out HI373.out) hb); clear HO378; clear HI373; clear HB; have HO378 := n0_; have HI373 := n1_; have HB := n2_; clear n0_ n1_ n2_; (try clear hb); (try clear hb2); (try clear hk); (try clear hi)) | ((with_reducible refine gate_callee (f := 33) rfl ?_); refine goesL_ (some 19) rfl rfl Tryd.func33 (by kernel_rfl) rfl #[.pointer (some ⟨g373, 0, none⟩), .int .i64 3] rfl zA ?_; (with_reducible refine (spec_l20Rd_pick.calls k g373 t371 t379 3 t381 t382 w _ ?side1 ?side2 A6.out).mono ?_); (case side1 => exact zI73 HI373.out); (case side2 => exact zE73 HB.out HI373.out); rintro e w40 ⟨rfl, hi, hb, hk⟩; refine ⟨_, rfl, ?_⟩; have n0_ := Aside0.mk (Kd.R_mono (Kd.R_keep (IsS73.apart (show IsS73 w _ g373 t371 t379 from zI73 HI373.out) (zR HO378.out) (by decide)) hk (fun _ h => h.2)) (fun _ h => h.1)); have n1_ := Aside0.mk (hb); have n2_ := Aside0.mk (hi); clear HO378; clear HB; clear HI373; have HO378 := n0_; have HB := n1_; have HI373 := n2_; clear n0_ n1_ n2_; (try clear hb); (try clear hb2); (try clear hk); (try clear hi)))
  go_ret2
  exact ⟨by first | rfl | (simp [errW_none, errW_some] <;> rfl) | (simp [*, errW_none, errW_some] <;> rfl), zE73 HB.out HI373.out⟩

end Go.Proofs.YtmkakbimlnigbaaDoor.PAll
