/- What CodeShapes rests on: the words, the contracts of code.Shape and of the document's Shape. -/
import Derived.Test.YtfddibbignedkaaGreatDoorB3
import Derived.Deep.RegionHeld3
import Derived.Deep.Cut
import Derived.BigRegion
set_option maxHeartbeats 8000000
set_option maxRecDepth 100000
set_option linter.unusedVariables false
set_option linter.unusedSimpArgs false
namespace Go.Proofs.YtfddibbignedkaaGreatDoor
section
namespace Ty3
open Go.RowKit Ty1 Ty2
theorem rvalued_1 (w : World) : Calls Tryz.prog 119 #[.int .i64 1] w fun e w' => e = .returned (.bool true) ∧ w = w' := by
 go_enter Tryz.func119, Tryz.ntmps119
 go_wp2
 go_ret
 exact ⟨rfl, rfl⟩
theorem rvalued_2 (w : World) : Calls Tryz.prog 119 #[.int .i64 2] w fun e w' => e = .returned (.bool true) ∧ w = w' := by
 go_enter Tryz.func119, Tryz.ntmps119
 go_wp2
 go_ret
 exact ⟨rfl, rfl⟩
theorem rvalued_3 (w : World) : Calls Tryz.prog 119 #[.int .i64 3] w fun e w' => e = .returned (.bool true) ∧ w = w' := by
 go_enter Tryz.func119, Tryz.ntmps119
 go_wp2
 go_ret
 exact ⟨rfl, rfl⟩
theorem qAr (a : Int) (w : World) (h1 : 1 ≤ a) (h2 : a ≤ 3) : Calls Tryz.prog 119 #[.int .i64 a] w fun e w' => e = .returned (.bool true) ∧ w = w' := by
 have ht : a = 1 ∨ a = 2 ∨ a = 3 := by omega
 rcases ht with rfl | rfl | rfl
 ·exact rvalued_1 w
 ·exact rvalued_2 w
 exact rvalued_3 w
theorem rvalued_no (a : Int) (w : World) (h : a < 1 ∨ 3 < a) : Calls Tryz.prog 119 #[.int .i64 a] w fun e w' => e = .returned (.bool false) ∧ w = w' := by
 have h1 : (a == 1) = false := beq_eq_false_iff_ne.mpr (by omega)
 have h2 : (a == 2) = false := beq_eq_false_iff_ne.mpr (by omega)
 have h3 : (a == 3) = false := beq_eq_false_iff_ne.mpr (by omega)
 go_enter Tryz.func119, Tryz.ntmps119
 go_wp2
 go_ret
 exact ⟨rfl, rfl⟩
theorem rbinary_arg (op a b : Int) (w : World) (h : op < 1 ∨ 13 < op) : Calls Tryz.prog 98 #[.int .i64 op, .int .i64 a, .int .i64 b] w fun e w' => e = .returned (.tuple #[.int .i64 0, .int .i64 1]) ∧ w = w' := by
 rcases h with h | h
 ·have hb : decide (op < 1) = true := decide_eq_true h
  go_enter Tryz.func98, Tryz.ntmps98
  go_wp2
  go_ret2
  exact ⟨rfl, rfl⟩
 have hb : decide (op < 1) = false := decide_eq_false (by omega)
 have hc : decide (13 < op) = true := decide_eq_true h
 go_enter Tryz.func98, Tryz.ntmps98
 go_wp2
 go_ret2
 exact ⟨rfl, rfl⟩
theorem rbinary_ne (op a b : Int) (w : World) (h1 : 1 ≤ op) (h2 : op ≤ 13) (h : a ≠ b) : Calls Tryz.prog 98 #[.int .i64 op, .int .i64 a, .int .i64 b] w fun e w' => e = .returned (.tuple #[.int .i64 0, .int .i64 22]) ∧ w = w' := by
 have hb : decide (op < 1) = false := decide_eq_false (by omega)
 have hc : decide (13 < op) = false := decide_eq_false (by omega)
 have hd : (a != b) = true := bne_iff_ne.mpr h
 go_enter Tryz.func98, Tryz.ntmps98
 go_wp2
 go_ret2
 exact ⟨rfl, rfl⟩
theorem rbinary_type (op a : Int) (w : World) (h1 : 1 ≤ op) (h2 : op ≤ 13) (h : a < 1 ∨ 3 < a) : Calls Tryz.prog 98 #[.int .i64 op, .int .i64 a, .int .i64 a] w fun e w' => e = .returned (.tuple #[.int .i64 0, .int .i64 22]) ∧ w = w' := by
 have hb : decide (op < 1) = false := decide_eq_false (by omega)
 have hc : decide (13 < op) = false := decide_eq_false (by omega)
 have hd : (a != a) = false := by simp
 go_enter Tryz.func98, Tryz.ntmps98
 go_wp2_with (go_at_call 119; refine (rvalued_no _ _ h).mono ?_; rintro e w' ⟨rfl, rfl⟩)
 go_ret2
 exact ⟨rfl, rfl⟩
theorem rbinary_1_1 (w : World) : Calls Tryz.prog 98 #[.int .i64 1, .int .i64 1, .int .i64 1] w fun e w' => e = .returned (.tuple #[.int .i64 1, .int .i64 0]) ∧ w = w' := by
 go_enter Tryz.func98, Tryz.ntmps98
 go_wp2_with (go_at_call 119; refine (qAr _ _ (by omega) (by omega)).mono ?_; rintro e w' ⟨rfl, rfl⟩)
 go_ret2
 exact ⟨rfl, rfl⟩
theorem rbinary_1_2 (w : World) : Calls Tryz.prog 98 #[.int .i64 1, .int .i64 2, .int .i64 2] w fun e w' => e = .returned (.tuple #[.int .i64 2, .int .i64 0]) ∧ w = w' := by
 go_enter Tryz.func98, Tryz.ntmps98
 go_wp2_with (go_at_call 119; refine (qAr _ _ (by omega) (by omega)).mono ?_; rintro e w' ⟨rfl, rfl⟩)
 go_ret2
 exact ⟨rfl, rfl⟩
theorem rbinary_1_3 (w : World) : Calls Tryz.prog 98 #[.int .i64 1, .int .i64 3, .int .i64 3] w fun e w' => e = .returned (.tuple #[.int .i64 0, .int .i64 22]) ∧ w = w' := by
 go_enter Tryz.func98, Tryz.ntmps98
 go_wp2_with (go_at_call 119; refine (qAr _ _ (by omega) (by omega)).mono ?_; rintro e w' ⟨rfl, rfl⟩)
 go_ret2
 exact ⟨rfl, rfl⟩
theorem rbinary_2_1 (w : World) : Calls Tryz.prog 98 #[.int .i64 2, .int .i64 1, .int .i64 1] w fun e w' => e = .returned (.tuple #[.int .i64 1, .int .i64 0]) ∧ w = w' := by
 go_enter Tryz.func98, Tryz.ntmps98
 go_wp2_with (go_at_call 119; refine (qAr _ _ (by omega) (by omega)).mono ?_; rintro e w' ⟨rfl, rfl⟩)
 go_ret2
 exact ⟨rfl, rfl⟩
theorem rbinary_2_2 (w : World) : Calls Tryz.prog 98 #[.int .i64 2, .int .i64 2, .int .i64 2] w fun e w' => e = .returned (.tuple #[.int .i64 2, .int .i64 0]) ∧ w = w' := by
 go_enter Tryz.func98, Tryz.ntmps98
 go_wp2_with (go_at_call 119; refine (qAr _ _ (by omega) (by omega)).mono ?_; rintro e w' ⟨rfl, rfl⟩)
 go_ret2
 exact ⟨rfl, rfl⟩
theorem rbinary_2_3 (w : World) : Calls Tryz.prog 98 #[.int .i64 2, .int .i64 3, .int .i64 3] w fun e w' => e = .returned (.tuple #[.int .i64 0, .int .i64 22]) ∧ w = w' := by
 go_enter Tryz.func98, Tryz.ntmps98
 go_wp2_with (go_at_call 119; refine (qAr _ _ (by omega) (by omega)).mono ?_; rintro e w' ⟨rfl, rfl⟩)
 go_ret2
 exact ⟨rfl, rfl⟩
theorem rbinary_3_1 (w : World) : Calls Tryz.prog 98 #[.int .i64 3, .int .i64 1, .int .i64 1] w fun e w' => e = .returned (.tuple #[.int .i64 1, .int .i64 0]) ∧ w = w' := by
 go_enter Tryz.func98, Tryz.ntmps98
 go_wp2_with (go_at_call 119; refine (qAr _ _ (by omega) (by omega)).mono ?_; rintro e w' ⟨rfl, rfl⟩)
 go_ret2
 exact ⟨rfl, rfl⟩
theorem rbinary_3_2 (w : World) : Calls Tryz.prog 98 #[.int .i64 3, .int .i64 2, .int .i64 2] w fun e w' => e = .returned (.tuple #[.int .i64 2, .int .i64 0]) ∧ w = w' := by
 go_enter Tryz.func98, Tryz.ntmps98
 go_wp2_with (go_at_call 119; refine (qAr _ _ (by omega) (by omega)).mono ?_; rintro e w' ⟨rfl, rfl⟩)
 go_ret2
 exact ⟨rfl, rfl⟩
theorem rbinary_3_3 (w : World) : Calls Tryz.prog 98 #[.int .i64 3, .int .i64 3, .int .i64 3] w fun e w' => e = .returned (.tuple #[.int .i64 0, .int .i64 22]) ∧ w = w' := by
 go_enter Tryz.func98, Tryz.ntmps98
 go_wp2_with (go_at_call 119; refine (qAr _ _ (by omega) (by omega)).mono ?_; rintro e w' ⟨rfl, rfl⟩)
 go_ret2
 exact ⟨rfl, rfl⟩
theorem rbinary_4_1 (w : World) : Calls Tryz.prog 98 #[.int .i64 4, .int .i64 1, .int .i64 1] w fun e w' => e = .returned (.tuple #[.int .i64 1, .int .i64 0]) ∧ w = w' := by
 go_enter Tryz.func98, Tryz.ntmps98
 go_wp2_with (go_at_call 119; refine (qAr _ _ (by omega) (by omega)).mono ?_; rintro e w' ⟨rfl, rfl⟩)
 go_ret2
 exact ⟨rfl, rfl⟩
theorem rbinary_4_2 (w : World) : Calls Tryz.prog 98 #[.int .i64 4, .int .i64 2, .int .i64 2] w fun e w' => e = .returned (.tuple #[.int .i64 2, .int .i64 0]) ∧ w = w' := by
 go_enter Tryz.func98, Tryz.ntmps98
 go_wp2_with (go_at_call 119; refine (qAr _ _ (by omega) (by omega)).mono ?_; rintro e w' ⟨rfl, rfl⟩)
 go_ret2
 exact ⟨rfl, rfl⟩
theorem rbinary_4_3 (w : World) : Calls Tryz.prog 98 #[.int .i64 4, .int .i64 3, .int .i64 3] w fun e w' => e = .returned (.tuple #[.int .i64 0, .int .i64 22]) ∧ w = w' := by
 go_enter Tryz.func98, Tryz.ntmps98
 go_wp2_with (go_at_call 119; refine (qAr _ _ (by omega) (by omega)).mono ?_; rintro e w' ⟨rfl, rfl⟩)
 go_ret2
 exact ⟨rfl, rfl⟩
theorem rbinary_5_1 (w : World) : Calls Tryz.prog 98 #[.int .i64 5, .int .i64 1, .int .i64 1] w fun e w' => e = .returned (.tuple #[.int .i64 1, .int .i64 0]) ∧ w = w' := by
 go_enter Tryz.func98, Tryz.ntmps98
 go_wp2_with (go_at_call 119; refine (qAr _ _ (by omega) (by omega)).mono ?_; rintro e w' ⟨rfl, rfl⟩)
 go_ret2
 exact ⟨rfl, rfl⟩
theorem rbinary_5_2 (w : World) : Calls Tryz.prog 98 #[.int .i64 5, .int .i64 2, .int .i64 2] w fun e w' => e = .returned (.tuple #[.int .i64 0, .int .i64 22]) ∧ w = w' := by
 go_enter Tryz.func98, Tryz.ntmps98
 go_wp2_with (go_at_call 119; refine (qAr _ _ (by omega) (by omega)).mono ?_; rintro e w' ⟨rfl, rfl⟩)
 go_ret2
 exact ⟨rfl, rfl⟩
theorem rbinary_5_3 (w : World) : Calls Tryz.prog 98 #[.int .i64 5, .int .i64 3, .int .i64 3] w fun e w' => e = .returned (.tuple #[.int .i64 0, .int .i64 22]) ∧ w = w' := by
 go_enter Tryz.func98, Tryz.ntmps98
 go_wp2_with (go_at_call 119; refine (qAr _ _ (by omega) (by omega)).mono ?_; rintro e w' ⟨rfl, rfl⟩)
 go_ret2
 exact ⟨rfl, rfl⟩
theorem rbinary_6_1 (w : World) : Calls Tryz.prog 98 #[.int .i64 6, .int .i64 1, .int .i64 1] w fun e w' => e = .returned (.tuple #[.int .i64 3, .int .i64 0]) ∧ w = w' := by
 go_enter Tryz.func98, Tryz.ntmps98
 go_wp2_with (go_at_call 119; refine (qAr _ _ (by omega) (by omega)).mono ?_; rintro e w' ⟨rfl, rfl⟩)
 go_ret2
 exact ⟨rfl, rfl⟩
theorem rbinary_6_2 (w : World) : Calls Tryz.prog 98 #[.int .i64 6, .int .i64 2, .int .i64 2] w fun e w' => e = .returned (.tuple #[.int .i64 3, .int .i64 0]) ∧ w = w' := by
 go_enter Tryz.func98, Tryz.ntmps98
 go_wp2_with (go_at_call 119; refine (qAr _ _ (by omega) (by omega)).mono ?_; rintro e w' ⟨rfl, rfl⟩)
 go_ret2
 exact ⟨rfl, rfl⟩
theorem rbinary_6_3 (w : World) : Calls Tryz.prog 98 #[.int .i64 6, .int .i64 3, .int .i64 3] w fun e w' => e = .returned (.tuple #[.int .i64 3, .int .i64 0]) ∧ w = w' := by
 go_enter Tryz.func98, Tryz.ntmps98
 go_wp2_with (go_at_call 119; refine (qAr _ _ (by omega) (by omega)).mono ?_; rintro e w' ⟨rfl, rfl⟩)
 go_ret2
 exact ⟨rfl, rfl⟩
theorem rbinary_7_1 (w : World) : Calls Tryz.prog 98 #[.int .i64 7, .int .i64 1, .int .i64 1] w fun e w' => e = .returned (.tuple #[.int .i64 3, .int .i64 0]) ∧ w = w' := by
 go_enter Tryz.func98, Tryz.ntmps98
 go_wp2_with (go_at_call 119; refine (qAr _ _ (by omega) (by omega)).mono ?_; rintro e w' ⟨rfl, rfl⟩)
 go_ret2
 exact ⟨rfl, rfl⟩
theorem rbinary_7_2 (w : World) : Calls Tryz.prog 98 #[.int .i64 7, .int .i64 2, .int .i64 2] w fun e w' => e = .returned (.tuple #[.int .i64 3, .int .i64 0]) ∧ w = w' := by
 go_enter Tryz.func98, Tryz.ntmps98
 go_wp2_with (go_at_call 119; refine (qAr _ _ (by omega) (by omega)).mono ?_; rintro e w' ⟨rfl, rfl⟩)
 go_ret2
 exact ⟨rfl, rfl⟩
theorem rbinary_7_3 (w : World) : Calls Tryz.prog 98 #[.int .i64 7, .int .i64 3, .int .i64 3] w fun e w' => e = .returned (.tuple #[.int .i64 3, .int .i64 0]) ∧ w = w' := by
 go_enter Tryz.func98, Tryz.ntmps98
 go_wp2_with (go_at_call 119; refine (qAr _ _ (by omega) (by omega)).mono ?_; rintro e w' ⟨rfl, rfl⟩)
 go_ret2
 exact ⟨rfl, rfl⟩
theorem rbinary_8_1 (w : World) : Calls Tryz.prog 98 #[.int .i64 8, .int .i64 1, .int .i64 1] w fun e w' => e = .returned (.tuple #[.int .i64 3, .int .i64 0]) ∧ w = w' := by
 go_enter Tryz.func98, Tryz.ntmps98
 go_wp2_with (go_at_call 119; refine (qAr _ _ (by omega) (by omega)).mono ?_; rintro e w' ⟨rfl, rfl⟩)
 go_ret2
 exact ⟨rfl, rfl⟩
theorem rbinary_8_2 (w : World) : Calls Tryz.prog 98 #[.int .i64 8, .int .i64 2, .int .i64 2] w fun e w' => e = .returned (.tuple #[.int .i64 3, .int .i64 0]) ∧ w = w' := by
 go_enter Tryz.func98, Tryz.ntmps98
 go_wp2_with (go_at_call 119; refine (qAr _ _ (by omega) (by omega)).mono ?_; rintro e w' ⟨rfl, rfl⟩)
 go_ret2
 exact ⟨rfl, rfl⟩
theorem rbinary_8_3 (w : World) : Calls Tryz.prog 98 #[.int .i64 8, .int .i64 3, .int .i64 3] w fun e w' => e = .returned (.tuple #[.int .i64 0, .int .i64 22]) ∧ w = w' := by
 go_enter Tryz.func98, Tryz.ntmps98
 go_wp2_with (go_at_call 119; refine (qAr _ _ (by omega) (by omega)).mono ?_; rintro e w' ⟨rfl, rfl⟩)
 go_ret2
 exact ⟨rfl, rfl⟩
theorem rbinary_9_1 (w : World) : Calls Tryz.prog 98 #[.int .i64 9, .int .i64 1, .int .i64 1] w fun e w' => e = .returned (.tuple #[.int .i64 3, .int .i64 0]) ∧ w = w' := by
 go_enter Tryz.func98, Tryz.ntmps98
 go_wp2_with (go_at_call 119; refine (qAr _ _ (by omega) (by omega)).mono ?_; rintro e w' ⟨rfl, rfl⟩)
 go_ret2
 exact ⟨rfl, rfl⟩
theorem rbinary_9_2 (w : World) : Calls Tryz.prog 98 #[.int .i64 9, .int .i64 2, .int .i64 2] w fun e w' => e = .returned (.tuple #[.int .i64 3, .int .i64 0]) ∧ w = w' := by
 go_enter Tryz.func98, Tryz.ntmps98
 go_wp2_with (go_at_call 119; refine (qAr _ _ (by omega) (by omega)).mono ?_; rintro e w' ⟨rfl, rfl⟩)
 go_ret2
 exact ⟨rfl, rfl⟩
theorem rbinary_9_3 (w : World) : Calls Tryz.prog 98 #[.int .i64 9, .int .i64 3, .int .i64 3] w fun e w' => e = .returned (.tuple #[.int .i64 0, .int .i64 22]) ∧ w = w' := by
 go_enter Tryz.func98, Tryz.ntmps98
 go_wp2_with (go_at_call 119; refine (qAr _ _ (by omega) (by omega)).mono ?_; rintro e w' ⟨rfl, rfl⟩)
 go_ret2
 exact ⟨rfl, rfl⟩
theorem rbinary_10_1 (w : World) : Calls Tryz.prog 98 #[.int .i64 10, .int .i64 1, .int .i64 1] w fun e w' => e = .returned (.tuple #[.int .i64 3, .int .i64 0]) ∧ w = w' := by
 go_enter Tryz.func98, Tryz.ntmps98
 go_wp2_with (go_at_call 119; refine (qAr _ _ (by omega) (by omega)).mono ?_; rintro e w' ⟨rfl, rfl⟩)
 go_ret2
 exact ⟨rfl, rfl⟩
theorem rbinary_10_2 (w : World) : Calls Tryz.prog 98 #[.int .i64 10, .int .i64 2, .int .i64 2] w fun e w' => e = .returned (.tuple #[.int .i64 3, .int .i64 0]) ∧ w = w' := by
 go_enter Tryz.func98, Tryz.ntmps98
 go_wp2_with (go_at_call 119; refine (qAr _ _ (by omega) (by omega)).mono ?_; rintro e w' ⟨rfl, rfl⟩)
 go_ret2
 exact ⟨rfl, rfl⟩
theorem rbinary_10_3 (w : World) : Calls Tryz.prog 98 #[.int .i64 10, .int .i64 3, .int .i64 3] w fun e w' => e = .returned (.tuple #[.int .i64 0, .int .i64 22]) ∧ w = w' := by
 go_enter Tryz.func98, Tryz.ntmps98
 go_wp2_with (go_at_call 119; refine (qAr _ _ (by omega) (by omega)).mono ?_; rintro e w' ⟨rfl, rfl⟩)
 go_ret2
 exact ⟨rfl, rfl⟩
theorem rbinary_11_1 (w : World) : Calls Tryz.prog 98 #[.int .i64 11, .int .i64 1, .int .i64 1] w fun e w' => e = .returned (.tuple #[.int .i64 3, .int .i64 0]) ∧ w = w' := by
 go_enter Tryz.func98, Tryz.ntmps98
 go_wp2_with (go_at_call 119; refine (qAr _ _ (by omega) (by omega)).mono ?_; rintro e w' ⟨rfl, rfl⟩)
 go_ret2
 exact ⟨rfl, rfl⟩
theorem rbinary_11_2 (w : World) : Calls Tryz.prog 98 #[.int .i64 11, .int .i64 2, .int .i64 2] w fun e w' => e = .returned (.tuple #[.int .i64 3, .int .i64 0]) ∧ w = w' := by
 go_enter Tryz.func98, Tryz.ntmps98
 go_wp2_with (go_at_call 119; refine (qAr _ _ (by omega) (by omega)).mono ?_; rintro e w' ⟨rfl, rfl⟩)
 go_ret2
 exact ⟨rfl, rfl⟩
theorem rbinary_11_3 (w : World) : Calls Tryz.prog 98 #[.int .i64 11, .int .i64 3, .int .i64 3] w fun e w' => e = .returned (.tuple #[.int .i64 0, .int .i64 22]) ∧ w = w' := by
 go_enter Tryz.func98, Tryz.ntmps98
 go_wp2_with (go_at_call 119; refine (qAr _ _ (by omega) (by omega)).mono ?_; rintro e w' ⟨rfl, rfl⟩)
 go_ret2
 exact ⟨rfl, rfl⟩
theorem rbinary_12_1 (w : World) : Calls Tryz.prog 98 #[.int .i64 12, .int .i64 1, .int .i64 1] w fun e w' => e = .returned (.tuple #[.int .i64 0, .int .i64 22]) ∧ w = w' := by
 go_enter Tryz.func98, Tryz.ntmps98
 go_wp2_with (go_at_call 119; refine (qAr _ _ (by omega) (by omega)).mono ?_; rintro e w' ⟨rfl, rfl⟩)
 go_ret2
 exact ⟨rfl, rfl⟩
theorem rbinary_12_2 (w : World) : Calls Tryz.prog 98 #[.int .i64 12, .int .i64 2, .int .i64 2] w fun e w' => e = .returned (.tuple #[.int .i64 0, .int .i64 22]) ∧ w = w' := by
 go_enter Tryz.func98, Tryz.ntmps98
 go_wp2_with (go_at_call 119; refine (qAr _ _ (by omega) (by omega)).mono ?_; rintro e w' ⟨rfl, rfl⟩)
 go_ret2
 exact ⟨rfl, rfl⟩
theorem rbinary_12_3 (w : World) : Calls Tryz.prog 98 #[.int .i64 12, .int .i64 3, .int .i64 3] w fun e w' => e = .returned (.tuple #[.int .i64 3, .int .i64 0]) ∧ w = w' := by
 go_enter Tryz.func98, Tryz.ntmps98
 go_wp2_with (go_at_call 119; refine (qAr _ _ (by omega) (by omega)).mono ?_; rintro e w' ⟨rfl, rfl⟩)
 go_ret2
 exact ⟨rfl, rfl⟩
theorem rbinary_13_1 (w : World) : Calls Tryz.prog 98 #[.int .i64 13, .int .i64 1, .int .i64 1] w fun e w' => e = .returned (.tuple #[.int .i64 0, .int .i64 22]) ∧ w = w' := by
 go_enter Tryz.func98, Tryz.ntmps98
 go_wp2_with (go_at_call 119; refine (qAr _ _ (by omega) (by omega)).mono ?_; rintro e w' ⟨rfl, rfl⟩)
 go_ret2
 exact ⟨rfl, rfl⟩
theorem rbinary_13_2 (w : World) : Calls Tryz.prog 98 #[.int .i64 13, .int .i64 2, .int .i64 2] w fun e w' => e = .returned (.tuple #[.int .i64 0, .int .i64 22]) ∧ w = w' := by
 go_enter Tryz.func98, Tryz.ntmps98
 go_wp2_with (go_at_call 119; refine (qAr _ _ (by omega) (by omega)).mono ?_; rintro e w' ⟨rfl, rfl⟩)
 go_ret2
 exact ⟨rfl, rfl⟩
theorem rbinary_13_3 (w : World) : Calls Tryz.prog 98 #[.int .i64 13, .int .i64 3, .int .i64 3] w fun e w' => e = .returned (.tuple #[.int .i64 3, .int .i64 0]) ∧ w = w' := by
 go_enter Tryz.func98, Tryz.ntmps98
 go_wp2_with (go_at_call 119; refine (qAr _ _ (by omega) (by omega)).mono ?_; rintro e w' ⟨rfl, rfl⟩)
 go_ret2
 exact ⟨rfl, rfl⟩
theorem rbinary_any (op a b : Int) (w : World) : Calls Tryz.prog 98 #[.int .i64 op, .int .i64 a, .int .i64 b] w fun e w' => e = .returned (.tuple #[.int .i64 (binary op a b).1, .int .i64 (binary op a b).2]) ∧ w = w' := by
 by_cases h : op < 1 ∨ 13 < op
 ·have e : binary op a b = (0, 1) := by unfold binary; rw [if_pos h]
  rw [e]
  exact rbinary_arg op a b w h
 by_cases hne : a ≠ b
 ·have e : binary op a b = (0, 22) := by unfold binary; rw [if_neg h, if_pos (Or.inl hne)]
  rw [e]
  exact rbinary_ne op a b w (by omega) (by omega) hne
 obtain rfl : a = b := by omega
 by_cases k : a < 1 ∨ 3 < a
 ·have e : binary op a a = (0, 22) := by unfold binary; rw [if_neg h, if_pos (Or.inr k)]
  rw [e]
  exact rbinary_type op a w (by omega) (by omega) k
 have ho : op = 1 ∨ op = 2 ∨ op = 3 ∨ op = 4 ∨ op = 5 ∨ op = 6 ∨ op = 7 ∨ op = 8 ∨ op = 9 ∨ op = 10 ∨ op = 11 ∨ op = 12 ∨ op = 13 := by omega
 have ht : a = 1 ∨ a = 2 ∨ a = 3 := by omega
 rcases ho with rfl | rfl | rfl | rfl | rfl | rfl | rfl | rfl | rfl | rfl | rfl | rfl | rfl <;> rcases ht with rfl | rfl | rfl
 ·exact rbinary_1_1 w
 ·exact rbinary_1_2 w
 ·exact rbinary_1_3 w
 ·exact rbinary_2_1 w
 ·exact rbinary_2_2 w
 ·exact rbinary_2_3 w
 ·exact rbinary_3_1 w
 ·exact rbinary_3_2 w
 ·exact rbinary_3_3 w
 ·exact rbinary_4_1 w
 ·exact rbinary_4_2 w
 ·exact rbinary_4_3 w
 ·exact rbinary_5_1 w
 ·exact rbinary_5_2 w
 ·exact rbinary_5_3 w
 ·exact rbinary_6_1 w
 ·exact rbinary_6_2 w
 ·exact rbinary_6_3 w
 ·exact rbinary_7_1 w
 ·exact rbinary_7_2 w
 ·exact rbinary_7_3 w
 ·exact rbinary_8_1 w
 ·exact rbinary_8_2 w
 ·exact rbinary_8_3 w
 ·exact rbinary_9_1 w
 ·exact rbinary_9_2 w
 ·exact rbinary_9_3 w
 ·exact rbinary_10_1 w
 ·exact rbinary_10_2 w
 ·exact rbinary_10_3 w
 ·exact rbinary_11_1 w
 ·exact rbinary_11_2 w
 ·exact rbinary_11_3 w
 ·exact rbinary_12_1 w
 ·exact rbinary_12_2 w
 ·exact rbinary_12_3 w
 ·exact rbinary_13_1 w
 ·exact rbinary_13_2 w
 exact rbinary_13_3 w
theorem runary_arg (op t : Int) (w : World) (h : op < 1 ∨ 4 < op) : Calls Tryz.prog 97 #[.int .i64 op, .int .i64 t] w fun e w' => e = .returned (.tuple #[.int .i64 0, .int .i64 1]) ∧ w = w' := by
 have h1 : (op == 1) = false := beq_eq_false_iff_ne.mpr (by omega)
 have h2 : (op == 2) = false := beq_eq_false_iff_ne.mpr (by omega)
 have h3 : (op == 3) = false := beq_eq_false_iff_ne.mpr (by omega)
 have h4 : (op == 4) = false := beq_eq_false_iff_ne.mpr (by omega)
 go_enter Tryz.func97, Tryz.ntmps97
 go_wp2
 go_ret2
 exact ⟨rfl, rfl⟩
theorem runary_no_1 (t : Int) (w : World) (h : t < 1 ∨ 3 < t) : Calls Tryz.prog 97 #[.int .i64 1, .int .i64 t] w fun e w' => e = .returned (.tuple #[.int .i64 0, .int .i64 22]) ∧ w = w' := by
 have h1 : (t == 1) = false := beq_eq_false_iff_ne.mpr (by omega)
 have h2 : (t == 2) = false := beq_eq_false_iff_ne.mpr (by omega)
 have h3 : (t == 3) = false := beq_eq_false_iff_ne.mpr (by omega)
 go_enter Tryz.func97, Tryz.ntmps97
 go_wp2
 go_ret2
 exact ⟨rfl, rfl⟩
theorem runary_1_1 (w : World) : Calls Tryz.prog 97 #[.int .i64 1, .int .i64 1] w fun e w' => e = .returned (.tuple #[.int .i64 1, .int .i64 0]) ∧ w = w' := by
 go_enter Tryz.func97, Tryz.ntmps97
 go_wp2
 go_ret2
 exact ⟨rfl, rfl⟩
theorem runary_1_2 (w : World) : Calls Tryz.prog 97 #[.int .i64 1, .int .i64 2] w fun e w' => e = .returned (.tuple #[.int .i64 2, .int .i64 0]) ∧ w = w' := by
 go_enter Tryz.func97, Tryz.ntmps97
 go_wp2
 go_ret2
 exact ⟨rfl, rfl⟩
theorem runary_1_3 (w : World) : Calls Tryz.prog 97 #[.int .i64 1, .int .i64 3] w fun e w' => e = .returned (.tuple #[.int .i64 0, .int .i64 22]) ∧ w = w' := by
 go_enter Tryz.func97, Tryz.ntmps97
 go_wp2
 go_ret2
 exact ⟨rfl, rfl⟩
theorem runary_no_2 (t : Int) (w : World) (h : t < 1 ∨ 3 < t) : Calls Tryz.prog 97 #[.int .i64 2, .int .i64 t] w fun e w' => e = .returned (.tuple #[.int .i64 0, .int .i64 22]) ∧ w = w' := by
 have h1 : (t == 1) = false := beq_eq_false_iff_ne.mpr (by omega)
 have h2 : (t == 2) = false := beq_eq_false_iff_ne.mpr (by omega)
 have h3 : (t == 3) = false := beq_eq_false_iff_ne.mpr (by omega)
 go_enter Tryz.func97, Tryz.ntmps97
 go_wp2
 go_ret2
 exact ⟨rfl, rfl⟩
theorem runary_2_1 (w : World) : Calls Tryz.prog 97 #[.int .i64 2, .int .i64 1] w fun e w' => e = .returned (.tuple #[.int .i64 0, .int .i64 22]) ∧ w = w' := by
 go_enter Tryz.func97, Tryz.ntmps97
 go_wp2
 go_ret2
 exact ⟨rfl, rfl⟩
theorem runary_2_2 (w : World) : Calls Tryz.prog 97 #[.int .i64 2, .int .i64 2] w fun e w' => e = .returned (.tuple #[.int .i64 0, .int .i64 22]) ∧ w = w' := by
 go_enter Tryz.func97, Tryz.ntmps97
 go_wp2
 go_ret2
 exact ⟨rfl, rfl⟩
theorem runary_2_3 (w : World) : Calls Tryz.prog 97 #[.int .i64 2, .int .i64 3] w fun e w' => e = .returned (.tuple #[.int .i64 3, .int .i64 0]) ∧ w = w' := by
 go_enter Tryz.func97, Tryz.ntmps97
 go_wp2
 go_ret2
 exact ⟨rfl, rfl⟩
theorem runary_no_3 (t : Int) (w : World) (h : t < 1 ∨ 3 < t) : Calls Tryz.prog 97 #[.int .i64 3, .int .i64 t] w fun e w' => e = .returned (.tuple #[.int .i64 0, .int .i64 22]) ∧ w = w' := by
 have h1 : (t == 1) = false := beq_eq_false_iff_ne.mpr (by omega)
 have h2 : (t == 2) = false := beq_eq_false_iff_ne.mpr (by omega)
 have h3 : (t == 3) = false := beq_eq_false_iff_ne.mpr (by omega)
 go_enter Tryz.func97, Tryz.ntmps97
 go_wp2
 go_ret2
 exact ⟨rfl, rfl⟩
theorem runary_3_1 (w : World) : Calls Tryz.prog 97 #[.int .i64 3, .int .i64 1] w fun e w' => e = .returned (.tuple #[.int .i64 0, .int .i64 22]) ∧ w = w' := by
 go_enter Tryz.func97, Tryz.ntmps97
 go_wp2
 go_ret2
 exact ⟨rfl, rfl⟩
theorem runary_3_2 (w : World) : Calls Tryz.prog 97 #[.int .i64 3, .int .i64 2] w fun e w' => e = .returned (.tuple #[.int .i64 1, .int .i64 0]) ∧ w = w' := by
 go_enter Tryz.func97, Tryz.ntmps97
 go_wp2
 go_ret2
 exact ⟨rfl, rfl⟩
theorem runary_3_3 (w : World) : Calls Tryz.prog 97 #[.int .i64 3, .int .i64 3] w fun e w' => e = .returned (.tuple #[.int .i64 0, .int .i64 22]) ∧ w = w' := by
 go_enter Tryz.func97, Tryz.ntmps97
 go_wp2
 go_ret2
 exact ⟨rfl, rfl⟩
theorem runary_no_4 (t : Int) (w : World) (h : t < 1 ∨ 3 < t) : Calls Tryz.prog 97 #[.int .i64 4, .int .i64 t] w fun e w' => e = .returned (.tuple #[.int .i64 0, .int .i64 22]) ∧ w = w' := by
 have h1 : (t == 1) = false := beq_eq_false_iff_ne.mpr (by omega)
 have h2 : (t == 2) = false := beq_eq_false_iff_ne.mpr (by omega)
 have h3 : (t == 3) = false := beq_eq_false_iff_ne.mpr (by omega)
 go_enter Tryz.func97, Tryz.ntmps97
 go_wp2
 go_ret2
 exact ⟨rfl, rfl⟩
theorem runary_4_1 (w : World) : Calls Tryz.prog 97 #[.int .i64 4, .int .i64 1] w fun e w' => e = .returned (.tuple #[.int .i64 2, .int .i64 0]) ∧ w = w' := by
 go_enter Tryz.func97, Tryz.ntmps97
 go_wp2
 go_ret2
 exact ⟨rfl, rfl⟩
theorem runary_4_2 (w : World) : Calls Tryz.prog 97 #[.int .i64 4, .int .i64 2] w fun e w' => e = .returned (.tuple #[.int .i64 0, .int .i64 22]) ∧ w = w' := by
 go_enter Tryz.func97, Tryz.ntmps97
 go_wp2
 go_ret2
 exact ⟨rfl, rfl⟩
theorem runary_4_3 (w : World) : Calls Tryz.prog 97 #[.int .i64 4, .int .i64 3] w fun e w' => e = .returned (.tuple #[.int .i64 0, .int .i64 22]) ∧ w = w' := by
 go_enter Tryz.func97, Tryz.ntmps97
 go_wp2
 go_ret2
 exact ⟨rfl, rfl⟩
theorem runary_any (op t : Int) (w : World) : Calls Tryz.prog 97 #[.int .i64 op, .int .i64 t] w fun e w' => e = .returned (.tuple #[.int .i64 (unary op t).1, .int .i64 (unary op t).2]) ∧ w = w' := by
 by_cases h : op < 1 ∨ 4 < op
 ·have e : unary op t = (0, 1) := by unfold unary; rw [if_pos h]
  rw [e]
  exact runary_arg op t w h
 have ho : op = 1 ∨ op = 2 ∨ op = 3 ∨ op = 4 := by omega
 by_cases k : t < 1 ∨ 3 < t
 ·have e : unary op t = (0, 22) := by unfold unary; rw [if_neg h, if_pos k]
  rw [e]
  rcases ho with rfl | rfl | rfl | rfl
  ·exact runary_no_1 t w k
  ·exact runary_no_2 t w k
  ·exact runary_no_3 t w k
  exact runary_no_4 t w k
 have ht : t = 1 ∨ t = 2 ∨ t = 3 := by omega
 rcases ho with rfl | rfl | rfl | rfl <;> rcases ht with rfl | rfl | rfl
 ·exact runary_1_1 w
 ·exact runary_1_2 w
 ·exact runary_1_3 w
 ·exact runary_2_1 w
 ·exact runary_2_2 w
 ·exact runary_2_3 w
 ·exact runary_3_1 w
 ·exact runary_3_2 w
 ·exact runary_3_3 w
 ·exact runary_4_1 w
 ·exact runary_4_2 w
 exact runary_4_3 w
end Ty3
end
section
namespace Q
open Go.RowKit YA YB YC
attribute [local go_sem] max2_int min2_int max_two min_two max_three min_three max_four min_four
def qAh.l0 : Nat → List Int → List Int → Int → Option (Bool)
 | 0, _, _, _ => none
 | k + 1, x0, x1, x5 => if x5 < (x0.length : Int) then (if 0 ≤ x5 then (if x5 < (x1.length : Int) then (if (rd x0 x5) = (rd x1 x5) then (qAh.l0 k x0 x1 (wrap64 (x5 + 1))) else (some false)) else (none)) else (none)) else (some true)
def qAh.f (k : Nat) (l0 : List Int) (l1 : List Int) : Option (Bool) := if (l0.length : Int) = (l1.length : Int) then (qAh.l0 k l0 l1 0) else (some false)
theorem qAh.calls (k : Nat) (A0 : Option Addr) (c0 : Nat) (l0 : List Int) (A1 : Option Addr) (c1 : Nat) (l1 : List Int) (r : Bool) (w : World) (hr0 : Kd.C (Kd.int .i64) w A0 l0.length l0) (hc0 : l0.length ≤ c0) (hr1 : Kd.C (Kd.int .i64) w A1 l1.length l1) (hc1 : l1.length ≤ c1) (h : qAh.f k l0 l1 = some r) :
  Calls Tryz.prog 29 #[.slice A0 l0.length c0, .slice A1 l1.length c1] w fun e w' => e = .returned (.bool r) ∧ qAC w w' := by
 have aS := am hr0
 have aW := am hc0
 clear hr0 hc0
 have aT := am hr1
 have aX := am hc1
 clear hr1 hc1
 have H : (if (l0.length : Int) = (l1.length : Int) then (qAh.l0 k l0 l1 0) else (some false)) = some r := h
 clear h
 by_cases c3 : (l0.length : Int) = (l1.length : Int)
 ·rw [if_pos c3] at H
  have aL : ((l0.length : Int) == (l1.length : Int)) = true := beq_iff_eq.mpr c3
  have aM : ((l0.length : Int) != (l1.length : Int)) = false := bn c3
  have aN : (l0.length == l1.length) = true := by first | simpa using c3 | (simp at c3 ⊢; omega)
  clear c3
  have H' := am H
  clear H
  go_enter Tryz.func29, Tryz.ntmps29
  go_wp2
  repeat (go_quiet (fail); try go_wp2)
  go_loopg [5] k (fun kq v5 w' => ∃ (aA : Int), v5 = .int .i64 aA ∧ qAc (qAh.l0 kq l0 l1 aA = some r) ∧ qAc (kq ≤ k) ∧ qAC w w')
  case atStart => exact ⟨(0), (by first | rfl | (simp; done) | (simp [*]; done)), H', ⟨Nat.le_refl _⟩, by repeat (first | exact qAC.refl _ | apply qAC.step)⟩
  case round =>
   clear H'
   obtain ⟨aA, rfl, HA, aR, ⟨m1, rfl⟩⟩ := hrel
   cases gk with
   | zero => exact absurd HA.o (by simp [qAh.l0])
   | succ k1 =>
    have H := HA.o
    clear HA
    simp only [qAh.l0] at H
    by_cases c4 : aA < (l0.length : Int)
    rotate_left
    ·rw [if_neg c4] at H
     replace c4 := d0 c4
     obtain rfl := Option.some.inj H
     go_wp2
     repeat (go_quiet (fail); try go_wp2)
     go_ret
     exact ⟨by first | rfl | (simp; done) | (simp [*]; done), by repeat (first | exact qAC.refl _ | apply qAC.step)⟩
    rw [if_pos c4] at H
    replace c4 := d1 c4
    obtain ⟨c5, H⟩ := gd H
    replace c5 := d1 c5
    obtain ⟨c6, H⟩ := gd H
    replace c6 := d1 c6
    by_cases c7 : (rd l0 aA) = (rd l1 aA)
    rotate_left
    ·rw [if_neg c7] at H
     have aP : ((rd l0 aA) == (rd l1 aA)) = false := bf c7
     have aQ : ((rd l0 aA) != (rd l1 aA)) = true := bne_iff_ne.mpr c7
     obtain rfl := Option.some.inj H
     have aB : 0 ≤ (aA : Int) := of_decide_eq_true (by first | (with_reducible assumption) | assumption)
     have aD : aA < (l0.length : Int) := of_decide_eq_true (by first | (with_reducible assumption) | assumption)
     obtain ⟨aJ, aH, aF⟩ := Kd.at_int aS.o aA aB aD
     cases aH
     replace aB := eq_true aB
     replace aD := eq_true aD
     have aC : 0 ≤ (aA : Int) := of_decide_eq_true (by first | (with_reducible assumption) | assumption)
     have aE : aA < (l1.length : Int) := of_decide_eq_true (by first | (with_reducible assumption) | assumption)
     obtain ⟨aK, aI, aG⟩ := Kd.at_int aT.o aA aC aE
     cases aI
     replace aC := eq_true aC
     replace aE := eq_true aE
     go_wp2
     repeat (go_quiet (fail); try go_wp2)
     go_ret
     exact ⟨by first | rfl | (simp; done) | (simp [*]; done), by repeat (first | exact qAC.refl _ | apply qAC.step)⟩
    rw [if_pos c7] at H
    have aP : ((rd l0 aA) == (rd l1 aA)) = true := beq_iff_eq.mpr c7
    have aQ : ((rd l0 aA) != (rd l1 aA)) = false := bn c7
    clear c7
    have H' := am H
    clear H
    have aB : 0 ≤ (aA : Int) := of_decide_eq_true (by first | (with_reducible assumption) | assumption)
    have aD : aA < (l0.length : Int) := of_decide_eq_true (by first | (with_reducible assumption) | assumption)
    obtain ⟨aJ, aH, aF⟩ := Kd.at_int aS.o aA aB aD
    cases aH
    replace aB := eq_true aB
    replace aD := eq_true aD
    have aC : 0 ≤ (aA : Int) := of_decide_eq_true (by first | (with_reducible assumption) | assumption)
    have aE : aA < (l1.length : Int) := of_decide_eq_true (by first | (with_reducible assumption) | assumption)
    obtain ⟨aK, aI, aG⟩ := Kd.at_int aT.o aA aC aE
    cases aI
    replace aC := eq_true aC
    replace aE := eq_true aE
    go_wp2
    repeat (go_quiet (fail); try go_wp2)
    go_roundg k1
    case measure => have := aR.o; omega
    case rel => exact ⟨(wrap64 (aA + 1)), (by first | rfl | (simp; done) | (simp [*]; done)), H', ⟨by have := aR.o; omega⟩, by repeat (first | exact qAC.refl _ | apply qAC.step)⟩
 ·rw [if_neg c3] at H
  have aL : ((l0.length : Int) == (l1.length : Int)) = false := bf c3
  have aM : ((l0.length : Int) != (l1.length : Int)) = true := bne_iff_ne.mpr c3
  have aN : (l0.length == l1.length) = false := by first | simpa using c3 | (simp at c3 ⊢; omega)
  obtain rfl := Option.some.inj H
  go_enter Tryz.func29, Tryz.ntmps29
  go_wp2
  repeat (go_quiet (fail); try go_wp2)
  go_ret
  exact ⟨by first | rfl | (simp; done) | (simp [*]; done), by repeat (first | exact qAC.refl _ | apply qAC.step)⟩
end Q
end
section
namespace Q
open Go.RowKit YA YB YC
namespace RV
section
variable {P : Program} {ops : Array Oper} {Q : Exit → Act → World → Prop} {md : Region.Mode} {S : World → Prop}
theorem tH (i : Nat) {oi : Oper} {v : Value} {fuel : Nat} {l : Array Bool} {a : Act} {w : World} (hi : ops[i]? = some oi) (hy : YieldsIf P ops S oi v a) (h : wpAnyH P md ops Q S fuel (l.setIfInBounds i true) (a.put oi.dst v) w)
  (hQ : ∀ c a w, Q (.panic c) (a.put oi.dst v) w → Q (.panic c) a w := by exact fun _ _ _ h => h) (hS : S w := by assumption) (hs : Region.noSelect ops = true := by kernel_rfl) (hf : Region.free md ops l i = true := by kernel_rfl) (hr : (Region.ready md ops l).contains i = true := by kernel_rfl) : wpAnyH P md ops Q S (fuel + 1) l a w :=
 wpAnyH_take hi hs hf hr hQ hy hS h
end
theorem zA {α : Type _} {xs : List α} {i : Nat} (h : i < xs.toArray.size) : xs.toArray[i]'h = xs[i]'(by simpa using h) := rfl
theorem zB {α : Type _} {a : α} {t : List α} (h : 0 < (a :: t).length) : (a :: t)[0]'h = a := rfl
theorem zC {α : Type _} {a : α} {t : List α} {i : Nat} (h : i + 1 < (a :: t).length) : (a :: t)[i + 1]'h = t[i]'(by simpa using h) := rfl
theorem zD {α : Type _} (xs : List α) (i : Nat) (a : α) : xs.toArray.setIfInBounds i a = (xs.set i a).toArray := by simp
theorem zE {α : Type _} {x a : α} {xs : List α} : (x :: xs).set 0 a = a :: xs := rfl
theorem zF {α : Type _} {x a : α} {xs : List α} {i : Nat} : (x :: xs).set (i + 1) a = x :: xs.set i a := rfl
theorem bl {w : World} {a : Addr} {v : Value} (h : w.cell? a = some v) : a.block < w.heap.size := World.block_lt_of_cell? _ _ h
theorem eX {α : Type _} (x : α) : ∃ k, k = x := ⟨_, rfl⟩
theorem nl (n : Nat) : n ≤ n := Nat.le_refl n
theorem bn {α : Type _} [BEq α] [LawfulBEq α] {a b : α} (h : a ≠ b) : (a == b) = false := beq_eq_false_iff_ne.mpr h
theorem dt {p : Prop} [Decidable p] (h : decide p = true) : p := of_decide_eq_true h
theorem eL {α : Type _} (l : List α) : ∃ n, n = l.length := ⟨_, rfl⟩
theorem i64_sub {n m : Nat} (hn : n ≤ 4611686018427387904) (hm : m ≤ 4611686018427387904) : IntKind.i64.wrap ((n : Int) - (m : Int)) = (n : Int) - m := by simp [IntKind.wrap, IntKind.bits, IntKind.signed]; omega
theorem last_get (l : List Int) (h : l ≠ []) : l.getD (l.length - 1) 0 = l.getLast?.getD 0 := by
 rw [List.getLast?_eq_getElem?, List.getD_eq_getElem?_getD]
theorem top_some {W : World} (A : Option Addr) (c n : Nat) (l : List Int) (hC : Kd.C (Kd.int .i64) W A (n + 1) l) (hl : l.length = n + 1) (hn : n + 1 ≤ 4611686018427387904) (hc : n + 1 ≤ c) :
  Calls Tryz.prog 96 #[.slice A (n + 1) c] W fun e w' => e = .returned (.tuple #[.slice A n c, .int .i64 (l.getLast?.getD 0), .bool true]) ∧ Below W.heap.size W w' := by
 obtain ⟨ad, rfl, hx⟩ := qC1 hC n (by omega)
 have e : l.getD n 0 = l.getLast?.getD 0 := by
  rw [← last_get l (fun e => by rw [e] at hl; simp at hl), hl]; rfl
 rw [e] at hx
 obtain ⟨x, hxx⟩ := eX (l.getLast?.getD 0)
 rw [← hxx] at hx ⊢
 have hs : IntKind.i64.wrap (((n + 1 : Nat) : Int) - 1) = (n : Int) := by simp [IntKind.wrap, IntKind.bits, IntKind.signed]; omega
 have hd : decide ((n : Int) < 0) = false := decide_eq_false (by omega)
 have hb1 : (0 : Int) ≤ (n : Int) := by omega
 have hb2 : (n : Int) < (n : Int) + 1 := by omega
 have hb3 : (n : Int) ≤ (c : Int) := by omega
 have hb4 : n ≤ c := by omega
 have hb5 : n < n + 1 := by omega
 clear hC e hxx hl
 go_enter Tryz.func96, Tryz.ntmps96
 go_wp2_with fail
 go_region_held3 (fun W' => W'.cell? (ad.add n) = some (.int .i64 x)) (first | exact hx) (fail)
 go_wp2_with fail
 refine bodyPost_ret (results_tmp3 rfl _ _ _) rfl ?_
 exact ⟨rfl, by first | exact Below.refl _ _ | exact qAo (Below.refl _ _)⟩
theorem top_none {W : World} (A : Option Addr) (c : Nat) :
  Calls Tryz.prog 96 #[.slice A 0 c] W fun e w' => e = .returned (.tuple #[.slice none 0 0, .int .i64 0, .bool false]) ∧ Below W.heap.size W w' := by
 go_enter Tryz.func96, Tryz.ntmps96
 go_wp2
 refine bodyPost_ret (results_tmp3 rfl _ _ _) rfl ?_
 exact ⟨rfl, by first | exact Below.refl _ _ | exact qAo (Below.refl _ _)⟩
def qAO (st l : List Int) : Bool := decide (l.length ≤ st.length) && (st.drop (st.length - l.length) == l)
theorem ints_ev (a b : List Int) (hl : a.length ≤ 4611686018427387904) : Ev (fun k => qAh.f k a b) (a == b) := by
 rw [show (a == b) = eqB a b from (qD1 (by simp)).symm]
 refine eq_list 0 (fun x y => !(x == y)) (fun x y => by simp) _ (fun k i => qAh.l0 k a b i) a b hl (fun k => rfl) (fun k i => ?_)
 simp only [qAh.l0]
 by_cases h1 : i < (a.length : Int)
 rotate_left
 ·rw [if_neg h1, if_neg h1]
 by_cases h0 : 0 ≤ i
 rotate_left
 ·rw [if_pos h1, if_neg h0, if_pos h1, if_neg h0]
 by_cases h2 : i < (b.length : Int)
 rotate_left
 ·rw [if_pos h1, if_pos h0, if_neg h2, if_pos h1, if_pos h0, if_pos h1, if_neg h2]
 by_cases e : rd a i = rd b i
 ·have e' : (!(a.getD i.toNat 0 == b.getD i.toNat 0)) = false := by simpa [rd, rdOf] using e
  rw [if_pos h1, if_pos h0, if_pos h2, if_pos e, if_pos h1, if_pos h0, if_pos h1, if_pos h2, e']; rfl
 have e' : (!(a.getD i.toNat 0 == b.getD i.toNat 0)) = true := by simpa [rd, rdOf] using e
 rw [if_pos h1, if_pos h0, if_pos h2, if_neg e, if_pos h1, if_pos h0, if_pos h1, if_pos h2, e']; rfl
theorem ints_any (A1 A2 : Option Addr) (c1 c2 : Nat) (l1 l2 : List Int) (w : World) (h1 : Kd.C (Kd.int .i64) w A1 l1.length l1) (h2 : Kd.C (Kd.int .i64) w A2 l2.length l2) (hc1 : l1.length ≤ c1) (hc2 : l2.length ≤ c2) (hl : l1.length ≤ 4611686018427387904) :
  Calls Tryz.prog 29 #[.slice A1 l1.length c1, .slice A2 l2.length c2] w fun e w' => e = .returned (.bool (l1 == l2)) ∧ Below w.heap.size w w' := by
 obtain ⟨k, hk⟩ := (ints_ev l1 l2 hl).rounds
 refine (qAh.calls k A1 c1 l1 A2 c2 l2 _ w h1 hc1 h2 hc2 hk).mono ?_
 rintro e w' ⟨rfl, hd⟩
 exact ⟨rfl, hd.below⟩
theorem taken_any {W : World} (A1 A2 : Option Addr) (c1 c2 : Nat) (st l : List Int) (h1 : Kd.C (Kd.int .i64) W A1 st.length st) (h2 : Kd.C (Kd.int .i64) W A2 l.length l) (hc1 : st.length ≤ c1) (hc2 : l.length ≤ c2) (hl1 : st.length ≤ 4611686018427387904) (hl2 : l.length ≤ 4611686018427387904) :
  Calls Tryz.prog 95 #[.slice A1 st.length c1, .slice A2 l.length c2] W fun e w' => e = .returned (.tuple (if qAO st l = true then #[.slice A1 (st.length - l.length) c1, .bool true] else #[.slice none 0 0, .bool false])) ∧ Below W.heap.size W w' := by
 have hs := i64_sub hl1 hl2
 by_cases hle : l.length ≤ st.length
 ·obtain ⟨k, hk⟩ := eX (st.length - l.length)
  have hsk : IntKind.i64.wrap ((st.length : Int) - (l.length : Int)) = (k : Int) := by omega
  have hd : decide ((k : Int) < 0) = false := decide_eq_false (by omega)
  obtain ⟨n, hn⟩ := eL st
  obtain ⟨m, hm⟩ := eL l
  rw [← hn, ← hm] at hsk hk
  rw [← hn] at hc1
  obtain ⟨b, hb⟩ := eX (qAO st l)
  have hIC : qAc (∀ W' A' c', m ≤ c' → Kd.C (Kd.int .i64) W' A' m (st.drop k) → Kd.C (Kd.int .i64) W' A2 m l → Calls Tryz.prog 29 #[.slice A' m c', .slice A2 m c2] W' fun e w' => e = .returned (.bool b) ∧ Below W'.heap.size W' w') := ⟨fun W' A' c' hcc g1 g2 => by
    have e1 : (st.drop k).length = m := by rw [List.length_drop]; omega
    have hbb : b = (st.drop k == l) := by
      rw [hb]; unfold qAO
      rw [decide_eq_true hle, Bool.true_and, ← hn, ← hm, ← hk]
    have := ints_any A' A2 c' c2 (st.drop k) l W' (by rw [e1]; exact g1) (by rw [← hm]; exact g2) (by omega) (by omega) (by omega)
    rw [e1, ← hm, ← hbb] at this
    exact this⟩
  have hkb1 : (0 : Int) ≤ (k : Int) := by omega
  have hkb2 : (k : Int) ≤ (n : Int) := by omega
  have hkb3 : k ≤ n := by omega
  have hkb4 : k ≤ c1 := by omega
  have hkb5 : (n : Int) ≤ (c1 : Int) := by omega
  have hnm : n - k = m := by omega
  have hdr := Kd.C_drop (m := k) h1 (by omega) (c := c1) (by omega)
  rw [show (Kd.int .i64).sz = 1 from rfl, Nat.mul_one, List.length_drop, ← hn, hnm] at hdr
  have HC1 := am hdr
  have HC2 : qAc (Kd.C (Kd.int .i64) W A2 m l) := ⟨by rw [hm]; exact h2⟩
  rw [← hb, ← hn, ← hm, ← hk]
  clear h1 h2 hb hn hm hs hle hc2 hk hdr
  have HNM := am hnm
  by_cases hck : c1 = k
  ·rw [if_pos hck] at HC1
   cases b
   ·rw [if_neg (show ¬ (false = true) by decide)]
    go_enter Tryz.func95, Tryz.ntmps95
    go_wp2_with (go_at_call 29; refine (hIC.out _ _ _ (by have := HNM.out; omega) (by have h_ := HC1.out; exact h_) HC2.out).mono ?_; rintro e w1 ⟨rfl, hb1⟩; have HB1 := am hb1; clear hb1)
    go_ret2
    exact ⟨by first | rfl | (rw [hck]; rfl), HB1.out⟩
   ·rw [if_pos (show (true = true) by decide)]
    go_enter Tryz.func95, Tryz.ntmps95
    go_wp2_with (go_at_call 29; refine (hIC.out _ _ _ (by have := HNM.out; omega) (by have h_ := HC1.out; exact h_) HC2.out).mono ?_; rintro e w1 ⟨rfl, hb1⟩; have HB1 := am hb1; clear hb1)
    go_ret2
    exact ⟨by first | rfl | (rw [hck]; rfl), HB1.out⟩
  ·rw [if_neg hck] at HC1
   cases b
   ·rw [if_neg (show ¬ (false = true) by decide)]
    go_enter Tryz.func95, Tryz.ntmps95
    go_wp2_with (go_at_call 29; refine (hIC.out _ _ _ (by have := HNM.out; omega) (by have h_ := HC1.out; exact h_) HC2.out).mono ?_; rintro e w1 ⟨rfl, hb1⟩; have HB1 := am hb1; clear hb1)
    go_ret2
    exact ⟨by first | rfl | (rw [hck]; rfl), HB1.out⟩
   ·rw [if_pos (show (true = true) by decide)]
    go_enter Tryz.func95, Tryz.ntmps95
    go_wp2_with (go_at_call 29; refine (hIC.out _ _ _ (by have := HNM.out; omega) (by have h_ := HC1.out; exact h_) HC2.out).mono ?_; rintro e w1 ⟨rfl, hb1⟩; have HB1 := am hb1; clear hb1)
    go_ret2
    exact ⟨by first | rfl | (rw [hck]; rfl), HB1.out⟩
 ·have hd : decide ((st.length : Int) - (l.length : Int) < 0) = true := decide_eq_true (by omega)
  have hb : qAO st l = false := by unfold qAO; rw [decide_eq_false hle, Bool.false_and]
  rw [hb]
  clear h1 h2
  go_enter Tryz.func95, Tryz.ntmps95
  go_wp2
  go_ret2
  exact ⟨rfl, Below.refl _ _⟩
end RV
end Q
end
section
namespace Q
open Go.RowKit YA YB YC
attribute [local go_sem] max2_int min2_int max_two min_two max_three min_three max_four min_four
def qB0.f (l0 : List Int) (a1 : Int) : Option (List Int) := if ([] : List Int).length + l0.length < 17592186044416 then ((some (([] : List Int) ++ l0 : List Int)).bind fun aA => (if aA.length < 17592186044416 then (some (aA ++ [a1])) else (none))) else (none)
theorem qB0.calls (A0 : Option Addr) (c0 : Nat) (l0 : List Int) (a1 : Int) (r : List Int) (w : World) (hr0 : Kd.C (Kd.int .i64) w A0 l0.length l0) (hc0 : l0.length ≤ c0) (h : qB0.f l0 a1 = some r) :
  Calls Tryz.prog 94 #[.slice A0 l0.length c0, .int .i64 a1] w fun e w' => ∃ v0_ : Value, e = .returned (v0_) ∧ Kd.R (Kd.int .i64) 3 w' w.heap.size (fun _ => True) v0_ r ∧ Below w.heap.size w w' := by
 have aT := am hr0
 have aV := am hc0
 clear hr0 hc0
 have HB := am (Below.refl w.heap.size w)
 have H : (if ([] : List Int).length + l0.length < 17592186044416 then ((some (([] : List Int) ++ l0 : List Int)).bind fun aA => (if aA.length < 17592186044416 then (some (aA ++ [a1])) else (none))) else (none)) = some r := h
 clear h
 by_cases c3 : ([] : List Int).length + l0.length < 17592186044416
 ·rw [if_pos c3] at H
  have aJ := am c3
  clear c3
  obtain ⟨aA, aC⟩ : ∃ y_ : List Int, y_ = (([] : List Int) ++ l0) := ⟨_, rfl⟩
  replace H : (if aA.length < 17592186044416 then (some (aA ++ [a1])) else (none)) = some r := by first | (rw [aC]; with_reducible exact H) | (have H2_ := (Option.bind_some _ _).symm.trans H; rw [aC]; with_reducible exact H2_) | (have H2_ := (Option.bind_some _ _).symm.trans H; with_reducible exact H2_) | with_reducible exact H | (rw [aC]; exact H) | exact H
  have aH := am aC
  clear aC
  by_cases c4 : aA.length < 17592186044416
  ·rw [if_pos c4] at H
   have aK := am c4
   clear c4
   obtain ⟨aQ, aD⟩ : ∃ y_ : List Int, y_ = (aA ++ [a1]) := ⟨_, rfl⟩
   replace H : (some aQ) = some r := by first | (rw [aD]; with_reducible exact H) | (have H2_ := (Option.bind_some _ _).symm.trans H; rw [aD]; with_reducible exact H2_) | (have H2_ := (Option.bind_some _ _).symm.trans H; with_reducible exact H2_) | with_reducible exact H | (rw [aD]; exact H) | exact H
   have aI := am aD
   clear aD
   obtain rfl := Option.some.inj H
   go_enter Tryz.func94, Tryz.ntmps94
   go_wp2_with (first | ((with_reducible refine qC6 (b := .append) (xs := #[.tmp 6, .tmp 7]) rfl ?_); at_builtin; refine Kd.R_append_rows (Kd.int .i64) (w0 := w) w.heap.size rfl (.tmp 6) (.tmp 7) 22 3 (.int .i64 0) 8 rfl Tryz.underlying22 info3 rfl (by decide) (by omega) (.slice none 0 0) ([] : List Int) l0 _ _ _ (fun _ => True) (fun _ => False) rfl rfl ?aO ?aR (fun _ _ h => h) (fun _ h => h.elim) ?aF ?aB ?aS ?aL ?_; (case aR => repeat (first | exact aT.o | (with_reducible refine Kd.C_alloc ?_ _) | (with_reducible refine Kd.C_drewN ?_ _) | (with_reducible refine Kd.C_drew ?_))); (case aB => exact (by repeat (first | (with_reducible first | exact HB.o | apply qAi | apply qAg | apply qAz) | exact HB.o))); (case aF => exact (fun _ _ => trivial)); (case aO => exact ((Kd.R_nil _ _ _ _ (fun _ => True)))); (case aS => exact (qAm (by repeat (first | (with_reducible first | exact HB.o | apply qAi | apply qAg | apply qAz) | exact HB.o)))); (case aL => have := aJ.o; omega); intro aN w5 ho hb hg aM; rw [← aH.o] at ho; have n0_ := am (hb); have n1_ := am (ho); clear HB; have HB := n0_; have aE := n1_; clear n0_ n1_; clear ho hb hg aM) | ((with_reducible refine qC6 (b := .append) (xs := #[.tmp 9, .tmp 11]) rfl ?_); at_builtin; refine Kd.R_append (Kd.int .i64) (w0 := w) w.heap.size rfl (.tmp 9) (.tmp 11) 22 3 (.int .i64 0) 8 rfl Tryz.underlying22 info3 rfl (by decide) (by omega) aN aA a1 [.int .i64 a1] (fun _ => True) (fun _ => False) rfl rfl ?aP (fun _ hk => hk.elim) ?aF ?aO ?aB ?aS ?aL ?_; (case aP => exact rfl); (case aB => exact (by repeat (first | (with_reducible first | exact HB.o | apply qAi | apply qAg | apply qAz) | exact HB.o))); (case aF => exact (fun _ _ => trivial)); (case aO => exact (by (with_reducible repeat (first | apply Kd.R_alloc | apply Kd.R_drewN | apply Kd.R_drew)); exact aE.o)); (case aS => exact (qAm (by repeat (first | (with_reducible first | exact HB.o | apply qAi | apply qAg | apply qAz) | exact HB.o)))); (case aL => have := aK.o; omega); intro aU w6 ho hb hg aM; rw [← aI.o] at ho; have n0_ := am (hb); have n1_ := am (ho); clear HB; clear aE; have HB := n0_; have aG := n1_; clear n0_ n1_; clear ho hb hg aM))
   go_ret
   exact ⟨_, by first | rfl | (simp [errW_none, errW_some] <;> rfl) | (simp [*, errW_none, errW_some] <;> rfl), by (with_reducible repeat (first | apply Kd.R_alloc | apply Kd.R_drewN | apply Kd.R_drew)); exact aG.o, by repeat (first | (with_reducible first | exact HB.o | apply qAi | apply qAg | apply qAz) | exact HB.o)⟩
  ·rw [if_neg c4] at H
   exact absurd H (by simp)
 ·rw [if_neg c3] at H
  exact absurd H (by simp)
end Q
end
section
namespace Q
open Go.RowKit YA YB YC
namespace RV
theorem qBJ {W : World} (A : Option Addr) (c : Nat) (st : List Int) (t : Int) (hC : Kd.C (Kd.int .i64) W A st.length st) (hc : st.length ≤ c) (hl : st.length ≤ 2000000) :
  Calls Tryz.prog 94 #[.slice A st.length c, .int .i64 t] W fun e w' => ∃ A' c', e = .returned (.slice A' (st.length + 1) c') ∧ st.length + 1 ≤ c' ∧ Kd.F (Kd.int .i64) w' (fun k => W.heap.size ≤ k) A' (st.length + 1) (st ++ [t]) ∧ Below W.heap.size W w' := by
 refine (qB0.calls A c st t (st ++ [t]) W hC hc (by
   unfold qB0.f
   rw [if_pos (by simp; omega), Option.bind_some, if_pos (by simp; omega), List.nil_append])).mono ?_
 rintro e w' ⟨v, rfl, hR, hB⟩
 obtain ⟨A', c', rfl⟩ := Kd.R_slice hR
 have h2 := Kd.N_reads' (Kd.R_N hR)
 rw [List.length_append, List.length_singleton] at *
 exact ⟨A', c', rfl, h2.2.1, Kd.F_mono (Kd.R_F (Kd.R_bound hR)) (fun k hk => hk.2.1), hB⟩
theorem qBr {W : World} {p : Addr} {v : Value} (hc : W.cell? p = some v) (c : Addr) (u : Value) (hne : p.block ≠ c.block) : (W.setCell c u).cell? p = some v :=
 (World.cell?_setCell_other _ _ _ _ (fun e => hne (congrArg Addr.block e.symm))).trans hc
theorem C_one (V : World) (x : Int) : Kd.C (Kd.int .i64) (V.alloc (.cells #[.int .i64 x] 3)) (some ⟨V.heap.size, 0, none⟩) 1 [x] := by
 refine ⟨rfl, by decide, fun _ => ⟨⟨V.heap.size, 0, none⟩, rfl, fun j p hj => ?_⟩⟩
 rcases j with _ | j
 ·obtain rfl : x = p := by simpa using hj
  refine ⟨[.int .i64 x], rfl, rfl, fun i u hi => ?_⟩
  rcases i with _ | i
  ·obtain rfl := Option.some.inj hi
   exact (qAa (qAG V (.cells #[.int .i64 x] 3)) 0).trans rfl
  cases hi
 cases hj
def FI {α : Type} (H K : Nat) (okF : Nat → Prop) (d : Kd α) (W : World) (A : Option Addr) (n : Nat) (xs : List α) : Prop := Kd.F d W (fun k => (okF k ∧ k < H) ∨ H + K ≤ k) A n xs
section
variable {α : Type} {H K n : Nat} {okF : Nat → Prop} {d : Kd α} {W W1 : World} {A : Option Addr} {xs : List α}
theorem FI.of (h : Kd.F d W okF A n xs) (hb : Below W.heap.size W W1) : FI W.heap.size K okF d W1 A n xs := Kd.F_mono (Kd.F_below (Kd.F_bound h) hb) (fun k hk => .inl hk)
theorem FI.below (h : FI H K okF d W A n xs) (hb : Below W.heap.size W W1) : FI H K okF d W1 A n xs := Kd.F_below h hb
theorem FI.alloc (h : FI H K okF d W A n xs) (o : Obj) : FI H K okF d (W.alloc o) A n xs := Kd.F_alloc h o
theorem FI.drew (h : FI H K okF d W A n xs) : FI H K okF d W.drew A n xs := Kd.F_drew h
theorem FI.set (h : FI H K okF d W A n xs) {p : Addr} (h0 : H ≤ p.block) (h1 : p.block < H + K) (u : Value) : FI H K okF d (W.setCell p u) A n xs := Kd.F_far h (fun k hk e => by omega) u
theorem FI.new {m : Nat} (h : Kd.F d W (fun k => n ≤ k) A m xs) (hn : H + K ≤ n) : FI H K okF d W A m xs := Kd.F_mono h (fun k hk => .inr (by omega))
theorem FI.fin (h : FI H K okF d W A n xs) (hnew : ∀ k, H ≤ k → okF k) : Kd.F d W okF A n xs := Kd.F_mono h (fun k hk => by rcases hk with h | h; exact h.1; exact hnew k (by omega))
theorem FI.now (h : FI H K okF d W A n xs) : Kd.C d W A n xs := Kd.F_now h
theorem FI.nil : FI H K okF d W none ([] : List α).length [] := Kd.F_nil _ _ _
theorem FI.take {m : Nat} (h : FI H K okF d W A xs.length xs) (hm : m ≤ xs.length) : FI H K okF d W A (xs.take m).length (xs.take m) := Kd.F_take h hm
end
theorem lay7 {W : World} {g t : Nat} {a0 a1 a2 a3 a4 a5 a6 b0 b1 b2 b3 b4 b5 b6 : Value} (h : W.heap[g]? = some (.cells #[a0, a1, a2, a3, a4, a5, a6] t (0, 0))) :
  (((((((W.setCell ⟨g, 0, none⟩ b0).setCell ⟨g, 1, none⟩ b1).setCell ⟨g, 2, none⟩ b2).setCell ⟨g, 3, none⟩ b3).setCell ⟨g, 4, none⟩ b4).setCell ⟨g, 5, none⟩ b5).setCell ⟨g, 6, none⟩ b6).heap[g]? = some (.cells #[b0, b1, b2, b3, b4, b5, b6] t (0, 0)) := by
 refine qAD (cs := #[b0, b1, b2, b3, b4, b5, a6]) ?_ 6 _ rfl
 refine qAD (cs := #[b0, b1, b2, b3, b4, a5, a6]) ?_ 5 _ rfl
 refine qAD (cs := #[b0, b1, b2, b3, a4, a5, a6]) ?_ 4 _ rfl
 refine qAD (cs := #[b0, b1, b2, a3, a4, a5, a6]) ?_ 3 _ rfl
 refine qAD (cs := #[b0, b1, a2, a3, a4, a5, a6]) ?_ 2 _ rfl
 refine qAD (cs := #[b0, a1, a2, a3, a4, a5, a6]) ?_ 1 _ rfl
 exact qAD h 0 _ rfl
theorem qBA {W : World} {p : Addr} {v : Value} {g : Nat} {b0 b1 b2 b3 b4 b5 b6 : Value} (hc : W.cell? p = some v) (hne : p.block ≠ g) : (((((((W.setCell ⟨g, 0, none⟩ b0).setCell ⟨g, 1, none⟩ b1).setCell ⟨g, 2, none⟩ b2).setCell ⟨g, 3, none⟩ b3).setCell ⟨g, 4, none⟩ b4).setCell ⟨g, 5, none⟩ b5).setCell ⟨g, 6, none⟩ b6).cell? p = some v :=
 qBr (qBr (qBr (qBr (qBr (qBr (qBr hc _ _ hne) _ _ hne) _ _ hne) _ _ hne) _ _ hne) _ _ hne) _ _ hne
theorem below7 {W W1 : World} {g : Nat} (h : Below W.heap.size W W1) (hg : W.heap.size ≤ g) (b0 b1 b2 b3 b4 b5 b6 : Value) : Below W.heap.size W (((((((W1.setCell ⟨g, 0, none⟩ b0).setCell ⟨g, 1, none⟩ b1).setCell ⟨g, 2, none⟩ b2).setCell ⟨g, 3, none⟩ b3).setCell ⟨g, 4, none⟩ b4).setCell ⟨g, 5, none⟩ b5).setCell ⟨g, 6, none⟩ b6) := by
 refine qAf ?_ hg
 refine qAf ?_ hg
 refine qAf ?_ hg
 refine qAf ?_ hg
 refine qAf ?_ hg
 refine qAf ?_ hg
 refine qAf ?_ hg
 exact h
theorem qAL {W : World} {g : Nat} {o : Obj} (h : W.heap[g]? = some o) {p : Addr} (hne : g ≠ p.block) (u : Value) : (W.setCell p u).heap[g]? = some o := (Below.heap_setCell _ _ _ _ hne).trans h
abbrev z7 : Array Value := #[.bool false, .bool false, .bool false, .slice none 0 0, .slice none 0 0, .slice none 0 0, .slice none 0 0]
structure SB (b : Nat) (fv pv iv sv ov : Array Value) (W : World) : Prop where
 f : W.heap[b]? = some (.cells fv 27 (0, 0))
 p : W.heap[b + 1]? = some (.cells pv 30 (0, 0))
 i : W.heap[b + 1 + 1]? = some (.cells iv 50 (0, 0))
 s : W.heap[b + 1 + 1 + 1]? = some (.cells sv 117 (0, 0))
 r : W.heap[b + 1 + 1 + 1 + 1]? = some (.cells z7 138 (0, 0))
 z : W.heap[b + 1 + 1 + 1 + 1 + 1]? = some (.cells z7 138 (0, 0))
 o : W.heap[b + 1 + 1 + 1 + 1 + 1 + 1]? = some (.cells ov 138 (0, 0))
theorem SB.below {b : Nat} {fv pv iv sv ov : Array Value} {W W' : World} (h : SB b fv pv iv sv ov W) (hb : Below W.heap.size W W') : SB b fv pv iv sv ov W' :=
 ⟨qAe h.f hb, qAe h.p hb, qAe h.i hb, qAe h.s hb, qAe h.r hb, qAe h.z hb, qAe h.o hb⟩
def stW (W : World) (fv pv iv sv ov : Array Value) : World := ((((((W.alloc (.cells fv 27)).alloc (.cells pv 30)).alloc (.cells iv 50)).alloc (.cells sv 117)).alloc (.cells #[.bool false, .bool false, .bool false, .slice none 0 0, .slice none 0 0, .slice none 0 0, .slice none 0 0] 138)).alloc (.cells #[.bool false, .bool false, .bool false, .slice none 0 0, .slice none 0 0, .slice none 0 0, .slice none 0 0] 138)).alloc (.cells ov 138)
theorem qAT (W : World) (fv pv iv sv ov : Array Value) : (stW W fv pv iv sv ov).heap.size = W.heap.size + 7 := by simp [stW]
theorem qAI (W : World) (fv pv iv sv ov : Array Value) : Below W.heap.size W (stW W fv pv iv sv ov) :=
 (((((((Below.refl _ _).alloc (by simp) _).alloc (by simp) _).alloc (by simp; omega) _).alloc (by simp; omega) _).alloc (by simp; omega) _).alloc (by simp; omega) _).alloc (by simp; omega) _
theorem al_e {V : World} {o : Obj} (o' : Obj) {k : Nat} (h : V.heap[k]? = some o) : (V.alloc o').heap[k]? = some o := qAe h (qAi (Below.refl _ _) _)
theorem al_n (V : World) (o : Obj) {k : Nat} (hk : V.heap.size = k) : (V.alloc o).heap[k]? = some o := hk ▸ qAG V o
theorem qBg (W : World) (fv pv iv sv ov : Array Value) : SB W.heap.size fv pv iv sv ov (stW W fv pv iv sv ov) :=
 ⟨al_e _ (al_e _ (al_e _ (al_e _ (al_e _ (al_e _ (al_n _ _ (by simp))))))), al_e _ (al_e _ (al_e _ (al_e _ (al_e _ (al_n _ _ (by simp)))))), al_e _ (al_e _ (al_e _ (al_e _ (al_n _ _ (by simp))))), al_e _ (al_e _ (al_e _ (al_n _ _ (by simp)))), al_e _ (al_e _ (al_n _ _ (by simp))), al_e _ (al_n _ _ (by simp)), al_n _ _ (by simp)⟩
structure LB (b : Nat) (fv pv iv sv : Array Value) (W : World) : Prop where
 f : W.heap[b]? = some (.cells fv 27 (0, 0))
 p : W.heap[b + 1]? = some (.cells pv 30 (0, 0))
 i : W.heap[b + 1 + 1]? = some (.cells iv 50 (0, 0))
 s : W.heap[b + 1 + 1 + 1]? = some (.cells sv 117 (0, 0))
 r : W.heap[b + 1 + 1 + 1 + 1]? = some (.cells z7 138 (0, 0))
theorem LB.below {b : Nat} {fv pv iv sv : Array Value} {W W' : World} (h : LB b fv pv iv sv W) (hb : Below W.heap.size W W') : LB b fv pv iv sv W' :=
 ⟨qAe h.f hb, qAe h.p hb, qAe h.i hb, qAe h.s hb, qAe h.r hb⟩
def leW (W : World) (fv pv iv sv : Array Value) : World := ((((W.alloc (.cells fv 27)).alloc (.cells pv 30)).alloc (.cells iv 50)).alloc (.cells sv 117)).alloc (.cells #[.bool false, .bool false, .bool false, .slice none 0 0, .slice none 0 0, .slice none 0 0, .slice none 0 0] 138)
theorem qBT (W : World) (fv pv iv sv : Array Value) : (leW W fv pv iv sv).heap.size = W.heap.size + 5 := by simp [leW]
theorem qBB (W : World) (fv pv iv sv : Array Value) : Below W.heap.size W (leW W fv pv iv sv) :=
 (((((Below.refl _ _).alloc (by simp) _).alloc (by simp) _).alloc (by simp; omega) _).alloc (by simp; omega) _).alloc (by simp; omega) _
theorem qCw (W : World) (fv pv iv sv : Array Value) : LB W.heap.size fv pv iv sv (leW W fv pv iv sv) :=
 ⟨al_e _ (al_e _ (al_e _ (al_e _ (al_n _ _ (by simp))))), al_e _ (al_e _ (al_e _ (al_n _ _ (by simp)))), al_e _ (al_e _ (al_n _ _ (by simp))), al_e _ (al_n _ _ (by simp)), al_n _ _ (by simp)⟩
def qAN (W : World) (okF : Nat → Prop) (R : S138) (e : Ending) (w' : World) : Prop :=
 ∃ cs : List Value, e = .returned (.agg cs.toArray) ∧ Kd.FK k138 w' okF R cs ∧ Below W.heap.size W w'
theorem qAN.alloc {W : World} {okF : Nat → Prop} {R : S138} {e : Ending} {w' : World} (h : qAN W okF R e w') (o : Obj) : qAN W okF R e (w'.alloc o) := by
 obtain ⟨cs, he, hK, hb⟩ := h
 exact ⟨cs, he, Foot.step hK (fun k _ hlt => (qAi (Below.refl _ _) o).block k hlt), hb.alloc hb.size o⟩
theorem qAM {W w2 : World} {okF : Nat → Prop} {K g : Nat} (hK : 5 ≤ K) {R : S138} {D3 D4 D5 D6 : Option Addr} {n3 n4 n5 n6 d3 d4 d5 d6 : Nat} (hg : g = W.heap.size + 4)
  (e3 : n3 = R.f3.f0.length) (l3 : n3 ≤ d3) (g3 : FI W.heap.size K okF (Kd.int .i64) w2 D3 n3 R.f3.f0) (e4 : n4 = R.f3.f1.length) (l4 : n4 ≤ d4) (g4 : FI W.heap.size K okF k200 w2 D4 n4 R.f3.f1)
  (e5 : n5 = R.f4.f0.length) (l5 : n5 ≤ d5) (g5 : FI W.heap.size K okF (Kd.int .i64) w2 D5 n5 R.f4.f0) (e6 : n6 = R.f4.f1.length) (l6 : n6 ≤ d6) (g6 : FI W.heap.size K okF k200 w2 D6 n6 R.f4.f1)
  (hb : Below W.heap.size W w2) (hnew : ∀ k, W.heap.size ≤ k → okF k) :
  qAN W okF R (.returned (.agg #[.bool R.f0, .bool R.f1, .bool R.f2, .slice D3 n3 d3, .slice D4 n4 d4, .slice D5 n5 d5, .slice D6 n6 d6])) (((((((w2.setCell ⟨g, 0, none⟩ (.bool R.f0)).setCell ⟨g, 1, none⟩ (.bool R.f1)).setCell ⟨g, 2, none⟩ (.bool R.f2)).setCell ⟨g, 3, none⟩ (.slice D3 n3 d3)).setCell ⟨g, 4, none⟩ (.slice D4 n4 d4)).setCell ⟨g, 5, none⟩ (.slice D5 n5 d5)).setCell ⟨g, 6, none⟩ (.slice D6 n6 d6)) := by
 have hs : ∀ {α : Type} {d : Kd α} {A : Option Addr} {n : Nat} {xs : List α} {V : World} (j : Nat) (u : Value), FI W.heap.size K okF d V A n xs → FI W.heap.size K okF d (V.setCell ⟨g, j, none⟩ u) A n xs := fun j u h => FI.set h (show W.heap.size ≤ g by omega) (show g < W.heap.size + K by omega) u
 have h7 : ∀ {α : Type} {d : Kd α} {A : Option Addr} {n : Nat} {xs : List α}, FI W.heap.size K okF d w2 A n xs → Kd.F d (((((((w2.setCell ⟨g, 0, none⟩ (.bool R.f0)).setCell ⟨g, 1, none⟩ (.bool R.f1)).setCell ⟨g, 2, none⟩ (.bool R.f2)).setCell ⟨g, 3, none⟩ (.slice D3 n3 d3)).setCell ⟨g, 4, none⟩ (.slice D4 n4 d4)).setCell ⟨g, 5, none⟩ (.slice D5 n5 d5)).setCell ⟨g, 6, none⟩ (.slice D6 n6 d6)) okF A n xs := fun h => FI.fin (hs 6 _ (hs 5 _ (hs 4 _ (hs 3 _ (hs 2 _ (hs 1 _ (hs 0 _ h))))))) hnew
 subst e3 e4 e5 e6
 exact ⟨_, rfl, k138_mkF _ okF R l3 (h7 g3) l4 (h7 g4) l5 (h7 g5) l6 (h7 g6), below7 hb (by omega) _ _ _ _ _ _ _⟩
theorem qBK {W : World} {okF : Nat → Prop} (A : Option Addr) (c : Nat) (st : List Int) (hS : Kd.F (Kd.int .i64) W okF A st.length st) (hc : st.length ≤ c) (hl : st.length ≤ 2000000) :
  ∃ A' k' c', k' = st.dropLast.length ∧ k' ≤ c' ∧ Kd.F (Kd.int .i64) W okF A' k' st.dropLast ∧ ∀ W1, Below W.heap.size W W1 → Calls Tryz.prog 96 #[.slice A st.length c] W1 fun e w' => e = .returned (.tuple #[.slice A' k' c', .int .i64 (st.getLast?.getD 0), .bool st.getLast?.isSome]) ∧ Below W1.heap.size W1 w' := by
 rcases List.eq_nil_or_concat st with rfl | ⟨l, x, rfl⟩
 ·exact ⟨none, 0, 0, rfl, nl _, Kd.F_nil _ _ _, fun W1 _ => top_none A c⟩
 ·have e : (l.concat x).length = l.length + 1 := by simp
  have hd : (l.concat x).dropLast = (l.concat x).take l.length := by simp [List.concat_eq_append, List.dropLast_concat]
  have ht := Kd.F_take (m := l.length) hS (by omega)
  have e2 : ((l.concat x).take l.length).length = l.length := by simp
  rw [e2] at ht
  refine ⟨A, l.length, c, by rw [hd, e2], by omega, by rw [hd]; exact ht, fun W1 hb => ?_⟩
  rw [e]
  have h1 := top_some (W := W1) A c l.length (l.concat x) (by rw [← e]; exact Kd.F_now (Kd.F_below hS hb)) e (by omega) (by omega)
  have e3 : (l.concat x).getLast?.isSome = true := by simp [List.concat_eq_append]
  rw [e3]
  exact h1
def qAP (st l : List Int) : List Int := if qAO st l = true then st.take (st.length - l.length) else []
theorem takenR_len (st l : List Int) : (qAP st l).length ≤ st.length := by
 unfold qAP
 split
 ·rw [List.length_take]; omega
 simp
theorem qCz {W : World} {okF : Nat → Prop} (A : Option Addr) (c : Nat) (st l : List Int) (hS : Kd.F (Kd.int .i64) W okF A st.length st) (hc : st.length ≤ c) (hl : st.length ≤ 2000000) (hl2 : l.length ≤ 2000000) :
  ∃ A' k' c', k' = (qAP st l).length ∧ k' ≤ c' ∧ Kd.F (Kd.int .i64) W okF A' k' (qAP st l) ∧ ∀ W1 A2 c2, Below W.heap.size W W1 → Kd.C (Kd.int .i64) W1 A2 l.length l → l.length ≤ c2 → Calls Tryz.prog 95 #[.slice A st.length c, .slice A2 l.length c2] W1 fun e w' => e = .returned (.tuple #[.slice A' k' c', .bool (qAO st l)]) ∧ Below W1.heap.size W1 w' := by
 cases hb : qAO st l
 ·refine ⟨none, 0, 0, by unfold qAP; rw [if_neg (by rw [hb]; simp)]; rfl, nl _, by unfold qAP; rw [if_neg (by rw [hb]; simp)]; exact Kd.F_nil _ _ _, fun W1 A2 c2 hbl h2 hc2 => ?_⟩
  have h := taken_any A A2 c c2 st l (Kd.F_now (Kd.F_below hS hbl)) h2 hc hc2 (by omega) (by omega)
  rw [if_neg (by rw [hb]; simp)] at h
  exact h
 ·have ht := Kd.F_take (m := st.length - l.length) hS (by omega)
  have e2 : (st.take (st.length - l.length)).length = st.length - l.length := by rw [List.length_take]; omega
  rw [e2] at ht
  refine ⟨A, st.length - l.length, c, by unfold qAP; rw [if_pos hb]; exact e2.symm, by omega, by unfold qAP; rw [if_pos hb]; exact ht, fun W1 A2 c2 hbl h2 hc2 => ?_⟩
  have h := taken_any A A2 c c2 st l (Kd.F_now (Kd.F_below hS hbl)) h2 hc hc2 (by omega) (by omega)
  rw [if_pos hb] at h
  exact h
end RV
namespace RV
theorem w64 {m : Nat} (h : m ≤ 2000000) : wrap64 (m : Int) = (m : Int) := by unfold wrap64; omega
theorem step_12 {W : World} {okF : Nat → Prop} (n ty bb : Int) (A1 A2 A3 A4 A5 A6 A7 : Option Addr) (n1 c1 c2 n3 c3 n4 c4 c5 c6 c7 : Nat) (res : Int) {ls vs st : List Int} {tr : List S200}
  (hL : Kd.F (Kd.int .i64) W okF A2 ls.length ls) (hc2 : ls.length ≤ c2) (hV : Kd.F (Kd.int .i64) W okF A5 vs.length vs) (hc5 : vs.length ≤ c5) (hS : Kd.F (Kd.int .i64) W okF A6 st.length st) (hc6 : st.length ≤ c6) (hT : Kd.F k200 W okF A7 tr.length tr) (hc7 : tr.length ≤ c7) (hl : st.length ≤ 2000000) (hll : ls.length ≤ 2000000) (hlv : vs.length ≤ 2000000) (hlt : tr.length ≤ 2000000) (hnew : ∀ k, W.heap.size ≤ k → okF k) :
  Calls Tryz.prog 67 #[.agg #[.slice A1 n1 c1, .int .i64 res, .slice A2 ls.length c2, .slice A3 n3 c3], .agg #[.slice A4 n4 c4, .slice A5 vs.length c5], .agg #[.int .i64 12, .int .i64 n, .int .i64 ty, .int .u64 bb], .agg #[.slice A6 st.length c6, .slice A7 tr.length c7]] W (qAN W okF ⟨st.getLast?.isSome, true, false, ⟨st.dropLast, tr⟩, ⟨[], []⟩⟩) := by
 obtain ⟨A8, k8, c8, hk8, hc8, hF8, hT8⟩ := qBK A6 c6 st hS hc6 hl
 obtain ⟨kl, hkl⟩ := eX ls.length
 obtain ⟨kv, hkv⟩ := eX vs.length
 obtain ⟨ks, hks⟩ := eX st.length
 obtain ⟨kt, hkt⟩ := eX tr.length
 obtain ⟨WB, hWB⟩ := eX (stW W #[.slice A1 n1 c1, .int .i64 res, .slice A2 kl c2, .slice A3 n3 c3] #[.slice A4 n4 c4, .slice A5 kv c5] #[.int .i64 12, .int .i64 n, .int .i64 ty, .int .u64 bb] #[.slice A6 ks c6, .slice A7 kt c7] #[.bool true, .bool true, .bool false, .slice A6 ks c6, .slice A7 kt c7, .slice none 0 0, .slice none 0 0])
 have HX : qAc (SB W.heap.size #[.slice A1 n1 c1, .int .i64 res, .slice A2 kl c2, .slice A3 n3 c3] #[.slice A4 n4 c4, .slice A5 kv c5] #[.int .i64 12, .int .i64 n, .int .i64 ty, .int .u64 bb] #[.slice A6 ks c6, .slice A7 kt c7] #[.bool true, .bool true, .bool false, .slice A6 ks c6, .slice A7 kt c7, .slice none 0 0, .slice none 0 0] WB) := ⟨hWB ▸ qBg W _ _ _ _ _⟩
 have HB : qAc (Below W.heap.size W WB) := ⟨hWB ▸ qAI W _ _ _ _ _⟩
 have HSZ : qAc (W.heap.size + 7 ≤ WB.heap.size) := ⟨by rw [hWB, qAT]; exact nl _⟩
 have FS : qAc (FI W.heap.size 7 okF (Kd.int .i64) WB A6 ks st) := ⟨by rw [hks]; exact FI.of hS HB.out⟩
 have FT : qAc (FI W.heap.size 7 okF k200 WB A7 kt tr) := ⟨by rw [hkt]; exact FI.of hT HB.out⟩
 have HKL := am hkl
 have HKV := am hkv
 have HKS := am hks
 have HKT := am hkt
 have HC6 := am hc6
 have HC7 := am hc7
 have HLS := am hl
 have HNW := am hnew
 have HLT := am hlt
 rw [← hkl, ← hkv, ← hks, ← hkt]
 have FR : qAc (FI W.heap.size 7 okF (Kd.int .i64) WB A8 k8 st.dropLast) := ⟨by rw [hk8] at hF8 ⊢; exact FI.of hF8 HB.out⟩
 obtain ⟨b8, hb8⟩ := eX (st.getLast?.isSome)
 rw [← hb8, ← hks] at hT8
 rw [← hb8]
 have HTP := am hT8
 have HK8 := am hk8
 have HC8 := am hc8
 clear hT8 hb8 hk8 hc8 hF8
 clear hL hV hS hT hc2 hc5 hc6 hc7 hl hll hlv hlt hnew hkl hkv hks hkt
 go_enter Tryz.func67, Tryz.ntmps67
 go_upto_region 3 with fail
 simp only [stW] at hWB
 rw [← hWB]
 clear hWB
 have xi0 := (qAa HX.out.i 0).trans rfl
 have xi1 := (qAa HX.out.i 1).trans rfl
 have xi2 := (qAa HX.out.i 2).trans rfl
 have xi3 := (qAa HX.out.i 3).trans rfl
 have xs0 := (qAa HX.out.s 0).trans rfl
 have xs1 := (qAa HX.out.s 1).trans rfl
 go_wp2_with (go_at_call 96; (with_reducible refine (HTP.out _ HB.out).mono ?_); rintro e w1 ⟨rfl, hb1⟩; clear xi0 xi1 xi2 xi3 xs0 xs1; replace HX := am (HX.out.below hb1); replace HB := am (HB.out.trans (hb1.mono HB.out.size)); replace HSZ := am (Nat.le_trans HSZ.out hb1.size); replace FS := am (FI.below FS.out hb1); replace FT := am (FI.below FT.out hb1); replace FR := am (FI.below FR.out hb1); have xq0 := qAb HX.out.r 0; have xr0 := (qAa HX.out.r 0).trans rfl; have xq1 := qAb HX.out.r 1; have xr1 := (qAa HX.out.r 1).trans rfl; have xq2 := qAb HX.out.r 2; have xr2 := (qAa HX.out.r 2).trans rfl; have xq3 := qAb HX.out.r 3; have xr3 := (qAa HX.out.r 3).trans rfl; have xq4 := qAb HX.out.r 4; have xr4 := (qAa HX.out.r 4).trans rfl; have xq5 := qAb HX.out.r 5; have xr5 := (qAa HX.out.r 5).trans rfl; have xq6 := qAb HX.out.r 6; have xr6 := (qAa HX.out.r 6).trans rfl; have xo0 := (qAa HX.out.o 0).trans rfl; have xg0 := qAb HX.out.o 0; have xo1 := (qAa HX.out.o 1).trans rfl; have xo2 := (qAa HX.out.o 2).trans rfl; have xo3 := (qAa HX.out.o 3).trans rfl; have xg3 := qAb HX.out.o 3; have xo4 := (qAa HX.out.o 4).trans rfl; have xg4 := qAb HX.out.o 4; have xo5 := (qAa HX.out.o 5).trans rfl; have xo6 := (qAa HX.out.o 6).trans rfl; clear hb1)
 refine bodyPost_ret (results_cell_row rfl _ _ (W.heap.size + 1 + 1 + 1 + 1) 138 _ (0, 0) _ rfl (lay7 (by first | exact HX.out.r | exact qAL HX.out.r (by simp) _ | exact qAL (qAL HX.out.r (by simp) _) (by simp) _)) Tryz.underlying138 rfl (by kernel_rfl)) rfl ?_
 exact qAM (R := ⟨b8, true, false, ⟨st.dropLast, tr⟩, ⟨[], []⟩⟩) (K := 7) (by omega) (by omega) HK8.out HC8.out (by first | exact FR.out | exact FI.set FR.out (by first | omega | (dsimp only; omega)) (by first | omega | (dsimp only; omega)) _ | exact FI.set (FI.set FR.out (by first | omega | (dsimp only; omega)) (by first | omega | (dsimp only; omega)) _) (by first | omega | (dsimp only; omega)) (by first | omega | (dsimp only; omega)) _) HKT.out (by have := HC7.out; have := HKT.out; omega) (by first | exact FT.out | exact FI.set FT.out (by first | omega | (dsimp only; omega)) (by first | omega | (dsimp only; omega)) _ | exact FI.set (FI.set FT.out (by first | omega | (dsimp only; omega)) (by first | omega | (dsimp only; omega)) _) (by first | omega | (dsimp only; omega)) (by first | omega | (dsimp only; omega)) _) rfl (nl 0) FI.nil rfl (nl 0) FI.nil (by first | exact HB.out | exact qAf HB.out (by first | omega | (dsimp only; omega)) | exact qAf (qAf HB.out (by first | omega | (dsimp only; omega))) (by first | omega | (dsimp only; omega))) HNW.out
theorem step_17 {W : World} {okF : Nat → Prop} (n ty bb : Int) (A1 A2 A3 A4 A5 A6 A7 : Option Addr) (n1 c1 c2 n3 c3 n4 c4 c5 c6 c7 : Nat) (res : Int) {ls vs st : List Int} {tr : List S200}
  (hL : Kd.F (Kd.int .i64) W okF A2 ls.length ls) (hc2 : ls.length ≤ c2) (hV : Kd.F (Kd.int .i64) W okF A5 vs.length vs) (hc5 : vs.length ≤ c5) (hS : Kd.F (Kd.int .i64) W okF A6 st.length st) (hc6 : st.length ≤ c6) (hT : Kd.F k200 W okF A7 tr.length tr) (hc7 : tr.length ≤ c7) (hl : st.length ≤ 2000000) (hll : ls.length ≤ 2000000) (hlv : vs.length ≤ 2000000) (hlt : tr.length ≤ 2000000) (hnew : ∀ k, W.heap.size ≤ k → okF k) :
  Calls Tryz.prog 67 #[.agg #[.slice A1 n1 c1, .int .i64 res, .slice A2 ls.length c2, .slice A3 n3 c3], .agg #[.slice A4 n4 c4, .slice A5 vs.length c5], .agg #[.int .i64 17, .int .i64 n, .int .i64 ty, .int .u64 bb], .agg #[.slice A6 st.length c6, .slice A7 tr.length c7]] W (qAN W okF ⟨st.getLast?.isSome, true, false, ⟨st.dropLast, tr⟩, ⟨[], []⟩⟩) := by
 obtain ⟨A8, k8, c8, hk8, hc8, hF8, hT8⟩ := qBK A6 c6 st hS hc6 hl
 obtain ⟨kl, hkl⟩ := eX ls.length
 obtain ⟨kv, hkv⟩ := eX vs.length
 obtain ⟨ks, hks⟩ := eX st.length
 obtain ⟨kt, hkt⟩ := eX tr.length
 obtain ⟨WB, hWB⟩ := eX (stW W #[.slice A1 n1 c1, .int .i64 res, .slice A2 kl c2, .slice A3 n3 c3] #[.slice A4 n4 c4, .slice A5 kv c5] #[.int .i64 17, .int .i64 n, .int .i64 ty, .int .u64 bb] #[.slice A6 ks c6, .slice A7 kt c7] #[.bool true, .bool true, .bool false, .slice A6 ks c6, .slice A7 kt c7, .slice none 0 0, .slice none 0 0])
 have HX : qAc (SB W.heap.size #[.slice A1 n1 c1, .int .i64 res, .slice A2 kl c2, .slice A3 n3 c3] #[.slice A4 n4 c4, .slice A5 kv c5] #[.int .i64 17, .int .i64 n, .int .i64 ty, .int .u64 bb] #[.slice A6 ks c6, .slice A7 kt c7] #[.bool true, .bool true, .bool false, .slice A6 ks c6, .slice A7 kt c7, .slice none 0 0, .slice none 0 0] WB) := ⟨hWB ▸ qBg W _ _ _ _ _⟩
 have HB : qAc (Below W.heap.size W WB) := ⟨hWB ▸ qAI W _ _ _ _ _⟩
 have HSZ : qAc (W.heap.size + 7 ≤ WB.heap.size) := ⟨by rw [hWB, qAT]; exact nl _⟩
 have FS : qAc (FI W.heap.size 7 okF (Kd.int .i64) WB A6 ks st) := ⟨by rw [hks]; exact FI.of hS HB.out⟩
 have FT : qAc (FI W.heap.size 7 okF k200 WB A7 kt tr) := ⟨by rw [hkt]; exact FI.of hT HB.out⟩
 have HKL := am hkl
 have HKV := am hkv
 have HKS := am hks
 have HKT := am hkt
 have HC6 := am hc6
 have HC7 := am hc7
 have HLS := am hl
 have HNW := am hnew
 have HLT := am hlt
 rw [← hkl, ← hkv, ← hks, ← hkt]
 have FR : qAc (FI W.heap.size 7 okF (Kd.int .i64) WB A8 k8 st.dropLast) := ⟨by rw [hk8] at hF8 ⊢; exact FI.of hF8 HB.out⟩
 obtain ⟨b8, hb8⟩ := eX (st.getLast?.isSome)
 rw [← hb8, ← hks] at hT8
 rw [← hb8]
 have HTP := am hT8
 have HK8 := am hk8
 have HC8 := am hc8
 clear hT8 hb8 hk8 hc8 hF8
 clear hL hV hS hT hc2 hc5 hc6 hc7 hl hll hlv hlt hnew hkl hkv hks hkt
 go_enter Tryz.func67, Tryz.ntmps67
 go_upto_region 3 with fail
 simp only [stW] at hWB
 rw [← hWB]
 clear hWB
 have xi0 := (qAa HX.out.i 0).trans rfl
 have xi1 := (qAa HX.out.i 1).trans rfl
 have xi2 := (qAa HX.out.i 2).trans rfl
 have xi3 := (qAa HX.out.i 3).trans rfl
 have xs0 := (qAa HX.out.s 0).trans rfl
 have xs1 := (qAa HX.out.s 1).trans rfl
 go_wp2_with (go_at_call 96; (with_reducible refine (HTP.out _ HB.out).mono ?_); rintro e w1 ⟨rfl, hb1⟩; clear xi0 xi1 xi2 xi3 xs0 xs1; replace HX := am (HX.out.below hb1); replace HB := am (HB.out.trans (hb1.mono HB.out.size)); replace HSZ := am (Nat.le_trans HSZ.out hb1.size); replace FS := am (FI.below FS.out hb1); replace FT := am (FI.below FT.out hb1); replace FR := am (FI.below FR.out hb1); have xq0 := qAb HX.out.r 0; have xr0 := (qAa HX.out.r 0).trans rfl; have xq1 := qAb HX.out.r 1; have xr1 := (qAa HX.out.r 1).trans rfl; have xq2 := qAb HX.out.r 2; have xr2 := (qAa HX.out.r 2).trans rfl; have xq3 := qAb HX.out.r 3; have xr3 := (qAa HX.out.r 3).trans rfl; have xq4 := qAb HX.out.r 4; have xr4 := (qAa HX.out.r 4).trans rfl; have xq5 := qAb HX.out.r 5; have xr5 := (qAa HX.out.r 5).trans rfl; have xq6 := qAb HX.out.r 6; have xr6 := (qAa HX.out.r 6).trans rfl; have xo0 := (qAa HX.out.o 0).trans rfl; have xg0 := qAb HX.out.o 0; have xo1 := (qAa HX.out.o 1).trans rfl; have xo2 := (qAa HX.out.o 2).trans rfl; have xo3 := (qAa HX.out.o 3).trans rfl; have xg3 := qAb HX.out.o 3; have xo4 := (qAa HX.out.o 4).trans rfl; have xg4 := qAb HX.out.o 4; have xo5 := (qAa HX.out.o 5).trans rfl; have xo6 := (qAa HX.out.o 6).trans rfl; clear hb1)
 refine bodyPost_ret (results_cell_row rfl _ _ (W.heap.size + 1 + 1 + 1 + 1) 138 _ (0, 0) _ rfl (lay7 (by first | exact HX.out.r | exact qAL HX.out.r (by simp) _ | exact qAL (qAL HX.out.r (by simp) _) (by simp) _)) Tryz.underlying138 rfl (by kernel_rfl)) rfl ?_
 exact qAM (R := ⟨b8, true, false, ⟨st.dropLast, tr⟩, ⟨[], []⟩⟩) (K := 7) (by omega) (by omega) HK8.out HC8.out (by first | exact FR.out | exact FI.set FR.out (by first | omega | (dsimp only; omega)) (by first | omega | (dsimp only; omega)) _ | exact FI.set (FI.set FR.out (by first | omega | (dsimp only; omega)) (by first | omega | (dsimp only; omega)) _) (by first | omega | (dsimp only; omega)) (by first | omega | (dsimp only; omega)) _) HKT.out (by have := HC7.out; have := HKT.out; omega) (by first | exact FT.out | exact FI.set FT.out (by first | omega | (dsimp only; omega)) (by first | omega | (dsimp only; omega)) _ | exact FI.set (FI.set FT.out (by first | omega | (dsimp only; omega)) (by first | omega | (dsimp only; omega)) _) (by first | omega | (dsimp only; omega)) (by first | omega | (dsimp only; omega)) _) rfl (nl 0) FI.nil rfl (nl 0) FI.nil (by first | exact HB.out | exact qAf HB.out (by first | omega | (dsimp only; omega)) | exact qAf (qAf HB.out (by first | omega | (dsimp only; omega))) (by first | omega | (dsimp only; omega))) HNW.out
theorem step_1 {W : World} {okF : Nat → Prop} (n ty bb : Int) (A1 A2 A3 A4 A5 A6 A7 : Option Addr) (n1 c1 c2 n3 c3 n4 c4 c5 c6 c7 : Nat) (res : Int) {ls vs st : List Int} {tr : List S200}
  (hL : Kd.F (Kd.int .i64) W okF A2 ls.length ls) (hc2 : ls.length ≤ c2) (hV : Kd.F (Kd.int .i64) W okF A5 vs.length vs) (hc5 : vs.length ≤ c5) (hS : Kd.F (Kd.int .i64) W okF A6 st.length st) (hc6 : st.length ≤ c6) (hT : Kd.F k200 W okF A7 tr.length tr) (hc7 : tr.length ≤ c7) (hl : st.length ≤ 2000000) (hll : ls.length ≤ 2000000) (hlv : vs.length ≤ 2000000) (hlt : tr.length ≤ 2000000) (hnew : ∀ k, W.heap.size ≤ k → okF k) :
  Calls Tryz.prog 67 #[.agg #[.slice A1 n1 c1, .int .i64 res, .slice A2 ls.length c2, .slice A3 n3 c3], .agg #[.slice A4 n4 c4, .slice A5 vs.length c5], .agg #[.int .i64 1, .int .i64 n, .int .i64 ty, .int .u64 bb], .agg #[.slice A6 st.length c6, .slice A7 tr.length c7]] W (qAN W okF ⟨true, true, false, ⟨st ++ [ty], tr⟩, ⟨[], []⟩⟩) := by
 obtain ⟨kl, hkl⟩ := eX ls.length
 obtain ⟨kv, hkv⟩ := eX vs.length
 obtain ⟨ks, hks⟩ := eX st.length
 obtain ⟨kt, hkt⟩ := eX tr.length
 obtain ⟨WB, hWB⟩ := eX (stW W #[.slice A1 n1 c1, .int .i64 res, .slice A2 kl c2, .slice A3 n3 c3] #[.slice A4 n4 c4, .slice A5 kv c5] #[.int .i64 1, .int .i64 n, .int .i64 ty, .int .u64 bb] #[.slice A6 ks c6, .slice A7 kt c7] #[.bool true, .bool true, .bool false, .slice A6 ks c6, .slice A7 kt c7, .slice none 0 0, .slice none 0 0])
 have HX : qAc (SB W.heap.size #[.slice A1 n1 c1, .int .i64 res, .slice A2 kl c2, .slice A3 n3 c3] #[.slice A4 n4 c4, .slice A5 kv c5] #[.int .i64 1, .int .i64 n, .int .i64 ty, .int .u64 bb] #[.slice A6 ks c6, .slice A7 kt c7] #[.bool true, .bool true, .bool false, .slice A6 ks c6, .slice A7 kt c7, .slice none 0 0, .slice none 0 0] WB) := ⟨hWB ▸ qBg W _ _ _ _ _⟩
 have HB : qAc (Below W.heap.size W WB) := ⟨hWB ▸ qAI W _ _ _ _ _⟩
 have HSZ : qAc (W.heap.size + 7 ≤ WB.heap.size) := ⟨by rw [hWB, qAT]; exact nl _⟩
 have FS : qAc (FI W.heap.size 7 okF (Kd.int .i64) WB A6 ks st) := ⟨by rw [hks]; exact FI.of hS HB.out⟩
 have FT : qAc (FI W.heap.size 7 okF k200 WB A7 kt tr) := ⟨by rw [hkt]; exact FI.of hT HB.out⟩
 have HKL := am hkl
 have HKV := am hkv
 have HKS := am hks
 have HKT := am hkt
 have HC6 := am hc6
 have HC7 := am hc7
 have HLS := am hl
 have HNW := am hnew
 have HLT := am hlt
 rw [← hkl, ← hkv, ← hks, ← hkt]
 have HPT : qAc (∀ W1, FI W.heap.size 7 okF (Kd.int .i64) W1 A6 ks st → Calls Tryz.prog 94 #[.slice A6 ks c6, .int .i64 ty] W1 fun e w' => ∃ A' c', e = .returned (.slice A' (ks + 1) c') ∧ ks + 1 ≤ c' ∧ Kd.F (Kd.int .i64) w' (fun k => W1.heap.size ≤ k) A' (ks + 1) (st ++ [ty]) ∧ Below W1.heap.size W1 w') := ⟨fun W1 h => by
   have h_ := hks
   rw [h_] at h ⊢
   exact qBJ A6 c6 st ty (FI.now h) (by omega) (by first | omega | (simp; omega))⟩
 clear hL hV hS hT hc2 hc5 hc6 hc7 hl hll hlv hlt hnew hkl hkv hks hkt
 go_enter Tryz.func67, Tryz.ntmps67
 go_upto_region 3 with fail
 simp only [stW] at hWB
 rw [← hWB]
 clear hWB
 have xi0 := (qAa HX.out.i 0).trans rfl
 have xi1 := (qAa HX.out.i 1).trans rfl
 have xi2 := (qAa HX.out.i 2).trans rfl
 have xi3 := (qAa HX.out.i 3).trans rfl
 have xs0 := (qAa HX.out.s 0).trans rfl
 have xs1 := (qAa HX.out.s 1).trans rfl
 go_wp2_with (go_at_call 94; (with_reducible refine (HPT.out _ FS.out).mono ?_); rintro e w1 ⟨A9, c9, rfl, hc9, hF9, hb1⟩; have FN := am (FI.new (okF := okF) hF9 HSZ.out); have HC9 := am hc9; clear hF9 hc9; clear xi0 xi1 xi2 xi3 xs0 xs1; replace HX := am (HX.out.below hb1); replace HB := am (HB.out.trans (hb1.mono HB.out.size)); replace HSZ := am (Nat.le_trans HSZ.out hb1.size); replace FS := am (FI.below FS.out hb1); replace FT := am (FI.below FT.out hb1); have xq0 := qAb HX.out.r 0; have xr0 := (qAa HX.out.r 0).trans rfl; have xq1 := qAb HX.out.r 1; have xr1 := (qAa HX.out.r 1).trans rfl; have xq2 := qAb HX.out.r 2; have xr2 := (qAa HX.out.r 2).trans rfl; have xq3 := qAb HX.out.r 3; have xr3 := (qAa HX.out.r 3).trans rfl; have xq4 := qAb HX.out.r 4; have xr4 := (qAa HX.out.r 4).trans rfl; have xq5 := qAb HX.out.r 5; have xr5 := (qAa HX.out.r 5).trans rfl; have xq6 := qAb HX.out.r 6; have xr6 := (qAa HX.out.r 6).trans rfl; have xo0 := (qAa HX.out.o 0).trans rfl; have xg0 := qAb HX.out.o 0; have xo1 := (qAa HX.out.o 1).trans rfl; have xo2 := (qAa HX.out.o 2).trans rfl; have xo3 := (qAa HX.out.o 3).trans rfl; have xg3 := qAb HX.out.o 3; have xo4 := (qAa HX.out.o 4).trans rfl; have xg4 := qAb HX.out.o 4; have xo5 := (qAa HX.out.o 5).trans rfl; have xo6 := (qAa HX.out.o 6).trans rfl; clear hb1)
 refine bodyPost_ret (results_cell_row rfl _ _ (W.heap.size + 1 + 1 + 1 + 1) 138 _ (0, 0) _ rfl (lay7 (by first | exact HX.out.r | exact qAL HX.out.r (by simp) _ | exact qAL (qAL HX.out.r (by simp) _) (by simp) _)) Tryz.underlying138 rfl (by kernel_rfl)) rfl ?_
 exact qAM (R := ⟨true, true, false, ⟨st ++ [ty], tr⟩, ⟨[], []⟩⟩) (K := 7) (by omega) (by omega) (by rw [HKS.out]; simp) HC9.out (by first | exact FN.out | exact FI.set FN.out (by first | omega | (dsimp only; omega)) (by first | omega | (dsimp only; omega)) _ | exact FI.set (FI.set FN.out (by first | omega | (dsimp only; omega)) (by first | omega | (dsimp only; omega)) _) (by first | omega | (dsimp only; omega)) (by first | omega | (dsimp only; omega)) _) HKT.out (by have := HC7.out; have := HKT.out; omega) (by first | exact FT.out | exact FI.set FT.out (by first | omega | (dsimp only; omega)) (by first | omega | (dsimp only; omega)) _ | exact FI.set (FI.set FT.out (by first | omega | (dsimp only; omega)) (by first | omega | (dsimp only; omega)) _) (by first | omega | (dsimp only; omega)) (by first | omega | (dsimp only; omega)) _) rfl (nl 0) FI.nil rfl (nl 0) FI.nil (by first | exact HB.out | exact qAf HB.out (by first | omega | (dsimp only; omega)) | exact qAf (qAf HB.out (by first | omega | (dsimp only; omega))) (by first | omega | (dsimp only; omega))) HNW.out
theorem step_14 {W : World} {okF : Nat → Prop} (n ty bb : Int) (A1 A2 A3 A4 A5 A6 A7 : Option Addr) (n1 c1 c2 n3 c3 n4 c4 c5 c6 c7 : Nat) (res : Int) {ls vs st : List Int} {tr : List S200}
  (hL : Kd.F (Kd.int .i64) W okF A2 ls.length ls) (hc2 : ls.length ≤ c2) (hV : Kd.F (Kd.int .i64) W okF A5 vs.length vs) (hc5 : vs.length ≤ c5) (hS : Kd.F (Kd.int .i64) W okF A6 st.length st) (hc6 : st.length ≤ c6) (hT : Kd.F k200 W okF A7 tr.length tr) (hc7 : tr.length ≤ c7) (hl : st.length ≤ 2000000) (hll : ls.length ≤ 2000000) (hlv : vs.length ≤ 2000000) (hlt : tr.length ≤ 2000000) (hnew : ∀ k, W.heap.size ≤ k → okF k) :
  Calls Tryz.prog 67 #[.agg #[.slice A1 n1 c1, .int .i64 res, .slice A2 ls.length c2, .slice A3 n3 c3], .agg #[.slice A4 n4 c4, .slice A5 vs.length c5], .agg #[.int .i64 14, .int .i64 n, .int .i64 ty, .int .u64 bb], .agg #[.slice A6 st.length c6, .slice A7 tr.length c7]] W (qAN W okF ⟨true, true, false, ⟨st ++ [1], tr⟩, ⟨[], []⟩⟩) := by
 obtain ⟨kl, hkl⟩ := eX ls.length
 obtain ⟨kv, hkv⟩ := eX vs.length
 obtain ⟨ks, hks⟩ := eX st.length
 obtain ⟨kt, hkt⟩ := eX tr.length
 obtain ⟨WB, hWB⟩ := eX (stW W #[.slice A1 n1 c1, .int .i64 res, .slice A2 kl c2, .slice A3 n3 c3] #[.slice A4 n4 c4, .slice A5 kv c5] #[.int .i64 14, .int .i64 n, .int .i64 ty, .int .u64 bb] #[.slice A6 ks c6, .slice A7 kt c7] #[.bool true, .bool true, .bool false, .slice A6 ks c6, .slice A7 kt c7, .slice none 0 0, .slice none 0 0])
 have HX : qAc (SB W.heap.size #[.slice A1 n1 c1, .int .i64 res, .slice A2 kl c2, .slice A3 n3 c3] #[.slice A4 n4 c4, .slice A5 kv c5] #[.int .i64 14, .int .i64 n, .int .i64 ty, .int .u64 bb] #[.slice A6 ks c6, .slice A7 kt c7] #[.bool true, .bool true, .bool false, .slice A6 ks c6, .slice A7 kt c7, .slice none 0 0, .slice none 0 0] WB) := ⟨hWB ▸ qBg W _ _ _ _ _⟩
 have HB : qAc (Below W.heap.size W WB) := ⟨hWB ▸ qAI W _ _ _ _ _⟩
 have HSZ : qAc (W.heap.size + 7 ≤ WB.heap.size) := ⟨by rw [hWB, qAT]; exact nl _⟩
 have FS : qAc (FI W.heap.size 7 okF (Kd.int .i64) WB A6 ks st) := ⟨by rw [hks]; exact FI.of hS HB.out⟩
 have FT : qAc (FI W.heap.size 7 okF k200 WB A7 kt tr) := ⟨by rw [hkt]; exact FI.of hT HB.out⟩
 have HKL := am hkl
 have HKV := am hkv
 have HKS := am hks
 have HKT := am hkt
 have HC6 := am hc6
 have HC7 := am hc7
 have HLS := am hl
 have HNW := am hnew
 have HLT := am hlt
 rw [← hkl, ← hkv, ← hks, ← hkt]
 have HPT : qAc (∀ W1, FI W.heap.size 7 okF (Kd.int .i64) W1 A6 ks st → Calls Tryz.prog 94 #[.slice A6 ks c6, .int .i64 1] W1 fun e w' => ∃ A' c', e = .returned (.slice A' (ks + 1) c') ∧ ks + 1 ≤ c' ∧ Kd.F (Kd.int .i64) w' (fun k => W1.heap.size ≤ k) A' (ks + 1) (st ++ [1]) ∧ Below W1.heap.size W1 w') := ⟨fun W1 h => by
   have h_ := hks
   rw [h_] at h ⊢
   exact qBJ A6 c6 st 1 (FI.now h) (by omega) (by first | omega | (simp; omega))⟩
 clear hL hV hS hT hc2 hc5 hc6 hc7 hl hll hlv hlt hnew hkl hkv hks hkt
 go_enter Tryz.func67, Tryz.ntmps67
 go_upto_region 3 with fail
 simp only [stW] at hWB
 rw [← hWB]
 clear hWB
 have xi0 := (qAa HX.out.i 0).trans rfl
 have xi1 := (qAa HX.out.i 1).trans rfl
 have xi2 := (qAa HX.out.i 2).trans rfl
 have xi3 := (qAa HX.out.i 3).trans rfl
 have xs0 := (qAa HX.out.s 0).trans rfl
 have xs1 := (qAa HX.out.s 1).trans rfl
 go_wp2_with (go_at_call 94; (with_reducible refine (HPT.out _ FS.out).mono ?_); rintro e w1 ⟨A9, c9, rfl, hc9, hF9, hb1⟩; have FN := am (FI.new (okF := okF) hF9 HSZ.out); have HC9 := am hc9; clear hF9 hc9; clear xi0 xi1 xi2 xi3 xs0 xs1; replace HX := am (HX.out.below hb1); replace HB := am (HB.out.trans (hb1.mono HB.out.size)); replace HSZ := am (Nat.le_trans HSZ.out hb1.size); replace FS := am (FI.below FS.out hb1); replace FT := am (FI.below FT.out hb1); have xq0 := qAb HX.out.r 0; have xr0 := (qAa HX.out.r 0).trans rfl; have xq1 := qAb HX.out.r 1; have xr1 := (qAa HX.out.r 1).trans rfl; have xq2 := qAb HX.out.r 2; have xr2 := (qAa HX.out.r 2).trans rfl; have xq3 := qAb HX.out.r 3; have xr3 := (qAa HX.out.r 3).trans rfl; have xq4 := qAb HX.out.r 4; have xr4 := (qAa HX.out.r 4).trans rfl; have xq5 := qAb HX.out.r 5; have xr5 := (qAa HX.out.r 5).trans rfl; have xq6 := qAb HX.out.r 6; have xr6 := (qAa HX.out.r 6).trans rfl; have xo0 := (qAa HX.out.o 0).trans rfl; have xg0 := qAb HX.out.o 0; have xo1 := (qAa HX.out.o 1).trans rfl; have xo2 := (qAa HX.out.o 2).trans rfl; have xo3 := (qAa HX.out.o 3).trans rfl; have xg3 := qAb HX.out.o 3; have xo4 := (qAa HX.out.o 4).trans rfl; have xg4 := qAb HX.out.o 4; have xo5 := (qAa HX.out.o 5).trans rfl; have xo6 := (qAa HX.out.o 6).trans rfl; clear hb1)
 refine bodyPost_ret (results_cell_row rfl _ _ (W.heap.size + 1 + 1 + 1 + 1) 138 _ (0, 0) _ rfl (lay7 (by first | exact HX.out.r | exact qAL HX.out.r (by simp) _ | exact qAL (qAL HX.out.r (by simp) _) (by simp) _)) Tryz.underlying138 rfl (by kernel_rfl)) rfl ?_
 exact qAM (R := ⟨true, true, false, ⟨st ++ [1], tr⟩, ⟨[], []⟩⟩) (K := 7) (by omega) (by omega) (by rw [HKS.out]; simp) HC9.out (by first | exact FN.out | exact FI.set FN.out (by first | omega | (dsimp only; omega)) (by first | omega | (dsimp only; omega)) _ | exact FI.set (FI.set FN.out (by first | omega | (dsimp only; omega)) (by first | omega | (dsimp only; omega)) _) (by first | omega | (dsimp only; omega)) (by first | omega | (dsimp only; omega)) _) HKT.out (by have := HC7.out; have := HKT.out; omega) (by first | exact FT.out | exact FI.set FT.out (by first | omega | (dsimp only; omega)) (by first | omega | (dsimp only; omega)) _ | exact FI.set (FI.set FT.out (by first | omega | (dsimp only; omega)) (by first | omega | (dsimp only; omega)) _) (by first | omega | (dsimp only; omega)) (by first | omega | (dsimp only; omega)) _) rfl (nl 0) FI.nil rfl (nl 0) FI.nil (by first | exact HB.out | exact qAf HB.out (by first | omega | (dsimp only; omega)) | exact qAf (qAf HB.out (by first | omega | (dsimp only; omega))) (by first | omega | (dsimp only; omega))) HNW.out
theorem step_16_bad {W : World} {okF : Nat → Prop} (n ty bb : Int) (A1 A2 A3 A4 A5 A6 A7 : Option Addr) (n1 c1 c2 n3 c3 n4 c4 c5 c6 c7 : Nat) (res : Int) {ls vs st : List Int} {tr : List S200}
  (hL : Kd.F (Kd.int .i64) W okF A2 ls.length ls) (hc2 : ls.length ≤ c2) (hV : Kd.F (Kd.int .i64) W okF A5 vs.length vs) (hc5 : vs.length ≤ c5) (hS : Kd.F (Kd.int .i64) W okF A6 st.length st) (hc6 : st.length ≤ c6) (hT : Kd.F k200 W okF A7 tr.length tr) (hc7 : tr.length ≤ c7) (hl : st.length ≤ 2000000) (hll : ls.length ≤ 2000000) (hlv : vs.length ≤ 2000000) (hlt : tr.length ≤ 2000000) (hnew : ∀ k, W.heap.size ≤ k → okF k) (he : tr = []):
  Calls Tryz.prog 67 #[.agg #[.slice A1 n1 c1, .int .i64 res, .slice A2 ls.length c2, .slice A3 n3 c3], .agg #[.slice A4 n4 c4, .slice A5 vs.length c5], .agg #[.int .i64 16, .int .i64 n, .int .i64 ty, .int .u64 bb], .agg #[.slice A6 st.length c6, .slice A7 tr.length c7]] W (qAN W okF ⟨false, false, false, ⟨[], []⟩, ⟨[], []⟩⟩) := by
 obtain ⟨kl, hkl⟩ := eX ls.length
 obtain ⟨kv, hkv⟩ := eX vs.length
 obtain ⟨ks, hks⟩ := eX st.length
 obtain ⟨kt, hkt⟩ := eX tr.length
 obtain ⟨WB, hWB⟩ := eX (stW W #[.slice A1 n1 c1, .int .i64 res, .slice A2 kl c2, .slice A3 n3 c3] #[.slice A4 n4 c4, .slice A5 kv c5] #[.int .i64 16, .int .i64 n, .int .i64 ty, .int .u64 bb] #[.slice A6 ks c6, .slice A7 kt c7] #[.bool true, .bool true, .bool false, .slice A6 ks c6, .slice A7 kt c7, .slice none 0 0, .slice none 0 0])
 have HX : qAc (SB W.heap.size #[.slice A1 n1 c1, .int .i64 res, .slice A2 kl c2, .slice A3 n3 c3] #[.slice A4 n4 c4, .slice A5 kv c5] #[.int .i64 16, .int .i64 n, .int .i64 ty, .int .u64 bb] #[.slice A6 ks c6, .slice A7 kt c7] #[.bool true, .bool true, .bool false, .slice A6 ks c6, .slice A7 kt c7, .slice none 0 0, .slice none 0 0] WB) := ⟨hWB ▸ qBg W _ _ _ _ _⟩
 have HB : qAc (Below W.heap.size W WB) := ⟨hWB ▸ qAI W _ _ _ _ _⟩
 have HSZ : qAc (W.heap.size + 7 ≤ WB.heap.size) := ⟨by rw [hWB, qAT]; exact nl _⟩
 have FS : qAc (FI W.heap.size 7 okF (Kd.int .i64) WB A6 ks st) := ⟨by rw [hks]; exact FI.of hS HB.out⟩
 have FT : qAc (FI W.heap.size 7 okF k200 WB A7 kt tr) := ⟨by rw [hkt]; exact FI.of hT HB.out⟩
 have HKL := am hkl
 have HKV := am hkv
 have HKS := am hks
 have HKT := am hkt
 have HC6 := am hc6
 have HC7 := am hc7
 have HLS := am hl
 have HNW := am hnew
 have HLT := am hlt
 rw [← hkl, ← hkv, ← hks, ← hkt]
 obtain rfl : kt = 0 := by rw [hkt, he]; rfl
 clear he
 clear hL hV hS hT hc2 hc5 hc6 hc7 hl hll hlv hlt hnew hkl hkv hks hkt
 go_enter Tryz.func67, Tryz.ntmps67
 go_upto_region 3 with fail
 simp only [stW] at hWB
 rw [← hWB]
 clear hWB
 have xi0 := (qAa HX.out.i 0).trans rfl
 have xi1 := (qAa HX.out.i 1).trans rfl
 have xi2 := (qAa HX.out.i 2).trans rfl
 have xi3 := (qAa HX.out.i 3).trans rfl
 have xs0 := (qAa HX.out.s 0).trans rfl
 have xs1 := (qAa HX.out.s 1).trans rfl
 have xq0 := qAb HX.out.r 0
 have xr0 := (qAa HX.out.r 0).trans rfl
 have xq1 := qAb HX.out.r 1
 have xr1 := (qAa HX.out.r 1).trans rfl
 have xq2 := qAb HX.out.r 2
 have xr2 := (qAa HX.out.r 2).trans rfl
 have xq3 := qAb HX.out.r 3
 have xr3 := (qAa HX.out.r 3).trans rfl
 have xq4 := qAb HX.out.r 4
 have xr4 := (qAa HX.out.r 4).trans rfl
 have xq5 := qAb HX.out.r 5
 have xr5 := (qAa HX.out.r 5).trans rfl
 have xq6 := qAb HX.out.r 6
 have xr6 := (qAa HX.out.r 6).trans rfl
 have xz0 := (qAa HX.out.z 0).trans rfl
 have xz1 := (qAa HX.out.z 1).trans rfl
 have xz2 := (qAa HX.out.z 2).trans rfl
 have xz3 := (qAa HX.out.z 3).trans rfl
 have xz4 := (qAa HX.out.z 4).trans rfl
 have xz5 := (qAa HX.out.z 5).trans rfl
 have xz6 := (qAa HX.out.z 6).trans rfl
 go_wp2
 refine bodyPost_ret (results_cell_row rfl _ _ (W.heap.size + 1 + 1 + 1 + 1) 138 _ (0, 0) _ rfl (lay7 (by first | exact HX.out.r | exact qAL HX.out.r (by simp) _ | exact qAL (qAL HX.out.r (by simp) _) (by simp) _)) Tryz.underlying138 rfl (by kernel_rfl)) rfl ?_
 exact qAM (R := ⟨false, false, false, ⟨[], []⟩, ⟨[], []⟩⟩) (K := 7) (by omega) (by omega) rfl (nl 0) FI.nil rfl (nl 0) FI.nil rfl (nl 0) FI.nil rfl (nl 0) FI.nil (by first | exact HB.out | exact qAf HB.out (by first | omega | (dsimp only; omega)) | exact qAf (qAf HB.out (by first | omega | (dsimp only; omega))) (by first | omega | (dsimp only; omega))) HNW.out
theorem step_16 {W : World} {okF : Nat → Prop} (n ty bb : Int) (A1 A2 A3 A4 A5 A6 A7 : Option Addr) (n1 c1 c2 n3 c3 n4 c4 c5 c6 c7 : Nat) (res : Int) {ls vs st : List Int} {tr : List S200}
  (hL : Kd.F (Kd.int .i64) W okF A2 ls.length ls) (hc2 : ls.length ≤ c2) (hV : Kd.F (Kd.int .i64) W okF A5 vs.length vs) (hc5 : vs.length ≤ c5) (hS : Kd.F (Kd.int .i64) W okF A6 st.length st) (hc6 : st.length ≤ c6) (hT : Kd.F k200 W okF A7 tr.length tr) (hc7 : tr.length ≤ c7) (hl : st.length ≤ 2000000) (hll : ls.length ≤ 2000000) (hlv : vs.length ≤ 2000000) (hlt : tr.length ≤ 2000000) (hnew : ∀ k, W.heap.size ≤ k → okF k) (he : tr ≠ []):
  Calls Tryz.prog 67 #[.agg #[.slice A1 n1 c1, .int .i64 res, .slice A2 ls.length c2, .slice A3 n3 c3], .agg #[.slice A4 n4 c4, .slice A5 vs.length c5], .agg #[.int .i64 16, .int .i64 n, .int .i64 ty, .int .u64 bb], .agg #[.slice A6 st.length c6, .slice A7 tr.length c7]] W (qAN W okF ⟨true, true, false, ⟨st, tr.dropLast⟩, ⟨[], []⟩⟩) := by
 obtain ⟨kl, hkl⟩ := eX ls.length
 obtain ⟨kv, hkv⟩ := eX vs.length
 obtain ⟨ks, hks⟩ := eX st.length
 obtain ⟨kt, hkt⟩ := eX tr.length
 obtain ⟨WB, hWB⟩ := eX (stW W #[.slice A1 n1 c1, .int .i64 res, .slice A2 kl c2, .slice A3 n3 c3] #[.slice A4 n4 c4, .slice A5 kv c5] #[.int .i64 16, .int .i64 n, .int .i64 ty, .int .u64 bb] #[.slice A6 ks c6, .slice A7 kt c7] #[.bool true, .bool true, .bool false, .slice A6 ks c6, .slice A7 kt c7, .slice none 0 0, .slice none 0 0])
 have HX : qAc (SB W.heap.size #[.slice A1 n1 c1, .int .i64 res, .slice A2 kl c2, .slice A3 n3 c3] #[.slice A4 n4 c4, .slice A5 kv c5] #[.int .i64 16, .int .i64 n, .int .i64 ty, .int .u64 bb] #[.slice A6 ks c6, .slice A7 kt c7] #[.bool true, .bool true, .bool false, .slice A6 ks c6, .slice A7 kt c7, .slice none 0 0, .slice none 0 0] WB) := ⟨hWB ▸ qBg W _ _ _ _ _⟩
 have HB : qAc (Below W.heap.size W WB) := ⟨hWB ▸ qAI W _ _ _ _ _⟩
 have HSZ : qAc (W.heap.size + 7 ≤ WB.heap.size) := ⟨by rw [hWB, qAT]; exact nl _⟩
 have FS : qAc (FI W.heap.size 7 okF (Kd.int .i64) WB A6 ks st) := ⟨by rw [hks]; exact FI.of hS HB.out⟩
 have FT : qAc (FI W.heap.size 7 okF k200 WB A7 kt tr) := ⟨by rw [hkt]; exact FI.of hT HB.out⟩
 have HKL := am hkl
 have HKV := am hkv
 have HKS := am hks
 have HKT := am hkt
 have HC6 := am hc6
 have HC7 := am hc7
 have HLS := am hl
 have HNW := am hnew
 have HLT := am hlt
 rw [← hkl, ← hkv, ← hks, ← hkt]
 obtain ⟨m, rfl⟩ : ∃ m, kt = m + 1 := ⟨tr.length - 1, by have := List.length_pos_iff.2 he; omega⟩
 have hd : decide ((m : Int) < 0) = false := decide_eq_false (by omega)
 have hb1 : (0 : Int) ≤ (m : Int) := by omega
 have hb2 : (m : Int) ≤ (m : Int) + 1 := by omega
 have hb3 : (m : Int) ≤ (c7 : Int) := by omega
 have hb4 : m ≤ c7 := by omega
 have FD : qAc (FI W.heap.size 7 okF k200 WB A7 m tr.dropLast) := ⟨by
   have h_ := FT.out
   rw [hkt] at h_
   have h2 := FI.take (m := m) h_ (by omega)
   rw [List.dropLast_eq_take, ← hkt]
   have e : (tr.take m).length = m := by rw [List.length_take]; omega
   rw [e] at h2
   exact h2⟩
 have hs : wrap64 (m : Int) = (m : Int) := w64 (by omega)
 clear he
 clear hL hV hS hT hc2 hc5 hc6 hc7 hl hll hlv hlt hnew hkl hkv hks hkt
 go_enter Tryz.func67, Tryz.ntmps67
 go_upto_region 3 with fail
 simp only [stW] at hWB
 rw [← hWB]
 clear hWB
 have xi0 := (qAa HX.out.i 0).trans rfl
 have xi1 := (qAa HX.out.i 1).trans rfl
 have xi2 := (qAa HX.out.i 2).trans rfl
 have xi3 := (qAa HX.out.i 3).trans rfl
 have xs0 := (qAa HX.out.s 0).trans rfl
 have xs1 := (qAa HX.out.s 1).trans rfl
 have xq0 := qAb HX.out.r 0
 have xr0 := (qAa HX.out.r 0).trans rfl
 have xq1 := qAb HX.out.r 1
 have xr1 := (qAa HX.out.r 1).trans rfl
 have xq2 := qAb HX.out.r 2
 have xr2 := (qAa HX.out.r 2).trans rfl
 have xq3 := qAb HX.out.r 3
 have xr3 := (qAa HX.out.r 3).trans rfl
 have xq4 := qAb HX.out.r 4
 have xr4 := (qAa HX.out.r 4).trans rfl
 have xq5 := qAb HX.out.r 5
 have xr5 := (qAa HX.out.r 5).trans rfl
 have xq6 := qAb HX.out.r 6
 have xr6 := (qAa HX.out.r 6).trans rfl
 have xo0 := (qAa HX.out.o 0).trans rfl
 have xg0 := qAb HX.out.o 0
 have xo1 := (qAa HX.out.o 1).trans rfl
 have xo2 := (qAa HX.out.o 2).trans rfl
 have xo3 := (qAa HX.out.o 3).trans rfl
 have xg3 := qAb HX.out.o 3
 have xo4 := (qAa HX.out.o 4).trans rfl
 have xg4 := qAb HX.out.o 4
 have xo5 := (qAa HX.out.o 5).trans rfl
 have xo6 := (qAa HX.out.o 6).trans rfl
 go_wp2
 refine bodyPost_ret (results_cell_row rfl _ _ (W.heap.size + 1 + 1 + 1 + 1) 138 _ (0, 0) _ rfl (lay7 (by first | exact HX.out.r | exact qAL HX.out.r (by simp) _ | exact qAL (qAL HX.out.r (by simp) _) (by simp) _)) Tryz.underlying138 rfl (by kernel_rfl)) rfl ?_
 exact qAM (R := ⟨true, true, false, ⟨st, tr.dropLast⟩, ⟨[], []⟩⟩) (K := 7) (by omega) (by omega) HKS.out (by have := HC6.out; have := HKS.out; omega) (by first | exact FS.out | exact FI.set FS.out (by first | omega | (dsimp only; omega)) (by first | omega | (dsimp only; omega)) _ | exact FI.set (FI.set FS.out (by first | omega | (dsimp only; omega)) (by first | omega | (dsimp only; omega)) _) (by first | omega | (dsimp only; omega)) (by first | omega | (dsimp only; omega)) _) (by have := HKT.out; simp; omega) hb4 (by first | exact FD.out | exact FI.set FD.out (by first | omega | (dsimp only; omega)) (by first | omega | (dsimp only; omega)) _ | exact FI.set (FI.set FD.out (by first | omega | (dsimp only; omega)) (by first | omega | (dsimp only; omega)) _) (by first | omega | (dsimp only; omega)) (by first | omega | (dsimp only; omega)) _) rfl (nl 0) FI.nil rfl (nl 0) FI.nil (by first | exact HB.out | exact qAf HB.out (by first | omega | (dsimp only; omega)) | exact qAf (qAf HB.out (by first | omega | (dsimp only; omega))) (by first | omega | (dsimp only; omega))) HNW.out
theorem step_6_none {W : World} {okF : Nat → Prop} (n ty bb : Int) (A1 A2 A3 A4 A5 A6 A7 : Option Addr) (n1 c1 c2 n3 c3 n4 c4 c5 c6 c7 : Nat) (res : Int) {ls vs st : List Int} {tr : List S200}
  (hL : Kd.F (Kd.int .i64) W okF A2 ls.length ls) (hc2 : ls.length ≤ c2) (hV : Kd.F (Kd.int .i64) W okF A5 vs.length vs) (hc5 : vs.length ≤ c5) (hS : Kd.F (Kd.int .i64) W okF A6 st.length st) (hc6 : st.length ≤ c6) (hT : Kd.F k200 W okF A7 tr.length tr) (hc7 : tr.length ≤ c7) (hl : st.length ≤ 2000000) (hll : ls.length ≤ 2000000) (hlv : vs.length ≤ 2000000) (hlt : tr.length ≤ 2000000) (hnew : ∀ k, W.heap.size ≤ k → okF k) (he : st.getLast?.isSome = false):
  Calls Tryz.prog 67 #[.agg #[.slice A1 n1 c1, .int .i64 res, .slice A2 ls.length c2, .slice A3 n3 c3], .agg #[.slice A4 n4 c4, .slice A5 vs.length c5], .agg #[.int .i64 6, .int .i64 n, .int .i64 ty, .int .u64 bb], .agg #[.slice A6 st.length c6, .slice A7 tr.length c7]] W (qAN W okF ⟨false, false, false, ⟨[], []⟩, ⟨[], []⟩⟩) := by
 obtain ⟨A8, k8, c8, hk8, hc8, hF8, hT8⟩ := qBK A6 c6 st hS hc6 hl
 obtain ⟨kl, hkl⟩ := eX ls.length
 obtain ⟨kv, hkv⟩ := eX vs.length
 obtain ⟨ks, hks⟩ := eX st.length
 obtain ⟨kt, hkt⟩ := eX tr.length
 obtain ⟨WB, hWB⟩ := eX (stW W #[.slice A1 n1 c1, .int .i64 res, .slice A2 kl c2, .slice A3 n3 c3] #[.slice A4 n4 c4, .slice A5 kv c5] #[.int .i64 6, .int .i64 n, .int .i64 ty, .int .u64 bb] #[.slice A6 ks c6, .slice A7 kt c7] #[.bool true, .bool true, .bool false, .slice A6 ks c6, .slice A7 kt c7, .slice none 0 0, .slice none 0 0])
 have HX : qAc (SB W.heap.size #[.slice A1 n1 c1, .int .i64 res, .slice A2 kl c2, .slice A3 n3 c3] #[.slice A4 n4 c4, .slice A5 kv c5] #[.int .i64 6, .int .i64 n, .int .i64 ty, .int .u64 bb] #[.slice A6 ks c6, .slice A7 kt c7] #[.bool true, .bool true, .bool false, .slice A6 ks c6, .slice A7 kt c7, .slice none 0 0, .slice none 0 0] WB) := ⟨hWB ▸ qBg W _ _ _ _ _⟩
 have HB : qAc (Below W.heap.size W WB) := ⟨hWB ▸ qAI W _ _ _ _ _⟩
 have HSZ : qAc (W.heap.size + 7 ≤ WB.heap.size) := ⟨by rw [hWB, qAT]; exact nl _⟩
 have FS : qAc (FI W.heap.size 7 okF (Kd.int .i64) WB A6 ks st) := ⟨by rw [hks]; exact FI.of hS HB.out⟩
 have FT : qAc (FI W.heap.size 7 okF k200 WB A7 kt tr) := ⟨by rw [hkt]; exact FI.of hT HB.out⟩
 have HKL := am hkl
 have HKV := am hkv
 have HKS := am hks
 have HKT := am hkt
 have HC6 := am hc6
 have HC7 := am hc7
 have HLS := am hl
 have HNW := am hnew
 have HLT := am hlt
 rw [← hkl, ← hkv, ← hks, ← hkt]
 have FR : qAc (FI W.heap.size 7 okF (Kd.int .i64) WB A8 k8 st.dropLast) := ⟨by rw [hk8] at hF8 ⊢; exact FI.of hF8 HB.out⟩
 obtain ⟨x1, hx1⟩ := eX (st.getLast?.getD 0)
 obtain ⟨ut, hut⟩ := eX ((Ty1.unary n x1).1)
 obtain ⟨ue, hue⟩ := eX ((Ty1.unary n x1).2)
 have HU : qAc (∀ W', Calls Tryz.prog 97 #[.int .i64 n, .int .i64 x1] W' fun e w' => e = .returned (.tuple #[.int .i64 ut, .int .i64 ue]) ∧ W' = w') := ⟨fun W' => by rw [hut, hue]; exact Ty3.runary_any n x1 W'⟩
 have HPT : qAc (∀ W1, FI W.heap.size 7 okF (Kd.int .i64) W1 A8 k8 st.dropLast → Calls Tryz.prog 94 #[.slice A8 k8 c8, .int .i64 ut] W1 fun e w' => ∃ A' c', e = .returned (.slice A' (k8 + 1) c') ∧ k8 + 1 ≤ c' ∧ Kd.F (Kd.int .i64) w' (fun k => W1.heap.size ≤ k) A' (k8 + 1) (st.dropLast ++ [ut]) ∧ Below W1.heap.size W1 w') := ⟨fun W1 h => by
   have h_ := hk8
   rw [h_] at h ⊢
   exact qBJ A8 c8 st.dropLast ut (FI.now h) (by omega) (by first | omega | (simp; omega))⟩
 rw [he, ← hx1] at hT8
 clear he
 rw [← hks] at hT8
 have HTP := am hT8
 have HK8 := am hk8
 have HC8 := am hc8
 clear hT8 hk8 hc8 hF8 hx1 hut hue
 clear hL hV hS hT hc2 hc5 hc6 hc7 hl hll hlv hlt hnew hkl hkv hks hkt
 go_enter Tryz.func67, Tryz.ntmps67
 go_upto_region 3 with fail
 simp only [stW] at hWB
 rw [← hWB]
 clear hWB
 have xi0 := (qAa HX.out.i 0).trans rfl
 have xi1 := (qAa HX.out.i 1).trans rfl
 have xi2 := (qAa HX.out.i 2).trans rfl
 have xi3 := (qAa HX.out.i 3).trans rfl
 have xs0 := (qAa HX.out.s 0).trans rfl
 have xs1 := (qAa HX.out.s 1).trans rfl
 go_wp2_with (first | (go_at_call 96; (with_reducible refine (HTP.out _ HB.out).mono ?_); rintro e w1 ⟨rfl, hb1⟩; clear xi0 xi1 xi2 xi3 xs0 xs1; replace HX := am (HX.out.below hb1); replace HB := am (HB.out.trans (hb1.mono HB.out.size)); replace HSZ := am (Nat.le_trans HSZ.out hb1.size); replace FS := am (FI.below FS.out hb1); replace FT := am (FI.below FT.out hb1); replace FR := am (FI.below FR.out hb1); have xi0 := (qAa HX.out.i 0).trans rfl; have xi1 := (qAa HX.out.i 1).trans rfl; have xi2 := (qAa HX.out.i 2).trans rfl; have xi3 := (qAa HX.out.i 3).trans rfl; have xq0 := qAb HX.out.r 0; have xr0 := (qAa HX.out.r 0).trans rfl; have xq1 := qAb HX.out.r 1; have xr1 := (qAa HX.out.r 1).trans rfl; have xq2 := qAb HX.out.r 2; have xr2 := (qAa HX.out.r 2).trans rfl; have xq3 := qAb HX.out.r 3; have xr3 := (qAa HX.out.r 3).trans rfl; have xq4 := qAb HX.out.r 4; have xr4 := (qAa HX.out.r 4).trans rfl; have xq5 := qAb HX.out.r 5; have xr5 := (qAa HX.out.r 5).trans rfl; have xq6 := qAb HX.out.r 6; have xr6 := (qAa HX.out.r 6).trans rfl; have xz0 := (qAa HX.out.z 0).trans rfl; have xz1 := (qAa HX.out.z 1).trans rfl; have xz2 := (qAa HX.out.z 2).trans rfl; have xz3 := (qAa HX.out.z 3).trans rfl; have xz4 := (qAa HX.out.z 4).trans rfl; have xz5 := (qAa HX.out.z 5).trans rfl; have xz6 := (qAa HX.out.z 6).trans rfl; clear hb1) | (go_at_call 97; (with_reducible refine (HU.out _).mono ?_); rintro e w2 ⟨rfl, rfl⟩))
 refine bodyPost_ret (results_cell_row rfl _ _ (W.heap.size + 1 + 1 + 1 + 1) 138 _ (0, 0) _ rfl (lay7 (by first | exact HX.out.r | exact qAL HX.out.r (by simp) _ | exact qAL (qAL HX.out.r (by simp) _) (by simp) _)) Tryz.underlying138 rfl (by kernel_rfl)) rfl ?_
 exact qAM (R := ⟨false, false, false, ⟨[], []⟩, ⟨[], []⟩⟩) (K := 7) (by omega) (by omega) rfl (nl 0) FI.nil rfl (nl 0) FI.nil rfl (nl 0) FI.nil rfl (nl 0) FI.nil (by first | exact HB.out | exact qAf HB.out (by first | omega | (dsimp only; omega)) | exact qAf (qAf HB.out (by first | omega | (dsimp only; omega))) (by first | omega | (dsimp only; omega))) HNW.out
theorem step_6_bad {W : World} {okF : Nat → Prop} (n ty bb : Int) (A1 A2 A3 A4 A5 A6 A7 : Option Addr) (n1 c1 c2 n3 c3 n4 c4 c5 c6 c7 : Nat) (res : Int) {ls vs st : List Int} {tr : List S200}
  (hL : Kd.F (Kd.int .i64) W okF A2 ls.length ls) (hc2 : ls.length ≤ c2) (hV : Kd.F (Kd.int .i64) W okF A5 vs.length vs) (hc5 : vs.length ≤ c5) (hS : Kd.F (Kd.int .i64) W okF A6 st.length st) (hc6 : st.length ≤ c6) (hT : Kd.F k200 W okF A7 tr.length tr) (hc7 : tr.length ≤ c7) (hl : st.length ≤ 2000000) (hll : ls.length ≤ 2000000) (hlv : vs.length ≤ 2000000) (hlt : tr.length ≤ 2000000) (hnew : ∀ k, W.heap.size ≤ k → okF k) (he : st.getLast?.isSome = true) (hu : (Ty1.unary n (st.getLast?.getD 0)).2 ≠ 0):
  Calls Tryz.prog 67 #[.agg #[.slice A1 n1 c1, .int .i64 res, .slice A2 ls.length c2, .slice A3 n3 c3], .agg #[.slice A4 n4 c4, .slice A5 vs.length c5], .agg #[.int .i64 6, .int .i64 n, .int .i64 ty, .int .u64 bb], .agg #[.slice A6 st.length c6, .slice A7 tr.length c7]] W (qAN W okF ⟨false, false, false, ⟨[], []⟩, ⟨[], []⟩⟩) := by
 obtain ⟨A8, k8, c8, hk8, hc8, hF8, hT8⟩ := qBK A6 c6 st hS hc6 hl
 obtain ⟨kl, hkl⟩ := eX ls.length
 obtain ⟨kv, hkv⟩ := eX vs.length
 obtain ⟨ks, hks⟩ := eX st.length
 obtain ⟨kt, hkt⟩ := eX tr.length
 obtain ⟨WB, hWB⟩ := eX (stW W #[.slice A1 n1 c1, .int .i64 res, .slice A2 kl c2, .slice A3 n3 c3] #[.slice A4 n4 c4, .slice A5 kv c5] #[.int .i64 6, .int .i64 n, .int .i64 ty, .int .u64 bb] #[.slice A6 ks c6, .slice A7 kt c7] #[.bool true, .bool true, .bool false, .slice A6 ks c6, .slice A7 kt c7, .slice none 0 0, .slice none 0 0])
 have HX : qAc (SB W.heap.size #[.slice A1 n1 c1, .int .i64 res, .slice A2 kl c2, .slice A3 n3 c3] #[.slice A4 n4 c4, .slice A5 kv c5] #[.int .i64 6, .int .i64 n, .int .i64 ty, .int .u64 bb] #[.slice A6 ks c6, .slice A7 kt c7] #[.bool true, .bool true, .bool false, .slice A6 ks c6, .slice A7 kt c7, .slice none 0 0, .slice none 0 0] WB) := ⟨hWB ▸ qBg W _ _ _ _ _⟩
 have HB : qAc (Below W.heap.size W WB) := ⟨hWB ▸ qAI W _ _ _ _ _⟩
 have HSZ : qAc (W.heap.size + 7 ≤ WB.heap.size) := ⟨by rw [hWB, qAT]; exact nl _⟩
 have FS : qAc (FI W.heap.size 7 okF (Kd.int .i64) WB A6 ks st) := ⟨by rw [hks]; exact FI.of hS HB.out⟩
 have FT : qAc (FI W.heap.size 7 okF k200 WB A7 kt tr) := ⟨by rw [hkt]; exact FI.of hT HB.out⟩
 have HKL := am hkl
 have HKV := am hkv
 have HKS := am hks
 have HKT := am hkt
 have HC6 := am hc6
 have HC7 := am hc7
 have HLS := am hl
 have HNW := am hnew
 have HLT := am hlt
 rw [← hkl, ← hkv, ← hks, ← hkt]
 have FR : qAc (FI W.heap.size 7 okF (Kd.int .i64) WB A8 k8 st.dropLast) := ⟨by rw [hk8] at hF8 ⊢; exact FI.of hF8 HB.out⟩
 obtain ⟨x1, hx1⟩ := eX (st.getLast?.getD 0)
 obtain ⟨ut, hut⟩ := eX ((Ty1.unary n x1).1)
 obtain ⟨ue, hue⟩ := eX ((Ty1.unary n x1).2)
 have HU : qAc (∀ W', Calls Tryz.prog 97 #[.int .i64 n, .int .i64 x1] W' fun e w' => e = .returned (.tuple #[.int .i64 ut, .int .i64 ue]) ∧ W' = w') := ⟨fun W' => by rw [hut, hue]; exact Ty3.runary_any n x1 W'⟩
 have HPT : qAc (∀ W1, FI W.heap.size 7 okF (Kd.int .i64) W1 A8 k8 st.dropLast → Calls Tryz.prog 94 #[.slice A8 k8 c8, .int .i64 ut] W1 fun e w' => ∃ A' c', e = .returned (.slice A' (k8 + 1) c') ∧ k8 + 1 ≤ c' ∧ Kd.F (Kd.int .i64) w' (fun k => W1.heap.size ≤ k) A' (k8 + 1) (st.dropLast ++ [ut]) ∧ Below W1.heap.size W1 w') := ⟨fun W1 h => by
   have h_ := hk8
   rw [h_] at h ⊢
   exact qBJ A8 c8 st.dropLast ut (FI.now h) (by omega) (by first | omega | (simp; omega))⟩
 rw [he, ← hx1] at hT8
 rw [← hx1, ← hue] at hu
 have hq : (ue != 0) = true := bne_iff_ne.mpr hu
 clear he hu
 rw [← hks] at hT8
 have HTP := am hT8
 have HK8 := am hk8
 have HC8 := am hc8
 clear hT8 hk8 hc8 hF8 hx1 hut hue
 clear hL hV hS hT hc2 hc5 hc6 hc7 hl hll hlv hlt hnew hkl hkv hks hkt
 go_enter Tryz.func67, Tryz.ntmps67
 go_upto_region 3 with fail
 simp only [stW] at hWB
 rw [← hWB]
 clear hWB
 have xi0 := (qAa HX.out.i 0).trans rfl
 have xi1 := (qAa HX.out.i 1).trans rfl
 have xi2 := (qAa HX.out.i 2).trans rfl
 have xi3 := (qAa HX.out.i 3).trans rfl
 have xs0 := (qAa HX.out.s 0).trans rfl
 have xs1 := (qAa HX.out.s 1).trans rfl
 go_wp2_with (first | (go_at_call 96; (with_reducible refine (HTP.out _ HB.out).mono ?_); rintro e w1 ⟨rfl, hb1⟩; clear xi0 xi1 xi2 xi3 xs0 xs1; replace HX := am (HX.out.below hb1); replace HB := am (HB.out.trans (hb1.mono HB.out.size)); replace HSZ := am (Nat.le_trans HSZ.out hb1.size); replace FS := am (FI.below FS.out hb1); replace FT := am (FI.below FT.out hb1); replace FR := am (FI.below FR.out hb1); have xi0 := (qAa HX.out.i 0).trans rfl; have xi1 := (qAa HX.out.i 1).trans rfl; have xi2 := (qAa HX.out.i 2).trans rfl; have xi3 := (qAa HX.out.i 3).trans rfl; have xq0 := qAb HX.out.r 0; have xr0 := (qAa HX.out.r 0).trans rfl; have xq1 := qAb HX.out.r 1; have xr1 := (qAa HX.out.r 1).trans rfl; have xq2 := qAb HX.out.r 2; have xr2 := (qAa HX.out.r 2).trans rfl; have xq3 := qAb HX.out.r 3; have xr3 := (qAa HX.out.r 3).trans rfl; have xq4 := qAb HX.out.r 4; have xr4 := (qAa HX.out.r 4).trans rfl; have xq5 := qAb HX.out.r 5; have xr5 := (qAa HX.out.r 5).trans rfl; have xq6 := qAb HX.out.r 6; have xr6 := (qAa HX.out.r 6).trans rfl; have xz0 := (qAa HX.out.z 0).trans rfl; have xz1 := (qAa HX.out.z 1).trans rfl; have xz2 := (qAa HX.out.z 2).trans rfl; have xz3 := (qAa HX.out.z 3).trans rfl; have xz4 := (qAa HX.out.z 4).trans rfl; have xz5 := (qAa HX.out.z 5).trans rfl; have xz6 := (qAa HX.out.z 6).trans rfl; clear hb1) | (go_at_call 97; (with_reducible refine (HU.out _).mono ?_); rintro e w2 ⟨rfl, rfl⟩))
 refine bodyPost_ret (results_cell_row rfl _ _ (W.heap.size + 1 + 1 + 1 + 1) 138 _ (0, 0) _ rfl (lay7 (by first | exact HX.out.r | exact qAL HX.out.r (by simp) _ | exact qAL (qAL HX.out.r (by simp) _) (by simp) _)) Tryz.underlying138 rfl (by kernel_rfl)) rfl ?_
 exact qAM (R := ⟨false, false, false, ⟨[], []⟩, ⟨[], []⟩⟩) (K := 7) (by omega) (by omega) rfl (nl 0) FI.nil rfl (nl 0) FI.nil rfl (nl 0) FI.nil rfl (nl 0) FI.nil (by first | exact HB.out | exact qAf HB.out (by first | omega | (dsimp only; omega)) | exact qAf (qAf HB.out (by first | omega | (dsimp only; omega))) (by first | omega | (dsimp only; omega))) HNW.out
theorem step_6 {W : World} {okF : Nat → Prop} (n ty bb : Int) (A1 A2 A3 A4 A5 A6 A7 : Option Addr) (n1 c1 c2 n3 c3 n4 c4 c5 c6 c7 : Nat) (res : Int) {ls vs st : List Int} {tr : List S200}
  (hL : Kd.F (Kd.int .i64) W okF A2 ls.length ls) (hc2 : ls.length ≤ c2) (hV : Kd.F (Kd.int .i64) W okF A5 vs.length vs) (hc5 : vs.length ≤ c5) (hS : Kd.F (Kd.int .i64) W okF A6 st.length st) (hc6 : st.length ≤ c6) (hT : Kd.F k200 W okF A7 tr.length tr) (hc7 : tr.length ≤ c7) (hl : st.length ≤ 2000000) (hll : ls.length ≤ 2000000) (hlv : vs.length ≤ 2000000) (hlt : tr.length ≤ 2000000) (hnew : ∀ k, W.heap.size ≤ k → okF k) (he : st.getLast?.isSome = true) (hu : (Ty1.unary n (st.getLast?.getD 0)).2 = 0):
  Calls Tryz.prog 67 #[.agg #[.slice A1 n1 c1, .int .i64 res, .slice A2 ls.length c2, .slice A3 n3 c3], .agg #[.slice A4 n4 c4, .slice A5 vs.length c5], .agg #[.int .i64 6, .int .i64 n, .int .i64 ty, .int .u64 bb], .agg #[.slice A6 st.length c6, .slice A7 tr.length c7]] W (qAN W okF ⟨true, true, false, ⟨st.dropLast ++ [(Ty1.unary n (st.getLast?.getD 0)).1], tr⟩, ⟨[], []⟩⟩) := by
 obtain ⟨A8, k8, c8, hk8, hc8, hF8, hT8⟩ := qBK A6 c6 st hS hc6 hl
 obtain ⟨kl, hkl⟩ := eX ls.length
 obtain ⟨kv, hkv⟩ := eX vs.length
 obtain ⟨ks, hks⟩ := eX st.length
 obtain ⟨kt, hkt⟩ := eX tr.length
 obtain ⟨WB, hWB⟩ := eX (stW W #[.slice A1 n1 c1, .int .i64 res, .slice A2 kl c2, .slice A3 n3 c3] #[.slice A4 n4 c4, .slice A5 kv c5] #[.int .i64 6, .int .i64 n, .int .i64 ty, .int .u64 bb] #[.slice A6 ks c6, .slice A7 kt c7] #[.bool true, .bool true, .bool false, .slice A6 ks c6, .slice A7 kt c7, .slice none 0 0, .slice none 0 0])
 have HX : qAc (SB W.heap.size #[.slice A1 n1 c1, .int .i64 res, .slice A2 kl c2, .slice A3 n3 c3] #[.slice A4 n4 c4, .slice A5 kv c5] #[.int .i64 6, .int .i64 n, .int .i64 ty, .int .u64 bb] #[.slice A6 ks c6, .slice A7 kt c7] #[.bool true, .bool true, .bool false, .slice A6 ks c6, .slice A7 kt c7, .slice none 0 0, .slice none 0 0] WB) := ⟨hWB ▸ qBg W _ _ _ _ _⟩
 have HB : qAc (Below W.heap.size W WB) := ⟨hWB ▸ qAI W _ _ _ _ _⟩
 have HSZ : qAc (W.heap.size + 7 ≤ WB.heap.size) := ⟨by rw [hWB, qAT]; exact nl _⟩
 have FS : qAc (FI W.heap.size 7 okF (Kd.int .i64) WB A6 ks st) := ⟨by rw [hks]; exact FI.of hS HB.out⟩
 have FT : qAc (FI W.heap.size 7 okF k200 WB A7 kt tr) := ⟨by rw [hkt]; exact FI.of hT HB.out⟩
 have HKL := am hkl
 have HKV := am hkv
 have HKS := am hks
 have HKT := am hkt
 have HC6 := am hc6
 have HC7 := am hc7
 have HLS := am hl
 have HNW := am hnew
 have HLT := am hlt
 rw [← hkl, ← hkv, ← hks, ← hkt]
 have FR : qAc (FI W.heap.size 7 okF (Kd.int .i64) WB A8 k8 st.dropLast) := ⟨by rw [hk8] at hF8 ⊢; exact FI.of hF8 HB.out⟩
 obtain ⟨x1, hx1⟩ := eX (st.getLast?.getD 0)
 obtain ⟨ut, hut⟩ := eX ((Ty1.unary n x1).1)
 obtain ⟨ue, hue⟩ := eX ((Ty1.unary n x1).2)
 have HU : qAc (∀ W', Calls Tryz.prog 97 #[.int .i64 n, .int .i64 x1] W' fun e w' => e = .returned (.tuple #[.int .i64 ut, .int .i64 ue]) ∧ W' = w') := ⟨fun W' => by rw [hut, hue]; exact Ty3.runary_any n x1 W'⟩
 have HPT : qAc (∀ W1, FI W.heap.size 7 okF (Kd.int .i64) W1 A8 k8 st.dropLast → Calls Tryz.prog 94 #[.slice A8 k8 c8, .int .i64 ut] W1 fun e w' => ∃ A' c', e = .returned (.slice A' (k8 + 1) c') ∧ k8 + 1 ≤ c' ∧ Kd.F (Kd.int .i64) w' (fun k => W1.heap.size ≤ k) A' (k8 + 1) (st.dropLast ++ [ut]) ∧ Below W1.heap.size W1 w') := ⟨fun W1 h => by
   have h_ := hk8
   rw [h_] at h ⊢
   exact qBJ A8 c8 st.dropLast ut (FI.now h) (by omega) (by first | omega | (simp; omega))⟩
 rw [he, ← hx1] at hT8
 rw [← hx1, ← hue] at hu
 rw [← hx1, ← hut]
 subst hu
 clear he
 rw [← hks] at hT8
 have HTP := am hT8
 have HK8 := am hk8
 have HC8 := am hc8
 clear hT8 hk8 hc8 hF8 hx1 hut hue
 clear hL hV hS hT hc2 hc5 hc6 hc7 hl hll hlv hlt hnew hkl hkv hks hkt
 go_enter Tryz.func67, Tryz.ntmps67
 go_upto_region 3 with fail
 simp only [stW] at hWB
 rw [← hWB]
 clear hWB
 have xi0 := (qAa HX.out.i 0).trans rfl
 have xi1 := (qAa HX.out.i 1).trans rfl
 have xi2 := (qAa HX.out.i 2).trans rfl
 have xi3 := (qAa HX.out.i 3).trans rfl
 have xs0 := (qAa HX.out.s 0).trans rfl
 have xs1 := (qAa HX.out.s 1).trans rfl
 go_wp2_with (first | (go_at_call 96; (with_reducible refine (HTP.out _ HB.out).mono ?_); rintro e w1 ⟨rfl, hb1⟩; clear xi0 xi1 xi2 xi3 xs0 xs1; replace HX := am (HX.out.below hb1); replace HB := am (HB.out.trans (hb1.mono HB.out.size)); replace HSZ := am (Nat.le_trans HSZ.out hb1.size); replace FS := am (FI.below FS.out hb1); replace FT := am (FI.below FT.out hb1); replace FR := am (FI.below FR.out hb1); have xi0 := (qAa HX.out.i 0).trans rfl; have xi1 := (qAa HX.out.i 1).trans rfl; have xi2 := (qAa HX.out.i 2).trans rfl; have xi3 := (qAa HX.out.i 3).trans rfl; have xq0 := qAb HX.out.r 0; have xr0 := (qAa HX.out.r 0).trans rfl; have xq1 := qAb HX.out.r 1; have xr1 := (qAa HX.out.r 1).trans rfl; have xq2 := qAb HX.out.r 2; have xr2 := (qAa HX.out.r 2).trans rfl; have xq3 := qAb HX.out.r 3; have xr3 := (qAa HX.out.r 3).trans rfl; have xq4 := qAb HX.out.r 4; have xr4 := (qAa HX.out.r 4).trans rfl; have xq5 := qAb HX.out.r 5; have xr5 := (qAa HX.out.r 5).trans rfl; have xq6 := qAb HX.out.r 6; have xr6 := (qAa HX.out.r 6).trans rfl; have xo0 := (qAa HX.out.o 0).trans rfl; have xg0 := qAb HX.out.o 0; have xo1 := (qAa HX.out.o 1).trans rfl; have xo2 := (qAa HX.out.o 2).trans rfl; have xo3 := (qAa HX.out.o 3).trans rfl; have xg3 := qAb HX.out.o 3; have xo4 := (qAa HX.out.o 4).trans rfl; have xg4 := qAb HX.out.o 4; have xo5 := (qAa HX.out.o 5).trans rfl; have xo6 := (qAa HX.out.o 6).trans rfl; clear hb1) | (go_at_call 97; (with_reducible refine (HU.out _).mono ?_); rintro e w2 ⟨rfl, rfl⟩) | (go_at_call 94; (with_reducible refine (HPT.out _ FR.out).mono ?_); rintro e w2 ⟨A9, c9, rfl, hc9, hF9, hb2⟩; have FN := am (FI.new (okF := okF) hF9 HSZ.out); have HC9 := am hc9; clear hF9 hc9; clear xi0 xi1 xi2 xi3 xr0 xr1 xr2 xr3 xr4 xr5 xr6 xo0 xo1 xo2 xo3 xo4 xo5 xo6 xq0 xq1 xq2 xq3 xq4 xq5 xq6 xg0 xg3 xg4; replace HX := am (HX.out.below hb2); replace HB := am (HB.out.trans (hb2.mono HB.out.size)); replace HSZ := am (Nat.le_trans HSZ.out hb2.size); replace FS := am (FI.below FS.out hb2); replace FT := am (FI.below FT.out hb2); have xq0 := qAb HX.out.r 0; have xr0 := (qAa HX.out.r 0).trans rfl; have xq1 := qAb HX.out.r 1; have xr1 := (qAa HX.out.r 1).trans rfl; have xq2 := qAb HX.out.r 2; have xr2 := (qAa HX.out.r 2).trans rfl; have xq3 := qAb HX.out.r 3; have xr3 := (qAa HX.out.r 3).trans rfl; have xq4 := qAb HX.out.r 4; have xr4 := (qAa HX.out.r 4).trans rfl; have xq5 := qAb HX.out.r 5; have xr5 := (qAa HX.out.r 5).trans rfl; have xq6 := qAb HX.out.r 6; have xr6 := (qAa HX.out.r 6).trans rfl; have xo0 := (qAa HX.out.o 0).trans rfl; have xg0 := qAb HX.out.o 0; have xo1 := (qAa HX.out.o 1).trans rfl; have xo2 := (qAa HX.out.o 2).trans rfl; have xo3 := (qAa HX.out.o 3).trans rfl; have xg3 := qAb HX.out.o 3; have xo4 := (qAa HX.out.o 4).trans rfl; have xg4 := qAb HX.out.o 4; have xo5 := (qAa HX.out.o 5).trans rfl; have xo6 := (qAa HX.out.o 6).trans rfl; clear hb2))
 refine bodyPost_ret (results_cell_row rfl _ _ (W.heap.size + 1 + 1 + 1 + 1) 138 _ (0, 0) _ rfl (lay7 (by first | exact HX.out.r | exact qAL HX.out.r (by simp) _ | exact qAL (qAL HX.out.r (by simp) _) (by simp) _)) Tryz.underlying138 rfl (by kernel_rfl)) rfl ?_
 exact qAM (R := ⟨true, true, false, ⟨st.dropLast ++ [ut], tr⟩, ⟨[], []⟩⟩) (K := 7) (by omega) (by omega) (by rw [HK8.out]; simp) HC9.out (by first | exact FN.out | exact FI.set FN.out (by first | omega | (dsimp only; omega)) (by first | omega | (dsimp only; omega)) _ | exact FI.set (FI.set FN.out (by first | omega | (dsimp only; omega)) (by first | omega | (dsimp only; omega)) _) (by first | omega | (dsimp only; omega)) (by first | omega | (dsimp only; omega)) _) HKT.out (by have := HC7.out; have := HKT.out; omega) (by first | exact FT.out | exact FI.set FT.out (by first | omega | (dsimp only; omega)) (by first | omega | (dsimp only; omega)) _ | exact FI.set (FI.set FT.out (by first | omega | (dsimp only; omega)) (by first | omega | (dsimp only; omega)) _) (by first | omega | (dsimp only; omega)) (by first | omega | (dsimp only; omega)) _) rfl (nl 0) FI.nil rfl (nl 0) FI.nil (by first | exact HB.out | exact qAf HB.out (by first | omega | (dsimp only; omega)) | exact qAf (qAf HB.out (by first | omega | (dsimp only; omega))) (by first | omega | (dsimp only; omega))) HNW.out
theorem step_7_none {W : World} {okF : Nat → Prop} (n ty bb : Int) (A1 A2 A3 A4 A5 A6 A7 : Option Addr) (n1 c1 c2 n3 c3 n4 c4 c5 c6 c7 : Nat) (res : Int) {ls vs st : List Int} {tr : List S200}
  (hL : Kd.F (Kd.int .i64) W okF A2 ls.length ls) (hc2 : ls.length ≤ c2) (hV : Kd.F (Kd.int .i64) W okF A5 vs.length vs) (hc5 : vs.length ≤ c5) (hS : Kd.F (Kd.int .i64) W okF A6 st.length st) (hc6 : st.length ≤ c6) (hT : Kd.F k200 W okF A7 tr.length tr) (hc7 : tr.length ≤ c7) (hl : st.length ≤ 2000000) (hll : ls.length ≤ 2000000) (hlv : vs.length ≤ 2000000) (hlt : tr.length ≤ 2000000) (hnew : ∀ k, W.heap.size ≤ k → okF k) (he : st.getLast?.isSome = false):
  Calls Tryz.prog 67 #[.agg #[.slice A1 n1 c1, .int .i64 res, .slice A2 ls.length c2, .slice A3 n3 c3], .agg #[.slice A4 n4 c4, .slice A5 vs.length c5], .agg #[.int .i64 7, .int .i64 n, .int .i64 ty, .int .u64 bb], .agg #[.slice A6 st.length c6, .slice A7 tr.length c7]] W (qAN W okF ⟨false, false, false, ⟨[], []⟩, ⟨[], []⟩⟩) := by
 obtain ⟨A8, k8, c8, hk8, hc8, hF8, hT8⟩ := qBK A6 c6 st hS hc6 hl
 obtain ⟨A7b, k7, c7b, hk7, hc7b, hF7, hT7⟩ := qBK A8 c8 st.dropLast (by rw [hk8] at hF8; exact hF8) (by omega) (by simp; omega)
 obtain ⟨kl, hkl⟩ := eX ls.length
 obtain ⟨kv, hkv⟩ := eX vs.length
 obtain ⟨ks, hks⟩ := eX st.length
 obtain ⟨kt, hkt⟩ := eX tr.length
 obtain ⟨WB, hWB⟩ := eX (stW W #[.slice A1 n1 c1, .int .i64 res, .slice A2 kl c2, .slice A3 n3 c3] #[.slice A4 n4 c4, .slice A5 kv c5] #[.int .i64 7, .int .i64 n, .int .i64 ty, .int .u64 bb] #[.slice A6 ks c6, .slice A7 kt c7] #[.bool true, .bool true, .bool false, .slice A6 ks c6, .slice A7 kt c7, .slice none 0 0, .slice none 0 0])
 have HX : qAc (SB W.heap.size #[.slice A1 n1 c1, .int .i64 res, .slice A2 kl c2, .slice A3 n3 c3] #[.slice A4 n4 c4, .slice A5 kv c5] #[.int .i64 7, .int .i64 n, .int .i64 ty, .int .u64 bb] #[.slice A6 ks c6, .slice A7 kt c7] #[.bool true, .bool true, .bool false, .slice A6 ks c6, .slice A7 kt c7, .slice none 0 0, .slice none 0 0] WB) := ⟨hWB ▸ qBg W _ _ _ _ _⟩
 have HB : qAc (Below W.heap.size W WB) := ⟨hWB ▸ qAI W _ _ _ _ _⟩
 have HSZ : qAc (W.heap.size + 7 ≤ WB.heap.size) := ⟨by rw [hWB, qAT]; exact nl _⟩
 have FS : qAc (FI W.heap.size 7 okF (Kd.int .i64) WB A6 ks st) := ⟨by rw [hks]; exact FI.of hS HB.out⟩
 have FT : qAc (FI W.heap.size 7 okF k200 WB A7 kt tr) := ⟨by rw [hkt]; exact FI.of hT HB.out⟩
 have HKL := am hkl
 have HKV := am hkv
 have HKS := am hks
 have HKT := am hkt
 have HC6 := am hc6
 have HC7 := am hc7
 have HLS := am hl
 have HNW := am hnew
 have HLT := am hlt
 rw [← hkl, ← hkv, ← hks, ← hkt]
 have FR : qAc (FI W.heap.size 7 okF (Kd.int .i64) WB A8 k8 st.dropLast) := ⟨by rw [hk8] at hF8 ⊢; exact FI.of hF8 HB.out⟩
 have FQ : qAc (FI W.heap.size 7 okF (Kd.int .i64) WB A7b k7 st.dropLast.dropLast) := ⟨by rw [hk7] at hF7 ⊢; exact FI.of hF7 HB.out⟩
 obtain ⟨x1, hx1⟩ := eX (st.getLast?.getD 0)
 obtain ⟨x2, hx2⟩ := eX (st.dropLast.getLast?.getD 0)
 obtain ⟨bt, hbt⟩ := eX ((Ty2.binary n x2 x1).1)
 obtain ⟨be, hbe⟩ := eX ((Ty2.binary n x2 x1).2)
 have HU : qAc (∀ W', Calls Tryz.prog 98 #[.int .i64 n, .int .i64 x2, .int .i64 x1] W' fun e w' => e = .returned (.tuple #[.int .i64 bt, .int .i64 be]) ∧ W' = w') := ⟨fun W' => by rw [hbt, hbe]; exact Ty3.rbinary_any n x2 x1 W'⟩
 have HPT : qAc (∀ W1, FI W.heap.size 7 okF (Kd.int .i64) W1 A7b k7 st.dropLast.dropLast → Calls Tryz.prog 94 #[.slice A7b k7 c7b, .int .i64 bt] W1 fun e w' => ∃ A' c', e = .returned (.slice A' (k7 + 1) c') ∧ k7 + 1 ≤ c' ∧ Kd.F (Kd.int .i64) w' (fun k => W1.heap.size ≤ k) A' (k7 + 1) (st.dropLast.dropLast ++ [bt]) ∧ Below W1.heap.size W1 w') := ⟨fun W1 h => by
   have h_ := hk7
   rw [h_] at h ⊢
   exact qBJ A7b c7b st.dropLast.dropLast bt (FI.now h) (by omega) (by first | omega | (simp; omega))⟩
 rw [he, ← hx1] at hT8
 rw [← hx2] at hT7
 clear he
 rw [← hks] at hT8
 rw [← hk8] at hT7
 have HTP := am hT8
 have HTQ := am hT7
 have HK8 := am hk8
 have HK7 := am hk7
 clear hT8 hT7 hk8 hk7 hc8 hc7b hF8 hF7 hx1 hx2 hbt hbe
 clear hL hV hS hT hc2 hc5 hc6 hc7 hl hll hlv hlt hnew hkl hkv hks hkt
 go_enter Tryz.func67, Tryz.ntmps67
 go_upto_region 3 with fail
 simp only [stW] at hWB
 rw [← hWB]
 clear hWB
 have xi0 := (qAa HX.out.i 0).trans rfl
 have xi1 := (qAa HX.out.i 1).trans rfl
 have xi2 := (qAa HX.out.i 2).trans rfl
 have xi3 := (qAa HX.out.i 3).trans rfl
 have xs0 := (qAa HX.out.s 0).trans rfl
 have xs1 := (qAa HX.out.s 1).trans rfl
 go_wp2_with (first | (go_at_call 96; (with_reducible refine (HTP.out _ HB.out).mono ?_); rintro e w1 ⟨rfl, hb1⟩; clear xi0 xi1 xi2 xi3 xs0 xs1; replace HX := am (HX.out.below hb1); replace HB := am (HB.out.trans (hb1.mono HB.out.size)); replace HSZ := am (Nat.le_trans HSZ.out hb1.size); replace FS := am (FI.below FS.out hb1); replace FT := am (FI.below FT.out hb1); replace FR := am (FI.below FR.out hb1); replace FQ := am (FI.below FQ.out hb1); have xi0 := (qAa HX.out.i 0).trans rfl; have xi1 := (qAa HX.out.i 1).trans rfl; have xi2 := (qAa HX.out.i 2).trans rfl; have xi3 := (qAa HX.out.i 3).trans rfl; clear hb1) | (go_at_call 96; (with_reducible refine (HTQ.out _ HB.out).mono ?_); rintro e w2 ⟨rfl, hb2⟩; clear xi0 xi1 xi2 xi3; replace HX := am (HX.out.below hb2); replace HB := am (HB.out.trans (hb2.mono HB.out.size)); replace HSZ := am (Nat.le_trans HSZ.out hb2.size); replace FS := am (FI.below FS.out hb2); replace FT := am (FI.below FT.out hb2); replace FQ := am (FI.below FQ.out hb2); have xi0 := (qAa HX.out.i 0).trans rfl; have xi1 := (qAa HX.out.i 1).trans rfl; have xi2 := (qAa HX.out.i 2).trans rfl; have xi3 := (qAa HX.out.i 3).trans rfl; have xq0 := qAb HX.out.r 0; have xr0 := (qAa HX.out.r 0).trans rfl; have xq1 := qAb HX.out.r 1; have xr1 := (qAa HX.out.r 1).trans rfl; have xq2 := qAb HX.out.r 2; have xr2 := (qAa HX.out.r 2).trans rfl; have xq3 := qAb HX.out.r 3; have xr3 := (qAa HX.out.r 3).trans rfl; have xq4 := qAb HX.out.r 4; have xr4 := (qAa HX.out.r 4).trans rfl; have xq5 := qAb HX.out.r 5; have xr5 := (qAa HX.out.r 5).trans rfl; have xq6 := qAb HX.out.r 6; have xr6 := (qAa HX.out.r 6).trans rfl; have xz0 := (qAa HX.out.z 0).trans rfl; have xz1 := (qAa HX.out.z 1).trans rfl; have xz2 := (qAa HX.out.z 2).trans rfl; have xz3 := (qAa HX.out.z 3).trans rfl; have xz4 := (qAa HX.out.z 4).trans rfl; have xz5 := (qAa HX.out.z 5).trans rfl; have xz6 := (qAa HX.out.z 6).trans rfl; clear hb2) | (go_at_call 98; (with_reducible refine (HU.out _).mono ?_); rintro e w3 ⟨rfl, rfl⟩))
 refine bodyPost_ret (results_cell_row rfl _ _ (W.heap.size + 1 + 1 + 1 + 1) 138 _ (0, 0) _ rfl (lay7 (by first | exact HX.out.r | exact qAL HX.out.r (by simp) _ | exact qAL (qAL HX.out.r (by simp) _) (by simp) _)) Tryz.underlying138 rfl (by kernel_rfl)) rfl ?_
 exact qAM (R := ⟨false, false, false, ⟨[], []⟩, ⟨[], []⟩⟩) (K := 7) (by omega) (by omega) rfl (nl 0) FI.nil rfl (nl 0) FI.nil rfl (nl 0) FI.nil rfl (nl 0) FI.nil (by first | exact HB.out | exact qAf HB.out (by first | omega | (dsimp only; omega)) | exact qAf (qAf HB.out (by first | omega | (dsimp only; omega))) (by first | omega | (dsimp only; omega))) HNW.out
theorem step_7_one {W : World} {okF : Nat → Prop} (n ty bb : Int) (A1 A2 A3 A4 A5 A6 A7 : Option Addr) (n1 c1 c2 n3 c3 n4 c4 c5 c6 c7 : Nat) (res : Int) {ls vs st : List Int} {tr : List S200}
  (hL : Kd.F (Kd.int .i64) W okF A2 ls.length ls) (hc2 : ls.length ≤ c2) (hV : Kd.F (Kd.int .i64) W okF A5 vs.length vs) (hc5 : vs.length ≤ c5) (hS : Kd.F (Kd.int .i64) W okF A6 st.length st) (hc6 : st.length ≤ c6) (hT : Kd.F k200 W okF A7 tr.length tr) (hc7 : tr.length ≤ c7) (hl : st.length ≤ 2000000) (hll : ls.length ≤ 2000000) (hlv : vs.length ≤ 2000000) (hlt : tr.length ≤ 2000000) (hnew : ∀ k, W.heap.size ≤ k → okF k) (he : st.getLast?.isSome = true) (hd : st.dropLast.getLast?.isSome = false):
  Calls Tryz.prog 67 #[.agg #[.slice A1 n1 c1, .int .i64 res, .slice A2 ls.length c2, .slice A3 n3 c3], .agg #[.slice A4 n4 c4, .slice A5 vs.length c5], .agg #[.int .i64 7, .int .i64 n, .int .i64 ty, .int .u64 bb], .agg #[.slice A6 st.length c6, .slice A7 tr.length c7]] W (qAN W okF ⟨false, false, false, ⟨[], []⟩, ⟨[], []⟩⟩) := by
 obtain ⟨A8, k8, c8, hk8, hc8, hF8, hT8⟩ := qBK A6 c6 st hS hc6 hl
 obtain ⟨A7b, k7, c7b, hk7, hc7b, hF7, hT7⟩ := qBK A8 c8 st.dropLast (by rw [hk8] at hF8; exact hF8) (by omega) (by simp; omega)
 obtain ⟨kl, hkl⟩ := eX ls.length
 obtain ⟨kv, hkv⟩ := eX vs.length
 obtain ⟨ks, hks⟩ := eX st.length
 obtain ⟨kt, hkt⟩ := eX tr.length
 obtain ⟨WB, hWB⟩ := eX (stW W #[.slice A1 n1 c1, .int .i64 res, .slice A2 kl c2, .slice A3 n3 c3] #[.slice A4 n4 c4, .slice A5 kv c5] #[.int .i64 7, .int .i64 n, .int .i64 ty, .int .u64 bb] #[.slice A6 ks c6, .slice A7 kt c7] #[.bool true, .bool true, .bool false, .slice A6 ks c6, .slice A7 kt c7, .slice none 0 0, .slice none 0 0])
 have HX : qAc (SB W.heap.size #[.slice A1 n1 c1, .int .i64 res, .slice A2 kl c2, .slice A3 n3 c3] #[.slice A4 n4 c4, .slice A5 kv c5] #[.int .i64 7, .int .i64 n, .int .i64 ty, .int .u64 bb] #[.slice A6 ks c6, .slice A7 kt c7] #[.bool true, .bool true, .bool false, .slice A6 ks c6, .slice A7 kt c7, .slice none 0 0, .slice none 0 0] WB) := ⟨hWB ▸ qBg W _ _ _ _ _⟩
 have HB : qAc (Below W.heap.size W WB) := ⟨hWB ▸ qAI W _ _ _ _ _⟩
 have HSZ : qAc (W.heap.size + 7 ≤ WB.heap.size) := ⟨by rw [hWB, qAT]; exact nl _⟩
 have FS : qAc (FI W.heap.size 7 okF (Kd.int .i64) WB A6 ks st) := ⟨by rw [hks]; exact FI.of hS HB.out⟩
 have FT : qAc (FI W.heap.size 7 okF k200 WB A7 kt tr) := ⟨by rw [hkt]; exact FI.of hT HB.out⟩
 have HKL := am hkl
 have HKV := am hkv
 have HKS := am hks
 have HKT := am hkt
 have HC6 := am hc6
 have HC7 := am hc7
 have HLS := am hl
 have HNW := am hnew
 have HLT := am hlt
 rw [← hkl, ← hkv, ← hks, ← hkt]
 have FR : qAc (FI W.heap.size 7 okF (Kd.int .i64) WB A8 k8 st.dropLast) := ⟨by rw [hk8] at hF8 ⊢; exact FI.of hF8 HB.out⟩
 have FQ : qAc (FI W.heap.size 7 okF (Kd.int .i64) WB A7b k7 st.dropLast.dropLast) := ⟨by rw [hk7] at hF7 ⊢; exact FI.of hF7 HB.out⟩
 obtain ⟨x1, hx1⟩ := eX (st.getLast?.getD 0)
 obtain ⟨x2, hx2⟩ := eX (st.dropLast.getLast?.getD 0)
 obtain ⟨bt, hbt⟩ := eX ((Ty2.binary n x2 x1).1)
 obtain ⟨be, hbe⟩ := eX ((Ty2.binary n x2 x1).2)
 have HU : qAc (∀ W', Calls Tryz.prog 98 #[.int .i64 n, .int .i64 x2, .int .i64 x1] W' fun e w' => e = .returned (.tuple #[.int .i64 bt, .int .i64 be]) ∧ W' = w') := ⟨fun W' => by rw [hbt, hbe]; exact Ty3.rbinary_any n x2 x1 W'⟩
 have HPT : qAc (∀ W1, FI W.heap.size 7 okF (Kd.int .i64) W1 A7b k7 st.dropLast.dropLast → Calls Tryz.prog 94 #[.slice A7b k7 c7b, .int .i64 bt] W1 fun e w' => ∃ A' c', e = .returned (.slice A' (k7 + 1) c') ∧ k7 + 1 ≤ c' ∧ Kd.F (Kd.int .i64) w' (fun k => W1.heap.size ≤ k) A' (k7 + 1) (st.dropLast.dropLast ++ [bt]) ∧ Below W1.heap.size W1 w') := ⟨fun W1 h => by
   have h_ := hk7
   rw [h_] at h ⊢
   exact qBJ A7b c7b st.dropLast.dropLast bt (FI.now h) (by omega) (by first | omega | (simp; omega))⟩
 rw [he, ← hx1] at hT8
 rw [hd, ← hx2] at hT7
 clear he hd
 rw [← hks] at hT8
 rw [← hk8] at hT7
 have HTP := am hT8
 have HTQ := am hT7
 have HK8 := am hk8
 have HK7 := am hk7
 clear hT8 hT7 hk8 hk7 hc8 hc7b hF8 hF7 hx1 hx2 hbt hbe
 clear hL hV hS hT hc2 hc5 hc6 hc7 hl hll hlv hlt hnew hkl hkv hks hkt
 go_enter Tryz.func67, Tryz.ntmps67
 go_upto_region 3 with fail
 simp only [stW] at hWB
 rw [← hWB]
 clear hWB
 have xi0 := (qAa HX.out.i 0).trans rfl
 have xi1 := (qAa HX.out.i 1).trans rfl
 have xi2 := (qAa HX.out.i 2).trans rfl
 have xi3 := (qAa HX.out.i 3).trans rfl
 have xs0 := (qAa HX.out.s 0).trans rfl
 have xs1 := (qAa HX.out.s 1).trans rfl
 go_wp2_with (first | (go_at_call 96; (with_reducible refine (HTP.out _ HB.out).mono ?_); rintro e w1 ⟨rfl, hb1⟩; clear xi0 xi1 xi2 xi3 xs0 xs1; replace HX := am (HX.out.below hb1); replace HB := am (HB.out.trans (hb1.mono HB.out.size)); replace HSZ := am (Nat.le_trans HSZ.out hb1.size); replace FS := am (FI.below FS.out hb1); replace FT := am (FI.below FT.out hb1); replace FR := am (FI.below FR.out hb1); replace FQ := am (FI.below FQ.out hb1); have xi0 := (qAa HX.out.i 0).trans rfl; have xi1 := (qAa HX.out.i 1).trans rfl; have xi2 := (qAa HX.out.i 2).trans rfl; have xi3 := (qAa HX.out.i 3).trans rfl; clear hb1) | (go_at_call 96; (with_reducible refine (HTQ.out _ HB.out).mono ?_); rintro e w2 ⟨rfl, hb2⟩; clear xi0 xi1 xi2 xi3; replace HX := am (HX.out.below hb2); replace HB := am (HB.out.trans (hb2.mono HB.out.size)); replace HSZ := am (Nat.le_trans HSZ.out hb2.size); replace FS := am (FI.below FS.out hb2); replace FT := am (FI.below FT.out hb2); replace FQ := am (FI.below FQ.out hb2); have xi0 := (qAa HX.out.i 0).trans rfl; have xi1 := (qAa HX.out.i 1).trans rfl; have xi2 := (qAa HX.out.i 2).trans rfl; have xi3 := (qAa HX.out.i 3).trans rfl; have xq0 := qAb HX.out.r 0; have xr0 := (qAa HX.out.r 0).trans rfl; have xq1 := qAb HX.out.r 1; have xr1 := (qAa HX.out.r 1).trans rfl; have xq2 := qAb HX.out.r 2; have xr2 := (qAa HX.out.r 2).trans rfl; have xq3 := qAb HX.out.r 3; have xr3 := (qAa HX.out.r 3).trans rfl; have xq4 := qAb HX.out.r 4; have xr4 := (qAa HX.out.r 4).trans rfl; have xq5 := qAb HX.out.r 5; have xr5 := (qAa HX.out.r 5).trans rfl; have xq6 := qAb HX.out.r 6; have xr6 := (qAa HX.out.r 6).trans rfl; have xz0 := (qAa HX.out.z 0).trans rfl; have xz1 := (qAa HX.out.z 1).trans rfl; have xz2 := (qAa HX.out.z 2).trans rfl; have xz3 := (qAa HX.out.z 3).trans rfl; have xz4 := (qAa HX.out.z 4).trans rfl; have xz5 := (qAa HX.out.z 5).trans rfl; have xz6 := (qAa HX.out.z 6).trans rfl; clear hb2) | (go_at_call 98; (with_reducible refine (HU.out _).mono ?_); rintro e w3 ⟨rfl, rfl⟩))
 refine bodyPost_ret (results_cell_row rfl _ _ (W.heap.size + 1 + 1 + 1 + 1) 138 _ (0, 0) _ rfl (lay7 (by first | exact HX.out.r | exact qAL HX.out.r (by simp) _ | exact qAL (qAL HX.out.r (by simp) _) (by simp) _)) Tryz.underlying138 rfl (by kernel_rfl)) rfl ?_
 exact qAM (R := ⟨false, false, false, ⟨[], []⟩, ⟨[], []⟩⟩) (K := 7) (by omega) (by omega) rfl (nl 0) FI.nil rfl (nl 0) FI.nil rfl (nl 0) FI.nil rfl (nl 0) FI.nil (by first | exact HB.out | exact qAf HB.out (by first | omega | (dsimp only; omega)) | exact qAf (qAf HB.out (by first | omega | (dsimp only; omega))) (by first | omega | (dsimp only; omega))) HNW.out
theorem step_7_bad {W : World} {okF : Nat → Prop} (n ty bb : Int) (A1 A2 A3 A4 A5 A6 A7 : Option Addr) (n1 c1 c2 n3 c3 n4 c4 c5 c6 c7 : Nat) (res : Int) {ls vs st : List Int} {tr : List S200}
  (hL : Kd.F (Kd.int .i64) W okF A2 ls.length ls) (hc2 : ls.length ≤ c2) (hV : Kd.F (Kd.int .i64) W okF A5 vs.length vs) (hc5 : vs.length ≤ c5) (hS : Kd.F (Kd.int .i64) W okF A6 st.length st) (hc6 : st.length ≤ c6) (hT : Kd.F k200 W okF A7 tr.length tr) (hc7 : tr.length ≤ c7) (hl : st.length ≤ 2000000) (hll : ls.length ≤ 2000000) (hlv : vs.length ≤ 2000000) (hlt : tr.length ≤ 2000000) (hnew : ∀ k, W.heap.size ≤ k → okF k) (he : st.getLast?.isSome = true) (hd : st.dropLast.getLast?.isSome = true) (hu : (Ty2.binary n (st.dropLast.getLast?.getD 0) (st.getLast?.getD 0)).2 ≠ 0):
  Calls Tryz.prog 67 #[.agg #[.slice A1 n1 c1, .int .i64 res, .slice A2 ls.length c2, .slice A3 n3 c3], .agg #[.slice A4 n4 c4, .slice A5 vs.length c5], .agg #[.int .i64 7, .int .i64 n, .int .i64 ty, .int .u64 bb], .agg #[.slice A6 st.length c6, .slice A7 tr.length c7]] W (qAN W okF ⟨false, false, false, ⟨[], []⟩, ⟨[], []⟩⟩) := by
 obtain ⟨A8, k8, c8, hk8, hc8, hF8, hT8⟩ := qBK A6 c6 st hS hc6 hl
 obtain ⟨A7b, k7, c7b, hk7, hc7b, hF7, hT7⟩ := qBK A8 c8 st.dropLast (by rw [hk8] at hF8; exact hF8) (by omega) (by simp; omega)
 obtain ⟨kl, hkl⟩ := eX ls.length
 obtain ⟨kv, hkv⟩ := eX vs.length
 obtain ⟨ks, hks⟩ := eX st.length
 obtain ⟨kt, hkt⟩ := eX tr.length
 obtain ⟨WB, hWB⟩ := eX (stW W #[.slice A1 n1 c1, .int .i64 res, .slice A2 kl c2, .slice A3 n3 c3] #[.slice A4 n4 c4, .slice A5 kv c5] #[.int .i64 7, .int .i64 n, .int .i64 ty, .int .u64 bb] #[.slice A6 ks c6, .slice A7 kt c7] #[.bool true, .bool true, .bool false, .slice A6 ks c6, .slice A7 kt c7, .slice none 0 0, .slice none 0 0])
 have HX : qAc (SB W.heap.size #[.slice A1 n1 c1, .int .i64 res, .slice A2 kl c2, .slice A3 n3 c3] #[.slice A4 n4 c4, .slice A5 kv c5] #[.int .i64 7, .int .i64 n, .int .i64 ty, .int .u64 bb] #[.slice A6 ks c6, .slice A7 kt c7] #[.bool true, .bool true, .bool false, .slice A6 ks c6, .slice A7 kt c7, .slice none 0 0, .slice none 0 0] WB) := ⟨hWB ▸ qBg W _ _ _ _ _⟩
 have HB : qAc (Below W.heap.size W WB) := ⟨hWB ▸ qAI W _ _ _ _ _⟩
 have HSZ : qAc (W.heap.size + 7 ≤ WB.heap.size) := ⟨by rw [hWB, qAT]; exact nl _⟩
 have FS : qAc (FI W.heap.size 7 okF (Kd.int .i64) WB A6 ks st) := ⟨by rw [hks]; exact FI.of hS HB.out⟩
 have FT : qAc (FI W.heap.size 7 okF k200 WB A7 kt tr) := ⟨by rw [hkt]; exact FI.of hT HB.out⟩
 have HKL := am hkl
 have HKV := am hkv
 have HKS := am hks
 have HKT := am hkt
 have HC6 := am hc6
 have HC7 := am hc7
 have HLS := am hl
 have HNW := am hnew
 have HLT := am hlt
 rw [← hkl, ← hkv, ← hks, ← hkt]
 have FR : qAc (FI W.heap.size 7 okF (Kd.int .i64) WB A8 k8 st.dropLast) := ⟨by rw [hk8] at hF8 ⊢; exact FI.of hF8 HB.out⟩
 have FQ : qAc (FI W.heap.size 7 okF (Kd.int .i64) WB A7b k7 st.dropLast.dropLast) := ⟨by rw [hk7] at hF7 ⊢; exact FI.of hF7 HB.out⟩
 obtain ⟨x1, hx1⟩ := eX (st.getLast?.getD 0)
 obtain ⟨x2, hx2⟩ := eX (st.dropLast.getLast?.getD 0)
 obtain ⟨bt, hbt⟩ := eX ((Ty2.binary n x2 x1).1)
 obtain ⟨be, hbe⟩ := eX ((Ty2.binary n x2 x1).2)
 have HU : qAc (∀ W', Calls Tryz.prog 98 #[.int .i64 n, .int .i64 x2, .int .i64 x1] W' fun e w' => e = .returned (.tuple #[.int .i64 bt, .int .i64 be]) ∧ W' = w') := ⟨fun W' => by rw [hbt, hbe]; exact Ty3.rbinary_any n x2 x1 W'⟩
 have HPT : qAc (∀ W1, FI W.heap.size 7 okF (Kd.int .i64) W1 A7b k7 st.dropLast.dropLast → Calls Tryz.prog 94 #[.slice A7b k7 c7b, .int .i64 bt] W1 fun e w' => ∃ A' c', e = .returned (.slice A' (k7 + 1) c') ∧ k7 + 1 ≤ c' ∧ Kd.F (Kd.int .i64) w' (fun k => W1.heap.size ≤ k) A' (k7 + 1) (st.dropLast.dropLast ++ [bt]) ∧ Below W1.heap.size W1 w') := ⟨fun W1 h => by
   have h_ := hk7
   rw [h_] at h ⊢
   exact qBJ A7b c7b st.dropLast.dropLast bt (FI.now h) (by omega) (by first | omega | (simp; omega))⟩
 rw [he, ← hx1] at hT8
 rw [hd, ← hx2] at hT7
 rw [← hx1, ← hx2, ← hbe] at hu
 have hq : (be != 0) = true := bne_iff_ne.mpr hu
 clear he hd hu
 rw [← hks] at hT8
 rw [← hk8] at hT7
 have HTP := am hT8
 have HTQ := am hT7
 have HK8 := am hk8
 have HK7 := am hk7
 clear hT8 hT7 hk8 hk7 hc8 hc7b hF8 hF7 hx1 hx2 hbt hbe
 clear hL hV hS hT hc2 hc5 hc6 hc7 hl hll hlv hlt hnew hkl hkv hks hkt
 go_enter Tryz.func67, Tryz.ntmps67
 go_upto_region 3 with fail
 simp only [stW] at hWB
 rw [← hWB]
 clear hWB
 have xi0 := (qAa HX.out.i 0).trans rfl
 have xi1 := (qAa HX.out.i 1).trans rfl
 have xi2 := (qAa HX.out.i 2).trans rfl
 have xi3 := (qAa HX.out.i 3).trans rfl
 have xs0 := (qAa HX.out.s 0).trans rfl
 have xs1 := (qAa HX.out.s 1).trans rfl
 go_wp2_with (first | (go_at_call 96; (with_reducible refine (HTP.out _ HB.out).mono ?_); rintro e w1 ⟨rfl, hb1⟩; clear xi0 xi1 xi2 xi3 xs0 xs1; replace HX := am (HX.out.below hb1); replace HB := am (HB.out.trans (hb1.mono HB.out.size)); replace HSZ := am (Nat.le_trans HSZ.out hb1.size); replace FS := am (FI.below FS.out hb1); replace FT := am (FI.below FT.out hb1); replace FR := am (FI.below FR.out hb1); replace FQ := am (FI.below FQ.out hb1); have xi0 := (qAa HX.out.i 0).trans rfl; have xi1 := (qAa HX.out.i 1).trans rfl; have xi2 := (qAa HX.out.i 2).trans rfl; have xi3 := (qAa HX.out.i 3).trans rfl; clear hb1) | (go_at_call 96; (with_reducible refine (HTQ.out _ HB.out).mono ?_); rintro e w2 ⟨rfl, hb2⟩; clear xi0 xi1 xi2 xi3; replace HX := am (HX.out.below hb2); replace HB := am (HB.out.trans (hb2.mono HB.out.size)); replace HSZ := am (Nat.le_trans HSZ.out hb2.size); replace FS := am (FI.below FS.out hb2); replace FT := am (FI.below FT.out hb2); replace FQ := am (FI.below FQ.out hb2); have xi0 := (qAa HX.out.i 0).trans rfl; have xi1 := (qAa HX.out.i 1).trans rfl; have xi2 := (qAa HX.out.i 2).trans rfl; have xi3 := (qAa HX.out.i 3).trans rfl; have xq0 := qAb HX.out.r 0; have xr0 := (qAa HX.out.r 0).trans rfl; have xq1 := qAb HX.out.r 1; have xr1 := (qAa HX.out.r 1).trans rfl; have xq2 := qAb HX.out.r 2; have xr2 := (qAa HX.out.r 2).trans rfl; have xq3 := qAb HX.out.r 3; have xr3 := (qAa HX.out.r 3).trans rfl; have xq4 := qAb HX.out.r 4; have xr4 := (qAa HX.out.r 4).trans rfl; have xq5 := qAb HX.out.r 5; have xr5 := (qAa HX.out.r 5).trans rfl; have xq6 := qAb HX.out.r 6; have xr6 := (qAa HX.out.r 6).trans rfl; have xz0 := (qAa HX.out.z 0).trans rfl; have xz1 := (qAa HX.out.z 1).trans rfl; have xz2 := (qAa HX.out.z 2).trans rfl; have xz3 := (qAa HX.out.z 3).trans rfl; have xz4 := (qAa HX.out.z 4).trans rfl; have xz5 := (qAa HX.out.z 5).trans rfl; have xz6 := (qAa HX.out.z 6).trans rfl; clear hb2) | (go_at_call 98; (with_reducible refine (HU.out _).mono ?_); rintro e w3 ⟨rfl, rfl⟩))
 refine bodyPost_ret (results_cell_row rfl _ _ (W.heap.size + 1 + 1 + 1 + 1) 138 _ (0, 0) _ rfl (lay7 (by first | exact HX.out.r | exact qAL HX.out.r (by simp) _ | exact qAL (qAL HX.out.r (by simp) _) (by simp) _)) Tryz.underlying138 rfl (by kernel_rfl)) rfl ?_
 exact qAM (R := ⟨false, false, false, ⟨[], []⟩, ⟨[], []⟩⟩) (K := 7) (by omega) (by omega) rfl (nl 0) FI.nil rfl (nl 0) FI.nil rfl (nl 0) FI.nil rfl (nl 0) FI.nil (by first | exact HB.out | exact qAf HB.out (by first | omega | (dsimp only; omega)) | exact qAf (qAf HB.out (by first | omega | (dsimp only; omega))) (by first | omega | (dsimp only; omega))) HNW.out
theorem step_7 {W : World} {okF : Nat → Prop} (n ty bb : Int) (A1 A2 A3 A4 A5 A6 A7 : Option Addr) (n1 c1 c2 n3 c3 n4 c4 c5 c6 c7 : Nat) (res : Int) {ls vs st : List Int} {tr : List S200}
  (hL : Kd.F (Kd.int .i64) W okF A2 ls.length ls) (hc2 : ls.length ≤ c2) (hV : Kd.F (Kd.int .i64) W okF A5 vs.length vs) (hc5 : vs.length ≤ c5) (hS : Kd.F (Kd.int .i64) W okF A6 st.length st) (hc6 : st.length ≤ c6) (hT : Kd.F k200 W okF A7 tr.length tr) (hc7 : tr.length ≤ c7) (hl : st.length ≤ 2000000) (hll : ls.length ≤ 2000000) (hlv : vs.length ≤ 2000000) (hlt : tr.length ≤ 2000000) (hnew : ∀ k, W.heap.size ≤ k → okF k) (he : st.getLast?.isSome = true) (hd : st.dropLast.getLast?.isSome = true) (hu : (Ty2.binary n (st.dropLast.getLast?.getD 0) (st.getLast?.getD 0)).2 = 0):
  Calls Tryz.prog 67 #[.agg #[.slice A1 n1 c1, .int .i64 res, .slice A2 ls.length c2, .slice A3 n3 c3], .agg #[.slice A4 n4 c4, .slice A5 vs.length c5], .agg #[.int .i64 7, .int .i64 n, .int .i64 ty, .int .u64 bb], .agg #[.slice A6 st.length c6, .slice A7 tr.length c7]] W (qAN W okF ⟨true, true, false, ⟨st.dropLast.dropLast ++ [(Ty2.binary n (st.dropLast.getLast?.getD 0) (st.getLast?.getD 0)).1], tr⟩, ⟨[], []⟩⟩) := by
 obtain ⟨A8, k8, c8, hk8, hc8, hF8, hT8⟩ := qBK A6 c6 st hS hc6 hl
 obtain ⟨A7b, k7, c7b, hk7, hc7b, hF7, hT7⟩ := qBK A8 c8 st.dropLast (by rw [hk8] at hF8; exact hF8) (by omega) (by simp; omega)
 obtain ⟨kl, hkl⟩ := eX ls.length
 obtain ⟨kv, hkv⟩ := eX vs.length
 obtain ⟨ks, hks⟩ := eX st.length
 obtain ⟨kt, hkt⟩ := eX tr.length
 obtain ⟨WB, hWB⟩ := eX (stW W #[.slice A1 n1 c1, .int .i64 res, .slice A2 kl c2, .slice A3 n3 c3] #[.slice A4 n4 c4, .slice A5 kv c5] #[.int .i64 7, .int .i64 n, .int .i64 ty, .int .u64 bb] #[.slice A6 ks c6, .slice A7 kt c7] #[.bool true, .bool true, .bool false, .slice A6 ks c6, .slice A7 kt c7, .slice none 0 0, .slice none 0 0])
 have HX : qAc (SB W.heap.size #[.slice A1 n1 c1, .int .i64 res, .slice A2 kl c2, .slice A3 n3 c3] #[.slice A4 n4 c4, .slice A5 kv c5] #[.int .i64 7, .int .i64 n, .int .i64 ty, .int .u64 bb] #[.slice A6 ks c6, .slice A7 kt c7] #[.bool true, .bool true, .bool false, .slice A6 ks c6, .slice A7 kt c7, .slice none 0 0, .slice none 0 0] WB) := ⟨hWB ▸ qBg W _ _ _ _ _⟩
 have HB : qAc (Below W.heap.size W WB) := ⟨hWB ▸ qAI W _ _ _ _ _⟩
 have HSZ : qAc (W.heap.size + 7 ≤ WB.heap.size) := ⟨by rw [hWB, qAT]; exact nl _⟩
 have FS : qAc (FI W.heap.size 7 okF (Kd.int .i64) WB A6 ks st) := ⟨by rw [hks]; exact FI.of hS HB.out⟩
 have FT : qAc (FI W.heap.size 7 okF k200 WB A7 kt tr) := ⟨by rw [hkt]; exact FI.of hT HB.out⟩
 have HKL := am hkl
 have HKV := am hkv
 have HKS := am hks
 have HKT := am hkt
 have HC6 := am hc6
 have HC7 := am hc7
 have HLS := am hl
 have HNW := am hnew
 have HLT := am hlt
 rw [← hkl, ← hkv, ← hks, ← hkt]
 have FR : qAc (FI W.heap.size 7 okF (Kd.int .i64) WB A8 k8 st.dropLast) := ⟨by rw [hk8] at hF8 ⊢; exact FI.of hF8 HB.out⟩
 have FQ : qAc (FI W.heap.size 7 okF (Kd.int .i64) WB A7b k7 st.dropLast.dropLast) := ⟨by rw [hk7] at hF7 ⊢; exact FI.of hF7 HB.out⟩
 obtain ⟨x1, hx1⟩ := eX (st.getLast?.getD 0)
 obtain ⟨x2, hx2⟩ := eX (st.dropLast.getLast?.getD 0)
 obtain ⟨bt, hbt⟩ := eX ((Ty2.binary n x2 x1).1)
 obtain ⟨be, hbe⟩ := eX ((Ty2.binary n x2 x1).2)
 have HU : qAc (∀ W', Calls Tryz.prog 98 #[.int .i64 n, .int .i64 x2, .int .i64 x1] W' fun e w' => e = .returned (.tuple #[.int .i64 bt, .int .i64 be]) ∧ W' = w') := ⟨fun W' => by rw [hbt, hbe]; exact Ty3.rbinary_any n x2 x1 W'⟩
 have HPT : qAc (∀ W1, FI W.heap.size 7 okF (Kd.int .i64) W1 A7b k7 st.dropLast.dropLast → Calls Tryz.prog 94 #[.slice A7b k7 c7b, .int .i64 bt] W1 fun e w' => ∃ A' c', e = .returned (.slice A' (k7 + 1) c') ∧ k7 + 1 ≤ c' ∧ Kd.F (Kd.int .i64) w' (fun k => W1.heap.size ≤ k) A' (k7 + 1) (st.dropLast.dropLast ++ [bt]) ∧ Below W1.heap.size W1 w') := ⟨fun W1 h => by
   have h_ := hk7
   rw [h_] at h ⊢
   exact qBJ A7b c7b st.dropLast.dropLast bt (FI.now h) (by omega) (by first | omega | (simp; omega))⟩
 rw [he, ← hx1] at hT8
 rw [hd, ← hx2] at hT7
 rw [← hx1, ← hx2, ← hbe] at hu
 rw [← hx1, ← hx2, ← hbt]
 subst hu
 clear he hd
 rw [← hks] at hT8
 rw [← hk8] at hT7
 have HTP := am hT8
 have HTQ := am hT7
 have HK8 := am hk8
 have HK7 := am hk7
 clear hT8 hT7 hk8 hk7 hc8 hc7b hF8 hF7 hx1 hx2 hbt hbe
 clear hL hV hS hT hc2 hc5 hc6 hc7 hl hll hlv hlt hnew hkl hkv hks hkt
 go_enter Tryz.func67, Tryz.ntmps67
 go_upto_region 3 with fail
 simp only [stW] at hWB
 rw [← hWB]
 clear hWB
 have xi0 := (qAa HX.out.i 0).trans rfl
 have xi1 := (qAa HX.out.i 1).trans rfl
 have xi2 := (qAa HX.out.i 2).trans rfl
 have xi3 := (qAa HX.out.i 3).trans rfl
 have xs0 := (qAa HX.out.s 0).trans rfl
 have xs1 := (qAa HX.out.s 1).trans rfl
 go_wp2_with (first | (go_at_call 96; (with_reducible refine (HTP.out _ HB.out).mono ?_); rintro e w1 ⟨rfl, hb1⟩; clear xi0 xi1 xi2 xi3 xs0 xs1; replace HX := am (HX.out.below hb1); replace HB := am (HB.out.trans (hb1.mono HB.out.size)); replace HSZ := am (Nat.le_trans HSZ.out hb1.size); replace FS := am (FI.below FS.out hb1); replace FT := am (FI.below FT.out hb1); replace FR := am (FI.below FR.out hb1); replace FQ := am (FI.below FQ.out hb1); have xi0 := (qAa HX.out.i 0).trans rfl; have xi1 := (qAa HX.out.i 1).trans rfl; have xi2 := (qAa HX.out.i 2).trans rfl; have xi3 := (qAa HX.out.i 3).trans rfl; clear hb1) | (go_at_call 96; (with_reducible refine (HTQ.out _ HB.out).mono ?_); rintro e w2 ⟨rfl, hb2⟩; clear xi0 xi1 xi2 xi3; replace HX := am (HX.out.below hb2); replace HB := am (HB.out.trans (hb2.mono HB.out.size)); replace HSZ := am (Nat.le_trans HSZ.out hb2.size); replace FS := am (FI.below FS.out hb2); replace FT := am (FI.below FT.out hb2); replace FQ := am (FI.below FQ.out hb2); have xi0 := (qAa HX.out.i 0).trans rfl; have xi1 := (qAa HX.out.i 1).trans rfl; have xi2 := (qAa HX.out.i 2).trans rfl; have xi3 := (qAa HX.out.i 3).trans rfl; have xq0 := qAb HX.out.r 0; have xr0 := (qAa HX.out.r 0).trans rfl; have xq1 := qAb HX.out.r 1; have xr1 := (qAa HX.out.r 1).trans rfl; have xq2 := qAb HX.out.r 2; have xr2 := (qAa HX.out.r 2).trans rfl; have xq3 := qAb HX.out.r 3; have xr3 := (qAa HX.out.r 3).trans rfl; have xq4 := qAb HX.out.r 4; have xr4 := (qAa HX.out.r 4).trans rfl; have xq5 := qAb HX.out.r 5; have xr5 := (qAa HX.out.r 5).trans rfl; have xq6 := qAb HX.out.r 6; have xr6 := (qAa HX.out.r 6).trans rfl; have xo0 := (qAa HX.out.o 0).trans rfl; have xg0 := qAb HX.out.o 0; have xo1 := (qAa HX.out.o 1).trans rfl; have xo2 := (qAa HX.out.o 2).trans rfl; have xo3 := (qAa HX.out.o 3).trans rfl; have xg3 := qAb HX.out.o 3; have xo4 := (qAa HX.out.o 4).trans rfl; have xg4 := qAb HX.out.o 4; have xo5 := (qAa HX.out.o 5).trans rfl; have xo6 := (qAa HX.out.o 6).trans rfl; clear hb2) | (go_at_call 98; (with_reducible refine (HU.out _).mono ?_); rintro e w3 ⟨rfl, rfl⟩) | (go_at_call 94; (with_reducible refine (HPT.out _ FQ.out).mono ?_); rintro e w4 ⟨A9, c9, rfl, hc9, hF9, hb4⟩; have FN := am (FI.new (okF := okF) hF9 HSZ.out); have HC9 := am hc9; clear hF9 hc9; clear xi0 xi1 xi2 xi3 xr0 xr1 xr2 xr3 xr4 xr5 xr6 xo0 xo1 xo2 xo3 xo4 xo5 xo6 xq0 xq1 xq2 xq3 xq4 xq5 xq6 xg0 xg3 xg4; replace HX := am (HX.out.below hb4); replace HB := am (HB.out.trans (hb4.mono HB.out.size)); replace HSZ := am (Nat.le_trans HSZ.out hb4.size); replace FS := am (FI.below FS.out hb4); replace FT := am (FI.below FT.out hb4); have xq0 := qAb HX.out.r 0; have xr0 := (qAa HX.out.r 0).trans rfl; have xq1 := qAb HX.out.r 1; have xr1 := (qAa HX.out.r 1).trans rfl; have xq2 := qAb HX.out.r 2; have xr2 := (qAa HX.out.r 2).trans rfl; have xq3 := qAb HX.out.r 3; have xr3 := (qAa HX.out.r 3).trans rfl; have xq4 := qAb HX.out.r 4; have xr4 := (qAa HX.out.r 4).trans rfl; have xq5 := qAb HX.out.r 5; have xr5 := (qAa HX.out.r 5).trans rfl; have xq6 := qAb HX.out.r 6; have xr6 := (qAa HX.out.r 6).trans rfl; have xo0 := (qAa HX.out.o 0).trans rfl; have xg0 := qAb HX.out.o 0; have xo1 := (qAa HX.out.o 1).trans rfl; have xo2 := (qAa HX.out.o 2).trans rfl; have xo3 := (qAa HX.out.o 3).trans rfl; have xg3 := qAb HX.out.o 3; have xo4 := (qAa HX.out.o 4).trans rfl; have xg4 := qAb HX.out.o 4; have xo5 := (qAa HX.out.o 5).trans rfl; have xo6 := (qAa HX.out.o 6).trans rfl; clear hb4))
 refine bodyPost_ret (results_cell_row rfl _ _ (W.heap.size + 1 + 1 + 1 + 1) 138 _ (0, 0) _ rfl (lay7 (by first | exact HX.out.r | exact qAL HX.out.r (by simp) _ | exact qAL (qAL HX.out.r (by simp) _) (by simp) _)) Tryz.underlying138 rfl (by kernel_rfl)) rfl ?_
 exact qAM (R := ⟨true, true, false, ⟨st.dropLast.dropLast ++ [bt], tr⟩, ⟨[], []⟩⟩) (K := 7) (by omega) (by omega) (by rw [HK7.out]; simp) HC9.out (by first | exact FN.out | exact FI.set FN.out (by first | omega | (dsimp only; omega)) (by first | omega | (dsimp only; omega)) _ | exact FI.set (FI.set FN.out (by first | omega | (dsimp only; omega)) (by first | omega | (dsimp only; omega)) _) (by first | omega | (dsimp only; omega)) (by first | omega | (dsimp only; omega)) _) HKT.out (by have := HC7.out; have := HKT.out; omega) (by first | exact FT.out | exact FI.set FT.out (by first | omega | (dsimp only; omega)) (by first | omega | (dsimp only; omega)) _ | exact FI.set (FI.set FT.out (by first | omega | (dsimp only; omega)) (by first | omega | (dsimp only; omega)) _) (by first | omega | (dsimp only; omega)) (by first | omega | (dsimp only; omega)) _) rfl (nl 0) FI.nil rfl (nl 0) FI.nil (by first | exact HB.out | exact qAf HB.out (by first | omega | (dsimp only; omega)) | exact qAf (qAf HB.out (by first | omega | (dsimp only; omega))) (by first | omega | (dsimp only; omega))) HNW.out
theorem step_2_none {W : World} {okF : Nat → Prop} (n ty bb : Int) (A1 A2 A3 A4 A5 A6 A7 : Option Addr) (n1 c1 c2 n3 c3 n4 c4 c5 c6 c7 : Nat) (res : Int) {ls vs st : List Int} {tr : List S200}
  (hL : Kd.F (Kd.int .i64) W okF A2 ls.length ls) (hc2 : ls.length ≤ c2) (hV : Kd.F (Kd.int .i64) W okF A5 vs.length vs) (hc5 : vs.length ≤ c5) (hS : Kd.F (Kd.int .i64) W okF A6 st.length st) (hc6 : st.length ≤ c6) (hT : Kd.F k200 W okF A7 tr.length tr) (hc7 : tr.length ≤ c7) (hl : st.length ≤ 2000000) (hll : ls.length ≤ 2000000) (hlv : vs.length ≤ 2000000) (hlt : tr.length ≤ 2000000) (hnew : ∀ k, W.heap.size ≤ k → okF k) (h0 : 0 ≤ n) (hn : ls.length ≤ n):
  Calls Tryz.prog 67 #[.agg #[.slice A1 n1 c1, .int .i64 res, .slice A2 ls.length c2, .slice A3 n3 c3], .agg #[.slice A4 n4 c4, .slice A5 vs.length c5], .agg #[.int .i64 2, .int .i64 n, .int .i64 ty, .int .u64 bb], .agg #[.slice A6 st.length c6, .slice A7 tr.length c7]] W (qAN W okF ⟨false, false, false, ⟨[], []⟩, ⟨[], []⟩⟩) := by
 obtain ⟨kl, hkl⟩ := eX ls.length
 obtain ⟨kv, hkv⟩ := eX vs.length
 obtain ⟨ks, hks⟩ := eX st.length
 obtain ⟨kt, hkt⟩ := eX tr.length
 obtain ⟨WB, hWB⟩ := eX (stW W #[.slice A1 n1 c1, .int .i64 res, .slice A2 kl c2, .slice A3 n3 c3] #[.slice A4 n4 c4, .slice A5 kv c5] #[.int .i64 2, .int .i64 n, .int .i64 ty, .int .u64 bb] #[.slice A6 ks c6, .slice A7 kt c7] #[.bool true, .bool true, .bool false, .slice A6 ks c6, .slice A7 kt c7, .slice none 0 0, .slice none 0 0])
 have HX : qAc (SB W.heap.size #[.slice A1 n1 c1, .int .i64 res, .slice A2 kl c2, .slice A3 n3 c3] #[.slice A4 n4 c4, .slice A5 kv c5] #[.int .i64 2, .int .i64 n, .int .i64 ty, .int .u64 bb] #[.slice A6 ks c6, .slice A7 kt c7] #[.bool true, .bool true, .bool false, .slice A6 ks c6, .slice A7 kt c7, .slice none 0 0, .slice none 0 0] WB) := ⟨hWB ▸ qBg W _ _ _ _ _⟩
 have HB : qAc (Below W.heap.size W WB) := ⟨hWB ▸ qAI W _ _ _ _ _⟩
 have HSZ : qAc (W.heap.size + 7 ≤ WB.heap.size) := ⟨by rw [hWB, qAT]; exact nl _⟩
 have FS : qAc (FI W.heap.size 7 okF (Kd.int .i64) WB A6 ks st) := ⟨by rw [hks]; exact FI.of hS HB.out⟩
 have FT : qAc (FI W.heap.size 7 okF k200 WB A7 kt tr) := ⟨by rw [hkt]; exact FI.of hT HB.out⟩
 have HKL := am hkl
 have HKV := am hkv
 have HKS := am hks
 have HKT := am hkt
 have HC6 := am hc6
 have HC7 := am hc7
 have HLS := am hl
 have HNW := am hnew
 have HLT := am hlt
 rw [← hkl, ← hkv, ← hks, ← hkt]
 have hd : decide (n ≥ (kl : Int)) = true := decide_eq_true (by omega)
 clear hn h0
 clear hL hV hS hT hc2 hc5 hc6 hc7 hl hll hlv hlt hnew hkl hkv hks hkt
 go_enter Tryz.func67, Tryz.ntmps67
 go_upto_region 3 with fail
 simp only [stW] at hWB
 rw [← hWB]
 clear hWB
 have xi0 := (qAa HX.out.i 0).trans rfl
 have xi1 := (qAa HX.out.i 1).trans rfl
 have xi2 := (qAa HX.out.i 2).trans rfl
 have xi3 := (qAa HX.out.i 3).trans rfl
 have xs0 := (qAa HX.out.s 0).trans rfl
 have xs1 := (qAa HX.out.s 1).trans rfl
 have xz0 := (qAa HX.out.z 0).trans rfl
 have xz1 := (qAa HX.out.z 1).trans rfl
 have xz2 := (qAa HX.out.z 2).trans rfl
 have xz3 := (qAa HX.out.z 3).trans rfl
 have xz4 := (qAa HX.out.z 4).trans rfl
 have xz5 := (qAa HX.out.z 5).trans rfl
 have xz6 := (qAa HX.out.z 6).trans rfl
 have xf0 := (qAa HX.out.f 0).trans rfl
 have xf1 := (qAa HX.out.f 1).trans rfl
 have xf2 := (qAa HX.out.f 2).trans rfl
 have xf3 := (qAa HX.out.f 3).trans rfl
 have xq0 := qAb HX.out.r 0
 have xr0 := (qAa HX.out.r 0).trans rfl
 have xq1 := qAb HX.out.r 1
 have xr1 := (qAa HX.out.r 1).trans rfl
 have xq2 := qAb HX.out.r 2
 have xr2 := (qAa HX.out.r 2).trans rfl
 have xq3 := qAb HX.out.r 3
 have xr3 := (qAa HX.out.r 3).trans rfl
 have xq4 := qAb HX.out.r 4
 have xr4 := (qAa HX.out.r 4).trans rfl
 have xq5 := qAb HX.out.r 5
 have xr5 := (qAa HX.out.r 5).trans rfl
 have xq6 := qAb HX.out.r 6
 have xr6 := (qAa HX.out.r 6).trans rfl
 go_wp2
 refine bodyPost_ret (results_cell_row rfl _ _ (W.heap.size + 1 + 1 + 1 + 1) 138 _ (0, 0) _ rfl (lay7 (by first | exact HX.out.r | exact qAL HX.out.r (by simp) _ | exact qAL (qAL HX.out.r (by simp) _) (by simp) _)) Tryz.underlying138 rfl (by kernel_rfl)) rfl ?_
 exact qAM (R := ⟨false, false, false, ⟨[], []⟩, ⟨[], []⟩⟩) (K := 7) (by omega) (by omega) rfl (nl 0) FI.nil rfl (nl 0) FI.nil rfl (nl 0) FI.nil rfl (nl 0) FI.nil (by first | exact HB.out | exact qAf HB.out (by first | omega | (dsimp only; omega)) | exact qAf (qAf HB.out (by first | omega | (dsimp only; omega))) (by first | omega | (dsimp only; omega))) HNW.out
theorem step_2 {W : World} {okF : Nat → Prop} (n ty bb : Int) (A1 A2 A3 A4 A5 A6 A7 : Option Addr) (n1 c1 c2 n3 c3 n4 c4 c5 c6 c7 : Nat) (res : Int) {ls vs st : List Int} {tr : List S200}
  (hL : Kd.F (Kd.int .i64) W okF A2 ls.length ls) (hc2 : ls.length ≤ c2) (hV : Kd.F (Kd.int .i64) W okF A5 vs.length vs) (hc5 : vs.length ≤ c5) (hS : Kd.F (Kd.int .i64) W okF A6 st.length st) (hc6 : st.length ≤ c6) (hT : Kd.F k200 W okF A7 tr.length tr) (hc7 : tr.length ≤ c7) (hl : st.length ≤ 2000000) (hll : ls.length ≤ 2000000) (hlv : vs.length ≤ 2000000) (hlt : tr.length ≤ 2000000) (hnew : ∀ k, W.heap.size ≤ k → okF k) (h0 : 0 ≤ n) (hn : n < ls.length):
  Calls Tryz.prog 67 #[.agg #[.slice A1 n1 c1, .int .i64 res, .slice A2 ls.length c2, .slice A3 n3 c3], .agg #[.slice A4 n4 c4, .slice A5 vs.length c5], .agg #[.int .i64 2, .int .i64 n, .int .i64 ty, .int .u64 bb], .agg #[.slice A6 st.length c6, .slice A7 tr.length c7]] W (qAN W okF ⟨true, true, false, ⟨st ++ [ls.getD n.toNat 0], tr⟩, ⟨[], []⟩⟩) := by
 obtain ⟨kl, hkl⟩ := eX ls.length
 obtain ⟨kv, hkv⟩ := eX vs.length
 obtain ⟨ks, hks⟩ := eX st.length
 obtain ⟨kt, hkt⟩ := eX tr.length
 obtain ⟨WB, hWB⟩ := eX (stW W #[.slice A1 n1 c1, .int .i64 res, .slice A2 kl c2, .slice A3 n3 c3] #[.slice A4 n4 c4, .slice A5 kv c5] #[.int .i64 2, .int .i64 n, .int .i64 ty, .int .u64 bb] #[.slice A6 ks c6, .slice A7 kt c7] #[.bool true, .bool true, .bool false, .slice A6 ks c6, .slice A7 kt c7, .slice none 0 0, .slice none 0 0])
 have HX : qAc (SB W.heap.size #[.slice A1 n1 c1, .int .i64 res, .slice A2 kl c2, .slice A3 n3 c3] #[.slice A4 n4 c4, .slice A5 kv c5] #[.int .i64 2, .int .i64 n, .int .i64 ty, .int .u64 bb] #[.slice A6 ks c6, .slice A7 kt c7] #[.bool true, .bool true, .bool false, .slice A6 ks c6, .slice A7 kt c7, .slice none 0 0, .slice none 0 0] WB) := ⟨hWB ▸ qBg W _ _ _ _ _⟩
 have HB : qAc (Below W.heap.size W WB) := ⟨hWB ▸ qAI W _ _ _ _ _⟩
 have HSZ : qAc (W.heap.size + 7 ≤ WB.heap.size) := ⟨by rw [hWB, qAT]; exact nl _⟩
 have FS : qAc (FI W.heap.size 7 okF (Kd.int .i64) WB A6 ks st) := ⟨by rw [hks]; exact FI.of hS HB.out⟩
 have FT : qAc (FI W.heap.size 7 okF k200 WB A7 kt tr) := ⟨by rw [hkt]; exact FI.of hT HB.out⟩
 have HKL := am hkl
 have HKV := am hkv
 have HKS := am hks
 have HKT := am hkt
 have HC6 := am hc6
 have HC7 := am hc7
 have HLS := am hl
 have HNW := am hnew
 have HLT := am hlt
 rw [← hkl, ← hkv, ← hks, ← hkt]
 obtain ⟨ad, rfl, xel0⟩ := qC1 (Kd.F_now hL) n.toNat (by omega)
 have xlt := bl xel0
 have NEL : qAc ((ad.add n.toNat).block ≠ W.heap.size + 1 + 1 + 1 + 1 + 1 + 1) := ⟨by omega⟩
 have xel := (HB.out.cell xlt).trans xel0
 clear xel0
 obtain ⟨y, hy⟩ := eX (ls.getD n.toNat 0)
 rw [← hy] at xel ⊢
 have hd : decide (n ≥ (kl : Int)) = false := decide_eq_false (by omega)
 have h1 : n < (kl : Int) := by omega
 have HPT : qAc (∀ W1, FI W.heap.size 7 okF (Kd.int .i64) W1 A6 ks st → Calls Tryz.prog 94 #[.slice A6 ks c6, .int .i64 y] W1 fun e w' => ∃ A' c', e = .returned (.slice A' (ks + 1) c') ∧ ks + 1 ≤ c' ∧ Kd.F (Kd.int .i64) w' (fun k => W1.heap.size ≤ k) A' (ks + 1) (st ++ [y]) ∧ Below W1.heap.size W1 w') := ⟨fun W1 h => by
   have h_ := hks
   rw [h_] at h ⊢
   exact qBJ A6 c6 st y (FI.now h) (by omega) (by first | omega | (simp; omega))⟩
 clear hy hn xlt
 clear hL hV hS hT hc2 hc5 hc6 hc7 hl hll hlv hlt hnew hkl hkv hks hkt
 go_enter Tryz.func67, Tryz.ntmps67
 go_upto_region 3 with fail
 simp only [stW] at hWB
 rw [← hWB]
 clear hWB
 have xi0 := (qAa HX.out.i 0).trans rfl
 have xi1 := (qAa HX.out.i 1).trans rfl
 have xi2 := (qAa HX.out.i 2).trans rfl
 have xi3 := (qAa HX.out.i 3).trans rfl
 have xs0 := (qAa HX.out.s 0).trans rfl
 have xs1 := (qAa HX.out.s 1).trans rfl
 have xf0 := (qAa HX.out.f 0).trans rfl
 have xf1 := (qAa HX.out.f 1).trans rfl
 have xf2 := (qAa HX.out.f 2).trans rfl
 have xf3 := (qAa HX.out.f 3).trans rfl
 go_wp2_with fail
 go_region_held3 (fun W' => W'.cell? ⟨W.heap.size + 1 + 1 + 1, 0, none⟩ = some (.slice A6 ks c6) ∧ W'.cell? ⟨W.heap.size + 1 + 1, 0, none⟩ = some (.int .i64 2) ∧ W'.cell? ⟨W.heap.size + 1 + 1, 1, none⟩ = some (.int .i64 n) ∧ W'.cell? ⟨W.heap.size, 2, none⟩ = some (.slice (some ad) kl c2) ∧ W'.cell? (ad.add n.toNat) = some (.int .i64 y))
  (first | exact ⟨xs0, xi0, xi1, xf2, xel⟩ | exact ⟨ys0, yi0, yi1, yf2, yel⟩ | exact ⟨qBr ys0 _ _ (by dsimp only; omega), qBr yi0 _ _ (by dsimp only; omega), qBr yi1 _ _ (by dsimp only; omega), qBr yf2 _ _ (by dsimp only; omega), qBr yel _ _ (NEL.out)⟩)
  (first
    | (go_at_call 94; (with_reducible refine (HPT.out _ (FI.drew FS.out)).mono ?_); rintro e w1 ⟨A9, c9, rfl, hc9, hF9, hb1⟩; have FN := am (FI.new (okF := okF) hF9 (show W.heap.size + 7 ≤ WB.drew.heap.size from HSZ.out)); have HC9 := am hc9; clear hF9 hc9; have hbb := (Below.refl WB.heap.size WB).drew.trans hb1; have ys0 := (hbb.cell (bl xs0)).trans xs0; have yi0 := (hbb.cell (bl xi0)).trans xi0; have yi1 := (hbb.cell (bl xi1)).trans xi1; have yf2 := (hbb.cell (bl xf2)).trans xf2; have yel := (hbb.cell (bl xel)).trans xel; replace HX := am (HX.out.below hbb); replace HB := am (HB.out.trans (hbb.mono HB.out.size)); replace HSZ := am (Nat.le_trans HSZ.out hbb.size); replace FS := am (FI.below FS.out hbb); replace FT := am (FI.below FT.out hbb); have xq0 := qAb HX.out.r 0; have xr0 := (qAa HX.out.r 0).trans rfl; have xq1 := qAb HX.out.r 1; have xr1 := (qAa HX.out.r 1).trans rfl; have xq2 := qAb HX.out.r 2; have xr2 := (qAa HX.out.r 2).trans rfl; have xq3 := qAb HX.out.r 3; have xr3 := (qAa HX.out.r 3).trans rfl; have xq4 := qAb HX.out.r 4; have xr4 := (qAa HX.out.r 4).trans rfl; have xq5 := qAb HX.out.r 5; have xr5 := (qAa HX.out.r 5).trans rfl; have xq6 := qAb HX.out.r 6; have xr6 := (qAa HX.out.r 6).trans rfl; have xo0 := (qAa HX.out.o 0).trans rfl; have xg0 := qAb HX.out.o 0; have xo1 := (qAa HX.out.o 1).trans rfl; have xo2 := (qAa HX.out.o 2).trans rfl; have xo3 := (qAa HX.out.o 3).trans rfl; have xg3 := qAb HX.out.o 3; have xo4 := (qAa HX.out.o 4).trans rfl; have xg4 := qAb HX.out.o 4; have xo5 := (qAa HX.out.o 5).trans rfl; have xo6 := (qAa HX.out.o 6).trans rfl; clear hbb; clear hb1))
 go_wp2
 refine bodyPost_ret (results_cell_row rfl _ _ (W.heap.size + 1 + 1 + 1 + 1) 138 _ (0, 0) _ rfl (lay7 (by first | exact HX.out.r | exact qAL HX.out.r (by simp) _ | exact qAL (qAL HX.out.r (by simp) _) (by simp) _)) Tryz.underlying138 rfl (by kernel_rfl)) rfl ?_
 exact qAM (R := ⟨true, true, false, ⟨st ++ [y], tr⟩, ⟨[], []⟩⟩) (K := 7) (by omega) (by omega) (by rw [HKS.out]; simp) HC9.out (by first | exact FN.out | exact FI.set FN.out (by first | omega | (dsimp only; omega)) (by first | omega | (dsimp only; omega)) _ | exact FI.set (FI.set FN.out (by first | omega | (dsimp only; omega)) (by first | omega | (dsimp only; omega)) _) (by first | omega | (dsimp only; omega)) (by first | omega | (dsimp only; omega)) _) HKT.out (by have := HC7.out; have := HKT.out; omega) (by first | exact FT.out | exact FI.set FT.out (by first | omega | (dsimp only; omega)) (by first | omega | (dsimp only; omega)) _ | exact FI.set (FI.set FT.out (by first | omega | (dsimp only; omega)) (by first | omega | (dsimp only; omega)) _) (by first | omega | (dsimp only; omega)) (by first | omega | (dsimp only; omega)) _) rfl (nl 0) FI.nil rfl (nl 0) FI.nil (by first | exact HB.out | exact qAf HB.out (by first | omega | (dsimp only; omega)) | exact qAf (qAf HB.out (by first | omega | (dsimp only; omega))) (by first | omega | (dsimp only; omega))) HNW.out
theorem step_4_none {W : World} {okF : Nat → Prop} (n ty bb : Int) (A1 A2 A3 A4 A5 A6 A7 : Option Addr) (n1 c1 c2 n3 c3 n4 c4 c5 c6 c7 : Nat) (res : Int) {ls vs st : List Int} {tr : List S200}
  (hL : Kd.F (Kd.int .i64) W okF A2 ls.length ls) (hc2 : ls.length ≤ c2) (hV : Kd.F (Kd.int .i64) W okF A5 vs.length vs) (hc5 : vs.length ≤ c5) (hS : Kd.F (Kd.int .i64) W okF A6 st.length st) (hc6 : st.length ≤ c6) (hT : Kd.F k200 W okF A7 tr.length tr) (hc7 : tr.length ≤ c7) (hl : st.length ≤ 2000000) (hll : ls.length ≤ 2000000) (hlv : vs.length ≤ 2000000) (hlt : tr.length ≤ 2000000) (hnew : ∀ k, W.heap.size ≤ k → okF k) (h0 : 0 ≤ n) (hn : vs.length ≤ n):
  Calls Tryz.prog 67 #[.agg #[.slice A1 n1 c1, .int .i64 res, .slice A2 ls.length c2, .slice A3 n3 c3], .agg #[.slice A4 n4 c4, .slice A5 vs.length c5], .agg #[.int .i64 4, .int .i64 n, .int .i64 ty, .int .u64 bb], .agg #[.slice A6 st.length c6, .slice A7 tr.length c7]] W (qAN W okF ⟨false, false, false, ⟨[], []⟩, ⟨[], []⟩⟩) := by
 obtain ⟨kl, hkl⟩ := eX ls.length
 obtain ⟨kv, hkv⟩ := eX vs.length
 obtain ⟨ks, hks⟩ := eX st.length
 obtain ⟨kt, hkt⟩ := eX tr.length
 obtain ⟨WB, hWB⟩ := eX (stW W #[.slice A1 n1 c1, .int .i64 res, .slice A2 kl c2, .slice A3 n3 c3] #[.slice A4 n4 c4, .slice A5 kv c5] #[.int .i64 4, .int .i64 n, .int .i64 ty, .int .u64 bb] #[.slice A6 ks c6, .slice A7 kt c7] #[.bool true, .bool true, .bool false, .slice A6 ks c6, .slice A7 kt c7, .slice none 0 0, .slice none 0 0])
 have HX : qAc (SB W.heap.size #[.slice A1 n1 c1, .int .i64 res, .slice A2 kl c2, .slice A3 n3 c3] #[.slice A4 n4 c4, .slice A5 kv c5] #[.int .i64 4, .int .i64 n, .int .i64 ty, .int .u64 bb] #[.slice A6 ks c6, .slice A7 kt c7] #[.bool true, .bool true, .bool false, .slice A6 ks c6, .slice A7 kt c7, .slice none 0 0, .slice none 0 0] WB) := ⟨hWB ▸ qBg W _ _ _ _ _⟩
 have HB : qAc (Below W.heap.size W WB) := ⟨hWB ▸ qAI W _ _ _ _ _⟩
 have HSZ : qAc (W.heap.size + 7 ≤ WB.heap.size) := ⟨by rw [hWB, qAT]; exact nl _⟩
 have FS : qAc (FI W.heap.size 7 okF (Kd.int .i64) WB A6 ks st) := ⟨by rw [hks]; exact FI.of hS HB.out⟩
 have FT : qAc (FI W.heap.size 7 okF k200 WB A7 kt tr) := ⟨by rw [hkt]; exact FI.of hT HB.out⟩
 have HKL := am hkl
 have HKV := am hkv
 have HKS := am hks
 have HKT := am hkt
 have HC6 := am hc6
 have HC7 := am hc7
 have HLS := am hl
 have HNW := am hnew
 have HLT := am hlt
 rw [← hkl, ← hkv, ← hks, ← hkt]
 have hd : decide (n ≥ (kv : Int)) = true := decide_eq_true (by omega)
 clear hn h0
 clear hL hV hS hT hc2 hc5 hc6 hc7 hl hll hlv hlt hnew hkl hkv hks hkt
 go_enter Tryz.func67, Tryz.ntmps67
 go_upto_region 3 with fail
 simp only [stW] at hWB
 rw [← hWB]
 clear hWB
 have xi0 := (qAa HX.out.i 0).trans rfl
 have xi1 := (qAa HX.out.i 1).trans rfl
 have xi2 := (qAa HX.out.i 2).trans rfl
 have xi3 := (qAa HX.out.i 3).trans rfl
 have xs0 := (qAa HX.out.s 0).trans rfl
 have xs1 := (qAa HX.out.s 1).trans rfl
 have xz0 := (qAa HX.out.z 0).trans rfl
 have xz1 := (qAa HX.out.z 1).trans rfl
 have xz2 := (qAa HX.out.z 2).trans rfl
 have xz3 := (qAa HX.out.z 3).trans rfl
 have xz4 := (qAa HX.out.z 4).trans rfl
 have xz5 := (qAa HX.out.z 5).trans rfl
 have xz6 := (qAa HX.out.z 6).trans rfl
 have xp0 := (qAa HX.out.p 0).trans rfl
 have xp1 := (qAa HX.out.p 1).trans rfl
 have xq0 := qAb HX.out.r 0
 have xr0 := (qAa HX.out.r 0).trans rfl
 have xq1 := qAb HX.out.r 1
 have xr1 := (qAa HX.out.r 1).trans rfl
 have xq2 := qAb HX.out.r 2
 have xr2 := (qAa HX.out.r 2).trans rfl
 have xq3 := qAb HX.out.r 3
 have xr3 := (qAa HX.out.r 3).trans rfl
 have xq4 := qAb HX.out.r 4
 have xr4 := (qAa HX.out.r 4).trans rfl
 have xq5 := qAb HX.out.r 5
 have xr5 := (qAa HX.out.r 5).trans rfl
 have xq6 := qAb HX.out.r 6
 have xr6 := (qAa HX.out.r 6).trans rfl
 go_wp2
 refine bodyPost_ret (results_cell_row rfl _ _ (W.heap.size + 1 + 1 + 1 + 1) 138 _ (0, 0) _ rfl (lay7 (by first | exact HX.out.r | exact qAL HX.out.r (by simp) _ | exact qAL (qAL HX.out.r (by simp) _) (by simp) _)) Tryz.underlying138 rfl (by kernel_rfl)) rfl ?_
 exact qAM (R := ⟨false, false, false, ⟨[], []⟩, ⟨[], []⟩⟩) (K := 7) (by omega) (by omega) rfl (nl 0) FI.nil rfl (nl 0) FI.nil rfl (nl 0) FI.nil rfl (nl 0) FI.nil (by first | exact HB.out | exact qAf HB.out (by first | omega | (dsimp only; omega)) | exact qAf (qAf HB.out (by first | omega | (dsimp only; omega))) (by first | omega | (dsimp only; omega))) HNW.out
theorem step_4 {W : World} {okF : Nat → Prop} (n ty bb : Int) (A1 A2 A3 A4 A5 A6 A7 : Option Addr) (n1 c1 c2 n3 c3 n4 c4 c5 c6 c7 : Nat) (res : Int) {ls vs st : List Int} {tr : List S200}
  (hL : Kd.F (Kd.int .i64) W okF A2 ls.length ls) (hc2 : ls.length ≤ c2) (hV : Kd.F (Kd.int .i64) W okF A5 vs.length vs) (hc5 : vs.length ≤ c5) (hS : Kd.F (Kd.int .i64) W okF A6 st.length st) (hc6 : st.length ≤ c6) (hT : Kd.F k200 W okF A7 tr.length tr) (hc7 : tr.length ≤ c7) (hl : st.length ≤ 2000000) (hll : ls.length ≤ 2000000) (hlv : vs.length ≤ 2000000) (hlt : tr.length ≤ 2000000) (hnew : ∀ k, W.heap.size ≤ k → okF k) (h0 : 0 ≤ n) (hn : n < vs.length):
  Calls Tryz.prog 67 #[.agg #[.slice A1 n1 c1, .int .i64 res, .slice A2 ls.length c2, .slice A3 n3 c3], .agg #[.slice A4 n4 c4, .slice A5 vs.length c5], .agg #[.int .i64 4, .int .i64 n, .int .i64 ty, .int .u64 bb], .agg #[.slice A6 st.length c6, .slice A7 tr.length c7]] W (qAN W okF ⟨true, true, false, ⟨st ++ [vs.getD n.toNat 0], tr⟩, ⟨[], []⟩⟩) := by
 obtain ⟨kl, hkl⟩ := eX ls.length
 obtain ⟨kv, hkv⟩ := eX vs.length
 obtain ⟨ks, hks⟩ := eX st.length
 obtain ⟨kt, hkt⟩ := eX tr.length
 obtain ⟨WB, hWB⟩ := eX (stW W #[.slice A1 n1 c1, .int .i64 res, .slice A2 kl c2, .slice A3 n3 c3] #[.slice A4 n4 c4, .slice A5 kv c5] #[.int .i64 4, .int .i64 n, .int .i64 ty, .int .u64 bb] #[.slice A6 ks c6, .slice A7 kt c7] #[.bool true, .bool true, .bool false, .slice A6 ks c6, .slice A7 kt c7, .slice none 0 0, .slice none 0 0])
 have HX : qAc (SB W.heap.size #[.slice A1 n1 c1, .int .i64 res, .slice A2 kl c2, .slice A3 n3 c3] #[.slice A4 n4 c4, .slice A5 kv c5] #[.int .i64 4, .int .i64 n, .int .i64 ty, .int .u64 bb] #[.slice A6 ks c6, .slice A7 kt c7] #[.bool true, .bool true, .bool false, .slice A6 ks c6, .slice A7 kt c7, .slice none 0 0, .slice none 0 0] WB) := ⟨hWB ▸ qBg W _ _ _ _ _⟩
 have HB : qAc (Below W.heap.size W WB) := ⟨hWB ▸ qAI W _ _ _ _ _⟩
 have HSZ : qAc (W.heap.size + 7 ≤ WB.heap.size) := ⟨by rw [hWB, qAT]; exact nl _⟩
 have FS : qAc (FI W.heap.size 7 okF (Kd.int .i64) WB A6 ks st) := ⟨by rw [hks]; exact FI.of hS HB.out⟩
 have FT : qAc (FI W.heap.size 7 okF k200 WB A7 kt tr) := ⟨by rw [hkt]; exact FI.of hT HB.out⟩
 have HKL := am hkl
 have HKV := am hkv
 have HKS := am hks
 have HKT := am hkt
 have HC6 := am hc6
 have HC7 := am hc7
 have HLS := am hl
 have HNW := am hnew
 have HLT := am hlt
 rw [← hkl, ← hkv, ← hks, ← hkt]
 obtain ⟨ad, rfl, xel0⟩ := qC1 (Kd.F_now hV) n.toNat (by omega)
 have xlt := bl xel0
 have NEL : qAc ((ad.add n.toNat).block ≠ W.heap.size + 1 + 1 + 1 + 1 + 1 + 1) := ⟨by omega⟩
 have xel := (HB.out.cell xlt).trans xel0
 clear xel0
 obtain ⟨y, hy⟩ := eX (vs.getD n.toNat 0)
 rw [← hy] at xel ⊢
 have hd : decide (n ≥ (kv : Int)) = false := decide_eq_false (by omega)
 have h1 : n < (kv : Int) := by omega
 have HPT : qAc (∀ W1, FI W.heap.size 7 okF (Kd.int .i64) W1 A6 ks st → Calls Tryz.prog 94 #[.slice A6 ks c6, .int .i64 y] W1 fun e w' => ∃ A' c', e = .returned (.slice A' (ks + 1) c') ∧ ks + 1 ≤ c' ∧ Kd.F (Kd.int .i64) w' (fun k => W1.heap.size ≤ k) A' (ks + 1) (st ++ [y]) ∧ Below W1.heap.size W1 w') := ⟨fun W1 h => by
   have h_ := hks
   rw [h_] at h ⊢
   exact qBJ A6 c6 st y (FI.now h) (by omega) (by first | omega | (simp; omega))⟩
 clear hy hn xlt
 clear hL hV hS hT hc2 hc5 hc6 hc7 hl hll hlv hlt hnew hkl hkv hks hkt
 go_enter Tryz.func67, Tryz.ntmps67
 go_upto_region 3 with fail
 simp only [stW] at hWB
 rw [← hWB]
 clear hWB
 have xi0 := (qAa HX.out.i 0).trans rfl
 have xi1 := (qAa HX.out.i 1).trans rfl
 have xi2 := (qAa HX.out.i 2).trans rfl
 have xi3 := (qAa HX.out.i 3).trans rfl
 have xs0 := (qAa HX.out.s 0).trans rfl
 have xs1 := (qAa HX.out.s 1).trans rfl
 have xp0 := (qAa HX.out.p 0).trans rfl
 have xp1 := (qAa HX.out.p 1).trans rfl
 go_wp2_with fail
 go_region_held3 (fun W' => W'.cell? ⟨W.heap.size + 1 + 1 + 1, 0, none⟩ = some (.slice A6 ks c6) ∧ W'.cell? ⟨W.heap.size + 1 + 1, 0, none⟩ = some (.int .i64 4) ∧ W'.cell? ⟨W.heap.size + 1 + 1, 1, none⟩ = some (.int .i64 n) ∧ W'.cell? ⟨W.heap.size + 1, 1, none⟩ = some (.slice (some ad) kv c5) ∧ W'.cell? (ad.add n.toNat) = some (.int .i64 y))
  (first | exact ⟨xs0, xi0, xi1, xp1, xel⟩ | exact ⟨ys0, yi0, yi1, yp1, yel⟩ | exact ⟨qBr ys0 _ _ (by dsimp only; omega), qBr yi0 _ _ (by dsimp only; omega), qBr yi1 _ _ (by dsimp only; omega), qBr yp1 _ _ (by dsimp only; omega), qBr yel _ _ (NEL.out)⟩)
  (first
    | (go_at_call 94; (with_reducible refine (HPT.out _ (FI.drew FS.out)).mono ?_); rintro e w1 ⟨A9, c9, rfl, hc9, hF9, hb1⟩; have FN := am (FI.new (okF := okF) hF9 (show W.heap.size + 7 ≤ WB.drew.heap.size from HSZ.out)); have HC9 := am hc9; clear hF9 hc9; have hbb := (Below.refl WB.heap.size WB).drew.trans hb1; have ys0 := (hbb.cell (bl xs0)).trans xs0; have yi0 := (hbb.cell (bl xi0)).trans xi0; have yi1 := (hbb.cell (bl xi1)).trans xi1; have yp1 := (hbb.cell (bl xp1)).trans xp1; have yel := (hbb.cell (bl xel)).trans xel; replace HX := am (HX.out.below hbb); replace HB := am (HB.out.trans (hbb.mono HB.out.size)); replace HSZ := am (Nat.le_trans HSZ.out hbb.size); replace FS := am (FI.below FS.out hbb); replace FT := am (FI.below FT.out hbb); have xq0 := qAb HX.out.r 0; have xr0 := (qAa HX.out.r 0).trans rfl; have xq1 := qAb HX.out.r 1; have xr1 := (qAa HX.out.r 1).trans rfl; have xq2 := qAb HX.out.r 2; have xr2 := (qAa HX.out.r 2).trans rfl; have xq3 := qAb HX.out.r 3; have xr3 := (qAa HX.out.r 3).trans rfl; have xq4 := qAb HX.out.r 4; have xr4 := (qAa HX.out.r 4).trans rfl; have xq5 := qAb HX.out.r 5; have xr5 := (qAa HX.out.r 5).trans rfl; have xq6 := qAb HX.out.r 6; have xr6 := (qAa HX.out.r 6).trans rfl; have xo0 := (qAa HX.out.o 0).trans rfl; have xg0 := qAb HX.out.o 0; have xo1 := (qAa HX.out.o 1).trans rfl; have xo2 := (qAa HX.out.o 2).trans rfl; have xo3 := (qAa HX.out.o 3).trans rfl; have xg3 := qAb HX.out.o 3; have xo4 := (qAa HX.out.o 4).trans rfl; have xg4 := qAb HX.out.o 4; have xo5 := (qAa HX.out.o 5).trans rfl; have xo6 := (qAa HX.out.o 6).trans rfl; clear hbb; clear hb1))
 go_wp2
 refine bodyPost_ret (results_cell_row rfl _ _ (W.heap.size + 1 + 1 + 1 + 1) 138 _ (0, 0) _ rfl (lay7 (by first | exact HX.out.r | exact qAL HX.out.r (by simp) _ | exact qAL (qAL HX.out.r (by simp) _) (by simp) _)) Tryz.underlying138 rfl (by kernel_rfl)) rfl ?_
 exact qAM (R := ⟨true, true, false, ⟨st ++ [y], tr⟩, ⟨[], []⟩⟩) (K := 7) (by omega) (by omega) (by rw [HKS.out]; simp) HC9.out (by first | exact FN.out | exact FI.set FN.out (by first | omega | (dsimp only; omega)) (by first | omega | (dsimp only; omega)) _ | exact FI.set (FI.set FN.out (by first | omega | (dsimp only; omega)) (by first | omega | (dsimp only; omega)) _) (by first | omega | (dsimp only; omega)) (by first | omega | (dsimp only; omega)) _) HKT.out (by have := HC7.out; have := HKT.out; omega) (by first | exact FT.out | exact FI.set FT.out (by first | omega | (dsimp only; omega)) (by first | omega | (dsimp only; omega)) _ | exact FI.set (FI.set FT.out (by first | omega | (dsimp only; omega)) (by first | omega | (dsimp only; omega)) _) (by first | omega | (dsimp only; omega)) (by first | omega | (dsimp only; omega)) _) rfl (nl 0) FI.nil rfl (nl 0) FI.nil (by first | exact HB.out | exact qAf HB.out (by first | omega | (dsimp only; omega)) | exact qAf (qAf HB.out (by first | omega | (dsimp only; omega))) (by first | omega | (dsimp only; omega))) HNW.out
theorem step_3_none {W : World} {okF : Nat → Prop} (n ty bb : Int) (A1 A2 A3 A4 A5 A6 A7 : Option Addr) (n1 c1 c2 n3 c3 n4 c4 c5 c6 c7 : Nat) (res : Int) {ls vs st : List Int} {tr : List S200}
  (hL : Kd.F (Kd.int .i64) W okF A2 ls.length ls) (hc2 : ls.length ≤ c2) (hV : Kd.F (Kd.int .i64) W okF A5 vs.length vs) (hc5 : vs.length ≤ c5) (hS : Kd.F (Kd.int .i64) W okF A6 st.length st) (hc6 : st.length ≤ c6) (hT : Kd.F k200 W okF A7 tr.length tr) (hc7 : tr.length ≤ c7) (hl : st.length ≤ 2000000) (hll : ls.length ≤ 2000000) (hlv : vs.length ≤ 2000000) (hlt : tr.length ≤ 2000000) (hnew : ∀ k, W.heap.size ≤ k → okF k) (h0 : 0 ≤ n) (hn : ls.length ≤ n):
  Calls Tryz.prog 67 #[.agg #[.slice A1 n1 c1, .int .i64 res, .slice A2 ls.length c2, .slice A3 n3 c3], .agg #[.slice A4 n4 c4, .slice A5 vs.length c5], .agg #[.int .i64 3, .int .i64 n, .int .i64 ty, .int .u64 bb], .agg #[.slice A6 st.length c6, .slice A7 tr.length c7]] W (qAN W okF ⟨false, false, false, ⟨[], []⟩, ⟨[], []⟩⟩) := by
 obtain ⟨kl, hkl⟩ := eX ls.length
 obtain ⟨kv, hkv⟩ := eX vs.length
 obtain ⟨ks, hks⟩ := eX st.length
 obtain ⟨kt, hkt⟩ := eX tr.length
 obtain ⟨WB, hWB⟩ := eX (stW W #[.slice A1 n1 c1, .int .i64 res, .slice A2 kl c2, .slice A3 n3 c3] #[.slice A4 n4 c4, .slice A5 kv c5] #[.int .i64 3, .int .i64 n, .int .i64 ty, .int .u64 bb] #[.slice A6 ks c6, .slice A7 kt c7] #[.bool true, .bool true, .bool false, .slice A6 ks c6, .slice A7 kt c7, .slice none 0 0, .slice none 0 0])
 have HX : qAc (SB W.heap.size #[.slice A1 n1 c1, .int .i64 res, .slice A2 kl c2, .slice A3 n3 c3] #[.slice A4 n4 c4, .slice A5 kv c5] #[.int .i64 3, .int .i64 n, .int .i64 ty, .int .u64 bb] #[.slice A6 ks c6, .slice A7 kt c7] #[.bool true, .bool true, .bool false, .slice A6 ks c6, .slice A7 kt c7, .slice none 0 0, .slice none 0 0] WB) := ⟨hWB ▸ qBg W _ _ _ _ _⟩
 have HB : qAc (Below W.heap.size W WB) := ⟨hWB ▸ qAI W _ _ _ _ _⟩
 have HSZ : qAc (W.heap.size + 7 ≤ WB.heap.size) := ⟨by rw [hWB, qAT]; exact nl _⟩
 have FS : qAc (FI W.heap.size 7 okF (Kd.int .i64) WB A6 ks st) := ⟨by rw [hks]; exact FI.of hS HB.out⟩
 have FT : qAc (FI W.heap.size 7 okF k200 WB A7 kt tr) := ⟨by rw [hkt]; exact FI.of hT HB.out⟩
 have HKL := am hkl
 have HKV := am hkv
 have HKS := am hks
 have HKT := am hkt
 have HC6 := am hc6
 have HC7 := am hc7
 have HLS := am hl
 have HNW := am hnew
 have HLT := am hlt
 rw [← hkl, ← hkv, ← hks, ← hkt]
 have hd : decide (n ≥ (kl : Int)) = true := decide_eq_true (by omega)
 clear hn h0
 clear hL hV hS hT hc2 hc5 hc6 hc7 hl hll hlv hlt hnew hkl hkv hks hkt
 go_enter Tryz.func67, Tryz.ntmps67
 go_upto_region 3 with fail
 simp only [stW] at hWB
 rw [← hWB]
 clear hWB
 have xi0 := (qAa HX.out.i 0).trans rfl
 have xi1 := (qAa HX.out.i 1).trans rfl
 have xi2 := (qAa HX.out.i 2).trans rfl
 have xi3 := (qAa HX.out.i 3).trans rfl
 have xs0 := (qAa HX.out.s 0).trans rfl
 have xs1 := (qAa HX.out.s 1).trans rfl
 have xz0 := (qAa HX.out.z 0).trans rfl
 have xz1 := (qAa HX.out.z 1).trans rfl
 have xz2 := (qAa HX.out.z 2).trans rfl
 have xz3 := (qAa HX.out.z 3).trans rfl
 have xz4 := (qAa HX.out.z 4).trans rfl
 have xz5 := (qAa HX.out.z 5).trans rfl
 have xz6 := (qAa HX.out.z 6).trans rfl
 have xf0 := (qAa HX.out.f 0).trans rfl
 have xf1 := (qAa HX.out.f 1).trans rfl
 have xf2 := (qAa HX.out.f 2).trans rfl
 have xf3 := (qAa HX.out.f 3).trans rfl
 have xq0 := qAb HX.out.r 0
 have xr0 := (qAa HX.out.r 0).trans rfl
 have xq1 := qAb HX.out.r 1
 have xr1 := (qAa HX.out.r 1).trans rfl
 have xq2 := qAb HX.out.r 2
 have xr2 := (qAa HX.out.r 2).trans rfl
 have xq3 := qAb HX.out.r 3
 have xr3 := (qAa HX.out.r 3).trans rfl
 have xq4 := qAb HX.out.r 4
 have xr4 := (qAa HX.out.r 4).trans rfl
 have xq5 := qAb HX.out.r 5
 have xr5 := (qAa HX.out.r 5).trans rfl
 have xq6 := qAb HX.out.r 6
 have xr6 := (qAa HX.out.r 6).trans rfl
 go_wp2
 refine bodyPost_ret (results_cell_row rfl _ _ (W.heap.size + 1 + 1 + 1 + 1) 138 _ (0, 0) _ rfl (lay7 (by first | exact HX.out.r | exact qAL HX.out.r (by simp) _ | exact qAL (qAL HX.out.r (by simp) _) (by simp) _)) Tryz.underlying138 rfl (by kernel_rfl)) rfl ?_
 exact qAM (R := ⟨false, false, false, ⟨[], []⟩, ⟨[], []⟩⟩) (K := 7) (by omega) (by omega) rfl (nl 0) FI.nil rfl (nl 0) FI.nil rfl (nl 0) FI.nil rfl (nl 0) FI.nil (by first | exact HB.out | exact qAf HB.out (by first | omega | (dsimp only; omega)) | exact qAf (qAf HB.out (by first | omega | (dsimp only; omega))) (by first | omega | (dsimp only; omega))) HNW.out
theorem step_3 {W : World} {okF : Nat → Prop} (n ty bb : Int) (A1 A2 A3 A4 A5 A6 A7 : Option Addr) (n1 c1 c2 n3 c3 n4 c4 c5 c6 c7 : Nat) (res : Int) {ls vs st : List Int} {tr : List S200}
  (hL : Kd.F (Kd.int .i64) W okF A2 ls.length ls) (hc2 : ls.length ≤ c2) (hV : Kd.F (Kd.int .i64) W okF A5 vs.length vs) (hc5 : vs.length ≤ c5) (hS : Kd.F (Kd.int .i64) W okF A6 st.length st) (hc6 : st.length ≤ c6) (hT : Kd.F k200 W okF A7 tr.length tr) (hc7 : tr.length ≤ c7) (hl : st.length ≤ 2000000) (hll : ls.length ≤ 2000000) (hlv : vs.length ≤ 2000000) (hlt : tr.length ≤ 2000000) (hnew : ∀ k, W.heap.size ≤ k → okF k) (h0 : 0 ≤ n) (hn : n < ls.length):
  Calls Tryz.prog 67 #[.agg #[.slice A1 n1 c1, .int .i64 res, .slice A2 ls.length c2, .slice A3 n3 c3], .agg #[.slice A4 n4 c4, .slice A5 vs.length c5], .agg #[.int .i64 3, .int .i64 n, .int .i64 ty, .int .u64 bb], .agg #[.slice A6 st.length c6, .slice A7 tr.length c7]] W (qAN W okF ⟨qAO st [ls.getD n.toNat 0], true, false, ⟨qAP st [ls.getD n.toNat 0], tr⟩, ⟨[], []⟩⟩) := by
 obtain ⟨kl, hkl⟩ := eX ls.length
 obtain ⟨kv, hkv⟩ := eX vs.length
 obtain ⟨ks, hks⟩ := eX st.length
 obtain ⟨kt, hkt⟩ := eX tr.length
 obtain ⟨WB, hWB⟩ := eX (stW W #[.slice A1 n1 c1, .int .i64 res, .slice A2 kl c2, .slice A3 n3 c3] #[.slice A4 n4 c4, .slice A5 kv c5] #[.int .i64 3, .int .i64 n, .int .i64 ty, .int .u64 bb] #[.slice A6 ks c6, .slice A7 kt c7] #[.bool true, .bool true, .bool false, .slice A6 ks c6, .slice A7 kt c7, .slice none 0 0, .slice none 0 0])
 have HX : qAc (SB W.heap.size #[.slice A1 n1 c1, .int .i64 res, .slice A2 kl c2, .slice A3 n3 c3] #[.slice A4 n4 c4, .slice A5 kv c5] #[.int .i64 3, .int .i64 n, .int .i64 ty, .int .u64 bb] #[.slice A6 ks c6, .slice A7 kt c7] #[.bool true, .bool true, .bool false, .slice A6 ks c6, .slice A7 kt c7, .slice none 0 0, .slice none 0 0] WB) := ⟨hWB ▸ qBg W _ _ _ _ _⟩
 have HB : qAc (Below W.heap.size W WB) := ⟨hWB ▸ qAI W _ _ _ _ _⟩
 have HSZ : qAc (W.heap.size + 7 ≤ WB.heap.size) := ⟨by rw [hWB, qAT]; exact nl _⟩
 have FS : qAc (FI W.heap.size 7 okF (Kd.int .i64) WB A6 ks st) := ⟨by rw [hks]; exact FI.of hS HB.out⟩
 have FT : qAc (FI W.heap.size 7 okF k200 WB A7 kt tr) := ⟨by rw [hkt]; exact FI.of hT HB.out⟩
 have HKL := am hkl
 have HKV := am hkv
 have HKS := am hks
 have HKT := am hkt
 have HC6 := am hc6
 have HC7 := am hc7
 have HLS := am hl
 have HNW := am hnew
 have HLT := am hlt
 rw [← hkl, ← hkv, ← hks, ← hkt]
 obtain ⟨ad, rfl, xel0⟩ := qC1 (Kd.F_now hL) n.toNat (by omega)
 have xlt := bl xel0
 have NEL : qAc ((ad.add n.toNat).block ≠ W.heap.size + 1 + 1 + 1 + 1 + 1 + 1) := ⟨by omega⟩
 have xel := (HB.out.cell xlt).trans xel0
 clear xel0
 obtain ⟨y, hy⟩ := eX (ls.getD n.toNat 0)
 rw [← hy] at xel ⊢
 have hd : decide (n ≥ (kl : Int)) = false := decide_eq_false (by omega)
 have h1 : n < (kl : Int) := by omega
 obtain ⟨A8, k8, c8, hk8, hc8, hF8, hT8⟩ := qCz A6 c6 st [y] hS hc6 hl (by simp)
 have FR : qAc (FI W.heap.size 7 okF (Kd.int .i64) WB A8 k8 (qAP st [y])) := ⟨by rw [hk8] at hF8 ⊢; exact FI.of hF8 HB.out⟩
 obtain ⟨b8, hb8⟩ := eX (qAO st [y])
 rw [← hb8, ← hks] at hT8
 rw [← hb8]
 have HTP := am hT8
 have HK8 := am hk8
 have HC8 := am hc8
 clear hT8 hb8 hk8 hc8 hF8 hy hn xlt
 clear hL hV hS hT hc2 hc5 hc6 hc7 hl hll hlv hlt hnew hkl hkv hks hkt
 go_enter Tryz.func67, Tryz.ntmps67
 go_upto_region 3 with fail
 simp only [stW] at hWB
 rw [← hWB]
 clear hWB
 have xi0 := (qAa HX.out.i 0).trans rfl
 have xi1 := (qAa HX.out.i 1).trans rfl
 have xi2 := (qAa HX.out.i 2).trans rfl
 have xi3 := (qAa HX.out.i 3).trans rfl
 have xs0 := (qAa HX.out.s 0).trans rfl
 have xs1 := (qAa HX.out.s 1).trans rfl
 have xf0 := (qAa HX.out.f 0).trans rfl
 have xf1 := (qAa HX.out.f 1).trans rfl
 have xf2 := (qAa HX.out.f 2).trans rfl
 have xf3 := (qAa HX.out.f 3).trans rfl
 go_wp2_with fail
 go_region_held3 (fun W' => W'.cell? ⟨W.heap.size + 1 + 1 + 1, 0, none⟩ = some (.slice A6 ks c6) ∧ W'.cell? ⟨W.heap.size + 1 + 1, 0, none⟩ = some (.int .i64 3) ∧ W'.cell? ⟨W.heap.size + 1 + 1, 1, none⟩ = some (.int .i64 n) ∧ W'.cell? ⟨W.heap.size, 2, none⟩ = some (.slice (some ad) kl c2) ∧ W'.cell? (ad.add n.toNat) = some (.int .i64 y))
  (first | exact ⟨xs0, xi0, xi1, xf2, xel⟩ | exact ⟨ys0, yi0, yi1, yf2, yel⟩ | exact ⟨qAk _ xs0, qAk _ xi0, qAk _ xi1, qAk _ xf2, qAk _ xel⟩)
  (first
    | (go_at_call 95; refine (HTP.out _ _ _ (HB.out.drew.alloc HB.out.size _) (C_one WB.drew y) (nl _)).mono ?_; rintro e w1 ⟨rfl, hb1⟩; have hbb := ((Below.refl WB.heap.size WB).drew.alloc (nl _) (.cells #[.int .i64 y] 3)).trans (hb1.mono (by simp)); have ys0 := (hbb.cell (bl xs0)).trans xs0; have yi0 := (hbb.cell (bl xi0)).trans xi0; have yi1 := (hbb.cell (bl xi1)).trans xi1; have yf2 := (hbb.cell (bl xf2)).trans xf2; have yel := (hbb.cell (bl xel)).trans xel; replace HX := am (HX.out.below hbb); replace HB := am (HB.out.trans (hbb.mono HB.out.size)); replace HSZ := am (Nat.le_trans HSZ.out hbb.size); replace FS := am (FI.below FS.out hbb); replace FT := am (FI.below FT.out hbb); replace FR := am (FI.below FR.out hbb); have xq0 := qAb HX.out.r 0; have xr0 := (qAa HX.out.r 0).trans rfl; have xq1 := qAb HX.out.r 1; have xr1 := (qAa HX.out.r 1).trans rfl; have xq2 := qAb HX.out.r 2; have xr2 := (qAa HX.out.r 2).trans rfl; have xq3 := qAb HX.out.r 3; have xr3 := (qAa HX.out.r 3).trans rfl; have xq4 := qAb HX.out.r 4; have xr4 := (qAa HX.out.r 4).trans rfl; have xq5 := qAb HX.out.r 5; have xr5 := (qAa HX.out.r 5).trans rfl; have xq6 := qAb HX.out.r 6; have xr6 := (qAa HX.out.r 6).trans rfl; have xo0 := (qAa HX.out.o 0).trans rfl; have xg0 := qAb HX.out.o 0; have xo1 := (qAa HX.out.o 1).trans rfl; have xo2 := (qAa HX.out.o 2).trans rfl; have xo3 := (qAa HX.out.o 3).trans rfl; have xg3 := qAb HX.out.o 3; have xo4 := (qAa HX.out.o 4).trans rfl; have xg4 := qAb HX.out.o 4; have xo5 := (qAa HX.out.o 5).trans rfl; have xo6 := (qAa HX.out.o 6).trans rfl; clear hbb; clear hb1))
 go_wp2
 refine bodyPost_ret (results_cell_row rfl _ _ (W.heap.size + 1 + 1 + 1 + 1) 138 _ (0, 0) _ rfl (lay7 (by first | exact HX.out.r | exact qAL HX.out.r (by simp) _ | exact qAL (qAL HX.out.r (by simp) _) (by simp) _)) Tryz.underlying138 rfl (by kernel_rfl)) rfl ?_
 exact qAM (R := ⟨b8, true, false, ⟨qAP st [y], tr⟩, ⟨[], []⟩⟩) (K := 7) (by omega) (by omega) HK8.out HC8.out (by first | exact FR.out | exact FI.set FR.out (by first | omega | (dsimp only; omega)) (by first | omega | (dsimp only; omega)) _ | exact FI.set (FI.set FR.out (by first | omega | (dsimp only; omega)) (by first | omega | (dsimp only; omega)) _) (by first | omega | (dsimp only; omega)) (by first | omega | (dsimp only; omega)) _) HKT.out (by have := HC7.out; have := HKT.out; omega) (by first | exact FT.out | exact FI.set FT.out (by first | omega | (dsimp only; omega)) (by first | omega | (dsimp only; omega)) _ | exact FI.set (FI.set FT.out (by first | omega | (dsimp only; omega)) (by first | omega | (dsimp only; omega)) _) (by first | omega | (dsimp only; omega)) (by first | omega | (dsimp only; omega)) _) rfl (nl 0) FI.nil rfl (nl 0) FI.nil (by first | exact HB.out | exact qAf HB.out (by first | omega | (dsimp only; omega)) | exact qAf (qAf HB.out (by first | omega | (dsimp only; omega))) (by first | omega | (dsimp only; omega))) HNW.out
theorem step_5_none {W : World} {okF : Nat → Prop} (n ty bb : Int) (A1 A2 A3 A4 A5 A6 A7 : Option Addr) (n1 c1 c2 n3 c3 n4 c4 c5 c6 c7 : Nat) (res : Int) {ls vs st : List Int} {tr : List S200}
  (hL : Kd.F (Kd.int .i64) W okF A2 ls.length ls) (hc2 : ls.length ≤ c2) (hV : Kd.F (Kd.int .i64) W okF A5 vs.length vs) (hc5 : vs.length ≤ c5) (hS : Kd.F (Kd.int .i64) W okF A6 st.length st) (hc6 : st.length ≤ c6) (hT : Kd.F k200 W okF A7 tr.length tr) (hc7 : tr.length ≤ c7) (hl : st.length ≤ 2000000) (hll : ls.length ≤ 2000000) (hlv : vs.length ≤ 2000000) (hlt : tr.length ≤ 2000000) (hnew : ∀ k, W.heap.size ≤ k → okF k) (h0 : 0 ≤ n) (hn : vs.length ≤ n):
  Calls Tryz.prog 67 #[.agg #[.slice A1 n1 c1, .int .i64 res, .slice A2 ls.length c2, .slice A3 n3 c3], .agg #[.slice A4 n4 c4, .slice A5 vs.length c5], .agg #[.int .i64 5, .int .i64 n, .int .i64 ty, .int .u64 bb], .agg #[.slice A6 st.length c6, .slice A7 tr.length c7]] W (qAN W okF ⟨false, false, false, ⟨[], []⟩, ⟨[], []⟩⟩) := by
 obtain ⟨kl, hkl⟩ := eX ls.length
 obtain ⟨kv, hkv⟩ := eX vs.length
 obtain ⟨ks, hks⟩ := eX st.length
 obtain ⟨kt, hkt⟩ := eX tr.length
 obtain ⟨WB, hWB⟩ := eX (stW W #[.slice A1 n1 c1, .int .i64 res, .slice A2 kl c2, .slice A3 n3 c3] #[.slice A4 n4 c4, .slice A5 kv c5] #[.int .i64 5, .int .i64 n, .int .i64 ty, .int .u64 bb] #[.slice A6 ks c6, .slice A7 kt c7] #[.bool true, .bool true, .bool false, .slice A6 ks c6, .slice A7 kt c7, .slice none 0 0, .slice none 0 0])
 have HX : qAc (SB W.heap.size #[.slice A1 n1 c1, .int .i64 res, .slice A2 kl c2, .slice A3 n3 c3] #[.slice A4 n4 c4, .slice A5 kv c5] #[.int .i64 5, .int .i64 n, .int .i64 ty, .int .u64 bb] #[.slice A6 ks c6, .slice A7 kt c7] #[.bool true, .bool true, .bool false, .slice A6 ks c6, .slice A7 kt c7, .slice none 0 0, .slice none 0 0] WB) := ⟨hWB ▸ qBg W _ _ _ _ _⟩
 have HB : qAc (Below W.heap.size W WB) := ⟨hWB ▸ qAI W _ _ _ _ _⟩
 have HSZ : qAc (W.heap.size + 7 ≤ WB.heap.size) := ⟨by rw [hWB, qAT]; exact nl _⟩
 have FS : qAc (FI W.heap.size 7 okF (Kd.int .i64) WB A6 ks st) := ⟨by rw [hks]; exact FI.of hS HB.out⟩
 have FT : qAc (FI W.heap.size 7 okF k200 WB A7 kt tr) := ⟨by rw [hkt]; exact FI.of hT HB.out⟩
 have HKL := am hkl
 have HKV := am hkv
 have HKS := am hks
 have HKT := am hkt
 have HC6 := am hc6
 have HC7 := am hc7
 have HLS := am hl
 have HNW := am hnew
 have HLT := am hlt
 rw [← hkl, ← hkv, ← hks, ← hkt]
 have hd : decide (n ≥ (kv : Int)) = true := decide_eq_true (by omega)
 clear hn h0
 clear hL hV hS hT hc2 hc5 hc6 hc7 hl hll hlv hlt hnew hkl hkv hks hkt
 go_enter Tryz.func67, Tryz.ntmps67
 go_upto_region 3 with fail
 simp only [stW] at hWB
 rw [← hWB]
 clear hWB
 have xi0 := (qAa HX.out.i 0).trans rfl
 have xi1 := (qAa HX.out.i 1).trans rfl
 have xi2 := (qAa HX.out.i 2).trans rfl
 have xi3 := (qAa HX.out.i 3).trans rfl
 have xs0 := (qAa HX.out.s 0).trans rfl
 have xs1 := (qAa HX.out.s 1).trans rfl
 have xz0 := (qAa HX.out.z 0).trans rfl
 have xz1 := (qAa HX.out.z 1).trans rfl
 have xz2 := (qAa HX.out.z 2).trans rfl
 have xz3 := (qAa HX.out.z 3).trans rfl
 have xz4 := (qAa HX.out.z 4).trans rfl
 have xz5 := (qAa HX.out.z 5).trans rfl
 have xz6 := (qAa HX.out.z 6).trans rfl
 have xp0 := (qAa HX.out.p 0).trans rfl
 have xp1 := (qAa HX.out.p 1).trans rfl
 have xq0 := qAb HX.out.r 0
 have xr0 := (qAa HX.out.r 0).trans rfl
 have xq1 := qAb HX.out.r 1
 have xr1 := (qAa HX.out.r 1).trans rfl
 have xq2 := qAb HX.out.r 2
 have xr2 := (qAa HX.out.r 2).trans rfl
 have xq3 := qAb HX.out.r 3
 have xr3 := (qAa HX.out.r 3).trans rfl
 have xq4 := qAb HX.out.r 4
 have xr4 := (qAa HX.out.r 4).trans rfl
 have xq5 := qAb HX.out.r 5
 have xr5 := (qAa HX.out.r 5).trans rfl
 have xq6 := qAb HX.out.r 6
 have xr6 := (qAa HX.out.r 6).trans rfl
 go_wp2
 refine bodyPost_ret (results_cell_row rfl _ _ (W.heap.size + 1 + 1 + 1 + 1) 138 _ (0, 0) _ rfl (lay7 (by first | exact HX.out.r | exact qAL HX.out.r (by simp) _ | exact qAL (qAL HX.out.r (by simp) _) (by simp) _)) Tryz.underlying138 rfl (by kernel_rfl)) rfl ?_
 exact qAM (R := ⟨false, false, false, ⟨[], []⟩, ⟨[], []⟩⟩) (K := 7) (by omega) (by omega) rfl (nl 0) FI.nil rfl (nl 0) FI.nil rfl (nl 0) FI.nil rfl (nl 0) FI.nil (by first | exact HB.out | exact qAf HB.out (by first | omega | (dsimp only; omega)) | exact qAf (qAf HB.out (by first | omega | (dsimp only; omega))) (by first | omega | (dsimp only; omega))) HNW.out
theorem step_5 {W : World} {okF : Nat → Prop} (n ty bb : Int) (A1 A2 A3 A4 A5 A6 A7 : Option Addr) (n1 c1 c2 n3 c3 n4 c4 c5 c6 c7 : Nat) (res : Int) {ls vs st : List Int} {tr : List S200}
  (hL : Kd.F (Kd.int .i64) W okF A2 ls.length ls) (hc2 : ls.length ≤ c2) (hV : Kd.F (Kd.int .i64) W okF A5 vs.length vs) (hc5 : vs.length ≤ c5) (hS : Kd.F (Kd.int .i64) W okF A6 st.length st) (hc6 : st.length ≤ c6) (hT : Kd.F k200 W okF A7 tr.length tr) (hc7 : tr.length ≤ c7) (hl : st.length ≤ 2000000) (hll : ls.length ≤ 2000000) (hlv : vs.length ≤ 2000000) (hlt : tr.length ≤ 2000000) (hnew : ∀ k, W.heap.size ≤ k → okF k) (h0 : 0 ≤ n) (hn : n < vs.length):
  Calls Tryz.prog 67 #[.agg #[.slice A1 n1 c1, .int .i64 res, .slice A2 ls.length c2, .slice A3 n3 c3], .agg #[.slice A4 n4 c4, .slice A5 vs.length c5], .agg #[.int .i64 5, .int .i64 n, .int .i64 ty, .int .u64 bb], .agg #[.slice A6 st.length c6, .slice A7 tr.length c7]] W (qAN W okF ⟨qAO st [vs.getD n.toNat 0], true, false, ⟨qAP st [vs.getD n.toNat 0], tr⟩, ⟨[], []⟩⟩) := by
 obtain ⟨kl, hkl⟩ := eX ls.length
 obtain ⟨kv, hkv⟩ := eX vs.length
 obtain ⟨ks, hks⟩ := eX st.length
 obtain ⟨kt, hkt⟩ := eX tr.length
 obtain ⟨WB, hWB⟩ := eX (stW W #[.slice A1 n1 c1, .int .i64 res, .slice A2 kl c2, .slice A3 n3 c3] #[.slice A4 n4 c4, .slice A5 kv c5] #[.int .i64 5, .int .i64 n, .int .i64 ty, .int .u64 bb] #[.slice A6 ks c6, .slice A7 kt c7] #[.bool true, .bool true, .bool false, .slice A6 ks c6, .slice A7 kt c7, .slice none 0 0, .slice none 0 0])
 have HX : qAc (SB W.heap.size #[.slice A1 n1 c1, .int .i64 res, .slice A2 kl c2, .slice A3 n3 c3] #[.slice A4 n4 c4, .slice A5 kv c5] #[.int .i64 5, .int .i64 n, .int .i64 ty, .int .u64 bb] #[.slice A6 ks c6, .slice A7 kt c7] #[.bool true, .bool true, .bool false, .slice A6 ks c6, .slice A7 kt c7, .slice none 0 0, .slice none 0 0] WB) := ⟨hWB ▸ qBg W _ _ _ _ _⟩
 have HB : qAc (Below W.heap.size W WB) := ⟨hWB ▸ qAI W _ _ _ _ _⟩
 have HSZ : qAc (W.heap.size + 7 ≤ WB.heap.size) := ⟨by rw [hWB, qAT]; exact nl _⟩
 have FS : qAc (FI W.heap.size 7 okF (Kd.int .i64) WB A6 ks st) := ⟨by rw [hks]; exact FI.of hS HB.out⟩
 have FT : qAc (FI W.heap.size 7 okF k200 WB A7 kt tr) := ⟨by rw [hkt]; exact FI.of hT HB.out⟩
 have HKL := am hkl
 have HKV := am hkv
 have HKS := am hks
 have HKT := am hkt
 have HC6 := am hc6
 have HC7 := am hc7
 have HLS := am hl
 have HNW := am hnew
 have HLT := am hlt
 rw [← hkl, ← hkv, ← hks, ← hkt]
 obtain ⟨ad, rfl, xel0⟩ := qC1 (Kd.F_now hV) n.toNat (by omega)
 have xlt := bl xel0
 have NEL : qAc ((ad.add n.toNat).block ≠ W.heap.size + 1 + 1 + 1 + 1 + 1 + 1) := ⟨by omega⟩
 have xel := (HB.out.cell xlt).trans xel0
 clear xel0
 obtain ⟨y, hy⟩ := eX (vs.getD n.toNat 0)
 rw [← hy] at xel ⊢
 have hd : decide (n ≥ (kv : Int)) = false := decide_eq_false (by omega)
 have h1 : n < (kv : Int) := by omega
 obtain ⟨A8, k8, c8, hk8, hc8, hF8, hT8⟩ := qCz A6 c6 st [y] hS hc6 hl (by simp)
 have FR : qAc (FI W.heap.size 7 okF (Kd.int .i64) WB A8 k8 (qAP st [y])) := ⟨by rw [hk8] at hF8 ⊢; exact FI.of hF8 HB.out⟩
 obtain ⟨b8, hb8⟩ := eX (qAO st [y])
 rw [← hb8, ← hks] at hT8
 rw [← hb8]
 have HTP := am hT8
 have HK8 := am hk8
 have HC8 := am hc8
 clear hT8 hb8 hk8 hc8 hF8 hy hn xlt
 clear hL hV hS hT hc2 hc5 hc6 hc7 hl hll hlv hlt hnew hkl hkv hks hkt
 go_enter Tryz.func67, Tryz.ntmps67
 go_upto_region 3 with fail
 simp only [stW] at hWB
 rw [← hWB]
 clear hWB
 have xi0 := (qAa HX.out.i 0).trans rfl
 have xi1 := (qAa HX.out.i 1).trans rfl
 have xi2 := (qAa HX.out.i 2).trans rfl
 have xi3 := (qAa HX.out.i 3).trans rfl
 have xs0 := (qAa HX.out.s 0).trans rfl
 have xs1 := (qAa HX.out.s 1).trans rfl
 have xp0 := (qAa HX.out.p 0).trans rfl
 have xp1 := (qAa HX.out.p 1).trans rfl
 go_wp2_with fail
 go_region_held3 (fun W' => W'.cell? ⟨W.heap.size + 1 + 1 + 1, 0, none⟩ = some (.slice A6 ks c6) ∧ W'.cell? ⟨W.heap.size + 1 + 1, 0, none⟩ = some (.int .i64 5) ∧ W'.cell? ⟨W.heap.size + 1 + 1, 1, none⟩ = some (.int .i64 n) ∧ W'.cell? ⟨W.heap.size + 1, 1, none⟩ = some (.slice (some ad) kv c5) ∧ W'.cell? (ad.add n.toNat) = some (.int .i64 y))
  (first | exact ⟨xs0, xi0, xi1, xp1, xel⟩ | exact ⟨ys0, yi0, yi1, yp1, yel⟩ | exact ⟨qAk _ xs0, qAk _ xi0, qAk _ xi1, qAk _ xp1, qAk _ xel⟩)
  (first
    | (go_at_call 95; refine (HTP.out _ _ _ (HB.out.drew.alloc HB.out.size _) (C_one WB.drew y) (nl _)).mono ?_; rintro e w1 ⟨rfl, hb1⟩; have hbb := ((Below.refl WB.heap.size WB).drew.alloc (nl _) (.cells #[.int .i64 y] 3)).trans (hb1.mono (by simp)); have ys0 := (hbb.cell (bl xs0)).trans xs0; have yi0 := (hbb.cell (bl xi0)).trans xi0; have yi1 := (hbb.cell (bl xi1)).trans xi1; have yp1 := (hbb.cell (bl xp1)).trans xp1; have yel := (hbb.cell (bl xel)).trans xel; replace HX := am (HX.out.below hbb); replace HB := am (HB.out.trans (hbb.mono HB.out.size)); replace HSZ := am (Nat.le_trans HSZ.out hbb.size); replace FS := am (FI.below FS.out hbb); replace FT := am (FI.below FT.out hbb); replace FR := am (FI.below FR.out hbb); have xq0 := qAb HX.out.r 0; have xr0 := (qAa HX.out.r 0).trans rfl; have xq1 := qAb HX.out.r 1; have xr1 := (qAa HX.out.r 1).trans rfl; have xq2 := qAb HX.out.r 2; have xr2 := (qAa HX.out.r 2).trans rfl; have xq3 := qAb HX.out.r 3; have xr3 := (qAa HX.out.r 3).trans rfl; have xq4 := qAb HX.out.r 4; have xr4 := (qAa HX.out.r 4).trans rfl; have xq5 := qAb HX.out.r 5; have xr5 := (qAa HX.out.r 5).trans rfl; have xq6 := qAb HX.out.r 6; have xr6 := (qAa HX.out.r 6).trans rfl; have xo0 := (qAa HX.out.o 0).trans rfl; have xg0 := qAb HX.out.o 0; have xo1 := (qAa HX.out.o 1).trans rfl; have xo2 := (qAa HX.out.o 2).trans rfl; have xo3 := (qAa HX.out.o 3).trans rfl; have xg3 := qAb HX.out.o 3; have xo4 := (qAa HX.out.o 4).trans rfl; have xg4 := qAb HX.out.o 4; have xo5 := (qAa HX.out.o 5).trans rfl; have xo6 := (qAa HX.out.o 6).trans rfl; clear hbb; clear hb1))
 go_wp2
 refine bodyPost_ret (results_cell_row rfl _ _ (W.heap.size + 1 + 1 + 1 + 1) 138 _ (0, 0) _ rfl (lay7 (by first | exact HX.out.r | exact qAL HX.out.r (by simp) _ | exact qAL (qAL HX.out.r (by simp) _) (by simp) _)) Tryz.underlying138 rfl (by kernel_rfl)) rfl ?_
 exact qAM (R := ⟨b8, true, false, ⟨qAP st [y], tr⟩, ⟨[], []⟩⟩) (K := 7) (by omega) (by omega) HK8.out HC8.out (by first | exact FR.out | exact FI.set FR.out (by first | omega | (dsimp only; omega)) (by first | omega | (dsimp only; omega)) _ | exact FI.set (FI.set FR.out (by first | omega | (dsimp only; omega)) (by first | omega | (dsimp only; omega)) _) (by first | omega | (dsimp only; omega)) (by first | omega | (dsimp only; omega)) _) HKT.out (by have := HC7.out; have := HKT.out; omega) (by first | exact FT.out | exact FI.set FT.out (by first | omega | (dsimp only; omega)) (by first | omega | (dsimp only; omega)) _ | exact FI.set (FI.set FT.out (by first | omega | (dsimp only; omega)) (by first | omega | (dsimp only; omega)) _) (by first | omega | (dsimp only; omega)) (by first | omega | (dsimp only; omega)) _) rfl (nl 0) FI.nil rfl (nl 0) FI.nil (by first | exact HB.out | exact qAf HB.out (by first | omega | (dsimp only; omega)) | exact qAf (qAf HB.out (by first | omega | (dsimp only; omega))) (by first | omega | (dsimp only; omega))) HNW.out
end RV
namespace RV
theorem vinfo_Open : (Tryz.prog.info? 200).map (fun i => (i.zero, i.size, i.bytes)) = some (some (.agg #[.int .i64 0, .slice none 0 0]), 2, 32) := by kernel_rfl
theorem leap_8 {W : World} {okF : Nat → Prop} (n ty bb : Int) (A1 A2 A3 A4 A5 A6 A7 : Option Addr) (n1 c1 c2 n3 c3 c4 c5 c6 c7 : Nat) (res : Int) {ls vs st : List Int} {tr : List S200}
  (hL : Kd.F (Kd.int .i64) W okF A2 ls.length ls) (hc2 : ls.length ≤ c2) {fs : List S24} (hF : Kd.F k24 W okF A4 fs.length fs) (hlf : fs.length ≤ 2000000) (hV : Kd.F (Kd.int .i64) W okF A5 vs.length vs) (hc5 : vs.length ≤ c5) (hS : Kd.F (Kd.int .i64) W okF A6 st.length st) (hc6 : st.length ≤ c6) (hT : Kd.F k200 W okF A7 tr.length tr) (hc7 : tr.length ≤ c7) (hl : st.length ≤ 2000000) (hll : ls.length ≤ 2000000) (hlv : vs.length ≤ 2000000) (hlt : tr.length ≤ 2000000) (hnew : ∀ k, W.heap.size ≤ k → okF k) :
  Calls Tryz.prog 99 #[.agg #[.slice A1 n1 c1, .int .i64 res, .slice A2 ls.length c2, .slice A3 n3 c3], .agg #[.slice A4 fs.length c4, .slice A5 vs.length c5], .agg #[.int .i64 8, .int .i64 n, .int .i64 ty, .int .u64 bb], .agg #[.slice A6 st.length c6, .slice A7 tr.length c7]] W (qAN W okF ⟨true, false, true, ⟨[], []⟩, ⟨st, tr⟩⟩) := by
 obtain ⟨kf, hkf⟩ := eX fs.length
 obtain ⟨kl, hkl⟩ := eX ls.length
 obtain ⟨kv, hkv⟩ := eX vs.length
 obtain ⟨ks, hks⟩ := eX st.length
 obtain ⟨kt, hkt⟩ := eX tr.length
 obtain ⟨WB, hWB⟩ := eX (leW W #[.slice A1 n1 c1, .int .i64 res, .slice A2 kl c2, .slice A3 n3 c3] #[.slice A4 kf c4, .slice A5 kv c5] #[.int .i64 8, .int .i64 n, .int .i64 ty, .int .u64 bb] #[.slice A6 ks c6, .slice A7 kt c7])
 have HX : qAc (LB W.heap.size #[.slice A1 n1 c1, .int .i64 res, .slice A2 kl c2, .slice A3 n3 c3] #[.slice A4 kf c4, .slice A5 kv c5] #[.int .i64 8, .int .i64 n, .int .i64 ty, .int .u64 bb] #[.slice A6 ks c6, .slice A7 kt c7] WB) := ⟨hWB ▸ qCw W _ _ _ _⟩
 have HB : qAc (Below W.heap.size W WB) := ⟨hWB ▸ qBB W _ _ _ _⟩
 have HSZ : qAc (W.heap.size + 5 ≤ WB.heap.size) := ⟨by rw [hWB, qBT]; exact nl _⟩
 have FS : qAc (FI W.heap.size 5 okF (Kd.int .i64) WB A6 ks st) := ⟨by rw [hks]; exact FI.of hS HB.out⟩
 have FT : qAc (FI W.heap.size 5 okF k200 WB A7 kt tr) := ⟨by rw [hkt]; exact FI.of hT HB.out⟩
 have HKL := am hkl
 have HKV := am hkv
 have HKS := am hks
 have HKT := am hkt
 have HC6 := am hc6
 have HC7 := am hc7
 have HLS := am hl
 have HNW := am hnew
 have HLT := am hlt
 rw [← hkl, ← hkv, ← hks, ← hkt, ← hkf]
 clear hL hF hlf hV hS hT hc2 hc5 hc6 hc7 hl hll hlv hlt hnew hkl hkv hks hkt hkf
 go_enter Tryz.func99, Tryz.ntmps99
 go_upto_region 1 with fail
 simp only [leW] at hWB
 rw [← hWB]
 clear hWB
 have xi0 := (qAa HX.out.i 0).trans rfl
 have xi1 := (qAa HX.out.i 1).trans rfl
 have xi2 := (qAa HX.out.i 2).trans rfl
 have xi3 := (qAa HX.out.i 3).trans rfl
 have xs0 := (qAa HX.out.s 0).trans rfl
 have xs1 := (qAa HX.out.s 1).trans rfl
 have xq0 := qAb HX.out.r 0
 have xr0 := (qAa HX.out.r 0).trans rfl
 have xq1 := qAb HX.out.r 1
 have xr1 := (qAa HX.out.r 1).trans rfl
 have xq2 := qAb HX.out.r 2
 have xr2 := (qAa HX.out.r 2).trans rfl
 have xq3 := qAb HX.out.r 3
 have xr3 := (qAa HX.out.r 3).trans rfl
 have xq4 := qAb HX.out.r 4
 have xr4 := (qAa HX.out.r 4).trans rfl
 have xq5 := qAb HX.out.r 5
 have xr5 := (qAa HX.out.r 5).trans rfl
 have xq6 := qAb HX.out.r 6
 have xr6 := (qAa HX.out.r 6).trans rfl
 go_wp2
 refine bodyPost_ret (results_cell_row rfl _ _ (W.heap.size + 1 + 1 + 1 + 1) 138 _ (0, 0) _ rfl (lay7 HX.out.r) Tryz.underlying138 rfl (by kernel_rfl)) rfl ?_
 exact (qAM (R := ⟨true, false, true, ⟨[], []⟩, ⟨st, tr⟩⟩) (K := 5) (by omega) (by omega) rfl (nl 0) FI.nil rfl (nl 0) FI.nil HKS.out (by have := HC6.out; have := HKS.out; omega) (by first | with_reducible exact FS.out | with_reducible exact FI.alloc FS.out _) HKT.out (by have := HC7.out; have := HKT.out; omega) (by first | with_reducible exact FT.out | with_reducible exact FI.alloc FT.out _) (by first | with_reducible exact HB.out | with_reducible exact HB.out.alloc HB.out.size _) HNW.out)
theorem leap_9 {W : World} {okF : Nat → Prop} (n ty bb : Int) (A1 A2 A3 A4 A5 A6 A7 : Option Addr) (n1 c1 c2 n3 c3 c4 c5 c6 c7 : Nat) (res : Int) {ls vs st : List Int} {tr : List S200}
  (hL : Kd.F (Kd.int .i64) W okF A2 ls.length ls) (hc2 : ls.length ≤ c2) {fs : List S24} (hF : Kd.F k24 W okF A4 fs.length fs) (hlf : fs.length ≤ 2000000) (hV : Kd.F (Kd.int .i64) W okF A5 vs.length vs) (hc5 : vs.length ≤ c5) (hS : Kd.F (Kd.int .i64) W okF A6 st.length st) (hc6 : st.length ≤ c6) (hT : Kd.F k200 W okF A7 tr.length tr) (hc7 : tr.length ≤ c7) (hl : st.length ≤ 2000000) (hll : ls.length ≤ 2000000) (hlv : vs.length ≤ 2000000) (hlt : tr.length ≤ 2000000) (hnew : ∀ k, W.heap.size ≤ k → okF k) :
  Calls Tryz.prog 99 #[.agg #[.slice A1 n1 c1, .int .i64 res, .slice A2 ls.length c2, .slice A3 n3 c3], .agg #[.slice A4 fs.length c4, .slice A5 vs.length c5], .agg #[.int .i64 9, .int .i64 n, .int .i64 ty, .int .u64 bb], .agg #[.slice A6 st.length c6, .slice A7 tr.length c7]] W (qAN W okF ⟨qAO st [3], true, true, ⟨qAP st [3], tr⟩, ⟨qAP st [3], tr⟩⟩) := by
 obtain ⟨kf, hkf⟩ := eX fs.length
 obtain ⟨kl, hkl⟩ := eX ls.length
 obtain ⟨kv, hkv⟩ := eX vs.length
 obtain ⟨ks, hks⟩ := eX st.length
 obtain ⟨kt, hkt⟩ := eX tr.length
 obtain ⟨WB, hWB⟩ := eX (leW W #[.slice A1 n1 c1, .int .i64 res, .slice A2 kl c2, .slice A3 n3 c3] #[.slice A4 kf c4, .slice A5 kv c5] #[.int .i64 9, .int .i64 n, .int .i64 ty, .int .u64 bb] #[.slice A6 ks c6, .slice A7 kt c7])
 have HX : qAc (LB W.heap.size #[.slice A1 n1 c1, .int .i64 res, .slice A2 kl c2, .slice A3 n3 c3] #[.slice A4 kf c4, .slice A5 kv c5] #[.int .i64 9, .int .i64 n, .int .i64 ty, .int .u64 bb] #[.slice A6 ks c6, .slice A7 kt c7] WB) := ⟨hWB ▸ qCw W _ _ _ _⟩
 have HB : qAc (Below W.heap.size W WB) := ⟨hWB ▸ qBB W _ _ _ _⟩
 have HSZ : qAc (W.heap.size + 5 ≤ WB.heap.size) := ⟨by rw [hWB, qBT]; exact nl _⟩
 have FS : qAc (FI W.heap.size 5 okF (Kd.int .i64) WB A6 ks st) := ⟨by rw [hks]; exact FI.of hS HB.out⟩
 have FT : qAc (FI W.heap.size 5 okF k200 WB A7 kt tr) := ⟨by rw [hkt]; exact FI.of hT HB.out⟩
 have HKL := am hkl
 have HKV := am hkv
 have HKS := am hks
 have HKT := am hkt
 have HC6 := am hc6
 have HC7 := am hc7
 have HLS := am hl
 have HNW := am hnew
 have HLT := am hlt
 rw [← hkl, ← hkv, ← hks, ← hkt, ← hkf]
 obtain ⟨A8, k8, c8, hk8, hc8, hF8, hT8⟩ := qCz A6 c6 st [3] hS hc6 hl (by first | omega | simp)
 have FR : qAc (FI W.heap.size 5 okF (Kd.int .i64) WB A8 k8 (qAP st [3])) := ⟨by rw [hk8] at hF8 ⊢; exact FI.of hF8 HB.out⟩
 obtain ⟨b8, hb8⟩ := eX (qAO st [3])
 rw [← hb8, ← hks] at hT8
 rw [← hb8]
 have HTP := am hT8
 have HK8 := am hk8
 have HC8 := am hc8
 clear hT8 hb8 hk8 hc8 hF8
 clear hL hF hlf hV hS hT hc2 hc5 hc6 hc7 hl hll hlv hlt hnew hkl hkv hks hkt hkf
 go_enter Tryz.func99, Tryz.ntmps99
 go_upto_region 1 with fail
 simp only [leW] at hWB
 rw [← hWB]
 clear hWB
 have xi0 := (qAa HX.out.i 0).trans rfl
 have xi1 := (qAa HX.out.i 1).trans rfl
 have xi2 := (qAa HX.out.i 2).trans rfl
 have xi3 := (qAa HX.out.i 3).trans rfl
 have xs0 := (qAa HX.out.s 0).trans rfl
 have xs1 := (qAa HX.out.s 1).trans rfl
 go_wp2_with (go_at_call 95; refine (HTP.out _ _ _ (HB.out.alloc HB.out.size _) (C_one WB 3) (nl _)).mono ?_; rintro e w1 ⟨rfl, hb1⟩; have hbb := ((Below.refl WB.heap.size WB).alloc (nl _) (.cells #[.int .i64 3] 3)).trans (hb1.mono (by simp)); clear xi0 xi1 xi2 xi3 xs0 xs1; replace HX := am (HX.out.below hbb); replace HB := am (HB.out.trans (hbb.mono HB.out.size)); replace HSZ := am (Nat.le_trans HSZ.out hbb.size); replace FS := am (FI.below FS.out hbb); replace FT := am (FI.below FT.out hbb); replace FR := am (FI.below FR.out hbb); have xs0 := (qAa HX.out.s 0).trans rfl; have xs1 := (qAa HX.out.s 1).trans rfl; have xq0 := qAb HX.out.r 0; have xr0 := (qAa HX.out.r 0).trans rfl; have xq1 := qAb HX.out.r 1; have xr1 := (qAa HX.out.r 1).trans rfl; have xq2 := qAb HX.out.r 2; have xr2 := (qAa HX.out.r 2).trans rfl; have xq3 := qAb HX.out.r 3; have xr3 := (qAa HX.out.r 3).trans rfl; have xq4 := qAb HX.out.r 4; have xr4 := (qAa HX.out.r 4).trans rfl; have xq5 := qAb HX.out.r 5; have xr5 := (qAa HX.out.r 5).trans rfl; have xq6 := qAb HX.out.r 6; have xr6 := (qAa HX.out.r 6).trans rfl; clear hbb; have xlt := qAQ HX.out.r; have xlt2 := qAQ HX.out.s; clear hb1)
 refine bodyPost_ret (results_cell_row rfl _ _ (W.heap.size + 1 + 1 + 1 + 1) 138 _ (0, 0) _ rfl (al_e _ (lay7 HX.out.r)) Tryz.underlying138 rfl (by kernel_rfl)) rfl ?_
 exact qAN.alloc (qAM (R := ⟨b8, true, true, ⟨qAP st [3], tr⟩, ⟨qAP st [3], tr⟩⟩) (K := 5) (by omega) (by omega) HK8.out HC8.out (by first | with_reducible exact FR.out | with_reducible exact FI.alloc FR.out _) HKT.out (by have := HC7.out; have := HKT.out; omega) (by first | with_reducible exact FT.out | with_reducible exact FI.alloc FT.out _) HK8.out HC8.out (by first | with_reducible exact FR.out | with_reducible exact FI.alloc FR.out _) HKT.out (by have := HC7.out; have := HKT.out; omega) (by first | with_reducible exact FT.out | with_reducible exact FI.alloc FT.out _) (by first | with_reducible exact HB.out | with_reducible exact HB.out.alloc HB.out.size _) HNW.out) _
theorem leap_13 {W : World} {okF : Nat → Prop} (n ty bb : Int) (A1 A2 A3 A4 A5 A6 A7 : Option Addr) (n1 c1 c2 n3 c3 c4 c5 c6 c7 : Nat) (res : Int) {ls vs st : List Int} {tr : List S200}
  (hL : Kd.F (Kd.int .i64) W okF A2 ls.length ls) (hc2 : ls.length ≤ c2) {fs : List S24} (hF : Kd.F k24 W okF A4 fs.length fs) (hlf : fs.length ≤ 2000000) (hV : Kd.F (Kd.int .i64) W okF A5 vs.length vs) (hc5 : vs.length ≤ c5) (hS : Kd.F (Kd.int .i64) W okF A6 st.length st) (hc6 : st.length ≤ c6) (hT : Kd.F k200 W okF A7 tr.length tr) (hc7 : tr.length ≤ c7) (hl : st.length ≤ 2000000) (hll : ls.length ≤ 2000000) (hlv : vs.length ≤ 2000000) (hlt : tr.length ≤ 2000000) (hnew : ∀ k, W.heap.size ≤ k → okF k) :
  Calls Tryz.prog 99 #[.agg #[.slice A1 n1 c1, .int .i64 res, .slice A2 ls.length c2, .slice A3 n3 c3], .agg #[.slice A4 fs.length c4, .slice A5 vs.length c5], .agg #[.int .i64 13, .int .i64 n, .int .i64 ty, .int .u64 bb], .agg #[.slice A6 st.length c6, .slice A7 tr.length c7]] W (qAN W okF ⟨qAO st [1], false, false, ⟨[], []⟩, ⟨[], []⟩⟩) := by
 obtain ⟨kf, hkf⟩ := eX fs.length
 obtain ⟨kl, hkl⟩ := eX ls.length
 obtain ⟨kv, hkv⟩ := eX vs.length
 obtain ⟨ks, hks⟩ := eX st.length
 obtain ⟨kt, hkt⟩ := eX tr.length
 obtain ⟨WB, hWB⟩ := eX (leW W #[.slice A1 n1 c1, .int .i64 res, .slice A2 kl c2, .slice A3 n3 c3] #[.slice A4 kf c4, .slice A5 kv c5] #[.int .i64 13, .int .i64 n, .int .i64 ty, .int .u64 bb] #[.slice A6 ks c6, .slice A7 kt c7])
 have HX : qAc (LB W.heap.size #[.slice A1 n1 c1, .int .i64 res, .slice A2 kl c2, .slice A3 n3 c3] #[.slice A4 kf c4, .slice A5 kv c5] #[.int .i64 13, .int .i64 n, .int .i64 ty, .int .u64 bb] #[.slice A6 ks c6, .slice A7 kt c7] WB) := ⟨hWB ▸ qCw W _ _ _ _⟩
 have HB : qAc (Below W.heap.size W WB) := ⟨hWB ▸ qBB W _ _ _ _⟩
 have HSZ : qAc (W.heap.size + 5 ≤ WB.heap.size) := ⟨by rw [hWB, qBT]; exact nl _⟩
 have FS : qAc (FI W.heap.size 5 okF (Kd.int .i64) WB A6 ks st) := ⟨by rw [hks]; exact FI.of hS HB.out⟩
 have FT : qAc (FI W.heap.size 5 okF k200 WB A7 kt tr) := ⟨by rw [hkt]; exact FI.of hT HB.out⟩
 have HKL := am hkl
 have HKV := am hkv
 have HKS := am hks
 have HKT := am hkt
 have HC6 := am hc6
 have HC7 := am hc7
 have HLS := am hl
 have HNW := am hnew
 have HLT := am hlt
 rw [← hkl, ← hkv, ← hks, ← hkt, ← hkf]
 obtain ⟨A8, k8, c8, hk8, hc8, hF8, hT8⟩ := qCz A6 c6 st [1] hS hc6 hl (by first | omega | simp)
 have FR : qAc (FI W.heap.size 5 okF (Kd.int .i64) WB A8 k8 (qAP st [1])) := ⟨by rw [hk8] at hF8 ⊢; exact FI.of hF8 HB.out⟩
 obtain ⟨b8, hb8⟩ := eX (qAO st [1])
 rw [← hb8, ← hks] at hT8
 rw [← hb8]
 have HTP := am hT8
 have HK8 := am hk8
 have HC8 := am hc8
 clear hT8 hb8 hk8 hc8 hF8
 clear hL hF hlf hV hS hT hc2 hc5 hc6 hc7 hl hll hlv hlt hnew hkl hkv hks hkt hkf
 go_enter Tryz.func99, Tryz.ntmps99
 go_upto_region 1 with fail
 simp only [leW] at hWB
 rw [← hWB]
 clear hWB
 have xi0 := (qAa HX.out.i 0).trans rfl
 have xi1 := (qAa HX.out.i 1).trans rfl
 have xi2 := (qAa HX.out.i 2).trans rfl
 have xi3 := (qAa HX.out.i 3).trans rfl
 have xs0 := (qAa HX.out.s 0).trans rfl
 have xs1 := (qAa HX.out.s 1).trans rfl
 go_wp2_with (go_at_call 95; refine (HTP.out _ _ _ (HB.out.alloc HB.out.size _) (C_one WB 1) (nl _)).mono ?_; rintro e w1 ⟨rfl, hb1⟩; have hbb := ((Below.refl WB.heap.size WB).alloc (nl _) (.cells #[.int .i64 1] 3)).trans (hb1.mono (by simp)); clear xi0 xi1 xi2 xi3 xs0 xs1; replace HX := am (HX.out.below hbb); replace HB := am (HB.out.trans (hbb.mono HB.out.size)); replace HSZ := am (Nat.le_trans HSZ.out hbb.size); replace FS := am (FI.below FS.out hbb); replace FT := am (FI.below FT.out hbb); replace FR := am (FI.below FR.out hbb); have xq0 := qAb HX.out.r 0; have xr0 := (qAa HX.out.r 0).trans rfl; have xq1 := qAb HX.out.r 1; have xr1 := (qAa HX.out.r 1).trans rfl; have xq2 := qAb HX.out.r 2; have xr2 := (qAa HX.out.r 2).trans rfl; have xq3 := qAb HX.out.r 3; have xr3 := (qAa HX.out.r 3).trans rfl; have xq4 := qAb HX.out.r 4; have xr4 := (qAa HX.out.r 4).trans rfl; have xq5 := qAb HX.out.r 5; have xr5 := (qAa HX.out.r 5).trans rfl; have xq6 := qAb HX.out.r 6; have xr6 := (qAa HX.out.r 6).trans rfl; clear hbb; clear hb1)
 refine bodyPost_ret (results_cell_row rfl _ _ (W.heap.size + 1 + 1 + 1 + 1) 138 _ (0, 0) _ rfl (lay7 HX.out.r) Tryz.underlying138 rfl (by kernel_rfl)) rfl ?_
 exact (qAM (R := ⟨b8, false, false, ⟨[], []⟩, ⟨[], []⟩⟩) (K := 5) (by omega) (by omega) rfl (nl 0) FI.nil rfl (nl 0) FI.nil rfl (nl 0) FI.nil rfl (nl 0) FI.nil (by first | with_reducible exact HB.out | with_reducible exact HB.out.alloc HB.out.size _) HNW.out)
theorem leap_11 {W : World} {okF : Nat → Prop} (n ty bb : Int) (A1 A2 A3 A4 A5 A6 A7 : Option Addr) (n1 c1 c2 n3 c3 c4 c5 c6 c7 : Nat) (res : Int) {ls vs st : List Int} {tr : List S200}
  (hL : Kd.F (Kd.int .i64) W okF A2 ls.length ls) (hc2 : ls.length ≤ c2) {fs : List S24} (hF : Kd.F k24 W okF A4 fs.length fs) (hlf : fs.length ≤ 2000000) (hV : Kd.F (Kd.int .i64) W okF A5 vs.length vs) (hc5 : vs.length ≤ c5) (hS : Kd.F (Kd.int .i64) W okF A6 st.length st) (hc6 : st.length ≤ c6) (hT : Kd.F k200 W okF A7 tr.length tr) (hc7 : tr.length ≤ c7) (hl : st.length ≤ 2000000) (hll : ls.length ≤ 2000000) (hlv : vs.length ≤ 2000000) (hlt : tr.length ≤ 2000000) (hnew : ∀ k, W.heap.size ≤ k → okF k) (hr : res ≠ 0):
  Calls Tryz.prog 99 #[.agg #[.slice A1 n1 c1, .int .i64 res, .slice A2 ls.length c2, .slice A3 n3 c3], .agg #[.slice A4 fs.length c4, .slice A5 vs.length c5], .agg #[.int .i64 11, .int .i64 n, .int .i64 ty, .int .u64 bb], .agg #[.slice A6 st.length c6, .slice A7 tr.length c7]] W (qAN W okF ⟨qAO st [res], false, false, ⟨[], []⟩, ⟨[], []⟩⟩) := by
 obtain ⟨kf, hkf⟩ := eX fs.length
 obtain ⟨kl, hkl⟩ := eX ls.length
 obtain ⟨kv, hkv⟩ := eX vs.length
 obtain ⟨ks, hks⟩ := eX st.length
 obtain ⟨kt, hkt⟩ := eX tr.length
 obtain ⟨WB, hWB⟩ := eX (leW W #[.slice A1 n1 c1, .int .i64 res, .slice A2 kl c2, .slice A3 n3 c3] #[.slice A4 kf c4, .slice A5 kv c5] #[.int .i64 11, .int .i64 n, .int .i64 ty, .int .u64 bb] #[.slice A6 ks c6, .slice A7 kt c7])
 have HX : qAc (LB W.heap.size #[.slice A1 n1 c1, .int .i64 res, .slice A2 kl c2, .slice A3 n3 c3] #[.slice A4 kf c4, .slice A5 kv c5] #[.int .i64 11, .int .i64 n, .int .i64 ty, .int .u64 bb] #[.slice A6 ks c6, .slice A7 kt c7] WB) := ⟨hWB ▸ qCw W _ _ _ _⟩
 have HB : qAc (Below W.heap.size W WB) := ⟨hWB ▸ qBB W _ _ _ _⟩
 have HSZ : qAc (W.heap.size + 5 ≤ WB.heap.size) := ⟨by rw [hWB, qBT]; exact nl _⟩
 have FS : qAc (FI W.heap.size 5 okF (Kd.int .i64) WB A6 ks st) := ⟨by rw [hks]; exact FI.of hS HB.out⟩
 have FT : qAc (FI W.heap.size 5 okF k200 WB A7 kt tr) := ⟨by rw [hkt]; exact FI.of hT HB.out⟩
 have HKL := am hkl
 have HKV := am hkv
 have HKS := am hks
 have HKT := am hkt
 have HC6 := am hc6
 have HC7 := am hc7
 have HLS := am hl
 have HNW := am hnew
 have HLT := am hlt
 rw [← hkl, ← hkv, ← hks, ← hkt, ← hkf]
 obtain ⟨A8, k8, c8, hk8, hc8, hF8, hT8⟩ := qCz A6 c6 st [res] hS hc6 hl (by first | omega | simp)
 have FR : qAc (FI W.heap.size 5 okF (Kd.int .i64) WB A8 k8 (qAP st [res])) := ⟨by rw [hk8] at hF8 ⊢; exact FI.of hF8 HB.out⟩
 obtain ⟨b8, hb8⟩ := eX (qAO st [res])
 rw [← hb8, ← hks] at hT8
 rw [← hb8]
 have HTP := am hT8
 have HK8 := am hk8
 have HC8 := am hc8
 clear hT8 hb8 hk8 hc8 hF8
 have hq : (res != 0) = true := bne_iff_ne.mpr hr
 clear hr
 clear hL hF hlf hV hS hT hc2 hc5 hc6 hc7 hl hll hlv hlt hnew hkl hkv hks hkt hkf
 go_enter Tryz.func99, Tryz.ntmps99
 go_upto_region 1 with fail
 simp only [leW] at hWB
 rw [← hWB]
 clear hWB
 have xi0 := (qAa HX.out.i 0).trans rfl
 have xi1 := (qAa HX.out.i 1).trans rfl
 have xi2 := (qAa HX.out.i 2).trans rfl
 have xi3 := (qAa HX.out.i 3).trans rfl
 have xs0 := (qAa HX.out.s 0).trans rfl
 have xs1 := (qAa HX.out.s 1).trans rfl
 have xf0 := (qAa HX.out.f 0).trans rfl
 have xf1 := (qAa HX.out.f 1).trans rfl
 have xf2 := (qAa HX.out.f 2).trans rfl
 have xf3 := (qAa HX.out.f 3).trans rfl
 go_wp2_with (go_at_call 95; refine (HTP.out _ _ _ (HB.out.alloc HB.out.size _) (C_one WB res) (nl _)).mono ?_; rintro e w1 ⟨rfl, hb1⟩; have hbb := ((Below.refl WB.heap.size WB).alloc (nl _) (.cells #[.int .i64 res] 3)).trans (hb1.mono (by simp)); clear xi0 xi1 xi2 xi3 xs0 xs1 xf0 xf1 xf2 xf3; replace HX := am (HX.out.below hbb); replace HB := am (HB.out.trans (hbb.mono HB.out.size)); replace HSZ := am (Nat.le_trans HSZ.out hbb.size); replace FS := am (FI.below FS.out hbb); replace FT := am (FI.below FT.out hbb); replace FR := am (FI.below FR.out hbb); have xq0 := qAb HX.out.r 0; have xr0 := (qAa HX.out.r 0).trans rfl; have xq1 := qAb HX.out.r 1; have xr1 := (qAa HX.out.r 1).trans rfl; have xq2 := qAb HX.out.r 2; have xr2 := (qAa HX.out.r 2).trans rfl; have xq3 := qAb HX.out.r 3; have xr3 := (qAa HX.out.r 3).trans rfl; have xq4 := qAb HX.out.r 4; have xr4 := (qAa HX.out.r 4).trans rfl; have xq5 := qAb HX.out.r 5; have xr5 := (qAa HX.out.r 5).trans rfl; have xq6 := qAb HX.out.r 6; have xr6 := (qAa HX.out.r 6).trans rfl; clear hbb; clear hb1)
 refine bodyPost_ret (results_cell_row rfl _ _ (W.heap.size + 1 + 1 + 1 + 1) 138 _ (0, 0) _ rfl (lay7 HX.out.r) Tryz.underlying138 rfl (by kernel_rfl)) rfl ?_
 exact (qAM (R := ⟨b8, false, false, ⟨[], []⟩, ⟨[], []⟩⟩) (K := 5) (by omega) (by omega) rfl (nl 0) FI.nil rfl (nl 0) FI.nil rfl (nl 0) FI.nil rfl (nl 0) FI.nil (by first | with_reducible exact HB.out | with_reducible exact HB.out.alloc HB.out.size _) HNW.out)
theorem leap_11_none {W : World} {okF : Nat → Prop} (n ty bb : Int) (A1 A2 A3 A4 A5 A6 A7 : Option Addr) (n1 c1 c2 n3 c3 c4 c5 c6 c7 : Nat) (res : Int) {ls vs st : List Int} {tr : List S200}
  (hL : Kd.F (Kd.int .i64) W okF A2 ls.length ls) (hc2 : ls.length ≤ c2) {fs : List S24} (hF : Kd.F k24 W okF A4 fs.length fs) (hlf : fs.length ≤ 2000000) (hV : Kd.F (Kd.int .i64) W okF A5 vs.length vs) (hc5 : vs.length ≤ c5) (hS : Kd.F (Kd.int .i64) W okF A6 st.length st) (hc6 : st.length ≤ c6) (hT : Kd.F k200 W okF A7 tr.length tr) (hc7 : tr.length ≤ c7) (hl : st.length ≤ 2000000) (hll : ls.length ≤ 2000000) (hlv : vs.length ≤ 2000000) (hlt : tr.length ≤ 2000000) (hnew : ∀ k, W.heap.size ≤ k → okF k) (hr : res = 0):
  Calls Tryz.prog 99 #[.agg #[.slice A1 n1 c1, .int .i64 res, .slice A2 ls.length c2, .slice A3 n3 c3], .agg #[.slice A4 fs.length c4, .slice A5 vs.length c5], .agg #[.int .i64 11, .int .i64 n, .int .i64 ty, .int .u64 bb], .agg #[.slice A6 st.length c6, .slice A7 tr.length c7]] W (qAN W okF ⟨true, false, false, ⟨[], []⟩, ⟨[], []⟩⟩) := by
 obtain ⟨kf, hkf⟩ := eX fs.length
 obtain ⟨kl, hkl⟩ := eX ls.length
 obtain ⟨kv, hkv⟩ := eX vs.length
 obtain ⟨ks, hks⟩ := eX st.length
 obtain ⟨kt, hkt⟩ := eX tr.length
 obtain ⟨WB, hWB⟩ := eX (leW W #[.slice A1 n1 c1, .int .i64 res, .slice A2 kl c2, .slice A3 n3 c3] #[.slice A4 kf c4, .slice A5 kv c5] #[.int .i64 11, .int .i64 n, .int .i64 ty, .int .u64 bb] #[.slice A6 ks c6, .slice A7 kt c7])
 have HX : qAc (LB W.heap.size #[.slice A1 n1 c1, .int .i64 res, .slice A2 kl c2, .slice A3 n3 c3] #[.slice A4 kf c4, .slice A5 kv c5] #[.int .i64 11, .int .i64 n, .int .i64 ty, .int .u64 bb] #[.slice A6 ks c6, .slice A7 kt c7] WB) := ⟨hWB ▸ qCw W _ _ _ _⟩
 have HB : qAc (Below W.heap.size W WB) := ⟨hWB ▸ qBB W _ _ _ _⟩
 have HSZ : qAc (W.heap.size + 5 ≤ WB.heap.size) := ⟨by rw [hWB, qBT]; exact nl _⟩
 have FS : qAc (FI W.heap.size 5 okF (Kd.int .i64) WB A6 ks st) := ⟨by rw [hks]; exact FI.of hS HB.out⟩
 have FT : qAc (FI W.heap.size 5 okF k200 WB A7 kt tr) := ⟨by rw [hkt]; exact FI.of hT HB.out⟩
 have HKL := am hkl
 have HKV := am hkv
 have HKS := am hks
 have HKT := am hkt
 have HC6 := am hc6
 have HC7 := am hc7
 have HLS := am hl
 have HNW := am hnew
 have HLT := am hlt
 rw [← hkl, ← hkv, ← hks, ← hkt, ← hkf]
 subst hr
 clear hL hF hlf hV hS hT hc2 hc5 hc6 hc7 hl hll hlv hlt hnew hkl hkv hks hkt hkf
 go_enter Tryz.func99, Tryz.ntmps99
 go_upto_region 1 with fail
 simp only [leW] at hWB
 rw [← hWB]
 clear hWB
 have xi0 := (qAa HX.out.i 0).trans rfl
 have xi1 := (qAa HX.out.i 1).trans rfl
 have xi2 := (qAa HX.out.i 2).trans rfl
 have xi3 := (qAa HX.out.i 3).trans rfl
 have xs0 := (qAa HX.out.s 0).trans rfl
 have xs1 := (qAa HX.out.s 1).trans rfl
 have xf0 := (qAa HX.out.f 0).trans rfl
 have xf1 := (qAa HX.out.f 1).trans rfl
 have xf2 := (qAa HX.out.f 2).trans rfl
 have xf3 := (qAa HX.out.f 3).trans rfl
 have xq0 := qAb HX.out.r 0
 have xr0 := (qAa HX.out.r 0).trans rfl
 have xq1 := qAb HX.out.r 1
 have xr1 := (qAa HX.out.r 1).trans rfl
 have xq2 := qAb HX.out.r 2
 have xr2 := (qAa HX.out.r 2).trans rfl
 have xq3 := qAb HX.out.r 3
 have xr3 := (qAa HX.out.r 3).trans rfl
 have xq4 := qAb HX.out.r 4
 have xr4 := (qAa HX.out.r 4).trans rfl
 have xq5 := qAb HX.out.r 5
 have xr5 := (qAa HX.out.r 5).trans rfl
 have xq6 := qAb HX.out.r 6
 have xr6 := (qAa HX.out.r 6).trans rfl
 go_wp2
 refine bodyPost_ret (results_cell_row rfl _ _ (W.heap.size + 1 + 1 + 1 + 1) 138 _ (0, 0) _ rfl (lay7 HX.out.r) Tryz.underlying138 rfl (by kernel_rfl)) rfl ?_
 exact (qAM (R := ⟨true, false, false, ⟨[], []⟩, ⟨[], []⟩⟩) (K := 5) (by omega) (by omega) rfl (nl 0) FI.nil rfl (nl 0) FI.nil rfl (nl 0) FI.nil rfl (nl 0) FI.nil (by first | with_reducible exact HB.out | with_reducible exact HB.out.alloc HB.out.size _) HNW.out)
theorem leap_10_none {W : World} {okF : Nat → Prop} (n ty bb : Int) (A1 A2 A3 A4 A5 A6 A7 : Option Addr) (n1 c1 c2 n3 c3 c4 c5 c6 c7 : Nat) (res : Int) {ls vs st : List Int} {tr : List S200}
  (hL : Kd.F (Kd.int .i64) W okF A2 ls.length ls) (hc2 : ls.length ≤ c2) {fs : List S24} (hF : Kd.F k24 W okF A4 fs.length fs) (hlf : fs.length ≤ 2000000) (hV : Kd.F (Kd.int .i64) W okF A5 vs.length vs) (hc5 : vs.length ≤ c5) (hS : Kd.F (Kd.int .i64) W okF A6 st.length st) (hc6 : st.length ≤ c6) (hT : Kd.F k200 W okF A7 tr.length tr) (hc7 : tr.length ≤ c7) (hl : st.length ≤ 2000000) (hll : ls.length ≤ 2000000) (hlv : vs.length ≤ 2000000) (hlt : tr.length ≤ 2000000) (hnew : ∀ k, W.heap.size ≤ k → okF k) (hn : fs.length ≤ n):
  Calls Tryz.prog 99 #[.agg #[.slice A1 n1 c1, .int .i64 res, .slice A2 ls.length c2, .slice A3 n3 c3], .agg #[.slice A4 fs.length c4, .slice A5 vs.length c5], .agg #[.int .i64 10, .int .i64 n, .int .i64 ty, .int .u64 bb], .agg #[.slice A6 st.length c6, .slice A7 tr.length c7]] W (qAN W okF ⟨false, false, false, ⟨[], []⟩, ⟨[], []⟩⟩) := by
 obtain ⟨kf, hkf⟩ := eX fs.length
 obtain ⟨kl, hkl⟩ := eX ls.length
 obtain ⟨kv, hkv⟩ := eX vs.length
 obtain ⟨ks, hks⟩ := eX st.length
 obtain ⟨kt, hkt⟩ := eX tr.length
 obtain ⟨WB, hWB⟩ := eX (leW W #[.slice A1 n1 c1, .int .i64 res, .slice A2 kl c2, .slice A3 n3 c3] #[.slice A4 kf c4, .slice A5 kv c5] #[.int .i64 10, .int .i64 n, .int .i64 ty, .int .u64 bb] #[.slice A6 ks c6, .slice A7 kt c7])
 have HX : qAc (LB W.heap.size #[.slice A1 n1 c1, .int .i64 res, .slice A2 kl c2, .slice A3 n3 c3] #[.slice A4 kf c4, .slice A5 kv c5] #[.int .i64 10, .int .i64 n, .int .i64 ty, .int .u64 bb] #[.slice A6 ks c6, .slice A7 kt c7] WB) := ⟨hWB ▸ qCw W _ _ _ _⟩
 have HB : qAc (Below W.heap.size W WB) := ⟨hWB ▸ qBB W _ _ _ _⟩
 have HSZ : qAc (W.heap.size + 5 ≤ WB.heap.size) := ⟨by rw [hWB, qBT]; exact nl _⟩
 have FS : qAc (FI W.heap.size 5 okF (Kd.int .i64) WB A6 ks st) := ⟨by rw [hks]; exact FI.of hS HB.out⟩
 have FT : qAc (FI W.heap.size 5 okF k200 WB A7 kt tr) := ⟨by rw [hkt]; exact FI.of hT HB.out⟩
 have HKL := am hkl
 have HKV := am hkv
 have HKS := am hks
 have HKT := am hkt
 have HC6 := am hc6
 have HC7 := am hc7
 have HLS := am hl
 have HNW := am hnew
 have HLT := am hlt
 rw [← hkl, ← hkv, ← hks, ← hkt, ← hkf]
 have hd : decide (n ≥ (kf : Int)) = true := decide_eq_true (by omega)
 clear hn
 clear hL hF hlf hV hS hT hc2 hc5 hc6 hc7 hl hll hlv hlt hnew hkl hkv hks hkt hkf
 go_enter Tryz.func99, Tryz.ntmps99
 go_upto_region 1 with fail
 simp only [leW] at hWB
 rw [← hWB]
 clear hWB
 have xi0 := (qAa HX.out.i 0).trans rfl
 have xi1 := (qAa HX.out.i 1).trans rfl
 have xi2 := (qAa HX.out.i 2).trans rfl
 have xi3 := (qAa HX.out.i 3).trans rfl
 have xs0 := (qAa HX.out.s 0).trans rfl
 have xs1 := (qAa HX.out.s 1).trans rfl
 have xp0 := (qAa HX.out.p 0).trans rfl
 have xp1 := (qAa HX.out.p 1).trans rfl
 have xq0 := qAb HX.out.r 0
 have xr0 := (qAa HX.out.r 0).trans rfl
 have xq1 := qAb HX.out.r 1
 have xr1 := (qAa HX.out.r 1).trans rfl
 have xq2 := qAb HX.out.r 2
 have xr2 := (qAa HX.out.r 2).trans rfl
 have xq3 := qAb HX.out.r 3
 have xr3 := (qAa HX.out.r 3).trans rfl
 have xq4 := qAb HX.out.r 4
 have xr4 := (qAa HX.out.r 4).trans rfl
 have xq5 := qAb HX.out.r 5
 have xr5 := (qAa HX.out.r 5).trans rfl
 have xq6 := qAb HX.out.r 6
 have xr6 := (qAa HX.out.r 6).trans rfl
 go_wp2
 refine bodyPost_ret (results_cell_row rfl _ _ (W.heap.size + 1 + 1 + 1 + 1) 138 _ (0, 0) _ rfl (lay7 HX.out.r) Tryz.underlying138 rfl (by kernel_rfl)) rfl ?_
 exact (qAM (R := ⟨false, false, false, ⟨[], []⟩, ⟨[], []⟩⟩) (K := 5) (by omega) (by omega) rfl (nl 0) FI.nil rfl (nl 0) FI.nil rfl (nl 0) FI.nil rfl (nl 0) FI.nil (by first | with_reducible exact HB.out | with_reducible exact HB.out.alloc HB.out.size _) HNW.out)
theorem leap_10_void {W : World} {okF : Nat → Prop} (n ty bb : Int) (A1 A2 A3 A4 A5 A6 A7 : Option Addr) (n1 c1 c2 n3 c3 c4 c5 c6 c7 : Nat) (res : Int) {ls vs st : List Int} {tr : List S200}
  (hL : Kd.F (Kd.int .i64) W okF A2 ls.length ls) (hc2 : ls.length ≤ c2) {fs : List S24} (hF : Kd.F k24 W okF A4 fs.length fs) (hlf : fs.length ≤ 2000000) (hV : Kd.F (Kd.int .i64) W okF A5 vs.length vs) (hc5 : vs.length ≤ c5) (hS : Kd.F (Kd.int .i64) W okF A6 st.length st) (hc6 : st.length ≤ c6) (hT : Kd.F k200 W okF A7 tr.length tr) (hc7 : tr.length ≤ c7) (hl : st.length ≤ 2000000) (hll : ls.length ≤ 2000000) (hlv : vs.length ≤ 2000000) (hlt : tr.length ≤ 2000000) (hnew : ∀ k, W.heap.size ≤ k → okF k) (h0 : 0 ≤ n) (hn : n < fs.length) (hps : ∀ x ∈ fs, x.f0.length ≤ 2000000) (hr : (qAH fs n).f1 = 0):
  Calls Tryz.prog 99 #[.agg #[.slice A1 n1 c1, .int .i64 res, .slice A2 ls.length c2, .slice A3 n3 c3], .agg #[.slice A4 fs.length c4, .slice A5 vs.length c5], .agg #[.int .i64 10, .int .i64 n, .int .i64 ty, .int .u64 bb], .agg #[.slice A6 st.length c6, .slice A7 tr.length c7]] W (qAN W okF ⟨qAO st (qAH fs n).f0, true, false, ⟨qAP st (qAH fs n).f0, tr⟩, ⟨[], []⟩⟩) := by
 obtain ⟨kf, hkf⟩ := eX fs.length
 obtain ⟨kl, hkl⟩ := eX ls.length
 obtain ⟨kv, hkv⟩ := eX vs.length
 obtain ⟨ks, hks⟩ := eX st.length
 obtain ⟨kt, hkt⟩ := eX tr.length
 obtain ⟨WB, hWB⟩ := eX (leW W #[.slice A1 n1 c1, .int .i64 res, .slice A2 kl c2, .slice A3 n3 c3] #[.slice A4 kf c4, .slice A5 kv c5] #[.int .i64 10, .int .i64 n, .int .i64 ty, .int .u64 bb] #[.slice A6 ks c6, .slice A7 kt c7])
 have HX : qAc (LB W.heap.size #[.slice A1 n1 c1, .int .i64 res, .slice A2 kl c2, .slice A3 n3 c3] #[.slice A4 kf c4, .slice A5 kv c5] #[.int .i64 10, .int .i64 n, .int .i64 ty, .int .u64 bb] #[.slice A6 ks c6, .slice A7 kt c7] WB) := ⟨hWB ▸ qCw W _ _ _ _⟩
 have HB : qAc (Below W.heap.size W WB) := ⟨hWB ▸ qBB W _ _ _ _⟩
 have HSZ : qAc (W.heap.size + 5 ≤ WB.heap.size) := ⟨by rw [hWB, qBT]; exact nl _⟩
 have FS : qAc (FI W.heap.size 5 okF (Kd.int .i64) WB A6 ks st) := ⟨by rw [hks]; exact FI.of hS HB.out⟩
 have FT : qAc (FI W.heap.size 5 okF k200 WB A7 kt tr) := ⟨by rw [hkt]; exact FI.of hT HB.out⟩
 have HKL := am hkl
 have HKV := am hkv
 have HKS := am hks
 have HKT := am hkt
 have HC6 := am hc6
 have HC7 := am hc7
 have HLS := am hl
 have HNW := am hnew
 have HLT := am hlt
 rw [← hkl, ← hkv, ← hks, ← hkt, ← hkf]
 obtain ⟨ad, ca, rfl, _, hKa, hca0, _⟩ := Kd.F_get hF z24 n h0 (by omega)
 have hca : ∀ j u, ca[j]? = some u → W.cell? (ad.add (n.toNat * 2 + j)) = some u := hca0
 obtain ⟨D1, d1, hcs, hd1, hC1⟩ := k24_openF hKa
 subst hcs
 obtain ⟨sg, hsg⟩ := eX (qAH fs n)
 have hsg' : fs.getD n.toNat z24 = sg := hsg.symm
 rw [hsg'] at hd1 hC1 hca
 rw [← hsg] at hr ⊢
 have ps0 := hca 0 _ rfl
 have rs0 : W.cell? ⟨(ad.add (n.toNat * 2)).block, (ad.add (n.toNat * 2)).off + 1, none⟩ = some (.int .i64 sg.f1) := by rw [← qAU _ _ 1 (by omega)]; exact hca 1 _ rfl
 rw [Nat.add_zero] at ps0
 have xlt := bl ps0
 have xps := (HB.out.cell xlt).trans ps0
 have xrs := (HB.out.cell (p := ⟨(ad.add (n.toNat * 2)).block, (ad.add (n.toNat * 2)).off + 1, none⟩) xlt).trans rs0
 obtain ⟨pl, hpl⟩ := eX sg.f0.length
 have FP : qAc (FI W.heap.size 5 okF (Kd.int .i64) WB D1 pl sg.f0) := ⟨by rw [hpl]; exact FI.of hC1 HB.out⟩
 have hpm := hps sg (by rw [← hsg']; exact List.mem_of_getElem? (qCa fs z24 n.toNat (by omega)))
 have htl := takenR_len st sg.f0
 obtain ⟨A8, k8, c8, hk8, hc8, hF8, hT8⟩ := qCz A6 c6 st sg.f0 hS hc6 hl hpm
 have FR : qAc (FI W.heap.size 5 okF (Kd.int .i64) WB A8 k8 (qAP st sg.f0)) := ⟨by rw [hk8] at hF8 ⊢; exact FI.of hF8 HB.out⟩
 obtain ⟨b8, hb8⟩ := eX (qAO st sg.f0)
 rw [← hb8, ← hks, ← hpl] at hT8
 rw [← hb8]
 have HTP := am hT8
 have HK8 := am hk8
 have HC8 := am hc8
 rw [hr] at xrs rs0
 rw [← hpl] at xps hd1
 have hd : decide (n ≥ (kf : Int)) = false := decide_eq_false (by omega)
 have h1 : n < (kf : Int) := by omega
 have HPL := am hpl
 have HD1 := am hd1
 clear hT8 hb8 hk8 hc8 hF8 hr hn hps hpm htl hpl hd1 hsg hsg' ps0 rs0 xlt hC1 hca hca0 hKa
 clear hL hF hlf hV hS hT hc2 hc5 hc6 hc7 hl hll hlv hlt hnew hkl hkv hks hkt hkf
 go_enter Tryz.func99, Tryz.ntmps99
 go_upto_region 1 with fail
 simp only [leW] at hWB
 rw [← hWB]
 clear hWB
 have xi0 := (qAa HX.out.i 0).trans rfl
 have xi1 := (qAa HX.out.i 1).trans rfl
 have xi2 := (qAa HX.out.i 2).trans rfl
 have xi3 := (qAa HX.out.i 3).trans rfl
 have xs0 := (qAa HX.out.s 0).trans rfl
 have xs1 := (qAa HX.out.s 1).trans rfl
 have xp0 := (qAa HX.out.p 0).trans rfl
 have xp1 := (qAa HX.out.p 1).trans rfl
 go_wp2_with fail
 go_region_held3 (fun W' => W'.cell? ⟨W.heap.size + 1 + 1 + 1, 0, none⟩ = some (.slice A6 ks c6) ∧ W'.cell? ⟨W.heap.size + 1 + 1, 1, none⟩ = some (.int .i64 n) ∧ W'.cell? ⟨W.heap.size + 1, 0, none⟩ = some (.slice (some ad) kf c4) ∧ W'.cell? (ad.add (n.toNat * 2)) = some (.slice D1 pl d1))
  (first | exact ⟨xs0, xi1, xp0, xps⟩)
  (first
    | (go_at_call 95; refine (HTP.out _ _ _ HB.out.drew (FI.now (FI.drew FP.out)) HD1.out).mono ?_; rintro e w1 ⟨rfl, hb1⟩; have hbb := (Below.refl WB.heap.size WB).drew.trans hb1; replace xps := (hbb.cell (bl xps)).trans xps; replace xrs := (hbb.cell (bl xrs)).trans xrs; clear xi0 xi1 xi2 xi3 xs0 xs1 xp0 xp1; replace HX := am (HX.out.below hbb); replace HB := am (HB.out.trans (hbb.mono HB.out.size)); replace HSZ := am (Nat.le_trans HSZ.out hbb.size); replace FS := am (FI.below FS.out hbb); replace FT := am (FI.below FT.out hbb); replace FR := am (FI.below FR.out hbb); have xi0 := (qAa HX.out.i 0).trans rfl; have xi1 := (qAa HX.out.i 1).trans rfl; have xi2 := (qAa HX.out.i 2).trans rfl; have xi3 := (qAa HX.out.i 3).trans rfl; have xs0 := (qAa HX.out.s 0).trans rfl; have xs1 := (qAa HX.out.s 1).trans rfl; have xp0 := (qAa HX.out.p 0).trans rfl; have xp1 := (qAa HX.out.p 1).trans rfl; have xq0 := qAb HX.out.r 0; have xr0 := (qAa HX.out.r 0).trans rfl; have xq1 := qAb HX.out.r 1; have xr1 := (qAa HX.out.r 1).trans rfl; have xq2 := qAb HX.out.r 2; have xr2 := (qAa HX.out.r 2).trans rfl; have xq3 := qAb HX.out.r 3; have xr3 := (qAa HX.out.r 3).trans rfl; have xq4 := qAb HX.out.r 4; have xr4 := (qAa HX.out.r 4).trans rfl; have xq5 := qAb HX.out.r 5; have xr5 := (qAa HX.out.r 5).trans rfl; have xq6 := qAb HX.out.r 6; have xr6 := (qAa HX.out.r 6).trans rfl; clear hbb; clear hb1))
 go_wp2
 refine bodyPost_ret (results_cell_row rfl _ _ (W.heap.size + 1 + 1 + 1 + 1) 138 _ (0, 0) _ rfl (lay7 HX.out.r) Tryz.underlying138 rfl (by kernel_rfl)) rfl ?_
 exact (qAM (R := ⟨b8, true, false, ⟨qAP st sg.f0, tr⟩, ⟨[], []⟩⟩) (K := 5) (by omega) (by omega) HK8.out HC8.out (by first | with_reducible exact FR.out | with_reducible exact FI.alloc FR.out _) HKT.out (by have := HC7.out; have := HKT.out; omega) (by first | with_reducible exact FT.out | with_reducible exact FI.alloc FT.out _) rfl (nl 0) FI.nil rfl (nl 0) FI.nil (by first | with_reducible exact HB.out | with_reducible exact HB.out.alloc HB.out.size _) HNW.out)
theorem leap_10 {W : World} {okF : Nat → Prop} (n ty bb : Int) (A1 A2 A3 A4 A5 A6 A7 : Option Addr) (n1 c1 c2 n3 c3 c4 c5 c6 c7 : Nat) (res : Int) {ls vs st : List Int} {tr : List S200}
  (hL : Kd.F (Kd.int .i64) W okF A2 ls.length ls) (hc2 : ls.length ≤ c2) {fs : List S24} (hF : Kd.F k24 W okF A4 fs.length fs) (hlf : fs.length ≤ 2000000) (hV : Kd.F (Kd.int .i64) W okF A5 vs.length vs) (hc5 : vs.length ≤ c5) (hS : Kd.F (Kd.int .i64) W okF A6 st.length st) (hc6 : st.length ≤ c6) (hT : Kd.F k200 W okF A7 tr.length tr) (hc7 : tr.length ≤ c7) (hl : st.length ≤ 2000000) (hll : ls.length ≤ 2000000) (hlv : vs.length ≤ 2000000) (hlt : tr.length ≤ 2000000) (hnew : ∀ k, W.heap.size ≤ k → okF k) (h0 : 0 ≤ n) (hn : n < fs.length) (hps : ∀ x ∈ fs, x.f0.length ≤ 2000000) (hr : (qAH fs n).f1 ≠ 0):
  Calls Tryz.prog 99 #[.agg #[.slice A1 n1 c1, .int .i64 res, .slice A2 ls.length c2, .slice A3 n3 c3], .agg #[.slice A4 fs.length c4, .slice A5 vs.length c5], .agg #[.int .i64 10, .int .i64 n, .int .i64 ty, .int .u64 bb], .agg #[.slice A6 st.length c6, .slice A7 tr.length c7]] W (qAN W okF ⟨qAO st (qAH fs n).f0, true, false, ⟨qAP st (qAH fs n).f0 ++ [(qAH fs n).f1], tr⟩, ⟨[], []⟩⟩) := by
 obtain ⟨kf, hkf⟩ := eX fs.length
 obtain ⟨kl, hkl⟩ := eX ls.length
 obtain ⟨kv, hkv⟩ := eX vs.length
 obtain ⟨ks, hks⟩ := eX st.length
 obtain ⟨kt, hkt⟩ := eX tr.length
 obtain ⟨WB, hWB⟩ := eX (leW W #[.slice A1 n1 c1, .int .i64 res, .slice A2 kl c2, .slice A3 n3 c3] #[.slice A4 kf c4, .slice A5 kv c5] #[.int .i64 10, .int .i64 n, .int .i64 ty, .int .u64 bb] #[.slice A6 ks c6, .slice A7 kt c7])
 have HX : qAc (LB W.heap.size #[.slice A1 n1 c1, .int .i64 res, .slice A2 kl c2, .slice A3 n3 c3] #[.slice A4 kf c4, .slice A5 kv c5] #[.int .i64 10, .int .i64 n, .int .i64 ty, .int .u64 bb] #[.slice A6 ks c6, .slice A7 kt c7] WB) := ⟨hWB ▸ qCw W _ _ _ _⟩
 have HB : qAc (Below W.heap.size W WB) := ⟨hWB ▸ qBB W _ _ _ _⟩
 have HSZ : qAc (W.heap.size + 5 ≤ WB.heap.size) := ⟨by rw [hWB, qBT]; exact nl _⟩
 have FS : qAc (FI W.heap.size 5 okF (Kd.int .i64) WB A6 ks st) := ⟨by rw [hks]; exact FI.of hS HB.out⟩
 have FT : qAc (FI W.heap.size 5 okF k200 WB A7 kt tr) := ⟨by rw [hkt]; exact FI.of hT HB.out⟩
 have HKL := am hkl
 have HKV := am hkv
 have HKS := am hks
 have HKT := am hkt
 have HC6 := am hc6
 have HC7 := am hc7
 have HLS := am hl
 have HNW := am hnew
 have HLT := am hlt
 rw [← hkl, ← hkv, ← hks, ← hkt, ← hkf]
 obtain ⟨ad, ca, rfl, _, hKa, hca0, _⟩ := Kd.F_get hF z24 n h0 (by omega)
 have hca : ∀ j u, ca[j]? = some u → W.cell? (ad.add (n.toNat * 2 + j)) = some u := hca0
 obtain ⟨D1, d1, hcs, hd1, hC1⟩ := k24_openF hKa
 subst hcs
 obtain ⟨sg, hsg⟩ := eX (qAH fs n)
 have hsg' : fs.getD n.toNat z24 = sg := hsg.symm
 rw [hsg'] at hd1 hC1 hca
 rw [← hsg] at hr ⊢
 have ps0 := hca 0 _ rfl
 have rs0 : W.cell? ⟨(ad.add (n.toNat * 2)).block, (ad.add (n.toNat * 2)).off + 1, none⟩ = some (.int .i64 sg.f1) := by rw [← qAU _ _ 1 (by omega)]; exact hca 1 _ rfl
 rw [Nat.add_zero] at ps0
 have xlt := bl ps0
 have xps := (HB.out.cell xlt).trans ps0
 have xrs := (HB.out.cell (p := ⟨(ad.add (n.toNat * 2)).block, (ad.add (n.toNat * 2)).off + 1, none⟩) xlt).trans rs0
 obtain ⟨pl, hpl⟩ := eX sg.f0.length
 have FP : qAc (FI W.heap.size 5 okF (Kd.int .i64) WB D1 pl sg.f0) := ⟨by rw [hpl]; exact FI.of hC1 HB.out⟩
 have hpm := hps sg (by rw [← hsg']; exact List.mem_of_getElem? (qCa fs z24 n.toNat (by omega)))
 have htl := takenR_len st sg.f0
 obtain ⟨A8, k8, c8, hk8, hc8, hF8, hT8⟩ := qCz A6 c6 st sg.f0 hS hc6 hl hpm
 have FR : qAc (FI W.heap.size 5 okF (Kd.int .i64) WB A8 k8 (qAP st sg.f0)) := ⟨by rw [hk8] at hF8 ⊢; exact FI.of hF8 HB.out⟩
 obtain ⟨b8, hb8⟩ := eX (qAO st sg.f0)
 rw [← hb8, ← hks, ← hpl] at hT8
 rw [← hb8]
 have HTP := am hT8
 have HK8 := am hk8
 have HC8 := am hc8
 obtain ⟨rv, hrv⟩ := eX sg.f1
 rw [← hrv] at xrs rs0 hr ⊢
 have hq : (rv != 0) = true := bne_iff_ne.mpr hr
 have HPT : qAc (∀ W1, FI W.heap.size 5 okF (Kd.int .i64) W1 A8 k8 (qAP st sg.f0) → Calls Tryz.prog 94 #[.slice A8 k8 c8, .int .i64 rv] W1 fun e w' => ∃ A' c', e = .returned (.slice A' (k8 + 1) c') ∧ k8 + 1 ≤ c' ∧ Kd.F (Kd.int .i64) w' (fun k => W1.heap.size ≤ k) A' (k8 + 1) ((qAP st sg.f0) ++ [rv]) ∧ Below W1.heap.size W1 w') := ⟨fun W1 h => by
   have h_ := hk8
   rw [h_] at h ⊢
   exact qBJ A8 c8 ((qAP st sg.f0)) rv (FI.now h) (by omega) (by first | omega | (simp; omega))⟩
 rw [← hpl] at xps hd1
 have hd : decide (n ≥ (kf : Int)) = false := decide_eq_false (by omega)
 have h1 : n < (kf : Int) := by omega
 have HPL := am hpl
 have HD1 := am hd1
 clear hT8 hb8 hk8 hc8 hF8 hr hrv hn hps hpm htl hpl hd1 hsg hsg' ps0 rs0 xlt hC1 hca hca0 hKa
 clear hL hF hlf hV hS hT hc2 hc5 hc6 hc7 hl hll hlv hlt hnew hkl hkv hks hkt hkf
 go_enter Tryz.func99, Tryz.ntmps99
 go_upto_region 1 with fail
 simp only [leW] at hWB
 rw [← hWB]
 clear hWB
 have xi0 := (qAa HX.out.i 0).trans rfl
 have xi1 := (qAa HX.out.i 1).trans rfl
 have xi2 := (qAa HX.out.i 2).trans rfl
 have xi3 := (qAa HX.out.i 3).trans rfl
 have xs0 := (qAa HX.out.s 0).trans rfl
 have xs1 := (qAa HX.out.s 1).trans rfl
 have xp0 := (qAa HX.out.p 0).trans rfl
 have xp1 := (qAa HX.out.p 1).trans rfl
 go_wp2_with fail
 go_region_held3 (fun W' => W'.cell? ⟨W.heap.size + 1 + 1 + 1, 0, none⟩ = some (.slice A6 ks c6) ∧ W'.cell? ⟨W.heap.size + 1 + 1, 1, none⟩ = some (.int .i64 n) ∧ W'.cell? ⟨W.heap.size + 1, 0, none⟩ = some (.slice (some ad) kf c4) ∧ W'.cell? (ad.add (n.toNat * 2)) = some (.slice D1 pl d1))
  (first | exact ⟨xs0, xi1, xp0, xps⟩)
  (first
    | (go_at_call 95; refine (HTP.out _ _ _ HB.out.drew (FI.now (FI.drew FP.out)) HD1.out).mono ?_; rintro e w1 ⟨rfl, hb1⟩; have hbb := (Below.refl WB.heap.size WB).drew.trans hb1; replace xps := (hbb.cell (bl xps)).trans xps; replace xrs := (hbb.cell (bl xrs)).trans xrs; clear xi0 xi1 xi2 xi3 xs0 xs1 xp0 xp1; replace HX := am (HX.out.below hbb); replace HB := am (HB.out.trans (hbb.mono HB.out.size)); replace HSZ := am (Nat.le_trans HSZ.out hbb.size); replace FS := am (FI.below FS.out hbb); replace FT := am (FI.below FT.out hbb); replace FR := am (FI.below FR.out hbb); have xi0 := (qAa HX.out.i 0).trans rfl; have xi1 := (qAa HX.out.i 1).trans rfl; have xi2 := (qAa HX.out.i 2).trans rfl; have xi3 := (qAa HX.out.i 3).trans rfl; have xs0 := (qAa HX.out.s 0).trans rfl; have xs1 := (qAa HX.out.s 1).trans rfl; have xp0 := (qAa HX.out.p 0).trans rfl; have xp1 := (qAa HX.out.p 1).trans rfl; have xq0 := qAb HX.out.r 0; have xr0 := (qAa HX.out.r 0).trans rfl; have xq1 := qAb HX.out.r 1; have xr1 := (qAa HX.out.r 1).trans rfl; have xq2 := qAb HX.out.r 2; have xr2 := (qAa HX.out.r 2).trans rfl; have xq3 := qAb HX.out.r 3; have xr3 := (qAa HX.out.r 3).trans rfl; have xq4 := qAb HX.out.r 4; have xr4 := (qAa HX.out.r 4).trans rfl; have xq5 := qAb HX.out.r 5; have xr5 := (qAa HX.out.r 5).trans rfl; have xq6 := qAb HX.out.r 6; have xr6 := (qAa HX.out.r 6).trans rfl; clear hbb; clear hb1))
 go_wp2_with (go_at_call 94; (with_reducible refine (HPT.out _ FR.out).mono ?_); rintro e w2 ⟨A9, c9, rfl, hc9, hF9, hb2⟩; have FN := am (FI.new (okF := okF) hF9 HSZ.out); have HC9 := am hc9; clear hF9 hc9; clear xi0 xi1 xi2 xi3 xs0 xs1 xp0 xp1 xr0 xr1 xr2 xr3 xr4 xr5 xr6 xq0 xq1 xq2 xq3 xq4 xq5 xq6; replace HX := am (HX.out.below hb2); replace HB := am (HB.out.trans (hb2.mono HB.out.size)); replace HSZ := am (Nat.le_trans HSZ.out hb2.size); replace FS := am (FI.below FS.out hb2); replace FT := am (FI.below FT.out hb2); have xs0 := (qAa HX.out.s 0).trans rfl; have xs1 := (qAa HX.out.s 1).trans rfl; have xq0 := qAb HX.out.r 0; have xr0 := (qAa HX.out.r 0).trans rfl; have xq1 := qAb HX.out.r 1; have xr1 := (qAa HX.out.r 1).trans rfl; have xq2 := qAb HX.out.r 2; have xr2 := (qAa HX.out.r 2).trans rfl; have xq3 := qAb HX.out.r 3; have xr3 := (qAa HX.out.r 3).trans rfl; have xq4 := qAb HX.out.r 4; have xr4 := (qAa HX.out.r 4).trans rfl; have xq5 := qAb HX.out.r 5; have xr5 := (qAa HX.out.r 5).trans rfl; have xq6 := qAb HX.out.r 6; have xr6 := (qAa HX.out.r 6).trans rfl; clear hb2)
 refine bodyPost_ret (results_cell_row rfl _ _ (W.heap.size + 1 + 1 + 1 + 1) 138 _ (0, 0) _ rfl (lay7 HX.out.r) Tryz.underlying138 rfl (by kernel_rfl)) rfl ?_
 exact (qAM (R := ⟨b8, true, false, ⟨qAP st sg.f0 ++ [rv], tr⟩, ⟨[], []⟩⟩) (K := 5) (by omega) (by omega) (by rw [HK8.out]; simp) HC9.out (by first | with_reducible exact FN.out | with_reducible exact FI.alloc FN.out _) HKT.out (by have := HC7.out; have := HKT.out; omega) (by first | with_reducible exact FT.out | with_reducible exact FI.alloc FT.out _) rfl (nl 0) FI.nil rfl (nl 0) FI.nil (by first | with_reducible exact HB.out | with_reducible exact HB.out.alloc HB.out.size _) HNW.out)
theorem leap_15 {W : World} {okF : Nat → Prop} (n ty bb : Int) (A1 A2 A3 A4 A5 A6 A7 : Option Addr) (n1 c1 c2 n3 c3 c4 c5 c6 c7 : Nat) (res : Int) {ls vs st : List Int} {tr : List S200}
  (hL : Kd.F (Kd.int .i64) W okF A2 ls.length ls) (hc2 : ls.length ≤ c2) {fs : List S24} (hF : Kd.F k24 W okF A4 fs.length fs) (hlf : fs.length ≤ 2000000) (hV : Kd.F (Kd.int .i64) W okF A5 vs.length vs) (hc5 : vs.length ≤ c5) (hS : Kd.F (Kd.int .i64) W okF A6 st.length st) (hc6 : st.length ≤ c6) (hT : Kd.F k200 W okF A7 tr.length tr) (hc7 : tr.length ≤ c7) (hl : st.length ≤ 2000000) (hll : ls.length ≤ 2000000) (hlv : vs.length ≤ 2000000) (hlt : tr.length ≤ 2000000) (hnew : ∀ k, W.heap.size ≤ k → okF k) :
  Calls Tryz.prog 99 #[.agg #[.slice A1 n1 c1, .int .i64 res, .slice A2 ls.length c2, .slice A3 n3 c3], .agg #[.slice A4 fs.length c4, .slice A5 vs.length c5], .agg #[.int .i64 15, .int .i64 n, .int .i64 ty, .int .u64 bb], .agg #[.slice A6 st.length c6, .slice A7 tr.length c7]] W (qAN W okF ⟨true, true, true, ⟨st, tr ++ [⟨n, st⟩]⟩, ⟨st ++ [1], tr⟩⟩) := by
 obtain ⟨kf, hkf⟩ := eX fs.length
 obtain ⟨kl, hkl⟩ := eX ls.length
 obtain ⟨kv, hkv⟩ := eX vs.length
 obtain ⟨ks, hks⟩ := eX st.length
 obtain ⟨kt, hkt⟩ := eX tr.length
 obtain ⟨WB, hWB⟩ := eX (leW W #[.slice A1 n1 c1, .int .i64 res, .slice A2 kl c2, .slice A3 n3 c3] #[.slice A4 kf c4, .slice A5 kv c5] #[.int .i64 15, .int .i64 n, .int .i64 ty, .int .u64 bb] #[.slice A6 ks c6, .slice A7 kt c7])
 have HX : qAc (LB W.heap.size #[.slice A1 n1 c1, .int .i64 res, .slice A2 kl c2, .slice A3 n3 c3] #[.slice A4 kf c4, .slice A5 kv c5] #[.int .i64 15, .int .i64 n, .int .i64 ty, .int .u64 bb] #[.slice A6 ks c6, .slice A7 kt c7] WB) := ⟨hWB ▸ qCw W _ _ _ _⟩
 have HB : qAc (Below W.heap.size W WB) := ⟨hWB ▸ qBB W _ _ _ _⟩
 have HSZ : qAc (W.heap.size + 5 ≤ WB.heap.size) := ⟨by rw [hWB, qBT]; exact nl _⟩
 have FS : qAc (FI W.heap.size 5 okF (Kd.int .i64) WB A6 ks st) := ⟨by rw [hks]; exact FI.of hS HB.out⟩
 have FT : qAc (FI W.heap.size 5 okF k200 WB A7 kt tr) := ⟨by rw [hkt]; exact FI.of hT HB.out⟩
 have HKL := am hkl
 have HKV := am hkv
 have HKS := am hks
 have HKT := am hkt
 have HC6 := am hc6
 have HC7 := am hc7
 have HLS := am hl
 have HNW := am hnew
 have HLT := am hlt
 rw [← hkl, ← hkv, ← hks, ← hkt, ← hkf]
 have HPT : qAc (∀ W1, FI W.heap.size 5 okF (Kd.int .i64) W1 A6 ks st → Calls Tryz.prog 94 #[.slice A6 ks c6, .int .i64 1] W1 fun e w' => ∃ A' c', e = .returned (.slice A' (ks + 1) c') ∧ ks + 1 ≤ c' ∧ Kd.F (Kd.int .i64) w' (fun k => W1.heap.size ≤ k) A' (ks + 1) (st ++ [1]) ∧ Below W1.heap.size W1 w') := ⟨fun W1 h => by
   have h_ := hks
   rw [h_] at h ⊢
   exact qBJ A6 c6 st 1 (FI.now h) (by omega) (by first | omega | (simp; omega))⟩
 have HXB := HX
 have HBB := HB
 have HSZB := HSZ
 have FSA := FS
 have FTA := FT
 have FSB := am (Kd.F_bound FS.out)
 have HLK : qAc (ks ≤ c6) := ⟨by omega⟩
 clear hL hF hlf hV hS hT hc2 hc5 hc6 hc7 hl hll hlv hlt hnew hkl hkv hks hkt hkf
 go_enter Tryz.func99, Tryz.ntmps99
 go_upto_region 1 with fail
 simp only [leW] at hWB
 rw [← hWB]
 clear hWB
 have xi0 := (qAa HX.out.i 0).trans rfl
 have xi1 := (qAa HX.out.i 1).trans rfl
 have xi2 := (qAa HX.out.i 2).trans rfl
 have xi3 := (qAa HX.out.i 3).trans rfl
 have xs0 := (qAa HX.out.s 0).trans rfl
 have xs1 := (qAa HX.out.s 1).trans rfl
 go_wp2_with (first
   | (at_builtin; refine Kd.N_append_rows k200 (w0 := WB) WB.heap.size rfl _ _ 115 200 _ 32 rfl Tryz.underlying115 vinfo_Open rfl (by decide) (by decide) (.slice none 0 0) [] tr A7 kt c7 (fun k => (okF k ∧ k < W.heap.size) ∨ W.heap.size + 5 ≤ k) (fun k => (okF k ∧ k < W.heap.size) ∨ W.heap.size + 5 ≤ k) rfl rfl (Kd.N_nil _ _ _ _ _) FT.out (fun k hk => ⟨hk, by simp [Value.ownBlock]⟩) (fun k hk => .inr (Nat.le_trans HSZ.out hk)) (Below.refl _ _) (nl _) (by have := HKT.out; have := HLT.out; simp; omega) ?_; intro v1 w1 hN1 hb1 _ _; rw [List.nil_append] at hN1; obtain ⟨B1, q1, rfl⟩ := Kd.N_slice hN1; rw [← HKT.out] at hN1 ⊢; have HBW := am hb1; have HN1 := am hN1; clear xi0 xi1 xi2 xi3 xs0 xs1; replace HX := am (HXB.out.below hb1); replace HB := am (HBB.out.trans (hb1.mono HBB.out.size)); replace HSZ := am (Nat.le_trans HSZB.out hb1.size); replace FS := am (FI.below FSA.out hb1); replace FT := am (FI.below FTA.out hb1); have xi0 := (qAa HX.out.i 0).trans rfl; have xi1 := (qAa HX.out.i 1).trans rfl; have xi2 := (qAa HX.out.i 2).trans rfl; have xi3 := (qAa HX.out.i 3).trans rfl; have xs0 := (qAa HX.out.s 0).trans rfl; have xs1 := (qAa HX.out.s 1).trans rfl; clear hb1 hN1)
   | (at_builtin; refine Kd.N_append k200 (w0 := WB) WB.heap.size rfl _ _ 115 200 _ 32 rfl Tryz.underlying115 vinfo_Open rfl (by decide) (by decide) (.slice B1 kt q1) tr ⟨n, st⟩ [.int .i64 n, .slice A6 ks c6] (fun k => (okF k ∧ k < W.heap.size) ∨ W.heap.size + 5 ≤ k) (fun k => ((okF k ∧ k < W.heap.size) ∨ W.heap.size + 5 ≤ k) ∧ k < WB.heap.size) rfl rfl (by { have h_ := Kd.F_below FSB.out HBW.out; have h2_ := HLK.out; rw [HKS.out] at h_ h2_ ⊢; exact k200_mkF _ _ ⟨n, st⟩ h2_ h_ }) (fun k hk => ⟨hk.1, fun e => by { have := Kd.N_base HN1.out k e.symm; have := hk.2; omega }⟩) (fun k hk => .inr (Nat.le_trans HSZ.out hk)) HN1.out HBW.out HBW.out.size (by { have := HKT.out; have := HLT.out; omega }) ?_; intro v2 w2 hN2 hb2 _ _; obtain ⟨B2, q2, rfl⟩ := Kd.N_slice hN2; obtain ⟨kn, hkn⟩ : ∃ k, k = (tr ++ [(⟨n, st⟩ : S200)]).length := ⟨_, rfl⟩; rw [← hkn] at hN2 ⊢; have HKN := am hkn; have HN2 := am hN2; have FO : qAc (FI W.heap.size 5 okF k200 w2 B2 kn (tr ++ [⟨n, st⟩])) := ⟨Kd.N_F hN2⟩; have HC2 := am (Kd.N_reads' hN2).2.1; clear xi0 xi1 xi2 xi3 xs0 xs1; replace HX := am (HXB.out.below hb2); replace HB := am (HBB.out.trans (hb2.mono HBB.out.size)); replace HSZ := am (Nat.le_trans HSZB.out hb2.size); replace FS := am (FI.below FSA.out hb2); replace FT := am (FI.below FTA.out hb2); have xs0 := (qAa HX.out.s 0).trans rfl; have xs1 := (qAa HX.out.s 1).trans rfl; have xq0 := qAb HX.out.r 0; have xr0 := (qAa HX.out.r 0).trans rfl; have xq1 := qAb HX.out.r 1; have xr1 := (qAa HX.out.r 1).trans rfl; have xq2 := qAb HX.out.r 2; have xr2 := (qAa HX.out.r 2).trans rfl; have xq3 := qAb HX.out.r 3; have xr3 := (qAa HX.out.r 3).trans rfl; have xq4 := qAb HX.out.r 4; have xr4 := (qAa HX.out.r 4).trans rfl; have xq5 := qAb HX.out.r 5; have xr5 := (qAa HX.out.r 5).trans rfl; have xq6 := qAb HX.out.r 6; have xr6 := (qAa HX.out.r 6).trans rfl; clear hb2 hN2 hkn))
 refine wp_region_noPanic ?_
 refine wp_region_held_drew (S := fun W' => W'.cell? ⟨W.heap.size + 1 + 1 + 1, 0, none⟩ = some (.slice A6 ks c6) ∧ W'.cell? ⟨W.heap.size + 1 + 1 + 1, 1, none⟩ = some (.slice A7 kt c7)) (by kernel_rfl) ⟨xs0, xs1⟩ (fun hHeld => ?_)
 refine hT 0 ?_
 refine hT 1 ?_
 refine hT 2 ?_
 refine hT 3 ?_
 refine hT 4 ?_
 refine hT 5 ?_
 refine hT 7 ?_
 refine hT 8 ?_
 refine wpAnyH_ready (rs := [6]) (by kernel_rfl) (by simp) ?_
 refine AllReadyH.cons (o := _) rfl (fun K hK => ?_) ?_
 ·go_simp
  go_at_call 94
  (with_reducible refine (HPT.out _ (FI.drew FS.out)).mono ?_)
  rintro e w3 ⟨A9, c9, rfl, hc9, hF9, hb3⟩
  have FN := am (FI.new (okF := okF) hF9 (show W.heap.size + 5 ≤ w2.drew.heap.size from HSZ.out))
  have HC9 := am hc9
  clear hF9 hc9
  have hbb := (Below.refl w2.heap.size w2).drew.trans hb3
  clear xs0 xs1 xr0 xr1 xr2 xr3 xr4 xr5 xr6 xq0 xq1 xq2 xq3 xq4 xq5 xq6
  replace HX := am (HX.out.below hbb)
  replace HB := am (HB.out.trans (hbb.mono HB.out.size))
  replace HSZ := am (Nat.le_trans HSZ.out hbb.size)
  replace FS := am (FI.below FS.out hbb)
  replace FT := am (FI.below FT.out hbb)
  replace FO := am (FI.below FO.out hbb)
  have xs0 := (qAa HX.out.s 0).trans rfl
  have xs1 := (qAa HX.out.s 1).trans rfl
  have xq0 := qAb HX.out.r 0
  have xr0 := (qAa HX.out.r 0).trans rfl
  have xq1 := qAb HX.out.r 1
  have xr1 := (qAa HX.out.r 1).trans rfl
  have xq2 := qAb HX.out.r 2
  have xr2 := (qAa HX.out.r 2).trans rfl
  have xq3 := qAb HX.out.r 3
  have xr3 := (qAa HX.out.r 3).trans rfl
  have xq4 := qAb HX.out.r 4
  have xr4 := (qAa HX.out.r 4).trans rfl
  have xq5 := qAb HX.out.r 5
  have xr5 := (qAa HX.out.r 5).trans rfl
  have xq6 := qAb HX.out.r 6
  have xr6 := (qAa HX.out.r 6).trans rfl
  clear hbb
  clear hb3
  go_wp2_with fail
  refine hK.out _ _ ⟨xs0, xs1⟩ (fun hHeld => ?_)
  clear hK K
  try simp only [Act.put, List.getElem_toArray, List.getElem_cons_zero, List.getElem_cons_succ, List.setIfInBounds_toArray, List.set_cons_zero, List.set_cons_succ]
  refine hT 9 ?_
  refine hT 10 ?_
  refine wpAnyH_ready (rs := [11]) (by kernel_rfl) (by simp) ?_
  refine AllReadyH.cons (o := _) rfl (fun K hK => ?_) ?_
  ·go_simp
   refine hK.out _ _ ⟨qBA xs0 (by dsimp only; omega), qBA xs1 (by dsimp only; omega)⟩ (fun hHeld => ?_)
   clear hK K
   try simp only [Act.put, List.getElem_toArray, List.getElem_cons_zero, List.getElem_cons_succ, List.setIfInBounds_toArray, List.set_cons_zero, List.set_cons_succ]
   refine wpAnyH_done (by kernel_rfl) ?_ _
   refine NoPanic.normal ?_
   go_wp2
   refine bodyPost_ret (results_cell_row rfl _ _ (W.heap.size + 1 + 1 + 1 + 1) 138 _ (0, 0) _ rfl (lay7 HX.out.r) Tryz.underlying138 rfl (by kernel_rfl)) rfl ?_
   refine qAM (R := ⟨true, true, true, ⟨st, tr ++ [⟨n, st⟩]⟩, ⟨st ++ [1], tr⟩⟩) (K := 5) ?_ ?_ ?_ ?_ ?_ ?_ ?_ ?_ ?_ ?_ ?_ ?_ ?_ ?_ ?_ ?_
   ·exact by omega
   ·exact by omega
   ·exact HKS.out
   ·exact (by have := HC6.out; have := HKS.out; omega)
   ·exact (by first | with_reducible exact FS.out | with_reducible exact FI.alloc FS.out _)
   ·exact HKN.out
   ·exact HC2.out
   ·exact (by first | with_reducible exact FO.out | with_reducible exact FI.alloc FO.out _)
   ·exact (by rw [HKS.out]; simp)
   ·exact HC9.out
   ·exact (by first | with_reducible exact FN.out | with_reducible exact FI.alloc FN.out _)
   ·exact HKT.out
   ·exact (by have := HC7.out; have := HKT.out; omega)
   ·exact (by first | with_reducible exact FT.out | with_reducible exact FI.alloc FT.out _)
   ·exact HB.out
   ·exact HNW.out
  exact AllReadyH.nil
 exact AllReadyH.nil
end RV
namespace RV
theorem qBD {W : World} {okF : Nat → Prop} (op n ty bb : Int) (A1 A2 A3 A4 A5 A6 A7 : Option Addr) (n1 c1 c2 n3 c3 c4 c5 c6 c7 : Nat) (res : Int) {ls vs st : List Int} {tr : List S200}
  (hL : Kd.F (Kd.int .i64) W okF A2 ls.length ls) (hc2 : ls.length ≤ c2) {fs : List S24} (hF : Kd.F k24 W okF A4 fs.length fs) (hlf : fs.length ≤ 2000000) (hV : Kd.F (Kd.int .i64) W okF A5 vs.length vs) (hc5 : vs.length ≤ c5) (hS : Kd.F (Kd.int .i64) W okF A6 st.length st) (hc6 : st.length ≤ c6) (hT : Kd.F k200 W okF A7 tr.length tr) (hc7 : tr.length ≤ c7) (hl : st.length ≤ 2000000) (hll : ls.length ≤ 2000000) (hlv : vs.length ≤ 2000000) (hlt : tr.length ≤ 2000000) (hnew : ∀ k, W.heap.size ≤ k → okF k) (hop : ∀ k, k ∈ [1, 2, 3, 4, 5, 6, 7, 12, 14, 16, 17] → op ≠ k) {R : S138} (HLP : ∀ (W1 : World) (okG : Nat → Prop), Kd.F (Kd.int .i64) W1 okG A2 ls.length ls → Kd.F k24 W1 okG A4 fs.length fs → Kd.F (Kd.int .i64) W1 okG A5 vs.length vs → Kd.F (Kd.int .i64) W1 okG A6 st.length st → Kd.F k200 W1 okG A7 tr.length tr → (∀ k, W1.heap.size ≤ k → okG k) → Calls Tryz.prog 99 #[.agg #[.slice A1 n1 c1, .int .i64 res, .slice A2 ls.length c2, .slice A3 n3 c3], .agg #[.slice A4 fs.length c4, .slice A5 vs.length c5], .agg #[.int .i64 op, .int .i64 n, .int .i64 ty, .int .u64 bb], .agg #[.slice A6 st.length c6, .slice A7 tr.length c7]] W1 (qAN W1 okG R)):
  Calls Tryz.prog 67 #[.agg #[.slice A1 n1 c1, .int .i64 res, .slice A2 ls.length c2, .slice A3 n3 c3], .agg #[.slice A4 fs.length c4, .slice A5 vs.length c5], .agg #[.int .i64 op, .int .i64 n, .int .i64 ty, .int .u64 bb], .agg #[.slice A6 st.length c6, .slice A7 tr.length c7]] W (qAN W okF R) := by
 obtain ⟨kf, hkf⟩ := eL fs
 obtain ⟨kl, hkl⟩ := eL ls
 obtain ⟨kv, hkv⟩ := eL vs
 obtain ⟨ks, hks⟩ := eL st
 obtain ⟨kt, hkt⟩ := eL tr
 obtain ⟨WB, hWB⟩ := eX (stW W #[.slice A1 n1 c1, .int .i64 res, .slice A2 kl c2, .slice A3 n3 c3] #[.slice A4 kf c4, .slice A5 kv c5] #[.int .i64 op, .int .i64 n, .int .i64 ty, .int .u64 bb] #[.slice A6 ks c6, .slice A7 kt c7] #[.bool true, .bool true, .bool false, .slice A6 ks c6, .slice A7 kt c7, .slice none 0 0, .slice none 0 0])
 have HX : qAc (SB W.heap.size #[.slice A1 n1 c1, .int .i64 res, .slice A2 kl c2, .slice A3 n3 c3] #[.slice A4 kf c4, .slice A5 kv c5] #[.int .i64 op, .int .i64 n, .int .i64 ty, .int .u64 bb] #[.slice A6 ks c6, .slice A7 kt c7] #[.bool true, .bool true, .bool false, .slice A6 ks c6, .slice A7 kt c7, .slice none 0 0, .slice none 0 0] WB) := ⟨hWB ▸ qBg W _ _ _ _ _⟩
 have HB : qAc (Below W.heap.size W WB) := ⟨hWB ▸ qAI W _ _ _ _ _⟩
 have HSZ : qAc (W.heap.size + 7 ≤ WB.heap.size) := ⟨by rw [hWB, qAT]; exact nl _⟩
 have FS : qAc (FI W.heap.size 7 okF (Kd.int .i64) WB A6 ks st) := ⟨by rw [hks]; exact FI.of hS HB.out⟩
 have FT : qAc (FI W.heap.size 7 okF k200 WB A7 kt tr) := ⟨by rw [hkt]; exact FI.of hT HB.out⟩
 have HKL := am hkl
 have HKV := am hkv
 have HKS := am hks
 have HKT := am hkt
 have HC6 := am hc6
 have HC7 := am hc7
 have HLS := am hl
 have HNW := am hnew
 have HLT := am hlt
 rw [← hkl, ← hkv, ← hks, ← hkt, ← hkf]
 have e1 : (op == 1) = false := bn (hop 1 (by decide))
 have e2 : (op == 2) = false := bn (hop 2 (by decide))
 have e3 : (op == 3) = false := bn (hop 3 (by decide))
 have e4 : (op == 4) = false := bn (hop 4 (by decide))
 have e5 : (op == 5) = false := bn (hop 5 (by decide))
 have e6 : (op == 6) = false := bn (hop 6 (by decide))
 have e7 : (op == 7) = false := bn (hop 7 (by decide))
 have e12 : (op == 12) = false := bn (hop 12 (by decide))
 have e14 : (op == 14) = false := bn (hop 14 (by decide))
 have e16 : (op == 16) = false := bn (hop 16 (by decide))
 have e17 : (op == 17) = false := bn (hop 17 (by decide))
 have HCL : qAc (Calls Tryz.prog 99 #[.agg #[.slice A1 n1 c1, .int .i64 res, .slice A2 kl c2, .slice A3 n3 c3], .agg #[.slice A4 kf c4, .slice A5 kv c5], .agg #[.int .i64 op, .int .i64 n, .int .i64 ty, .int .u64 bb], .agg #[.slice A6 ks c6, .slice A7 kt c7]] WB (qAN WB (fun k => (okF k ∧ k < W.heap.size) ∨ W.heap.size + 7 ≤ k) R)) := ⟨by
   have h_ := HLP WB (fun k => (okF k ∧ k < W.heap.size) ∨ W.heap.size + 7 ≤ k) (FI.of hL HB.out) (FI.of hF HB.out) (FI.of hV HB.out) (FI.of hS HB.out) (FI.of hT HB.out) (fun k hk => .inr (Nat.le_trans HSZ.out hk))
   rw [← hkl, ← hkv, ← hks, ← hkt, ← hkf] at h_
   exact h_⟩
 clear HLP hop
 clear hL hF hlf hV hS hT hc2 hc5 hc6 hc7 hl hll hlv hlt hnew hkl hkv hks hkt hkf
 go_enter Tryz.func67, Tryz.ntmps67
 go_upto_region 3 with fail
 simp only [stW] at hWB
 rw [← hWB]
 clear hWB
 have xi0 := (qAa HX.out.i 0).trans rfl
 have xi1 := (qAa HX.out.i 1).trans rfl
 have xi2 := (qAa HX.out.i 2).trans rfl
 have xi3 := (qAa HX.out.i 3).trans rfl
 have xs0 := (qAa HX.out.s 0).trans rfl
 have xs1 := (qAa HX.out.s 1).trans rfl
 have xp0 := (qAa HX.out.p 0).trans rfl
 have xp1 := (qAa HX.out.p 1).trans rfl
 have xf0 := (qAa HX.out.f 0).trans rfl
 have xf1 := (qAa HX.out.f 1).trans rfl
 have xf2 := (qAa HX.out.f 2).trans rfl
 have xf3 := (qAa HX.out.f 3).trans rfl
 go_wp2_with (go_at_call 99; (with_reducible refine (HCL.out).mono ?_); rintro e w1 ⟨cs, rfl, hK, hb1⟩; obtain ⟨D3, d3, D4, d4, D5, d5, D6, d6, rfl, l3, g3, l4, g4, l5, g5, l6, g6⟩ := qDn hK; obtain ⟨m3, hm3⟩ := eX R.f3.f0.length; obtain ⟨m4, hm4⟩ := eX R.f3.f1.length; obtain ⟨m5, hm5⟩ := eX R.f4.f0.length; obtain ⟨m6, hm6⟩ := eX R.f4.f1.length; rw [← hm3] at l3 g3 ⊢; rw [← hm4] at l4 g4 ⊢; rw [← hm5] at l5 g5 ⊢; rw [← hm6] at l6 g6 ⊢; obtain ⟨q0, hq0⟩ := eX R.f0; obtain ⟨q1, hq1⟩ := eX R.f1; obtain ⟨q2, hq2⟩ := eX R.f2; rw [← hq0, ← hq1, ← hq2]; have G3 := am g3; have G4 := am g4; have G5 := am g5; have G6 := am g6; have L3 := am l3; have L4 := am l4; have L5 := am l5; have L6 := am l6; have M3 := am hm3; have M4 := am hm4; have M5 := am hm5; have M6 := am hm6; have Q0 := am hq0; have Q1 := am hq1; have Q2 := am hq2; clear xi0 xi1 xi2 xi3 xs0 xs1 xp0 xp1 xf0 xf1 xf2 xf3; replace HX := am (HX.out.below hb1); replace HB := am (HB.out.trans (hb1.mono HB.out.size)); replace HSZ := am (Nat.le_trans HSZ.out hb1.size); replace FS := am (FI.below FS.out hb1); replace FT := am (FI.below FT.out hb1); have xq0 := qAb HX.out.r 0; have xr0 := (qAa HX.out.r 0).trans rfl; have xq1 := qAb HX.out.r 1; have xr1 := (qAa HX.out.r 1).trans rfl; have xq2 := qAb HX.out.r 2; have xr2 := (qAa HX.out.r 2).trans rfl; have xq3 := qAb HX.out.r 3; have xr3 := (qAa HX.out.r 3).trans rfl; have xq4 := qAb HX.out.r 4; have xr4 := (qAa HX.out.r 4).trans rfl; have xq5 := qAb HX.out.r 5; have xr5 := (qAa HX.out.r 5).trans rfl; have xq6 := qAb HX.out.r 6; have xr6 := (qAa HX.out.r 6).trans rfl; clear hb1; clear hK g3 g4 g5 g6 l3 l4 l5 l6 hm3 hm4 hm5 hm6 hq0 hq1 hq2)
 refine bodyPost_ret (results_cell_row rfl _ _ (W.heap.size + 1 + 1 + 1 + 1) 138 _ (0, 0) _ rfl (lay7 HX.out.r) Tryz.underlying138 rfl (by kernel_rfl)) rfl ?_
 rw [Q0.out, Q1.out, Q2.out]
 exact qAM (R := R) (K := 7) (by omega) (by omega) M3.out L3.out G3.out M4.out L4.out G4.out M5.out L5.out G5.out M6.out L6.out G6.out HB.out HNW.out
end RV
namespace RV
abbrev qBF : S138 := ⟨false, false, false, ⟨[], []⟩, ⟨[], []⟩⟩
def qA8 (ls vs : List Int) (fs : List S24) (res op n ty : Int) (st : List Int) (tr : List S200) : S138 :=
 if op = 1 then ⟨true, true, false, ⟨st ++ [ty], tr⟩, ⟨[], []⟩⟩
 else if op = 14 then ⟨true, true, false, ⟨st ++ [1], tr⟩, ⟨[], []⟩⟩
 else if op = 2 then (if (ls.length : Int) ≤ n then qBF else ⟨true, true, false, ⟨st ++ [ls.getD n.toNat 0], tr⟩, ⟨[], []⟩⟩)
 else if op = 3 then (if (ls.length : Int) ≤ n then qBF else ⟨qAO st [ls.getD n.toNat 0], true, false, ⟨qAP st [ls.getD n.toNat 0], tr⟩, ⟨[], []⟩⟩)
 else if op = 4 then (if (vs.length : Int) ≤ n then qBF else ⟨true, true, false, ⟨st ++ [vs.getD n.toNat 0], tr⟩, ⟨[], []⟩⟩)
 else if op = 5 then (if (vs.length : Int) ≤ n then qBF else ⟨qAO st [vs.getD n.toNat 0], true, false, ⟨qAP st [vs.getD n.toNat 0], tr⟩, ⟨[], []⟩⟩)
 else if op = 6 then (if st.getLast?.isSome = true then (if (Ty1.unary n (st.getLast?.getD 0)).2 = 0 then ⟨true, true, false, ⟨st.dropLast ++ [(Ty1.unary n (st.getLast?.getD 0)).1], tr⟩, ⟨[], []⟩⟩ else qBF) else qBF)
 else if op = 7 then (if st.getLast?.isSome = true then (if st.dropLast.getLast?.isSome = true then (if (Ty2.binary n (st.dropLast.getLast?.getD 0) (st.getLast?.getD 0)).2 = 0 then ⟨true, true, false, ⟨st.dropLast.dropLast ++ [(Ty2.binary n (st.dropLast.getLast?.getD 0) (st.getLast?.getD 0)).1], tr⟩, ⟨[], []⟩⟩ else qBF) else qBF) else qBF)
 else if op = 12 ∨ op = 17 then ⟨st.getLast?.isSome, true, false, ⟨st.dropLast, tr⟩, ⟨[], []⟩⟩
 else if op = 16 then (if tr = [] then qBF else ⟨true, true, false, ⟨st, tr.dropLast⟩, ⟨[], []⟩⟩)
 else if op = 8 then ⟨true, false, true, ⟨[], []⟩, ⟨st, tr⟩⟩
 else if op = 9 then ⟨qAO st [3], true, true, ⟨qAP st [3], tr⟩, ⟨qAP st [3], tr⟩⟩
 else if op = 15 then ⟨true, true, true, ⟨st, tr ++ [⟨n, st⟩]⟩, ⟨st ++ [1], tr⟩⟩
 else if op = 10 then (if (fs.length : Int) ≤ n then qBF else if (qAH fs n).f1 = 0 then ⟨qAO st (qAH fs n).f0, true, false, ⟨qAP st (qAH fs n).f0, tr⟩, ⟨[], []⟩⟩ else ⟨qAO st (qAH fs n).f0, true, false, ⟨qAP st (qAH fs n).f0 ++ [(qAH fs n).f1], tr⟩, ⟨[], []⟩⟩)
 else if op = 11 then (if res = 0 then ⟨true, false, false, ⟨[], []⟩, ⟨[], []⟩⟩ else ⟨qAO st [res], false, false, ⟨[], []⟩, ⟨[], []⟩⟩)
 else ⟨qAO st [1], false, false, ⟨[], []⟩, ⟨[], []⟩⟩
theorem step_any {W : World} {okF : Nat → Prop} (op n ty bb : Int) (A1 A2 A3 A4 A5 A6 A7 : Option Addr) (n1 c1 c2 n3 c3 c4 c5 c6 c7 : Nat) (res : Int) {ls vs st : List Int} {tr : List S200} {fs : List S24}
  (hL : Kd.F (Kd.int .i64) W okF A2 ls.length ls) (hc2 : ls.length ≤ c2) (hF : Kd.F k24 W okF A4 fs.length fs) (hlf : fs.length ≤ 2000000) (hV : Kd.F (Kd.int .i64) W okF A5 vs.length vs) (hc5 : vs.length ≤ c5) (hS : Kd.F (Kd.int .i64) W okF A6 st.length st) (hc6 : st.length ≤ c6) (hT : Kd.F k200 W okF A7 tr.length tr) (hc7 : tr.length ≤ c7) (hl : st.length ≤ 2000000) (hll : ls.length ≤ 2000000) (hlv : vs.length ≤ 2000000) (hlt : tr.length ≤ 2000000) (hnew : ∀ k, W.heap.size ≤ k → okF k)
  (hps : ∀ x ∈ fs, x.f0.length ≤ 2000000) (hn : 0 ≤ n) (hop : 1 ≤ op ∧ op ≤ 17) :
  Calls Tryz.prog 67 #[.agg #[.slice A1 n1 c1, .int .i64 res, .slice A2 ls.length c2, .slice A3 n3 c3], .agg #[.slice A4 fs.length c4, .slice A5 vs.length c5], .agg #[.int .i64 op, .int .i64 n, .int .i64 ty, .int .u64 bb], .agg #[.slice A6 st.length c6, .slice A7 tr.length c7]] W (qAN W okF (qA8 ls vs fs res op n ty st tr)) := by
 have hcs : op = 1 ∨ op = 2 ∨ op = 3 ∨ op = 4 ∨ op = 5 ∨ op = 6 ∨ op = 7 ∨ op = 8 ∨ op = 9 ∨ op = 10 ∨ op = 11 ∨ op = 12 ∨ op = 13 ∨ op = 14 ∨ op = 15 ∨ op = 16 ∨ op = 17 := by omega
 rcases hcs with rfl | rfl | rfl | rfl | rfl | rfl | rfl | rfl | rfl | rfl | rfl | rfl | rfl | rfl | rfl | rfl | rfl
 ·unfold qA8
  rw [if_pos (by decide)]
  exact step_1 n ty bb A1 A2 A3 A4 A5 A6 A7 n1 c1 c2 n3 c3 fs.length c4 c5 c6 c7 res hL hc2 hV hc5 hS hc6 hT hc7 hl hll hlv hlt hnew
 ·unfold qA8
  rw [if_neg (by decide), if_neg (by decide), if_pos (by decide)]
  by_cases h_0 : (ls.length : Int) ≤ n
  ·rw [if_pos h_0]
   exact step_2_none n ty bb A1 A2 A3 A4 A5 A6 A7 n1 c1 c2 n3 c3 fs.length c4 c5 c6 c7 res hL hc2 hV hc5 hS hc6 hT hc7 hl hll hlv hlt hnew hn h_0
  ·rw [if_neg h_0]
   exact step_2 n ty bb A1 A2 A3 A4 A5 A6 A7 n1 c1 c2 n3 c3 fs.length c4 c5 c6 c7 res hL hc2 hV hc5 hS hc6 hT hc7 hl hll hlv hlt hnew hn (by omega)
 ·unfold qA8
  rw [if_neg (by decide), if_neg (by decide), if_neg (by decide), if_pos (by decide)]
  by_cases h_0 : (ls.length : Int) ≤ n
  ·rw [if_pos h_0]
   exact step_3_none n ty bb A1 A2 A3 A4 A5 A6 A7 n1 c1 c2 n3 c3 fs.length c4 c5 c6 c7 res hL hc2 hV hc5 hS hc6 hT hc7 hl hll hlv hlt hnew hn h_0
  ·rw [if_neg h_0]
   exact step_3 n ty bb A1 A2 A3 A4 A5 A6 A7 n1 c1 c2 n3 c3 fs.length c4 c5 c6 c7 res hL hc2 hV hc5 hS hc6 hT hc7 hl hll hlv hlt hnew hn (by omega)
 ·unfold qA8
  rw [if_neg (by decide), if_neg (by decide), if_neg (by decide), if_neg (by decide), if_pos (by decide)]
  by_cases h_0 : (vs.length : Int) ≤ n
  ·rw [if_pos h_0]
   exact step_4_none n ty bb A1 A2 A3 A4 A5 A6 A7 n1 c1 c2 n3 c3 fs.length c4 c5 c6 c7 res hL hc2 hV hc5 hS hc6 hT hc7 hl hll hlv hlt hnew hn h_0
  ·rw [if_neg h_0]
   exact step_4 n ty bb A1 A2 A3 A4 A5 A6 A7 n1 c1 c2 n3 c3 fs.length c4 c5 c6 c7 res hL hc2 hV hc5 hS hc6 hT hc7 hl hll hlv hlt hnew hn (by omega)
 ·unfold qA8
  rw [if_neg (by decide), if_neg (by decide), if_neg (by decide), if_neg (by decide), if_neg (by decide), if_pos (by decide)]
  by_cases h_0 : (vs.length : Int) ≤ n
  ·rw [if_pos h_0]
   exact step_5_none n ty bb A1 A2 A3 A4 A5 A6 A7 n1 c1 c2 n3 c3 fs.length c4 c5 c6 c7 res hL hc2 hV hc5 hS hc6 hT hc7 hl hll hlv hlt hnew hn h_0
  ·rw [if_neg h_0]
   exact step_5 n ty bb A1 A2 A3 A4 A5 A6 A7 n1 c1 c2 n3 c3 fs.length c4 c5 c6 c7 res hL hc2 hV hc5 hS hc6 hT hc7 hl hll hlv hlt hnew hn (by omega)
 ·unfold qA8
  rw [if_neg (by decide), if_neg (by decide), if_neg (by decide), if_neg (by decide), if_neg (by decide), if_neg (by decide), if_pos (by decide)]
  by_cases h_0 : st.getLast?.isSome = true
  ·rw [if_pos h_0]
   by_cases h_1 : (Ty1.unary n (st.getLast?.getD 0)).2 = 0
   ·rw [if_pos h_1]
    exact step_6 n ty bb A1 A2 A3 A4 A5 A6 A7 n1 c1 c2 n3 c3 fs.length c4 c5 c6 c7 res hL hc2 hV hc5 hS hc6 hT hc7 hl hll hlv hlt hnew h_0 h_1
   ·rw [if_neg h_1]
    exact step_6_bad n ty bb A1 A2 A3 A4 A5 A6 A7 n1 c1 c2 n3 c3 fs.length c4 c5 c6 c7 res hL hc2 hV hc5 hS hc6 hT hc7 hl hll hlv hlt hnew h_0 h_1
  ·rw [if_neg h_0]
   exact step_6_none n ty bb A1 A2 A3 A4 A5 A6 A7 n1 c1 c2 n3 c3 fs.length c4 c5 c6 c7 res hL hc2 hV hc5 hS hc6 hT hc7 hl hll hlv hlt hnew (by simpa using h_0)
 ·unfold qA8
  rw [if_neg (by decide), if_neg (by decide), if_neg (by decide), if_neg (by decide), if_neg (by decide), if_neg (by decide), if_neg (by decide), if_pos (by decide)]
  by_cases h_0 : st.getLast?.isSome = true
  ·rw [if_pos h_0]
   by_cases h_1 : st.dropLast.getLast?.isSome = true
   ·rw [if_pos h_1]
    by_cases h_2 : (Ty2.binary n (st.dropLast.getLast?.getD 0) (st.getLast?.getD 0)).2 = 0
    ·rw [if_pos h_2]
     exact step_7 n ty bb A1 A2 A3 A4 A5 A6 A7 n1 c1 c2 n3 c3 fs.length c4 c5 c6 c7 res hL hc2 hV hc5 hS hc6 hT hc7 hl hll hlv hlt hnew h_0 h_1 h_2
    ·rw [if_neg h_2]
     exact step_7_bad n ty bb A1 A2 A3 A4 A5 A6 A7 n1 c1 c2 n3 c3 fs.length c4 c5 c6 c7 res hL hc2 hV hc5 hS hc6 hT hc7 hl hll hlv hlt hnew h_0 h_1 h_2
   ·rw [if_neg h_1]
    exact step_7_one n ty bb A1 A2 A3 A4 A5 A6 A7 n1 c1 c2 n3 c3 fs.length c4 c5 c6 c7 res hL hc2 hV hc5 hS hc6 hT hc7 hl hll hlv hlt hnew h_0 (by simpa using h_1)
  ·rw [if_neg h_0]
   exact step_7_none n ty bb A1 A2 A3 A4 A5 A6 A7 n1 c1 c2 n3 c3 fs.length c4 c5 c6 c7 res hL hc2 hV hc5 hS hc6 hT hc7 hl hll hlv hlt hnew (by simpa using h_0)
 ·unfold qA8
  rw [if_neg (by decide), if_neg (by decide), if_neg (by decide), if_neg (by decide), if_neg (by decide), if_neg (by decide), if_neg (by decide), if_neg (by decide), if_neg (by decide), if_neg (by decide), if_pos (by decide)]
  exact qBD 8 n ty bb A1 A2 A3 A4 A5 A6 A7 n1 c1 c2 n3 c3 c4 c5 c6 c7 res hL hc2 hF hlf hV hc5 hS hc6 hT hc7 hl hll hlv hlt hnew (by decide) (fun W1 okG hL' hF' hV' hS' hT' hnew' => leap_8 n ty bb A1 A2 A3 A4 A5 A6 A7 n1 c1 c2 n3 c3 c4 c5 c6 c7 res hL' hc2 hF' hlf hV' hc5 hS' hc6 hT' hc7 hl hll hlv hlt hnew')
 ·unfold qA8
  rw [if_neg (by decide), if_neg (by decide), if_neg (by decide), if_neg (by decide), if_neg (by decide), if_neg (by decide), if_neg (by decide), if_neg (by decide), if_neg (by decide), if_neg (by decide), if_neg (by decide), if_pos (by decide)]
  exact qBD 9 n ty bb A1 A2 A3 A4 A5 A6 A7 n1 c1 c2 n3 c3 c4 c5 c6 c7 res hL hc2 hF hlf hV hc5 hS hc6 hT hc7 hl hll hlv hlt hnew (by decide) (fun W1 okG hL' hF' hV' hS' hT' hnew' => leap_9 n ty bb A1 A2 A3 A4 A5 A6 A7 n1 c1 c2 n3 c3 c4 c5 c6 c7 res hL' hc2 hF' hlf hV' hc5 hS' hc6 hT' hc7 hl hll hlv hlt hnew')
 ·unfold qA8
  rw [if_neg (by decide), if_neg (by decide), if_neg (by decide), if_neg (by decide), if_neg (by decide), if_neg (by decide), if_neg (by decide), if_neg (by decide), if_neg (by decide), if_neg (by decide), if_neg (by decide), if_neg (by decide), if_neg (by decide), if_pos (by decide)]
  by_cases h_0 : (fs.length : Int) ≤ n
  ·rw [if_pos h_0]
   exact qBD 10 n ty bb A1 A2 A3 A4 A5 A6 A7 n1 c1 c2 n3 c3 c4 c5 c6 c7 res hL hc2 hF hlf hV hc5 hS hc6 hT hc7 hl hll hlv hlt hnew (by decide) (fun W1 okG hL' hF' hV' hS' hT' hnew' => leap_10_none n ty bb A1 A2 A3 A4 A5 A6 A7 n1 c1 c2 n3 c3 c4 c5 c6 c7 res hL' hc2 hF' hlf hV' hc5 hS' hc6 hT' hc7 hl hll hlv hlt hnew' h_0)
  ·rw [if_neg h_0]
   by_cases h_1 : (qAH fs n).f1 = 0
   ·rw [if_pos h_1]
    exact qBD 10 n ty bb A1 A2 A3 A4 A5 A6 A7 n1 c1 c2 n3 c3 c4 c5 c6 c7 res hL hc2 hF hlf hV hc5 hS hc6 hT hc7 hl hll hlv hlt hnew (by decide) (fun W1 okG hL' hF' hV' hS' hT' hnew' => leap_10_void n ty bb A1 A2 A3 A4 A5 A6 A7 n1 c1 c2 n3 c3 c4 c5 c6 c7 res hL' hc2 hF' hlf hV' hc5 hS' hc6 hT' hc7 hl hll hlv hlt hnew' hn (by omega) hps h_1)
   ·rw [if_neg h_1]
    exact qBD 10 n ty bb A1 A2 A3 A4 A5 A6 A7 n1 c1 c2 n3 c3 c4 c5 c6 c7 res hL hc2 hF hlf hV hc5 hS hc6 hT hc7 hl hll hlv hlt hnew (by decide) (fun W1 okG hL' hF' hV' hS' hT' hnew' => leap_10 n ty bb A1 A2 A3 A4 A5 A6 A7 n1 c1 c2 n3 c3 c4 c5 c6 c7 res hL' hc2 hF' hlf hV' hc5 hS' hc6 hT' hc7 hl hll hlv hlt hnew' hn (by omega) hps h_1)
 ·unfold qA8
  rw [if_neg (by decide), if_neg (by decide), if_neg (by decide), if_neg (by decide), if_neg (by decide), if_neg (by decide), if_neg (by decide), if_neg (by decide), if_neg (by decide), if_neg (by decide), if_neg (by decide), if_neg (by decide), if_neg (by decide), if_neg (by decide), if_pos (by decide)]
  by_cases h_0 : res = 0
  ·rw [if_pos h_0]
   exact qBD 11 n ty bb A1 A2 A3 A4 A5 A6 A7 n1 c1 c2 n3 c3 c4 c5 c6 c7 res hL hc2 hF hlf hV hc5 hS hc6 hT hc7 hl hll hlv hlt hnew (by decide) (fun W1 okG hL' hF' hV' hS' hT' hnew' => leap_11_none n ty bb A1 A2 A3 A4 A5 A6 A7 n1 c1 c2 n3 c3 c4 c5 c6 c7 res hL' hc2 hF' hlf hV' hc5 hS' hc6 hT' hc7 hl hll hlv hlt hnew' h_0)
  ·rw [if_neg h_0]
   exact qBD 11 n ty bb A1 A2 A3 A4 A5 A6 A7 n1 c1 c2 n3 c3 c4 c5 c6 c7 res hL hc2 hF hlf hV hc5 hS hc6 hT hc7 hl hll hlv hlt hnew (by decide) (fun W1 okG hL' hF' hV' hS' hT' hnew' => leap_11 n ty bb A1 A2 A3 A4 A5 A6 A7 n1 c1 c2 n3 c3 c4 c5 c6 c7 res hL' hc2 hF' hlf hV' hc5 hS' hc6 hT' hc7 hl hll hlv hlt hnew' h_0)
 ·unfold qA8
  rw [if_neg (by decide), if_neg (by decide), if_neg (by decide), if_neg (by decide), if_neg (by decide), if_neg (by decide), if_neg (by decide), if_neg (by decide), if_pos (by decide)]
  exact step_12 n ty bb A1 A2 A3 A4 A5 A6 A7 n1 c1 c2 n3 c3 fs.length c4 c5 c6 c7 res hL hc2 hV hc5 hS hc6 hT hc7 hl hll hlv hlt hnew
 ·unfold qA8
  rw [if_neg (by decide), if_neg (by decide), if_neg (by decide), if_neg (by decide), if_neg (by decide), if_neg (by decide), if_neg (by decide), if_neg (by decide), if_neg (by decide), if_neg (by decide), if_neg (by decide), if_neg (by decide), if_neg (by decide), if_neg (by decide), if_neg (by decide)]
  exact qBD 13 n ty bb A1 A2 A3 A4 A5 A6 A7 n1 c1 c2 n3 c3 c4 c5 c6 c7 res hL hc2 hF hlf hV hc5 hS hc6 hT hc7 hl hll hlv hlt hnew (by decide) (fun W1 okG hL' hF' hV' hS' hT' hnew' => leap_13 n ty bb A1 A2 A3 A4 A5 A6 A7 n1 c1 c2 n3 c3 c4 c5 c6 c7 res hL' hc2 hF' hlf hV' hc5 hS' hc6 hT' hc7 hl hll hlv hlt hnew')
 ·unfold qA8
  rw [if_neg (by decide), if_pos (by decide)]
  exact step_14 n ty bb A1 A2 A3 A4 A5 A6 A7 n1 c1 c2 n3 c3 fs.length c4 c5 c6 c7 res hL hc2 hV hc5 hS hc6 hT hc7 hl hll hlv hlt hnew
 ·unfold qA8
  rw [if_neg (by decide), if_neg (by decide), if_neg (by decide), if_neg (by decide), if_neg (by decide), if_neg (by decide), if_neg (by decide), if_neg (by decide), if_neg (by decide), if_neg (by decide), if_neg (by decide), if_neg (by decide), if_pos (by decide)]
  exact qBD 15 n ty bb A1 A2 A3 A4 A5 A6 A7 n1 c1 c2 n3 c3 c4 c5 c6 c7 res hL hc2 hF hlf hV hc5 hS hc6 hT hc7 hl hll hlv hlt hnew (by decide) (fun W1 okG hL' hF' hV' hS' hT' hnew' => leap_15 n ty bb A1 A2 A3 A4 A5 A6 A7 n1 c1 c2 n3 c3 c4 c5 c6 c7 res hL' hc2 hF' hlf hV' hc5 hS' hc6 hT' hc7 hl hll hlv hlt hnew')
 ·unfold qA8
  rw [if_neg (by decide), if_neg (by decide), if_neg (by decide), if_neg (by decide), if_neg (by decide), if_neg (by decide), if_neg (by decide), if_neg (by decide), if_neg (by decide), if_pos (by decide)]
  by_cases h_0 : tr = []
  ·rw [if_pos h_0]
   exact step_16_bad n ty bb A1 A2 A3 A4 A5 A6 A7 n1 c1 c2 n3 c3 fs.length c4 c5 c6 c7 res hL hc2 hV hc5 hS hc6 hT hc7 hl hll hlv hlt hnew h_0
  ·rw [if_neg h_0]
   exact step_16 n ty bb A1 A2 A3 A4 A5 A6 A7 n1 c1 c2 n3 c3 fs.length c4 c5 c6 c7 res hL hc2 hV hc5 hS hc6 hT hc7 hl hll hlv hlt hnew h_0
 ·unfold qA8
  rw [if_neg (by decide), if_neg (by decide), if_neg (by decide), if_neg (by decide), if_neg (by decide), if_neg (by decide), if_neg (by decide), if_neg (by decide), if_pos (by decide)]
  exact step_17 n ty bb A1 A2 A3 A4 A5 A6 A7 n1 c1 c2 n3 c3 fs.length c4 c5 c6 c7 res hL hc2 hV hc5 hS hc6 hT hc7 hl hll hlv hlt hnew
end RV
end Q
end
end Go.Proofs.YtfddibbignedkaaGreatDoor
