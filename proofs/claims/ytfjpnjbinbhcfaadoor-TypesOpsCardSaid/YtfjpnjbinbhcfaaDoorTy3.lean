/- The contracts of the reference's Valued, Unary and Binary. -/
import Derived.Test.YtfjpnjbinbhcfaaDoorTy2
namespace Go.Proofs.YtfjpnjbinbhcfaaDoor.Ty3
open Go.RowKit Ty1 Ty2

theorem rvalued_1 (w : World) : Calls Tryd.prog 10 #[.int .i64 1] w fun e w' => e = .returned (.bool true) ∧ w = w' := by
  go_enter Tryd.func10, Tryd.ntmps10
  go_wp2
  go_ret
  exact ⟨rfl, rfl⟩

theorem rvalued_2 (w : World) : Calls Tryd.prog 10 #[.int .i64 2] w fun e w' => e = .returned (.bool true) ∧ w = w' := by
  go_enter Tryd.func10, Tryd.ntmps10
  go_wp2
  go_ret
  exact ⟨rfl, rfl⟩

theorem rvalued_3 (w : World) : Calls Tryd.prog 10 #[.int .i64 3] w fun e w' => e = .returned (.bool true) ∧ w = w' := by
  go_enter Tryd.func10, Tryd.ntmps10
  go_wp2
  go_ret
  exact ⟨rfl, rfl⟩

theorem rvalued_yes (a : Int) (w : World) (h1 : 1 ≤ a) (h2 : a ≤ 3) : Calls Tryd.prog 10 #[.int .i64 a] w fun e w' => e = .returned (.bool true) ∧ w = w' := by
  have ht : a = 1 ∨ a = 2 ∨ a = 3 := by omega
  rcases ht with rfl | rfl | rfl
  · exact rvalued_1 w
  · exact rvalued_2 w
  · exact rvalued_3 w

theorem rvalued_no (a : Int) (w : World) (h : a < 1 ∨ 3 < a) : Calls Tryd.prog 10 #[.int .i64 a] w fun e w' => e = .returned (.bool false) ∧ w = w' := by
  have h1 : (a == 1) = false := beq_eq_false_iff_ne.mpr (by omega)
  have h2 : (a == 2) = false := beq_eq_false_iff_ne.mpr (by omega)
  have h3 : (a == 3) = false := beq_eq_false_iff_ne.mpr (by omega)
  go_enter Tryd.func10, Tryd.ntmps10
  go_wp2
  go_ret
  exact ⟨rfl, rfl⟩

theorem rbinary_arg (op a b : Int) (w : World) (h : op < 1 ∨ 13 < op) : Calls Tryd.prog 7 #[.int .i64 op, .int .i64 a, .int .i64 b] w fun e w' => e = .returned (.tuple #[.int .i64 0, .int .i64 1]) ∧ w = w' := by
  rcases h with h | h
  · have hb : decide (op < 1) = true := decide_eq_true h
    go_enter Tryd.func7, Tryd.ntmps7
    go_wp2
    go_ret2
    exact ⟨rfl, rfl⟩
  · have hb : decide (op < 1) = false := decide_eq_false (by omega)
    have hc : decide (13 < op) = true := decide_eq_true h
    go_enter Tryd.func7, Tryd.ntmps7
    go_wp2
    go_ret2
    exact ⟨rfl, rfl⟩

theorem rbinary_ne (op a b : Int) (w : World) (h1 : 1 ≤ op) (h2 : op ≤ 13) (h : a ≠ b) : Calls Tryd.prog 7 #[.int .i64 op, .int .i64 a, .int .i64 b] w fun e w' => e = .returned (.tuple #[.int .i64 0, .int .i64 22]) ∧ w = w' := by
  have hb : decide (op < 1) = false := decide_eq_false (by omega)
  have hc : decide (13 < op) = false := decide_eq_false (by omega)
  have hd : (a != b) = true := bne_iff_ne.mpr h
  go_enter Tryd.func7, Tryd.ntmps7
  go_wp2
  go_ret2
  exact ⟨rfl, rfl⟩

theorem rbinary_type (op a : Int) (w : World) (h1 : 1 ≤ op) (h2 : op ≤ 13) (h : a < 1 ∨ 3 < a) : Calls Tryd.prog 7 #[.int .i64 op, .int .i64 a, .int .i64 a] w fun e w' => e = .returned (.tuple #[.int .i64 0, .int .i64 22]) ∧ w = w' := by
  have hb : decide (op < 1) = false := decide_eq_false (by omega)
  have hc : decide (13 < op) = false := decide_eq_false (by omega)
  have hd : (a != a) = false := by simp
  go_enter Tryd.func7, Tryd.ntmps7
  go_wp2_with (go_at_call 10; refine (rvalued_no _ _ h).mono ?_; rintro e w' ⟨rfl, rfl⟩)
  go_ret2
  exact ⟨rfl, rfl⟩

theorem rbinary_1_1 (w : World) : Calls Tryd.prog 7 #[.int .i64 1, .int .i64 1, .int .i64 1] w fun e w' => e = .returned (.tuple #[.int .i64 1, .int .i64 0]) ∧ w = w' := by
  go_enter Tryd.func7, Tryd.ntmps7
  go_wp2_with (go_at_call 10; refine (rvalued_yes _ _ (by omega) (by omega)).mono ?_; rintro e w' ⟨rfl, rfl⟩)
  go_ret2
  exact ⟨rfl, rfl⟩

theorem rbinary_1_2 (w : World) : Calls Tryd.prog 7 #[.int .i64 1, .int .i64 2, .int .i64 2] w fun e w' => e = .returned (.tuple #[.int .i64 2, .int .i64 0]) ∧ w = w' := by
  go_enter Tryd.func7, Tryd.ntmps7
  go_wp2_with (go_at_call 10; refine (rvalued_yes _ _ (by omega) (by omega)).mono ?_; rintro e w' ⟨rfl, rfl⟩)
  go_ret2
  exact ⟨rfl, rfl⟩

theorem rbinary_1_3 (w : World) : Calls Tryd.prog 7 #[.int .i64 1, .int .i64 3, .int .i64 3] w fun e w' => e = .returned (.tuple #[.int .i64 0, .int .i64 22]) ∧ w = w' := by
  go_enter Tryd.func7, Tryd.ntmps7
  go_wp2_with (go_at_call 10; refine (rvalued_yes _ _ (by omega) (by omega)).mono ?_; rintro e w' ⟨rfl, rfl⟩)
  go_ret2
  exact ⟨rfl, rfl⟩

theorem rbinary_2_1 (w : World) : Calls Tryd.prog 7 #[.int .i64 2, .int .i64 1, .int .i64 1] w fun e w' => e = .returned (.tuple #[.int .i64 1, .int .i64 0]) ∧ w = w' := by
  go_enter Tryd.func7, Tryd.ntmps7
  go_wp2_with (go_at_call 10; refine (rvalued_yes _ _ (by omega) (by omega)).mono ?_; rintro e w' ⟨rfl, rfl⟩)
  go_ret2
  exact ⟨rfl, rfl⟩

theorem rbinary_2_2 (w : World) : Calls Tryd.prog 7 #[.int .i64 2, .int .i64 2, .int .i64 2] w fun e w' => e = .returned (.tuple #[.int .i64 2, .int .i64 0]) ∧ w = w' := by
  go_enter Tryd.func7, Tryd.ntmps7
  go_wp2_with (go_at_call 10; refine (rvalued_yes _ _ (by omega) (by omega)).mono ?_; rintro e w' ⟨rfl, rfl⟩)
  go_ret2
  exact ⟨rfl, rfl⟩

theorem rbinary_2_3 (w : World) : Calls Tryd.prog 7 #[.int .i64 2, .int .i64 3, .int .i64 3] w fun e w' => e = .returned (.tuple #[.int .i64 0, .int .i64 22]) ∧ w = w' := by
  go_enter Tryd.func7, Tryd.ntmps7
  go_wp2_with (go_at_call 10; refine (rvalued_yes _ _ (by omega) (by omega)).mono ?_; rintro e w' ⟨rfl, rfl⟩)
  go_ret2
  exact ⟨rfl, rfl⟩

theorem rbinary_3_1 (w : World) : Calls Tryd.prog 7 #[.int .i64 3, .int .i64 1, .int .i64 1] w fun e w' => e = .returned (.tuple #[.int .i64 1, .int .i64 0]) ∧ w = w' := by
  go_enter Tryd.func7, Tryd.ntmps7
  go_wp2_with (go_at_call 10; refine (rvalued_yes _ _ (by omega) (by omega)).mono ?_; rintro e w' ⟨rfl, rfl⟩)
  go_ret2
  exact ⟨rfl, rfl⟩

theorem rbinary_3_2 (w : World) : Calls Tryd.prog 7 #[.int .i64 3, .int .i64 2, .int .i64 2] w fun e w' => e = .returned (.tuple #[.int .i64 2, .int .i64 0]) ∧ w = w' := by
  go_enter Tryd.func7, Tryd.ntmps7
  go_wp2_with (go_at_call 10; refine (rvalued_yes _ _ (by omega) (by omega)).mono ?_; rintro e w' ⟨rfl, rfl⟩)
  go_ret2
  exact ⟨rfl, rfl⟩

theorem rbinary_3_3 (w : World) : Calls Tryd.prog 7 #[.int .i64 3, .int .i64 3, .int .i64 3] w fun e w' => e = .returned (.tuple #[.int .i64 0, .int .i64 22]) ∧ w = w' := by
  go_enter Tryd.func7, Tryd.ntmps7
  go_wp2_with (go_at_call 10; refine (rvalued_yes _ _ (by omega) (by omega)).mono ?_; rintro e w' ⟨rfl, rfl⟩)
  go_ret2
  exact ⟨rfl, rfl⟩

theorem rbinary_4_1 (w : World) : Calls Tryd.prog 7 #[.int .i64 4, .int .i64 1, .int .i64 1] w fun e w' => e = .returned (.tuple #[.int .i64 1, .int .i64 0]) ∧ w = w' := by
  go_enter Tryd.func7, Tryd.ntmps7
  go_wp2_with (go_at_call 10; refine (rvalued_yes _ _ (by omega) (by omega)).mono ?_; rintro e w' ⟨rfl, rfl⟩)
  go_ret2
  exact ⟨rfl, rfl⟩

theorem rbinary_4_2 (w : World) : Calls Tryd.prog 7 #[.int .i64 4, .int .i64 2, .int .i64 2] w fun e w' => e = .returned (.tuple #[.int .i64 2, .int .i64 0]) ∧ w = w' := by
  go_enter Tryd.func7, Tryd.ntmps7
  go_wp2_with (go_at_call 10; refine (rvalued_yes _ _ (by omega) (by omega)).mono ?_; rintro e w' ⟨rfl, rfl⟩)
  go_ret2
  exact ⟨rfl, rfl⟩

theorem rbinary_4_3 (w : World) : Calls Tryd.prog 7 #[.int .i64 4, .int .i64 3, .int .i64 3] w fun e w' => e = .returned (.tuple #[.int .i64 0, .int .i64 22]) ∧ w = w' := by
  go_enter Tryd.func7, Tryd.ntmps7
  go_wp2_with (go_at_call 10; refine (rvalued_yes _ _ (by omega) (by omega)).mono ?_; rintro e w' ⟨rfl, rfl⟩)
  go_ret2
  exact ⟨rfl, rfl⟩

theorem rbinary_5_1 (w : World) : Calls Tryd.prog 7 #[.int .i64 5, .int .i64 1, .int .i64 1] w fun e w' => e = .returned (.tuple #[.int .i64 1, .int .i64 0]) ∧ w = w' := by
  go_enter Tryd.func7, Tryd.ntmps7
  go_wp2_with (go_at_call 10; refine (rvalued_yes _ _ (by omega) (by omega)).mono ?_; rintro e w' ⟨rfl, rfl⟩)
  go_ret2
  exact ⟨rfl, rfl⟩

theorem rbinary_5_2 (w : World) : Calls Tryd.prog 7 #[.int .i64 5, .int .i64 2, .int .i64 2] w fun e w' => e = .returned (.tuple #[.int .i64 0, .int .i64 22]) ∧ w = w' := by
  go_enter Tryd.func7, Tryd.ntmps7
  go_wp2_with (go_at_call 10; refine (rvalued_yes _ _ (by omega) (by omega)).mono ?_; rintro e w' ⟨rfl, rfl⟩)
  go_ret2
  exact ⟨rfl, rfl⟩

theorem rbinary_5_3 (w : World) : Calls Tryd.prog 7 #[.int .i64 5, .int .i64 3, .int .i64 3] w fun e w' => e = .returned (.tuple #[.int .i64 0, .int .i64 22]) ∧ w = w' := by
  go_enter Tryd.func7, Tryd.ntmps7
  go_wp2_with (go_at_call 10; refine (rvalued_yes _ _ (by omega) (by omega)).mono ?_; rintro e w' ⟨rfl, rfl⟩)
  go_ret2
  exact ⟨rfl, rfl⟩

theorem rbinary_6_1 (w : World) : Calls Tryd.prog 7 #[.int .i64 6, .int .i64 1, .int .i64 1] w fun e w' => e = .returned (.tuple #[.int .i64 3, .int .i64 0]) ∧ w = w' := by
  go_enter Tryd.func7, Tryd.ntmps7
  go_wp2_with (go_at_call 10; refine (rvalued_yes _ _ (by omega) (by omega)).mono ?_; rintro e w' ⟨rfl, rfl⟩)
  go_ret2
  exact ⟨rfl, rfl⟩

theorem rbinary_6_2 (w : World) : Calls Tryd.prog 7 #[.int .i64 6, .int .i64 2, .int .i64 2] w fun e w' => e = .returned (.tuple #[.int .i64 3, .int .i64 0]) ∧ w = w' := by
  go_enter Tryd.func7, Tryd.ntmps7
  go_wp2_with (go_at_call 10; refine (rvalued_yes _ _ (by omega) (by omega)).mono ?_; rintro e w' ⟨rfl, rfl⟩)
  go_ret2
  exact ⟨rfl, rfl⟩

theorem rbinary_6_3 (w : World) : Calls Tryd.prog 7 #[.int .i64 6, .int .i64 3, .int .i64 3] w fun e w' => e = .returned (.tuple #[.int .i64 3, .int .i64 0]) ∧ w = w' := by
  go_enter Tryd.func7, Tryd.ntmps7
  go_wp2_with (go_at_call 10; refine (rvalued_yes _ _ (by omega) (by omega)).mono ?_; rintro e w' ⟨rfl, rfl⟩)
  go_ret2
  exact ⟨rfl, rfl⟩

theorem rbinary_7_1 (w : World) : Calls Tryd.prog 7 #[.int .i64 7, .int .i64 1, .int .i64 1] w fun e w' => e = .returned (.tuple #[.int .i64 3, .int .i64 0]) ∧ w = w' := by
  go_enter Tryd.func7, Tryd.ntmps7
  go_wp2_with (go_at_call 10; refine (rvalued_yes _ _ (by omega) (by omega)).mono ?_; rintro e w' ⟨rfl, rfl⟩)
  go_ret2
  exact ⟨rfl, rfl⟩

theorem rbinary_7_2 (w : World) : Calls Tryd.prog 7 #[.int .i64 7, .int .i64 2, .int .i64 2] w fun e w' => e = .returned (.tuple #[.int .i64 3, .int .i64 0]) ∧ w = w' := by
  go_enter Tryd.func7, Tryd.ntmps7
  go_wp2_with (go_at_call 10; refine (rvalued_yes _ _ (by omega) (by omega)).mono ?_; rintro e w' ⟨rfl, rfl⟩)
  go_ret2
  exact ⟨rfl, rfl⟩

theorem rbinary_7_3 (w : World) : Calls Tryd.prog 7 #[.int .i64 7, .int .i64 3, .int .i64 3] w fun e w' => e = .returned (.tuple #[.int .i64 3, .int .i64 0]) ∧ w = w' := by
  go_enter Tryd.func7, Tryd.ntmps7
  go_wp2_with (go_at_call 10; refine (rvalued_yes _ _ (by omega) (by omega)).mono ?_; rintro e w' ⟨rfl, rfl⟩)
  go_ret2
  exact ⟨rfl, rfl⟩

theorem rbinary_8_1 (w : World) : Calls Tryd.prog 7 #[.int .i64 8, .int .i64 1, .int .i64 1] w fun e w' => e = .returned (.tuple #[.int .i64 3, .int .i64 0]) ∧ w = w' := by
  go_enter Tryd.func7, Tryd.ntmps7
  go_wp2_with (go_at_call 10; refine (rvalued_yes _ _ (by omega) (by omega)).mono ?_; rintro e w' ⟨rfl, rfl⟩)
  go_ret2
  exact ⟨rfl, rfl⟩

theorem rbinary_8_2 (w : World) : Calls Tryd.prog 7 #[.int .i64 8, .int .i64 2, .int .i64 2] w fun e w' => e = .returned (.tuple #[.int .i64 3, .int .i64 0]) ∧ w = w' := by
  go_enter Tryd.func7, Tryd.ntmps7
  go_wp2_with (go_at_call 10; refine (rvalued_yes _ _ (by omega) (by omega)).mono ?_; rintro e w' ⟨rfl, rfl⟩)
  go_ret2
  exact ⟨rfl, rfl⟩

theorem rbinary_8_3 (w : World) : Calls Tryd.prog 7 #[.int .i64 8, .int .i64 3, .int .i64 3] w fun e w' => e = .returned (.tuple #[.int .i64 0, .int .i64 22]) ∧ w = w' := by
  go_enter Tryd.func7, Tryd.ntmps7
  go_wp2_with (go_at_call 10; refine (rvalued_yes _ _ (by omega) (by omega)).mono ?_; rintro e w' ⟨rfl, rfl⟩)
  go_ret2
  exact ⟨rfl, rfl⟩

theorem rbinary_9_1 (w : World) : Calls Tryd.prog 7 #[.int .i64 9, .int .i64 1, .int .i64 1] w fun e w' => e = .returned (.tuple #[.int .i64 3, .int .i64 0]) ∧ w = w' := by
  go_enter Tryd.func7, Tryd.ntmps7
  go_wp2_with (go_at_call 10; refine (rvalued_yes _ _ (by omega) (by omega)).mono ?_; rintro e w' ⟨rfl, rfl⟩)
  go_ret2
  exact ⟨rfl, rfl⟩

theorem rbinary_9_2 (w : World) : Calls Tryd.prog 7 #[.int .i64 9, .int .i64 2, .int .i64 2] w fun e w' => e = .returned (.tuple #[.int .i64 3, .int .i64 0]) ∧ w = w' := by
  go_enter Tryd.func7, Tryd.ntmps7
  go_wp2_with (go_at_call 10; refine (rvalued_yes _ _ (by omega) (by omega)).mono ?_; rintro e w' ⟨rfl, rfl⟩)
  go_ret2
  exact ⟨rfl, rfl⟩

theorem rbinary_9_3 (w : World) : Calls Tryd.prog 7 #[.int .i64 9, .int .i64 3, .int .i64 3] w fun e w' => e = .returned (.tuple #[.int .i64 0, .int .i64 22]) ∧ w = w' := by
  go_enter Tryd.func7, Tryd.ntmps7
  go_wp2_with (go_at_call 10; refine (rvalued_yes _ _ (by omega) (by omega)).mono ?_; rintro e w' ⟨rfl, rfl⟩)
  go_ret2
  exact ⟨rfl, rfl⟩

theorem rbinary_10_1 (w : World) : Calls Tryd.prog 7 #[.int .i64 10, .int .i64 1, .int .i64 1] w fun e w' => e = .returned (.tuple #[.int .i64 3, .int .i64 0]) ∧ w = w' := by
  go_enter Tryd.func7, Tryd.ntmps7
  go_wp2_with (go_at_call 10; refine (rvalued_yes _ _ (by omega) (by omega)).mono ?_; rintro e w' ⟨rfl, rfl⟩)
  go_ret2
  exact ⟨rfl, rfl⟩

theorem rbinary_10_2 (w : World) : Calls Tryd.prog 7 #[.int .i64 10, .int .i64 2, .int .i64 2] w fun e w' => e = .returned (.tuple #[.int .i64 3, .int .i64 0]) ∧ w = w' := by
  go_enter Tryd.func7, Tryd.ntmps7
  go_wp2_with (go_at_call 10; refine (rvalued_yes _ _ (by omega) (by omega)).mono ?_; rintro e w' ⟨rfl, rfl⟩)
  go_ret2
  exact ⟨rfl, rfl⟩

theorem rbinary_10_3 (w : World) : Calls Tryd.prog 7 #[.int .i64 10, .int .i64 3, .int .i64 3] w fun e w' => e = .returned (.tuple #[.int .i64 0, .int .i64 22]) ∧ w = w' := by
  go_enter Tryd.func7, Tryd.ntmps7
  go_wp2_with (go_at_call 10; refine (rvalued_yes _ _ (by omega) (by omega)).mono ?_; rintro e w' ⟨rfl, rfl⟩)
  go_ret2
  exact ⟨rfl, rfl⟩

theorem rbinary_11_1 (w : World) : Calls Tryd.prog 7 #[.int .i64 11, .int .i64 1, .int .i64 1] w fun e w' => e = .returned (.tuple #[.int .i64 3, .int .i64 0]) ∧ w = w' := by
  go_enter Tryd.func7, Tryd.ntmps7
  go_wp2_with (go_at_call 10; refine (rvalued_yes _ _ (by omega) (by omega)).mono ?_; rintro e w' ⟨rfl, rfl⟩)
  go_ret2
  exact ⟨rfl, rfl⟩

theorem rbinary_11_2 (w : World) : Calls Tryd.prog 7 #[.int .i64 11, .int .i64 2, .int .i64 2] w fun e w' => e = .returned (.tuple #[.int .i64 3, .int .i64 0]) ∧ w = w' := by
  go_enter Tryd.func7, Tryd.ntmps7
  go_wp2_with (go_at_call 10; refine (rvalued_yes _ _ (by omega) (by omega)).mono ?_; rintro e w' ⟨rfl, rfl⟩)
  go_ret2
  exact ⟨rfl, rfl⟩

theorem rbinary_11_3 (w : World) : Calls Tryd.prog 7 #[.int .i64 11, .int .i64 3, .int .i64 3] w fun e w' => e = .returned (.tuple #[.int .i64 0, .int .i64 22]) ∧ w = w' := by
  go_enter Tryd.func7, Tryd.ntmps7
  go_wp2_with (go_at_call 10; refine (rvalued_yes _ _ (by omega) (by omega)).mono ?_; rintro e w' ⟨rfl, rfl⟩)
  go_ret2
  exact ⟨rfl, rfl⟩

theorem rbinary_12_1 (w : World) : Calls Tryd.prog 7 #[.int .i64 12, .int .i64 1, .int .i64 1] w fun e w' => e = .returned (.tuple #[.int .i64 0, .int .i64 22]) ∧ w = w' := by
  go_enter Tryd.func7, Tryd.ntmps7
  go_wp2_with (go_at_call 10; refine (rvalued_yes _ _ (by omega) (by omega)).mono ?_; rintro e w' ⟨rfl, rfl⟩)
  go_ret2
  exact ⟨rfl, rfl⟩

theorem rbinary_12_2 (w : World) : Calls Tryd.prog 7 #[.int .i64 12, .int .i64 2, .int .i64 2] w fun e w' => e = .returned (.tuple #[.int .i64 0, .int .i64 22]) ∧ w = w' := by
  go_enter Tryd.func7, Tryd.ntmps7
  go_wp2_with (go_at_call 10; refine (rvalued_yes _ _ (by omega) (by omega)).mono ?_; rintro e w' ⟨rfl, rfl⟩)
  go_ret2
  exact ⟨rfl, rfl⟩

theorem rbinary_12_3 (w : World) : Calls Tryd.prog 7 #[.int .i64 12, .int .i64 3, .int .i64 3] w fun e w' => e = .returned (.tuple #[.int .i64 3, .int .i64 0]) ∧ w = w' := by
  go_enter Tryd.func7, Tryd.ntmps7
  go_wp2_with (go_at_call 10; refine (rvalued_yes _ _ (by omega) (by omega)).mono ?_; rintro e w' ⟨rfl, rfl⟩)
  go_ret2
  exact ⟨rfl, rfl⟩

theorem rbinary_13_1 (w : World) : Calls Tryd.prog 7 #[.int .i64 13, .int .i64 1, .int .i64 1] w fun e w' => e = .returned (.tuple #[.int .i64 0, .int .i64 22]) ∧ w = w' := by
  go_enter Tryd.func7, Tryd.ntmps7
  go_wp2_with (go_at_call 10; refine (rvalued_yes _ _ (by omega) (by omega)).mono ?_; rintro e w' ⟨rfl, rfl⟩)
  go_ret2
  exact ⟨rfl, rfl⟩

theorem rbinary_13_2 (w : World) : Calls Tryd.prog 7 #[.int .i64 13, .int .i64 2, .int .i64 2] w fun e w' => e = .returned (.tuple #[.int .i64 0, .int .i64 22]) ∧ w = w' := by
  go_enter Tryd.func7, Tryd.ntmps7
  go_wp2_with (go_at_call 10; refine (rvalued_yes _ _ (by omega) (by omega)).mono ?_; rintro e w' ⟨rfl, rfl⟩)
  go_ret2
  exact ⟨rfl, rfl⟩

theorem rbinary_13_3 (w : World) : Calls Tryd.prog 7 #[.int .i64 13, .int .i64 3, .int .i64 3] w fun e w' => e = .returned (.tuple #[.int .i64 3, .int .i64 0]) ∧ w = w' := by
  go_enter Tryd.func7, Tryd.ntmps7
  go_wp2_with (go_at_call 10; refine (rvalued_yes _ _ (by omega) (by omega)).mono ?_; rintro e w' ⟨rfl, rfl⟩)
  go_ret2
  exact ⟨rfl, rfl⟩

theorem rbinary_any (op a b : Int) (w : World) : Calls Tryd.prog 7 #[.int .i64 op, .int .i64 a, .int .i64 b] w fun e w' => e = .returned (.tuple #[.int .i64 (binary op a b).1, .int .i64 (binary op a b).2]) ∧ w = w' := by
  by_cases h : op < 1 ∨ 13 < op
  · have e : binary op a b = (0, 1) := by unfold binary; rw [if_pos h]
    rw [e]
    exact rbinary_arg op a b w h
  · by_cases hne : a ≠ b
    · have e : binary op a b = (0, 22) := by unfold binary; rw [if_neg h, if_pos (Or.inl hne)]
      rw [e]
      exact rbinary_ne op a b w (by omega) (by omega) hne
    · obtain rfl : a = b := by omega
      by_cases k : a < 1 ∨ 3 < a
      · have e : binary op a a = (0, 22) := by unfold binary; rw [if_neg h, if_pos (Or.inr k)]
        rw [e]
        exact rbinary_type op a w (by omega) (by omega) k
      · have ho : op = 1 ∨ op = 2 ∨ op = 3 ∨ op = 4 ∨ op = 5 ∨ op = 6 ∨ op = 7 ∨ op = 8 ∨ op = 9 ∨ op = 10 ∨ op = 11 ∨ op = 12 ∨ op = 13 := by omega
        have ht : a = 1 ∨ a = 2 ∨ a = 3 := by omega
        rcases ho with rfl | rfl | rfl | rfl | rfl | rfl | rfl | rfl | rfl | rfl | rfl | rfl | rfl <;> rcases ht with rfl | rfl | rfl
        · exact rbinary_1_1 w
        · exact rbinary_1_2 w
        · exact rbinary_1_3 w
        · exact rbinary_2_1 w
        · exact rbinary_2_2 w
        · exact rbinary_2_3 w
        · exact rbinary_3_1 w
        · exact rbinary_3_2 w
        · exact rbinary_3_3 w
        · exact rbinary_4_1 w
        · exact rbinary_4_2 w
        · exact rbinary_4_3 w
        · exact rbinary_5_1 w
        · exact rbinary_5_2 w
        · exact rbinary_5_3 w
        · exact rbinary_6_1 w
        · exact rbinary_6_2 w
        · exact rbinary_6_3 w
        · exact rbinary_7_1 w
        · exact rbinary_7_2 w
        · exact rbinary_7_3 w
        · exact rbinary_8_1 w
        · exact rbinary_8_2 w
        · exact rbinary_8_3 w
        · exact rbinary_9_1 w
        · exact rbinary_9_2 w
        · exact rbinary_9_3 w
        · exact rbinary_10_1 w
        · exact rbinary_10_2 w
        · exact rbinary_10_3 w
        · exact rbinary_11_1 w
        · exact rbinary_11_2 w
        · exact rbinary_11_3 w
        · exact rbinary_12_1 w
        · exact rbinary_12_2 w
        · exact rbinary_12_3 w
        · exact rbinary_13_1 w
        · exact rbinary_13_2 w
        · exact rbinary_13_3 w

theorem runary_arg (op t : Int) (w : World) (h : op < 1 ∨ 4 < op) : Calls Tryd.prog 5 #[.int .i64 op, .int .i64 t] w fun e w' => e = .returned (.tuple #[.int .i64 0, .int .i64 1]) ∧ w = w' := by
  have h1 : (op == 1) = false := beq_eq_false_iff_ne.mpr (by omega)
  have h2 : (op == 2) = false := beq_eq_false_iff_ne.mpr (by omega)
  have h3 : (op == 3) = false := beq_eq_false_iff_ne.mpr (by omega)
  have h4 : (op == 4) = false := beq_eq_false_iff_ne.mpr (by omega)
  go_enter Tryd.func5, Tryd.ntmps5
  go_wp2
  go_ret2
  exact ⟨rfl, rfl⟩

theorem runary_no_1 (t : Int) (w : World) (h : t < 1 ∨ 3 < t) : Calls Tryd.prog 5 #[.int .i64 1, .int .i64 t] w fun e w' => e = .returned (.tuple #[.int .i64 0, .int .i64 22]) ∧ w = w' := by
  have h1 : (t == 1) = false := beq_eq_false_iff_ne.mpr (by omega)
  have h2 : (t == 2) = false := beq_eq_false_iff_ne.mpr (by omega)
  have h3 : (t == 3) = false := beq_eq_false_iff_ne.mpr (by omega)
  go_enter Tryd.func5, Tryd.ntmps5
  go_wp2
  go_ret2
  exact ⟨rfl, rfl⟩

theorem runary_1_1 (w : World) : Calls Tryd.prog 5 #[.int .i64 1, .int .i64 1] w fun e w' => e = .returned (.tuple #[.int .i64 1, .int .i64 0]) ∧ w = w' := by
  go_enter Tryd.func5, Tryd.ntmps5
  go_wp2
  go_ret2
  exact ⟨rfl, rfl⟩

theorem runary_1_2 (w : World) : Calls Tryd.prog 5 #[.int .i64 1, .int .i64 2] w fun e w' => e = .returned (.tuple #[.int .i64 2, .int .i64 0]) ∧ w = w' := by
  go_enter Tryd.func5, Tryd.ntmps5
  go_wp2
  go_ret2
  exact ⟨rfl, rfl⟩

theorem runary_1_3 (w : World) : Calls Tryd.prog 5 #[.int .i64 1, .int .i64 3] w fun e w' => e = .returned (.tuple #[.int .i64 0, .int .i64 22]) ∧ w = w' := by
  go_enter Tryd.func5, Tryd.ntmps5
  go_wp2
  go_ret2
  exact ⟨rfl, rfl⟩

theorem runary_no_2 (t : Int) (w : World) (h : t < 1 ∨ 3 < t) : Calls Tryd.prog 5 #[.int .i64 2, .int .i64 t] w fun e w' => e = .returned (.tuple #[.int .i64 0, .int .i64 22]) ∧ w = w' := by
  have h1 : (t == 1) = false := beq_eq_false_iff_ne.mpr (by omega)
  have h2 : (t == 2) = false := beq_eq_false_iff_ne.mpr (by omega)
  have h3 : (t == 3) = false := beq_eq_false_iff_ne.mpr (by omega)
  go_enter Tryd.func5, Tryd.ntmps5
  go_wp2
  go_ret2
  exact ⟨rfl, rfl⟩

theorem runary_2_1 (w : World) : Calls Tryd.prog 5 #[.int .i64 2, .int .i64 1] w fun e w' => e = .returned (.tuple #[.int .i64 0, .int .i64 22]) ∧ w = w' := by
  go_enter Tryd.func5, Tryd.ntmps5
  go_wp2
  go_ret2
  exact ⟨rfl, rfl⟩

theorem runary_2_2 (w : World) : Calls Tryd.prog 5 #[.int .i64 2, .int .i64 2] w fun e w' => e = .returned (.tuple #[.int .i64 0, .int .i64 22]) ∧ w = w' := by
  go_enter Tryd.func5, Tryd.ntmps5
  go_wp2
  go_ret2
  exact ⟨rfl, rfl⟩

theorem runary_2_3 (w : World) : Calls Tryd.prog 5 #[.int .i64 2, .int .i64 3] w fun e w' => e = .returned (.tuple #[.int .i64 3, .int .i64 0]) ∧ w = w' := by
  go_enter Tryd.func5, Tryd.ntmps5
  go_wp2
  go_ret2
  exact ⟨rfl, rfl⟩

theorem runary_no_3 (t : Int) (w : World) (h : t < 1 ∨ 3 < t) : Calls Tryd.prog 5 #[.int .i64 3, .int .i64 t] w fun e w' => e = .returned (.tuple #[.int .i64 0, .int .i64 22]) ∧ w = w' := by
  have h1 : (t == 1) = false := beq_eq_false_iff_ne.mpr (by omega)
  have h2 : (t == 2) = false := beq_eq_false_iff_ne.mpr (by omega)
  have h3 : (t == 3) = false := beq_eq_false_iff_ne.mpr (by omega)
  go_enter Tryd.func5, Tryd.ntmps5
  go_wp2
  go_ret2
  exact ⟨rfl, rfl⟩

theorem runary_3_1 (w : World) : Calls Tryd.prog 5 #[.int .i64 3, .int .i64 1] w fun e w' => e = .returned (.tuple #[.int .i64 0, .int .i64 22]) ∧ w = w' := by
  go_enter Tryd.func5, Tryd.ntmps5
  go_wp2
  go_ret2
  exact ⟨rfl, rfl⟩

theorem runary_3_2 (w : World) : Calls Tryd.prog 5 #[.int .i64 3, .int .i64 2] w fun e w' => e = .returned (.tuple #[.int .i64 1, .int .i64 0]) ∧ w = w' := by
  go_enter Tryd.func5, Tryd.ntmps5
  go_wp2
  go_ret2
  exact ⟨rfl, rfl⟩

theorem runary_3_3 (w : World) : Calls Tryd.prog 5 #[.int .i64 3, .int .i64 3] w fun e w' => e = .returned (.tuple #[.int .i64 0, .int .i64 22]) ∧ w = w' := by
  go_enter Tryd.func5, Tryd.ntmps5
  go_wp2
  go_ret2
  exact ⟨rfl, rfl⟩

theorem runary_no_4 (t : Int) (w : World) (h : t < 1 ∨ 3 < t) : Calls Tryd.prog 5 #[.int .i64 4, .int .i64 t] w fun e w' => e = .returned (.tuple #[.int .i64 0, .int .i64 22]) ∧ w = w' := by
  have h1 : (t == 1) = false := beq_eq_false_iff_ne.mpr (by omega)
  have h2 : (t == 2) = false := beq_eq_false_iff_ne.mpr (by omega)
  have h3 : (t == 3) = false := beq_eq_false_iff_ne.mpr (by omega)
  go_enter Tryd.func5, Tryd.ntmps5
  go_wp2
  go_ret2
  exact ⟨rfl, rfl⟩

theorem runary_4_1 (w : World) : Calls Tryd.prog 5 #[.int .i64 4, .int .i64 1] w fun e w' => e = .returned (.tuple #[.int .i64 2, .int .i64 0]) ∧ w = w' := by
  go_enter Tryd.func5, Tryd.ntmps5
  go_wp2
  go_ret2
  exact ⟨rfl, rfl⟩

theorem runary_4_2 (w : World) : Calls Tryd.prog 5 #[.int .i64 4, .int .i64 2] w fun e w' => e = .returned (.tuple #[.int .i64 0, .int .i64 22]) ∧ w = w' := by
  go_enter Tryd.func5, Tryd.ntmps5
  go_wp2
  go_ret2
  exact ⟨rfl, rfl⟩

theorem runary_4_3 (w : World) : Calls Tryd.prog 5 #[.int .i64 4, .int .i64 3] w fun e w' => e = .returned (.tuple #[.int .i64 0, .int .i64 22]) ∧ w = w' := by
  go_enter Tryd.func5, Tryd.ntmps5
  go_wp2
  go_ret2
  exact ⟨rfl, rfl⟩

theorem runary_any (op t : Int) (w : World) : Calls Tryd.prog 5 #[.int .i64 op, .int .i64 t] w fun e w' => e = .returned (.tuple #[.int .i64 (unary op t).1, .int .i64 (unary op t).2]) ∧ w = w' := by
  by_cases h : op < 1 ∨ 4 < op
  · have e : unary op t = (0, 1) := by unfold unary; rw [if_pos h]
    rw [e]
    exact runary_arg op t w h
  · have ho : op = 1 ∨ op = 2 ∨ op = 3 ∨ op = 4 := by omega
    by_cases k : t < 1 ∨ 3 < t
    · have e : unary op t = (0, 22) := by unfold unary; rw [if_neg h, if_pos k]
      rw [e]
      rcases ho with rfl | rfl | rfl | rfl
      · exact runary_no_1 t w k
      · exact runary_no_2 t w k
      · exact runary_no_3 t w k
      · exact runary_no_4 t w k
    · have ht : t = 1 ∨ t = 2 ∨ t = 3 := by omega
      rcases ho with rfl | rfl | rfl | rfl <;> rcases ht with rfl | rfl | rfl
      · exact runary_1_1 w
      · exact runary_1_2 w
      · exact runary_1_3 w
      · exact runary_2_1 w
      · exact runary_2_2 w
      · exact runary_2_3 w
      · exact runary_3_1 w
      · exact runary_3_2 w
      · exact runary_3_3 w
      · exact runary_4_1 w
      · exact runary_4_2 w
      · exact runary_4_3 w
end Go.Proofs.YtfjpnjbinbhcfaaDoor.Ty3
