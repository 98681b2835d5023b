/- The walk of foundrylaw08.TypesOperators: it returns true, whatever the operator and the types. -/
import Derived.Test.YtakchlfojeefaaaDoorLive08
namespace Go.Proofs.YtakchlfojeefaaaDoor.Operators
open Go.RowKit Ty1 Ty2 Base Live08

theorem binary_sym (op a b : Int) : binary op b a = binary op a b := by
  by_cases h : a = b
  · rw [h]
  · unfold binary
    by_cases h1 : op < 1 ∨ 13 < op
    · rw [if_pos h1, if_pos h1]
    · rw [if_neg h1, if_neg h1, if_pos (Or.inl (Ne.symm h)), if_pos (Or.inl h)]
theorem binary_val (op a b v e : Int) (h : binary op a b = (v, e)) (w : World) : Calls Tryd.prog 5 #[.int .i64 op, .int .i64 a, .int .i64 b] w fun x w' => x = .returned (.tuple #[.int .i64 v, .int .i64 e]) ∧ w = w' := by
  have k := binary_any op a b w; rw [h] at k; exact k
theorem unary_val (op a v e : Int) (h : unary op a = (v, e)) (w : World) : Calls Tryd.prog 7 #[.int .i64 op, .int .i64 a] w fun x w' => x = .returned (.tuple #[.int .i64 v, .int .i64 e]) ∧ w = w' := by
  have k := unary_any op a w; rw [h] at k; exact k
/-- Where Binary fails it makes nothing. -/
def ErrOk (r : Int × Int) : Prop := r.2 ≠ 0 → r.1 = 0
theorem binary_err (op a b : Int) (h : (binary op a b).2 ≠ 0) : (binary op a b).1 = 0 := by
  have k : ErrOk (binary op a b) := by
    unfold binary
    (repeat' split) <;> simp [ErrOk]
  exact k h
theorem unary_err (op a : Int) (h : (unary op a).2 ≠ 0) : (unary op a).1 = 0 := by
  have k : ErrOk (unary op a) := by
    unfold unary
    (repeat' split) <;> simp [ErrOk]
  exact k h

set_option maxHeartbeats 1000000 in
set_option maxRecDepth 100000 in
theorem ok_1_1 (w : World) : Calls Tryd.prog 3 #[.int .i64 1, .int .i64 1, .int .i64 1] w fun e w' => e = .returned (.bool true) ∧ Below w.heap.size w w' := by
  have HB : Hid (binary 1 1 1 = (1, 0)) := hid (by decide)
  have HU : Hid (unary 1 1 = (1, 0)) := hid (by decide)
  go_enter Tryd.func3, Tryd.ntmps3
  go_wp2_with (first | (go_at_call 4; refine (live_any _).mono ?_; rintro e w1 ⟨rfl, hb1⟩) | (go_at_call 5; refine (binary_val _ _ _ _ _ HB.out _).mono ?_; rintro e w' ⟨rfl, rfl⟩) | (go_at_call 7; refine (unary_val _ _ _ _ HU.out _).mono ?_; rintro e w' ⟨rfl, rfl⟩) | (go_at_call 6; refine (name_1 _).mono ?_; rintro e w' ⟨rfl, rfl⟩))
  go_ret
  exact ⟨rfl, hb1⟩

set_option maxHeartbeats 1000000 in
set_option maxRecDepth 100000 in
theorem ok_1_2 (w : World) : Calls Tryd.prog 3 #[.int .i64 1, .int .i64 2, .int .i64 2] w fun e w' => e = .returned (.bool true) ∧ Below w.heap.size w w' := by
  have HB : Hid (binary 1 2 2 = (2, 0)) := hid (by decide)
  have HU : Hid (unary 1 2 = (2, 0)) := hid (by decide)
  go_enter Tryd.func3, Tryd.ntmps3
  go_wp2_with (first | (go_at_call 4; refine (live_any _).mono ?_; rintro e w1 ⟨rfl, hb1⟩) | (go_at_call 5; refine (binary_val _ _ _ _ _ HB.out _).mono ?_; rintro e w' ⟨rfl, rfl⟩) | (go_at_call 7; refine (unary_val _ _ _ _ HU.out _).mono ?_; rintro e w' ⟨rfl, rfl⟩) | (go_at_call 6; refine (name_2 _).mono ?_; rintro e w' ⟨rfl, rfl⟩))
  go_ret
  exact ⟨rfl, hb1⟩

set_option maxHeartbeats 1000000 in
set_option maxRecDepth 100000 in
theorem ok_2_1 (w : World) : Calls Tryd.prog 3 #[.int .i64 2, .int .i64 1, .int .i64 1] w fun e w' => e = .returned (.bool true) ∧ Below w.heap.size w w' := by
  have HB : Hid (binary 2 1 1 = (1, 0)) := hid (by decide)
  have HU : Hid (unary 2 1 = (0, 22)) := hid (by decide)
  go_enter Tryd.func3, Tryd.ntmps3
  go_wp2_with (first | (go_at_call 4; refine (live_any _).mono ?_; rintro e w1 ⟨rfl, hb1⟩) | (go_at_call 5; refine (binary_val _ _ _ _ _ HB.out _).mono ?_; rintro e w' ⟨rfl, rfl⟩) | (go_at_call 7; refine (unary_val _ _ _ _ HU.out _).mono ?_; rintro e w' ⟨rfl, rfl⟩) | (go_at_call 6; refine (name_1 _).mono ?_; rintro e w' ⟨rfl, rfl⟩))
  go_ret
  exact ⟨rfl, hb1⟩

set_option maxHeartbeats 1000000 in
set_option maxRecDepth 100000 in
theorem ok_2_2 (w : World) : Calls Tryd.prog 3 #[.int .i64 2, .int .i64 2, .int .i64 2] w fun e w' => e = .returned (.bool true) ∧ Below w.heap.size w w' := by
  have HB : Hid (binary 2 2 2 = (2, 0)) := hid (by decide)
  have HU : Hid (unary 2 2 = (0, 22)) := hid (by decide)
  go_enter Tryd.func3, Tryd.ntmps3
  go_wp2_with (first | (go_at_call 4; refine (live_any _).mono ?_; rintro e w1 ⟨rfl, hb1⟩) | (go_at_call 5; refine (binary_val _ _ _ _ _ HB.out _).mono ?_; rintro e w' ⟨rfl, rfl⟩) | (go_at_call 7; refine (unary_val _ _ _ _ HU.out _).mono ?_; rintro e w' ⟨rfl, rfl⟩) | (go_at_call 6; refine (name_2 _).mono ?_; rintro e w' ⟨rfl, rfl⟩))
  go_ret
  exact ⟨rfl, hb1⟩

set_option maxHeartbeats 1000000 in
set_option maxRecDepth 100000 in
theorem ok_3_1 (w : World) : Calls Tryd.prog 3 #[.int .i64 3, .int .i64 1, .int .i64 1] w fun e w' => e = .returned (.bool true) ∧ Below w.heap.size w w' := by
  have HB : Hid (binary 3 1 1 = (1, 0)) := hid (by decide)
  have HU : Hid (unary 3 1 = (0, 22)) := hid (by decide)
  go_enter Tryd.func3, Tryd.ntmps3
  go_wp2_with (first | (go_at_call 4; refine (live_any _).mono ?_; rintro e w1 ⟨rfl, hb1⟩) | (go_at_call 5; refine (binary_val _ _ _ _ _ HB.out _).mono ?_; rintro e w' ⟨rfl, rfl⟩) | (go_at_call 7; refine (unary_val _ _ _ _ HU.out _).mono ?_; rintro e w' ⟨rfl, rfl⟩) | (go_at_call 6; refine (name_1 _).mono ?_; rintro e w' ⟨rfl, rfl⟩))
  go_ret
  exact ⟨rfl, hb1⟩

set_option maxHeartbeats 1000000 in
set_option maxRecDepth 100000 in
theorem ok_3_2 (w : World) : Calls Tryd.prog 3 #[.int .i64 3, .int .i64 2, .int .i64 2] w fun e w' => e = .returned (.bool true) ∧ Below w.heap.size w w' := by
  have HB : Hid (binary 3 2 2 = (2, 0)) := hid (by decide)
  have HU : Hid (unary 3 2 = (1, 0)) := hid (by decide)
  go_enter Tryd.func3, Tryd.ntmps3
  go_wp2_with (first | (go_at_call 4; refine (live_any _).mono ?_; rintro e w1 ⟨rfl, hb1⟩) | (go_at_call 5; refine (binary_val _ _ _ _ _ HB.out _).mono ?_; rintro e w' ⟨rfl, rfl⟩) | (go_at_call 7; refine (unary_val _ _ _ _ HU.out _).mono ?_; rintro e w' ⟨rfl, rfl⟩) | (go_at_call 6; refine (name_2 _).mono ?_; rintro e w' ⟨rfl, rfl⟩))
  go_ret
  exact ⟨rfl, hb1⟩

set_option maxHeartbeats 1000000 in
set_option maxRecDepth 100000 in
theorem ok_4_1 (w : World) : Calls Tryd.prog 3 #[.int .i64 4, .int .i64 1, .int .i64 1] w fun e w' => e = .returned (.bool true) ∧ Below w.heap.size w w' := by
  have HB : Hid (binary 4 1 1 = (1, 0)) := hid (by decide)
  have HU : Hid (unary 4 1 = (2, 0)) := hid (by decide)
  go_enter Tryd.func3, Tryd.ntmps3
  go_wp2_with (first | (go_at_call 4; refine (live_any _).mono ?_; rintro e w1 ⟨rfl, hb1⟩) | (go_at_call 5; refine (binary_val _ _ _ _ _ HB.out _).mono ?_; rintro e w' ⟨rfl, rfl⟩) | (go_at_call 7; refine (unary_val _ _ _ _ HU.out _).mono ?_; rintro e w' ⟨rfl, rfl⟩) | (go_at_call 6; refine (name_1 _).mono ?_; rintro e w' ⟨rfl, rfl⟩))
  go_ret
  exact ⟨rfl, hb1⟩

set_option maxHeartbeats 1000000 in
set_option maxRecDepth 100000 in
theorem ok_4_2 (w : World) : Calls Tryd.prog 3 #[.int .i64 4, .int .i64 2, .int .i64 2] w fun e w' => e = .returned (.bool true) ∧ Below w.heap.size w w' := by
  have HB : Hid (binary 4 2 2 = (2, 0)) := hid (by decide)
  have HU : Hid (unary 4 2 = (0, 22)) := hid (by decide)
  go_enter Tryd.func3, Tryd.ntmps3
  go_wp2_with (first | (go_at_call 4; refine (live_any _).mono ?_; rintro e w1 ⟨rfl, hb1⟩) | (go_at_call 5; refine (binary_val _ _ _ _ _ HB.out _).mono ?_; rintro e w' ⟨rfl, rfl⟩) | (go_at_call 7; refine (unary_val _ _ _ _ HU.out _).mono ?_; rintro e w' ⟨rfl, rfl⟩) | (go_at_call 6; refine (name_2 _).mono ?_; rintro e w' ⟨rfl, rfl⟩))
  go_ret
  exact ⟨rfl, hb1⟩

set_option maxHeartbeats 1000000 in
set_option maxRecDepth 100000 in
theorem ok_5_1 (w : World) : Calls Tryd.prog 3 #[.int .i64 5, .int .i64 1, .int .i64 1] w fun e w' => e = .returned (.bool true) ∧ Below w.heap.size w w' := by
  have HB : Hid (binary 5 1 1 = (1, 0)) := hid (by decide)
  have HU : Hid (unary 5 1 = (0, 1)) := hid (by decide)
  go_enter Tryd.func3, Tryd.ntmps3
  go_wp2_with (first | (go_at_call 4; refine (live_any _).mono ?_; rintro e w1 ⟨rfl, hb1⟩) | (go_at_call 5; refine (binary_val _ _ _ _ _ HB.out _).mono ?_; rintro e w' ⟨rfl, rfl⟩) | (go_at_call 7; refine (unary_val _ _ _ _ HU.out _).mono ?_; rintro e w' ⟨rfl, rfl⟩) | (go_at_call 6; refine (name_1 _).mono ?_; rintro e w' ⟨rfl, rfl⟩))
  go_ret
  exact ⟨rfl, hb1⟩

set_option maxHeartbeats 1000000 in
set_option maxRecDepth 100000 in
theorem ok_6_1 (w : World) : Calls Tryd.prog 3 #[.int .i64 6, .int .i64 1, .int .i64 1] w fun e w' => e = .returned (.bool true) ∧ Below w.heap.size w w' := by
  have HB : Hid (binary 6 1 1 = (3, 0)) := hid (by decide)
  have HU : Hid (unary 6 1 = (0, 1)) := hid (by decide)
  go_enter Tryd.func3, Tryd.ntmps3
  go_wp2_with (first | (go_at_call 4; refine (live_any _).mono ?_; rintro e w1 ⟨rfl, hb1⟩) | (go_at_call 5; refine (binary_val _ _ _ _ _ HB.out _).mono ?_; rintro e w' ⟨rfl, rfl⟩) | (go_at_call 7; refine (unary_val _ _ _ _ HU.out _).mono ?_; rintro e w' ⟨rfl, rfl⟩) | (go_at_call 6; refine (name_1 _).mono ?_; rintro e w' ⟨rfl, rfl⟩))
  go_ret
  exact ⟨rfl, hb1⟩

set_option maxHeartbeats 1000000 in
set_option maxRecDepth 100000 in
theorem ok_6_2 (w : World) : Calls Tryd.prog 3 #[.int .i64 6, .int .i64 2, .int .i64 2] w fun e w' => e = .returned (.bool true) ∧ Below w.heap.size w w' := by
  have HB : Hid (binary 6 2 2 = (3, 0)) := hid (by decide)
  have HU : Hid (unary 6 2 = (0, 1)) := hid (by decide)
  go_enter Tryd.func3, Tryd.ntmps3
  go_wp2_with (first | (go_at_call 4; refine (live_any _).mono ?_; rintro e w1 ⟨rfl, hb1⟩) | (go_at_call 5; refine (binary_val _ _ _ _ _ HB.out _).mono ?_; rintro e w' ⟨rfl, rfl⟩) | (go_at_call 7; refine (unary_val _ _ _ _ HU.out _).mono ?_; rintro e w' ⟨rfl, rfl⟩) | (go_at_call 6; refine (name_2 _).mono ?_; rintro e w' ⟨rfl, rfl⟩))
  go_ret
  exact ⟨rfl, hb1⟩

set_option maxHeartbeats 1000000 in
set_option maxRecDepth 100000 in
theorem ok_6_3 (w : World) : Calls Tryd.prog 3 #[.int .i64 6, .int .i64 3, .int .i64 3] w fun e w' => e = .returned (.bool true) ∧ Below w.heap.size w w' := by
  have HB : Hid (binary 6 3 3 = (3, 0)) := hid (by decide)
  have HU : Hid (unary 6 3 = (0, 1)) := hid (by decide)
  go_enter Tryd.func3, Tryd.ntmps3
  go_wp2_with (first | (go_at_call 4; refine (live_any _).mono ?_; rintro e w1 ⟨rfl, hb1⟩) | (go_at_call 5; refine (binary_val _ _ _ _ _ HB.out _).mono ?_; rintro e w' ⟨rfl, rfl⟩) | (go_at_call 7; refine (unary_val _ _ _ _ HU.out _).mono ?_; rintro e w' ⟨rfl, rfl⟩) | (go_at_call 6; refine (name_3 _).mono ?_; rintro e w' ⟨rfl, rfl⟩))
  go_ret
  exact ⟨rfl, hb1⟩

set_option maxHeartbeats 1000000 in
set_option maxRecDepth 100000 in
theorem ok_7_1 (w : World) : Calls Tryd.prog 3 #[.int .i64 7, .int .i64 1, .int .i64 1] w fun e w' => e = .returned (.bool true) ∧ Below w.heap.size w w' := by
  have HB : Hid (binary 7 1 1 = (3, 0)) := hid (by decide)
  have HU : Hid (unary 7 1 = (0, 1)) := hid (by decide)
  go_enter Tryd.func3, Tryd.ntmps3
  go_wp2_with (first | (go_at_call 4; refine (live_any _).mono ?_; rintro e w1 ⟨rfl, hb1⟩) | (go_at_call 5; refine (binary_val _ _ _ _ _ HB.out _).mono ?_; rintro e w' ⟨rfl, rfl⟩) | (go_at_call 7; refine (unary_val _ _ _ _ HU.out _).mono ?_; rintro e w' ⟨rfl, rfl⟩) | (go_at_call 6; refine (name_1 _).mono ?_; rintro e w' ⟨rfl, rfl⟩))
  go_ret
  exact ⟨rfl, hb1⟩

set_option maxHeartbeats 1000000 in
set_option maxRecDepth 100000 in
theorem ok_7_2 (w : World) : Calls Tryd.prog 3 #[.int .i64 7, .int .i64 2, .int .i64 2] w fun e w' => e = .returned (.bool true) ∧ Below w.heap.size w w' := by
  have HB : Hid (binary 7 2 2 = (3, 0)) := hid (by decide)
  have HU : Hid (unary 7 2 = (0, 1)) := hid (by decide)
  go_enter Tryd.func3, Tryd.ntmps3
  go_wp2_with (first | (go_at_call 4; refine (live_any _).mono ?_; rintro e w1 ⟨rfl, hb1⟩) | (go_at_call 5; refine (binary_val _ _ _ _ _ HB.out _).mono ?_; rintro e w' ⟨rfl, rfl⟩) | (go_at_call 7; refine (unary_val _ _ _ _ HU.out _).mono ?_; rintro e w' ⟨rfl, rfl⟩) | (go_at_call 6; refine (name_2 _).mono ?_; rintro e w' ⟨rfl, rfl⟩))
  go_ret
  exact ⟨rfl, hb1⟩

set_option maxHeartbeats 1000000 in
set_option maxRecDepth 100000 in
theorem ok_7_3 (w : World) : Calls Tryd.prog 3 #[.int .i64 7, .int .i64 3, .int .i64 3] w fun e w' => e = .returned (.bool true) ∧ Below w.heap.size w w' := by
  have HB : Hid (binary 7 3 3 = (3, 0)) := hid (by decide)
  have HU : Hid (unary 7 3 = (0, 1)) := hid (by decide)
  go_enter Tryd.func3, Tryd.ntmps3
  go_wp2_with (first | (go_at_call 4; refine (live_any _).mono ?_; rintro e w1 ⟨rfl, hb1⟩) | (go_at_call 5; refine (binary_val _ _ _ _ _ HB.out _).mono ?_; rintro e w' ⟨rfl, rfl⟩) | (go_at_call 7; refine (unary_val _ _ _ _ HU.out _).mono ?_; rintro e w' ⟨rfl, rfl⟩) | (go_at_call 6; refine (name_3 _).mono ?_; rintro e w' ⟨rfl, rfl⟩))
  go_ret
  exact ⟨rfl, hb1⟩

set_option maxHeartbeats 1000000 in
set_option maxRecDepth 100000 in
theorem ok_8_1 (w : World) : Calls Tryd.prog 3 #[.int .i64 8, .int .i64 1, .int .i64 1] w fun e w' => e = .returned (.bool true) ∧ Below w.heap.size w w' := by
  have HB : Hid (binary 8 1 1 = (3, 0)) := hid (by decide)
  have HU : Hid (unary 8 1 = (0, 1)) := hid (by decide)
  go_enter Tryd.func3, Tryd.ntmps3
  go_wp2_with (first | (go_at_call 4; refine (live_any _).mono ?_; rintro e w1 ⟨rfl, hb1⟩) | (go_at_call 5; refine (binary_val _ _ _ _ _ HB.out _).mono ?_; rintro e w' ⟨rfl, rfl⟩) | (go_at_call 7; refine (unary_val _ _ _ _ HU.out _).mono ?_; rintro e w' ⟨rfl, rfl⟩) | (go_at_call 6; refine (name_1 _).mono ?_; rintro e w' ⟨rfl, rfl⟩))
  go_ret
  exact ⟨rfl, hb1⟩

set_option maxHeartbeats 1000000 in
set_option maxRecDepth 100000 in
theorem ok_8_2 (w : World) : Calls Tryd.prog 3 #[.int .i64 8, .int .i64 2, .int .i64 2] w fun e w' => e = .returned (.bool true) ∧ Below w.heap.size w w' := by
  have HB : Hid (binary 8 2 2 = (3, 0)) := hid (by decide)
  have HU : Hid (unary 8 2 = (0, 1)) := hid (by decide)
  go_enter Tryd.func3, Tryd.ntmps3
  go_wp2_with (first | (go_at_call 4; refine (live_any _).mono ?_; rintro e w1 ⟨rfl, hb1⟩) | (go_at_call 5; refine (binary_val _ _ _ _ _ HB.out _).mono ?_; rintro e w' ⟨rfl, rfl⟩) | (go_at_call 7; refine (unary_val _ _ _ _ HU.out _).mono ?_; rintro e w' ⟨rfl, rfl⟩) | (go_at_call 6; refine (name_2 _).mono ?_; rintro e w' ⟨rfl, rfl⟩))
  go_ret
  exact ⟨rfl, hb1⟩

set_option maxHeartbeats 1000000 in
set_option maxRecDepth 100000 in
theorem ok_9_1 (w : World) : Calls Tryd.prog 3 #[.int .i64 9, .int .i64 1, .int .i64 1] w fun e w' => e = .returned (.bool true) ∧ Below w.heap.size w w' := by
  have HB : Hid (binary 9 1 1 = (3, 0)) := hid (by decide)
  have HU : Hid (unary 9 1 = (0, 1)) := hid (by decide)
  go_enter Tryd.func3, Tryd.ntmps3
  go_wp2_with (first | (go_at_call 4; refine (live_any _).mono ?_; rintro e w1 ⟨rfl, hb1⟩) | (go_at_call 5; refine (binary_val _ _ _ _ _ HB.out _).mono ?_; rintro e w' ⟨rfl, rfl⟩) | (go_at_call 7; refine (unary_val _ _ _ _ HU.out _).mono ?_; rintro e w' ⟨rfl, rfl⟩) | (go_at_call 6; refine (name_1 _).mono ?_; rintro e w' ⟨rfl, rfl⟩))
  go_ret
  exact ⟨rfl, hb1⟩

set_option maxHeartbeats 1000000 in
set_option maxRecDepth 100000 in
theorem ok_9_2 (w : World) : Calls Tryd.prog 3 #[.int .i64 9, .int .i64 2, .int .i64 2] w fun e w' => e = .returned (.bool true) ∧ Below w.heap.size w w' := by
  have HB : Hid (binary 9 2 2 = (3, 0)) := hid (by decide)
  have HU : Hid (unary 9 2 = (0, 1)) := hid (by decide)
  go_enter Tryd.func3, Tryd.ntmps3
  go_wp2_with (first | (go_at_call 4; refine (live_any _).mono ?_; rintro e w1 ⟨rfl, hb1⟩) | (go_at_call 5; refine (binary_val _ _ _ _ _ HB.out _).mono ?_; rintro e w' ⟨rfl, rfl⟩) | (go_at_call 7; refine (unary_val _ _ _ _ HU.out _).mono ?_; rintro e w' ⟨rfl, rfl⟩) | (go_at_call 6; refine (name_2 _).mono ?_; rintro e w' ⟨rfl, rfl⟩))
  go_ret
  exact ⟨rfl, hb1⟩

set_option maxHeartbeats 1000000 in
set_option maxRecDepth 100000 in
theorem ok_10_1 (w : World) : Calls Tryd.prog 3 #[.int .i64 10, .int .i64 1, .int .i64 1] w fun e w' => e = .returned (.bool true) ∧ Below w.heap.size w w' := by
  have HB : Hid (binary 10 1 1 = (3, 0)) := hid (by decide)
  have HU : Hid (unary 10 1 = (0, 1)) := hid (by decide)
  go_enter Tryd.func3, Tryd.ntmps3
  go_wp2_with (first | (go_at_call 4; refine (live_any _).mono ?_; rintro e w1 ⟨rfl, hb1⟩) | (go_at_call 5; refine (binary_val _ _ _ _ _ HB.out _).mono ?_; rintro e w' ⟨rfl, rfl⟩) | (go_at_call 7; refine (unary_val _ _ _ _ HU.out _).mono ?_; rintro e w' ⟨rfl, rfl⟩) | (go_at_call 6; refine (name_1 _).mono ?_; rintro e w' ⟨rfl, rfl⟩))
  go_ret
  exact ⟨rfl, hb1⟩

set_option maxHeartbeats 1000000 in
set_option maxRecDepth 100000 in
theorem ok_10_2 (w : World) : Calls Tryd.prog 3 #[.int .i64 10, .int .i64 2, .int .i64 2] w fun e w' => e = .returned (.bool true) ∧ Below w.heap.size w w' := by
  have HB : Hid (binary 10 2 2 = (3, 0)) := hid (by decide)
  have HU : Hid (unary 10 2 = (0, 1)) := hid (by decide)
  go_enter Tryd.func3, Tryd.ntmps3
  go_wp2_with (first | (go_at_call 4; refine (live_any _).mono ?_; rintro e w1 ⟨rfl, hb1⟩) | (go_at_call 5; refine (binary_val _ _ _ _ _ HB.out _).mono ?_; rintro e w' ⟨rfl, rfl⟩) | (go_at_call 7; refine (unary_val _ _ _ _ HU.out _).mono ?_; rintro e w' ⟨rfl, rfl⟩) | (go_at_call 6; refine (name_2 _).mono ?_; rintro e w' ⟨rfl, rfl⟩))
  go_ret
  exact ⟨rfl, hb1⟩

set_option maxHeartbeats 1000000 in
set_option maxRecDepth 100000 in
theorem ok_11_1 (w : World) : Calls Tryd.prog 3 #[.int .i64 11, .int .i64 1, .int .i64 1] w fun e w' => e = .returned (.bool true) ∧ Below w.heap.size w w' := by
  have HB : Hid (binary 11 1 1 = (3, 0)) := hid (by decide)
  have HU : Hid (unary 11 1 = (0, 1)) := hid (by decide)
  go_enter Tryd.func3, Tryd.ntmps3
  go_wp2_with (first | (go_at_call 4; refine (live_any _).mono ?_; rintro e w1 ⟨rfl, hb1⟩) | (go_at_call 5; refine (binary_val _ _ _ _ _ HB.out _).mono ?_; rintro e w' ⟨rfl, rfl⟩) | (go_at_call 7; refine (unary_val _ _ _ _ HU.out _).mono ?_; rintro e w' ⟨rfl, rfl⟩) | (go_at_call 6; refine (name_1 _).mono ?_; rintro e w' ⟨rfl, rfl⟩))
  go_ret
  exact ⟨rfl, hb1⟩

set_option maxHeartbeats 1000000 in
set_option maxRecDepth 100000 in
theorem ok_11_2 (w : World) : Calls Tryd.prog 3 #[.int .i64 11, .int .i64 2, .int .i64 2] w fun e w' => e = .returned (.bool true) ∧ Below w.heap.size w w' := by
  have HB : Hid (binary 11 2 2 = (3, 0)) := hid (by decide)
  have HU : Hid (unary 11 2 = (0, 1)) := hid (by decide)
  go_enter Tryd.func3, Tryd.ntmps3
  go_wp2_with (first | (go_at_call 4; refine (live_any _).mono ?_; rintro e w1 ⟨rfl, hb1⟩) | (go_at_call 5; refine (binary_val _ _ _ _ _ HB.out _).mono ?_; rintro e w' ⟨rfl, rfl⟩) | (go_at_call 7; refine (unary_val _ _ _ _ HU.out _).mono ?_; rintro e w' ⟨rfl, rfl⟩) | (go_at_call 6; refine (name_2 _).mono ?_; rintro e w' ⟨rfl, rfl⟩))
  go_ret
  exact ⟨rfl, hb1⟩

set_option maxHeartbeats 1000000 in
set_option maxRecDepth 100000 in
theorem ok_12_3 (w : World) : Calls Tryd.prog 3 #[.int .i64 12, .int .i64 3, .int .i64 3] w fun e w' => e = .returned (.bool true) ∧ Below w.heap.size w w' := by
  have HB : Hid (binary 12 3 3 = (3, 0)) := hid (by decide)
  have HU : Hid (unary 12 3 = (0, 1)) := hid (by decide)
  go_enter Tryd.func3, Tryd.ntmps3
  go_wp2_with (first | (go_at_call 4; refine (live_any _).mono ?_; rintro e w1 ⟨rfl, hb1⟩) | (go_at_call 5; refine (binary_val _ _ _ _ _ HB.out _).mono ?_; rintro e w' ⟨rfl, rfl⟩) | (go_at_call 7; refine (unary_val _ _ _ _ HU.out _).mono ?_; rintro e w' ⟨rfl, rfl⟩) | (go_at_call 6; refine (name_3 _).mono ?_; rintro e w' ⟨rfl, rfl⟩))
  go_ret
  exact ⟨rfl, hb1⟩

set_option maxHeartbeats 1000000 in
set_option maxRecDepth 100000 in
theorem ok_13_3 (w : World) : Calls Tryd.prog 3 #[.int .i64 13, .int .i64 3, .int .i64 3] w fun e w' => e = .returned (.bool true) ∧ Below w.heap.size w w' := by
  have HB : Hid (binary 13 3 3 = (3, 0)) := hid (by decide)
  have HU : Hid (unary 13 3 = (0, 1)) := hid (by decide)
  go_enter Tryd.func3, Tryd.ntmps3
  go_wp2_with (first | (go_at_call 4; refine (live_any _).mono ?_; rintro e w1 ⟨rfl, hb1⟩) | (go_at_call 5; refine (binary_val _ _ _ _ _ HB.out _).mono ?_; rintro e w' ⟨rfl, rfl⟩) | (go_at_call 7; refine (unary_val _ _ _ _ HU.out _).mono ?_; rintro e w' ⟨rfl, rfl⟩) | (go_at_call 6; refine (name_3 _).mono ?_; rintro e w' ⟨rfl, rfl⟩))
  go_ret
  exact ⟨rfl, hb1⟩

set_option maxHeartbeats 1000000 in
set_option maxRecDepth 100000 in
theorem err_err (op a b f g : Int) (w : World) (hb : binary op a b = (0, f)) (hb2 : binary op b a = (0, f)) (hf : f ≠ 0) (hu : unary op a = (0, g)) (hg : g ≠ 0) : Calls Tryd.prog 3 #[.int .i64 op, .int .i64 a, .int .i64 b] w fun e w' => e = .returned (.bool true) ∧ Below w.heap.size w w' := by
  have HB := hid hb
  have HB2 := hid hb2
  have HU := hid hu
  have n3 : (g != 0) = true := bne_iff_ne.mpr hg
  have n4 : (g == 0) = false := beq_eq_false_iff_ne.mpr hg
  clear hu hg
  have n1 : (f != 0) = true := bne_iff_ne.mpr hf
  have n2 : (f == 0) = false := beq_eq_false_iff_ne.mpr hf
  clear hb hb2 hf
  go_enter Tryd.func3, Tryd.ntmps3
  go_wp2_with fail
  refine (live_any _).mono ?_
  rintro e w1 ⟨rfl, hb1⟩
  go_wp2_with fail
  refine (binary_val _ _ _ _ _ HB.out _).mono ?_
  rintro e w' ⟨rfl, rfl⟩
  go_wp2_with fail
  refine (binary_val _ _ _ _ _ HB2.out _).mono ?_
  rintro e w' ⟨rfl, rfl⟩
  go_wp2_with (go_at_call 7; refine (unary_val _ _ _ _ HU.out _).mono ?_; rintro e w' ⟨rfl, rfl⟩)
  go_ret
  exact ⟨rfl, hb1⟩

set_option maxHeartbeats 1000000 in
set_option maxRecDepth 100000 in
theorem err_1_1 (b f : Int) (w : World) (hb : binary 1 1 b = (0, f)) (hb2 : binary 1 b 1 = (0, f)) (hf : f ≠ 0) : Calls Tryd.prog 3 #[.int .i64 1, .int .i64 1, .int .i64 b] w fun e w' => e = .returned (.bool true) ∧ Below w.heap.size w w' := by
  have HB := hid hb
  have HB2 := hid hb2
  have HU : Hid (unary 1 1 = (1, 0)) := hid (by decide)
  have n1 : (f != 0) = true := bne_iff_ne.mpr hf
  have n2 : (f == 0) = false := beq_eq_false_iff_ne.mpr hf
  clear hb hb2 hf
  go_enter Tryd.func3, Tryd.ntmps3
  go_wp2_with fail
  refine (live_any _).mono ?_
  rintro e w1 ⟨rfl, hb1⟩
  go_wp2_with fail
  refine (binary_val _ _ _ _ _ HB.out _).mono ?_
  rintro e w' ⟨rfl, rfl⟩
  go_wp2_with fail
  refine (binary_val _ _ _ _ _ HB2.out _).mono ?_
  rintro e w' ⟨rfl, rfl⟩
  go_wp2_with (go_at_call 7; refine (unary_val _ _ _ _ HU.out _).mono ?_; rintro e w' ⟨rfl, rfl⟩)
  go_ret
  exact ⟨rfl, hb1⟩

set_option maxHeartbeats 1000000 in
set_option maxRecDepth 100000 in
theorem err_1_2 (b f : Int) (w : World) (hb : binary 1 2 b = (0, f)) (hb2 : binary 1 b 2 = (0, f)) (hf : f ≠ 0) : Calls Tryd.prog 3 #[.int .i64 1, .int .i64 2, .int .i64 b] w fun e w' => e = .returned (.bool true) ∧ Below w.heap.size w w' := by
  have HB := hid hb
  have HB2 := hid hb2
  have HU : Hid (unary 1 2 = (2, 0)) := hid (by decide)
  have n1 : (f != 0) = true := bne_iff_ne.mpr hf
  have n2 : (f == 0) = false := beq_eq_false_iff_ne.mpr hf
  clear hb hb2 hf
  go_enter Tryd.func3, Tryd.ntmps3
  go_wp2_with fail
  refine (live_any _).mono ?_
  rintro e w1 ⟨rfl, hb1⟩
  go_wp2_with fail
  refine (binary_val _ _ _ _ _ HB.out _).mono ?_
  rintro e w' ⟨rfl, rfl⟩
  go_wp2_with fail
  refine (binary_val _ _ _ _ _ HB2.out _).mono ?_
  rintro e w' ⟨rfl, rfl⟩
  go_wp2_with (go_at_call 7; refine (unary_val _ _ _ _ HU.out _).mono ?_; rintro e w' ⟨rfl, rfl⟩)
  go_ret
  exact ⟨rfl, hb1⟩

set_option maxHeartbeats 1000000 in
set_option maxRecDepth 100000 in
theorem err_2_3 (b f : Int) (w : World) (hb : binary 2 3 b = (0, f)) (hb2 : binary 2 b 3 = (0, f)) (hf : f ≠ 0) : Calls Tryd.prog 3 #[.int .i64 2, .int .i64 3, .int .i64 b] w fun e w' => e = .returned (.bool true) ∧ Below w.heap.size w w' := by
  have HB := hid hb
  have HB2 := hid hb2
  have HU : Hid (unary 2 3 = (3, 0)) := hid (by decide)
  have n1 : (f != 0) = true := bne_iff_ne.mpr hf
  have n2 : (f == 0) = false := beq_eq_false_iff_ne.mpr hf
  clear hb hb2 hf
  go_enter Tryd.func3, Tryd.ntmps3
  go_wp2_with fail
  refine (live_any _).mono ?_
  rintro e w1 ⟨rfl, hb1⟩
  go_wp2_with fail
  refine (binary_val _ _ _ _ _ HB.out _).mono ?_
  rintro e w' ⟨rfl, rfl⟩
  go_wp2_with fail
  refine (binary_val _ _ _ _ _ HB2.out _).mono ?_
  rintro e w' ⟨rfl, rfl⟩
  go_wp2_with (go_at_call 7; refine (unary_val _ _ _ _ HU.out _).mono ?_; rintro e w' ⟨rfl, rfl⟩)
  go_ret
  exact ⟨rfl, hb1⟩

set_option maxHeartbeats 1000000 in
set_option maxRecDepth 100000 in
theorem err_3_2 (b f : Int) (w : World) (hb : binary 3 2 b = (0, f)) (hb2 : binary 3 b 2 = (0, f)) (hf : f ≠ 0) : Calls Tryd.prog 3 #[.int .i64 3, .int .i64 2, .int .i64 b] w fun e w' => e = .returned (.bool true) ∧ Below w.heap.size w w' := by
  have HB := hid hb
  have HB2 := hid hb2
  have HU : Hid (unary 3 2 = (1, 0)) := hid (by decide)
  have n1 : (f != 0) = true := bne_iff_ne.mpr hf
  have n2 : (f == 0) = false := beq_eq_false_iff_ne.mpr hf
  clear hb hb2 hf
  go_enter Tryd.func3, Tryd.ntmps3
  go_wp2_with fail
  refine (live_any _).mono ?_
  rintro e w1 ⟨rfl, hb1⟩
  go_wp2_with fail
  refine (binary_val _ _ _ _ _ HB.out _).mono ?_
  rintro e w' ⟨rfl, rfl⟩
  go_wp2_with fail
  refine (binary_val _ _ _ _ _ HB2.out _).mono ?_
  rintro e w' ⟨rfl, rfl⟩
  go_wp2_with (go_at_call 7; refine (unary_val _ _ _ _ HU.out _).mono ?_; rintro e w' ⟨rfl, rfl⟩)
  go_ret
  exact ⟨rfl, hb1⟩

set_option maxHeartbeats 1000000 in
set_option maxRecDepth 100000 in
theorem err_4_1 (b f : Int) (w : World) (hb : binary 4 1 b = (0, f)) (hb2 : binary 4 b 1 = (0, f)) (hf : f ≠ 0) : Calls Tryd.prog 3 #[.int .i64 4, .int .i64 1, .int .i64 b] w fun e w' => e = .returned (.bool true) ∧ Below w.heap.size w w' := by
  have HB := hid hb
  have HB2 := hid hb2
  have HU : Hid (unary 4 1 = (2, 0)) := hid (by decide)
  have n1 : (f != 0) = true := bne_iff_ne.mpr hf
  have n2 : (f == 0) = false := beq_eq_false_iff_ne.mpr hf
  clear hb hb2 hf
  go_enter Tryd.func3, Tryd.ntmps3
  go_wp2_with fail
  refine (live_any _).mono ?_
  rintro e w1 ⟨rfl, hb1⟩
  go_wp2_with fail
  refine (binary_val _ _ _ _ _ HB.out _).mono ?_
  rintro e w' ⟨rfl, rfl⟩
  go_wp2_with fail
  refine (binary_val _ _ _ _ _ HB2.out _).mono ?_
  rintro e w' ⟨rfl, rfl⟩
  go_wp2_with (go_at_call 7; refine (unary_val _ _ _ _ HU.out _).mono ?_; rintro e w' ⟨rfl, rfl⟩)
  go_ret
  exact ⟨rfl, hb1⟩

theorem operators_any (op a b : Int) (w : World) : Calls Tryd.prog 3 #[.int .i64 op, .int .i64 a, .int .i64 b] w fun e w' => e = .returned (.bool true) ∧ Below w.heap.size w w' := by
  by_cases hf : (binary op a b).2 = 0
  · have h1 : 1 ≤ op ∧ op ≤ 13 := by
      apply Decidable.byContradiction
      intro h
      have e : binary op a b = (0, 1) := by unfold binary; rw [if_pos (by omega)]
      rw [e] at hf
      exact absurd hf (by decide)
    have h2 : a = b ∧ 1 ≤ a ∧ a ≤ 3 := by
      apply Decidable.byContradiction
      intro h
      have e : binary op a b = (0, 22) := by unfold binary; rw [if_neg (by omega), if_pos (by omega)]
      rw [e] at hf
      exact absurd hf (by decide)
    obtain ⟨rfl, h3, h4⟩ := h2
    have ho : op = 1 ∨ op = 2 ∨ op = 3 ∨ op = 4 ∨ op = 5 ∨ op = 6 ∨ op = 7 ∨ op = 8 ∨ op = 9 ∨ op = 10 ∨ op = 11 ∨ op = 12 ∨ op = 13 := by omega
    have ht : a = 1 ∨ a = 2 ∨ a = 3 := by omega
    rcases ho with rfl | rfl | rfl | rfl | rfl | rfl | rfl | rfl | rfl | rfl | rfl | rfl | rfl <;> rcases ht with rfl | rfl | rfl
    · exact ok_1_1 w
    · exact ok_1_2 w
    · exact absurd hf (by decide)
    · exact ok_2_1 w
    · exact ok_2_2 w
    · exact absurd hf (by decide)
    · exact ok_3_1 w
    · exact ok_3_2 w
    · exact absurd hf (by decide)
    · exact ok_4_1 w
    · exact ok_4_2 w
    · exact absurd hf (by decide)
    · exact ok_5_1 w
    · exact absurd hf (by decide)
    · exact absurd hf (by decide)
    · exact ok_6_1 w
    · exact ok_6_2 w
    · exact ok_6_3 w
    · exact ok_7_1 w
    · exact ok_7_2 w
    · exact ok_7_3 w
    · exact ok_8_1 w
    · exact ok_8_2 w
    · exact absurd hf (by decide)
    · exact ok_9_1 w
    · exact ok_9_2 w
    · exact absurd hf (by decide)
    · exact ok_10_1 w
    · exact ok_10_2 w
    · exact absurd hf (by decide)
    · exact ok_11_1 w
    · exact ok_11_2 w
    · exact absurd hf (by decide)
    · exact absurd hf (by decide)
    · exact absurd hf (by decide)
    · exact ok_12_3 w
    · exact absurd hf (by decide)
    · exact absurd hf (by decide)
    · exact ok_13_3 w
  · have hb : binary op a b = (0, (binary op a b).2) := Prod.ext (binary_err op a b hf) rfl
    have hb2 : binary op b a = (0, (binary op a b).2) := (binary_sym op a b).trans hb
    by_cases hg : (unary op a).2 = 0
    · have h1 : 1 ≤ op ∧ op ≤ 4 := by
        apply Decidable.byContradiction
        intro h
        have e : unary op a = (0, 1) := by unfold unary; rw [if_pos (by omega)]
        rw [e] at hg
        exact absurd hg (by decide)
      have h2 : 1 ≤ a ∧ a ≤ 3 := by
        apply Decidable.byContradiction
        intro h
        have e : unary op a = (0, 22) := by unfold unary; rw [if_neg (by omega), if_pos (by omega)]
        rw [e] at hg
        exact absurd hg (by decide)
      have ho : op = 1 ∨ op = 2 ∨ op = 3 ∨ op = 4 := by omega
      have ht : a = 1 ∨ a = 2 ∨ a = 3 := by omega
      rcases ho with rfl | rfl | rfl | rfl <;> rcases ht with rfl | rfl | rfl
      · exact err_1_1 b _ w hb hb2 hf
      · exact err_1_2 b _ w hb hb2 hf
      · exact absurd hg (by decide)
      · exact absurd hg (by decide)
      · exact absurd hg (by decide)
      · exact err_2_3 b _ w hb hb2 hf
      · exact absurd hg (by decide)
      · exact err_3_2 b _ w hb hb2 hf
      · exact absurd hg (by decide)
      · exact err_4_1 b _ w hb hb2 hf
      · exact absurd hg (by decide)
      · exact absurd hg (by decide)
    · have hu : unary op a = (0, (unary op a).2) := Prod.ext (unary_err op a hg) rfl
      exact err_err op a b _ _ w hb hb2 hf hu hg
end Go.Proofs.YtakchlfojeefaaaDoor.Operators
