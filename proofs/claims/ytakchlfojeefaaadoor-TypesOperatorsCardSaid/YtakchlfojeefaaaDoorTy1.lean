/- Contracts of types.valued, types.Unary and types.Name: what each returns, for every argument; the world stays. -/
import Derived.Test.YtakchlfojeefaaaDoorProg
import Derived.WalkKit
import Derived.WalkLawsBesides
import Derived.WalkSpells
namespace Go.Proofs.YtakchlfojeefaaaDoor.Ty1
open Go.RowKit

theorem valued_yes (a : Int) (w : World) (h1 : 1 ≤ a) (h2 : a ≤ 3) : Calls Tryd.prog 10 #[.int .i64 a] w fun e w' => e = .returned (.bool true) ∧ w = w' := by
  have hb : decide (1 ≤ a) = true := decide_eq_true h1
  have hc : decide (a ≤ 3) = true := decide_eq_true h2
  go_enter Tryd.func10, Tryd.ntmps10
  go_wp2
  go_ret
  exact ⟨rfl, rfl⟩

theorem valued_no (a : Int) (w : World) (h : a < 1 ∨ 3 < a) : Calls Tryd.prog 10 #[.int .i64 a] w fun e w' => e = .returned (.bool false) ∧ w = w' := by
  rcases h with h | h
  · have hb : decide (1 ≤ a) = false := decide_eq_false (by omega)
    go_enter Tryd.func10, Tryd.ntmps10
    go_wp2
    go_ret
    exact ⟨rfl, rfl⟩
  · have hb : decide (1 ≤ a) = true := decide_eq_true (by omega)
    have hc : decide (a ≤ 3) = false := decide_eq_false (by omega)
    go_enter Tryd.func10, Tryd.ntmps10
    go_wp2
    go_ret
    exact ⟨rfl, rfl⟩

theorem unary_arg (op t : Int) (w : World) (h : op < 1 ∨ 4 < op) : Calls Tryd.prog 7 #[.int .i64 op, .int .i64 t] w fun e w' => e = .returned (.tuple #[.int .i64 0, .int .i64 1]) ∧ w = w' := by
  rcases h with h | h
  · have hb : decide (op < 1) = true := decide_eq_true h
    go_enter Tryd.func7, Tryd.ntmps7
    go_wp2
    go_ret2
    exact ⟨rfl, rfl⟩
  · have hb : decide (op < 1) = false := decide_eq_false (by omega)
    have hc : decide (4 < op) = true := decide_eq_true h
    go_enter Tryd.func7, Tryd.ntmps7
    go_wp2
    go_ret2
    exact ⟨rfl, rfl⟩

theorem unary_type (op t : Int) (w : World) (h1 : 1 ≤ op) (h2 : op ≤ 4) (h : t < 1 ∨ 3 < t) : Calls Tryd.prog 7 #[.int .i64 op, .int .i64 t] w fun e w' => e = .returned (.tuple #[.int .i64 0, .int .i64 22]) ∧ w = w' := by
  have hb : decide (op < 1) = false := decide_eq_false (by omega)
  have hc : decide (4 < op) = false := decide_eq_false (by omega)
  go_enter Tryd.func7, Tryd.ntmps7
  go_wp2_with (go_at_call 10; refine (valued_no _ _ h).mono ?_; rintro e w' ⟨rfl, rfl⟩)
  go_ret2
  exact ⟨rfl, rfl⟩

theorem big_1 (w : World) : (Instr.index 40 (.agg #[.int .i64 0, .int .i64 0, .int .i64 0, .int .i64 0, .int .i64 0, .int .i64 1, .int .i64 2, .int .i64 0, .int .i64 0, .int .i64 0, .int .i64 0, .int .i64 3, .int .i64 0, .int .i64 0, .int .i64 1, .int .i64 0, .int .i64 0, .int .i64 2, .int .i64 0, .int .i64 0]) (.int .i64 1)).run Tryd.prog w = .ok (.agg #[.int .i64 0, .int .i64 1, .int .i64 2, .int .i64 0]) w := by kernel_rfl
theorem big_2 (w : World) : (Instr.index 40 (.agg #[.int .i64 0, .int .i64 0, .int .i64 0, .int .i64 0, .int .i64 0, .int .i64 1, .int .i64 2, .int .i64 0, .int .i64 0, .int .i64 0, .int .i64 0, .int .i64 3, .int .i64 0, .int .i64 0, .int .i64 1, .int .i64 0, .int .i64 0, .int .i64 2, .int .i64 0, .int .i64 0]) (.int .i64 2)).run Tryd.prog w = .ok (.agg #[.int .i64 0, .int .i64 0, .int .i64 0, .int .i64 3]) w := by kernel_rfl
theorem big_3 (w : World) : (Instr.index 40 (.agg #[.int .i64 0, .int .i64 0, .int .i64 0, .int .i64 0, .int .i64 0, .int .i64 1, .int .i64 2, .int .i64 0, .int .i64 0, .int .i64 0, .int .i64 0, .int .i64 3, .int .i64 0, .int .i64 0, .int .i64 1, .int .i64 0, .int .i64 0, .int .i64 2, .int .i64 0, .int .i64 0]) (.int .i64 3)).run Tryd.prog w = .ok (.agg #[.int .i64 0, .int .i64 0, .int .i64 1, .int .i64 0]) w := by kernel_rfl
theorem big_4 (w : World) : (Instr.index 40 (.agg #[.int .i64 0, .int .i64 0, .int .i64 0, .int .i64 0, .int .i64 0, .int .i64 1, .int .i64 2, .int .i64 0, .int .i64 0, .int .i64 0, .int .i64 0, .int .i64 3, .int .i64 0, .int .i64 0, .int .i64 1, .int .i64 0, .int .i64 0, .int .i64 2, .int .i64 0, .int .i64 0]) (.int .i64 4)).run Tryd.prog w = .ok (.agg #[.int .i64 0, .int .i64 2, .int .i64 0, .int .i64 0]) w := by kernel_rfl
theorem row_1_1 (w : World) : (Instr.index 39 (.agg #[.int .i64 0, .int .i64 1, .int .i64 2, .int .i64 0]) (.int .i64 1)).run Tryd.prog w = .ok (.int .i64 1) w := by kernel_rfl
theorem row_1_2 (w : World) : (Instr.index 39 (.agg #[.int .i64 0, .int .i64 1, .int .i64 2, .int .i64 0]) (.int .i64 2)).run Tryd.prog w = .ok (.int .i64 2) w := by kernel_rfl
theorem row_1_3 (w : World) : (Instr.index 39 (.agg #[.int .i64 0, .int .i64 1, .int .i64 2, .int .i64 0]) (.int .i64 3)).run Tryd.prog w = .ok (.int .i64 0) w := by kernel_rfl
theorem row_2_1 (w : World) : (Instr.index 39 (.agg #[.int .i64 0, .int .i64 0, .int .i64 0, .int .i64 3]) (.int .i64 1)).run Tryd.prog w = .ok (.int .i64 0) w := by kernel_rfl
theorem row_2_2 (w : World) : (Instr.index 39 (.agg #[.int .i64 0, .int .i64 0, .int .i64 0, .int .i64 3]) (.int .i64 2)).run Tryd.prog w = .ok (.int .i64 0) w := by kernel_rfl
theorem row_2_3 (w : World) : (Instr.index 39 (.agg #[.int .i64 0, .int .i64 0, .int .i64 0, .int .i64 3]) (.int .i64 3)).run Tryd.prog w = .ok (.int .i64 3) w := by kernel_rfl
theorem row_3_1 (w : World) : (Instr.index 39 (.agg #[.int .i64 0, .int .i64 0, .int .i64 1, .int .i64 0]) (.int .i64 1)).run Tryd.prog w = .ok (.int .i64 0) w := by kernel_rfl
theorem row_3_2 (w : World) : (Instr.index 39 (.agg #[.int .i64 0, .int .i64 0, .int .i64 1, .int .i64 0]) (.int .i64 2)).run Tryd.prog w = .ok (.int .i64 1) w := by kernel_rfl
theorem row_3_3 (w : World) : (Instr.index 39 (.agg #[.int .i64 0, .int .i64 0, .int .i64 1, .int .i64 0]) (.int .i64 3)).run Tryd.prog w = .ok (.int .i64 0) w := by kernel_rfl
theorem row_4_1 (w : World) : (Instr.index 39 (.agg #[.int .i64 0, .int .i64 2, .int .i64 0, .int .i64 0]) (.int .i64 1)).run Tryd.prog w = .ok (.int .i64 2) w := by kernel_rfl
theorem row_4_2 (w : World) : (Instr.index 39 (.agg #[.int .i64 0, .int .i64 2, .int .i64 0, .int .i64 0]) (.int .i64 2)).run Tryd.prog w = .ok (.int .i64 0) w := by kernel_rfl
theorem row_4_3 (w : World) : (Instr.index 39 (.agg #[.int .i64 0, .int .i64 2, .int .i64 0, .int .i64 0]) (.int .i64 3)).run Tryd.prog w = .ok (.int .i64 0) w := by kernel_rfl

set_option maxRecDepth 100000 in
theorem unary_1_1 (w : World) : Calls Tryd.prog 7 #[.int .i64 1, .int .i64 1] w fun e w' => e = .returned (.tuple #[.int .i64 1, .int .i64 0]) ∧ w = w' := by
  have hbig := big_1
  have hrow := row_1_1
  go_enter Tryd.func7, Tryd.ntmps7
  go_wp2_with (go_at_call 10; refine (valued_yes _ _ (by omega) (by omega)).mono ?_; rintro e w' ⟨rfl, rfl⟩)
  go_ret2
  exact ⟨rfl, rfl⟩

set_option maxRecDepth 100000 in
theorem unary_1_2 (w : World) : Calls Tryd.prog 7 #[.int .i64 1, .int .i64 2] w fun e w' => e = .returned (.tuple #[.int .i64 2, .int .i64 0]) ∧ w = w' := by
  have hbig := big_1
  have hrow := row_1_2
  go_enter Tryd.func7, Tryd.ntmps7
  go_wp2_with (go_at_call 10; refine (valued_yes _ _ (by omega) (by omega)).mono ?_; rintro e w' ⟨rfl, rfl⟩)
  go_ret2
  exact ⟨rfl, rfl⟩

set_option maxRecDepth 100000 in
theorem unary_1_3 (w : World) : Calls Tryd.prog 7 #[.int .i64 1, .int .i64 3] w fun e w' => e = .returned (.tuple #[.int .i64 0, .int .i64 22]) ∧ w = w' := by
  have hbig := big_1
  have hrow := row_1_3
  go_enter Tryd.func7, Tryd.ntmps7
  go_wp2_with (go_at_call 10; refine (valued_yes _ _ (by omega) (by omega)).mono ?_; rintro e w' ⟨rfl, rfl⟩)
  go_ret2
  exact ⟨rfl, rfl⟩

set_option maxRecDepth 100000 in
theorem unary_2_1 (w : World) : Calls Tryd.prog 7 #[.int .i64 2, .int .i64 1] w fun e w' => e = .returned (.tuple #[.int .i64 0, .int .i64 22]) ∧ w = w' := by
  have hbig := big_2
  have hrow := row_2_1
  go_enter Tryd.func7, Tryd.ntmps7
  go_wp2_with (go_at_call 10; refine (valued_yes _ _ (by omega) (by omega)).mono ?_; rintro e w' ⟨rfl, rfl⟩)
  go_ret2
  exact ⟨rfl, rfl⟩

set_option maxRecDepth 100000 in
theorem unary_2_2 (w : World) : Calls Tryd.prog 7 #[.int .i64 2, .int .i64 2] w fun e w' => e = .returned (.tuple #[.int .i64 0, .int .i64 22]) ∧ w = w' := by
  have hbig := big_2
  have hrow := row_2_2
  go_enter Tryd.func7, Tryd.ntmps7
  go_wp2_with (go_at_call 10; refine (valued_yes _ _ (by omega) (by omega)).mono ?_; rintro e w' ⟨rfl, rfl⟩)
  go_ret2
  exact ⟨rfl, rfl⟩

set_option maxRecDepth 100000 in
theorem unary_2_3 (w : World) : Calls Tryd.prog 7 #[.int .i64 2, .int .i64 3] w fun e w' => e = .returned (.tuple #[.int .i64 3, .int .i64 0]) ∧ w = w' := by
  have hbig := big_2
  have hrow := row_2_3
  go_enter Tryd.func7, Tryd.ntmps7
  go_wp2_with (go_at_call 10; refine (valued_yes _ _ (by omega) (by omega)).mono ?_; rintro e w' ⟨rfl, rfl⟩)
  go_ret2
  exact ⟨rfl, rfl⟩

set_option maxRecDepth 100000 in
theorem unary_3_1 (w : World) : Calls Tryd.prog 7 #[.int .i64 3, .int .i64 1] w fun e w' => e = .returned (.tuple #[.int .i64 0, .int .i64 22]) ∧ w = w' := by
  have hbig := big_3
  have hrow := row_3_1
  go_enter Tryd.func7, Tryd.ntmps7
  go_wp2_with (go_at_call 10; refine (valued_yes _ _ (by omega) (by omega)).mono ?_; rintro e w' ⟨rfl, rfl⟩)
  go_ret2
  exact ⟨rfl, rfl⟩

set_option maxRecDepth 100000 in
theorem unary_3_2 (w : World) : Calls Tryd.prog 7 #[.int .i64 3, .int .i64 2] w fun e w' => e = .returned (.tuple #[.int .i64 1, .int .i64 0]) ∧ w = w' := by
  have hbig := big_3
  have hrow := row_3_2
  go_enter Tryd.func7, Tryd.ntmps7
  go_wp2_with (go_at_call 10; refine (valued_yes _ _ (by omega) (by omega)).mono ?_; rintro e w' ⟨rfl, rfl⟩)
  go_ret2
  exact ⟨rfl, rfl⟩

set_option maxRecDepth 100000 in
theorem unary_3_3 (w : World) : Calls Tryd.prog 7 #[.int .i64 3, .int .i64 3] w fun e w' => e = .returned (.tuple #[.int .i64 0, .int .i64 22]) ∧ w = w' := by
  have hbig := big_3
  have hrow := row_3_3
  go_enter Tryd.func7, Tryd.ntmps7
  go_wp2_with (go_at_call 10; refine (valued_yes _ _ (by omega) (by omega)).mono ?_; rintro e w' ⟨rfl, rfl⟩)
  go_ret2
  exact ⟨rfl, rfl⟩

set_option maxRecDepth 100000 in
theorem unary_4_1 (w : World) : Calls Tryd.prog 7 #[.int .i64 4, .int .i64 1] w fun e w' => e = .returned (.tuple #[.int .i64 2, .int .i64 0]) ∧ w = w' := by
  have hbig := big_4
  have hrow := row_4_1
  go_enter Tryd.func7, Tryd.ntmps7
  go_wp2_with (go_at_call 10; refine (valued_yes _ _ (by omega) (by omega)).mono ?_; rintro e w' ⟨rfl, rfl⟩)
  go_ret2
  exact ⟨rfl, rfl⟩

set_option maxRecDepth 100000 in
theorem unary_4_2 (w : World) : Calls Tryd.prog 7 #[.int .i64 4, .int .i64 2] w fun e w' => e = .returned (.tuple #[.int .i64 0, .int .i64 22]) ∧ w = w' := by
  have hbig := big_4
  have hrow := row_4_2
  go_enter Tryd.func7, Tryd.ntmps7
  go_wp2_with (go_at_call 10; refine (valued_yes _ _ (by omega) (by omega)).mono ?_; rintro e w' ⟨rfl, rfl⟩)
  go_ret2
  exact ⟨rfl, rfl⟩

set_option maxRecDepth 100000 in
theorem unary_4_3 (w : World) : Calls Tryd.prog 7 #[.int .i64 4, .int .i64 3] w fun e w' => e = .returned (.tuple #[.int .i64 0, .int .i64 22]) ∧ w = w' := by
  have hbig := big_4
  have hrow := row_4_3
  go_enter Tryd.func7, Tryd.ntmps7
  go_wp2_with (go_at_call 10; refine (valued_yes _ _ (by omega) (by omega)).mono ?_; rintro e w' ⟨rfl, rfl⟩)
  go_ret2
  exact ⟨rfl, rfl⟩

/-- What Unary makes. -/
def unary (op t : Int) : Int × Int :=
  if op < 1 ∨ 4 < op then (0, 1)
  else if t < 1 ∨ 3 < t then (0, 22)
  else if op = 1 ∧ t = 1 then (1, 0)
  else if op = 1 ∧ t = 2 then (2, 0)
  else if op = 2 ∧ t = 3 then (3, 0)
  else if op = 3 ∧ t = 2 then (1, 0)
  else if op = 4 ∧ t = 1 then (2, 0)
  else (0, 22)

theorem unary_any (op t : Int) (w : World) : Calls Tryd.prog 7 #[.int .i64 op, .int .i64 t] w fun e w' => e = .returned (.tuple #[.int .i64 (unary op t).1, .int .i64 (unary op t).2]) ∧ w = w' := by
  by_cases h : op < 1 ∨ 4 < op
  · have e : unary op t = (0, 1) := by unfold unary; rw [if_pos h]
    rw [e]
    exact unary_arg op t w h
  · by_cases k : t < 1 ∨ 3 < t
    · have e : unary op t = (0, 22) := by unfold unary; rw [if_neg h, if_pos k]
      rw [e]
      exact unary_type op t w (by omega) (by omega) k
    · have ho : op = 1 ∨ op = 2 ∨ op = 3 ∨ op = 4 := by omega
      have ht : t = 1 ∨ t = 2 ∨ t = 3 := by omega
      rcases ho with rfl | rfl | rfl | rfl <;> rcases ht with rfl | rfl | rfl
      · exact unary_1_1 w
      · exact unary_1_2 w
      · exact unary_1_3 w
      · exact unary_2_1 w
      · exact unary_2_2 w
      · exact unary_2_3 w
      · exact unary_3_1 w
      · exact unary_3_2 w
      · exact unary_3_3 w
      · exact unary_4_1 w
      · exact unary_4_2 w
      · exact unary_4_3 w

/-- The names of the types. -/
def nameB (t : Int) : ByteArray := if t = 1 then ⟨#[105, 110, 116]⟩ else if t = 2 then ⟨#[102, 108, 111, 97, 116]⟩ else if t = 3 then ⟨#[98, 111, 111, 108]⟩ else ⟨#[]⟩

theorem ix_1 (w : World) : (Instr.index 38 (.agg #[.string ⟨#[]⟩, .string ⟨#[105, 110, 116]⟩, .string ⟨#[102, 108, 111, 97, 116]⟩, .string ⟨#[98, 111, 111, 108]⟩]) (.int .i64 1)).run Tryd.prog w = .ok (.string ⟨#[105, 110, 116]⟩) w := by kernel_rfl
set_option maxRecDepth 100000 in
theorem name_1 (w : World) : Calls Tryd.prog 6 #[.int .i64 1] w fun e w' => e = .returned (.string ⟨#[105, 110, 116]⟩) ∧ w = w' := by
  have hix := ix_1
  go_enter Tryd.func6, Tryd.ntmps6
  go_wp2_with (go_at_call 10; refine (valued_yes _ _ (by omega) (by omega)).mono ?_; rintro e w' ⟨rfl, rfl⟩)
  go_ret
  exact ⟨rfl, rfl⟩

theorem ix_2 (w : World) : (Instr.index 38 (.agg #[.string ⟨#[]⟩, .string ⟨#[105, 110, 116]⟩, .string ⟨#[102, 108, 111, 97, 116]⟩, .string ⟨#[98, 111, 111, 108]⟩]) (.int .i64 2)).run Tryd.prog w = .ok (.string ⟨#[102, 108, 111, 97, 116]⟩) w := by kernel_rfl
set_option maxRecDepth 100000 in
theorem name_2 (w : World) : Calls Tryd.prog 6 #[.int .i64 2] w fun e w' => e = .returned (.string ⟨#[102, 108, 111, 97, 116]⟩) ∧ w = w' := by
  have hix := ix_2
  go_enter Tryd.func6, Tryd.ntmps6
  go_wp2_with (go_at_call 10; refine (valued_yes _ _ (by omega) (by omega)).mono ?_; rintro e w' ⟨rfl, rfl⟩)
  go_ret
  exact ⟨rfl, rfl⟩

theorem ix_3 (w : World) : (Instr.index 38 (.agg #[.string ⟨#[]⟩, .string ⟨#[105, 110, 116]⟩, .string ⟨#[102, 108, 111, 97, 116]⟩, .string ⟨#[98, 111, 111, 108]⟩]) (.int .i64 3)).run Tryd.prog w = .ok (.string ⟨#[98, 111, 111, 108]⟩) w := by kernel_rfl
set_option maxRecDepth 100000 in
theorem name_3 (w : World) : Calls Tryd.prog 6 #[.int .i64 3] w fun e w' => e = .returned (.string ⟨#[98, 111, 111, 108]⟩) ∧ w = w' := by
  have hix := ix_3
  go_enter Tryd.func6, Tryd.ntmps6
  go_wp2_with (go_at_call 10; refine (valued_yes _ _ (by omega) (by omega)).mono ?_; rintro e w' ⟨rfl, rfl⟩)
  go_ret
  exact ⟨rfl, rfl⟩

theorem name_no (t : Int) (w : World) (h : t < 1 ∨ 3 < t) : Calls Tryd.prog 6 #[.int .i64 t] w fun e w' => e = .returned (.string ⟨#[]⟩) ∧ w = w' := by
  go_enter Tryd.func6, Tryd.ntmps6
  go_wp2_with (go_at_call 10; refine (valued_no _ _ h).mono ?_; rintro e w' ⟨rfl, rfl⟩)
  go_ret
  exact ⟨rfl, rfl⟩

theorem name_any (t : Int) (w : World) : Calls Tryd.prog 6 #[.int .i64 t] w fun e w' => e = .returned (.string (nameB t)) ∧ w = w' := by
  by_cases k : t < 1 ∨ 3 < t
  · have e : nameB t = ⟨#[]⟩ := by unfold nameB; rw [if_neg (by omega), if_neg (by omega), if_neg (by omega)]
    rw [e]
    exact name_no t w k
  · have ht : t = 1 ∨ t = 2 ∨ t = 3 := by omega
    rcases ht with rfl | rfl | rfl
    · exact name_1 w
    · exact name_2 w
    · exact name_3 w
end Go.Proofs.YtakchlfojeefaaaDoor.Ty1
