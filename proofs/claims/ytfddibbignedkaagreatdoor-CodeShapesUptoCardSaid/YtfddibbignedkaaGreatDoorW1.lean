/- What CodeShapes rests on: the words, the contracts of code.Shape and of the document's Shape. -/
import Derived.Test.YtfddibbignedkaaGreatDoorV1
import Derived.Deep.QuietTactic
import Derived.BigQuiet
set_option maxHeartbeats 8000000
set_option maxRecDepth 100000
set_option linter.unusedVariables false
set_option linter.unusedSimpArgs false
namespace Go.Proofs.YtfddibbignedkaaGreatDoor
section
namespace RIns
open Go.RowKit Base Val Tbl Ins
def widR (op : Int) : Int := if op = 2 ∨ op = 3 ∨ op = 6 ∨ op = 7 then 1 else if op = 4 ∨ op = 5 ∨ op = 8 ∨ op = 9 ∨ op = 10 ∨ op = 15 then 2 else 0
theorem width_1 (op : Int) (h : op = 2 ∨ op = 3 ∨ op = 6 ∨ op = 7) (w : World) : Calls Tryz.prog 51 #[.int .i64 op] w fun e w' => e = .returned (.int .i64 1) ∧ w' = w := by
 rcases h with rfl | rfl | rfl | rfl
 all_goals (go_enter Tryz.func51, Tryz.ntmps51; go_wp2; go_ret; exact ⟨rfl, rfl⟩)
theorem width_2 (op : Int) (h : op = 4 ∨ op = 5 ∨ op = 8 ∨ op = 9 ∨ op = 10 ∨ op = 15) (w : World) : Calls Tryz.prog 51 #[.int .i64 op] w fun e w' => e = .returned (.int .i64 2) ∧ w' = w := by
 rcases h with rfl | rfl | rfl | rfl | rfl | rfl
 all_goals (go_enter Tryz.func51, Tryz.ntmps51; go_wp2; go_ret; exact ⟨rfl, rfl⟩)
theorem width_0 (op : Int) (h2 : (op == 2) = false) (h3 : (op == 3) = false) (h6 : (op == 6) = false) (h7 : (op == 7) = false) (h4 : (op == 4) = false) (h5 : (op == 5) = false) (h8 : (op == 8) = false) (h9 : (op == 9) = false) (h10 : (op == 10) = false) (h15 : (op == 15) = false) (w : World) : Calls Tryz.prog 51 #[.int .i64 op] w fun e w' => e = .returned (.int .i64 0) ∧ w' = w := by
 go_enter Tryz.func51, Tryz.ntmps51
 go_wp2
 go_ret
 exact ⟨rfl, rfl⟩
theorem qCC (op : Int) (w : World) : Calls Tryz.prog 51 #[.int .i64 op] w fun e w' => e = .returned (.int .i64 (widR op)) ∧ w' = w := by
 unfold widR
 by_cases h1 : op = 2 ∨ op = 3 ∨ op = 6 ∨ op = 7
 ·rw [if_pos h1]; exact width_1 op h1 w
 by_cases h2 : op = 4 ∨ op = 5 ∨ op = 8 ∨ op = 9 ∨ op = 10 ∨ op = 15
 ·rw [if_neg h1, if_pos h2]; exact width_2 op h2 w
 rw [if_neg h1, if_neg h2]
 exact width_0 op (beq_eq_false_iff_ne.mpr (by omega)) (beq_eq_false_iff_ne.mpr (by omega)) (beq_eq_false_iff_ne.mpr (by omega)) (beq_eq_false_iff_ne.mpr (by omega)) (beq_eq_false_iff_ne.mpr (by omega)) (beq_eq_false_iff_ne.mpr (by omega)) (beq_eq_false_iff_ne.mpr (by omega)) (beq_eq_false_iff_ne.mpr (by omega)) (beq_eq_false_iff_ne.mpr (by omega)) (beq_eq_false_iff_ne.mpr (by omega)) w
theorem rright_lo (op n ty b : Int) (hlo : (decide (op < 1)) = true) (w : World) : Calls Tryz.prog 23 #[.agg #[.int .i64 op, .int .i64 n, .int .i64 ty, .int .u64 b]] w fun e w' => e = .returned (.bool false) ∧ Below w.heap.size w w' := by
 go_enter Tryz.func23, Tryz.ntmps23
 go_wp2
 go_ret
 exact ⟨rfl, (Below.refl _ _).alloc (Nat.le_refl _) _⟩
theorem rright_hi (op n ty b : Int) (hlo : (decide (op < 1)) = false) (hhi : (decide (17 < op)) = true) (w : World) : Calls Tryz.prog 23 #[.agg #[.int .i64 op, .int .i64 n, .int .i64 ty, .int .u64 b]] w fun e w' => e = .returned (.bool false) ∧ Below w.heap.size w w' := by
 go_enter Tryz.func23, Tryz.ntmps23
 go_wp2
 go_ret
 exact ⟨rfl, (Below.refl _ _).alloc (Nat.le_refl _) _⟩
theorem rright_push_no (n ty b : Int) (h : (n == 0) = false) (w : World) : Calls Tryz.prog 23 #[.agg #[.int .i64 1, .int .i64 n, .int .i64 ty, .int .u64 b]] w fun e w' => e = .returned (.bool false) ∧ Below w.heap.size w w' := by
 go_enter Tryz.func23, Tryz.ntmps23
 go_wp2
 go_ret
 exact ⟨rfl, (Below.refl _ _).alloc (Nat.le_refl _) _⟩
theorem rright_push (ty b : Int) (hb : U64 b) (w : World) : Calls Tryz.prog 23 #[.agg #[.int .i64 1, .int .i64 0, .int .i64 ty, .int .u64 b]] w fun e w' => e = .returned (.bool (okV ty b)) ∧ Below w.heap.size w w' := by
 have HR := hid (Val.rright_any ty b hb)
 clear hb
 go_enter Tryz.func23, Tryz.ntmps23
 go_wp2_with fail
 go_at_call 50
 refine (HR.out _).mono ?_
 rintro e w1 ⟨rfl, hb1⟩
 go_wp2
 go_ret
 exact ⟨rfl, ((Below.refl _ _).alloc (Nat.le_refl _) _).trans (hb1.mono (by simp))⟩
theorem qCs (op n ty b : Int) (hlo : (decide (op < 1)) = false) (hhi : (decide (17 < op)) = false) (h1 : (op == 1) = false)  (hwd : widR op = 0) (w : World) : Calls Tryz.prog 23 #[.agg #[.int .i64 op, .int .i64 n, .int .i64 ty, .int .u64 b]] w fun e w' => e = .returned (.bool (decide (ty = 0 ∧ b = 0 ∧ 0 ≤ n ∧ n ≤ 0))) ∧ Below w.heap.size w w' := by
 have HW := hid (qCC op)
 rw [hwd] at HW
 clear hwd
 by_cases ht : ty = 0 ∧ b = 0 ∧ 0 ≤ n
 ·obtain ⟨rfl, rfl, hn⟩ := ht
  have hn' : decide (n < 0) = false := by simpa using hn
  go_enter Tryz.func23, Tryz.ntmps23
  go_wp2_with fail
  go_at_call 51
  refine (HW.out _).mono ?_
  rintro e w1 ⟨rfl, rfl⟩
  go_wp2
  all_goals (go_ret; refine ⟨congrArg (fun x => Ending.returned (Value.bool x)) ?_, (Below.refl _ _).alloc (Nat.le_refl _) _⟩; first | (simp_all <;> omega) | (rw [Bool.eq_iff_iff]; simp; omega))
 rw [show decide (ty = 0 ∧ b = 0 ∧ 0 ≤ n ∧ n ≤ 0) = false from by simp; omega]
 by_cases h2 : ty = 0
 rotate_left
 ·have h2' : (ty != 0) = true := bne_iff_ne.mpr h2
  clear ht h2
  go_enter Tryz.func23, Tryz.ntmps23
  go_wp2
  go_ret
  exact ⟨rfl, (Below.refl _ _).alloc (Nat.le_refl _) _⟩
 by_cases h3 : b = 0
 ·have hn' : decide (n < 0) = true := by simp; omega
  subst h2 h3
  clear ht
  go_enter Tryz.func23, Tryz.ntmps23
  go_wp2
  go_ret
  exact ⟨rfl, (Below.refl _ _).alloc (Nat.le_refl _) _⟩
 have h3' : (b != 0) = true := bne_iff_ne.mpr h3
 subst h2
 clear ht h3
 go_enter Tryz.func23, Tryz.ntmps23
 go_wp2
 go_ret
 exact ⟨rfl, (Below.refl _ _).alloc (Nat.le_refl _) _⟩
theorem qCt (op n ty b : Int) (hlo : (decide (op < 1)) = false) (hhi : (decide (17 < op)) = false) (h1 : (op == 1) = false)  (hwd : widR op = 2) (w : World) : Calls Tryz.prog 23 #[.agg #[.int .i64 op, .int .i64 n, .int .i64 ty, .int .u64 b]] w fun e w' => e = .returned (.bool (decide (ty = 0 ∧ b = 0 ∧ 0 ≤ n ∧ n ≤ 65535))) ∧ Below w.heap.size w w' := by
 have HW := hid (qCC op)
 rw [hwd] at HW
 clear hwd
 by_cases ht : ty = 0 ∧ b = 0 ∧ 0 ≤ n
 ·obtain ⟨rfl, rfl, hn⟩ := ht
  have hn' : decide (n < 0) = false := by simpa using hn
  go_enter Tryz.func23, Tryz.ntmps23
  go_wp2_with fail
  go_at_call 51
  refine (HW.out _).mono ?_
  rintro e w1 ⟨rfl, rfl⟩
  go_wp2
  all_goals (go_ret; refine ⟨congrArg (fun x => Ending.returned (Value.bool x)) ?_, (Below.refl _ _).alloc (Nat.le_refl _) _⟩; first | (simp_all <;> omega) | (rw [Bool.eq_iff_iff]; simp; omega))
 rw [show decide (ty = 0 ∧ b = 0 ∧ 0 ≤ n ∧ n ≤ 65535) = false from by simp; omega]
 by_cases h2 : ty = 0
 rotate_left
 ·have h2' : (ty != 0) = true := bne_iff_ne.mpr h2
  clear ht h2
  go_enter Tryz.func23, Tryz.ntmps23
  go_wp2
  go_ret
  exact ⟨rfl, (Below.refl _ _).alloc (Nat.le_refl _) _⟩
 by_cases h3 : b = 0
 ·have hn' : decide (n < 0) = true := by simp; omega
  subst h2 h3
  clear ht
  go_enter Tryz.func23, Tryz.ntmps23
  go_wp2
  go_ret
  exact ⟨rfl, (Below.refl _ _).alloc (Nat.le_refl _) _⟩
 have h3' : (b != 0) = true := bne_iff_ne.mpr h3
 subst h2
 clear ht h3
 go_enter Tryz.func23, Tryz.ntmps23
 go_wp2
 go_ret
 exact ⟨rfl, (Below.refl _ _).alloc (Nat.le_refl _) _⟩
theorem rright_6 (op n ty b : Int) (hlo : (decide (op < 1)) = false) (hhi : (decide (17 < op)) = false) (h1 : (op == 1) = false) (h6 : (op == 6) = true) (hwd : widR op = 1) (w : World) : Calls Tryz.prog 23 #[.agg #[.int .i64 op, .int .i64 n, .int .i64 ty, .int .u64 b]] w fun e w' => e = .returned (.bool (decide (ty = 0 ∧ b = 0 ∧ 0 ≤ n ∧ n ≤ 255 ∧ 1 ≤ n ∧ n ≤ 4))) ∧ Below w.heap.size w w' := by
 have HW := hid (qCC op)
 rw [hwd] at HW
 clear hwd
 by_cases ht : ty = 0 ∧ b = 0 ∧ 0 ≤ n
 ·obtain ⟨rfl, rfl, hn⟩ := ht
  have hn' : decide (n < 0) = false := by simpa using hn
  go_enter Tryz.func23, Tryz.ntmps23
  go_wp2_with fail
  go_at_call 51
  refine (HW.out _).mono ?_
  rintro e w1 ⟨rfl, rfl⟩
  go_wp2
  all_goals (go_ret; refine ⟨congrArg (fun x => Ending.returned (Value.bool x)) ?_, (Below.refl _ _).alloc (Nat.le_refl _) _⟩; first | (simp_all <;> omega) | (rw [Bool.eq_iff_iff]; simp; omega))
 rw [show decide (ty = 0 ∧ b = 0 ∧ 0 ≤ n ∧ n ≤ 255 ∧ 1 ≤ n ∧ n ≤ 4) = false from by simp; omega]
 by_cases h2 : ty = 0
 rotate_left
 ·have h2' : (ty != 0) = true := bne_iff_ne.mpr h2
  clear ht h2
  go_enter Tryz.func23, Tryz.ntmps23
  go_wp2
  go_ret
  exact ⟨rfl, (Below.refl _ _).alloc (Nat.le_refl _) _⟩
 by_cases h3 : b = 0
 ·have hn' : decide (n < 0) = true := by simp; omega
  subst h2 h3
  clear ht
  go_enter Tryz.func23, Tryz.ntmps23
  go_wp2
  go_ret
  exact ⟨rfl, (Below.refl _ _).alloc (Nat.le_refl _) _⟩
 have h3' : (b != 0) = true := bne_iff_ne.mpr h3
 subst h2
 clear ht h3
 go_enter Tryz.func23, Tryz.ntmps23
 go_wp2
 go_ret
 exact ⟨rfl, (Below.refl _ _).alloc (Nat.le_refl _) _⟩
theorem rright_7 (op n ty b : Int) (hlo : (decide (op < 1)) = false) (hhi : (decide (17 < op)) = false) (h1 : (op == 1) = false) (h6 : (op == 6) = false) (h7 : (op == 7) = true) (hwd : widR op = 1) (w : World) : Calls Tryz.prog 23 #[.agg #[.int .i64 op, .int .i64 n, .int .i64 ty, .int .u64 b]] w fun e w' => e = .returned (.bool (decide (ty = 0 ∧ b = 0 ∧ 0 ≤ n ∧ n ≤ 255 ∧ 1 ≤ n ∧ n ≤ 11))) ∧ Below w.heap.size w w' := by
 have HW := hid (qCC op)
 rw [hwd] at HW
 clear hwd
 by_cases ht : ty = 0 ∧ b = 0 ∧ 0 ≤ n
 ·obtain ⟨rfl, rfl, hn⟩ := ht
  have hn' : decide (n < 0) = false := by simpa using hn
  go_enter Tryz.func23, Tryz.ntmps23
  go_wp2_with fail
  go_at_call 51
  refine (HW.out _).mono ?_
  rintro e w1 ⟨rfl, rfl⟩
  go_wp2
  all_goals (go_ret; refine ⟨congrArg (fun x => Ending.returned (Value.bool x)) ?_, (Below.refl _ _).alloc (Nat.le_refl _) _⟩; first | (simp_all <;> omega) | (rw [Bool.eq_iff_iff]; simp; omega))
 rw [show decide (ty = 0 ∧ b = 0 ∧ 0 ≤ n ∧ n ≤ 255 ∧ 1 ≤ n ∧ n ≤ 11) = false from by simp; omega]
 by_cases h2 : ty = 0
 rotate_left
 ·have h2' : (ty != 0) = true := bne_iff_ne.mpr h2
  clear ht h2
  go_enter Tryz.func23, Tryz.ntmps23
  go_wp2
  go_ret
  exact ⟨rfl, (Below.refl _ _).alloc (Nat.le_refl _) _⟩
 by_cases h3 : b = 0
 ·have hn' : decide (n < 0) = true := by simp; omega
  subst h2 h3
  clear ht
  go_enter Tryz.func23, Tryz.ntmps23
  go_wp2
  go_ret
  exact ⟨rfl, (Below.refl _ _).alloc (Nat.le_refl _) _⟩
 have h3' : (b != 0) = true := bne_iff_ne.mpr h3
 subst h2
 clear ht h3
 go_enter Tryz.func23, Tryz.ntmps23
 go_wp2
 go_ret
 exact ⟨rfl, (Below.refl _ _).alloc (Nat.le_refl _) _⟩
theorem rright_w1 (op n ty b : Int) (hlo : (decide (op < 1)) = false) (hhi : (decide (17 < op)) = false) (h1 : (op == 1) = false) (h6 : (op == 6) = false) (h7 : (op == 7) = false) (hwd : widR op = 1) (w : World) : Calls Tryz.prog 23 #[.agg #[.int .i64 op, .int .i64 n, .int .i64 ty, .int .u64 b]] w fun e w' => e = .returned (.bool (decide (ty = 0 ∧ b = 0 ∧ 0 ≤ n ∧ n ≤ 255))) ∧ Below w.heap.size w w' := by
 have HW := hid (qCC op)
 rw [hwd] at HW
 clear hwd
 by_cases ht : ty = 0 ∧ b = 0 ∧ 0 ≤ n
 ·obtain ⟨rfl, rfl, hn⟩ := ht
  have hn' : decide (n < 0) = false := by simpa using hn
  go_enter Tryz.func23, Tryz.ntmps23
  go_wp2_with fail
  go_at_call 51
  refine (HW.out _).mono ?_
  rintro e w1 ⟨rfl, rfl⟩
  go_wp2
  all_goals (go_ret; refine ⟨congrArg (fun x => Ending.returned (Value.bool x)) ?_, (Below.refl _ _).alloc (Nat.le_refl _) _⟩; first | (simp_all <;> omega) | (rw [Bool.eq_iff_iff]; simp; omega))
 rw [show decide (ty = 0 ∧ b = 0 ∧ 0 ≤ n ∧ n ≤ 255) = false from by simp; omega]
 by_cases h2 : ty = 0
 rotate_left
 ·have h2' : (ty != 0) = true := bne_iff_ne.mpr h2
  clear ht h2
  go_enter Tryz.func23, Tryz.ntmps23
  go_wp2
  go_ret
  exact ⟨rfl, (Below.refl _ _).alloc (Nat.le_refl _) _⟩
 by_cases h3 : b = 0
 ·have hn' : decide (n < 0) = true := by simp; omega
  subst h2 h3
  clear ht
  go_enter Tryz.func23, Tryz.ntmps23
  go_wp2
  go_ret
  exact ⟨rfl, (Below.refl _ _).alloc (Nat.le_refl _) _⟩
 have h3' : (b != 0) = true := bne_iff_ne.mpr h3
 subst h2
 clear ht h3
 go_enter Tryz.func23, Tryz.ntmps23
 go_wp2
 go_ret
 exact ⟨rfl, (Below.refl _ _).alloc (Nat.le_refl _) _⟩
theorem rright_ins (op n ty b : Int) (hb : U64 b) (w : World) : Calls Tryz.prog 23 #[insV op n ty b] w fun e w' => e = .returned (.bool (okI op n ty b)) ∧ Below w.heap.size w w' := by
 unfold insV
 by_cases hl : op < 1
 ·rw [okI_lo op n ty b hl]; exact rright_lo op n ty b (by simpa using hl) w
 by_cases hh : 17 < op
 ·rw [okI_hi op n ty b hh]; exact rright_hi op n ty b (by simpa using hl) (by simpa using hh) w
 have ho : op = 1 ∨ op = 2 ∨ op = 3 ∨ op = 4 ∨ op = 5 ∨ op = 6 ∨ op = 7 ∨ op = 8 ∨ op = 9 ∨ op = 10 ∨ op = 11 ∨ op = 12 ∨ op = 13 ∨ op = 14 ∨ op = 15 ∨ op = 16 ∨ op = 17 := by omega
 rcases ho with rfl | rfl | rfl | rfl | rfl | rfl | rfl | rfl | rfl | rfl | rfl | rfl | rfl | rfl | rfl | rfl | rfl
 ·rw [okI_1]
  by_cases hn : n = 0
  ·rw [hn]; exact rright_push ty b hb w
  rw [show (n == 0) = false from beq_eq_false_iff_ne.mpr hn]; exact rright_push_no n ty b (beq_eq_false_iff_ne.mpr hn) w
 ·rw [qAR 2 n ty b 255 rfl rfl rfl rfl rfl rfl]; exact rright_w1 2 n ty b rfl rfl rfl rfl rfl rfl w
 ·rw [qAR 3 n ty b 255 rfl rfl rfl rfl rfl rfl]; exact rright_w1 3 n ty b rfl rfl rfl rfl rfl rfl w
 ·rw [qAR 4 n ty b 65535 rfl rfl rfl rfl rfl rfl]; exact qCt 4 n ty b rfl rfl rfl rfl w
 ·rw [qAR 5 n ty b 65535 rfl rfl rfl rfl rfl rfl]; exact qCt 5 n ty b rfl rfl rfl rfl w
 ·rw [okI_6]; exact rright_6 6 n ty b rfl rfl rfl rfl rfl w
 ·rw [okI_7]; exact rright_7 7 n ty b rfl rfl rfl rfl rfl rfl w
 ·rw [qAR 8 n ty b 65535 rfl rfl rfl rfl rfl rfl]; exact qCt 8 n ty b rfl rfl rfl rfl w
 ·rw [qAR 9 n ty b 65535 rfl rfl rfl rfl rfl rfl]; exact qCt 9 n ty b rfl rfl rfl rfl w
 ·rw [qAR 10 n ty b 65535 rfl rfl rfl rfl rfl rfl]; exact qCt 10 n ty b rfl rfl rfl rfl w
 ·rw [qAR 11 n ty b 0 rfl rfl rfl rfl rfl rfl]; exact qCs 11 n ty b rfl rfl rfl rfl w
 ·rw [qAR 12 n ty b 0 rfl rfl rfl rfl rfl rfl]; exact qCs 12 n ty b rfl rfl rfl rfl w
 ·rw [qAR 13 n ty b 0 rfl rfl rfl rfl rfl rfl]; exact qCs 13 n ty b rfl rfl rfl rfl w
 ·rw [qAR 14 n ty b 0 rfl rfl rfl rfl rfl rfl]; exact qCs 14 n ty b rfl rfl rfl rfl w
 ·rw [qAR 15 n ty b 65535 rfl rfl rfl rfl rfl rfl]; exact qCt 15 n ty b rfl rfl rfl rfl w
 ·rw [qAR 16 n ty b 0 rfl rfl rfl rfl rfl rfl]; exact qCs 16 n ty b rfl rfl rfl rfl w
 rw [qAR 17 n ty b 0 rfl rfl rfl rfl rfl rfl]; exact qCs 17 n ty b rfl rfl rfl rfl w
end RIns
end
section
namespace Q
open Go.RowKit YA YB YC
attribute [local go_sem] max2_int min2_int max_two min_two max_three min_three max_four min_four
def qA4.f (a0 : Int) : Option (Bool) := if a0 = 1 then (some true) else (if a0 = 2 then (some true) else (some (a0 == 3)))
theorem qA4.calls (a0 : Int) (r : Bool) (w : World) (h : qA4.f a0 = some r) :
  Calls Tryz.prog 119 #[.int .i64 a0] w fun e w' => e = .returned (.bool r) ∧ qAC w w' := by
 have H : (if a0 = 1 then (some true) else (if a0 = 2 then (some true) else (some (a0 == 3)))) = some r := h
 clear h
 by_cases c2 : a0 = 1
 ·rw [if_pos c2] at H
  have aA : (a0 == 1) = true := beq_iff_eq.mpr c2
  have aB : (a0 != 1) = false := bn c2
  clear c2
  obtain rfl := Option.some.inj H
  go_enter Tryz.func119, Tryz.ntmps119
  go_wp2
  go_ret
  exact ⟨by first | rfl | (simp; done) | (simp [*]; done), by repeat (first | exact qAC.refl _ | apply qAC.step)⟩
 ·rw [if_neg c2] at H
  have aA : (a0 == 1) = false := bf c2
  have aB : (a0 != 1) = true := bne_iff_ne.mpr c2
  by_cases c3 : a0 = 2
  ·rw [if_pos c3] at H
   have aC : (a0 == 2) = true := beq_iff_eq.mpr c3
   have aD : (a0 != 2) = false := bn c3
   clear c3
   obtain rfl := Option.some.inj H
   go_enter Tryz.func119, Tryz.ntmps119
   go_wp2
   go_ret
   exact ⟨by first | rfl | (simp; done) | (simp [*]; done), by repeat (first | exact qAC.refl _ | apply qAC.step)⟩
  ·rw [if_neg c3] at H
   have aC : (a0 == 2) = false := bf c3
   have aD : (a0 != 2) = true := bne_iff_ne.mpr c3
   obtain rfl := Option.some.inj H
   go_enter Tryz.func119, Tryz.ntmps119
   go_wp2
   go_ret
   exact ⟨by first | rfl | (simp; done) | (simp [*]; done), by repeat (first | exact qAC.refl _ | apply qAC.step)⟩
def qAp.l0 : Nat → List Int → Int → Option (Bool)
 | 0, _, _ => none
 | k + 1, x0, x3 => if x3 < (x0.length : Int) then (if 0 ≤ x3 then ((qA4.f (rd x0 x3)).bind fun aE => (if aE = true then (qAp.l0 k x0 (wrap64 (x3 + 1))) else (some false))) else (none)) else (some true)
def qAp.f (k : Nat) (l0 : List Int) : Option (Bool) := qAp.l0 k l0 0
theorem qAp.calls (k : Nat) (A0 : Option Addr) (c0 : Nat) (l0 : List Int) (r : Bool) (w : World) (hr0 : Kd.C (Kd.int .i64) w A0 l0.length l0) (hc0 : l0.length ≤ c0) (h : qAp.f k l0 = some r) :
  Calls Tryz.prog 93 #[.slice A0 l0.length c0] w fun e w' => e = .returned (.bool r) ∧ qAC w w' := by
 have aK := am hr0
 have aM := am hc0
 clear hr0 hc0
 have H : (qAp.l0 k l0 0) = some r := h
 clear h
 have H' := am H
 clear H
 go_enter Tryz.func93, Tryz.ntmps93
 go_wp2
 go_loopg [3] k (fun kq v3 w' => ∃ (aA : Int), v3 = .int .i64 aA ∧ qAc (qAp.l0 kq l0 aA = some r) ∧ qAc (kq ≤ k) ∧ qAC w w')
 case atStart => exact ⟨(0), (by first | rfl | (simp; done) | (simp [*]; done)), H', ⟨Nat.le_refl _⟩, by repeat (first | exact qAC.refl _ | apply qAC.step)⟩
 case round =>
  clear H'
  obtain ⟨aA, rfl, HA, aJ, ⟨m1, rfl⟩⟩ := hrel
  cases gk with
  | zero => exact absurd HA.o (by simp [qAp.l0])
  | succ k1 =>
   have H := HA.o
   clear HA
   simp only [qAp.l0] at H
   by_cases c2 : aA < (l0.length : Int)
   rotate_left
   ·rw [if_neg c2] at H
    replace c2 := d0 c2
    obtain rfl := Option.some.inj H
    go_wp2
    go_ret
    exact ⟨by first | rfl | (simp; done) | (simp [*]; done), by repeat (first | exact qAC.refl _ | apply qAC.step)⟩
   rw [if_pos c2] at H
   replace c2 := d1 c2
   obtain ⟨c3, H⟩ := gd H
   replace c3 := d1 c3
   replace H := bm H
   obtain ⟨aE, aI, H⟩ := H
   replace H : (if aE = true then (qAp.l0 k1 l0 (wrap64 (aA + 1))) else (some false)) = some r := H
   have A4 := am aI
   clear aI
   by_cases c5 : aE = true
   rotate_left
   ·replace c5 := Bool.eq_false_iff.mpr c5
    subst c5
    replace H : (some false) = some r := by rw [if_neg (show ¬ (false = true) by decide)] at H; exact H
    obtain rfl := Option.some.inj H
    have aB : 0 ≤ (aA : Int) := of_decide_eq_true (by first | (with_reducible assumption) | assumption)
    have aC : aA < (l0.length : Int) := of_decide_eq_true (by first | (with_reducible assumption) | assumption)
    obtain ⟨aG, aF, aD⟩ := Kd.at_int aK.o aA aB aC
    cases aF
    replace aB := eq_true aB
    replace aC := eq_true aC
    go_wp2_with (first | ((with_reducible refine qBj (f := 119) rfl ?_); refine goesL_ (some 14) rfl rfl Tryz.func119 (by kernel_rfl) rfl #[.int .i64 (rd l0 aA)] rfl (by (try simp only [List.map_toArray, List.map_cons, List.map_nil]); first | done | rfl | (simp only [List.length_drop, List.length_take]; rfl)) ?_; (with_reducible refine (qA4.calls (rd l0 aA) false _ A4.o).mono ?_); rintro e w' ⟨rfl, ⟨nd, rfl⟩⟩; refine ⟨_, rfl, ?_⟩))
    go_ret
    exact ⟨by first | rfl | (simp; done) | (simp [*]; done), by repeat (first | exact qAC.refl _ | apply qAC.step)⟩
   subst c5
   replace H : (qAp.l0 k1 l0 (wrap64 (aA + 1))) = some r := by rw [if_pos rfl] at H; exact H
   have H' := am H
   clear H
   have aB : 0 ≤ (aA : Int) := of_decide_eq_true (by first | (with_reducible assumption) | assumption)
   have aC : aA < (l0.length : Int) := of_decide_eq_true (by first | (with_reducible assumption) | assumption)
   obtain ⟨aG, aF, aD⟩ := Kd.at_int aK.o aA aB aC
   cases aF
   replace aB := eq_true aB
   replace aC := eq_true aC
   go_wp2_with (first | ((with_reducible refine qBj (f := 119) rfl ?_); refine goesL_ (some 14) rfl rfl Tryz.func119 (by kernel_rfl) rfl #[.int .i64 (rd l0 aA)] rfl (by (try simp only [List.map_toArray, List.map_cons, List.map_nil]); first | done | rfl | (simp only [List.length_drop, List.length_take]; rfl)) ?_; (with_reducible refine (qA4.calls (rd l0 aA) true _ A4.o).mono ?_); rintro e w' ⟨rfl, ⟨nd, rfl⟩⟩; refine ⟨_, rfl, ?_⟩))
   go_roundg k1
   case measure => have := aJ.o; omega
   case rel => exact ⟨(wrap64 (aA + 1)), (by first | rfl | (simp; done) | (simp [*]; done)), H', ⟨by have := aJ.o; omega⟩, by repeat (first | exact qAC.refl _ | apply qAC.step)⟩
def qBm.f (k : Nat) (l0_0 : List Int) (a0_1 : Int) : Option (Bool) := (qAp.f k l0_0).bind fun aG => (if aG = true then (if a0_1 = 0 then (some true) else ((qA4.f a0_1).bind fun aC => (some aC))) else (some false))
theorem qBm.calls (k : Nat) (aD : Option Addr) (aF : Nat) (l0_0 : List Int) (a0_1 : Int) (r : Bool) (w : World) (hr0_0 : Kd.C (Kd.int .i64) w aD l0_0.length l0_0) (hc0_0 : l0_0.length ≤ aF) (h : qBm.f k l0_0 a0_1 = some r) :
  Calls Tryz.prog 92 #[.agg #[.slice aD l0_0.length aF, .int .i64 a0_1]] w fun e w' => e = .returned (.bool r) ∧ Below w.heap.size w w' := by
 have hu24 := Tryz.underlying24
 have aI := am hr0_0
 have aH := am hc0_0
 clear hr0_0 hc0_0
 have HB := am (Below.refl w.heap.size w)
 have H : ((qAp.f k l0_0).bind fun aG => (if aG = true then (if a0_1 = 0 then (some true) else ((qA4.f a0_1).bind fun aC => (some aC))) else (some false))) = some r := h
 clear h
 replace H := bm H
 obtain ⟨aG, aY, H⟩ := H
 replace H : (if aG = true then (if a0_1 = 0 then (some true) else ((qA4.f a0_1).bind fun aC => (some aC))) else (some false)) = some r := H
 have A2 := am aY
 clear aY
 by_cases c3 : aG = true
 ·subst c3
  replace H : (if a0_1 = 0 then (some true) else ((qA4.f a0_1).bind fun aC => (some aC))) = some r := by rw [if_pos rfl] at H; exact H
  by_cases c4 : a0_1 = 0
  ·rw [if_pos c4] at H
   have aO : (a0_1 == 0) = true := beq_iff_eq.mpr c4
   have aP : (a0_1 != 0) = false := bn c4
   clear c4
   obtain rfl := Option.some.inj H
   go_enter Tryz.func92, Tryz.ntmps92
   go_wp2_with (first | ((with_reducible refine qAS (N := 1) rfl ?_); refine qCp ?hg (N := 1) ?hd (cs := #[.slice aD l0_0.length aF, .int .i64 a0_1]) (t := 24) ?hr ?_; (case hd => rfl); (case hg => rfl); (case hr => first | (go_simp; done) | (go_simp; rfl)); intro aB hg w5 hbox hb; have n0_ := am (qAu (by repeat (first | (with_reducible first | exact HB.o | apply qAi | apply qAg | apply qAz) | exact HB.o)) hb); have n1_ := am (hbox); have n2_ := am ((by rw [hg]; exact (qAm (by repeat (first | (with_reducible first | exact HB.o | apply qAi | apply qAg | apply qAz) | exact HB.o))) : w.heap.size ≤ aB)); have n3_ := am ((by rw [hg]; exact (qAm (by repeat (first | (with_reducible first | exact HB.o | apply qAi | apply qAg | apply qAz) | exact HB.o))) : w.heap.size ≤ aB)); clear HB; have HB := n0_; have aA := n1_; have aJ := n2_; have aE := n3_; clear n0_ n1_ n2_ n3_; clear hb hbox hg; obtain ⟨aQ, aR⟩ := c2_ w5 aA.o; obtain ⟨aU, aV⟩ := z2_ aA.o) | ((with_reducible refine qBj (f := 93) rfl ?_); refine goesL_ (some 5) rfl rfl Tryz.func93 (by kernel_rfl) rfl #[.slice aD l0_0.length aF] rfl (by (try simp only [List.map_toArray, List.map_cons, List.map_nil]); first | done | rfl | (simp only [List.length_drop, List.length_take]; rfl)) ?_; (with_reducible refine (qAp.calls k _ _ l0_0 true _ ?side1 ?side2 A2.o).mono ?_); (case side1 => repeat (first | exact (Kd.C_below aI.o HB.o) | (with_reducible refine Kd.C_alloc ?_ _) | (with_reducible refine Kd.C_drewN ?_ _) | (with_reducible refine Kd.C_drew ?_))); (case side2 => exact aH.o); rintro e w' ⟨rfl, ⟨nd, rfl⟩⟩; refine ⟨_, rfl, ?_⟩))
   go_ret
   exact ⟨by first | rfl | (simp [errW_none, errW_some] <;> rfl) | (simp [*, errW_none, errW_some] <;> rfl), by repeat (first | (with_reducible first | exact HB.o | apply qAi | apply qAg | apply qAz | refine qAf ?_ aE.o) | exact HB.o)⟩
  ·rw [if_neg c4] at H
   have aO : (a0_1 == 0) = false := bf c4
   have aP : (a0_1 != 0) = true := bne_iff_ne.mpr c4
   replace H := bm H
   obtain ⟨aC, aZ, H⟩ := H
   replace H : (some aC) = some r := H
   have A7 := am aZ
   clear aZ
   obtain rfl := Option.some.inj H
   go_enter Tryz.func92, Tryz.ntmps92
   go_wp2_with (first | ((with_reducible refine qAS (N := 1) rfl ?_); refine qCp ?hg (N := 1) ?hd (cs := #[.slice aD l0_0.length aF, .int .i64 a0_1]) (t := 24) ?hr ?_; (case hd => rfl); (case hg => rfl); (case hr => first | (go_simp; done) | (go_simp; rfl)); intro aB hg w8 hbox hb; have n0_ := am (qAu (by repeat (first | (with_reducible first | exact HB.o | apply qAi | apply qAg | apply qAz) | exact HB.o)) hb); have n1_ := am (hbox); have n2_ := am ((by rw [hg]; exact (qAm (by repeat (first | (with_reducible first | exact HB.o | apply qAi | apply qAg | apply qAz) | exact HB.o))) : w.heap.size ≤ aB)); have n3_ := am ((by rw [hg]; exact (qAm (by repeat (first | (with_reducible first | exact HB.o | apply qAi | apply qAg | apply qAz) | exact HB.o))) : w.heap.size ≤ aB)); clear HB; have HB := n0_; have aA := n1_; have aJ := n2_; have aE := n3_; clear n0_ n1_ n2_ n3_; clear hb hbox hg; obtain ⟨aS, aT⟩ := c2_ w8 aA.o; obtain ⟨aW, aX⟩ := z2_ aA.o) | ((with_reducible refine qBj (f := 93) rfl ?_); refine goesL_ (some 5) rfl rfl Tryz.func93 (by kernel_rfl) rfl #[.slice aD l0_0.length aF] rfl (by (try simp only [List.map_toArray, List.map_cons, List.map_nil]); first | done | rfl | (simp only [List.length_drop, List.length_take]; rfl)) ?_; (with_reducible refine (qAp.calls k _ _ l0_0 true _ ?side1 ?side2 A2.o).mono ?_); (case side1 => repeat (first | exact (Kd.C_below aI.o HB.o) | (with_reducible refine Kd.C_alloc ?_ _) | (with_reducible refine Kd.C_drewN ?_ _) | (with_reducible refine Kd.C_drew ?_))); (case side2 => exact aH.o); rintro e w' ⟨rfl, ⟨nd, rfl⟩⟩; refine ⟨_, rfl, ?_⟩) | (go_at_call 119; (with_reducible refine (qA4.calls a0_1 aC _ A7.o).mono ?_); rintro e w' ⟨rfl, ⟨nd, rfl⟩⟩))
   go_ret
   exact ⟨by first | rfl | (simp [errW_none, errW_some] <;> rfl) | (simp [*, errW_none, errW_some] <;> rfl), by repeat (first | (with_reducible first | exact HB.o | apply qAi | apply qAg | apply qAz | refine qAf ?_ aE.o) | exact HB.o)⟩
 ·replace c3 := Bool.eq_false_iff.mpr c3
  subst c3
  replace H : (some false) = some r := by rw [if_neg (show ¬ (false = true) by decide)] at H; exact H
  obtain rfl := Option.some.inj H
  go_enter Tryz.func92, Tryz.ntmps92
  go_wp2_with (first | ((with_reducible refine qAS (N := 1) rfl ?_); refine qCp ?hg (N := 1) ?hd (cs := #[.slice aD l0_0.length aF, .int .i64 a0_1]) (t := 24) ?hr ?_; (case hd => rfl); (case hg => rfl); (case hr => first | (go_simp; done) | (go_simp; rfl)); intro aB hg a3 hbox hb; have n0_ := am (qAu (by repeat (first | (with_reducible first | exact HB.o | apply qAi | apply qAg | apply qAz) | exact HB.o)) hb); have n1_ := am (hbox); have n2_ := am ((by rw [hg]; exact (qAm (by repeat (first | (with_reducible first | exact HB.o | apply qAi | apply qAg | apply qAz) | exact HB.o))) : w.heap.size ≤ aB)); have n3_ := am ((by rw [hg]; exact (qAm (by repeat (first | (with_reducible first | exact HB.o | apply qAi | apply qAg | apply qAz) | exact HB.o))) : w.heap.size ≤ aB)); clear HB; have HB := n0_; have aA := n1_; have aJ := n2_; have aE := n3_; clear n0_ n1_ n2_ n3_; clear hb hbox hg; obtain ⟨aK, aL⟩ := c2_ a3 aA.o; obtain ⟨aM, aN⟩ := z2_ aA.o) | ((with_reducible refine qBj (f := 93) rfl ?_); refine goesL_ (some 5) rfl rfl Tryz.func93 (by kernel_rfl) rfl #[.slice aD l0_0.length aF] rfl (by (try simp only [List.map_toArray, List.map_cons, List.map_nil]); first | done | rfl | (simp only [List.length_drop, List.length_take]; rfl)) ?_; (with_reducible refine (qAp.calls k _ _ l0_0 false _ ?side1 ?side2 A2.o).mono ?_); (case side1 => repeat (first | exact (Kd.C_below aI.o HB.o) | (with_reducible refine Kd.C_alloc ?_ _) | (with_reducible refine Kd.C_drewN ?_ _) | (with_reducible refine Kd.C_drew ?_))); (case side2 => exact aH.o); rintro e w' ⟨rfl, ⟨nd, rfl⟩⟩; refine ⟨_, rfl, ?_⟩))
  go_ret
  exact ⟨by first | rfl | (simp [errW_none, errW_some] <;> rfl) | (simp [*, errW_none, errW_some] <;> rfl), by repeat (first | (with_reducible first | exact HB.o | apply qAi | apply qAg | apply qAz | refine qAf ?_ aE.o) | exact HB.o)⟩
end Q
end
section
namespace Q
open Go.RowKit YA YB YC
open Val Ins
namespace RV
def sgP (s : S24) : S34 := ⟨s.f0, s.f1⟩
def insP (x : S50) : S51 := ⟨x.f0, x.f1, x.f2⟩
theorem wrapR {i n : Nat} (h : i < n) (hn : n ≤ 2000000) : wrap64 ((i : Int) + 1) = ((i + 1 : Nat) : Int) := by unfold wrap64; omega
theorem valued_f (t : Int) : qA4.f t = some (okT t) := by
 unfold qA4.f okT
 by_cases h1 : t = 1
 ·rw [if_pos h1, decide_eq_true (by omega)]
 by_cases h2 : t = 2
 ·rw [if_neg h1, if_pos h2, decide_eq_true (by omega)]
 rw [if_neg h1, if_neg h2]
 by_cases h3 : t = 3
 ·rw [decide_eq_true (by omega), h3]; rfl
 rw [decide_eq_false (by omega), bn h3]
theorem valued_l (l : List Int) (hl : l.length ≤ 2000000) : ∀ (m j : Nat), j + m = l.length → Ev (fun k => qAp.l0 k l (j : Int)) ((l.drop j).all okT) := by
 intro m
 induction m with
 | zero =>
  intro j hj
  rw [List.drop_eq_nil_of_le (by omega)]
  refine Ev.step (f := fun _ => some true) (fun k => ?_) (Ev.now _)
  simp only [qAp.l0]
  rw [if_neg (by omega)]
 | succ m ih =>
  intro j hj
  have hd := qBM l 0 (j : Int) (by omega) (by omega)
  rw [Int.toNat_natCast, show ((j : Int) + 1).toNat = j + 1 from by omega] at hd
  rw [hd, List.all_cons]
  have hr : rd l (j : Int) = l.getD j 0 := by simp [rd]
  cases hv : okT (l.getD j 0) with
  | false =>
   refine Ev.step (f := fun _ => some false) (fun k => ?_) (Ev.now _)
   simp only [qAp.l0]
   rw [if_pos (by omega), if_pos (by omega), hr, valued_f, hv]; rfl
  | true =>
   rw [Bool.true_and]
   refine Ev.step (fun k => ?_) (ih (j + 1) (by omega))
   simp only [qAp.l0]
   rw [if_pos (by omega), if_pos (by omega), hr, valued_f, hv, wrapR (n := l.length) (by omega) hl]; rfl
theorem valued_ev (l : List Int) (hl : l.length ≤ 2000000) : Ev (fun k => qAp.f k l) (l.all okT) := valued_l l hl l.length 0 (by omega)
theorem sig_ev (l : List Int) (r : Int) (hl : l.length ≤ 2000000) : Ev (fun k => qBm.f k l r) (l.all okT && resT r) := by
 unfold qBm.f
 refine Ev.bind (valued_ev l hl) ?_
 cases l.all okT with
 | false => exact Ev.now _
 | true =>
  simp only [if_true, Bool.true_and]
  by_cases h : r = 0
  ·rw [if_pos h, show resT r = true from by unfold resT; simp [h]]; exact Ev.now _
  rw [if_neg h, valued_f, show resT r = okT r from by unfold resT; simp [h]]; exact Ev.now _
theorem qDX (A : Option Addr) (c : Nat) (l : List Int) (W : World) (h : Kd.C (Kd.int .i64) W A l.length l) (hc : l.length ≤ c) (hl : l.length ≤ 2000000) :
  Calls Tryz.prog 93 #[.slice A l.length c] W fun e w' => e = .returned (.bool (l.all okT)) ∧ Below W.heap.size W w' := by
 obtain ⟨k, hk⟩ := (valued_ev l hl).rounds
 refine (qAp.calls k A c l _ W h hc hk).mono ?_
 rintro e w' ⟨rfl, hd⟩
 exact ⟨rfl, hd.below⟩
theorem rsig_any (A : Option Addr) (c : Nat) (l : List Int) (r : Int) (W : World) (h : Kd.C (Kd.int .i64) W A l.length l) (hc : l.length ≤ c) (hl : l.length ≤ 2000000) :
  Calls Tryz.prog 92 #[.agg #[.slice A l.length c, .int .i64 r]] W fun e w' => e = .returned (.bool (l.all okT && resT r)) ∧ Below W.heap.size W w' := by
 obtain ⟨k, hk⟩ := (sig_ev l r hl).rounds
 exact qBm.calls k A c l r _ W h hc hk
def insB (code : List S50) : Int × Int := match badS 0 (code.map insP) with | some i => ((i : Int), 51) | none => (0, 0)
def sgB (s : S24) : Bool := s.f0.all okT && resT s.f1
def goodH (ps : List Int) (res : Int) (ls : List Int) (n : Nat) (vs : List Int) : Bool := decide (0 < n) && ((ps.all okT && resT res) && (ls.all okT && (decide (ps.length ≤ ls.length) && ((ls.take ps.length == ps) && vs.all okT))))
theorem badS_at : ∀ (kk j : Nat) (code : List S50), (∀ i x, i < kk → code[i]? = some x → okS (insP x) = true) → badS j (code.map insP) = badS (j + kk) ((code.drop kk).map insP)
 | 0, j, code, h => by simp
 | kk + 1, j, [], h => by simp [badS]
 | kk + 1, j, x :: l, h => by
  rw [List.map_cons, qC4, if_pos (h 0 x (by omega) rfl), badS_at kk (j + 1) l (fun i y hi hy => h (i + 1) y (by omega) hy), List.drop_succ_cons, show j + 1 + kk = j + (kk + 1) from by omega]
theorem insB_bad (code : List S50) (kk : Nat) (x : S50) (h : ∀ i x, i < kk → code[i]? = some x → okS (insP x) = true) (hx : code[kk]? = some x) (hb : okS (insP x) = false) : insB code = ((kk : Int), 51) := by
 have hd : code.drop kk = x :: code.drop (kk + 1) := by
  obtain ⟨hlt, e⟩ := List.getElem?_eq_some_iff.1 hx
  rw [List.drop_eq_getElem_cons hlt, e]
 unfold insB
 rw [badS_at kk 0 code h, hd, List.map_cons, qC4, if_neg (by rw [hb]; decide), Nat.zero_add]
theorem insB_all (code : List S50) (h : ∀ i x, i < code.length → code[i]? = some x → okS (insP x) = true) : insB code = (0, 0) := by
 unfold insB
 rw [badS_at code.length 0 code h, List.drop_length]; rfl
theorem rd_getR {α} (l : List α) (z : α) (kk : Nat) (h : kk < l.length) : l[kk]? = some (l.getD ((kk : Int).toNat) z) := by
 rw [Int.toNat_natCast, List.getD_eq_getElem?_getD, List.getElem?_eq_getElem h]; rfl
theorem head_any {W : World} (A1 A2 A3 A4 A5 : Option Addr) (c1 c2 c3 c4 c5 : Nat) (res : Int) {ps ls vs : List Int} {fs : List S24} {code : List S50} {okF : Nat → Prop} (hP : Kd.F (Kd.int .i64) W okF A1 ps.length ps) (hL : Kd.F (Kd.int .i64) W okF A2 ls.length ls) (hC : Kd.F k50 W okF A3 code.length code) (hF : Kd.F k24 W okF A4 fs.length fs) (hV : Kd.F (Kd.int .i64) W okF A5 vs.length vs) (hc1 : ps.length ≤ c1) (hc2 : ls.length ≤ c2) (hc5 : vs.length ≤ c5)
  (hp1 : ps.length ≤ 2000000) (hl1 : ls.length ≤ 2000000) (hv1 : vs.length ≤ 2000000) (hf1 : fs.length ≤ 2000000) (hn3 : code.length ≤ 2000000) (hfs : ∀ x ∈ fs, x.f0.length ≤ 2000000) (hu : ∀ x ∈ code, 0 ≤ x.f2.f1 ∧ x.f2.f1 < 18446744073709551616) (q : Int × Int)
  (hq : (if 8 < ps.length ∨ 64 < ls.length ∨ 4096 < code.length then ((0 : Int), (3 : Int)) else if (goodH ps res ls code.length vs && fs.all sgB) = true then insB code else (0, 51)) = q) :
  Calls Tryz.prog 66 #[.agg #[.slice A1 ps.length c1, .int .i64 res, .slice A2 ls.length c2, .slice A3 code.length c3], .agg #[.slice A4 fs.length c4, .slice A5 vs.length c5]] W fun e w' => e = .returned (.tuple #[.int .i64 q.1, .int .i64 q.2]) ∧ Below W.heap.size W w' := by
 obtain ⟨W0, hW0⟩ := eX ((W.alloc (.cells #[.slice A1 ps.length c1, .int .i64 res, .slice A2 ls.length c2, .slice A3 code.length c3] 27)).alloc (.cells #[.slice A4 fs.length c4, .slice A5 vs.length c5] 30))
 have hB0 : Below W.heap.size W W0 := hW0 ▸ ((Below.refl _ _).alloc (nl _) _).alloc (by simp) _
 have hSG : ∀ W', Below W.heap.size W W' → Calls Tryz.prog 92 #[.agg #[.slice A1 ps.length c1, .int .i64 res]] W' fun e w' => e = .returned (.bool (ps.all okT && resT res)) ∧ Below W'.heap.size W' w' := fun W' hB => rsig_any A1 c1 ps res W' (Kd.F_now (Kd.F_below hP hB)) hc1 hp1
 have hVL : ∀ W', Below W.heap.size W W' → Calls Tryz.prog 93 #[.slice A2 ls.length c2] W' fun e w' => e = .returned (.bool (ls.all okT)) ∧ Below W'.heap.size W' w' := fun W' hB => qDX A2 c2 ls W' (Kd.F_now (Kd.F_below hL hB)) hc2 hl1
 have hVV : ∀ W', Below W.heap.size W W' → Calls Tryz.prog 93 #[.slice A5 vs.length c5] W' fun e w' => e = .returned (.bool (vs.all okT)) ∧ Below W'.heap.size W' w' := fun W' hB => qDX A5 c5 vs W' (Kd.F_now (Kd.F_below hV hB)) hc5 hv1
 have hIN : ps.length ≤ ls.length → ∀ W', Below W.heap.size W W' → Calls Tryz.prog 29 #[.slice A2 ps.length c2, .slice A1 ps.length c1] W' fun e w' => e = .returned (.bool (ls.take ps.length == ps)) ∧ Below W'.heap.size W' w' := fun hle W' hB => by
  have h3 : (ls.take ps.length).length = ps.length := by rw [List.length_take]; omega
  have h2 := Kd.C_take (Kd.F_now (Kd.F_below hL hB)) hle
  have h4 := ints_any A2 A1 c2 c1 (ls.take ps.length) ps W' h2 (Kd.F_now (Kd.F_below hP hB)) (by omega) hc1 (by omega)
  rw [h3] at h4
  exact h4
 obtain ⟨bs, hbs⟩ := eX ((ps.all okT && resT res))
 obtain ⟨bw, hbl⟩ := eX (ls.all okT)
 obtain ⟨bi, hbi⟩ := eX ((ls.take ps.length == ps))
 obtain ⟨bv, hbv⟩ := eX (vs.all okT)
 unfold goodH at hq
 rw [← hbs] at hSG hq
 rw [← hbl] at hVL hq
 rw [← hbi] at hIN hq
 rw [← hbv] at hVV hq
 obtain ⟨p1, hpp⟩ := eL ps
 obtain ⟨l1, hll⟩ := eL ls
 obtain ⟨n3, hnn⟩ := eL code
 obtain ⟨f1, hff⟩ := eL fs
 obtain ⟨v1, hvv⟩ := eL vs
 rw [← hpp] at hSG hIN hq hW0 hp1 hc1 ⊢
 rw [← hll] at hVL hIN hq hW0 hl1 hc2 ⊢
 rw [← hnn] at hq hW0 hn3 ⊢
 rw [← hff] at hW0 hf1 ⊢
 rw [← hvv] at hVV hW0 hv1 ⊢
 have HSG := am hSG
 have HVL := am hVL
 have HVV := am hVV
 have HIN := am hIN
 have HC := am hC
 have HF := am hF
 have HFS := am hfs
 have HU := am hu
 have HB0 := am hB0
 have HW0 := am hW0
 have HNN := am hnn
 have HFF := am hff
 have HQ := am hq
 clear hSG hVL hVV hIN hC hF hfs hu hB0 hW0 hnn hff hq hP hL hV hbs hbl hbi hbv hpp hll hvv hc1 hc5 hv1
 by_cases hA : 8 < p1 ∨ 64 < l1 ∨ 4096 < n3
 ·have hrr : q = (0, 3) := by have h := HQ.out; rw [if_pos hA] at h; exact h.symm
  subst hrr
  have hBB : Below W.heap.size W W0 := HB0.out
  rw [HW0.out] at hBB
  have HBB := am hBB
  clear hBB
  by_cases hA1 : 8 < p1
  ·have hz1 : (8 : Int) < (p1 : Int) := by omega
   clear hA
   go_enter Tryz.func66, Tryz.ntmps66
   go_wp2
   go_ret2
   exact ⟨rfl, HBB.out⟩
  ·have hz1 : ¬ (8 : Int) < (p1 : Int) := by omega
   by_cases hA2 : 64 < l1
   ·have hz2 : (64 : Int) < (l1 : Int) := by omega
    clear hA
    go_enter Tryz.func66, Tryz.ntmps66
    go_wp2
    go_ret2
    exact ⟨rfl, HBB.out⟩
   ·have hz2 : ¬ (64 : Int) < (l1 : Int) := by omega
    have hz3 : (4096 : Int) < (n3 : Int) := by omega
    clear hA
    go_enter Tryz.func66, Tryz.ntmps66
    go_wp2
    go_ret2
    exact ⟨rfl, HBB.out⟩
 have hA1 : ¬ 8 < p1 := fun h => hA (.inl h)
 have hA2 : ¬ 64 < l1 := fun h => hA (.inr (.inl h))
 have hA3 : ¬ 4096 < n3 := fun h => hA (.inr (.inr h))
 have hz1 : ¬ (8 : Int) < (p1 : Int) := by omega
 have hz2 : ¬ (64 : Int) < (l1 : Int) := by omega
 have hz3 : ¬ (4096 : Int) < (n3 : Int) := by omega
 have hrA := HQ.out
 rw [if_neg hA] at hrA
 have HRA := am hrA
 clear hrA HQ hA hA1 hA2 hA3
 have b0 : W0.heap[W.heap.size]? = some (.cells #[.slice A1 p1 c1, .int .i64 res, .slice A2 l1 c2, .slice A3 n3 c3] 27 (0, 0)) := by rw [HW0.out]; exact qAe (qAG W _) (qAi (Below.refl _ _) _)
 have b1 : W0.heap[W.heap.size + 1]? = some (.cells #[.slice A4 f1 c4, .slice A5 v1 c5] 30 (0, 0)) := by rw [HW0.out]; simpa using qAG (W.alloc (.cells #[.slice A1 p1 c1, .int .i64 res, .slice A2 l1 c2, .slice A3 n3 c3] 27)) _
 have k0 := (qAa b0 0).trans rfl
 have k1 := (qAa b0 1).trans rfl
 have k2 := (qAa b0 2).trans rfl
 have k3 := (qAa b0 3).trans rfl
 have k4 := (qAa b1 0).trans rfl
 have k5 := (qAa b1 1).trans rfl
 go_enter Tryz.func66, Tryz.ntmps66
 go_wp2_with fail
 rw [← HW0.out]
 by_cases hB1 : n3 = 0
 ·have hrr : q = (0, 51) := by have h := HRA.out; rw [decide_eq_false (by omega), Bool.false_and, Bool.false_and, if_neg (by decide)] at h; exact h.symm
  subst hrr
  go_quiet (fail)
  go_wp2_with fail
  go_ret2
  exact ⟨rfl, qAg HB0.out _⟩
 have hq1 : ((n3 : Int) == 0) = false := bn (by omega)
 have hrB := HRA.out
 rw [decide_eq_true (show 0 < n3 by omega), Bool.true_and] at hrB
 replace HRA := am hrB
 replace HB0 : qAc (Below W.heap.size W W0) := HB0
 have HBW := HB0
 clear hrB b0 b1 HB0 HW0
 refine wp_region_noPanic ?_
 refine wp_region_held_drew (S := (fun W' => W'.cell? ⟨W.heap.size, 0, none⟩ = some (.slice A1 p1 c1) ∧ W'.cell? ⟨W.heap.size, 1, none⟩ = some (.int .i64 res) ∧ W'.cell? ⟨W.heap.size, 2, none⟩ = some (.slice A2 l1 c2) ∧ W'.cell? ⟨W.heap.size, 3, none⟩ = some (.slice A3 n3 c3) ∧ W'.cell? ⟨W.heap.size + 1, 0, none⟩ = some (.slice A4 f1 c4) ∧ W'.cell? ⟨W.heap.size + 1, 1, none⟩ = some (.slice A5 v1 c5))) (by kernel_rfl) ⟨k0, k1, k2, k3, k4, k5⟩ (fun hHeld => ?_)
 refine hT 0 ?_
 refine hT 1 ?_
 refine hT 2 ?_
 refine hT 3 ?_
 refine hT 4 ?_
 refine hT 5 ?_
 refine hT 6 ?_
 refine wpAnyH_ready (rs := [7]) (by kernel_rfl) (by simp) ?_
 refine AllReadyH.cons (o := _) rfl (fun K hK => ?_) ?_
 rotate_left
 ·exact AllReadyH.nil
 go_simp
 go_at_call 92
 refine (HSG.out _ (by (exact qAo HBW.out))).mono ?_
 rintro e w2 ⟨rfl, hb⟩
 replace HBW : qAc (Below W.heap.size W w2) := ⟨by (exact (qAo HBW.out).trans (hb.mono (qAo HBW.out).size))⟩
 replace k0 := (hb.cell (bl k0)).trans k0
 replace k1 := (hb.cell (bl k1)).trans k1
 replace k2 := (hb.cell (bl k2)).trans k2
 replace k3 := (hb.cell (bl k3)).trans k3
 replace k4 := (hb.cell (bl k4)).trans k4
 replace k5 := (hb.cell (bl k5)).trans k5
 clear hb hHeld
 go_wp2_with fail
 refine hK.out _ _ ⟨k0, k1, k2, k3, k4, k5⟩ (fun hHeld => ?_)
 clear hK K
 skip
 clear HSG
 cases bs with
 | false =>
  refine hT 8 ?_
  refine hT 9 ?_
  refine hT 10 ?_
  have hrr : q = (0, 51) := by have h := HRA.out; exact h.symm
  subst hrr
  refine hO 11 ?_
  refine hO 12 ?_
  refine hO 13 ?_
  refine hO 14 ?_
  refine hT 15 ?_
  refine hT 16 ?_
  refine hO 17 ?_
  refine hO 18 ?_
  refine hO 19 ?_
  refine hO 20 ?_
  refine hO 21 ?_
  refine hO 22 ?_
  refine hO 23 ?_
  refine hO 24 ?_
  refine hT 25 ?_
  refine hT 26 ?_
  refine hO 27 ?_
  refine hO 28 ?_
  refine hO 29 ?_
  refine hO 30 ?_
  refine hO 31 ?_
  refine hO 32 ?_
  refine hO 33 ?_
  refine hO 34 ?_
  refine hO 35 ?_
  refine hO 36 ?_
  refine hO 37 ?_
  refine hO 38 ?_
  refine hT 39 ?_
  refine hT 40 ?_
  refine hO 41 ?_
  refine hO 42 ?_
  refine hO 43 ?_
  refine hO 44 ?_
  refine hT 45 ?_
  refine wpAnyH_done (by kernel_rfl) ?_ _
  refine NoPanic.normal ?_
  go_wp2_with fail
  go_ret2
  exact ⟨rfl, HBW.out⟩
 | true =>
 refine hT 8 ?_
 refine hT 9 ?_
 refine hT 10 ?_
 refine hT 11 ?_
 refine hT 12 ?_
 refine wpAnyH_ready (rs := [13]) (by kernel_rfl) (by simp) ?_
 refine AllReadyH.cons (o := _) rfl (fun K hK => ?_) ?_
 rotate_left
 ·exact AllReadyH.nil
 go_simp
 go_at_call 93
 refine (HVL.out _ (by (exact HBW.out))).mono ?_
 rintro e w2 ⟨rfl, hb⟩
 replace HBW : qAc (Below W.heap.size W w2) := ⟨by (exact HBW.out.trans (hb.mono HBW.out.size))⟩
 replace k0 := (hb.cell (bl k0)).trans k0
 replace k1 := (hb.cell (bl k1)).trans k1
 replace k2 := (hb.cell (bl k2)).trans k2
 replace k3 := (hb.cell (bl k3)).trans k3
 replace k4 := (hb.cell (bl k4)).trans k4
 replace k5 := (hb.cell (bl k5)).trans k5
 clear hb hHeld
 go_wp2_with fail
 refine hK.out _ _ ⟨k0, k1, k2, k3, k4, k5⟩ (fun hHeld => ?_)
 clear hK K
 skip
 clear HVL
 cases bw with
 | false =>
  refine hT 14 ?_
  refine hT 15 ?_
  refine hT 16 ?_
  have hrr : q = (0, 51) := by have h := HRA.out; exact h.symm
  subst hrr
  refine hO 17 ?_
  refine hO 18 ?_
  refine hO 19 ?_
  refine hO 20 ?_
  refine hO 21 ?_
  refine hO 22 ?_
  refine hO 23 ?_
  refine hO 24 ?_
  refine hT 25 ?_
  refine hT 26 ?_
  refine hO 27 ?_
  refine hO 28 ?_
  refine hO 29 ?_
  refine hO 30 ?_
  refine hO 31 ?_
  refine hO 32 ?_
  refine hO 33 ?_
  refine hO 34 ?_
  refine hO 35 ?_
  refine hO 36 ?_
  refine hO 37 ?_
  refine hO 38 ?_
  refine hT 39 ?_
  refine hT 40 ?_
  refine hO 41 ?_
  refine hO 42 ?_
  refine hO 43 ?_
  refine hO 44 ?_
  refine hT 45 ?_
  refine wpAnyH_done (by kernel_rfl) ?_ _
  refine NoPanic.normal ?_
  go_wp2_with fail
  go_ret2
  exact ⟨rfl, HBW.out⟩
 | true =>
 refine hT 14 ?_
 refine hT 15 ?_
 refine hT 16 ?_
 refine hT 17 ?_
 refine hT 18 ?_
 refine hT 19 ?_
 refine hT 20 ?_
 refine hT 21 ?_
 refine hT 22 ?_
 refine hT 23 ?_
 by_cases hlt : l1 < p1
 ·have hq2 : decide ((l1 : Int) < (p1 : Int)) = true := by simp; omega
  refine hT 24 ?_
  refine hT 25 ?_
  refine hT 26 ?_
  have hrr : q = (0, 51) := by have h := HRA.out; rw [decide_eq_false (show ¬ p1 ≤ l1 by omega)] at h; exact h.symm
  subst hrr
  refine hO 27 ?_
  refine hO 28 ?_
  refine hO 29 ?_
  refine hO 30 ?_
  refine hO 31 ?_
  refine hO 32 ?_
  refine hO 33 ?_
  refine hO 34 ?_
  refine hO 35 ?_
  refine hO 36 ?_
  refine hO 37 ?_
  refine hO 38 ?_
  refine hT 39 ?_
  refine hT 40 ?_
  refine hO 41 ?_
  refine hO 42 ?_
  refine hO 43 ?_
  refine hO 44 ?_
  refine hT 45 ?_
  refine wpAnyH_done (by kernel_rfl) ?_ _
  refine NoPanic.normal ?_
  go_wp2_with fail
  go_ret2
  exact ⟨rfl, HBW.out⟩
 have hq2 : decide ((l1 : Int) < (p1 : Int)) = false := by simp; omega
 have hle : p1 ≤ l1 := by omega
 have hp0 : (0 : Int) ≤ (p1 : Int) := by omega
 have hq3 : (p1 : Int) ≤ (c2 : Int) := by omega
 have hrB := HRA.out
 rw [decide_eq_true hle] at hrB
 replace HRA := am hrB
 clear hrB
 refine hT 24 ?_
 refine hT 25 ?_
 refine hT 26 ?_
 refine hT 27 ?_
 refine hT 28 ?_
 refine hT 29 ?_
 refine hT 30 ?_
 refine hT 31 ?_
 refine hT 32 ?_
 refine hT 33 ?_
 refine hT 34 ?_
 refine hT 35 ?_
 refine hT 36 ?_
 refine wpAnyH_ready (rs := [37]) (by kernel_rfl) (by simp) ?_
 refine AllReadyH.cons (o := _) rfl (fun K hK => ?_) ?_
 rotate_left
 ·exact AllReadyH.nil
 go_simp
 go_at_call 29
 refine (HIN.out hle _ (by (exact HBW.out))).mono ?_
 rintro e w2 ⟨rfl, hb⟩
 replace HBW : qAc (Below W.heap.size W w2) := ⟨by (exact HBW.out.trans (hb.mono HBW.out.size))⟩
 replace k0 := (hb.cell (bl k0)).trans k0
 replace k1 := (hb.cell (bl k1)).trans k1
 replace k2 := (hb.cell (bl k2)).trans k2
 replace k3 := (hb.cell (bl k3)).trans k3
 replace k4 := (hb.cell (bl k4)).trans k4
 replace k5 := (hb.cell (bl k5)).trans k5
 clear hb hHeld
 go_wp2_with fail
 refine hK.out _ _ ⟨k0, k1, k2, k3, k4, k5⟩ (fun hHeld => ?_)
 clear hK K
 skip
 clear HIN
 cases bi with
 | false =>
  refine hT 38 ?_
  refine hT 39 ?_
  refine hT 40 ?_
  have hrr : q = (0, 51) := by have h := HRA.out; exact h.symm
  subst hrr
  refine hO 41 ?_
  refine hO 42 ?_
  refine hO 43 ?_
  refine hO 44 ?_
  refine hT 45 ?_
  refine wpAnyH_done (by kernel_rfl) ?_ _
  refine NoPanic.normal ?_
  go_wp2_with fail
  go_ret2
  exact ⟨rfl, HBW.out⟩
 | true =>
 refine hT 38 ?_
 refine hT 39 ?_
 refine hT 40 ?_
 refine hT 41 ?_
 refine hT 42 ?_
 refine wpAnyH_ready (rs := [43]) (by kernel_rfl) (by simp) ?_
 refine AllReadyH.cons (o := _) rfl (fun K hK => ?_) ?_
 rotate_left
 ·exact AllReadyH.nil
 go_simp
 go_at_call 93
 refine (HVV.out _ (by (exact HBW.out))).mono ?_
 rintro e w2 ⟨rfl, hb⟩
 replace HBW : qAc (Below W.heap.size W w2) := ⟨by (exact HBW.out.trans (hb.mono HBW.out.size))⟩
 replace k0 := (hb.cell (bl k0)).trans k0
 replace k1 := (hb.cell (bl k1)).trans k1
 replace k2 := (hb.cell (bl k2)).trans k2
 replace k3 := (hb.cell (bl k3)).trans k3
 replace k4 := (hb.cell (bl k4)).trans k4
 replace k5 := (hb.cell (bl k5)).trans k5
 clear hb hHeld
 go_wp2_with fail
 refine hK.out _ _ ⟨k0, k1, k2, k3, k4, k5⟩ (fun hHeld => ?_)
 clear hK K
 skip
 clear HVV
 cases bv with
 | false =>
  refine hT 44 ?_
  refine hT 45 ?_
  have hrr : q = (0, 51) := by have h := HRA.out; exact h.symm
  subst hrr
  refine wpAnyH_done (by kernel_rfl) ?_ _
  refine NoPanic.normal ?_
  go_wp2_with fail
  go_ret2
  exact ⟨rfl, HBW.out⟩
 | true =>
 refine hT 44 ?_
 refine hT 45 ?_
 refine wpAnyH_done (by kernel_rfl) ?_ _
 refine NoPanic.normal ?_
 go_wp2_with fail
 have hrB := HRA.out
 simp only [Bool.true_and, Bool.and_self] at hrB
 replace HRA : qAc ((if fs.all sgB = true then insB code else (0, 51)) = q) := ⟨hrB⟩
 clear hrB hHeld hp0 hq1 hq2 hq3 hz1 hz2 hz3 k0 k1 k2 k5
 go_loopg [6] f1 (fun gg s6 wr => ∃ (kk : Nat), kk ≤ f1 ∧ f1 - kk ≤ gg ∧ s6 = .int .i64 kk ∧ wr.cell? ⟨W.heap.size, 3, none⟩ = some (.slice A3 n3 c3) ∧ wr.cell? ⟨W.heap.size + 1, 0, none⟩ = some (.slice A4 f1 c4) ∧ qAc (Below W.heap.size W wr) ∧ qAc (∀ (j : Nat) x, j < kk → fs[j]? = some x → sgB x = true))
 case atStart => exact ⟨0, Nat.zero_le _, by omega, rfl, k3, k4, HBW, ⟨fun j x hj => absurd hj (Nat.not_lt_zero _)⟩⟩
 case round =>
  obtain ⟨kk, hkk, hg, rfl, e3, e4, HB, HA⟩ := hrel
  clear k3 k4
  by_cases hlt2 : kk < f1
  ·have hltz : (kk : Int) < (f1 : Int) := by omega
   have h0 : (0 : Int) ≤ (kk : Int) := by omega
   obtain ⟨ad, D, d, ea, x0, x1, xl, xC⟩ := at_T24 (Kd.F_now (Kd.F_below HF.out HB.out)) (kk : Int) h0 (by rw [← HFF.out]; exact hltz)
   subst ea
   have hx : fs[kk]? = some (qAH fs (kk : Int)) := rd_getR fs z24 kk (by have := HFF.out; omega)
   obtain ⟨x, hxe⟩ : ∃ x, x = qAH fs (kk : Int) := ⟨_, rfl⟩
   rw [← hxe] at x0 x1 xl xC hx
   rw [Int.toNat_natCast] at x0 x1
   have hs := rsig_any D d x.f0 x.f1 wr xC xl (HFS.out x (List.mem_of_getElem? hx))
   obtain ⟨m0, hm0⟩ := eX x.f0.length
   obtain ⟨rt, hrt⟩ := eX x.f1
   obtain ⟨rb, hrb⟩ := eX (sgB x)
   rw [show (x.f0.all okT && resT x.f1) = rb from hrb.symm, ← hrt, ← hm0] at hs
   rw [← hrt] at x1
   rw [← hm0] at x0
   have HS := am hs
   have HX := am hx
   have HRB := am hrb
   clear hs hx hxe hrb hrt hm0 xl xC
   cases rb with
   | false =>
    have hrr : q = (0, 51) := by
     have h := HRA.out
     rw [if_neg (by intro h2; have h3 := List.all_eq_true.1 h2 x (List.mem_of_getElem? HX.out); rw [← HRB.out] at h3; cases h3)] at h
     exact h.symm
    subst hrr
    go_wp2_with (go_at_call 92; refine HS.out.mono ?_; rintro e w2 ⟨rfl, hb⟩; replace HB : qAc (Below W.heap.size W w2) := ⟨HB.out.trans (hb.mono HB.out.size)⟩; clear hb)
    go_ret2
    exact ⟨rfl, HB.out⟩
   | true =>
    go_wp2_with (go_at_call 92; refine HS.out.mono ?_; rintro e w2 ⟨rfl, hb⟩; replace HB : qAc (Below W.heap.size W w2) := ⟨HB.out.trans (hb.mono HB.out.size)⟩; replace e3 := (hb.cell (bl e3)).trans e3; replace e4 := (hb.cell (bl e4)).trans e4; clear hb x0 x1)
    go_roundg (f1 - (kk + 1))
    case measure => omega
    case rel =>
     refine ⟨kk + 1, by omega, by omega, by go_num, e3, e4, HB, ⟨fun j u hj hu => ?_⟩⟩
     by_cases e : j = kk
     rotate_left
     ·exact HA.out j u (by omega) hu
     subst e
     rw [HX.out] at hu
     injection hu with hu; subst hu
     exact HRB.out.symm
  have e0 : f1 = kk := by omega
  subst e0
  have hnot : ¬ (f1 : Int) < (f1 : Int) := by omega
  have hrC := HRA.out
  rw [if_pos (List.all_eq_true.2 fun x hx => by obtain ⟨j, hj, e⟩ := List.getElem_of_mem hx; exact HA.out j x (by rw [HFF.out]; exact hj) (by rw [List.getElem?_eq_getElem hj, e]))] at hrC
  have HRC := am hrC
  clear hrC HRA HA
  go_wp2_with fail
  clear e4
  go_loopg [7] n3 (fun gg s7 wr => ∃ (kk : Nat), kk ≤ n3 ∧ n3 - kk ≤ gg ∧ s7 = .int .i64 kk ∧ wr.cell? ⟨W.heap.size, 3, none⟩ = some (.slice A3 n3 c3) ∧ qAc (Below W.heap.size W wr) ∧ qAc (∀ (j : Nat) x, j < kk → code[j]? = some x → okS (insP x) = true))
  case atStart => exact ⟨0, Nat.zero_le _, by omega, rfl, e3, HB, ⟨fun j x hj => absurd hj (Nat.not_lt_zero _)⟩⟩
  case round =>
   clear e3 HB
   obtain ⟨kk, hkk, hg, rfl, e3, HB, HA⟩ := hrel
   by_cases hlt2 : kk < n3
   rotate_left
   ·have e0 : n3 = kk := by omega
    subst e0
    have hnot2 : ¬ (n3 : Int) < (n3 : Int) := by omega
    have hrr : q = (0, 0) := HRC.out.symm.trans (insB_all code (fun i x hi hx => HA.out i x (by rw [HNN.out]; exact hi) hx))
    subst hrr
    go_wp2_with fail
    go_ret2
    exact ⟨rfl, HB.out⟩
   have hltz : (kk : Int) < (n3 : Int) := by omega
   have h0 : (0 : Int) ≤ (kk : Int) := by omega
   obtain ⟨ad, ea, x0, x1, x2, x3⟩ := at_T50 (Kd.F_now (Kd.F_below HC.out HB.out)) (kk : Int) h0 (by rw [← HNN.out]; exact hltz)
   subst ea
   have hx : code[kk]? = some (qA7 code (kk : Int)) := rd_getR code z50 kk (by have := HNN.out; omega)
   obtain ⟨x, hxe⟩ : ∃ x, x = qA7 code (kk : Int) := ⟨_, rfl⟩
   rw [← hxe] at x0 x1 x2 x3 hx
   rw [Int.toNat_natCast] at x0 x1 x2 x3
   obtain ⟨y0, y1, y2, y3⟩ := x
   have hs := fun w => RIns.rright_ins y0 y1 y2 y3 (HU.out _ (List.mem_of_getElem? hx)) w
   simp only at x0 x1 x2 x3
   obtain ⟨rb, hrb⟩ := eX (okI y0 y1 y2 y3)
   rw [← hrb] at hs
   have HS := am hs
   have HX := am hx
   have HRB := am hrb
   clear hs hx hxe hrb
   cases rb with
   | false =>
    have hrr : q = ((kk : Int), 51) := HRC.out.symm.trans (insB_bad code kk _ HA.out HX.out HRB.out.symm)
    subst hrr
    go_wp2_with (go_at_call 23; refine (HS.out _).mono ?_; rintro e w2 ⟨rfl, hb⟩; replace HB : qAc (Below W.heap.size W w2) := ⟨HB.out.trans (hb.mono HB.out.size)⟩; clear hb)
    go_ret2
    exact ⟨rfl, HB.out⟩
   | true =>
    go_wp2_with (go_at_call 23; refine (HS.out _).mono ?_; rintro e w2 ⟨rfl, hb⟩; replace HB : qAc (Below W.heap.size W w2) := ⟨HB.out.trans (hb.mono HB.out.size)⟩; replace e3 := (hb.cell (bl e3)).trans e3; clear hb x0 x1 x2 x3)
    go_roundg (n3 - (kk + 1))
    case measure => omega
    case rel =>
     refine ⟨kk + 1, by omega, by omega, by go_num, e3, HB, ⟨fun j u hj hu => ?_⟩⟩
     by_cases e : j = kk
     rotate_left
     ·exact HA.out j u (by omega) hu
     subst e
     rw [HX.out] at hu
     injection hu with hu; subst hu
     exact HRB.out.symm
theorem good_iff (ps : List Int) (res : Int) (ls : List Int) (n : Nat) (fs : List S24) (vs : List Int) : (goodH ps res ls n vs && fs.all sgB) = true ↔ (¬ (n = 0 ∨ ls.length < ps.length ∨ ps ≠ ls.take ps.length ∨ resT res = false)) ∧ ¬ (((fs.map sgP).any fun s => !resT s.f1) = true) ∧ ¬ (((ls ++ vs ++ (fs.map sgP).flatMap S34.f0).any fun t => !okT t) = true) := by
 have hB : ¬ (((fs.map sgP).any fun s => !resT s.f1) = true) ↔ ∀ s ∈ fs, resT s.f1 = true := by
  simp [List.any_eq_true, sgP]
 have hC : ¬ (((ls ++ vs ++ (fs.map sgP).flatMap S34.f0).any fun t => !okT t) = true) ↔ (∀ t ∈ ls, okT t = true) ∧ (∀ t ∈ vs, okT t = true) ∧ ∀ s ∈ fs, ∀ t ∈ s.f0, okT t = true := by
  simp only [Bool.not_eq_true, List.any_eq_false, List.mem_append, List.mem_flatMap, List.mem_map]
  constructor
  ·intro h
   refine ⟨fun t ht => ?_, fun t ht => ?_, fun s hs t ht => ?_⟩
   ·simpa using h t (Or.inl (Or.inl ht))
   ·simpa using h t (Or.inl (Or.inr ht))
   simpa using h t (Or.inr ⟨sgP s, ⟨s, hs, rfl⟩, ht⟩)
  rintro ⟨h1, h2, h3⟩ t ((ht | ht) | ⟨_, ⟨s, hs, rfl⟩, ht⟩)
  ·simp [h1 t ht]
  ·simp [h2 t ht]
  simp [h3 s hs t ht]
 have hG : (goodH ps res ls n vs && fs.all sgB) = true ↔ (0 < n ∧ ((∀ t ∈ ps, okT t = true) ∧ resT res = true) ∧ (∀ t ∈ ls, okT t = true) ∧ ps.length ≤ ls.length ∧ ls.take ps.length = ps ∧ (∀ t ∈ vs, okT t = true)) ∧ ∀ s ∈ fs, (∀ t ∈ s.f0, okT t = true) ∧ resT s.f1 = true := by
  simp only [goodH, sgB, Bool.and_eq_true, decide_eq_true_eq, List.all_eq_true, beq_iff_eq]
 rw [hG, hB, hC]
 constructor
 ·rintro ⟨⟨h1, ⟨h2, h3⟩, h4, h5, h6, h7⟩, h8⟩
  refine ⟨?_, fun s hs => (h8 s hs).2, h4, h7, fun s hs => (h8 s hs).1⟩
  rintro (h | h | h | h)
  ·omega
  ·omega
  ·exact h h6.symm
  rw [h3] at h; exact absurd h (by decide)
 rintro ⟨h1, h2, h3, h4, h5⟩
 have h6 : ps = ls.take ps.length := Classical.byContradiction fun h => h1 (Or.inr (Or.inr (Or.inl h)))
 refine ⟨⟨?_, ⟨fun t ht => h3 t ?_, ?_⟩, h3, ?_, h6.symm, h4⟩, fun s hs => ⟨h5 s hs, h2 s hs⟩⟩
 ·exact Nat.pos_of_ne_zero fun h => h1 (Or.inl h)
 ·rw [h6] at ht; exact List.mem_of_mem_take ht
 ·cases h : resT res with
  | true => rfl
  | false => exact absurd (Or.inr (Or.inr (Or.inr h))) h1
 exact Nat.le_of_not_lt fun h => h1 (Or.inr (Or.inl h))
theorem head_sound (ps : List Int) (res : Int) (ls : List Int) (code : List S50) (fs : List S24) (vs : List Int) : (if 8 < ps.length ∨ 64 < ls.length ∨ 4096 < code.length then ((0 : Int), (3 : Int)) else if (goodH ps res ls code.length vs && fs.all sgB) = true then insB code else (0, 51)) = (if qBl ps res ls code.length (fs.map sgP) vs = 0 then insB code else (0, qBl ps res ls code.length (fs.map sgP) vs)) := by
 have hg := good_iff ps res ls code.length fs vs
 have e : (if 8 < ps.length ∨ 64 < ls.length ∨ 4096 < code.length then ((0 : Int), (3 : Int)) else if (goodH ps res ls code.length vs && fs.all sgB) = true then insB code else (0, 51)) = (if qBl ps res ls code.length (fs.map sgP) vs = 0 then insB code else (0, qBl ps res ls code.length (fs.map sgP) vs)) := by
  unfold qBl
  by_cases h1 : 8 < ps.length ∨ 64 < ls.length ∨ 4096 < code.length
  ·rw [if_pos h1, if_pos h1, if_neg (by decide)]
  rw [if_neg h1, if_neg h1]
  by_cases h2 : (goodH ps res ls code.length vs && fs.all sgB) = true
  ·obtain ⟨a, b, c⟩ := hg.1 h2
   rw [if_pos h2, if_neg a, if_neg b, if_neg c, if_pos rfl]
  rw [if_neg h2]
  by_cases a : (code.length = 0 ∨ ls.length < ps.length ∨ ps ≠ ls.take ps.length ∨ resT res = false)
  ·rw [if_pos a, if_neg (by decide)]
  rw [if_neg a]
  by_cases b : ((fs.map sgP).any fun s => !resT s.f1) = true
  ·rw [if_pos b, if_neg (by decide)]
  rw [if_neg b]
  by_cases c : ((ls ++ vs ++ (fs.map sgP).flatMap S34.f0).any fun t => !okT t) = true
  ·rw [if_pos c, if_neg (by decide)]
  exact absurd (hg.2 ⟨a, b, c⟩) h2
 exact e
end RV
namespace RV
def opP (y : S200) : S160 := ⟨y.f0, y.f1⟩
def oneP (m : Bool) (s : S117) : S113 := ⟨m, s.f0, s.f1.map opP⟩
def outP (met : List Bool) (shs : List S117) : List S113 := List.zipWith oneP met shs
theorem opP_inj {x y : S200} (h : opP x = opP y) : x = y := by
 cases x; cases y
 injection h with h1 h2
 subst h1; subst h2; rfl
theorem opP_map : ∀ {a b : List S200}, a.map opP = b.map opP → a = b
 | [], [], _ => rfl
 | [], _ :: _, h => by simp at h
 | _ :: _, [], h => by simp at h
 | x :: a, y :: b, h => by
  rw [List.map_cons, List.map_cons] at h
  injection h with h1 h2
  rw [opP_inj h1, opP_map h2]
theorem oneP_inj {m : Bool} {x y : S117} (h : oneP m x = oneP m y) : x = y := by
 cases x; cases y
 injection h with h1 h2 h3
 have h4 := opP_map h3
 subst h2; subst h4; rfl
theorem outP_len {met : List Bool} {shs : List S117} (h : met.length = shs.length) : (outP met shs).length = met.length := by
 unfold outP; rw [List.length_zipWith]; omega
theorem outP_set {met : List Bool} {shs : List S117} (h : met.length = shs.length) (i : Nat) (x : S117) : outP (met.set i true) (shs.set i x) = (outP met shs).set i (oneP true x) := by
 unfold outP
 refine List.ext_getElem (by simp) fun j h1 h2 => ?_
 simp only [List.getElem_zipWith, List.getElem_set]
 split <;> rfl
theorem qCb (t : Int) (st : List Int) : qAO st [t] = qBa t st := by
 unfold qAO qBa
 rcases List.eq_nil_or_concat st with rfl | ⟨l, a, rfl⟩
 ·rfl
 simp
theorem qDw {t : Int} {st : List Int} (h : qAO st [t] = true) : qAP st [t] = st.dropLast := by
 unfold qAP
 rw [if_pos h, List.dropLast_eq_take]; rfl
theorem next_eq : ∀ (k : Nat) (met : List Bool) (shs : List S117) (dn : List Bool), met.length = shs.length → qBQ k (outP met shs) dn = qCx k met dn
 | k, [], [], dn, _ => by cases dn <;> rfl
 | k, m :: ms, s :: ss, [], _ => rfl
 | k, m :: ms, s :: ss, d :: ds, h => by
  show qBQ k (oneP m s :: outP ms ss) (d :: ds) = _
  rw [qDr, nextR_cons, next_eq (k + 1) ms ss ds (by simpa using h)]; rfl
theorem rd_out {met : List Bool} {shs : List S117} (h : met.length = shs.length) {i : Int} (h0 : 0 ≤ i) (h1 : i < met.length) : qAl (outP met shs) i = oneP (rdOf false met i) (qA6 shs i) := by
 unfold qAl qA6 rdOf outP
 rw [List.getD_eq_getElem?_getD, List.getD_eq_getElem?_getD, List.getD_eq_getElem?_getD, List.getElem?_eq_getElem (by rw [List.length_zipWith]; omega), List.getElem?_eq_getElem (by omega), List.getElem?_eq_getElem (by omega)]
 simp
theorem qD8 {met : List Bool} {shs : List S117} (h : met.length = shs.length) {i : Int} (h0 : 0 ≤ i) (h1 : i < met.length) (x : S117) (ws : List S157) :
  qBp (outP met shs) (⟨i, oneP true x⟩ :: ws) = if (qAB met shs i x).1 = true then qBp (outP (qAB met shs i x).2.1 (qAB met shs i x).2.2) ws else (22, outP met shs) := by
 rw [qCv, rd_out h h0 h1]
 unfold qAB
 by_cases hm : rdOf false met i = true
 ·rw [if_pos (show (oneP (rdOf false met i) (qA6 shs i)).f0 = true from hm), if_pos hm]
  have e : ((oneP (rdOf false met i) (qA6 shs i)).f1 == (oneP true x).f1 && qBE (oneP (rdOf false met i) (qA6 shs i)).f2 (oneP true x).f2) = eqB (qA6 shs i) x := by
   refine (qD1 ?_).symm
   rw [Bool.and_eq_true, beq_iff_eq, qBU]
   constructor
   ·rintro ⟨e1, e2⟩
    exact oneP_inj (m := true) (by unfold oneP at e1 e2 ⊢; simp only at e1 e2; rw [e1, e2])
   intro e; rw [e]; exact ⟨rfl, rfl⟩
  rw [e]
 ·rw [if_neg (show ¬ (oneP (rdOf false met i) (qA6 shs i)).f0 = true from hm), if_neg hm, if_pos rfl, outP_set h]
  rfl
def qBf (i N : Int) (x : S138) : List S157 := (if x.f1 = true then [⟨i, oneP true x.f3⟩] else []) ++ (if x.f2 = true then [⟨N, oneP true x.f4⟩] else [])
theorem qBX {met : List Bool} {shs : List S117} {i : Int} {x : S117} : (qAB met shs i x).2.1.length = met.length ∧ (qAB met shs i x).2.2.length = shs.length := by
 unfold qAB
 split
 ·exact ⟨rfl, rfl⟩
 exact ⟨by simp, by simp⟩
theorem go_eq {met : List Bool} {shs : List S117} (h : met.length = shs.length) {i : Nat} {N : Int} (hN : 0 ≤ N) {x : S138} (h1 : x.f1 = true → (i : Int) + 1 < met.length) (h2 : x.f2 = true → N < met.length) :
  (qBp (outP met shs) (qBf ((i : Int) + 1) N x)).1 = (qCh i N x.f1 x.f2 x.f3 x.f4 met shs).1 ∧ ((qCh i N x.f1 x.f2 x.f3 x.f4 met shs).1 = 0 → (qBp (outP met shs) (qBf ((i : Int) + 1) N x)).2 = outP (qCh i N x.f1 x.f2 x.f3 x.f4 met shs).2.1 (qCh i N x.f1 x.f2 x.f3 x.f4 met shs).2.2) := by
 unfold qBf
 cases e1 : x.f1 with
 | false =>
  cases e2 : x.f2 with
  | false => rw [qDO]; exact ⟨rfl, fun _ => rfl⟩
  | true =>
   rw [qCW]
   show (qBp (outP met shs) [⟨N, oneP true x.f4⟩]).1 = _ ∧ (_ → (qBp (outP met shs) [⟨N, oneP true x.f4⟩]).2 = _)
   rw [qD8 h hN (h2 e2)]
   cases e : (qAB met shs N x.f4).1 with
   | false => exact ⟨rfl, fun hh => absurd (show (22 : Int) = 0 from hh) (by decide)⟩
   | true => exact ⟨rfl, fun _ => rfl⟩
 | true =>
  cases e2 : x.f2 with
  | false =>
   rw [qCX]
   show (qBp (outP met shs) [⟨(i : Int) + 1, oneP true x.f3⟩]).1 = _ ∧ (_ → (qBp (outP met shs) [⟨(i : Int) + 1, oneP true x.f3⟩]).2 = _)
   rw [qD8 h (by omega) (h1 e1)]
   cases e : (qAB met shs ((i : Int) + 1) x.f3).1 with
   | false => exact ⟨rfl, fun hh => absurd (show (22 : Int) = 0 from hh) (by decide)⟩
   | true => exact ⟨rfl, fun _ => rfl⟩
  | true =>
   rw [qC8]
   show (qBp (outP met shs) [⟨(i : Int) + 1, oneP true x.f3⟩, ⟨N, oneP true x.f4⟩]).1 = _ ∧ (_ → (qBp (outP met shs) [⟨(i : Int) + 1, oneP true x.f3⟩, ⟨N, oneP true x.f4⟩]).2 = _)
   rw [qD8 h (by omega) (h1 e1)]
   cases e : (qAB met shs ((i : Int) + 1) x.f3).1 with
   | false => exact ⟨rfl, fun hh => absurd (show (22 : Int) = 0 from hh) (by decide)⟩
   | true =>
    rw [if_pos rfl, if_neg (by decide)]
    have hl := qBX (met := met) (shs := shs) (i := (i : Int) + 1) (x := x.f3)
    rw [qD8 (by rw [hl.1, hl.2, h]) hN (by rw [hl.1]; exact h2 e2)]
    cases e' : (qAB (qAB met shs ((i : Int) + 1) x.f3).2.1 (qAB met shs ((i : Int) + 1) x.f3).2.2 N x.f4).1 with
    | false => exact ⟨rfl, fun hh => absurd (show (22 : Int) = 0 from hh) (by decide)⟩
    | true => exact ⟨rfl, fun _ => rfl⟩
theorem notes_eq {met : List Bool} {shs : List S117} (h : met.length = shs.length) {n i : Nat} {N : Int} (hn : n = met.length) (hN : 0 ≤ N) {x : S138} (hx : x.f0 = true) :
  (qB4 (outP met shs) (qBf ((i : Int) + 1) N x)).1 = (qB3 n i N x met shs).1 ∧ ((qB3 n i N x met shs).1 = 0 → (qB4 (outP met shs) (qBf ((i : Int) + 1) N x)).2 = outP (qB3 n i N x met shs).2.1 (qB3 n i N x met shs).2.2) := by
 have ho : (outP met shs).length = n := by rw [outP_len h, hn]
 by_cases hA : (x.f1 = true ∧ (n : Int) ≤ i + 1) ∨ (x.f2 = true ∧ (n : Int) ≤ N)
 ·rw [qDb (Or.inr hA)]
  unfold qB4 qBf
  rw [if_pos]
  ·exact ⟨rfl, fun hh => absurd (show (51 : Int) = 0 from hh) (by decide)⟩
  rw [List.any_eq_true, ho]
  rcases hA with ⟨a, b⟩ | ⟨a, b⟩
  ·exact ⟨⟨(i : Int) + 1, oneP true x.f3⟩, by rw [if_pos a]; simp, by simpa using b⟩
  ·exact ⟨⟨N, oneP true x.f4⟩, by rw [if_pos a]; simp, by simpa using b⟩
 ·have hR : ¬ (x.f0 = false ∨ (x.f1 = true ∧ (n : Int) ≤ i + 1) ∨ (x.f2 = true ∧ (n : Int) ≤ N)) := by
   rintro (e | e)
   ·rw [hx] at e; exact absurd e (by decide)
   exact hA e
  have hfar : ¬ (((qBf ((i : Int) + 1) N x).any fun w => decide (((outP met shs).length : Int) ≤ w.f0)) = true) := by
   rw [List.any_eq_true, ho]
   rintro ⟨w, hw, hb⟩
   have hb := dt hb
   unfold qBf at hw
   rcases List.mem_append.1 hw with hw | hw
   ·split at hw
    ·rename_i e; rw [List.mem_singleton.1 hw] at hb; exact hA (Or.inl ⟨e, hb⟩)
    cases hw
   split at hw
   ·rename_i e; rw [List.mem_singleton.1 hw] at hb; exact hA (Or.inr ⟨e, hb⟩)
   cases hw
  have hov : ∀ a, (decide (512 < (oneP true a).f1.length) || decide (32 < (oneP true a).f2.length)) = qCf a := fun a => by unfold qCf oneP; simp
  unfold qB4
  rw [if_neg hfar]
  by_cases hB : (x.f1 = true ∧ qCf x.f3 = true) ∨ (x.f2 = true ∧ qCf x.f4 = true)
  ·rw [roundR_3 hR hB, if_pos]
   ·exact ⟨rfl, fun hh => absurd (show (3 : Int) = 0 from hh) (by decide)⟩
   rw [List.any_eq_true]
   rcases hB with ⟨a, b⟩ | ⟨a, b⟩
   ·exact ⟨⟨(i : Int) + 1, oneP true x.f3⟩, by unfold qBf; rw [if_pos a]; simp, by rw [hov]; exact b⟩
   ·exact ⟨⟨N, oneP true x.f4⟩, by unfold qBf; rw [if_pos a]; simp, by rw [hov]; exact b⟩
  ·have hbig : ¬ (((qBf ((i : Int) + 1) N x).any fun w => decide (512 < w.f1.f1.length) || decide (32 < w.f1.f2.length)) = true) := by
    rw [List.any_eq_true]
    rintro ⟨w, hw, hb⟩
    unfold qBf at hw
    rcases List.mem_append.1 hw with hw | hw
    ·split at hw
     ·rename_i e; rw [List.mem_singleton.1 hw, hov] at hb; exact hB (Or.inl ⟨e, hb⟩)
     cases hw
    split at hw
    ·rename_i e; rw [List.mem_singleton.1 hw, hov] at hb; exact hB (Or.inr ⟨e, hb⟩)
    cases hw
   rw [qDU hR hB, if_neg hbig]
   exact go_eq h hN (fun e => by rw [← hn]; exact Int.lt_of_not_ge fun k => hA (Or.inl ⟨e, k⟩)) (fun e => by rw [← hn]; exact Int.lt_of_not_ge fun k => hA (Or.inr ⟨e, k⟩))
theorem taken_concat (l r : List Int) (a t : Int) : qAO (l ++ [a]) (r ++ [t]) = true ↔ a = t ∧ qAO l r = true := by
 unfold qAO
 rw [Bool.and_eq_true, Bool.and_eq_true, decide_eq_true_eq, decide_eq_true_eq, beq_iff_eq, beq_iff_eq, List.length_append, List.length_append]
 show r.length + 1 ≤ l.length + 1 ∧ List.drop (l.length + 1 - (r.length + 1)) (l ++ [a]) = r ++ [t] ↔ _
 rw [Nat.add_sub_add_right, List.drop_append_of_le_length (by omega)]
 constructor
 ·rintro ⟨h1, h2⟩
  have h3 := List.append_inj' h2 rfl
  exact ⟨by injection h3.2, by omega, h3.1⟩
 rintro ⟨rfl, h1, h2⟩
 exact ⟨by omega, by rw [h2]⟩
theorem takes_all : ∀ (ts st : List Int), ((qAs ts st).1 = true ↔ qAO st ts.reverse = true) ∧ ((qAs ts st).1 = true → (qAs ts st).2 = st.take (st.length - ts.length))
 | [], st => by
  refine ⟨by simp [qAs, qAO], fun _ => ?_⟩
  show st = st.take (st.length - 0)
  rw [Nat.sub_zero, List.take_length]
 | t :: ts, st => by
  rcases List.eq_nil_or_concat st with rfl | ⟨l, a, rfl⟩
  ·refine ⟨by simp [qAs, qAO, qBa], by simp [qAs, qBa]⟩
  have ih := takes_all ts l
  rw [List.concat_eq_append] at *
  rw [List.reverse_cons, taken_concat]
  have hb : qBa t (l ++ [a]) = (a == t) := by unfold qBa; simp
  simp only [qAs, hb, List.dropLast_concat]
  by_cases e : a = t
  rotate_left
  ·rw [if_neg (by simpa using e)]
   exact ⟨by simp [e], fun h => by cases h⟩
  rw [if_pos (by simpa using e)]
  refine ⟨by rw [ih.1]; simp [e], fun h => ?_⟩
  rw [ih.2 h, List.length_append]
  show _ = List.take (l.length + 1 - (ts.length + 1)) _
  rw [Nat.add_sub_add_right, List.take_append_of_le_length (by omega)]
theorem step_after_1 (ls vs : List Int) (fs : List S24) (res n : Int) (v : S48) (st : List Int) (tr : List S200) (i : Int) (hn : 0 ≤ n) :
  (qAy ls vs (fs.map sgP) res ⟨1, n, v⟩ i true st (tr.map opP)).1 = (qA8 ls vs fs res 1 n v.f0 st tr).f0 ∧ ((qA8 ls vs fs res 1 n v.f0 st tr).f0 = true → (qAy ls vs (fs.map sgP) res ⟨1, n, v⟩ i true st (tr.map opP)).2 = qBf (i + 1) n (qA8 ls vs fs res 1 n v.f0 st tr)) := by
 exact ⟨rfl, fun _ => rfl⟩
theorem step_after_2 (ls vs : List Int) (fs : List S24) (res n : Int) (v : S48) (st : List Int) (tr : List S200) (i : Int) (hn : 0 ≤ n) :
  (qAy ls vs (fs.map sgP) res ⟨2, n, v⟩ i true st (tr.map opP)).1 = (qA8 ls vs fs res 2 n v.f0 st tr).f0 ∧ ((qA8 ls vs fs res 2 n v.f0 st tr).f0 = true → (qAy ls vs (fs.map sgP) res ⟨2, n, v⟩ i true st (tr.map opP)).2 = qBf (i + 1) n (qA8 ls vs fs res 2 n v.f0 st tr)) := by
 by_cases h : n < (ls.length : Int)
 ·simp [qAy, qA8, qAJ, qBf, oneP, h, show ¬ ((ls.length : Int) ≤ n) by omega]
 ·simp [qAy, qA8, qAJ, qBf, qBF, h, show (ls.length : Int) ≤ n by omega]
theorem step_after_3 (ls vs : List Int) (fs : List S24) (res n : Int) (v : S48) (st : List Int) (tr : List S200) (i : Int) (hn : 0 ≤ n) :
  (qAy ls vs (fs.map sgP) res ⟨3, n, v⟩ i true st (tr.map opP)).1 = (qA8 ls vs fs res 3 n v.f0 st tr).f0 ∧ ((qA8 ls vs fs res 3 n v.f0 st tr).f0 = true → (qAy ls vs (fs.map sgP) res ⟨3, n, v⟩ i true st (tr.map opP)).2 = qBf (i + 1) n (qA8 ls vs fs res 3 n v.f0 st tr)) := by
 by_cases h : n < (ls.length : Int)
 ·have e := qDw (t := ls.getD n.toNat 0) (st := st)
  rw [qCb] at e
  simp only [qAy, qA8, qAJ, qBf, oneP, h, show ¬ ((ls.length : Int) ≤ n) by omega, qCb]
  exact ⟨rfl, fun hh => by rw [e hh]; rfl⟩
 ·simp [qAy, qA8, qAJ, qBf, qBF, h, show (ls.length : Int) ≤ n by omega]
theorem step_after_4 (ls vs : List Int) (fs : List S24) (res n : Int) (v : S48) (st : List Int) (tr : List S200) (i : Int) (hn : 0 ≤ n) :
  (qAy ls vs (fs.map sgP) res ⟨4, n, v⟩ i true st (tr.map opP)).1 = (qA8 ls vs fs res 4 n v.f0 st tr).f0 ∧ ((qA8 ls vs fs res 4 n v.f0 st tr).f0 = true → (qAy ls vs (fs.map sgP) res ⟨4, n, v⟩ i true st (tr.map opP)).2 = qBf (i + 1) n (qA8 ls vs fs res 4 n v.f0 st tr)) := by
 by_cases h : n < (vs.length : Int)
 ·simp [qAy, qA8, qAJ, qBf, oneP, h, show ¬ ((vs.length : Int) ≤ n) by omega]
 ·simp [qAy, qA8, qAJ, qBf, qBF, h, show (vs.length : Int) ≤ n by omega]
theorem step_after_5 (ls vs : List Int) (fs : List S24) (res n : Int) (v : S48) (st : List Int) (tr : List S200) (i : Int) (hn : 0 ≤ n) :
  (qAy ls vs (fs.map sgP) res ⟨5, n, v⟩ i true st (tr.map opP)).1 = (qA8 ls vs fs res 5 n v.f0 st tr).f0 ∧ ((qA8 ls vs fs res 5 n v.f0 st tr).f0 = true → (qAy ls vs (fs.map sgP) res ⟨5, n, v⟩ i true st (tr.map opP)).2 = qBf (i + 1) n (qA8 ls vs fs res 5 n v.f0 st tr)) := by
 by_cases h : n < (vs.length : Int)
 ·have e := qDw (t := vs.getD n.toNat 0) (st := st)
  rw [qCb] at e
  simp only [qAy, qA8, qAJ, qBf, oneP, h, show ¬ ((vs.length : Int) ≤ n) by omega, qCb]
  exact ⟨rfl, fun hh => by rw [e hh]; rfl⟩
 ·simp [qAy, qA8, qAJ, qBf, qBF, h, show (vs.length : Int) ≤ n by omega]
theorem step_after_8 (ls vs : List Int) (fs : List S24) (res n : Int) (v : S48) (st : List Int) (tr : List S200) (i : Int) (hn : 0 ≤ n) :
  (qAy ls vs (fs.map sgP) res ⟨8, n, v⟩ i true st (tr.map opP)).1 = (qA8 ls vs fs res 8 n v.f0 st tr).f0 ∧ ((qA8 ls vs fs res 8 n v.f0 st tr).f0 = true → (qAy ls vs (fs.map sgP) res ⟨8, n, v⟩ i true st (tr.map opP)).2 = qBf (i + 1) n (qA8 ls vs fs res 8 n v.f0 st tr)) := by
 exact ⟨rfl, fun _ => rfl⟩
theorem step_after_9 (ls vs : List Int) (fs : List S24) (res n : Int) (v : S48) (st : List Int) (tr : List S200) (i : Int) (hn : 0 ≤ n) :
  (qAy ls vs (fs.map sgP) res ⟨9, n, v⟩ i true st (tr.map opP)).1 = (qA8 ls vs fs res 9 n v.f0 st tr).f0 ∧ ((qA8 ls vs fs res 9 n v.f0 st tr).f0 = true → (qAy ls vs (fs.map sgP) res ⟨9, n, v⟩ i true st (tr.map opP)).2 = qBf (i + 1) n (qA8 ls vs fs res 9 n v.f0 st tr)) := by
 refine ⟨(qCb 3 st).symm, fun h => ?_⟩
 have e := qDw (t := 3) (st := st) h
 simp [qAy, qA8, qBf, oneP, e]
theorem step_after_11 (ls vs : List Int) (fs : List S24) (res n : Int) (v : S48) (st : List Int) (tr : List S200) (i : Int) (hn : 0 ≤ n) :
  (qAy ls vs (fs.map sgP) res ⟨11, n, v⟩ i true st (tr.map opP)).1 = (qA8 ls vs fs res 11 n v.f0 st tr).f0 ∧ ((qA8 ls vs fs res 11 n v.f0 st tr).f0 = true → (qAy ls vs (fs.map sgP) res ⟨11, n, v⟩ i true st (tr.map opP)).2 = qBf (i + 1) n (qA8 ls vs fs res 11 n v.f0 st tr)) := by
 by_cases hr : res = 0
 ·subst hr; exact ⟨rfl, fun _ => rfl⟩
 ·simp [qAy, qA8, qBf, hr, qCb]
theorem step_after_12 (ls vs : List Int) (fs : List S24) (res n : Int) (v : S48) (st : List Int) (tr : List S200) (i : Int) (hn : 0 ≤ n) :
  (qAy ls vs (fs.map sgP) res ⟨12, n, v⟩ i true st (tr.map opP)).1 = (qA8 ls vs fs res 12 n v.f0 st tr).f0 ∧ ((qA8 ls vs fs res 12 n v.f0 st tr).f0 = true → (qAy ls vs (fs.map sgP) res ⟨12, n, v⟩ i true st (tr.map opP)).2 = qBf (i + 1) n (qA8 ls vs fs res 12 n v.f0 st tr)) := by
 exact ⟨rfl, fun _ => rfl⟩
theorem step_after_13 (ls vs : List Int) (fs : List S24) (res n : Int) (v : S48) (st : List Int) (tr : List S200) (i : Int) (hn : 0 ≤ n) :
  (qAy ls vs (fs.map sgP) res ⟨13, n, v⟩ i true st (tr.map opP)).1 = (qA8 ls vs fs res 13 n v.f0 st tr).f0 ∧ ((qA8 ls vs fs res 13 n v.f0 st tr).f0 = true → (qAy ls vs (fs.map sgP) res ⟨13, n, v⟩ i true st (tr.map opP)).2 = qBf (i + 1) n (qA8 ls vs fs res 13 n v.f0 st tr)) := by
 refine ⟨(qCb 1 st).symm, fun _ => rfl⟩
theorem step_after_14 (ls vs : List Int) (fs : List S24) (res n : Int) (v : S48) (st : List Int) (tr : List S200) (i : Int) (hn : 0 ≤ n) :
  (qAy ls vs (fs.map sgP) res ⟨14, n, v⟩ i true st (tr.map opP)).1 = (qA8 ls vs fs res 14 n v.f0 st tr).f0 ∧ ((qA8 ls vs fs res 14 n v.f0 st tr).f0 = true → (qAy ls vs (fs.map sgP) res ⟨14, n, v⟩ i true st (tr.map opP)).2 = qBf (i + 1) n (qA8 ls vs fs res 14 n v.f0 st tr)) := by
 exact ⟨rfl, fun _ => rfl⟩
theorem step_after_15 (ls vs : List Int) (fs : List S24) (res n : Int) (v : S48) (st : List Int) (tr : List S200) (i : Int) (hn : 0 ≤ n) :
  (qAy ls vs (fs.map sgP) res ⟨15, n, v⟩ i true st (tr.map opP)).1 = (qA8 ls vs fs res 15 n v.f0 st tr).f0 ∧ ((qA8 ls vs fs res 15 n v.f0 st tr).f0 = true → (qAy ls vs (fs.map sgP) res ⟨15, n, v⟩ i true st (tr.map opP)).2 = qBf (i + 1) n (qA8 ls vs fs res 15 n v.f0 st tr)) := by
 refine ⟨rfl, fun _ => ?_⟩
 simp [qAy, qA8, qBf, oneP, opP]
theorem step_after_16 (ls vs : List Int) (fs : List S24) (res n : Int) (v : S48) (st : List Int) (tr : List S200) (i : Int) (hn : 0 ≤ n) :
  (qAy ls vs (fs.map sgP) res ⟨16, n, v⟩ i true st (tr.map opP)).1 = (qA8 ls vs fs res 16 n v.f0 st tr).f0 ∧ ((qA8 ls vs fs res 16 n v.f0 st tr).f0 = true → (qAy ls vs (fs.map sgP) res ⟨16, n, v⟩ i true st (tr.map opP)).2 = qBf (i + 1) n (qA8 ls vs fs res 16 n v.f0 st tr)) := by
 by_cases ht : tr = []
 ·subst ht; exact ⟨rfl, fun h => by cases h⟩
 ·simp [qAy, qA8, qBf, oneP, ht, List.map_dropLast]
theorem step_after_17 (ls vs : List Int) (fs : List S24) (res n : Int) (v : S48) (st : List Int) (tr : List S200) (i : Int) (hn : 0 ≤ n) :
  (qAy ls vs (fs.map sgP) res ⟨17, n, v⟩ i true st (tr.map opP)).1 = (qA8 ls vs fs res 17 n v.f0 st tr).f0 ∧ ((qA8 ls vs fs res 17 n v.f0 st tr).f0 = true → (qAy ls vs (fs.map sgP) res ⟨17, n, v⟩ i true st (tr.map opP)).2 = qBf (i + 1) n (qA8 ls vs fs res 17 n v.f0 st tr)) := by
 exact ⟨rfl, fun _ => rfl⟩
theorem step_after_6 (ls vs : List Int) (fs : List S24) (res n : Int) (v : S48) (st : List Int) (tr : List S200) (i : Int) (hn : 0 ≤ n) :
  (qAy ls vs (fs.map sgP) res ⟨6, n, v⟩ i true st (tr.map opP)).1 = (qA8 ls vs fs res 6 n v.f0 st tr).f0 ∧ ((qA8 ls vs fs res 6 n v.f0 st tr).f0 = true → (qAy ls vs (fs.map sgP) res ⟨6, n, v⟩ i true st (tr.map opP)).2 = qBf (i + 1) n (qA8 ls vs fs res 6 n v.f0 st tr)) := by
 simp only [qAy, qA8, qAJ, qDs]
 generalize st.getLast? = o
 cases o with
 | none => exact ⟨rfl, fun h => by cases h⟩
 | some a =>
  by_cases h2 : (Ty1.unary n a).2 = 0
  ·simp [h2, qBf, oneP]
  simp [h2, qBF]
theorem step_after_7 (ls vs : List Int) (fs : List S24) (res n : Int) (v : S48) (st : List Int) (tr : List S200) (i : Int) (hn : 0 ≤ n) :
  (qAy ls vs (fs.map sgP) res ⟨7, n, v⟩ i true st (tr.map opP)).1 = (qA8 ls vs fs res 7 n v.f0 st tr).f0 ∧ ((qA8 ls vs fs res 7 n v.f0 st tr).f0 = true → (qAy ls vs (fs.map sgP) res ⟨7, n, v⟩ i true st (tr.map opP)).2 = qBf (i + 1) n (qA8 ls vs fs res 7 n v.f0 st tr)) := by
 simp only [qAy, qA8, qAJ, qDs]
 generalize st.getLast? = o
 generalize st.dropLast.getLast? = o2
 cases o with
 | none => exact ⟨rfl, fun h => by cases h⟩
 | some a =>
  cases o2 with
  | none => exact ⟨rfl, fun h => by cases h⟩
  | some b =>
   by_cases h2 : (Ty2.binary n b a).2 = 0
   ·simp [h2, qBf, oneP]
   simp [h2, qBF]
theorem step_after_10 (ls vs : List Int) (fs : List S24) (res n : Int) (v : S48) (st : List Int) (tr : List S200) (i : Int) (hn : 0 ≤ n) :
  (qAy ls vs (fs.map sgP) res ⟨10, n, v⟩ i true st (tr.map opP)).1 = (qA8 ls vs fs res 10 n v.f0 st tr).f0 ∧ ((qA8 ls vs fs res 10 n v.f0 st tr).f0 = true → (qAy ls vs (fs.map sgP) res ⟨10, n, v⟩ i true st (tr.map opP)).2 = qBf (i + 1) n (qA8 ls vs fs res 10 n v.f0 st tr)) := by
 by_cases h : n < (fs.length : Int)
 ·have er : qBk (fs.map sgP) n = sgP (qAH fs n) := by
   unfold qBk qAH
   rw [List.getD_eq_getElem?_getD, List.getD_eq_getElem?_getD, List.getElem?_map, List.getElem?_eq_getElem (by omega)]; rfl
  have ht := takes_all (qAH fs n).f0.reverse st
  rw [List.reverse_reverse, List.length_reverse] at ht
  have e1 : qAJ ls vs (fs.map sgP) 10 n v.f0 st = qCT (qAH fs n).f0 (qAH fs n).f1 st := by
   simp [qAJ, h, er, sgP]
  simp only [qAy, qA8, e1, qCT]
  cases hb : (qAs (qAH fs n).f0.reverse st).1 with
  | false =>
   have hc : qAO st (qAH fs n).f0 = false := by
    cases hc : qAO st (qAH fs n).f0 with
    | false => rfl
    | true => rw [ht.1.2 hc] at hb; cases hb
   by_cases hr : (qAH fs n).f1 = 0 <;> simp [hr, hc, show ¬ ((fs.length : Int) ≤ n) by omega]
  | true =>
   have hc := ht.1.1 hb
   have hd := ht.2 hb
   by_cases hr : (qAH fs n).f1 = 0 <;> simp [hr, hc, hd, qAP, qBf, oneP, show ¬ ((fs.length : Int) ≤ n) by omega]
 ·simp [qAy, qA8, qAJ, qBf, qBF, h, show (fs.length : Int) ≤ n by omega]
theorem step_after (op : Int) (hop : 1 ≤ op ∧ op ≤ 17) (ls vs : List Int) (fs : List S24) (res n : Int) (v : S48) (st : List Int) (tr : List S200) (i : Int) (hn : 0 ≤ n) :
  (qAy ls vs (fs.map sgP) res ⟨op, n, v⟩ i true st (tr.map opP)).1 = (qA8 ls vs fs res op n v.f0 st tr).f0 ∧ ((qA8 ls vs fs res op n v.f0 st tr).f0 = true → (qAy ls vs (fs.map sgP) res ⟨op, n, v⟩ i true st (tr.map opP)).2 = qBf (i + 1) n (qA8 ls vs fs res op n v.f0 st tr)) := by
 have hcs : op = 1 ∨ op = 2 ∨ op = 3 ∨ op = 4 ∨ op = 5 ∨ op = 6 ∨ op = 7 ∨ op = 8 ∨ op = 9 ∨ op = 10 ∨ op = 11 ∨ op = 12 ∨ op = 13 ∨ op = 14 ∨ op = 15 ∨ op = 16 ∨ op = 17 := by omega
 rcases hcs with rfl | rfl | rfl | rfl | rfl | rfl | rfl | rfl | rfl | rfl | rfl | rfl | rfl | rfl | rfl | rfl | rfl
 ·exact step_after_1 ls vs fs res n v st tr i hn
 ·exact step_after_2 ls vs fs res n v st tr i hn
 ·exact step_after_3 ls vs fs res n v st tr i hn
 ·exact step_after_4 ls vs fs res n v st tr i hn
 ·exact step_after_5 ls vs fs res n v st tr i hn
 ·exact step_after_6 ls vs fs res n v st tr i hn
 ·exact step_after_7 ls vs fs res n v st tr i hn
 ·exact step_after_8 ls vs fs res n v st tr i hn
 ·exact step_after_9 ls vs fs res n v st tr i hn
 ·exact step_after_10 ls vs fs res n v st tr i hn
 ·exact step_after_11 ls vs fs res n v st tr i hn
 ·exact step_after_12 ls vs fs res n v st tr i hn
 ·exact step_after_13 ls vs fs res n v st tr i hn
 ·exact step_after_14 ls vs fs res n v st tr i hn
 ·exact step_after_15 ls vs fs res n v st tr i hn
 ·exact step_after_16 ls vs fs res n v st tr i hn
 ·exact step_after_17 ls vs fs res n v st tr i hn
theorem qDc {n i : Nat} {N : Int} {x : S138} {met : List Bool} {shs : List S117} : (qB3 n i N x met shs).2.1.length = met.length ∧ (qB3 n i N x met shs).2.2.length = shs.length := by
 by_cases hR : x.f0 = false ∨ (x.f1 = true ∧ (n : Int) ≤ i + 1) ∨ (x.f2 = true ∧ (n : Int) ≤ N)
 ·rw [qDb hR]; exact ⟨rfl, rfl⟩
 by_cases hB : (x.f1 = true ∧ qCf x.f3 = true) ∨ (x.f2 = true ∧ qCf x.f4 = true)
 ·rw [roundR_3 hR hB]; exact ⟨rfl, rfl⟩
 rw [qDU hR hB]
 cases x.f1 <;> cases x.f2
 ·rw [qDO]; exact ⟨rfl, rfl⟩
 ·rw [qCW]; split
  ·exact ⟨rfl, rfl⟩
  exact qBX
 ·rw [qCX]; split
  ·exact ⟨rfl, rfl⟩
  exact qBX
 rw [qC8]; split
 ·exact ⟨rfl, rfl⟩
 split
 ·exact ⟨rfl, rfl⟩
 exact ⟨qBX.1.trans qBX.1, qBX.2.trans qBX.2⟩
theorem nextR_lt {met dn : List Bool} {i : Nat} (h : qCx 0 met dn = some i) : i < met.length ∧ rdOf false met (i : Int) = true := by
 obtain ⟨_, h2, _⟩ := nextR_some 0 met dn i h
 rw [Nat.sub_zero] at h2
 have h3 : i < met.length := by
  by_cases e : i < met.length
  ·exact e
  rw [List.getElem?_eq_none (by omega)] at h2; cases h2
 exact ⟨h3, by unfold rdOf; rw [Int.toNat_natCast, List.getD_eq_getElem?_getD, h2]; rfl⟩
theorem loop_eq (ls vs : List Int) (fs : List S24) (res : Int) (code : List S50) (hc : ∀ x ∈ code, (1 ≤ x.f0 ∧ x.f0 ≤ 17) ∧ 0 ≤ x.f1) : ∀ (g : Nat) (met dn : List Bool) (shs : List S117), met.length = code.length → shs.length = code.length →
  qCe ls vs (fs.map sgP) res (code.map insP) g (outP met shs) dn = ((qCK ls vs fs res code g met dn shs).1.map fun p => outP p.1 p.2, (qCK ls vs fs res code g met dn shs).2.1, (qCK ls vs fs res code g met dn shs).2.2)
 | 0, met, dn, shs, hm, hs => rfl
 | g + 1, met, dn, shs, hm, hs => by
  unfold qCe qCK
  rw [next_eq 0 met shs dn (by omega)]
  cases hx : qCx 0 met dn with
  | none => rfl
  | some i =>
   obtain ⟨hi, hmi⟩ := nextR_lt hx
   have er : qAv (code.map insP) (i : Int) = insP (qA7 code (i : Int)) := by
    unfold qAv qA7
    rw [List.getD_eq_getElem?_getD, List.getD_eq_getElem?_getD, List.getElem?_map, List.getElem?_eq_getElem (by omega)]; rfl
   have hmem : qA7 code (i : Int) ∈ code := by
    unfold qA7
    rw [Int.toNat_natCast, List.getD_eq_getElem?_getD, List.getElem?_eq_getElem (by omega)]; exact List.getElem_mem _
   obtain ⟨hop, hn0⟩ := hc _ hmem
   have eo := rd_out (met := met) (shs := shs) (by omega) (i := (i : Int)) (by omega) (by omega)
   rw [hmi] at eo
   have hst := step_after (qA7 code (i : Int)).f0 hop ls vs fs res (qA7 code (i : Int)).f1 (qA7 code (i : Int)).f2 (qA6 shs (i : Int)).f0 (qA6 shs (i : Int)).f1 (i : Int) hn0
   obtain ⟨F, hF⟩ : ∃ F, F = qA8 ls vs fs res (qA7 code (i : Int)).f0 (qA7 code (i : Int)).f1 (qA7 code (i : Int)).f2.f0 (qA6 shs (i : Int)).f0 (qA6 shs (i : Int)).f1 := ⟨_, rfl⟩
   have ea : (⟨(qA7 code (i : Int)).f0, (qA7 code (i : Int)).f1, (qA7 code (i : Int)).f2⟩ : S51) = insP (qA7 code (i : Int)) := rfl
   rw [ea, ← hF] at hst
   simp only
   rw [er, eo, ← hF]
   show (if (qAy ls vs (fs.map sgP) res (insP (qA7 code (i : Int))) (i : Int) true (qA6 shs (i : Int)).f0 ((qA6 shs (i : Int)).f1.map opP)).1 = true then (if (qB4 (outP met shs) (qAy ls vs (fs.map sgP) res (insP (qA7 code (i : Int))) (i : Int) true (qA6 shs (i : Int)).f0 ((qA6 shs (i : Int)).f1.map opP)).2).1 = 0 then _ else _) else _) = _
   cases hf0 : F.f0 with
   | false =>
    rw [hf0] at hst
    rw [hst.1, if_neg (by decide), qDb (Or.inl hf0), if_neg (show ¬ ((51 : Int) = 0) by decide)]
    rfl
   | true =>
    rw [hf0] at hst
    have hne := notes_eq (met := met) (shs := shs) (by omega) (n := code.length) (i := i) (N := (qA7 code (i : Int)).f1) hm.symm hn0 hf0
    rw [hst.1, if_pos rfl, hst.2 rfl, hne.1]
    by_cases hz : (qB3 code.length i (qA7 code (i : Int)).f1 F met shs).1 = 0
    rotate_left
    ·rw [if_neg hz, if_neg hz, show (oneP true (qA6 shs (i : Int))).f1 = (qA6 shs (i : Int)).f0 from rfl, show (oneP true (qA6 shs (i : Int))).f2 = (qA6 shs (i : Int)).f1.map opP from rfl, hst.2 rfl, hne.1]
     rfl
    rw [if_pos hz, if_pos hz, show (oneP true (qA6 shs (i : Int))).f1 = (qA6 shs (i : Int)).f0 from rfl, show (oneP true (qA6 shs (i : Int))).f2 = (qA6 shs (i : Int)).f1.map opP from rfl, hst.2 rfl, hne.2 hz]
    exact loop_eq ls vs fs res code hc g _ _ _ (by rw [qDc.1, hm]) (by rw [qDc.2, hs])
theorem init_eq (n : Nat) : outP ((List.replicate n false).set 0 true) (List.replicate n z117) = qCJ n := by
 have h := outP_set (met := List.replicate n false) (shs := List.replicate n z117) (by simp) 0 z117
 rw [List.set_replicate_self] at h
 rw [h]
 unfold qCJ outP
 rw [List.zipWith_replicate]
 simp only [Nat.min_self]
 rfl
theorem found_eq (ps : List Int) (res : Int) (ls vs : List Int) (fs : List S24) (code : List S50) (hc : badS 0 (code.map insP) = none → ∀ x ∈ code, (1 ≤ x.f0 ∧ x.f0 ≤ 17) ∧ 0 ≤ x.f1) {p : Int × Int} (hp : p = if qBl ps res ls code.length (fs.map sgP) vs = 0 then insB code else (0, qBl ps res ls code.length (fs.map sgP) vs)) {R : FoundT}
  (hR : R = if p.2 = 0 then qCK ls vs fs res code (code.length + 1) ((List.replicate code.length false).set 0 true) (List.replicate code.length false) (List.replicate code.length z117) else (none, p.1, p.2)) :
  qAE ps res ls (code.map insP) (fs.map sgP) vs = (R.1.map fun q => outP q.1 q.2, R.2.1, R.2.2) := by
 unfold qAE
 rw [List.length_map]
 by_cases h0 : qBl ps res ls code.length (fs.map sgP) vs = 0
 ·rw [if_pos h0] at hp ⊢
  unfold insB at hp
  cases hb : badS 0 (code.map insP) with
  | some i =>
   rw [hb] at hp
   rw [hR, hp, if_neg (show ¬ ((51 : Int) = 0) by decide)]
   rfl
  | none =>
   rw [hb] at hp
   rw [hR, hp, if_pos rfl, ← init_eq]
   exact loop_eq ls vs fs res code (hc hb) (code.length + 1) _ _ _ (by simp) (by simp)
 ·rw [if_neg h0] at hp ⊢
  rw [hR, hp, if_neg h0]
  rfl
end RV
namespace RV
theorem okI_bounds {op n t b : Int} (h : okI op n t b = true) : (1 ≤ op ∧ op ≤ 17) ∧ 0 ≤ n := by
 unfold okI at h
 split at h
 ·cases h
 split at h
 ·rw [Bool.and_eq_true, beq_iff_eq] at h; omega
 split at h
 ·cases h
 omega
theorem bounds_of {code : List S50} (h : badS 0 (code.map insP) = none) : ∀ x ∈ code, (1 ≤ x.f0 ∧ x.f0 ≤ 17) ∧ 0 ≤ x.f1 := fun x hx => by
 have h1 := (One.badS_all 0 _).1 h (insP x) (List.mem_map_of_mem hx)
 exact okI_bounds h1
theorem soundS_len {ps ls vs : List Int} {res : Int} {n : Nat} {fs : List S34} (h : qBl ps res ls n fs vs = 0) : 0 < n ∧ n ≤ 4096 := by
 unfold qBl at h
 split at h
 ·cases h
 split at h
 ·cases h
 omega
theorem loopR_len (ls vs : List Int) (fs : List S24) (res : Int) (code : List S50) : ∀ (g : Nat) (met dn : List Bool) (shs : List S117) (m : List Bool) (s : List S117), (qCK ls vs fs res code g met dn shs).1 = some (m, s) → m.length = met.length ∧ s.length = shs.length
 | 0, met, dn, shs, m, s, h => by cases h
 | g + 1, met, dn, shs, m, s, h => by
  unfold qCK at h
  cases hx : qCx 0 met dn with
  | none =>
   rw [hx] at h
   obtain ⟨rfl, rfl⟩ := Prod.mk.inj (Option.some.inj h)
   exact ⟨rfl, rfl⟩
  | some i =>
   rw [hx] at h
   simp only at h
   split at h
   ·obtain ⟨h1, h2⟩ := loopR_len ls vs fs res code g _ _ _ m s h
    exact ⟨h1.trans qDc.1, h2.trans qDc.2⟩
   cases h
theorem found_shapes2 {W : World} (A1 A2 A3 A4 A5 : Option Addr) (c1 c2 c3 c4 c5 : Nat) (res : Int) {ps ls vs : List Int} {fs : List S24} {code : List S50} {okF : Nat → Prop} (hP : Kd.F (Kd.int .i64) W okF A1 ps.length ps) (hL : Kd.F (Kd.int .i64) W okF A2 ls.length ls) (hC : Kd.F k50 W okF A3 code.length code) (hF : Kd.F k24 W okF A4 fs.length fs) (hV : Kd.F (Kd.int .i64) W okF A5 vs.length vs) (hc1 : ps.length ≤ c1) (hc2 : ls.length ≤ c2) (hc3 : code.length ≤ c3) (hc4 : fs.length ≤ c4) (hc5 : vs.length ≤ c5)
  (hp1 : ps.length ≤ 2000000) (hl1 : ls.length ≤ 2000000) (hv1 : vs.length ≤ 2000000) (hf1 : fs.length ≤ 2000000) (hn3 : code.length ≤ 2000000) (hfs : ∀ x ∈ fs, x.f0.length ≤ 2000000) (hu : ∀ x ∈ code, 0 ≤ x.f2.f1 ∧ x.f2.f1 < 18446744073709551616) :
  ∃ R : FoundT, qAE ps res ls (code.map insP) (fs.map sgP) vs = (R.1.map (fun q => outP q.1 q.2), R.2.1, R.2.2) ∧ (∀ m s, R.1 = some (m, s) → m.length = code.length ∧ s.length = code.length) ∧ Calls Tryz.prog 43 #[.agg #[.slice A1 ps.length c1, .int .i64 res, .slice A2 ls.length c2, .slice A3 code.length c3], .agg #[.slice A4 fs.length c4, .slice A5 vs.length c5]] W (FoPost R W) := by
 obtain ⟨p, hp⟩ := eX (if qBl ps res ls code.length (fs.map sgP) vs = 0 then insB code else (0, qBl ps res ls code.length (fs.map sgP) vs))
 refine ⟨_, found_eq ps res ls vs fs code bounds_of hp rfl, fun m s h => ?_, ?_⟩
 ·split at h
  ·obtain ⟨h1, h2⟩ := loopR_len ls vs fs res code _ _ _ _ m s h
   exact ⟨by rw [h1, List.length_set, List.length_replicate], by rw [h2, List.length_replicate]⟩
  ·cases h
 refine found_any A1 A2 A3 A4 A5 c1 c2 c3 c4 c5 res hP hL hC hF hV hc1 hc2 hc3 hc4 hc5 hp1 hl1 hv1 hf1 hn3 hfs p.1 p.2 ?_ ?_
 ·intro W1 hB
  exact head_any A1 A2 A3 A4 A5 c1 c2 c3 c4 c5 res (Kd.F_below hP hB) (Kd.F_below hL hB) (Kd.F_below hC hB) (Kd.F_below hF hB) (Kd.F_below hV hB) hc1 hc2 hc5 hp1 hl1 hv1 hf1 hn3 hfs hu p ((head_sound ps res ls code fs vs).trans hp.symm)
 ·intro he
  by_cases h0 : qBl ps res ls code.length (fs.map sgP) vs = 0
  ·rw [if_pos h0] at hp
   unfold insB at hp
   cases hb : badS 0 (code.map insP) with
   | some i => rw [hb] at hp; rw [hp] at he; cases he
   | none =>
    refine ⟨(soundS_len h0).1, (soundS_len h0).2, fun x hx => ?_⟩
    have h1 := bounds_of hb x hx
    exact ⟨h1.1.1, h1.1.2, h1.2⟩
  ·rw [if_neg h0] at hp
   rw [hp] at he
   exact absurd he h0
end RV
def u64R (x : S50) : Bool := decide (0 ≤ x.f2.f1 ∧ x.f2.f1 < 18446744073709551616)
def vfSz (ps ls : List Int) (code : List S50) (fs : List S24) (vs : List Int) : Bool := decide (ps.length ≤ 2000000) && (decide (ls.length ≤ 2000000) && (decide (code.length ≤ 2000000) && (decide (fs.length ≤ 2000000) && (decide (vs.length ≤ 2000000) && (code.all u64R && fs.all fun s => decide (s.f0.length ≤ 2000000))))))
theorem heapSigR : Kd.Heap k24 := Kd.heap_iso _ (Kd.heap_pair (Kd.heap_slice _ (Kd.heap_int _)) (Kd.heap_int _))
theorem heapInsR : Kd.Heap k50 := Kd.heap_iso _ (Kd.heap_pair (Kd.heap_int _) (Kd.heap_pair (Kd.heap_int _) (Kd.heap_iso _ (Kd.heap_pair (Kd.heap_int _) (Kd.heap_int _)))))
end Q
end
end Go.Proofs.YtfddibbignedkaaGreatDoor
