/- object.Unpack of any bytes, where the law ObjectBytes asks: bytes that are read are written again as they were; bytes that are cut or longer are none. Part 2 of 8. -/
import Derived.Test.YtfjpnjbinbhcfaaB1
import Derived.Laws.BitsAllLaws
import Derived.Deep.QuietTactic
import Derived.BigQuiet
import Derived.Laws.Tables
import Derived.Laws.Rows
import Derived.Deep.RegionHeld3
set_option maxHeartbeats 8000000
set_option maxRecDepth 100000
set_option linter.unusedVariables false
set_option linter.unusedSimpArgs false
namespace Go.Proofs.Ytfjpnjbinbhcfaa
section
namespace Val
open Go.RowKit Base
def nanB (a : Int) : Bool := decide (9218868437227405312 < a % 9223372036854775808)
def canon (a : Int) : Int := if nanB a = true then 9221120237041090561 else a
def okV (t b : Int) : Bool := if t = 1 then true else if t = 2 then canon b == b else if t = 3 then decide (b < 2) else false
theorem canon_nan {a : Int} (h : nanB a = true) : canon a = 9221120237041090561 := by unfold canon; rw [if_pos h]
theorem canon_not {a : Int} (h : nanB a = false) : canon a = a := by unfold canon; rw [if_neg (by simp [h])]
def U64 (a : Int) : Prop := 0 ≤ a ∧ a < 18446744073709551616
theorem andNot_sign (a : Int) (h : U64 a) : bits .andNot .u64 a 9223372036854775808 = a % 9223372036854775808 := by
 obtain ⟨n, rfl⟩ := Int.eq_ofNat_of_zero_le h.1
 have hn : n < 18446744073709551616 := by have := h.2; omega
 have k := u64_andNot_nat n 9223372036854775808 hn (by decide)
 rw [show (9223372036854775808 : Int) = ((9223372036854775808 : Nat) : Int) from rfl, k, show (18446744073709551615 - 9223372036854775808 : Nat) = 2 ^ 63 - 1 from rfl, Nat.and_two_pow_sub_one_eq_mod]
 rfl
theorem nanB_sign (a : Int) (h : U64 a) : decide (9218868437227405312 < bits .andNot .u64 a 9223372036854775808) = nanB a := by rw [andNot_sign a h]; rfl
theorem canon_any (a : Int) (ha : U64 a) (w : World) : Calls Try.prog 84 #[.int .u64 a] w fun e w' => e = .returned (.int .u64 (canon a)) ∧ w = w' := by
 have hb := nanB_sign a ha
 cases hn : nanB a with
 | true =>
  rw [hn] at hb
  rw [canon_nan hn]
  clear ha hn
  go_enter Try.func84, Try.ntmps84
  go_wp2
  go_ret
  exact ⟨rfl, rfl⟩
 | false =>
  rw [hn] at hb
  rw [canon_not hn]
  clear ha hn
  go_enter Try.func84, Try.ntmps84
  go_wp2
  go_ret
  exact ⟨rfl, rfl⟩
theorem okV_1 (b : Int) : okV 1 b = true := rfl
theorem okV_2 (b : Int) : okV 2 b = (canon b == b) := rfl
theorem okV_3 (b : Int) : okV 3 b = decide (b < 2) := rfl
theorem okV_no (t b : Int) (h : t < 1 ∨ 3 < t) : okV t b = false := by unfold okV; rw [if_neg (by omega), if_neg (by omega), if_neg (by omega)]
theorem right_1 (b : Int) (w : World) : Calls Try.prog 40 #[.agg #[.int .i64 1, .int .u64 b]] w fun e w' => e = .returned (.bool true) ∧ Below w.heap.size w w' := by
 go_enter Try.func40, Try.ntmps40
 go_wp2
 go_ret
 exact ⟨rfl, (Below.refl _ _).alloc (Nat.le_refl _) _⟩
theorem right_3 (b : Int) (w : World) : Calls Try.prog 40 #[.agg #[.int .i64 3, .int .u64 b]] w fun e w' => e = .returned (.bool (decide (b < 2))) ∧ Below w.heap.size w w' := by
 go_enter Try.func40, Try.ntmps40
 go_wp2
 go_ret
 exact ⟨rfl, (Below.refl _ _).alloc (Nat.le_refl _) _⟩
theorem right_no (t b : Int) (h : t < 1 ∨ 3 < t) (w : World) : Calls Try.prog 40 #[.agg #[.int .i64 t, .int .u64 b]] w fun e w' => e = .returned (.bool false) ∧ Below w.heap.size w w' := by
 have b1 : (t == 1) = false := beq_eq_false_iff_ne.mpr (by omega)
 have b2 : (t == 2) = false := beq_eq_false_iff_ne.mpr (by omega)
 have b3 : (t == 3) = false := beq_eq_false_iff_ne.mpr (by omega)
 go_enter Try.func40, Try.ntmps40
 go_wp2
 go_ret
 exact ⟨rfl, (Below.refl _ _).alloc (Nat.le_refl _) _⟩
theorem right_2 (b : Int) (hb : U64 b) (w : World) : Calls Try.prog 40 #[.agg #[.int .i64 2, .int .u64 b]] w fun e w' => e = .returned (.bool (canon b == b)) ∧ Below w.heap.size w w' := by
 obtain ⟨c, hc⟩ : ∃ c, c = canon b := ⟨_, rfl⟩
 have HC : Hid (∀ W : World, Calls Try.prog 84 #[.int .u64 b] W fun e w' => e = .returned (.int .u64 c) ∧ w' = W) := hid fun W => by rw [hc]; exact (canon_any b hb W).mono fun _ _ ⟨he, hw⟩ => ⟨he, hw.symm⟩
 rw [← hc]
 clear hb hc
 go_enter Try.func40, Try.ntmps40
 go_wp2_with fail
 go_quiet ((go_at_call 84; exact Calls.quiet_of_same (HC.out _)))
 go_wp2
 go_ret
 exact ⟨rfl, by (exact ⟨rfl, rfl, rfl, by simp, fun k hk => Below.heap_alloc _ _ _ hk⟩)⟩
theorem right_any (t b : Int) (hb : U64 b) (w : World) : Calls Try.prog 40 #[.agg #[.int .i64 t, .int .u64 b]] w fun e w' => e = .returned (.bool (okV t b)) ∧ Below w.heap.size w w' := by
 by_cases h : t < 1 ∨ 3 < t
 ·rw [okV_no t b h]; exact right_no t b h w
 have ht : t = 1 ∨ t = 2 ∨ t = 3 := by omega
 rcases ht with rfl | rfl | rfl
 ·rw [okV_1]; exact right_1 b w
 ·rw [okV_2]; exact right_2 b hb w
 rw [okV_3]; exact right_3 b w
end Val
end
section
namespace Tbl
open Go.RowKit Base
def qDX : Array Value := #[.string ⟨#[]⟩, .int .i64 0, .string ⟨#[112, 117, 115, 104]⟩, .int .i64 9, .string ⟨#[103, 101, 116]⟩, .int .i64 1, .string ⟨#[112, 117, 116]⟩, .int .i64 1, .string ⟨#[108, 111, 97, 100]⟩, .int .i64 2, .string ⟨#[115, 116, 111, 114, 101]⟩, .int .i64 2,
  .string ⟨#[117, 110]⟩, .int .i64 1, .string ⟨#[98, 105, 110]⟩, .int .i64 1, .string ⟨#[106, 117, 109, 112]⟩, .int .i64 2, .string ⟨#[117, 110, 108, 101, 115, 115]⟩, .int .i64 2, .string ⟨#[99, 97, 108, 108]⟩, .int .i64 2, .string ⟨#[114, 101, 116, 117, 114, 110]⟩, .int .i64 0,
  .string ⟨#[115, 104, 111, 119]⟩, .int .i64 0, .string ⟨#[102, 97, 105, 108]⟩, .int .i64 0, .string ⟨#[105, 110, 112, 117, 116]⟩, .int .i64 0, .string ⟨#[116, 114, 121]⟩, .int .i64 2, .string ⟨#[117, 110, 116, 114, 121]⟩, .int .i64 0, .string ⟨#[100, 114, 111, 112]⟩, .int .i64 0]
theorem rows_built (w : World) : (Instr.build 172 #[(1, .agg #[.string ⟨#[112, 117, 115, 104]⟩, .int .i64 9]), (2, .agg #[.string ⟨#[103, 101, 116]⟩, .int .i64 1]), (3, .agg #[.string ⟨#[112, 117, 116]⟩, .int .i64 1]), (4, .agg #[.string ⟨#[108, 111, 97, 100]⟩, .int .i64 2]), (5, .agg #[.string ⟨#[115, 116, 111, 114, 101]⟩, .int .i64 2]), (6, .agg #[.string ⟨#[117, 110]⟩, .int .i64 1]), (7, .agg #[.string ⟨#[98, 105, 110]⟩, .int .i64 1]), (8, .agg #[.string ⟨#[106, 117, 109, 112]⟩, .int .i64 2]), (9, .agg #[.string ⟨#[117, 110, 108, 101, 115, 115]⟩, .int .i64 2]), (10, .agg #[.string ⟨#[99, 97, 108, 108]⟩, .int .i64 2]), (11, .agg #[.string ⟨#[114, 101, 116, 117, 114, 110]⟩, .int .i64 0]), (12, .agg #[.string ⟨#[115, 104, 111, 119]⟩, .int .i64 0]), (13, .agg #[.string ⟨#[102, 97, 105, 108]⟩, .int .i64 0]), (14, .agg #[.string ⟨#[105, 110, 112, 117, 116]⟩, .int .i64 0]), (15, .agg #[.string ⟨#[116, 114, 121]⟩, .int .i64 2]), (16, .agg #[.string ⟨#[117, 110, 116, 114, 121]⟩, .int .i64 0]), (17, .agg #[.string ⟨#[100, 114, 111, 112]⟩, .int .i64 0])]).run Try.prog w = .ok (.agg qDX) w := run_build w _ _ _ (by kernel_rfl)
def rowsZ : Array Value := #[.string ⟨#[]⟩, .int .i64 0, .string ⟨#[]⟩, .int .i64 0, .string ⟨#[]⟩, .int .i64 0, .string ⟨#[]⟩, .int .i64 0, .string ⟨#[]⟩, .int .i64 0, .string ⟨#[]⟩, .int .i64 0, .string ⟨#[]⟩, .int .i64 0, .string ⟨#[]⟩, .int .i64 0, .string ⟨#[]⟩, .int .i64 0, .string ⟨#[]⟩, .int .i64 0, .string ⟨#[]⟩, .int .i64 0, .string ⟨#[]⟩, .int .i64 0, .string ⟨#[]⟩, .int .i64 0, .string ⟨#[]⟩, .int .i64 0, .string ⟨#[]⟩, .int .i64 0, .string ⟨#[]⟩, .int .i64 0, .string ⟨#[]⟩, .int .i64 0, .string ⟨#[]⟩, .int .i64 0]
theorem rows_size : (Try.prog.info? 172).map (·.size) = some qDX.size := by kernel_rfl
theorem rows_one : qDX.all (·.oneCell') = true := by kernel_rfl
theorem below_setRow {B : Nat} {a w : World} (h : Below B a w) {g : Nat} (hg : B ≤ g) (cs : Array Value) : Below B a (w.setRow g cs) :=
 h.trans ⟨rfl, rfl, rfl, by simp [World.setRow], fun k hk => setRow_other w g k cs (by omega)⟩
theorem qCf (w : World) : Calls Try.prog 103 #[] w fun e w' => e = .returned (.agg qDX) ∧ Below w.heap.size w w' := by
 have hb := rows_built
 go_enter Try.func103, Try.ntmps103
 go_wp2_with (refine wpList_store_row rfl 172 _ _ rfl w.heap.size qDX rfl rfl 172 rowsZ ?h1 ?h2 ?h3 ?h4 ?_)
 case h2 => exact rows_size
 case h3 => rfl
 case h4 => exact rows_one
 ·exact heap_alloc_new w _
 clear hb
 refine bodyPost_ret (results_cell_row rfl _ _ w.heap.size 172 qDX (0, 0) _ rfl (setRow_heap _ _ _ _ _ _ (heap_alloc_new w _)) Try.underlying172 rfl rows_size) rfl ⟨rfl, below_setRow ((Below.refl _ _).alloc (Nat.le_refl _) _) (Nat.le_refl _) _⟩
end Tbl
end
section
namespace Ins
open Go.RowKit Base Val Tbl
def wid (op : Int) : Int := if op = 1 then 9 else if op = 2 ∨ op = 3 ∨ op = 6 ∨ op = 7 then 1 else if op = 4 ∨ op = 5 ∨ op = 8 ∨ op = 9 ∨ op = 10 ∨ op = 15 then 2 else 0
def most (op : Int) : Int := if wid op = 0 then 0 else if wid op = 1 then 255 else 65535
def okI (op n t b : Int) : Bool :=
 if op < 1 ∨ 17 < op then false else if op = 1 then n == 0 && okV t b
 else if ¬(t = 0 ∧ b = 0 ∧ 0 ≤ n ∧ n ≤ most op) then false
 else if op = 6 then decide (1 ≤ n ∧ n ≤ 4) else if op = 7 then decide (1 ≤ n ∧ n ≤ 11) else true
def insV (op n t b : Int) : Value := .agg #[.int .i64 op, .int .i64 n, .int .i64 t, .int .u64 b]
theorem qB3 (op n ty b wd mo : Int) (nm : ByteArray) (hlo : (decide (op < 1)) = false) (hhi : (decide (17 < op)) = false) (h1 : (op == 1) = false) (h6 : (op == 6) = false) (h7 : (op == 7) = false)
  (hix : ∀ w, (Instr.index 172 (.agg qDX) (.int .i64 op)).run Try.prog w = .ok (.agg #[.string nm, .int .i64 wd]) w)
  (hiy : ∀ w, (Instr.index 183 (.agg #[.int .i64 0, .int .i64 255, .int .i64 65535]) (.int .i64 wd)).run Try.prog w = .ok (.int .i64 mo) w)
  (hif : ∀ w, (Instr.field 171 (.agg #[.string nm, .int .i64 wd]) 1).run Try.prog w = .ok (.int .i64 wd) w) (w : World) : Calls Try.prog 91 #[.agg #[.int .i64 op, .int .i64 n, .int .i64 ty, .int .u64 b]] w fun e w' => e = .returned (.bool (decide (ty = 0 ∧ b = 0 ∧ 0 ≤ n ∧ n ≤ mo))) ∧ Below w.heap.size w w' := by
 go_enter Try.func91, Try.ntmps91
 go_wp2_with fail
 obtain ⟨W1, hW1⟩ : ∃ W1, W1 = w.alloc (.cells #[.int .i64 op, .int .i64 n, .int .i64 ty, .int .u64 b] 115) := ⟨_, rfl⟩
 have hB1 : Below w.heap.size w W1 := by rw [hW1]; exact (Below.refl _ _).alloc (Nat.le_refl _) _
 have hs : w.heap.size < W1.heap.size := by rw [hW1]; simp
 have c0 : W1.cell? ⟨w.heap.size, 0, none⟩ = some (.int .i64 op) := by rw [hW1, World.cell?_alloc_at _ _ _ _ rfl]; rfl
 have c1 : W1.cell? ⟨w.heap.size, 1, none⟩ = some (.int .i64 n) := by rw [hW1, World.cell?_alloc_at _ _ _ _ rfl]; rfl
 have c2 : W1.cell? ⟨w.heap.size, 2, none⟩ = some (.int .i64 ty) := by rw [hW1, World.cell?_alloc_at _ _ _ _ rfl]; rfl
 have c3 : W1.cell? ⟨w.heap.size, 3, none⟩ = some (.int .u64 b) := by rw [hW1, World.cell?_alloc_at _ _ _ _ rfl]; rfl
 rw [← hW1]
 clear hW1
 go_region_held3 (fun W => W.cell? ⟨w.heap.size, 0, none⟩ = some (.int .i64 op) ∧ W.cell? ⟨w.heap.size, 1, none⟩ = some (.int .i64 n) ∧ W.cell? ⟨w.heap.size, 2, none⟩ = some (.int .i64 ty) ∧ W.cell? ⟨w.heap.size, 3, none⟩ = some (.int .u64 b))
  (first | go_keep | exact ⟨(hbj.cell (p := ⟨w.heap.size, 0, none⟩) hs).trans c0, (hbj.cell (p := ⟨w.heap.size, 1, none⟩) hs).trans c1, (hbj.cell (p := ⟨w.heap.size, 2, none⟩) hs).trans c2, (hbj.cell (p := ⟨w.heap.size, 3, none⟩) hs).trans c3⟩)
  ((go_at_call 103; refine (qCf _).mono ?_; rintro e w1 ⟨rfl, hbj⟩))
 go_wp2
 all_goals have hB2 : Below w.heap.size w w1 := hB1.drew.trans (hbj.mono (by simp; omega))
 all_goals (go_ret; refine ⟨congrArg (fun x => Ending.returned (Value.bool x)) ?_, hB2⟩; simp_all <;> omega)
theorem right_6 (op n ty b wd mo : Int) (nm : ByteArray) (hlo : (decide (op < 1)) = false) (hhi : (decide (17 < op)) = false) (h1 : (op == 1) = false) (h6 : (op == 6) = true)
  (hix : ∀ w, (Instr.index 172 (.agg qDX) (.int .i64 op)).run Try.prog w = .ok (.agg #[.string nm, .int .i64 wd]) w)
  (hiy : ∀ w, (Instr.index 183 (.agg #[.int .i64 0, .int .i64 255, .int .i64 65535]) (.int .i64 wd)).run Try.prog w = .ok (.int .i64 mo) w)
  (hif : ∀ w, (Instr.field 171 (.agg #[.string nm, .int .i64 wd]) 1).run Try.prog w = .ok (.int .i64 wd) w) (w : World) : Calls Try.prog 91 #[.agg #[.int .i64 op, .int .i64 n, .int .i64 ty, .int .u64 b]] w fun e w' => e = .returned (.bool (decide (ty = 0 ∧ b = 0 ∧ 0 ≤ n ∧ n ≤ mo ∧ 1 ≤ n ∧ n ≤ 4))) ∧ Below w.heap.size w w' := by
 go_enter Try.func91, Try.ntmps91
 go_wp2_with fail
 obtain ⟨W1, hW1⟩ : ∃ W1, W1 = w.alloc (.cells #[.int .i64 op, .int .i64 n, .int .i64 ty, .int .u64 b] 115) := ⟨_, rfl⟩
 have hB1 : Below w.heap.size w W1 := by rw [hW1]; exact (Below.refl _ _).alloc (Nat.le_refl _) _
 have hs : w.heap.size < W1.heap.size := by rw [hW1]; simp
 have c0 : W1.cell? ⟨w.heap.size, 0, none⟩ = some (.int .i64 op) := by rw [hW1, World.cell?_alloc_at _ _ _ _ rfl]; rfl
 have c1 : W1.cell? ⟨w.heap.size, 1, none⟩ = some (.int .i64 n) := by rw [hW1, World.cell?_alloc_at _ _ _ _ rfl]; rfl
 have c2 : W1.cell? ⟨w.heap.size, 2, none⟩ = some (.int .i64 ty) := by rw [hW1, World.cell?_alloc_at _ _ _ _ rfl]; rfl
 have c3 : W1.cell? ⟨w.heap.size, 3, none⟩ = some (.int .u64 b) := by rw [hW1, World.cell?_alloc_at _ _ _ _ rfl]; rfl
 rw [← hW1]
 clear hW1
 go_region_held3 (fun W => W.cell? ⟨w.heap.size, 0, none⟩ = some (.int .i64 op) ∧ W.cell? ⟨w.heap.size, 1, none⟩ = some (.int .i64 n) ∧ W.cell? ⟨w.heap.size, 2, none⟩ = some (.int .i64 ty) ∧ W.cell? ⟨w.heap.size, 3, none⟩ = some (.int .u64 b))
  (first | go_keep | exact ⟨(hbj.cell (p := ⟨w.heap.size, 0, none⟩) hs).trans c0, (hbj.cell (p := ⟨w.heap.size, 1, none⟩) hs).trans c1, (hbj.cell (p := ⟨w.heap.size, 2, none⟩) hs).trans c2, (hbj.cell (p := ⟨w.heap.size, 3, none⟩) hs).trans c3⟩)
  ((go_at_call 103; refine (qCf _).mono ?_; rintro e w1 ⟨rfl, hbj⟩))
 go_wp2
 all_goals have hB2 : Below w.heap.size w w1 := hB1.drew.trans (hbj.mono (by simp; omega))
 all_goals (go_ret; refine ⟨congrArg (fun x => Ending.returned (Value.bool x)) ?_, hB2⟩; simp_all <;> omega)
theorem right_7 (op n ty b wd mo : Int) (nm : ByteArray) (hlo : (decide (op < 1)) = false) (hhi : (decide (17 < op)) = false) (h1 : (op == 1) = false) (h6 : (op == 6) = false) (h7 : (op == 7) = true)
  (hix : ∀ w, (Instr.index 172 (.agg qDX) (.int .i64 op)).run Try.prog w = .ok (.agg #[.string nm, .int .i64 wd]) w)
  (hiy : ∀ w, (Instr.index 183 (.agg #[.int .i64 0, .int .i64 255, .int .i64 65535]) (.int .i64 wd)).run Try.prog w = .ok (.int .i64 mo) w)
  (hif : ∀ w, (Instr.field 171 (.agg #[.string nm, .int .i64 wd]) 1).run Try.prog w = .ok (.int .i64 wd) w) (w : World) : Calls Try.prog 91 #[.agg #[.int .i64 op, .int .i64 n, .int .i64 ty, .int .u64 b]] w fun e w' => e = .returned (.bool (decide (ty = 0 ∧ b = 0 ∧ 0 ≤ n ∧ n ≤ mo ∧ 1 ≤ n ∧ n ≤ 11))) ∧ Below w.heap.size w w' := by
 go_enter Try.func91, Try.ntmps91
 go_wp2_with fail
 obtain ⟨W1, hW1⟩ : ∃ W1, W1 = w.alloc (.cells #[.int .i64 op, .int .i64 n, .int .i64 ty, .int .u64 b] 115) := ⟨_, rfl⟩
 have hB1 : Below w.heap.size w W1 := by rw [hW1]; exact (Below.refl _ _).alloc (Nat.le_refl _) _
 have hs : w.heap.size < W1.heap.size := by rw [hW1]; simp
 have c0 : W1.cell? ⟨w.heap.size, 0, none⟩ = some (.int .i64 op) := by rw [hW1, World.cell?_alloc_at _ _ _ _ rfl]; rfl
 have c1 : W1.cell? ⟨w.heap.size, 1, none⟩ = some (.int .i64 n) := by rw [hW1, World.cell?_alloc_at _ _ _ _ rfl]; rfl
 have c2 : W1.cell? ⟨w.heap.size, 2, none⟩ = some (.int .i64 ty) := by rw [hW1, World.cell?_alloc_at _ _ _ _ rfl]; rfl
 have c3 : W1.cell? ⟨w.heap.size, 3, none⟩ = some (.int .u64 b) := by rw [hW1, World.cell?_alloc_at _ _ _ _ rfl]; rfl
 rw [← hW1]
 clear hW1
 go_region_held3 (fun W => W.cell? ⟨w.heap.size, 0, none⟩ = some (.int .i64 op) ∧ W.cell? ⟨w.heap.size, 1, none⟩ = some (.int .i64 n) ∧ W.cell? ⟨w.heap.size, 2, none⟩ = some (.int .i64 ty) ∧ W.cell? ⟨w.heap.size, 3, none⟩ = some (.int .u64 b))
  (first | go_keep | exact ⟨(hbj.cell (p := ⟨w.heap.size, 0, none⟩) hs).trans c0, (hbj.cell (p := ⟨w.heap.size, 1, none⟩) hs).trans c1, (hbj.cell (p := ⟨w.heap.size, 2, none⟩) hs).trans c2, (hbj.cell (p := ⟨w.heap.size, 3, none⟩) hs).trans c3⟩)
  ((go_at_call 103; refine (qCf _).mono ?_; rintro e w1 ⟨rfl, hbj⟩))
 go_wp2
 all_goals have hB2 : Below w.heap.size w w1 := hB1.drew.trans (hbj.mono (by simp; omega))
 all_goals (go_ret; refine ⟨congrArg (fun x => Ending.returned (Value.bool x)) ?_, hB2⟩; simp_all <;> omega)
theorem right_lo (op n ty b : Int) (hlo : (decide (op < 1)) = true) (w : World) : Calls Try.prog 91 #[.agg #[.int .i64 op, .int .i64 n, .int .i64 ty, .int .u64 b]] w fun e w' => e = .returned (.bool false) ∧ Below w.heap.size w w' := by
 go_enter Try.func91, Try.ntmps91
 go_wp2
 go_ret
 exact ⟨rfl, (Below.refl _ _).alloc (Nat.le_refl _) _⟩
theorem right_hi (op n ty b : Int) (hlo : (decide (op < 1)) = false) (hhi : (decide (17 < op)) = true) (w : World) : Calls Try.prog 91 #[.agg #[.int .i64 op, .int .i64 n, .int .i64 ty, .int .u64 b]] w fun e w' => e = .returned (.bool false) ∧ Below w.heap.size w w' := by
 go_enter Try.func91, Try.ntmps91
 go_wp2
 go_ret
 exact ⟨rfl, (Below.refl _ _).alloc (Nat.le_refl _) _⟩
theorem size_lo (op n ty b : Int) (hlo : (decide (op < 1)) = true) (w : World) : Calls Try.prog 97 #[.agg #[.int .i64 op, .int .i64 n, .int .i64 ty, .int .u64 b]] w fun e w' => e = .returned (.int .i64 0) ∧ Below w.heap.size w w' := by
 go_enter Try.func97, Try.ntmps97
 go_wp2
 go_ret
 exact ⟨rfl, (Below.refl _ _).alloc (Nat.le_refl _) _⟩
theorem size_hi (op n ty b : Int) (hlo : (decide (op < 1)) = false) (hhi : (decide (17 < op)) = true) (w : World) : Calls Try.prog 97 #[.agg #[.int .i64 op, .int .i64 n, .int .i64 ty, .int .u64 b]] w fun e w' => e = .returned (.int .i64 0) ∧ Below w.heap.size w w' := by
 go_enter Try.func97, Try.ntmps97
 go_wp2
 go_ret
 exact ⟨rfl, (Below.refl _ _).alloc (Nat.le_refl _) _⟩
theorem right_push_no (n ty b : Int) (h : (n == 0) = false) (w : World) : Calls Try.prog 91 #[.agg #[.int .i64 1, .int .i64 n, .int .i64 ty, .int .u64 b]] w fun e w' => e = .returned (.bool false) ∧ Below w.heap.size w w' := by
 go_enter Try.func91, Try.ntmps91
 go_wp2
 go_ret
 exact ⟨rfl, (Below.refl _ _).alloc (Nat.le_refl _) _⟩
theorem right_push (ty b : Int) (hb : U64 b) (w : World) : Calls Try.prog 91 #[.agg #[.int .i64 1, .int .i64 0, .int .i64 ty, .int .u64 b]] w fun e w' => e = .returned (.bool (okV ty b)) ∧ Below w.heap.size w w' := by
 have HR := hid (right_any ty b hb)
 clear hb
 go_enter Try.func91, Try.ntmps91
 go_wp2_with fail
 go_at_call 40
 refine (HR.out _).mono ?_
 rintro e w1 ⟨rfl, hb1⟩
 go_wp2
 go_ret
 exact ⟨rfl, ((Below.refl _ _).alloc (Nat.le_refl _) _).trans (hb1.mono (by simp))⟩
theorem qBA (op n ty b wd : Int) (nm : ByteArray) (hlo : (decide (op < 1)) = false) (hhi : (decide (17 < op)) = false) (sz : Int) (hw : IntKind.i64.wrap (1 + wd) = sz)
  (hix : ∀ w, (Instr.index 172 (.agg qDX) (.int .i64 op)).run Try.prog w = .ok (.agg #[.string nm, .int .i64 wd]) w)
  (hif : ∀ w, (Instr.field 171 (.agg #[.string nm, .int .i64 wd]) 1).run Try.prog w = .ok (.int .i64 wd) w) (w : World) : Calls Try.prog 97 #[.agg #[.int .i64 op, .int .i64 n, .int .i64 ty, .int .u64 b]] w fun e w' => e = .returned (.int .i64 sz) ∧ Below w.heap.size w w' := by
 go_enter Try.func97, Try.ntmps97
 go_wp2_with fail
 obtain ⟨W1, hW1⟩ : ∃ W1, W1 = w.alloc (.cells #[.int .i64 op, .int .i64 n, .int .i64 ty, .int .u64 b] 115) := ⟨_, rfl⟩
 have hB1 : Below w.heap.size w W1 := by rw [hW1]; exact (Below.refl _ _).alloc (Nat.le_refl _) _
 have hs : w.heap.size < W1.heap.size := by rw [hW1]; simp
 have c0 : W1.cell? ⟨w.heap.size, 0, none⟩ = some (.int .i64 op) := by rw [hW1, World.cell?_alloc_at _ _ _ _ rfl]; rfl
 have c1 : W1.cell? ⟨w.heap.size, 1, none⟩ = some (.int .i64 n) := by rw [hW1, World.cell?_alloc_at _ _ _ _ rfl]; rfl
 have c2 : W1.cell? ⟨w.heap.size, 2, none⟩ = some (.int .i64 ty) := by rw [hW1, World.cell?_alloc_at _ _ _ _ rfl]; rfl
 have c3 : W1.cell? ⟨w.heap.size, 3, none⟩ = some (.int .u64 b) := by rw [hW1, World.cell?_alloc_at _ _ _ _ rfl]; rfl
 rw [← hW1]
 clear hW1
 go_region_held3 (fun W => W.cell? ⟨w.heap.size, 0, none⟩ = some (.int .i64 op) ∧ W.cell? ⟨w.heap.size, 1, none⟩ = some (.int .i64 n) ∧ W.cell? ⟨w.heap.size, 2, none⟩ = some (.int .i64 ty) ∧ W.cell? ⟨w.heap.size, 3, none⟩ = some (.int .u64 b))
  (first | go_keep | exact ⟨(hbj.cell (p := ⟨w.heap.size, 0, none⟩) hs).trans c0, (hbj.cell (p := ⟨w.heap.size, 1, none⟩) hs).trans c1, (hbj.cell (p := ⟨w.heap.size, 2, none⟩) hs).trans c2, (hbj.cell (p := ⟨w.heap.size, 3, none⟩) hs).trans c3⟩)
  ((go_at_call 103; refine (qCf _).mono ?_; rintro e w1 ⟨rfl, hbj⟩))
 go_wp2
 have hB2 : Below w.heap.size w w1 := hB1.drew.trans (hbj.mono (by simp; omega))
 go_ret
 exact ⟨by rw [← hw]; rfl, hB2⟩
theorem qB1 (op n t b mo : Int) (hlo : (decide (op < 1)) = false) (hhi : (decide (17 < op)) = false) (h1 : (op == 1) = false) (h6 : (op == 6) = false) (h7 : (op == 7) = false) (hm : most op = mo) : okI op n t b = decide (t = 0 ∧ b = 0 ∧ 0 ≤ n ∧ n ≤ mo) := by
 unfold okI
 rw [hm, if_neg (by simp at hlo hhi; omega), if_neg (by simpa using h1)]
 by_cases h : t = 0 ∧ b = 0 ∧ 0 ≤ n ∧ n ≤ mo
 rotate_left
 ·rw [if_pos h]; simp [h]
 rw [if_neg (by simpa using h), if_neg (by simpa using h6), if_neg (by simpa using h7)]; simp [h]
theorem okI_lo (op n t b : Int) (h : op < 1) : okI op n t b = false := by unfold okI; rw [if_pos (Or.inl h)]
theorem okI_hi (op n t b : Int) (h : 17 < op) : okI op n t b = false := by unfold okI; rw [if_pos (Or.inr h)]
theorem okI_1 (n t b : Int) : okI 1 n t b = (n == 0 && okV t b) := rfl
theorem okI_6 (n t b : Int) : okI 6 n t b = decide (t = 0 ∧ b = 0 ∧ 0 ≤ n ∧ n ≤ 255 ∧ 1 ≤ n ∧ n ≤ 4) := by
 unfold okI
 rw [if_neg (by decide), if_neg (by decide), show most 6 = 255 from rfl]
 by_cases h : t = 0 ∧ b = 0 ∧ 0 ≤ n ∧ n ≤ 255
 ·obtain ⟨h1, h2, h3, h4⟩ := h
  simp [h1, h2, h3, h4]
 rw [if_pos h]; simp; intro a b c d; exact absurd ⟨a, b, c, d⟩ h
theorem okI_7 (n t b : Int) : okI 7 n t b = decide (t = 0 ∧ b = 0 ∧ 0 ≤ n ∧ n ≤ 255 ∧ 1 ≤ n ∧ n ≤ 11) := by
 unfold okI
 rw [if_neg (by decide), if_neg (by decide), show most 7 = 255 from rfl]
 by_cases h : t = 0 ∧ b = 0 ∧ 0 ≤ n ∧ n ≤ 255
 ·obtain ⟨h1, h2, h3, h4⟩ := h
  simp [h1, h2, h3, h4]
 rw [if_pos h]; simp; intro a b c d; exact absurd ⟨a, b, c, d⟩ h
def qBc (op : Int) : Int := if op < 1 ∨ 17 < op then 0 else 1 + wid op
theorem qCz (op n ty b : Int) (hb : U64 b) (w : World) : Calls Try.prog 91 #[insV op n ty b] w fun e w' => e = .returned (.bool (okI op n ty b)) ∧ Below w.heap.size w w' := by
 unfold insV
 by_cases hl : op < 1
 ·rw [okI_lo op n ty b hl]; exact right_lo op n ty b (by simpa using hl) w
 by_cases hh : 17 < op
 ·rw [okI_hi op n ty b hh]; exact right_hi op n ty b (by simpa using hl) (by simpa using hh) w
 have ho : op = 1 ∨ op = 2 ∨ op = 3 ∨ op = 4 ∨ op = 5 ∨ op = 6 ∨ op = 7 ∨ op = 8 ∨ op = 9 ∨ op = 10 ∨ op = 11 ∨ op = 12 ∨ op = 13 ∨ op = 14 ∨ op = 15 ∨ op = 16 ∨ op = 17 := by omega
 rcases ho with rfl | rfl | rfl | rfl | rfl | rfl | rfl | rfl | rfl | rfl | rfl | rfl | rfl | rfl | rfl | rfl | rfl
 ·rw [okI_1]
  by_cases hn : n = 0
  ·rw [hn]; exact right_push ty b hb w
  rw [show (n == 0) = false from beq_eq_false_iff_ne.mpr hn]; exact right_push_no n ty b (beq_eq_false_iff_ne.mpr hn) w
 ·rw [qB1 2 n ty b 255 rfl rfl rfl rfl rfl rfl]; exact qB3 2 n ty b 1 255 ⟨#[103, 101, 116]⟩ rfl rfl rfl rfl rfl (fun _ => by kernel_rfl) (fun _ => by kernel_rfl) (fun _ => by kernel_rfl) w
 ·rw [qB1 3 n ty b 255 rfl rfl rfl rfl rfl rfl]; exact qB3 3 n ty b 1 255 ⟨#[112, 117, 116]⟩ rfl rfl rfl rfl rfl (fun _ => by kernel_rfl) (fun _ => by kernel_rfl) (fun _ => by kernel_rfl) w
 ·rw [qB1 4 n ty b 65535 rfl rfl rfl rfl rfl rfl]; exact qB3 4 n ty b 2 65535 ⟨#[108, 111, 97, 100]⟩ rfl rfl rfl rfl rfl (fun _ => by kernel_rfl) (fun _ => by kernel_rfl) (fun _ => by kernel_rfl) w
 ·rw [qB1 5 n ty b 65535 rfl rfl rfl rfl rfl rfl]; exact qB3 5 n ty b 2 65535 ⟨#[115, 116, 111, 114, 101]⟩ rfl rfl rfl rfl rfl (fun _ => by kernel_rfl) (fun _ => by kernel_rfl) (fun _ => by kernel_rfl) w
 ·rw [okI_6]; exact right_6 6 n ty b 1 255 ⟨#[117, 110]⟩ rfl rfl rfl rfl (fun _ => by kernel_rfl) (fun _ => by kernel_rfl) (fun _ => by kernel_rfl) w
 ·rw [okI_7]; exact right_7 7 n ty b 1 255 ⟨#[98, 105, 110]⟩ rfl rfl rfl rfl rfl (fun _ => by kernel_rfl) (fun _ => by kernel_rfl) (fun _ => by kernel_rfl) w
 ·rw [qB1 8 n ty b 65535 rfl rfl rfl rfl rfl rfl]; exact qB3 8 n ty b 2 65535 ⟨#[106, 117, 109, 112]⟩ rfl rfl rfl rfl rfl (fun _ => by kernel_rfl) (fun _ => by kernel_rfl) (fun _ => by kernel_rfl) w
 ·rw [qB1 9 n ty b 65535 rfl rfl rfl rfl rfl rfl]; exact qB3 9 n ty b 2 65535 ⟨#[117, 110, 108, 101, 115, 115]⟩ rfl rfl rfl rfl rfl (fun _ => by kernel_rfl) (fun _ => by kernel_rfl) (fun _ => by kernel_rfl) w
 ·rw [qB1 10 n ty b 65535 rfl rfl rfl rfl rfl rfl]; exact qB3 10 n ty b 2 65535 ⟨#[99, 97, 108, 108]⟩ rfl rfl rfl rfl rfl (fun _ => by kernel_rfl) (fun _ => by kernel_rfl) (fun _ => by kernel_rfl) w
 ·rw [qB1 11 n ty b 0 rfl rfl rfl rfl rfl rfl]; exact qB3 11 n ty b 0 0 ⟨#[114, 101, 116, 117, 114, 110]⟩ rfl rfl rfl rfl rfl (fun _ => by kernel_rfl) (fun _ => by kernel_rfl) (fun _ => by kernel_rfl) w
 ·rw [qB1 12 n ty b 0 rfl rfl rfl rfl rfl rfl]; exact qB3 12 n ty b 0 0 ⟨#[115, 104, 111, 119]⟩ rfl rfl rfl rfl rfl (fun _ => by kernel_rfl) (fun _ => by kernel_rfl) (fun _ => by kernel_rfl) w
 ·rw [qB1 13 n ty b 0 rfl rfl rfl rfl rfl rfl]; exact qB3 13 n ty b 0 0 ⟨#[102, 97, 105, 108]⟩ rfl rfl rfl rfl rfl (fun _ => by kernel_rfl) (fun _ => by kernel_rfl) (fun _ => by kernel_rfl) w
 ·rw [qB1 14 n ty b 0 rfl rfl rfl rfl rfl rfl]; exact qB3 14 n ty b 0 0 ⟨#[105, 110, 112, 117, 116]⟩ rfl rfl rfl rfl rfl (fun _ => by kernel_rfl) (fun _ => by kernel_rfl) (fun _ => by kernel_rfl) w
 ·rw [qB1 15 n ty b 65535 rfl rfl rfl rfl rfl rfl]; exact qB3 15 n ty b 2 65535 ⟨#[116, 114, 121]⟩ rfl rfl rfl rfl rfl (fun _ => by kernel_rfl) (fun _ => by kernel_rfl) (fun _ => by kernel_rfl) w
 ·rw [qB1 16 n ty b 0 rfl rfl rfl rfl rfl rfl]; exact qB3 16 n ty b 0 0 ⟨#[117, 110, 116, 114, 121]⟩ rfl rfl rfl rfl rfl (fun _ => by kernel_rfl) (fun _ => by kernel_rfl) (fun _ => by kernel_rfl) w
 rw [qB1 17 n ty b 0 rfl rfl rfl rfl rfl rfl]; exact qB3 17 n ty b 0 0 ⟨#[100, 114, 111, 112]⟩ rfl rfl rfl rfl rfl (fun _ => by kernel_rfl) (fun _ => by kernel_rfl) (fun _ => by kernel_rfl) w
theorem size_ins (op n ty b : Int) (w : World) : Calls Try.prog 97 #[insV op n ty b] w fun e w' => e = .returned (.int .i64 (qBc op)) ∧ Below w.heap.size w w' := by
 unfold insV
 by_cases hl : op < 1
 ·rw [show qBc op = 0 from if_pos (Or.inl hl)]; exact size_lo op n ty b (by simpa using hl) w
 by_cases hh : 17 < op
 ·rw [show qBc op = 0 from if_pos (Or.inr hh)]; exact size_hi op n ty b (by simpa using hl) (by simpa using hh) w
 have ho : op = 1 ∨ op = 2 ∨ op = 3 ∨ op = 4 ∨ op = 5 ∨ op = 6 ∨ op = 7 ∨ op = 8 ∨ op = 9 ∨ op = 10 ∨ op = 11 ∨ op = 12 ∨ op = 13 ∨ op = 14 ∨ op = 15 ∨ op = 16 ∨ op = 17 := by omega
 rcases ho with rfl | rfl | rfl | rfl | rfl | rfl | rfl | rfl | rfl | rfl | rfl | rfl | rfl | rfl | rfl | rfl | rfl
 ·rw [show qBc 1 = 10 from rfl]; exact qBA 1 n ty b 9 ⟨#[112, 117, 115, 104]⟩ rfl rfl 10 rfl (fun _ => by kernel_rfl) (fun _ => by kernel_rfl) w
 ·rw [show qBc 2 = 2 from rfl]; exact qBA 2 n ty b 1 ⟨#[103, 101, 116]⟩ rfl rfl 2 rfl (fun _ => by kernel_rfl) (fun _ => by kernel_rfl) w
 ·rw [show qBc 3 = 2 from rfl]; exact qBA 3 n ty b 1 ⟨#[112, 117, 116]⟩ rfl rfl 2 rfl (fun _ => by kernel_rfl) (fun _ => by kernel_rfl) w
 ·rw [show qBc 4 = 3 from rfl]; exact qBA 4 n ty b 2 ⟨#[108, 111, 97, 100]⟩ rfl rfl 3 rfl (fun _ => by kernel_rfl) (fun _ => by kernel_rfl) w
 ·rw [show qBc 5 = 3 from rfl]; exact qBA 5 n ty b 2 ⟨#[115, 116, 111, 114, 101]⟩ rfl rfl 3 rfl (fun _ => by kernel_rfl) (fun _ => by kernel_rfl) w
 ·rw [show qBc 6 = 2 from rfl]; exact qBA 6 n ty b 1 ⟨#[117, 110]⟩ rfl rfl 2 rfl (fun _ => by kernel_rfl) (fun _ => by kernel_rfl) w
 ·rw [show qBc 7 = 2 from rfl]; exact qBA 7 n ty b 1 ⟨#[98, 105, 110]⟩ rfl rfl 2 rfl (fun _ => by kernel_rfl) (fun _ => by kernel_rfl) w
 ·rw [show qBc 8 = 3 from rfl]; exact qBA 8 n ty b 2 ⟨#[106, 117, 109, 112]⟩ rfl rfl 3 rfl (fun _ => by kernel_rfl) (fun _ => by kernel_rfl) w
 ·rw [show qBc 9 = 3 from rfl]; exact qBA 9 n ty b 2 ⟨#[117, 110, 108, 101, 115, 115]⟩ rfl rfl 3 rfl (fun _ => by kernel_rfl) (fun _ => by kernel_rfl) w
 ·rw [show qBc 10 = 3 from rfl]; exact qBA 10 n ty b 2 ⟨#[99, 97, 108, 108]⟩ rfl rfl 3 rfl (fun _ => by kernel_rfl) (fun _ => by kernel_rfl) w
 ·rw [show qBc 11 = 1 from rfl]; exact qBA 11 n ty b 0 ⟨#[114, 101, 116, 117, 114, 110]⟩ rfl rfl 1 rfl (fun _ => by kernel_rfl) (fun _ => by kernel_rfl) w
 ·rw [show qBc 12 = 1 from rfl]; exact qBA 12 n ty b 0 ⟨#[115, 104, 111, 119]⟩ rfl rfl 1 rfl (fun _ => by kernel_rfl) (fun _ => by kernel_rfl) w
 ·rw [show qBc 13 = 1 from rfl]; exact qBA 13 n ty b 0 ⟨#[102, 97, 105, 108]⟩ rfl rfl 1 rfl (fun _ => by kernel_rfl) (fun _ => by kernel_rfl) w
 ·rw [show qBc 14 = 1 from rfl]; exact qBA 14 n ty b 0 ⟨#[105, 110, 112, 117, 116]⟩ rfl rfl 1 rfl (fun _ => by kernel_rfl) (fun _ => by kernel_rfl) w
 ·rw [show qBc 15 = 3 from rfl]; exact qBA 15 n ty b 2 ⟨#[116, 114, 121]⟩ rfl rfl 3 rfl (fun _ => by kernel_rfl) (fun _ => by kernel_rfl) w
 ·rw [show qBc 16 = 1 from rfl]; exact qBA 16 n ty b 0 ⟨#[117, 110, 116, 114, 121]⟩ rfl rfl 1 rfl (fun _ => by kernel_rfl) (fun _ => by kernel_rfl) w
 rw [show qBc 17 = 1 from rfl]; exact qBA 17 n ty b 0 ⟨#[100, 114, 111, 112]⟩ rfl rfl 1 rfl (fun _ => by kernel_rfl) (fun _ => by kernel_rfl) w
end Ins
end
section
namespace Q
open Go.RowKit PA PB PC
open Val Ins
def okT (t : Int) : Bool := decide (1 ≤ t ∧ t ≤ 3)
theorem okT_true {t : Int} (h1 : 1 ≤ t) (h2 : t ≤ 3) : okT t = true := by unfold okT; simp [h1, h2]
theorem qCT {t : Int} (h : t < 1 ∨ 3 < t) : okT t = false := by unfold okT; simp; omega
theorem qDZ (t : Int) (w : World) : Calls Try.prog 121 #[.int .i64 t] w fun e w' => e = .returned (.bool (okT t)) ∧ w' = w := by
 by_cases h1 : 1 ≤ t
 rotate_left
 ·rw [qCT (by omega)]
  go_enter Try.func121, Try.ntmps121
  go_wp2
  go_ret
  exact ⟨rfl, rfl⟩
 by_cases h2 : t ≤ 3
 ·rw [okT_true h1 h2]
  go_enter Try.func121, Try.ntmps121
  go_wp2
  go_ret
  exact ⟨rfl, rfl⟩
 rw [qCT (by omega)]
 go_enter Try.func121, Try.ntmps121
 go_wp2
 go_ret
 exact ⟨rfl, rfl⟩
def nmT (t : Int) : ByteArray := if t = 1 then ⟨#[105, 110, 116]⟩ else if t = 2 then ⟨#[102, 108, 111, 97, 116]⟩ else if t = 3 then ⟨#[98, 111, 111, 108]⟩ else ⟨#[]⟩
theorem name_no (t : Int) (h : okT t = false) (w : World) : Calls Try.prog 112 #[.int .i64 t] w fun e w' => e = .returned (.string ⟨#[]⟩) ∧ w' = w := by
 have H := Base.hid h
 clear h
 go_enter Try.func112, Try.ntmps112
 go_wp2_with (go_at_call 121; refine (qDZ t _).mono ?_; rintro e w1 ⟨rfl, rfl⟩; have H1 := H.out; rw [H1])
 go_ret
 exact ⟨rfl, rfl⟩
theorem name_yes (t : Int) (s : ByteArray) (h : okT t = true) (hi : ∀ w, (Instr.index 198 (.agg #[.string ⟨#[]⟩, .string ⟨#[105, 110, 116]⟩, .string ⟨#[102, 108, 111, 97, 116]⟩, .string ⟨#[98, 111, 111, 108]⟩]) (.int .i64 t)).run Try.prog w = .ok (.string s) w) (w : World) : Calls Try.prog 112 #[.int .i64 t] w fun e w' => e = .returned (.string s) ∧ w' = w := by
 have H := Base.hid h
 clear h
 go_enter Try.func112, Try.ntmps112
 go_wp2_with (go_at_call 121; refine (qDZ t _).mono ?_; rintro e w1 ⟨rfl, rfl⟩; have H1 := H.out; rw [H1])
 go_ret
 exact ⟨rfl, rfl⟩
theorem name_any (t : Int) (w : World) : Calls Try.prog 112 #[.int .i64 t] w fun e w' => e = .returned (.string (nmT t)) ∧ w' = w := by
 by_cases h1 : t = 1
 ·subst h1; exact name_yes 1 _ rfl (fun w => by kernel_rfl) w
 by_cases h2 : t = 2
 ·subst h2; exact name_yes 2 _ rfl (fun w => by kernel_rfl) w
 by_cases h3 : t = 3
 ·subst h3; exact name_yes 3 _ rfl (fun w => by kernel_rfl) w
 rw [show nmT t = ⟨#[]⟩ from by unfold nmT; rw [if_neg h1, if_neg h2, if_neg h3]]
 exact name_no t (qCT (by omega)) w
theorem qDP (t : Int) (w : World) : Calls Try.prog 88 #[.int .i64 t] w fun e w' => e = .returned (.bool (okT t)) ∧ w' = w := by
 have hn := name_any t
 have hq : (!(nmT t).toList.isEmpty) = okT t := by
  rw [Lib.toList_data]
  by_cases h1 : t = 1
  ·subst h1; rfl
  by_cases h2 : t = 2
  ·subst h2; rfl
  by_cases h3 : t = 3
  ·subst h3; rfl
  rw [qCT (by omega), show nmT t = ⟨#[]⟩ from by unfold nmT; rw [if_neg h1, if_neg h2, if_neg h3]]; rfl
 obtain ⟨s, hs⟩ : ∃ s, s = nmT t := ⟨_, rfl⟩
 rw [← hs] at hq hn
 have HN := Base.hid hn
 have HQ := Base.hid hq
 clear hn hq hs
 go_enter Try.func88, Try.ntmps88
 go_wp2_with (go_at_call 112; refine (HN.out _).mono ?_; rintro e w1 ⟨rfl, rfl⟩)
 go_ret
 exact ⟨by rw [← HQ.out]; rfl, rfl⟩
theorem unvalued_any (t : Int) (w : World) : Calls Try.prog 87 #[.int .i64 t] w fun e w' => e = .returned (.bool (!okT t)) ∧ w' = w := by
 go_enter Try.func87, Try.ntmps87
 go_wp2_with (go_at_call 88; refine (qDP t _).mono ?_; rintro e w1 ⟨rfl, rfl⟩)
 go_ret
 exact ⟨rfl, rfl⟩
theorem qDe {α : Type} (p : α → Bool) (l : List α) (k : Nat) (x : α) (hx : l[k]? = some x) (h : p x = true) : l.any p = true :=
 List.any_eq_true.2 ⟨x, List.mem_of_getElem? hx, h⟩
theorem qD4 {α : Type} (p : α → Bool) (l : List α) (h : ∀ (j : Nat) (x : α), l[j]? = some x → p x = false) : l.any p = false := by
 rw [List.any_eq_false]
 intro x hx
 obtain ⟨j, hj⟩ := List.getElem?_of_mem hx
 rw [h j x hj]; decide
def IdxPost (b : Bool) (W0 : World) (e : Ending) (w' : World) : Prop := ∃ i : Int, e = .returned (.int .i64 i) ∧ (0 ≤ i ↔ b = true) ∧ Below W0.heap.size W0 w'
theorem qCk {α : Type} (l : List α) (d : α) (k : Nat) (h : k < l.length) : l[k]? = some (l.getD k d) := by rw [List.getD_eq_getElem?_getD, List.getElem?_eq_getElem h]; rfl
theorem idx_ints (A : Option Addr) (c : Nat) (l : List Int) (w : World) (hr : Kd.C (Kd.int .i64) w A l.length l) (hl : l.length ≤ 4611686018427387904) :
  Calls Try.prog 111 #[.slice A l.length c, .func (.func 87) #[] #[]] w (IdxPost (l.any fun t => !okT t) w) := by
 obtain ⟨n, hn⟩ : ∃ n, n = l.length := ⟨_, rfl⟩
 rw [← hn]
 have HR := am hr
 have HN := am hn
 rw [← hn] at hl
 clear hr hn
 go_enter Try.func111, Try.ntmps111
 go_wp2
 go_loopg [5, 8] n (fun gg _ s8 wr => ∃ kk : Nat, kk ≤ n ∧ n - kk ≤ gg ∧ s8 = .int .i64 kk ∧ qAf (∀ j x, j < kk → l[j]? = some x → (!okT x) = false) ∧ wr = w)
 case atStart => exact ⟨0, Nat.zero_le _, by omega, rfl, ⟨fun j x hj => absurd hj (Nat.not_lt_zero _)⟩, rfl⟩
 case round =>
  obtain ⟨kk, hkk, hg, rfl, HA, rfl⟩ := hrel
  by_cases hlt : kk < n
  rotate_left
  ·have hltz : ¬ (kk : Int) < (n : Int) := by omega
   have : kk = n := by omega
   subst this
   go_wp2
   go_ret
   refine ⟨-1, rfl, ?_, Below.refl _ _⟩
   rw [qD4 _ l fun j x hj => HA.out j x (by rw [HN.out]; exact (List.getElem?_eq_some_iff.1 hj).1) hj]
   simp
  have hltz : (kk : Int) < (n : Int) := by omega
  have h0 : (0 : Int) ≤ (kk : Int) := by omega
  obtain ⟨ad, ea, hx⟩ := Kd.at_int HR.out (kk : Int) h0 (by have := HN.out; omega)
  subst ea
  rw [Int.toNat_natCast] at hx
  have hc := unvalued_any (rd l (kk : Int))
  obtain ⟨x, hx0⟩ : ∃ x, x = rd l (kk : Int) := ⟨_, rfl⟩
  rw [← hx0] at hx hc
  have HX : qAf (l[kk]? = some x) := ⟨by rw [hx0]; exact qCk l 0 kk (by have := HN.out; omega)⟩
  have HC := am hc
  clear hx0 hc
  cases hq : okT x with
  | false =>
   have HQ := am hq
   clear hq
   go_wp2_with (go_at_call 87; refine (HC.out _).mono ?_; rintro e w1 ⟨rfl, rfl⟩; rw [HQ.out])
   go_ret
   exact ⟨kk, rfl, ⟨fun _ => qDe _ l kk x HX.out (by rw [HQ.out]; rfl), fun _ => h0⟩, Below.refl _ _⟩
  | true =>
   have HQ := am hq
   clear hq
   go_wp2_with (go_at_call 87; refine (HC.out _).mono ?_; rintro e w1 ⟨rfl, rfl⟩; rw [HQ.out])
   go_roundg (n - (kk + 1))
   case measure => omega
   case rel =>
    refine ⟨kk + 1, by omega, by omega, by go_num, ⟨fun j y hj hy => ?_⟩, rfl⟩
    by_cases e : j = kk
    rotate_left
    ·exact HA.out j y (by omega) hy
    subst e
    rw [HX.out] at hy; injection hy with hy; subst hy; rw [HQ.out]; rfl
theorem has_ints (A : Option Addr) (c : Nat) (l : List Int) (w : World) (hr : Kd.C (Kd.int .i64) w A l.length l) (hl : l.length ≤ 4611686018427387904) :
  Calls Try.prog 86 #[.slice A l.length c, .func (.func 87) #[] #[]] w fun e w' => e = .returned (.bool (l.any fun t => !okT t)) ∧ Below w.heap.size w w' := by
 have HI := am (idx_ints A c l w hr hl)
 obtain ⟨b, hb⟩ : ∃ b, b = l.any fun t => !okT t := ⟨_, rfl⟩
 rw [← hb] at HI ⊢
 clear hb hr hl
 go_enter Try.func86, Try.ntmps86
 go_wp2_with (go_at_call 111; refine (HI.out).mono ?_; rintro e w1 ⟨i, rfl, hi, hw⟩; have HB := am hw; have HQ := am hi; clear hi hw)
 go_ret
 refine ⟨?_, HB.out⟩
 have := HQ.out
 congr 2
 cases b <;> simp_all
theorem all_ints (A : Option Addr) (c : Nat) (l : List Int) (w : World) (hr : Kd.C (Kd.int .i64) w A l.length l) (hl : l.length ≤ 4611686018427387904) :
  Calls Try.prog 85 #[.slice A l.length c] w fun e w' => e = .returned (.bool (l.all okT)) ∧ Below w.heap.size w w' := by
 have HI := am (has_ints A c l w hr hl)
 have hq : (!l.any fun t => !okT t) = l.all okT := by rw [List.not_any_eq_all_not]; simp
 obtain ⟨b, hb⟩ : ∃ b, b = l.any fun t => !okT t := ⟨_, rfl⟩
 rw [← hb] at HI hq
 rw [← hq]
 clear hb hr hl hq
 go_enter Try.func85, Try.ntmps85
 go_wp2_with (go_at_call 86; refine (HI.out).mono ?_; rintro e w1 ⟨rfl, hw⟩; have HB := am hw; clear hw)
 go_ret
 exact ⟨rfl, HB.out⟩
theorem unright_any (op n ty b : Int) (hb : U64 b) (w : World) : Calls Try.prog 90 #[.agg #[.int .i64 op, .int .i64 n, .int .i64 ty, .int .u64 b]] w fun e w' => e = .returned (.bool (!okI op n ty b)) ∧ Below w.heap.size w w' := by
 have HR := am (fun W => qCz op n ty b hb W)
 unfold insV at HR
 clear hb
 go_enter Try.func90, Try.ntmps90
 go_wp2_with (go_at_call 91; refine (HR.out _).mono ?_; rintro e w1 ⟨rfl, hw⟩; have HB := am hw; clear hw)
 go_ret
 exact ⟨rfl, ((Below.refl _ _).alloc (Nat.le_refl _) _).trans (HB.out.mono (by simp))⟩
def okS (x : S115) : Bool := okI x.f0 x.f1 x.f2.f0 x.f2.f1
def u64S (x : S115) : Bool := decide (0 ≤ x.f2.f1 ∧ x.f2.f1 < 18446744073709551616)
theorem u64S_U {x : S115} (h : u64S x = true) : U64 x.f2.f1 := by
 have h := of_decide_eq_true (p := 0 ≤ x.f2.f1 ∧ x.f2.f1 < 18446744073709551616) h
 exact ⟨h.1, by omega⟩
theorem idx_ins (A : Option Addr) (c : Nat) (l : List S115) (w : World) (hr : Kd.C k115 w A l.length l) (hl : l.length ≤ 4611686018427387904) (hu : ∀ x ∈ l, u64S x = true) :
  Calls Try.prog 113 #[.slice A l.length c, .func (.func 90) #[] #[]] w (IdxPost (l.any fun x => !okS x) w) := by
 obtain ⟨n, hn⟩ : ∃ n, n = l.length := ⟨_, rfl⟩
 rw [← hn]
 have HR := am hr
 have HN := am hn
 have HU := am hu
 rw [← hn] at hl
 clear hr hn hu
 go_enter Try.func113, Try.ntmps113
 go_wp2
 go_loopg [5, 8] n (fun gg _ s8 wr => ∃ kk : Nat, kk ≤ n ∧ n - kk ≤ gg ∧ s8 = .int .i64 kk ∧ qAf (∀ (j : Nat) x, j < kk → l[j]? = some x → (!okS x) = false) ∧ qAf (Below w.heap.size w wr))
 case atStart => exact ⟨0, Nat.zero_le _, by omega, rfl, ⟨fun j x hj => absurd hj (Nat.not_lt_zero _)⟩, ⟨Below.refl _ _⟩⟩
 case round =>
  obtain ⟨kk, hkk, hg, rfl, HA, HB⟩ := hrel
  by_cases hlt : kk < n
  rotate_left
  ·have hltz : ¬ (kk : Int) < (n : Int) := by omega
   have : kk = n := by omega
   subst this
   go_wp2
   go_ret
   refine ⟨-1, rfl, ?_, HB.out⟩
   rw [qD4 _ l fun j x hj => HA.out j x (by rw [HN.out]; exact (List.getElem?_eq_some_iff.1 hj).1) hj]
   simp
  have hltz : (kk : Int) < (n : Int) := by omega
  have h0 : (0 : Int) ≤ (kk : Int) := by omega
  obtain ⟨ad, ea, hx0, hx1, hx2, hx3⟩ := at_T115 HR.out (kk : Int) h0 (by have := HN.out; omega)
  subst ea
  rw [Int.toNat_natCast] at hx0 hx1 hx2 hx3
  replace hx0 := cb HB hx0
  replace hx1 := cb HB hx1
  replace hx2 := cb HB hx2
  replace hx3 := cb HB hx3
  obtain ⟨x, hx⟩ : ∃ x, x = qA0 l (kk : Int) := ⟨_, rfl⟩
  rw [← hx] at hx0 hx1 hx2 hx3
  have HX : qAf (l[kk]? = some x) := ⟨by rw [hx]; exact qCk l z115 kk (by have := HN.out; omega)⟩
  clear hx
  obtain ⟨op, nn, ⟨ty, bb⟩⟩ := x
  dsimp only at hx0 hx1 hx2 hx3
  have HC := am (fun W => unright_any op nn ty bb (u64S_U (HU.out _ (List.mem_of_getElem? HX.out))) W)
  cases hq : okI op nn ty bb with
  | false =>
   have HQ := am hq
   clear hq
   go_wp2_with (go_at_call 90; refine (HC.out _).mono ?_; rintro e w1 ⟨rfl, hw⟩; rw [HQ.out]; have HB1 := am (qAw HB.out HB.out.size hw); clear hw)
   go_ret
   exact ⟨kk, rfl, ⟨fun _ => qDe _ l kk _ HX.out (by unfold okS; dsimp only; rw [HQ.out]; rfl), fun _ => h0⟩, HB1.out⟩
  | true =>
   have HQ := am hq
   clear hq
   go_wp2_with (go_at_call 90; refine (HC.out _).mono ?_; rintro e w1 ⟨rfl, hw⟩; rw [HQ.out]; have HB1 := am (qAw HB.out HB.out.size hw); clear hw)
   go_roundg (n - (kk + 1))
   case measure => omega
   case rel =>
    refine ⟨kk + 1, by omega, by omega, by go_num, ⟨fun j y hj hy => ?_⟩, HB1⟩
    by_cases e : j = kk
    rotate_left
    ·exact HA.out j y (by omega) hy
    subst e
    rw [HX.out] at hy; injection hy with hy; subst hy; unfold okS; dsimp only; rw [HQ.out]; rfl
theorem has_ins (A : Option Addr) (c : Nat) (l : List S115) (w : World) (hr : Kd.C k115 w A l.length l) (hl : l.length ≤ 4611686018427387904) (hu : ∀ x ∈ l, u64S x = true) :
  Calls Try.prog 89 #[.slice A l.length c, .func (.func 90) #[] #[]] w fun e w' => e = .returned (.bool (l.any fun x => !okS x)) ∧ Below w.heap.size w w' := by
 have HI := am (idx_ins A c l w hr hl hu)
 obtain ⟨b, hb⟩ : ∃ b, b = l.any fun x => !okS x := ⟨_, rfl⟩
 rw [← hb] at HI ⊢
 clear hb hr hl hu
 go_enter Try.func89, Try.ntmps89
 go_wp2_with (go_at_call 113; refine (HI.out).mono ?_; rintro e w1 ⟨i, rfl, hi, hw⟩; have HB := am hw; have HQ := am hi; clear hi hw)
 go_ret
 refine ⟨?_, HB.out⟩
 have := HQ.out
 congr 2
 cases b <;> simp_all
def okFn (l0 : List Int) (a1 : Int) (l2 : List Int) (l3 : List S115) : Bool :=
 decide (l0.length ≤ 8) && l0.all okT && (a1 == 0 || okT a1) && decide (l2.length ≤ 64) && l2.all okT && decide (l3.length ≤ 4096) && l3.all okS
def qAW.f (l0_0 : List Int) (a0_1 : Int) (l0_2 : List Int) (l0_3 : List (S115)) : Option (Bool) :=
 if l0_0.length ≤ 4611686018427387904 ∧ l0_2.length ≤ 4611686018427387904 ∧ l0_3.length ≤ 4611686018427387904 ∧ l0_3.all u64S = true then some (okFn l0_0 a0_1 l0_2 l0_3) else none
theorem qAW.calls (A0_0 : Option Addr) (c0_0 : Nat) (l0_0 : List Int) (a0_1 : Int) (A0_2 : Option Addr) (c0_2 : Nat) (l0_2 : List Int) (A0_3 : Option Addr) (c0_3 : Nat) (l0_3 : List (S115)) (r : Bool) (w : World) (hr0_0 : Kd.C (Kd.int .i64) w A0_0 l0_0.length l0_0) (hc0_0 : l0_0.length ≤ c0_0) (hr0_2 : Kd.C (Kd.int .i64) w A0_2 l0_2.length l0_2) (hc0_2 : l0_2.length ≤ c0_2) (hr0_3 : Kd.C k115 w A0_3 l0_3.length l0_3) (hc0_3 : l0_3.length ≤ c0_3) (h : qAW.f l0_0 a0_1 l0_2 l0_3 = some r) :
  Calls Try.prog 41 #[.agg #[.slice A0_0 l0_0.length c0_0, .int .i64 a0_1, .slice A0_2 l0_2.length c0_2, .slice A0_3 l0_3.length c0_3]] w fun e w' => e = .returned (.bool r) ∧ Below w.heap.size w w' := by
 unfold qAW.f at h
 split at h
 case isFalse => cases h
 rename_i hs
 obtain ⟨hl0, hl2, hl3, hu⟩ := hs
 injection h with h
 have hu' : ∀ x ∈ l0_3, u64S x = true := fun x hx => List.all_eq_true.1 hu x hx
 have H0 : qAf (∀ W, Below w.heap.size w W → Calls Try.prog 85 #[.slice A0_0 l0_0.length c0_0] W fun e w' => e = .returned (.bool (l0_0.all okT)) ∧ Below W.heap.size W w') := ⟨fun W hW => all_ints A0_0 c0_0 l0_0 W (Kd.C_below hr0_0 hW) hl0⟩
 have H2 : qAf (∀ W, Below w.heap.size w W → Calls Try.prog 85 #[.slice A0_2 l0_2.length c0_2] W fun e w' => e = .returned (.bool (l0_2.all okT)) ∧ Below W.heap.size W w') := ⟨fun W hW => all_ints A0_2 c0_2 l0_2 W (Kd.C_below hr0_2 hW) hl2⟩
 have H3 : qAf (∀ W, Below w.heap.size w W → Calls Try.prog 89 #[.slice A0_3 l0_3.length c0_3, .func (.func 90) #[] #[]] W fun e w' => e = .returned (.bool (l0_3.any fun x => !okS x)) ∧ Below W.heap.size W w') := ⟨fun W hW => has_ins A0_3 c0_3 l0_3 W (Kd.C_below hr0_3 hW) hl3 hu'⟩
 have hq3 : (!l0_3.any fun x => !okS x) = l0_3.all okS := by rw [List.not_any_eq_all_not]; simp
 unfold okFn at h
 obtain ⟨n0, hn0⟩ : ∃ n, n = l0_0.length := ⟨_, rfl⟩
 obtain ⟨n2, hn2⟩ : ∃ n, n = l0_2.length := ⟨_, rfl⟩
 obtain ⟨n3, hn3⟩ : ∃ n, n = l0_3.length := ⟨_, rfl⟩
 obtain ⟨b0, hb0⟩ : ∃ b, b = l0_0.all okT := ⟨_, rfl⟩
 obtain ⟨b2, hb2⟩ : ∃ b, b = l0_2.all okT := ⟨_, rfl⟩
 obtain ⟨b3, hb3⟩ : ∃ b, b = l0_3.any fun x => !okS x := ⟨_, rfl⟩
 rw [← hn0, ← hn2, ← hn3]
 rw [← hn0, ← hb0] at H0
 rw [← hn2, ← hb2] at H2
 rw [← hn3, ← hb3] at H3
 rw [← hb3] at hq3
 rw [← hn0, ← hn2, ← hn3, ← hb0, ← hb2, ← hq3] at h
 have hv0 : 0 ≤ n0 := Nat.zero_le _
 clear hn0 hn2 hn3 hb0 hb2 hb3 hr0_0 hr0_2 hr0_3 hc0_0 hc0_2 hc0_3 hl0 hl2 hl3 hu hu' hq3 hv0
 have HB0 := am ((Below.refl w.heap.size w).alloc (Nat.le_refl _) (.cells #[.slice A0_0 n0 c0_0, .int .i64 a0_1, .slice A0_2 n2 c0_2, .slice A0_3 n3 c0_3] 77))
 have HV := am (fun W => qDP a0_1 W)
 by_cases c1 : n0 ≤ 8
 case neg =>
  obtain rfl : r = false := by rw [← h]; simp [c1]
  clear h H0 H2 H3 HV HB0
  go_enter Try.func41, Try.ntmps41
  go_wp2
  go_ret
  exact ⟨rfl, (Below.refl _ _).alloc (Nat.le_refl _) _⟩
 obtain ⟨WA, hWA⟩ : ∃ WA, WA = w.alloc (.cells #[.slice A0_0 n0 c0_0, .int .i64 a0_1, .slice A0_2 n2 c0_2, .slice A0_3 n3 c0_3] 77) := ⟨_, rfl⟩
 have hBA : Below w.heap.size w WA := hWA ▸ HB0.out
 have k0 : WA.cell? ⟨w.heap.size, 0, none⟩ = some (.slice A0_0 n0 c0_0) := by rw [hWA, World.cell?_alloc_at _ _ _ _ rfl]; rfl
 have k1 : WA.cell? ⟨w.heap.size, 1, none⟩ = some (.int .i64 a0_1) := by rw [hWA, World.cell?_alloc_at _ _ _ _ rfl]; rfl
 have k2 : WA.cell? ⟨w.heap.size, 2, none⟩ = some (.slice A0_2 n2 c0_2) := by rw [hWA, World.cell?_alloc_at _ _ _ _ rfl]; rfl
 have k3 : WA.cell? ⟨w.heap.size, 3, none⟩ = some (.slice A0_3 n3 c0_3) := by rw [hWA, World.cell?_alloc_at _ _ _ _ rfl]; rfl
 have hsA : w.heap.size < WA.heap.size := by rw [hWA]; simp
 have HWA := am hWA
 clear hWA HB0
 go_enter Try.func41, Try.ntmps41
 go_wp2_with fail
 rw [← HWA.out]
 go_wp2_with fail
 refine (H0.out _ hBA).mono ?_
 rintro e w1 ⟨rfl, hb⟩
 have m0 : w1.cell? ⟨w.heap.size, 0, none⟩ = some (.slice A0_0 n0 c0_0) := (hb.cell (p := ⟨w.heap.size, 0, none⟩) hsA).trans k0
 have m1 : w1.cell? ⟨w.heap.size, 1, none⟩ = some (.int .i64 a0_1) := (hb.cell (p := ⟨w.heap.size, 1, none⟩) hsA).trans k1
 have m2 : w1.cell? ⟨w.heap.size, 2, none⟩ = some (.slice A0_2 n2 c0_2) := (hb.cell (p := ⟨w.heap.size, 2, none⟩) hsA).trans k2
 have m3 : w1.cell? ⟨w.heap.size, 3, none⟩ = some (.slice A0_3 n3 c0_3) := (hb.cell (p := ⟨w.heap.size, 3, none⟩) hsA).trans k3
 have hs1 : w.heap.size < w1.heap.size := Nat.lt_of_lt_of_le hsA hb.size
 have HB1 := am (qAw hBA hBA.size hb)
 clear hb k0 k1 k2 k3
 cases b0 with
 | false =>
  obtain rfl : r = false := by rw [← h]; simp
  clear h
  go_wp2
  go_ret
  exact ⟨rfl, HB1.out⟩
 | true =>
  by_cases c3 : a0_1 = 0
  ·have c3' : (a0_1 == 0) = true := beq_iff_eq.mpr c3
   simp only [c3', Bool.true_or, Bool.and_true] at h
   clear c3
   by_cases c5 : n2 ≤ 64
   case neg =>
    obtain rfl : r = false := by rw [← h]; simp [c5]
    clear h
    go_wp2
    go_ret
    exact ⟨rfl, HB1.out⟩
   go_wp2_with fail
   refine (H2.out _ HB1.out).mono ?_
   rintro e w2 ⟨rfl, hb⟩
   have p3 : w2.cell? ⟨w.heap.size, 3, none⟩ = some (.slice A0_3 n3 c0_3) := (hb.cell (p := ⟨w.heap.size, 3, none⟩) hs1).trans m3
   have HB2 := am (qAw HB1.out HB1.out.size hb)
   clear hb m0 m1 m2 m3
   cases b2 with
   | false =>
    obtain rfl : r = false := by rw [← h]; simp
    clear h
    go_wp2
    go_ret
    exact ⟨rfl, HB2.out⟩
   | true =>
    by_cases c6 : n3 ≤ 4096
    case neg =>
     obtain rfl : r = false := by rw [← h]; simp [c6]
     clear h
     go_wp2
     go_ret
     exact ⟨rfl, HB2.out⟩
    obtain rfl : r = !b3 := by rw [← h]; simp [c1, c5, c6]
    clear h
    go_wp2_with fail
    refine (H3.out _ HB2.out).mono ?_
    rintro e w3 ⟨rfl, hb⟩
    have HB3 := am (qAw HB2.out HB2.out.size hb)
    clear hb
    go_wp2
    go_ret
    exact ⟨rfl, HB3.out⟩
  have c3' : (a0_1 == 0) = false := beq_eq_false_iff_ne.mpr c3
  obtain ⟨b1, hb1⟩ : ∃ b, b = okT a0_1 := ⟨_, rfl⟩
  rw [← hb1] at HV h
  clear hb1
  go_wp2_with fail
  refine (HV.out _).mono ?_
  rintro e w1x ⟨rfl, rfl⟩
  cases b1 with
  | false =>
   obtain rfl : r = false := by rw [← h]; simp [c3']
   clear h
   go_wp2
   go_ret
   exact ⟨rfl, HB1.out⟩
  | true =>
   simp only [c3', Bool.false_or, Bool.and_true] at h
   by_cases c5 : n2 ≤ 64
   case neg =>
    obtain rfl : r = false := by rw [← h]; simp [c5]
    clear h
    go_wp2
    go_ret
    exact ⟨rfl, HB1.out⟩
   go_wp2_with fail
   refine (H2.out _ HB1.out).mono ?_
   rintro e w2 ⟨rfl, hb⟩
   have p3 : w2.cell? ⟨w.heap.size, 3, none⟩ = some (.slice A0_3 n3 c0_3) := (hb.cell (p := ⟨w.heap.size, 3, none⟩) hs1).trans m3
   have HB2 := am (qAw HB1.out HB1.out.size hb)
   clear hb m0 m1 m2 m3
   cases b2 with
   | false =>
    obtain rfl : r = false := by rw [← h]; simp
    clear h
    go_wp2
    go_ret
    exact ⟨rfl, HB2.out⟩
   | true =>
    by_cases c6 : n3 ≤ 4096
    case neg =>
     obtain rfl : r = false := by rw [← h]; simp [c6]
     clear h
     go_wp2
     go_ret
     exact ⟨rfl, HB2.out⟩
    obtain rfl : r = !b3 := by rw [← h]; simp [c1, c5, c6]
    clear h
    go_wp2_with fail
    refine (H3.out _ HB2.out).mono ?_
    rintro e w3 ⟨rfl, hb⟩
    have HB3 := am (qAw HB2.out HB2.out.size hb)
    clear hb
    go_wp2
    go_ret
    exact ⟨rfl, HB3.out⟩
def bareB (r p : S82) : Bool := r.f0 == p.f0 && (r.f1 == p.f1 && r.f2 == p.f2)
theorem bare_any (a0 a1 a2 b0 b1 b2 : Int) (a3 a4 b3 b4 : ByteArray) (w : World) : Calls Try.prog 93 #[.agg #[.int .i64 a0, .int .i64 a1, .int .i64 a2, .string a3, .string a4], .agg #[.int .i64 b0, .int .i64 b1, .int .i64 b2, .string b3, .string b4]] w fun e w' => e = .returned (.bool (a0 == b0 && (a1 == b1 && a2 == b2))) ∧ Below w.heap.size w w' := by
 cases h0 : a0 == b0 with
 | false =>
  go_enter Try.func93, Try.ntmps93
  go_wp2
  go_ret
  exact ⟨rfl, ((Below.refl _ _).alloc (Nat.le_refl _) _).alloc (by simp) _⟩
 | true =>
  cases h1 : a1 == b1 with
  | false =>
   go_enter Try.func93, Try.ntmps93
   go_wp2
   go_ret
   exact ⟨rfl, ((Below.refl _ _).alloc (Nat.le_refl _) _).alloc (by simp) _⟩
  | true =>
   obtain ⟨b, hb⟩ : ∃ b, b = (a2 == b2) := ⟨_, rfl⟩
   rw [← hb]
   have hb' := hb.symm
   clear hb
   go_enter Try.func93, Try.ntmps93
   go_wp2
   go_ret
   exact ⟨rfl, ((Below.refl _ _).alloc (Nat.le_refl _) _).alloc (by simp) _⟩
def qB4 : List S82 → List S82 → Bool
 | [], [] => true
 | x :: xs, y :: ys => bareB x y && qB4 xs ys
 | _, _ => false
theorem qDg : ∀ (a b : List S82), qB4 a b = true → a.length = b.length
 | [], [], _ => rfl
 | [], _ :: _, h => by cases h
 | _ :: _, [], h => by cases h
 | x :: xs, y :: ys, h => by simp only [qB4, Bool.and_eq_true] at h; simp [qDg xs ys h.2]
theorem qDG : ∀ (a b : List S82), a.length = b.length → (∀ (j : Nat) x y, a[j]? = some x → b[j]? = some y → bareB x y = true) → qB4 a b = true
 | [], [], _, _ => rfl
 | [], _ :: _, h, _ => by simp at h
 | _ :: _, [], h, _ => by simp at h
 | x :: xs, y :: ys, hl, h => by
  simp only [qB4, Bool.and_eq_true]
  exact ⟨h 0 x y rfl rfl, qDG xs ys (by simpa using hl) fun j u v hu hv => h (j + 1) u v (by simpa using hu) (by simpa using hv)⟩
theorem qDs : ∀ (a b : List S82) (j : Nat) x y, a[j]? = some x → b[j]? = some y → bareB x y = false → qB4 a b = false
 | [], _, j, x, y, h, _, _ => by simp at h
 | _ :: _, [], j, x, y, _, h, _ => by simp at h
 | x :: xs, y :: ys, 0, u, v, hu, hv, h => by
  simp only [List.getElem?_cons_zero, Option.some.injEq] at hu hv
  subst hu; subst hv
  simp [qB4, h]
 | x :: xs, y :: ys, j + 1, u, v, hu, hv, h => by
  simp only [List.getElem?_cons_succ] at hu hv
  simp [qB4, qDs xs ys j u v hu hv h]
theorem eqf_any (A1 A2 : Option Addr) (c1 c2 : Nat) (l1 l2 : List S82) (w : World) (hr1 : Kd.C k82 w A1 l1.length l1) (hr2 : Kd.C k82 w A2 l2.length l2) (hl : l1.length ≤ 4611686018427387904) :
  Calls Try.prog 94 #[.slice A1 l1.length c1, .slice A2 l2.length c2, .func (.func 93) #[] #[]] w fun e w' => e = .returned (.bool (qB4 l1 l2)) ∧ Below w.heap.size w w' := by
 obtain ⟨n1, hn1⟩ : ∃ n, n = l1.length := ⟨_, rfl⟩
 obtain ⟨n2, hn2⟩ : ∃ n, n = l2.length := ⟨_, rfl⟩
 rw [← hn1] at hr1 hl ⊢
 rw [← hn2] at hr2 ⊢
 have HR1 := am hr1
 have HR2 := am hr2
 have HN1 := am hn1
 have HN2 := am hn2
 clear hr1 hr2 hn1 hn2
 by_cases hne : n1 = n2
 case neg =>
  have hq : ((n1 : Int) != (n2 : Int)) = true := bne_iff_ne.mpr (by omega)
  have HF : qAf (qB4 l1 l2 = false) := ⟨by
    cases h : qB4 l1 l2 with
    | false => rfl
    | true => exact absurd (by rw [HN1.out, HN2.out]; exact qDg _ _ h) hne⟩
  go_enter Try.func94, Try.ntmps94
  go_wp2
  go_ret
  exact ⟨by rw [HF.out]; rfl, Below.refl _ _⟩
 subst hne
 have hq : ((n1 : Int) != (n1 : Int)) = false := bne_eq_false_iff_eq.mpr rfl
 go_enter Try.func94, Try.ntmps94
 go_wp2
 go_loopg [7, 8, 9, 17] n1 (fun gg _ _ _ s17 wr => ∃ kk : Nat, kk ≤ n1 ∧ n1 - kk ≤ gg ∧ s17 = .int .i64 kk ∧ qAf (∀ (j : Nat) x y, j < kk → l1[j]? = some x → l2[j]? = some y → bareB x y = true) ∧ qAf (Below w.heap.size w wr))
 case atStart => exact ⟨0, Nat.zero_le _, by omega, rfl, ⟨fun j x y hj => absurd hj (Nat.not_lt_zero _)⟩, ⟨Below.refl _ _⟩⟩
 case round =>
  obtain ⟨kk, hkk, hg, rfl, HA, HB⟩ := hrel
  by_cases hlt : kk < n1
  rotate_left
  ·have hltz : ¬ (kk : Int) < (n1 : Int) := by omega
   have : kk = n1 := by omega
   subst this
   go_wp2
   go_ret
   refine ⟨?_, HB.out⟩
   rw [qDG l1 l2 (by rw [← HN1.out, ← HN2.out]) fun j x y hx hy => HA.out j x y (by rw [HN1.out]; exact (List.getElem?_eq_some_iff.1 hx).1) hx hy]
   rfl
  have hltz : (kk : Int) < (n1 : Int) := by omega
  have h0 : (0 : Int) ≤ (kk : Int) := by omega
  obtain ⟨ad, ea, hx0, hx1, hx2, hx3, hx4⟩ := at_T82 HR1.out (kk : Int) h0 hltz
  subst ea
  obtain ⟨bd, eb, hy0, hy1, hy2, hy3, hy4⟩ := at_T82 HR2.out (kk : Int) h0 hltz
  subst eb
  rw [Int.toNat_natCast] at hx0 hx1 hx2 hx3 hx4 hy0 hy1 hy2 hy3 hy4
  replace hx0 := cb HB hx0
  replace hx1 := cb HB hx1
  replace hx2 := cb HB hx2
  replace hx3 := cb HB hx3
  replace hx4 := cb HB hx4
  replace hy0 := cb HB hy0
  replace hy1 := cb HB hy1
  replace hy2 := cb HB hy2
  replace hy3 := cb HB hy3
  replace hy4 := cb HB hy4
  obtain ⟨x, hx⟩ : ∃ x, x = qCw l1 (kk : Int) := ⟨_, rfl⟩
  obtain ⟨y, hy⟩ : ∃ x, x = qCw l2 (kk : Int) := ⟨_, rfl⟩
  rw [← hx] at hx0 hx1 hx2 hx3 hx4
  rw [← hy] at hy0 hy1 hy2 hy3 hy4
  have HX : qAf (l1[kk]? = some x) := ⟨by rw [hx]; exact qCk l1 z82 kk (by have := HN1.out; omega)⟩
  have HY : qAf (l2[kk]? = some y) := ⟨by rw [hy]; exact qCk l2 z82 kk (by have := HN2.out; omega)⟩
  clear hx hy
  obtain ⟨x0, x1, x2, x3, x4⟩ := x
  obtain ⟨y0, y1, y2, y3, y4⟩ := y
  dsimp only at hx0 hx1 hx2 hx3 hx4 hy0 hy1 hy2 hy3 hy4
  have HC := am (fun W => bare_any x0 x1 x2 y0 y1 y2 x3 x4 y3 y4 W)
  have hbl : (bd.add (kk * 5)).block < wr.heap.size := World.block_lt_of_cell? wr _ hy0
  obtain ⟨b, hb⟩ : ∃ b, b = (x0 == y0 && (x1 == y1 && x2 == y2)) := ⟨_, rfl⟩
  rw [← hb] at HC
  have HQ := am hb
  clear hb
  cases b with
  | false =>
   go_wp2_with (go_at_call 93; refine (HC.out _).mono ?_; rintro e w1 ⟨rfl, hw⟩; have HB2 := am (qAw HB.out HB.out.size ((((Below.refl wr.heap.size wr).alloc (Nat.le_refl _) _).alloc (by simp) _).trans (hw.mono (by simp; omega)))); clear hw)
   go_ret
   refine ⟨?_, HB2.out⟩
   rw [qDs l1 l2 kk _ _ HX.out HY.out HQ.out.symm]; rfl
  | true =>
   go_wp2_with (go_at_call 93; refine (HC.out _).mono ?_; rintro e w1 ⟨rfl, hw⟩; have HB2 := am (qAw HB.out HB.out.size ((((Below.refl wr.heap.size wr).alloc (Nat.le_refl _) _).alloc (by simp) _).trans (hw.mono (by simp; omega)))); clear hw)
   go_roundg (n1 - (kk + 1))
   case measure => omega
   case rel =>
    refine ⟨kk + 1, by omega, by omega, by go_num, ⟨fun j u v hj hu hv => ?_⟩, HB2⟩
    by_cases e : j = kk
    rotate_left
    ·exact HA.out j u v (by omega) hu hv
    subst e
    rw [HX.out] at hu; rw [HY.out] at hv
    injection hu with hu; injection hv with hv; subst hu; subst hv
    exact HQ.out.symm
theorem qBJ {B : Nat} {a w : World} (h : Below B a w) (q : Nat) : Below B a (w.drewN q) := ⟨h.os, h.tape, h.output, h.size, h.block⟩
def qCD (fns : List S80) (p : S82) : Int := (qA0 (qAh fns p.f0).f1.f2 p.f1).f1
def placeIn (fns : List S80) (p : S82) : Prop := 0 ≤ p.f0 ∧ p.f0 < fns.length ∧ 0 ≤ p.f1 ∧ p.f1 < (qAh fns p.f0).f1.f2.length
theorem placeN_any (g : Nat) (a0 a1 a2 : Int) (a3 a4 : ByteArray) (fns : List S80) (AF : Option Addr) (cF : Nat) (w : World) (hg : w.cell? ⟨g, 2, none⟩ = some (.slice AF fns.length cF)) (hr : Kd.C k80 w AF fns.length fns)
  (hin : placeIn fns ⟨a0, a1, a2, a3, a4⟩) :
  Calls Try.prog 96 #[.agg #[.int .i64 a0, .int .i64 a1, .int .i64 a2, .string a3, .string a4], .pointer (some ⟨g, 0, none⟩)] w fun e w' => e = .returned (.bool (qCD fns ⟨a0, a1, a2, a3, a4⟩ != 0)) ∧ Below w.heap.size w w' := by
 obtain ⟨h0, h0', h1, h1'⟩ := hin
 dsimp only at h0 h0' h1 h1'
 obtain ⟨ad, A1, c1, A3, c3, A4, c4, ea, hx0, hx1, hx2, hx3, hx4, hl1, hC1, hl3, hC3, hl4, hC4⟩ := at_T80 hr a0 h0 h0'
 subst ea
 obtain ⟨bd, eb, hy0, hy1, hy2, hy3⟩ := at_T115 hC4 a1 h1 h1'
 subst eb
 have hbA : (ad.add (a0.toNat * 5)).block < w.heap.size := World.block_lt_of_cell? w _ hx0
 have hbB : (bd.add (a1.toNat * 4)).block < w.heap.size := World.block_lt_of_cell? w _ hy0
 have hbg : g < w.heap.size := World.block_lt_of_cell? w _ hg
 show Calls _ _ _ _ fun e w' => e = .returned (.bool ((qA0 (qAh fns a0).f1.f2 a1).f1 != 0)) ∧ Below w.heap.size w w'
 obtain ⟨q, hq⟩ : ∃ q, q = (qA0 (qAh fns a0).f1.f2 a1).f1 := ⟨_, rfl⟩
 rw [← hq] at hy1 ⊢
 obtain ⟨nf, hnf⟩ : ∃ q, q = fns.length := ⟨_, rfl⟩
 rw [← hnf] at h0' hg
 obtain ⟨nc, hnc⟩ : ∃ q, q = (qAh fns a0).f1.f2.length := ⟨_, rfl⟩
 rw [← hnc] at h1' hx4
 clear hq hnf hnc hC1 hC3 hC4 hl1 hl3 hl4 hr hx0 hx1 hx2 hx3 hy0 hy2 hy3
 go_enter Try.func96, Try.ntmps96
 go_wp2
 go_quiet (fail)
 go_wp2
 go_ret
 exact ⟨rfl, qBJ ((Below.refl _ _).alloc (Nat.le_refl _) _) _⟩
theorem idx_places (g : Nat) (fns : List S80) (AF : Option Addr) (cF : Nat) (A : Option Addr) (c : Nat) (l : List S82) (w : World) (hg : w.cell? ⟨g, 2, none⟩ = some (.slice AF fns.length cF)) (hrF : Kd.C k80 w AF fns.length fns) (hr : Kd.C k82 w A l.length l) (hl : l.length ≤ 4611686018427387904) (hu : ∀ x ∈ l, placeIn fns x) :
  Calls Try.prog 114 #[.slice A l.length c, .func (.func 96) #[] #[.pointer (some ⟨g, 0, none⟩)]] w (IdxPost (l.any fun x => qCD fns x != 0) w) := by
 obtain ⟨n, hn⟩ : ∃ n, n = l.length := ⟨_, rfl⟩
 rw [← hn]
 have HR := am hr
 have HN := am hn
 have HU := am hu
 have hgl : g < w.heap.size := World.block_lt_of_cell? w _ hg
 have HF : qAf (∀ W x, Below w.heap.size w W → x ∈ l → Calls Try.prog 96 #[.agg #[.int .i64 x.f0, .int .i64 x.f1, .int .i64 x.f2, .string x.f3, .string x.f4], .pointer (some ⟨g, 0, none⟩)] W fun e w' => e = .returned (.bool (qCD fns x != 0)) ∧ Below W.heap.size W w') := ⟨fun W x hW hx => placeN_any g x.f0 x.f1 x.f2 x.f3 x.f4 fns AF cF W ((hW.cell (p := ⟨g, 2, none⟩) hgl).trans hg) (Kd.C_below hrF hW) (hu x hx)⟩
 rw [← hn] at hl
 clear hr hn hu hg hrF
 go_enter Try.func114, Try.ntmps114
 go_wp2
 go_loopg [5, 8] n (fun gg _ s8 wr => ∃ kk : Nat, kk ≤ n ∧ n - kk ≤ gg ∧ s8 = .int .i64 kk ∧ qAf (∀ (j : Nat) x, j < kk → l[j]? = some x → (qCD fns x != 0) = false) ∧ qAf (Below w.heap.size w wr))
 case atStart => exact ⟨0, Nat.zero_le _, by omega, rfl, ⟨fun j x hj => absurd hj (Nat.not_lt_zero _)⟩, ⟨Below.refl _ _⟩⟩
 case round =>
  obtain ⟨kk, hkk, hg, rfl, HA, HB⟩ := hrel
  by_cases hlt : kk < n
  rotate_left
  ·have hltz : ¬ (kk : Int) < (n : Int) := by omega
   have : kk = n := by omega
   subst this
   go_wp2
   go_ret
   refine ⟨-1, rfl, ?_, HB.out⟩
   rw [qD4 _ l fun j x hj => HA.out j x (by rw [HN.out]; exact (List.getElem?_eq_some_iff.1 hj).1) hj]
   simp
  have hltz : (kk : Int) < (n : Int) := by omega
  have h0 : (0 : Int) ≤ (kk : Int) := by omega
  obtain ⟨ad, ea, hx0, hx1, hx2, hx3, hx4⟩ := at_T82 HR.out (kk : Int) h0 (by have := HN.out; omega)
  subst ea
  rw [Int.toNat_natCast] at hx0 hx1 hx2 hx3 hx4
  replace hx0 := cb HB hx0
  replace hx1 := cb HB hx1
  replace hx2 := cb HB hx2
  replace hx3 := cb HB hx3
  replace hx4 := cb HB hx4
  obtain ⟨x, hx⟩ : ∃ x, x = qCw l (kk : Int) := ⟨_, rfl⟩
  rw [← hx] at hx0 hx1 hx2 hx3 hx4
  have HX : qAf (l[kk]? = some x) := ⟨by rw [hx]; exact qCk l z82 kk (by have := HN.out; omega)⟩
  clear hx
  have HC := am (HF.out wr x HB.out (List.mem_of_getElem? HX.out))
  obtain ⟨b, hb⟩ : ∃ b, b = (qCD fns x != 0) := ⟨_, rfl⟩
  rw [← hb] at HC
  have HQ := am hb
  clear hb
  cases b with
  | true =>
   go_wp2_with (go_at_call 96; refine (HC.out).mono ?_; rintro e w1 ⟨rfl, hw⟩; have HB1 := am (qAw HB.out HB.out.size hw); clear hw)
   go_ret
   exact ⟨kk, rfl, ⟨fun _ => qDe _ l kk _ HX.out HQ.out.symm, fun _ => h0⟩, HB1.out⟩
  | false =>
   go_wp2_with (go_at_call 96; refine (HC.out).mono ?_; rintro e w1 ⟨rfl, hw⟩; have HB1 := am (qAw HB.out HB.out.size hw); clear hw)
   go_roundg (n - (kk + 1))
   case measure => omega
   case rel =>
    refine ⟨kk + 1, by omega, by omega, by go_num, ⟨fun j y hj hy => ?_⟩, HB1⟩
    by_cases e : j = kk
    rotate_left
    ·exact HA.out j y (by omega) hy
    subst e
    rw [HX.out] at hy; injection hy with hy; subst hy; exact HQ.out.symm
theorem has_places (g : Nat) (fns : List S80) (AF : Option Addr) (cF : Nat) (A : Option Addr) (c : Nat) (l : List S82) (w : World) (hg : w.cell? ⟨g, 2, none⟩ = some (.slice AF fns.length cF)) (hrF : Kd.C k80 w AF fns.length fns) (hr : Kd.C k82 w A l.length l) (hl : l.length ≤ 4611686018427387904) (hu : ∀ x ∈ l, placeIn fns x) :
  Calls Try.prog 95 #[.slice A l.length c, .func (.func 96) #[] #[.pointer (some ⟨g, 0, none⟩)]] w fun e w' => e = .returned (.bool (l.any fun x => qCD fns x != 0)) ∧ Below w.heap.size w w' := by
 have HI := am (idx_places g fns AF cF A c l w hg hrF hr hl hu)
 obtain ⟨b, hb⟩ : ∃ b, b = l.any fun x => qCD fns x != 0 := ⟨_, rfl⟩
 rw [← hb] at HI ⊢
 clear hb hr hl hu hg hrF
 go_enter Try.func95, Try.ntmps95
 go_wp2_with (go_at_call 114; refine (HI.out).mono ?_; rintro e w1 ⟨i, rfl, hi, hw⟩; have HB := am hw; have HQ := am hi; clear hi hw)
 go_ret
 refine ⟨?_, HB.out⟩
 have := HQ.out
 congr 2
 cases b <;> simp_all
end Q
end
section
namespace Names
open Go.RowKit Base
def qAF (c : Int) : Bool := decide ((97 ≤ c ∧ c ≤ 122) ∨ (65 ≤ c ∧ c ≤ 90) ∨ c = 95)
def okDigit (c : Int) : Bool := decide (48 ≤ c ∧ c ≤ 57)
def words : List (List UInt8) := [[98, 111, 111, 108], [99, 97, 116, 99, 104], [99, 111, 110, 115, 116], [101, 108, 115, 101], [101, 120, 112, 111, 114, 116], [102, 97, 105, 108], [102, 97, 108, 115, 101], [102, 108, 111, 97, 116], [102, 110], [105, 102], [105, 109, 112, 111, 114, 116], [105, 110, 102], [105, 110, 112, 117, 116], [105, 110, 116], [108, 101, 116], [109, 111, 100, 117, 108, 101], [110, 97, 110], [114, 101, 116, 117, 114, 110], [115, 104, 111, 119], [116, 114, 117, 101], [116, 114, 121], [118, 97, 114], [119, 104, 105, 108, 101]]
def qCe (s : ByteArray) : Bool := words.any fun x => s.toList == x
def qBK (s : ByteArray) (k : Nat) : Int := if h : k < s.size then (s[k].toNat : Int) else 0
theorem byteAt_eq (s : ByteArray) (k : Nat) (h : k < s.size) : qBK s k = (s[k].toNat : Int) := by unfold qBK; rw [dif_pos h]
def good (s : ByteArray) (k : Nat) : Bool := qAF (qBK s k) || okDigit (qBK s k)
def nameE (s : ByteArray) : Int :=
 if s.size = 0 then 12
 else if qAF (qBK s 0) = false then 12
 else if ¬ ∀ k, k < s.size → good s k = true then 12
 else if 32 < s.size then 3
 else if qCe s = true then 12
 else 0
theorem nameE_empty {s : ByteArray} (h : s.size = 0) : nameE s = 12 := by unfold nameE; rw [if_pos h]
theorem nameE_first {s : ByteArray} (h : s.size ≠ 0) (h1 : qAF (qBK s 0) = false) : nameE s = 12 := by unfold nameE; rw [if_neg h, if_pos h1]
theorem nameE_bad {s : ByteArray} (h : s.size ≠ 0) (h1 : qAF (qBK s 0) = true) (k : Nat) (hk : k < s.size) (hb : good s k = false) : nameE s = 12 := by
 unfold nameE; rw [if_neg h, if_neg (by simp [h1]), if_pos (fun hh => by have := hh k hk; rw [hb] at this; cases this)]
theorem nameE_big {s : ByteArray} (h : s.size ≠ 0) (h1 : qAF (qBK s 0) = true) (hg : ∀ k, k < s.size → good s k = true) (hb : 32 < s.size) : nameE s = 3 := by
 unfold nameE; rw [if_neg h, if_neg (by simp [h1]), if_neg (by simpa using hg), if_pos hb]
theorem nameE_res {s : ByteArray} (h : s.size ≠ 0) (h1 : qAF (qBK s 0) = true) (hg : ∀ k, k < s.size → good s k = true) (hb : ¬ 32 < s.size) (hr : qCe s = true) : nameE s = 12 := by
 unfold nameE; rw [if_neg h, if_neg (by simp [h1]), if_neg (by simpa using hg), if_neg hb, if_pos hr]
theorem nameE_ok {s : ByteArray} (h : s.size ≠ 0) (h1 : qAF (qBK s 0) = true) (hg : ∀ k, k < s.size → good s k = true) (hb : ¬ 32 < s.size) (hr : qCe s = false) : nameE s = 0 := by
 unfold nameE; rw [if_neg h, if_neg (by simp [h1]), if_neg (by simpa using hg), if_neg hb, if_neg (by simp [hr])]
theorem size_le_of_ok {s : ByteArray} (h : nameE s = 0) : s.size ≤ 32 := by
 unfold nameE at h
 (repeat' split at h) <;> omega
theorem letter_any (c : Int) (w : World) : Calls Try.prog 81 #[.int .u8 c] w fun e w' => e = .returned (.bool (qAF c)) ∧ w = w' := by
 have hr : (c < 65) ∨ (65 ≤ c ∧ c ≤ 90) ∨ (91 ≤ c ∧ c ≤ 94) ∨ (c = 95) ∨ (c = 96) ∨ (97 ≤ c ∧ c ≤ 122) ∨ (123 ≤ c) := by omega
 rcases hr with h | h | h | h | h | h | h
 ·have e : qAF c = false := by unfold qAF; simp; omega
  rw [e]
  have b1 : decide (97 ≤ c) = false := decide_eq_false (by omega)
  have b3 : decide (65 ≤ c) = false := decide_eq_false (by omega)
  have b5 : (c == 95) = false := beq_eq_false_iff_ne.mpr (by omega)
  clear e h
  go_enter Try.func81, Try.ntmps81
  go_wp2
  go_ret
  exact ⟨rfl, rfl⟩
 ·have e : qAF c = true := by unfold qAF; simp; omega
  rw [e]
  have b1 : decide (97 ≤ c) = false := decide_eq_false (by omega)
  have b3 : decide (65 ≤ c) = true := decide_eq_true (by omega)
  have b4 : decide (c ≤ 90) = true := decide_eq_true (by omega)
  clear e h
  go_enter Try.func81, Try.ntmps81
  go_wp2
  go_ret
  exact ⟨rfl, rfl⟩
 ·have e : qAF c = false := by unfold qAF; simp; omega
  rw [e]
  have b1 : decide (97 ≤ c) = false := decide_eq_false (by omega)
  have b3 : decide (65 ≤ c) = true := decide_eq_true (by omega)
  have b4 : decide (c ≤ 90) = false := decide_eq_false (by omega)
  have b5 : (c == 95) = false := beq_eq_false_iff_ne.mpr (by omega)
  clear e h
  go_enter Try.func81, Try.ntmps81
  go_wp2
  go_ret
  exact ⟨rfl, rfl⟩
 ·have e : qAF c = true := by unfold qAF; simp; omega
  rw [e]
  have b1 : decide (97 ≤ c) = false := decide_eq_false (by omega)
  have b3 : decide (65 ≤ c) = true := decide_eq_true (by omega)
  have b4 : decide (c ≤ 90) = false := decide_eq_false (by omega)
  have b5 : (c == 95) = true := beq_iff_eq.mpr h
  clear e h
  go_enter Try.func81, Try.ntmps81
  go_wp2
  go_ret
  exact ⟨rfl, rfl⟩
 ·have e : qAF c = false := by unfold qAF; simp; omega
  rw [e]
  have b1 : decide (97 ≤ c) = false := decide_eq_false (by omega)
  have b3 : decide (65 ≤ c) = true := decide_eq_true (by omega)
  have b4 : decide (c ≤ 90) = false := decide_eq_false (by omega)
  have b5 : (c == 95) = false := beq_eq_false_iff_ne.mpr (by omega)
  clear e h
  go_enter Try.func81, Try.ntmps81
  go_wp2
  go_ret
  exact ⟨rfl, rfl⟩
 ·have e : qAF c = true := by unfold qAF; simp; omega
  rw [e]
  have b1 : decide (97 ≤ c) = true := decide_eq_true (by omega)
  have b2 : decide (c ≤ 122) = true := decide_eq_true (by omega)
  clear e h
  go_enter Try.func81, Try.ntmps81
  go_wp2
  go_ret
  exact ⟨rfl, rfl⟩
 have e : qAF c = false := by unfold qAF; simp; omega
 rw [e]
 have b1 : decide (97 ≤ c) = true := decide_eq_true (by omega)
 have b2 : decide (c ≤ 122) = false := decide_eq_false (by omega)
 have b3 : decide (65 ≤ c) = true := decide_eq_true (by omega)
 have b4 : decide (c ≤ 90) = false := decide_eq_false (by omega)
 have b5 : (c == 95) = false := beq_eq_false_iff_ne.mpr (by omega)
 clear e h
 go_enter Try.func81, Try.ntmps81
 go_wp2
 go_ret
 exact ⟨rfl, rfl⟩
theorem reserved_any (s : ByteArray) (w : World) : Calls Try.prog 82 #[.string s] w fun e w' => e = .returned (.bool (qCe s)) ∧ w = w' := by
 have hr : Hid (qCe s = (words.any fun x => s.toList == x)) := hid rfl
 go_enter Try.func82, Try.ntmps82
 go_wp2
 all_goals go_ret
 all_goals exact ⟨by rw [hr.out]; first | (simp [words, *]; done) | (simp_all [words]; done), rfl⟩
theorem qBD (c : Int) (v : Bool) (h : qAF c = v) (w : World) : Calls Try.prog 81 #[.int .u8 c] w fun e w' => e = .returned (.bool v) ∧ w = w' := h ▸ letter_any c w
theorem qDv (s : ByteArray) (v : Bool) (h : qCe s = v) (w : World) : Calls Try.prog 82 #[.string s] w fun e w' => e = .returned (.bool v) ∧ w = w' := h ▸ reserved_any s w
theorem right_any (s : ByteArray) (w : World) (hs : s.size ≤ 140737488351232) : Calls Try.prog 38 #[.string s] w fun e w' => e = .returned (.int .i64 (nameE s)) ∧ w = w' := by
 by_cases h0 : s.size = 0
 ·rw [nameE_empty h0]
  obtain rfl : s = ⟨#[]⟩ := ByteArray.ext (Array.eq_empty_of_size_eq_zero h0)
  go_enter Try.func38, Try.ntmps38
  go_wp2
  go_ret
  exact ⟨rfl, rfl⟩
 have hp : 0 < s.size := by omega
 have he : s.toList.isEmpty = false := toList_ne h0
 have hb0 := byteAt_eq s 0 hp
 cases hl : qAF (qBK s 0) with
 | false =>
  rw [nameE_first h0 hl]
  rw [hb0] at hl
  have HL : Hid (qAF ((s[0]'hp).toNat : Int) = false) := hid hl
  clear hl hb0
  go_enter Try.func38, Try.ntmps38
  go_wp2_with (go_at_call 81; refine (qBD _ _ HL.out _).mono ?_; rintro e w' ⟨rfl, rfl⟩)
  go_ret
  exact ⟨rfl, rfl⟩
 | true =>
  have HN : Hid (qAF (qBK s 0) = true) := hid hl
  rw [hb0] at hl
  have HL : Hid (qAF ((s[0]'hp).toNat : Int) = true) := hid hl
  clear hl hb0
  go_enter Try.func38, Try.ntmps38
  go_wp2_with (go_at_call 81; refine (qBD _ _ HL.out _).mono ?_; rintro e w' ⟨rfl, rfl⟩)
  go_loop [14] (fun i => ∃ k : Nat, k ≤ s.size ∧ i = .int .i64 k ∧ Hid (∀ j, j < k → good s j = true)) (fun i => s.size - (intOf i).toNat)
  case atStart => exact ⟨0, Nat.zero_le _, rfl, hid fun j hj => absurd hj (by omega)⟩
  case round =>
   obtain ⟨k, hk, rfl, hall⟩ := hrel
   by_cases hlt : k < s.size
   rotate_left
   ·have hkk : k = s.size := by omega
    subst hkk
    have HA : Hid (∀ j, j < s.size → good s j = true) := hall
    clear hall
    by_cases h32 : 32 < s.size
    ·have HE : Hid (nameE s = 3) := hid (nameE_big h0 HN.out HA.out h32)
     have b1 : decide ((32 : Int) < (s.size : Int)) = true := decide_eq_true (by omega)
     go_wp2_with fail
     go_ret
     exact ⟨by rw [HE.out]; rfl, rfl⟩
    have b1 : decide ((32 : Int) < (s.size : Int)) = false := decide_eq_false (by omega)
    cases hres : qCe s with
    | true =>
     have HE : Hid (nameE s = 12) := hid (nameE_res h0 HN.out HA.out h32 hres)
     have HR := hid hres
     clear hres
     go_wp2_with (go_at_call 82; refine (qDv _ _ HR.out _).mono ?_; rintro e w' ⟨rfl, rfl⟩)
     go_ret
     exact ⟨by rw [HE.out]; rfl, rfl⟩
    | false =>
     have HE : Hid (nameE s = 0) := hid (nameE_ok h0 HN.out HA.out h32 hres)
     have HR := hid hres
     clear hres
     go_wp2_with (go_at_call 82; refine (qDv _ _ HR.out _).mono ?_; rintro e w' ⟨rfl, rfl⟩)
     go_ret
     exact ⟨by rw [HE.out]; rfl, rfl⟩
   have hbk := byteAt_eq s k hlt
   cases hlet : qAF (qBK s k) with
   | true =>
    have HG : Hid (good s k = true) := hid (by unfold good; rw [hlet]; rfl)
    have HK : Hid (qAF ((s[k]'hlt).toNat : Int) = true) := hid (by rw [← hbk]; exact hlet)
    clear hlet hbk
    go_wp2_with (go_at_call 81; refine (qBD _ _ HK.out _).mono ?_; rintro e w' ⟨rfl, rfl⟩)
    go_round
    case rel => exact ⟨k + 1, by omega, by go_num, hid fun j hj => by
      by_cases e : j = k
      · rw [e]; exact HG.out
      · exact hall.out j (by omega)⟩
    case measure => simp [intOf]; omega
   | false =>
    have HK : Hid (qAF ((s[k]'hlt).toNat : Int) = false) := hid (by rw [← hbk]; exact hlet)
    cases hdig : okDigit (qBK s k) with
    | true =>
     have HG : Hid (good s k = true) := hid (by unfold good; rw [hdig]; simp)
     have hq := hdig
     rw [hbk] at hq
     have hq2 : 48 ≤ ((s[k]'hlt).toNat : Int) ∧ ((s[k]'hlt).toNat : Int) ≤ 57 := by simpa [okDigit] using hq
     have b1 : decide (((s[k]'hlt).toNat : Int) < 48) = false := decide_eq_false (by omega)
     have b2 : decide (57 < ((s[k]'hlt).toNat : Int)) = false := decide_eq_false (by omega)
     clear hq hq2
     clear hlet hbk hdig
     go_wp2_with (go_at_call 81; refine (qBD _ _ HK.out _).mono ?_; rintro e w' ⟨rfl, rfl⟩)
     go_round
     case rel => exact ⟨k + 1, by omega, by go_num, hid fun j hj => by
       by_cases e : j = k
       · rw [e]; exact HG.out
       · exact hall.out j (by omega)⟩
     case measure => simp [intOf]; omega
    | false =>
     have HE : Hid (nameE s = 12) := hid (nameE_bad h0 HN.out k hlt (by unfold good; rw [hlet, hdig]; rfl))
     have hq := hdig
     rw [hbk] at hq
     have hq2 : ¬ (48 ≤ ((s[k]'hlt).toNat : Int) ∧ ((s[k]'hlt).toNat : Int) ≤ 57) := by simpa [okDigit] using hq
     clear hlet hbk hdig hq
     by_cases hq3 : ((s[k]'hlt).toNat : Int) < 48
     ·have b1 : decide (((s[k]'hlt).toNat : Int) < 48) = true := decide_eq_true hq3
      clear hq2 hq3
      go_wp2_with (go_at_call 81; refine (qBD _ _ HK.out _).mono ?_; rintro e w' ⟨rfl, rfl⟩)
      go_ret
      exact ⟨by rw [HE.out]; rfl, rfl⟩
     have b1 : decide (((s[k]'hlt).toNat : Int) < 48) = false := decide_eq_false hq3
     have b2 : decide (57 < ((s[k]'hlt).toNat : Int)) = true := decide_eq_true (by omega)
     clear hq2 hq3
     go_wp2_with (go_at_call 81; refine (qBD _ _ HK.out _).mono ?_; rintro e w' ⟨rfl, rfl⟩)
     go_ret
     exact ⟨by rw [HE.out]; rfl, rfl⟩
end Names
end
section
namespace Q
open Go.RowKit PA PB PC
def qAJ.f (a0 : ByteArray) : Option (Int) := if a0.size ≤ 140737488351232 then some (Names.nameE a0) else none
theorem qAJ.calls (a0 : ByteArray) (r : Int) (w : World) (h : qAJ.f a0 = some r) :
  Calls Try.prog 38 #[.string a0] w fun e w' => e = .returned (.int .i64 r) ∧ qAH w w' := by
 unfold qAJ.f at h
 split at h
 case isFalse => cases h
 rename_i hs
 obtain rfl := Option.some.inj h
 exact (Names.right_any a0 w hs).mono fun e w' ⟨he, hw⟩ => ⟨he, hw ▸ qAH.refl _⟩
end Q
end
section
namespace Q
open Go.RowKit PA PB PC
attribute [local go_sem] qBd min2_int qBp min_two max_three min_three max_four min_four
mutual
def qAk.l0 : Nat → List (S82) → List (S80) → Int → Int → Option (List (S82))
 | 0, _, _, _, _ => none
 | k + 1, x3, x9, az, aj => if aj < az then (if 0 ≤ aj then (if aj < (x9.length : Int) then (qAk.l1 k x3 aj x9 az aj ((qAh x9 aj).f1.f2) (((qAh x9 aj).f1.f2).length : Int) 0) else (none)) else (none)) else (some x3)
def qAk.l1 : Nat → List (S82) → Int → List (S80) → Int → Int → List (S115) → Int → Int → Option (List (S82))
 | 0, _, _, _, _, _, _, _, _ => none
 | k + 1, x3, x4, x9, az, aj, ao, bg, ai => if ai < bg then (if 0 ≤ ai then (if ai < (ao.length : Int) then (if ((qA0 ao ai).f0) = 4 then (qAk.j2 k x3 x4 ai x9 az aj ao bg ai ((qA0 ao ai).f0) (((qA0 ao ai).f0) == 4)) else (qAk.j2 k x3 x4 ai x9 az aj ao bg ai ((qA0 ao ai).f0) (((qA0 ao ai).f0) == 5))) else (none)) else (none)) else (qAk.l0 k x3 x9 az (wrap64 (aj + 1)))
def qAk.j2 : Nat → List (S82) → Int → Int → List (S80) → Int → Int → List (S115) → Int → Int → Int → Bool → Option (List (S82))
 | 0, _, _, _, _, _, _, _, _, _, _, _ => none
 | k + 1, x3, x4, x6, x9, az, aj, ao, bg, ai, cV, cW => if cW = true then (if x3.length < 2513169434916 then (qAk.l1 k (x3 ++ [(⟨x4, x6, 1, (⟨#[]⟩ : ByteArray), (⟨#[]⟩ : ByteArray)⟩ : S82)]) x4 x9 az aj ao bg (wrap64 (ai + 1))) else (none)) else (if cV = 10 then (if x3.length < 2513169434916 then (qAk.l1 k (x3 ++ [(⟨x4, x6, 2, (⟨#[]⟩ : ByteArray), (⟨#[]⟩ : ByteArray)⟩ : S82)]) x4 x9 az aj ao bg (wrap64 (ai + 1))) else (none)) else (qAk.l1 k x3 x4 x9 az aj ao bg (wrap64 (ai + 1))))
end
def qAk.f (k : Nat) (a0_0 : ByteArray) (l0_1 : List (S71)) (l0_2 : List (S80)) (l0_3 : List (S82)) : Option (List (S82)) := qAk.l0 k ([] : List (S82)) l0_2 (l0_2.length : Int) 0
theorem qAk.calls (k : Nat) (a0_0 : ByteArray) (ab : Option Addr) (ad : Nat) (l0_1 : List (S71)) (ap : Option Addr) (ae : Nat) (l0_2 : List (S80)) (ac : Option Addr) (af : Nat) (l0_3 : List (S82)) (r : List (S82)) (w : World) (hr0_1 : Kd.C k71 w ab l0_1.length l0_1) (hc0_1 : l0_1.length ≤ ad) (hr0_2 : Kd.C k80 w ap l0_2.length l0_2) (hc0_2 : l0_2.length ≤ ae) (hr0_3 : Kd.C k82 w ac l0_3.length l0_3) (hc0_3 : l0_3.length ≤ af) (h : qAk.f k a0_0 l0_1 l0_2 l0_3 = some r) :
  Calls Try.prog 92 #[.agg #[.string a0_0, .slice ab l0_1.length ad, .slice ap l0_2.length ae, .slice ac l0_3.length af]] w fun e w' => ∃ v0_ : Value, e = .returned (v0_) ∧ Kd.R k82 82 w' w.heap.size (fun _ => True) v0_ r ∧ Below w.heap.size w w' := by
 clear hr0_1 hc0_1
 have bl := am hr0_2
 clear hr0_2 hc0_2 hr0_3 hc0_3
 have HB := am (Below.refl w.heap.size w)
 have H : (qAk.l0 k ([] : List (S82)) l0_2 (l0_2.length : Int) 0) = some r := h
 clear h
 have H' := am H
 clear H
 go_enter Try.func92, Try.ntmps92
 go_wp2_with ((with_reducible refine qAC (N := 1) rfl ?_); refine bx 1 #[.string a0_0, .slice ab l0_1.length ad, .slice ap l0_2.length ae, .slice ac l0_3.length af] 27 ?_; intro aU hg w2 hbox hb; have n_ := a2 (qAo HB.o hb) (am (hbox)); clear HB; obtain ⟨HB, aD⟩ := n_; clear hb hbox hg; have bW : w2.cell? ⟨aU, 0, none⟩ = some (.string a0_0) := (qAb aD.o 0).trans rfl; have bX : w2.cell? ⟨aU, 1, none⟩ = some (.slice ab l0_1.length ad) := (qAb aD.o 1).trans rfl; have bY : w2.cell? ⟨aU, 2, none⟩ = some (.slice ap l0_2.length ae) := (qAb aD.o 2).trans rfl; have bZ : w2.cell? ⟨aU, 3, none⟩ = some (.slice ac l0_3.length af) := (qAb aD.o 3).trans rfl; have b5 := qAc aD.o 0; have b6 := qAc aD.o 1; have b7 := qAc aD.o 2; have b8 := qAc aD.o 3)
 go_loopg [3, 11] k (fun kq v3 cQ w' => ∃ (bS : List (S82)) (aA : Int), cQ = .int .i64 aA ∧ qAf (qAk.l0 kq bS l0_2 (l0_2.length : Int) aA = some r) ∧ qAf (kq ≤ k) ∧ qAf (Kd.R k82 82 w' w.heap.size (fun _ => True) v3 bS) ∧ qAf (w'.heap[aU]? = some (.cells #[.string a0_0, (.slice ab l0_1.length ad), (.slice ap l0_2.length ae), (.slice ac l0_3.length af)] 27 (0, 0))) ∧ qAf (Below w.heap.size w w'))
 case atStart => exact ⟨([] : List (S82)), (0), (by rfl), H', ⟨Nat.le_refl _⟩, ⟨by (exact Kd.R_nil _ _ _ _ _)⟩, ⟨by exact aD.o⟩, ⟨by exact HB.o⟩⟩
 case round =>
  clear H'
  obtain ⟨bS, aA, rfl, HA, ax, aM, aD, HB⟩ := hrel
  cases gk with
  | zero => exact absurd HA.o (by simp [qAk.l0])
  | succ k1 =>
   have H := HA.o
   clear HA
   simp only [qAk.l0] at H
   by_cases c4 : aA < (l0_2.length : Int)
   rotate_left
   ·rw [if_neg c4] at H
    replace c4 := d0 c4
    obtain rfl := Option.some.inj H
    go_wp2
    go_ret
    exact ⟨_, by rfl, by exact aM.o, by exact HB.o⟩
   rw [if_pos c4] at H
   replace c4 := d1 c4
   obtain ⟨c5, H⟩ := gd H
   replace c5 := d1 c5
   obtain ⟨c6, H⟩ := gd H
   replace c6 := d1 c6
   have H' := am H
   clear H
   have bO : 0 ≤ aA := od (by assumption)
   have bQ : aA < (l0_2.length : Int) := od (by assumption)
   obtain ⟨ak, aR, aT, aV, aW, aq, aa, cL, aX, aY, aZ, a4, a5, bL, bJ, bM, bK, bN, al⟩ := at_T80 bl.o aA bO bQ
   cases cL
   replace aX := (HB.o.cell (World.block_lt_of_cell? w _ aX)).trans aX
   replace aY := (HB.o.cell (World.block_lt_of_cell? w _ aY)).trans aY
   replace aZ := (HB.o.cell (World.block_lt_of_cell? w _ aZ)).trans aZ
   replace a4 := (HB.o.cell (World.block_lt_of_cell? w _ a4)).trans a4
   replace a5 := (HB.o.cell (World.block_lt_of_cell? w _ a5)).trans a5
   clear bJ bL bK bM
   have bA := am al
   clear al bN
   replace bO := eq_true bO
   replace bQ := eq_true bQ
   go_wp2_with ((with_reducible refine qAC (N := 5) rfl ?_); refine bx 5 #[.string ⟨#[]⟩, .slice none 0 0, .int .i64 0, .slice none 0 0, .slice none 0 0] 80 ?_; intro aI hg w7 hbox hb; have n_ := a2 (Kd.R_below aM.o hb) (a2 (qAz aD.o hb) (a2 (qAo HB.o hb) (a2 (hbox) (a2 (by rw [hg]; exact (qAi HB.o) : w.heap.size ≤ aI) (am (by rw [hg]; exact Nat.ne_of_lt (qAO aD.o) : aU ≠ aI)))))); clear aM aD HB; obtain ⟨aM, aD, HB, aE, bi, aN⟩ := n_; clear hb hbox hg; have b0 : w7.cell? ⟨aI, 0, none⟩ = some (.string ⟨#[]⟩) := (qAb aE.o 0).trans rfl; have b1 : w7.cell? ⟨aI, 1, none⟩ = some (.slice none 0 0) := (qAb aE.o 1).trans rfl; have b2 : w7.cell? ⟨aI, 2, none⟩ = some (.int .i64 0) := (qAb aE.o 2).trans rfl; have b3 : w7.cell? ⟨aI, 3, none⟩ = some (.slice none 0 0) := (qAb aE.o 3).trans rfl; have b4 : w7.cell? ⟨aI, 4, none⟩ = some (.slice none 0 0) := (qAb aE.o 4).trans rfl; have b9 := qAc aE.o 0; have ba := qAc aE.o 1; have bb := qAc aE.o 2; have bc := qAc aE.o 3; have bd := qAc aE.o 4)
   go_loopg [3, 20] k1 (fun kq v3 cT w' => ∃ (aQ : List (S82)) (aC : Int), cT = .int .i64 aC ∧ qAf (qAk.l1 kq aQ aA l0_2 (l0_2.length : Int) aA ((qAh l0_2 aA).f1.f2) (((qAh l0_2 aA).f1.f2).length : Int) aC = some r) ∧ qAf (kq ≤ k1) ∧ qAf (Kd.R k82 82 w' w.heap.size (fun _ => True) v3 aQ) ∧ qAf (w'.heap[aU]? = some (.cells #[.string a0_0, (.slice ab l0_1.length ad), (.slice (some ak) l0_2.length ae), (.slice ac l0_3.length af)] 27 (0, 0))) ∧ qAf (w'.heap[aI]? = some (.cells #[.string ((qAh l0_2 aA).f0), (.slice aR ((qAh l0_2 aA).f1.f0.f0).length aT), .int .i64 ((qAh l0_2 aA).f1.f0.f1), (.slice aV ((qAh l0_2 aA).f1.f1).length aW), (.slice aq ((qAh l0_2 aA).f1.f2).length aa)] 80 (0, 0))) ∧ qAf (Below w.heap.size w w'))
   case atStart => exact ⟨(bS), (0), (by rfl), H', ⟨Nat.le_refl _⟩, ⟨by exact Kd.R_mono (Kd.R_far (p := ⟨aI, 4, none⟩) (Kd.R_far (p := ⟨aI, 3, none⟩) (Kd.R_far (p := ⟨aI, 2, none⟩) (Kd.R_far (p := ⟨aI, 1, none⟩) (Kd.R_far (p := ⟨aI, 0, none⟩) (Kd.R_types aM.o aE.o (by decide)) (fun _ hk => hk.2) (.string ((qAh l0_2 aA).f0))) (fun _ hk => hk.2) (.slice aR ((qAh l0_2 aA).f1.f0.f0).length aT)) (fun _ hk => hk.2) (.int .i64 ((qAh l0_2 aA).f1.f0.f1))) (fun _ hk => hk.2) (.slice aV ((qAh l0_2 aA).f1.f1).length aW)) (fun _ hk => hk.2) (.slice aq ((qAh l0_2 aA).f1.f2).length aa)) (fun _ hk => trivial)⟩, ⟨by refine qA4 ?_ aN.o _; refine qA4 ?_ aN.o _; refine qA4 ?_ aN.o _; refine qA4 ?_ aN.o _; refine qA4 ?_ aN.o _; exact aD.o⟩, ⟨by refine qAt (cs := #[.string ((qAh l0_2 aA).f0), .slice aR ((qAh l0_2 aA).f1.f0.f0).length aT, .int .i64 ((qAh l0_2 aA).f1.f0.f1), .slice aV ((qAh l0_2 aA).f1.f1).length aW, .slice none 0 0]) ?_ 4 _ rfl; refine qAt (cs := #[.string ((qAh l0_2 aA).f0), .slice aR ((qAh l0_2 aA).f1.f0.f0).length aT, .int .i64 ((qAh l0_2 aA).f1.f0.f1), .slice none 0 0, .slice none 0 0]) ?_ 3 _ rfl; refine qAt (cs := #[.string ((qAh l0_2 aA).f0), .slice aR ((qAh l0_2 aA).f1.f0.f0).length aT, .int .i64 0, .slice none 0 0, .slice none 0 0]) ?_ 2 _ rfl; refine qAt (cs := #[.string ((qAh l0_2 aA).f0), .slice none 0 0, .int .i64 0, .slice none 0 0, .slice none 0 0]) ?_ 1 _ rfl; refine qAt (cs := #[.string ⟨#[]⟩, .slice none 0 0, .int .i64 0, .slice none 0 0, .slice none 0 0]) ?_ 0 _ rfl; exact aE.o⟩, ⟨by repeat (with_reducible first | exact HB.o | refine qAq ?_ bi.o)⟩⟩
   case round =>
    clear H'
    obtain ⟨aQ, aC, rfl, HA, ay, aM, aD, aE, HB⟩ := hrel
    cases gk with
    | zero => exact absurd HA.o (by simp [qAk.l1])
    | succ k2 =>
     have H := HA.o
     clear HA
     simp only [qAk.l1] at H
     by_cases c10 : aC < (((qAh l0_2 aA).f1.f2).length : Int)
     rotate_left
     ·rw [if_neg c10] at H
      replace c10 := d0 c10
      have H' := am H
      clear H
      go_wp2
      go_roundg k2
      case measure => have := ax.o; have := ay.o; omega
      case rel => exact ⟨(aQ), (wrap64 (aA + 1)), (by rfl), H', ⟨by have := ax.o; have := ay.o; omega⟩, ⟨by exact aM.o⟩, ⟨by exact aD.o⟩, ⟨by exact HB.o⟩⟩
     rw [if_pos c10] at H
     replace c10 := d1 c10
     obtain ⟨cD, H⟩ := gd H
     replace cD := d1 cD
     obtain ⟨cE, H⟩ := gd H
     replace cE := d1 cE
     have bV := am H
     clear H
     have bP : 0 ≤ aC := od (by assumption)
     have bR : aC < (((qAh l0_2 aA).f1.f2).length : Int) := od (by assumption)
     obtain ⟨ar, cM, a6, a7, a8, a9⟩ := at_T115 bA.o aC bP bR
     cases cM
     replace a6 := (HB.o.cell (World.block_lt_of_cell? w _ a6)).trans a6
     replace a7 := (HB.o.cell (World.block_lt_of_cell? w _ a7)).trans a7
     replace a8 := (HB.o.cell (World.block_lt_of_cell? w _ a8)).trans a8
     replace a9 := (HB.o.cell (World.block_lt_of_cell? w _ a9)).trans a9
     replace bP := eq_true bP
     replace bR := eq_true bR
     go_upto_if 27 with ((with_reducible refine qAC (N := 7) rfl ?_); refine bx 7 #[.int .i64 0, .int .i64 0, .int .i64 0, .int .u64 0] 115 ?_; intro aJ hg cI hbox hb; have n_ := a2 (Kd.R_below aM.o hb) (a2 (qAz aD.o hb) (a2 (qAz aE.o hb) (a2 (qAo HB.o hb) (a2 (hbox) (a2 (by rw [hg]; exact (qAi HB.o) : w.heap.size ≤ aJ) (a2 (by rw [hg]; exact Nat.ne_of_lt (qAO aD.o) : aU ≠ aJ) (am (by rw [hg]; exact Nat.ne_of_lt (qAO aE.o) : aI ≠ aJ)))))))); clear aM aD aE HB; obtain ⟨aM, aD, aE, HB, aK, bT, aG, aH⟩ := n_; clear hb hbox hg; have bB : cI.cell? ⟨aJ, 0, none⟩ = some (.int .i64 0) := (qAb aK.o 0).trans rfl; have bC : cI.cell? ⟨aJ, 1, none⟩ = some (.int .i64 0) := (qAb aK.o 1).trans rfl; have bD : cI.cell? ⟨aJ, 2, none⟩ = some (.int .i64 0) := (qAb aK.o 2).trans rfl; have bE : cI.cell? ⟨aJ, 3, none⟩ = some (.int .u64 0) := (qAb aK.o 3).trans rfl; have bF := qAc aK.o 0; have bG := qAc aK.o 1; have bH := qAc aK.o 2; have bI := qAc aK.o 3)
     (skip)
     go_cut [27] (fun cU wc => ∃ (kq : Nat) (ag : Bool), cU = .bool ag ∧ qAf (qAk.j2 kq aQ aA aC l0_2 (l0_2.length : Int) aA ((qAh l0_2 aA).f1.f2) (((qAh l0_2 aA).f1.f2).length : Int) aC ((qA0 ((qAh l0_2 aA).f1.f2) aC).f0) ag = some r) ∧ qAf (kq ≤ k2) ∧ qAf (Kd.R k82 82 wc w.heap.size (fun _ => True) u3 aQ) ∧ qAf (wc.heap[aU]? = some (.cells #[.string a0_0, (.slice ab l0_1.length ad), (.slice (some ak) l0_2.length ae), (.slice ac l0_3.length af)] 27 (0, 0))) ∧ qAf (wc.heap[aI]? = some (.cells #[.string ((qAh l0_2 aA).f0), (.slice aR ((qAh l0_2 aA).f1.f0.f0).length aT), .int .i64 ((qAh l0_2 aA).f1.f0.f1), (.slice aV ((qAh l0_2 aA).f1.f1).length aW), (.slice (some ar) ((qAh l0_2 aA).f1.f2).length aa)] 80 (0, 0))) ∧ qAf (wc.heap[aJ]? = some (.cells #[.int .i64 ((qA0 ((qAh l0_2 aA).f1.f2) aC).f0), .int .i64 ((qA0 ((qAh l0_2 aA).f1.f2) aC).f1), .int .i64 ((qA0 ((qAh l0_2 aA).f1.f2) aC).f2.f0), .int .u64 ((qA0 ((qAh l0_2 aA).f1.f2) aC).f2.f1)] 115 (0, 0))) ∧ qAf (Below w.heap.size w wc))
     case first =>
      have H := bV.o
      clear bV
      by_cases bw : ((qA0 ((qAh l0_2 aA).f1.f2) aC).f0) = 4
      rotate_left
      ·rw [if_neg bw] at H
       have au : (((qA0 ((qAh l0_2 aA).f1.f2) aC).f0) == 4) = false := bf bw
       (rw [au])
       have H' := am H
       clear H
       go_wp2
       go_meet
       case rel => exact ⟨_, (((qA0 ((qAh l0_2 aA).f1.f2) aC).f0) == 5), (by rfl), H', ⟨by have := ax.o; have := ay.o; (omega)⟩, ⟨by exact Kd.R_mono (Kd.R_far (p := ⟨aJ, 3, none⟩) (Kd.R_far (p := ⟨aJ, 2, none⟩) (Kd.R_far (p := ⟨aJ, 1, none⟩) (Kd.R_far (p := ⟨aJ, 0, none⟩) (Kd.R_types aM.o aK.o (by decide)) (fun _ hk => hk.2) (.int .i64 ((qA0 ((qAh l0_2 aA).f1.f2) aC).f0))) (fun _ hk => hk.2) (.int .i64 ((qA0 ((qAh l0_2 aA).f1.f2) aC).f1))) (fun _ hk => hk.2) (.int .i64 ((qA0 ((qAh l0_2 aA).f1.f2) aC).f2.f0))) (fun _ hk => hk.2) (.int .u64 ((qA0 ((qAh l0_2 aA).f1.f2) aC).f2.f1))) (fun _ hk => trivial)⟩, ⟨by refine qA4 ?_ aG.o _; refine qA4 ?_ aG.o _; refine qA4 ?_ aG.o _; refine qA4 ?_ aG.o _; exact aD.o⟩, ⟨by refine qA4 ?_ aH.o _; refine qA4 ?_ aH.o _; refine qA4 ?_ aH.o _; refine qA4 ?_ aH.o _; exact aE.o⟩, ⟨by refine qAt (cs := #[.int .i64 ((qA0 ((qAh l0_2 aA).f1.f2) aC).f0), .int .i64 ((qA0 ((qAh l0_2 aA).f1.f2) aC).f1), .int .i64 ((qA0 ((qAh l0_2 aA).f1.f2) aC).f2.f0), .int .u64 0]) ?_ 3 _ rfl; refine qAt (cs := #[.int .i64 ((qA0 ((qAh l0_2 aA).f1.f2) aC).f0), .int .i64 ((qA0 ((qAh l0_2 aA).f1.f2) aC).f1), .int .i64 0, .int .u64 0]) ?_ 2 _ rfl; refine qAt (cs := #[.int .i64 ((qA0 ((qAh l0_2 aA).f1.f2) aC).f0), .int .i64 0, .int .i64 0, .int .u64 0]) ?_ 1 _ rfl; refine qAt (cs := #[.int .i64 0, .int .i64 0, .int .i64 0, .int .u64 0]) ?_ 0 _ rfl; exact aK.o⟩, ⟨by repeat (with_reducible first | exact HB.o | refine qAq ?_ bT.o)⟩⟩
      rw [if_pos bw] at H
      have au : (((qA0 ((qAh l0_2 aA).f1.f2) aC).f0) == 4) = true := beq_iff_eq.mpr bw
      clear bw
      (rw [au])
      have H' := am H
      clear H
      go_wp2
      go_meet
      case rel => exact ⟨_, (((qA0 ((qAh l0_2 aA).f1.f2) aC).f0) == 4), (by (simp [*]; done)), H', ⟨by have := ax.o; have := ay.o; (omega)⟩, ⟨by exact Kd.R_mono (Kd.R_far (p := ⟨aJ, 3, none⟩) (Kd.R_far (p := ⟨aJ, 2, none⟩) (Kd.R_far (p := ⟨aJ, 1, none⟩) (Kd.R_far (p := ⟨aJ, 0, none⟩) (Kd.R_types aM.o aK.o (by decide)) (fun _ hk => hk.2) (.int .i64 ((qA0 ((qAh l0_2 aA).f1.f2) aC).f0))) (fun _ hk => hk.2) (.int .i64 ((qA0 ((qAh l0_2 aA).f1.f2) aC).f1))) (fun _ hk => hk.2) (.int .i64 ((qA0 ((qAh l0_2 aA).f1.f2) aC).f2.f0))) (fun _ hk => hk.2) (.int .u64 ((qA0 ((qAh l0_2 aA).f1.f2) aC).f2.f1))) (fun _ hk => trivial)⟩, ⟨by refine qA4 ?_ aG.o _; refine qA4 ?_ aG.o _; refine qA4 ?_ aG.o _; refine qA4 ?_ aG.o _; exact aD.o⟩, ⟨by refine qA4 ?_ aH.o _; refine qA4 ?_ aH.o _; refine qA4 ?_ aH.o _; refine qA4 ?_ aH.o _; exact aE.o⟩, ⟨by refine qAt (cs := #[.int .i64 ((qA0 ((qAh l0_2 aA).f1.f2) aC).f0), .int .i64 ((qA0 ((qAh l0_2 aA).f1.f2) aC).f1), .int .i64 ((qA0 ((qAh l0_2 aA).f1.f2) aC).f2.f0), .int .u64 0]) ?_ 3 _ rfl; refine qAt (cs := #[.int .i64 ((qA0 ((qAh l0_2 aA).f1.f2) aC).f0), .int .i64 ((qA0 ((qAh l0_2 aA).f1.f2) aC).f1), .int .i64 0, .int .u64 0]) ?_ 2 _ rfl; refine qAt (cs := #[.int .i64 ((qA0 ((qAh l0_2 aA).f1.f2) aC).f0), .int .i64 0, .int .i64 0, .int .u64 0]) ?_ 1 _ rfl; refine qAt (cs := #[.int .i64 0, .int .i64 0, .int .i64 0, .int .u64 0]) ?_ 0 _ rfl; exact aK.o⟩, ⟨by repeat (with_reducible first | exact HB.o | refine qAq ?_ bT.o)⟩⟩
     case rest =>
      clear bV
      obtain ⟨kq, ag, rfl, HA, an, aM, aD, aE, aK, HB⟩ := hcut
      cases kq with
      | zero => exact absurd HA.o (by simp [qAk.j2])
      | succ ah =>
       have H := HA.o
       clear HA
       simp only [qAk.j2] at H
       by_cases cF : ag = true
       ·subst cF
        replace H : (if aQ.length < 2513169434916 then (qAk.l1 ah (aQ ++ [(⟨aA, aC, 1, (⟨#[]⟩ : ByteArray), (⟨#[]⟩ : ByteArray)⟩ : S82)]) aA l0_2 (l0_2.length : Int) aA ((qAh l0_2 aA).f1.f2) (((qAh l0_2 aA).f1.f2).length : Int) (wrap64 (aC + 1))) else (none)) = some r := by rw [if_pos rfl] at H; exact H
        obtain ⟨cG, H⟩ := gd H
        have bo := am cG
        clear cG
        obtain ⟨cB, av⟩ : ∃ y_ : List (S82), y_ = (aQ ++ [(⟨aA, aC, 1, (⟨#[]⟩ : ByteArray), (⟨#[]⟩ : ByteArray)⟩ : S82)]) := ⟨_, rfl⟩
        replace H : (qAk.l1 ah cB aA l0_2 (l0_2.length : Int) aA ((qAh l0_2 aA).f1.f2) (((qAh l0_2 aA).f1.f2).length : Int) (wrap64 (aC + 1))) = some r := by (rw [av]; with_reducible exact H)
        have bq := am av
        clear av
        have H' := am H
        clear H
        go_wp2_with ((with_reducible refine qAQ (b := .append) (xs := #[.tmp 30, .tmp 34]) rfl ?_); at_builtin; refine Kd.R_append k82 (w0 := w) w.heap.size rfl (.tmp 30) (.tmp 34) 25 82 (.agg #[(.int .i64 0), (.int .i64 0), (.int .i64 0), (.string ⟨#[]⟩), (.string ⟨#[]⟩)]) 56 rfl Try.underlying25 info82 rfl (by decide) (by omega) u3 aQ (⟨aA, aC, 1, (⟨#[]⟩ : ByteArray), (⟨#[]⟩ : ByteArray)⟩ : S82) [.int .i64 aA, .int .i64 aC, .int .i64 1, .string ⟨#[]⟩, .string ⟨#[]⟩] (fun _ => True) (fun _ => False) rfl rfl ?aP (fun _ hk => hk.elim) ?aF ?aO ?aB ?aS ?aL ?_; (case aP => exact k82_mkM _ _ _ (⟨aA, aC, 1, (⟨#[]⟩ : ByteArray), (⟨#[]⟩ : ByteArray)⟩ : S82)); (case aB => exact HB.o); (case aF => exact (fun _ _ => trivial)); (case aO => exact aM.o); (case aS => exact (qAi HB.o)); (case aL => have := bo.o; omega); intro cR cX ho hb hg cN; rw [← bq.o] at ho; have n_ := a2 (qAP (g := aU) (o := .cells #[.string a0_0, .slice ab l0_1.length ad, .slice (some ak) l0_2.length ae, .slice ac l0_3.length af] 27 (0, 0)) aD.o hg (Kd.R_ne aM.o aD.o (by decide))) (a2 (qAP (g := aI) (o := .cells #[.string ((qAh l0_2 aA).f0), .slice aR ((qAh l0_2 aA).f1.f0.f0).length aT, .int .i64 ((qAh l0_2 aA).f1.f0.f1), .slice aV ((qAh l0_2 aA).f1.f1).length aW, .slice (some ar) ((qAh l0_2 aA).f1.f2).length aa] 80 (0, 0)) aE.o hg (Kd.R_ne aM.o aE.o (by decide))) (a2 (hb) (am (ho)))); clear aD aE aK HB aM; obtain ⟨aD, aE, HB, bj⟩ := n_; clear ho hb hg cN)
        go_roundg ah
        case measure => have := ax.o; have := ay.o; have := an.o; omega
        case rel => exact ⟨(cB), (wrap64 (aC + 1)), (by rfl), H', ⟨by have := ax.o; have := ay.o; have := an.o; omega⟩, ⟨by exact bj.o⟩, ⟨by exact aD.o⟩, ⟨by exact aE.o⟩, ⟨by exact HB.o⟩⟩
       replace cF := Bool.eq_false_iff.mpr cF
       subst cF
       replace H : (if ((qA0 ((qAh l0_2 aA).f1.f2) aC).f0) = 10 then (if aQ.length < 2513169434916 then (qAk.l1 ah (aQ ++ [(⟨aA, aC, 2, (⟨#[]⟩ : ByteArray), (⟨#[]⟩ : ByteArray)⟩ : S82)]) aA l0_2 (l0_2.length : Int) aA ((qAh l0_2 aA).f1.f2) (((qAh l0_2 aA).f1.f2).length : Int) (wrap64 (aC + 1))) else (none)) else (qAk.l1 ah aQ aA l0_2 (l0_2.length : Int) aA ((qAh l0_2 aA).f1.f2) (((qAh l0_2 aA).f1.f2).length : Int) (wrap64 (aC + 1)))) = some r := by rw [if_neg (show ¬ (false = true) by decide)] at H; exact H
       by_cases bh : ((qA0 ((qAh l0_2 aA).f1.f2) aC).f0) = 10
       rotate_left
       ·rw [if_neg bh] at H
        have bz : (((qA0 ((qAh l0_2 aA).f1.f2) aC).f0) == 10) = false := bf bh
        have H' := am H
        clear H
        go_wp2
        go_roundg ah
        case measure => have := ax.o; have := ay.o; have := an.o; omega
        case rel => exact ⟨(aQ), (wrap64 (aC + 1)), (by rfl), H', ⟨by have := ax.o; have := ay.o; have := an.o; omega⟩, ⟨by exact aM.o⟩, ⟨by exact aD.o⟩, ⟨by exact aE.o⟩, ⟨by exact HB.o⟩⟩
       rw [if_pos bh] at H
       have bz : (((qA0 ((qAh l0_2 aA).f1.f2) aC).f0) == 10) = true := beq_iff_eq.mpr bh
       have cP : (((qA0 ((qAh l0_2 aA).f1.f2) aC).f0) != 10) = false := bn bh
       clear bh
       obtain ⟨cH, H⟩ := gd H
       have bp := am cH
       clear cH
       obtain ⟨cC, aw⟩ : ∃ y_ : List (S82), y_ = (aQ ++ [(⟨aA, aC, 2, (⟨#[]⟩ : ByteArray), (⟨#[]⟩ : ByteArray)⟩ : S82)]) := ⟨_, rfl⟩
       replace H : (qAk.l1 ah cC aA l0_2 (l0_2.length : Int) aA ((qAh l0_2 aA).f1.f2) (((qAh l0_2 aA).f1.f2).length : Int) (wrap64 (aC + 1))) = some r := by (rw [aw]; with_reducible exact H)
       have br := am aw
       clear aw
       have H' := am H
       clear H
       go_wp2_with ((with_reducible refine qAQ (b := .append) (xs := #[.tmp 38, .tmp 42]) rfl ?_); at_builtin; refine Kd.R_append k82 (w0 := w) w.heap.size rfl (.tmp 38) (.tmp 42) 25 82 (.agg #[(.int .i64 0), (.int .i64 0), (.int .i64 0), (.string ⟨#[]⟩), (.string ⟨#[]⟩)]) 56 rfl Try.underlying25 info82 rfl (by decide) (by omega) u3 aQ (⟨aA, aC, 2, (⟨#[]⟩ : ByteArray), (⟨#[]⟩ : ByteArray)⟩ : S82) [.int .i64 aA, .int .i64 aC, .int .i64 2, .string ⟨#[]⟩, .string ⟨#[]⟩] (fun _ => True) (fun _ => False) rfl rfl ?aP (fun _ hk => hk.elim) ?aF ?aO ?aB ?aS ?aL ?_; (case aP => exact k82_mkM _ _ _ (⟨aA, aC, 2, (⟨#[]⟩ : ByteArray), (⟨#[]⟩ : ByteArray)⟩ : S82)); (case aB => exact HB.o); (case aF => exact (fun _ _ => trivial)); (case aO => exact aM.o); (case aS => exact (qAi HB.o)); (case aL => have := bp.o; omega); intro cS cY ho hb hg cN; rw [← br.o] at ho; have n_ := a2 (qAP (g := aU) (o := .cells #[.string a0_0, .slice ab l0_1.length ad, .slice (some ak) l0_2.length ae, .slice ac l0_3.length af] 27 (0, 0)) aD.o hg (Kd.R_ne aM.o aD.o (by decide))) (a2 (qAP (g := aI) (o := .cells #[.string ((qAh l0_2 aA).f0), .slice aR ((qAh l0_2 aA).f1.f0.f0).length aT, .int .i64 ((qAh l0_2 aA).f1.f0.f1), .slice aV ((qAh l0_2 aA).f1.f1).length aW, .slice (some ar) ((qAh l0_2 aA).f1.f2).length aa] 80 (0, 0)) aE.o hg (Kd.R_ne aM.o aE.o (by decide))) (a2 (hb) (am (ho)))); clear aD aE aK HB aM; obtain ⟨aD, aE, HB, bk⟩ := n_; clear ho hb hg cN)
       go_roundg ah
       case measure => have := ax.o; have := ay.o; have := an.o; omega
       case rel => exact ⟨(cC), (wrap64 (aC + 1)), (by rfl), H', ⟨by have := ax.o; have := ay.o; have := an.o; omega⟩, ⟨by exact bk.o⟩, ⟨by exact aD.o⟩, ⟨by exact aE.o⟩, ⟨by exact HB.o⟩⟩
def qAm.l0 : Nat → List ByteArray → ByteArray → Int → Int → Option (Int)
 | 0, _, _, _, _ => none
 | k + 1, x0, x1, x7, x8 => if x8 < x7 then (if 0 ≤ x8 then (if x8 < (x0.length : Int) then (if x1.toList = (rdOf ByteArray.empty x0 x8).toList then (some x8) else (qAm.l0 k x0 x1 x7 (wrap64 (x8 + 1)))) else (none)) else (none)) else (some (-1))
def qAm.f (k : Nat) (l0 : List ByteArray) (a1 : ByteArray) : Option (Int) := qAm.l0 k l0 a1 (l0.length : Int) 0
theorem qAm.calls (k : Nat) (A0 : Option Addr) (c0 : Nat) (l0 : List ByteArray) (a1 : ByteArray) (r : Int) (w : World) (hr0 : Kd.C Kd.string w A0 l0.length l0) (hc0 : l0.length ≤ c0) (h : qAm.f k l0 a1 = some r) :
  Calls Try.prog 110 #[.slice A0 l0.length c0, .string a1] w fun e w' => e = .returned (.int .i64 r) ∧ qAH w w' := by
 have aJ := am hr0
 clear hr0 hc0
 have H : (qAm.l0 k l0 a1 (l0.length : Int) 0) = some r := h
 clear h
 have H' := am H
 clear H
 go_enter Try.func110, Try.ntmps110
 go_wp2
 go_loopg [8] k (fun kq v8 w' => ∃ (aA : Int), v8 = .int .i64 aA ∧ qAf (qAm.l0 kq l0 a1 (l0.length : Int) aA = some r) ∧ qAf (kq ≤ k) ∧ qAH w w')
 case atStart => exact ⟨(0), (by rfl), H', ⟨Nat.le_refl _⟩, by exact qAH.refl _⟩
 case round =>
  clear H'
  obtain ⟨aA, rfl, HA, aI, ⟨m1, rfl⟩⟩ := hrel
  cases gk with
  | zero => exact absurd HA.o (by simp [qAm.l0])
  | succ k1 =>
   have H := HA.o
   clear HA
   simp only [qAm.l0] at H
   by_cases c3 : aA < (l0.length : Int)
   rotate_left
   ·rw [if_neg c3] at H
    replace c3 := d0 c3
    obtain rfl := Option.some.inj H
    go_wp2
    go_ret
    exact ⟨by rfl, by repeat (first | exact qAH.refl _ | apply qAH.step)⟩
   rw [if_pos c3] at H
   replace c3 := d1 c3
   obtain ⟨c4, H⟩ := gd H
   replace c4 := d1 c4
   obtain ⟨c5, H⟩ := gd H
   replace c5 := d1 c5
   by_cases c6 : a1.toList = (rdOf ByteArray.empty l0 aA).toList
   ·rw [if_pos c6] at H
    have aH : (a1.toList == (rdOf ByteArray.empty l0 aA).toList) = true := beq_iff_eq.mpr c6
    clear c6
    obtain rfl := Option.some.inj H
    have aB : 0 ≤ aA := od (by assumption)
    have aC : aA < (l0.length : Int) := od (by assumption)
    obtain ⟨aF, aE, aD⟩ := Kd.at_string aJ.o aA aB aC
    cases aE
    replace aB := eq_true aB
    replace aC := eq_true aC
    go_wp2
    go_ret
    exact ⟨by rfl, by repeat (first | exact qAH.refl _ | apply qAH.step)⟩
   rw [if_neg c6] at H
   have aH : (a1.toList == (rdOf ByteArray.empty l0 aA).toList) = false := bf c6
   have H' := am H
   clear H
   have aB : 0 ≤ aA := od (by assumption)
   have aC : aA < (l0.length : Int) := od (by assumption)
   obtain ⟨aF, aE, aD⟩ := Kd.at_string aJ.o aA aB aC
   cases aE
   replace aB := eq_true aB
   replace aC := eq_true aC
   go_wp2
   go_roundg k1
   case measure => have := aI.o; omega
   case rel => exact ⟨(wrap64 (aA + 1)), (by rfl), H', ⟨by have := aI.o; omega⟩, by repeat (first | exact qAH.refl _ | apply qAH.step)⟩
def qAx.f (k : Nat) (l0 : List ByteArray) (a1 : ByteArray) : Option (Bool) := (qAm.f k l0 a1).bind fun aA => (some (decide (aA ≥ 0)))
theorem qAx.calls (k : Nat) (A0 : Option Addr) (c0 : Nat) (l0 : List ByteArray) (a1 : ByteArray) (r : Bool) (w : World) (hr0 : Kd.C Kd.string w A0 l0.length l0) (hc0 : l0.length ≤ c0) (h : qAx.f k l0 a1 = some r) :
  Calls Try.prog 83 #[.slice A0 l0.length c0, .string a1] w fun e w' => e = .returned (.bool r) ∧ qAH w w' := by
 have aD := am hr0
 have aC := am hc0
 clear hr0 hc0
 have H : ((qAm.f k l0 a1).bind fun aA => (some (decide (aA ≥ 0)))) = some r := h
 clear h
 replace H := bm H
 obtain ⟨aA, aB, H⟩ := H
 replace H : (some (decide (aA ≥ 0))) = some r := H
 have A3 := am aB
 clear aB
 obtain rfl := Option.some.inj H
 go_enter Try.func83, Try.ntmps83
 go_wp2_with ((with_reducible refine qAj (f := 110) rfl ?_); refine gL 7 Try.func110 #[.slice A0 l0.length c0, .string a1] ?_; (with_reducible refine (qAm.calls k _ _ l0 a1 aA _ ?side1 ?side2 A3.o).mono ?_); (case side1 => exact aD.o); (case side2 => exact aC.o); rintro e w' ⟨rfl, ⟨nd, rfl⟩⟩; refine ⟨_, rfl, ?_⟩)
 go_ret
 exact ⟨by rfl, by repeat (first | exact qAH.refl _ | apply qAH.step)⟩
end Q
end
section
namespace Q
open Go.RowKit PA PB PC
theorem qCa {i : Int} {n : Nat} (h0 : 0 ≤ i) (h : i < n) (hn : n ≤ 4611686018427387904) : wrap64 (i + 1) = i + 1 := by unfold wrap64; omega
theorem qBq {α : Type} (l : List α) (d : α) (i : Int) (h0 : 0 ≤ i) (h : i < l.length) : l.drop i.toNat = l.getD i.toNat d :: l.drop (i + 1).toNat := by
 rw [show (i + 1).toNat = i.toNat + 1 from by omega, List.drop_eq_getElem_cons (by omega), List.getD_eq_getElem?_getD, List.getElem?_eq_getElem (by omega)]; rfl
def hasB (l : List ByteArray) (s : ByteArray) : Bool := l.any fun x => s.toList == x.toList
theorem index_ev (l : List ByteArray) (s : ByteArray) (hl : l.length ≤ 4611686018427387904) : ∀ (d : Nat) (i : Int), 0 ≤ i → (l.length : Int) - i = d →
  ∃ r, Ev (fun k => qAm.l0 k l s (l.length : Int) i) r ∧ (0 ≤ r ↔ hasB (l.drop i.toNat) s = true) := by
 intro d
 induction d with
 | zero =>
  intro i h0 hd
  refine ⟨-1, Ev.step (f := fun _ => some (-1)) (fun k => ?_) (Ev.now _), ?_⟩
  ·simp only [qAm.l0]; rw [if_neg (by omega)]
  rw [List.drop_eq_nil_of_le (by omega)]; simp [hasB]
 | succ d ih =>
  intro i h0 hd
  have hc := qBq l ByteArray.empty i h0 (by omega)
  by_cases he : s.toList = (rdOf ByteArray.empty l i).toList
  ·refine ⟨i, Ev.step (f := fun _ => some i) (fun k => ?_) (Ev.now _), ?_⟩
   ·simp only [qAm.l0]; rw [if_pos (by omega), if_pos h0, if_pos (by omega), if_pos he]
   rw [hc]
   simp [hasB, h0]
   exact .inl he
  obtain ⟨r, hr, hq⟩ := ih (i + 1) (by omega) (by omega)
  refine ⟨r, Ev.step (f := fun k => qAm.l0 k l s (l.length : Int) (i + 1)) (fun k => ?_) hr, ?_⟩
  ·simp only [qAm.l0]; rw [if_pos (by omega), if_pos h0, if_pos (by omega), if_neg he, qCa (n := l.length) h0 (by omega) hl]
  rw [hq, hc]
  have he' : (s.toList == (l.getD i.toNat ByteArray.empty).toList) = false := beq_eq_false_iff_ne.mpr he
  simp only [hasB, List.any_cons, he', Bool.false_or]
theorem qCG (l : List ByteArray) (s : ByteArray) (hl : l.length ≤ 4611686018427387904) : Ev (fun k => qAx.f k l s) (hasB l s) := by
 obtain ⟨r, hr, hq⟩ := index_ev l s hl l.length 0 (by omega) (by omega)
 have : hasB l s = decide (r ≥ 0) := by
  rw [show l.drop (0 : Int).toNat = l from rfl] at hq
  cases h : hasB l s with
  | true => exact (decide_eq_true (hq.2 h)).symm
  | false => exact (decide_eq_false (fun hh => by have := hq.1 hh; rw [h] at this; cases this)).symm
 rw [this]
 exact Ev.congr (f := fun k => (qAm.l0 k l s (l.length : Int) 0).bind fun t => some (decide (t ≥ 0))) (fun k => rfl) (Ev.bind hr (Ev.now _))
def qBR (f i : Int) (x : S115) : List S82 := if x.f0 = 4 ∨ x.f0 = 5 then [⟨f, i, 1, ⟨#[]⟩, ⟨#[]⟩⟩] else if x.f0 = 10 then [⟨f, i, 2, ⟨#[]⟩, ⟨#[]⟩⟩] else []
def codeP (f : Int) : Int → List S115 → List S82
 | _, [] => []
 | i, x :: xs => qBR f i x ++ codeP f (i + 1) xs
def fnsP : Int → List S80 → List S82
 | _, [] => []
 | i, x :: xs => codeP i 0 x.f1.f2 ++ fnsP (i + 1) xs
def qAY (fns : List S80) : List S82 := fnsP 0 fns
theorem qDR (f i : Int) (x : S115) : (qBR f i x).length ≤ 1 := by unfold qBR; (repeat' split) <;> simp
theorem qDE (f : Int) : ∀ (l : List S115) (i : Int), (codeP f i l).length ≤ l.length
 | [], _ => Nat.le_refl _
 | x :: xs, i => by
  have := qDE f xs (i + 1)
  have := qDR f i x
  simp only [codeP, List.length_append, List.length_cons]; omega
theorem fnsP_len : ∀ (l : List S80) (i : Int), (∀ x ∈ l, x.f1.f2.length ≤ 4096) → (fnsP i l).length ≤ l.length * 4096
 | [], _, _ => Nat.zero_le _
 | x :: xs, i, h => by
  have h1 := fnsP_len xs (i + 1) fun y hy => h y (List.mem_cons_of_mem _ hy)
  have h2 := qDE i x.f1.f2 0
  have h3 := h x List.mem_cons_self
  simp only [fnsP, List.length_append, List.length_cons]; omega
theorem code_ev (f : Int) (x9 : List S80) (x10 : Int) (l : List S115) (hl : l.length ≤ 4096) (r : List S82) : ∀ (d : Nat) (i : Int) (acc : List S82), 0 ≤ i → (l.length : Int) - i = d → acc.length + d < 2513169434916 →
  Ev (fun k => qAk.l0 k (acc ++ codeP f i (l.drop i.toNat)) x9 x10 (wrap64 (f + 1))) r → Ev (fun k => qAk.l1 k acc f x9 x10 f l (l.length : Int) i) r := by
 intro d
 induction d with
 | zero =>
  intro i acc h0 hd ha h
  rw [List.drop_eq_nil_of_le (by omega)] at h
  simp only [codeP, List.append_nil] at h
  refine Ev.step (fun k => ?_) h
  simp only [qAk.l1]; rw [if_neg (by omega)]
 | succ d ih =>
  intro i acc h0 hd ha h
  have hc := qBq l z115 i h0 (by omega)
  have hx : qA0 l i = l.getD i.toNat z115 := rfl
  rw [hc, ← hx] at h
  simp only [codeP] at h
  rw [← List.append_assoc] at h
  have hw := qCa (n := l.length) h0 (by omega) (by omega)
  have hrec := ih (i + 1) (acc ++ qBR f i (qA0 l i)) (by omega) (by omega) (by have := qDR f i (qA0 l i); rw [List.length_append]; omega) h
  by_cases h4 : (qA0 l i).f0 = 4
  ·refine Ev.step (f := fun k => qAk.j2 k acc f i x9 x10 f l (l.length : Int) i (qA0 l i).f0 ((qA0 l i).f0 == 4)) (fun k => ?_) (Ev.step (fun k => ?_) hrec)
   ·simp only [qAk.l1]; rw [if_pos (by omega), if_pos h0, if_pos (by omega), if_pos h4]
   simp only [qAk.j2]; rw [if_pos (beq_iff_eq.mpr h4), if_pos (by omega), hw, show qBR f i (qA0 l i) = [⟨f, i, 1, ⟨#[]⟩, ⟨#[]⟩⟩] from if_pos (.inl h4)]
  by_cases h5 : (qA0 l i).f0 = 5
  ·refine Ev.step (f := fun k => qAk.j2 k acc f i x9 x10 f l (l.length : Int) i (qA0 l i).f0 ((qA0 l i).f0 == 5)) (fun k => ?_) (Ev.step (fun k => ?_) hrec)
   ·simp only [qAk.l1]; rw [if_pos (by omega), if_pos h0, if_pos (by omega), if_neg h4]
   simp only [qAk.j2]; rw [if_pos (beq_iff_eq.mpr h5), if_pos (by omega), hw, show qBR f i (qA0 l i) = [⟨f, i, 1, ⟨#[]⟩, ⟨#[]⟩⟩] from if_pos (.inr h5)]
  have hno : ¬ ((qA0 l i).f0 = 4 ∨ (qA0 l i).f0 = 5) := by omega
  have hb : ¬ ((qA0 l i).f0 == 5) = true := by simp [h5]
  by_cases h10 : (qA0 l i).f0 = 10
  rotate_left
  ·refine Ev.step (f := fun k => qAk.j2 k acc f i x9 x10 f l (l.length : Int) i (qA0 l i).f0 ((qA0 l i).f0 == 5)) (fun k => ?_) (Ev.step (fun k => ?_) hrec)
   ·simp only [qAk.l1]; rw [if_pos (by omega), if_pos h0, if_pos (by omega), if_neg h4]
   simp only [qAk.j2]; rw [if_neg hb, if_neg h10, hw, show qBR f i (qA0 l i) = [] from (if_neg hno).trans (if_neg h10), List.append_nil]
  refine Ev.step (f := fun k => qAk.j2 k acc f i x9 x10 f l (l.length : Int) i (qA0 l i).f0 ((qA0 l i).f0 == 5)) (fun k => ?_) (Ev.step (fun k => ?_) hrec)
  ·simp only [qAk.l1]; rw [if_pos (by omega), if_pos h0, if_pos (by omega), if_neg h4]
  simp only [qAk.j2]; rw [if_neg hb, if_pos h10, if_pos (by omega), hw, show qBR f i (qA0 l i) = [⟨f, i, 2, ⟨#[]⟩, ⟨#[]⟩⟩] from (if_neg hno).trans (if_pos h10)]
theorem fns_ev (fns : List S80) (hl : fns.length ≤ 64) (h4 : ∀ x ∈ fns, x.f1.f2.length ≤ 4096) : ∀ (d : Nat) (i : Int) (acc : List S82), 0 ≤ i → (fns.length : Int) - i = d → acc.length + d * 4096 < 2513169434916 →
  Ev (fun k => qAk.l0 k acc fns (fns.length : Int) i) (acc ++ fnsP i (fns.drop i.toNat)) := by
 intro d
 induction d with
 | zero =>
  intro i acc h0 hd ha
  rw [List.drop_eq_nil_of_le (by omega)]
  simp only [fnsP, List.append_nil]
  refine Ev.step (f := fun _ => some acc) (fun k => ?_) (Ev.now _)
  simp only [qAk.l0]; rw [if_neg (by omega)]
 | succ d ih =>
  intro i acc h0 hd ha
  have hc := qBq fns z80 i h0 (by omega)
  have hx : qAh fns i = fns.getD i.toNat z80 := rfl
  rw [hc, ← hx]
  simp only [fnsP]
  rw [← List.append_assoc]
  have hw := qCa (n := fns.length) h0 (by omega) (by omega)
  have hm : qAh fns i ∈ fns := by
   have : i.toNat < fns.length := by omega
   rw [hx, List.getD_eq_getElem?_getD, List.getElem?_eq_getElem this]; exact List.getElem_mem _
  have h4' := h4 _ hm
  have hlen := qDE i (qAh fns i).f1.f2 0
  refine Ev.step (f := fun k => qAk.l1 k acc i fns (fns.length : Int) i (qAh fns i).f1.f2 ((qAh fns i).f1.f2.length : Int) 0) (fun k => ?_) (code_ev i fns _ _ h4' _ (qAh fns i).f1.f2.length 0 acc (by omega) (by omega) (by omega) ?_)
  ·simp only [qAk.l0]; rw [if_pos (by omega), if_pos h0, if_pos (by omega)]
  rw [hw]
  exact ih (i + 1) _ (by omega) (by omega) (by rw [List.length_append]; simp only [show ((0 : Int).toNat) = 0 from rfl, List.drop_zero]; omega)
theorem places_ev (a : ByteArray) (l1 : List S71) (fns : List S80) (l3 : List S82) (hl : fns.length ≤ 64) (h4 : ∀ x ∈ fns, x.f1.f2.length ≤ 4096) : Ev (fun k => qAk.f k a l1 fns l3) (qAY fns) :=
 fns_ev fns hl h4 fns.length 0 [] (by omega) (by omega) (by simp; omega)
theorem placeOf_in {f i : Int} {x : S115} {p : S82} (h : p ∈ qBR f i x) : p.f0 = f ∧ p.f1 = i := by
 unfold qBR at h
 (repeat' split at h) <;> simp at h <;> subst h <;> exact ⟨rfl, rfl⟩
theorem codeP_in (f : Int) : ∀ (l : List S115) (i : Int) (p : S82), p ∈ codeP f i l → p.f0 = f ∧ i ≤ p.f1 ∧ p.f1 < i + l.length
 | [], _, _, h => by simp [codeP] at h
 | x :: xs, i, p, h => by
  simp only [codeP, List.mem_append] at h
  rcases h with h | h
  ·obtain ⟨h1, h2⟩ := placeOf_in h
   exact ⟨h1, by omega, by simp only [List.length_cons]; omega⟩
  obtain ⟨h1, h2, h3⟩ := codeP_in f xs (i + 1) p h
  exact ⟨h1, by omega, by simp only [List.length_cons]; omega⟩
theorem fnsP_in : ∀ (l : List S80) (i : Int) (p : S82), p ∈ fnsP i l → ∃ (j : Nat) (x : S80), l[j]? = some x ∧ p.f0 = i + j ∧ 0 ≤ p.f1 ∧ p.f1 < x.f1.f2.length
 | [], _, _, h => by simp [fnsP] at h
 | x :: xs, i, p, h => by
  simp only [fnsP, List.mem_append] at h
  rcases h with h | h
  ·obtain ⟨h1, h2, h3⟩ := codeP_in i _ 0 p h
   exact ⟨0, x, rfl, by simpa using h1, h2, by omega⟩
  obtain ⟨j, y, hj, h1, h2, h3⟩ := fnsP_in xs (i + 1) p h
  exact ⟨j + 1, y, by simpa using hj, by omega, h2, h3⟩
end Q
end
section
namespace Q
open Go.RowKit PA PB PC
open Val Ins
def qBa : List S82 → Int
 | [] => 0
 | r :: rs => if Names.nameE r.f3 ≠ 0 then Names.nameE r.f3 else if Names.nameE r.f4 ≠ 0 then Names.nameE r.f4 else qBa rs
def qCy (m : ByteArray) (vs fs : List ByteArray) (r : S82) : Bool :=
 if r.f3.toList = m.toList then (if r.f2 = 1 then !hasB vs r.f4 else if r.f2 = 2 then !hasB fs r.f4 else false) else decide (r.f2 = 1)
def qCV (m : ByteArray) (fns : List S80) (rs : List S82) (vs fs : List ByteArray) : Int :=
 if qB4 rs (qAY fns) = false then 52 else if ((qAY fns).any fun p => qCD fns p != 0) = true then 52
 else if qBa rs ≠ 0 then qBa rs else if rs.any (qCy m vs fs) = true then 52 else 0
theorem relNames_step (l : List S82) (k : Nat) (x : S82) (hx : l[k]? = some x) (h : Names.nameE x.f3 = 0) (h2 : Names.nameE x.f4 = 0) : qBa (l.drop k) = qBa (l.drop (k + 1)) := by
 obtain ⟨hk, he⟩ := List.getElem?_eq_some_iff.1 hx
 rw [List.drop_eq_getElem_cons hk, he]
 simp only [qBa, h, h2, ne_eq, not_true_eq_false, if_false]
theorem relNames_hit1 (l : List S82) (k : Nat) (x : S82) (hx : l[k]? = some x) (h : Names.nameE x.f3 ≠ 0) : qBa (l.drop k) = Names.nameE x.f3 := by
 obtain ⟨hk, he⟩ := List.getElem?_eq_some_iff.1 hx
 rw [List.drop_eq_getElem_cons hk, he]
 simp only [qBa]; rw [if_pos h]
theorem relNames_hit2 (l : List S82) (k : Nat) (x : S82) (hx : l[k]? = some x) (h : Names.nameE x.f3 = 0) (h2 : Names.nameE x.f4 ≠ 0) : qBa (l.drop k) = Names.nameE x.f4 := by
 obtain ⟨hk, he⟩ := List.getElem?_eq_some_iff.1 hx
 rw [List.drop_eq_getElem_cons hk, he]
 simp only [qBa]; rw [if_neg (by simp [h]), if_pos h2]
theorem relNames_end (l : List S82) (k : Nat) (hk : l.length ≤ k) : qBa (l.drop k) = 0 := by rw [List.drop_eq_nil_of_le hk]; rfl
theorem rd_in {α : Type} (l : List α) (d : α) (j : Nat) (x : α) (h : l[j]? = some x) : l.getD j d = x := by rw [List.getD_eq_getElem?_getD, h]; rfl
theorem placesL_in (fns : List S80) : ∀ p ∈ qAY fns, placeIn fns p := by
 intro p hp
 obtain ⟨j, x, hj, h1, h2, h3⟩ := fnsP_in fns 0 p hp
 have hr : qAh fns p.f0 = x := by
  unfold qAh
  rw [show p.f0.toNat = j from by omega]; exact rd_in _ _ _ _ hj
 exact ⟨by omega, by have := (List.getElem?_eq_some_iff.1 hj).1; omega, h2, by rw [hr]; exact h3⟩
def qAZ.f (a0_0 : ByteArray) (_l0_1 : List (S71)) (l0_2 : List (S80)) (l0_3 : List (S82)) (l1 : List ByteArray) (l2 : List ByteArray) : Option (Int) :=
 if l0_2.length ≤ 64 ∧ (∀ x ∈ l0_2, x.f1.f2.length ≤ 4096) ∧ l0_3.length ≤ 4611686018427387904 ∧ (∀ r ∈ l0_3, r.f3.size ≤ 140737488351232 ∧ r.f4.size ≤ 140737488351232) ∧ l1.length ≤ 4611686018427387904 ∧ l2.length ≤ 4611686018427387904
 then some (qCV a0_0 l0_2 l0_3 l1 l2) else none
theorem qAZ.calls (a0_0 : ByteArray) (A0_1 : Option Addr) (c0_1 : Nat) (l0_1 : List (S71)) (A0_2 : Option Addr) (c0_2 : Nat) (l0_2 : List (S80)) (A0_3 : Option Addr) (c0_3 : Nat) (l0_3 : List (S82)) (A1 : Option Addr) (c1 : Nat) (l1 : List ByteArray) (A2 : Option Addr) (c2 : Nat) (l2 : List ByteArray) (r : Int) (w : World) (hr0_1 : Kd.C k71 w A0_1 l0_1.length l0_1) (hc0_1 : l0_1.length ≤ c0_1) (hr0_2 : Kd.C k80 w A0_2 l0_2.length l0_2) (hc0_2 : l0_2.length ≤ c0_2) (hr0_3 : Kd.C k82 w A0_3 l0_3.length l0_3) (hc0_3 : l0_3.length ≤ c0_3) (hr1 : Kd.C Kd.string w A1 l1.length l1) (hc1 : l1.length ≤ c1) (hr2 : Kd.C Kd.string w A2 l2.length l2) (hc2 : l2.length ≤ c2) (h : qAZ.f a0_0 l0_1 l0_2 l0_3 l1 l2 = some r) :
  Calls Try.prog 42 #[.agg #[.string a0_0, .slice A0_1 l0_1.length c0_1, .slice A0_2 l0_2.length c0_2, .slice A0_3 l0_3.length c0_3], .slice A1 l1.length c1, .slice A2 l2.length c2] w fun e w' => e = .returned (.int .i64 r) ∧ Below w.heap.size w w' := by
 unfold qAZ.f at h
 split at h
 case isFalse => cases h
 rename_i hs
 obtain ⟨hf64, hf4, hr62, hrs, hv62, hfl62⟩ := hs
 replace h := Option.some.inj h
 obtain ⟨kp, hkp⟩ := (places_ev a0_0 l0_1 l0_2 l0_3 hf64 hf4).rounds
 have hpl : (qAY l0_2).length ≤ 4611686018427387904 := by have := fnsP_len l0_2 0 hf4; unfold qAY; omega
 obtain ⟨cs, hcs⟩ : ∃ cs : Array Value, cs = #[.string a0_0, .slice A0_1 l0_1.length c0_1, .slice A0_2 l0_2.length c0_2, .slice A0_3 l0_3.length c0_3] := ⟨_, rfl⟩
 obtain ⟨WA, hWA⟩ : ∃ WA, WA = w.alloc (.cells cs 27) := ⟨_, rfl⟩
 have hBA : Below w.heap.size w WA := hWA ▸ (Below.refl _ _).alloc (Nat.le_refl _) _
 have hgA : w.heap.size < WA.heap.size := by rw [hWA]; simp
 have k0 : WA.cell? ⟨w.heap.size, 0, none⟩ = some (.string a0_0) := by rw [hWA, World.cell?_alloc_at _ _ _ _ rfl, hcs]; rfl
 have k2 : WA.cell? ⟨w.heap.size, 2, none⟩ = some (.slice A0_2 l0_2.length c0_2) := by rw [hWA, World.cell?_alloc_at _ _ _ _ rfl, hcs]; rfl
 have k1 : WA.cell? ⟨w.heap.size, 1, none⟩ = some (.slice A0_1 l0_1.length c0_1) := by rw [hWA, World.cell?_alloc_at _ _ _ _ rfl, hcs]; rfl
 have k3 : WA.cell? ⟨w.heap.size, 3, none⟩ = some (.slice A0_3 l0_3.length c0_3) := by rw [hWA, World.cell?_alloc_at _ _ _ _ rfl, hcs]; rfl
 have HK0 := am k0
 have HK2 := am k2
 have HK3 := am k3
 have HP : qAf (Calls Try.prog 92 #[.agg #[.string a0_0, .slice A0_1 l0_1.length c0_1, .slice A0_2 l0_2.length c0_2, .slice A0_3 l0_3.length c0_3]] WA fun e w' => ∃ v0_ : Value, e = .returned (v0_) ∧ Kd.R k82 82 w' WA.heap.size (fun _ => True) v0_ (qAY l0_2) ∧ Below WA.heap.size WA w') :=
  ⟨qAk.calls kp a0_0 A0_1 c0_1 l0_1 A0_2 c0_2 l0_2 A0_3 c0_3 l0_3 _ WA (Kd.C_below hr0_1 hBA) hc0_1 (Kd.C_below hr0_2 hBA) hc0_2 (Kd.C_below hr0_3 hBA) hc0_3 hkp⟩
 have HF : qAf (∀ (A : Option Addr) (c : Nat) W, Below WA.heap.size WA W → Kd.C k82 W A (qAY l0_2).length (qAY l0_2) → Calls Try.prog 94 #[.slice A0_3 l0_3.length c0_3, .slice A (qAY l0_2).length c, .func (.func 93) #[] #[]] W fun e w' => e = .returned (.bool (qB4 l0_3 (qAY l0_2))) ∧ Below W.heap.size W w') :=
  ⟨fun A c W hW hC => eqf_any A0_3 A c0_3 c l0_3 (qAY l0_2) W (Kd.C_below hr0_3 (qAw hBA hBA.size hW)) hC hr62⟩
 have HG : qAf (∀ (A : Option Addr) (c : Nat) W, Below WA.heap.size WA W → Kd.C k82 W A (qAY l0_2).length (qAY l0_2) → Calls Try.prog 95 #[.slice A (qAY l0_2).length c, .func (.func 96) #[] #[.pointer (some ⟨w.heap.size, 0, none⟩)]] W fun e w' => e = .returned (.bool ((qAY l0_2).any fun x => qCD l0_2 x != 0)) ∧ Below W.heap.size W w') :=
  ⟨fun A c W hW hC => has_places w.heap.size l0_2 A0_2 c0_2 A c (qAY l0_2) W ((hW.cell (p := ⟨w.heap.size, 2, none⟩) hgA).trans k2) (Kd.C_below hr0_2 (qAw hBA hBA.size hW)) hC hpl (placesL_in l0_2)⟩
 have HRL : qAf (Kd.C k82 WA A0_3 l0_3.length l0_3) := ⟨Kd.C_below hr0_3 hBA⟩
 have HV : qAf (∀ (s : ByteArray) W, Below WA.heap.size WA W → Calls Try.prog 83 #[.slice A1 l1.length c1, .string s] W fun e w' => e = .returned (.bool (hasB l1 s)) ∧ qAH W w') := ⟨fun s W hW => by
   obtain ⟨k, hk⟩ := (qCG l1 s hv62).rounds
   exact qAx.calls k A1 c1 l1 s _ W (Kd.C_below hr1 (qAw hBA hBA.size hW)) hc1 hk⟩
 have HW : qAf (∀ (s : ByteArray) W, Below WA.heap.size WA W → Calls Try.prog 83 #[.slice A2 l2.length c2, .string s] W fun e w' => e = .returned (.bool (hasB l2 s)) ∧ qAH W w') := ⟨fun s W hW => by
   obtain ⟨k, hk⟩ := (qCG l2 s hfl62).rounds
   exact qAx.calls k A2 c2 l2 s _ W (Kd.C_below hr2 (qAw hBA hBA.size hW)) hc2 hk⟩
 have HN : qAf (∀ (s : ByteArray) W, s.size ≤ 140737488351232 → Calls Try.prog 38 #[.string s] W fun e w' => e = .returned (.int .i64 (Names.nameE s)) ∧ qAH W w') := ⟨fun s W hs => qAJ.calls s _ W (by unfold qAJ.f; rw [if_pos hs])⟩
 have HRS := am hrs
 have HWA := am hWA
 obtain ⟨ne, hne⟩ : ∃ n, n = l0_3.length := ⟨_, rfl⟩
 obtain ⟨n1, hn1⟩ : ∃ n, n = l0_1.length := ⟨_, rfl⟩
 obtain ⟨n2, hn2⟩ : ∃ n, n = l0_2.length := ⟨_, rfl⟩
 obtain ⟨m1, hm1⟩ : ∃ n, n = l1.length := ⟨_, rfl⟩
 obtain ⟨m2, hm2⟩ : ∃ n, n = l2.length := ⟨_, rfl⟩
 obtain ⟨np, hnp⟩ : ∃ n, n = (qAY l0_2).length := ⟨_, rfl⟩
 rw [← hne, ← hn1, ← hn2] at hcs HP
 rw [← hne] at HF HRL k3 HK3
 rw [← hnp] at HF HG
 rw [← hn2] at k2 HK2
 rw [← hn1] at k1
 rw [← hm1] at HV
 rw [← hm2] at HW
 rw [← hne, ← hn1, ← hn2, ← hm1, ← hm2]
 have HNE := am hne
 have HNP := am hnp
 have HBA := am hBA
 have HH := am h
 have hr62' : ne ≤ 4611686018427387904 := by omega
 clear hr0_1 hc0_1 hr0_2 hc0_2 hr0_3 hc0_3 hr1 hc1 hr2 hc2 hf64 hf4 hr62 hrs hv62 hfl62 hkp hpl hne hn1 hn2 hm1 hm2 hnp hBA h
 subst hcs
 clear hWA
 go_enter Try.func42, Try.ntmps42
 go_wp2_with fail
 rw [← HWA.out]
 go_wp2_with fail
 refine HP.out.mono ?_
 rintro e w1 ⟨v0, rfl, hR, hb1⟩
 obtain ⟨AP, cP, rfl⟩ := Kd.R_slice hR
 have HRP := am (Kd.R_reads hR)
 have HB1 := am hb1
 obtain ⟨AP', cP', hv, _, hC⟩ := Kd.R_reads hR
 injection hv with hv1 _ hv2
 subst hv1; subst hv2
 rw [← HNP.out] at hC ⊢
 have HC := am hC
 have q0 := (hb1.cell (p := ⟨w.heap.size, 0, none⟩) hgA).trans HK0.out
 have q3 := (hb1.cell (p := ⟨w.heap.size, 3, none⟩) hgA).trans HK3.out
 clear hR hb1 HP k0 k1 k2 k3 hC HRP
 go_wp2_with fail
 refine (HF.out AP cP _ HB1.out HC.out).mono ?_
 rintro e w2 ⟨rfl, hb⟩
 obtain ⟨b1, hb1⟩ : ∃ b, b = qB4 l0_3 (qAY l0_2) := ⟨_, rfl⟩
 rw [← hb1]
 have HQ1 := am hb1
 have HB2 := am (qAw HB1.out HB1.out.size hb)
 have HC2 := am (Kd.C_below HC.out hb)
 have e0 := (HB2.out.cell (p := ⟨w.heap.size, 0, none⟩) hgA).trans HK0.out
 have e3 := (HB2.out.cell (p := ⟨w.heap.size, 3, none⟩) hgA).trans HK3.out
 clear hb hb1 q0 q3 HC
 cases b1 with
 | false =>
  go_wp2
  go_ret
  refine ⟨?_, qAw HBA.out HBA.out.size HB2.out⟩
  rw [← HH.out]; unfold qCV; rw [if_pos HQ1.out.symm]; rfl
 | true =>
 go_wp2_with fail
 refine (HG.out AP cP _ HB2.out HC2.out).mono ?_
 rintro e w3 ⟨rfl, hb⟩
 obtain ⟨b2, hb2⟩ : ∃ b, b = (qAY l0_2).any fun x => qCD l0_2 x != 0 := ⟨_, rfl⟩
 rw [← hb2]
 have HQ2 := am hb2
 have HB3 := am (qAw HB2.out HB2.out.size hb)
 have g0 := (HB3.out.cell (p := ⟨w.heap.size, 0, none⟩) hgA).trans HK0.out
 have g3 := (HB3.out.cell (p := ⟨w.heap.size, 3, none⟩) hgA).trans HK3.out
 clear hb hb2 e0 e3 HC2 HF HG
 cases b2 with
 | true =>
  go_wp2
  go_ret
  refine ⟨?_, qAw HBA.out HBA.out.size HB3.out⟩
  have e1 := HQ1.out.symm; have e2 := HQ2.out.symm; rw [← HH.out]; unfold qCV; rw [e1, e2]; rfl
 | false =>
 have HH2 : qAf ((if qBa l0_3 ≠ 0 then qBa l0_3 else if l0_3.any (qCy a0_0 l1 l2) = true then 52 else 0) = r) := ⟨by
   have e1 := HQ1.out.symm; have e2 := HQ2.out.symm; rw [← HH.out]; unfold qCV; rw [e1, e2]; rfl⟩
 clear HH HQ1 HQ2
 go_wp2_with fail
 go_loopg [10, 11, 12, 32] ne (fun gg _ _ _ s32 wr => ∃ kk : Nat, kk ≤ ne ∧ ne - kk ≤ gg ∧ s32 = .int .i64 kk ∧ qAf (qBa (l0_3.drop kk) = qBa l0_3) ∧ qAf (Below WA.heap.size WA wr))
 case atStart => exact ⟨0, Nat.zero_le _, by omega, rfl, ⟨rfl⟩, HB3⟩
 case round =>
  clear g0 g3 HB1 HB2 HB3
  obtain ⟨kk, hkk, hg, rfl, HA, HB⟩ := hrel
  by_cases hlt : kk < ne
  ·have hltz : (kk : Int) < (ne : Int) := by omega
   have h0 : (0 : Int) ≤ (kk : Int) := by omega
   obtain ⟨ad, ea, hx0, hx1, hx2, hx3, hx4⟩ := at_T82 HRL.out (kk : Int) h0 hltz
   subst ea
   rw [Int.toNat_natCast] at hx0 hx1 hx2 hx3 hx4
   replace hx0 := (HB.out.cell (World.block_lt_of_cell? WA _ hx0)).trans hx0
   replace hx1 := (HB.out.cell (World.block_lt_of_cell? WA _ hx1)).trans hx1
   replace hx2 := (HB.out.cell (World.block_lt_of_cell? WA _ hx2)).trans hx2
   replace hx3 := (HB.out.cell (World.block_lt_of_cell? WA _ hx3)).trans hx3
   replace hx4 := (HB.out.cell (World.block_lt_of_cell? WA _ hx4)).trans hx4
   obtain ⟨x, hx⟩ : ∃ x, x = qCw l0_3 (kk : Int) := ⟨_, rfl⟩
   rw [← hx] at hx0 hx1 hx2 hx3 hx4
   have HX : qAf (l0_3[kk]? = some x) := ⟨by rw [hx]; exact qCk l0_3 z82 kk (by have := HNE.out; omega)⟩
   clear hx
   have HS := am (HRS.out x (List.mem_of_getElem? HX.out))
   have HN1 := am (fun W => HN.out x.f3 W HS.out.1)
   have HN2 := am (fun W => HN.out x.f4 W HS.out.2)
   obtain ⟨z1, hz1⟩ : ∃ z, z = Names.nameE x.f3 := ⟨_, rfl⟩
   obtain ⟨z2, hz2⟩ : ∃ z, z = Names.nameE x.f4 := ⟨_, rfl⟩
   rw [← hz1] at HN1
   rw [← hz2] at HN2
   have HZ1 := am hz1
   have HZ2 := am hz2
   clear hz1 hz2
   go_wp2_with fail
   refine (HN1.out _).mono ?_
   rintro e w4 ⟨rfl, m1, rfl⟩
   by_cases c1 : z1 = 0
   case neg =>
    have c1' : (z1 != 0) = true := bne_iff_ne.mpr c1
    have HC1 := am c1
    clear c1
    go_wp2
    go_ret
    refine ⟨?_, qAw HBA.out HBA.out.size (qAw HB.out HB.out.size (qBJ ((Below.refl _ _).alloc (Nat.le_refl _) _) _))⟩
    rw [← HH2.out, ← HA.out, relNames_hit1 _ _ _ HX.out (by rw [← HZ1.out]; exact HC1.out), ← HZ1.out, if_pos HC1.out]; rfl
   have c1' : (z1 != 0) = false := bne_eq_false_iff_eq.mpr c1
   have HC1 := am c1
   clear c1
   go_wp2_with fail
   refine (HN2.out _).mono ?_
   rintro e w4 ⟨rfl, m2, rfl⟩
   by_cases c2 : z2 = 0
   case neg =>
    have c2' : (z2 != 0) = true := bne_iff_ne.mpr c2
    have HC2 := am c2
    clear c2
    go_wp2
    go_ret
    refine ⟨?_, qAw HBA.out HBA.out.size (qAw HB.out HB.out.size (qBJ ((Below.refl _ _).alloc (Nat.le_refl _) _) _))⟩
    rw [← HH2.out, ← HA.out, relNames_hit2 _ _ _ HX.out (by rw [← HZ1.out]; exact HC1.out) (by rw [← HZ2.out]; exact HC2.out), ← HZ2.out, if_pos HC2.out]; rfl
   have c2' : (z2 != 0) = false := bne_eq_false_iff_eq.mpr c2
   have HC2 := am c2
   clear c2
   go_wp2
   go_roundg (ne - (kk + 1))
   case measure => omega
   case rel => exact ⟨kk + 1, by omega, by omega, by go_num, ⟨by rw [← HA.out, relNames_step _ _ _ HX.out (by rw [← HZ1.out]; exact HC1.out) (by rw [← HZ2.out]; exact HC2.out)]⟩, ⟨qAw HB.out HB.out.size (qBJ ((Below.refl _ _).alloc (Nat.le_refl _) _) _)⟩⟩
  have hltz : ¬ (kk : Int) < (ne : Int) := by omega
  have hkn : kk = ne := by omega
  have hz := relNames_end l0_3 kk (by rw [hkn]; exact Nat.le_of_eq HNE.out.symm)
  have HH3 : qAf ((if l0_3.any (qCy a0_0 l1 l2) = true then 52 else 0) = r) := ⟨by
    rw [← HH2.out, ← HA.out, hz]; rfl⟩
  clear hz
  subst hkn
  obtain ⟨ne, rfl⟩ : ∃ ne, ne = kk := ⟨_, rfl⟩
  have f0 := (HB.out.cell (p := ⟨w.heap.size, 0, none⟩) hgA).trans HK0.out
  have f3 := (HB.out.cell (p := ⟨w.heap.size, 3, none⟩) hgA).trans HK3.out
  clear HA HH2
  go_wp2_with fail
  go_loopg [14, 15, 52] ne (fun gg _ _ s52 wr => ∃ k2 : Nat, k2 ≤ ne ∧ ne - k2 ≤ gg ∧ s52 = .int .i64 k2 ∧ qAf (∀ (j : Nat) x, j < k2 → l0_3[j]? = some x → qCy a0_0 l1 l2 x = false) ∧ qAf (Below WA.heap.size WA wr))
  case atStart => exact ⟨0, Nat.zero_le _, by omega, rfl, ⟨fun j x hj => absurd hj (Nat.not_lt_zero _)⟩, HB⟩
  case round =>
   clear f0 f3 HB hkk hg
   obtain ⟨kk, hkk, hg, rfl, HA, HB⟩ := hrel
   have f0 := (HB.out.cell (p := ⟨w.heap.size, 0, none⟩) hgA).trans HK0.out
   have hgr : w.heap.size < wr.heap.size := Nat.lt_of_lt_of_le hgA HB.out.size
   by_cases hlt : kk < ne
   rotate_left
   ·have hltz : ¬ (kk : Int) < (ne : Int) := by omega
    have hkn : kk = ne := by omega
    go_wp2
    go_ret
    refine ⟨?_, qAw HBA.out HBA.out.size HB.out⟩
    rw [← HH3.out, qD4 _ l0_3 fun j x hj => HA.out j x (by have := (List.getElem?_eq_some_iff.1 hj).1; have := HNE.out; omega) hj]; rfl
   have hltz : (kk : Int) < (ne : Int) := by omega
   have h0 : (0 : Int) ≤ (kk : Int) := by omega
   obtain ⟨ad, ea, hx0, hx1, hx2, hx3, hx4⟩ := at_T82 HRL.out (kk : Int) h0 hltz
   subst ea
   rw [Int.toNat_natCast] at hx0 hx1 hx2 hx3 hx4
   replace hx0 := (HB.out.cell (World.block_lt_of_cell? WA _ hx0)).trans hx0
   replace hx1 := (HB.out.cell (World.block_lt_of_cell? WA _ hx1)).trans hx1
   replace hx2 := (HB.out.cell (World.block_lt_of_cell? WA _ hx2)).trans hx2
   replace hx3 := (HB.out.cell (World.block_lt_of_cell? WA _ hx3)).trans hx3
   replace hx4 := (HB.out.cell (World.block_lt_of_cell? WA _ hx4)).trans hx4
   obtain ⟨x, hx⟩ : ∃ x, x = qCw l0_3 (kk : Int) := ⟨_, rfl⟩
   rw [← hx] at hx0 hx1 hx2 hx3 hx4
   have HX : qAf (l0_3[kk]? = some x) := ⟨by rw [hx]; exact qCk l0_3 z82 kk (by have := HNE.out; omega)⟩
   clear hx
   by_cases cO : x.f3.toList = a0_0.toList
   rotate_left
   ·have cO' : (x.f3.toList == a0_0.toList) = false := beq_eq_false_iff_ne.mpr cO
    have HO := am cO
    clear cO
    by_cases c1 : x.f2 = 1
    ·have c1' : (x.f2 == 1) = true := beq_iff_eq.mpr c1
     have HC1 := am c1
     clear c1
     go_wp2
     go_ret
     refine ⟨?_, qAw HBA.out HBA.out.size (qAw HB.out HB.out.size ((Below.refl _ _).alloc (Nat.le_refl _) _))⟩
     rw [← HH3.out, if_pos (qDe _ _ kk _ HX.out (by unfold qCy; rw [if_neg HO.out]; exact decide_eq_true HC1.out))]; rfl
    have c1' : (x.f2 == 1) = false := beq_eq_false_iff_ne.mpr c1
    have HC1 := am c1
    clear c1
    go_wp2
    go_roundg (ne - (kk + 1))
    case measure => omega
    case rel =>
     refine ⟨kk + 1, by omega, by omega, by go_num, ⟨fun j y hj hy => ?_⟩, ⟨qAw HB.out HB.out.size ((Below.refl _ _).alloc (Nat.le_refl _) _)⟩⟩
     by_cases e : j = kk
     rotate_left
     ·exact HA.out j y (by omega) hy
     subst e; rw [HX.out] at hy; injection hy with hy; subst hy; exact (by unfold qCy; rw [if_neg HO.out]; exact decide_eq_false HC1.out)
   have cO' : (x.f3.toList == a0_0.toList) = true := beq_iff_eq.mpr cO
   have HO := am cO
   clear cO
   by_cases c1 : x.f2 = 1
   ·have c1' : (x.f2 == 1) = true := beq_iff_eq.mpr c1
    have c2' : (x.f2 == 2) = false := beq_eq_false_iff_ne.mpr (by omega)
    have HC1 := am c1
    clear c1
    obtain ⟨b, hb⟩ : ∃ b, b = hasB l1 x.f4 := ⟨_, rfl⟩
    have HQ := am hb
    have HV1 := am (fun W hW => HV.out x.f4 W hW)
    rw [← hb] at HV1
    clear hb
    go_wp2_with fail
    refine (HV1.out _ (qAw HB.out HB.out.size ((Below.refl _ _).alloc (Nat.le_refl _) _))).mono ?_
    rintro e w4 ⟨rfl, m1, rfl⟩
    cases b with
    | false =>
     go_wp2
     go_ret
     refine ⟨?_, qAw HBA.out HBA.out.size (qAw HB.out HB.out.size (qBJ ((Below.refl _ _).alloc (Nat.le_refl _) _) _))⟩
     rw [← HH3.out, if_pos (qDe _ _ kk _ HX.out (by unfold qCy; rw [if_pos HO.out, if_pos HC1.out, ← HQ.out]; rfl))]; rfl
    | true =>
     go_wp2
     go_roundg (ne - (kk + 1))
     case measure => omega
     case rel =>
      refine ⟨kk + 1, by omega, by omega, by go_num, ⟨fun j y hj hy => ?_⟩, ⟨qAw HB.out HB.out.size (qBJ ((Below.refl _ _).alloc (Nat.le_refl _) _) _)⟩⟩
      by_cases e : j = kk
      rotate_left
      ·exact HA.out j y (by omega) hy
      subst e; rw [HX.out] at hy; injection hy with hy; subst hy; exact (by unfold qCy; rw [if_pos HO.out, if_pos HC1.out, ← HQ.out]; rfl)
   have c1' : (x.f2 == 1) = false := beq_eq_false_iff_ne.mpr c1
   have HC1 := am c1
   clear c1
   by_cases c2 : x.f2 = 2
   rotate_left
   ·have c2' : (x.f2 == 2) = false := beq_eq_false_iff_ne.mpr c2
    have HC2 := am c2
    clear c2
    go_wp2
    go_roundg (ne - (kk + 1))
    case measure => omega
    case rel =>
     refine ⟨kk + 1, by omega, by omega, by go_num, ⟨fun j y hj hy => ?_⟩, ⟨qAw HB.out HB.out.size ((Below.refl _ _).alloc (Nat.le_refl _) _)⟩⟩
     by_cases e : j = kk
     rotate_left
     ·exact HA.out j y (by omega) hy
     subst e; rw [HX.out] at hy; injection hy with hy; subst hy; exact (by unfold qCy; rw [if_pos HO.out, if_neg HC1.out, if_neg HC2.out])
   have c2' : (x.f2 == 2) = true := beq_iff_eq.mpr c2
   have HC2 := am c2
   clear c2
   obtain ⟨b, hb⟩ : ∃ b, b = hasB l2 x.f4 := ⟨_, rfl⟩
   have HQ := am hb
   have HW1 := am (fun W hW => HW.out x.f4 W hW)
   rw [← hb] at HW1
   clear hb
   go_wp2_with fail
   refine (HW1.out _ (qAw HB.out HB.out.size ((Below.refl _ _).alloc (Nat.le_refl _) _))).mono ?_
   rintro e w4 ⟨rfl, m1, rfl⟩
   cases b with
   | false =>
    go_wp2
    go_ret
    refine ⟨?_, qAw HBA.out HBA.out.size (qAw HB.out HB.out.size (qBJ ((Below.refl _ _).alloc (Nat.le_refl _) _) _))⟩
    rw [← HH3.out, if_pos (qDe _ _ kk _ HX.out (by unfold qCy; rw [if_pos HO.out, if_neg HC1.out, if_pos HC2.out, ← HQ.out]; rfl))]; rfl
   | true =>
    go_wp2
    go_roundg (ne - (kk + 1))
    case measure => omega
    case rel =>
     refine ⟨kk + 1, by omega, by omega, by go_num, ⟨fun j y hj hy => ?_⟩, ⟨qAw HB.out HB.out.size (qBJ ((Below.refl _ _).alloc (Nat.le_refl _) _) _)⟩⟩
     by_cases e : j = kk
     rotate_left
     ·exact HA.out j y (by omega) hy
     subst e; rw [HX.out] at hy; injection hy with hy; subst hy; exact (by unfold qCy; rw [if_pos HO.out, if_neg HC1.out, if_pos HC2.out, ← HQ.out]; rfl)
end Q
end
section
namespace Q
open Go.RowKit PA PB PC
def qBl.f (a0_0 : Int) (a0_1 : Int) : Option (Bool) := if 0 ≤ a0_1 ∧ a0_1 < 18446744073709551616 then some (Val.okV a0_0 a0_1) else none
theorem qBl.calls (a0_0 : Int) (a0_1 : Int) (r : Bool) (w : World) (h : qBl.f a0_0 a0_1 = some r) :
  Calls Try.prog 40 #[.agg #[.int .i64 a0_0, .int .u64 a0_1]] w fun e w' => e = .returned (.bool r) ∧ Below w.heap.size w w' := by
 unfold qBl.f at h
 split at h
 case isFalse => cases h
 rename_i hs
 obtain rfl := Option.some.inj h
 exact Val.right_any a0_0 a0_1 hs w
end Q
end
section
namespace Q
open Go.RowKit PA PB PC
attribute [local go_sem] qBd min2_int qBp min_two max_three min_three max_four min_four
def qAK.f (k : Nat) (a0 : ByteArray) (l1 : List ByteArray) : Option (Int) := (qAJ.f a0).bind fun aA => (if aA = 0 then ((qAx.f k l1 a0).bind fun aB => (if aB = true then (some 20) else (some 0))) else (some aA))
theorem qAK.calls (k : Nat) (a0 : ByteArray) (A1 : Option Addr) (c1 : Nat) (l1 : List ByteArray) (r : Int) (w : World) (hr1 : Kd.C Kd.string w A1 l1.length l1) (hc1 : l1.length ≤ c1) (h : qAK.f k a0 l1 = some r) :
  Calls Try.prog 39 #[.string a0, .slice A1 l1.length c1] w fun e w' => e = .returned (.int .i64 r) ∧ qAH w w' := by
 have aG := am hr1
 have aF := am hc1
 clear hr1 hc1
 have H : ((qAJ.f a0).bind fun aA => (if aA = 0 then ((qAx.f k l1 a0).bind fun aB => (if aB = true then (some 20) else (some 0))) else (some aA))) = some r := h
 clear h
 replace H := bm H
 obtain ⟨aA, aD, H⟩ := H
 replace H : (if aA = 0 then ((qAx.f k l1 a0).bind fun aB => (if aB = true then (some 20) else (some 0))) else (some aA)) = some r := H
 have A3 := am aD
 clear aD
 by_cases c4 : aA = 0
 ·rw [if_pos c4] at H
  have aC : (aA != 0) = false := bn c4
  clear c4
  replace H := bm H
  obtain ⟨aB, aE, H⟩ := H
  replace H : (if aB = true then (some 20) else (some 0)) = some r := H
  have A5 := am aE
  clear aE
  by_cases c6 : aB = true
  ·subst c6
   replace H : (some 20) = some r := by rw [if_pos rfl] at H; exact H
   obtain rfl := Option.some.inj H
   go_enter Try.func39, Try.ntmps39
   go_wp2_with (first | ((with_reducible refine qAj (f := 38) rfl ?_); refine gL 7 Try.func38 #[.string a0] ?_; (with_reducible refine (qAJ.calls a0 aA _ A3.o).mono ?_); rintro e w' ⟨rfl, ⟨nd, rfl⟩⟩; refine ⟨_, rfl, ?_⟩) | ((with_reducible refine qAj (f := 83) rfl ?_); refine gL 13 Try.func83 #[.slice A1 l1.length c1, .string a0] ?_; (with_reducible refine (qAx.calls k _ _ l1 a0 true _ ?side1 ?side2 A5.o).mono ?_); (case side1 => exact aG.o); (case side2 => exact aF.o); rintro e w' ⟨rfl, ⟨nd, rfl⟩⟩; refine ⟨_, rfl, ?_⟩))
   go_ret
   exact ⟨by rfl, by repeat (first | exact qAH.refl _ | apply qAH.step)⟩
  ·replace c6 := Bool.eq_false_iff.mpr c6
   subst c6
   replace H : (some 0) = some r := by rw [if_neg (show ¬ (false = true) by decide)] at H; exact H
   obtain rfl := Option.some.inj H
   go_enter Try.func39, Try.ntmps39
   go_wp2_with (first | ((with_reducible refine qAj (f := 38) rfl ?_); refine gL 7 Try.func38 #[.string a0] ?_; (with_reducible refine (qAJ.calls a0 aA _ A3.o).mono ?_); rintro e w' ⟨rfl, ⟨nd, rfl⟩⟩; refine ⟨_, rfl, ?_⟩) | ((with_reducible refine qAj (f := 83) rfl ?_); refine gL 13 Try.func83 #[.slice A1 l1.length c1, .string a0] ?_; (with_reducible refine (qAx.calls k _ _ l1 a0 false _ ?side1 ?side2 A5.o).mono ?_); (case side1 => exact aG.o); (case side2 => exact aF.o); rintro e w' ⟨rfl, ⟨nd, rfl⟩⟩; refine ⟨_, rfl, ?_⟩))
   go_ret
   exact ⟨by rfl, by repeat (first | exact qAH.refl _ | apply qAH.step)⟩
 ·rw [if_neg c4] at H
  have aC : (aA != 0) = true := bne_iff_ne.mpr c4
  obtain rfl := Option.some.inj H
  go_enter Try.func39, Try.ntmps39
  go_wp2_with ((with_reducible refine qAj (f := 38) rfl ?_); refine gL 7 Try.func38 #[.string a0] ?_; (with_reducible refine (qAJ.calls a0 aA _ A3.o).mono ?_); rintro e w' ⟨rfl, ⟨nd, rfl⟩⟩; refine ⟨_, rfl, ?_⟩)
  go_ret
  exact ⟨by rfl, by repeat (first | exact qAH.refl _ | apply qAH.step)⟩
end Q
end
end Go.Proofs.Ytfjpnjbinbhcfaa
