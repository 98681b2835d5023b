/- CodeUnlike, where what it reads is of bulk at most 1048576: texts of right instructions are unlike where the instructions are; so are their bytes. -/
import Derived.Test.YtfddibbignedkaaGreatDoorI1
import Derived.Test.YtfddibbignedkaaGreatDoorCards
import Derived.Test.YtfddibbignedkaaGreatDoorTie
import Derived.WalkKit
import Derived.ProofKit
import Derived.OpenShut
import Derived.ShutString
import Derived.Below
import Derived.LaidMore
import Derived.Lay
import Derived.SevenTiedAt
import Derived.Stop.Joined
import Derived.MakeChecks
import Derived.JoinedCond
import Derived.Deep.DeepHandedRow
set_option maxHeartbeats 8000000
set_option maxRecDepth 100000
set_option linter.unusedVariables false
set_option linter.unusedSimpArgs false
namespace Go.Proofs.YtfddibbignedkaaGreatDoor
section
namespace DecLaw
open Go.RowKit Base Val Ins Wr Enc
def valB (l : List Int) : Int := l.foldl (fun v x => v * 256 + x) 0
def Bytes (l : List Int) : Prop := ∀ x ∈ l, 0 ≤ x ∧ x < 256
theorem valB_snoc (l : List Int) (x : Int) : valB (l ++ [x]) = valB l * 256 + x := by simp [valB]
theorem be_snoc (n : Int) (m : Nat) : be n (m + 1) (m + 1) = be (n / 256) m m ++ [n % 256] := by
 unfold be
 rw [List.range_succ, List.map_append]
 congr 1
 ·apply List.map_congr_left
  intro t ht
  have ht' : t < m := List.mem_range.1 ht
  rw [show 8 * (m + 1 - 1 - t) = 8 + 8 * (m - 1 - t) by omega, Int.pow_add, ← Int.ediv_ediv_of_nonneg (by decide)]
  rfl
 simp
theorem valB_be : ∀ (m : Nat) (n : Int), 0 ≤ n → n < 256 ^ m → valB (be n m m) = n := by
 intro m
 induction m with
 | zero =>
  intro n h0 h1; simp at h1; have : n = 0 := by omega
  subst this; rfl
 | succ m ih =>
  intro n h0 h1
  rw [Int.pow_succ] at h1
  rw [be_snoc, valB_snoc, ih (n / 256) (by omega) (by omega)]
  omega
theorem be_bytes (n : Int) (m : Nat) : Bytes (be n m m) := by
 intro x hx
 unfold be at hx
 obtain ⟨t, _, rfl⟩ := List.mem_map.1 hx
 omega
def parse (r : List Int) : InsD :=
 if r.getD 0 0 = 1 then ⟨1, 0, r.getD 1 0, valB ((r.drop 2).take 8)⟩ else ⟨r.getD 0 0, valB ((r.drop 1).take (widN (r.getD 0 0))), 0, 0⟩
theorem ok_op {x : InsD} (h : x.ok = true) : 1 ≤ x.op ∧ x.op ≤ 17 := by
 unfold InsD.ok okI at h
 split at h
 ·cases h
 omega
theorem ok_n {x : InsD} (h : x.ok = true) (h1 : x.op ≠ 1) : x.ty = 0 ∧ x.b = 0 ∧ 0 ≤ x.n ∧ x.n < 256 ^ widN x.op := by
 obtain ⟨_, _, ht, hb, hn0, _, hw⟩ := okI_mid_of x.op x.n x.ty x.b h h1
 refine ⟨ht, hb, hn0, ?_⟩
 have hm : x.n ≤ most x.op := by
  unfold InsD.ok okI at h
  split at h
  ·cases h
  split at h
  ·cases h
  rename_i h3; simp only [Decidable.not_not] at h3; exact h3.2.2.2
 unfold most at hm
 unfold widN
 rcases hw with e | e | e <;> rw [e] at hm ⊢ <;> simp at hm ⊢ <;> omega
theorem ok_push {x : InsD} (h : x.ok = true) (h1 : x.op = 1) : x.n = 0 ∧ 1 ≤ x.ty ∧ x.ty ≤ 3 := by
 unfold InsD.ok at h
 rw [h1, okI_1] at h
 simp only [Bool.and_eq_true, beq_iff_eq] at h
 refine ⟨h.1, ?_⟩
 by_cases hn : x.ty < 1 ∨ 3 < x.ty
 rotate_left
 ·omega
 rw [okV_no _ _ hn] at h; exact absurd h.2 (by simp)
theorem parse_insB {x : InsD} (h : x.ok = true) (hb : U64 x.b) (t : List Int) : parse (insB x ++ t) = x := by
 obtain ⟨h1, h2⟩ := ok_op h
 have hop : x.op % 256 = x.op := by omega
 obtain ⟨op, n, ty, b⟩ := x
 dsimp only at *
 by_cases e : op = 1
 rotate_left
 ·obtain ⟨ht, hb0, hn0, hn1⟩ := ok_n h e
  dsimp only at ht hb0 hn0 hn1
  subst ht hb0
  unfold parse insB
  simp only [if_neg e, List.cons_append, List.getD_cons_zero, List.drop_succ_cons, List.drop_zero, hop]
  rw [List.take_append_of_le_length (by rw [qBe]; omega), List.take_of_length_le (by rw [qBe]; omega), valB_be _ _ hn0 hn1]
 subst e
 obtain ⟨hn, ht1, ht3⟩ := ok_push h rfl
 dsimp only at hn ht1 ht3
 subst hn
 unfold parse insB
 have hv := valB_be 8 b hb.1 (by have := hb.2; simpa using this)
 simp only [if_true, List.cons_append, List.getD_cons_zero, List.getD_cons_succ, List.drop_succ_cons, List.drop_zero, hop]
 rw [show ty % 256 = ty by omega, List.take_append_of_le_length (by rw [qBe]; omega), List.take_of_length_le (by rw [qBe]; omega), hv]
theorem insB_front {x y : InsD} {s t : List Int} (hx : x.ok = true ∧ U64 x.b) (hy : y.ok = true ∧ U64 y.b) (h : insB x ++ s = insB y ++ t) : x = y ∧ s = t := by
 have e : x = y := by rw [← parse_insB hx.1 hx.2 s, h, parse_insB hy.1 hy.2 t]
 subst e
 exact ⟨rfl, List.append_cancel_left h⟩
end DecLaw
end
section
namespace Q
open Go.RowKit YA YB YC
open Val Ins
namespace Flt
theorem split_at {α : Type} (s : α) : ∀ (a b x y : List α), s ∉ a → s ∉ b → a ++ s :: x = b ++ s :: y → a = b ∧ x = y
 | [], [], x, y, _, _, h => ⟨rfl, by simpa using h⟩
 | [], c :: b, x, y, _, hb, h => by
  simp only [List.nil_append, List.cons_append, List.cons.injEq] at h
  exact absurd (h.1 ▸ List.mem_cons_self ..) hb
 | c :: a, [], x, y, ha, _, h => by
  simp only [List.nil_append, List.cons_append, List.cons.injEq] at h
  exact absurd (h.1 ▸ List.mem_cons_self ..) ha
 | c :: a, d :: b, x, y, ha, hb, h => by
  simp only [List.cons_append, List.cons.injEq] at h
  obtain ⟨k1, k2⟩ := split_at s a b x y (fun m => ha (List.mem_cons_of_mem _ m)) (fun m => hb (List.mem_cons_of_mem _ m)) h.2
  exact ⟨by rw [h.1, k1], k2⟩
theorem nums_inj : ∀ (l m : List Int), (∀ x ∈ l, 0 ≤ x ∧ x < 256) → (∀ x ∈ m, 0 ≤ x ∧ x < 256) → strOfNums l = strOfNums m → l = m
 | l, m, hl, hm, h => by
  have h : (l.map fun n => UInt8.ofNat n.toNat) = m.map fun n => UInt8.ofNat n.toNat := by
   have := congrArg (fun s : ByteArray => s.data.toList) h
   simpa [strOfNums] using this
  induction l generalizing m with
  | nil => cases m with
   | nil => rfl
   | cons y m => simp at h
  | cons x l ih => cases m with
   | nil => simp at h
   | cons y m =>
    simp only [List.map_cons, List.cons.injEq] at h
    have h1 := hl x (List.mem_cons_self ..)
    have h2 := hm y (List.mem_cons_self ..)
    have h3 := congrArg UInt8.toNat h.1
    simp at h3
    have : x = y := by omega
    rw [this, ih m (fun z hz => hl z (List.mem_cons_of_mem _ hz)) (fun z hz => hm z (List.mem_cons_of_mem _ hz)) (by simp [strOfNums, h.2]) h.2]
theorem hx_inj {a b : Int} (h0 : 0 ≤ a) (h1 : a < 16) (k0 : 0 ≤ b) (k1 : b < 16) (h : hx a = hx b) : a = b := by
 unfold hx at h; split at h <;> split at h <;> omega
theorem hexs_inj : ∀ (k : Nat) (a b : Int), 0 ≤ a → a < 18446744073709551616 → 0 ≤ b → b < 18446744073709551616 → (a ≠ 0 → a % 16 ^ (17 - k) = 0 ∧ 1 < k) → (b ≠ 0 → b % 16 ^ (17 - k) = 0 ∧ 1 < k) → k ≤ 17 → hexs k a = hexs k b → a = b
 | 0, a, b, _, _, _, _, ha, hb, _, _ => by
  have h1 : a = 0 := Classical.byContradiction fun h => absurd (ha h).2 (by omega)
  have h2 : b = 0 := Classical.byContradiction fun h => absurd (hb h).2 (by omega)
  rw [h1, h2]
 | k + 1, a, b, a0, a1, b0, b1, ha, hb, hk, h => by
  unfold hexs at h
  by_cases za : a = 0
  ·rw [if_pos za] at h
   by_cases zb : b = 0
   ·rw [za, zb]
   rw [if_neg zb] at h; cases h
  rw [if_neg za] at h
  by_cases zb : b = 0
  ·rw [if_pos zb] at h; cases h
  rw [if_neg zb] at h
  injection h with h1 h2
  have ia := hx_lt a0 a1
  have ib := hx_lt b0 b1
  have e1 := hx_inj ia.1 ia.2 ib.1 ib.2 h1
  have e2 := hexs_inj k (a * 16 % 18446744073709551616) (b * 16 % 18446744073709551616) (by omega) (by omega) (by omega) (by omega) (fun hn => qCw k a a0 a1 za (ha za).1 hk hn) (fun hn => qCw k b b0 b1 zb (hb zb).1 hk hn) (by omega) h2
  omega
def valL (l : List Int) : Int := l.foldl (fun acc d => acc * 10 + (d - 48)) 0
theorem val_ex : ∀ n : Nat, n < 1100 → valL (qBg (exL n)) = n := by decide +kernel
theorem ex_inj {a b : Int} (a0 : 0 ≤ a) (a1 : a < 1100) (b0 : 0 ≤ b) (b1 : b < 1100) (h : qBg (exL a) = qBg (exL b)) : a = b := by
 obtain ⟨n, rfl⟩ := Int.eq_ofNat_of_zero_le a0
 obtain ⟨m, rfl⟩ := Int.eq_ofNat_of_zero_le b0
 have h1 := val_ex n (by omega)
 have h2 := val_ex m (by omega)
 rw [h, h2] at h1
 exact h1.symm
theorem nrm_spec : ∀ (k : Nat) (m e : Int), 0 < m → m < 2305843009213693952 → 1152921504606846976 ≤ m * 2 ^ k → ∃ j : Nat, (nrm k m e).1 = m * 2 ^ j ∧ (nrm k m e).2 = e - j ∧ (m < 1152921504606846976 → 1 ≤ j) ∧ (1152921504606846976 ≤ m → j = 0)
 | 0, m, e, h0, h1, h2 => by
  simp only [Int.pow_zero, Int.mul_one] at h2
  exact ⟨0, by simp [nrm], by simp [nrm], by omega, fun _ => rfl⟩
 | k + 1, m, e, h0, h1, h2 => by
  unfold nrm
  by_cases c : m ≠ 0 ∧ m < 1152921504606846976
  rotate_left
  ·rw [if_neg c]
   exact ⟨0, by simp, by simp, by omega, fun _ => rfl⟩
  rw [if_pos c]
  obtain ⟨j, j1, j2, _, _⟩ := nrm_spec k (m * 2) (e - 1) (by omega) (by omega) (by rw [Int.pow_succ] at h2; rw [Int.mul_assoc, Int.mul_comm 2]; exact h2)
  exact ⟨j + 1, by rw [j1, Int.pow_succ, Int.mul_assoc, Int.mul_comm 2], by rw [j2]; omega, by omega, by omega⟩
theorem fin_inj {a b : Int} (a0 : 0 ≤ a) (a1 : a < 18446744073709551616) (b0 : 0 ≤ b) (b1 : b < 18446744073709551616) (ha : expF a ≠ 2047) (hb : expF b ≠ 2047) (hn : negF a = negF b) (h1 : (nF a).1 = (nF b).1) (h2 : (nF a).2 = (nF b).2) : a = b := by
 have ma := qB8 a0
 have mb := qB8 b0
 have hd : ∀ c : Int, 0 ≤ c → c < 18446744073709551616 → c = (if negF c = true then 9223372036854775808 else 0) + expF c * 4503599627370496 + c % 4503599627370496 := fun c c0 c1 => by
  unfold negF expF
  by_cases n : 9223372036854775808 ≤ c
  ·rw [decide_eq_true n, if_pos rfl]; omega
  rw [decide_eq_false n, if_neg (by decide)]; omega
 have key : expF a = expF b ∧ a % 4503599627370496 = b % 4503599627370496 := by
  by_cases za : manF a = 0
  ·rw [qDn za] at h1 h2
   have zb : manF b = 0 := Classical.byContradiction fun h => by
    have := (nF_out b0 h).1
    rw [← h1] at this
    omega
   unfold manF at za zb
   split at za <;> split at zb <;> omega
  have zb : manF b ≠ 0 := fun h => by
   rw [qDn h] at h1
   have := (nF_out a0 za).1
   omega
  obtain ⟨j, j1, j2, j3, j4⟩ := nrm_spec 64 (manF a * 256) (exF a) (by omega) (by omega) (by omega)
  obtain ⟨i, i1, i2, i3, i4⟩ := nrm_spec 64 (manF b * 256) (exF b) (by omega) (by omega) (by omega)
  have h1 : manF a * 256 * 2 ^ j = manF b * 256 * 2 ^ i := by rw [← j1, ← i1]; exact h1
  have h2 : exF a - j = exF b - i := by rw [← j2, ← i2]; exact h2
  have ea : exF a = (if expF a = 0 then 1 else expF a) - 1023 := by unfold exF; rw [if_neg za]
  have eb : exF b = (if expF b = 0 then 1 else expF b) - 1023 := by unfold exF; rw [if_neg zb]
  have pa : 0 ≤ expF a := by unfold expF; omega
  have pb : 0 ≤ expF b := by unfold expF; omega
  by_cases ca : expF a = 0
  rotate_left
  ·have la : manF a = a % 4503599627370496 + 4503599627370496 := by unfold manF; rw [if_neg ca]
   rw [if_neg ca] at ea
   have hj := j4 (by omega)
   subst hj
   by_cases cb : expF b = 0
   ·have lb : manF b = b % 4503599627370496 := by unfold manF; rw [if_pos cb]
    rw [if_pos cb] at eb
    have hi := i3 (by omega)
    omega
   have lb : manF b = b % 4503599627370496 + 4503599627370496 := by unfold manF; rw [if_neg cb]
   rw [if_neg cb] at eb
   have hi := i4 (by omega)
   subst hi
   simp only [Int.pow_zero, Int.mul_one] at h1
   exact ⟨by omega, by omega⟩
  have la : manF a = a % 4503599627370496 := by unfold manF; rw [if_pos ca]
  rw [if_pos ca] at ea
  have hj := j3 (by omega)
  by_cases cb : expF b = 0
  rotate_left
  ·have lb : manF b = b % 4503599627370496 + 4503599627370496 := by unfold manF; rw [if_neg cb]
   rw [if_neg cb] at eb
   have hi := i4 (by omega)
   omega
  have lb : manF b = b % 4503599627370496 := by unfold manF; rw [if_pos cb]
  rw [if_pos cb] at eb
  have hij : j = i := by omega
  subst hij
  have h3 := Int.eq_of_mul_eq_mul_right (Int.ne_of_gt (Int.pow_pos (by decide : (0:Int) < 2))) h1
  exact ⟨by rw [ca, cb], by omega⟩
 rw [hd a a0 a1, hd b b0 b1, hn, key.1, key.2]
theorem exL_bytes {e : Int} (h0 : 0 ≤ e) (h1 : e < 1100) : ∀ y ∈ exL e, 0 ≤ y ∧ y < 256 := by
 intro y hy
 unfold exL at hy
 split at hy
 ·simp only [List.mem_cons, List.not_mem_nil, or_false] at hy
  omega
 split at hy <;> (simp only [List.mem_cons, List.not_mem_nil, or_false] at hy; omega)
theorem strip_mem : ∀ (l : List Int) (y : Int), y ∈ qBg l → y ∈ l
 | [], y, h => by unfold qBg at h; exact h
 | [x], y, h => by
  unfold qBg at h
  split at h
  ·simp_all
  exact h
 | x :: d :: r, y, h => by
  unfold qBg at h
  split at h
  ·rename_i e
   injection e with e1 e2
   injection e2 with e2 e3
   subst e2; subst e3
   exact List.mem_cons_of_mem _ (strip_mem _ y h)
  exact h
theorem qDm {a : Int} (h0 : 0 ≤ a) : 0 ≤ (nF a).1 ∧ (nF a).1 < 2305843009213693952 ∧ 0 ≤ abL (nF a).2 ∧ abL (nF a).2 < 1100 := by
 by_cases hz : manF a = 0
 ·rw [qDn hz]; decide
 obtain ⟨k1, k2, k3, k4⟩ := nF_out h0 hz
 refine ⟨by omega, k2, ?_, ?_⟩ <;> (unfold abL; split <;> omega)
theorem textF_bytes {a : Int} (h0 : 0 ≤ a) : ∀ y ∈ qBD a, 0 ≤ y ∧ y < 256 := by
 obtain ⟨b1, b2, b3, b4⟩ := qDm h0
 intro y hy
 unfold qBD at hy
 rcases List.mem_append.1 hy with hy | hy
 ·rcases List.mem_append.1 hy with hy | hy
  ·exact (qCU _ _ b1 b2 y hy).2
  simp only [List.mem_cons, List.not_mem_nil, or_false] at hy
  rcases hy with rfl | rfl
  ·decide
  unfold sgL; split <;> decide
 exact exL_bytes b3 b4 y (strip_mem _ y hy)
theorem headL_inj {n1 n2 : Bool} {m1 m2 : Int} (a0 : 0 ≤ m1) (a1 : m1 < 2305843009213693952) (b0 : 0 ≤ m2) (b1 : m2 < 2305843009213693952) (h : qBX n1 m1 = qBX n2 m2) : n1 = n2 ∧ m1 = m2 := by
 have hn : n1 = n2 := by
  unfold qBX at h
  cases n1 <;> cases n2 <;> simp at h <;> rfl
 subst hn
 refine ⟨rfl, ?_⟩
 unfold qBX at h
 rw [List.append_assoc, List.append_assoc] at h
 have h := List.append_cancel_left h
 simp only [List.cons_append, List.nil_append, List.cons.injEq, true_and] at h
 obtain ⟨h1, h2⟩ := h
 have e : m1 * 16 % 18446744073709551616 = m2 * 16 % 18446744073709551616 := by
  by_cases z1 : m1 * 16 % 18446744073709551616 = 0
  ·rw [if_pos z1] at h2
   by_cases z2 : m2 * 16 % 18446744073709551616 = 0
   ·rw [z1, z2]
   rw [if_neg z2] at h2; cases h2
  rw [if_neg z1] at h2
  by_cases z2 : m2 * 16 % 18446744073709551616 = 0
  ·rw [if_pos z2] at h2; cases h2
  rw [if_neg z2] at h2
  injection h2 with _ h2
  exact hexs_inj 17 _ _ (by omega) (by omega) (by omega) (by omega) (fun _ => ⟨by simp, by decide⟩) (fun _ => ⟨by simp, by decide⟩) (by decide) h2
 omega
theorem textF_inj {a b : Int} (a0 : 0 ≤ a) (a1 : a < 18446744073709551616) (b0 : 0 ≤ b) (b1 : b < 18446744073709551616) (ha : expF a ≠ 2047) (hb : expF b ≠ 2047) (h : qBD a = qBD b) : a = b := by
 obtain ⟨p1, p2, p3, p4⟩ := qDm a0
 obtain ⟨q1, q2, q3, q4⟩ := qDm b0
 unfold qBD at h
 rw [List.append_assoc, List.append_assoc] at h
 have h := split_at (112 : Int) _ _ _ _ (fun m => (qCU _ _ p1 p2 _ m).1 rfl) (fun m => (qCU _ _ q1 q2 _ m).1 rfl) h
 obtain ⟨h1, h2⟩ := h
 injection h2 with h2 h3
 obtain ⟨k1, k2⟩ := headL_inj p1 p2 q1 q2 h1
 have k3 := ex_inj p3 p4 q3 q4 h3
 refine fin_inj a0 a1 b0 b1 ha hb k1 k2 ?_
 unfold sgL at h2
 unfold abL at k3
 split at h2 <;> split at h2 <;> simp_all <;> omega
def Cn (a : Int) : Prop := 0 ≤ a ∧ a < 18446744073709551616 ∧ (9218868437227405312 < a % 9223372036854775808 → a = 9221120237041090561)
theorem headF (a : Int) : ∃ r, qBD a = 45 :: 48 :: r ∨ qBD a = 48 :: r := by
 unfold qBD qBX
 cases negF a
 ·exact ⟨_, .inr rfl⟩
 exact ⟨_, .inl rfl⟩
theorem qBB (a : Int) (h : Cn a) : (a = 9221120237041090561 ∧ qBl a = [110, 97, 110]) ∨ (a = 9218868437227405312 ∧ qBl a = [105, 110, 102]) ∨ (a = 18442240474082181120 ∧ qBl a = [45, 105, 110, 102]) ∨ (qBl a = qBD a ∧ expF a ≠ 2047) := by
 obtain ⟨h0, h1, h2⟩ := h
 by_cases c1 : 9218868437227405312 < a % 9223372036854775808
 ·exact .inl ⟨h2 c1, by unfold qBl; rw [if_pos c1]⟩
 by_cases c2 : a % 9223372036854775808 = 9218868437227405312
 rotate_left
 ·exact .inr (.inr (.inr ⟨by unfold qBl; rw [if_neg c1, if_neg c2], by unfold expF; omega⟩))
 by_cases c3 : a = 9218868437227405312
 ·exact .inr (.inl ⟨c3, by unfold qBl; rw [if_neg c1, if_pos c2, if_pos c3]⟩)
 exact .inr (.inr (.inl ⟨by omega, by unfold qBl; rw [if_neg c1, if_pos c2, if_neg c3]⟩))
theorem textL_inj {a b : Int} (ha : Cn a) (hb : Cn b) (h : qBl a = qBl b) : a = b := by
 obtain ⟨r, hr⟩ := headF a
 obtain ⟨s, hs⟩ := headF b
 rcases qBB a ha with ⟨e, t⟩ | ⟨e, t⟩ | ⟨e, t⟩ | ⟨t, e⟩ <;> rcases qBB b hb with ⟨f, u⟩ | ⟨f, u⟩ | ⟨f, u⟩ | ⟨u, f⟩ <;> rw [t, u] at h
 ·rw [e, f]
 ·exact absurd h (by decide)
 ·exact absurd h (by decide)
 ·rcases hs with hs | hs <;> (rw [hs] at h; exact absurd h (by simp))
 ·exact absurd h (by decide)
 ·rw [e, f]
 ·exact absurd h (by decide)
 ·rcases hs with hs | hs <;> (rw [hs] at h; exact absurd h (by simp))
 ·exact absurd h (by decide)
 ·exact absurd h (by decide)
 ·rw [e, f]
 ·rcases hs with hs | hs <;> (rw [hs] at h; exact absurd h (by simp))
 ·rcases hr with hr | hr <;> (rw [hr] at h; exact absurd h (by simp))
 ·rcases hr with hr | hr <;> (rw [hr] at h; exact absurd h (by simp))
 ·rcases hr with hr | hr <;> (rw [hr] at h; exact absurd h (by simp))
 exact textF_inj ha.1 ha.2.1 hb.1 hb.2.1 e f h
theorem qDw {a : Int} (h : Cn a) : ∀ y ∈ qBl a, 0 ≤ y ∧ y < 256 := by
 rcases qBB a h with ⟨e, t⟩ | ⟨e, t⟩ | ⟨e, t⟩ | ⟨t, e⟩ <;> rw [t]
 ·decide
 ·decide
 ·decide
 exact textF_bytes h.1
def valB (l : List UInt8) : Nat := l.foldl (fun acc d => acc * 10 + (d.toNat - 48)) 0
theorem val_dd (u : Nat) : valB (Lib.decDigits u) = u := by
 induction u using Nat.strongRecOn with
 | _ u ih =>
  by_cases c : u < 10
  ·rw [Lib.decDigits_one c]
   simp [valB]; omega
  rw [qDe u c]
  unfold valB at ih ⊢
  rw [List.foldl_append, ih (u / 10) (by omega)]
  simp; omega
theorem qCu (u : Nat) : ∀ d ∈ Lib.decDigits u, 48 ≤ d.toNat ∧ d.toNat < 58 := by
 induction u using Nat.strongRecOn with
 | _ u ih =>
  by_cases c : u < 10
  ·rw [Lib.decDigits_one c]
   intro d hd
   rcases List.mem_singleton.1 hd with rfl
   simp; omega
  rw [qDe u c]
  intro d hd
  rcases List.mem_append.1 hd with hd | hd
  ·exact ih (u / 10) (by omega) d hd
  rcases List.mem_singleton.1 hd with rfl
  simp; omega
theorem qCB (n : Int) : (0 ≤ n ∧ Lib.itoa n = Lib.decDigits n.toNat) ∨ (n < 0 ∧ Lib.itoa n = 45 :: Lib.decDigits n.natAbs) := by
 by_cases c : n < 0
 ·exact .inr ⟨c, by unfold Lib.itoa; rw [if_pos c]⟩
 exact .inl ⟨by omega, by unfold Lib.itoa; rw [if_neg c]⟩
theorem dd_inj {u v : Nat} (h : Lib.decDigits u = Lib.decDigits v) : u = v := by rw [← val_dd u, ← val_dd v, h]
theorem itoa_inj {n m : Int} (h : Lib.itoa n = Lib.itoa m) : n = m := by
 rcases qCB n with ⟨c, e⟩ | ⟨c, e⟩ <;> rcases qCB m with ⟨d, f⟩ | ⟨d, f⟩ <;> rw [e, f] at h
 ·have := dd_inj h; omega
 ·have := qCu n.toNat 45 (by rw [h]; exact List.mem_cons_self ..)
  exact absurd this (by decide)
 ·have := qCu m.toNat 45 (by rw [← h]; exact List.mem_cons_self ..)
  exact absurd this (by decide)
 injection h with _ h
 have := dd_inj h; omega
theorem itoa_chars (n : Int) : ∀ d ∈ Lib.itoa n, d.toNat = 45 ∨ (48 ≤ d.toNat ∧ d.toNat < 58) := by
 rcases qCB n with ⟨c, e⟩ | ⟨c, e⟩ <;> rw [e] <;> intro d hd
 ·exact .inr (qCu _ d hd)
 rcases List.mem_cons.1 hd with rfl | hd
 ·exact .inl rfl
 exact .inr (qCu _ d hd)
def bl (s : ByteArray) : List UInt8 := s.data.toList
theorem qCL (a b : ByteArray) : bl (a ++ b) = bl a ++ bl b := by simp [bl]
theorem bl_inj {a b : ByteArray} (h : bl a = bl b) : a = b := by
 apply ByteArray.ext
 exact Array.toList_inj.1 h
theorem qCZ (n : Int) : bl (itoB n) = Lib.itoa n := by simp [bl, itoB]
theorem cn_of {b : Int} (h : okV 2 b = true) (hu : U64 b) : Cn b := by
 rw [okV_2] at h
 have h := eq_of_beq h
 refine ⟨hu.1, hu.2, fun hn => ?_⟩
 have : nanB b = true := by unfold nanB; exact decide_eq_true hn
 rw [qCa this] at h
 exact h.symm
theorem has_x (b : Int) : ∃ d ∈ qBD b, d = 120 := by
 refine ⟨120, ?_, rfl⟩
 unfold qBD qBX
 simp
theorem show_big {t b : Int} (h : okV t b = true) (hu : U64 b) (ht : t ≠ 1) : ∃ d ∈ bl (qBr t b), 97 ≤ d.toNat := by
 have h123 : t = 1 ∨ t = 2 ∨ t = 3 := Classical.byContradiction fun k => by
  rw [okV_no t b (by omega)] at h; cases h
 rcases h123 with rfl | rfl | rfl
 ·exact absurd rfl ht
 ·have hc := cn_of h hu
  rw [show qBr 2 b = strOfNums (qBl b) from rfl]
  have : ∃ d ∈ qBl b, d = 110 ∨ d = 105 ∨ d = 120 := by
   rcases qBB b hc with ⟨_, t⟩ | ⟨_, t⟩ | ⟨_, t⟩ | ⟨t, _⟩ <;> rw [t]
   ·exact ⟨110, by decide, by decide⟩
   ·exact ⟨105, by decide, by decide⟩
   ·exact ⟨105, by decide, by decide⟩
   obtain ⟨d, k, e⟩ := has_x b
   exact ⟨d, k, .inr (.inr e)⟩
  obtain ⟨d, k, e⟩ := this
  refine ⟨UInt8.ofNat d.toNat, by simp only [bl, strOfNums]; exact List.mem_map.2 ⟨d, k, rfl⟩, ?_⟩
  rcases e with rfl | rfl | rfl <;> decide
 rw [show qBr 3 b = (if b = 0 then ⟨#[102, 97, 108, 115, 101]⟩ else ⟨#[116, 114, 117, 101]⟩) from rfl]
 split
 ·exact ⟨101, by decide, by decide⟩
 exact ⟨101, by decide, by decide⟩
theorem wrap_inj {a b : Int} (ha : U64 a) (hb : U64 b) (h : wrap64 a = wrap64 b) : a = b := by
 have := ha.1; have := ha.2; have := hb.1; have := hb.2
 unfold wrap64 at h; omega
theorem head2 {b : Int} (h : okV 2 b = true) (hu : U64 b) : ∃ d r, qBl b = d :: r ∧ (d = 110 ∨ d = 105 ∨ d = 45 ∨ d = 48) := by
 rcases qBB b (cn_of h hu) with ⟨_, t⟩ | ⟨_, t⟩ | ⟨_, t⟩ | ⟨t, _⟩
 ·exact ⟨_, _, t, .inl rfl⟩
 ·exact ⟨_, _, t, .inr (.inl rfl)⟩
 ·exact ⟨_, _, t, .inr (.inr (.inl rfl))⟩
 obtain ⟨r, hr⟩ := headF b
 rcases hr with hr | hr
 ·exact ⟨_, _, t.trans hr, .inr (.inr (.inl rfl))⟩
 exact ⟨_, _, t.trans hr, .inr (.inr (.inr rfl))⟩
theorem no23 {a b : Int} (h : okV 2 a = true) (hu : U64 a) : qBr 2 a ≠ qBr 3 b := fun e => by
 obtain ⟨d, r, hd, hx⟩ := head2 h hu
 have e := congrArg bl e
 rw [show qBr 2 a = strOfNums (qBl a) from rfl, hd, show qBr 3 b = (if b = 0 then ⟨#[102, 97, 108, 115, 101]⟩ else ⟨#[116, 114, 117, 101]⟩) from rfl] at e
 simp only [bl, strOfNums, List.map_cons] at e
 split at e <;> (injection e with e _; rcases hx with rfl | rfl | rfl | rfl <;> exact absurd e (by decide))
theorem showB_inj {t b s c : Int} (h : okV t b = true) (hu : U64 b) (k : okV s c = true) (hv : U64 c) (e : qBr t b = qBr s c) : t = s ∧ b = c := by
 have one : ∀ {t b s c : Int}, okV s c = true → U64 c → t = 1 → s ≠ 1 → qBr t b = qBr s c → False := fun {t b s c} k hv e1 ne e => by
  subst e1
  obtain ⟨d, hd, h97⟩ := show_big k hv ne
  rw [← e, show qBr 1 b = itoB (wrap64 b) from rfl, qCZ] at hd
  have := itoa_chars _ d hd
  omega
 have h1 : t = 1 ∨ t = 2 ∨ t = 3 := Classical.byContradiction fun k => by
  rw [okV_no t b (by omega)] at h; cases h
 have k1 : s = 1 ∨ s = 2 ∨ s = 3 := Classical.byContradiction fun q => by
  rw [okV_no s c (by omega)] at k; cases k
 rcases h1 with rfl | rfl | rfl <;> rcases k1 with rfl | rfl | rfl
 ·refine ⟨rfl, wrap_inj hu hv (itoa_inj ?_)⟩
  have := congrArg bl e
  rwa [show qBr 1 b = itoB (wrap64 b) from rfl, show qBr 1 c = itoB (wrap64 c) from rfl, qCZ, qCZ] at this
 ·exact (one k hv rfl (by decide) e).elim
 ·exact (one k hv rfl (by decide) e).elim
 ·exact (one h hu rfl (by decide) e.symm).elim
 ·exact ⟨rfl, textL_inj (cn_of h hu) (cn_of k hv) (nums_inj _ _ (qDw (cn_of h hu)) (qDw (cn_of k hv)) e)⟩
 ·exact absurd e (no23 h hu)
 ·exact (one h hu rfl (by decide) e.symm).elim
 ·exact absurd e.symm (no23 k hv)
 rw [okV_3] at h k
 have h := of_decide_eq_true h
 have k := of_decide_eq_true k
 have := hu.1; have := hv.1
 refine ⟨rfl, ?_⟩
 have e := congrArg bl e
 rw [show qBr 3 b = (if b = 0 then ⟨#[102, 97, 108, 115, 101]⟩ else ⟨#[116, 114, 117, 101]⟩) from rfl, show qBr 3 c = (if c = 0 then ⟨#[102, 97, 108, 115, 101]⟩ else ⟨#[116, 114, 117, 101]⟩) from rfl] at e
 split at e <;> split at e
 ·omega
 ·exact absurd e (by decide)
 ·exact absurd e (by decide)
 omega
def argB (op n t b : Int) : ByteArray := if op = 1 then qBr t b else if op = 6 then unB n else if op = 7 then biB n else itoB n
theorem textI_eq {op n t b : Int} (h : okI op n t b = true) : bl (qBJ op n t b) = bl (nmB op) ++ (if 0 < wdI op then 32 :: bl (argB op n t b) else []) := by
 obtain ⟨h1, h2, _⟩ := qBN h
 unfold qBJ argB
 rw [if_pos h]
 by_cases o1 : op = 1
 ·subst o1
  rw [if_pos rfl, if_pos rfl, if_pos (by decide), qCL, qCL, List.append_assoc]; rfl
 rw [if_neg o1, if_neg o1]
 by_cases o6 : op = 6
 ·subst o6
  rw [if_pos rfl, if_pos rfl, if_pos (by decide), qCL, qCL, List.append_assoc]; rfl
 rw [if_neg o6, if_neg o6]
 by_cases o7 : op = 7
 ·subst o7
  rw [if_pos rfl, if_pos rfl, if_pos (by decide), qCL, qCL, List.append_assoc]; rfl
 rw [if_neg o7, if_neg o7]
 split
 ·rw [qCL, qCL, List.append_assoc]; rfl
 rw [List.append_nil]
theorem nm_nospace : ∀ k : Nat, k < 18 → (32 : UInt8) ∉ bl (nmB (k : Int)) := by decide +kernel
theorem nm_inj : ∀ k : Nat, k < 18 → ∀ j : Nat, j < 18 → 1 ≤ k → 1 ≤ j → bl (nmB (k : Int)) = bl (nmB (j : Int)) → k = j := by decide +kernel
theorem un_inj : ∀ k : Nat, k < 5 → ∀ j : Nat, j < 5 → 1 ≤ k → 1 ≤ j → bl (unB (k : Int)) = bl (unB (j : Int)) → k = j := by decide +kernel
theorem bi_inj : ∀ k : Nat, k < 12 → ∀ j : Nat, j < 12 → 1 ≤ k → 1 ≤ j → bl (biB (k : Int)) = bl (biB (j : Int)) → k = j := by decide +kernel
theorem no_arg : ∀ k : Nat, k < 18 → ¬ 0 < wdI (k : Int) → 1 ≤ k → most (k : Int) = 0 := by decide +kernel
theorem ok_rest {op n t b : Int} (h : okI op n t b = true) (o1 : op ≠ 1) : t = 0 ∧ b = 0 ∧ 0 ≤ n ∧ n ≤ most op := by
 unfold okI at h
 by_cases c0 : op < 1 ∨ 17 < op
 ·rw [if_pos c0] at h; cases h
 rw [if_neg c0, if_neg o1] at h
 by_cases c2 : ¬(t = 0 ∧ b = 0 ∧ 0 ≤ n ∧ n ≤ most op)
 ·rw [if_pos c2] at h; cases h
 exact Decidable.not_not.1 c2
theorem ok_push1 {n t b : Int} (h : okI 1 n t b = true) : n = 0 ∧ okV t b = true := by
 unfold okI at h
 rw [if_neg (by decide), if_pos rfl, Bool.and_eq_true] at h
 exact ⟨eq_of_beq h.1, h.2⟩
theorem textI_inj {op n t b op' n' t' b' : Int} (h : okI op n t b = true) (hu : U64 b) (k : okI op' n' t' b' = true) (hv : U64 b') (e : qBJ op n t b = qBJ op' n' t' b') : op = op' ∧ n = n' ∧ t = t' ∧ b = b' := by
 obtain ⟨h1, h2, h6, h7, h8, h9⟩ := qBN h
 obtain ⟨k1, k2, k6, k7, k8, k9⟩ := qBN k
 have e := congrArg bl e
 rw [textI_eq h, textI_eq k] at e
 obtain ⟨p, rfl⟩ := Int.eq_ofNat_of_zero_le (show 0 ≤ op by omega)
 obtain ⟨q, rfl⟩ := Int.eq_ofNat_of_zero_le (show 0 ≤ op' by omega)
 have hp := nm_nospace p (by omega)
 have hq := nm_nospace q (by omega)
 have key : p = q ∧ (0 < wdI (p : Int) → bl (argB p n t b) = bl (argB q n' t' b')) := by
  by_cases w1 : 0 < wdI (p : Int)
  rotate_left
  ·rw [if_neg w1, List.append_nil] at e
   by_cases w2 : 0 < wdI (q : Int)
   ·rw [if_pos w2] at e
    exact absurd (e ▸ List.mem_append_right _ (List.mem_cons_self ..)) hp
   rw [if_neg w2, List.append_nil] at e
   exact ⟨nm_inj p (by omega) q (by omega) (by omega) (by omega) e, fun w => absurd w w1⟩
  rw [if_pos w1] at e
  by_cases w2 : 0 < wdI (q : Int)
  rotate_left
  ·rw [if_neg w2, List.append_nil] at e
   exact absurd (e ▸ List.mem_append_right _ (List.mem_cons_self ..)) hq
  rw [if_pos w2] at e
  obtain ⟨a1, a2⟩ := split_at _ _ _ _ _ hp hq e
  exact ⟨nm_inj p (by omega) q (by omega) (by omega) (by omega) a1, fun _ => a2⟩
 obtain ⟨rfl, ha⟩ := key
 refine ⟨rfl, ?_⟩
 by_cases o1 : (p : Int) = 1
 ·rw [o1] at h k ha
  obtain ⟨n0, v1⟩ := ok_push1 h
  obtain ⟨m0, v2⟩ := ok_push1 k
  obtain ⟨a1, a2⟩ := showB_inj v1 hu v2 hv (bl_inj (ha (by decide)))
  exact ⟨by rw [n0, m0], a1, a2⟩
 obtain ⟨r1, r2, r3, r4⟩ := ok_rest h o1
 obtain ⟨s1, s2, s3, s4⟩ := ok_rest k o1
 refine ⟨?_, by rw [r1, s1], by rw [r2, s2]⟩
 by_cases w : 0 < wdI (p : Int)
 rotate_left
 ·have := no_arg p (by omega) w (by omega)
  omega
 have ha := ha w
 unfold argB at ha
 rw [if_neg o1, if_neg o1] at ha
 by_cases o6 : (p : Int) = 6
 ·rw [if_pos o6, if_pos o6] at ha
  obtain ⟨x, rfl⟩ := Int.eq_ofNat_of_zero_le r3
  obtain ⟨y, rfl⟩ := Int.eq_ofNat_of_zero_le s3
  have b1 := h6 o6
  have b2 := k6 o6
  rw [un_inj x (by omega) y (by omega) (by omega) (by omega) ha]
 rw [if_neg o6, if_neg o6] at ha
 by_cases o7 : (p : Int) = 7
 rotate_left
 ·rw [if_neg o7, if_neg o7, qCZ, qCZ] at ha
  exact itoa_inj ha
 rw [if_pos o7, if_pos o7] at ha
 obtain ⟨x, rfl⟩ := Int.eq_ofNat_of_zero_le r3
 obtain ⟨y, rfl⟩ := Int.eq_ofNat_of_zero_le s3
 have b1 := h7 o7
 have b2 := k7 o7
 rw [bi_inj x (by omega) y (by omega) (by omega) (by omega) ha]
theorem textI_some {op n t b : Int} (h : okI op n t b = true) : bl (qBJ op n t b) ≠ [] := by
 obtain ⟨h1, h2, _⟩ := qBN h
 rw [textI_eq h]
 obtain ⟨p, rfl⟩ := Int.eq_ofNat_of_zero_le (show 0 ≤ op by omega)
 have : ∀ k : Nat, k < 18 → 1 ≤ k → bl (nmB (k : Int)) ≠ [] := by decide +kernel
 intro e
 exact this p (by omega) (by omega) (List.append_eq_nil_iff.1 e).1
end Flt
end Q
end
section
namespace Q
open Go.RowKit YA YB YC
attribute [local go_sem] max2_int min2_int max_two min_two max_three min_three max_four min_four
theorem eqA48 (d : Nat) (w : World) (x0 y0 : Int) (x1 y1 : Int) :
  (Op.equalIn (d + 2) 48 (.agg #[.int .i64 x0, .int .u64 x1]) (.agg #[.int .i64 y0, .int .u64 y1])).run Tryz.prog w = .ok (x0 == y0 && (x1 == y1)) w := by
 refine eqA_of Tryz.underlying48 (by kernel_rfl) ?_
 refine eqf_cons (by rfl) (by go_simp; rfl) (by go_simp; rfl) (by go_simp) ?_
 exact eqf_last (by rfl) (by go_simp; rfl) (by go_simp; rfl) (by go_simp)
attribute [local go_sem high] eqA48
def qAV.f (a0_0 : Int) (a0_1 : Int) (a1_0 : Int) (a1_1 : Int) : Option (Bool) := some (a0_0 == a1_0 && (a0_1 == a1_1))
theorem qAV.calls (a0_0 : Int) (a0_1 : Int) (a1_0 : Int) (a1_1 : Int) (r : Bool) (w : World) (h : qAV.f a0_0 a0_1 a1_0 a1_1 = some r) :
  Calls Tryz.prog 21 #[.agg #[.int .i64 a0_0, .int .u64 a0_1], .agg #[.int .i64 a1_0, .int .u64 a1_1]] w fun e w' => e = .returned (.bool r) ∧ Below w.heap.size w w' := by
 have hu48 := Tryz.underlying48
 have HB := am (Below.refl w.heap.size w)
 have H : (some (a0_0 == a1_0 && (a0_1 == a1_1))) = some r := h
 clear h
 obtain rfl := Option.some.inj H
 go_enter Tryz.func21, Tryz.ntmps21
 go_wp2_with (first | ((with_reducible refine qAC (N := 2) rfl ?_); refine qAI ?hg (N := 2) ?hd (cs := #[.int .i64 a0_0, .int .u64 a0_1]) (t := 48) ?hr ?_; (case hd => rfl); (case hg => rfl); (case hr => first | (go_simp; done) | (go_simp; rfl)); intro aB hg w3 hbox hb; have n0_ := am (qAm (by repeat (first | (with_reducible first | exact HB.o | apply qAd | apply qAb | apply qAg) | exact HB.o)) hb); have n1_ := am (hbox); have n2_ := am ((by rw [hg]; exact (qAp (by repeat (first | (with_reducible first | exact HB.o | apply qAd | apply qAb | apply qAg) | exact HB.o))) : w.heap.size ≤ aB)); have n3_ := am ((by rw [hg]; exact (qAp (by repeat (first | (with_reducible first | exact HB.o | apply qAd | apply qAb | apply qAg) | exact HB.o))) : w.heap.size ≤ aB)); clear HB; have HB := n0_; have aA := n1_; have aQ := n2_; have aC := n3_; clear n0_ n1_ n2_ n3_; clear hb hbox hg) | ((with_reducible refine qAC (N := 3) rfl ?_); refine qAI ?hg (N := 3) ?hd (cs := #[.int .i64 a1_0, .int .u64 a1_1]) (t := 48) ?hr ?_; (case hd => rfl); (case hg => rfl); (case hr => first | (go_simp; done) | (go_simp; rfl)); intro aD hg w4 hbox hb; have n0_ := am (qAh (g := aB) (o := .cells #[.int .i64 a0_0, .int .u64 a0_1] 48 (0, 0)) (by (with_reducible repeat (first | refine qAa ?_ _ | refine qAc ?_ | refine blk_alloc ?_ _)); exact aA.o) hb); have n1_ := am (qAm (by repeat (first | (with_reducible first | exact HB.o | apply qAd | apply qAb | apply qAg | refine qAf ?_ aC.o) | exact HB.o)) hb); have n2_ := am (hbox); have n3_ := am ((by rw [hg]; exact (qAp (by repeat (first | (with_reducible first | exact HB.o | apply qAd | apply qAb | apply qAg | refine qAf ?_ aC.o) | exact HB.o))) : w.heap.size ≤ aD)); have n4_ := am ((by rw [hg]; exact (qAp (by repeat (first | (with_reducible first | exact HB.o | apply qAd | apply qAb | apply qAg | refine qAf ?_ aC.o) | exact HB.o))) : w.heap.size ≤ aD)); have n5_ := am ((by rw [hg]; exact Nat.ne_of_lt (qA8 (g := aB) (o := .cells #[.int .i64 a0_0, .int .u64 a0_1] 48 (0, 0)) (by (with_reducible repeat (first | refine qAa ?_ _ | refine qAc ?_ | refine blk_alloc ?_ _)); exact aA.o)) : aB ≠ aD)); have n6_ := am ((by rw [hg]; exact Nat.ne_of_gt (qA8 (g := aB) (o := .cells #[.int .i64 a0_0, .int .u64 a0_1] 48 (0, 0)) (by (with_reducible repeat (first | refine qAa ?_ _ | refine qAc ?_ | refine blk_alloc ?_ _)); exact aA.o)) : aD ≠ aB)); clear aA; clear HB; have aA := n0_; have HB := n1_; have aG := n2_; have aR := n3_; have aH := n4_; have aE := n5_; have aF := n6_; clear n0_ n1_ n2_ n3_ n4_ n5_ n6_; clear hb hbox hg; have aS := aE.o; have aT := aF.o; obtain ⟨aI, aJ⟩ := c2_ w4 aA.o; obtain ⟨aM, aN⟩ := z2_ aA.o; obtain ⟨aK, aL⟩ := c2_ w4 aG.o; obtain ⟨aO, aP⟩ := z2_ aG.o))
 go_ret
 exact ⟨by first | rfl | (simp [errW_none, errW_some] <;> rfl) | (simp [*, errW_none, errW_some] <;> rfl), by repeat (first | (with_reducible first | exact HB.o | apply qAd | apply qAb | apply qAg | refine qAf ?_ aC.o | refine qAf ?_ aH.o) | exact HB.o)⟩
def foundrylaw14_CodeUnlike.j0 : Nat → Bool → Int → Int → Int → Int → Int → Int → Int → Int → Option (Bool)
 | 0, _, _, _, _, _, _, _, _, _ => none
 | k + 1, x9, av, aw, ax, ay, az, bA, bB, bC => (qA7.f (([(⟨av, aw, (⟨ax, ay⟩ : S48)⟩ : S51)] : List (S51)))).bind fun bG => ((qA7.f (([(⟨az, bA, (⟨bB, bC⟩ : S48)⟩ : S51)] : List (S51)))).bind fun ak => ((qAu.f av aw ax ay).bind fun ab => ((qAu.f az bA bB bC).bind fun a9 => (if ((ab.toList == a9.toList) == x9) = true then ((qAq.f bG.1 ak.1).bind fun ah => (some (ah == x9))) else (none)))))
def foundrylaw14_CodeUnlike.f (k : Nat) (a0_0 : Int) (a0_1 : Int) (a0_2 : Int) (a0_3 : Int) (a1_0 : Int) (a1_1 : Int) (a1_2 : Int) (a1_3 : Int) : Option (Bool) := (qAx.f).bind fun bD => (if bD = true then ((qAA.f a0_0 a0_1 a0_2 a0_3).bind fun al => (if al = true then ((qAA.f a1_0 a1_1 a1_2 a1_3).bind fun aj => (if aj = true then (if a0_0 = a1_0 then (if a0_1 = a1_1 then ((qAV.f a0_2 a0_3 a1_2 a1_3).bind fun ag => (foundrylaw14_CodeUnlike.j0 k ag a0_0 a0_1 a0_2 a0_3 a1_0 a1_1 a1_2 a1_3)) else (foundrylaw14_CodeUnlike.j0 k false a0_0 a0_1 a0_2 a0_3 a1_0 a1_1 a1_2 a1_3)) else (foundrylaw14_CodeUnlike.j0 k false a0_0 a0_1 a0_2 a0_3 a1_0 a1_1 a1_2 a1_3)) else ((qAu.f a0_0 a0_1 a0_2 a0_3).bind fun af => (some (af.toList != ([] : List UInt8)))))) else ((qA7.f (([(⟨a0_0, a0_1, (⟨a0_2, a0_3⟩ : S48)⟩ : S51)] : List (S51)))).bind fun aY => ((qAu.f a0_0 a0_1 a0_2 a0_3).bind fun aa => (if aa.toList = ([] : List UInt8) then (if aY.2 = 51 then (some ((aY.1.length : Int) == 0)) else (none)) else (none)))))) else (none))
def foundrylaw14_CodeUnlike.T13 : Bool × List (List Nat × List Nat) := (true, [([], []), ([0], [0]), ([], []), ([2, 1], [2]), ([1, 3], [1, 3]), ([], []), ([4, 5], [4, 5]), ([6, 3], [6]), ([7], [7]), ([7], [7]), ([8, 9, 7, 7], [7, 8, 9]), ([7], [7]), ([10, 11, 7], [7, 10, 11]), ([7, 12], [7, 12]), ([13, 10, 0, 1, 2, 3, 4, 5, 6, 7, 8, 9, 10, 11, 12, 13], [13])])
def foundrylaw14_CodeUnlike.B13 : List Nat := [0, 1, 0, 7, 15, 0, 63, 127, 255, 255, 1023, 255, 4095, 8191, 16383]
theorem foundrylaw14_CodeUnlike.tab13 : rtab .any (opsOf Tryz.f4 13) = foundrylaw14_CodeUnlike.T13 := by kernel_rfl
theorem foundrylaw14_CodeUnlike.bits13 : qCq foundrylaw14_CodeUnlike.T13.2 foundrylaw14_CodeUnlike.B13 = true := by kernel_rfl
theorem foundrylaw14_CodeUnlike.calls (k : Nat) (a0_0 : Int) (a0_1 : Int) (a0_2 : Int) (a0_3 : Int) (a1_0 : Int) (a1_1 : Int) (a1_2 : Int) (a1_3 : Int) (r : Bool) (w : World) (h : foundrylaw14_CodeUnlike.f k a0_0 a0_1 a0_2 a0_3 a1_0 a1_1 a1_2 a1_3 = some r) (hTb : Flt.Tb w) :
  Calls Tryz.prog 4 #[.agg #[.int .i64 a0_0, .int .i64 a0_1, .int .i64 a0_2, .int .u64 a0_3], .agg #[.int .i64 a1_0, .int .i64 a1_1, .int .i64 a1_2, .int .u64 a1_3]] w fun e w' => e = .returned (.bool r) ∧ Below w.heap.size w w' := by
 have HTB_ := am hTb
 clear hTb
 have hu50 := Tryz.underlying50
 have hu48 := Tryz.underlying48
 have hu51 := Tryz.underlying51
 have HB := am (Below.refl w.heap.size w)
 have H : ((qAx.f).bind fun bD => (if bD = true then ((qAA.f a0_0 a0_1 a0_2 a0_3).bind fun al => (if al = true then ((qAA.f a1_0 a1_1 a1_2 a1_3).bind fun aj => (if aj = true then (if a0_0 = a1_0 then (if a0_1 = a1_1 then ((qAV.f a0_2 a0_3 a1_2 a1_3).bind fun ag => (foundrylaw14_CodeUnlike.j0 k ag a0_0 a0_1 a0_2 a0_3 a1_0 a1_1 a1_2 a1_3)) else (foundrylaw14_CodeUnlike.j0 k false a0_0 a0_1 a0_2 a0_3 a1_0 a1_1 a1_2 a1_3)) else (foundrylaw14_CodeUnlike.j0 k false a0_0 a0_1 a0_2 a0_3 a1_0 a1_1 a1_2 a1_3)) else ((qAu.f a0_0 a0_1 a0_2 a0_3).bind fun af => (some (af.toList != ([] : List UInt8)))))) else ((qA7.f (([(⟨a0_0, a0_1, (⟨a0_2, a0_3⟩ : S48)⟩ : S51)] : List (S51)))).bind fun aY => ((qAu.f a0_0 a0_1 a0_2 a0_3).bind fun aa => (if aa.toList = ([] : List UInt8) then (if aY.2 = 51 then (some ((aY.1.length : Int) == 0)) else (none)) else (none)))))) else (none))) = some r := h
 clear h
 replace H := bm H
 obtain ⟨bD, gX, H⟩ := H
 replace H : (if bD = true then ((qAA.f a0_0 a0_1 a0_2 a0_3).bind fun al => (if al = true then ((qAA.f a1_0 a1_1 a1_2 a1_3).bind fun aj => (if aj = true then (if a0_0 = a1_0 then (if a0_1 = a1_1 then ((qAV.f a0_2 a0_3 a1_2 a1_3).bind fun ag => (foundrylaw14_CodeUnlike.j0 k ag a0_0 a0_1 a0_2 a0_3 a1_0 a1_1 a1_2 a1_3)) else (foundrylaw14_CodeUnlike.j0 k false a0_0 a0_1 a0_2 a0_3 a1_0 a1_1 a1_2 a1_3)) else (foundrylaw14_CodeUnlike.j0 k false a0_0 a0_1 a0_2 a0_3 a1_0 a1_1 a1_2 a1_3)) else ((qAu.f a0_0 a0_1 a0_2 a0_3).bind fun af => (some (af.toList != ([] : List UInt8)))))) else ((qA7.f (([(⟨a0_0, a0_1, (⟨a0_2, a0_3⟩ : S48)⟩ : S51)] : List (S51)))).bind fun aY => ((qAu.f a0_0 a0_1 a0_2 a0_3).bind fun aa => (if aa.toList = ([] : List UInt8) then (if aY.2 = 51 then (some ((aY.1.length : Int) == 0)) else (none)) else (none)))))) else (none)) = some r := H
 have A3 := am gX
 clear gX
 by_cases c4 : bD = true
 ·subst c4
  replace H : ((qAA.f a0_0 a0_1 a0_2 a0_3).bind fun al => (if al = true then ((qAA.f a1_0 a1_1 a1_2 a1_3).bind fun aj => (if aj = true then (if a0_0 = a1_0 then (if a0_1 = a1_1 then ((qAV.f a0_2 a0_3 a1_2 a1_3).bind fun ag => (foundrylaw14_CodeUnlike.j0 k ag a0_0 a0_1 a0_2 a0_3 a1_0 a1_1 a1_2 a1_3)) else (foundrylaw14_CodeUnlike.j0 k false a0_0 a0_1 a0_2 a0_3 a1_0 a1_1 a1_2 a1_3)) else (foundrylaw14_CodeUnlike.j0 k false a0_0 a0_1 a0_2 a0_3 a1_0 a1_1 a1_2 a1_3)) else ((qAu.f a0_0 a0_1 a0_2 a0_3).bind fun af => (some (af.toList != ([] : List UInt8)))))) else ((qA7.f (([(⟨a0_0, a0_1, (⟨a0_2, a0_3⟩ : S48)⟩ : S51)] : List (S51)))).bind fun aY => ((qAu.f a0_0 a0_1 a0_2 a0_3).bind fun aa => (if aa.toList = ([] : List UInt8) then (if aY.2 = 51 then (some ((aY.1.length : Int) == 0)) else (none)) else (none)))))) = some r := by rw [if_pos rfl] at H; exact H
  replace H := bm H
  obtain ⟨al, gY, H⟩ := H
  replace H : (if al = true then ((qAA.f a1_0 a1_1 a1_2 a1_3).bind fun aj => (if aj = true then (if a0_0 = a1_0 then (if a0_1 = a1_1 then ((qAV.f a0_2 a0_3 a1_2 a1_3).bind fun ag => (foundrylaw14_CodeUnlike.j0 k ag a0_0 a0_1 a0_2 a0_3 a1_0 a1_1 a1_2 a1_3)) else (foundrylaw14_CodeUnlike.j0 k false a0_0 a0_1 a0_2 a0_3 a1_0 a1_1 a1_2 a1_3)) else (foundrylaw14_CodeUnlike.j0 k false a0_0 a0_1 a0_2 a0_3 a1_0 a1_1 a1_2 a1_3)) else ((qAu.f a0_0 a0_1 a0_2 a0_3).bind fun af => (some (af.toList != ([] : List UInt8)))))) else ((qA7.f (([(⟨a0_0, a0_1, (⟨a0_2, a0_3⟩ : S48)⟩ : S51)] : List (S51)))).bind fun aY => ((qAu.f a0_0 a0_1 a0_2 a0_3).bind fun aa => (if aa.toList = ([] : List UInt8) then (if aY.2 = 51 then (some ((aY.1.length : Int) == 0)) else (none)) else (none))))) = some r := H
  have A5 := am gY
  clear gY
  by_cases c6 : al = true
  ·subst c6
   replace H : ((qAA.f a1_0 a1_1 a1_2 a1_3).bind fun aj => (if aj = true then (if a0_0 = a1_0 then (if a0_1 = a1_1 then ((qAV.f a0_2 a0_3 a1_2 a1_3).bind fun ag => (foundrylaw14_CodeUnlike.j0 k ag a0_0 a0_1 a0_2 a0_3 a1_0 a1_1 a1_2 a1_3)) else (foundrylaw14_CodeUnlike.j0 k false a0_0 a0_1 a0_2 a0_3 a1_0 a1_1 a1_2 a1_3)) else (foundrylaw14_CodeUnlike.j0 k false a0_0 a0_1 a0_2 a0_3 a1_0 a1_1 a1_2 a1_3)) else ((qAu.f a0_0 a0_1 a0_2 a0_3).bind fun af => (some (af.toList != ([] : List UInt8)))))) = some r := by rw [if_pos rfl] at H; exact H
   replace H := bm H
   obtain ⟨aj, gZ, H⟩ := H
   replace H : (if aj = true then (if a0_0 = a1_0 then (if a0_1 = a1_1 then ((qAV.f a0_2 a0_3 a1_2 a1_3).bind fun ag => (foundrylaw14_CodeUnlike.j0 k ag a0_0 a0_1 a0_2 a0_3 a1_0 a1_1 a1_2 a1_3)) else (foundrylaw14_CodeUnlike.j0 k false a0_0 a0_1 a0_2 a0_3 a1_0 a1_1 a1_2 a1_3)) else (foundrylaw14_CodeUnlike.j0 k false a0_0 a0_1 a0_2 a0_3 a1_0 a1_1 a1_2 a1_3)) else ((qAu.f a0_0 a0_1 a0_2 a0_3).bind fun af => (some (af.toList != ([] : List UInt8))))) = some r := H
   have A7 := am gZ
   clear gZ
   by_cases c8 : aj = true
   ·subst c8
    replace H : (if a0_0 = a1_0 then (if a0_1 = a1_1 then ((qAV.f a0_2 a0_3 a1_2 a1_3).bind fun ag => (foundrylaw14_CodeUnlike.j0 k ag a0_0 a0_1 a0_2 a0_3 a1_0 a1_1 a1_2 a1_3)) else (foundrylaw14_CodeUnlike.j0 k false a0_0 a0_1 a0_2 a0_3 a1_0 a1_1 a1_2 a1_3)) else (foundrylaw14_CodeUnlike.j0 k false a0_0 a0_1 a0_2 a0_3 a1_0 a1_1 a1_2 a1_3)) = some r := by rw [if_pos rfl] at H; exact H
    have fu := am H
    clear H
    go_enter Tryz.func4, Tryz.ntmps4
    go_upto_region 10 with (first | ((with_reducible refine qAC (N := 2) rfl ?_); (try (refine qAG (by rfl) ?_; dsimp only)); refine qAI ?hg (N := 2) ?hd (cs := #[.int .i64 a0_0, .int .i64 a0_1, .int .i64 a0_2, .int .u64 a0_3]) (t := 50) ?hr ?_; (case hd => rfl); (case hg => rfl); (case hr => first | (go_simp; done) | (go_simp; rfl)); intro aG hg i9 hbox hb; have n0_ := am (qAm (by repeat (first | (with_reducible first | exact HB.o | apply qAd | apply qAb | apply qAg) | exact HB.o)) hb); have n1_ := am (hbox); have n2_ := am ((by rw [hg]; exact (qAp (by repeat (first | (with_reducible first | exact HB.o | apply qAd | apply qAb | apply qAg) | exact HB.o))) : w.heap.size ≤ aG)); have n3_ := am ((by rw [hg]; exact (qAp (by repeat (first | (with_reducible first | exact HB.o | apply qAd | apply qAb | apply qAg) | exact HB.o))) : w.heap.size ≤ aG)); clear HB; have HB := n0_; have aA := n1_; have dF := n2_; have aI := n3_; clear n0_ n1_ n2_ n3_; clear hb hbox hg) | ((with_reducible refine qAC (N := 3) rfl ?_); (try (refine qAG (by rfl) ?_; dsimp only)); refine qAI ?hg (N := 3) ?hd (cs := #[.int .i64 a1_0, .int .i64 a1_1, .int .i64 a1_2, .int .u64 a1_3]) (t := 50) ?hr ?_; (case hd => rfl); (case hg => rfl); (case hr => first | (go_simp; done) | (go_simp; rfl)); intro aH hg ia hbox hb; have n0_ := am (qAh (g := aG) (o := .cells #[.int .i64 a0_0, .int .i64 a0_1, .int .i64 a0_2, .int .u64 a0_3] 50 (0, 0)) (by (with_reducible repeat (first | refine qAa ?_ _ | refine qAc ?_ | refine blk_alloc ?_ _)); exact aA.o) hb); have n1_ := am (qAm (by repeat (first | (with_reducible first | exact HB.o | apply qAd | apply qAb | apply qAg | refine qAf ?_ aI.o) | exact HB.o)) hb); have n2_ := am (hbox); have n3_ := am ((by rw [hg]; exact (qAp (by repeat (first | (with_reducible first | exact HB.o | apply qAd | apply qAb | apply qAg | refine qAf ?_ aI.o) | exact HB.o))) : w.heap.size ≤ aH)); have n4_ := am ((by rw [hg]; exact (qAp (by repeat (first | (with_reducible first | exact HB.o | apply qAd | apply qAb | apply qAg | refine qAf ?_ aI.o) | exact HB.o))) : w.heap.size ≤ aH)); have n5_ := am ((by rw [hg]; exact Nat.ne_of_lt (qA8 (g := aG) (o := .cells #[.int .i64 a0_0, .int .i64 a0_1, .int .i64 a0_2, .int .u64 a0_3] 50 (0, 0)) (by (with_reducible repeat (first | refine qAa ?_ _ | refine qAc ?_ | refine blk_alloc ?_ _)); exact aA.o)) : aG ≠ aH)); have n6_ := am ((by rw [hg]; exact Nat.ne_of_gt (qA8 (g := aG) (o := .cells #[.int .i64 a0_0, .int .i64 a0_1, .int .i64 a0_2, .int .u64 a0_3] 50 (0, 0)) (by (with_reducible repeat (first | refine qAa ?_ _ | refine qAc ?_ | refine blk_alloc ?_ _)); exact aA.o)) : aH ≠ aG)); clear aA; clear HB; have aA := n0_; have HB := n1_; have aE := n2_; have dG := n3_; have aK := n4_; have ad := n5_; have ae := n6_; clear n0_ n1_ n2_ n3_ n4_ n5_ n6_; clear hb hbox hg) | ((with_reducible refine qA1 (f := 17) rfl ?_); refine qAZ (some 14) rfl rfl Tryz.func17 (by kernel_rfl) rfl #[] rfl (by (try simp only [List.map_toArray, List.map_cons, List.map_nil]); first | done | rfl | (simp only [List.length_drop, List.length_take]; rfl)) ?_; (with_reducible refine (qAx.calls  true _ A3.o).mono ?_); rintro e iC ⟨rfl, hb⟩; refine ⟨_, rfl, ?_⟩; have n0_ := am (qAh (g := aG) (o := .cells #[.int .i64 a0_0, .int .i64 a0_1, .int .i64 a0_2, .int .u64 a0_3] 50 (0, 0)) (by (with_reducible repeat (first | refine qAa ?_ _ | refine qAc ?_ | refine blk_alloc ?_ _)); exact aA.o) hb); have n1_ := am (qAh (g := aH) (o := .cells #[.int .i64 a1_0, .int .i64 a1_1, .int .i64 a1_2, .int .u64 a1_3] 50 (0, 0)) (by (with_reducible repeat (first | refine qAa ?_ _ | refine qAc ?_ | refine blk_alloc ?_ _)); exact aE.o) hb); have n2_ := am (qAm (by repeat (first | (with_reducible first | exact HB.o | apply qAd | apply qAb | apply qAg | refine qAf ?_ aI.o | refine qAf ?_ aK.o) | exact HB.o)) hb); clear aA; clear aE; clear HB; have aA := n0_; have aE := n1_; have HB := n2_; clear n0_ n1_ n2_; have g3 := ad.o; have hB := ae.o; obtain ⟨bK, bL, bM, bN⟩ := c4_ iC aA.o; obtain ⟨cF, cG, cH, cI⟩ := z4_ aA.o) | ((with_reducible refine qAC (N := 5) rfl ?_); (try (refine qAG (by rfl) ?_; dsimp only)); refine qAI ?hg (N := 5) ?hd (cs := #[.int .i64 0, .int .i64 0, .int .i64 0, .int .u64 0]) (t := 51) ?hr ?_; (case hd => rfl); (case hg => rfl); (case hr => first | (go_simp; done) | (go_simp; rfl)); intro aJ hg ha hbox hb; have n0_ := am (qAh (g := aG) (o := .cells #[.int .i64 a0_0, .int .i64 a0_1, .int .i64 a0_2, .int .u64 a0_3] 50 (0, 0)) (by (with_reducible repeat (first | refine qAa ?_ _ | refine qAc ?_ | refine blk_alloc ?_ _)); exact aA.o) hb); have n1_ := am (qAh (g := aH) (o := .cells #[.int .i64 a1_0, .int .i64 a1_1, .int .i64 a1_2, .int .u64 a1_3] 50 (0, 0)) (by (with_reducible repeat (first | refine qAa ?_ _ | refine qAc ?_ | refine blk_alloc ?_ _)); exact aE.o) hb); have n2_ := am (qAm (by repeat (first | (with_reducible first | exact HB.o | apply qAd | apply qAb | apply qAg | refine qAf ?_ aI.o | refine qAf ?_ aK.o) | exact HB.o)) hb); have n3_ := am (hbox); have n4_ := am ((by rw [hg]; exact (qAp (by repeat (first | (with_reducible first | exact HB.o | apply qAd | apply qAb | apply qAg | refine qAf ?_ aI.o | refine qAf ?_ aK.o) | exact HB.o))) : w.heap.size ≤ aJ)); have n5_ := am ((by rw [hg]; exact (qAp (by repeat (first | (with_reducible first | exact HB.o | apply qAd | apply qAb | apply qAg | refine qAf ?_ aI.o | refine qAf ?_ aK.o) | exact HB.o))) : w.heap.size ≤ aJ)); have n6_ := am ((by rw [hg]; exact Nat.ne_of_lt (qA8 (g := aG) (o := .cells #[.int .i64 a0_0, .int .i64 a0_1, .int .i64 a0_2, .int .u64 a0_3] 50 (0, 0)) (by (with_reducible repeat (first | refine qAa ?_ _ | refine qAc ?_ | refine blk_alloc ?_ _)); exact aA.o)) : aG ≠ aJ)); have n7_ := am ((by rw [hg]; exact Nat.ne_of_gt (qA8 (g := aG) (o := .cells #[.int .i64 a0_0, .int .i64 a0_1, .int .i64 a0_2, .int .u64 a0_3] 50 (0, 0)) (by (with_reducible repeat (first | refine qAa ?_ _ | refine qAc ?_ | refine blk_alloc ?_ _)); exact aA.o)) : aJ ≠ aG)); have n8_ := am ((by rw [hg]; exact Nat.ne_of_lt (qA8 (g := aH) (o := .cells #[.int .i64 a1_0, .int .i64 a1_1, .int .i64 a1_2, .int .u64 a1_3] 50 (0, 0)) (by (with_reducible repeat (first | refine qAa ?_ _ | refine qAc ?_ | refine blk_alloc ?_ _)); exact aE.o)) : aH ≠ aJ)); have n9_ := am ((by rw [hg]; exact Nat.ne_of_gt (qA8 (g := aH) (o := .cells #[.int .i64 a1_0, .int .i64 a1_1, .int .i64 a1_2, .int .u64 a1_3] 50 (0, 0)) (by (with_reducible repeat (first | refine qAa ?_ _ | refine qAc ?_ | refine blk_alloc ?_ _)); exact aE.o)) : aJ ≠ aH)); clear aA; clear aE; clear HB; have aA := n0_; have aE := n1_; have HB := n2_; have aB := n3_; have dH := n4_; have aP := n5_; have aC := n6_; have aS := n7_; have aD := n8_; have aT := n9_; clear n0_ n1_ n2_ n3_ n4_ n5_ n6_ n7_ n8_ n9_; clear hb hbox hg; have g4 := aS.o; have hC := aC.o; have g5 := aT.o; have hD := aD.o; obtain ⟨bO, bP, bQ, bR⟩ := c4_ ha aB.o; obtain ⟨cJ, cK, cL, cM⟩ := z4_ aB.o; obtain ⟨bS, bT, bU, bV⟩ := c4_ ha aE.o; obtain ⟨cN, cO, cP, cQ⟩ := z4_ aE.o) | ((with_reducible refine qAC (N := 6) rfl ?_); (try (refine qAG (by rfl) ?_; dsimp only)); refine qAI ?hg (N := 6) ?hd (cs := #[.int .i64 0, .int .i64 0, .int .i64 0, .int .u64 0]) (t := 51) ?hr ?_; (case hd => rfl); (case hg => rfl); (case hr => first | (go_simp; done) | (go_simp; rfl)); intro aO hg hc hbox hb; have n0_ := am (qAh (g := aG) (o := .cells #[.int .i64 a0_0, .int .i64 a0_1, .int .i64 a0_2, .int .u64 a0_3] 50 (0, 0)) (by (with_reducible repeat (first | refine qAa ?_ _ | refine qAc ?_ | refine blk_alloc ?_ _)); refine qAo ?_ aC.o _; (with_reducible repeat (first | refine qAa ?_ _ | refine qAc ?_ | refine blk_alloc ?_ _)); refine qAo ?_ aC.o _; (with_reducible repeat (first | refine qAa ?_ _ | refine qAc ?_ | refine blk_alloc ?_ _)); refine qAo ?_ aC.o _; (with_reducible repeat (first | refine qAa ?_ _ | refine qAc ?_ | refine blk_alloc ?_ _)); refine qAo ?_ aC.o _; (with_reducible repeat (first | refine qAa ?_ _ | refine qAc ?_ | refine blk_alloc ?_ _)); exact aA.o) hb); have n1_ := am (qAh (g := aH) (o := .cells #[.int .i64 a1_0, .int .i64 a1_1, .int .i64 a1_2, .int .u64 a1_3] 50 (0, 0)) (by (with_reducible repeat (first | refine qAa ?_ _ | refine qAc ?_ | refine blk_alloc ?_ _)); refine qAo ?_ aD.o _; (with_reducible repeat (first | refine qAa ?_ _ | refine qAc ?_ | refine blk_alloc ?_ _)); refine qAo ?_ aD.o _; (with_reducible repeat (first | refine qAa ?_ _ | refine qAc ?_ | refine blk_alloc ?_ _)); refine qAo ?_ aD.o _; (with_reducible repeat (first | refine qAa ?_ _ | refine qAc ?_ | refine blk_alloc ?_ _)); refine qAo ?_ aD.o _; (with_reducible repeat (first | refine qAa ?_ _ | refine qAc ?_ | refine blk_alloc ?_ _)); exact aE.o) hb); have n2_ := am (qAh (g := aJ) (o := .cells #[.int .i64 a0_0, .int .i64 a0_1, .int .i64 a0_2, .int .u64 a0_3] 51 (0, 0)) (by (with_reducible repeat (first | refine qAa ?_ _ | refine qAc ?_ | refine blk_alloc ?_ _)); refine qAv (cs := #[.int .i64 a0_0, .int .i64 a0_1, .int .i64 a0_2, .int .u64 0]) ?_ 3 _ rfl; (with_reducible repeat (first | refine qAa ?_ _ | refine qAc ?_ | refine blk_alloc ?_ _)); refine qAv (cs := #[.int .i64 a0_0, .int .i64 a0_1, .int .i64 0, .int .u64 0]) ?_ 2 _ rfl; (with_reducible repeat (first | refine qAa ?_ _ | refine qAc ?_ | refine blk_alloc ?_ _)); refine qAv (cs := #[.int .i64 a0_0, .int .i64 0, .int .i64 0, .int .u64 0]) ?_ 1 _ rfl; (with_reducible repeat (first | refine qAa ?_ _ | refine qAc ?_ | refine blk_alloc ?_ _)); refine qAv (cs := #[.int .i64 0, .int .i64 0, .int .i64 0, .int .u64 0]) ?_ 0 _ rfl; (with_reducible repeat (first | refine qAa ?_ _ | refine qAc ?_ | refine blk_alloc ?_ _)); exact aB.o) hb); have n3_ := am (qAm (by repeat (first | (with_reducible first | exact HB.o | apply qAd | apply qAb | apply qAg | refine qAf ?_ aI.o | refine qAf ?_ aK.o | refine qAf ?_ aP.o) | exact HB.o)) hb); have n4_ := am (hbox); have n5_ := am ((by rw [hg]; exact (qAp (by repeat (first | (with_reducible first | exact HB.o | apply qAd | apply qAb | apply qAg | refine qAf ?_ aI.o | refine qAf ?_ aK.o | refine qAf ?_ aP.o) | exact HB.o))) : w.heap.size ≤ aO)); have n6_ := am ((by rw [hg]; exact (qAp (by repeat (first | (with_reducible first | exact HB.o | apply qAd | apply qAb | apply qAg | refine qAf ?_ aI.o | refine qAf ?_ aK.o | refine qAf ?_ aP.o) | exact HB.o))) : w.heap.size ≤ aO)); have n7_ := am ((by rw [hg]; exact Nat.ne_of_lt (qA8 (g := aG) (o := .cells #[.int .i64 a0_0, .int .i64 a0_1, .int .i64 a0_2, .int .u64 a0_3] 50 (0, 0)) (by (with_reducible repeat (first | refine qAa ?_ _ | refine qAc ?_ | refine blk_alloc ?_ _)); refine qAo ?_ aC.o _; (with_reducible repeat (first | refine qAa ?_ _ | refine qAc ?_ | refine blk_alloc ?_ _)); refine qAo ?_ aC.o _; (with_reducible repeat (first | refine qAa ?_ _ | refine qAc ?_ | refine blk_alloc ?_ _)); refine qAo ?_ aC.o _; (with_reducible repeat (first | refine qAa ?_ _ | refine qAc ?_ | refine blk_alloc ?_ _)); refine qAo ?_ aC.o _; (with_reducible repeat (first | refine qAa ?_ _ | refine qAc ?_ | refine blk_alloc ?_ _)); exact aA.o)) : aG ≠ aO)); have n8_ := am ((by rw [hg]; exact Nat.ne_of_gt (qA8 (g := aG) (o := .cells #[.int .i64 a0_0, .int .i64 a0_1, .int .i64 a0_2, .int .u64 a0_3] 50 (0, 0)) (by (with_reducible repeat (first | refine qAa ?_ _ | refine qAc ?_ | refine blk_alloc ?_ _)); refine qAo ?_ aC.o _; (with_reducible repeat (first | refine qAa ?_ _ | refine qAc ?_ | refine blk_alloc ?_ _)); refine qAo ?_ aC.o _; (with_reducible repeat (first | refine qAa ?_ _ | refine qAc ?_ | refine blk_alloc ?_ _)); refine qAo ?_ aC.o _; (with_reducible repeat (first | refine qAa ?_ _ | refine qAc ?_ | refine blk_alloc ?_ _)); refine qAo ?_ aC.o _; (with_reducible repeat (first | refine qAa ?_ _ | refine qAc ?_ | refine blk_alloc ?_ _)); exact aA.o)) : aO ≠ aG)); have n9_ := am ((by rw [hg]; exact Nat.ne_of_lt (qA8 (g := aH) (o := .cells #[.int .i64 a1_0, .int .i64 a1_1, .int .i64 a1_2, .int .u64 a1_3] 50 (0, 0)) (by (with_reducible repeat (first | refine qAa ?_ _ | refine qAc ?_ | refine blk_alloc ?_ _)); refine qAo ?_ aD.o _; (with_reducible repeat (first | refine qAa ?_ _ | refine qAc ?_ | refine blk_alloc ?_ _)); refine qAo ?_ aD.o _; (with_reducible repeat (first | refine qAa ?_ _ | refine qAc ?_ | refine blk_alloc ?_ _)); refine qAo ?_ aD.o _; (with_reducible repeat (first | refine qAa ?_ _ | refine qAc ?_ | refine blk_alloc ?_ _)); refine qAo ?_ aD.o _; (with_reducible repeat (first | refine qAa ?_ _ | refine qAc ?_ | refine blk_alloc ?_ _)); exact aE.o)) : aH ≠ aO)); have n10_ := am ((by rw [hg]; exact Nat.ne_of_gt (qA8 (g := aH) (o := .cells #[.int .i64 a1_0, .int .i64 a1_1, .int .i64 a1_2, .int .u64 a1_3] 50 (0, 0)) (by (with_reducible repeat (first | refine qAa ?_ _ | refine qAc ?_ | refine blk_alloc ?_ _)); refine qAo ?_ aD.o _; (with_reducible repeat (first | refine qAa ?_ _ | refine qAc ?_ | refine blk_alloc ?_ _)); refine qAo ?_ aD.o _; (with_reducible repeat (first | refine qAa ?_ _ | refine qAc ?_ | refine blk_alloc ?_ _)); refine qAo ?_ aD.o _; (with_reducible repeat (first | refine qAa ?_ _ | refine qAc ?_ | refine blk_alloc ?_ _)); refine qAo ?_ aD.o _; (with_reducible repeat (first | refine qAa ?_ _ | refine qAc ?_ | refine blk_alloc ?_ _)); exact aE.o)) : aO ≠ aH)); have n11_ := am ((by rw [hg]; exact Nat.ne_of_lt (qA8 (g := aJ) (o := .cells #[.int .i64 a0_0, .int .i64 a0_1, .int .i64 a0_2, .int .u64 a0_3] 51 (0, 0)) (by (with_reducible repeat (first | refine qAa ?_ _ | refine qAc ?_ | refine blk_alloc ?_ _)); refine qAv (cs := #[.int .i64 a0_0, .int .i64 a0_1, .int .i64 a0_2, .int .u64 0]) ?_ 3 _ rfl; (with_reducible repeat (first | refine qAa ?_ _ | refine qAc ?_ | refine blk_alloc ?_ _)); refine qAv (cs := #[.int .i64 a0_0, .int .i64 a0_1, .int .i64 0, .int .u64 0]) ?_ 2 _ rfl; (with_reducible repeat (first | refine qAa ?_ _ | refine qAc ?_ | refine blk_alloc ?_ _)); refine qAv (cs := #[.int .i64 a0_0, .int .i64 0, .int .i64 0, .int .u64 0]) ?_ 1 _ rfl; (with_reducible repeat (first | refine qAa ?_ _ | refine qAc ?_ | refine blk_alloc ?_ _)); refine qAv (cs := #[.int .i64 0, .int .i64 0, .int .i64 0, .int .u64 0]) ?_ 0 _ rfl; (with_reducible repeat (first | refine qAa ?_ _ | refine qAc ?_ | refine blk_alloc ?_ _)); exact aB.o)) : aJ ≠ aO)); have n12_ := am ((by rw [hg]; exact Nat.ne_of_gt (qA8 (g := aJ) (o := .cells #[.int .i64 a0_0, .int .i64 a0_1, .int .i64 a0_2, .int .u64 a0_3] 51 (0, 0)) (by (with_reducible repeat (first | refine qAa ?_ _ | refine qAc ?_ | refine blk_alloc ?_ _)); refine qAv (cs := #[.int .i64 a0_0, .int .i64 a0_1, .int .i64 a0_2, .int .u64 0]) ?_ 3 _ rfl; (with_reducible repeat (first | refine qAa ?_ _ | refine qAc ?_ | refine blk_alloc ?_ _)); refine qAv (cs := #[.int .i64 a0_0, .int .i64 a0_1, .int .i64 0, .int .u64 0]) ?_ 2 _ rfl; (with_reducible repeat (first | refine qAa ?_ _ | refine qAc ?_ | refine blk_alloc ?_ _)); refine qAv (cs := #[.int .i64 a0_0, .int .i64 0, .int .i64 0, .int .u64 0]) ?_ 1 _ rfl; (with_reducible repeat (first | refine qAa ?_ _ | refine qAc ?_ | refine blk_alloc ?_ _)); refine qAv (cs := #[.int .i64 0, .int .i64 0, .int .i64 0, .int .u64 0]) ?_ 0 _ rfl; (with_reducible repeat (first | refine qAa ?_ _ | refine qAc ?_ | refine blk_alloc ?_ _)); exact aB.o)) : aO ≠ aJ)); clear aA; clear aE; clear aB; clear HB; have aA := n0_; have aE := n1_; have aB := n2_; have HB := n3_; have aF := n4_; have dI := n5_; have aQ := n6_; have aL := n7_; have aU := n8_; have aM := n9_; have aV := n10_; have aN := n11_; have aW := n12_; clear n0_ n1_ n2_ n3_ n4_ n5_ n6_ n7_ n8_ n9_ n10_ n11_ n12_; clear hb hbox hg; have g6 := aU.o; have hE := aL.o; have g7 := aV.o; have hF := aM.o; have g8 := aW.o; have hG := aN.o; obtain ⟨bW, bX, bY, bZ⟩ := c4_ hc aF.o; obtain ⟨cR, cS, cT, cU⟩ := z4_ aF.o; obtain ⟨b0, b1, b2, b3⟩ := c4_ hc aB.o; obtain ⟨cV, cW, cX, cY⟩ := z4_ aB.o) | ((with_reducible refine qA1 (f := 18) rfl ?_); refine qAZ (some 31) rfl rfl Tryz.func18 (by kernel_rfl) rfl #[.agg #[.int .i64 a0_0, .int .i64 a0_1, .int .i64 a0_2, .int .u64 a0_3]] rfl (by (try simp only [List.map_toArray, List.map_cons, List.map_nil]); first | done | rfl | (simp only [List.length_drop, List.length_take]; rfl)) ?_; (with_reducible refine (qAA.calls a0_0 a0_1 a0_2 a0_3 true _ A5.o).mono ?_); rintro e iF ⟨rfl, hb⟩; refine ⟨_, rfl, ?_⟩; have n0_ := am (qAh (g := aG) (o := .cells #[.int .i64 a0_0, .int .i64 a0_1, .int .i64 a0_2, .int .u64 a0_3] 50 (0, 0)) (by (with_reducible repeat (first | refine qAa ?_ _ | refine qAc ?_ | refine blk_alloc ?_ _)); refine qAo ?_ aL.o _; (with_reducible repeat (first | refine qAa ?_ _ | refine qAc ?_ | refine blk_alloc ?_ _)); refine qAo ?_ aL.o _; (with_reducible repeat (first | refine qAa ?_ _ | refine qAc ?_ | refine blk_alloc ?_ _)); refine qAo ?_ aL.o _; (with_reducible repeat (first | refine qAa ?_ _ | refine qAc ?_ | refine blk_alloc ?_ _)); refine qAo ?_ aL.o _; (with_reducible repeat (first | refine qAa ?_ _ | refine qAc ?_ | refine blk_alloc ?_ _)); exact aA.o) hb); have n1_ := am (qAh (g := aH) (o := .cells #[.int .i64 a1_0, .int .i64 a1_1, .int .i64 a1_2, .int .u64 a1_3] 50 (0, 0)) (by (with_reducible repeat (first | refine qAa ?_ _ | refine qAc ?_ | refine blk_alloc ?_ _)); refine qAo ?_ aM.o _; (with_reducible repeat (first | refine qAa ?_ _ | refine qAc ?_ | refine blk_alloc ?_ _)); refine qAo ?_ aM.o _; (with_reducible repeat (first | refine qAa ?_ _ | refine qAc ?_ | refine blk_alloc ?_ _)); refine qAo ?_ aM.o _; (with_reducible repeat (first | refine qAa ?_ _ | refine qAc ?_ | refine blk_alloc ?_ _)); refine qAo ?_ aM.o _; (with_reducible repeat (first | refine qAa ?_ _ | refine qAc ?_ | refine blk_alloc ?_ _)); exact aE.o) hb); have n2_ := am (qAh (g := aJ) (o := .cells #[.int .i64 a0_0, .int .i64 a0_1, .int .i64 a0_2, .int .u64 a0_3] 51 (0, 0)) (by (with_reducible repeat (first | refine qAa ?_ _ | refine qAc ?_ | refine blk_alloc ?_ _)); refine qAo ?_ aN.o _; (with_reducible repeat (first | refine qAa ?_ _ | refine qAc ?_ | refine blk_alloc ?_ _)); refine qAo ?_ aN.o _; (with_reducible repeat (first | refine qAa ?_ _ | refine qAc ?_ | refine blk_alloc ?_ _)); refine qAo ?_ aN.o _; (with_reducible repeat (first | refine qAa ?_ _ | refine qAc ?_ | refine blk_alloc ?_ _)); refine qAo ?_ aN.o _; (with_reducible repeat (first | refine qAa ?_ _ | refine qAc ?_ | refine blk_alloc ?_ _)); exact aB.o) hb); have n3_ := am (qAh (g := aO) (o := .cells #[.int .i64 a1_0, .int .i64 a1_1, .int .i64 a1_2, .int .u64 a1_3] 51 (0, 0)) (by (with_reducible repeat (first | refine qAa ?_ _ | refine qAc ?_ | refine blk_alloc ?_ _)); refine qAv (cs := #[.int .i64 a1_0, .int .i64 a1_1, .int .i64 a1_2, .int .u64 0]) ?_ 3 _ rfl; (with_reducible repeat (first | refine qAa ?_ _ | refine qAc ?_ | refine blk_alloc ?_ _)); refine qAv (cs := #[.int .i64 a1_0, .int .i64 a1_1, .int .i64 0, .int .u64 0]) ?_ 2 _ rfl; (with_reducible repeat (first | refine qAa ?_ _ | refine qAc ?_ | refine blk_alloc ?_ _)); refine qAv (cs := #[.int .i64 a1_0, .int .i64 0, .int .i64 0, .int .u64 0]) ?_ 1 _ rfl; (with_reducible repeat (first | refine qAa ?_ _ | refine qAc ?_ | refine blk_alloc ?_ _)); refine qAv (cs := #[.int .i64 0, .int .i64 0, .int .i64 0, .int .u64 0]) ?_ 0 _ rfl; (with_reducible repeat (first | refine qAa ?_ _ | refine qAc ?_ | refine blk_alloc ?_ _)); exact aF.o) hb); have n4_ := am (qAm (by repeat (first | (with_reducible first | exact HB.o | apply qAd | apply qAb | apply qAg | refine qAf ?_ aI.o | refine qAf ?_ aK.o | refine qAf ?_ aP.o | refine qAf ?_ aQ.o) | exact HB.o)) hb); clear aA; clear aE; clear aB; clear aF; clear HB; have aA := n0_; have aE := n1_; have aB := n2_; have aF := n3_; have HB := n4_; clear n0_ n1_ n2_ n3_ n4_; obtain ⟨b4, b5, b6, b7⟩ := c4_ iF aF.o; obtain ⟨cZ, c0, ca, cc⟩ := z4_ aF.o) | ((with_reducible refine qA1 (f := 18) rfl ?_); refine qAZ (some 52) rfl rfl Tryz.func18 (by kernel_rfl) rfl #[.agg #[.int .i64 a1_0, .int .i64 a1_1, .int .i64 a1_2, .int .u64 a1_3]] rfl (by (try simp only [List.map_toArray, List.map_cons, List.map_nil]); first | done | rfl | (simp only [List.length_drop, List.length_take]; rfl)) ?_; (with_reducible refine (qAA.calls a1_0 a1_1 a1_2 a1_3 true _ A7.o).mono ?_); rintro e dV ⟨rfl, hb⟩; refine ⟨_, rfl, ?_⟩; have n0_ := am (qAh (g := aG) (o := .cells #[.int .i64 a0_0, .int .i64 a0_1, .int .i64 a0_2, .int .u64 a0_3] 50 (0, 0)) (by (with_reducible repeat (first | refine qAa ?_ _ | refine qAc ?_ | refine blk_alloc ?_ _)); exact aA.o) hb); have n1_ := am (qAh (g := aH) (o := .cells #[.int .i64 a1_0, .int .i64 a1_1, .int .i64 a1_2, .int .u64 a1_3] 50 (0, 0)) (by (with_reducible repeat (first | refine qAa ?_ _ | refine qAc ?_ | refine blk_alloc ?_ _)); exact aE.o) hb); have n2_ := am (qAh (g := aJ) (o := .cells #[.int .i64 a0_0, .int .i64 a0_1, .int .i64 a0_2, .int .u64 a0_3] 51 (0, 0)) (by (with_reducible repeat (first | refine qAa ?_ _ | refine qAc ?_ | refine blk_alloc ?_ _)); exact aB.o) hb); have n3_ := am (qAh (g := aO) (o := .cells #[.int .i64 a1_0, .int .i64 a1_1, .int .i64 a1_2, .int .u64 a1_3] 51 (0, 0)) (by (with_reducible repeat (first | refine qAa ?_ _ | refine qAc ?_ | refine blk_alloc ?_ _)); exact aF.o) hb); have n4_ := am (qAm (by repeat (first | (with_reducible first | exact HB.o | apply qAd | apply qAb | apply qAg | refine qAf ?_ aI.o | refine qAf ?_ aK.o | refine qAf ?_ aP.o | refine qAf ?_ aQ.o) | exact HB.o)) hb); clear aA; clear aE; clear aB; clear aF; clear HB; have aA := n0_; have aE := n1_; have aB := n2_; have aF := n3_; have HB := n4_; clear n0_ n1_ n2_ n3_ n4_))
    (try simp only [Act.put, List.setIfInBounds_toArray, List.set_cons_zero, List.set_cons_succ])
    go_cut [9] (fun v9 wc => ∃ (kq : Nat) (a8 : Bool), v9 = .bool a8 ∧ qAk (foundrylaw14_CodeUnlike.j0 kq a8 a0_0 a0_1 a0_2 a0_3 a1_0 a1_1 a1_2 a1_3 = some r) ∧ qAk (kq ≤ k) ∧ qAk (wc.heap[aG]? = some (.cells #[.int .i64 a0_0, .int .i64 a0_1, .int .i64 a0_2, .int .u64 a0_3] 50 (0, 0))) ∧ qAk (wc.heap[aH]? = some (.cells #[.int .i64 a1_0, .int .i64 a1_1, .int .i64 a1_2, .int .u64 a1_3] 50 (0, 0))) ∧ qAk (wc.heap[aJ]? = some (.cells #[.int .i64 a0_0, .int .i64 a0_1, .int .i64 a0_2, .int .u64 a0_3] 51 (0, 0))) ∧ qAk (wc.heap[aO]? = some (.cells #[.int .i64 a1_0, .int .i64 a1_1, .int .i64 a1_2, .int .u64 a1_3] 51 (0, 0))) ∧ qAk (Below w.heap.size w wc))
    case first =>
     have H := fu.o
     clear fu
     by_cases dM : a0_0 = a1_0
     rotate_left
     ·rw [if_neg dM] at H
      have an : (a0_0 == a1_0) = false := bf dM
      have dN : (a0_0 != a1_0) = true := bne_iff_ne.mpr dM
      (first | rw [an] | (simp only [qAD, i32_w]; rw [an]) | skip)
      have H' := am H
      clear H
      have gl := aS.o
      have hU := aC.o
      have gm := aT.o
      have hV := aD.o
      have gn := aN.o
      have hW := aW.o
      obtain ⟨bu, bw, bz, cA⟩ := c4_ dV aB.o
      obtain ⟨cu, cv, cw, cx⟩ := z4_ aB.o
      have go := aU.o
      have hX := aL.o
      have gp := aV.o
      have hY := aM.o
      obtain ⟨cB, cC, cD, cE⟩ := c4_ dV aF.o
      obtain ⟨cy, cz, dA, dB⟩ := z4_ aF.o
      go_wp2
      go_meet
      case rel => exact ⟨_, (false), (by first | rfl | (simp; done) | (simp [*]; done)), H', ⟨by first | omega | exact Nat.le_refl _⟩, ⟨by (with_reducible repeat (first | refine qAa ?_ _ | refine qAc ?_ | refine blk_alloc ?_ _)); exact aA.o⟩, ⟨by (with_reducible repeat (first | refine qAa ?_ _ | refine qAc ?_ | refine blk_alloc ?_ _)); exact aE.o⟩, ⟨by (with_reducible repeat (first | refine qAa ?_ _ | refine qAc ?_ | refine blk_alloc ?_ _)); exact aB.o⟩, ⟨by (with_reducible repeat (first | refine qAa ?_ _ | refine qAc ?_ | refine blk_alloc ?_ _)); exact aF.o⟩, ⟨by repeat (first | (with_reducible first | exact HB.o | apply qAd | apply qAb | apply qAg | refine qAf ?_ aI.o | refine qAf ?_ aK.o | refine qAf ?_ aP.o | refine qAf ?_ aQ.o) | exact HB.o)⟩⟩
     rw [if_pos dM] at H
     have an : (a0_0 == a1_0) = true := beq_iff_eq.mpr dM
     have dN : (a0_0 != a1_0) = false := bn dM
     clear dM
     (first | rw [an] | (simp only [qAD, i32_w]; rw [an]) | skip)
     by_cases dO : a0_1 = a1_1
     rotate_left
     ·rw [if_neg dO] at H
      have dP : (a0_1 == a1_1) = false := bf dO
      have dQ : (a0_1 != a1_1) = true := bne_iff_ne.mpr dO
      have H' := am H
      clear H
      have gg := aS.o
      have hN := aC.o
      have gh := aT.o
      have hP := aD.o
      have gi := aN.o
      have hQ := aW.o
      obtain ⟨bi, bj, bk, bo⟩ := c4_ dV aB.o
      obtain ⟨cl, cm, cn, co⟩ := z4_ aB.o
      have gj := aU.o
      have hR := aL.o
      have gk := aV.o
      have hS := aM.o
      obtain ⟨bp, bq, br, bs⟩ := c4_ dV aF.o
      obtain ⟨cp, cq, cr, ct⟩ := z4_ aF.o
      go_wp2
      go_meet
      case rel => exact ⟨_, (false), (by first | rfl | (simp; done) | (simp [*]; done)), H', ⟨by first | omega | exact Nat.le_refl _⟩, ⟨by (with_reducible repeat (first | refine qAa ?_ _ | refine qAc ?_ | refine blk_alloc ?_ _)); exact aA.o⟩, ⟨by (with_reducible repeat (first | refine qAa ?_ _ | refine qAc ?_ | refine blk_alloc ?_ _)); exact aE.o⟩, ⟨by (with_reducible repeat (first | refine qAa ?_ _ | refine qAc ?_ | refine blk_alloc ?_ _)); exact aB.o⟩, ⟨by (with_reducible repeat (first | refine qAa ?_ _ | refine qAc ?_ | refine blk_alloc ?_ _)); exact aF.o⟩, ⟨by repeat (first | (with_reducible first | exact HB.o | apply qAd | apply qAb | apply qAg | refine qAf ?_ aI.o | refine qAf ?_ aK.o | refine qAf ?_ aP.o | refine qAf ?_ aQ.o) | exact HB.o)⟩⟩
     rw [if_pos dO] at H
     have dP : (a0_1 == a1_1) = true := beq_iff_eq.mpr dO
     have dQ : (a0_1 != a1_1) = false := bn dO
     clear dO
     replace H := bm H
     obtain ⟨ag, dW, H⟩ := H
     replace H : (foundrylaw14_CodeUnlike.j0 k ag a0_0 a0_1 a0_2 a0_3 a1_0 a1_1 a1_2 a1_3) = some r := H
     have hh := am dW
     clear dW
     have H' := am H
     clear H
     have g9 := aS.o
     have hH := aC.o
     have ga := aT.o
     have hI := aD.o
     have gb := aN.o
     have hJ := aW.o
     obtain ⟨b8, b9, ba, bb⟩ := c4_ dV aB.o
     obtain ⟨cd, ce, cf, cg⟩ := z4_ aB.o
     have gc := aU.o
     have hL := aL.o
     have gf := aV.o
     have hM := aM.o
     obtain ⟨bc, bd, bg, bh⟩ := c4_ dV aF.o
     obtain ⟨ch, ci, cj, ck⟩ := z4_ aF.o
     go_wp2_with (first | (go_at_call 21; (with_reducible refine (qAV.calls a0_2 a0_3 a1_2 a1_3 ag _ hh.o).mono ?_); rintro e ib ⟨rfl, hb⟩; have n0_ := am (qAh (g := aG) (o := .cells #[.int .i64 a0_0, .int .i64 a0_1, .int .i64 a0_2, .int .u64 a0_3] 50 (0, 0)) (by (with_reducible repeat (first | refine qAa ?_ _ | refine qAc ?_ | refine blk_alloc ?_ _)); exact aA.o) hb); have n1_ := am (qAh (g := aH) (o := .cells #[.int .i64 a1_0, .int .i64 a1_1, .int .i64 a1_2, .int .u64 a1_3] 50 (0, 0)) (by (with_reducible repeat (first | refine qAa ?_ _ | refine qAc ?_ | refine blk_alloc ?_ _)); exact aE.o) hb); have n2_ := am (qAh (g := aJ) (o := .cells #[.int .i64 a0_0, .int .i64 a0_1, .int .i64 a0_2, .int .u64 a0_3] 51 (0, 0)) (by (with_reducible repeat (first | refine qAa ?_ _ | refine qAc ?_ | refine blk_alloc ?_ _)); exact aB.o) hb); have n3_ := am (qAh (g := aO) (o := .cells #[.int .i64 a1_0, .int .i64 a1_1, .int .i64 a1_2, .int .u64 a1_3] 51 (0, 0)) (by (with_reducible repeat (first | refine qAa ?_ _ | refine qAc ?_ | refine blk_alloc ?_ _)); exact aF.o) hb); have n4_ := am (qAm (by repeat (first | (with_reducible first | exact HB.o | apply qAd | apply qAb | apply qAg | refine qAf ?_ aI.o | refine qAf ?_ aK.o | refine qAf ?_ aP.o | refine qAf ?_ aQ.o) | exact HB.o)) hb); clear aA; clear aE; clear aB; clear aF; clear HB; have aA := n0_; have aE := n1_; have aB := n2_; have aF := n3_; have HB := n4_; clear n0_ n1_ n2_ n3_ n4_))
     go_meet
     case rel => exact ⟨_, (ag), (by first | rfl | (simp; done) | (simp [*]; done)), H', ⟨by first | omega | exact Nat.le_refl _⟩, ⟨by (with_reducible repeat (first | refine qAa ?_ _ | refine qAc ?_ | refine blk_alloc ?_ _)); exact aA.o⟩, ⟨by (with_reducible repeat (first | refine qAa ?_ _ | refine qAc ?_ | refine blk_alloc ?_ _)); exact aE.o⟩, ⟨by (with_reducible repeat (first | refine qAa ?_ _ | refine qAc ?_ | refine blk_alloc ?_ _)); exact aB.o⟩, ⟨by (with_reducible repeat (first | refine qAa ?_ _ | refine qAc ?_ | refine blk_alloc ?_ _)); exact aF.o⟩, ⟨by repeat (first | (with_reducible first | exact HB.o | apply qAd | apply qAb | apply qAg | refine qAf ?_ aI.o | refine qAf ?_ aK.o | refine qAf ?_ aP.o | refine qAf ?_ aQ.o) | exact HB.o)⟩⟩
    case rest =>
     clear fu
     obtain ⟨kq, a8, rfl, HA, iL, aA, aE, aB, aF, HB⟩ := hcut
     cases kq with
     | zero => exact absurd HA.o (by simp [foundrylaw14_CodeUnlike.j0])
     | succ i8 =>
      have H := HA.o
      clear HA
      simp only [foundrylaw14_CodeUnlike.j0] at H
      obtain ⟨dT, ap⟩ : ∃ y_ : List (S51), y_ = (([(⟨a0_0, a0_1, (⟨a0_2, a0_3⟩ : S48)⟩ : S51)] : List (S51))) := ⟨_, rfl⟩
      replace H : ((qA7.f dT).bind fun bG => ((qA7.f (([(⟨a1_0, a1_1, (⟨a1_2, a1_3⟩ : S48)⟩ : S51)] : List (S51)))).bind fun ak => ((qAu.f a0_0 a0_1 a0_2 a0_3).bind fun ab => ((qAu.f a1_0 a1_1 a1_2 a1_3).bind fun a9 => (if ((ab.toList == a9.toList) == a8) = true then ((qAq.f bG.1 ak.1).bind fun ah => (some (ah == a8))) else (none)))))) = some r := by first | (rw [ap]; with_reducible exact H) | (have H2_ := (Option.bind_some _ _).symm.trans H; rw [ap]; with_reducible exact H2_) | (have H2_ := (Option.bind_some _ _).symm.trans H; with_reducible exact H2_) | with_reducible exact H | (rw [ap]; exact H) | exact H
      have dK := am ap
      clear ap
      replace H := bm H
      obtain ⟨⟨ar, gS⟩, dX, H⟩ := H
      replace H : ((qA7.f (([(⟨a1_0, a1_1, (⟨a1_2, a1_3⟩ : S48)⟩ : S51)] : List (S51)))).bind fun ak => ((qAu.f a0_0 a0_1 a0_2 a0_3).bind fun ab => ((qAu.f a1_0 a1_1 a1_2 a1_3).bind fun a9 => (if ((ab.toList == a9.toList) == a8) = true then ((qAq.f ar ak.1).bind fun ah => (some (ah == a8))) else (none))))) = some r := H
      have hj := am dX
      clear dX
      obtain ⟨dU, aq⟩ : ∃ y_ : List (S51), y_ = (([(⟨a1_0, a1_1, (⟨a1_2, a1_3⟩ : S48)⟩ : S51)] : List (S51))) := ⟨_, rfl⟩
      replace H : ((qA7.f dU).bind fun ak => ((qAu.f a0_0 a0_1 a0_2 a0_3).bind fun ab => ((qAu.f a1_0 a1_1 a1_2 a1_3).bind fun a9 => (if ((ab.toList == a9.toList) == a8) = true then ((qAq.f ar ak.1).bind fun ah => (some (ah == a8))) else (none))))) = some r := by first | (rw [aq]; with_reducible exact H) | (have H2_ := (Option.bind_some _ _).symm.trans H; rw [aq]; with_reducible exact H2_) | (have H2_ := (Option.bind_some _ _).symm.trans H; with_reducible exact H2_) | with_reducible exact H | (rw [aq]; exact H) | exact H
      have dL := am aq
      clear aq
      replace H := bm H
      obtain ⟨⟨bF, gT⟩, dY, H⟩ := H
      replace H : ((qAu.f a0_0 a0_1 a0_2 a0_3).bind fun ab => ((qAu.f a1_0 a1_1 a1_2 a1_3).bind fun a9 => (if ((ab.toList == a9.toList) == a8) = true then ((qAq.f ar bF).bind fun ah => (some (ah == a8))) else (none)))) = some r := H
      have hl := am dY
      clear dY
      replace H := bm H
      obtain ⟨ab, dZ, H⟩ := H
      replace H : ((qAu.f a1_0 a1_1 a1_2 a1_3).bind fun a9 => (if ((ab.toList == a9.toList) == a8) = true then ((qAq.f ar bF).bind fun ah => (some (ah == a8))) else (none))) = some r := H
      have hm := am dZ
      clear dZ
      replace H := bm H
      obtain ⟨a9, d2, H⟩ := H
      replace H : (if ((ab.toList == a9.toList) == a8) = true then ((qAq.f ar bF).bind fun ah => (some (ah == a8))) else (none)) = some r := H
      have hn := am d2
      clear d2
      by_cases bJ : ((ab.toList == a9.toList) == a8) = true
      rotate_left
      ·rw [if_neg bJ] at H
       have d6 : ((ab.toList == a9.toList) == a8) = false := by simpa using bJ
       (try (have d7 : decide ((ab.toList == a9.toList) = a8) = false := by simpa using bJ))
       (try (have d8 : ((ab.toList == a9.toList) == a8) = false := by simpa using bJ))
       (try (have g1 : ¬ ((ab.toList == a9.toList) = a8) := by simpa using bJ))
       clear bJ
       exact absurd H (by simp)
      rw [if_pos bJ] at H
      have d6 : ((ab.toList == a9.toList) == a8) = true := bJ
      (try (have d7 : decide ((ab.toList == a9.toList) = a8) = true := by simpa using bJ))
      (try (have d8 : ((ab.toList == a9.toList) == a8) = true := by simpa using bJ))
      clear bJ
      replace H := bm H
      obtain ⟨ah, d3, H⟩ := H
      replace H : (some (ah == a8)) = some r := H
      have ho := am d3
      clear d3
      obtain rfl := Option.some.inj H
      have gq := aS.o
      have hZ := aC.o
      have gr := aT.o
      have h0 := aD.o
      have gs := aN.o
      have h1 := aW.o
      obtain ⟨ek, el, em, en⟩ := c4_ wc aB.o
      obtain ⟨fQ, fR, fS, fT⟩ := z4_ aB.o
      try go_wp2_with (first | ((with_reducible refine qAC (N := 78) rfl ?_); (try (refine qAG (by rfl) ?_; dsimp only)); refine Kd.R_lit k51 _ 51 ?hg (N := 78) ?hd (xs := ([(⟨a0_0, a0_1, (⟨a0_2, a0_3⟩ : S48)⟩ : S51)] : List (S51))) (inner := [.int .i64 a0_0, .int .i64 a0_1, .int .i64 a0_2, .int .u64 a0_3]) (ok := fun _ => True) (okp := fun _ => True) ?hr ?hp (fun _ hk => hk) trivial (Below.refl _ _) (Nat.le_refl _) (by simp) ?_; (case hd => rfl); (case hg => rfl); (case hr => first | (go_simp; done) | (go_simp; rfl)); (case hp => exact (Reps.c4 (show Kd.M k51 _ _ _ (⟨a0_0, a0_1, (⟨a0_2, a0_3⟩ : S48)⟩ : S51) [.int .i64 a0_0, .int .i64 a0_1, .int .i64 a0_2, .int .u64 a0_3] from (qBT _ _ _ (⟨a0_0, a0_1, (⟨a0_2, a0_3⟩ : S48)⟩ : S51) )) (Reps.none _ _))); intro hu ic ho65 hb hg_ hnew_; clear hg_ hnew_; (first | rw [← dK.o] at ho65 | (simp only [Int.reduceToNat] at ho65; rw [← dK.o] at ho65)); have n0_ := am (Kd.R_lower (Kd.R_newB (Kd.R_newB ho65 (g := aJ) (o := .cells #[.int .i64 a0_0, .int .i64 a0_1, .int .i64 a0_2, .int .u64 a0_3] 51 (0, 0)) (by (with_reducible repeat (first | refine qAa ?_ _ | refine qAc ?_ | refine blk_alloc ?_ _)); exact aB.o)) (g := aO) (o := .cells #[.int .i64 a1_0, .int .i64 a1_1, .int .i64 a1_2, .int .u64 a1_3] 51 (0, 0)) (by (with_reducible repeat (first | refine qAa ?_ _ | refine qAc ?_ | refine blk_alloc ?_ _)); exact aF.o)) (qAp (by repeat (first | (with_reducible first | exact HB.o | apply qAd | apply qAb | apply qAg | refine qAf ?_ aI.o | refine qAf ?_ aK.o | refine qAf ?_ aP.o | refine qAf ?_ aQ.o) | exact HB.o)))); have n1_ := am (qAh (g := aG) (o := .cells #[.int .i64 a0_0, .int .i64 a0_1, .int .i64 a0_2, .int .u64 a0_3] 50 (0, 0)) (by (with_reducible repeat (first | refine qAa ?_ _ | refine qAc ?_ | refine blk_alloc ?_ _)); exact aA.o) hb); have n2_ := am (qAh (g := aH) (o := .cells #[.int .i64 a1_0, .int .i64 a1_1, .int .i64 a1_2, .int .u64 a1_3] 50 (0, 0)) (by (with_reducible repeat (first | refine qAa ?_ _ | refine qAc ?_ | refine blk_alloc ?_ _)); exact aE.o) hb); have n3_ := am (qAh (g := aJ) (o := .cells #[.int .i64 a0_0, .int .i64 a0_1, .int .i64 a0_2, .int .u64 a0_3] 51 (0, 0)) (by (with_reducible repeat (first | refine qAa ?_ _ | refine qAc ?_ | refine blk_alloc ?_ _)); exact aB.o) hb); have n4_ := am (qAh (g := aO) (o := .cells #[.int .i64 a1_0, .int .i64 a1_1, .int .i64 a1_2, .int .u64 a1_3] 51 (0, 0)) (by (with_reducible repeat (first | refine qAa ?_ _ | refine qAc ?_ | refine blk_alloc ?_ _)); exact aF.o) hb); have n5_ := am (qAm (by repeat (first | (with_reducible first | exact HB.o | apply qAd | apply qAb | apply qAg | refine qAf ?_ aI.o | refine qAf ?_ aK.o | refine qAf ?_ aP.o | refine qAf ?_ aQ.o) | exact HB.o)) hb); clear aA; clear aE; clear aB; clear aF; clear HB; have aR := n0_; have aA := n1_; have aE := n2_; have aB := n3_; have aF := n4_; have HB := n5_; clear n0_ n1_ n2_ n3_ n4_ n5_; clear hb ho65; obtain ⟨fp, fz, gD⟩ := Kd.R_slice aR.o; subst gD) | ((with_reducible refine qA1 (f := 19) rfl ?_); refine qAZ (some 79) rfl rfl Tryz.func19 (by kernel_rfl) rfl #[.slice fp dT.length fz] rfl (by (try simp only [List.map_toArray, List.map_cons, List.map_nil]); first | done | rfl | (simp only [List.length_drop, List.length_take]; rfl)) ?_; (with_reducible refine (qA7.calls _ _ dT ar gS _ ?side1 ?side2 hj.o).mono ?_); (case side1 => repeat (first | exact (Kd.R_reads' aR.o).2.2 | (with_reducible refine Kd.C_alloc ?_ _) | (with_reducible refine Kd.C_drewN ?_ _) | (with_reducible refine Kd.C_drew ?_))); (case side2 => exact (Kd.R_reads' aR.o).2.1); rintro e iG ⟨hv, rfl, dC, hb⟩; refine ⟨_, rfl, ?_⟩; have n0_ := am (Kd.R_below (by (with_reducible repeat (first | apply Kd.R_alloc | apply Kd.R_drewN | apply Kd.R_drew)); exact aR.o) hb); have n1_ := am (Kd.R_lower dC (qAp (by repeat (first | (with_reducible first | exact HB.o | apply qAd | apply qAb | apply qAg | refine qAf ?_ aI.o | refine qAf ?_ aK.o | refine qAf ?_ aP.o | refine qAf ?_ aQ.o) | exact HB.o)))); have n2_ := am (qAh (g := aG) (o := .cells #[.int .i64 a0_0, .int .i64 a0_1, .int .i64 a0_2, .int .u64 a0_3] 50 (0, 0)) (by (with_reducible repeat (first | refine qAa ?_ _ | refine qAc ?_ | refine blk_alloc ?_ _)); exact aA.o) hb); have n3_ := am (qAh (g := aH) (o := .cells #[.int .i64 a1_0, .int .i64 a1_1, .int .i64 a1_2, .int .u64 a1_3] 50 (0, 0)) (by (with_reducible repeat (first | refine qAa ?_ _ | refine qAc ?_ | refine blk_alloc ?_ _)); exact aE.o) hb); have n4_ := am (qAh (g := aJ) (o := .cells #[.int .i64 a0_0, .int .i64 a0_1, .int .i64 a0_2, .int .u64 a0_3] 51 (0, 0)) (by (with_reducible repeat (first | refine qAa ?_ _ | refine qAc ?_ | refine blk_alloc ?_ _)); exact aB.o) hb); have n5_ := am (qAh (g := aO) (o := .cells #[.int .i64 a1_0, .int .i64 a1_1, .int .i64 a1_2, .int .u64 a1_3] 51 (0, 0)) (by (with_reducible repeat (first | refine qAa ?_ _ | refine qAc ?_ | refine blk_alloc ?_ _)); exact aF.o) hb); have n6_ := am (qAm (by repeat (first | (with_reducible first | exact HB.o | apply qAd | apply qAb | apply qAg | refine qAf ?_ aI.o | refine qAf ?_ aK.o | refine qAf ?_ aP.o | refine qAf ?_ aQ.o) | exact HB.o)) hb); clear aR; clear aA; clear aE; clear aB; clear aF; clear HB; have aR := n0_; have aX := n1_; have aA := n2_; have aE := n3_; have aB := n4_; have aF := n5_; have HB := n6_; clear n0_ n1_ n2_ n3_ n4_ n5_ n6_; have gt := aU.o; have h2 := aL.o; have gu := aV.o; have h3 := aM.o; obtain ⟨eo, ep, eq, er⟩ := c4_ iG aF.o; obtain ⟨fU, fV, fW, fX⟩ := z4_ aF.o) | ((with_reducible refine qAC (N := 84) rfl ?_); (try (refine qAG (by rfl) ?_; dsimp only)); refine Kd.R_lit k51 _ 51 ?hg (N := 84) ?hd (xs := ([(⟨a1_0, a1_1, (⟨a1_2, a1_3⟩ : S48)⟩ : S51)] : List (S51))) (inner := [.int .i64 a1_0, .int .i64 a1_1, .int .i64 a1_2, .int .u64 a1_3]) (ok := fun _ => True) (okp := fun _ => True) ?hr ?hp (fun _ hk => hk) trivial (Below.refl _ _) (Nat.le_refl _) (by simp) ?_; (case hd => rfl); (case hg => rfl); (case hr => first | (go_simp; done) | (go_simp; rfl)); (case hp => exact (Reps.c4 (show Kd.M k51 _ _ _ (⟨a1_0, a1_1, (⟨a1_2, a1_3⟩ : S48)⟩ : S51) [.int .i64 a1_0, .int .i64 a1_1, .int .i64 a1_2, .int .u64 a1_3] from (qBT _ _ _ (⟨a1_0, a1_1, (⟨a1_2, a1_3⟩ : S48)⟩ : S51) )) (Reps.none _ _))); intro hw id ho72 hb hg_ hnew_; clear hg_ hnew_; (first | rw [← dL.o] at ho72 | (simp only [Int.reduceToNat] at ho72; rw [← dL.o] at ho72)); have n0_ := am (Kd.R_elder' (by (with_reducible repeat (first | apply Kd.R_alloc | apply Kd.R_drewN | apply Kd.R_drew)); exact aR.o) (Kd.R_base ho72) hb); have n1_ := am (Kd.R_below (by (with_reducible repeat (first | apply Kd.R_alloc | apply Kd.R_drewN | apply Kd.R_drew)); exact aX.o) hb); have n2_ := am (Kd.R_lower (Kd.R_newB (Kd.R_newB (Kd.R_new' ho72 (Kd.R_lt (by (with_reducible repeat (first | apply Kd.R_alloc | apply Kd.R_drewN | apply Kd.R_drew)); exact aR.o))) (g := aJ) (o := .cells #[.int .i64 a0_0, .int .i64 a0_1, .int .i64 a0_2, .int .u64 a0_3] 51 (0, 0)) (by (with_reducible repeat (first | refine qAa ?_ _ | refine qAc ?_ | refine blk_alloc ?_ _)); exact aB.o)) (g := aO) (o := .cells #[.int .i64 a1_0, .int .i64 a1_1, .int .i64 a1_2, .int .u64 a1_3] 51 (0, 0)) (by (with_reducible repeat (first | refine qAa ?_ _ | refine qAc ?_ | refine blk_alloc ?_ _)); exact aF.o)) (qAp (by repeat (first | (with_reducible first | exact HB.o | apply qAd | apply qAb | apply qAg | refine qAf ?_ aI.o | refine qAf ?_ aK.o | refine qAf ?_ aP.o | refine qAf ?_ aQ.o) | exact HB.o)))); have n3_ := am (qAh (g := aG) (o := .cells #[.int .i64 a0_0, .int .i64 a0_1, .int .i64 a0_2, .int .u64 a0_3] 50 (0, 0)) (by (with_reducible repeat (first | refine qAa ?_ _ | refine qAc ?_ | refine blk_alloc ?_ _)); exact aA.o) hb); have n4_ := am (qAh (g := aH) (o := .cells #[.int .i64 a1_0, .int .i64 a1_1, .int .i64 a1_2, .int .u64 a1_3] 50 (0, 0)) (by (with_reducible repeat (first | refine qAa ?_ _ | refine qAc ?_ | refine blk_alloc ?_ _)); exact aE.o) hb); have n5_ := am (qAh (g := aJ) (o := .cells #[.int .i64 a0_0, .int .i64 a0_1, .int .i64 a0_2, .int .u64 a0_3] 51 (0, 0)) (by (with_reducible repeat (first | refine qAa ?_ _ | refine qAc ?_ | refine blk_alloc ?_ _)); exact aB.o) hb); have n6_ := am (qAh (g := aO) (o := .cells #[.int .i64 a1_0, .int .i64 a1_1, .int .i64 a1_2, .int .u64 a1_3] 51 (0, 0)) (by (with_reducible repeat (first | refine qAa ?_ _ | refine qAc ?_ | refine blk_alloc ?_ _)); exact aF.o) hb); have n7_ := am (qAm (by repeat (first | (with_reducible first | exact HB.o | apply qAd | apply qAb | apply qAg | refine qAf ?_ aI.o | refine qAf ?_ aK.o | refine qAf ?_ aP.o | refine qAf ?_ aQ.o) | exact HB.o)) hb); clear aR; clear aX; clear aA; clear aE; clear aB; clear aF; clear HB; have aR := n0_; have aX := n1_; have aZ := n2_; have aA := n3_; have aE := n4_; have aB := n5_; have aF := n6_; have HB := n7_; clear n0_ n1_ n2_ n3_ n4_ n5_ n6_ n7_; clear hb ho72; obtain ⟨fq, gA, gE⟩ := Kd.R_slice aZ.o; subst gE) | ((with_reducible refine qA1 (f := 19) rfl ?_); refine qAZ (some 85) rfl rfl Tryz.func19 (by kernel_rfl) rfl #[.slice fq dU.length gA] rfl (by (try simp only [List.map_toArray, List.map_cons, List.map_nil]); first | done | rfl | (simp only [List.length_drop, List.length_take]; rfl)) ?_; (with_reducible refine (qA7.calls _ _ dU bF gT _ ?side1 ?side2 hl.o).mono ?_); (case side1 => repeat (first | exact (Kd.R_reads' aZ.o).2.2 | (with_reducible refine Kd.C_alloc ?_ _) | (with_reducible refine Kd.C_drewN ?_ _) | (with_reducible refine Kd.C_drew ?_))); (case side2 => exact (Kd.R_reads' aZ.o).2.1); rintro e iH ⟨hy, rfl, dC, hb⟩; refine ⟨_, rfl, ?_⟩; have n0_ := am (Kd.R_below (by (with_reducible repeat (first | apply Kd.R_alloc | apply Kd.R_drewN | apply Kd.R_drew)); exact aR.o) hb); have n1_ := am (Kd.R_elder' (by (with_reducible repeat (first | apply Kd.R_alloc | apply Kd.R_drewN | apply Kd.R_drew)); exact aX.o) (Kd.R_base dC) hb); have n2_ := am (Kd.R_below (by (with_reducible repeat (first | apply Kd.R_alloc | apply Kd.R_drewN | apply Kd.R_drew)); exact aZ.o) hb); have n3_ := am (Kd.R_lower (Kd.R_new' dC (Kd.R_lt (by (with_reducible repeat (first | apply Kd.R_alloc | apply Kd.R_drewN | apply Kd.R_drew)); exact aX.o))) (qAp (by repeat (first | (with_reducible first | exact HB.o | apply qAd | apply qAb | apply qAg | refine qAf ?_ aI.o | refine qAf ?_ aK.o | refine qAf ?_ aP.o | refine qAf ?_ aQ.o) | exact HB.o)))); have n4_ := am (qAh (g := aG) (o := .cells #[.int .i64 a0_0, .int .i64 a0_1, .int .i64 a0_2, .int .u64 a0_3] 50 (0, 0)) (by (with_reducible repeat (first | refine qAa ?_ _ | refine qAc ?_ | refine blk_alloc ?_ _)); exact aA.o) hb); have n5_ := am (qAh (g := aH) (o := .cells #[.int .i64 a1_0, .int .i64 a1_1, .int .i64 a1_2, .int .u64 a1_3] 50 (0, 0)) (by (with_reducible repeat (first | refine qAa ?_ _ | refine qAc ?_ | refine blk_alloc ?_ _)); exact aE.o) hb); have n6_ := am (qAh (g := aJ) (o := .cells #[.int .i64 a0_0, .int .i64 a0_1, .int .i64 a0_2, .int .u64 a0_3] 51 (0, 0)) (by (with_reducible repeat (first | refine qAa ?_ _ | refine qAc ?_ | refine blk_alloc ?_ _)); exact aB.o) hb); have n7_ := am (qAh (g := aO) (o := .cells #[.int .i64 a1_0, .int .i64 a1_1, .int .i64 a1_2, .int .u64 a1_3] 51 (0, 0)) (by (with_reducible repeat (first | refine qAa ?_ _ | refine qAc ?_ | refine blk_alloc ?_ _)); exact aF.o) hb); have n8_ := am (qAm (by repeat (first | (with_reducible first | exact HB.o | apply qAd | apply qAb | apply qAg | refine qAf ?_ aI.o | refine qAf ?_ aK.o | refine qAf ?_ aP.o | refine qAf ?_ aQ.o) | exact HB.o)) hb); clear aR; clear aX; clear aZ; clear aA; clear aE; clear aB; clear aF; clear HB; have aR := n0_; have aX := n1_; have aZ := n2_; have ac := n3_; have aA := n4_; have aE := n5_; have aB := n6_; have aF := n7_; have HB := n8_; clear n0_ n1_ n2_ n3_ n4_ n5_ n6_ n7_ n8_))
      have n0_ := am (Kd.R_drew aR.o)
      have n1_ := am (Kd.R_drew aX.o)
      have n2_ := am (Kd.R_drew aZ.o)
      have n3_ := am (Kd.R_drew ac.o)
      have n4_ := am (qAc aA.o)
      have n5_ := am (qAc aE.o)
      have n6_ := am (qAc aB.o)
      have n7_ := am (qAc aF.o)
      have n8_ := am (qAg HB.o)
      clear aR
      clear aX
      clear aZ
      clear ac
      clear aA
      clear aE
      clear aB
      clear aF
      clear HB
      have aR := n0_
      have aX := n1_
      have aZ := n2_
      have ac := n3_
      have aA := n4_
      have aE := n5_
      have aB := n6_
      have aF := n7_
      have HB := n8_
      clear n0_ n1_ n2_ n3_ n4_ n5_ n6_ n7_ n8_
      refine start_ (n := 15) (S := fun w' => w'.cell? ⟨aJ, 0, none⟩ = some (.int .i64 a0_0) ∧ w'.cell? ⟨aJ, 1, none⟩ = some (.int .i64 a0_1) ∧ w'.cell? ⟨aJ, 2, none⟩ = some (.int .i64 a0_2) ∧ w'.cell? ⟨aJ, 3, none⟩ = some (.int .u64 a0_3) ∧ w'.cell? ⟨aO, 0, none⟩ = some (.int .i64 a1_0) ∧ w'.cell? ⟨aO, 1, none⟩ = some (.int .i64 a1_1) ∧ w'.cell? ⟨aO, 2, none⟩ = some (.int .i64 a1_2) ∧ w'.cell? ⟨aO, 3, none⟩ = some (.int .u64 a1_3)) (ds := []) (mK 15 0) (by kernel_rfl) rfl rfl ⟨(qAe aB.o 0).trans rfl, (qAe aB.o 1).trans rfl, (qAe aB.o 2).trans rfl, (qAe aB.o 3).trans rfl, (qAe aF.o 0).trans rfl, (qAe aF.o 1).trans rfl, (qAe aF.o 2).trans rfl, (qAe aF.o 3).trans rfl⟩ (fun hHeld => ?_); refine qDz foundrylaw14_CodeUnlike.tab13 foundrylaw14_CodeUnlike.bits13 (fun HT_ HW_ => ?_)
      generalize iH.drew = ie at aR aX aZ ac aA aE aB aF HB hHeld ⊢
      refine qBx (i := 5) (N := some 93) (v := ?_) (a' := ?_) (mK 15 32) rfl rfl (qBd HT_.o (by kernel_rfl)) (fun _ _ _ h => h) (Or.inl ⟨by rfl, ?_⟩) ?_ ?_
      rotate_left
      ·intro w'
       go_simp
       with_reducible rfl
      rotate_left
      ·simp only [Act.put, List.setIfInBounds_toArray, List.set_cons_zero, List.set_cons_succ, qAD, i32_w]
       rfl
      refine take_ (i := 0) (N := some 88) (v := ?_) (a' := ?_) (mK 15 33) rfl rfl (qBG HT_.o HW_.o (by kernel_rfl)) (fun _ _ _ h => h) (Or.inl ⟨by rfl, ?_⟩) hHeld ?_ ?_
      rotate_left
      ·rintro w' ⟨s0, s1, s2, s3, s4, s5, s6, s7⟩
       go_simp
       with_reducible rfl
      rotate_left
      ·simp only [Act.put, List.setIfInBounds_toArray, List.set_cons_zero, List.set_cons_succ, qAD, i32_w]
       rfl
      refine take_ (i := 2) (N := some 90) (v := ?_) (a' := ?_) (mK 15 37) rfl rfl (qBG HT_.o HW_.o (by kernel_rfl)) (fun _ _ _ h => h) (Or.inl ⟨by rfl, ?_⟩) hHeld ?_ ?_
      rotate_left
      ·rintro w' ⟨s0, s1, s2, s3, s4, s5, s6, s7⟩
       go_simp
       with_reducible rfl
      rotate_left
      ·simp only [Act.put, List.setIfInBounds_toArray, List.set_cons_zero, List.set_cons_succ, qAD, i32_w]
       rfl
      refine one_ (i := 1) (N := some 89) (mK 15 39) rfl rfl (qBE HT_.o (by kernel_rfl)) (by decide) (fun K hK => ?_)
      refine qCA Tryz.func20 (by kernel_rfl) rfl #[.agg #[.int .i64 a0_0, .int .i64 a0_1, .int .i64 a0_2, .int .u64 a0_3]] (by rfl) rfl rfl (by (try simp only [List.map_toArray, List.map_cons, List.map_nil]); first | done | rfl | (simp only [List.length_drop, List.length_take]; rfl)) ?_
      with_reducible refine (qAu.calls a0_0 a0_1 a0_2 a0_3 ab _ hm.o (HTB_.o.below HB.o)).mono ?_
      rintro e ig ⟨rfl, hb⟩
      refine ⟨_, rfl, ?_⟩
      have n0_ := am (Kd.R_below (by (with_reducible repeat (first | apply Kd.R_alloc | apply Kd.R_drewN | apply Kd.R_drew)); exact aR.o) hb)
      have n1_ := am (Kd.R_below (by (with_reducible repeat (first | apply Kd.R_alloc | apply Kd.R_drewN | apply Kd.R_drew)); exact aX.o) hb)
      have n2_ := am (Kd.R_below (by (with_reducible repeat (first | apply Kd.R_alloc | apply Kd.R_drewN | apply Kd.R_drew)); exact aZ.o) hb)
      have n3_ := am (Kd.R_below (by (with_reducible repeat (first | apply Kd.R_alloc | apply Kd.R_drewN | apply Kd.R_drew)); exact ac.o) hb)
      have n4_ := am (qAh (g := aG) (o := .cells #[.int .i64 a0_0, .int .i64 a0_1, .int .i64 a0_2, .int .u64 a0_3] 50 (0, 0)) (by (with_reducible repeat (first | refine qAa ?_ _ | refine qAc ?_ | refine blk_alloc ?_ _)); exact aA.o) hb)
      have n5_ := am (qAh (g := aH) (o := .cells #[.int .i64 a1_0, .int .i64 a1_1, .int .i64 a1_2, .int .u64 a1_3] 50 (0, 0)) (by (with_reducible repeat (first | refine qAa ?_ _ | refine qAc ?_ | refine blk_alloc ?_ _)); exact aE.o) hb)
      have n6_ := am (qAh (g := aJ) (o := .cells #[.int .i64 a0_0, .int .i64 a0_1, .int .i64 a0_2, .int .u64 a0_3] 51 (0, 0)) (by (with_reducible repeat (first | refine qAa ?_ _ | refine qAc ?_ | refine blk_alloc ?_ _)); exact aB.o) hb)
      have n7_ := am (qAh (g := aO) (o := .cells #[.int .i64 a1_0, .int .i64 a1_1, .int .i64 a1_2, .int .u64 a1_3] 51 (0, 0)) (by (with_reducible repeat (first | refine qAa ?_ _ | refine qAc ?_ | refine blk_alloc ?_ _)); exact aF.o) hb)
      have n8_ := am (qAm (by repeat (first | (with_reducible first | exact HB.o | apply qAd | apply qAb | apply qAg | refine qAf ?_ aI.o | refine qAf ?_ aK.o | refine qAf ?_ aP.o | refine qAf ?_ aQ.o) | exact HB.o)) hb)
      clear aR
      clear aX
      clear aZ
      clear ac
      clear aA
      clear aE
      clear aB
      clear aF
      clear HB
      have aR := n0_
      have aX := n1_
      have aZ := n2_
      have ac := n3_
      have aA := n4_
      have aE := n5_
      have aB := n6_
      have aF := n7_
      have HB := n8_
      clear n0_ n1_ n2_ n3_ n4_ n5_ n6_ n7_ n8_
      (try clear hb)
      (try clear hb2)
      (try clear hk)
      (try clear hi)
      refine hK.o _ _ ⟨(qAe aB.o 0).trans rfl, (qAe aB.o 1).trans rfl, (qAe aB.o 2).trans rfl, (qAe aB.o 3).trans rfl, (qAe aF.o 0).trans rfl, (qAe aF.o 1).trans rfl, (qAe aF.o 2).trans rfl, (qAe aF.o 3).trans rfl⟩ (fun hHeld => ?_)
      clear hK K
      refine qB6 (a' := ?_) ?_ ?_
      rotate_left
      ·show Act.put _ (some 89) _ = _
       simp only [Act.put, List.setIfInBounds_toArray, List.set_cons_zero, List.set_cons_succ, qAD, i32_w]
       rfl
      refine one_ (i := 3) (N := some 91) (mK 15 47) rfl rfl (qBE HT_.o (by kernel_rfl)) (by decide) (fun K hK => ?_)
      refine qCA Tryz.func20 (by kernel_rfl) rfl #[.agg #[.int .i64 a1_0, .int .i64 a1_1, .int .i64 a1_2, .int .u64 a1_3]] (by rfl) rfl rfl (by (try simp only [List.map_toArray, List.map_cons, List.map_nil]); first | done | rfl | (simp only [List.length_drop, List.length_take]; rfl)) ?_
      with_reducible refine (qAu.calls a1_0 a1_1 a1_2 a1_3 a9 _ hn.o (HTB_.o.below HB.o)).mono ?_
      rintro e ih ⟨rfl, hb⟩
      refine ⟨_, rfl, ?_⟩
      have n0_ := am (Kd.R_below (by (with_reducible repeat (first | apply Kd.R_alloc | apply Kd.R_drewN | apply Kd.R_drew)); exact aR.o) hb)
      have n1_ := am (Kd.R_below (by (with_reducible repeat (first | apply Kd.R_alloc | apply Kd.R_drewN | apply Kd.R_drew)); exact aX.o) hb)
      have n2_ := am (Kd.R_below (by (with_reducible repeat (first | apply Kd.R_alloc | apply Kd.R_drewN | apply Kd.R_drew)); exact aZ.o) hb)
      have n3_ := am (Kd.R_below (by (with_reducible repeat (first | apply Kd.R_alloc | apply Kd.R_drewN | apply Kd.R_drew)); exact ac.o) hb)
      have n4_ := am (qAh (g := aG) (o := .cells #[.int .i64 a0_0, .int .i64 a0_1, .int .i64 a0_2, .int .u64 a0_3] 50 (0, 0)) (by (with_reducible repeat (first | refine qAa ?_ _ | refine qAc ?_ | refine blk_alloc ?_ _)); exact aA.o) hb)
      have n5_ := am (qAh (g := aH) (o := .cells #[.int .i64 a1_0, .int .i64 a1_1, .int .i64 a1_2, .int .u64 a1_3] 50 (0, 0)) (by (with_reducible repeat (first | refine qAa ?_ _ | refine qAc ?_ | refine blk_alloc ?_ _)); exact aE.o) hb)
      have n6_ := am (qAh (g := aJ) (o := .cells #[.int .i64 a0_0, .int .i64 a0_1, .int .i64 a0_2, .int .u64 a0_3] 51 (0, 0)) (by (with_reducible repeat (first | refine qAa ?_ _ | refine qAc ?_ | refine blk_alloc ?_ _)); exact aB.o) hb)
      have n7_ := am (qAh (g := aO) (o := .cells #[.int .i64 a1_0, .int .i64 a1_1, .int .i64 a1_2, .int .u64 a1_3] 51 (0, 0)) (by (with_reducible repeat (first | refine qAa ?_ _ | refine qAc ?_ | refine blk_alloc ?_ _)); exact aF.o) hb)
      have n8_ := am (qAm (by repeat (first | (with_reducible first | exact HB.o | apply qAd | apply qAb | apply qAg | refine qAf ?_ aI.o | refine qAf ?_ aK.o | refine qAf ?_ aP.o | refine qAf ?_ aQ.o) | exact HB.o)) hb)
      clear aR
      clear aX
      clear aZ
      clear ac
      clear aA
      clear aE
      clear aB
      clear aF
      clear HB
      have aR := n0_
      have aX := n1_
      have aZ := n2_
      have ac := n3_
      have aA := n4_
      have aE := n5_
      have aB := n6_
      have aF := n7_
      have HB := n8_
      clear n0_ n1_ n2_ n3_ n4_ n5_ n6_ n7_ n8_
      (try clear hb)
      (try clear hb2)
      (try clear hk)
      (try clear hi)
      obtain ⟨fs, gB, dc⟩ := Kd.R_slice aX.o
      (first | subst dc | (injection dc with f1_ f2_ f3_; have f4_ := f1_.symm; have f5_ := f3_.symm; clear f1_ f2_ f3_; subst f4_; subst f5_))
      obtain ⟨ft, gC, dd⟩ := Kd.R_slice ac.o
      (first | subst dd | (injection dd with f1_ f2_ f3_; have f4_ := f1_.symm; have f5_ := f3_.symm; clear f1_ f2_ f3_; subst f4_; subst f5_))
      refine hK.o _ _ ⟨(qAe aB.o 0).trans rfl, (qAe aB.o 1).trans rfl, (qAe aB.o 2).trans rfl, (qAe aB.o 3).trans rfl, (qAe aF.o 0).trans rfl, (qAe aF.o 1).trans rfl, (qAe aF.o 2).trans rfl, (qAe aF.o 3).trans rfl⟩ (fun hHeld => ?_)
      clear hK K
      refine qB6 (a' := ?_) ?_ ?_
      rotate_left
      ·show Act.put _ (some 91) _ = _
       simp only [Act.put, List.setIfInBounds_toArray, List.set_cons_zero, List.set_cons_succ, qAD, i32_w]
       rfl
      refine qBx (i := 4) (N := some 92) (v := ?_) (a' := ?_) (mK 15 63) rfl rfl (qBd HT_.o (by kernel_rfl)) (fun _ _ _ h => h) (Or.inl ⟨by rfl, ?_⟩) ?_ ?_
      rotate_left
      ·intro w'
       go_simp
       with_reducible rfl
      rotate_left
      ·simp only [Act.put, List.setIfInBounds_toArray, List.set_cons_zero, List.set_cons_succ, qAD, i32_w]
       rfl
      refine qBx (i := 6) (N := some 94) (v := ?_) (a' := ?_) (mK 15 127) rfl rfl (qBd HT_.o (by kernel_rfl)) (fun _ _ _ h => h) (Or.inl ⟨by rfl, ?_⟩) ?_ ?_
      rotate_left
      ·intro w'
       go_simp
       with_reducible rfl
      rotate_left
      ·simp only [Act.put, List.setIfInBounds_toArray, List.set_cons_zero, List.set_cons_succ, qAD, i32_w]
       rfl
      refine qBx (i := 7) (N := some 95) (v := ?_) (a' := ?_) (mK 15 255) rfl rfl (qBd HT_.o (by kernel_rfl)) (fun _ _ _ h => h) (Or.inl ⟨by rfl, ?_⟩) ?_ ?_
      rotate_left
      ·intro w'
       go_simp
       with_reducible rfl
      rotate_left
      ·simp only [Act.put, List.setIfInBounds_toArray, List.set_cons_zero, List.set_cons_succ, qAD, i32_w]
       rfl
      refine qBx (i := 8) (N := some 96) (v := ?_) (a' := ?_) (mK 15 511) rfl rfl (qBd HT_.o (by kernel_rfl)) (fun _ _ _ h => h) (Or.inl ⟨by rfl, ?_⟩) ?_ ?_
      rotate_left
      ·intro w'
       go_simp
       with_reducible rfl
      rotate_left
      ·simp only [Act.put, List.setIfInBounds_toArray, List.set_cons_zero, List.set_cons_succ, qAD, i32_w]
       rfl
      refine qBx (i := 9) (N := some 97) (v := ?_) (a' := ?_) (mK 15 1023) rfl rfl (qBd HT_.o (by kernel_rfl)) (fun _ _ _ h => h) (Or.inl ⟨by rfl, ?_⟩) ?_ ?_
      rotate_left
      ·intro w'
       go_simp
       with_reducible rfl
      rotate_left
      ·simp only [Act.put, List.setIfInBounds_toArray, List.set_cons_zero, List.set_cons_succ, qAD, i32_w]
       rfl
      refine qBx (i := 11) (N := some 99) (v := ?_) (a' := ?_) (mK 15 3071) rfl rfl (qBd HT_.o (by kernel_rfl)) (fun _ _ _ h => h) (Or.inl ⟨by rfl, ?_⟩) ?_ ?_
      rotate_left
      ·intro w'
       go_simp
       with_reducible rfl
      rotate_left
      ·simp only [Act.put, List.setIfInBounds_toArray, List.set_cons_zero, List.set_cons_succ, qAD, i32_w]
       rfl
      refine one_ (i := 10) (N := some 98) (mK 15 4095) rfl rfl (qBE HT_.o (by kernel_rfl)) (by decide) (fun K hK => ?_)
      refine qCA Tryz.func22 (by kernel_rfl) rfl #[.slice fs ar.length gB, .slice ft bF.length gC] (by rfl) rfl rfl (by (try simp only [List.map_toArray, List.map_cons, List.map_nil]); first | done | rfl | (simp only [List.length_drop, List.length_take]; rfl)) ?_
      with_reducible refine (qAq.calls _ _ ar _ _ bF ah _ ?side1 ?side2 ?side3 ?side4 ho.o).mono ?_
      (case side1 => repeat (first | exact (Kd.R_reads' aX.o).2.2 | (with_reducible refine Kd.C_alloc ?_ _) | (with_reducible refine Kd.C_drewN ?_ _) | (with_reducible refine Kd.C_drew ?_)))
      (case side2 => exact (Kd.R_reads' aX.o).2.1)
      (case side3 => repeat (first | exact (Kd.R_reads' ac.o).2.2 | (with_reducible refine Kd.C_alloc ?_ _) | (with_reducible refine Kd.C_drewN ?_ _) | (with_reducible refine Kd.C_drew ?_)))
      (case side4 => exact (Kd.R_reads' ac.o).2.1)
      rintro e w' ⟨rfl, ⟨nd, rfl⟩⟩
      refine ⟨_, rfl, ?_⟩
      refine hK.o _ _ ⟨(qAe aB.o 0).trans rfl, (qAe aB.o 1).trans rfl, (qAe aB.o 2).trans rfl, (qAe aB.o 3).trans rfl, (qAe aF.o 0).trans rfl, (qAe aF.o 1).trans rfl, (qAe aF.o 2).trans rfl, (qAe aF.o 3).trans rfl⟩ (fun hHeld => ?_)
      clear hK K
      refine qB6 (a' := ?_) ?_ ?_
      rotate_left
      ·show Act.put _ (some 98) _ = _
       simp only [Act.put, List.setIfInBounds_toArray, List.set_cons_zero, List.set_cons_succ, qAD, i32_w]
       rfl
      refine qBx (i := 12) (N := some 100) (v := ?_) (a' := ?_) (mK 15 8191) rfl rfl (qBd HT_.o (by kernel_rfl)) (fun _ _ _ h => h) (Or.inl ⟨by rfl, ?_⟩) ?_ ?_
      rotate_left
      ·intro w'
       go_simp
       with_reducible rfl
      rotate_left
      ·simp only [Act.put, List.setIfInBounds_toArray, List.set_cons_zero, List.set_cons_succ, qAD, i32_w]
       rfl
      refine qBx (i := 13) (N := some 101) (v := ?_) (a' := ?_) (mK 15 16383) rfl rfl (qBd HT_.o (by kernel_rfl)) (fun _ _ _ h => h) (Or.inl ⟨by rfl, ?_⟩) ?_ ?_
      rotate_left
      ·intro w'
       go_simp
       with_reducible rfl
      rotate_left
      ·simp only [Act.put, List.setIfInBounds_toArray, List.set_cons_zero, List.set_cons_succ, qAD, i32_w]
       rfl
      refine qBx (i := 14) (N := some 4) (v := ?_) (a' := ?_) (mK 15 32767) rfl rfl (qBd HT_.o (by kernel_rfl)) (fun _ _ _ h => h) (Or.inl ⟨by rfl, ?_⟩) ?_ ?_
      rotate_left
      ·intro w'
       go_simp
       with_reducible rfl
      rotate_left
      ·simp only [Act.put, List.setIfInBounds_toArray, List.set_cons_zero, List.set_cons_succ, qAD, i32_w]
       rfl
      refine done_ (done_of HT_.o (by kernel_rfl)) ?_
      try go_wp2
      go_ret
      exact ⟨by first | rfl | (simp [errW_none, errW_some] <;> rfl) | (simp [*, errW_none, errW_some] <;> rfl), by repeat (first | (with_reducible first | exact HB.o | apply qAd | apply qAb | apply qAg | refine qAf ?_ aI.o | refine qAf ?_ aK.o | refine qAf ?_ aP.o | refine qAf ?_ aQ.o) | exact HB.o)⟩
   ·replace c8 := Bool.eq_false_iff.mpr c8
    subst c8
    replace H : ((qAu.f a0_0 a0_1 a0_2 a0_3).bind fun af => (some (af.toList != ([] : List UInt8)))) = some r := by rw [if_neg (show ¬ (false = true) by decide)] at H; exact H
    replace H := bm H
    obtain ⟨af, d4, H⟩ := H
    replace H : (some (af.toList != ([] : List UInt8))) = some r := H
    have hq := am d4
    clear d4
    obtain rfl := Option.some.inj H
    go_enter Tryz.func4, Tryz.ntmps4
    go_wp2_with (first | ((with_reducible refine qAC (N := 2) rfl ?_); (try (refine qAG (by rfl) ?_; dsimp only)); refine qAI ?hg (N := 2) ?hd (cs := #[.int .i64 a0_0, .int .i64 a0_1, .int .i64 a0_2, .int .u64 a0_3]) (t := 50) ?hr ?_; (case hd => rfl); (case hg => rfl); (case hr => first | (go_simp; done) | (go_simp; rfl)); intro aG hg ii hbox hb; have n0_ := am (qAm (by repeat (first | (with_reducible first | exact HB.o | apply qAd | apply qAb | apply qAg) | exact HB.o)) hb); have n1_ := am (hbox); have n2_ := am ((by rw [hg]; exact (qAp (by repeat (first | (with_reducible first | exact HB.o | apply qAd | apply qAb | apply qAg) | exact HB.o))) : w.heap.size ≤ aG)); have n3_ := am ((by rw [hg]; exact (qAp (by repeat (first | (with_reducible first | exact HB.o | apply qAd | apply qAb | apply qAg) | exact HB.o))) : w.heap.size ≤ aG)); clear HB; have HB := n0_; have aA := n1_; have dF := n2_; have aI := n3_; clear n0_ n1_ n2_ n3_; clear hb hbox hg) | ((with_reducible refine qAC (N := 3) rfl ?_); (try (refine qAG (by rfl) ?_; dsimp only)); refine qAI ?hg (N := 3) ?hd (cs := #[.int .i64 a1_0, .int .i64 a1_1, .int .i64 a1_2, .int .u64 a1_3]) (t := 50) ?hr ?_; (case hd => rfl); (case hg => rfl); (case hr => first | (go_simp; done) | (go_simp; rfl)); intro aH hg ij hbox hb; have n0_ := am (qAh (g := aG) (o := .cells #[.int .i64 a0_0, .int .i64 a0_1, .int .i64 a0_2, .int .u64 a0_3] 50 (0, 0)) (by (with_reducible repeat (first | refine qAa ?_ _ | refine qAc ?_ | refine blk_alloc ?_ _)); exact aA.o) hb); have n1_ := am (qAm (by repeat (first | (with_reducible first | exact HB.o | apply qAd | apply qAb | apply qAg | refine qAf ?_ aI.o) | exact HB.o)) hb); have n2_ := am (hbox); have n3_ := am ((by rw [hg]; exact (qAp (by repeat (first | (with_reducible first | exact HB.o | apply qAd | apply qAb | apply qAg | refine qAf ?_ aI.o) | exact HB.o))) : w.heap.size ≤ aH)); have n4_ := am ((by rw [hg]; exact (qAp (by repeat (first | (with_reducible first | exact HB.o | apply qAd | apply qAb | apply qAg | refine qAf ?_ aI.o) | exact HB.o))) : w.heap.size ≤ aH)); have n5_ := am ((by rw [hg]; exact Nat.ne_of_lt (qA8 (g := aG) (o := .cells #[.int .i64 a0_0, .int .i64 a0_1, .int .i64 a0_2, .int .u64 a0_3] 50 (0, 0)) (by (with_reducible repeat (first | refine qAa ?_ _ | refine qAc ?_ | refine blk_alloc ?_ _)); exact aA.o)) : aG ≠ aH)); have n6_ := am ((by rw [hg]; exact Nat.ne_of_gt (qA8 (g := aG) (o := .cells #[.int .i64 a0_0, .int .i64 a0_1, .int .i64 a0_2, .int .u64 a0_3] 50 (0, 0)) (by (with_reducible repeat (first | refine qAa ?_ _ | refine qAc ?_ | refine blk_alloc ?_ _)); exact aA.o)) : aH ≠ aG)); clear aA; clear HB; have aA := n0_; have HB := n1_; have aE := n2_; have dG := n3_; have aK := n4_; have ad := n5_; have ae := n6_; clear n0_ n1_ n2_ n3_ n4_ n5_ n6_; clear hb hbox hg) | ((with_reducible refine qA1 (f := 17) rfl ?_); refine qAZ (some 14) rfl rfl Tryz.func17 (by kernel_rfl) rfl #[] rfl (by (try simp only [List.map_toArray, List.map_cons, List.map_nil]); first | done | rfl | (simp only [List.length_drop, List.length_take]; rfl)) ?_; (with_reducible refine (qAx.calls  true _ A3.o).mono ?_); rintro e iI ⟨rfl, hb⟩; refine ⟨_, rfl, ?_⟩; have n0_ := am (qAh (g := aG) (o := .cells #[.int .i64 a0_0, .int .i64 a0_1, .int .i64 a0_2, .int .u64 a0_3] 50 (0, 0)) (by (with_reducible repeat (first | refine qAa ?_ _ | refine qAc ?_ | refine blk_alloc ?_ _)); exact aA.o) hb); have n1_ := am (qAh (g := aH) (o := .cells #[.int .i64 a1_0, .int .i64 a1_1, .int .i64 a1_2, .int .u64 a1_3] 50 (0, 0)) (by (with_reducible repeat (first | refine qAa ?_ _ | refine qAc ?_ | refine blk_alloc ?_ _)); exact aE.o) hb); have n2_ := am (qAm (by repeat (first | (with_reducible first | exact HB.o | apply qAd | apply qAb | apply qAg | refine qAf ?_ aI.o | refine qAf ?_ aK.o) | exact HB.o)) hb); clear aA; clear aE; clear HB; have aA := n0_; have aE := n1_; have HB := n2_; clear n0_ n1_ n2_; have gv := ad.o; have h4 := ae.o; obtain ⟨es, et, eu, ev⟩ := c4_ iI aA.o; obtain ⟨fY, fZ, f0, f1⟩ := z4_ aA.o) | ((with_reducible refine qAC (N := 5) rfl ?_); (try (refine qAG (by rfl) ?_; dsimp only)); refine qAI ?hg (N := 5) ?hd (cs := #[.int .i64 0, .int .i64 0, .int .i64 0, .int .u64 0]) (t := 51) ?hr ?_; (case hd => rfl); (case hg => rfl); (case hr => first | (go_simp; done) | (go_simp; rfl)); intro aJ hg he hbox hb; have n0_ := am (qAh (g := aG) (o := .cells #[.int .i64 a0_0, .int .i64 a0_1, .int .i64 a0_2, .int .u64 a0_3] 50 (0, 0)) (by (with_reducible repeat (first | refine qAa ?_ _ | refine qAc ?_ | refine blk_alloc ?_ _)); exact aA.o) hb); have n1_ := am (qAh (g := aH) (o := .cells #[.int .i64 a1_0, .int .i64 a1_1, .int .i64 a1_2, .int .u64 a1_3] 50 (0, 0)) (by (with_reducible repeat (first | refine qAa ?_ _ | refine qAc ?_ | refine blk_alloc ?_ _)); exact aE.o) hb); have n2_ := am (qAm (by repeat (first | (with_reducible first | exact HB.o | apply qAd | apply qAb | apply qAg | refine qAf ?_ aI.o | refine qAf ?_ aK.o) | exact HB.o)) hb); have n3_ := am (hbox); have n4_ := am ((by rw [hg]; exact (qAp (by repeat (first | (with_reducible first | exact HB.o | apply qAd | apply qAb | apply qAg | refine qAf ?_ aI.o | refine qAf ?_ aK.o) | exact HB.o))) : w.heap.size ≤ aJ)); have n5_ := am ((by rw [hg]; exact (qAp (by repeat (first | (with_reducible first | exact HB.o | apply qAd | apply qAb | apply qAg | refine qAf ?_ aI.o | refine qAf ?_ aK.o) | exact HB.o))) : w.heap.size ≤ aJ)); have n6_ := am ((by rw [hg]; exact Nat.ne_of_lt (qA8 (g := aG) (o := .cells #[.int .i64 a0_0, .int .i64 a0_1, .int .i64 a0_2, .int .u64 a0_3] 50 (0, 0)) (by (with_reducible repeat (first | refine qAa ?_ _ | refine qAc ?_ | refine blk_alloc ?_ _)); exact aA.o)) : aG ≠ aJ)); have n7_ := am ((by rw [hg]; exact Nat.ne_of_gt (qA8 (g := aG) (o := .cells #[.int .i64 a0_0, .int .i64 a0_1, .int .i64 a0_2, .int .u64 a0_3] 50 (0, 0)) (by (with_reducible repeat (first | refine qAa ?_ _ | refine qAc ?_ | refine blk_alloc ?_ _)); exact aA.o)) : aJ ≠ aG)); have n8_ := am ((by rw [hg]; exact Nat.ne_of_lt (qA8 (g := aH) (o := .cells #[.int .i64 a1_0, .int .i64 a1_1, .int .i64 a1_2, .int .u64 a1_3] 50 (0, 0)) (by (with_reducible repeat (first | refine qAa ?_ _ | refine qAc ?_ | refine blk_alloc ?_ _)); exact aE.o)) : aH ≠ aJ)); have n9_ := am ((by rw [hg]; exact Nat.ne_of_gt (qA8 (g := aH) (o := .cells #[.int .i64 a1_0, .int .i64 a1_1, .int .i64 a1_2, .int .u64 a1_3] 50 (0, 0)) (by (with_reducible repeat (first | refine qAa ?_ _ | refine qAc ?_ | refine blk_alloc ?_ _)); exact aE.o)) : aJ ≠ aH)); clear aA; clear aE; clear HB; have aA := n0_; have aE := n1_; have HB := n2_; have aB := n3_; have dH := n4_; have aP := n5_; have aC := n6_; have aS := n7_; have aD := n8_; have aT := n9_; clear n0_ n1_ n2_ n3_ n4_ n5_ n6_ n7_ n8_ n9_; clear hb hbox hg; have gw := aS.o; have h5 := aC.o; have gx := aT.o; have h6 := aD.o; obtain ⟨ew, ex, ey, ez⟩ := c4_ he aB.o; obtain ⟨f2, f3, f5, f6⟩ := z4_ aB.o; obtain ⟨fA, fB, fC, fD⟩ := c4_ he aE.o; obtain ⟨f7, f8, f9, fa⟩ := z4_ aE.o) | ((with_reducible refine qAC (N := 6) rfl ?_); (try (refine qAG (by rfl) ?_; dsimp only)); refine qAI ?hg (N := 6) ?hd (cs := #[.int .i64 0, .int .i64 0, .int .i64 0, .int .u64 0]) (t := 51) ?hr ?_; (case hd => rfl); (case hg => rfl); (case hr => first | (go_simp; done) | (go_simp; rfl)); intro aO hg hf hbox hb; have n0_ := am (qAh (g := aG) (o := .cells #[.int .i64 a0_0, .int .i64 a0_1, .int .i64 a0_2, .int .u64 a0_3] 50 (0, 0)) (by (with_reducible repeat (first | refine qAa ?_ _ | refine qAc ?_ | refine blk_alloc ?_ _)); refine qAo ?_ aC.o _; (with_reducible repeat (first | refine qAa ?_ _ | refine qAc ?_ | refine blk_alloc ?_ _)); refine qAo ?_ aC.o _; (with_reducible repeat (first | refine qAa ?_ _ | refine qAc ?_ | refine blk_alloc ?_ _)); refine qAo ?_ aC.o _; (with_reducible repeat (first | refine qAa ?_ _ | refine qAc ?_ | refine blk_alloc ?_ _)); refine qAo ?_ aC.o _; (with_reducible repeat (first | refine qAa ?_ _ | refine qAc ?_ | refine blk_alloc ?_ _)); exact aA.o) hb); have n1_ := am (qAh (g := aH) (o := .cells #[.int .i64 a1_0, .int .i64 a1_1, .int .i64 a1_2, .int .u64 a1_3] 50 (0, 0)) (by (with_reducible repeat (first | refine qAa ?_ _ | refine qAc ?_ | refine blk_alloc ?_ _)); refine qAo ?_ aD.o _; (with_reducible repeat (first | refine qAa ?_ _ | refine qAc ?_ | refine blk_alloc ?_ _)); refine qAo ?_ aD.o _; (with_reducible repeat (first | refine qAa ?_ _ | refine qAc ?_ | refine blk_alloc ?_ _)); refine qAo ?_ aD.o _; (with_reducible repeat (first | refine qAa ?_ _ | refine qAc ?_ | refine blk_alloc ?_ _)); refine qAo ?_ aD.o _; (with_reducible repeat (first | refine qAa ?_ _ | refine qAc ?_ | refine blk_alloc ?_ _)); exact aE.o) hb); have n2_ := am (qAh (g := aJ) (o := .cells #[.int .i64 a0_0, .int .i64 a0_1, .int .i64 a0_2, .int .u64 a0_3] 51 (0, 0)) (by (with_reducible repeat (first | refine qAa ?_ _ | refine qAc ?_ | refine blk_alloc ?_ _)); refine qAv (cs := #[.int .i64 a0_0, .int .i64 a0_1, .int .i64 a0_2, .int .u64 0]) ?_ 3 _ rfl; (with_reducible repeat (first | refine qAa ?_ _ | refine qAc ?_ | refine blk_alloc ?_ _)); refine qAv (cs := #[.int .i64 a0_0, .int .i64 a0_1, .int .i64 0, .int .u64 0]) ?_ 2 _ rfl; (with_reducible repeat (first | refine qAa ?_ _ | refine qAc ?_ | refine blk_alloc ?_ _)); refine qAv (cs := #[.int .i64 a0_0, .int .i64 0, .int .i64 0, .int .u64 0]) ?_ 1 _ rfl; (with_reducible repeat (first | refine qAa ?_ _ | refine qAc ?_ | refine blk_alloc ?_ _)); refine qAv (cs := #[.int .i64 0, .int .i64 0, .int .i64 0, .int .u64 0]) ?_ 0 _ rfl; (with_reducible repeat (first | refine qAa ?_ _ | refine qAc ?_ | refine blk_alloc ?_ _)); exact aB.o) hb); have n3_ := am (qAm (by repeat (first | (with_reducible first | exact HB.o | apply qAd | apply qAb | apply qAg | refine qAf ?_ aI.o | refine qAf ?_ aK.o | refine qAf ?_ aP.o) | exact HB.o)) hb); have n4_ := am (hbox); have n5_ := am ((by rw [hg]; exact (qAp (by repeat (first | (with_reducible first | exact HB.o | apply qAd | apply qAb | apply qAg | refine qAf ?_ aI.o | refine qAf ?_ aK.o | refine qAf ?_ aP.o) | exact HB.o))) : w.heap.size ≤ aO)); have n6_ := am ((by rw [hg]; exact (qAp (by repeat (first | (with_reducible first | exact HB.o | apply qAd | apply qAb | apply qAg | refine qAf ?_ aI.o | refine qAf ?_ aK.o | refine qAf ?_ aP.o) | exact HB.o))) : w.heap.size ≤ aO)); have n7_ := am ((by rw [hg]; exact Nat.ne_of_lt (qA8 (g := aG) (o := .cells #[.int .i64 a0_0, .int .i64 a0_1, .int .i64 a0_2, .int .u64 a0_3] 50 (0, 0)) (by (with_reducible repeat (first | refine qAa ?_ _ | refine qAc ?_ | refine blk_alloc ?_ _)); refine qAo ?_ aC.o _; (with_reducible repeat (first | refine qAa ?_ _ | refine qAc ?_ | refine blk_alloc ?_ _)); refine qAo ?_ aC.o _; (with_reducible repeat (first | refine qAa ?_ _ | refine qAc ?_ | refine blk_alloc ?_ _)); refine qAo ?_ aC.o _; (with_reducible repeat (first | refine qAa ?_ _ | refine qAc ?_ | refine blk_alloc ?_ _)); refine qAo ?_ aC.o _; (with_reducible repeat (first | refine qAa ?_ _ | refine qAc ?_ | refine blk_alloc ?_ _)); exact aA.o)) : aG ≠ aO)); have n8_ := am ((by rw [hg]; exact Nat.ne_of_gt (qA8 (g := aG) (o := .cells #[.int .i64 a0_0, .int .i64 a0_1, .int .i64 a0_2, .int .u64 a0_3] 50 (0, 0)) (by (with_reducible repeat (first | refine qAa ?_ _ | refine qAc ?_ | refine blk_alloc ?_ _)); refine qAo ?_ aC.o _; (with_reducible repeat (first | refine qAa ?_ _ | refine qAc ?_ | refine blk_alloc ?_ _)); refine qAo ?_ aC.o _; (with_reducible repeat (first | refine qAa ?_ _ | refine qAc ?_ | refine blk_alloc ?_ _)); refine qAo ?_ aC.o _; (with_reducible repeat (first | refine qAa ?_ _ | refine qAc ?_ | refine blk_alloc ?_ _)); refine qAo ?_ aC.o _; (with_reducible repeat (first | refine qAa ?_ _ | refine qAc ?_ | refine blk_alloc ?_ _)); exact aA.o)) : aO ≠ aG)); have n9_ := am ((by rw [hg]; exact Nat.ne_of_lt (qA8 (g := aH) (o := .cells #[.int .i64 a1_0, .int .i64 a1_1, .int .i64 a1_2, .int .u64 a1_3] 50 (0, 0)) (by (with_reducible repeat (first | refine qAa ?_ _ | refine qAc ?_ | refine blk_alloc ?_ _)); refine qAo ?_ aD.o _; (with_reducible repeat (first | refine qAa ?_ _ | refine qAc ?_ | refine blk_alloc ?_ _)); refine qAo ?_ aD.o _; (with_reducible repeat (first | refine qAa ?_ _ | refine qAc ?_ | refine blk_alloc ?_ _)); refine qAo ?_ aD.o _; (with_reducible repeat (first | refine qAa ?_ _ | refine qAc ?_ | refine blk_alloc ?_ _)); refine qAo ?_ aD.o _; (with_reducible repeat (first | refine qAa ?_ _ | refine qAc ?_ | refine blk_alloc ?_ _)); exact aE.o)) : aH ≠ aO)); have n10_ := am ((by rw [hg]; exact Nat.ne_of_gt (qA8 (g := aH) (o := .cells #[.int .i64 a1_0, .int .i64 a1_1, .int .i64 a1_2, .int .u64 a1_3] 50 (0, 0)) (by (with_reducible repeat (first | refine qAa ?_ _ | refine qAc ?_ | refine blk_alloc ?_ _)); refine qAo ?_ aD.o _; (with_reducible repeat (first | refine qAa ?_ _ | refine qAc ?_ | refine blk_alloc ?_ _)); refine qAo ?_ aD.o _; (with_reducible repeat (first | refine qAa ?_ _ | refine qAc ?_ | refine blk_alloc ?_ _)); refine qAo ?_ aD.o _; (with_reducible repeat (first | refine qAa ?_ _ | refine qAc ?_ | refine blk_alloc ?_ _)); refine qAo ?_ aD.o _; (with_reducible repeat (first | refine qAa ?_ _ | refine qAc ?_ | refine blk_alloc ?_ _)); exact aE.o)) : aO ≠ aH)); have n11_ := am ((by rw [hg]; exact Nat.ne_of_lt (qA8 (g := aJ) (o := .cells #[.int .i64 a0_0, .int .i64 a0_1, .int .i64 a0_2, .int .u64 a0_3] 51 (0, 0)) (by (with_reducible repeat (first | refine qAa ?_ _ | refine qAc ?_ | refine blk_alloc ?_ _)); refine qAv (cs := #[.int .i64 a0_0, .int .i64 a0_1, .int .i64 a0_2, .int .u64 0]) ?_ 3 _ rfl; (with_reducible repeat (first | refine qAa ?_ _ | refine qAc ?_ | refine blk_alloc ?_ _)); refine qAv (cs := #[.int .i64 a0_0, .int .i64 a0_1, .int .i64 0, .int .u64 0]) ?_ 2 _ rfl; (with_reducible repeat (first | refine qAa ?_ _ | refine qAc ?_ | refine blk_alloc ?_ _)); refine qAv (cs := #[.int .i64 a0_0, .int .i64 0, .int .i64 0, .int .u64 0]) ?_ 1 _ rfl; (with_reducible repeat (first | refine qAa ?_ _ | refine qAc ?_ | refine blk_alloc ?_ _)); refine qAv (cs := #[.int .i64 0, .int .i64 0, .int .i64 0, .int .u64 0]) ?_ 0 _ rfl; (with_reducible repeat (first | refine qAa ?_ _ | refine qAc ?_ | refine blk_alloc ?_ _)); exact aB.o)) : aJ ≠ aO)); have n12_ := am ((by rw [hg]; exact Nat.ne_of_gt (qA8 (g := aJ) (o := .cells #[.int .i64 a0_0, .int .i64 a0_1, .int .i64 a0_2, .int .u64 a0_3] 51 (0, 0)) (by (with_reducible repeat (first | refine qAa ?_ _ | refine qAc ?_ | refine blk_alloc ?_ _)); refine qAv (cs := #[.int .i64 a0_0, .int .i64 a0_1, .int .i64 a0_2, .int .u64 0]) ?_ 3 _ rfl; (with_reducible repeat (first | refine qAa ?_ _ | refine qAc ?_ | refine blk_alloc ?_ _)); refine qAv (cs := #[.int .i64 a0_0, .int .i64 a0_1, .int .i64 0, .int .u64 0]) ?_ 2 _ rfl; (with_reducible repeat (first | refine qAa ?_ _ | refine qAc ?_ | refine blk_alloc ?_ _)); refine qAv (cs := #[.int .i64 a0_0, .int .i64 0, .int .i64 0, .int .u64 0]) ?_ 1 _ rfl; (with_reducible repeat (first | refine qAa ?_ _ | refine qAc ?_ | refine blk_alloc ?_ _)); refine qAv (cs := #[.int .i64 0, .int .i64 0, .int .i64 0, .int .u64 0]) ?_ 0 _ rfl; (with_reducible repeat (first | refine qAa ?_ _ | refine qAc ?_ | refine blk_alloc ?_ _)); exact aB.o)) : aO ≠ aJ)); clear aA; clear aE; clear aB; clear HB; have aA := n0_; have aE := n1_; have aB := n2_; have HB := n3_; have aF := n4_; have dI := n5_; have aQ := n6_; have aL := n7_; have aU := n8_; have aM := n9_; have aV := n10_; have aN := n11_; have aW := n12_; clear n0_ n1_ n2_ n3_ n4_ n5_ n6_ n7_ n8_ n9_ n10_ n11_ n12_; clear hb hbox hg; have gy := aU.o; have h7 := aL.o; have gz := aV.o; have h8 := aM.o; have hA := aW.o; have h9 := aN.o; obtain ⟨fE, fF, fG, fH⟩ := c4_ hf aF.o; obtain ⟨fb, fc, fd, fe⟩ := z4_ aF.o; obtain ⟨fI, fJ, fK, fL⟩ := c4_ hf aB.o; obtain ⟨ff, fg, fh, fi⟩ := z4_ aB.o) | ((with_reducible refine qA1 (f := 18) rfl ?_); refine qAZ (some 31) rfl rfl Tryz.func18 (by kernel_rfl) rfl #[.agg #[.int .i64 a0_0, .int .i64 a0_1, .int .i64 a0_2, .int .u64 a0_3]] rfl (by (try simp only [List.map_toArray, List.map_cons, List.map_nil]); first | done | rfl | (simp only [List.length_drop, List.length_take]; rfl)) ?_; (with_reducible refine (qAA.calls a0_0 a0_1 a0_2 a0_3 true _ A5.o).mono ?_); rintro e iJ ⟨rfl, hb⟩; refine ⟨_, rfl, ?_⟩; have n0_ := am (qAh (g := aG) (o := .cells #[.int .i64 a0_0, .int .i64 a0_1, .int .i64 a0_2, .int .u64 a0_3] 50 (0, 0)) (by (with_reducible repeat (first | refine qAa ?_ _ | refine qAc ?_ | refine blk_alloc ?_ _)); refine qAo ?_ aL.o _; (with_reducible repeat (first | refine qAa ?_ _ | refine qAc ?_ | refine blk_alloc ?_ _)); refine qAo ?_ aL.o _; (with_reducible repeat (first | refine qAa ?_ _ | refine qAc ?_ | refine blk_alloc ?_ _)); refine qAo ?_ aL.o _; (with_reducible repeat (first | refine qAa ?_ _ | refine qAc ?_ | refine blk_alloc ?_ _)); refine qAo ?_ aL.o _; (with_reducible repeat (first | refine qAa ?_ _ | refine qAc ?_ | refine blk_alloc ?_ _)); exact aA.o) hb); have n1_ := am (qAh (g := aH) (o := .cells #[.int .i64 a1_0, .int .i64 a1_1, .int .i64 a1_2, .int .u64 a1_3] 50 (0, 0)) (by (with_reducible repeat (first | refine qAa ?_ _ | refine qAc ?_ | refine blk_alloc ?_ _)); refine qAo ?_ aM.o _; (with_reducible repeat (first | refine qAa ?_ _ | refine qAc ?_ | refine blk_alloc ?_ _)); refine qAo ?_ aM.o _; (with_reducible repeat (first | refine qAa ?_ _ | refine qAc ?_ | refine blk_alloc ?_ _)); refine qAo ?_ aM.o _; (with_reducible repeat (first | refine qAa ?_ _ | refine qAc ?_ | refine blk_alloc ?_ _)); refine qAo ?_ aM.o _; (with_reducible repeat (first | refine qAa ?_ _ | refine qAc ?_ | refine blk_alloc ?_ _)); exact aE.o) hb); have n2_ := am (qAh (g := aJ) (o := .cells #[.int .i64 a0_0, .int .i64 a0_1, .int .i64 a0_2, .int .u64 a0_3] 51 (0, 0)) (by (with_reducible repeat (first | refine qAa ?_ _ | refine qAc ?_ | refine blk_alloc ?_ _)); refine qAo ?_ aN.o _; (with_reducible repeat (first | refine qAa ?_ _ | refine qAc ?_ | refine blk_alloc ?_ _)); refine qAo ?_ aN.o _; (with_reducible repeat (first | refine qAa ?_ _ | refine qAc ?_ | refine blk_alloc ?_ _)); refine qAo ?_ aN.o _; (with_reducible repeat (first | refine qAa ?_ _ | refine qAc ?_ | refine blk_alloc ?_ _)); refine qAo ?_ aN.o _; (with_reducible repeat (first | refine qAa ?_ _ | refine qAc ?_ | refine blk_alloc ?_ _)); exact aB.o) hb); have n3_ := am (qAh (g := aO) (o := .cells #[.int .i64 a1_0, .int .i64 a1_1, .int .i64 a1_2, .int .u64 a1_3] 51 (0, 0)) (by (with_reducible repeat (first | refine qAa ?_ _ | refine qAc ?_ | refine blk_alloc ?_ _)); refine qAv (cs := #[.int .i64 a1_0, .int .i64 a1_1, .int .i64 a1_2, .int .u64 0]) ?_ 3 _ rfl; (with_reducible repeat (first | refine qAa ?_ _ | refine qAc ?_ | refine blk_alloc ?_ _)); refine qAv (cs := #[.int .i64 a1_0, .int .i64 a1_1, .int .i64 0, .int .u64 0]) ?_ 2 _ rfl; (with_reducible repeat (first | refine qAa ?_ _ | refine qAc ?_ | refine blk_alloc ?_ _)); refine qAv (cs := #[.int .i64 a1_0, .int .i64 0, .int .i64 0, .int .u64 0]) ?_ 1 _ rfl; (with_reducible repeat (first | refine qAa ?_ _ | refine qAc ?_ | refine blk_alloc ?_ _)); refine qAv (cs := #[.int .i64 0, .int .i64 0, .int .i64 0, .int .u64 0]) ?_ 0 _ rfl; (with_reducible repeat (first | refine qAa ?_ _ | refine qAc ?_ | refine blk_alloc ?_ _)); exact aF.o) hb); have n4_ := am (qAm (by repeat (first | (with_reducible first | exact HB.o | apply qAd | apply qAb | apply qAg | refine qAf ?_ aI.o | refine qAf ?_ aK.o | refine qAf ?_ aP.o | refine qAf ?_ aQ.o) | exact HB.o)) hb); clear aA; clear aE; clear aB; clear aF; clear HB; have aA := n0_; have aE := n1_; have aB := n2_; have aF := n3_; have HB := n4_; clear n0_ n1_ n2_ n3_ n4_; obtain ⟨fM, fN, fO, fP⟩ := c4_ iJ aF.o; obtain ⟨fj, fk, fl, fm⟩ := z4_ aF.o) | ((with_reducible refine qA1 (f := 18) rfl ?_); refine qAZ (some 52) rfl rfl Tryz.func18 (by kernel_rfl) rfl #[.agg #[.int .i64 a1_0, .int .i64 a1_1, .int .i64 a1_2, .int .u64 a1_3]] rfl (by (try simp only [List.map_toArray, List.map_cons, List.map_nil]); first | done | rfl | (simp only [List.length_drop, List.length_take]; rfl)) ?_; (with_reducible refine (qAA.calls a1_0 a1_1 a1_2 a1_3 false _ A7.o).mono ?_); rintro e iK ⟨rfl, hb⟩; refine ⟨_, rfl, ?_⟩; have n0_ := am (qAh (g := aG) (o := .cells #[.int .i64 a0_0, .int .i64 a0_1, .int .i64 a0_2, .int .u64 a0_3] 50 (0, 0)) (by (with_reducible repeat (first | refine qAa ?_ _ | refine qAc ?_ | refine blk_alloc ?_ _)); exact aA.o) hb); have n1_ := am (qAh (g := aH) (o := .cells #[.int .i64 a1_0, .int .i64 a1_1, .int .i64 a1_2, .int .u64 a1_3] 50 (0, 0)) (by (with_reducible repeat (first | refine qAa ?_ _ | refine qAc ?_ | refine blk_alloc ?_ _)); exact aE.o) hb); have n2_ := am (qAh (g := aJ) (o := .cells #[.int .i64 a0_0, .int .i64 a0_1, .int .i64 a0_2, .int .u64 a0_3] 51 (0, 0)) (by (with_reducible repeat (first | refine qAa ?_ _ | refine qAc ?_ | refine blk_alloc ?_ _)); exact aB.o) hb); have n3_ := am (qAh (g := aO) (o := .cells #[.int .i64 a1_0, .int .i64 a1_1, .int .i64 a1_2, .int .u64 a1_3] 51 (0, 0)) (by (with_reducible repeat (first | refine qAa ?_ _ | refine qAc ?_ | refine blk_alloc ?_ _)); exact aF.o) hb); have n4_ := am (qAm (by repeat (first | (with_reducible first | exact HB.o | apply qAd | apply qAb | apply qAg | refine qAf ?_ aI.o | refine qAf ?_ aK.o | refine qAf ?_ aP.o | refine qAf ?_ aQ.o) | exact HB.o)) hb); clear aA; clear aE; clear aB; clear aF; clear HB; have aA := n0_; have aE := n1_; have aB := n2_; have aF := n3_; have HB := n4_; clear n0_ n1_ n2_ n3_ n4_; obtain ⟨de, df, dg, dh⟩ := c4_ iK aB.o; obtain ⟨eM, eN, eO, eP⟩ := z4_ aB.o) | ((with_reducible refine qA1 (f := 20) rfl ?_); refine qAZ (some 55) rfl rfl Tryz.func20 (by kernel_rfl) rfl #[.agg #[.int .i64 a0_0, .int .i64 a0_1, .int .i64 a0_2, .int .u64 a0_3]] rfl (by (try simp only [List.map_toArray, List.map_cons, List.map_nil]); first | done | rfl | (simp only [List.length_drop, List.length_take]; rfl)) ?_; (with_reducible refine (qAu.calls a0_0 a0_1 a0_2 a0_3 af _ hq.o (HTB_.o.below HB.o)).mono ?_); rintro e hz ⟨rfl, hb⟩; refine ⟨_, rfl, ?_⟩; have n0_ := am (qAh (g := aG) (o := .cells #[.int .i64 a0_0, .int .i64 a0_1, .int .i64 a0_2, .int .u64 a0_3] 50 (0, 0)) (by (with_reducible repeat (first | refine qAa ?_ _ | refine qAc ?_ | refine blk_alloc ?_ _)); exact aA.o) hb); have n1_ := am (qAh (g := aH) (o := .cells #[.int .i64 a1_0, .int .i64 a1_1, .int .i64 a1_2, .int .u64 a1_3] 50 (0, 0)) (by (with_reducible repeat (first | refine qAa ?_ _ | refine qAc ?_ | refine blk_alloc ?_ _)); exact aE.o) hb); have n2_ := am (qAh (g := aJ) (o := .cells #[.int .i64 a0_0, .int .i64 a0_1, .int .i64 a0_2, .int .u64 a0_3] 51 (0, 0)) (by (with_reducible repeat (first | refine qAa ?_ _ | refine qAc ?_ | refine blk_alloc ?_ _)); exact aB.o) hb); have n3_ := am (qAh (g := aO) (o := .cells #[.int .i64 a1_0, .int .i64 a1_1, .int .i64 a1_2, .int .u64 a1_3] 51 (0, 0)) (by (with_reducible repeat (first | refine qAa ?_ _ | refine qAc ?_ | refine blk_alloc ?_ _)); exact aF.o) hb); have n4_ := am (qAm (by repeat (first | (with_reducible first | exact HB.o | apply qAd | apply qAb | apply qAg | refine qAf ?_ aI.o | refine qAf ?_ aK.o | refine qAf ?_ aP.o | refine qAf ?_ aQ.o) | exact HB.o)) hb); clear aA; clear aE; clear aB; clear aF; clear HB; have aA := n0_; have aE := n1_; have aB := n2_; have aF := n3_; have HB := n4_; clear n0_ n1_ n2_ n3_ n4_))
    go_ret
    exact ⟨by first | rfl | (generalize af.toList = tl_; cases tl_ <;> rfl) | (simp [errW_none, errW_some] <;> rfl) | (simp [*, errW_none, errW_some] <;> rfl), by repeat (first | (with_reducible first | exact HB.o | apply qAd | apply qAb | apply qAg | refine qAf ?_ aI.o | refine qAf ?_ aK.o | refine qAf ?_ aP.o | refine qAf ?_ aQ.o) | exact HB.o)⟩
  ·replace c6 := Bool.eq_false_iff.mpr c6
   subst c6
   replace H : ((qA7.f (([(⟨a0_0, a0_1, (⟨a0_2, a0_3⟩ : S48)⟩ : S51)] : List (S51)))).bind fun aY => ((qAu.f a0_0 a0_1 a0_2 a0_3).bind fun aa => (if aa.toList = ([] : List UInt8) then (if aY.2 = 51 then (some ((aY.1.length : Int) == 0)) else (none)) else (none)))) = some r := by rw [if_neg (show ¬ (false = true) by decide)] at H; exact H
   obtain ⟨dS, ao⟩ : ∃ y_ : List (S51), y_ = (([(⟨a0_0, a0_1, (⟨a0_2, a0_3⟩ : S48)⟩ : S51)] : List (S51))) := ⟨_, rfl⟩
   replace H : ((qA7.f dS).bind fun aY => ((qAu.f a0_0 a0_1 a0_2 a0_3).bind fun aa => (if aa.toList = ([] : List UInt8) then (if aY.2 = 51 then (some ((aY.1.length : Int) == 0)) else (none)) else (none)))) = some r := by first | (rw [ao]; with_reducible exact H) | (have H2_ := (Option.bind_some _ _).symm.trans H; rw [ao]; with_reducible exact H2_) | (have H2_ := (Option.bind_some _ _).symm.trans H; with_reducible exact H2_) | with_reducible exact H | (rw [ao]; exact H) | exact H
   have dJ := am ao
   clear ao
   replace H := bm H
   obtain ⟨⟨dR, bE⟩, dD, H⟩ := H
   replace H : ((qAu.f a0_0 a0_1 a0_2 a0_3).bind fun aa => (if aa.toList = ([] : List UInt8) then (if bE = 51 then (some ((dR.length : Int) == 0)) else (none)) else (none))) = some r := H
   have fn := am dD
   clear dD
   replace H := bm H
   obtain ⟨aa, dE, H⟩ := H
   replace H : (if aa.toList = ([] : List UInt8) then (if bE = 51 then (some ((dR.length : Int) == 0)) else (none)) else (none)) = some r := H
   have fo := am dE
   clear dE
   by_cases bH : aa.toList = ([] : List UInt8)
   ·rw [if_pos bH] at H
    have fv : (aa.toList == ([] : List UInt8)) = true := beq_iff_eq.mpr bH
    have fw : (aa.toList != ([] : List UInt8)) = false := bn bH
    clear bH
    by_cases bI : bE = 51
    ·rw [if_pos bI] at H
     have fx : (bE == 51) = true := beq_iff_eq.mpr bI
     have fy : (bE != 51) = false := bn bI
     clear bI
     obtain rfl := Option.some.inj H
     go_enter Tryz.func4, Tryz.ntmps4
     go_wp2_with (first | ((with_reducible refine qAC (N := 2) rfl ?_); (try (refine qAG (by rfl) ?_; dsimp only)); refine qAI ?hg (N := 2) ?hd (cs := #[.int .i64 a0_0, .int .i64 a0_1, .int .i64 a0_2, .int .u64 a0_3]) (t := 50) ?hr ?_; (case hd => rfl); (case hg => rfl); (case hr => first | (go_simp; done) | (go_simp; rfl)); intro aG hg iA hbox hb; have n0_ := am (qAm (by repeat (first | (with_reducible first | exact HB.o | apply qAd | apply qAb | apply qAg) | exact HB.o)) hb); have n1_ := am (hbox); have n2_ := am ((by rw [hg]; exact (qAp (by repeat (first | (with_reducible first | exact HB.o | apply qAd | apply qAb | apply qAg) | exact HB.o))) : w.heap.size ≤ aG)); have n3_ := am ((by rw [hg]; exact (qAp (by repeat (first | (with_reducible first | exact HB.o | apply qAd | apply qAb | apply qAg) | exact HB.o))) : w.heap.size ≤ aG)); clear HB; have HB := n0_; have aA := n1_; have dF := n2_; have aI := n3_; clear n0_ n1_ n2_ n3_; clear hb hbox hg) | ((with_reducible refine qAC (N := 3) rfl ?_); (try (refine qAG (by rfl) ?_; dsimp only)); refine qAI ?hg (N := 3) ?hd (cs := #[.int .i64 a1_0, .int .i64 a1_1, .int .i64 a1_2, .int .u64 a1_3]) (t := 50) ?hr ?_; (case hd => rfl); (case hg => rfl); (case hr => first | (go_simp; done) | (go_simp; rfl)); intro aH hg iB hbox hb; have n0_ := am (qAh (g := aG) (o := .cells #[.int .i64 a0_0, .int .i64 a0_1, .int .i64 a0_2, .int .u64 a0_3] 50 (0, 0)) (by (with_reducible repeat (first | refine qAa ?_ _ | refine qAc ?_ | refine blk_alloc ?_ _)); exact aA.o) hb); have n1_ := am (qAm (by repeat (first | (with_reducible first | exact HB.o | apply qAd | apply qAb | apply qAg | refine qAf ?_ aI.o) | exact HB.o)) hb); have n2_ := am (hbox); have n3_ := am ((by rw [hg]; exact (qAp (by repeat (first | (with_reducible first | exact HB.o | apply qAd | apply qAb | apply qAg | refine qAf ?_ aI.o) | exact HB.o))) : w.heap.size ≤ aH)); have n4_ := am ((by rw [hg]; exact (qAp (by repeat (first | (with_reducible first | exact HB.o | apply qAd | apply qAb | apply qAg | refine qAf ?_ aI.o) | exact HB.o))) : w.heap.size ≤ aH)); have n5_ := am ((by rw [hg]; exact Nat.ne_of_lt (qA8 (g := aG) (o := .cells #[.int .i64 a0_0, .int .i64 a0_1, .int .i64 a0_2, .int .u64 a0_3] 50 (0, 0)) (by (with_reducible repeat (first | refine qAa ?_ _ | refine qAc ?_ | refine blk_alloc ?_ _)); exact aA.o)) : aG ≠ aH)); have n6_ := am ((by rw [hg]; exact Nat.ne_of_gt (qA8 (g := aG) (o := .cells #[.int .i64 a0_0, .int .i64 a0_1, .int .i64 a0_2, .int .u64 a0_3] 50 (0, 0)) (by (with_reducible repeat (first | refine qAa ?_ _ | refine qAc ?_ | refine blk_alloc ?_ _)); exact aA.o)) : aH ≠ aG)); clear aA; clear HB; have aA := n0_; have HB := n1_; have aE := n2_; have dG := n3_; have aK := n4_; have ad := n5_; have ae := n6_; clear n0_ n1_ n2_ n3_ n4_ n5_ n6_; clear hb hbox hg) | ((with_reducible refine qA1 (f := 17) rfl ?_); refine qAZ (some 14) rfl rfl Tryz.func17 (by kernel_rfl) rfl #[] rfl (by (try simp only [List.map_toArray, List.map_cons, List.map_nil]); first | done | rfl | (simp only [List.length_drop, List.length_take]; rfl)) ?_; (with_reducible refine (qAx.calls  true _ A3.o).mono ?_); rintro e gU ⟨rfl, hb⟩; refine ⟨_, rfl, ?_⟩; have n0_ := am (qAh (g := aG) (o := .cells #[.int .i64 a0_0, .int .i64 a0_1, .int .i64 a0_2, .int .u64 a0_3] 50 (0, 0)) (by (with_reducible repeat (first | refine qAa ?_ _ | refine qAc ?_ | refine blk_alloc ?_ _)); exact aA.o) hb); have n1_ := am (qAh (g := aH) (o := .cells #[.int .i64 a1_0, .int .i64 a1_1, .int .i64 a1_2, .int .u64 a1_3] 50 (0, 0)) (by (with_reducible repeat (first | refine qAa ?_ _ | refine qAc ?_ | refine blk_alloc ?_ _)); exact aE.o) hb); have n2_ := am (qAm (by repeat (first | (with_reducible first | exact HB.o | apply qAd | apply qAb | apply qAg | refine qAf ?_ aI.o | refine qAf ?_ aK.o) | exact HB.o)) hb); clear aA; clear aE; clear HB; have aA := n0_; have aE := n1_; have HB := n2_; clear n0_ n1_ n2_; have gF := ad.o; have gM := ae.o; obtain ⟨di, dj, dk, dl⟩ := c4_ gU aA.o; obtain ⟨eQ, eR, eS, eT⟩ := z4_ aA.o) | ((with_reducible refine qAC (N := 5) rfl ?_); (try (refine qAG (by rfl) ?_; dsimp only)); refine qAI ?hg (N := 5) ?hd (cs := #[.int .i64 0, .int .i64 0, .int .i64 0, .int .u64 0]) (t := 51) ?hr ?_; (case hd => rfl); (case hg => rfl); (case hr => first | (go_simp; done) | (go_simp; rfl)); intro aJ hg ei hbox hb; have n0_ := am (qAh (g := aG) (o := .cells #[.int .i64 a0_0, .int .i64 a0_1, .int .i64 a0_2, .int .u64 a0_3] 50 (0, 0)) (by (with_reducible repeat (first | refine qAa ?_ _ | refine qAc ?_ | refine blk_alloc ?_ _)); exact aA.o) hb); have n1_ := am (qAh (g := aH) (o := .cells #[.int .i64 a1_0, .int .i64 a1_1, .int .i64 a1_2, .int .u64 a1_3] 50 (0, 0)) (by (with_reducible repeat (first | refine qAa ?_ _ | refine qAc ?_ | refine blk_alloc ?_ _)); exact aE.o) hb); have n2_ := am (qAm (by repeat (first | (with_reducible first | exact HB.o | apply qAd | apply qAb | apply qAg | refine qAf ?_ aI.o | refine qAf ?_ aK.o) | exact HB.o)) hb); have n3_ := am (hbox); have n4_ := am ((by rw [hg]; exact (qAp (by repeat (first | (with_reducible first | exact HB.o | apply qAd | apply qAb | apply qAg | refine qAf ?_ aI.o | refine qAf ?_ aK.o) | exact HB.o))) : w.heap.size ≤ aJ)); have n5_ := am ((by rw [hg]; exact (qAp (by repeat (first | (with_reducible first | exact HB.o | apply qAd | apply qAb | apply qAg | refine qAf ?_ aI.o | refine qAf ?_ aK.o) | exact HB.o))) : w.heap.size ≤ aJ)); have n6_ := am ((by rw [hg]; exact Nat.ne_of_lt (qA8 (g := aG) (o := .cells #[.int .i64 a0_0, .int .i64 a0_1, .int .i64 a0_2, .int .u64 a0_3] 50 (0, 0)) (by (with_reducible repeat (first | refine qAa ?_ _ | refine qAc ?_ | refine blk_alloc ?_ _)); exact aA.o)) : aG ≠ aJ)); have n7_ := am ((by rw [hg]; exact Nat.ne_of_gt (qA8 (g := aG) (o := .cells #[.int .i64 a0_0, .int .i64 a0_1, .int .i64 a0_2, .int .u64 a0_3] 50 (0, 0)) (by (with_reducible repeat (first | refine qAa ?_ _ | refine qAc ?_ | refine blk_alloc ?_ _)); exact aA.o)) : aJ ≠ aG)); have n8_ := am ((by rw [hg]; exact Nat.ne_of_lt (qA8 (g := aH) (o := .cells #[.int .i64 a1_0, .int .i64 a1_1, .int .i64 a1_2, .int .u64 a1_3] 50 (0, 0)) (by (with_reducible repeat (first | refine qAa ?_ _ | refine qAc ?_ | refine blk_alloc ?_ _)); exact aE.o)) : aH ≠ aJ)); have n9_ := am ((by rw [hg]; exact Nat.ne_of_gt (qA8 (g := aH) (o := .cells #[.int .i64 a1_0, .int .i64 a1_1, .int .i64 a1_2, .int .u64 a1_3] 50 (0, 0)) (by (with_reducible repeat (first | refine qAa ?_ _ | refine qAc ?_ | refine blk_alloc ?_ _)); exact aE.o)) : aJ ≠ aH)); clear aA; clear aE; clear HB; have aA := n0_; have aE := n1_; have HB := n2_; have aB := n3_; have dH := n4_; have aP := n5_; have aC := n6_; have aS := n7_; have aD := n8_; have aT := n9_; clear n0_ n1_ n2_ n3_ n4_ n5_ n6_ n7_ n8_ n9_; clear hb hbox hg; have gG := aS.o; have gN := aC.o; have gH := aT.o; have gO := aD.o; obtain ⟨dm, dn, dp, dq⟩ := c4_ ei aB.o; obtain ⟨eU, eV, eW, eX⟩ := z4_ aB.o; obtain ⟨dr, dt, du, dv⟩ := c4_ ei aE.o; obtain ⟨eY, eZ, e0, e1⟩ := z4_ aE.o) | ((with_reducible refine qAC (N := 6) rfl ?_); (try (refine qAG (by rfl) ?_; dsimp only)); refine qAI ?hg (N := 6) ?hd (cs := #[.int .i64 0, .int .i64 0, .int .i64 0, .int .u64 0]) (t := 51) ?hr ?_; (case hd => rfl); (case hg => rfl); (case hr => first | (go_simp; done) | (go_simp; rfl)); intro aO hg ej hbox hb; have n0_ := am (qAh (g := aG) (o := .cells #[.int .i64 a0_0, .int .i64 a0_1, .int .i64 a0_2, .int .u64 a0_3] 50 (0, 0)) (by (with_reducible repeat (first | refine qAa ?_ _ | refine qAc ?_ | refine blk_alloc ?_ _)); refine qAo ?_ aC.o _; (with_reducible repeat (first | refine qAa ?_ _ | refine qAc ?_ | refine blk_alloc ?_ _)); refine qAo ?_ aC.o _; (with_reducible repeat (first | refine qAa ?_ _ | refine qAc ?_ | refine blk_alloc ?_ _)); refine qAo ?_ aC.o _; (with_reducible repeat (first | refine qAa ?_ _ | refine qAc ?_ | refine blk_alloc ?_ _)); refine qAo ?_ aC.o _; (with_reducible repeat (first | refine qAa ?_ _ | refine qAc ?_ | refine blk_alloc ?_ _)); exact aA.o) hb); have n1_ := am (qAh (g := aH) (o := .cells #[.int .i64 a1_0, .int .i64 a1_1, .int .i64 a1_2, .int .u64 a1_3] 50 (0, 0)) (by (with_reducible repeat (first | refine qAa ?_ _ | refine qAc ?_ | refine blk_alloc ?_ _)); refine qAo ?_ aD.o _; (with_reducible repeat (first | refine qAa ?_ _ | refine qAc ?_ | refine blk_alloc ?_ _)); refine qAo ?_ aD.o _; (with_reducible repeat (first | refine qAa ?_ _ | refine qAc ?_ | refine blk_alloc ?_ _)); refine qAo ?_ aD.o _; (with_reducible repeat (first | refine qAa ?_ _ | refine qAc ?_ | refine blk_alloc ?_ _)); refine qAo ?_ aD.o _; (with_reducible repeat (first | refine qAa ?_ _ | refine qAc ?_ | refine blk_alloc ?_ _)); exact aE.o) hb); have n2_ := am (qAh (g := aJ) (o := .cells #[.int .i64 a0_0, .int .i64 a0_1, .int .i64 a0_2, .int .u64 a0_3] 51 (0, 0)) (by (with_reducible repeat (first | refine qAa ?_ _ | refine qAc ?_ | refine blk_alloc ?_ _)); refine qAv (cs := #[.int .i64 a0_0, .int .i64 a0_1, .int .i64 a0_2, .int .u64 0]) ?_ 3 _ rfl; (with_reducible repeat (first | refine qAa ?_ _ | refine qAc ?_ | refine blk_alloc ?_ _)); refine qAv (cs := #[.int .i64 a0_0, .int .i64 a0_1, .int .i64 0, .int .u64 0]) ?_ 2 _ rfl; (with_reducible repeat (first | refine qAa ?_ _ | refine qAc ?_ | refine blk_alloc ?_ _)); refine qAv (cs := #[.int .i64 a0_0, .int .i64 0, .int .i64 0, .int .u64 0]) ?_ 1 _ rfl; (with_reducible repeat (first | refine qAa ?_ _ | refine qAc ?_ | refine blk_alloc ?_ _)); refine qAv (cs := #[.int .i64 0, .int .i64 0, .int .i64 0, .int .u64 0]) ?_ 0 _ rfl; (with_reducible repeat (first | refine qAa ?_ _ | refine qAc ?_ | refine blk_alloc ?_ _)); exact aB.o) hb); have n3_ := am (qAm (by repeat (first | (with_reducible first | exact HB.o | apply qAd | apply qAb | apply qAg | refine qAf ?_ aI.o | refine qAf ?_ aK.o | refine qAf ?_ aP.o) | exact HB.o)) hb); have n4_ := am (hbox); have n5_ := am ((by rw [hg]; exact (qAp (by repeat (first | (with_reducible first | exact HB.o | apply qAd | apply qAb | apply qAg | refine qAf ?_ aI.o | refine qAf ?_ aK.o | refine qAf ?_ aP.o) | exact HB.o))) : w.heap.size ≤ aO)); have n6_ := am ((by rw [hg]; exact (qAp (by repeat (first | (with_reducible first | exact HB.o | apply qAd | apply qAb | apply qAg | refine qAf ?_ aI.o | refine qAf ?_ aK.o | refine qAf ?_ aP.o) | exact HB.o))) : w.heap.size ≤ aO)); have n7_ := am ((by rw [hg]; exact Nat.ne_of_lt (qA8 (g := aG) (o := .cells #[.int .i64 a0_0, .int .i64 a0_1, .int .i64 a0_2, .int .u64 a0_3] 50 (0, 0)) (by (with_reducible repeat (first | refine qAa ?_ _ | refine qAc ?_ | refine blk_alloc ?_ _)); refine qAo ?_ aC.o _; (with_reducible repeat (first | refine qAa ?_ _ | refine qAc ?_ | refine blk_alloc ?_ _)); refine qAo ?_ aC.o _; (with_reducible repeat (first | refine qAa ?_ _ | refine qAc ?_ | refine blk_alloc ?_ _)); refine qAo ?_ aC.o _; (with_reducible repeat (first | refine qAa ?_ _ | refine qAc ?_ | refine blk_alloc ?_ _)); refine qAo ?_ aC.o _; (with_reducible repeat (first | refine qAa ?_ _ | refine qAc ?_ | refine blk_alloc ?_ _)); exact aA.o)) : aG ≠ aO)); have n8_ := am ((by rw [hg]; exact Nat.ne_of_gt (qA8 (g := aG) (o := .cells #[.int .i64 a0_0, .int .i64 a0_1, .int .i64 a0_2, .int .u64 a0_3] 50 (0, 0)) (by (with_reducible repeat (first | refine qAa ?_ _ | refine qAc ?_ | refine blk_alloc ?_ _)); refine qAo ?_ aC.o _; (with_reducible repeat (first | refine qAa ?_ _ | refine qAc ?_ | refine blk_alloc ?_ _)); refine qAo ?_ aC.o _; (with_reducible repeat (first | refine qAa ?_ _ | refine qAc ?_ | refine blk_alloc ?_ _)); refine qAo ?_ aC.o _; (with_reducible repeat (first | refine qAa ?_ _ | refine qAc ?_ | refine blk_alloc ?_ _)); refine qAo ?_ aC.o _; (with_reducible repeat (first | refine qAa ?_ _ | refine qAc ?_ | refine blk_alloc ?_ _)); exact aA.o)) : aO ≠ aG)); have n9_ := am ((by rw [hg]; exact Nat.ne_of_lt (qA8 (g := aH) (o := .cells #[.int .i64 a1_0, .int .i64 a1_1, .int .i64 a1_2, .int .u64 a1_3] 50 (0, 0)) (by (with_reducible repeat (first | refine qAa ?_ _ | refine qAc ?_ | refine blk_alloc ?_ _)); refine qAo ?_ aD.o _; (with_reducible repeat (first | refine qAa ?_ _ | refine qAc ?_ | refine blk_alloc ?_ _)); refine qAo ?_ aD.o _; (with_reducible repeat (first | refine qAa ?_ _ | refine qAc ?_ | refine blk_alloc ?_ _)); refine qAo ?_ aD.o _; (with_reducible repeat (first | refine qAa ?_ _ | refine qAc ?_ | refine blk_alloc ?_ _)); refine qAo ?_ aD.o _; (with_reducible repeat (first | refine qAa ?_ _ | refine qAc ?_ | refine blk_alloc ?_ _)); exact aE.o)) : aH ≠ aO)); have n10_ := am ((by rw [hg]; exact Nat.ne_of_gt (qA8 (g := aH) (o := .cells #[.int .i64 a1_0, .int .i64 a1_1, .int .i64 a1_2, .int .u64 a1_3] 50 (0, 0)) (by (with_reducible repeat (first | refine qAa ?_ _ | refine qAc ?_ | refine blk_alloc ?_ _)); refine qAo ?_ aD.o _; (with_reducible repeat (first | refine qAa ?_ _ | refine qAc ?_ | refine blk_alloc ?_ _)); refine qAo ?_ aD.o _; (with_reducible repeat (first | refine qAa ?_ _ | refine qAc ?_ | refine blk_alloc ?_ _)); refine qAo ?_ aD.o _; (with_reducible repeat (first | refine qAa ?_ _ | refine qAc ?_ | refine blk_alloc ?_ _)); refine qAo ?_ aD.o _; (with_reducible repeat (first | refine qAa ?_ _ | refine qAc ?_ | refine blk_alloc ?_ _)); exact aE.o)) : aO ≠ aH)); have n11_ := am ((by rw [hg]; exact Nat.ne_of_lt (qA8 (g := aJ) (o := .cells #[.int .i64 a0_0, .int .i64 a0_1, .int .i64 a0_2, .int .u64 a0_3] 51 (0, 0)) (by (with_reducible repeat (first | refine qAa ?_ _ | refine qAc ?_ | refine blk_alloc ?_ _)); refine qAv (cs := #[.int .i64 a0_0, .int .i64 a0_1, .int .i64 a0_2, .int .u64 0]) ?_ 3 _ rfl; (with_reducible repeat (first | refine qAa ?_ _ | refine qAc ?_ | refine blk_alloc ?_ _)); refine qAv (cs := #[.int .i64 a0_0, .int .i64 a0_1, .int .i64 0, .int .u64 0]) ?_ 2 _ rfl; (with_reducible repeat (first | refine qAa ?_ _ | refine qAc ?_ | refine blk_alloc ?_ _)); refine qAv (cs := #[.int .i64 a0_0, .int .i64 0, .int .i64 0, .int .u64 0]) ?_ 1 _ rfl; (with_reducible repeat (first | refine qAa ?_ _ | refine qAc ?_ | refine blk_alloc ?_ _)); refine qAv (cs := #[.int .i64 0, .int .i64 0, .int .i64 0, .int .u64 0]) ?_ 0 _ rfl; (with_reducible repeat (first | refine qAa ?_ _ | refine qAc ?_ | refine blk_alloc ?_ _)); exact aB.o)) : aJ ≠ aO)); have n12_ := am ((by rw [hg]; exact Nat.ne_of_gt (qA8 (g := aJ) (o := .cells #[.int .i64 a0_0, .int .i64 a0_1, .int .i64 a0_2, .int .u64 a0_3] 51 (0, 0)) (by (with_reducible repeat (first | refine qAa ?_ _ | refine qAc ?_ | refine blk_alloc ?_ _)); refine qAv (cs := #[.int .i64 a0_0, .int .i64 a0_1, .int .i64 a0_2, .int .u64 0]) ?_ 3 _ rfl; (with_reducible repeat (first | refine qAa ?_ _ | refine qAc ?_ | refine blk_alloc ?_ _)); refine qAv (cs := #[.int .i64 a0_0, .int .i64 a0_1, .int .i64 0, .int .u64 0]) ?_ 2 _ rfl; (with_reducible repeat (first | refine qAa ?_ _ | refine qAc ?_ | refine blk_alloc ?_ _)); refine qAv (cs := #[.int .i64 a0_0, .int .i64 0, .int .i64 0, .int .u64 0]) ?_ 1 _ rfl; (with_reducible repeat (first | refine qAa ?_ _ | refine qAc ?_ | refine blk_alloc ?_ _)); refine qAv (cs := #[.int .i64 0, .int .i64 0, .int .i64 0, .int .u64 0]) ?_ 0 _ rfl; (with_reducible repeat (first | refine qAa ?_ _ | refine qAc ?_ | refine blk_alloc ?_ _)); exact aB.o)) : aO ≠ aJ)); clear aA; clear aE; clear aB; clear HB; have aA := n0_; have aE := n1_; have aB := n2_; have HB := n3_; have aF := n4_; have dI := n5_; have aQ := n6_; have aL := n7_; have aU := n8_; have aM := n9_; have aV := n10_; have aN := n11_; have aW := n12_; clear n0_ n1_ n2_ n3_ n4_ n5_ n6_ n7_ n8_ n9_ n10_ n11_ n12_; clear hb hbox hg; have gI := aU.o; have gP := aL.o; have gJ := aV.o; have gQ := aM.o; have gK := aW.o; have gR := aN.o; obtain ⟨dw, dx, dy, dz⟩ := c4_ ej aF.o; obtain ⟨e2, e3, e4, e5⟩ := z4_ aF.o; obtain ⟨eA, eB, eC, eD⟩ := c4_ ej aB.o; obtain ⟨e6, e7, e8, e9⟩ := z4_ aB.o) | ((with_reducible refine qA1 (f := 18) rfl ?_); refine qAZ (some 31) rfl rfl Tryz.func18 (by kernel_rfl) rfl #[.agg #[.int .i64 a0_0, .int .i64 a0_1, .int .i64 a0_2, .int .u64 a0_3]] rfl (by (try simp only [List.map_toArray, List.map_cons, List.map_nil]); first | done | rfl | (simp only [List.length_drop, List.length_take]; rfl)) ?_; (with_reducible refine (qAA.calls a0_0 a0_1 a0_2 a0_3 false _ A5.o).mono ?_); rintro e gV ⟨rfl, hb⟩; refine ⟨_, rfl, ?_⟩; have n0_ := am (qAh (g := aG) (o := .cells #[.int .i64 a0_0, .int .i64 a0_1, .int .i64 a0_2, .int .u64 a0_3] 50 (0, 0)) (by (with_reducible repeat (first | refine qAa ?_ _ | refine qAc ?_ | refine blk_alloc ?_ _)); refine qAo ?_ aL.o _; (with_reducible repeat (first | refine qAa ?_ _ | refine qAc ?_ | refine blk_alloc ?_ _)); refine qAo ?_ aL.o _; (with_reducible repeat (first | refine qAa ?_ _ | refine qAc ?_ | refine blk_alloc ?_ _)); refine qAo ?_ aL.o _; (with_reducible repeat (first | refine qAa ?_ _ | refine qAc ?_ | refine blk_alloc ?_ _)); refine qAo ?_ aL.o _; (with_reducible repeat (first | refine qAa ?_ _ | refine qAc ?_ | refine blk_alloc ?_ _)); exact aA.o) hb); have n1_ := am (qAh (g := aH) (o := .cells #[.int .i64 a1_0, .int .i64 a1_1, .int .i64 a1_2, .int .u64 a1_3] 50 (0, 0)) (by (with_reducible repeat (first | refine qAa ?_ _ | refine qAc ?_ | refine blk_alloc ?_ _)); refine qAo ?_ aM.o _; (with_reducible repeat (first | refine qAa ?_ _ | refine qAc ?_ | refine blk_alloc ?_ _)); refine qAo ?_ aM.o _; (with_reducible repeat (first | refine qAa ?_ _ | refine qAc ?_ | refine blk_alloc ?_ _)); refine qAo ?_ aM.o _; (with_reducible repeat (first | refine qAa ?_ _ | refine qAc ?_ | refine blk_alloc ?_ _)); refine qAo ?_ aM.o _; (with_reducible repeat (first | refine qAa ?_ _ | refine qAc ?_ | refine blk_alloc ?_ _)); exact aE.o) hb); have n2_ := am (qAh (g := aJ) (o := .cells #[.int .i64 a0_0, .int .i64 a0_1, .int .i64 a0_2, .int .u64 a0_3] 51 (0, 0)) (by (with_reducible repeat (first | refine qAa ?_ _ | refine qAc ?_ | refine blk_alloc ?_ _)); refine qAo ?_ aN.o _; (with_reducible repeat (first | refine qAa ?_ _ | refine qAc ?_ | refine blk_alloc ?_ _)); refine qAo ?_ aN.o _; (with_reducible repeat (first | refine qAa ?_ _ | refine qAc ?_ | refine blk_alloc ?_ _)); refine qAo ?_ aN.o _; (with_reducible repeat (first | refine qAa ?_ _ | refine qAc ?_ | refine blk_alloc ?_ _)); refine qAo ?_ aN.o _; (with_reducible repeat (first | refine qAa ?_ _ | refine qAc ?_ | refine blk_alloc ?_ _)); exact aB.o) hb); have n3_ := am (qAh (g := aO) (o := .cells #[.int .i64 a1_0, .int .i64 a1_1, .int .i64 a1_2, .int .u64 a1_3] 51 (0, 0)) (by (with_reducible repeat (first | refine qAa ?_ _ | refine qAc ?_ | refine blk_alloc ?_ _)); refine qAv (cs := #[.int .i64 a1_0, .int .i64 a1_1, .int .i64 a1_2, .int .u64 0]) ?_ 3 _ rfl; (with_reducible repeat (first | refine qAa ?_ _ | refine qAc ?_ | refine blk_alloc ?_ _)); refine qAv (cs := #[.int .i64 a1_0, .int .i64 a1_1, .int .i64 0, .int .u64 0]) ?_ 2 _ rfl; (with_reducible repeat (first | refine qAa ?_ _ | refine qAc ?_ | refine blk_alloc ?_ _)); refine qAv (cs := #[.int .i64 a1_0, .int .i64 0, .int .i64 0, .int .u64 0]) ?_ 1 _ rfl; (with_reducible repeat (first | refine qAa ?_ _ | refine qAc ?_ | refine blk_alloc ?_ _)); refine qAv (cs := #[.int .i64 0, .int .i64 0, .int .i64 0, .int .u64 0]) ?_ 0 _ rfl; (with_reducible repeat (first | refine qAa ?_ _ | refine qAc ?_ | refine blk_alloc ?_ _)); exact aF.o) hb); have n4_ := am (qAm (by repeat (first | (with_reducible first | exact HB.o | apply qAd | apply qAb | apply qAg | refine qAf ?_ aI.o | refine qAf ?_ aK.o | refine qAf ?_ aP.o | refine qAf ?_ aQ.o) | exact HB.o)) hb); clear aA; clear aE; clear aB; clear aF; clear HB; have aA := n0_; have aE := n1_; have aB := n2_; have aF := n3_; have HB := n4_; clear n0_ n1_ n2_ n3_ n4_; obtain ⟨eE, eF, eG, eH⟩ := c4_ gV aB.o; obtain ⟨ea, eb, ec, ed⟩ := z4_ aB.o) | ((with_reducible refine qAC (N := 35) rfl ?_); (try (refine qAG (by rfl) ?_; dsimp only)); refine Kd.R_lit k51 _ 51 ?hg (N := 35) ?hd (xs := ([(⟨a0_0, a0_1, (⟨a0_2, a0_3⟩ : S48)⟩ : S51)] : List (S51))) (inner := [.int .i64 a0_0, .int .i64 a0_1, .int .i64 a0_2, .int .u64 a0_3]) (ok := fun _ => True) (okp := fun _ => True) ?hr ?hp (fun _ hk => hk) trivial (Below.refl _ _) (Nat.le_refl _) (by simp) ?_; (case hd => rfl); (case hg => rfl); (case hr => first | (go_simp; done) | (go_simp; rfl)); (case hp => exact (Reps.c4 (show Kd.M k51 _ _ _ (⟨a0_0, a0_1, (⟨a0_2, a0_3⟩ : S48)⟩ : S51) [.int .i64 a0_0, .int .i64 a0_1, .int .i64 a0_2, .int .u64 a0_3] from (qBT _ _ _ (⟨a0_0, a0_1, (⟨a0_2, a0_3⟩ : S48)⟩ : S51) )) (Reps.none _ _))); intro hs iD ho125 hb hg_ hnew_; clear hg_ hnew_; (first | rw [← dJ.o] at ho125 | (simp only [Int.reduceToNat] at ho125; rw [← dJ.o] at ho125)); have n0_ := am (Kd.R_lower (Kd.R_newB (Kd.R_newB ho125 (g := aJ) (o := .cells #[.int .i64 a0_0, .int .i64 a0_1, .int .i64 a0_2, .int .u64 a0_3] 51 (0, 0)) (by (with_reducible repeat (first | refine qAa ?_ _ | refine qAc ?_ | refine blk_alloc ?_ _)); exact aB.o)) (g := aO) (o := .cells #[.int .i64 a1_0, .int .i64 a1_1, .int .i64 a1_2, .int .u64 a1_3] 51 (0, 0)) (by (with_reducible repeat (first | refine qAa ?_ _ | refine qAc ?_ | refine blk_alloc ?_ _)); exact aF.o)) (qAp (by repeat (first | (with_reducible first | exact HB.o | apply qAd | apply qAb | apply qAg | refine qAf ?_ aI.o | refine qAf ?_ aK.o | refine qAf ?_ aP.o | refine qAf ?_ aQ.o) | exact HB.o)))); have n1_ := am (qAh (g := aG) (o := .cells #[.int .i64 a0_0, .int .i64 a0_1, .int .i64 a0_2, .int .u64 a0_3] 50 (0, 0)) (by (with_reducible repeat (first | refine qAa ?_ _ | refine qAc ?_ | refine blk_alloc ?_ _)); exact aA.o) hb); have n2_ := am (qAh (g := aH) (o := .cells #[.int .i64 a1_0, .int .i64 a1_1, .int .i64 a1_2, .int .u64 a1_3] 50 (0, 0)) (by (with_reducible repeat (first | refine qAa ?_ _ | refine qAc ?_ | refine blk_alloc ?_ _)); exact aE.o) hb); have n3_ := am (qAh (g := aJ) (o := .cells #[.int .i64 a0_0, .int .i64 a0_1, .int .i64 a0_2, .int .u64 a0_3] 51 (0, 0)) (by (with_reducible repeat (first | refine qAa ?_ _ | refine qAc ?_ | refine blk_alloc ?_ _)); exact aB.o) hb); have n4_ := am (qAh (g := aO) (o := .cells #[.int .i64 a1_0, .int .i64 a1_1, .int .i64 a1_2, .int .u64 a1_3] 51 (0, 0)) (by (with_reducible repeat (first | refine qAa ?_ _ | refine qAc ?_ | refine blk_alloc ?_ _)); exact aF.o) hb); have n5_ := am (qAm (by repeat (first | (with_reducible first | exact HB.o | apply qAd | apply qAb | apply qAg | refine qAf ?_ aI.o | refine qAf ?_ aK.o | refine qAf ?_ aP.o | refine qAf ?_ aQ.o) | exact HB.o)) hb); clear aA; clear aE; clear aB; clear aF; clear HB; have ai := n0_; have aA := n1_; have aE := n2_; have aB := n3_; have aF := n4_; have HB := n5_; clear n0_ n1_ n2_ n3_ n4_ n5_; clear hb ho125; obtain ⟨d5, d9, da⟩ := Kd.R_slice ai.o; subst da) | ((with_reducible refine qA1 (f := 19) rfl ?_); refine qAZ (some 36) rfl rfl Tryz.func19 (by kernel_rfl) rfl #[.slice d5 dS.length d9] rfl (by (try simp only [List.map_toArray, List.map_cons, List.map_nil]); first | done | rfl | (simp only [List.length_drop, List.length_take]; rfl)) ?_; (with_reducible refine (qA7.calls _ _ dS dR bE _ ?side1 ?side2 fn.o).mono ?_); (case side1 => repeat (first | exact (Kd.R_reads' ai.o).2.2 | (with_reducible refine Kd.C_alloc ?_ _) | (with_reducible refine Kd.C_drewN ?_ _) | (with_reducible refine Kd.C_drew ?_))); (case side2 => exact (Kd.R_reads' ai.o).2.1); rintro e gW ⟨ht, rfl, dC, hb⟩; refine ⟨_, rfl, ?_⟩; have n0_ := am (Kd.R_below (by (with_reducible repeat (first | apply Kd.R_alloc | apply Kd.R_drewN | apply Kd.R_drew)); exact ai.o) hb); have n1_ := am (Kd.R_lower dC (qAp (by repeat (first | (with_reducible first | exact HB.o | apply qAd | apply qAb | apply qAg | refine qAf ?_ aI.o | refine qAf ?_ aK.o | refine qAf ?_ aP.o | refine qAf ?_ aQ.o) | exact HB.o)))); have n2_ := am (qAh (g := aG) (o := .cells #[.int .i64 a0_0, .int .i64 a0_1, .int .i64 a0_2, .int .u64 a0_3] 50 (0, 0)) (by (with_reducible repeat (first | refine qAa ?_ _ | refine qAc ?_ | refine blk_alloc ?_ _)); exact aA.o) hb); have n3_ := am (qAh (g := aH) (o := .cells #[.int .i64 a1_0, .int .i64 a1_1, .int .i64 a1_2, .int .u64 a1_3] 50 (0, 0)) (by (with_reducible repeat (first | refine qAa ?_ _ | refine qAc ?_ | refine blk_alloc ?_ _)); exact aE.o) hb); have n4_ := am (qAh (g := aJ) (o := .cells #[.int .i64 a0_0, .int .i64 a0_1, .int .i64 a0_2, .int .u64 a0_3] 51 (0, 0)) (by (with_reducible repeat (first | refine qAa ?_ _ | refine qAc ?_ | refine blk_alloc ?_ _)); exact aB.o) hb); have n5_ := am (qAh (g := aO) (o := .cells #[.int .i64 a1_0, .int .i64 a1_1, .int .i64 a1_2, .int .u64 a1_3] 51 (0, 0)) (by (with_reducible repeat (first | refine qAa ?_ _ | refine qAc ?_ | refine blk_alloc ?_ _)); exact aF.o) hb); have n6_ := am (qAm (by repeat (first | (with_reducible first | exact HB.o | apply qAd | apply qAb | apply qAg | refine qAf ?_ aI.o | refine qAf ?_ aK.o | refine qAf ?_ aP.o | refine qAf ?_ aQ.o) | exact HB.o)) hb); clear ai; clear aA; clear aE; clear aB; clear aF; clear HB; have ai := n0_; have au := n1_; have aA := n2_; have aE := n3_; have aB := n4_; have aF := n5_; have HB := n6_; clear n0_ n1_ n2_ n3_ n4_ n5_ n6_; obtain ⟨eI, eJ, eK, eL⟩ := c4_ gW aB.o; obtain ⟨ee, ef, eg, eh⟩ := z4_ aB.o) | ((with_reducible refine qA1 (f := 20) rfl ?_); refine qAZ (some 40) rfl rfl Tryz.func20 (by kernel_rfl) rfl #[.agg #[.int .i64 a0_0, .int .i64 a0_1, .int .i64 a0_2, .int .u64 a0_3]] rfl (by (try simp only [List.map_toArray, List.map_cons, List.map_nil]); first | done | rfl | (simp only [List.length_drop, List.length_take]; rfl)) ?_; (with_reducible refine (qAu.calls a0_0 a0_1 a0_2 a0_3 aa _ fo.o (HTB_.o.below HB.o)).mono ?_); rintro e iE ⟨rfl, hb⟩; refine ⟨_, rfl, ?_⟩; have n0_ := am (Kd.R_below (by (with_reducible repeat (first | apply Kd.R_alloc | apply Kd.R_drewN | apply Kd.R_drew)); exact ai.o) hb); have n1_ := am (Kd.R_below (by (with_reducible repeat (first | apply Kd.R_alloc | apply Kd.R_drewN | apply Kd.R_drew)); exact au.o) hb); have n2_ := am (qAh (g := aG) (o := .cells #[.int .i64 a0_0, .int .i64 a0_1, .int .i64 a0_2, .int .u64 a0_3] 50 (0, 0)) (by (with_reducible repeat (first | refine qAa ?_ _ | refine qAc ?_ | refine blk_alloc ?_ _)); exact aA.o) hb); have n3_ := am (qAh (g := aH) (o := .cells #[.int .i64 a1_0, .int .i64 a1_1, .int .i64 a1_2, .int .u64 a1_3] 50 (0, 0)) (by (with_reducible repeat (first | refine qAa ?_ _ | refine qAc ?_ | refine blk_alloc ?_ _)); exact aE.o) hb); have n4_ := am (qAh (g := aJ) (o := .cells #[.int .i64 a0_0, .int .i64 a0_1, .int .i64 a0_2, .int .u64 a0_3] 51 (0, 0)) (by (with_reducible repeat (first | refine qAa ?_ _ | refine qAc ?_ | refine blk_alloc ?_ _)); exact aB.o) hb); have n5_ := am (qAh (g := aO) (o := .cells #[.int .i64 a1_0, .int .i64 a1_1, .int .i64 a1_2, .int .u64 a1_3] 51 (0, 0)) (by (with_reducible repeat (first | refine qAa ?_ _ | refine qAc ?_ | refine blk_alloc ?_ _)); exact aF.o) hb); have n6_ := am (qAm (by repeat (first | (with_reducible first | exact HB.o | apply qAd | apply qAb | apply qAg | refine qAf ?_ aI.o | refine qAf ?_ aK.o | refine qAf ?_ aP.o | refine qAf ?_ aQ.o) | exact HB.o)) hb); clear ai; clear au; clear aA; clear aE; clear aB; clear aF; clear HB; have ai := n0_; have au := n1_; have aA := n2_; have aE := n3_; have aB := n4_; have aF := n5_; have HB := n6_; clear n0_ n1_ n2_ n3_ n4_ n5_ n6_; obtain ⟨g0, g2, db⟩ := Kd.R_slice au.o; subst db))
     go_ret
     exact ⟨by first | rfl | (simp [errW_none, errW_some] <;> rfl) | (simp [*, errW_none, errW_some] <;> rfl), by repeat (first | (with_reducible first | exact HB.o | apply qAd | apply qAb | apply qAg | refine qAf ?_ aI.o | refine qAf ?_ aK.o | refine qAf ?_ aP.o | refine qAf ?_ aQ.o) | exact HB.o)⟩
    ·rw [if_neg bI] at H
     exact absurd H (by simp)
   ·rw [if_neg bH] at H
    exact absurd H (by simp)
 ·replace c4 := Bool.eq_false_iff.mpr c4
  subst c4
  replace H : (none) = some r := by rw [if_neg (show ¬ (false = true) by decide)] at H; exact H
  exact absurd H (by simp)
end Q
end
section
namespace Q
open Go.RowKit YA YB YC
open Val Ins Enc Q.Flt DecLaw
namespace C14
theorem enc_one {x : S51} (hu : 0 ≤ x.f2.f1 ∧ x.f2.f1 < 18446744073709551616) : qA7.f [x] = some (encS [x]) := by
 unfold qA7.f
 rw [if_pos]
 simp only [List.all_cons, List.all_nil, Bool.and_true, u64S]
 exact decide_eq_true hu
theorem encS_ok {x : S51} (h : okI x.f0 x.f1 x.f2.f0 x.f2.f1 = true) : encS [x] = (encB [toD x], 0) := by
 unfold encS
 rw [if_neg (by simp), if_pos (by simp only [List.all_cons, List.all_nil, Bool.and_true]; exact h)]; rfl
theorem encS_no {x : S51} (h : okI x.f0 x.f1 x.f2.f0 x.f2.f1 = false) : encS [x] = ([], 51) := by
 unfold encS
 rw [if_neg (by simp), if_neg (by simp only [List.all_cons, List.all_nil, Bool.and_true]; rw [show okS x = okI x.f0 x.f1 x.f2.f0 x.f2.f1 from rfl, h]; decide)]
theorem encB_bytes (x : Enc.InsD) : ∀ y ∈ encB [x], 0 ≤ y ∧ y < 256 := by
 intro y hy
 have hy : y ∈ insB x := by simpa [encB] using hy
 unfold insB at hy
 rcases List.mem_cons.1 hy with rfl | hy
 ·omega
 split at hy
 ·rcases List.mem_cons.1 hy with rfl | hy
  ·omega
  exact be_bytes _ _ y hy
 exact be_bytes _ _ y hy
theorem enc_inj {x y : Enc.InsD} (hx : x.ok = true ∧ U64 x.b) (hy : y.ok = true ∧ U64 y.b) (h : strOfNums (encB [x]) = strOfNums (encB [y])) : x = y := by
 have h := nums_inj _ _ (encB_bytes x) (encB_bytes y) h
 exact (insB_front (s := []) (t := []) hx hy (by simpa [encB] using h)).1
theorem qBQ (s : ByteArray) : s.toList = bl s := Lib.toList_data s
theorem unlike_ev (c0 c1 c2 c3 d0 d1 d2 d3 : Int) (hi : qBk 1048576 ⟨c0, c1, ⟨c2, c3⟩⟩) (hk : qBk 1048576 ⟨d0, d1, ⟨d2, d3⟩⟩) : Ev (fun k => foundrylaw14_CodeUnlike.f k c0 c1 c2 c3 d0 d1 d2 d3) true := by
 have hc : 0 ≤ c3 ∧ c3 < 18446744073709551616 := qCK hi.2.2.2
 have hd : 0 ≤ d3 ∧ d3 < 18446744073709551616 := qCK hk.2.2.2
 have ec := enc_one (x := ⟨c0, c1, ⟨c2, c3⟩⟩) hc
 have ed := enc_one (x := ⟨d0, d1, ⟨d2, d3⟩⟩) hd
 have rc : qAA.f c0 c1 c2 c3 = some (okI c0 c1 c2 c3) := if_pos hc
 have rd : qAA.f d0 d1 d2 d3 = some (okI d0 d1 d2 d3) := if_pos hd
 have tc : qAu.f c0 c1 c2 c3 = some (qBJ c0 c1 c2 c3) := if_pos hc
 have td : qAu.f d0 d1 d2 d3 = some (qBJ d0 d1 d2 d3) := if_pos hd
 refine Ev.congr (fun k => by unfold foundrylaw14_CodeUnlike.f; rw [live_eq, Option.bind_some, if_pos rfl, rc, rd, Option.bind_some]) ?_
 cases oc : okI c0 c1 c2 c3 with
 | false =>
  refine Ev.congr (f := fun _ => some true) (fun k => ?_) (Ev.now _)
  rw [if_neg (by decide), ec, encS_no (x := ⟨c0, c1, ⟨c2, c3⟩⟩) oc, tc, Option.bind_some, Option.bind_some, textI_no oc, if_pos (by rw [qBQ]; rfl), if_pos rfl]
  rfl
 | true =>
  refine Ev.congr (fun k => by rw [if_pos rfl, Option.bind_some]) ?_
  cases od : okI d0 d1 d2 d3 with
  | false =>
   refine Ev.congr (f := fun _ => some true) (fun k => ?_) (Ev.now _)
   rw [if_neg (by decide), tc, Option.bind_some, qBQ]
   congr 1
   exact bne_iff_ne.mpr (textI_some oc)
  | true =>
   have key : ∀ b : Bool, (b = true ↔ (c0 = d0 ∧ c1 = d1 ∧ c2 = d2 ∧ c3 = d3)) → Ev (fun k => foundrylaw14_CodeUnlike.j0 k b c0 c1 c2 c3 d0 d1 d2 d3) true := fun b hb => by
    have h1 : ((qBJ c0 c1 c2 c3).toList == (qBJ d0 d1 d2 d3).toList) = b := by
     cases b with
     | true =>
      obtain ⟨rfl, rfl, rfl, rfl⟩ := hb.1 rfl
      exact beq_self_eq_true _
     | false =>
      refine beq_eq_false_iff_ne.mpr fun e => ?_
      rw [qBQ, qBQ] at e
      exact absurd (hb.2 (textI_inj oc hc od hd (bl_inj e))) (by decide)
    have h2 : ((strOfNums (encB [toD ⟨c0, c1, ⟨c2, c3⟩⟩])).toList == (strOfNums (encB [toD ⟨d0, d1, ⟨d2, d3⟩⟩])).toList) = b := by
     cases b with
     | true =>
      obtain ⟨rfl, rfl, rfl, rfl⟩ := hb.1 rfl
      exact beq_self_eq_true _
     | false =>
      refine beq_eq_false_iff_ne.mpr fun e => ?_
      rw [qBQ, qBQ] at e
      have := enc_inj (x := toD ⟨c0, c1, ⟨c2, c3⟩⟩) (y := toD ⟨d0, d1, ⟨d2, d3⟩⟩) ⟨oc, hc⟩ ⟨od, hd⟩ (bl_inj e)
      unfold toD at this
      injection this with a1 a2 a3 a4
      exact absurd (hb.2 ⟨a1, a2, a3, a4⟩) (by decide)
    refine Ev.step (f := fun _ => some true) (fun k => ?_) (Ev.now _)
    simp only [foundrylaw14_CodeUnlike.j0, ec, ed, encS_ok (x := ⟨c0, c1, ⟨c2, c3⟩⟩) oc, encS_ok (x := ⟨d0, d1, ⟨d2, d3⟩⟩) od, tc, td, Option.bind_some, qAq.f, h1, h2, beq_self_eq_true, if_true]
   refine Ev.congr (fun k => by rw [if_pos rfl]) ?_
   by_cases e0 : c0 = d0
   rotate_left
   ·refine Ev.congr (fun k => by rw [if_neg e0]) (key false ⟨fun h => (by cases h), fun h => absurd h.1 e0⟩)
   by_cases e1 : c1 = d1
   rotate_left
   ·refine Ev.congr (fun k => by rw [if_pos e0, if_neg e1]) (key false ⟨fun h => (by cases h), fun h => absurd h.2.1 e1⟩)
   refine Ev.congr (fun k => by rw [if_pos e0, if_pos e1, show qAV.f c2 c3 d2 d3 = some (c2 == d2 && (c3 == d3)) from rfl, Option.bind_some]) (key _ ?_)
   rw [Bool.and_eq_true, beq_iff_eq, beq_iff_eq]
   exact ⟨fun h => ⟨e0, e1, h.1, h.2⟩, fun h => ⟨h.2.2.1, h.2.2.2⟩⟩
end C14
end Q
end
section
namespace codeUnlike
open Go.ChangeShapes Go.WideShapes Go.ChangeAt Go.RowKit
theorem own : ownKnob Tryz.prog.godebug = none := by kernel_rfl
theorem laidOut : laidOutB Tryz.prog = true := by kernel_rfl
theorem contract (H : Type) (enc : TypeId × Value → H) (W : World) (base : Nat) (args : Array Value) (ds gs : List (DataW H)) (before : List MemPlace)
  (hval0 : ∀ (j : Nat) t v, Tryz.f4.params[j]? = some t → args[j]? = some v → Value.okWide Tryz.prog W .any base t v)
  (hW : DataW.Whole enc Tryz.prog Tryz.f4.params.toList Rows.codeUnlikeSpec.vars false W args.toList ds gs before) (hk0 : decide (Rows.uptoBulkAll (ds ++ gs) ≤ 1048576) = true) (hL : laidMet Tryz.prog Rows.codeUnlikeUptoRow.laid W) :
  Calls Tryz.prog 4 args W fun e W' => ∃ v, e = .returned v ∧ Rows.codeUnlikeSpec.post enc Tryz.prog Tryz.f4 false true false false W args v W' := by
 have hval : ∀ (j : Nat) t v, Tryz.f4.params[j]? = some t → args[j]? = some v → Value.okWide Tryz.prog W .any base t v := hval0
 have hW' := hW
 obtain ⟨p, q, hA0, hV, rfl, hfz, hnd⟩ := hW
 have hA : DataW.TrodAll enc Tryz.prog W 0 (fun _ => true) true Tryz.f4.params.toList args.toList ds p := hA0
 rw [Tryz.params4] at hA hval
 obtain ⟨v0, vs0, d0, ds0, p0, q0, hargs, rfl, rfl, h0, r0⟩ := trodAll_cons hA
 obtain ⟨v1, vs1, d1, ds1, p1, q1, rfl, rfl, rfl, h1, r1⟩ := trodAll_cons r0
 obtain ⟨rfl, rfl, rfl⟩ := trodAll_nil r1
 obtain rfl : args = #[v0, v1] := by cases args; simp_all
 obtain ⟨rfl, rfl⟩ := trodVars_none hV
 have hk := of_decide_eq_true hk0
 simp only [List.append_nil, Rows.uptoBulkAll] at hk
 have k0 := h0
 have lt0 : ∀ x ∈ p0, x.block < W.heap.size := by obtain ⟨m, hm⟩ := k0; exact DataW.trod_lt m _ _ _ hm
 obtain ⟨cs0, rfl, hsz0⟩ := okWide_struct Tryz.underlying50 (hval 0 50 v0 rfl rfl)
 obtain ⟨fuel0, hf0⟩ := h0
 obtain ⟨x0, hK0, hG0⟩ := Q.opens_foundryref14_Ins W 1048576 H enc 0 (fun _ => true) true fuel0 _ _ hf0 (by show Rows.uptoBulk d0 ≤ _; omega)
 have he0 := Q.k50_open hK0
 obtain rfl : cs0 = #[.int .i64 x0.f0, .int .i64 x0.f1, .int .i64 x0.f2.f0, .int .u64 x0.f2.f1] := Array.ext' he0
 clear hf0 hK0
 have k1 := h1
 have lt1 : ∀ x ∈ p1, x.block < W.heap.size := by obtain ⟨m, hm⟩ := k1; exact DataW.trod_lt m _ _ _ hm
 obtain ⟨cs1, rfl, hsz1⟩ := okWide_struct Tryz.underlying50 (hval 1 50 v1 rfl rfl)
 obtain ⟨fuel1, hf1⟩ := h1
 obtain ⟨x1, hK1, hG1⟩ := Q.opens_foundryref14_Ins W 1048576 H enc 0 (fun _ => true) true fuel1 _ _ hf1 (by show Rows.uptoBulk d1 ≤ _; omega)
 have he1 := Q.k50_open hK1
 obtain rfl : cs1 = #[.int .i64 x1.f0, .int .i64 x1.f1, .int .i64 x1.f2.f0, .int .u64 x1.f2.f1] := Array.ext' he1
 clear hf1 hK1
 obtain ⟨k, hkk⟩ := (Q.C14.unlike_ev (x0.f0) (x0.f1) (x0.f2.f0) (x0.f2.f1) (x1.f0) (x1.f1) (x1.f2.f0) (x1.f2.f1) hG0 hG1).rounds
 clear hA0 hval0
 refine (Q.foundrylaw14_CodeUnlike.calls k (x0.f0) (x0.f1) (x0.f2.f0) (x0.f2.f1) (x1.f0) (x1.f1) (x1.f2.f0) (x1.f2.f1) true W  hkk (Q.Flt.tb_of hL)).mono fun e W' ⟨he', bel⟩ => ?_
 subst he'
 exact ⟨_, rfl, _, _, _, [], _, [], hW', trodAll_mk1 (shut_bool Tryz.underlying4 _), (trodAll_cons_mk (Below.trod laidOut (by kernel_rfl) (of_decide_eq_true (by kernel_rfl)) k0 bel lt0) (trodAll_cons_mk (Below.trod laidOut (by kernel_rfl) (of_decide_eq_true (by kernel_rfl)) k1 bel lt1) trodAll_mk0)), rfl, bel.frame _, fun h => by cases h⟩
theorem qCF {H : Type} {enc : TypeId × Value → H} {C : Checked} {os : Os} {f : FuncId} {fn : Func} {s : OpenSpec} {conds : List PathCond} {apart : Bool} {laid : List (String × DataW Unit)} (modest : Bool) (w0 : World) (args : Array Value) (hos : w0.os = os)
  (hsh : (w0.forCall (fun _ _ => 0) ⟨#[], args, []⟩).Shaped C.prog)
  (hok : Input.okWideB C.prog (w0.forCall (fun _ _ => 0) ⟨#[], args, []⟩) f ⟨#[], args, []⟩ = true)
  (hrow : s.preRow enc C.prog fn conds apart laid (w0.forCall (fun _ _ => 0) ⟨#[], args, []⟩).memory args) :
  ∃ (w : World) (tape : Tape) (i : Input), w.os = os ∧ (w.forCall tape i).Shaped C.prog ∧ i.vars = [] ∧ Input.okWide C.prog (w.forCall tape i) .any w.heap.size f i ∧
   s.preRow enc C.prog fn conds apart laid (w.forCall tape i).memory i.args ∧ ({ modest := modest } : Assume).holds C.prog (lone (Frame.enter C.prog f i.args .normal) [] (w.forCall tape i)) :=
 ⟨w0, fun _ _ => 0, ⟨#[], args, []⟩, hos, hsh, (Input.okWide_of_okWideB (base := 0) hok).1, (Input.okWide_of_okWideB hok).2, hrow, by
   simp only [Assume.holds]
   exact ⟨by simp, by simp, fun _ => Modest.zero, by simp, by simp⟩⟩
theorem laid_met (os : Os) : laidMet Tryz.prog Rows.codeUnlikeUptoRow.laid (((World.laidAll Tryz.prog os Rows.codeUnlikeUptoRow.laid)).forCall (fun _ _ => 0) ⟨#[], #[.agg #[.int .i64 0, .int .i64 0, .int .i64 0, .int .u64 0], .agg #[.int .i64 0, .int .i64 0, .int .i64 0, .int .u64 0]], []⟩).memory := laidMet_laidAll _ (by kernel_rfl) (by kernel_rfl)
theorem reads (os : Os) {H : Type} (enc : TypeId × Value → H) : ∃ places, DataW.whole enc Tryz.prog ((World.laidAll Tryz.prog os Rows.codeUnlikeUptoRow.laid).forCall (fun _ _ => 0) ⟨#[], #[.agg #[.int .i64 0, .int .i64 0, .int .i64 0, .int .u64 0], .agg #[.int .i64 0, .int .i64 0, .int .i64 0, .int .u64 0]], []⟩).memory Tryz.f4.params.toList Rows.codeUnlikeSpec.vars false (#[.agg #[.int .i64 0, .int .i64 0, .int .i64 0, .int .u64 0], .agg #[.int .i64 0, .int .i64 0, .int .i64 0, .int .u64 0]] : Array Value).toList 8 = some ([.agg [.lit (.int .i64 0), .lit (.int .i64 0), .agg [.lit (.int .i64 0), .lit (.int .u64 0)]], .agg [.lit (.int .i64 0), .lit (.int .i64 0), .agg [.lit (.int .i64 0), .lit (.int .u64 0)]]], [], places) :=
 ⟨[], by kernel_rfl⟩
theorem lifted (os : Os) (started : os.Started) (H : Type) (enc : TypeId × Value → H) (F : Stop.Interp) :
  ReturnsInHanded {} Tryz.checked os 4 .any ((Rows.OpenSpec.upto Rows.codeUnlikeSpec).preRow enc Tryz.prog Tryz.f4 Rows.codeUnlikeUptoRow.domain false Rows.codeUnlikeUptoRow.laid) (((Rows.OpenSpec.upto Rows.codeUnlikeSpec).at F).post enc Tryz.prog Tryz.f4 false true false false) := by
 obtain ⟨places, hx⟩ := reads os enc
 refine returnsInHanded_of_row (C := Tryz.checked) (s := Rows.OpenSpec.upto Rows.codeUnlikeSpec) own started (by kernel_rfl) Tryz.func4
  (qCF (enc := enc) (C := Tryz.checked) false (World.laidAll Tryz.prog os Rows.codeUnlikeUptoRow.laid) #[.agg #[.int .i64 0, .int .i64 0, .int .i64 0, .int .u64 0], .agg #[.int .i64 0, .int .i64 0, .int .i64 0, .int .u64 0]] (World.laidAll_os _ _ _) (World.shaped_of_ZipB (by kernel_rfl) (by kernel_rfl)) (by kernel_rfl)
    (OpenSpec.preRow_of_cond (s := Rows.OpenSpec.upto Rows.codeUnlikeSpec) 8 hx (by kernel_rfl) (fun k hk => by cases hk; kernel_rfl) (by kernel_rfl) (laid_met os))) ?_
 intro W base args ds gs before hval hW _ hcond _ hL _ _
 exact contract H enc W base args ds gs before hval hW (hcond _ rfl) hL
theorem saidUpto : Rows.CodeUnlikeUptoSaid :=
 OpenClaim.holds_of_cond 4 Tryz.f4 rfl rfl rfl rfl rfl rfl rfl ⟨rfl, rfl, rfl, rfl, rfl⟩ rfl rfl rfl rfl rfl (by kernel_rfl) Tryz.func4 (by kernel_rfl)
  (of_decide_eq_true (by kernel_rfl)) (by unfold Func.isWrapper; first | (rw [if_pos (by decide +kernel)]; kernel_rfl) | (rw [if_neg (by decide +kernel)]; exact ⟨rfl, rfl⟩))
  (fun os started H enc _ F => by rw [OpenClaim.pre_eq_preRow]; exact lifted os started H enc F)
theorem plain (f : FuncId) (fn : Func) (hf : Tryz.pinned.checked.prog.funcNamed "foundry/foundrylaw14.CodeUnlike" = some f) (hfn : Tryz.pinned.checked.prog.funcs[f]? = some fn) :
  false = Tryz.pinned.checked.prog.looks [] ∧ ∀ (j : Nat) t, fn.params[j]? = some t → Tryz.pinned.checked.prog.wantsStandIn t = false := by
 obtain rfl : f = 4 := Option.some.inj ((show Tryz.prog.funcNamed "foundry/foundrylaw14.CodeUnlike" = some 4 by kernel_rfl).symm.trans hf) |>.symm
 obtain rfl : fn = Tryz.f4 := (Option.some.inj (Tryz.func4.symm.trans hfn)).symm
 refine ⟨by kernel_rfl, fun j t ht => ?_⟩
 rw [Tryz.params4] at ht
 have hm : t = 50 ∨ t = 50 := by simpa using Array.mem_of_getElem? ht
 rcases hm with rfl | rfl
 ·exact (show Tryz.prog.wantsStandIn 50 = false by kernel_rfl)
 ·exact (show Tryz.prog.wantsStandIn 50 = false by kernel_rfl)
theorem card : Rows.CodeUnlikeUptoCardSaid :=
 Claim7.holds_tied_plain_at .later [] _ _ _ _ saidUpto (fun _ h => by cases h) (by kernel_rfl) (fun _ h => by cases h) codeUnlikeUpto_row_tie rfl ⟨rfl, rfl⟩ (by kernel_rfl) rfl plain (by kernel_rfl)
end codeUnlike

theorem codeUnlike_card : Rows.CodeUnlikeUptoCardSaid := codeUnlike.card
end
end Go.Proofs.YtfddibbignedkaaGreatDoor
