/- ImageBack, where what it reads is of bulk at most 1048576: an image of any kind: what is packed is read again as it was and packed again as it was; what is not packed is not right, or too big. Part 6 of 6. -/
import Derived.Test.YtfjpnjbinbhcfaaJ5
import Derived.Test.YtfjpnjbinbhcfaaRows
import Derived.WalkKit
import Derived.ProofKit
import Derived.OpenShut
import Derived.JoinedCond
import Derived.Below
set_option maxHeartbeats 8000000
set_option maxRecDepth 100000
set_option linter.unusedVariables false
set_option linter.unusedSimpArgs false
namespace Go.Proofs.Ytfjpnjbinbhcfaa
section
namespace Q
open Go.RowKit YA YC YB
attribute [local go_sem] qAS min2_int qBa min_two max_three min_three max_four min_four
def qAm.l0 : Nat → Int → List Int → Int → List Int → List (S150) → List Int → Int → List Int → List (S115) → Option (List Int × Int × List Int × (List (S115)))
 | 0, _, _, _, _, _, _, _, _, _ => none
 | k + 1, x4, ba, bb, bc, ao, bP, bQ, bR, bG => if x4 < (ao.length : Int) then (if 0 ≤ x4 then (if bG.length < 4398046511104 then (qAm.l0 k (wrap64 (x4 + 1)) ba bb bc ao bP bQ bR (bG ++ [(⟨(qAP ao x4).f0, (qAP ao x4).f1, (⟨(qAP ao x4).f2.f0, (qAP ao x4).f2.f1⟩ : S69)⟩ : S115)])) else (none)) else (none)) else (some (bP, bQ, bR, bG))
def qAm.f (k : Nat) (l0_0 : List Int) (a0_1 : Int) (l0_2 : List Int) (l0_3 : List (S150)) : Option (List Int × Int × List Int × (List (S115))) := (some (([] : List Int) : List Int)).bind fun aj => (if aj.length + l0_0.length < 17592186044416 then ((some (([] : List Int) : List Int)).bind fun af => (if af.length + l0_2.length < 17592186044416 then (qAm.l0 k 0 l0_0 a0_1 l0_2 l0_3 (aj ++ l0_0) a0_1 (af ++ l0_2) ([] : List (S115))) else (none))) else (none))
def qAm.T1 : Bool × List (List Nat × List Nat) := (true, [([], []), ([], []), ([1], [1]), ([2], [2]), ([0, 3], [0, 3]), ([], []), ([5], [5]), ([6], [6]), ([4, 7], [4, 7]), ([], []), ([], []), ([10], [10]), ([9, 11, 4], [9, 11]), ([8, 12], [8, 12]), ([], []), ([14, 13, 12, 0, 1, 2, 3, 4, 5, 6, 7, 8, 9, 10, 11, 12, 13, 14], [13, 14])])
def qAm.B1 : List Nat := [0, 0, 2, 6, 15, 0, 32, 96, 255, 0, 0, 1024, 3615, 8191, 0, 32767]
theorem qAm.tab1 : rtab .any (opsOf Try.f37 1) = qAm.T1 := by kernel_rfl
theorem qAm.bits1 : qCl qAm.T1.2 qAm.B1 = true := by kernel_rfl
def qAm.T5 : Bool × List (List Nat × List Nat) := (true, [([], []), ([0], [0]), ([], []), ([2], [2]), ([], []), ([3, 4], [3, 4]), ([5], [5]), ([6], [6]), ([], []), ([8], [8]), ([], []), ([9, 10], [9, 10]), ([11], [11]), ([12], [12]), ([], []), ([14], [14]), ([], []), ([15, 16], [15, 16]), ([17], [17]), ([18], [18]), ([7, 13, 19], [7, 13, 19]), ([20], [20]), ([1, 21], [1, 21]), ([0, 1, 2, 3, 4, 5, 6, 7, 8, 9, 10, 11, 12, 13, 14, 15, 16, 17, 18, 19, 20, 21, 22], []), ([23, 22, 22, 0, 1, 2, 3, 4, 5, 6, 7, 8, 9, 10, 11, 12, 13, 14, 15, 16, 17, 18, 19, 20, 21, 22], [22, 23])])
def qAm.B5 : List Nat := [0, 1, 0, 4, 0, 28, 60, 124, 0, 256, 0, 1792, 3840, 7936, 0, 16384, 0, 114688, 245760, 507904, 1048572, 2097148, 4194303, 8388607, 16777215]
theorem qAm.tab5 : rtab .any (opsOf Try.f37 5) = qAm.T5 := by kernel_rfl
theorem qAm.bits5 : qCl qAm.T5.2 qAm.B5 = true := by kernel_rfl
theorem qAm.calls (k : Nat) (aQ : Option Addr) (aU : Nat) (l0_0 : List Int) (a0_1 : Int) (aT : Option Addr) (aV : Nat) (l0_2 : List Int) (aY : Option Addr) (aW : Nat) (l0_3 : List (S150)) (r1 : List Int) (r2 : Int) (r3 : List Int) (r4 : List (S115)) (w : World) (hr0_0 : Kd.C (Kd.int .i64) w aQ l0_0.length l0_0) (hc0_0 : l0_0.length ≤ aU) (hr0_2 : Kd.C (Kd.int .i64) w aT l0_2.length l0_2) (hc0_2 : l0_2.length ≤ aV) (hr0_3 : Kd.C k150 w aY l0_3.length l0_3) (hc0_3 : l0_3.length ≤ aW) (h : qAm.f k l0_0 a0_1 l0_2 l0_3 = some (r1, r2, r3, r4)) :
  Calls Try.prog 37 #[.agg #[.slice aQ l0_0.length aU, .int .i64 a0_1, .slice aT l0_2.length aV, .slice aY l0_3.length aW]] w fun e w' => ∃ v0_ v2_ v3_ : Value, e = .returned (.agg #[v0_, .int .i64 r2, v2_, v3_]) ∧ Kd.R (Kd.int .i64) 3 w' w.heap.size (fun k_ => some k_ ≠ (v2_ : Value).ownBlock) v0_ r1 ∧ Kd.R (Kd.int .i64) 3 w' w.heap.size (fun k_ => some k_ ≠ (v0_ : Value).ownBlock) v2_ r3 ∧ Kd.R k115 115 w' w.heap.size (fun _ => True) v3_ r4 ∧ Below w.heap.size w w' := by
 have bL := am hr0_0
 clear hr0_0 hc0_0
 have bg := am hr0_2
 clear hr0_2 hc0_2
 have bV := am hr0_3
 clear hr0_3 hc0_3
 have HB := am (Below.refl w.heap.size w)
 have H : ((some (([] : List Int) : List Int)).bind fun aj => (if aj.length + l0_0.length < 17592186044416 then ((some (([] : List Int) : List Int)).bind fun af => (if af.length + l0_2.length < 17592186044416 then (qAm.l0 k 0 l0_0 a0_1 l0_2 l0_3 (aj ++ l0_0) a0_1 (af ++ l0_2) ([] : List (S115))) else (none))) else (none))) = some (r1, r2, r3, r4) := h
 clear h
 obtain ⟨aj, bY⟩ : ∃ y_ : List Int, y_ = ([] : List Int) := ⟨_, rfl⟩
 replace H : (if aj.length + l0_0.length < 17592186044416 then ((some (([] : List Int) : List Int)).bind fun af => (if af.length + l0_2.length < 17592186044416 then (qAm.l0 k 0 l0_0 a0_1 l0_2 l0_3 (aj ++ l0_0) a0_1 (af ++ l0_2) ([] : List (S115))) else (none))) else (none)) = some (r1, r2, r3, r4) := by (have H2_ := (Option.bind_some _ _).symm.trans H; rw [bY]; with_reducible exact H2_)
 have bM := am bY
 clear bY
 by_cases c2 : aj.length + l0_0.length < 17592186044416
 ·rw [if_pos c2] at H
  have b6 := am c2
  clear c2
  obtain ⟨a5, bZ⟩ : ∃ y_ : List Int, y_ = (aj ++ l0_0) := ⟨_, rfl⟩
  replace H : ((some (([] : List Int) : List Int)).bind fun af => (if af.length + l0_2.length < 17592186044416 then (qAm.l0 k 0 l0_0 a0_1 l0_2 l0_3 a5 a0_1 (af ++ l0_2) ([] : List (S115))) else (none))) = some (r1, r2, r3, r4) := by (rw [bZ]; with_reducible exact H)
  have bN := am bZ
  clear bZ
  obtain ⟨af, b0⟩ : ∃ y_ : List Int, y_ = ([] : List Int) := ⟨_, rfl⟩
  replace H : (if af.length + l0_2.length < 17592186044416 then (qAm.l0 k 0 l0_0 a0_1 l0_2 l0_3 a5 a0_1 (af ++ l0_2) ([] : List (S115))) else (none)) = some (r1, r2, r3, r4) := by (have H2_ := (Option.bind_some _ _).symm.trans H; rw [b0]; with_reducible exact H2_)
  have bF := am b0
  clear b0
  by_cases c3 : af.length + l0_2.length < 17592186044416
  ·rw [if_pos c3] at H
   have cG := am c3
   clear c3
   obtain ⟨ag, b1⟩ : ∃ y_ : List Int, y_ = (af ++ l0_2) := ⟨_, rfl⟩
   replace H : (qAm.l0 k 0 l0_0 a0_1 l0_2 l0_3 a5 a0_1 ag ([] : List (S115))) = some (r1, r2, r3, r4) := by (rw [b1]; with_reducible exact H)
   have bh := am b1
   clear b1
   have H' := am H
   clear H
   go_enter Try.func37, Try.ntmps37
   try go_wp2_with (first | ((with_reducible refine qAC (N := 1) rfl ?_); refine bx 1 #[.slice aQ l0_0.length aU, .int .i64 a0_1, .slice aT l0_2.length aV, .slice aY l0_3.length aW] 98 ?_; intro aC hg w4 hbox hb; have n_ := a2 (qAk (by repeat (exact HB.o)) hb) (am (hbox)); clear HB; obtain ⟨HB, aA⟩ := n_; clear hb hbox hg) | ((with_reducible refine qAC (N := 2) rfl ?_); refine bx 2 #[.slice none 0 0, .int .i64 0, .slice none 0 0, .slice none 0 0] 77 ?_; intro aG hg w5 hbox hb; have n_ := a2 (qAe (g := aC) (o := .cells #[.slice aQ l0_0.length aU, .int .i64 a0_1, .slice aT l0_2.length aV, .slice aY l0_3.length aW] 98 (0, 0)) (by exact aA.o) hb) (a2 (qAk (by repeat (exact HB.o)) hb) (a2 (hbox) (am (by rw [hg]; exact (qAf (by repeat (exact HB.o))) : w.heap.size ≤ aG)))); clear aA HB; obtain ⟨aA, HB, aE, cE⟩ := n_; clear hb hbox hg))
   have n_ := a2 (qBg aA.o) (a2 (qBg aE.o) (am (qAL HB.o)))
   clear aA aE HB
   obtain ⟨aA, aE, HB⟩ := n_
   refine start_ (n := 16) (S := fun w' => w'.cell? ⟨aC, 0, none⟩ = some (.slice aQ l0_0.length aU) ∧ w'.cell? ⟨aC, 1, none⟩ = some (.int .i64 a0_1) ∧ w'.cell? ⟨aC, 2, none⟩ = some (.slice aT l0_2.length aV) ∧ w'.cell? ⟨aC, 3, none⟩ = some (.slice aY l0_3.length aW)) (ds := []) (mK 16 0) (by kernel_rfl) rfl rfl (c4_ _ aA.o) (fun hHeld => ?_); refine qCz qAm.tab1 qAm.bits1 (fun HT_ HW_ => ?_)
   generalize w5.drew = w6 at aA aE HB hHeld ⊢
   refine pu 1 6 (mK 16 2) (qAR HT_.o (by kernel_rfl)) ?_
   refine pu 2 7 (mK 16 6) (qAR HT_.o (by kernel_rfl)) ?_
   refine pu 5 10 (mK 16 38) (qAR HT_.o (by kernel_rfl)) ?_
   refine pu 6 11 (mK 16 102) (qAR HT_.o (by kernel_rfl)) ?_
   refine pu 10 15 (mK 16 1126) (qAR HT_.o (by kernel_rfl)) ?_
   refine tk 3 8 (mK 16 1134) (qBk HT_.o HW_.o (by kernel_rfl)) hHeld ?_
   refine tk 7 12 (mK 16 1262) (qBk HT_.o HW_.o (by kernel_rfl)) hHeld ?_
   refine tk 11 16 (mK 16 3310) (qBk HT_.o HW_.o (by kernel_rfl)) hHeld ?_
   refine qDl (σ := Value × Value × Value × Value × Nat) 1 (mK 16 32767) (fun s_ => [(5, s_.1), (9, s_.2.1), (14, s_.2.2.1), (17, s_.2.2.2.1), (3, .pointer (some ⟨s_.2.2.2.2, 0, none⟩)), (13, .agg #[s_.2.1, .int .i64 a0_1]), (18, .agg #[s_.2.1, .int .i64 a0_1, s_.2.2.2.1, .slice none 0 0])]) (fun s_ w' => (w'.cell? ⟨aC, 0, none⟩ = some (.slice aQ l0_0.length aU) ∧ w'.cell? ⟨aC, 1, none⟩ = some (.int .i64 a0_1) ∧ w'.cell? ⟨aC, 2, none⟩ = some (.slice aT l0_2.length aV) ∧ w'.cell? ⟨aC, 3, none⟩ = some (.slice aY l0_3.length aW)) ∧ (Kd.R (Kd.int .i64) 3 w' w.heap.size (fun k_ => some k_ ≠ (s_.2.2.2.1 : Value).ownBlock) s_.2.1 a5) ∧ (Kd.R (Kd.int .i64) 3 w' w.heap.size (fun k_ => some k_ ≠ (s_.2.1 : Value).ownBlock) s_.2.2.2.1 ag) ∧ (w'.heap[aC]? = some (.cells #[.slice aQ l0_0.length aU, .int .i64 a0_1, .slice aT l0_2.length aV, .slice aY l0_3.length aW] 98 (0, 0))) ∧ (w'.heap[aG]? = some (.cells #[.slice none 0 0, .int .i64 0, .slice none 0 0, .slice none 0 0] 77 (0, 0))) ∧ (w'.heap[s_.2.2.2.2]? = some (.cells #[.slice none 0 0, .int .i64 0, .slice none 0 0, .slice none 0 0] 77 (0, 0))) ∧ (w.heap.size ≤ s_.2.2.2.2) ∧ (w.heap.size ≤ s_.2.2.2.2) ∧ (aC ≠ s_.2.2.2.2) ∧ (s_.2.2.2.2 ≠ aC) ∧ (aG ≠ s_.2.2.2.2) ∧ (s_.2.2.2.2 ≠ aG) ∧ (Below w.heap.size w w')) ?_ ?_
   rotate_left
   ·intro hJ0_4_9_12_14
    refine qDl (σ := Value × Value × Value × Value) 2 (mK 16 16383) (fun s_ => [(5, s_.1), (9, s_.2.1), (14, s_.2.2.1), (17, s_.2.2.2), (13, .agg #[s_.2.1, .int .i64 a0_1]), (18, .agg #[s_.2.1, .int .i64 a0_1, s_.2.2.2, .slice none 0 0])]) (fun s_ w' => (w'.cell? ⟨aC, 0, none⟩ = some (.slice aQ l0_0.length aU) ∧ w'.cell? ⟨aC, 1, none⟩ = some (.int .i64 a0_1) ∧ w'.cell? ⟨aC, 2, none⟩ = some (.slice aT l0_2.length aV) ∧ w'.cell? ⟨aC, 3, none⟩ = some (.slice aY l0_3.length aW)) ∧ (Kd.R (Kd.int .i64) 3 w' w.heap.size (fun k_ => some k_ ≠ (s_.2.2.2 : Value).ownBlock) s_.2.1 a5) ∧ (Kd.R (Kd.int .i64) 3 w' w.heap.size (fun k_ => some k_ ≠ (s_.2.1 : Value).ownBlock) s_.2.2.2 ag) ∧ (w'.heap[aC]? = some (.cells #[.slice aQ l0_0.length aU, .int .i64 a0_1, .slice aT l0_2.length aV, .slice aY l0_3.length aW] 98 (0, 0))) ∧ (w'.heap[aG]? = some (.cells #[.slice none 0 0, .int .i64 0, .slice none 0 0, .slice none 0 0] 77 (0, 0))) ∧ (Below w.heap.size w w')) ?_ ?_
    rotate_left
    ·intro hJ0_4_9_12
     refine qDl (σ := Value × Value × Value × Nat) 3 (mK 16 20479) (fun s_ => [(5, s_.1), (9, s_.2.1), (14, s_.2.2.1), (3, .pointer (some ⟨s_.2.2.2, 0, none⟩)), (13, .agg #[s_.2.1, .int .i64 a0_1])]) (fun s_ w' => (w'.cell? ⟨aC, 0, none⟩ = some (.slice aQ l0_0.length aU) ∧ w'.cell? ⟨aC, 1, none⟩ = some (.int .i64 a0_1) ∧ w'.cell? ⟨aC, 2, none⟩ = some (.slice aT l0_2.length aV) ∧ w'.cell? ⟨aC, 3, none⟩ = some (.slice aY l0_3.length aW)) ∧ (Kd.R (Kd.int .i64) 3 w' w.heap.size (fun k_ => some k_ ≠ (s_.2.2.1 : Value).ownBlock) s_.2.1 a5) ∧ (Kd.R (Kd.int .i64) 3 w' w.heap.size (fun k_ => some k_ ≠ (s_.2.1 : Value).ownBlock) s_.2.2.1 af) ∧ (w'.heap[aC]? = some (.cells #[.slice aQ l0_0.length aU, .int .i64 a0_1, .slice aT l0_2.length aV, .slice aY l0_3.length aW] 98 (0, 0))) ∧ (w'.heap[aG]? = some (.cells #[.slice none 0 0, .int .i64 0, .slice none 0 0, .slice none 0 0] 77 (0, 0))) ∧ (w'.heap[s_.2.2.2]? = some (.cells #[.slice none 0 0, .int .i64 0, .slice none 0 0, .slice none 0 0] 77 (0, 0))) ∧ (w.heap.size ≤ s_.2.2.2) ∧ (w.heap.size ≤ s_.2.2.2) ∧ (aC ≠ s_.2.2.2) ∧ (s_.2.2.2 ≠ aC) ∧ (aG ≠ s_.2.2.2) ∧ (s_.2.2.2 ≠ aG) ∧ (Below w.heap.size w w')) ?_ ?_
     rotate_left
     ·intro hJ0_4_9_14
      refine qDl (σ := Value × Value × Value) 4 (mK 16 4095) (fun s_ => [(5, s_.1), (9, s_.2.1), (14, s_.2.2), (13, .agg #[s_.2.1, .int .i64 a0_1])]) (fun s_ w' => (w'.cell? ⟨aC, 0, none⟩ = some (.slice aQ l0_0.length aU) ∧ w'.cell? ⟨aC, 1, none⟩ = some (.int .i64 a0_1) ∧ w'.cell? ⟨aC, 2, none⟩ = some (.slice aT l0_2.length aV) ∧ w'.cell? ⟨aC, 3, none⟩ = some (.slice aY l0_3.length aW)) ∧ (Kd.R (Kd.int .i64) 3 w' w.heap.size (fun k_ => some k_ ≠ (s_.2.2 : Value).ownBlock) s_.2.1 a5) ∧ (Kd.R (Kd.int .i64) 3 w' w.heap.size (fun k_ => some k_ ≠ (s_.2.1 : Value).ownBlock) s_.2.2 af) ∧ (w'.heap[aC]? = some (.cells #[.slice aQ l0_0.length aU, .int .i64 a0_1, .slice aT l0_2.length aV, .slice aY l0_3.length aW] 98 (0, 0))) ∧ (w'.heap[aG]? = some (.cells #[.slice none 0 0, .int .i64 0, .slice none 0 0, .slice none 0 0] 77 (0, 0))) ∧ (Below w.heap.size w w')) ?_ ?_
      rotate_left
      ·intro hJ0_4_9
       refine qDl (σ := Value × Value × Nat) 4 (mK 16 19967) (fun s_ => [(5, s_.1), (9, s_.2.1), (3, .pointer (some ⟨s_.2.2, 0, none⟩)), (13, .agg #[s_.2.1, .int .i64 a0_1])]) (fun s_ w' => (w'.cell? ⟨aC, 0, none⟩ = some (.slice aQ l0_0.length aU) ∧ w'.cell? ⟨aC, 1, none⟩ = some (.int .i64 a0_1) ∧ w'.cell? ⟨aC, 2, none⟩ = some (.slice aT l0_2.length aV) ∧ w'.cell? ⟨aC, 3, none⟩ = some (.slice aY l0_3.length aW)) ∧ (Kd.R (Kd.int .i64) 3 w' w.heap.size (fun _ => True) s_.2.1 a5) ∧ (w'.heap[aC]? = some (.cells #[.slice aQ l0_0.length aU, .int .i64 a0_1, .slice aT l0_2.length aV, .slice aY l0_3.length aW] 98 (0, 0))) ∧ (w'.heap[aG]? = some (.cells #[.slice none 0 0, .int .i64 0, .slice none 0 0, .slice none 0 0] 77 (0, 0))) ∧ (w'.heap[s_.2.2]? = some (.cells #[.slice none 0 0, .int .i64 0, .slice none 0 0, .slice none 0 0] 77 (0, 0))) ∧ (w.heap.size ≤ s_.2.2) ∧ (w.heap.size ≤ s_.2.2) ∧ (aC ≠ s_.2.2) ∧ (s_.2.2 ≠ aC) ∧ (aG ≠ s_.2.2) ∧ (s_.2.2 ≠ aG) ∧ (Below w.heap.size w w')) ?_ ?_
       rotate_left
       ·intro hJ0_4_14
        refine qDl (σ := Value × Value × Nat) 5 (mK 16 20207) (fun s_ => [(5, s_.1), (14, s_.2.1), (3, .pointer (some ⟨s_.2.2, 0, none⟩))]) (fun s_ w' => (w'.cell? ⟨aC, 0, none⟩ = some (.slice aQ l0_0.length aU) ∧ w'.cell? ⟨aC, 1, none⟩ = some (.int .i64 a0_1) ∧ w'.cell? ⟨aC, 2, none⟩ = some (.slice aT l0_2.length aV) ∧ w'.cell? ⟨aC, 3, none⟩ = some (.slice aY l0_3.length aW)) ∧ (Kd.R (Kd.int .i64) 3 w' w.heap.size (fun k_ => some k_ ≠ (s_.2.1 : Value).ownBlock) s_.1 aj) ∧ (Kd.R (Kd.int .i64) 3 w' w.heap.size (fun k_ => some k_ ≠ (s_.1 : Value).ownBlock) s_.2.1 af) ∧ (w'.heap[aC]? = some (.cells #[.slice aQ l0_0.length aU, .int .i64 a0_1, .slice aT l0_2.length aV, .slice aY l0_3.length aW] 98 (0, 0))) ∧ (w'.heap[aG]? = some (.cells #[.slice none 0 0, .int .i64 0, .slice none 0 0, .slice none 0 0] 77 (0, 0))) ∧ (w'.heap[s_.2.2]? = some (.cells #[.slice none 0 0, .int .i64 0, .slice none 0 0, .slice none 0 0] 77 (0, 0))) ∧ (w.heap.size ≤ s_.2.2) ∧ (w.heap.size ≤ s_.2.2) ∧ (aC ≠ s_.2.2) ∧ (s_.2.2 ≠ aC) ∧ (aG ≠ s_.2.2) ∧ (s_.2.2 ≠ aG) ∧ (Below w.heap.size w w')) ?_ ?_
        rotate_left
        ·intro hJ0_9_14
         refine qDl (σ := Value × Value) 5 (mK 16 3583) (fun s_ => [(5, s_.1), (9, s_.2), (13, .agg #[s_.2, .int .i64 a0_1])]) (fun s_ w' => (w'.cell? ⟨aC, 0, none⟩ = some (.slice aQ l0_0.length aU) ∧ w'.cell? ⟨aC, 1, none⟩ = some (.int .i64 a0_1) ∧ w'.cell? ⟨aC, 2, none⟩ = some (.slice aT l0_2.length aV) ∧ w'.cell? ⟨aC, 3, none⟩ = some (.slice aY l0_3.length aW)) ∧ (Kd.R (Kd.int .i64) 3 w' w.heap.size (fun _ => True) s_.2 a5) ∧ (w'.heap[aC]? = some (.cells #[.slice aQ l0_0.length aU, .int .i64 a0_1, .slice aT l0_2.length aV, .slice aY l0_3.length aW] 98 (0, 0))) ∧ (w'.heap[aG]? = some (.cells #[.slice none 0 0, .int .i64 0, .slice none 0 0, .slice none 0 0] 77 (0, 0))) ∧ (Below w.heap.size w w')) ?_ ?_
         rotate_left
         ·intro hJ0_4
          refine qDl (σ := Value × Value) 6 (mK 16 3823) (fun s_ => [(5, s_.1), (14, s_.2)]) (fun s_ w' => (w'.cell? ⟨aC, 0, none⟩ = some (.slice aQ l0_0.length aU) ∧ w'.cell? ⟨aC, 1, none⟩ = some (.int .i64 a0_1) ∧ w'.cell? ⟨aC, 2, none⟩ = some (.slice aT l0_2.length aV) ∧ w'.cell? ⟨aC, 3, none⟩ = some (.slice aY l0_3.length aW)) ∧ (Kd.R (Kd.int .i64) 3 w' w.heap.size (fun k_ => some k_ ≠ (s_.2 : Value).ownBlock) s_.1 aj) ∧ (Kd.R (Kd.int .i64) 3 w' w.heap.size (fun k_ => some k_ ≠ (s_.1 : Value).ownBlock) s_.2 af) ∧ (w'.heap[aC]? = some (.cells #[.slice aQ l0_0.length aU, .int .i64 a0_1, .slice aT l0_2.length aV, .slice aY l0_3.length aW] 98 (0, 0))) ∧ (w'.heap[aG]? = some (.cells #[.slice none 0 0, .int .i64 0, .slice none 0 0, .slice none 0 0] 77 (0, 0))) ∧ (Below w.heap.size w w')) ?_ ?_
          rotate_left
          ·intro hJ0_9
           refine qDl (σ := Value × Nat) 6 (mK 16 19695) (fun s_ => [(5, s_.1), (3, .pointer (some ⟨s_.2, 0, none⟩))]) (fun s_ w' => (w'.cell? ⟨aC, 0, none⟩ = some (.slice aQ l0_0.length aU) ∧ w'.cell? ⟨aC, 1, none⟩ = some (.int .i64 a0_1) ∧ w'.cell? ⟨aC, 2, none⟩ = some (.slice aT l0_2.length aV) ∧ w'.cell? ⟨aC, 3, none⟩ = some (.slice aY l0_3.length aW)) ∧ (Kd.R (Kd.int .i64) 3 w' w.heap.size (fun _ => True) s_.1 aj) ∧ (w'.heap[aC]? = some (.cells #[.slice aQ l0_0.length aU, .int .i64 a0_1, .slice aT l0_2.length aV, .slice aY l0_3.length aW] 98 (0, 0))) ∧ (w'.heap[aG]? = some (.cells #[.slice none 0 0, .int .i64 0, .slice none 0 0, .slice none 0 0] 77 (0, 0))) ∧ (w'.heap[s_.2]? = some (.cells #[.slice none 0 0, .int .i64 0, .slice none 0 0, .slice none 0 0] 77 (0, 0))) ∧ (w.heap.size ≤ s_.2) ∧ (w.heap.size ≤ s_.2) ∧ (aC ≠ s_.2) ∧ (s_.2 ≠ aC) ∧ (aG ≠ s_.2) ∧ (s_.2 ≠ aG) ∧ (Below w.heap.size w w')) ?_ ?_
           rotate_left
           ·intro hJ0_14
            refine qDl (σ := Value × Nat) 6 (mK 16 20206) (fun s_ => [(14, s_.1), (3, .pointer (some ⟨s_.2, 0, none⟩))]) (fun s_ w' => (w'.cell? ⟨aC, 0, none⟩ = some (.slice aQ l0_0.length aU) ∧ w'.cell? ⟨aC, 1, none⟩ = some (.int .i64 a0_1) ∧ w'.cell? ⟨aC, 2, none⟩ = some (.slice aT l0_2.length aV) ∧ w'.cell? ⟨aC, 3, none⟩ = some (.slice aY l0_3.length aW)) ∧ (Kd.R (Kd.int .i64) 3 w' w.heap.size (fun _ => True) s_.1 af) ∧ (w'.heap[aC]? = some (.cells #[.slice aQ l0_0.length aU, .int .i64 a0_1, .slice aT l0_2.length aV, .slice aY l0_3.length aW] 98 (0, 0))) ∧ (w'.heap[aG]? = some (.cells #[.slice none 0 0, .int .i64 0, .slice none 0 0, .slice none 0 0] 77 (0, 0))) ∧ (w'.heap[s_.2]? = some (.cells #[.slice none 0 0, .int .i64 0, .slice none 0 0, .slice none 0 0] 77 (0, 0))) ∧ (w.heap.size ≤ s_.2) ∧ (w.heap.size ≤ s_.2) ∧ (aC ≠ s_.2) ∧ (s_.2 ≠ aC) ∧ (aG ≠ s_.2) ∧ (s_.2 ≠ aG) ∧ (Below w.heap.size w w')) ?_ ?_
            rotate_left
            ·intro hJ9_14
             refine qDl (σ := Value) 7 (mK 16 3311) (fun s_ => [(5, s_)]) (fun s_ w' => (w'.cell? ⟨aC, 0, none⟩ = some (.slice aQ l0_0.length aU) ∧ w'.cell? ⟨aC, 1, none⟩ = some (.int .i64 a0_1) ∧ w'.cell? ⟨aC, 2, none⟩ = some (.slice aT l0_2.length aV) ∧ w'.cell? ⟨aC, 3, none⟩ = some (.slice aY l0_3.length aW)) ∧ (Kd.R (Kd.int .i64) 3 w' w.heap.size (fun _ => True) s_ aj) ∧ (w'.heap[aC]? = some (.cells #[.slice aQ l0_0.length aU, .int .i64 a0_1, .slice aT l0_2.length aV, .slice aY l0_3.length aW] 98 (0, 0))) ∧ (w'.heap[aG]? = some (.cells #[.slice none 0 0, .int .i64 0, .slice none 0 0, .slice none 0 0] 77 (0, 0))) ∧ (Below w.heap.size w w')) ?_ ?_
             rotate_left
             ·intro hJ0
              refine qDl (σ := Value) 7 (mK 16 3822) (fun s_ => [(14, s_)]) (fun s_ w' => (w'.cell? ⟨aC, 0, none⟩ = some (.slice aQ l0_0.length aU) ∧ w'.cell? ⟨aC, 1, none⟩ = some (.int .i64 a0_1) ∧ w'.cell? ⟨aC, 2, none⟩ = some (.slice aT l0_2.length aV) ∧ w'.cell? ⟨aC, 3, none⟩ = some (.slice aY l0_3.length aW)) ∧ (Kd.R (Kd.int .i64) 3 w' w.heap.size (fun _ => True) s_ af) ∧ (w'.heap[aC]? = some (.cells #[.slice aQ l0_0.length aU, .int .i64 a0_1, .slice aT l0_2.length aV, .slice aY l0_3.length aW] 98 (0, 0))) ∧ (w'.heap[aG]? = some (.cells #[.slice none 0 0, .int .i64 0, .slice none 0 0, .slice none 0 0] 77 (0, 0))) ∧ (Below w.heap.size w w')) ?_ ?_
              rotate_left
              ·intro hJ9
               refine qDl (σ := Nat) 7 (mK 16 19694) (fun s_ => [(3, .pointer (some ⟨s_, 0, none⟩))]) (fun s_ w' => (w'.cell? ⟨aC, 0, none⟩ = some (.slice aQ l0_0.length aU) ∧ w'.cell? ⟨aC, 1, none⟩ = some (.int .i64 a0_1) ∧ w'.cell? ⟨aC, 2, none⟩ = some (.slice aT l0_2.length aV) ∧ w'.cell? ⟨aC, 3, none⟩ = some (.slice aY l0_3.length aW)) ∧ (w'.heap[aC]? = some (.cells #[.slice aQ l0_0.length aU, .int .i64 a0_1, .slice aT l0_2.length aV, .slice aY l0_3.length aW] 98 (0, 0))) ∧ (w'.heap[aG]? = some (.cells #[.slice none 0 0, .int .i64 0, .slice none 0 0, .slice none 0 0] 77 (0, 0))) ∧ (w'.heap[s_]? = some (.cells #[.slice none 0 0, .int .i64 0, .slice none 0 0, .slice none 0 0] 77 (0, 0))) ∧ (w.heap.size ≤ s_) ∧ (w.heap.size ≤ s_) ∧ (aC ≠ s_) ∧ (s_ ≠ aC) ∧ (aG ≠ s_) ∧ (s_ ≠ aG) ∧ (Below w.heap.size w w')) ?_ ?_
               rotate_left
               ·intro hJ14
                refine three_ (i := 0) (j := 9) (k := 14) (Ni := some 5) (Nj := some 14) (Nk := some 3) (mK 16 3311) (mK 16 3822) (mK 16 19694) rfl rfl rfl rfl rfl rfl (three_of HT_.o (by kernel_rfl)) (by decide) (by decide) (by decide) (fun K hK => ?_) (fun K hK => ?_) (fun K hK => ?_)
                ·skip
                 refine Kd.R_lit_step (Kd.int .i64) _ 3 ?hg (N := 5) ?hd (xs := ([] : List Int)) (inner := []) (ok := fun _ => True) (okp := fun _ => True) ?hr ?hp (fun _ hk => hk) trivial (Below.refl _ _) (Nat.le_refl _) (by simp) ?_; (case hd => rfl); (case hg => rfl); (case hr => (go_simp; done)); (case hp => exact (Reps.none _ _))
                 intro a9 w7 bu hb hg_ hnew_
                 clear hg_ hnew_
                 (rw [← bM.o] at bu)
                 have n_ := a2 (Kd.R_lower bu (qAf (by repeat (exact HB.o)))) (a2 (qAe (g := aC) (o := .cells #[.slice aQ l0_0.length aU, .int .i64 a0_1, .slice aT l0_2.length aV, .slice aY l0_3.length aW] 98 (0, 0)) (by exact aA.o) hb) (a2 (qAe (g := aG) (o := .cells #[.slice none 0 0, .int .i64 0, .slice none 0 0, .slice none 0 0] 77 (0, 0)) (by exact aE.o) hb) (am (qAk (by repeat (exact HB.o)) hb))))
                 clear aA aE HB
                 obtain ⟨aZ, aA, aE, HB⟩ := n_
                 clear hb bu
                 refine hK.o _ _ (c4_ _ aA.o) (fun hHeld => ?_)
                 clear hK K
                 refine nm ?_
                 exact nq (hJ0 (a9) _ ⟨hHeld, (by exact aZ.o), (by exact aA.o), (by exact aE.o), (by repeat (exact HB.o))⟩)
                ·skip
                 refine Kd.R_lit_step (Kd.int .i64) _ 3 ?hg (N := 14) ?hd (xs := ([] : List Int)) (inner := []) (ok := fun _ => True) (okp := fun _ => True) ?hr ?hp (fun _ hk => hk) trivial (Below.refl _ _) (Nat.le_refl _) (by simp) ?_; (case hd => rfl); (case hg => rfl); (case hr => (go_simp; done)); (case hp => exact (Reps.none _ _))
                 intro a8 w7 bu hb hg_ hnew_
                 clear hg_ hnew_
                 (rw [← bF.o] at bu)
                 have n_ := a2 (Kd.R_lower bu (qAf (by repeat (exact HB.o)))) (a2 (qAe (g := aC) (o := .cells #[.slice aQ l0_0.length aU, .int .i64 a0_1, .slice aT l0_2.length aV, .slice aY l0_3.length aW] 98 (0, 0)) (by exact aA.o) hb) (a2 (qAe (g := aG) (o := .cells #[.slice none 0 0, .int .i64 0, .slice none 0 0, .slice none 0 0] 77 (0, 0)) (by exact aE.o) hb) (am (qAk (by repeat (exact HB.o)) hb))))
                 clear aA aE HB
                 obtain ⟨aN, aA, aE, HB⟩ := n_
                 clear hb bu
                 refine hK.o _ _ (c4_ _ aA.o) (fun hHeld => ?_)
                 clear hK K
                 refine nm ?_
                 exact nq (hJ9 (a8) _ ⟨hHeld, (by exact aN.o), (by exact aA.o), (by exact aE.o), (by repeat (exact HB.o))⟩)
                ·skip
                 refine qBN ?hg (N := 3) ?hd (cs := #[.slice none 0 0, .int .i64 0, .slice none 0 0, .slice none 0 0]) (t := 77) ?hr ?_; (case hd => rfl); (case hg => rfl); (case hr => (go_simp; done))
                 intro aD hg w7 hbox hb
                 have n_ := a2 (qAe (g := aC) (o := .cells #[.slice aQ l0_0.length aU, .int .i64 a0_1, .slice aT l0_2.length aV, .slice aY l0_3.length aW] 98 (0, 0)) (by exact aA.o) hb) (a2 (qAe (g := aG) (o := .cells #[.slice none 0 0, .int .i64 0, .slice none 0 0, .slice none 0 0] 77 (0, 0)) (by exact aE.o) hb) (a2 (qAk (by repeat (exact HB.o)) hb) (a2 (hbox) (a2 (by rw [hg]; exact (qAf (by repeat (exact HB.o))) : w.heap.size ≤ aD) (a2 (by rw [hg]; exact (qAf (by repeat (exact HB.o))) : w.heap.size ≤ aD) (a2 (by rw [hg]; exact Nat.ne_of_lt (qAt (g := aC) (o := .cells #[.slice aQ l0_0.length aU, .int .i64 a0_1, .slice aT l0_2.length aV, .slice aY l0_3.length aW] 98 (0, 0)) (by exact aA.o)) : aC ≠ aD) (a2 (by rw [hg]; exact Nat.ne_of_gt (qAt (g := aC) (o := .cells #[.slice aQ l0_0.length aU, .int .i64 a0_1, .slice aT l0_2.length aV, .slice aY l0_3.length aW] 98 (0, 0)) (by exact aA.o)) : aD ≠ aC) (a2 (by rw [hg]; exact Nat.ne_of_lt (qAt (g := aG) (o := .cells #[.slice none 0 0, .int .i64 0, .slice none 0 0, .slice none 0 0] 77 (0, 0)) (by exact aE.o)) : aG ≠ aD) (am (by rw [hg]; exact Nat.ne_of_gt (qAt (g := aG) (o := .cells #[.slice none 0 0, .int .i64 0, .slice none 0 0, .slice none 0 0] 77 (0, 0)) (by exact aE.o)) : aD ≠ aG))))))))))
                 clear aA aE HB
                 obtain ⟨aA, aE, HB, aI, aa, a7, aH, aK, aJ, aM⟩ := n_
                 clear hb hbox hg
                 refine hK.o _ _ (c4_ _ aA.o) (fun hHeld => ?_)
                 clear hK K
                 refine nm ?_
                 exact nq (hJ14 (aD) _ ⟨hHeld, (by exact aA.o), (by exact aE.o), (by exact aI.o), aa.o, a7.o, aH.o, aK.o, aJ.o, aM.o, (by repeat (exact HB.o))⟩)
               ·skip
                rintro aD w8 ⟨hS_, h0_, h1_, h2_, h3_, h4_, h5_, h6_, h7_, h8_, h9_⟩
                have n0_ : qAb (w8.heap[aC]? = some (.cells #[.slice aQ l0_0.length aU, .int .i64 a0_1, .slice aT l0_2.length aV, .slice aY l0_3.length aW] 98 (0, 0))) := ⟨h0_⟩
                have n1_ : qAb (w8.heap[aG]? = some (.cells #[.slice none 0 0, .int .i64 0, .slice none 0 0, .slice none 0 0] 77 (0, 0))) := ⟨h1_⟩
                have n2_ : qAb (w8.heap[aD]? = some (.cells #[.slice none 0 0, .int .i64 0, .slice none 0 0, .slice none 0 0] 77 (0, 0))) := ⟨h2_⟩
                have n3_ : qAb (w.heap.size ≤ aD) := ⟨h3_⟩
                have n4_ : qAb (w.heap.size ≤ aD) := ⟨h4_⟩
                have n5_ : qAb (aC ≠ aD) := ⟨h5_⟩
                have n6_ : qAb (aD ≠ aC) := ⟨h6_⟩
                have n7_ : qAb (aG ≠ aD) := ⟨h7_⟩
                have n8_ : qAb (aD ≠ aG) := ⟨h8_⟩
                have n9_ : qAb (Below w.heap.size w w8) := ⟨h9_⟩
                clear aA aE HB h0_ h1_ h2_ h3_ h4_ h5_ h6_ h7_ h8_ h9_
                have aA := n0_
                have aE := n1_
                have aI := n2_
                have aa := n3_
                have a7 := n4_
                have aH := n5_
                have aK := n6_
                have aJ := n7_
                have aM := n8_
                have HB := n9_
                clear n0_ n1_ n2_ n3_ n4_ n5_ n6_ n7_ n8_ n9_
                refine qC1 (a' := ?_) ?_ ?_
                rotate_left
                ·simp only [qBA, Act.put, List.setIfInBounds_toArray, List.set_cons_zero, List.set_cons_succ]
                 rfl
                refine two_ (i := 0) (j := 9) (Ni := some 5) (Nj := some 14) (mK 16 19695) (mK 16 20206) rfl rfl rfl rfl (qDI HT_.o (by kernel_rfl)) (by decide) (by decide) (fun K hK => ?_) (fun K hK => ?_)
                ·skip
                 refine Kd.R_lit_step (Kd.int .i64) _ 3 ?hg (N := 5) ?hd (xs := ([] : List Int)) (inner := []) (ok := fun _ => True) (okp := fun _ => True) ?hr ?hp (fun _ hk => hk) trivial (Below.refl _ _) (Nat.le_refl _) (by simp) ?_; (case hd => rfl); (case hg => rfl); (case hr => (go_simp; done)); (case hp => exact (Reps.none _ _))
                 intro a9 w9 ho10 hb hg_ hnew_
                 clear hg_ hnew_
                 (rw [← bM.o] at ho10)
                 have n_ := a2 (Kd.R_lower ho10 (qAf (by repeat (exact HB.o)))) (a2 (qAe (g := aC) (o := .cells #[.slice aQ l0_0.length aU, .int .i64 a0_1, .slice aT l0_2.length aV, .slice aY l0_3.length aW] 98 (0, 0)) (by exact aA.o) hb) (a2 (qAe (g := aG) (o := .cells #[.slice none 0 0, .int .i64 0, .slice none 0 0, .slice none 0 0] 77 (0, 0)) (by exact aE.o) hb) (a2 (qAe (g := aD) (o := .cells #[.slice none 0 0, .int .i64 0, .slice none 0 0, .slice none 0 0] 77 (0, 0)) (by exact aI.o) hb) (am (qAk (by repeat (exact HB.o)) hb)))))
                 clear aA aE aI HB
                 obtain ⟨aZ, aA, aE, aI, HB⟩ := n_
                 clear hb ho10
                 refine hK.o _ _ (c4_ _ aA.o) (fun hHeld => ?_)
                 clear hK K
                 refine nm ?_
                 exact nq (hJ0_14 (a9, aD) _ ⟨hHeld, (by exact aZ.o), (by exact aA.o), (by exact aE.o), (by exact aI.o), aa.o, a7.o, aH.o, aK.o, aJ.o, aM.o, (by repeat (exact HB.o))⟩)
                ·skip
                 refine Kd.R_lit_step (Kd.int .i64) _ 3 ?hg (N := 14) ?hd (xs := ([] : List Int)) (inner := []) (ok := fun _ => True) (okp := fun _ => True) ?hr ?hp (fun _ hk => hk) trivial (Below.refl _ _) (Nat.le_refl _) (by simp) ?_; (case hd => rfl); (case hg => rfl); (case hr => (go_simp; done)); (case hp => exact (Reps.none _ _))
                 intro a8 w9 ho10 hb hg_ hnew_
                 clear hg_ hnew_
                 (rw [← bF.o] at ho10)
                 have n_ := a2 (Kd.R_lower ho10 (qAf (by repeat (exact HB.o)))) (a2 (qAe (g := aC) (o := .cells #[.slice aQ l0_0.length aU, .int .i64 a0_1, .slice aT l0_2.length aV, .slice aY l0_3.length aW] 98 (0, 0)) (by exact aA.o) hb) (a2 (qAe (g := aG) (o := .cells #[.slice none 0 0, .int .i64 0, .slice none 0 0, .slice none 0 0] 77 (0, 0)) (by exact aE.o) hb) (a2 (qAe (g := aD) (o := .cells #[.slice none 0 0, .int .i64 0, .slice none 0 0, .slice none 0 0] 77 (0, 0)) (by exact aI.o) hb) (am (qAk (by repeat (exact HB.o)) hb)))))
                 clear aA aE aI HB
                 obtain ⟨aN, aA, aE, aI, HB⟩ := n_
                 clear hb ho10
                 refine hK.o _ _ (c4_ _ aA.o) (fun hHeld => ?_)
                 clear hK K
                 refine nm ?_
                 exact nq (hJ9_14 (a8, aD) _ ⟨hHeld, (by exact aN.o), (by exact aA.o), (by exact aE.o), (by exact aI.o), aa.o, a7.o, aH.o, aK.o, aJ.o, aM.o, (by repeat (exact HB.o))⟩)
              ·skip
               rintro a8 w9 ⟨hS_, h0_, h1_, h2_, h3_⟩
               have n0_ : qAb (Kd.R (Kd.int .i64) 3 w9 w.heap.size (fun _ => True) a8 af) := ⟨h0_⟩
               have n1_ : qAb (w9.heap[aC]? = some (.cells #[.slice aQ l0_0.length aU, .int .i64 a0_1, .slice aT l0_2.length aV, .slice aY l0_3.length aW] 98 (0, 0))) := ⟨h1_⟩
               have n2_ : qAb (w9.heap[aG]? = some (.cells #[.slice none 0 0, .int .i64 0, .slice none 0 0, .slice none 0 0] 77 (0, 0))) := ⟨h2_⟩
               have n3_ : qAb (Below w.heap.size w w9) := ⟨h3_⟩
               clear aA aE HB h0_ h1_ h2_ h3_
               have aN := n0_
               have aA := n1_
               have aE := n2_
               have HB := n3_
               clear n0_ n1_ n2_ n3_
               refine qC1 (a' := ?_) ?_ ?_
               rotate_left
               ·simp only [qBA, Act.put, List.setIfInBounds_toArray, List.set_cons_zero, List.set_cons_succ]
                rfl
               refine two_ (i := 0) (j := 14) (Ni := some 5) (Nj := some 3) (mK 16 3823) (mK 16 20206) rfl rfl rfl rfl (qDI HT_.o (by kernel_rfl)) (by decide) (by decide) (fun K hK => ?_) (fun K hK => ?_)
               ·skip
                refine Kd.R_lit_step (Kd.int .i64) _ 3 ?hg (N := 5) ?hd (xs := ([] : List Int)) (inner := []) (ok := fun _ => True) (okp := fun _ => True) ?hr ?hp (fun _ hk => hk) trivial (Below.refl _ _) (Nat.le_refl _) (by simp) ?_; (case hd => rfl); (case hg => rfl); (case hr => (go_simp; done)); (case hp => exact (Reps.none _ _))
                intro a9 bI ho11 hb hg_ hnew_
                clear hg_ hnew_
                (rw [← bM.o] at ho11)
                have n_ := a2 (Kd.R_elder' (by exact aN.o) (Kd.R_base ho11) hb) (a2 (Kd.R_lower (Kd.R_new' ho11 (Kd.R_lt (by exact aN.o))) (qAf (by repeat (exact HB.o)))) (a2 (qAe (g := aC) (o := .cells #[.slice aQ l0_0.length aU, .int .i64 a0_1, .slice aT l0_2.length aV, .slice aY l0_3.length aW] 98 (0, 0)) (by exact aA.o) hb) (a2 (qAe (g := aG) (o := .cells #[.slice none 0 0, .int .i64 0, .slice none 0 0, .slice none 0 0] 77 (0, 0)) (by exact aE.o) hb) (am (qAk (by repeat (exact HB.o)) hb)))))
                clear aN aA aE HB
                obtain ⟨aN, aZ, aA, aE, HB⟩ := n_
                clear hb ho11
                refine hK.o _ _ (c4_ _ aA.o) (fun hHeld => ?_)
                clear hK K
                refine nm ?_
                exact nq (hJ0_9 (a9, a8) _ ⟨hHeld, (by exact Kd.R_mono aZ.o (fun _ hk => hk.2)), (by exact Kd.R_mono aN.o (fun _ hk => hk.2)), (by exact aA.o), (by exact aE.o), (by repeat (exact HB.o))⟩)
               ·skip
                refine qBN ?hg (N := 3) ?hd (cs := #[.slice none 0 0, .int .i64 0, .slice none 0 0, .slice none 0 0]) (t := 77) ?hr ?_; (case hd => rfl); (case hg => rfl); (case hr => (go_simp; done))
                intro aD hg bI hbox hb
                have n_ := a2 (Kd.R_below (by exact aN.o) hb) (a2 (qAe (g := aC) (o := .cells #[.slice aQ l0_0.length aU, .int .i64 a0_1, .slice aT l0_2.length aV, .slice aY l0_3.length aW] 98 (0, 0)) (by exact aA.o) hb) (a2 (qAe (g := aG) (o := .cells #[.slice none 0 0, .int .i64 0, .slice none 0 0, .slice none 0 0] 77 (0, 0)) (by exact aE.o) hb) (a2 (qAk (by repeat (exact HB.o)) hb) (a2 (hbox) (a2 (by rw [hg]; exact (qAf (by repeat (exact HB.o))) : w.heap.size ≤ aD) (a2 (by rw [hg]; exact (qAf (by repeat (exact HB.o))) : w.heap.size ≤ aD) (a2 (by rw [hg]; exact Nat.ne_of_lt (qAt (g := aC) (o := .cells #[.slice aQ l0_0.length aU, .int .i64 a0_1, .slice aT l0_2.length aV, .slice aY l0_3.length aW] 98 (0, 0)) (by exact aA.o)) : aC ≠ aD) (a2 (by rw [hg]; exact Nat.ne_of_gt (qAt (g := aC) (o := .cells #[.slice aQ l0_0.length aU, .int .i64 a0_1, .slice aT l0_2.length aV, .slice aY l0_3.length aW] 98 (0, 0)) (by exact aA.o)) : aD ≠ aC) (a2 (by rw [hg]; exact Nat.ne_of_lt (qAt (g := aG) (o := .cells #[.slice none 0 0, .int .i64 0, .slice none 0 0, .slice none 0 0] 77 (0, 0)) (by exact aE.o)) : aG ≠ aD) (am (by rw [hg]; exact Nat.ne_of_gt (qAt (g := aG) (o := .cells #[.slice none 0 0, .int .i64 0, .slice none 0 0, .slice none 0 0] 77 (0, 0)) (by exact aE.o)) : aD ≠ aG)))))))))))
                clear aN aA aE HB
                obtain ⟨aN, aA, aE, HB, aI, aa, a7, aH, aK, aJ, aM⟩ := n_
                clear hb hbox hg
                refine hK.o _ _ (c4_ _ aA.o) (fun hHeld => ?_)
                clear hK K
                refine nm ?_
                exact nq (hJ9_14 (a8, aD) _ ⟨hHeld, (by exact aN.o), (by exact aA.o), (by exact aE.o), (by exact aI.o), aa.o, a7.o, aH.o, aK.o, aJ.o, aM.o, (by repeat (exact HB.o))⟩)
             ·skip
              rintro a9 w9 ⟨hS_, h0_, h1_, h2_, h3_⟩
              have n0_ : qAb (Kd.R (Kd.int .i64) 3 w9 w.heap.size (fun _ => True) a9 aj) := ⟨h0_⟩
              have n1_ : qAb (w9.heap[aC]? = some (.cells #[.slice aQ l0_0.length aU, .int .i64 a0_1, .slice aT l0_2.length aV, .slice aY l0_3.length aW] 98 (0, 0))) := ⟨h1_⟩
              have n2_ : qAb (w9.heap[aG]? = some (.cells #[.slice none 0 0, .int .i64 0, .slice none 0 0, .slice none 0 0] 77 (0, 0))) := ⟨h2_⟩
              have n3_ : qAb (Below w.heap.size w w9) := ⟨h3_⟩
              clear aA aE HB h0_ h1_ h2_ h3_
              have aZ := n0_
              have aA := n1_
              have aE := n2_
              have HB := n3_
              clear n0_ n1_ n2_ n3_
              refine qC1 (a' := ?_) ?_ ?_
              rotate_left
              ·simp only [qBA, Act.put, List.setIfInBounds_toArray, List.set_cons_zero, List.set_cons_succ]
               rfl
              refine three_ (i := 4) (j := 9) (k := 14) (Ni := some 9) (Nj := some 14) (Nk := some 3) (mK 16 3327) (mK 16 3823) (mK 16 19695) rfl rfl rfl rfl rfl rfl (three_of HT_.o (by kernel_rfl)) (by decide) (by decide) (by decide) (fun K hK => ?_) (fun K hK => ?_) (fun K hK => ?_)
              ·skip
               refine Kd.R_append_rows_step (Kd.int .i64) (w0 := w) w.heap.size (by rfl) (.tmp 5) (.tmp 8) 72 3 (.int .i64 0) 8 rfl Try.underlying72 info3 rfl (by decide) (by omega) a9 aj l0_0 _ _ _ (fun _ => True) (fun _ => False) rfl rfl ?aO ?aR (fun _ _ h => h) (fun _ h => h.elim) ?aF ?aB ?aS ?aL ?_
               (case aR => repeat (exact (Kd.C_below bL.o HB.o)))
               (case aB => exact (by repeat (exact HB.o)))
               (case aF => exact (fun _ _ => trivial))
               (case aO => exact (by exact aZ.o))
               (case aS => exact (qAf (by repeat (exact HB.o))))
               (case aL => have := b6.o; omega)
               intro an bI ho hb hg bH
               rw [← bN.o] at ho
               have n_ := a2 (qA6 (g := aC) (o := .cells #[.slice aQ l0_0.length aU, .int .i64 a0_1, .slice aT l0_2.length aV, .slice aY l0_3.length aW] 98 (0, 0)) (by exact aA.o) hg (Kd.R_ne aZ.o aA.o (by decide))) (a2 (qA6 (g := aG) (o := .cells #[.slice none 0 0, .int .i64 0, .slice none 0 0, .slice none 0 0] 77 (0, 0)) (by exact aE.o) hg (Kd.R_ne aZ.o aE.o (by decide))) (a2 (hb) (am (ho))))
               clear aA aE HB aZ
               obtain ⟨aA, aE, HB, aX⟩ := n_
               clear ho hb hg bH
               obtain ⟨ca, cc, cg⟩ := Kd.R_slice aX.o
               (subst cg)
               refine hK.o _ _ (c4_ _ aA.o) (fun hHeld => ?_)
               clear hK K
               refine nm ?_
               refine pu 8 13 (mK 16 3583) (qAR HT_.o (by kernel_rfl)) ?_
               exact nq (hJ0_4 (a9, .slice ca a5.length cc) _ ⟨hHeld, (by exact aX.o), (by exact aA.o), (by exact aE.o), (by repeat (exact HB.o))⟩)
              ·skip
               refine Kd.R_lit_step (Kd.int .i64) _ 3 ?hg (N := 14) ?hd (xs := ([] : List Int)) (inner := []) (ok := fun _ => True) (okp := fun _ => True) ?hr ?hp (fun _ hk => hk) trivial (Below.refl _ _) (Nat.le_refl _) (by simp) ?_; (case hd => rfl); (case hg => rfl); (case hr => (go_simp; done)); (case hp => exact (Reps.none _ _))
               intro a8 bI ho11 hb hg_ hnew_
               clear hg_ hnew_
               (rw [← bF.o] at ho11)
               have n_ := a2 (Kd.R_elder' (by exact aZ.o) (Kd.R_base ho11) hb) (a2 (Kd.R_lower (Kd.R_new' ho11 (Kd.R_lt (by exact aZ.o))) (qAf (by repeat (exact HB.o)))) (a2 (qAe (g := aC) (o := .cells #[.slice aQ l0_0.length aU, .int .i64 a0_1, .slice aT l0_2.length aV, .slice aY l0_3.length aW] 98 (0, 0)) (by exact aA.o) hb) (a2 (qAe (g := aG) (o := .cells #[.slice none 0 0, .int .i64 0, .slice none 0 0, .slice none 0 0] 77 (0, 0)) (by exact aE.o) hb) (am (qAk (by repeat (exact HB.o)) hb)))))
               clear aZ aA aE HB
               obtain ⟨aZ, aN, aA, aE, HB⟩ := n_
               clear hb ho11
               refine hK.o _ _ (c4_ _ aA.o) (fun hHeld => ?_)
               clear hK K
               refine nm ?_
               exact nq (hJ0_9 (a9, a8) _ ⟨hHeld, (by exact Kd.R_mono aZ.o (fun _ hk => hk.2)), (by exact Kd.R_mono aN.o (fun _ hk => hk.2)), (by exact aA.o), (by exact aE.o), (by repeat (exact HB.o))⟩)
              ·skip
               refine qBN ?hg (N := 3) ?hd (cs := #[.slice none 0 0, .int .i64 0, .slice none 0 0, .slice none 0 0]) (t := 77) ?hr ?_; (case hd => rfl); (case hg => rfl); (case hr => (go_simp; done))
               intro aD hg bI hbox hb
               have n_ := a2 (Kd.R_below (by exact aZ.o) hb) (a2 (qAe (g := aC) (o := .cells #[.slice aQ l0_0.length aU, .int .i64 a0_1, .slice aT l0_2.length aV, .slice aY l0_3.length aW] 98 (0, 0)) (by exact aA.o) hb) (a2 (qAe (g := aG) (o := .cells #[.slice none 0 0, .int .i64 0, .slice none 0 0, .slice none 0 0] 77 (0, 0)) (by exact aE.o) hb) (a2 (qAk (by repeat (exact HB.o)) hb) (a2 (hbox) (a2 (by rw [hg]; exact (qAf (by repeat (exact HB.o))) : w.heap.size ≤ aD) (a2 (by rw [hg]; exact (qAf (by repeat (exact HB.o))) : w.heap.size ≤ aD) (a2 (by rw [hg]; exact Nat.ne_of_lt (qAt (g := aC) (o := .cells #[.slice aQ l0_0.length aU, .int .i64 a0_1, .slice aT l0_2.length aV, .slice aY l0_3.length aW] 98 (0, 0)) (by exact aA.o)) : aC ≠ aD) (a2 (by rw [hg]; exact Nat.ne_of_gt (qAt (g := aC) (o := .cells #[.slice aQ l0_0.length aU, .int .i64 a0_1, .slice aT l0_2.length aV, .slice aY l0_3.length aW] 98 (0, 0)) (by exact aA.o)) : aD ≠ aC) (a2 (by rw [hg]; exact Nat.ne_of_lt (qAt (g := aG) (o := .cells #[.slice none 0 0, .int .i64 0, .slice none 0 0, .slice none 0 0] 77 (0, 0)) (by exact aE.o)) : aG ≠ aD) (am (by rw [hg]; exact Nat.ne_of_gt (qAt (g := aG) (o := .cells #[.slice none 0 0, .int .i64 0, .slice none 0 0, .slice none 0 0] 77 (0, 0)) (by exact aE.o)) : aD ≠ aG)))))))))))
               clear aZ aA aE HB
               obtain ⟨aZ, aA, aE, HB, aI, aa, a7, aH, aK, aJ, aM⟩ := n_
               clear hb hbox hg
               refine hK.o _ _ (c4_ _ aA.o) (fun hHeld => ?_)
               clear hK K
               refine nm ?_
               exact nq (hJ0_14 (a9, aD) _ ⟨hHeld, (by exact aZ.o), (by exact aA.o), (by exact aE.o), (by exact aI.o), aa.o, a7.o, aH.o, aK.o, aJ.o, aM.o, (by repeat (exact HB.o))⟩)
            ·skip
             rintro ⟨a8, aD⟩ bI ⟨hS_, h0_, h1_, h2_, h3_, h4_, h5_, h6_, h7_, h8_, h9_, h10_⟩
             have n0_ : qAb (Kd.R (Kd.int .i64) 3 bI w.heap.size (fun _ => True) a8 af) := ⟨h0_⟩
             have n1_ : qAb (bI.heap[aC]? = some (.cells #[.slice aQ l0_0.length aU, .int .i64 a0_1, .slice aT l0_2.length aV, .slice aY l0_3.length aW] 98 (0, 0))) := ⟨h1_⟩
             have n2_ : qAb (bI.heap[aG]? = some (.cells #[.slice none 0 0, .int .i64 0, .slice none 0 0, .slice none 0 0] 77 (0, 0))) := ⟨h2_⟩
             have n3_ : qAb (bI.heap[aD]? = some (.cells #[.slice none 0 0, .int .i64 0, .slice none 0 0, .slice none 0 0] 77 (0, 0))) := ⟨h3_⟩
             have n4_ : qAb (w.heap.size ≤ aD) := ⟨h4_⟩
             have n5_ : qAb (w.heap.size ≤ aD) := ⟨h5_⟩
             have n6_ : qAb (aC ≠ aD) := ⟨h6_⟩
             have n7_ : qAb (aD ≠ aC) := ⟨h7_⟩
             have n8_ : qAb (aG ≠ aD) := ⟨h8_⟩
             have n9_ : qAb (aD ≠ aG) := ⟨h9_⟩
             have n10_ : qAb (Below w.heap.size w bI) := ⟨h10_⟩
             clear aA aE HB h0_ h1_ h2_ h3_ h4_ h5_ h6_ h7_ h8_ h9_ h10_
             have aN := n0_
             have aA := n1_
             have aE := n2_
             have aI := n3_
             have aa := n4_
             have a7 := n5_
             have aH := n6_
             have aK := n7_
             have aJ := n8_
             have aM := n9_
             have HB := n10_
             clear n0_ n1_ n2_ n3_ n4_ n5_ n6_ n7_ n8_ n9_ n10_
             refine qC1 (a' := ?_) ?_ ?_
             rotate_left
             ·simp only [qBA, Act.put, List.setIfInBounds_toArray, List.set_cons_zero, List.set_cons_succ]
              rfl
             refine one_ (i := 0) (N := some 5) (mK 16 20207) rfl rfl (qBv HT_.o (by kernel_rfl)) (by decide) (fun K hK => ?_)
             refine Kd.R_lit_step (Kd.int .i64) _ 3 ?hg (N := 5) ?hd (xs := ([] : List Int)) (inner := []) (ok := fun _ => True) (okp := fun _ => True) ?hr ?hp (fun _ hk => hk) trivial (Below.refl _ _) (Nat.le_refl _) (by simp) ?_; (case hd => rfl); (case hg => rfl); (case hr => (go_simp; done)); (case hp => exact (Reps.none _ _))
             intro a9 bS ho12 hb hg_ hnew_
             clear hg_ hnew_
             (rw [← bM.o] at ho12)
             have n_ := a2 (Kd.R_elder' (by exact aN.o) (Kd.R_base ho12) hb) (a2 (Kd.R_lower (Kd.R_new' ho12 (Kd.R_lt (by exact aN.o))) (qAf (by repeat (exact HB.o)))) (a2 (qAe (g := aC) (o := .cells #[.slice aQ l0_0.length aU, .int .i64 a0_1, .slice aT l0_2.length aV, .slice aY l0_3.length aW] 98 (0, 0)) (by exact aA.o) hb) (a2 (qAe (g := aG) (o := .cells #[.slice none 0 0, .int .i64 0, .slice none 0 0, .slice none 0 0] 77 (0, 0)) (by exact aE.o) hb) (a2 (qAe (g := aD) (o := .cells #[.slice none 0 0, .int .i64 0, .slice none 0 0, .slice none 0 0] 77 (0, 0)) (by exact aI.o) hb) (am (qAk (by repeat (exact HB.o)) hb))))))
             clear aN aA aE aI HB
             obtain ⟨aN, aZ, aA, aE, aI, HB⟩ := n_
             clear hb ho12
             refine hK.o _ _ (c4_ _ aA.o) (fun hHeld => ?_)
             clear hK K
             refine nm ?_
             exact nq (hJ0_9_14 (a9, a8, aD) _ ⟨hHeld, (by exact Kd.R_mono aZ.o (fun _ hk => hk.2)), (by exact Kd.R_mono aN.o (fun _ hk => hk.2)), (by exact aA.o), (by exact aE.o), (by exact aI.o), aa.o, a7.o, aH.o, aK.o, aJ.o, aM.o, (by repeat (exact HB.o))⟩)
           ·skip
            rintro ⟨a9, aD⟩ bI ⟨hS_, h0_, h1_, h2_, h3_, h4_, h5_, h6_, h7_, h8_, h9_, h10_⟩
            have n0_ : qAb (Kd.R (Kd.int .i64) 3 bI w.heap.size (fun _ => True) a9 aj) := ⟨h0_⟩
            have n1_ : qAb (bI.heap[aC]? = some (.cells #[.slice aQ l0_0.length aU, .int .i64 a0_1, .slice aT l0_2.length aV, .slice aY l0_3.length aW] 98 (0, 0))) := ⟨h1_⟩
            have n2_ : qAb (bI.heap[aG]? = some (.cells #[.slice none 0 0, .int .i64 0, .slice none 0 0, .slice none 0 0] 77 (0, 0))) := ⟨h2_⟩
            have n3_ : qAb (bI.heap[aD]? = some (.cells #[.slice none 0 0, .int .i64 0, .slice none 0 0, .slice none 0 0] 77 (0, 0))) := ⟨h3_⟩
            have n4_ : qAb (w.heap.size ≤ aD) := ⟨h4_⟩
            have n5_ : qAb (w.heap.size ≤ aD) := ⟨h5_⟩
            have n6_ : qAb (aC ≠ aD) := ⟨h6_⟩
            have n7_ : qAb (aD ≠ aC) := ⟨h7_⟩
            have n8_ : qAb (aG ≠ aD) := ⟨h8_⟩
            have n9_ : qAb (aD ≠ aG) := ⟨h9_⟩
            have n10_ : qAb (Below w.heap.size w bI) := ⟨h10_⟩
            clear aA aE HB h0_ h1_ h2_ h3_ h4_ h5_ h6_ h7_ h8_ h9_ h10_
            have aZ := n0_
            have aA := n1_
            have aE := n2_
            have aI := n3_
            have aa := n4_
            have a7 := n5_
            have aH := n6_
            have aK := n7_
            have aJ := n8_
            have aM := n9_
            have HB := n10_
            clear n0_ n1_ n2_ n3_ n4_ n5_ n6_ n7_ n8_ n9_ n10_
            refine qC1 (a' := ?_) ?_ ?_
            rotate_left
            ·simp only [qBA, Act.put, List.setIfInBounds_toArray, List.set_cons_zero, List.set_cons_succ]
             rfl
            refine two_ (i := 4) (j := 9) (Ni := some 9) (Nj := some 14) (mK 16 19711) (mK 16 20207) rfl rfl rfl rfl (qDI HT_.o (by kernel_rfl)) (by decide) (by decide) (fun K hK => ?_) (fun K hK => ?_)
            ·skip
             refine Kd.R_append_rows_step (Kd.int .i64) (w0 := w) w.heap.size (by rfl) (.tmp 5) (.tmp 8) 72 3 (.int .i64 0) 8 rfl Try.underlying72 info3 rfl (by decide) (by omega) a9 aj l0_0 _ _ _ (fun _ => True) (fun _ => False) rfl rfl ?aO ?aR (fun _ _ h => h) (fun _ h => h.elim) ?aF ?aB ?aS ?aL ?_
             (case aR => repeat (exact (Kd.C_below bL.o HB.o)))
             (case aB => exact (by repeat (exact HB.o)))
             (case aF => exact (fun _ _ => trivial))
             (case aO => exact (by exact aZ.o))
             (case aS => exact (qAf (by repeat (exact HB.o))))
             (case aL => have := b6.o; omega)
             intro an bS ho hb hg bH
             rw [← bN.o] at ho
             have n_ := a2 (qA6 (g := aC) (o := .cells #[.slice aQ l0_0.length aU, .int .i64 a0_1, .slice aT l0_2.length aV, .slice aY l0_3.length aW] 98 (0, 0)) (by exact aA.o) hg (Kd.R_ne aZ.o aA.o (by decide))) (a2 (qA6 (g := aG) (o := .cells #[.slice none 0 0, .int .i64 0, .slice none 0 0, .slice none 0 0] 77 (0, 0)) (by exact aE.o) hg (Kd.R_ne aZ.o aE.o (by decide))) (a2 (qA6 (g := aD) (o := .cells #[.slice none 0 0, .int .i64 0, .slice none 0 0, .slice none 0 0] 77 (0, 0)) (by exact aI.o) hg (Kd.R_ne aZ.o aI.o (by decide))) (a2 (hb) (am (ho)))))
             clear aA aE aI HB aZ
             obtain ⟨aA, aE, aI, HB, aX⟩ := n_
             clear ho hb hg bH
             obtain ⟨b3, b7, bp⟩ := Kd.R_slice aX.o
             (subst bp)
             refine hK.o _ _ (c4_ _ aA.o) (fun hHeld => ?_)
             clear hK K
             refine nm ?_
             refine pu 8 13 (mK 16 19967) (qAR HT_.o (by kernel_rfl)) ?_
             exact nq (hJ0_4_14 (a9, .slice b3 a5.length b7, aD) _ ⟨hHeld, (by exact aX.o), (by exact aA.o), (by exact aE.o), (by exact aI.o), aa.o, a7.o, aH.o, aK.o, aJ.o, aM.o, (by repeat (exact HB.o))⟩)
            ·skip
             refine Kd.R_lit_step (Kd.int .i64) _ 3 ?hg (N := 14) ?hd (xs := ([] : List Int)) (inner := []) (ok := fun _ => True) (okp := fun _ => True) ?hr ?hp (fun _ hk => hk) trivial (Below.refl _ _) (Nat.le_refl _) (by simp) ?_; (case hd => rfl); (case hg => rfl); (case hr => (go_simp; done)); (case hp => exact (Reps.none _ _))
             intro a8 bS ho12 hb hg_ hnew_
             clear hg_ hnew_
             (rw [← bF.o] at ho12)
             have n_ := a2 (Kd.R_elder' (by exact aZ.o) (Kd.R_base ho12) hb) (a2 (Kd.R_lower (Kd.R_new' ho12 (Kd.R_lt (by exact aZ.o))) (qAf (by repeat (exact HB.o)))) (a2 (qAe (g := aC) (o := .cells #[.slice aQ l0_0.length aU, .int .i64 a0_1, .slice aT l0_2.length aV, .slice aY l0_3.length aW] 98 (0, 0)) (by exact aA.o) hb) (a2 (qAe (g := aG) (o := .cells #[.slice none 0 0, .int .i64 0, .slice none 0 0, .slice none 0 0] 77 (0, 0)) (by exact aE.o) hb) (a2 (qAe (g := aD) (o := .cells #[.slice none 0 0, .int .i64 0, .slice none 0 0, .slice none 0 0] 77 (0, 0)) (by exact aI.o) hb) (am (qAk (by repeat (exact HB.o)) hb))))))
             clear aZ aA aE aI HB
             obtain ⟨aZ, aN, aA, aE, aI, HB⟩ := n_
             clear hb ho12
             refine hK.o _ _ (c4_ _ aA.o) (fun hHeld => ?_)
             clear hK K
             refine nm ?_
             exact nq (hJ0_9_14 (a9, a8, aD) _ ⟨hHeld, (by exact Kd.R_mono aZ.o (fun _ hk => hk.2)), (by exact Kd.R_mono aN.o (fun _ hk => hk.2)), (by exact aA.o), (by exact aE.o), (by exact aI.o), aa.o, a7.o, aH.o, aK.o, aJ.o, aM.o, (by repeat (exact HB.o))⟩)
          ·skip
           rintro ⟨a9, a8⟩ bS ⟨hS_, h0_, h1_, h2_, h3_, h4_⟩
           have n0_ : qAb (Kd.R (Kd.int .i64) 3 bS w.heap.size (fun k_ => some k_ ≠ (a8 : Value).ownBlock) a9 aj) := ⟨h0_⟩
           have n1_ : qAb (Kd.R (Kd.int .i64) 3 bS w.heap.size (fun k_ => some k_ ≠ (a9 : Value).ownBlock) a8 af) := ⟨h1_⟩
           have n2_ : qAb (bS.heap[aC]? = some (.cells #[.slice aQ l0_0.length aU, .int .i64 a0_1, .slice aT l0_2.length aV, .slice aY l0_3.length aW] 98 (0, 0))) := ⟨h2_⟩
           have n3_ : qAb (bS.heap[aG]? = some (.cells #[.slice none 0 0, .int .i64 0, .slice none 0 0, .slice none 0 0] 77 (0, 0))) := ⟨h3_⟩
           have n4_ : qAb (Below w.heap.size w bS) := ⟨h4_⟩
           clear aA aE HB h0_ h1_ h2_ h3_ h4_
           have aZ := n0_
           have aN := n1_
           have aA := n2_
           have aE := n3_
           have HB := n4_
           clear n0_ n1_ n2_ n3_ n4_
           refine qC1 (a' := ?_) ?_ ?_
           rotate_left
           ·simp only [qBA, Act.put, List.setIfInBounds_toArray, List.set_cons_zero, List.set_cons_succ]
            rfl
           refine two_ (i := 4) (j := 14) (Ni := some 9) (Nj := some 3) (mK 16 3839) (mK 16 20207) rfl rfl rfl rfl (qDI HT_.o (by kernel_rfl)) (by decide) (by decide) (fun K hK => ?_) (fun K hK => ?_)
           ·skip
            refine Kd.R_append_rows_step (Kd.int .i64) (w0 := w) w.heap.size (by rfl) (.tmp 5) (.tmp 8) 72 3 (.int .i64 0) 8 rfl Try.underlying72 info3 rfl (by decide) (by omega) a9 aj l0_0 _ _ _ (fun k_ => some k_ ≠ (a8 : Value).ownBlock) (fun _ => False) rfl rfl ?aO ?aR (fun _ _ h => h) (fun _ h => h.elim) ?aF ?aB ?aS ?aL ?_
            (case aR => repeat (exact (Kd.C_below bL.o HB.o)))
            (case aB => exact (by repeat (exact HB.o)))
            (case aF => exact (fun k_ hk => Kd.fresh' (Kd.R_lt (by exact aN.o)) k_ hk))
            (case aO => exact (by exact aZ.o))
            (case aS => exact (qAf (by repeat (exact HB.o))))
            (case aL => have := b6.o; omega)
            intro an bO ho hb hg bH
            rw [← bN.o] at ho
            have n_ := a2 (qA6 (g := aC) (o := .cells #[.slice aQ l0_0.length aU, .int .i64 a0_1, .slice aT l0_2.length aV, .slice aY l0_3.length aW] 98 (0, 0)) (by exact aA.o) hg (Kd.R_ne aZ.o aA.o (by decide))) (a2 (qA6 (g := aG) (o := .cells #[.slice none 0 0, .int .i64 0, .slice none 0 0, .slice none 0 0] 77 (0, 0)) (by exact aE.o) hg (Kd.R_ne aZ.o aE.o (by decide))) (a2 (Kd.R_after (ok := (fun _ => True)) (by exact Kd.R_mono aN.o (fun _ hk => ⟨trivial, hk⟩)) hg bH) (a2 (hb) (am (ho)))))
            clear aA aE aN HB aZ
            obtain ⟨aA, aE, aN, HB, aX⟩ := n_
            clear ho hb hg bH
            obtain ⟨bj, bl, bq⟩ := Kd.R_slice aX.o
            (subst bq)
            refine hK.o _ _ (c4_ _ aA.o) (fun hHeld => ?_)
            clear hK K
            refine nm ?_
            refine pu 8 13 (mK 16 4095) (qAR HT_.o (by kernel_rfl)) ?_
            exact nq (hJ0_4_9 (a9, .slice bj a5.length bl, a8) _ ⟨hHeld, (by exact aX.o), (by exact Kd.R_mono aN.o (fun _ hk => hk.2)), (by exact aA.o), (by exact aE.o), (by repeat (exact HB.o))⟩)
           ·skip
            refine qBN ?hg (N := 3) ?hd (cs := #[.slice none 0 0, .int .i64 0, .slice none 0 0, .slice none 0 0]) (t := 77) ?hr ?_; (case hd => rfl); (case hg => rfl); (case hr => (go_simp; done))
            intro aD hg bO hbox hb
            have n_ := a2 (Kd.R_below (by exact aZ.o) hb) (a2 (Kd.R_below (by exact aN.o) hb) (a2 (qAe (g := aC) (o := .cells #[.slice aQ l0_0.length aU, .int .i64 a0_1, .slice aT l0_2.length aV, .slice aY l0_3.length aW] 98 (0, 0)) (by exact aA.o) hb) (a2 (qAe (g := aG) (o := .cells #[.slice none 0 0, .int .i64 0, .slice none 0 0, .slice none 0 0] 77 (0, 0)) (by exact aE.o) hb) (a2 (qAk (by repeat (exact HB.o)) hb) (a2 (hbox) (a2 (by rw [hg]; exact (qAf (by repeat (exact HB.o))) : w.heap.size ≤ aD) (a2 (by rw [hg]; exact (qAf (by repeat (exact HB.o))) : w.heap.size ≤ aD) (a2 (by rw [hg]; exact Nat.ne_of_lt (qAt (g := aC) (o := .cells #[.slice aQ l0_0.length aU, .int .i64 a0_1, .slice aT l0_2.length aV, .slice aY l0_3.length aW] 98 (0, 0)) (by exact aA.o)) : aC ≠ aD) (a2 (by rw [hg]; exact Nat.ne_of_gt (qAt (g := aC) (o := .cells #[.slice aQ l0_0.length aU, .int .i64 a0_1, .slice aT l0_2.length aV, .slice aY l0_3.length aW] 98 (0, 0)) (by exact aA.o)) : aD ≠ aC) (a2 (by rw [hg]; exact Nat.ne_of_lt (qAt (g := aG) (o := .cells #[.slice none 0 0, .int .i64 0, .slice none 0 0, .slice none 0 0] 77 (0, 0)) (by exact aE.o)) : aG ≠ aD) (am (by rw [hg]; exact Nat.ne_of_gt (qAt (g := aG) (o := .cells #[.slice none 0 0, .int .i64 0, .slice none 0 0, .slice none 0 0] 77 (0, 0)) (by exact aE.o)) : aD ≠ aG))))))))))))
            clear aZ aN aA aE HB
            obtain ⟨aZ, aN, aA, aE, HB, aI, aa, a7, aH, aK, aJ, aM⟩ := n_
            clear hb hbox hg
            refine hK.o _ _ (c4_ _ aA.o) (fun hHeld => ?_)
            clear hK K
            refine nm ?_
            exact nq (hJ0_9_14 (a9, a8, aD) _ ⟨hHeld, (by exact aZ.o), (by exact aN.o), (by exact aA.o), (by exact aE.o), (by exact aI.o), aa.o, a7.o, aH.o, aK.o, aJ.o, aM.o, (by repeat (exact HB.o))⟩)
         ·skip
          rintro ⟨a9, an⟩ bS ⟨hS_, h0_, h1_, h2_, h3_⟩
          have n0_ : qAb (Kd.R (Kd.int .i64) 3 bS w.heap.size (fun _ => True) an a5) := ⟨h0_⟩
          have n1_ : qAb (bS.heap[aC]? = some (.cells #[.slice aQ l0_0.length aU, .int .i64 a0_1, .slice aT l0_2.length aV, .slice aY l0_3.length aW] 98 (0, 0))) := ⟨h1_⟩
          have n2_ : qAb (bS.heap[aG]? = some (.cells #[.slice none 0 0, .int .i64 0, .slice none 0 0, .slice none 0 0] 77 (0, 0))) := ⟨h2_⟩
          have n3_ : qAb (Below w.heap.size w bS) := ⟨h3_⟩
          clear aA aE HB h0_ h1_ h2_ h3_
          have aX := n0_
          have aA := n1_
          have aE := n2_
          have HB := n3_
          clear n0_ n1_ n2_ n3_
          obtain ⟨b3, b7, bp⟩ := Kd.R_slice aX.o
          (subst bp)
          refine qC1 (a' := ?_) ?_ ?_
          rotate_left
          ·simp only [qBA, Act.put, List.setIfInBounds_toArray, List.set_cons_zero, List.set_cons_succ]
           rfl
          refine two_ (i := 9) (j := 14) (Ni := some 14) (Nj := some 3) (mK 16 4095) (mK 16 19967) rfl rfl rfl rfl (qDI HT_.o (by kernel_rfl)) (by decide) (by decide) (fun K hK => ?_) (fun K hK => ?_)
          ·skip
           refine Kd.R_lit_step (Kd.int .i64) _ 3 ?hg (N := 14) ?hd (xs := ([] : List Int)) (inner := []) (ok := fun _ => True) (okp := fun _ => True) ?hr ?hp (fun _ hk => hk) trivial (Below.refl _ _) (Nat.le_refl _) (by simp) ?_; (case hd => rfl); (case hg => rfl); (case hr => (go_simp; done)); (case hp => exact (Reps.none _ _))
           intro a8 bi ho14 hb hg_ hnew_
           clear hg_ hnew_
           (rw [← bF.o] at ho14)
           have n_ := a2 (Kd.R_elder' (by exact aX.o) (Kd.R_base ho14) hb) (a2 (Kd.R_lower (Kd.R_new' ho14 (Kd.R_lt (by exact aX.o))) (qAf (by repeat (exact HB.o)))) (a2 (qAe (g := aC) (o := .cells #[.slice aQ l0_0.length aU, .int .i64 a0_1, .slice aT l0_2.length aV, .slice aY l0_3.length aW] 98 (0, 0)) (by exact aA.o) hb) (a2 (qAe (g := aG) (o := .cells #[.slice none 0 0, .int .i64 0, .slice none 0 0, .slice none 0 0] 77 (0, 0)) (by exact aE.o) hb) (am (qAk (by repeat (exact HB.o)) hb)))))
           clear aX aA aE HB
           obtain ⟨aX, aN, aA, aE, HB⟩ := n_
           clear hb ho14
           refine hK.o _ _ (c4_ _ aA.o) (fun hHeld => ?_)
           clear hK K
           refine nm ?_
           exact nq (hJ0_4_9 (a9, .slice b3 a5.length b7, a8) _ ⟨hHeld, (by exact Kd.R_mono aX.o (fun _ hk => hk.2)), (by exact Kd.R_mono aN.o (fun _ hk => hk.2)), (by exact aA.o), (by exact aE.o), (by repeat (exact HB.o))⟩)
          ·skip
           refine qBN ?hg (N := 3) ?hd (cs := #[.slice none 0 0, .int .i64 0, .slice none 0 0, .slice none 0 0]) (t := 77) ?hr ?_; (case hd => rfl); (case hg => rfl); (case hr => (go_simp; done))
           intro aD hg bi hbox hb
           have n_ := a2 (Kd.R_below (by exact aX.o) hb) (a2 (qAe (g := aC) (o := .cells #[.slice aQ l0_0.length aU, .int .i64 a0_1, .slice aT l0_2.length aV, .slice aY l0_3.length aW] 98 (0, 0)) (by exact aA.o) hb) (a2 (qAe (g := aG) (o := .cells #[.slice none 0 0, .int .i64 0, .slice none 0 0, .slice none 0 0] 77 (0, 0)) (by exact aE.o) hb) (a2 (qAk (by repeat (exact HB.o)) hb) (a2 (hbox) (a2 (by rw [hg]; exact (qAf (by repeat (exact HB.o))) : w.heap.size ≤ aD) (a2 (by rw [hg]; exact (qAf (by repeat (exact HB.o))) : w.heap.size ≤ aD) (a2 (by rw [hg]; exact Nat.ne_of_lt (qAt (g := aC) (o := .cells #[.slice aQ l0_0.length aU, .int .i64 a0_1, .slice aT l0_2.length aV, .slice aY l0_3.length aW] 98 (0, 0)) (by exact aA.o)) : aC ≠ aD) (a2 (by rw [hg]; exact Nat.ne_of_gt (qAt (g := aC) (o := .cells #[.slice aQ l0_0.length aU, .int .i64 a0_1, .slice aT l0_2.length aV, .slice aY l0_3.length aW] 98 (0, 0)) (by exact aA.o)) : aD ≠ aC) (a2 (by rw [hg]; exact Nat.ne_of_lt (qAt (g := aG) (o := .cells #[.slice none 0 0, .int .i64 0, .slice none 0 0, .slice none 0 0] 77 (0, 0)) (by exact aE.o)) : aG ≠ aD) (am (by rw [hg]; exact Nat.ne_of_gt (qAt (g := aG) (o := .cells #[.slice none 0 0, .int .i64 0, .slice none 0 0, .slice none 0 0] 77 (0, 0)) (by exact aE.o)) : aD ≠ aG)))))))))))
           clear aX aA aE HB
           obtain ⟨aX, aA, aE, HB, aI, aa, a7, aH, aK, aJ, aM⟩ := n_
           clear hb hbox hg
           refine hK.o _ _ (c4_ _ aA.o) (fun hHeld => ?_)
           clear hK K
           refine nm ?_
           exact nq (hJ0_4_14 (a9, .slice b3 a5.length b7, aD) _ ⟨hHeld, (by exact aX.o), (by exact aA.o), (by exact aE.o), (by exact aI.o), aa.o, a7.o, aH.o, aK.o, aJ.o, aM.o, (by repeat (exact HB.o))⟩)
        ·skip
         rintro ⟨a9, a8, aD⟩ bO ⟨hS_, h0_, h1_, h2_, h3_, h4_, h5_, h6_, h7_, h8_, h9_, h10_, h11_⟩
         have n0_ : qAb (Kd.R (Kd.int .i64) 3 bO w.heap.size (fun k_ => some k_ ≠ (a8 : Value).ownBlock) a9 aj) := ⟨h0_⟩
         have n1_ : qAb (Kd.R (Kd.int .i64) 3 bO w.heap.size (fun k_ => some k_ ≠ (a9 : Value).ownBlock) a8 af) := ⟨h1_⟩
         have n2_ : qAb (bO.heap[aC]? = some (.cells #[.slice aQ l0_0.length aU, .int .i64 a0_1, .slice aT l0_2.length aV, .slice aY l0_3.length aW] 98 (0, 0))) := ⟨h2_⟩
         have n3_ : qAb (bO.heap[aG]? = some (.cells #[.slice none 0 0, .int .i64 0, .slice none 0 0, .slice none 0 0] 77 (0, 0))) := ⟨h3_⟩
         have n4_ : qAb (bO.heap[aD]? = some (.cells #[.slice none 0 0, .int .i64 0, .slice none 0 0, .slice none 0 0] 77 (0, 0))) := ⟨h4_⟩
         have n5_ : qAb (w.heap.size ≤ aD) := ⟨h5_⟩
         have n6_ : qAb (w.heap.size ≤ aD) := ⟨h6_⟩
         have n7_ : qAb (aC ≠ aD) := ⟨h7_⟩
         have n8_ : qAb (aD ≠ aC) := ⟨h8_⟩
         have n9_ : qAb (aG ≠ aD) := ⟨h9_⟩
         have n10_ : qAb (aD ≠ aG) := ⟨h10_⟩
         have n11_ : qAb (Below w.heap.size w bO) := ⟨h11_⟩
         clear aA aE HB h0_ h1_ h2_ h3_ h4_ h5_ h6_ h7_ h8_ h9_ h10_ h11_
         have aZ := n0_
         have aN := n1_
         have aA := n2_
         have aE := n3_
         have aI := n4_
         have aa := n5_
         have a7 := n6_
         have aH := n7_
         have aK := n8_
         have aJ := n9_
         have aM := n10_
         have HB := n11_
         clear n0_ n1_ n2_ n3_ n4_ n5_ n6_ n7_ n8_ n9_ n10_ n11_
         refine qC1 (a' := ?_) ?_ ?_
         rotate_left
         ·simp only [qBA, Act.put, List.setIfInBounds_toArray, List.set_cons_zero, List.set_cons_succ]
          rfl
         refine one_ (i := 4) (N := some 9) (mK 16 20223) rfl rfl (qBv HT_.o (by kernel_rfl)) (by decide) (fun K hK => ?_)
         refine Kd.R_append_rows_step (Kd.int .i64) (w0 := w) w.heap.size (by rfl) (.tmp 5) (.tmp 8) 72 3 (.int .i64 0) 8 rfl Try.underlying72 info3 rfl (by decide) (by omega) a9 aj l0_0 _ _ _ (fun k_ => some k_ ≠ (a8 : Value).ownBlock) (fun _ => False) rfl rfl ?aO ?aR (fun _ _ h => h) (fun _ h => h.elim) ?aF ?aB ?aS ?aL ?_
         (case aR => repeat (exact (Kd.C_below bL.o HB.o)))
         (case aB => exact (by repeat (exact HB.o)))
         (case aF => exact (fun k_ hk => Kd.fresh' (Kd.R_lt (by exact aN.o)) k_ hk))
         (case aO => exact (by exact aZ.o))
         (case aS => exact (qAf (by repeat (exact HB.o))))
         (case aL => have := b6.o; omega)
         intro an bi ho hb hg bH
         rw [← bN.o] at ho
         have n_ := a2 (qA6 (g := aC) (o := .cells #[.slice aQ l0_0.length aU, .int .i64 a0_1, .slice aT l0_2.length aV, .slice aY l0_3.length aW] 98 (0, 0)) (by exact aA.o) hg (Kd.R_ne aZ.o aA.o (by decide))) (a2 (qA6 (g := aG) (o := .cells #[.slice none 0 0, .int .i64 0, .slice none 0 0, .slice none 0 0] 77 (0, 0)) (by exact aE.o) hg (Kd.R_ne aZ.o aE.o (by decide))) (a2 (Kd.R_after (ok := (fun _ => True)) (by exact Kd.R_mono aN.o (fun _ hk => ⟨trivial, hk⟩)) hg bH) (a2 (qA6 (g := aD) (o := .cells #[.slice none 0 0, .int .i64 0, .slice none 0 0, .slice none 0 0] 77 (0, 0)) (by exact aI.o) hg (Kd.R_ne aZ.o aI.o (by decide))) (a2 (hb) (am (ho))))))
         clear aA aE aN aI HB aZ
         obtain ⟨aA, aE, aN, aI, HB, aX⟩ := n_
         clear ho hb hg bH
         obtain ⟨bU, bW, br⟩ := Kd.R_slice aX.o
         (subst br)
         refine hK.o _ _ (c4_ _ aA.o) (fun hHeld => ?_)
         clear hK K
         refine nm ?_
         refine pu 8 13 (mK 16 20479) (qAR HT_.o (by kernel_rfl)) ?_
         exact nq (hJ0_4_9_14 (a9, .slice bU a5.length bW, a8, aD) _ ⟨hHeld, (by exact aX.o), (by exact Kd.R_mono aN.o (fun _ hk => hk.2)), (by exact aA.o), (by exact aE.o), (by exact aI.o), aa.o, a7.o, aH.o, aK.o, aJ.o, aM.o, (by repeat (exact HB.o))⟩)
       ·skip
        rintro ⟨a9, an, aD⟩ bO ⟨hS_, h0_, h1_, h2_, h3_, h4_, h5_, h6_, h7_, h8_, h9_, h10_⟩
        have n0_ : qAb (Kd.R (Kd.int .i64) 3 bO w.heap.size (fun _ => True) an a5) := ⟨h0_⟩
        have n1_ : qAb (bO.heap[aC]? = some (.cells #[.slice aQ l0_0.length aU, .int .i64 a0_1, .slice aT l0_2.length aV, .slice aY l0_3.length aW] 98 (0, 0))) := ⟨h1_⟩
        have n2_ : qAb (bO.heap[aG]? = some (.cells #[.slice none 0 0, .int .i64 0, .slice none 0 0, .slice none 0 0] 77 (0, 0))) := ⟨h2_⟩
        have n3_ : qAb (bO.heap[aD]? = some (.cells #[.slice none 0 0, .int .i64 0, .slice none 0 0, .slice none 0 0] 77 (0, 0))) := ⟨h3_⟩
        have n4_ : qAb (w.heap.size ≤ aD) := ⟨h4_⟩
        have n5_ : qAb (w.heap.size ≤ aD) := ⟨h5_⟩
        have n6_ : qAb (aC ≠ aD) := ⟨h6_⟩
        have n7_ : qAb (aD ≠ aC) := ⟨h7_⟩
        have n8_ : qAb (aG ≠ aD) := ⟨h8_⟩
        have n9_ : qAb (aD ≠ aG) := ⟨h9_⟩
        have n10_ : qAb (Below w.heap.size w bO) := ⟨h10_⟩
        clear aA aE HB h0_ h1_ h2_ h3_ h4_ h5_ h6_ h7_ h8_ h9_ h10_
        have aX := n0_
        have aA := n1_
        have aE := n2_
        have aI := n3_
        have aa := n4_
        have a7 := n5_
        have aH := n6_
        have aK := n7_
        have aJ := n8_
        have aM := n9_
        have HB := n10_
        clear n0_ n1_ n2_ n3_ n4_ n5_ n6_ n7_ n8_ n9_ n10_
        obtain ⟨bj, bl, bq⟩ := Kd.R_slice aX.o
        (subst bq)
        refine qC1 (a' := ?_) ?_ ?_
        rotate_left
        ·simp only [qBA, Act.put, List.setIfInBounds_toArray, List.set_cons_zero, List.set_cons_succ]
         rfl
        refine one_ (i := 9) (N := some 14) (mK 16 20479) rfl rfl (qBv HT_.o (by kernel_rfl)) (by decide) (fun K hK => ?_)
        refine Kd.R_lit_step (Kd.int .i64) _ 3 ?hg (N := 14) ?hd (xs := ([] : List Int)) (inner := []) (ok := fun _ => True) (okp := fun _ => True) ?hr ?hp (fun _ hk => hk) trivial (Below.refl _ _) (Nat.le_refl _) (by simp) ?_; (case hd => rfl); (case hg => rfl); (case hr => (go_simp; done)); (case hp => exact (Reps.none _ _))
        intro a8 cA ho15 hb hg_ hnew_
        clear hg_ hnew_
        (rw [← bF.o] at ho15)
        have n_ := a2 (Kd.R_elder' (by exact aX.o) (Kd.R_base ho15) hb) (a2 (Kd.R_lower (Kd.R_new' ho15 (Kd.R_lt (by exact aX.o))) (qAf (by repeat (exact HB.o)))) (a2 (qAe (g := aC) (o := .cells #[.slice aQ l0_0.length aU, .int .i64 a0_1, .slice aT l0_2.length aV, .slice aY l0_3.length aW] 98 (0, 0)) (by exact aA.o) hb) (a2 (qAe (g := aG) (o := .cells #[.slice none 0 0, .int .i64 0, .slice none 0 0, .slice none 0 0] 77 (0, 0)) (by exact aE.o) hb) (a2 (qAe (g := aD) (o := .cells #[.slice none 0 0, .int .i64 0, .slice none 0 0, .slice none 0 0] 77 (0, 0)) (by exact aI.o) hb) (am (qAk (by repeat (exact HB.o)) hb))))))
        clear aX aA aE aI HB
        obtain ⟨aX, aN, aA, aE, aI, HB⟩ := n_
        clear hb ho15
        refine hK.o _ _ (c4_ _ aA.o) (fun hHeld => ?_)
        clear hK K
        refine nm ?_
        exact nq (hJ0_4_9_14 (a9, .slice bj a5.length bl, a8, aD) _ ⟨hHeld, (by exact Kd.R_mono aX.o (fun _ hk => hk.2)), (by exact Kd.R_mono aN.o (fun _ hk => hk.2)), (by exact aA.o), (by exact aE.o), (by exact aI.o), aa.o, a7.o, aH.o, aK.o, aJ.o, aM.o, (by repeat (exact HB.o))⟩)
      ·skip
       rintro ⟨a9, an, a8⟩ bi ⟨hS_, h0_, h1_, h2_, h3_, h4_⟩
       have n0_ : qAb (Kd.R (Kd.int .i64) 3 bi w.heap.size (fun k_ => some k_ ≠ (a8 : Value).ownBlock) an a5) := ⟨h0_⟩
       have n1_ : qAb (Kd.R (Kd.int .i64) 3 bi w.heap.size (fun k_ => some k_ ≠ (an : Value).ownBlock) a8 af) := ⟨h1_⟩
       have n2_ : qAb (bi.heap[aC]? = some (.cells #[.slice aQ l0_0.length aU, .int .i64 a0_1, .slice aT l0_2.length aV, .slice aY l0_3.length aW] 98 (0, 0))) := ⟨h2_⟩
       have n3_ : qAb (bi.heap[aG]? = some (.cells #[.slice none 0 0, .int .i64 0, .slice none 0 0, .slice none 0 0] 77 (0, 0))) := ⟨h3_⟩
       have n4_ : qAb (Below w.heap.size w bi) := ⟨h4_⟩
       clear aA aE HB h0_ h1_ h2_ h3_ h4_
       have aX := n0_
       have aN := n1_
       have aA := n2_
       have aE := n3_
       have HB := n4_
       clear n0_ n1_ n2_ n3_ n4_
       obtain ⟨bU, bW, br⟩ := Kd.R_slice aX.o
       (subst br)
       refine qC1 (a' := ?_) ?_ ?_
       rotate_left
       ·simp only [qBA, Act.put, List.setIfInBounds_toArray, List.set_cons_zero, List.set_cons_succ]
        rfl
       refine two_ (i := 12) (j := 14) (Ni := some 17) (Nj := some 3) (mK 16 8191) (mK 16 20479) rfl rfl rfl rfl (qDI HT_.o (by kernel_rfl)) (by decide) (by decide) (fun K hK => ?_) (fun K hK => ?_)
       ·skip
        refine Kd.R_append_rows_step (Kd.int .i64) (w0 := w) w.heap.size (by rfl) (.tmp 14) (.tmp 16) 72 3 (.int .i64 0) 8 rfl Try.underlying72 info3 rfl (by decide) (by omega) a8 af l0_2 _ _ _ (fun k_ => some k_ ≠ (.slice bU a5.length bW : Value).ownBlock) (fun _ => False) rfl rfl ?aO ?aR (fun _ _ h => h) (fun _ h => h.elim) ?aF ?aB ?aS ?aL ?_
        (case aR => repeat (exact (Kd.C_below bg.o HB.o)))
        (case aB => exact (by repeat (exact HB.o)))
        (case aF => exact (fun k_ hk => Kd.fresh' (Kd.R_lt (by exact aX.o)) k_ hk))
        (case aO => exact (by exact aN.o))
        (case aS => exact (qAf (by repeat (exact HB.o))))
        (case aL => have := cG.o; omega)
        intro bJ cB ho hb hg bH
        rw [← bh.o] at ho
        have n_ := a2 (qA6 (g := aC) (o := .cells #[.slice aQ l0_0.length aU, .int .i64 a0_1, .slice aT l0_2.length aV, .slice aY l0_3.length aW] 98 (0, 0)) (by exact aA.o) hg (Kd.R_ne aN.o aA.o (by decide))) (a2 (qA6 (g := aG) (o := .cells #[.slice none 0 0, .int .i64 0, .slice none 0 0, .slice none 0 0] 77 (0, 0)) (by exact aE.o) hg (Kd.R_ne aN.o aE.o (by decide))) (a2 (Kd.R_after (ok := (fun _ => True)) (by exact Kd.R_mono aX.o (fun _ hk => ⟨trivial, hk⟩)) hg bH) (a2 (hb) (am (ho)))))
        clear aA aE aX HB aN
        obtain ⟨aA, aE, aX, HB, ak⟩ := n_
        clear ho hb hg bH
        obtain ⟨bk, bo, bs⟩ := Kd.R_slice ak.o
        (subst bs)
        refine hK.o _ _ (c4_ _ aA.o) (fun hHeld => ?_)
        clear hK K
        refine nm ?_
        refine pu 13 18 (mK 16 16383) (qAR HT_.o (by kernel_rfl)) ?_
        exact nq (hJ0_4_9_12 (a9, .slice bU a5.length bW, a8, .slice bk ag.length bo) _ ⟨hHeld, (by exact Kd.R_mono aX.o (fun _ hk => hk.2)), (by exact ak.o), (by exact aA.o), (by exact aE.o), (by repeat (exact HB.o))⟩)
       ·skip
        refine qBN ?hg (N := 3) ?hd (cs := #[.slice none 0 0, .int .i64 0, .slice none 0 0, .slice none 0 0]) (t := 77) ?hr ?_; (case hd => rfl); (case hg => rfl); (case hr => (go_simp; done))
        intro aD hg cB hbox hb
        have n_ := a2 (Kd.R_below (by exact aX.o) hb) (a2 (Kd.R_below (by exact aN.o) hb) (a2 (qAe (g := aC) (o := .cells #[.slice aQ l0_0.length aU, .int .i64 a0_1, .slice aT l0_2.length aV, .slice aY l0_3.length aW] 98 (0, 0)) (by exact aA.o) hb) (a2 (qAe (g := aG) (o := .cells #[.slice none 0 0, .int .i64 0, .slice none 0 0, .slice none 0 0] 77 (0, 0)) (by exact aE.o) hb) (a2 (qAk (by repeat (exact HB.o)) hb) (a2 (hbox) (a2 (by rw [hg]; exact (qAf (by repeat (exact HB.o))) : w.heap.size ≤ aD) (a2 (by rw [hg]; exact (qAf (by repeat (exact HB.o))) : w.heap.size ≤ aD) (a2 (by rw [hg]; exact Nat.ne_of_lt (qAt (g := aC) (o := .cells #[.slice aQ l0_0.length aU, .int .i64 a0_1, .slice aT l0_2.length aV, .slice aY l0_3.length aW] 98 (0, 0)) (by exact aA.o)) : aC ≠ aD) (a2 (by rw [hg]; exact Nat.ne_of_gt (qAt (g := aC) (o := .cells #[.slice aQ l0_0.length aU, .int .i64 a0_1, .slice aT l0_2.length aV, .slice aY l0_3.length aW] 98 (0, 0)) (by exact aA.o)) : aD ≠ aC) (a2 (by rw [hg]; exact Nat.ne_of_lt (qAt (g := aG) (o := .cells #[.slice none 0 0, .int .i64 0, .slice none 0 0, .slice none 0 0] 77 (0, 0)) (by exact aE.o)) : aG ≠ aD) (am (by rw [hg]; exact Nat.ne_of_gt (qAt (g := aG) (o := .cells #[.slice none 0 0, .int .i64 0, .slice none 0 0, .slice none 0 0] 77 (0, 0)) (by exact aE.o)) : aD ≠ aG))))))))))))
        clear aX aN aA aE HB
        obtain ⟨aX, aN, aA, aE, HB, aI, aa, a7, aH, aK, aJ, aM⟩ := n_
        clear hb hbox hg
        refine hK.o _ _ (c4_ _ aA.o) (fun hHeld => ?_)
        clear hK K
        refine nm ?_
        exact nq (hJ0_4_9_14 (a9, .slice bU a5.length bW, a8, aD) _ ⟨hHeld, (by exact aX.o), (by exact aN.o), (by exact aA.o), (by exact aE.o), (by exact aI.o), aa.o, a7.o, aH.o, aK.o, aJ.o, aM.o, (by repeat (exact HB.o))⟩)
     ·skip
      rintro ⟨a9, an, a8, aD⟩ cA ⟨hS_, h0_, h1_, h2_, h3_, h4_, h5_, h6_, h7_, h8_, h9_, h10_, h11_⟩
      have n0_ : qAb (Kd.R (Kd.int .i64) 3 cA w.heap.size (fun k_ => some k_ ≠ (a8 : Value).ownBlock) an a5) := ⟨h0_⟩
      have n1_ : qAb (Kd.R (Kd.int .i64) 3 cA w.heap.size (fun k_ => some k_ ≠ (an : Value).ownBlock) a8 af) := ⟨h1_⟩
      have n2_ : qAb (cA.heap[aC]? = some (.cells #[.slice aQ l0_0.length aU, .int .i64 a0_1, .slice aT l0_2.length aV, .slice aY l0_3.length aW] 98 (0, 0))) := ⟨h2_⟩
      have n3_ : qAb (cA.heap[aG]? = some (.cells #[.slice none 0 0, .int .i64 0, .slice none 0 0, .slice none 0 0] 77 (0, 0))) := ⟨h3_⟩
      have n4_ : qAb (cA.heap[aD]? = some (.cells #[.slice none 0 0, .int .i64 0, .slice none 0 0, .slice none 0 0] 77 (0, 0))) := ⟨h4_⟩
      have n5_ : qAb (w.heap.size ≤ aD) := ⟨h5_⟩
      have n6_ : qAb (w.heap.size ≤ aD) := ⟨h6_⟩
      have n7_ : qAb (aC ≠ aD) := ⟨h7_⟩
      have n8_ : qAb (aD ≠ aC) := ⟨h8_⟩
      have n9_ : qAb (aG ≠ aD) := ⟨h9_⟩
      have n10_ : qAb (aD ≠ aG) := ⟨h10_⟩
      have n11_ : qAb (Below w.heap.size w cA) := ⟨h11_⟩
      clear aA aE HB h0_ h1_ h2_ h3_ h4_ h5_ h6_ h7_ h8_ h9_ h10_ h11_
      have aX := n0_
      have aN := n1_
      have aA := n2_
      have aE := n3_
      have aI := n4_
      have aa := n5_
      have a7 := n6_
      have aH := n7_
      have aK := n8_
      have aJ := n9_
      have aM := n10_
      have HB := n11_
      clear n0_ n1_ n2_ n3_ n4_ n5_ n6_ n7_ n8_ n9_ n10_ n11_
      obtain ⟨cD, cL, ch⟩ := Kd.R_slice aX.o
      (subst ch)
      refine qC1 (a' := ?_) ?_ ?_
      rotate_left
      ·simp only [qBA, Act.put, List.setIfInBounds_toArray, List.set_cons_zero, List.set_cons_succ]
       rfl
      refine one_ (i := 12) (N := some 17) (mK 16 24575) rfl rfl (qBv HT_.o (by kernel_rfl)) (by decide) (fun K hK => ?_)
      refine Kd.R_append_rows_step (Kd.int .i64) (w0 := w) w.heap.size (by rfl) (.tmp 14) (.tmp 16) 72 3 (.int .i64 0) 8 rfl Try.underlying72 info3 rfl (by decide) (by omega) a8 af l0_2 _ _ _ (fun k_ => some k_ ≠ (.slice cD a5.length cL : Value).ownBlock) (fun _ => False) rfl rfl ?aO ?aR (fun _ _ h => h) (fun _ h => h.elim) ?aF ?aB ?aS ?aL ?_
      (case aR => repeat (exact (Kd.C_below bg.o HB.o)))
      (case aB => exact (by repeat (exact HB.o)))
      (case aF => exact (fun k_ hk => Kd.fresh' (Kd.R_lt (by exact aX.o)) k_ hk))
      (case aO => exact (by exact aN.o))
      (case aS => exact (qAf (by repeat (exact HB.o))))
      (case aL => have := cG.o; omega)
      intro bJ bK ho hb hg bH
      rw [← bh.o] at ho
      have n_ := a2 (qA6 (g := aC) (o := .cells #[.slice aQ l0_0.length aU, .int .i64 a0_1, .slice aT l0_2.length aV, .slice aY l0_3.length aW] 98 (0, 0)) (by exact aA.o) hg (Kd.R_ne aN.o aA.o (by decide))) (a2 (qA6 (g := aG) (o := .cells #[.slice none 0 0, .int .i64 0, .slice none 0 0, .slice none 0 0] 77 (0, 0)) (by exact aE.o) hg (Kd.R_ne aN.o aE.o (by decide))) (a2 (Kd.R_after (ok := (fun _ => True)) (by exact Kd.R_mono aX.o (fun _ hk => ⟨trivial, hk⟩)) hg bH) (a2 (qA6 (g := aD) (o := .cells #[.slice none 0 0, .int .i64 0, .slice none 0 0, .slice none 0 0] 77 (0, 0)) (by exact aI.o) hg (Kd.R_ne aN.o aI.o (by decide))) (a2 (hb) (am (ho))))))
      clear aA aE aX aI HB aN
      obtain ⟨aA, aE, aX, aI, HB, ak⟩ := n_
      clear ho hb hg bH
      obtain ⟨ah, ai, bX⟩ := Kd.R_slice ak.o
      (subst bX)
      refine hK.o _ _ (c4_ _ aA.o) (fun hHeld => ?_)
      clear hK K
      refine nm ?_
      refine pu 13 18 (mK 16 32767) (qAR HT_.o (by kernel_rfl)) ?_
      exact nq (hJ0_4_9_12_14 (a9, .slice cD a5.length cL, a8, .slice ah ag.length ai, aD) _ ⟨hHeld, (by exact Kd.R_mono aX.o (fun _ hk => hk.2)), (by exact ak.o), (by exact aA.o), (by exact aE.o), (by exact aI.o), aa.o, a7.o, aH.o, aK.o, aJ.o, aM.o, (by repeat (exact HB.o))⟩)
    ·skip
     rintro ⟨a9, an, a8, bJ⟩ cB ⟨hS_, h0_, h1_, h2_, h3_, h4_⟩
     have n0_ : qAb (Kd.R (Kd.int .i64) 3 cB w.heap.size (fun k_ => some k_ ≠ (bJ : Value).ownBlock) an a5) := ⟨h0_⟩
     have n1_ : qAb (Kd.R (Kd.int .i64) 3 cB w.heap.size (fun k_ => some k_ ≠ (an : Value).ownBlock) bJ ag) := ⟨h1_⟩
     have n2_ : qAb (cB.heap[aC]? = some (.cells #[.slice aQ l0_0.length aU, .int .i64 a0_1, .slice aT l0_2.length aV, .slice aY l0_3.length aW] 98 (0, 0))) := ⟨h2_⟩
     have n3_ : qAb (cB.heap[aG]? = some (.cells #[.slice none 0 0, .int .i64 0, .slice none 0 0, .slice none 0 0] 77 (0, 0))) := ⟨h3_⟩
     have n4_ : qAb (Below w.heap.size w cB) := ⟨h4_⟩
     clear aA aE HB h0_ h1_ h2_ h3_ h4_
     have aX := n0_
     have ak := n1_
     have aA := n2_
     have aE := n3_
     have HB := n4_
     clear n0_ n1_ n2_ n3_ n4_
     obtain ⟨bk, bo, bs⟩ := Kd.R_slice aX.o
     (subst bs)
     obtain ⟨ah, ai, bX⟩ := Kd.R_slice ak.o
     (subst bX)
     refine qC1 (a' := ?_) ?_ ?_
     rotate_left
     ·simp only [qBA, Act.put, List.setIfInBounds_toArray, List.set_cons_zero, List.set_cons_succ]
      rfl
     refine one_ (i := 14) (N := some 3) (mK 16 32767) rfl rfl (qBv HT_.o (by kernel_rfl)) (by decide) (fun K hK => ?_)
     refine qBN ?hg (N := 3) ?hd (cs := #[.slice none 0 0, .int .i64 0, .slice none 0 0, .slice none 0 0]) (t := 77) ?hr ?_; (case hd => rfl); (case hg => rfl); (case hr => (go_simp; done))
     intro aD hg ct hbox hb
     have n_ := a2 (Kd.R_below (by exact aX.o) hb) (a2 (Kd.R_below (by exact ak.o) hb) (a2 (qAe (g := aC) (o := .cells #[.slice aQ l0_0.length aU, .int .i64 a0_1, .slice aT l0_2.length aV, .slice aY l0_3.length aW] 98 (0, 0)) (by exact aA.o) hb) (a2 (qAe (g := aG) (o := .cells #[.slice none 0 0, .int .i64 0, .slice none 0 0, .slice none 0 0] 77 (0, 0)) (by exact aE.o) hb) (a2 (qAk (by repeat (exact HB.o)) hb) (a2 (hbox) (a2 (by rw [hg]; exact (qAf (by repeat (exact HB.o))) : w.heap.size ≤ aD) (a2 (by rw [hg]; exact (qAf (by repeat (exact HB.o))) : w.heap.size ≤ aD) (a2 (by rw [hg]; exact Nat.ne_of_lt (qAt (g := aC) (o := .cells #[.slice aQ l0_0.length aU, .int .i64 a0_1, .slice aT l0_2.length aV, .slice aY l0_3.length aW] 98 (0, 0)) (by exact aA.o)) : aC ≠ aD) (a2 (by rw [hg]; exact Nat.ne_of_gt (qAt (g := aC) (o := .cells #[.slice aQ l0_0.length aU, .int .i64 a0_1, .slice aT l0_2.length aV, .slice aY l0_3.length aW] 98 (0, 0)) (by exact aA.o)) : aD ≠ aC) (a2 (by rw [hg]; exact Nat.ne_of_lt (qAt (g := aG) (o := .cells #[.slice none 0 0, .int .i64 0, .slice none 0 0, .slice none 0 0] 77 (0, 0)) (by exact aE.o)) : aG ≠ aD) (am (by rw [hg]; exact Nat.ne_of_gt (qAt (g := aG) (o := .cells #[.slice none 0 0, .int .i64 0, .slice none 0 0, .slice none 0 0] 77 (0, 0)) (by exact aE.o)) : aD ≠ aG))))))))))))
     clear aX ak aA aE HB
     obtain ⟨aX, ak, aA, aE, HB, aI, aa, a7, aH, aK, aJ, aM⟩ := n_
     clear hb hbox hg
     refine hK.o _ _ (c4_ _ aA.o) (fun hHeld => ?_)
     clear hK K
     refine nm ?_
     exact nq (hJ0_4_9_12_14 (a9, .slice bk a5.length bo, a8, .slice ah ag.length ai, aD) _ ⟨hHeld, (by exact aX.o), (by exact ak.o), (by exact aA.o), (by exact aE.o), (by exact aI.o), aa.o, a7.o, aH.o, aK.o, aJ.o, aM.o, (by repeat (exact HB.o))⟩)
   rintro ⟨a9, an, a8, bJ, aD⟩ bK ⟨hS_, h0_, h1_, h2_, h3_, h4_, h5_, h6_, h7_, h8_, h9_, h10_, h11_⟩
   have n0_ : qAb (Kd.R (Kd.int .i64) 3 bK w.heap.size (fun k_ => some k_ ≠ (bJ : Value).ownBlock) an a5) := ⟨h0_⟩
   have n1_ : qAb (Kd.R (Kd.int .i64) 3 bK w.heap.size (fun k_ => some k_ ≠ (an : Value).ownBlock) bJ ag) := ⟨h1_⟩
   have n2_ : qAb (bK.heap[aC]? = some (.cells #[.slice aQ l0_0.length aU, .int .i64 a0_1, .slice aT l0_2.length aV, .slice aY l0_3.length aW] 98 (0, 0))) := ⟨h2_⟩
   have n3_ : qAb (bK.heap[aG]? = some (.cells #[.slice none 0 0, .int .i64 0, .slice none 0 0, .slice none 0 0] 77 (0, 0))) := ⟨h3_⟩
   have n4_ : qAb (bK.heap[aD]? = some (.cells #[.slice none 0 0, .int .i64 0, .slice none 0 0, .slice none 0 0] 77 (0, 0))) := ⟨h4_⟩
   have n5_ : qAb (w.heap.size ≤ aD) := ⟨h5_⟩
   have n6_ : qAb (w.heap.size ≤ aD) := ⟨h6_⟩
   have n7_ : qAb (aC ≠ aD) := ⟨h7_⟩
   have n8_ : qAb (aD ≠ aC) := ⟨h8_⟩
   have n9_ : qAb (aG ≠ aD) := ⟨h9_⟩
   have n10_ : qAb (aD ≠ aG) := ⟨h10_⟩
   have n11_ : qAb (Below w.heap.size w bK) := ⟨h11_⟩
   clear aA aE HB h0_ h1_ h2_ h3_ h4_ h5_ h6_ h7_ h8_ h9_ h10_ h11_
   have aX := n0_
   have ak := n1_
   have aA := n2_
   have aE := n3_
   have aI := n4_
   have a7 := n6_
   have aH := n7_
   have aJ := n9_
   have HB := n11_
   clear n0_ n1_ n2_ n3_ n4_ n5_ n6_ n7_ n8_ n9_ n10_ n11_
   have hHeld : bK.cell? ⟨aC, 0, none⟩ = some (.slice aQ l0_0.length aU) ∧ bK.cell? ⟨aC, 1, none⟩ = some (.int .i64 a0_1) ∧ bK.cell? ⟨aC, 2, none⟩ = some (.slice aT l0_2.length aV) ∧ bK.cell? ⟨aC, 3, none⟩ = some (.slice aY l0_3.length aW) := hS_
   obtain ⟨ah, ai, bX⟩ := Kd.R_slice aX.o
   (subst bX)
   obtain ⟨ap, aq, ci⟩ := Kd.R_slice ak.o
   (subst ci)
   refine qC1 (a' := ?_) ?_ ?_
   rotate_left
   ·simp only [qBA, Act.put, List.setIfInBounds_toArray, List.set_cons_zero, List.set_cons_succ]
    rfl
   refine one_ (i := 15) (N := none) (mK 16 65535) rfl rfl (qBv HT_.o (by kernel_rfl)) (by decide) (fun K hK => ?_)
   have hs19 := c1_ bK aI.o
   have hfs19 := qAg aI.o 0
   obtain ⟨-, hs20⟩ := c2_ bK aI.o
   have hfs20 := qAg aI.o 1
   obtain ⟨-, -, hs21⟩ := c3_ bK aI.o
   have hfs21 := qAg aI.o 2
   obtain ⟨-, -, -, hs22⟩ := c4_ bK aI.o
   have hfs22 := qAg aI.o 3
   refine skip_ (w1 := ?_) (by rfl) rfl ?_ ?_
   rotate_left
   ·go_simp
    rfl
   refine hK.o _ _ ⟨((qEz (p := ⟨aD, _, none⟩) aH.o _).trans ((qEz (p := ⟨aD, _, none⟩) aH.o _).trans ((qEz (p := ⟨aD, _, none⟩) aH.o _).trans ((qEz (p := ⟨aD, _, none⟩) aH.o _).trans (hHeld.1))))), ((qEz (p := ⟨aD, _, none⟩) aH.o _).trans ((qEz (p := ⟨aD, _, none⟩) aH.o _).trans ((qEz (p := ⟨aD, _, none⟩) aH.o _).trans ((qEz (p := ⟨aD, _, none⟩) aH.o _).trans (hHeld.2.1))))), ((qEz (p := ⟨aD, _, none⟩) aH.o _).trans ((qEz (p := ⟨aD, _, none⟩) aH.o _).trans ((qEz (p := ⟨aD, _, none⟩) aH.o _).trans ((qEz (p := ⟨aD, _, none⟩) aH.o _).trans (hHeld.2.2.1))))), ((qEz (p := ⟨aD, _, none⟩) aH.o _).trans ((qEz (p := ⟨aD, _, none⟩) aH.o _).trans ((qEz (p := ⟨aD, _, none⟩) aH.o _).trans ((qEz (p := ⟨aD, _, none⟩) aH.o _).trans (hHeld.2.2.2)))))⟩ (fun hHeld => ?_)
   clear hK K
   refine done_ (qD1 HT_.o (by kernel_rfl)) ?_
   try go_wp2
   go_loopg [4] k (fun kq v4 w' => ∃ (a4 : Int) (ac : List (S115)) (al : Value), v4 = .int .i64 a4 ∧ qAb (qAm.l0 kq a4 l0_0 a0_1 l0_2 l0_3 a5 a0_1 ag ac = some (r1, r2, r3, r4)) ∧ qAb (kq ≤ k) ∧ qAb (Kd.R (Kd.int .i64) 3 w' w.heap.size (fun k_ => some k_ ≠ ((.slice ap ag.length aq) : Value).ownBlock) (.slice ah a5.length ai) a5) ∧ qAb (Kd.R (Kd.int .i64) 3 w' w.heap.size (fun k_ => some k_ ≠ ((.slice ah a5.length ai) : Value).ownBlock) (.slice ap ag.length aq) ag) ∧ qAb (Kd.R k115 115 w' w.heap.size (fun _ => True) al ac) ∧ qAb (w'.heap[aC]? = some (.cells #[(.slice aQ l0_0.length aU), .int .i64 a0_1, (.slice aT l0_2.length aV), (.slice aY l0_3.length aW)] 98 (0, 0))) ∧ qAb (w'.heap[aG]? = some (.cells #[(.slice none 0 0), .int .i64 0, (.slice none 0 0), (.slice none 0 0)] 77 (0, 0))) ∧ qAb (w'.heap[aD]? = some (.cells #[(.slice ah a5.length ai), .int .i64 a0_1, (.slice ap ag.length aq), al] 77 (0, 0))) ∧ qAb (Below w.heap.size w w'))
   case atStart => exact ⟨(0), ([] : List (S115)), (.slice none 0 0), (by rfl), H', ⟨Nat.le_refl _⟩, ⟨by exact Kd.R_mono (Kd.R_far (p := ⟨aD, 3, none⟩) (Kd.R_far (p := ⟨aD, 2, none⟩) (Kd.R_far (p := ⟨aD, 1, none⟩) (Kd.R_far (p := ⟨aD, 0, none⟩) (Kd.R_types aX.o aI.o (by decide)) (fun _ hk => hk.2) (.slice ah a5.length ai)) (fun _ hk => hk.2) (.int .i64 a0_1)) (fun _ hk => hk.2) (.slice ap ag.length aq)) (fun _ hk => hk.2) (.slice none 0 0)) (fun _ hk => hk.1)⟩, ⟨by exact Kd.R_mono (Kd.R_far (p := ⟨aD, 3, none⟩) (Kd.R_far (p := ⟨aD, 2, none⟩) (Kd.R_far (p := ⟨aD, 1, none⟩) (Kd.R_far (p := ⟨aD, 0, none⟩) (Kd.R_types ak.o aI.o (by decide)) (fun _ hk => hk.2) (.slice ah a5.length ai)) (fun _ hk => hk.2) (.int .i64 a0_1)) (fun _ hk => hk.2) (.slice ap ag.length aq)) (fun _ hk => hk.2) (.slice none 0 0)) (fun _ hk => hk.1)⟩, ⟨by (exact Kd.R_nil _ _ _ _ _)⟩, ⟨by refine qAu ?_ aH.o _; refine qAu ?_ aH.o _; refine qAu ?_ aH.o _; refine qAu ?_ aH.o _; exact aA.o⟩, ⟨by refine qAu ?_ aJ.o _; refine qAu ?_ aJ.o _; refine qAu ?_ aJ.o _; refine qAu ?_ aJ.o _; exact aE.o⟩, ⟨by refine qAx (cs := #[.slice ah a5.length ai, .int .i64 a0_1, .slice ap ag.length aq, .slice none 0 0]) ?_ 3 _ rfl; refine qAx (cs := #[.slice ah a5.length ai, .int .i64 a0_1, .slice none 0 0, .slice none 0 0]) ?_ 2 _ rfl; refine qAx (cs := #[.slice ah a5.length ai, .int .i64 0, .slice none 0 0, .slice none 0 0]) ?_ 1 _ rfl; refine qAx (cs := #[.slice none 0 0, .int .i64 0, .slice none 0 0, .slice none 0 0]) ?_ 0 _ rfl; exact aI.o⟩, ⟨by repeat (with_reducible first | exact HB.o | refine qAs ?_ a7.o)⟩⟩
   case round =>
    clear H'
    obtain ⟨a4, ac, al, rfl, HA, cp, ad, ae, a6, aA, aE, aI, HB⟩ := hrel
    cases gk with
    | zero => exact absurd HA.o (by simp [qAm.l0])
    | succ k1 =>
     have H := HA.o
     clear HA
     simp only [qAm.l0] at H
     by_cases cC : a4 < (l0_3.length : Int)
     rotate_left
     ·rw [if_neg cC] at H
      replace cC := d0 cC
      simp only [Option.some.injEq, Prod.mk.injEq] at H
      obtain ⟨rfl, rfl, rfl, rfl⟩ := H
      obtain ⟨-, -, -, cP⟩ := c4_ wr aA.o
      obtain ⟨cQ, cR, cS, cT⟩ := c4_ wr aI.o
      obtain ⟨cU, cV, cW, cX⟩ := c4_ wr aE.o
      obtain ⟨cY, cZ, c0, c1⟩ := z4_ aE.o
      obtain ⟨b5, b9, ck⟩ := Kd.R_slice a6.o
      subst ck
      go_wp2
      refine bodyPost_ret (results_cell_row rfl _ _ aG 77 #[.slice ah a5.length ai, .int .i64 a0_1, .slice ap ag.length aq, .slice b5 ac.length b9] (0, 0) _ rfl (by refine qAx (cs := #[.slice ah a5.length ai, .int .i64 a0_1, .slice ap ag.length aq, .slice none 0 0]) ?_ 3 _ rfl; refine qAx (cs := #[.slice ah a5.length ai, .int .i64 a0_1, .slice none 0 0, .slice none 0 0]) ?_ 2 _ rfl; refine qAx (cs := #[.slice ah a5.length ai, .int .i64 0, .slice none 0 0, .slice none 0 0]) ?_ 1 _ rfl; refine qAx (cs := #[.slice none 0 0, .int .i64 0, .slice none 0 0, .slice none 0 0]) ?_ 0 _ rfl; exact aE.o) Try.underlying77 rfl (by kernel_rfl)) rfl ?_
      exact ⟨_, _, _, by rfl, by exact Kd.R_mono (Kd.R_far (p := ⟨aG, 3, none⟩) (Kd.R_far (p := ⟨aG, 2, none⟩) (Kd.R_far (p := ⟨aG, 1, none⟩) (Kd.R_far (p := ⟨aG, 0, none⟩) (Kd.R_types ad.o aE.o (by decide)) (fun _ hk => hk.2) (.slice ah a5.length ai)) (fun _ hk => hk.2) (.int .i64 a0_1)) (fun _ hk => hk.2) (.slice ap ag.length aq)) (fun _ hk => hk.2) (.slice b5 ac.length b9)) (fun _ hk => hk.1), by exact Kd.R_mono (Kd.R_far (p := ⟨aG, 3, none⟩) (Kd.R_far (p := ⟨aG, 2, none⟩) (Kd.R_far (p := ⟨aG, 1, none⟩) (Kd.R_far (p := ⟨aG, 0, none⟩) (Kd.R_types ae.o aE.o (by decide)) (fun _ hk => hk.2) (.slice ah a5.length ai)) (fun _ hk => hk.2) (.int .i64 a0_1)) (fun _ hk => hk.2) (.slice ap ag.length aq)) (fun _ hk => hk.2) (.slice b5 ac.length b9)) (fun _ hk => hk.1), by exact Kd.R_mono (Kd.R_far (p := ⟨aG, 3, none⟩) (Kd.R_far (p := ⟨aG, 2, none⟩) (Kd.R_far (p := ⟨aG, 1, none⟩) (Kd.R_far (p := ⟨aG, 0, none⟩) (Kd.R_types a6.o aE.o (by decide)) (fun _ hk => hk.2) (.slice ah a5.length ai)) (fun _ hk => hk.2) (.int .i64 a0_1)) (fun _ hk => hk.2) (.slice ap ag.length aq)) (fun _ hk => hk.2) (.slice b5 ac.length b9)) (fun _ hk => trivial), by repeat (with_reducible first | exact HB.o | refine qAs ?_ cE.o)⟩
     rw [if_pos cC] at H
     replace cC := d1 cC
     obtain ⟨cM, H⟩ := gd H
     replace cM := d1 cM
     obtain ⟨cN, H⟩ := gd H
     have cF := am cN
     clear cN
     obtain ⟨bT, b2⟩ : ∃ y_ : List (S115), y_ = (ac ++ [(⟨(qAP l0_3 a4).f0, (qAP l0_3 a4).f1, (⟨(qAP l0_3 a4).f2.f0, (qAP l0_3 a4).f2.f1⟩ : S69)⟩ : S115)]) := ⟨_, rfl⟩
     replace H : (qAm.l0 k1 (wrap64 (a4 + 1)) l0_0 a0_1 l0_2 l0_3 a5 a0_1 ag bT) = some (r1, r2, r3, r4) := by (rw [b2]; with_reducible exact H)
     have cH := am b2
     clear b2
     have H' := am H
     clear H
     obtain ⟨-, -, -, cO⟩ := c4_ wr aA.o
     try go_wp2
     have n_ := a2 (Kd.R_drew ad.o) (a2 (Kd.R_drew ae.o) (a2 (Kd.R_drew a6.o) (a2 (qBg aA.o) (a2 (qBg aE.o) (a2 (qBg aI.o) (am (qAL HB.o)))))))
     clear ad ae a6 aA aE aI HB
     obtain ⟨ad, ae, a6, aA, aE, aI, HB⟩ := n_
     have bw : 0 ≤ (a4 : Int) := of_decide_eq_true (by (with_reducible assumption))
     have bz : a4 < (l0_3.length : Int) := of_decide_eq_true (by (with_reducible assumption))
     obtain ⟨ab, cd, ar, au, av, aw⟩ := at_T150 bV.o a4 bw bz
     have hw325_3 := aw
     have hw325_2 := av
     have hw325_1 := au
     have hw325_0 := ar
     cases cd
     replace ar := (HB.o.cell (World.block_lt_of_cell? w _ ar)).trans ar
     replace au := (HB.o.cell (World.block_lt_of_cell? w _ au)).trans au
     replace av := (HB.o.cell (World.block_lt_of_cell? w _ av)).trans av
     replace aw := (HB.o.cell (World.block_lt_of_cell? w _ aw)).trans aw
     replace bw := eq_true bw
     replace bz := eq_true bz
     have cl : 0 ≤ (a4 : Int) := of_decide_eq_true (by (with_reducible assumption))
     have cn : a4 < (l0_3.length : Int) := of_decide_eq_true (by (with_reducible assumption))
     obtain ⟨cI, ce, ax, ay, az, bA⟩ := at_T150 bV.o a4 cl cn
     have hw326_3 := bA
     have hw326_2 := az
     have hw326_1 := ay
     have hw326_0 := ax
     obtain rfl : ab = cI := (by injection ce)
     replace ax := (HB.o.cell (World.block_lt_of_cell? w _ ax)).trans ax
     replace ay := (HB.o.cell (World.block_lt_of_cell? w _ ay)).trans ay
     replace az := (HB.o.cell (World.block_lt_of_cell? w _ az)).trans az
     replace bA := (HB.o.cell (World.block_lt_of_cell? w _ bA)).trans bA
     have cm : 0 ≤ (a4 : Int) := of_decide_eq_true (by (with_reducible assumption))
     have co : a4 < (l0_3.length : Int) := of_decide_eq_true (by (with_reducible assumption))
     obtain ⟨cJ, cf, bB, bC, bD, bE⟩ := at_T150 bV.o a4 cm co
     have hw327_3 := bE
     have hw327_2 := bD
     have hw327_1 := bC
     have hw327_0 := bB
     obtain rfl : ab = cJ := (by injection cf)
     replace bB := (HB.o.cell (World.block_lt_of_cell? w _ bB)).trans bB
     replace bC := (HB.o.cell (World.block_lt_of_cell? w _ bC)).trans bC
     replace bD := (HB.o.cell (World.block_lt_of_cell? w _ bD)).trans bD
     replace bE := (HB.o.cell (World.block_lt_of_cell? w _ bE)).trans bE
     refine start_ (n := 25) (S := fun w' => w'.cell? ⟨aD, 0, none⟩ = some (.slice ah a5.length ai) ∧ w'.cell? ⟨aD, 1, none⟩ = some (.int .i64 a0_1) ∧ w'.cell? ⟨aD, 2, none⟩ = some (.slice ap ag.length aq) ∧ w'.cell? ⟨aD, 3, none⟩ = some (al) ∧ w'.cell? ⟨aC, 0, none⟩ = some (.slice aQ l0_0.length aU) ∧ w'.cell? ⟨aC, 1, none⟩ = some (.int .i64 a0_1) ∧ w'.cell? ⟨aC, 2, none⟩ = some (.slice aT l0_2.length aV) ∧ w'.cell? ⟨aC, 3, none⟩ = some (.slice (some ab) l0_3.length aW) ∧ w'.cell? (ab.add ((a4).toNat * 4)) = some (.int .i64 ((qAP l0_3 a4).f0)) ∧ w'.cell? ⟨(ab.add ((a4).toNat * 4)).block, (ab.add ((a4).toNat * 4)).off + 1, none⟩ = some (.int .i64 ((qAP l0_3 a4).f1)) ∧ w'.cell? ⟨(ab.add ((a4).toNat * 4)).block, (ab.add ((a4).toNat * 4)).off + 2, none⟩ = some (.int .i64 ((qAP l0_3 a4).f2.f0)) ∧ w'.cell? ⟨(ab.add ((a4).toNat * 4)).block, (ab.add ((a4).toNat * 4)).off + 3, none⟩ = some (.int .u64 ((qAP l0_3 a4).f2.f1)) ∧ w'.cell? (ab.add ((a4).toNat * 4)) = some (.int .i64 ((qAP l0_3 a4).f0)) ∧ w'.cell? ⟨(ab.add ((a4).toNat * 4)).block, (ab.add ((a4).toNat * 4)).off + 1, none⟩ = some (.int .i64 ((qAP l0_3 a4).f1)) ∧ w'.cell? ⟨(ab.add ((a4).toNat * 4)).block, (ab.add ((a4).toNat * 4)).off + 2, none⟩ = some (.int .i64 ((qAP l0_3 a4).f2.f0)) ∧ w'.cell? ⟨(ab.add ((a4).toNat * 4)).block, (ab.add ((a4).toNat * 4)).off + 3, none⟩ = some (.int .u64 ((qAP l0_3 a4).f2.f1)) ∧ w'.cell? (ab.add ((a4).toNat * 4)) = some (.int .i64 ((qAP l0_3 a4).f0)) ∧ w'.cell? ⟨(ab.add ((a4).toNat * 4)).block, (ab.add ((a4).toNat * 4)).off + 1, none⟩ = some (.int .i64 ((qAP l0_3 a4).f1)) ∧ w'.cell? ⟨(ab.add ((a4).toNat * 4)).block, (ab.add ((a4).toNat * 4)).off + 2, none⟩ = some (.int .i64 ((qAP l0_3 a4).f2.f0)) ∧ w'.cell? ⟨(ab.add ((a4).toNat * 4)).block, (ab.add ((a4).toNat * 4)).off + 3, none⟩ = some (.int .u64 ((qAP l0_3 a4).f2.f1))) (ds := [24]) (mK 25 0) (by kernel_rfl) rfl rfl ⟨(qAa aI.o 0).trans rfl, (qAa aI.o 1).trans rfl, (qAa aI.o 2).trans rfl, (qAa aI.o 3).trans rfl, (qAa aA.o 0).trans rfl, (qAa aA.o 1).trans rfl, (qAa aA.o 2).trans rfl, (qAa aA.o 3).trans rfl, ((HB.o.cell (World.block_lt_of_cell? w _ hw325_0)).trans hw325_0), ((HB.o.cell (World.block_lt_of_cell? w _ hw325_1)).trans hw325_1), ((HB.o.cell (World.block_lt_of_cell? w _ hw325_2)).trans hw325_2), ((HB.o.cell (World.block_lt_of_cell? w _ hw325_3)).trans hw325_3), ((HB.o.cell (World.block_lt_of_cell? w _ hw326_0)).trans hw326_0), ((HB.o.cell (World.block_lt_of_cell? w _ hw326_1)).trans hw326_1), ((HB.o.cell (World.block_lt_of_cell? w _ hw326_2)).trans hw326_2), ((HB.o.cell (World.block_lt_of_cell? w _ hw326_3)).trans hw326_3), ((HB.o.cell (World.block_lt_of_cell? w _ hw327_0)).trans hw327_0), ((HB.o.cell (World.block_lt_of_cell? w _ hw327_1)).trans hw327_1), ((HB.o.cell (World.block_lt_of_cell? w _ hw327_2)).trans hw327_2), ((HB.o.cell (World.block_lt_of_cell? w _ hw327_3)).trans hw327_3)⟩ (fun hHeld => ?_); refine qCz qAm.tab5 qAm.bits5 (fun HT_ HW_ => ?_)
     generalize wr.drew = cu at ad ae a6 aA aE aI HB ar au av aw ax ay az bA bB bC bD bE hHeld ⊢
     refine pu 0 26 (mK 25 1) (qAR HT_.o (by kernel_rfl)) ?_
     refine pu 2 28 (mK 25 5) (qAR HT_.o (by kernel_rfl)) ?_
     refine pu 4 30 (mK 25 21) (qAR HT_.o (by kernel_rfl)) ?_
     refine pu 8 34 (mK 25 277) (qAR HT_.o (by kernel_rfl)) ?_
     refine pu 10 36 (mK 25 1301) (qAR HT_.o (by kernel_rfl)) ?_
     refine pu 14 40 (mK 25 17685) (qAR HT_.o (by kernel_rfl)) ?_
     refine pu 16 42 (mK 25 83221) (qAR HT_.o (by kernel_rfl)) ?_
     refine tk 1 27 (mK 25 83223) (qBk HT_.o HW_.o (by kernel_rfl)) hHeld ?_
     refine tk 3 29 (mK 25 83231) (qBk HT_.o HW_.o (by kernel_rfl)) hHeld ?_
     refine pu 5 31 (mK 25 83263) (qAR HT_.o (by kernel_rfl)) ?_
     refine pu 6 32 (mK 25 83327) (qAR HT_.o (by kernel_rfl)) ?_
     refine tk 7 33 (mK 25 83455) (qBk HT_.o HW_.o (by kernel_rfl)) hHeld ?_
     refine tk 9 35 (mK 25 83967) (qBk HT_.o HW_.o (by kernel_rfl)) hHeld ?_
     refine pu 11 37 (mK 25 86015) (qAR HT_.o (by kernel_rfl)) ?_
     refine pu 12 38 (mK 25 90111) (qAR HT_.o (by kernel_rfl)) ?_
     refine tk 13 39 (mK 25 98303) (qBk HT_.o HW_.o (by kernel_rfl)) hHeld ?_
     refine tk 15 41 (mK 25 131071) (qBk HT_.o HW_.o (by kernel_rfl)) hHeld ?_
     refine pu 17 43 (mK 25 262143) (qAR HT_.o (by kernel_rfl)) ?_
     refine pu 18 44 (mK 25 524287) (qAR HT_.o (by kernel_rfl)) ?_
     refine tk 19 45 (mK 25 1048575) (qBk HT_.o HW_.o (by kernel_rfl)) hHeld ?_
     refine pu 20 46 (mK 25 2097151) (qAR HT_.o (by kernel_rfl)) ?_
     refine one_ (i := 21) (N := some 47) (mK 25 4194303) rfl rfl (qBv HT_.o (by kernel_rfl)) (by decide) (fun K hK => ?_)
     refine value_ (w1 := ?_) (v := ?_) (by rfl) rfl ?_ ?_
     rotate_left 2
     ·go_simp
      constructor
      ·rfl
      rfl
     refine hK.o _ _ ⟨(qAa (qAG aI.o _) 0).trans rfl, (qAa (qAG aI.o _) 1).trans rfl, (qAa (qAG aI.o _) 2).trans rfl, (qAa (qAG aI.o _) 3).trans rfl, (qAa (qAG aA.o _) 0).trans rfl, (qAa (qAG aA.o _) 1).trans rfl, (qAa (qAG aA.o _) 2).trans rfl, (qAa (qAG aA.o _) 3).trans rfl, (World.cell?_alloc_lt _ _ _ (World.block_lt_of_cell? _ _ ((HB.o.cell (World.block_lt_of_cell? w _ hw325_0)).trans hw325_0))).trans ((HB.o.cell (World.block_lt_of_cell? w _ hw325_0)).trans hw325_0), (World.cell?_alloc_lt _ _ _ (World.block_lt_of_cell? _ _ ((HB.o.cell (World.block_lt_of_cell? w _ hw325_1)).trans hw325_1))).trans ((HB.o.cell (World.block_lt_of_cell? w _ hw325_1)).trans hw325_1), (World.cell?_alloc_lt _ _ _ (World.block_lt_of_cell? _ _ ((HB.o.cell (World.block_lt_of_cell? w _ hw325_2)).trans hw325_2))).trans ((HB.o.cell (World.block_lt_of_cell? w _ hw325_2)).trans hw325_2), (World.cell?_alloc_lt _ _ _ (World.block_lt_of_cell? _ _ ((HB.o.cell (World.block_lt_of_cell? w _ hw325_3)).trans hw325_3))).trans ((HB.o.cell (World.block_lt_of_cell? w _ hw325_3)).trans hw325_3), (World.cell?_alloc_lt _ _ _ (World.block_lt_of_cell? _ _ ((HB.o.cell (World.block_lt_of_cell? w _ hw326_0)).trans hw326_0))).trans ((HB.o.cell (World.block_lt_of_cell? w _ hw326_0)).trans hw326_0), (World.cell?_alloc_lt _ _ _ (World.block_lt_of_cell? _ _ ((HB.o.cell (World.block_lt_of_cell? w _ hw326_1)).trans hw326_1))).trans ((HB.o.cell (World.block_lt_of_cell? w _ hw326_1)).trans hw326_1), (World.cell?_alloc_lt _ _ _ (World.block_lt_of_cell? _ _ ((HB.o.cell (World.block_lt_of_cell? w _ hw326_2)).trans hw326_2))).trans ((HB.o.cell (World.block_lt_of_cell? w _ hw326_2)).trans hw326_2), (World.cell?_alloc_lt _ _ _ (World.block_lt_of_cell? _ _ ((HB.o.cell (World.block_lt_of_cell? w _ hw326_3)).trans hw326_3))).trans ((HB.o.cell (World.block_lt_of_cell? w _ hw326_3)).trans hw326_3), (World.cell?_alloc_lt _ _ _ (World.block_lt_of_cell? _ _ ((HB.o.cell (World.block_lt_of_cell? w _ hw327_0)).trans hw327_0))).trans ((HB.o.cell (World.block_lt_of_cell? w _ hw327_0)).trans hw327_0), (World.cell?_alloc_lt _ _ _ (World.block_lt_of_cell? _ _ ((HB.o.cell (World.block_lt_of_cell? w _ hw327_1)).trans hw327_1))).trans ((HB.o.cell (World.block_lt_of_cell? w _ hw327_1)).trans hw327_1), (World.cell?_alloc_lt _ _ _ (World.block_lt_of_cell? _ _ ((HB.o.cell (World.block_lt_of_cell? w _ hw327_2)).trans hw327_2))).trans ((HB.o.cell (World.block_lt_of_cell? w _ hw327_2)).trans hw327_2), (World.cell?_alloc_lt _ _ _ (World.block_lt_of_cell? _ _ ((HB.o.cell (World.block_lt_of_cell? w _ hw327_3)).trans hw327_3))).trans ((HB.o.cell (World.block_lt_of_cell? w _ hw327_3)).trans hw327_3)⟩ (fun hHeld => ?_)
     clear hK K
     refine nm ?_
     refine one_ (i := 22) (N := some 48) (mK 25 8388607) rfl rfl (qBv HT_.o (by kernel_rfl)) (by decide) (fun K hK => ?_)
     refine Kd.R_append_step k115 (w0 := w) w.heap.size (by rfl) (.tmp 27) (.tmp 47) 75 115 (.agg #[(.int .i64 0), (.int .i64 0), (.int .i64 0), (.int .u64 0)]) 32 rfl Try.underlying75 info115 rfl (by decide) (by omega) al ac (⟨(qAP l0_3 a4).f0, (qAP l0_3 a4).f1, (⟨(qAP l0_3 a4).f2.f0, (qAP l0_3 a4).f2.f1⟩ : S69)⟩ : S115) [.int .i64 ((qAP l0_3 a4).f0), .int .i64 ((qAP l0_3 a4).f1), .int .i64 ((qAP l0_3 a4).f2.f0), .int .u64 ((qAP l0_3 a4).f2.f1)] (fun _ => True) (fun _ => False) rfl rfl ?aP (fun _ hk => hk.elim) ?aF ?aO ?aB ?aS ?aL ?_
     (case aP => exact qDS _ _ _ (⟨(qAP l0_3 a4).f0, (qAP l0_3 a4).f1, (⟨(qAP l0_3 a4).f2.f0, (qAP l0_3 a4).f2.f1⟩ : S69)⟩ : S115))
     (case aB => exact (by repeat (exact HB.o)))
     (case aF => exact (fun _ _ => trivial))
     (case aO => exact (by exact a6.o))
     (case aS => exact (qAf (by repeat (exact HB.o))))
     (case aL => have := cF.o; omega)
     intro cr cv ho hb hg bH
     rw [← cH.o] at ho
     have n_ := a2 (Kd.R_over' (by exact ad.o) (Kd.R_typed (by exact a6.o)) (by decide) hg) (a2 (Kd.R_over' (by exact ae.o) (Kd.R_typed (by exact a6.o)) (by decide) hg) (a2 (qA6 (g := aC) (o := .cells #[.slice aQ l0_0.length aU, .int .i64 a0_1, .slice aT l0_2.length aV, .slice (some ab) l0_3.length aW] 98 (0, 0)) (by exact aA.o) hg (Kd.R_ne a6.o aA.o (by decide))) (a2 (qA6 (g := aG) (o := .cells #[.slice none 0 0, .int .i64 0, .slice none 0 0, .slice none 0 0] 77 (0, 0)) (by exact aE.o) hg (Kd.R_ne a6.o aE.o (by decide))) (a2 (qA6 (g := aD) (o := .cells #[.slice ah a5.length ai, .int .i64 a0_1, .slice ap ag.length aq, al] 77 (0, 0)) (by exact aI.o) hg (Kd.R_ne a6.o aI.o (by decide))) (a2 (hb) (am (ho)))))))
     clear ad ae aA aE aI HB a6
     obtain ⟨ad, ae, aA, aE, aI, HB, bd⟩ := n_
     clear ho hb hg bH
     obtain ⟨b4, b8, cj⟩ := Kd.R_slice bd.o
     (subst cj)
     refine hK.o _ _ ⟨(qAa aI.o 0).trans rfl, (qAa aI.o 1).trans rfl, (qAa aI.o 2).trans rfl, (qAa aI.o 3).trans rfl, (qAa aA.o 0).trans rfl, (qAa aA.o 1).trans rfl, (qAa aA.o 2).trans rfl, (qAa aA.o 3).trans rfl, ((HB.o.cell (World.block_lt_of_cell? w _ hw325_0)).trans hw325_0), ((HB.o.cell (World.block_lt_of_cell? w _ hw325_1)).trans hw325_1), ((HB.o.cell (World.block_lt_of_cell? w _ hw325_2)).trans hw325_2), ((HB.o.cell (World.block_lt_of_cell? w _ hw325_3)).trans hw325_3), ((HB.o.cell (World.block_lt_of_cell? w _ hw326_0)).trans hw326_0), ((HB.o.cell (World.block_lt_of_cell? w _ hw326_1)).trans hw326_1), ((HB.o.cell (World.block_lt_of_cell? w _ hw326_2)).trans hw326_2), ((HB.o.cell (World.block_lt_of_cell? w _ hw326_3)).trans hw326_3), ((HB.o.cell (World.block_lt_of_cell? w _ hw327_0)).trans hw327_0), ((HB.o.cell (World.block_lt_of_cell? w _ hw327_1)).trans hw327_1), ((HB.o.cell (World.block_lt_of_cell? w _ hw327_2)).trans hw327_2), ((HB.o.cell (World.block_lt_of_cell? w _ hw327_3)).trans hw327_3)⟩ (fun hHeld => ?_)
     clear hK K
     refine nm ?_
     refine pu 23 49 (mK 25 16777215) (qAR HT_.o (by kernel_rfl)) ?_
     refine last_ (i := 24) (N := none) (mK 25 33554431) rfl rfl (qBv HT_.o (by kernel_rfl)) (by decide) (fun K hK => ?_)
     have hfs32 := qAg aI.o 3
     refine skip_ (w1 := ?_) (by rfl) rfl ?_ ?_
     rotate_left
     ·go_simp
      rfl
     refine hK.o _ _ ?_
     clear hK K
     refine done_ (qD1 HT_.o (by kernel_rfl)) ?_
     try go_wp2
     go_roundg k1
     case measure => have := cp.o; omega
     case rel => exact ⟨(wrap64 (a4 + 1)), (bT), (.slice b4 bT.length b8), (by rfl), H', ⟨by have := cp.o; omega⟩, ⟨by exact Kd.R_mono (Kd.R_far (p := ⟨aD, 3, none⟩) (Kd.R_types ad.o aI.o (by decide)) (fun _ hk => hk.2) (.slice b4 bT.length b8)) (fun _ hk => hk.1)⟩, ⟨by exact Kd.R_mono (Kd.R_far (p := ⟨aD, 3, none⟩) (Kd.R_types ae.o aI.o (by decide)) (fun _ hk => hk.2) (.slice b4 bT.length b8)) (fun _ hk => hk.1)⟩, ⟨by exact Kd.R_mono (Kd.R_far (p := ⟨aD, 3, none⟩) (Kd.R_types bd.o aI.o (by decide)) (fun _ hk => hk.2) (.slice b4 bT.length b8)) (fun _ hk => trivial)⟩, ⟨by refine qAu ?_ aH.o _; exact aA.o⟩, ⟨by refine qAu ?_ aJ.o _; exact aE.o⟩, ⟨by refine qAx (cs := #[.slice ah a5.length ai, .int .i64 a0_1, .slice ap ag.length aq, al]) ?_ 3 _ rfl; exact aI.o⟩, ⟨by repeat (with_reducible first | exact HB.o | refine qAs ?_ a7.o)⟩⟩
  ·rw [if_neg c3] at H
   exact absurd H (by simp)
 ·rw [if_neg c2] at H
  exact absurd H (by simp)
def qAn.l0 : Nat → Int → List (S69) → List (S98) → Int → List (S69) → List (S77) → Int → Option ((List (S69)) × (List (S77)) × Int)
 | 0, _, _, _, _, _, _, _ => none
 | k + 1, x4, bY, a6, bZ, bC, ag, bD => if x4 < (a6.length : Int) then (if 0 ≤ x4 then ((qAm.f k ((qBh a6 x4).f0.f0) ((qBh a6 x4).f0.f1) ((qBh a6 x4).f1) ((qBh a6 x4).f2)).bind fun av => (if ag.length < 1759218604441 then (qAn.l0 k (wrap64 (x4 + 1)) bY a6 bZ bC (ag ++ [(⟨(⟨av.1, av.2.1⟩ : S74), av.2.2.1, av.2.2.2⟩ : S77)]) bD) else (none))) else (none)) else (some (bC, ag, bD))
def qAn.f (k : Nat) (l0_0 : List (S69)) (l0_1 : List (S98)) (a0_2 : Int) : Option ((List (S69)) × (List (S77)) × Int) := (some (([] : List (S69)) : List (S69))).bind fun ae => (if ae.length + l0_0.length < 8796093022208 then (qAn.l0 k 0 l0_0 l0_1 a0_2 (ae ++ l0_0) ([] : List (S77)) a0_2) else (none))
def qAn.T1 : Bool × List (List Nat × List Nat) := (true, [([], []), ([], []), ([1], [1]), ([0, 2], [0, 2]), ([], []), ([4], [4]), ([3, 5], [3, 5]), ([], []), ([7, 6, 3, 0, 1, 2, 3, 4, 5, 6, 7], [6, 7])])
def qAn.B1 : List Nat := [0, 0, 2, 7, 0, 16, 63, 0, 255]
theorem qAn.tab1 : rtab .any (opsOf Try.f15 1) = qAn.T1 := by kernel_rfl
theorem qAn.bits1 : qCl qAn.T1.2 qAn.B1 = true := by kernel_rfl
def qAn.T5 : Bool × List (List Nat × List Nat) := (true, [([], []), ([0], [0]), ([], []), ([2], [2]), ([], []), ([3, 4], [3, 4]), ([5], [5]), ([6], [6]), ([7], [7]), ([1, 8, 7], [1, 8]), ([0, 1, 2, 3, 4, 5, 6, 7, 8, 9], []), ([10, 9, 9, 0, 1, 2, 3, 4, 5, 6, 7, 8, 9], [9, 10])])
def qAn.B5 : List Nat := [0, 1, 0, 4, 0, 28, 60, 124, 252, 511, 1023, 2047]
theorem qAn.tab5 : rtab .any (opsOf Try.f15 5) = qAn.T5 := by kernel_rfl
theorem qAn.bits5 : qCl qAn.T5.2 qAn.B5 = true := by kernel_rfl
theorem qAn.calls (k : Nat) (aV : Option Addr) (aW : Nat) (l0_0 : List (S69)) (aY : Option Addr) (aX : Nat) (l0_1 : List (S98)) (a0_2 : Int) (r1 : List (S69)) (r2 : List (S77)) (r3 : Int) (w : World) (hr0_0 : Kd.C k69 w aV l0_0.length l0_0) (hc0_0 : l0_0.length ≤ aW) (hr0_1 : Kd.C k98 w aY l0_1.length l0_1) (hc0_1 : l0_1.length ≤ aX) (h : qAn.f k l0_0 l0_1 a0_2 = some (r1, r2, r3)) :
  Calls Try.prog 15 #[.agg #[.slice aV l0_0.length aW, .slice aY l0_1.length aX, .int .i64 a0_2]] w fun e w' => ∃ v0_ v1_ : Value, e = .returned (.agg #[v0_, v1_, .int .i64 r3]) ∧ Kd.R k69 69 w' w.heap.size (fun _ => True) v0_ r1 ∧ Kd.S k77 77 w' w.heap.size (fun _ => True) v1_ r2 ∧ Below w.heap.size w w' := by
 have bI := am hr0_0
 clear hr0_0 hc0_0
 have bj := am hr0_1
 clear hr0_1 hc0_1
 have HB := am (Below.refl w.heap.size w)
 have H : ((some (([] : List (S69)) : List (S69))).bind fun ae => (if ae.length + l0_0.length < 8796093022208 then (qAn.l0 k 0 l0_0 l0_1 a0_2 (ae ++ l0_0) ([] : List (S77)) a0_2) else (none))) = some (r1, r2, r3) := h
 clear h
 obtain ⟨ae, bN⟩ : ∃ y_ : List (S69), y_ = (([] : List (S69))) := ⟨_, rfl⟩
 replace H : (if ae.length + l0_0.length < 8796093022208 then (qAn.l0 k 0 l0_0 l0_1 a0_2 (ae ++ l0_0) ([] : List (S77)) a0_2) else (none)) = some (r1, r2, r3) := by (have H2_ := (Option.bind_some _ _).symm.trans H; rw [bN]; with_reducible exact H2_)
 have b1 := am bN
 clear bN
 by_cases c2 : ae.length + l0_0.length < 8796093022208
 ·rw [if_pos c2] at H
  have b4 := am c2
  clear c2
  obtain ⟨aZ, bO⟩ : ∃ y_ : List (S69), y_ = (ae ++ l0_0) := ⟨_, rfl⟩
  replace H : (qAn.l0 k 0 l0_0 l0_1 a0_2 aZ ([] : List (S77)) a0_2) = some (r1, r2, r3) := by (rw [bO]; with_reducible exact H)
  have bJ := am bO
  clear bO
  have H' := am H
  clear H
  go_enter Try.func15, Try.ntmps15
  try go_wp2_with (first | ((with_reducible refine qAC (N := 1) rfl ?_); refine bx 1 #[.slice aV l0_0.length aW, .slice aY l0_1.length aX, .int .i64 a0_2] 53 ?_; intro aI hg w3 hbox hb; have n_ := a2 (qAk (by repeat ((exact HB.o))) hb) (am (hbox)); clear HB; obtain ⟨HB, aA⟩ := n_; clear hb hbox hg) | ((with_reducible refine qAC (N := 2) rfl ?_); refine bx 2 #[.slice none 0 0, .slice none 0 0, .int .i64 0] 47 ?_; intro aJ hg w4 hbox hb; have n_ := a2 (qAe (g := aI) (o := .cells #[.slice aV l0_0.length aW, .slice aY l0_1.length aX, .int .i64 a0_2] 53 (0, 0)) (by exact aA.o) hb) (a2 (qAk (by repeat ((exact HB.o))) hb) (a2 (hbox) (am ((by rw [hg]; exact (qAf (by repeat ((exact HB.o)))) : w.heap.size ≤ aJ))))); clear aA HB; obtain ⟨aA, HB, aC, bi⟩ := n_; clear hb hbox hg))
  have n_ := a2 (qBg aA.o) (a2 (qBg aC.o) (am (qAL HB.o)))
  clear aA aC HB
  obtain ⟨aA, aC, HB⟩ := n_
  refine start_ (n := 9) (S := fun w' => w'.cell? ⟨aI, 0, none⟩ = some (.slice aV l0_0.length aW) ∧ w'.cell? ⟨aI, 1, none⟩ = some (.slice aY l0_1.length aX) ∧ w'.cell? ⟨aI, 2, none⟩ = some (.int .i64 a0_2)) (ds := []) (mK 9 0) (by kernel_rfl) rfl rfl (c3_ _ aA.o) (fun hHeld => ?_); refine qCz qAn.tab1 qAn.bits1 (fun HT_ HW_ => ?_)
  generalize w4.drew = w5 at aA aC HB hHeld ⊢
  refine pu 1 6 (mK 9 2) (qAR HT_.o (by kernel_rfl)) ?_
  refine pu 4 9 (mK 9 18) (qAR HT_.o (by kernel_rfl)) ?_
  refine tk 2 7 (mK 9 22) (qBk HT_.o HW_.o (by kernel_rfl)) hHeld ?_
  refine tk 5 10 (mK 9 54) (qBk HT_.o HW_.o (by kernel_rfl)) hHeld ?_
  refine qDl (σ := Value × Value × Nat) 1 (mK 9 255) (fun s_ => [(5, s_.1), (8, s_.2.1), (3, .pointer (some ⟨s_.2.2, 0, none⟩)), (11, .agg #[s_.2.1, .slice none 0 0, .int .i64 a0_2])]) (fun s_ w' => (w'.cell? ⟨aI, 0, none⟩ = some (.slice aV l0_0.length aW) ∧ w'.cell? ⟨aI, 1, none⟩ = some (.slice aY l0_1.length aX) ∧ w'.cell? ⟨aI, 2, none⟩ = some (.int .i64 a0_2)) ∧ (Kd.R k69 69 w' w.heap.size (fun _ => True) s_.2.1 aZ) ∧ (w'.heap[aI]? = some (.cells #[.slice aV l0_0.length aW, .slice aY l0_1.length aX, .int .i64 a0_2] 53 (0, 0))) ∧ (w'.heap[aJ]? = some (.cells #[.slice none 0 0, .slice none 0 0, .int .i64 0] 47 (0, 0))) ∧ (w'.heap[s_.2.2]? = some (.cells #[.slice none 0 0, .slice none 0 0, .int .i64 0] 47 (0, 0))) ∧ (w.heap.size ≤ s_.2.2) ∧ (w.heap.size ≤ s_.2.2) ∧ (aI ≠ s_.2.2) ∧ (s_.2.2 ≠ aI) ∧ (aJ ≠ s_.2.2) ∧ (s_.2.2 ≠ aJ) ∧ (Below w.heap.size w w')) ?_ ?_
  rotate_left
  ·intro hCont
   refine two_ (i := 0) (j := 7) (Ni := some 5) (Nj := some 3) (mK 9 55) (mK 9 182) rfl rfl rfl rfl (qDI HT_.o (by kernel_rfl)) (by decide) (by decide) (fun K hK => ?_) (fun K hK => ?_)
   ·skip
    refine Kd.R_lit_step k69 _ 69 ?hg (N := 5) ?hd (xs := ([] : List (S69))) (inner := []) (ok := fun _ => True) (okp := fun _ => True) ?hr ?hp (fun _ hk => hk) trivial (Below.refl _ _) (Nat.le_refl _) (by simp) ?_; (case hd => rfl); (case hg => rfl); (case hr => (go_simp; done)); (case hp => exact (Reps.none _ _))
    intro ai w6 cT hb hg_ hnew_
    clear hg_ hnew_
    ((rw [← b1.o] at cT))
    have n_ := a2 (Kd.R_lower cT (qAf (by repeat ((exact HB.o))))) (a2 (qAe (g := aI) (o := .cells #[.slice aV l0_0.length aW, .slice aY l0_1.length aX, .int .i64 a0_2] 53 (0, 0)) (by exact aA.o) hb) (a2 (qAe (g := aJ) (o := .cells #[.slice none 0 0, .slice none 0 0, .int .i64 0] 47 (0, 0)) (by exact aC.o) hb) (am (qAk (by repeat ((exact HB.o))) hb))))
    clear aA aC HB
    obtain ⟨aU, aA, aC, HB⟩ := n_
    clear hb cT
    refine hK.o _ _ (c3_ _ aA.o) (fun hHeld => ?_)
    clear hK K
    refine nm ?_
    refine two_ (i := 3) (j := 7) (Ni := some 8) (Nj := some 3) (mK 9 63) (mK 9 183) rfl rfl rfl rfl (qDI HT_.o (by kernel_rfl)) (by decide) (by decide) (fun K hK => ?_) (fun K hK => ?_)
    ·skip
     refine Kd.R_append_rows_step k69 (w0 := w) w.heap.size (by rfl) (.tmp 5) (.tmp 7) 44 69 (.agg #[(.int .i64 0), (.int .u64 0)]) 16 rfl Try.underlying44 info69 rfl (by decide) (by omega) ai ae l0_0 _ _ _ (fun _ => True) (fun _ => False) rfl rfl ?aO ?aR (fun _ _ h => h) (fun _ h => h.elim) ?aF ?aB ?aS ?aL ?_
     (case aR => repeat ((exact (Kd.C_below bI.o HB.o))))
     (case aB => exact (by repeat ((exact HB.o))))
     (case aF => exact (fun _ _ => trivial))
     (case aO => exact (by exact aU.o))
     (case aS => exact (qAf (by repeat ((exact HB.o)))))
     (case aL => have := b4.o; omega)
     intro bX w8 ho hb hg b8
     rw [← bJ.o] at ho
     have n_ := a2 (qA6 (g := aI) (o := .cells #[.slice aV l0_0.length aW, .slice aY l0_1.length aX, .int .i64 a0_2] 53 (0, 0)) (by exact aA.o) hg (Kd.R_ne aU.o aA.o (by decide))) (a2 (qA6 (g := aJ) (o := .cells #[.slice none 0 0, .slice none 0 0, .int .i64 0] 47 (0, 0)) (by exact aC.o) hg (Kd.R_ne aU.o aC.o (by decide))) (a2 (hb) (am (ho))))
     clear aA aC HB aU
     obtain ⟨aA, aC, HB, a3⟩ := n_
     clear ho hb hg b8
     obtain ⟨cY, cZ, c0⟩ := Kd.R_slice a3.o
     ((subst c0))
     refine hK.o _ _ (c3_ _ aA.o) (fun hHeld => ?_)
     clear hK K
     refine nm ?_
     refine pu 6 11 (mK 9 127) (qAR HT_.o (by kernel_rfl)) ?_
     refine one_ (i := 7) (N := some 3) (mK 9 255) rfl rfl (qBv HT_.o (by kernel_rfl)) (by decide) (fun K hK => ?_)
     refine qBN ?hg (N := 3) ?hd (cs := #[.slice none 0 0, .slice none 0 0, .int .i64 0]) (t := 47) ?hr ?_; (case hd => rfl); (case hg => rfl); (case hr => (go_simp; done))
     intro aE hg ce hbox hb
     have n_ := a2 (Kd.R_below (by exact a3.o) hb) (a2 (qAe (g := aI) (o := .cells #[.slice aV l0_0.length aW, .slice aY l0_1.length aX, .int .i64 a0_2] 53 (0, 0)) (by exact aA.o) hb) (a2 (qAe (g := aJ) (o := .cells #[.slice none 0 0, .slice none 0 0, .int .i64 0] 47 (0, 0)) (by exact aC.o) hb) (a2 (qAk (by repeat ((exact HB.o))) hb) (a2 (hbox) (a2 ((by rw [hg]; exact (qAf (by repeat ((exact HB.o)))) : w.heap.size ≤ aE)) (a2 ((by rw [hg]; exact (qAf (by repeat ((exact HB.o)))) : w.heap.size ≤ aE)) (a2 ((by rw [hg]; exact Nat.ne_of_lt (qAt (g := aI) (o := .cells #[.slice aV l0_0.length aW, .slice aY l0_1.length aX, .int .i64 a0_2] 53 (0, 0)) (by exact aA.o)) : aI ≠ aE)) (a2 ((by rw [hg]; exact Nat.ne_of_gt (qAt (g := aI) (o := .cells #[.slice aV l0_0.length aW, .slice aY l0_1.length aX, .int .i64 a0_2] 53 (0, 0)) (by exact aA.o)) : aE ≠ aI)) (a2 ((by rw [hg]; exact Nat.ne_of_lt (qAt (g := aJ) (o := .cells #[.slice none 0 0, .slice none 0 0, .int .i64 0] 47 (0, 0)) (by exact aC.o)) : aJ ≠ aE)) (am ((by rw [hg]; exact Nat.ne_of_gt (qAt (g := aJ) (o := .cells #[.slice none 0 0, .slice none 0 0, .int .i64 0] 47 (0, 0)) (by exact aC.o)) : aE ≠ aJ))))))))))))
     clear a3 aA aC HB
     obtain ⟨a3, aA, aC, HB, aD, ah, af, aH, a4, aN, a5⟩ := n_
     clear hb hbox hg
     refine hK.o _ _ (c3_ _ aA.o) (fun hHeld => ?_)
     clear hK K
     refine nm ?_
     exact qC1 (by simp only [qBA, Act.put, List.setIfInBounds_toArray, List.set_cons_zero, List.set_cons_succ]) (hCont (ai, .slice cY aZ.length cZ, aE) _ ⟨hHeld, (by exact a3.o), (by exact aA.o), (by exact aC.o), (by exact aD.o), ah.o, af.o, aH.o, a4.o, aN.o, a5.o, (by repeat ((exact HB.o)))⟩)
    ·skip
     refine qBN ?hg (N := 3) ?hd (cs := #[.slice none 0 0, .slice none 0 0, .int .i64 0]) (t := 47) ?hr ?_; (case hd => rfl); (case hg => rfl); (case hr => (go_simp; done))
     intro aE hg w8 hbox hb
     have n_ := a2 (Kd.R_below (by exact aU.o) hb) (a2 (qAe (g := aI) (o := .cells #[.slice aV l0_0.length aW, .slice aY l0_1.length aX, .int .i64 a0_2] 53 (0, 0)) (by exact aA.o) hb) (a2 (qAe (g := aJ) (o := .cells #[.slice none 0 0, .slice none 0 0, .int .i64 0] 47 (0, 0)) (by exact aC.o) hb) (a2 (qAk (by repeat ((exact HB.o))) hb) (a2 (hbox) (a2 ((by rw [hg]; exact (qAf (by repeat ((exact HB.o)))) : w.heap.size ≤ aE)) (a2 ((by rw [hg]; exact (qAf (by repeat ((exact HB.o)))) : w.heap.size ≤ aE)) (a2 ((by rw [hg]; exact Nat.ne_of_lt (qAt (g := aI) (o := .cells #[.slice aV l0_0.length aW, .slice aY l0_1.length aX, .int .i64 a0_2] 53 (0, 0)) (by exact aA.o)) : aI ≠ aE)) (a2 ((by rw [hg]; exact Nat.ne_of_gt (qAt (g := aI) (o := .cells #[.slice aV l0_0.length aW, .slice aY l0_1.length aX, .int .i64 a0_2] 53 (0, 0)) (by exact aA.o)) : aE ≠ aI)) (a2 ((by rw [hg]; exact Nat.ne_of_lt (qAt (g := aJ) (o := .cells #[.slice none 0 0, .slice none 0 0, .int .i64 0] 47 (0, 0)) (by exact aC.o)) : aJ ≠ aE)) (am ((by rw [hg]; exact Nat.ne_of_gt (qAt (g := aJ) (o := .cells #[.slice none 0 0, .slice none 0 0, .int .i64 0] 47 (0, 0)) (by exact aC.o)) : aE ≠ aJ))))))))))))
     clear aU aA aC HB
     obtain ⟨aU, aA, aC, HB, aD, ah, af, aH, a4, aN, a5⟩ := n_
     clear hb hbox hg
     refine hK.o _ _ (c3_ _ aA.o) (fun hHeld => ?_)
     clear hK K
     refine nm ?_
     refine one_ (i := 3) (N := some 8) (mK 9 191) rfl rfl (qBv HT_.o (by kernel_rfl)) (by decide) (fun K hK => ?_)
     refine Kd.R_append_rows_step k69 (w0 := w) w.heap.size (by rfl) (.tmp 5) (.tmp 7) 44 69 (.agg #[(.int .i64 0), (.int .u64 0)]) 16 rfl Try.underlying44 info69 rfl (by decide) (by omega) ai ae l0_0 _ _ _ (fun _ => True) (fun _ => False) rfl rfl ?aO ?aR (fun _ _ h => h) (fun _ h => h.elim) ?aF ?aB ?aS ?aL ?_
     (case aR => repeat ((exact (Kd.C_below bI.o HB.o))))
     (case aB => exact (by repeat ((exact HB.o))))
     (case aF => exact (fun _ _ => trivial))
     (case aO => exact (by exact aU.o))
     (case aS => exact (qAf (by repeat ((exact HB.o)))))
     (case aL => have := b4.o; omega)
     intro bX w9 ho hb hg b8
     rw [← bJ.o] at ho
     have n_ := a2 (qA6 (g := aI) (o := .cells #[.slice aV l0_0.length aW, .slice aY l0_1.length aX, .int .i64 a0_2] 53 (0, 0)) (by exact aA.o) hg (Kd.R_ne aU.o aA.o (by decide))) (a2 (qA6 (g := aJ) (o := .cells #[.slice none 0 0, .slice none 0 0, .int .i64 0] 47 (0, 0)) (by exact aC.o) hg (Kd.R_ne aU.o aC.o (by decide))) (a2 (qA6 (g := aE) (o := .cells #[.slice none 0 0, .slice none 0 0, .int .i64 0] 47 (0, 0)) (by exact aD.o) hg (Kd.R_ne aU.o aD.o (by decide))) (a2 (hb) (am (ho)))))
     clear aA aC aD HB aU
     obtain ⟨aA, aC, aD, HB, a3⟩ := n_
     clear ho hb hg b8
     obtain ⟨b2, b5, b7⟩ := Kd.R_slice a3.o
     ((subst b7))
     refine hK.o _ _ (c3_ _ aA.o) (fun hHeld => ?_)
     clear hK K
     refine nm ?_
     refine pu 6 11 (mK 9 255) (qAR HT_.o (by kernel_rfl)) ?_
     exact qC1 (by simp only [qBA, Act.put, List.setIfInBounds_toArray, List.set_cons_zero, List.set_cons_succ]) (hCont (ai, .slice b2 aZ.length b5, aE) _ ⟨hHeld, (by exact a3.o), (by exact aA.o), (by exact aC.o), (by exact aD.o), ah.o, af.o, aH.o, a4.o, aN.o, a5.o, (by repeat ((exact HB.o)))⟩)
   ·skip
    refine qBN ?hg (N := 3) ?hd (cs := #[.slice none 0 0, .slice none 0 0, .int .i64 0]) (t := 47) ?hr ?_; (case hd => rfl); (case hg => rfl); (case hr => (go_simp; done))
    intro aE hg w6 hbox hb
    have n_ := a2 (qAe (g := aI) (o := .cells #[.slice aV l0_0.length aW, .slice aY l0_1.length aX, .int .i64 a0_2] 53 (0, 0)) (by exact aA.o) hb) (a2 (qAe (g := aJ) (o := .cells #[.slice none 0 0, .slice none 0 0, .int .i64 0] 47 (0, 0)) (by exact aC.o) hb) (a2 (qAk (by repeat ((exact HB.o))) hb) (a2 (hbox) (a2 ((by rw [hg]; exact (qAf (by repeat ((exact HB.o)))) : w.heap.size ≤ aE)) (a2 ((by rw [hg]; exact (qAf (by repeat ((exact HB.o)))) : w.heap.size ≤ aE)) (a2 ((by rw [hg]; exact Nat.ne_of_lt (qAt (g := aI) (o := .cells #[.slice aV l0_0.length aW, .slice aY l0_1.length aX, .int .i64 a0_2] 53 (0, 0)) (by exact aA.o)) : aI ≠ aE)) (a2 ((by rw [hg]; exact Nat.ne_of_gt (qAt (g := aI) (o := .cells #[.slice aV l0_0.length aW, .slice aY l0_1.length aX, .int .i64 a0_2] 53 (0, 0)) (by exact aA.o)) : aE ≠ aI)) (a2 ((by rw [hg]; exact Nat.ne_of_lt (qAt (g := aJ) (o := .cells #[.slice none 0 0, .slice none 0 0, .int .i64 0] 47 (0, 0)) (by exact aC.o)) : aJ ≠ aE)) (am ((by rw [hg]; exact Nat.ne_of_gt (qAt (g := aJ) (o := .cells #[.slice none 0 0, .slice none 0 0, .int .i64 0] 47 (0, 0)) (by exact aC.o)) : aE ≠ aJ)))))))))))
    clear aA aC HB
    obtain ⟨aA, aC, HB, aD, ah, af, aH, a4, aN, a5⟩ := n_
    clear hb hbox hg
    refine hK.o _ _ (c3_ _ aA.o) (fun hHeld => ?_)
    clear hK K
    refine nm ?_
    refine one_ (i := 0) (N := some 5) (mK 9 183) rfl rfl (qBv HT_.o (by kernel_rfl)) (by decide) (fun K hK => ?_)
    refine Kd.R_lit_step k69 _ 69 ?hg (N := 5) ?hd (xs := ([] : List (S69))) (inner := []) (ok := fun _ => True) (okp := fun _ => True) ?hr ?hp (fun _ hk => hk) trivial (Below.refl _ _) (Nat.le_refl _) (by simp) ?_; (case hd => rfl); (case hg => rfl); (case hr => (go_simp; done)); (case hp => exact (Reps.none _ _))
    intro ai w7 cU hb hg_ hnew_
    clear hg_ hnew_
    ((rw [← b1.o] at cU))
    have n_ := a2 (Kd.R_lower cU (qAf (by repeat ((exact HB.o))))) (a2 (qAe (g := aI) (o := .cells #[.slice aV l0_0.length aW, .slice aY l0_1.length aX, .int .i64 a0_2] 53 (0, 0)) (by exact aA.o) hb) (a2 (qAe (g := aJ) (o := .cells #[.slice none 0 0, .slice none 0 0, .int .i64 0] 47 (0, 0)) (by exact aC.o) hb) (a2 (qAe (g := aE) (o := .cells #[.slice none 0 0, .slice none 0 0, .int .i64 0] 47 (0, 0)) (by exact aD.o) hb) (am (qAk (by repeat ((exact HB.o))) hb)))))
    clear aA aC aD HB
    obtain ⟨aU, aA, aC, aD, HB⟩ := n_
    clear hb cU
    refine hK.o _ _ (c3_ _ aA.o) (fun hHeld => ?_)
    clear hK K
    refine nm ?_
    refine one_ (i := 3) (N := some 8) (mK 9 191) rfl rfl (qBv HT_.o (by kernel_rfl)) (by decide) (fun K hK => ?_)
    refine Kd.R_append_rows_step k69 (w0 := w) w.heap.size (by rfl) (.tmp 5) (.tmp 7) 44 69 (.agg #[(.int .i64 0), (.int .u64 0)]) 16 rfl Try.underlying44 info69 rfl (by decide) (by omega) ai ae l0_0 _ _ _ (fun _ => True) (fun _ => False) rfl rfl ?aO ?aR (fun _ _ h => h) (fun _ h => h.elim) ?aF ?aB ?aS ?aL ?_
    (case aR => repeat ((exact (Kd.C_below bI.o HB.o))))
    (case aB => exact (by repeat ((exact HB.o))))
    (case aF => exact (fun _ _ => trivial))
    (case aO => exact (by exact aU.o))
    (case aS => exact (qAf (by repeat ((exact HB.o)))))
    (case aL => have := b4.o; omega)
    intro bX w9 ho hb hg b8
    rw [← bJ.o] at ho
    have n_ := a2 (qA6 (g := aI) (o := .cells #[.slice aV l0_0.length aW, .slice aY l0_1.length aX, .int .i64 a0_2] 53 (0, 0)) (by exact aA.o) hg (Kd.R_ne aU.o aA.o (by decide))) (a2 (qA6 (g := aJ) (o := .cells #[.slice none 0 0, .slice none 0 0, .int .i64 0] 47 (0, 0)) (by exact aC.o) hg (Kd.R_ne aU.o aC.o (by decide))) (a2 (qA6 (g := aE) (o := .cells #[.slice none 0 0, .slice none 0 0, .int .i64 0] 47 (0, 0)) (by exact aD.o) hg (Kd.R_ne aU.o aD.o (by decide))) (a2 (hb) (am (ho)))))
    clear aA aC aD HB aU
    obtain ⟨aA, aC, aD, HB, a3⟩ := n_
    clear ho hb hg b8
    obtain ⟨b2, b5, b7⟩ := Kd.R_slice a3.o
    ((subst b7))
    refine hK.o _ _ (c3_ _ aA.o) (fun hHeld => ?_)
    clear hK K
    refine nm ?_
    refine pu 6 11 (mK 9 255) (qAR HT_.o (by kernel_rfl)) ?_
    exact qC1 (by simp only [qBA, Act.put, List.setIfInBounds_toArray, List.set_cons_zero, List.set_cons_succ]) (hCont (ai, .slice b2 aZ.length b5, aE) _ ⟨hHeld, (by exact a3.o), (by exact aA.o), (by exact aC.o), (by exact aD.o), ah.o, af.o, aH.o, a4.o, aN.o, a5.o, (by repeat ((exact HB.o)))⟩)
  rintro ⟨ai, bX, aE⟩ bQ ⟨hS_, h0_, h1_, h2_, h3_, h4_, h5_, h6_, h7_, h8_, h9_, h10_⟩
  have n0_ : qAb (Kd.R k69 69 bQ w.heap.size (fun _ => True) bX aZ) := ⟨h0_⟩
  have n1_ : qAb (bQ.heap[aI]? = some (.cells #[.slice aV l0_0.length aW, .slice aY l0_1.length aX, .int .i64 a0_2] 53 (0, 0))) := ⟨h1_⟩
  have n2_ : qAb (bQ.heap[aJ]? = some (.cells #[.slice none 0 0, .slice none 0 0, .int .i64 0] 47 (0, 0))) := ⟨h2_⟩
  have n3_ : qAb (bQ.heap[aE]? = some (.cells #[.slice none 0 0, .slice none 0 0, .int .i64 0] 47 (0, 0))) := ⟨h3_⟩
  have n4_ : qAb (w.heap.size ≤ aE) := ⟨h4_⟩
  have n5_ : qAb (w.heap.size ≤ aE) := ⟨h5_⟩
  have n6_ : qAb (aI ≠ aE) := ⟨h6_⟩
  have n7_ : qAb (aE ≠ aI) := ⟨h7_⟩
  have n8_ : qAb (aJ ≠ aE) := ⟨h8_⟩
  have n9_ : qAb (aE ≠ aJ) := ⟨h9_⟩
  have n10_ : qAb (Below w.heap.size w bQ) := ⟨h10_⟩
  clear aA
  clear aC
  clear HB
  clear h0_ h1_ h2_ h3_ h4_ h5_ h6_ h7_ h8_ h9_ h10_
  have a3 := n0_
  have aA := n1_
  have aC := n2_
  have aD := n3_
  have af := n5_
  have aH := n6_
  have aN := n8_
  have HB := n10_
  clear n0_ n1_ n2_ n3_ n4_ n5_ n6_ n7_ n8_ n9_ n10_
  have hHeld : bQ.cell? ⟨aI, 0, none⟩ = some (.slice aV l0_0.length aW) ∧ bQ.cell? ⟨aI, 1, none⟩ = some (.slice aY l0_1.length aX) ∧ bQ.cell? ⟨aI, 2, none⟩ = some (.int .i64 a0_2) := hS_
  obtain ⟨a8, a9, cK⟩ := Kd.R_slice a3.o
  ((subst cK))
  refine qC1 (a' := ?_) ?_ ?_
  rotate_left
  ·simp only [qBA, Act.put, List.setIfInBounds_toArray, List.set_cons_zero, List.set_cons_succ]
   rfl
  refine one_ (i := 8) (N := none) (mK 9 511) rfl rfl (qBv HT_.o (by kernel_rfl)) (by decide) (fun K hK => ?_)
  have hs13 := c1_ bQ aD.o
  have hfs13 := qAg aD.o 0
  obtain ⟨-, hs14⟩ := c2_ bQ aD.o
  have hfs14 := qAg aD.o 1
  obtain ⟨-, -, hs15⟩ := c3_ bQ aD.o
  have hfs15 := qAg aD.o 2
  refine skip_ (w1 := ?_) (by rfl) rfl ?_ ?_
  rotate_left
  ·go_simp
   rfl
  refine hK.o _ _ ⟨((qEz (p := ⟨aE, _, none⟩) aH.o _).trans (((qEz (p := ⟨aE, _, none⟩) aH.o _).trans (((qEz (p := ⟨aE, _, none⟩) aH.o _).trans (hHeld.1)))))), ((qEz (p := ⟨aE, _, none⟩) aH.o _).trans (((qEz (p := ⟨aE, _, none⟩) aH.o _).trans (((qEz (p := ⟨aE, _, none⟩) aH.o _).trans (hHeld.2.1)))))), ((qEz (p := ⟨aE, _, none⟩) aH.o _).trans (((qEz (p := ⟨aE, _, none⟩) aH.o _).trans (((qEz (p := ⟨aE, _, none⟩) aH.o _).trans (hHeld.2.2))))))⟩ (fun hHeld => ?_)
  clear hK K
  refine done_ (qD1 HT_.o (by kernel_rfl)) ?_
  try go_wp2
  go_loopg [4] k (fun kq v4 w' => ∃ (aT : Int) (aM : List (S77)) (aQ : Value), v4 = .int .i64 aT ∧ qAb (qAn.l0 kq aT l0_0 l0_1 a0_2 aZ aM a0_2 = some (r1, r2, r3)) ∧ qAb (kq ≤ k) ∧ qAb (Kd.R k69 69 w' w.heap.size (fun _ => True) (.slice a8 aZ.length a9) aZ) ∧ qAb (Kd.S k77 77 w' w.heap.size (fun _ => True) aQ aM) ∧ qAb (w'.heap[aI]? = some (.cells #[(.slice aV l0_0.length aW), (.slice aY l0_1.length aX), .int .i64 a0_2] 53 (0, 0))) ∧ qAb (w'.heap[aJ]? = some (.cells #[(.slice none 0 0), (.slice none 0 0), .int .i64 0] 47 (0, 0))) ∧ qAb (w'.heap[aE]? = some (.cells #[(.slice a8 aZ.length a9), aQ, .int .i64 a0_2] 47 (0, 0))) ∧ qAb (Below w.heap.size w w'))
  case atStart => exact ⟨(0), (([] : List (S77))), (.slice none 0 0), (by (rfl)), H', ⟨Nat.le_refl _⟩, ⟨by exact Kd.R_mono (Kd.R_far (p := ⟨aE, 2, none⟩) (Kd.R_far (p := ⟨aE, 1, none⟩) (Kd.R_far (p := ⟨aE, 0, none⟩) (Kd.R_types a3.o aD.o (by decide)) (fun _ hk => hk.2) (.slice a8 aZ.length a9)) (fun _ hk => hk.2) (.slice none 0 0)) (fun _ hk => hk.2) (.int .i64 a0_2)) (fun _ hk => trivial)⟩, ⟨by (exact Kd.S_nil _ _ _ _ _)⟩, ⟨by refine qAu ?_ aH.o _; refine qAu ?_ aH.o _; refine qAu ?_ aH.o _; exact aA.o⟩, ⟨by refine qAu ?_ aN.o _; refine qAu ?_ aN.o _; refine qAu ?_ aN.o _; exact aC.o⟩, ⟨by refine qAx (cs := #[.slice a8 aZ.length a9, .slice none 0 0, .int .i64 0]) ?_ 2 _ rfl; refine qAx (cs := #[.slice a8 aZ.length a9, .slice none 0 0, .int .i64 0]) ?_ 1 _ rfl; refine qAx (cs := #[.slice none 0 0, .slice none 0 0, .int .i64 0]) ?_ 0 _ rfl; exact aD.o⟩, ⟨by repeat ((with_reducible first | exact HB.o | refine qAs ?_ af.o))⟩⟩
  case round =>
   clear H'
   obtain ⟨aT, aM, aQ, rfl, HA, cV, aK, aG, aA, aC, aD, HB⟩ := hrel
   cases gk with
   | zero => exact absurd HA.o (by simp [qAn.l0])
   | succ k1 =>
    have H := HA.o
    clear HA
    simp only [qAn.l0] at H
    by_cases bb : aT < (l0_1.length : Int)
    rotate_left
    ·rw [if_neg bb] at H
     replace bb := d0 bb
     simp only [Option.some.injEq, Prod.mk.injEq] at H
     obtain ⟨rfl, rfl, rfl⟩ := H
     obtain ⟨-, bz⟩ := c2_ wr aA.o
     obtain ⟨cA, cB, cC⟩ := c3_ wr aD.o
     obtain ⟨cD, cE, cF⟩ := c3_ wr aC.o
     obtain ⟨cG, cH, cI⟩ := z3_ aC.o
     obtain ⟨bS, bW, cP⟩ := Kd.S_slice aG.o
     subst cP
     go_wp2
     refine bodyPost_ret (results_cell_row rfl _ _ aJ 47 #[.slice a8 aZ.length a9, .slice bS aM.length bW, .int .i64 a0_2] (0, 0) _ rfl (by refine qAx (cs := #[.slice a8 aZ.length a9, .slice bS aM.length bW, .int .i64 0]) ?_ 2 _ rfl; refine qAx (cs := #[.slice a8 aZ.length a9, .slice none 0 0, .int .i64 0]) ?_ 1 _ rfl; refine qAx (cs := #[.slice none 0 0, .slice none 0 0, .int .i64 0]) ?_ 0 _ rfl; exact aC.o) Try.underlying47 rfl (by kernel_rfl)) rfl ?_
     exact ⟨_, _, by (rfl), by exact Kd.R_mono (Kd.R_far (p := ⟨aJ, 2, none⟩) (Kd.R_far (p := ⟨aJ, 1, none⟩) (Kd.R_far (p := ⟨aJ, 0, none⟩) (Kd.R_types aK.o aC.o (by decide)) (fun _ hk => hk.2) (.slice a8 aZ.length a9)) (fun _ hk => hk.2) (.slice bS aM.length bW)) (fun _ hk => hk.2) (.int .i64 a0_2)) (fun _ hk => trivial), by exact Kd.S_mono (Kd.S_far (p := ⟨aJ, 2, none⟩) (Kd.S_far (p := ⟨aJ, 1, none⟩) (Kd.S_far (p := ⟨aJ, 0, none⟩) (Kd.S_types aG.o aC.o (by decide)) (fun _ hk => hk.2) (.slice a8 aZ.length a9)) (fun _ hk => hk.2) (.slice bS aM.length bW)) (fun _ hk => hk.2) (.int .i64 a0_2)) (fun _ hk => trivial), by repeat ((with_reducible first | exact HB.o | refine qAs ?_ bi.o))⟩
    rw [if_pos bb] at H
    replace bb := d1 bb
    obtain ⟨bs, H⟩ := gd H
    replace bs := d1 bs
    replace H := bm H
    obtain ⟨⟨aj, bE, ak, al⟩, bc, H⟩ := H
    replace H : (if aM.length < 1759218604441 then (qAn.l0 k1 (wrap64 (aT + 1)) l0_0 l0_1 a0_2 aZ (aM ++ [(⟨(⟨aj, bE⟩ : S74), ak, al⟩ : S77)]) a0_2) else (none)) = some (r1, r2, r3) := H
    have cX := am bc
    clear bc
    obtain ⟨bu, H⟩ := gd H
    have bk := am bu
    clear bu
    obtain ⟨bR, bP⟩ : ∃ y_ : List (S77), y_ = (aM ++ [(⟨(⟨aj, bE⟩ : S74), ak, al⟩ : S77)]) := ⟨_, rfl⟩
    replace H : (qAn.l0 k1 (wrap64 (aT + 1)) l0_0 l0_1 a0_2 aZ bR a0_2) = some (r1, r2, r3) := by (rw [bP]; with_reducible exact H)
    have bl := am bP
    clear bP
    have H' := am H
    clear H
    obtain ⟨-, bw⟩ := c2_ wr aA.o
    try go_wp2
    have n_ := a2 (Kd.R_drew aK.o) (a2 (Kd.S_drew aG.o) (a2 (qBg aA.o) (a2 (qBg aC.o) (a2 (qBg aD.o) (am (qAL HB.o))))))
    clear aK aG aA aC aD HB
    obtain ⟨aK, aG, aA, aC, aD, HB⟩ := n_
    have b9 : 0 ≤ (aT : Int) := of_decide_eq_true (by (with_reducible assumption))
    have ba : aT < (l0_1.length : Int) := of_decide_eq_true (by (with_reducible assumption))
    obtain ⟨a7, bF, bK, bG, bL, bH, bM, cJ, aa, ab, ac, ad, az, aw, bA, ax, bB, ay⟩ := at_T98 bj.o aT b9 ba
    have hw618_3 := ad
    have hw618_2 := ac
    have hw618_1 := ab
    have hw618_0 := aa
    cases cJ
    replace aa := (HB.o.cell (World.block_lt_of_cell? w _ aa)).trans aa
    replace ab := (HB.o.cell (World.block_lt_of_cell? w _ ab)).trans ab
    replace ac := (HB.o.cell (World.block_lt_of_cell? w _ ac)).trans ac
    replace ad := (HB.o.cell (World.block_lt_of_cell? w _ ad)).trans ad
    have aq := am aw
    have bT := am az
    clear aw az
    have ar := am ax
    have bU := am bA
    clear ax bA
    have au := am ay
    have bV := am bB
    clear ay bB
    replace b9 := eq_true b9
    replace ba := eq_true ba
    refine start_ (n := 12) (S := fun w' => w'.cell? ⟨aE, 0, none⟩ = some (.slice a8 aZ.length a9) ∧ w'.cell? ⟨aE, 1, none⟩ = some (aQ) ∧ w'.cell? ⟨aE, 2, none⟩ = some (.int .i64 a0_2) ∧ w'.cell? ⟨aI, 0, none⟩ = some (.slice aV l0_0.length aW) ∧ w'.cell? ⟨aI, 1, none⟩ = some (.slice (some a7) l0_1.length aX) ∧ w'.cell? ⟨aI, 2, none⟩ = some (.int .i64 a0_2) ∧ w'.cell? (a7.add ((aT).toNat * 4)) = some (.slice bF ((qBh l0_1 aT).f0.f0).length bK) ∧ w'.cell? ⟨(a7.add ((aT).toNat * 4)).block, (a7.add ((aT).toNat * 4)).off + 1, none⟩ = some (.int .i64 ((qBh l0_1 aT).f0.f1)) ∧ w'.cell? ⟨(a7.add ((aT).toNat * 4)).block, (a7.add ((aT).toNat * 4)).off + 2, none⟩ = some (.slice bG ((qBh l0_1 aT).f1).length bL) ∧ w'.cell? ⟨(a7.add ((aT).toNat * 4)).block, (a7.add ((aT).toNat * 4)).off + 3, none⟩ = some (.slice bH ((qBh l0_1 aT).f2).length bM)) (ds := [11]) (mK 12 0) (by kernel_rfl) rfl rfl ⟨(qAa aD.o 0).trans rfl, (qAa aD.o 1).trans rfl, (qAa aD.o 2).trans rfl, (qAa aA.o 0).trans rfl, (qAa aA.o 1).trans rfl, (qAa aA.o 2).trans rfl, ((HB.o.cell (World.block_lt_of_cell? w _ hw618_0)).trans hw618_0), ((HB.o.cell (World.block_lt_of_cell? w _ hw618_1)).trans hw618_1), ((HB.o.cell (World.block_lt_of_cell? w _ hw618_2)).trans hw618_2), ((HB.o.cell (World.block_lt_of_cell? w _ hw618_3)).trans hw618_3)⟩ (fun hHeld => ?_); refine qCz qAn.tab5 qAn.bits5 (fun HT_ HW_ => ?_)
    generalize wr.drew = cf at aK aG aA aC aD HB aq ar au aa ab ac ad hHeld ⊢
    refine pu 0 19 (mK 12 1) (qAR HT_.o (by kernel_rfl)) ?_
    refine pu 2 21 (mK 12 5) (qAR HT_.o (by kernel_rfl)) ?_
    refine pu 4 23 (mK 12 21) (qAR HT_.o (by kernel_rfl)) ?_
    refine tk 1 20 (mK 12 23) (qBk HT_.o HW_.o (by kernel_rfl)) hHeld ?_
    refine tk 3 22 (mK 12 31) (qBk HT_.o HW_.o (by kernel_rfl)) hHeld ?_
    refine pu 5 24 (mK 12 63) (qAR HT_.o (by kernel_rfl)) ?_
    refine tk 6 25 (mK 12 127) (qBk HT_.o HW_.o (by kernel_rfl)) hHeld ?_
    refine one_ (i := 7) (N := some 26) (mK 12 255) rfl rfl (qBv HT_.o (by kernel_rfl)) (by decide) (fun K hK => ?_)
    refine goes_ Try.func37 (by kernel_rfl) rfl #[.agg #[.slice bF ((qBh l0_1 aT).f0.f0).length bK, .int .i64 ((qBh l0_1 aT).f0.f1), .slice bG ((qBh l0_1 aT).f1).length bL, .slice bH ((qBh l0_1 aT).f2).length bM]] (by rfl) rfl rfl (by (try simp only [List.map_toArray, List.map_cons, List.map_nil]); (rfl)) ?_
    with_reducible refine (qAm.calls k1 _ _ ((qBh l0_1 aT).f0.f0) ((qBh l0_1 aT).f0.f1) _ _ ((qBh l0_1 aT).f1) _ _ ((qBh l0_1 aT).f2) aj bE ak al _ ?side1 ?side2 ?side3 ?side4 ?side5 ?side6 cX.o).mono ?_
    (case side1 => repeat ((exact (Kd.C_below aq.o HB.o))))
    (case side2 => exact bT.o)
    (case side3 => repeat ((exact (Kd.C_below ar.o HB.o))))
    (case side4 => exact bU.o)
    (case side5 => repeat ((exact (Kd.C_below au.o HB.o))))
    (case side6 => exact bV.o)
    rintro e cg ⟨c1, ca, cc, rfl, cQ, cR, cS, hb⟩
    refine ⟨_, rfl, ?_⟩
    have n_ := a2 (Kd.R_below (by exact aK.o) hb) (a2 (Kd.S_mono (Kd.S_told (Kd.S_told (Kd.S_told (Kd.S_old (by exact aG.o) hb) (Kd.R_base cQ)) (Kd.R_base cR)) (Kd.R_base cS)) (fun _ h_ => h_.1)) (a2 (Kd.R_lower cQ (qAf (by repeat ((exact HB.o))))) (a2 (Kd.R_lower cR (qAf (by repeat ((exact HB.o))))) (a2 (Kd.R_lower cS (qAf (by repeat ((exact HB.o))))) (a2 (qAe (g := aI) (o := .cells #[.slice aV l0_0.length aW, .slice (some a7) l0_1.length aX, .int .i64 a0_2] 53 (0, 0)) (by exact aA.o) hb) (a2 (qAe (g := aJ) (o := .cells #[.slice none 0 0, .slice none 0 0, .int .i64 0] 47 (0, 0)) (by exact aC.o) hb) (a2 (qAe (g := aE) (o := .cells #[.slice a8 aZ.length a9, aQ, .int .i64 a0_2] 47 (0, 0)) (by exact aD.o) hb) (am (qAk (by repeat ((exact HB.o))) hb)))))))))
    clear aK aG aA aC aD HB
    obtain ⟨aK, aG, an, ao, ap, aA, aC, aD, HB⟩ := n_
    (try clear hb)
    (skip)
    (skip)
    (skip)
    (try clear cQ)
    (try clear cR)
    (try clear cS)
    obtain ⟨bd, bp, cL⟩ := Kd.R_slice an.o
    ((subst cL))
    obtain ⟨bg, bq, cM⟩ := Kd.R_slice ao.o
    ((subst cM))
    obtain ⟨bh, br, cN⟩ := Kd.R_slice ap.o
    ((subst cN))
    refine hK.o _ _ ⟨(qAa aD.o 0).trans rfl, (qAa aD.o 1).trans rfl, (qAa aD.o 2).trans rfl, (qAa aA.o 0).trans rfl, (qAa aA.o 1).trans rfl, (qAa aA.o 2).trans rfl, ((HB.o.cell (World.block_lt_of_cell? w _ hw618_0)).trans hw618_0), ((HB.o.cell (World.block_lt_of_cell? w _ hw618_1)).trans hw618_1), ((HB.o.cell (World.block_lt_of_cell? w _ hw618_2)).trans hw618_2), ((HB.o.cell (World.block_lt_of_cell? w _ hw618_3)).trans hw618_3)⟩ (fun hHeld => ?_)
    clear hK K
    refine nm ?_
    refine one_ (i := 8) (N := some 27) (mK 12 511) rfl rfl (qBv HT_.o (by kernel_rfl)) (by decide) (fun K hK => ?_)
    refine value_ (w1 := ?_) (v := ?_) (by rfl) rfl ?_ ?_
    rotate_left 2
    ·go_simp
     constructor
     ·rfl
     rfl
    refine hK.o _ _ ⟨(qAa (qAG aD.o _) 0).trans rfl, (qAa (qAG aD.o _) 1).trans rfl, (qAa (qAG aD.o _) 2).trans rfl, (qAa (qAG aA.o _) 0).trans rfl, (qAa (qAG aA.o _) 1).trans rfl, (qAa (qAG aA.o _) 2).trans rfl, (World.cell?_alloc_lt _ _ _ (World.block_lt_of_cell? _ _ (((HB.o.cell (World.block_lt_of_cell? w _ hw618_0)).trans hw618_0)))).trans (((HB.o.cell (World.block_lt_of_cell? w _ hw618_0)).trans hw618_0)), (World.cell?_alloc_lt _ _ _ (World.block_lt_of_cell? _ _ (((HB.o.cell (World.block_lt_of_cell? w _ hw618_1)).trans hw618_1)))).trans (((HB.o.cell (World.block_lt_of_cell? w _ hw618_1)).trans hw618_1)), (World.cell?_alloc_lt _ _ _ (World.block_lt_of_cell? _ _ (((HB.o.cell (World.block_lt_of_cell? w _ hw618_2)).trans hw618_2)))).trans (((HB.o.cell (World.block_lt_of_cell? w _ hw618_2)).trans hw618_2)), (World.cell?_alloc_lt _ _ _ (World.block_lt_of_cell? _ _ (((HB.o.cell (World.block_lt_of_cell? w _ hw618_3)).trans hw618_3)))).trans (((HB.o.cell (World.block_lt_of_cell? w _ hw618_3)).trans hw618_3))⟩ (fun hHeld => ?_)
    clear hK K
    refine nm ?_
    refine one_ (i := 9) (N := some 28) (mK 12 1023) rfl rfl (qBv HT_.o (by kernel_rfl)) (by decide) (fun K hK => ?_)
    refine Kd.S_append_step k77 (w0 := w) w.heap.size (by rfl) (.tmp 20) (.tmp 27) 45 77 (.agg #[(.slice none 0 0), (.int .i64 0), (.slice none 0 0), (.slice none 0 0)]) 80 rfl Try.underlying45 info77 rfl (by decide) (by omega) aQ aM (⟨(⟨aj, bE⟩ : S74), ak, al⟩ : S77) [.slice bd aj.length bp, .int .i64 bE, .slice bg ak.length bq, .slice bh al.length br] (fun _ => True) (fun k_ => some k_ = (.slice bd aj.length bp : Value).ownBlock ∨ some k_ = (.slice bg ak.length bq : Value).ownBlock ∨ some k_ = (.slice bh al.length br : Value).ownBlock) rfl rfl ?aP (fun k_ hk_ => hk_.elim (fun h_ => ((Kd.R_mono (ok' := fun k_ => ((fun _ => True)) k_ ∧ some k_ ≠ (aQ : Value).ownBlock) (Kd.R_apart' (an.o) (Kd.S_typed aG.o) (by decide)) (fun k_ hk => ⟨trivial, hk.2⟩))).1 k_ h_.symm) (fun h_ => h_.elim (fun h_ => ((Kd.R_mono (ok' := fun k_ => ((fun _ => True)) k_ ∧ some k_ ≠ (aQ : Value).ownBlock) (Kd.R_apart' (ao.o) (Kd.S_typed aG.o) (by decide)) (fun k_ hk => ⟨trivial, hk.2⟩))).1 k_ h_.symm) (fun h_ => ((Kd.R_mono (ok' := fun k_ => ((fun _ => True)) k_ ∧ some k_ ≠ (aQ : Value).ownBlock) (Kd.R_apart' (ap.o) (Kd.S_typed aG.o) (by decide)) (fun k_ hk => ⟨trivial, hk.2⟩))).1 k_ h_.symm))) ?aF ?aO ?aB ?aS ?aL ?_
    (case aP => exact k77_mkM _ _ _ (⟨(⟨aj, bE⟩ : S74), ak, al⟩ : S77) (Kd.R_mono (Kd.R_tight rfl (Kd.R_mono (ok' := fun k_ => ((fun _ => True)) k_ ∧ some k_ ≠ (aQ : Value).ownBlock) (Kd.R_apart' (an.o) (Kd.S_typed aG.o) (by decide)) (fun k_ hk => ⟨trivial, hk.2⟩))) (fun _ h_ => Or.inl h_)) (Kd.R_mono (Kd.R_tight rfl (Kd.R_mono (ok' := fun k_ => ((fun _ => True)) k_ ∧ some k_ ≠ (aQ : Value).ownBlock) (Kd.R_apart' (ao.o) (Kd.S_typed aG.o) (by decide)) (fun k_ hk => ⟨trivial, hk.2⟩))) (fun _ h_ => Or.inr (Or.inl h_))) (Kd.R_mono (Kd.R_tight rfl (Kd.R_mono (ok' := fun k_ => ((fun _ => True)) k_ ∧ some k_ ≠ (aQ : Value).ownBlock) (Kd.R_apart' (ap.o) (Kd.S_typed aG.o) (by decide)) (fun k_ hk => ⟨trivial, hk.2⟩))) (fun _ h_ => Or.inr (Or.inr (h_)))))
    (case aB => exact (by repeat ((exact HB.o))))
    (case aF => exact (fun _ _ => trivial))
    (case aO => exact (by exact Kd.S_mono aG.o (fun k_ hk => ⟨trivial, fun e_ => e_.elim (fun h_ => hk.1.1.2 h_) (fun h_ => h_.elim (fun h_ => hk.1.2 h_) (fun h_ => hk.2 h_))⟩)))
    (case aS => exact (qAf (by repeat ((exact HB.o)))))
    (case aL => have := bk.o; omega)
    intro cd ch ho hb hg b8
    rw [← bl.o] at ho
    have n_ := a2 (Kd.R_over' (by exact aK.o) (Kd.S_typed (by exact aG.o)) (by decide) hg) (a2 (qA6 (g := aI) (o := .cells #[.slice aV l0_0.length aW, .slice (some a7) l0_1.length aX, .int .i64 a0_2] 53 (0, 0)) (by exact aA.o) hg (Kd.S_ne aG.o aA.o (by decide))) (a2 (qA6 (g := aJ) (o := .cells #[.slice none 0 0, .slice none 0 0, .int .i64 0] 47 (0, 0)) (by exact aC.o) hg (Kd.S_ne aG.o aC.o (by decide))) (a2 (qA6 (g := aE) (o := .cells #[.slice a8 aZ.length a9, aQ, .int .i64 a0_2] 47 (0, 0)) (by exact aD.o) hg (Kd.S_ne aG.o aD.o (by decide))) (a2 (hb) (am (ho))))))
    clear aK aA aC aD HB aG an ao ap
    obtain ⟨aK, aA, aC, aD, HB, b0⟩ := n_
    clear ho hb hg b8
    obtain ⟨b3, b6, cO⟩ := Kd.S_slice b0.o
    ((subst cO))
    refine hK.o _ _ ⟨(qAa aD.o 0).trans rfl, (qAa aD.o 1).trans rfl, (qAa aD.o 2).trans rfl, (qAa aA.o 0).trans rfl, (qAa aA.o 1).trans rfl, (qAa aA.o 2).trans rfl, ((HB.o.cell (World.block_lt_of_cell? w _ hw618_0)).trans hw618_0), ((HB.o.cell (World.block_lt_of_cell? w _ hw618_1)).trans hw618_1), ((HB.o.cell (World.block_lt_of_cell? w _ hw618_2)).trans hw618_2), ((HB.o.cell (World.block_lt_of_cell? w _ hw618_3)).trans hw618_3)⟩ (fun hHeld => ?_)
    clear hK K
    refine nm ?_
    refine pu 10 29 (mK 12 2047) (qAR HT_.o (by kernel_rfl)) ?_
    refine last_ (i := 11) (N := none) (mK 12 4095) rfl rfl (qBv HT_.o (by kernel_rfl)) (by decide) (fun K hK => ?_)
    have hfs30 := qAg aD.o 1
    refine skip_ (w1 := ?_) (by rfl) rfl ?_ ?_
    rotate_left
    ·go_simp
     rfl
    refine hK.o _ _ ?_
    clear hK K
    refine done_ (qD1 HT_.o (by kernel_rfl)) ?_
    try go_wp2
    go_roundg k1
    case measure => have := cV.o; omega
    case rel => exact ⟨(wrap64 (aT + 1)), (bR), (.slice b3 bR.length b6), (by (rfl)), H', ⟨by have := cV.o; omega⟩, ⟨by exact Kd.R_mono (Kd.R_far (p := ⟨aE, 1, none⟩) (Kd.R_types aK.o aD.o (by decide)) (fun _ hk => hk.2) (.slice b3 bR.length b6)) (fun _ hk => trivial)⟩, ⟨by exact Kd.S_mono (Kd.S_far (p := ⟨aE, 1, none⟩) (Kd.S_types b0.o aD.o (by decide)) (fun _ hk => hk.2) (.slice b3 bR.length b6)) (fun _ hk => trivial)⟩, ⟨by refine qAu ?_ aH.o _; exact aA.o⟩, ⟨by refine qAu ?_ aN.o _; exact aC.o⟩, ⟨by refine qAx (cs := #[.slice a8 aZ.length a9, aQ, .int .i64 a0_2]) ?_ 1 _ rfl; exact aD.o⟩, ⟨by repeat ((with_reducible first | exact HB.o | refine qAs ?_ af.o))⟩⟩
 ·rw [if_neg c2] at H
  exact absurd H (by simp)
end Q
end
section
namespace Q
open Go.RowKit YA YC YB
open Val Ins
namespace IOwn
def ofRI (x : S150) : S115 := ⟨x.f0, x.f1, x.f2⟩
def ofRF (x : S98) : S77 := ⟨⟨x.f0.f0, x.f0.f1⟩, x.f1, x.f2.map ofRI⟩
theorem wrap_add1 {i : Int} {n : Nat} (h0 : 0 ≤ i) (h : i < n) (hn : n ≤ 4611686018427387904) : wrap64 (i + 1) = i + 1 := by unfold wrap64; omega
theorem qB9 {α : Type} (l : List α) (d : α) (i : Int) (h0 : 0 ≤ i) (h : i < l.length) : l.drop i.toNat = l.getD i.toNat d :: l.drop (i + 1).toNat := by
 rw [show (i + 1).toNat = i.toNat + 1 from by omega, List.drop_eq_getElem_cons (by omega), List.getD_eq_getElem?_getD, List.getElem?_eq_getElem (by omega)]; rfl
theorem getD_mem {α : Type} (l : List α) (d : α) (i : Int) (h0 : 0 ≤ i) (h : i < l.length) : l.getD i.toNat d ∈ l := by
 rw [List.getD_eq_getElem?_getD, List.getElem?_eq_getElem (by omega)]; exact List.getElem_mem _
theorem ownfn_ev (a : List Int) (b : Int) (c : List Int) (d : List S150) (ha : a.length ≤ 1048576) (hc : c.length ≤ 1048576) (hd : d.length ≤ 1048576) : Ev (fun k => qAm.f k a b c d) (a, b, c, d.map ofRI) := by
 have loop : ∀ (n : Nat) (i : Int) (acc : List S115), 0 ≤ i → (d.length : Int) - i = n → acc.length ≤ i → Ev (fun k => qAm.l0 k i a b c d a b c acc) (a, b, c, acc ++ (d.drop i.toNat).map ofRI) := by
  intro n
  induction n with
  | zero =>
   intro i acc h0 hn hacc
   rw [List.drop_eq_nil_of_le (by omega), List.map_nil, List.append_nil]
   refine Ev.step (f := fun _ => some (a, b, c, acc)) (fun k => ?_) (Ev.now _)
   simp only [qAm.l0]
   rw [if_neg (by omega)]
  | succ n ih =>
   intro i acc h0 hn hacc
   have hw := wrap_add1 (n := d.length) h0 (by omega) (by omega)
   have hrec := ih (i + 1) (acc ++ [ofRI (qAP d i)]) (by omega) (by omega) (by rw [List.length_append]; simp; omega)
   rw [qB9 d z150 i h0 (by omega), List.map_cons]
   rw [List.append_assoc] at hrec
   refine Ev.step (fun k => ?_) hrec
   simp only [qAm.l0]
   rw [if_pos (by omega), if_pos h0, if_pos (by omega), hw]
   rfl
 have h := loop d.length 0 [] (by omega) (by omega) (by simp)
 refine Ev.congr (fun k => ?_) h
 unfold qAm.f
 rw [Option.bind_some, if_pos (by simp; omega), Option.bind_some, if_pos (by simp; omega), List.nil_append, List.nil_append]
theorem own_l0 (vs : List S69) (fs : List S98) (m : Int) (hf : fs.length ≤ 1048576) (hx : ∀ x ∈ fs, x.f0.f0.length ≤ 1048576 ∧ x.f1.length ≤ 1048576 ∧ x.f2.length ≤ 1048576) (V : List S69) : ∀ (n : Nat) (i : Int) (acc : List S77), 0 ≤ i → (fs.length : Int) - i = n → acc.length ≤ i → Ev (fun k => qAn.l0 k i vs fs m V acc m) (V, acc ++ (fs.drop i.toNat).map ofRF, m) := by
 intro n
 induction n with
 | zero =>
  intro i acc h0 hn hacc
  rw [List.drop_eq_nil_of_le (by omega), List.map_nil, List.append_nil]
  refine Ev.step (f := fun _ => some (V, acc, m)) (fun k => ?_) (Ev.now _)
  simp only [qAn.l0]
  rw [if_neg (by omega)]
 | succ n ih =>
  intro i acc h0 hn hacc
  have hw := wrap_add1 (n := fs.length) h0 (by omega) (by omega)
  have hmem : qBh fs i ∈ fs := getD_mem fs z98 i h0 (by omega)
  obtain ⟨x0, x1, x2⟩ := hx _ hmem
  have hrec := ih (i + 1) (acc ++ [ofRF (qBh fs i)]) (by omega) (by omega) (by rw [List.length_append]; simp; omega)
  rw [qB9 fs z98 i h0 (by omega), List.map_cons]
  rw [List.append_assoc] at hrec
  refine Ev.step (f := fun k => (qAm.f k ((qBh fs i).f0.f0) ((qBh fs i).f0.f1) ((qBh fs i).f1) ((qBh fs i).f2)).bind fun t => qAn.l0 k (i + 1) vs fs m V (acc ++ [⟨⟨t.1, t.2.1⟩, t.2.2.1, t.2.2.2⟩]) m) (fun k => ?_) (Ev.bind (ownfn_ev _ _ _ _ x0 x1 x2) hrec)
  simp only [qAn.l0]
  rw [if_pos (by omega), if_pos h0, hw]
  have : acc.length < 1759218604441 := by omega
  simp only [if_pos this]
theorem own_ev (vs : List S69) (fs : List S98) (m : Int) (hv : vs.length ≤ 1048576) (hf : fs.length ≤ 1048576) (hx : ∀ x ∈ fs, x.f0.f0.length ≤ 1048576 ∧ x.f1.length ≤ 1048576 ∧ x.f2.length ≤ 1048576) : Ev (fun k => qAn.f k vs fs m) (vs, fs.map ofRF, m) := by
 refine Ev.congr (fun k => ?_) (own_l0 vs fs m hf hx vs fs.length 0 [] (by omega) (by omega) (by simp))
 unfold qAn.f
 rw [Option.bind_some, if_pos (by simp; omega), List.nil_append]
theorem u64_bounds {n : Int} (h : (Lit.int .u64 n).wf = true) : 0 ≤ n ∧ n < 18446744073709551616 := by
 simp [Lit.wf, IntKind.min, IntKind.max, IntKind.bits, IntKind.signed] at h
 omega
structure Good (vs : List S69) (fs : List S77) : Prop where
 v : vs.length ≤ 1048576
 f : fs.length ≤ 1048576
 vu : vs.all u64V = true
 fu : fs.all fnSz = true
theorem own_good {vs : List S69} {fs : List S98} {m : Int} (g : qBu 1048576 ⟨vs, fs, m⟩) : Good vs (fs.map ofRF) := by
 obtain ⟨⟨gvl, gv⟩, ⟨gfl, gf⟩, _⟩ := g
 refine ⟨gvl, by rw [List.length_map]; exact gfl, List.all_eq_true.2 fun x hx => decide_eq_true (u64_bounds (gv x hx).2), List.all_eq_true.2 fun x hx => ?_⟩
 obtain ⟨y, hy, rfl⟩ := List.mem_map.1 hx
 obtain ⟨⟨⟨h1, _⟩, _⟩, ⟨h2, _⟩, ⟨h3, h4⟩⟩ := gf y hy
 unfold fnSz
 simp only [Bool.and_eq_true, decide_eq_true_eq, List.all_eq_true]
 refine ⟨⟨⟨?_, ?_⟩, ?_⟩, fun z hz => ?_⟩
 ·show y.f0.f0.length ≤ _; omega
 ·show y.f1.length ≤ _; omega
 ·show (y.f2.map ofRI).length ≤ _; rw [List.length_map]; omega
 obtain ⟨u, hu, rfl⟩ := List.mem_map.1 (show z ∈ y.f2.map ofRI from hz)
 exact decide_eq_true (u64_bounds (h4 u hu).2.2.2)
theorem own_sz {vs : List S69} {fs : List S98} {m : Int} (g : qBu 1048576 ⟨vs, fs, m⟩) : Ev (fun k => qAn.f k vs fs m) (vs, fs.map ofRF, m) := by
 refine own_ev vs fs m g.1.1 g.2.1.1 fun x hx => ?_
 obtain ⟨⟨⟨h1, _⟩, _⟩, ⟨h2, _⟩, ⟨h3, _⟩⟩ := g.2.1.2 x hx
 exact ⟨h1, h2, h3⟩
end IOwn
end Q
end
section
namespace Q
open Go.RowKit YA YC YB
attribute [local go_sem] qAS min2_int qBa min_two max_three min_three max_four min_four
noncomputable def foundrylaw17_ImageBack.f (k : Nat) (l0_0 : List (S69)) (l0_1 : List (S98)) (a0_2 : Int) : Option (Bool) := (qAn.f k l0_0 l0_1 a0_2).bind fun aQ => ((qAA.f aQ.1 aQ.2.1 aQ.2.2).bind fun aV => (if aV.2 = 0 then ((qAc.f k aV.1).bind fun aF => ((qAA.f aF.1 aF.2.1 aF.2.2.1).bind fun aZ => (if aF.2.2.2 = 0 then (if aZ.2 = 0 then ((qBq.f aQ.1 aQ.2.1 aQ.2.2 aF.1 aF.2.1 aF.2.2.1).bind fun ae => (if ae = true then (if (strOfNums aV.1).toList = (strOfNums aZ.1).toList then ((qA9.f aF.1 aF.2.1 aF.2.2.1).bind fun a3 => (if a3 = 0 then ((qAq.f k).bind fun a4 => (some a4)) else (none))) else (none)) else (none))) else (none)) else (none)))) else (if (aV.1.length : Int) = 0 then ((qA9.f aQ.1 aQ.2.1 aQ.2.2).bind fun aa => (if aa = 0 then (if aV.2 = 3 then ((qAq.f k).bind fun an => (some an)) else (none)) else ((qAq.f k).bind fun ao => (some ao)))) else (none))))
theorem foundrylaw17_ImageBack.calls (k : Nat) (aR : Option Addr) (aT : Nat) (l0_0 : List (S69)) (aS : Option Addr) (aU : Nat) (l0_1 : List (S98)) (a0_2 : Int) (r : Bool) (w : World) (hr0_0 : Kd.C k69 w aR l0_0.length l0_0) (hc0_0 : l0_0.length ≤ aT) (hr0_1 : Kd.C k98 w aS l0_1.length l0_1) (hc0_1 : l0_1.length ≤ aU) (h : foundrylaw17_ImageBack.f k l0_0 l0_1 a0_2 = some r) :
  Calls Try.prog 6 #[.agg #[.slice aR l0_0.length aT, .slice aS l0_1.length aU, .int .i64 a0_2]] w fun e w' => e = .returned (.bool r) ∧ Below w.heap.size w w' := by
 have bE := am hr0_0
 have bC := am hc0_0
 clear hr0_0 hc0_0
 have bF := am hr0_1
 have bD := am hc0_1
 clear hr0_1 hc0_1
 have HB := am (Below.refl w.heap.size w)
 have H : ((qAn.f k l0_0 l0_1 a0_2).bind fun aQ => ((qAA.f aQ.1 aQ.2.1 aQ.2.2).bind fun aV => (if aV.2 = 0 then ((qAc.f k aV.1).bind fun aF => ((qAA.f aF.1 aF.2.1 aF.2.2.1).bind fun aZ => (if aF.2.2.2 = 0 then (if aZ.2 = 0 then ((qBq.f aQ.1 aQ.2.1 aQ.2.2 aF.1 aF.2.1 aF.2.2.1).bind fun ae => (if ae = true then (if (strOfNums aV.1).toList = (strOfNums aZ.1).toList then ((qA9.f aF.1 aF.2.1 aF.2.2.1).bind fun a3 => (if a3 = 0 then ((qAq.f k).bind fun a4 => (some a4)) else (none))) else (none)) else (none))) else (none)) else (none)))) else (if (aV.1.length : Int) = 0 then ((qA9.f aQ.1 aQ.2.1 aQ.2.2).bind fun aa => (if aa = 0 then (if aV.2 = 3 then ((qAq.f k).bind fun an => (some an)) else (none)) else ((qAq.f k).bind fun ao => (some ao)))) else (none))))) = some r := h
 clear h
 replace H := bm H
 obtain ⟨⟨aG, aI, aK⟩, ck, H⟩ := H
 replace H : ((qAA.f aG aI aK).bind fun aV => (if aV.2 = 0 then ((qAc.f k aV.1).bind fun aF => ((qAA.f aF.1 aF.2.1 aF.2.2.1).bind fun aZ => (if aF.2.2.2 = 0 then (if aZ.2 = 0 then ((qBq.f aG aI aK aF.1 aF.2.1 aF.2.2.1).bind fun ae => (if ae = true then (if (strOfNums aV.1).toList = (strOfNums aZ.1).toList then ((qA9.f aF.1 aF.2.1 aF.2.2.1).bind fun a3 => (if a3 = 0 then ((qAq.f k).bind fun a4 => (some a4)) else (none))) else (none)) else (none))) else (none)) else (none)))) else (if (aV.1.length : Int) = 0 then ((qA9.f aG aI aK).bind fun aa => (if aa = 0 then (if aV.2 = 3 then ((qAq.f k).bind fun an => (some an)) else (none)) else ((qAq.f k).bind fun ao => (some ao)))) else (none)))) = some r := H
 have A2 := am ck
 clear ck
 replace H := bm H
 obtain ⟨⟨a6, al⟩, cl, H⟩ := H
 replace H : (if al = 0 then ((qAc.f k a6).bind fun aF => ((qAA.f aF.1 aF.2.1 aF.2.2.1).bind fun aZ => (if aF.2.2.2 = 0 then (if aZ.2 = 0 then ((qBq.f aG aI aK aF.1 aF.2.1 aF.2.2.1).bind fun ae => (if ae = true then (if (strOfNums a6).toList = (strOfNums aZ.1).toList then ((qA9.f aF.1 aF.2.1 aF.2.2.1).bind fun a3 => (if a3 = 0 then ((qAq.f k).bind fun a4 => (some a4)) else (none))) else (none)) else (none))) else (none)) else (none)))) else (if (a6.length : Int) = 0 then ((qA9.f aG aI aK).bind fun aa => (if aa = 0 then (if al = 3 then ((qAq.f k).bind fun an => (some an)) else (none)) else ((qAq.f k).bind fun ao => (some ao)))) else (none))) = some r := H
 have A3 := am cl
 clear cl
 by_cases c4 : al = 0
 ·rw [if_pos c4] at H
  have cY : (al != 0) = false := bn c4
  clear c4
  replace H := bm H
  obtain ⟨⟨aW, aX, aY, az⟩, cn, H⟩ := H
  replace H : ((qAA.f aW aX aY).bind fun aZ => (if az = 0 then (if aZ.2 = 0 then ((qBq.f aG aI aK aW aX aY).bind fun ae => (if ae = true then (if (strOfNums a6).toList = (strOfNums aZ.1).toList then ((qA9.f aW aX aY).bind fun a3 => (if a3 = 0 then ((qAq.f k).bind fun a4 => (some a4)) else (none))) else (none)) else (none))) else (none)) else (none))) = some r := H
  have A5 := am cn
  clear cn
  replace H := bm H
  obtain ⟨⟨bA, bG⟩, co, H⟩ := H
  replace H : (if az = 0 then (if bG = 0 then ((qBq.f aG aI aK aW aX aY).bind fun ae => (if ae = true then (if (strOfNums a6).toList = (strOfNums bA).toList then ((qA9.f aW aX aY).bind fun a3 => (if a3 = 0 then ((qAq.f k).bind fun a4 => (some a4)) else (none))) else (none)) else (none))) else (none)) else (none)) = some r := H
  have A6 := am co
  clear co
  by_cases c7 : az = 0
  ·rw [if_pos c7] at H
   have dE : (az == 0) = true := beq_iff_eq.mpr c7
   have dF : (az != 0) = false := bn c7
   clear c7
   by_cases c8 : bG = 0
   ·rw [if_pos c8] at H
    have dG : (bG == 0) = true := beq_iff_eq.mpr c8
    clear c8
    replace H := bm H
    obtain ⟨ae, cp, H⟩ := H
    replace H : (if ae = true then (if (strOfNums a6).toList = (strOfNums bA).toList then ((qA9.f aW aX aY).bind fun a3 => (if a3 = 0 then ((qAq.f k).bind fun a4 => (some a4)) else (none))) else (none)) else (none)) = some r := H
    have A9 := am cp
    clear cp
    by_cases c10 : ae = true
    ·subst c10
     replace H : (if (strOfNums a6).toList = (strOfNums bA).toList then ((qA9.f aW aX aY).bind fun a3 => (if a3 = 0 then ((qAq.f k).bind fun a4 => (some a4)) else (none))) else (none)) = some r := by rw [if_pos rfl] at H; exact H
     by_cases bS : (strOfNums a6).toList = (strOfNums bA).toList
     ·rw [if_pos bS] at H
      have cq : ((strOfNums a6).toList == (strOfNums bA).toList) = true := beq_iff_eq.mpr bS
      clear bS
      replace H := bm H
      obtain ⟨a3, bJ, H⟩ := H
      replace H : (if a3 = 0 then ((qAq.f k).bind fun a4 => (some a4)) else (none)) = some r := H
      have cx := am bJ
      clear bJ
      by_cases bT : a3 = 0
      ·rw [if_pos bT] at H
       have cr : (a3 == 0) = true := beq_iff_eq.mpr bT
       clear bT
       replace H := bm H
       obtain ⟨a4, bK, H⟩ := H
       replace H : (some a4) = some r := H
       have cy := am bK
       clear bK
       obtain rfl := Option.some.inj H
       go_enter Try.func6, Try.ntmps6
       go_wp2_with (first | ((with_reducible refine qAC (N := 1) rfl ?_); refine bx 1 #[.slice aR l0_0.length aT, .slice aS l0_1.length aU, .int .i64 a0_2] 53 ?_; intro aM hg dM hbox hb; have n_ := a2 (qAk (by repeat ((exact HB.o))) hb) (am (hbox)); clear HB; obtain ⟨HB, aA⟩ := n_; clear hb hbox hg; obtain ⟨bW, bX, bY⟩ := c3_ dM aA.o; have cE := qAg aA.o 2) | ((with_reducible refine qAy (f := 15) rfl ?_); refine gL 11 Try.func15 #[.agg #[.slice aR l0_0.length aT, .slice aS l0_1.length aU, .int .i64 a0_2]] ?_; (with_reducible refine (qAn.calls k _ _ l0_0 _ _ l0_1 a0_2 aG aI aK _ ?side1 ?side2 ?side3 ?side4 A2.o).mono ?_); (case side1 => repeat ((exact (Kd.C_below bE.o HB.o)))); (case side2 => exact bC.o); (case side3 => repeat ((exact (Kd.C_below bF.o HB.o)))); (case side4 => exact bD.o); rintro e dW ⟨bP, bQ, rfl, ak, bB, hb⟩; refine ⟨_, rfl, ?_⟩; have n_ := a2 (Kd.R_lower ak (qAf (by repeat ((exact HB.o))))) (a2 (Kd.S_lower bB (qAf (by repeat ((exact HB.o))))) (a2 (qAe (g := aM) (o := .cells #[.slice aR l0_0.length aT, .slice aS l0_1.length aU, .int .i64 a0_2] 53 (0, 0)) (by exact aA.o) hb) (am (qAk (by repeat ((exact HB.o))) hb)))); clear aA HB; obtain ⟨aB, aC, aA, HB⟩ := n_) | ((with_reducible refine qAC (N := 3) rfl ?_); refine bx 3 #[.slice none 0 0, .slice none 0 0, .int .i64 0] 47 ?_; intro aE hg dN hbox hb; have n_ := a2 (Kd.R_below (by exact aB.o) hb) (a2 (Kd.S_below (by exact aC.o) hb) (a2 (qAe (g := aM) (o := .cells #[.slice aR l0_0.length aT, .slice aS l0_1.length aU, .int .i64 a0_2] 53 (0, 0)) (by exact aA.o) hb) (a2 (qAk (by repeat ((exact HB.o))) hb) (a2 (hbox) (a2 ((by rw [hg]; exact (qAf (by repeat ((exact HB.o)))) : w.heap.size ≤ aE)) (am ((by rw [hg]; exact Nat.ne_of_lt (qAt (g := aM) (o := .cells #[.slice aR l0_0.length aT, .slice aS l0_1.length aU, .int .i64 a0_2] 53 (0, 0)) (by exact aA.o)) : aM ≠ aE)))))))); clear aB aC aA HB; obtain ⟨aB, aC, aA, HB, aD, ai, aL⟩ := n_; clear hb hbox hg; obtain ⟨a7, a5, c0⟩ := Kd.R_slice aB.o; subst c0; obtain ⟨bZ, b0, b1⟩ := c3_ dN aD.o; obtain ⟨cF, cG, cH⟩ := z3_ aD.o; obtain ⟨ab, a8, c1⟩ := Kd.S_slice aC.o; subst c1) | ((with_reducible refine qAy (f := 16) rfl ?_); refine gL 14 Try.func16 #[.agg #[.slice a7 aG.length a5, .slice ab aI.length a8, .int .i64 aK]] ?_; (with_reducible refine (qAA.calls _ _ aG _ _ aI aK a6 al _ ?side1 ?side2 ?side3 ?side4 A3.o).mono ?_); (case side1 => refine (Kd.R_reads' (e := 69) (base := w.heap.size) (ok := fun k_ => True) (n := aG.length) (c := a5) ?_).2.2; exact (by exact (Kd.R_mono (Kd.R_far (p := ⟨aE, 2, none⟩) (Kd.R_far (p := ⟨aE, 1, none⟩) (Kd.R_far (p := ⟨aE, 0, none⟩) (Kd.R_types aB.o aD.o (by decide)) (fun _ hk => hk.2) (.slice a7 aG.length a5)) (fun _ hk => hk.2) (.slice ab aI.length a8)) (fun _ hk => hk.2) (.int .i64 aK)) (fun _ h_ => h_.1)))); (case side2 => exact (Kd.R_reads' aB.o).2.1); (case side3 => refine (Kd.S_reads' (e := 77) (base := w.heap.size) (ok := fun k_ => True) (n := aI.length) (c := a8) ?_).2.2; exact (by exact (Kd.S_mono (Kd.S_far (p := ⟨aE, 2, none⟩) (Kd.S_far (p := ⟨aE, 1, none⟩) (Kd.S_far (p := ⟨aE, 0, none⟩) (Kd.S_types aC.o aD.o (by decide)) (fun _ hk => hk.2) (.slice a7 aG.length a5)) (fun _ hk => hk.2) (.slice ab aI.length a8)) (fun _ hk => hk.2) (.int .i64 aK)) (fun _ h_ => h_.1)))); (case side4 => exact (Kd.S_reads' aC.o).2.1); rintro e dX ⟨bR, rfl, ak, hb⟩; refine ⟨_, rfl, ?_⟩; have n_ := a2 (Kd.R_below (by exact (Kd.R_mono (Kd.R_far (p := ⟨aE, 2, none⟩) (Kd.R_far (p := ⟨aE, 1, none⟩) (Kd.R_far (p := ⟨aE, 0, none⟩) (Kd.R_types aB.o aD.o (by decide)) (fun _ hk => hk.2) (.slice a7 aG.length a5)) (fun _ hk => hk.2) (.slice ab aI.length a8)) (fun _ hk => hk.2) (.int .i64 aK)) (fun _ h_ => h_.1))) hb) (a2 (Kd.S_below (by exact (Kd.S_mono (Kd.S_far (p := ⟨aE, 2, none⟩) (Kd.S_far (p := ⟨aE, 1, none⟩) (Kd.S_far (p := ⟨aE, 0, none⟩) (Kd.S_types aC.o aD.o (by decide)) (fun _ hk => hk.2) (.slice a7 aG.length a5)) (fun _ hk => hk.2) (.slice ab aI.length a8)) (fun _ hk => hk.2) (.int .i64 aK)) (fun _ h_ => h_.1))) hb) (a2 (Kd.R_lower ak (qAf (by repeat ((with_reducible first | exact HB.o | refine qAs ?_ ai.o))))) (a2 (qAe (g := aM) (o := .cells #[.slice aR l0_0.length aT, .slice aS l0_1.length aU, .int .i64 a0_2] 53 (0, 0)) (by refine qAu ?_ aL.o _; refine qAu ?_ aL.o _; refine qAu ?_ aL.o _; exact aA.o) hb) (a2 (qAe (g := aE) (o := .cells #[.slice a7 aG.length a5, .slice ab aI.length a8, .int .i64 aK] 47 (0, 0)) (by refine qAx (cs := #[.slice a7 aG.length a5, .slice ab aI.length a8, .int .i64 0]) ?_ 2 _ rfl; refine qAx (cs := #[.slice a7 aG.length a5, .slice none 0 0, .int .i64 0]) ?_ 1 _ rfl; refine qAx (cs := #[.slice none 0 0, .slice none 0 0, .int .i64 0]) ?_ 0 _ rfl; exact aD.o) hb) (am (qAk (by repeat ((with_reducible first | exact HB.o | refine qAs ?_ ai.o))) hb)))))); clear aB aC aA aD HB; obtain ⟨aB, aC, aH, aA, aD, HB⟩ := n_; obtain ⟨cX, cZ, ca⟩ := Kd.R_slice aH.o; subst ca) | ((with_reducible refine qAy (f := 13) rfl ?_); refine gL 36 Try.func13 #[.slice cX a6.length cZ] ?_; (with_reducible refine (qAc.calls k _ _ a6 aW aX aY az _ ?side1 ?side2 A5.o).mono ?_); (case side1 => repeat ((exact (Kd.R_reads' aH.o).2.2))); (case side2 => exact (Kd.R_reads' aH.o).2.1); rintro e dY ⟨dJ, dK, rfl, ak, bB, hb⟩; refine ⟨_, rfl, ?_⟩; have n_ := a2 (Kd.R_elder' (by exact aB.o) (Kd.R_base ak) hb) (a2 (Kd.S_elder' (by exact aC.o) (Kd.S_base bB) hb) (a2 (Kd.R_below (by exact aH.o) hb) (a2 (Kd.R_lower (Kd.R_new' ak (Kd.R_lt (by exact aB.o))) (qAf (by repeat ((exact HB.o))))) (a2 (Kd.S_lower (Kd.S_new' bB (Kd.S_lt (by exact aC.o))) (qAf (by repeat ((exact HB.o))))) (a2 (qAe (g := aM) (o := .cells #[.slice aR l0_0.length aT, .slice aS l0_1.length aU, .int .i64 a0_2] 53 (0, 0)) (by exact aA.o) hb) (a2 (qAe (g := aE) (o := .cells #[.slice a7 aG.length a5, .slice ab aI.length a8, .int .i64 aK] 47 (0, 0)) (by exact aD.o) hb) (am (qAk (by repeat ((exact HB.o))) hb)))))))); clear aB aC aH aA aD HB; obtain ⟨aB, aC, aH, aO, aP, aA, aD, HB⟩ := n_) | ((with_reducible refine qAC (N := 6) rfl ?_); refine bx 6 #[.slice none 0 0, .slice none 0 0, .int .i64 0] 47 ?_; intro aJ hg dO hbox hb; have n_ := a2 (Kd.R_below (by exact aB.o) hb) (a2 (Kd.S_below (by exact aC.o) hb) (a2 (Kd.R_below (by exact aH.o) hb) (a2 (Kd.R_below (by exact aO.o) hb) (a2 (Kd.S_below (by exact aP.o) hb) (a2 (qAe (g := aM) (o := .cells #[.slice aR l0_0.length aT, .slice aS l0_1.length aU, .int .i64 a0_2] 53 (0, 0)) (by exact aA.o) hb) (a2 (qAe (g := aE) (o := .cells #[.slice a7 aG.length a5, .slice ab aI.length a8, .int .i64 aK] 47 (0, 0)) (by exact aD.o) hb) (a2 (qAk (by repeat ((exact HB.o))) hb) (a2 (hbox) (a2 ((by rw [hg]; exact (qAf (by repeat ((exact HB.o)))) : w.heap.size ≤ aJ)) (a2 ((by rw [hg]; exact Nat.ne_of_lt (qAt (g := aM) (o := .cells #[.slice aR l0_0.length aT, .slice aS l0_1.length aU, .int .i64 a0_2] 53 (0, 0)) (by exact aA.o)) : aM ≠ aJ)) (am ((by rw [hg]; exact Nat.ne_of_lt (qAt (g := aE) (o := .cells #[.slice a7 aG.length a5, .slice ab aI.length a8, .int .i64 aK] 47 (0, 0)) (by exact aD.o)) : aE ≠ aJ))))))))))))); clear aB aC aH aO aP aA aD HB; obtain ⟨aB, aC, aH, aO, aP, aA, aD, HB, aN, bH, ag, ah⟩ := n_; clear hb hbox hg; obtain ⟨ac, a9, cc⟩ := Kd.R_slice aO.o; subst cc; obtain ⟨b2, b3, b4⟩ := c3_ dO aN.o; obtain ⟨cI, cJ, cK⟩ := z3_ aN.o; obtain ⟨af, ad, cd⟩ := Kd.S_slice aP.o; subst cd) | ((with_reducible refine qAy (f := 16) rfl ?_); refine gL 41 Try.func16 #[.agg #[.slice ac aW.length a9, .slice af aX.length ad, .int .i64 aY]] ?_; (with_reducible refine (qAA.calls _ _ aW _ _ aX aY bA bG _ ?side1 ?side2 ?side3 ?side4 A6.o).mono ?_); (case side1 => refine (Kd.R_reads' (e := 69) (base := w.heap.size) (ok := fun k_ => (True ∧ some k_ ≠ (.slice a7 aG.length a5 : Value).ownBlock)) (n := aW.length) (c := a9) ?_).2.2; exact (by exact (Kd.R_mono (Kd.R_far (p := ⟨aJ, 2, none⟩) (Kd.R_far (p := ⟨aJ, 1, none⟩) (Kd.R_far (p := ⟨aJ, 0, none⟩) (Kd.R_types aO.o aN.o (by decide)) (fun _ hk => hk.2) (.slice ac aW.length a9)) (fun _ hk => hk.2) (.slice af aX.length ad)) (fun _ hk => hk.2) (.int .i64 aY)) (fun _ h_ => h_.1)))); (case side2 => exact (Kd.R_reads' aO.o).2.1); (case side3 => refine (Kd.S_reads' (e := 77) (base := w.heap.size) (ok := fun k_ => (True ∧ some k_ ≠ (.slice ab aI.length a8 : Value).ownBlock)) (n := aX.length) (c := ad) ?_).2.2; exact (by exact (Kd.S_mono (Kd.S_far (p := ⟨aJ, 2, none⟩) (Kd.S_far (p := ⟨aJ, 1, none⟩) (Kd.S_far (p := ⟨aJ, 0, none⟩) (Kd.S_types aP.o aN.o (by decide)) (fun _ hk => hk.2) (.slice ac aW.length a9)) (fun _ hk => hk.2) (.slice af aX.length ad)) (fun _ hk => hk.2) (.int .i64 aY)) (fun _ h_ => h_.1)))); (case side4 => exact (Kd.S_reads' aP.o).2.1); rintro e cw ⟨dL, rfl, ak, hb⟩; refine ⟨_, rfl, ?_⟩; have n_ := a2 (Kd.R_below (by exact (Kd.R_mono (Kd.R_far (p := ⟨aJ, 2, none⟩) (Kd.R_far (p := ⟨aJ, 1, none⟩) (Kd.R_far (p := ⟨aJ, 0, none⟩) (Kd.R_types aB.o aN.o (by decide)) (fun _ hk => hk.2) (.slice ac aW.length a9)) (fun _ hk => hk.2) (.slice af aX.length ad)) (fun _ hk => hk.2) (.int .i64 aY)) (fun _ h_ => h_.1))) hb) (a2 (Kd.S_below (by exact (Kd.S_mono (Kd.S_far (p := ⟨aJ, 2, none⟩) (Kd.S_far (p := ⟨aJ, 1, none⟩) (Kd.S_far (p := ⟨aJ, 0, none⟩) (Kd.S_types aC.o aN.o (by decide)) (fun _ hk => hk.2) (.slice ac aW.length a9)) (fun _ hk => hk.2) (.slice af aX.length ad)) (fun _ hk => hk.2) (.int .i64 aY)) (fun _ h_ => h_.1))) hb) (a2 (Kd.R_elder' (by exact (Kd.R_mono (Kd.R_far (p := ⟨aJ, 2, none⟩) (Kd.R_far (p := ⟨aJ, 1, none⟩) (Kd.R_far (p := ⟨aJ, 0, none⟩) (Kd.R_types aH.o aN.o (by decide)) (fun _ hk => hk.2) (.slice ac aW.length a9)) (fun _ hk => hk.2) (.slice af aX.length ad)) (fun _ hk => hk.2) (.int .i64 aY)) (fun _ h_ => h_.1))) (Kd.R_base ak) hb) (a2 (Kd.R_below (by exact (Kd.R_mono (Kd.R_far (p := ⟨aJ, 2, none⟩) (Kd.R_far (p := ⟨aJ, 1, none⟩) (Kd.R_far (p := ⟨aJ, 0, none⟩) (Kd.R_types aO.o aN.o (by decide)) (fun _ hk => hk.2) (.slice ac aW.length a9)) (fun _ hk => hk.2) (.slice af aX.length ad)) (fun _ hk => hk.2) (.int .i64 aY)) (fun _ h_ => h_.1))) hb) (a2 (Kd.S_below (by exact (Kd.S_mono (Kd.S_far (p := ⟨aJ, 2, none⟩) (Kd.S_far (p := ⟨aJ, 1, none⟩) (Kd.S_far (p := ⟨aJ, 0, none⟩) (Kd.S_types aP.o aN.o (by decide)) (fun _ hk => hk.2) (.slice ac aW.length a9)) (fun _ hk => hk.2) (.slice af aX.length ad)) (fun _ hk => hk.2) (.int .i64 aY)) (fun _ h_ => h_.1))) hb) (a2 (Kd.R_lower (Kd.R_new' ak (Kd.R_lt (by exact (Kd.R_mono (Kd.R_far (p := ⟨aJ, 2, none⟩) (Kd.R_far (p := ⟨aJ, 1, none⟩) (Kd.R_far (p := ⟨aJ, 0, none⟩) (Kd.R_types aH.o aN.o (by decide)) (fun _ hk => hk.2) (.slice ac aW.length a9)) (fun _ hk => hk.2) (.slice af aX.length ad)) (fun _ hk => hk.2) (.int .i64 aY)) (fun _ h_ => h_.1))))) (qAf (by repeat ((with_reducible first | exact HB.o | refine qAs ?_ bH.o))))) (a2 (qAe (g := aM) (o := .cells #[.slice aR l0_0.length aT, .slice aS l0_1.length aU, .int .i64 a0_2] 53 (0, 0)) (by refine qAu ?_ ag.o _; refine qAu ?_ ag.o _; refine qAu ?_ ag.o _; exact aA.o) hb) (a2 (qAe (g := aE) (o := .cells #[.slice a7 aG.length a5, .slice ab aI.length a8, .int .i64 aK] 47 (0, 0)) (by refine qAu ?_ ah.o _; refine qAu ?_ ah.o _; refine qAu ?_ ah.o _; exact aD.o) hb) (a2 (qAe (g := aJ) (o := .cells #[.slice ac aW.length a9, .slice af aX.length ad, .int .i64 aY] 47 (0, 0)) (by refine qAx (cs := #[.slice ac aW.length a9, .slice af aX.length ad, .int .i64 0]) ?_ 2 _ rfl; refine qAx (cs := #[.slice ac aW.length a9, .slice none 0 0, .int .i64 0]) ?_ 1 _ rfl; refine qAx (cs := #[.slice none 0 0, .slice none 0 0, .int .i64 0]) ?_ 0 _ rfl; exact aN.o) hb) (am (qAk (by repeat ((with_reducible first | exact HB.o | refine qAs ?_ bH.o))) hb)))))))))); clear aB aC aH aO aP aA aD aN HB; obtain ⟨aB, aC, aH, aO, aP, aj, aA, aD, aN, HB⟩ := n_; obtain ⟨b5, b6, b7⟩ := c3_ cw aD.o; obtain ⟨b8, b9, ba⟩ := c3_ cw aN.o; have cL := qAg aN.o 2) | (go_at_call 18; (with_reducible refine (qBq.calls _ _ aG _ _ aI aK _ _ aW _ _ aX aY true _ ?side1 ?side2 ?side3 ?side4 ?side5 ?side6 ?side7 ?side8 A9.o).mono ?_); (case side1 => repeat ((exact (Kd.R_reads' aB.o).2.2))); (case side2 => exact (Kd.R_reads' aB.o).2.1); (case side3 => repeat ((exact (Kd.S_reads' aC.o).2.2))); (case side4 => exact (Kd.S_reads' aC.o).2.1); (case side5 => repeat ((exact (Kd.R_reads' aO.o).2.2))); (case side6 => exact (Kd.R_reads' aO.o).2.1); (case side7 => repeat ((exact (Kd.S_reads' aP.o).2.2))); (case side8 => exact (Kd.S_reads' aP.o).2.1); rintro e dP ⟨rfl, hb⟩; have n_ := a2 (Kd.R_below (by exact aB.o) hb) (a2 (Kd.S_below (by exact aC.o) hb) (a2 (Kd.R_below (by exact aH.o) hb) (a2 (Kd.R_below (by exact aO.o) hb) (a2 (Kd.S_below (by exact aP.o) hb) (a2 (Kd.R_below (by exact aj.o) hb) (a2 (qAe (g := aM) (o := .cells #[.slice aR l0_0.length aT, .slice aS l0_1.length aU, .int .i64 a0_2] 53 (0, 0)) (by exact aA.o) hb) (a2 (qAe (g := aE) (o := .cells #[.slice a7 aG.length a5, .slice ab aI.length a8, .int .i64 aK] 47 (0, 0)) (by exact aD.o) hb) (a2 (qAe (g := aJ) (o := .cells #[.slice ac aW.length a9, .slice af aX.length ad, .int .i64 aY] 47 (0, 0)) (by exact aN.o) hb) (am (qAk (by repeat ((exact HB.o))) hb)))))))))); clear aB aC aH aO aP aj aA aD aN HB; obtain ⟨aB, aC, aH, aO, aP, aj, aA, aD, aN, HB⟩ := n_; have hcv36 := own_string (P := Try.prog) Try.underlying22 Try.underlying5 Try.underlying9 (Kd.own_of_R aH.o); have hcv37 := own_string (P := Try.prog) Try.underlying22 Try.underlying5 Try.underlying9 (Kd.own_of_R aj.o); obtain ⟨bb, bc, bd⟩ := c3_ dP aN.o; have cM := qAg aN.o 2) | (go_at_call 17; (with_reducible refine (qA9.calls _ _ aW _ _ aX aY a3 _ ?side1 ?side2 ?side3 ?side4 cx.o).mono ?_); (case side1 => repeat ((exact (Kd.R_reads' aO.o).2.2))); (case side2 => exact (Kd.R_reads' aO.o).2.1); (case side3 => repeat ((exact (Kd.S_reads' aP.o).2.2))); (case side4 => exact (Kd.S_reads' aP.o).2.1); rintro e dZ ⟨rfl, hb⟩; have n_ := a2 (Kd.R_below (by exact aB.o) hb) (a2 (Kd.S_below (by exact aC.o) hb) (a2 (Kd.R_below (by exact aH.o) hb) (a2 (Kd.R_below (by exact aO.o) hb) (a2 (Kd.S_below (by exact aP.o) hb) (a2 (Kd.R_below (by exact aj.o) hb) (a2 (qAe (g := aM) (o := .cells #[.slice aR l0_0.length aT, .slice aS l0_1.length aU, .int .i64 a0_2] 53 (0, 0)) (by exact aA.o) hb) (a2 (qAe (g := aE) (o := .cells #[.slice a7 aG.length a5, .slice ab aI.length a8, .int .i64 aK] 47 (0, 0)) (by exact aD.o) hb) (a2 (qAe (g := aJ) (o := .cells #[.slice ac aW.length a9, .slice af aX.length ad, .int .i64 aY] 47 (0, 0)) (by exact aN.o) hb) (am (qAk (by repeat ((exact HB.o))) hb)))))))))); clear aB aC aH aO aP aj aA aD aN HB; obtain ⟨aB, aC, aH, aO, aP, aj, aA, aD, aN, HB⟩ := n_; (skip)) | (go_at_call 14; (with_reducible refine (qAq.calls k  a4 _ cy.o).mono ?_); rintro e d2 ⟨rfl, hb⟩; have n_ := am (qAk (by repeat ((exact HB.o))) hb); clear aB aC aH aO aP aj aA aD aN HB; have HB := n_; clear n_; (skip)))
       go_ret
       exact ⟨by (rfl), by repeat ((exact HB.o))⟩
      ·rw [if_neg bT] at H
       exact absurd H (by simp)
     ·rw [if_neg bS] at H
      exact absurd H (by simp)
    ·replace c10 := Bool.eq_false_iff.mpr c10
     subst c10
     replace H : (none) = some r := by rw [if_neg (show ¬ (false = true) by decide)] at H; exact H
     exact absurd H (by simp)
   ·rw [if_neg c8] at H
    exact absurd H (by simp)
  ·rw [if_neg c7] at H
   exact absurd H (by simp)
 ·rw [if_neg c4] at H
  have dD : (al == 0) = false := bf c4
  have cY : (al != 0) = true := bne_iff_ne.mpr c4
  by_cases bU : (a6.length : Int) = 0
  ·rw [if_pos bU] at H
   have ct : ((a6.length : Int) == 0) = true := beq_iff_eq.mpr bU
   clear bU
   replace H := bm H
   obtain ⟨aa, bL, H⟩ := H
   replace H : (if aa = 0 then (if al = 3 then ((qAq.f k).bind fun an => (some an)) else (none)) else ((qAq.f k).bind fun ao => (some ao))) = some r := H
   have cm := am bL
   clear bL
   by_cases bI : aa = 0
   ·rw [if_pos bI] at H
    have cu : (aa == 0) = true := beq_iff_eq.mpr bI
    have bO : (aa != 0) = false := bn bI
    clear bI
    by_cases bV : al = 3
    ·rw [if_pos bV] at H
     have cv : (al == 3) = true := beq_iff_eq.mpr bV
     clear bV
     replace H := bm H
     obtain ⟨an, bM, H⟩ := H
     replace H : (some an) = some r := H
     have cz := am bM
     clear bM
     obtain rfl := Option.some.inj H
     go_enter Try.func6, Try.ntmps6
     go_wp2_with (first | ((with_reducible refine qAC (N := 1) rfl ?_); refine bx 1 #[.slice aR l0_0.length aT, .slice aS l0_1.length aU, .int .i64 a0_2] 53 ?_; intro aM hg dQ hbox hb; have n_ := a2 (qAk (by repeat ((exact HB.o))) hb) (am (hbox)); clear HB; obtain ⟨HB, aA⟩ := n_; clear hb hbox hg; obtain ⟨bg, bh, bi⟩ := c3_ dQ aA.o; have cN := qAg aA.o 2) | ((with_reducible refine qAy (f := 15) rfl ?_); refine gL 11 Try.func15 #[.agg #[.slice aR l0_0.length aT, .slice aS l0_1.length aU, .int .i64 a0_2]] ?_; (with_reducible refine (qAn.calls k _ _ l0_0 _ _ l0_1 a0_2 aG aI aK _ ?side1 ?side2 ?side3 ?side4 A2.o).mono ?_); (case side1 => repeat ((exact (Kd.C_below bE.o HB.o)))); (case side2 => exact bC.o); (case side3 => repeat ((exact (Kd.C_below bF.o HB.o)))); (case side4 => exact bD.o); rintro e d3 ⟨bP, bQ, rfl, ak, bB, hb⟩; refine ⟨_, rfl, ?_⟩; have n_ := a2 (Kd.R_lower ak (qAf (by repeat ((exact HB.o))))) (a2 (Kd.S_lower bB (qAf (by repeat ((exact HB.o))))) (a2 (qAe (g := aM) (o := .cells #[.slice aR l0_0.length aT, .slice aS l0_1.length aU, .int .i64 a0_2] 53 (0, 0)) (by exact aA.o) hb) (am (qAk (by repeat ((exact HB.o))) hb)))); clear aA HB; obtain ⟨aB, aC, aA, HB⟩ := n_) | ((with_reducible refine qAC (N := 3) rfl ?_); refine bx 3 #[.slice none 0 0, .slice none 0 0, .int .i64 0] 47 ?_; intro aE hg dR hbox hb; have n_ := a2 (Kd.R_below (by exact aB.o) hb) (a2 (Kd.S_below (by exact aC.o) hb) (a2 (qAe (g := aM) (o := .cells #[.slice aR l0_0.length aT, .slice aS l0_1.length aU, .int .i64 a0_2] 53 (0, 0)) (by exact aA.o) hb) (a2 (qAk (by repeat ((exact HB.o))) hb) (a2 (hbox) (a2 ((by rw [hg]; exact (qAf (by repeat ((exact HB.o)))) : w.heap.size ≤ aE)) (am ((by rw [hg]; exact Nat.ne_of_lt (qAt (g := aM) (o := .cells #[.slice aR l0_0.length aT, .slice aS l0_1.length aU, .int .i64 a0_2] 53 (0, 0)) (by exact aA.o)) : aM ≠ aE)))))))); clear aB aC aA HB; obtain ⟨aB, aC, aA, HB, aD, ai, aL⟩ := n_; clear hb hbox hg; obtain ⟨ar, ap, ce⟩ := Kd.R_slice aB.o; subst ce; obtain ⟨bj, bk, bl⟩ := c3_ dR aD.o; obtain ⟨cO, cP, cQ⟩ := z3_ aD.o; obtain ⟨ax, av, cf⟩ := Kd.S_slice aC.o; subst cf) | ((with_reducible refine qAy (f := 16) rfl ?_); refine gL 14 Try.func16 #[.agg #[.slice ar aG.length ap, .slice ax aI.length av, .int .i64 aK]] ?_; (with_reducible refine (qAA.calls _ _ aG _ _ aI aK a6 al _ ?side1 ?side2 ?side3 ?side4 A3.o).mono ?_); (case side1 => refine (Kd.R_reads' (e := 69) (base := w.heap.size) (ok := fun k_ => True) (n := aG.length) (c := ap) ?_).2.2; exact (by exact (Kd.R_mono (Kd.R_far (p := ⟨aE, 2, none⟩) (Kd.R_far (p := ⟨aE, 1, none⟩) (Kd.R_far (p := ⟨aE, 0, none⟩) (Kd.R_types aB.o aD.o (by decide)) (fun _ hk => hk.2) (.slice ar aG.length ap)) (fun _ hk => hk.2) (.slice ax aI.length av)) (fun _ hk => hk.2) (.int .i64 aK)) (fun _ h_ => h_.1)))); (case side2 => exact (Kd.R_reads' aB.o).2.1); (case side3 => refine (Kd.S_reads' (e := 77) (base := w.heap.size) (ok := fun k_ => True) (n := aI.length) (c := av) ?_).2.2; exact (by exact (Kd.S_mono (Kd.S_far (p := ⟨aE, 2, none⟩) (Kd.S_far (p := ⟨aE, 1, none⟩) (Kd.S_far (p := ⟨aE, 0, none⟩) (Kd.S_types aC.o aD.o (by decide)) (fun _ hk => hk.2) (.slice ar aG.length ap)) (fun _ hk => hk.2) (.slice ax aI.length av)) (fun _ hk => hk.2) (.int .i64 aK)) (fun _ h_ => h_.1)))); (case side4 => exact (Kd.S_reads' aC.o).2.1); rintro e dS ⟨bR, rfl, ak, hb⟩; refine ⟨_, rfl, ?_⟩; have n_ := a2 (Kd.R_below (by exact (Kd.R_mono (Kd.R_far (p := ⟨aE, 2, none⟩) (Kd.R_far (p := ⟨aE, 1, none⟩) (Kd.R_far (p := ⟨aE, 0, none⟩) (Kd.R_types aB.o aD.o (by decide)) (fun _ hk => hk.2) (.slice ar aG.length ap)) (fun _ hk => hk.2) (.slice ax aI.length av)) (fun _ hk => hk.2) (.int .i64 aK)) (fun _ h_ => h_.1))) hb) (a2 (Kd.S_below (by exact (Kd.S_mono (Kd.S_far (p := ⟨aE, 2, none⟩) (Kd.S_far (p := ⟨aE, 1, none⟩) (Kd.S_far (p := ⟨aE, 0, none⟩) (Kd.S_types aC.o aD.o (by decide)) (fun _ hk => hk.2) (.slice ar aG.length ap)) (fun _ hk => hk.2) (.slice ax aI.length av)) (fun _ hk => hk.2) (.int .i64 aK)) (fun _ h_ => h_.1))) hb) (a2 (Kd.R_lower ak (qAf (by repeat ((with_reducible first | exact HB.o | refine qAs ?_ ai.o))))) (a2 (qAe (g := aM) (o := .cells #[.slice aR l0_0.length aT, .slice aS l0_1.length aU, .int .i64 a0_2] 53 (0, 0)) (by refine qAu ?_ aL.o _; refine qAu ?_ aL.o _; refine qAu ?_ aL.o _; exact aA.o) hb) (a2 (qAe (g := aE) (o := .cells #[.slice ar aG.length ap, .slice ax aI.length av, .int .i64 aK] 47 (0, 0)) (by refine qAx (cs := #[.slice ar aG.length ap, .slice ax aI.length av, .int .i64 0]) ?_ 2 _ rfl; refine qAx (cs := #[.slice ar aG.length ap, .slice none 0 0, .int .i64 0]) ?_ 1 _ rfl; refine qAx (cs := #[.slice none 0 0, .slice none 0 0, .int .i64 0]) ?_ 0 _ rfl; exact aD.o) hb) (am (qAk (by repeat ((with_reducible first | exact HB.o | refine qAs ?_ ai.o))) hb)))))); clear aB aC aA aD HB; obtain ⟨aB, aC, aH, aA, aD, HB⟩ := n_; obtain ⟨dB, dH, cg⟩ := Kd.R_slice aH.o; subst cg; obtain ⟨bo, bp, bq⟩ := c3_ dS aD.o; have cR := qAg aD.o 2) | (go_at_call 17; (with_reducible refine (qA9.calls _ _ aG _ _ aI aK aa _ ?side1 ?side2 ?side3 ?side4 cm.o).mono ?_); (case side1 => repeat ((exact (Kd.R_reads' aB.o).2.2))); (case side2 => exact (Kd.R_reads' aB.o).2.1); (case side3 => repeat ((exact (Kd.S_reads' aC.o).2.2))); (case side4 => exact (Kd.S_reads' aC.o).2.1); rintro e d4 ⟨rfl, hb⟩; have n_ := a2 (Kd.R_below (by exact aB.o) hb) (a2 (Kd.S_below (by exact aC.o) hb) (a2 (Kd.R_below (by exact aH.o) hb) (a2 (qAe (g := aM) (o := .cells #[.slice aR l0_0.length aT, .slice aS l0_1.length aU, .int .i64 a0_2] 53 (0, 0)) (by exact aA.o) hb) (a2 (qAe (g := aE) (o := .cells #[.slice ar aG.length ap, .slice ax aI.length av, .int .i64 aK] 47 (0, 0)) (by exact aD.o) hb) (am (qAk (by repeat ((exact HB.o))) hb)))))); clear aB aC aH aA aD HB; obtain ⟨aB, aC, aH, aA, aD, HB⟩ := n_; (skip)) | (go_at_call 14; (with_reducible refine (qAq.calls k  an _ cz.o).mono ?_); rintro e d5 ⟨rfl, hb⟩; have n_ := am (qAk (by repeat ((exact HB.o))) hb); clear aB aC aH aA aD HB; have HB := n_; clear n_; (skip)))
     go_ret
     exact ⟨by (rfl), by repeat ((exact HB.o))⟩
    ·rw [if_neg bV] at H
     exact absurd H (by simp)
   ·rw [if_neg bI] at H
    have bO : (aa != 0) = true := bne_iff_ne.mpr bI
    replace H := bm H
    obtain ⟨ao, bN, H⟩ := H
    replace H : (some ao) = some r := H
    have dA := am bN
    clear bN
    obtain rfl := Option.some.inj H
    go_enter Try.func6, Try.ntmps6
    go_wp2_with (first | ((with_reducible refine qAC (N := 1) rfl ?_); refine bx 1 #[.slice aR l0_0.length aT, .slice aS l0_1.length aU, .int .i64 a0_2] 53 ?_; intro aM hg dT hbox hb; have n_ := a2 (qAk (by repeat ((exact HB.o))) hb) (am (hbox)); clear HB; obtain ⟨HB, aA⟩ := n_; clear hb hbox hg; obtain ⟨br, bs, bu⟩ := c3_ dT aA.o; have cS := qAg aA.o 2) | ((with_reducible refine qAy (f := 15) rfl ?_); refine gL 11 Try.func15 #[.agg #[.slice aR l0_0.length aT, .slice aS l0_1.length aU, .int .i64 a0_2]] ?_; (with_reducible refine (qAn.calls k _ _ l0_0 _ _ l0_1 a0_2 aG aI aK _ ?side1 ?side2 ?side3 ?side4 A2.o).mono ?_); (case side1 => repeat ((exact (Kd.C_below bE.o HB.o)))); (case side2 => exact bC.o); (case side3 => repeat ((exact (Kd.C_below bF.o HB.o)))); (case side4 => exact bD.o); rintro e d6 ⟨bP, bQ, rfl, ak, bB, hb⟩; refine ⟨_, rfl, ?_⟩; have n_ := a2 (Kd.R_lower ak (qAf (by repeat ((exact HB.o))))) (a2 (Kd.S_lower bB (qAf (by repeat ((exact HB.o))))) (a2 (qAe (g := aM) (o := .cells #[.slice aR l0_0.length aT, .slice aS l0_1.length aU, .int .i64 a0_2] 53 (0, 0)) (by exact aA.o) hb) (am (qAk (by repeat ((exact HB.o))) hb)))); clear aA HB; obtain ⟨aB, aC, aA, HB⟩ := n_) | ((with_reducible refine qAC (N := 3) rfl ?_); refine bx 3 #[.slice none 0 0, .slice none 0 0, .int .i64 0] 47 ?_; intro aE hg dU hbox hb; have n_ := a2 (Kd.R_below (by exact aB.o) hb) (a2 (Kd.S_below (by exact aC.o) hb) (a2 (qAe (g := aM) (o := .cells #[.slice aR l0_0.length aT, .slice aS l0_1.length aU, .int .i64 a0_2] 53 (0, 0)) (by exact aA.o) hb) (a2 (qAk (by repeat ((exact HB.o))) hb) (a2 (hbox) (a2 ((by rw [hg]; exact (qAf (by repeat ((exact HB.o)))) : w.heap.size ≤ aE)) (am ((by rw [hg]; exact Nat.ne_of_lt (qAt (g := aM) (o := .cells #[.slice aR l0_0.length aT, .slice aS l0_1.length aU, .int .i64 a0_2] 53 (0, 0)) (by exact aA.o)) : aM ≠ aE)))))))); clear aB aC aA HB; obtain ⟨aB, aC, aA, HB, aD, ai, aL⟩ := n_; clear hb hbox hg; obtain ⟨au, aq, ch⟩ := Kd.R_slice aB.o; subst ch; obtain ⟨bw, bz, cA⟩ := c3_ dU aD.o; obtain ⟨cT, cU, cV⟩ := z3_ aD.o; obtain ⟨ay, aw, ci⟩ := Kd.S_slice aC.o; subst ci) | ((with_reducible refine qAy (f := 16) rfl ?_); refine gL 14 Try.func16 #[.agg #[.slice au aG.length aq, .slice ay aI.length aw, .int .i64 aK]] ?_; (with_reducible refine (qAA.calls _ _ aG _ _ aI aK a6 al _ ?side1 ?side2 ?side3 ?side4 A3.o).mono ?_); (case side1 => refine (Kd.R_reads' (e := 69) (base := w.heap.size) (ok := fun k_ => True) (n := aG.length) (c := aq) ?_).2.2; exact (by exact (Kd.R_mono (Kd.R_far (p := ⟨aE, 2, none⟩) (Kd.R_far (p := ⟨aE, 1, none⟩) (Kd.R_far (p := ⟨aE, 0, none⟩) (Kd.R_types aB.o aD.o (by decide)) (fun _ hk => hk.2) (.slice au aG.length aq)) (fun _ hk => hk.2) (.slice ay aI.length aw)) (fun _ hk => hk.2) (.int .i64 aK)) (fun _ h_ => h_.1)))); (case side2 => exact (Kd.R_reads' aB.o).2.1); (case side3 => refine (Kd.S_reads' (e := 77) (base := w.heap.size) (ok := fun k_ => True) (n := aI.length) (c := aw) ?_).2.2; exact (by exact (Kd.S_mono (Kd.S_far (p := ⟨aE, 2, none⟩) (Kd.S_far (p := ⟨aE, 1, none⟩) (Kd.S_far (p := ⟨aE, 0, none⟩) (Kd.S_types aC.o aD.o (by decide)) (fun _ hk => hk.2) (.slice au aG.length aq)) (fun _ hk => hk.2) (.slice ay aI.length aw)) (fun _ hk => hk.2) (.int .i64 aK)) (fun _ h_ => h_.1)))); (case side4 => exact (Kd.S_reads' aC.o).2.1); rintro e dV ⟨bR, rfl, ak, hb⟩; refine ⟨_, rfl, ?_⟩; have n_ := a2 (Kd.R_below (by exact (Kd.R_mono (Kd.R_far (p := ⟨aE, 2, none⟩) (Kd.R_far (p := ⟨aE, 1, none⟩) (Kd.R_far (p := ⟨aE, 0, none⟩) (Kd.R_types aB.o aD.o (by decide)) (fun _ hk => hk.2) (.slice au aG.length aq)) (fun _ hk => hk.2) (.slice ay aI.length aw)) (fun _ hk => hk.2) (.int .i64 aK)) (fun _ h_ => h_.1))) hb) (a2 (Kd.S_below (by exact (Kd.S_mono (Kd.S_far (p := ⟨aE, 2, none⟩) (Kd.S_far (p := ⟨aE, 1, none⟩) (Kd.S_far (p := ⟨aE, 0, none⟩) (Kd.S_types aC.o aD.o (by decide)) (fun _ hk => hk.2) (.slice au aG.length aq)) (fun _ hk => hk.2) (.slice ay aI.length aw)) (fun _ hk => hk.2) (.int .i64 aK)) (fun _ h_ => h_.1))) hb) (a2 (Kd.R_lower ak (qAf (by repeat ((with_reducible first | exact HB.o | refine qAs ?_ ai.o))))) (a2 (qAe (g := aM) (o := .cells #[.slice aR l0_0.length aT, .slice aS l0_1.length aU, .int .i64 a0_2] 53 (0, 0)) (by refine qAu ?_ aL.o _; refine qAu ?_ aL.o _; refine qAu ?_ aL.o _; exact aA.o) hb) (a2 (qAe (g := aE) (o := .cells #[.slice au aG.length aq, .slice ay aI.length aw, .int .i64 aK] 47 (0, 0)) (by refine qAx (cs := #[.slice au aG.length aq, .slice ay aI.length aw, .int .i64 0]) ?_ 2 _ rfl; refine qAx (cs := #[.slice au aG.length aq, .slice none 0 0, .int .i64 0]) ?_ 1 _ rfl; refine qAx (cs := #[.slice none 0 0, .slice none 0 0, .int .i64 0]) ?_ 0 _ rfl; exact aD.o) hb) (am (qAk (by repeat ((with_reducible first | exact HB.o | refine qAs ?_ ai.o))) hb)))))); clear aB aC aA aD HB; obtain ⟨aB, aC, aH, aA, aD, HB⟩ := n_; obtain ⟨dC, dI, cj⟩ := Kd.R_slice aH.o; subst cj; obtain ⟨cB, cC, cD⟩ := c3_ dV aD.o; have cW := qAg aD.o 2) | (go_at_call 17; (with_reducible refine (qA9.calls _ _ aG _ _ aI aK aa _ ?side1 ?side2 ?side3 ?side4 cm.o).mono ?_); (case side1 => repeat ((exact (Kd.R_reads' aB.o).2.2))); (case side2 => exact (Kd.R_reads' aB.o).2.1); (case side3 => repeat ((exact (Kd.S_reads' aC.o).2.2))); (case side4 => exact (Kd.S_reads' aC.o).2.1); rintro e d7 ⟨rfl, hb⟩; have n_ := a2 (Kd.R_below (by exact aB.o) hb) (a2 (Kd.S_below (by exact aC.o) hb) (a2 (Kd.R_below (by exact aH.o) hb) (a2 (qAe (g := aM) (o := .cells #[.slice aR l0_0.length aT, .slice aS l0_1.length aU, .int .i64 a0_2] 53 (0, 0)) (by exact aA.o) hb) (a2 (qAe (g := aE) (o := .cells #[.slice au aG.length aq, .slice ay aI.length aw, .int .i64 aK] 47 (0, 0)) (by exact aD.o) hb) (am (qAk (by repeat ((exact HB.o))) hb)))))); clear aB aC aH aA aD HB; obtain ⟨aB, aC, aH, aA, aD, HB⟩ := n_; (skip)) | (go_at_call 14; (with_reducible refine (qAq.calls k  ao _ dA.o).mono ?_); rintro e d8 ⟨rfl, hb⟩; have n_ := am (qAk (by repeat ((exact HB.o))) hb); clear aB aC aH aA aD HB; have HB := n_; clear n_; (skip)))
    go_ret
    exact ⟨by (rfl), by repeat ((exact HB.o))⟩
  ·rw [if_neg bU] at H
   exact absurd H (by simp)
end Q
end
section
namespace Q
open Go.RowKit YA YC YB
open Val Ins DecLaw Wr Enc
namespace ImP
theorem packI_bytes (vars : List S69) (fns : List S77) (main : Int) : qB5 (qC9 vars fns main) := by
 have be_b : ∀ (n : Int) (k : Nat), qB5 (be n k k) := be_bytes
 have one_b : ∀ n : Int, qB5 [n % 256] := fun n x hx => by rw [List.mem_singleton.1 hx]; omega
 have app : ∀ {a b : List Int}, qB5 a → qB5 b → qB5 (a ++ b) := fun ha hb x hx => (List.mem_append.1 hx).elim (ha x) (hb x)
 have flat : ∀ {α : Type} (f : α → List Int) (l : List α), (∀ x ∈ l, qB5 (f x)) → qB5 (l.flatMap f) := fun f l hf x hx => by
  obtain ⟨y, hy, hxy⟩ := List.mem_flatMap.1 hx
  exact hf y hy x hxy
 have byb : ∀ l : List Int, qB5 (byB l) := fun l x hx => by
  obtain ⟨y, _, rfl⟩ := List.mem_map.1 hx
  omega
 have rawl : ∀ l : List Int, qB5 l → qB5 (rawB l) := fun l hl => app (be_b _ _) hl
 have ins : ∀ x : InsD, qB5 (insB x) := fun x y hy => by
  unfold insB at hy
  rcases List.mem_cons.1 hy with h | h
  ·rw [h]; omega
  split at h
  ·rcases List.mem_cons.1 h with h | h
   ·rw [h]; omega
   exact be_b _ _ y h
  exact be_b _ _ y h
 have body : qB5 (qDy vars fns main) := by
  unfold qDy
  refine app (app (app (app (app (by unfold qB5; decide) (be_b _ _)) (flat _ _ fun x _ => ?_)) (be_b _ _)) (flat _ _ fun x _ => ?_)) (be_b _ _)
  ·exact app (one_b _) (be_b _ _)
  unfold fnBI
  exact app (app (app (app (app (one_b _) (byb _)) (one_b _)) (one_b _)) (byb _)) (rawl _ (flat _ _ fun y _ => ins y))
 exact app body (be_b _ _)
theorem sound_kinds {ps : List Int} {res : Int} {ls : List Int} {n : Nat} {fs : List S74} {vs : List Int} (h : qCx ps res ls n fs vs = 0) : (∀ y ∈ ps, 0 ≤ y ∧ y < 256) ∧ (0 ≤ res ∧ res < 256) ∧ (∀ y ∈ ls, 0 ≤ y ∧ y < 256) := by
 unfold qCx at h
 split at h
 ·cases h
 split at h
 ·cases h
 rename_i h1
 split at h
 ·cases h
 split at h
 ·cases h
 rename_i h3
 have hk : ∀ y ∈ ls, 0 ≤ y ∧ y < 256 := fun y hy => by
  have h4 : okT y = true := by
   cases hq : okT y
   ·exact absurd (List.any_eq_true.2 ⟨y, List.mem_append_left _ (List.mem_append_left _ hy), by rw [hq]; rfl⟩) h3
   rfl
  unfold okT at h4
  have := of_decide_eq_true h4
  omega
 have hps : ps = ls.take ps.length := Decidable.not_not.1 fun e => h1 (.inr (.inr (.inl e)))
 have hres : resT res = true := by
  cases hq : resT res
  ·exact absurd (.inr (.inr (.inr hq))) h1
  rfl
 refine ⟨fun y hy => hk y (List.mem_of_mem_take (hps ▸ hy)), ?_, hk⟩
 unfold resT okT at hres
 simp only [Bool.or_eq_true, beq_iff_eq, decide_eq_true_eq] at hres
 omega
theorem right_fok {vars : List S69} {fns : List S77} {main : Int} (h : qAV vars fns main = 0) (hu : ∀ f ∈ fns, ∀ x ∈ f.f2, u64S x = true) : ∀ f ∈ fns, FOk f := fun f hf => by
 have hs := qCN ((ImgR.of h).s f hf)
 have hk := sound_kinds hs.2.2.2.2
 exact ⟨⟨hs.1, hs.2.1, hs.2.2.1⟩, hk.1, hk.2.1, hk.2.2, fun x hx => ⟨hs.2.2.2.1 x hx, hu f hf x hx⟩⟩
theorem right_vok {vars : List S69} {fns : List S77} {main : Int} (h : qAV vars fns main = 0) (hu : ∀ x ∈ vars, u64V x = true) : ∀ x ∈ vars, VOk x := fun x hx => by
 have h1 := (ImgR.of h).ok x hx
 have h2 : 0 ≤ x.f1 ∧ x.f1 < 18446744073709551616 := of_decide_eq_true (hu x hx)
 refine ⟨?_, h2⟩
 unfold okVS okV at h1
 repeat' split at h1
 all_goals first | omega | cases h1
theorem back_core {vs : List S69} {fs : List S77} {m : Int} (g : IOwn.Good vs fs) : ∃ R, qAA.f vs fs m = some R ∧ (R.2 = 0 → R.1 = qC9 vs fs m ∧ qAV vs fs m = 0 ∧ Ev (fun k => qAc.f k R.1) (vs, fs, m, 0)) ∧ (R.2 ≠ 0 → R.1 = [] ∧ (qAV vs fs m = 0 → R.2 = 3)) := by
 have gv := g.v; have gf := g.f
 have hP : qAA.f vs fs m = (if qAV vs fs m = 0 then (if 65536 < (qC9 vs fs m).length then some ([], 3) else some (qC9 vs fs m, 0)) else some ([], qAV vs fs m)) := by
  unfold qAA.f
  rw [if_pos (by simp only [g.vu, g.fu, Bool.true_and, Bool.and_eq_true, decide_eq_true_eq]; omega)]
 by_cases hr : qAV vs fs m = 0
 rotate_left
 ·exact ⟨(([] : List Int), qAV vs fs m), by rw [hP, if_neg hr], fun h => absurd h hr, fun _ => ⟨rfl, fun h => absurd h hr⟩⟩
 by_cases hl : 65536 < (qC9 vs fs m).length
 ·refine ⟨(([] : List Int), (3 : Int)), by rw [hP, if_pos hr, if_pos hl], fun h => ?_, fun _ => ⟨rfl, fun _ => rfl⟩⟩
  exact absurd h (by decide)
 refine ⟨(qC9 vs fs m, 0), by rw [hP, if_pos hr, if_neg hl], fun _ => ⟨rfl, hr, ?_⟩, fun h => absurd rfl h⟩
 exact unpack_written vs fs m (packI_bytes vs fs m) (by omega) hr (right_vok hr (List.all_eq_true.1 g.vu)) (right_fok hr fun f hf => (qD2 (List.all_eq_true.1 g.fu f hf)).2.2.2)
theorem iback_ev (vs : List S69) (fs : List S98) (m : Int) (g0 : qBu 1048576 ⟨vs, fs, m⟩) : Ev (fun k => foundrylaw17_ImageBack.f k vs fs m) true := by
 have ho := IOwn.own_sz g0
 have g := IOwn.own_good g0
 unfold foundrylaw17_ImageBack.f
 refine Ev.bind ho ?_
 clear ho g0
 generalize fs.map IOwn.ofRF = F at g ⊢
 have gv := g.v; have gf := g.f
 have hR : qA9.f vs F m = some (qAV vs F m) := by
  unfold qA9.f
  rw [if_pos (by simp only [g.vu, g.fu, Bool.true_and, Bool.and_eq_true, decide_eq_true_eq]; omega)]
 have hS : qBq.f vs F m vs F m = some true := by
  unfold qBq.f
  rw [if_pos ⟨by omega, by omega, fun x hx => by have := qD2 (List.all_eq_true.1 g.fu x hx); exact ⟨by omega, by omega, by omega⟩⟩]
  rw [qBj.2 rfl]
 obtain ⟨⟨b, e⟩, hp, h0, h1⟩ := back_core (m := m) g
 simp only at h0 h1
 simp only [hp, Option.bind_some]
 by_cases he : e = 0
 ·obtain ⟨rfl, hr, hu⟩ := h0 he
  simp only [he, if_true]
  refine Ev.bind hu ?_
  simp only [hp, Option.bind_some, he, if_true, hS, hR, hr]
  exact Ev.bind alive_ev (Ev.now _)
 obtain ⟨rfl, h3⟩ := h1 he
 simp only [he, if_false, List.length_nil, Int.natCast_zero, if_true, hR, Option.bind_some]
 by_cases hr : qAV vs F m = 0
 ·simp only [hr, if_true, h3 hr]
  exact Ev.bind alive_ev (Ev.now _)
 simp only [hr, if_false]
 exact Ev.bind alive_ev (Ev.now _)
end ImP
end Q
end
section
namespace imageBack
open Go.ChangeShapes Go.WideShapes Go.ChangeAt Go.RowKit
theorem own : ownKnob Try.prog.godebug = none := by kernel_rfl
theorem laidOut : laidOutB Try.prog = true := by kernel_rfl
theorem lifted (os : Os) (started : os.Started) (H : Type) (enc : TypeId × Value → H) (F : Stop.Interp) :
  ReturnsInHanded {} Try.checked os 6 .any ((Rows.OpenSpec.upto Rows.imageBackSpec).pre6 enc Try.prog Try.f6 Rows.imageBackUptoRow.domain false) (((Rows.OpenSpec.upto Rows.imageBackSpec).at F).post enc Try.prog Try.f6 false true false false) := by
 refine returnsInHanded_of_cond (C := Try.checked) (s := Rows.OpenSpec.upto Rows.imageBackSpec) (k := Rows.uptoSmall) rfl own started (by kernel_rfl) Try.func6
  (OpenSpec.witness (enc := enc) (C := Try.checked) (s := Rows.OpenSpec.upto Rows.imageBackSpec) (k := Rows.uptoSmall) rfl false ⟨#[], #[.agg #[.slice none 0 0, .slice none 0 0, .int .i64 0]], []⟩ 8 (by kernel_rfl) (by kernel_rfl) (by kernel_rfl)
    (x := ([.agg [.nil, .nil, .lit (.int .i64 0)]], [], [])) (by kernel_rfl) rfl (by kernel_rfl)) ?_
 intro W base args ds gs before hval0 hW hcnd hk0 _
 have hval : ∀ (j : Nat) t v, Try.f6.params[j]? = some t → args[j]? = some v → Value.okWide Try.prog W .any base t v := hval0
 have hW' := hW
 obtain ⟨p, q, hA0, hV, rfl, hfz, hnd⟩ := hW
 have hA : DataW.TrodAll enc Try.prog W 0 (fun _ => true) true Try.f6.params.toList args.toList ds p := hA0
 rw [Try.params6] at hA hval
 obtain ⟨v0, vs0, d0, ds0, p0, q0, hargs, rfl, rfl, h0, r0⟩ := trodAll_cons hA
 obtain ⟨rfl, rfl, rfl⟩ := trodAll_nil r0
 obtain rfl : args = #[v0] := by cases args; simp_all
 obtain ⟨rfl, rfl⟩ := trodVars_none hV
 have hk : Rows.uptoBulkAll ([d0] ++ []) ≤ 1048576 := of_decide_eq_true hk0
 simp only [List.append_nil, Rows.uptoBulkAll] at hk
 have k0 := h0
 have lt0 : ∀ x ∈ p0, x.block < W.heap.size := by obtain ⟨m, hm⟩ := k0; exact DataW.trod_lt m _ _ _ hm
 obtain ⟨cs, rfl, hsz⟩ := okWide_struct Try.underlying53 (hval 0 53 v0 rfl rfl)
 obtain ⟨fuel, hf⟩ := h0
 obtain ⟨x, hK, hG⟩ := Q.opens_foundryref17_Image W 1048576 H enc 0 (fun _ => true) true fuel _ _ hf (by show Rows.uptoBulk d0 ≤ _; omega)
 obtain ⟨A1, c1, A2, c2, he, l1, g1, l2, g2⟩ := Q.k53_open hK
 obtain rfl : cs = #[.slice A1 x.f0.length c1, .slice A2 x.f1.length c2, .int .i64 x.f2] := Array.ext' he
 obtain ⟨k, hkk⟩ := (Q.ImP.iback_ev x.f0 x.f1 x.f2 hG).rounds
 clear hA0 hval0 hf hK
 refine (Q.foundrylaw17_ImageBack.calls k A1 c1 x.f0 A2 c2 x.f1 x.f2 true W g1 l1 g2 l2 hkk).mono fun e W' ⟨he', bel⟩ => ?_
 subst he'
 exact ⟨_, rfl, _, _, _, [], _, [], hW', trodAll_mk1 (shut_bool Try.underlying4 _), (trodAll_cons_mk (Below.trod laidOut (by kernel_rfl) (of_decide_eq_true (by kernel_rfl)) k0 bel lt0) trodAll_mk0), rfl, bel.frame _, fun h => by cases h⟩
theorem over : Rows.imageBackUptoRow.holds Try.pinned (Rows.OpenSpec.upto Rows.imageBackSpec) :=
 OpenClaim.holds_of_cond 6 Try.f6 rfl rfl rfl rfl rfl rfl rfl ⟨rfl, rfl, rfl, rfl, rfl⟩ rfl rfl rfl rfl rfl (by kernel_rfl) Try.func6 (by kernel_rfl)
  (of_decide_eq_true (by kernel_rfl)) (by unfold Func.isWrapper; first | (rw [if_pos (by decide +kernel)]; kernel_rfl) | (rw [if_neg (by decide +kernel)]; exact ⟨rfl, rfl⟩))
  (fun os started H enc _ F => lifted os started H enc F)
theorem proved : Rows.ImageBackUptoSaid := over
end imageBack

theorem imageBack_holds : Rows.ImageBackUptoSaid := imageBack.proved
end
end Go.Proofs.Ytfjpnjbinbhcfaa
