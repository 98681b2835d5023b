/- object.Pack and the document's Pack of any object, where what is read is of bulk at most 1048576: the same bytes and the same error. Part 7 of 8. -/
import Derived.Test.YtfjpnjbinbhcfaaGreatP6
set_option maxHeartbeats 8000000
set_option maxRecDepth 100000
set_option linter.unusedVariables false
set_option linter.unusedSimpArgs false
namespace Go.Proofs.YtfjpnjbinbhcfaaGreat
section
namespace Q
open Go.RowKit PA PC PB
attribute [local go_sem] qAX min2_int qBi min_two max_three min_three max_four min_four
def qAu.l0 : Nat → Int → List Int → Int → List Int → List (S172) → List Int → Int → List Int → List (S144) → Option (List Int × Int × List Int × (List (S144)))
 | 0, _, _, _, _, _, _, _, _, _ => none
 | k + 1, x4, ba, bb, bc, ao, bP, bQ, bR, bG => if x4 < (ao.length : Int) then (if 0 ≤ x4 then (if bG.length < 4398046511104 then (qAu.l0 k (wrap64 (x4 + 1)) ba bb bc ao bP bQ bR (bG ++ [(⟨(qAv ao x4).f0, (qAv ao x4).f1, (⟨(qAv ao x4).f2.f0, (qAv ao x4).f2.f1⟩ : S83)⟩ : S144)])) else (none)) else (none)) else (some (bP, bQ, bR, bG))
def qAu.f (k : Nat) (l0_0 : List Int) (a0_1 : Int) (l0_2 : List Int) (l0_3 : List (S172)) : Option (List Int × Int × List Int × (List (S144))) := (some (([] : List Int) : List Int)).bind fun aj => (if aj.length + l0_0.length < 17592186044416 then ((some (([] : List Int) : List Int)).bind fun af => (if af.length + l0_2.length < 17592186044416 then (qAu.l0 k 0 l0_0 a0_1 l0_2 l0_3 (aj ++ l0_0) a0_1 (af ++ l0_2) ([] : List (S144))) else (none))) else (none))
def qAu.T1 : Bool × List (List Nat × List Nat) := (true, [([], []), ([], []), ([1], [1]), ([2], [2]), ([0, 3], [0, 3]), ([], []), ([5], [5]), ([6], [6]), ([4, 7], [4, 7]), ([], []), ([], []), ([10], [10]), ([9, 11, 4], [9, 11]), ([8, 12], [8, 12]), ([], []), ([14, 13, 12, 0, 1, 2, 3, 4, 5, 6, 7, 8, 9, 10, 11, 12, 13, 14], [13, 14])])
def qAu.B1 : List Nat := [0, 0, 2, 6, 15, 0, 32, 96, 255, 0, 0, 1024, 3615, 8191, 0, 32767]
theorem qAu.tab1 : rtab .any (opsOf Tryz.f35 1) = qAu.T1 := by kernel_rfl
theorem qAu.bits1 : qCz qAu.T1.2 qAu.B1 = true := by kernel_rfl
def qAu.T5 : Bool × List (List Nat × List Nat) := (true, [([], []), ([0], [0]), ([], []), ([2], [2]), ([], []), ([3, 4], [3, 4]), ([5], [5]), ([6], [6]), ([], []), ([8], [8]), ([], []), ([9, 10], [9, 10]), ([11], [11]), ([12], [12]), ([], []), ([14], [14]), ([], []), ([15, 16], [15, 16]), ([17], [17]), ([18], [18]), ([7, 13, 19], [7, 13, 19]), ([20], [20]), ([1, 21], [1, 21]), ([0, 1, 2, 3, 4, 5, 6, 7, 8, 9, 10, 11, 12, 13, 14, 15, 16, 17, 18, 19, 20, 21, 22], []), ([23, 22, 22, 0, 1, 2, 3, 4, 5, 6, 7, 8, 9, 10, 11, 12, 13, 14, 15, 16, 17, 18, 19, 20, 21, 22], [22, 23])])
def qAu.B5 : List Nat := [0, 1, 0, 4, 0, 28, 60, 124, 0, 256, 0, 1792, 3840, 7936, 0, 16384, 0, 114688, 245760, 507904, 1048572, 2097148, 4194303, 8388607, 16777215]
theorem qAu.tab5 : rtab .any (opsOf Tryz.f35 5) = qAu.T5 := by kernel_rfl
theorem qAu.bits5 : qCz qAu.T5.2 qAu.B5 = true := by kernel_rfl
theorem qAu.calls (k : Nat) (aV : Option Addr) (aX : Nat) (l0_0 : List Int) (a0_1 : Int) (aW : Option Addr) (aY : Nat) (l0_2 : List Int) (a4 : Option Addr) (aZ : Nat) (l0_3 : List (S172)) (r1 : List Int) (r2 : Int) (r3 : List Int) (r4 : List (S144)) (w : World) (hr0_0 : Kd.C (Kd.int .i64) w aV l0_0.length l0_0) (hc0_0 : l0_0.length ≤ aX) (hr0_2 : Kd.C (Kd.int .i64) w aW l0_2.length l0_2) (hc0_2 : l0_2.length ≤ aY) (hr0_3 : Kd.C k172 w a4 l0_3.length l0_3) (hc0_3 : l0_3.length ≤ aZ) (h : qAu.f k l0_0 a0_1 l0_2 l0_3 = some (r1, r2, r3, r4)) :
  Calls Tryz.prog 35 #[.agg #[.slice aV l0_0.length aX, .int .i64 a0_1, .slice aW l0_2.length aY, .slice a4 l0_3.length aZ]] w fun e w' => ∃ v0_ v2_ v3_ : Value, e = .returned (.agg #[v0_, .int .i64 r2, v2_, v3_]) ∧ Kd.R (Kd.int .i64) 3 w' w.heap.size (fun k_ => some k_ ≠ (v2_ : Value).ownBlock) v0_ r1 ∧ Kd.R (Kd.int .i64) 3 w' w.heap.size (fun k_ => some k_ ≠ (v0_ : Value).ownBlock) v2_ r3 ∧ Kd.R k144 144 w' w.heap.size (fun _ => True) v3_ r4 ∧ Below w.heap.size w w' := by
 have bL := am hr0_0
 clear hr0_0 hc0_0
 have bg := am hr0_2
 clear hr0_2 hc0_2
 have bV := am hr0_3
 clear hr0_3 hc0_3
 have HB := am (Below.refl w.heap.size w)
 have H : ((some (([] : List Int) : List Int)).bind fun aj => (if aj.length + l0_0.length < 17592186044416 then ((some (([] : List Int) : List Int)).bind fun af => (if af.length + l0_2.length < 17592186044416 then (qAu.l0 k 0 l0_0 a0_1 l0_2 l0_3 (aj ++ l0_0) a0_1 (af ++ l0_2) ([] : List (S144))) else (none))) else (none))) = some (r1, r2, r3, r4) := h
 clear h
 obtain ⟨aj, bY⟩ : ∃ y_ : List Int, y_ = ([] : List Int) := ⟨_, rfl⟩
 replace H : (if aj.length + l0_0.length < 17592186044416 then ((some (([] : List Int) : List Int)).bind fun af => (if af.length + l0_2.length < 17592186044416 then (qAu.l0 k 0 l0_0 a0_1 l0_2 l0_3 (aj ++ l0_0) a0_1 (af ++ l0_2) ([] : List (S144))) else (none))) else (none)) = some (r1, r2, r3, r4) := by (have H2_ := (Option.bind_some _ _).symm.trans H; rw [bY]; with_reducible exact H2_)
 have bM := am bY
 clear bY
 by_cases c2 : aj.length + l0_0.length < 17592186044416
 ·rw [if_pos c2] at H
  have b6 := am c2
  clear c2
  obtain ⟨a5, bZ⟩ : ∃ y_ : List Int, y_ = (aj ++ l0_0) := ⟨_, rfl⟩
  replace H : ((some (([] : List Int) : List Int)).bind fun af => (if af.length + l0_2.length < 17592186044416 then (qAu.l0 k 0 l0_0 a0_1 l0_2 l0_3 a5 a0_1 (af ++ l0_2) ([] : List (S144))) else (none))) = some (r1, r2, r3, r4) := by (rw [bZ]; with_reducible exact H)
  have bN := am bZ
  clear bZ
  obtain ⟨af, b0⟩ : ∃ y_ : List Int, y_ = ([] : List Int) := ⟨_, rfl⟩
  replace H : (if af.length + l0_2.length < 17592186044416 then (qAu.l0 k 0 l0_0 a0_1 l0_2 l0_3 a5 a0_1 (af ++ l0_2) ([] : List (S144))) else (none)) = some (r1, r2, r3, r4) := by (have H2_ := (Option.bind_some _ _).symm.trans H; rw [b0]; with_reducible exact H2_)
  have bF := am b0
  clear b0
  by_cases c3 : af.length + l0_2.length < 17592186044416
  ·rw [if_pos c3] at H
   have cG := am c3
   clear c3
   obtain ⟨ag, b1⟩ : ∃ y_ : List Int, y_ = (af ++ l0_2) := ⟨_, rfl⟩
   replace H : (qAu.l0 k 0 l0_0 a0_1 l0_2 l0_3 a5 a0_1 ag ([] : List (S144))) = some (r1, r2, r3, r4) := by (rw [b1]; with_reducible exact H)
   have bh := am b1
   clear b1
   have H' := am H
   clear H
   go_enter Tryz.func35, Tryz.ntmps35
   try go_wp2_with (first | ((with_reducible refine qAK (N := 1) rfl ?_); refine bx 1 #[.slice aV l0_0.length aX, .int .i64 a0_1, .slice aW l0_2.length aY, .slice a4 l0_3.length aZ] 98 ?_; intro aE hg w4 hbox hb; have n_ := a2 (qAe HB.o hb) (am (hbox)); clear HB; obtain ⟨HB, aA⟩ := n_; clear hb hbox hg) | ((with_reducible refine qAK (N := 2) rfl ?_); refine bx 2 #[.slice none 0 0, .int .i64 0, .slice none 0 0, .slice none 0 0] 90 ?_; intro aI hg w5 hbox hb; have n_ := a2 (qAk aA.o hb) (a2 (qAe HB.o hb) (a2 (hbox) (am (by rw [hg]; exact (qAf HB.o) : w.heap.size ≤ aI)))); clear aA HB; obtain ⟨aA, HB, aC, cE⟩ := n_; clear hb hbox hg))
   have n_ := a2 (qBF aA.o) (a2 (qBF aC.o) (am (qAM HB.o)))
   clear aA aC HB
   obtain ⟨aA, aC, HB⟩ := n_
   refine qEs (n := 16) (S := fun w' => w'.cell? ⟨aE, 0, none⟩ = some (.slice aV l0_0.length aX) ∧ w'.cell? ⟨aE, 1, none⟩ = some (.int .i64 a0_1) ∧ w'.cell? ⟨aE, 2, none⟩ = some (.slice aW l0_2.length aY) ∧ w'.cell? ⟨aE, 3, none⟩ = some (.slice a4 l0_3.length aZ)) (ds := []) (mK 16 0) (by kernel_rfl) rfl rfl (c4_ _ aA.o) (fun hHeld => ?_); refine qCs qAu.tab1 qAu.bits1 (fun HT_ HW_ => ?_)
   generalize w5.drew = w6 at aA aC HB hHeld ⊢
   refine pu 1 6 (mK 16 2) (qBc HT_.o (by kernel_rfl)) ?_
   refine pu 2 7 (mK 16 6) (qBc HT_.o (by kernel_rfl)) ?_
   refine pu 5 10 (mK 16 38) (qBc HT_.o (by kernel_rfl)) ?_
   refine pu 6 11 (mK 16 102) (qBc HT_.o (by kernel_rfl)) ?_
   refine pu 10 15 (mK 16 1126) (qBc HT_.o (by kernel_rfl)) ?_
   refine tk 3 8 (mK 16 1134) (qBw HT_.o HW_.o (by kernel_rfl)) hHeld ?_
   refine tk 7 12 (mK 16 1262) (qBw HT_.o HW_.o (by kernel_rfl)) hHeld ?_
   refine tk 11 16 (mK 16 3310) (qBw HT_.o HW_.o (by kernel_rfl)) hHeld ?_
   refine qEi (σ := Value × Value × Value × Value × Nat) 1 (mK 16 32767) (fun s_ => [(5, s_.1), (9, s_.2.1), (14, s_.2.2.1), (17, s_.2.2.2.1), (3, .pointer (some ⟨s_.2.2.2.2, 0, none⟩)), (13, .agg #[s_.2.1, .int .i64 a0_1]), (18, .agg #[s_.2.1, .int .i64 a0_1, s_.2.2.2.1, .slice none 0 0])]) (fun s_ w' => (w'.cell? ⟨aE, 0, none⟩ = some (.slice aV l0_0.length aX) ∧ w'.cell? ⟨aE, 1, none⟩ = some (.int .i64 a0_1) ∧ w'.cell? ⟨aE, 2, none⟩ = some (.slice aW l0_2.length aY) ∧ w'.cell? ⟨aE, 3, none⟩ = some (.slice a4 l0_3.length aZ)) ∧ (Kd.R (Kd.int .i64) 3 w' w.heap.size (fun k_ => some k_ ≠ (s_.2.2.2.1 : Value).ownBlock) s_.2.1 a5) ∧ (Kd.R (Kd.int .i64) 3 w' w.heap.size (fun k_ => some k_ ≠ (s_.2.1 : Value).ownBlock) s_.2.2.2.1 ag) ∧ (w'.heap[aE]? = some (.cells #[.slice aV l0_0.length aX, .int .i64 a0_1, .slice aW l0_2.length aY, .slice a4 l0_3.length aZ] 98 (0, 0))) ∧ (w'.heap[aI]? = some (.cells #[.slice none 0 0, .int .i64 0, .slice none 0 0, .slice none 0 0] 90 (0, 0))) ∧ (w'.heap[s_.2.2.2.2]? = some (.cells #[.slice none 0 0, .int .i64 0, .slice none 0 0, .slice none 0 0] 90 (0, 0))) ∧ (w.heap.size ≤ s_.2.2.2.2) ∧ (w.heap.size ≤ s_.2.2.2.2) ∧ (aE ≠ s_.2.2.2.2) ∧ (s_.2.2.2.2 ≠ aE) ∧ (aI ≠ s_.2.2.2.2) ∧ (s_.2.2.2.2 ≠ aI) ∧ (Below w.heap.size w w')) ?_ ?_
   rotate_left
   ·intro hJ0_4_9_12_14
    refine qEi (σ := Value × Value × Value × Value) 2 (mK 16 16383) (fun s_ => [(5, s_.1), (9, s_.2.1), (14, s_.2.2.1), (17, s_.2.2.2), (13, .agg #[s_.2.1, .int .i64 a0_1]), (18, .agg #[s_.2.1, .int .i64 a0_1, s_.2.2.2, .slice none 0 0])]) (fun s_ w' => (w'.cell? ⟨aE, 0, none⟩ = some (.slice aV l0_0.length aX) ∧ w'.cell? ⟨aE, 1, none⟩ = some (.int .i64 a0_1) ∧ w'.cell? ⟨aE, 2, none⟩ = some (.slice aW l0_2.length aY) ∧ w'.cell? ⟨aE, 3, none⟩ = some (.slice a4 l0_3.length aZ)) ∧ (Kd.R (Kd.int .i64) 3 w' w.heap.size (fun k_ => some k_ ≠ (s_.2.2.2 : Value).ownBlock) s_.2.1 a5) ∧ (Kd.R (Kd.int .i64) 3 w' w.heap.size (fun k_ => some k_ ≠ (s_.2.1 : Value).ownBlock) s_.2.2.2 ag) ∧ (w'.heap[aE]? = some (.cells #[.slice aV l0_0.length aX, .int .i64 a0_1, .slice aW l0_2.length aY, .slice a4 l0_3.length aZ] 98 (0, 0))) ∧ (w'.heap[aI]? = some (.cells #[.slice none 0 0, .int .i64 0, .slice none 0 0, .slice none 0 0] 90 (0, 0))) ∧ (Below w.heap.size w w')) ?_ ?_
    rotate_left
    ·intro hJ0_4_9_12
     refine qEi (σ := Value × Value × Value × Nat) 3 (mK 16 20479) (fun s_ => [(5, s_.1), (9, s_.2.1), (14, s_.2.2.1), (3, .pointer (some ⟨s_.2.2.2, 0, none⟩)), (13, .agg #[s_.2.1, .int .i64 a0_1])]) (fun s_ w' => (w'.cell? ⟨aE, 0, none⟩ = some (.slice aV l0_0.length aX) ∧ w'.cell? ⟨aE, 1, none⟩ = some (.int .i64 a0_1) ∧ w'.cell? ⟨aE, 2, none⟩ = some (.slice aW l0_2.length aY) ∧ w'.cell? ⟨aE, 3, none⟩ = some (.slice a4 l0_3.length aZ)) ∧ (Kd.R (Kd.int .i64) 3 w' w.heap.size (fun k_ => some k_ ≠ (s_.2.2.1 : Value).ownBlock) s_.2.1 a5) ∧ (Kd.R (Kd.int .i64) 3 w' w.heap.size (fun k_ => some k_ ≠ (s_.2.1 : Value).ownBlock) s_.2.2.1 af) ∧ (w'.heap[aE]? = some (.cells #[.slice aV l0_0.length aX, .int .i64 a0_1, .slice aW l0_2.length aY, .slice a4 l0_3.length aZ] 98 (0, 0))) ∧ (w'.heap[aI]? = some (.cells #[.slice none 0 0, .int .i64 0, .slice none 0 0, .slice none 0 0] 90 (0, 0))) ∧ (w'.heap[s_.2.2.2]? = some (.cells #[.slice none 0 0, .int .i64 0, .slice none 0 0, .slice none 0 0] 90 (0, 0))) ∧ (w.heap.size ≤ s_.2.2.2) ∧ (w.heap.size ≤ s_.2.2.2) ∧ (aE ≠ s_.2.2.2) ∧ (s_.2.2.2 ≠ aE) ∧ (aI ≠ s_.2.2.2) ∧ (s_.2.2.2 ≠ aI) ∧ (Below w.heap.size w w')) ?_ ?_
     rotate_left
     ·intro hJ0_4_9_14
      refine qEi (σ := Value × Value × Value) 4 (mK 16 4095) (fun s_ => [(5, s_.1), (9, s_.2.1), (14, s_.2.2), (13, .agg #[s_.2.1, .int .i64 a0_1])]) (fun s_ w' => (w'.cell? ⟨aE, 0, none⟩ = some (.slice aV l0_0.length aX) ∧ w'.cell? ⟨aE, 1, none⟩ = some (.int .i64 a0_1) ∧ w'.cell? ⟨aE, 2, none⟩ = some (.slice aW l0_2.length aY) ∧ w'.cell? ⟨aE, 3, none⟩ = some (.slice a4 l0_3.length aZ)) ∧ (Kd.R (Kd.int .i64) 3 w' w.heap.size (fun k_ => some k_ ≠ (s_.2.2 : Value).ownBlock) s_.2.1 a5) ∧ (Kd.R (Kd.int .i64) 3 w' w.heap.size (fun k_ => some k_ ≠ (s_.2.1 : Value).ownBlock) s_.2.2 af) ∧ (w'.heap[aE]? = some (.cells #[.slice aV l0_0.length aX, .int .i64 a0_1, .slice aW l0_2.length aY, .slice a4 l0_3.length aZ] 98 (0, 0))) ∧ (w'.heap[aI]? = some (.cells #[.slice none 0 0, .int .i64 0, .slice none 0 0, .slice none 0 0] 90 (0, 0))) ∧ (Below w.heap.size w w')) ?_ ?_
      rotate_left
      ·intro hJ0_4_9
       refine qEi (σ := Value × Value × Nat) 4 (mK 16 19967) (fun s_ => [(5, s_.1), (9, s_.2.1), (3, .pointer (some ⟨s_.2.2, 0, none⟩)), (13, .agg #[s_.2.1, .int .i64 a0_1])]) (fun s_ w' => (w'.cell? ⟨aE, 0, none⟩ = some (.slice aV l0_0.length aX) ∧ w'.cell? ⟨aE, 1, none⟩ = some (.int .i64 a0_1) ∧ w'.cell? ⟨aE, 2, none⟩ = some (.slice aW l0_2.length aY) ∧ w'.cell? ⟨aE, 3, none⟩ = some (.slice a4 l0_3.length aZ)) ∧ (Kd.R (Kd.int .i64) 3 w' w.heap.size (fun _ => True) s_.2.1 a5) ∧ (w'.heap[aE]? = some (.cells #[.slice aV l0_0.length aX, .int .i64 a0_1, .slice aW l0_2.length aY, .slice a4 l0_3.length aZ] 98 (0, 0))) ∧ (w'.heap[aI]? = some (.cells #[.slice none 0 0, .int .i64 0, .slice none 0 0, .slice none 0 0] 90 (0, 0))) ∧ (w'.heap[s_.2.2]? = some (.cells #[.slice none 0 0, .int .i64 0, .slice none 0 0, .slice none 0 0] 90 (0, 0))) ∧ (w.heap.size ≤ s_.2.2) ∧ (w.heap.size ≤ s_.2.2) ∧ (aE ≠ s_.2.2) ∧ (s_.2.2 ≠ aE) ∧ (aI ≠ s_.2.2) ∧ (s_.2.2 ≠ aI) ∧ (Below w.heap.size w w')) ?_ ?_
       rotate_left
       ·intro hJ0_4_14
        refine qEi (σ := Value × Value × Nat) 5 (mK 16 20207) (fun s_ => [(5, s_.1), (14, s_.2.1), (3, .pointer (some ⟨s_.2.2, 0, none⟩))]) (fun s_ w' => (w'.cell? ⟨aE, 0, none⟩ = some (.slice aV l0_0.length aX) ∧ w'.cell? ⟨aE, 1, none⟩ = some (.int .i64 a0_1) ∧ w'.cell? ⟨aE, 2, none⟩ = some (.slice aW l0_2.length aY) ∧ w'.cell? ⟨aE, 3, none⟩ = some (.slice a4 l0_3.length aZ)) ∧ (Kd.R (Kd.int .i64) 3 w' w.heap.size (fun k_ => some k_ ≠ (s_.2.1 : Value).ownBlock) s_.1 aj) ∧ (Kd.R (Kd.int .i64) 3 w' w.heap.size (fun k_ => some k_ ≠ (s_.1 : Value).ownBlock) s_.2.1 af) ∧ (w'.heap[aE]? = some (.cells #[.slice aV l0_0.length aX, .int .i64 a0_1, .slice aW l0_2.length aY, .slice a4 l0_3.length aZ] 98 (0, 0))) ∧ (w'.heap[aI]? = some (.cells #[.slice none 0 0, .int .i64 0, .slice none 0 0, .slice none 0 0] 90 (0, 0))) ∧ (w'.heap[s_.2.2]? = some (.cells #[.slice none 0 0, .int .i64 0, .slice none 0 0, .slice none 0 0] 90 (0, 0))) ∧ (w.heap.size ≤ s_.2.2) ∧ (w.heap.size ≤ s_.2.2) ∧ (aE ≠ s_.2.2) ∧ (s_.2.2 ≠ aE) ∧ (aI ≠ s_.2.2) ∧ (s_.2.2 ≠ aI) ∧ (Below w.heap.size w w')) ?_ ?_
        rotate_left
        ·intro hJ0_9_14
         refine qEi (σ := Value × Value) 5 (mK 16 3583) (fun s_ => [(5, s_.1), (9, s_.2), (13, .agg #[s_.2, .int .i64 a0_1])]) (fun s_ w' => (w'.cell? ⟨aE, 0, none⟩ = some (.slice aV l0_0.length aX) ∧ w'.cell? ⟨aE, 1, none⟩ = some (.int .i64 a0_1) ∧ w'.cell? ⟨aE, 2, none⟩ = some (.slice aW l0_2.length aY) ∧ w'.cell? ⟨aE, 3, none⟩ = some (.slice a4 l0_3.length aZ)) ∧ (Kd.R (Kd.int .i64) 3 w' w.heap.size (fun _ => True) s_.2 a5) ∧ (w'.heap[aE]? = some (.cells #[.slice aV l0_0.length aX, .int .i64 a0_1, .slice aW l0_2.length aY, .slice a4 l0_3.length aZ] 98 (0, 0))) ∧ (w'.heap[aI]? = some (.cells #[.slice none 0 0, .int .i64 0, .slice none 0 0, .slice none 0 0] 90 (0, 0))) ∧ (Below w.heap.size w w')) ?_ ?_
         rotate_left
         ·intro hJ0_4
          refine qEi (σ := Value × Value) 6 (mK 16 3823) (fun s_ => [(5, s_.1), (14, s_.2)]) (fun s_ w' => (w'.cell? ⟨aE, 0, none⟩ = some (.slice aV l0_0.length aX) ∧ w'.cell? ⟨aE, 1, none⟩ = some (.int .i64 a0_1) ∧ w'.cell? ⟨aE, 2, none⟩ = some (.slice aW l0_2.length aY) ∧ w'.cell? ⟨aE, 3, none⟩ = some (.slice a4 l0_3.length aZ)) ∧ (Kd.R (Kd.int .i64) 3 w' w.heap.size (fun k_ => some k_ ≠ (s_.2 : Value).ownBlock) s_.1 aj) ∧ (Kd.R (Kd.int .i64) 3 w' w.heap.size (fun k_ => some k_ ≠ (s_.1 : Value).ownBlock) s_.2 af) ∧ (w'.heap[aE]? = some (.cells #[.slice aV l0_0.length aX, .int .i64 a0_1, .slice aW l0_2.length aY, .slice a4 l0_3.length aZ] 98 (0, 0))) ∧ (w'.heap[aI]? = some (.cells #[.slice none 0 0, .int .i64 0, .slice none 0 0, .slice none 0 0] 90 (0, 0))) ∧ (Below w.heap.size w w')) ?_ ?_
          rotate_left
          ·intro hJ0_9
           refine qEi (σ := Value × Nat) 6 (mK 16 19695) (fun s_ => [(5, s_.1), (3, .pointer (some ⟨s_.2, 0, none⟩))]) (fun s_ w' => (w'.cell? ⟨aE, 0, none⟩ = some (.slice aV l0_0.length aX) ∧ w'.cell? ⟨aE, 1, none⟩ = some (.int .i64 a0_1) ∧ w'.cell? ⟨aE, 2, none⟩ = some (.slice aW l0_2.length aY) ∧ w'.cell? ⟨aE, 3, none⟩ = some (.slice a4 l0_3.length aZ)) ∧ (Kd.R (Kd.int .i64) 3 w' w.heap.size (fun _ => True) s_.1 aj) ∧ (w'.heap[aE]? = some (.cells #[.slice aV l0_0.length aX, .int .i64 a0_1, .slice aW l0_2.length aY, .slice a4 l0_3.length aZ] 98 (0, 0))) ∧ (w'.heap[aI]? = some (.cells #[.slice none 0 0, .int .i64 0, .slice none 0 0, .slice none 0 0] 90 (0, 0))) ∧ (w'.heap[s_.2]? = some (.cells #[.slice none 0 0, .int .i64 0, .slice none 0 0, .slice none 0 0] 90 (0, 0))) ∧ (w.heap.size ≤ s_.2) ∧ (w.heap.size ≤ s_.2) ∧ (aE ≠ s_.2) ∧ (s_.2 ≠ aE) ∧ (aI ≠ s_.2) ∧ (s_.2 ≠ aI) ∧ (Below w.heap.size w w')) ?_ ?_
           rotate_left
           ·intro hJ0_14
            refine qEi (σ := Value × Nat) 6 (mK 16 20206) (fun s_ => [(14, s_.1), (3, .pointer (some ⟨s_.2, 0, none⟩))]) (fun s_ w' => (w'.cell? ⟨aE, 0, none⟩ = some (.slice aV l0_0.length aX) ∧ w'.cell? ⟨aE, 1, none⟩ = some (.int .i64 a0_1) ∧ w'.cell? ⟨aE, 2, none⟩ = some (.slice aW l0_2.length aY) ∧ w'.cell? ⟨aE, 3, none⟩ = some (.slice a4 l0_3.length aZ)) ∧ (Kd.R (Kd.int .i64) 3 w' w.heap.size (fun _ => True) s_.1 af) ∧ (w'.heap[aE]? = some (.cells #[.slice aV l0_0.length aX, .int .i64 a0_1, .slice aW l0_2.length aY, .slice a4 l0_3.length aZ] 98 (0, 0))) ∧ (w'.heap[aI]? = some (.cells #[.slice none 0 0, .int .i64 0, .slice none 0 0, .slice none 0 0] 90 (0, 0))) ∧ (w'.heap[s_.2]? = some (.cells #[.slice none 0 0, .int .i64 0, .slice none 0 0, .slice none 0 0] 90 (0, 0))) ∧ (w.heap.size ≤ s_.2) ∧ (w.heap.size ≤ s_.2) ∧ (aE ≠ s_.2) ∧ (s_.2 ≠ aE) ∧ (aI ≠ s_.2) ∧ (s_.2 ≠ aI) ∧ (Below w.heap.size w w')) ?_ ?_
            rotate_left
            ·intro hJ9_14
             refine qEi (σ := Value) 7 (mK 16 3311) (fun s_ => [(5, s_)]) (fun s_ w' => (w'.cell? ⟨aE, 0, none⟩ = some (.slice aV l0_0.length aX) ∧ w'.cell? ⟨aE, 1, none⟩ = some (.int .i64 a0_1) ∧ w'.cell? ⟨aE, 2, none⟩ = some (.slice aW l0_2.length aY) ∧ w'.cell? ⟨aE, 3, none⟩ = some (.slice a4 l0_3.length aZ)) ∧ (Kd.R (Kd.int .i64) 3 w' w.heap.size (fun _ => True) s_ aj) ∧ (w'.heap[aE]? = some (.cells #[.slice aV l0_0.length aX, .int .i64 a0_1, .slice aW l0_2.length aY, .slice a4 l0_3.length aZ] 98 (0, 0))) ∧ (w'.heap[aI]? = some (.cells #[.slice none 0 0, .int .i64 0, .slice none 0 0, .slice none 0 0] 90 (0, 0))) ∧ (Below w.heap.size w w')) ?_ ?_
             rotate_left
             ·intro hJ0
              refine qEi (σ := Value) 7 (mK 16 3822) (fun s_ => [(14, s_)]) (fun s_ w' => (w'.cell? ⟨aE, 0, none⟩ = some (.slice aV l0_0.length aX) ∧ w'.cell? ⟨aE, 1, none⟩ = some (.int .i64 a0_1) ∧ w'.cell? ⟨aE, 2, none⟩ = some (.slice aW l0_2.length aY) ∧ w'.cell? ⟨aE, 3, none⟩ = some (.slice a4 l0_3.length aZ)) ∧ (Kd.R (Kd.int .i64) 3 w' w.heap.size (fun _ => True) s_ af) ∧ (w'.heap[aE]? = some (.cells #[.slice aV l0_0.length aX, .int .i64 a0_1, .slice aW l0_2.length aY, .slice a4 l0_3.length aZ] 98 (0, 0))) ∧ (w'.heap[aI]? = some (.cells #[.slice none 0 0, .int .i64 0, .slice none 0 0, .slice none 0 0] 90 (0, 0))) ∧ (Below w.heap.size w w')) ?_ ?_
              rotate_left
              ·intro hJ9
               refine qEi (σ := Nat) 7 (mK 16 19694) (fun s_ => [(3, .pointer (some ⟨s_, 0, none⟩))]) (fun s_ w' => (w'.cell? ⟨aE, 0, none⟩ = some (.slice aV l0_0.length aX) ∧ w'.cell? ⟨aE, 1, none⟩ = some (.int .i64 a0_1) ∧ w'.cell? ⟨aE, 2, none⟩ = some (.slice aW l0_2.length aY) ∧ w'.cell? ⟨aE, 3, none⟩ = some (.slice a4 l0_3.length aZ)) ∧ (w'.heap[aE]? = some (.cells #[.slice aV l0_0.length aX, .int .i64 a0_1, .slice aW l0_2.length aY, .slice a4 l0_3.length aZ] 98 (0, 0))) ∧ (w'.heap[aI]? = some (.cells #[.slice none 0 0, .int .i64 0, .slice none 0 0, .slice none 0 0] 90 (0, 0))) ∧ (w'.heap[s_]? = some (.cells #[.slice none 0 0, .int .i64 0, .slice none 0 0, .slice none 0 0] 90 (0, 0))) ∧ (w.heap.size ≤ s_) ∧ (w.heap.size ≤ s_) ∧ (aE ≠ s_) ∧ (s_ ≠ aE) ∧ (aI ≠ s_) ∧ (s_ ≠ aI) ∧ (Below w.heap.size w w')) ?_ ?_
               rotate_left
               ·intro hJ14
                refine three_ (i := 0) (j := 9) (k := 14) (Ni := some 5) (Nj := some 14) (Nk := some 3) (mK 16 3311) (mK 16 3822) (mK 16 19694) rfl rfl rfl rfl rfl rfl (three_of HT_.o (by kernel_rfl)) (by decide) (by decide) (by decide) (fun K hK => ?_) (fun K hK => ?_) (fun K hK => ?_)
                ·skip
                 refine Kd.R_lit_step (Kd.int .i64) _ 3 ?hg (N := 5) ?hd (xs := ([] : List Int)) (inner := []) (ok := fun _ => True) (okp := fun _ => True) ?hr ?hp (fun _ hk => hk) trivial (Below.refl _ _) (Nat.le_refl _) (by simp) ?_; (case hd => rfl); (case hg => rfl); (case hr => (go_simp; done)); (case hp => exact (Reps.none _ _))
                 intro a9 w7 bu hb hg_ hnew_
                 clear hg_ hnew_
                 (rw [← bM.o] at bu)
                 have n_ := a2 (Kd.R_lower bu (qAf HB.o)) (a2 (qAk aA.o hb) (a2 (qAk aC.o hb) (am (qAe HB.o hb))))
                 clear aA aC HB
                 obtain ⟨aT, aA, aC, HB⟩ := n_
                 clear hb bu
                 refine hK.o _ _ (c4_ _ aA.o) (fun hHeld => ?_)
                 clear hK K
                 refine nm ?_
                 exact nq (hJ0 (a9) _ ⟨hHeld, aT.o, aA.o, aC.o, HB.o⟩)
                ·skip
                 refine Kd.R_lit_step (Kd.int .i64) _ 3 ?hg (N := 14) ?hd (xs := ([] : List Int)) (inner := []) (ok := fun _ => True) (okp := fun _ => True) ?hr ?hp (fun _ hk => hk) trivial (Below.refl _ _) (Nat.le_refl _) (by simp) ?_; (case hd => rfl); (case hg => rfl); (case hr => (go_simp; done)); (case hp => exact (Reps.none _ _))
                 intro a8 w7 bu hb hg_ hnew_
                 clear hg_ hnew_
                 (rw [← bF.o] at bu)
                 have n_ := a2 (Kd.R_lower bu (qAf HB.o)) (a2 (qAk aA.o hb) (a2 (qAk aC.o hb) (am (qAe HB.o hb))))
                 clear aA aC HB
                 obtain ⟨aN, aA, aC, HB⟩ := n_
                 clear hb bu
                 refine hK.o _ _ (c4_ _ aA.o) (fun hHeld => ?_)
                 clear hK K
                 refine nm ?_
                 exact nq (hJ9 (a8) _ ⟨hHeld, aN.o, aA.o, aC.o, HB.o⟩)
                ·skip
                 refine qDm ?hg (N := 3) ?hd (cs := #[.slice none 0 0, .int .i64 0, .slice none 0 0, .slice none 0 0]) (t := 90) ?hr ?_; (case hd => rfl); (case hg => rfl); (case hr => (go_simp; done))
                 intro aD hg w7 hbox hb
                 have n_ := a2 (qAk aA.o hb) (a2 (qAk aC.o hb) (a2 (qAe HB.o hb) (a2 (hbox) (a2 (by rw [hg]; exact (qAf HB.o) : w.heap.size ≤ aD) (a2 (by rw [hg]; exact (qAf HB.o) : w.heap.size ≤ aD) (a2 (by rw [hg]; exact Nat.ne_of_lt (qBd aA.o) : aE ≠ aD) (a2 (by rw [hg]; exact Nat.ne_of_gt (qBd aA.o) : aD ≠ aE) (a2 (by rw [hg]; exact Nat.ne_of_lt (qBd aC.o) : aI ≠ aD) (am (by rw [hg]; exact Nat.ne_of_gt (qBd aC.o) : aD ≠ aI))))))))))
                 clear aA aC HB
                 obtain ⟨aA, aC, HB, aH, aa, a7, aG, aK, aJ, aM⟩ := n_
                 clear hb hbox hg
                 refine hK.o _ _ (c4_ _ aA.o) (fun hHeld => ?_)
                 clear hK K
                 refine nm ?_
                 exact nq (hJ14 (aD) _ ⟨hHeld, aA.o, aC.o, aH.o, aa.o, a7.o, aG.o, aK.o, aJ.o, aM.o, HB.o⟩)
               ·skip
                rintro aD w8 ⟨hS_, h0_, h1_, h2_, h3_, h4_, h5_, h6_, h7_, h8_, h9_⟩
                have n0_ : qAa (w8.heap[aE]? = some (.cells #[.slice aV l0_0.length aX, .int .i64 a0_1, .slice aW l0_2.length aY, .slice a4 l0_3.length aZ] 98 (0, 0))) := ⟨h0_⟩
                have n1_ : qAa (w8.heap[aI]? = some (.cells #[.slice none 0 0, .int .i64 0, .slice none 0 0, .slice none 0 0] 90 (0, 0))) := ⟨h1_⟩
                have n2_ : qAa (w8.heap[aD]? = some (.cells #[.slice none 0 0, .int .i64 0, .slice none 0 0, .slice none 0 0] 90 (0, 0))) := ⟨h2_⟩
                have n3_ : qAa (w.heap.size ≤ aD) := ⟨h3_⟩
                have n4_ : qAa (w.heap.size ≤ aD) := ⟨h4_⟩
                have n5_ : qAa (aE ≠ aD) := ⟨h5_⟩
                have n6_ : qAa (aD ≠ aE) := ⟨h6_⟩
                have n7_ : qAa (aI ≠ aD) := ⟨h7_⟩
                have n8_ : qAa (aD ≠ aI) := ⟨h8_⟩
                have n9_ : qAa (Below w.heap.size w w8) := ⟨h9_⟩
                clear aA aC HB h0_ h1_ h2_ h3_ h4_ h5_ h6_ h7_ h8_ h9_
                have aA := n0_
                have aC := n1_
                have aH := n2_
                have aa := n3_
                have a7 := n4_
                have aG := n5_
                have aK := n6_
                have aJ := n7_
                have aM := n8_
                have HB := n9_
                clear n0_ n1_ n2_ n3_ n4_ n5_ n6_ n7_ n8_ n9_
                refine qDw (a' := ?_) ?_ ?_
                rotate_left
                ·simp only [qCh, Act.put, List.setIfInBounds_toArray, List.set_cons_zero, List.set_cons_succ]
                 rfl
                refine two_ (i := 0) (j := 9) (Ni := some 5) (Nj := some 14) (mK 16 19695) (mK 16 20206) rfl rfl rfl rfl (qFA HT_.o (by kernel_rfl)) (by decide) (by decide) (fun K hK => ?_) (fun K hK => ?_)
                ·skip
                 refine Kd.R_lit_step (Kd.int .i64) _ 3 ?hg (N := 5) ?hd (xs := ([] : List Int)) (inner := []) (ok := fun _ => True) (okp := fun _ => True) ?hr ?hp (fun _ hk => hk) trivial (Below.refl _ _) (Nat.le_refl _) (by simp) ?_; (case hd => rfl); (case hg => rfl); (case hr => (go_simp; done)); (case hp => exact (Reps.none _ _))
                 intro a9 w9 ho10 hb hg_ hnew_
                 clear hg_ hnew_
                 (rw [← bM.o] at ho10)
                 have n_ := a2 (Kd.R_lower ho10 (qAf HB.o)) (a2 (qAk aA.o hb) (a2 (qAk aC.o hb) (a2 (qAk aH.o hb) (am (qAe HB.o hb)))))
                 clear aA aC aH HB
                 obtain ⟨aT, aA, aC, aH, HB⟩ := n_
                 clear hb ho10
                 refine hK.o _ _ (c4_ _ aA.o) (fun hHeld => ?_)
                 clear hK K
                 refine nm ?_
                 exact nq (hJ0_14 (a9, aD) _ ⟨hHeld, aT.o, aA.o, aC.o, aH.o, aa.o, a7.o, aG.o, aK.o, aJ.o, aM.o, HB.o⟩)
                ·skip
                 refine Kd.R_lit_step (Kd.int .i64) _ 3 ?hg (N := 14) ?hd (xs := ([] : List Int)) (inner := []) (ok := fun _ => True) (okp := fun _ => True) ?hr ?hp (fun _ hk => hk) trivial (Below.refl _ _) (Nat.le_refl _) (by simp) ?_; (case hd => rfl); (case hg => rfl); (case hr => (go_simp; done)); (case hp => exact (Reps.none _ _))
                 intro a8 w9 ho10 hb hg_ hnew_
                 clear hg_ hnew_
                 (rw [← bF.o] at ho10)
                 have n_ := a2 (Kd.R_lower ho10 (qAf HB.o)) (a2 (qAk aA.o hb) (a2 (qAk aC.o hb) (a2 (qAk aH.o hb) (am (qAe HB.o hb)))))
                 clear aA aC aH HB
                 obtain ⟨aN, aA, aC, aH, HB⟩ := n_
                 clear hb ho10
                 refine hK.o _ _ (c4_ _ aA.o) (fun hHeld => ?_)
                 clear hK K
                 refine nm ?_
                 exact nq (hJ9_14 (a8, aD) _ ⟨hHeld, aN.o, aA.o, aC.o, aH.o, aa.o, a7.o, aG.o, aK.o, aJ.o, aM.o, HB.o⟩)
              ·skip
               rintro a8 w9 ⟨hS_, h0_, h1_, h2_, h3_⟩
               have n0_ : qAa (Kd.R (Kd.int .i64) 3 w9 w.heap.size (fun _ => True) a8 af) := ⟨h0_⟩
               have n1_ : qAa (w9.heap[aE]? = some (.cells #[.slice aV l0_0.length aX, .int .i64 a0_1, .slice aW l0_2.length aY, .slice a4 l0_3.length aZ] 98 (0, 0))) := ⟨h1_⟩
               have n2_ : qAa (w9.heap[aI]? = some (.cells #[.slice none 0 0, .int .i64 0, .slice none 0 0, .slice none 0 0] 90 (0, 0))) := ⟨h2_⟩
               have n3_ : qAa (Below w.heap.size w w9) := ⟨h3_⟩
               clear aA aC HB h0_ h1_ h2_ h3_
               have aN := n0_
               have aA := n1_
               have aC := n2_
               have HB := n3_
               clear n0_ n1_ n2_ n3_
               refine qDw (a' := ?_) ?_ ?_
               rotate_left
               ·simp only [qCh, Act.put, List.setIfInBounds_toArray, List.set_cons_zero, List.set_cons_succ]
                rfl
               refine two_ (i := 0) (j := 14) (Ni := some 5) (Nj := some 3) (mK 16 3823) (mK 16 20206) rfl rfl rfl rfl (qFA HT_.o (by kernel_rfl)) (by decide) (by decide) (fun K hK => ?_) (fun K hK => ?_)
               ·skip
                refine Kd.R_lit_step (Kd.int .i64) _ 3 ?hg (N := 5) ?hd (xs := ([] : List Int)) (inner := []) (ok := fun _ => True) (okp := fun _ => True) ?hr ?hp (fun _ hk => hk) trivial (Below.refl _ _) (Nat.le_refl _) (by simp) ?_; (case hd => rfl); (case hg => rfl); (case hr => (go_simp; done)); (case hp => exact (Reps.none _ _))
                intro a9 bI ho11 hb hg_ hnew_
                clear hg_ hnew_
                (rw [← bM.o] at ho11)
                have n_ := a2 (Kd.R_elder' aN.o (Kd.R_base ho11) hb) (a2 (Kd.R_lower (Kd.R_new' ho11 (Kd.R_lt aN.o)) (qAf HB.o)) (a2 (qAk aA.o hb) (a2 (qAk aC.o hb) (am (qAe HB.o hb)))))
                clear aN aA aC HB
                obtain ⟨aN, aT, aA, aC, HB⟩ := n_
                clear hb ho11
                refine hK.o _ _ (c4_ _ aA.o) (fun hHeld => ?_)
                clear hK K
                refine nm ?_
                exact nq (hJ0_9 (a9, a8) _ ⟨hHeld, (by exact Kd.R_mono aT.o (fun _ hk => hk.2)), (by exact Kd.R_mono aN.o (fun _ hk => hk.2)), aA.o, aC.o, HB.o⟩)
               ·skip
                refine qDm ?hg (N := 3) ?hd (cs := #[.slice none 0 0, .int .i64 0, .slice none 0 0, .slice none 0 0]) (t := 90) ?hr ?_; (case hd => rfl); (case hg => rfl); (case hr => (go_simp; done))
                intro aD hg bI hbox hb
                have n_ := a2 (Kd.R_below aN.o hb) (a2 (qAk aA.o hb) (a2 (qAk aC.o hb) (a2 (qAe HB.o hb) (a2 (hbox) (a2 (by rw [hg]; exact (qAf HB.o) : w.heap.size ≤ aD) (a2 (by rw [hg]; exact (qAf HB.o) : w.heap.size ≤ aD) (a2 (by rw [hg]; exact Nat.ne_of_lt (qBd aA.o) : aE ≠ aD) (a2 (by rw [hg]; exact Nat.ne_of_gt (qBd aA.o) : aD ≠ aE) (a2 (by rw [hg]; exact Nat.ne_of_lt (qBd aC.o) : aI ≠ aD) (am (by rw [hg]; exact Nat.ne_of_gt (qBd aC.o) : aD ≠ aI)))))))))))
                clear aN aA aC HB
                obtain ⟨aN, aA, aC, HB, aH, aa, a7, aG, aK, aJ, aM⟩ := n_
                clear hb hbox hg
                refine hK.o _ _ (c4_ _ aA.o) (fun hHeld => ?_)
                clear hK K
                refine nm ?_
                exact nq (hJ9_14 (a8, aD) _ ⟨hHeld, aN.o, aA.o, aC.o, aH.o, aa.o, a7.o, aG.o, aK.o, aJ.o, aM.o, HB.o⟩)
             ·skip
              rintro a9 w9 ⟨hS_, h0_, h1_, h2_, h3_⟩
              have n0_ : qAa (Kd.R (Kd.int .i64) 3 w9 w.heap.size (fun _ => True) a9 aj) := ⟨h0_⟩
              have n1_ : qAa (w9.heap[aE]? = some (.cells #[.slice aV l0_0.length aX, .int .i64 a0_1, .slice aW l0_2.length aY, .slice a4 l0_3.length aZ] 98 (0, 0))) := ⟨h1_⟩
              have n2_ : qAa (w9.heap[aI]? = some (.cells #[.slice none 0 0, .int .i64 0, .slice none 0 0, .slice none 0 0] 90 (0, 0))) := ⟨h2_⟩
              have n3_ : qAa (Below w.heap.size w w9) := ⟨h3_⟩
              clear aA aC HB h0_ h1_ h2_ h3_
              have aT := n0_
              have aA := n1_
              have aC := n2_
              have HB := n3_
              clear n0_ n1_ n2_ n3_
              refine qDw (a' := ?_) ?_ ?_
              rotate_left
              ·simp only [qCh, Act.put, List.setIfInBounds_toArray, List.set_cons_zero, List.set_cons_succ]
               rfl
              refine three_ (i := 4) (j := 9) (k := 14) (Ni := some 9) (Nj := some 14) (Nk := some 3) (mK 16 3327) (mK 16 3823) (mK 16 19695) rfl rfl rfl rfl rfl rfl (three_of HT_.o (by kernel_rfl)) (by decide) (by decide) (by decide) (fun K hK => ?_) (fun K hK => ?_) (fun K hK => ?_)
              ·skip
               refine Kd.R_append_rows_step (Kd.int .i64) (w0 := w) w.heap.size (by rfl) (.tmp 5) (.tmp 8) 57 3 (.int .i64 0) 8 rfl Tryz.underlying57 info3 rfl (by decide) (by omega) a9 aj l0_0 _ _ _ (fun _ => True) (fun _ => False) rfl rfl ?aO ?aR (fun _ _ h => h) (fun _ h => h.elim) ?aF ?aB ?aS ?aL ?_
               (case aR => exact (Kd.C_below bL.o HB.o))
               (case aB => exact HB.o)
               (case aF => exact (fun _ _ => trivial))
               (case aO => exact aT.o)
               (case aS => exact (qAf HB.o))
               (case aL => have := b6.o; omega)
               intro an bI ho hb hg bH
               rw [← bN.o] at ho
               have n_ := a2 (qAI (g := aE) (o := .cells #[.slice aV l0_0.length aX, .int .i64 a0_1, .slice aW l0_2.length aY, .slice a4 l0_3.length aZ] 98 (0, 0)) aA.o hg (Kd.R_ne aT.o aA.o (by decide))) (a2 (qAI (g := aI) (o := .cells #[.slice none 0 0, .int .i64 0, .slice none 0 0, .slice none 0 0] 90 (0, 0)) aC.o hg (Kd.R_ne aT.o aC.o (by decide))) (a2 (hb) (am (ho))))
               clear aA aC HB aT
               obtain ⟨aA, aC, HB, aQ⟩ := n_
               clear ho hb hg bH
               obtain ⟨ca, cc, cg⟩ := Kd.R_slice aQ.o
               (subst cg)
               refine hK.o _ _ (c4_ _ aA.o) (fun hHeld => ?_)
               clear hK K
               refine nm ?_
               refine pu 8 13 (mK 16 3583) (qBc HT_.o (by kernel_rfl)) ?_
               exact nq (hJ0_4 (a9, .slice ca a5.length cc) _ ⟨hHeld, aQ.o, aA.o, aC.o, HB.o⟩)
              ·skip
               refine Kd.R_lit_step (Kd.int .i64) _ 3 ?hg (N := 14) ?hd (xs := ([] : List Int)) (inner := []) (ok := fun _ => True) (okp := fun _ => True) ?hr ?hp (fun _ hk => hk) trivial (Below.refl _ _) (Nat.le_refl _) (by simp) ?_; (case hd => rfl); (case hg => rfl); (case hr => (go_simp; done)); (case hp => exact (Reps.none _ _))
               intro a8 bI ho11 hb hg_ hnew_
               clear hg_ hnew_
               (rw [← bF.o] at ho11)
               have n_ := a2 (Kd.R_elder' aT.o (Kd.R_base ho11) hb) (a2 (Kd.R_lower (Kd.R_new' ho11 (Kd.R_lt aT.o)) (qAf HB.o)) (a2 (qAk aA.o hb) (a2 (qAk aC.o hb) (am (qAe HB.o hb)))))
               clear aT aA aC HB
               obtain ⟨aT, aN, aA, aC, HB⟩ := n_
               clear hb ho11
               refine hK.o _ _ (c4_ _ aA.o) (fun hHeld => ?_)
               clear hK K
               refine nm ?_
               exact nq (hJ0_9 (a9, a8) _ ⟨hHeld, (by exact Kd.R_mono aT.o (fun _ hk => hk.2)), (by exact Kd.R_mono aN.o (fun _ hk => hk.2)), aA.o, aC.o, HB.o⟩)
              ·skip
               refine qDm ?hg (N := 3) ?hd (cs := #[.slice none 0 0, .int .i64 0, .slice none 0 0, .slice none 0 0]) (t := 90) ?hr ?_; (case hd => rfl); (case hg => rfl); (case hr => (go_simp; done))
               intro aD hg bI hbox hb
               have n_ := a2 (Kd.R_below aT.o hb) (a2 (qAk aA.o hb) (a2 (qAk aC.o hb) (a2 (qAe HB.o hb) (a2 (hbox) (a2 (by rw [hg]; exact (qAf HB.o) : w.heap.size ≤ aD) (a2 (by rw [hg]; exact (qAf HB.o) : w.heap.size ≤ aD) (a2 (by rw [hg]; exact Nat.ne_of_lt (qBd aA.o) : aE ≠ aD) (a2 (by rw [hg]; exact Nat.ne_of_gt (qBd aA.o) : aD ≠ aE) (a2 (by rw [hg]; exact Nat.ne_of_lt (qBd aC.o) : aI ≠ aD) (am (by rw [hg]; exact Nat.ne_of_gt (qBd aC.o) : aD ≠ aI)))))))))))
               clear aT aA aC HB
               obtain ⟨aT, aA, aC, HB, aH, aa, a7, aG, aK, aJ, aM⟩ := n_
               clear hb hbox hg
               refine hK.o _ _ (c4_ _ aA.o) (fun hHeld => ?_)
               clear hK K
               refine nm ?_
               exact nq (hJ0_14 (a9, aD) _ ⟨hHeld, aT.o, aA.o, aC.o, aH.o, aa.o, a7.o, aG.o, aK.o, aJ.o, aM.o, HB.o⟩)
            ·skip
             rintro ⟨a8, aD⟩ bI ⟨hS_, h0_, h1_, h2_, h3_, h4_, h5_, h6_, h7_, h8_, h9_, h10_⟩
             have n0_ : qAa (Kd.R (Kd.int .i64) 3 bI w.heap.size (fun _ => True) a8 af) := ⟨h0_⟩
             have n1_ : qAa (bI.heap[aE]? = some (.cells #[.slice aV l0_0.length aX, .int .i64 a0_1, .slice aW l0_2.length aY, .slice a4 l0_3.length aZ] 98 (0, 0))) := ⟨h1_⟩
             have n2_ : qAa (bI.heap[aI]? = some (.cells #[.slice none 0 0, .int .i64 0, .slice none 0 0, .slice none 0 0] 90 (0, 0))) := ⟨h2_⟩
             have n3_ : qAa (bI.heap[aD]? = some (.cells #[.slice none 0 0, .int .i64 0, .slice none 0 0, .slice none 0 0] 90 (0, 0))) := ⟨h3_⟩
             have n4_ : qAa (w.heap.size ≤ aD) := ⟨h4_⟩
             have n5_ : qAa (w.heap.size ≤ aD) := ⟨h5_⟩
             have n6_ : qAa (aE ≠ aD) := ⟨h6_⟩
             have n7_ : qAa (aD ≠ aE) := ⟨h7_⟩
             have n8_ : qAa (aI ≠ aD) := ⟨h8_⟩
             have n9_ : qAa (aD ≠ aI) := ⟨h9_⟩
             have n10_ : qAa (Below w.heap.size w bI) := ⟨h10_⟩
             clear aA aC HB h0_ h1_ h2_ h3_ h4_ h5_ h6_ h7_ h8_ h9_ h10_
             have aN := n0_
             have aA := n1_
             have aC := n2_
             have aH := n3_
             have aa := n4_
             have a7 := n5_
             have aG := n6_
             have aK := n7_
             have aJ := n8_
             have aM := n9_
             have HB := n10_
             clear n0_ n1_ n2_ n3_ n4_ n5_ n6_ n7_ n8_ n9_ n10_
             refine qDw (a' := ?_) ?_ ?_
             rotate_left
             ·simp only [qCh, Act.put, List.setIfInBounds_toArray, List.set_cons_zero, List.set_cons_succ]
              rfl
             refine one_ (i := 0) (N := some 5) (mK 16 20207) rfl rfl (qB6 HT_.o (by kernel_rfl)) (by decide) (fun K hK => ?_)
             refine Kd.R_lit_step (Kd.int .i64) _ 3 ?hg (N := 5) ?hd (xs := ([] : List Int)) (inner := []) (ok := fun _ => True) (okp := fun _ => True) ?hr ?hp (fun _ hk => hk) trivial (Below.refl _ _) (Nat.le_refl _) (by simp) ?_; (case hd => rfl); (case hg => rfl); (case hr => (go_simp; done)); (case hp => exact (Reps.none _ _))
             intro a9 bS ho12 hb hg_ hnew_
             clear hg_ hnew_
             (rw [← bM.o] at ho12)
             have n_ := a2 (Kd.R_elder' aN.o (Kd.R_base ho12) hb) (a2 (Kd.R_lower (Kd.R_new' ho12 (Kd.R_lt aN.o)) (qAf HB.o)) (a2 (qAk aA.o hb) (a2 (qAk aC.o hb) (a2 (qAk aH.o hb) (am (qAe HB.o hb))))))
             clear aN aA aC aH HB
             obtain ⟨aN, aT, aA, aC, aH, HB⟩ := n_
             clear hb ho12
             refine hK.o _ _ (c4_ _ aA.o) (fun hHeld => ?_)
             clear hK K
             refine nm ?_
             exact nq (hJ0_9_14 (a9, a8, aD) _ ⟨hHeld, (by exact Kd.R_mono aT.o (fun _ hk => hk.2)), (by exact Kd.R_mono aN.o (fun _ hk => hk.2)), aA.o, aC.o, aH.o, aa.o, a7.o, aG.o, aK.o, aJ.o, aM.o, HB.o⟩)
           ·skip
            rintro ⟨a9, aD⟩ bI ⟨hS_, h0_, h1_, h2_, h3_, h4_, h5_, h6_, h7_, h8_, h9_, h10_⟩
            have n0_ : qAa (Kd.R (Kd.int .i64) 3 bI w.heap.size (fun _ => True) a9 aj) := ⟨h0_⟩
            have n1_ : qAa (bI.heap[aE]? = some (.cells #[.slice aV l0_0.length aX, .int .i64 a0_1, .slice aW l0_2.length aY, .slice a4 l0_3.length aZ] 98 (0, 0))) := ⟨h1_⟩
            have n2_ : qAa (bI.heap[aI]? = some (.cells #[.slice none 0 0, .int .i64 0, .slice none 0 0, .slice none 0 0] 90 (0, 0))) := ⟨h2_⟩
            have n3_ : qAa (bI.heap[aD]? = some (.cells #[.slice none 0 0, .int .i64 0, .slice none 0 0, .slice none 0 0] 90 (0, 0))) := ⟨h3_⟩
            have n4_ : qAa (w.heap.size ≤ aD) := ⟨h4_⟩
            have n5_ : qAa (w.heap.size ≤ aD) := ⟨h5_⟩
            have n6_ : qAa (aE ≠ aD) := ⟨h6_⟩
            have n7_ : qAa (aD ≠ aE) := ⟨h7_⟩
            have n8_ : qAa (aI ≠ aD) := ⟨h8_⟩
            have n9_ : qAa (aD ≠ aI) := ⟨h9_⟩
            have n10_ : qAa (Below w.heap.size w bI) := ⟨h10_⟩
            clear aA aC HB h0_ h1_ h2_ h3_ h4_ h5_ h6_ h7_ h8_ h9_ h10_
            have aT := n0_
            have aA := n1_
            have aC := n2_
            have aH := n3_
            have aa := n4_
            have a7 := n5_
            have aG := n6_
            have aK := n7_
            have aJ := n8_
            have aM := n9_
            have HB := n10_
            clear n0_ n1_ n2_ n3_ n4_ n5_ n6_ n7_ n8_ n9_ n10_
            refine qDw (a' := ?_) ?_ ?_
            rotate_left
            ·simp only [qCh, Act.put, List.setIfInBounds_toArray, List.set_cons_zero, List.set_cons_succ]
             rfl
            refine two_ (i := 4) (j := 9) (Ni := some 9) (Nj := some 14) (mK 16 19711) (mK 16 20207) rfl rfl rfl rfl (qFA HT_.o (by kernel_rfl)) (by decide) (by decide) (fun K hK => ?_) (fun K hK => ?_)
            ·skip
             refine Kd.R_append_rows_step (Kd.int .i64) (w0 := w) w.heap.size (by rfl) (.tmp 5) (.tmp 8) 57 3 (.int .i64 0) 8 rfl Tryz.underlying57 info3 rfl (by decide) (by omega) a9 aj l0_0 _ _ _ (fun _ => True) (fun _ => False) rfl rfl ?aO ?aR (fun _ _ h => h) (fun _ h => h.elim) ?aF ?aB ?aS ?aL ?_
             (case aR => exact (Kd.C_below bL.o HB.o))
             (case aB => exact HB.o)
             (case aF => exact (fun _ _ => trivial))
             (case aO => exact aT.o)
             (case aS => exact (qAf HB.o))
             (case aL => have := b6.o; omega)
             intro an bS ho hb hg bH
             rw [← bN.o] at ho
             have n_ := a2 (qAI (g := aE) (o := .cells #[.slice aV l0_0.length aX, .int .i64 a0_1, .slice aW l0_2.length aY, .slice a4 l0_3.length aZ] 98 (0, 0)) aA.o hg (Kd.R_ne aT.o aA.o (by decide))) (a2 (qAI (g := aI) (o := .cells #[.slice none 0 0, .int .i64 0, .slice none 0 0, .slice none 0 0] 90 (0, 0)) aC.o hg (Kd.R_ne aT.o aC.o (by decide))) (a2 (qAI (g := aD) (o := .cells #[.slice none 0 0, .int .i64 0, .slice none 0 0, .slice none 0 0] 90 (0, 0)) aH.o hg (Kd.R_ne aT.o aH.o (by decide))) (a2 (hb) (am (ho)))))
             clear aA aC aH HB aT
             obtain ⟨aA, aC, aH, HB, aQ⟩ := n_
             clear ho hb hg bH
             obtain ⟨b3, b7, bp⟩ := Kd.R_slice aQ.o
             (subst bp)
             refine hK.o _ _ (c4_ _ aA.o) (fun hHeld => ?_)
             clear hK K
             refine nm ?_
             refine pu 8 13 (mK 16 19967) (qBc HT_.o (by kernel_rfl)) ?_
             exact nq (hJ0_4_14 (a9, .slice b3 a5.length b7, aD) _ ⟨hHeld, aQ.o, aA.o, aC.o, aH.o, aa.o, a7.o, aG.o, aK.o, aJ.o, aM.o, HB.o⟩)
            ·skip
             refine Kd.R_lit_step (Kd.int .i64) _ 3 ?hg (N := 14) ?hd (xs := ([] : List Int)) (inner := []) (ok := fun _ => True) (okp := fun _ => True) ?hr ?hp (fun _ hk => hk) trivial (Below.refl _ _) (Nat.le_refl _) (by simp) ?_; (case hd => rfl); (case hg => rfl); (case hr => (go_simp; done)); (case hp => exact (Reps.none _ _))
             intro a8 bS ho12 hb hg_ hnew_
             clear hg_ hnew_
             (rw [← bF.o] at ho12)
             have n_ := a2 (Kd.R_elder' aT.o (Kd.R_base ho12) hb) (a2 (Kd.R_lower (Kd.R_new' ho12 (Kd.R_lt aT.o)) (qAf HB.o)) (a2 (qAk aA.o hb) (a2 (qAk aC.o hb) (a2 (qAk aH.o hb) (am (qAe HB.o hb))))))
             clear aT aA aC aH HB
             obtain ⟨aT, aN, aA, aC, aH, HB⟩ := n_
             clear hb ho12
             refine hK.o _ _ (c4_ _ aA.o) (fun hHeld => ?_)
             clear hK K
             refine nm ?_
             exact nq (hJ0_9_14 (a9, a8, aD) _ ⟨hHeld, (by exact Kd.R_mono aT.o (fun _ hk => hk.2)), (by exact Kd.R_mono aN.o (fun _ hk => hk.2)), aA.o, aC.o, aH.o, aa.o, a7.o, aG.o, aK.o, aJ.o, aM.o, HB.o⟩)
          ·skip
           rintro ⟨a9, a8⟩ bS ⟨hS_, h0_, h1_, h2_, h3_, h4_⟩
           have n0_ : qAa (Kd.R (Kd.int .i64) 3 bS w.heap.size (fun k_ => some k_ ≠ (a8 : Value).ownBlock) a9 aj) := ⟨h0_⟩
           have n1_ : qAa (Kd.R (Kd.int .i64) 3 bS w.heap.size (fun k_ => some k_ ≠ (a9 : Value).ownBlock) a8 af) := ⟨h1_⟩
           have n2_ : qAa (bS.heap[aE]? = some (.cells #[.slice aV l0_0.length aX, .int .i64 a0_1, .slice aW l0_2.length aY, .slice a4 l0_3.length aZ] 98 (0, 0))) := ⟨h2_⟩
           have n3_ : qAa (bS.heap[aI]? = some (.cells #[.slice none 0 0, .int .i64 0, .slice none 0 0, .slice none 0 0] 90 (0, 0))) := ⟨h3_⟩
           have n4_ : qAa (Below w.heap.size w bS) := ⟨h4_⟩
           clear aA aC HB h0_ h1_ h2_ h3_ h4_
           have aT := n0_
           have aN := n1_
           have aA := n2_
           have aC := n3_
           have HB := n4_
           clear n0_ n1_ n2_ n3_ n4_
           refine qDw (a' := ?_) ?_ ?_
           rotate_left
           ·simp only [qCh, Act.put, List.setIfInBounds_toArray, List.set_cons_zero, List.set_cons_succ]
            rfl
           refine two_ (i := 4) (j := 14) (Ni := some 9) (Nj := some 3) (mK 16 3839) (mK 16 20207) rfl rfl rfl rfl (qFA HT_.o (by kernel_rfl)) (by decide) (by decide) (fun K hK => ?_) (fun K hK => ?_)
           ·skip
            refine Kd.R_append_rows_step (Kd.int .i64) (w0 := w) w.heap.size (by rfl) (.tmp 5) (.tmp 8) 57 3 (.int .i64 0) 8 rfl Tryz.underlying57 info3 rfl (by decide) (by omega) a9 aj l0_0 _ _ _ (fun k_ => some k_ ≠ (a8 : Value).ownBlock) (fun _ => False) rfl rfl ?aO ?aR (fun _ _ h => h) (fun _ h => h.elim) ?aF ?aB ?aS ?aL ?_
            (case aR => exact (Kd.C_below bL.o HB.o))
            (case aB => exact HB.o)
            (case aF => exact (fun k_ hk => Kd.fresh' (Kd.R_lt aN.o) k_ hk))
            (case aO => exact aT.o)
            (case aS => exact (qAf HB.o))
            (case aL => have := b6.o; omega)
            intro an bO ho hb hg bH
            rw [← bN.o] at ho
            have n_ := a2 (qAI (g := aE) (o := .cells #[.slice aV l0_0.length aX, .int .i64 a0_1, .slice aW l0_2.length aY, .slice a4 l0_3.length aZ] 98 (0, 0)) aA.o hg (Kd.R_ne aT.o aA.o (by decide))) (a2 (qAI (g := aI) (o := .cells #[.slice none 0 0, .int .i64 0, .slice none 0 0, .slice none 0 0] 90 (0, 0)) aC.o hg (Kd.R_ne aT.o aC.o (by decide))) (a2 (Kd.R_after (ok := (fun _ => True)) (by exact Kd.R_mono aN.o (fun _ hk => ⟨trivial, hk⟩)) hg bH) (a2 (hb) (am (ho)))))
            clear aA aC aN HB aT
            obtain ⟨aA, aC, aN, HB, aQ⟩ := n_
            clear ho hb hg bH
            obtain ⟨bj, bl, bq⟩ := Kd.R_slice aQ.o
            (subst bq)
            refine hK.o _ _ (c4_ _ aA.o) (fun hHeld => ?_)
            clear hK K
            refine nm ?_
            refine pu 8 13 (mK 16 4095) (qBc HT_.o (by kernel_rfl)) ?_
            exact nq (hJ0_4_9 (a9, .slice bj a5.length bl, a8) _ ⟨hHeld, aQ.o, (by exact Kd.R_mono aN.o (fun _ hk => hk.2)), aA.o, aC.o, HB.o⟩)
           ·skip
            refine qDm ?hg (N := 3) ?hd (cs := #[.slice none 0 0, .int .i64 0, .slice none 0 0, .slice none 0 0]) (t := 90) ?hr ?_; (case hd => rfl); (case hg => rfl); (case hr => (go_simp; done))
            intro aD hg bO hbox hb
            have n_ := a2 (Kd.R_below aT.o hb) (a2 (Kd.R_below aN.o hb) (a2 (qAk aA.o hb) (a2 (qAk aC.o hb) (a2 (qAe HB.o hb) (a2 (hbox) (a2 (by rw [hg]; exact (qAf HB.o) : w.heap.size ≤ aD) (a2 (by rw [hg]; exact (qAf HB.o) : w.heap.size ≤ aD) (a2 (by rw [hg]; exact Nat.ne_of_lt (qBd aA.o) : aE ≠ aD) (a2 (by rw [hg]; exact Nat.ne_of_gt (qBd aA.o) : aD ≠ aE) (a2 (by rw [hg]; exact Nat.ne_of_lt (qBd aC.o) : aI ≠ aD) (am (by rw [hg]; exact Nat.ne_of_gt (qBd aC.o) : aD ≠ aI))))))))))))
            clear aT aN aA aC HB
            obtain ⟨aT, aN, aA, aC, HB, aH, aa, a7, aG, aK, aJ, aM⟩ := n_
            clear hb hbox hg
            refine hK.o _ _ (c4_ _ aA.o) (fun hHeld => ?_)
            clear hK K
            refine nm ?_
            exact nq (hJ0_9_14 (a9, a8, aD) _ ⟨hHeld, aT.o, aN.o, aA.o, aC.o, aH.o, aa.o, a7.o, aG.o, aK.o, aJ.o, aM.o, HB.o⟩)
         ·skip
          rintro ⟨a9, an⟩ bS ⟨hS_, h0_, h1_, h2_, h3_⟩
          have n0_ : qAa (Kd.R (Kd.int .i64) 3 bS w.heap.size (fun _ => True) an a5) := ⟨h0_⟩
          have n1_ : qAa (bS.heap[aE]? = some (.cells #[.slice aV l0_0.length aX, .int .i64 a0_1, .slice aW l0_2.length aY, .slice a4 l0_3.length aZ] 98 (0, 0))) := ⟨h1_⟩
          have n2_ : qAa (bS.heap[aI]? = some (.cells #[.slice none 0 0, .int .i64 0, .slice none 0 0, .slice none 0 0] 90 (0, 0))) := ⟨h2_⟩
          have n3_ : qAa (Below w.heap.size w bS) := ⟨h3_⟩
          clear aA aC HB h0_ h1_ h2_ h3_
          have aQ := n0_
          have aA := n1_
          have aC := n2_
          have HB := n3_
          clear n0_ n1_ n2_ n3_
          obtain ⟨b3, b7, bp⟩ := Kd.R_slice aQ.o
          (subst bp)
          refine qDw (a' := ?_) ?_ ?_
          rotate_left
          ·simp only [qCh, Act.put, List.setIfInBounds_toArray, List.set_cons_zero, List.set_cons_succ]
           rfl
          refine two_ (i := 9) (j := 14) (Ni := some 14) (Nj := some 3) (mK 16 4095) (mK 16 19967) rfl rfl rfl rfl (qFA HT_.o (by kernel_rfl)) (by decide) (by decide) (fun K hK => ?_) (fun K hK => ?_)
          ·skip
           refine Kd.R_lit_step (Kd.int .i64) _ 3 ?hg (N := 14) ?hd (xs := ([] : List Int)) (inner := []) (ok := fun _ => True) (okp := fun _ => True) ?hr ?hp (fun _ hk => hk) trivial (Below.refl _ _) (Nat.le_refl _) (by simp) ?_; (case hd => rfl); (case hg => rfl); (case hr => (go_simp; done)); (case hp => exact (Reps.none _ _))
           intro a8 bi ho14 hb hg_ hnew_
           clear hg_ hnew_
           (rw [← bF.o] at ho14)
           have n_ := a2 (Kd.R_elder' aQ.o (Kd.R_base ho14) hb) (a2 (Kd.R_lower (Kd.R_new' ho14 (Kd.R_lt aQ.o)) (qAf HB.o)) (a2 (qAk aA.o hb) (a2 (qAk aC.o hb) (am (qAe HB.o hb)))))
           clear aQ aA aC HB
           obtain ⟨aQ, aN, aA, aC, HB⟩ := n_
           clear hb ho14
           refine hK.o _ _ (c4_ _ aA.o) (fun hHeld => ?_)
           clear hK K
           refine nm ?_
           exact nq (hJ0_4_9 (a9, .slice b3 a5.length b7, a8) _ ⟨hHeld, (by exact Kd.R_mono aQ.o (fun _ hk => hk.2)), (by exact Kd.R_mono aN.o (fun _ hk => hk.2)), aA.o, aC.o, HB.o⟩)
          ·skip
           refine qDm ?hg (N := 3) ?hd (cs := #[.slice none 0 0, .int .i64 0, .slice none 0 0, .slice none 0 0]) (t := 90) ?hr ?_; (case hd => rfl); (case hg => rfl); (case hr => (go_simp; done))
           intro aD hg bi hbox hb
           have n_ := a2 (Kd.R_below aQ.o hb) (a2 (qAk aA.o hb) (a2 (qAk aC.o hb) (a2 (qAe HB.o hb) (a2 (hbox) (a2 (by rw [hg]; exact (qAf HB.o) : w.heap.size ≤ aD) (a2 (by rw [hg]; exact (qAf HB.o) : w.heap.size ≤ aD) (a2 (by rw [hg]; exact Nat.ne_of_lt (qBd aA.o) : aE ≠ aD) (a2 (by rw [hg]; exact Nat.ne_of_gt (qBd aA.o) : aD ≠ aE) (a2 (by rw [hg]; exact Nat.ne_of_lt (qBd aC.o) : aI ≠ aD) (am (by rw [hg]; exact Nat.ne_of_gt (qBd aC.o) : aD ≠ aI)))))))))))
           clear aQ aA aC HB
           obtain ⟨aQ, aA, aC, HB, aH, aa, a7, aG, aK, aJ, aM⟩ := n_
           clear hb hbox hg
           refine hK.o _ _ (c4_ _ aA.o) (fun hHeld => ?_)
           clear hK K
           refine nm ?_
           exact nq (hJ0_4_14 (a9, .slice b3 a5.length b7, aD) _ ⟨hHeld, aQ.o, aA.o, aC.o, aH.o, aa.o, a7.o, aG.o, aK.o, aJ.o, aM.o, HB.o⟩)
        ·skip
         rintro ⟨a9, a8, aD⟩ bO ⟨hS_, h0_, h1_, h2_, h3_, h4_, h5_, h6_, h7_, h8_, h9_, h10_, h11_⟩
         have n0_ : qAa (Kd.R (Kd.int .i64) 3 bO w.heap.size (fun k_ => some k_ ≠ (a8 : Value).ownBlock) a9 aj) := ⟨h0_⟩
         have n1_ : qAa (Kd.R (Kd.int .i64) 3 bO w.heap.size (fun k_ => some k_ ≠ (a9 : Value).ownBlock) a8 af) := ⟨h1_⟩
         have n2_ : qAa (bO.heap[aE]? = some (.cells #[.slice aV l0_0.length aX, .int .i64 a0_1, .slice aW l0_2.length aY, .slice a4 l0_3.length aZ] 98 (0, 0))) := ⟨h2_⟩
         have n3_ : qAa (bO.heap[aI]? = some (.cells #[.slice none 0 0, .int .i64 0, .slice none 0 0, .slice none 0 0] 90 (0, 0))) := ⟨h3_⟩
         have n4_ : qAa (bO.heap[aD]? = some (.cells #[.slice none 0 0, .int .i64 0, .slice none 0 0, .slice none 0 0] 90 (0, 0))) := ⟨h4_⟩
         have n5_ : qAa (w.heap.size ≤ aD) := ⟨h5_⟩
         have n6_ : qAa (w.heap.size ≤ aD) := ⟨h6_⟩
         have n7_ : qAa (aE ≠ aD) := ⟨h7_⟩
         have n8_ : qAa (aD ≠ aE) := ⟨h8_⟩
         have n9_ : qAa (aI ≠ aD) := ⟨h9_⟩
         have n10_ : qAa (aD ≠ aI) := ⟨h10_⟩
         have n11_ : qAa (Below w.heap.size w bO) := ⟨h11_⟩
         clear aA aC HB h0_ h1_ h2_ h3_ h4_ h5_ h6_ h7_ h8_ h9_ h10_ h11_
         have aT := n0_
         have aN := n1_
         have aA := n2_
         have aC := n3_
         have aH := n4_
         have aa := n5_
         have a7 := n6_
         have aG := n7_
         have aK := n8_
         have aJ := n9_
         have aM := n10_
         have HB := n11_
         clear n0_ n1_ n2_ n3_ n4_ n5_ n6_ n7_ n8_ n9_ n10_ n11_
         refine qDw (a' := ?_) ?_ ?_
         rotate_left
         ·simp only [qCh, Act.put, List.setIfInBounds_toArray, List.set_cons_zero, List.set_cons_succ]
          rfl
         refine one_ (i := 4) (N := some 9) (mK 16 20223) rfl rfl (qB6 HT_.o (by kernel_rfl)) (by decide) (fun K hK => ?_)
         refine Kd.R_append_rows_step (Kd.int .i64) (w0 := w) w.heap.size (by rfl) (.tmp 5) (.tmp 8) 57 3 (.int .i64 0) 8 rfl Tryz.underlying57 info3 rfl (by decide) (by omega) a9 aj l0_0 _ _ _ (fun k_ => some k_ ≠ (a8 : Value).ownBlock) (fun _ => False) rfl rfl ?aO ?aR (fun _ _ h => h) (fun _ h => h.elim) ?aF ?aB ?aS ?aL ?_
         (case aR => exact (Kd.C_below bL.o HB.o))
         (case aB => exact HB.o)
         (case aF => exact (fun k_ hk => Kd.fresh' (Kd.R_lt aN.o) k_ hk))
         (case aO => exact aT.o)
         (case aS => exact (qAf HB.o))
         (case aL => have := b6.o; omega)
         intro an bi ho hb hg bH
         rw [← bN.o] at ho
         have n_ := a2 (qAI (g := aE) (o := .cells #[.slice aV l0_0.length aX, .int .i64 a0_1, .slice aW l0_2.length aY, .slice a4 l0_3.length aZ] 98 (0, 0)) aA.o hg (Kd.R_ne aT.o aA.o (by decide))) (a2 (qAI (g := aI) (o := .cells #[.slice none 0 0, .int .i64 0, .slice none 0 0, .slice none 0 0] 90 (0, 0)) aC.o hg (Kd.R_ne aT.o aC.o (by decide))) (a2 (Kd.R_after (ok := (fun _ => True)) (by exact Kd.R_mono aN.o (fun _ hk => ⟨trivial, hk⟩)) hg bH) (a2 (qAI (g := aD) (o := .cells #[.slice none 0 0, .int .i64 0, .slice none 0 0, .slice none 0 0] 90 (0, 0)) aH.o hg (Kd.R_ne aT.o aH.o (by decide))) (a2 (hb) (am (ho))))))
         clear aA aC aN aH HB aT
         obtain ⟨aA, aC, aN, aH, HB, aQ⟩ := n_
         clear ho hb hg bH
         obtain ⟨bU, bW, br⟩ := Kd.R_slice aQ.o
         (subst br)
         refine hK.o _ _ (c4_ _ aA.o) (fun hHeld => ?_)
         clear hK K
         refine nm ?_
         refine pu 8 13 (mK 16 20479) (qBc HT_.o (by kernel_rfl)) ?_
         exact nq (hJ0_4_9_14 (a9, .slice bU a5.length bW, a8, aD) _ ⟨hHeld, aQ.o, (by exact Kd.R_mono aN.o (fun _ hk => hk.2)), aA.o, aC.o, aH.o, aa.o, a7.o, aG.o, aK.o, aJ.o, aM.o, HB.o⟩)
       ·skip
        rintro ⟨a9, an, aD⟩ bO ⟨hS_, h0_, h1_, h2_, h3_, h4_, h5_, h6_, h7_, h8_, h9_, h10_⟩
        have n0_ : qAa (Kd.R (Kd.int .i64) 3 bO w.heap.size (fun _ => True) an a5) := ⟨h0_⟩
        have n1_ : qAa (bO.heap[aE]? = some (.cells #[.slice aV l0_0.length aX, .int .i64 a0_1, .slice aW l0_2.length aY, .slice a4 l0_3.length aZ] 98 (0, 0))) := ⟨h1_⟩
        have n2_ : qAa (bO.heap[aI]? = some (.cells #[.slice none 0 0, .int .i64 0, .slice none 0 0, .slice none 0 0] 90 (0, 0))) := ⟨h2_⟩
        have n3_ : qAa (bO.heap[aD]? = some (.cells #[.slice none 0 0, .int .i64 0, .slice none 0 0, .slice none 0 0] 90 (0, 0))) := ⟨h3_⟩
        have n4_ : qAa (w.heap.size ≤ aD) := ⟨h4_⟩
        have n5_ : qAa (w.heap.size ≤ aD) := ⟨h5_⟩
        have n6_ : qAa (aE ≠ aD) := ⟨h6_⟩
        have n7_ : qAa (aD ≠ aE) := ⟨h7_⟩
        have n8_ : qAa (aI ≠ aD) := ⟨h8_⟩
        have n9_ : qAa (aD ≠ aI) := ⟨h9_⟩
        have n10_ : qAa (Below w.heap.size w bO) := ⟨h10_⟩
        clear aA aC HB h0_ h1_ h2_ h3_ h4_ h5_ h6_ h7_ h8_ h9_ h10_
        have aQ := n0_
        have aA := n1_
        have aC := n2_
        have aH := n3_
        have aa := n4_
        have a7 := n5_
        have aG := n6_
        have aK := n7_
        have aJ := n8_
        have aM := n9_
        have HB := n10_
        clear n0_ n1_ n2_ n3_ n4_ n5_ n6_ n7_ n8_ n9_ n10_
        obtain ⟨bj, bl, bq⟩ := Kd.R_slice aQ.o
        (subst bq)
        refine qDw (a' := ?_) ?_ ?_
        rotate_left
        ·simp only [qCh, Act.put, List.setIfInBounds_toArray, List.set_cons_zero, List.set_cons_succ]
         rfl
        refine one_ (i := 9) (N := some 14) (mK 16 20479) rfl rfl (qB6 HT_.o (by kernel_rfl)) (by decide) (fun K hK => ?_)
        refine Kd.R_lit_step (Kd.int .i64) _ 3 ?hg (N := 14) ?hd (xs := ([] : List Int)) (inner := []) (ok := fun _ => True) (okp := fun _ => True) ?hr ?hp (fun _ hk => hk) trivial (Below.refl _ _) (Nat.le_refl _) (by simp) ?_; (case hd => rfl); (case hg => rfl); (case hr => (go_simp; done)); (case hp => exact (Reps.none _ _))
        intro a8 cA ho15 hb hg_ hnew_
        clear hg_ hnew_
        (rw [← bF.o] at ho15)
        have n_ := a2 (Kd.R_elder' aQ.o (Kd.R_base ho15) hb) (a2 (Kd.R_lower (Kd.R_new' ho15 (Kd.R_lt aQ.o)) (qAf HB.o)) (a2 (qAk aA.o hb) (a2 (qAk aC.o hb) (a2 (qAk aH.o hb) (am (qAe HB.o hb))))))
        clear aQ aA aC aH HB
        obtain ⟨aQ, aN, aA, aC, aH, HB⟩ := n_
        clear hb ho15
        refine hK.o _ _ (c4_ _ aA.o) (fun hHeld => ?_)
        clear hK K
        refine nm ?_
        exact nq (hJ0_4_9_14 (a9, .slice bj a5.length bl, a8, aD) _ ⟨hHeld, (by exact Kd.R_mono aQ.o (fun _ hk => hk.2)), (by exact Kd.R_mono aN.o (fun _ hk => hk.2)), aA.o, aC.o, aH.o, aa.o, a7.o, aG.o, aK.o, aJ.o, aM.o, HB.o⟩)
      ·skip
       rintro ⟨a9, an, a8⟩ bi ⟨hS_, h0_, h1_, h2_, h3_, h4_⟩
       have n0_ : qAa (Kd.R (Kd.int .i64) 3 bi w.heap.size (fun k_ => some k_ ≠ (a8 : Value).ownBlock) an a5) := ⟨h0_⟩
       have n1_ : qAa (Kd.R (Kd.int .i64) 3 bi w.heap.size (fun k_ => some k_ ≠ (an : Value).ownBlock) a8 af) := ⟨h1_⟩
       have n2_ : qAa (bi.heap[aE]? = some (.cells #[.slice aV l0_0.length aX, .int .i64 a0_1, .slice aW l0_2.length aY, .slice a4 l0_3.length aZ] 98 (0, 0))) := ⟨h2_⟩
       have n3_ : qAa (bi.heap[aI]? = some (.cells #[.slice none 0 0, .int .i64 0, .slice none 0 0, .slice none 0 0] 90 (0, 0))) := ⟨h3_⟩
       have n4_ : qAa (Below w.heap.size w bi) := ⟨h4_⟩
       clear aA aC HB h0_ h1_ h2_ h3_ h4_
       have aQ := n0_
       have aN := n1_
       have aA := n2_
       have aC := n3_
       have HB := n4_
       clear n0_ n1_ n2_ n3_ n4_
       obtain ⟨bU, bW, br⟩ := Kd.R_slice aQ.o
       (subst br)
       refine qDw (a' := ?_) ?_ ?_
       rotate_left
       ·simp only [qCh, Act.put, List.setIfInBounds_toArray, List.set_cons_zero, List.set_cons_succ]
        rfl
       refine two_ (i := 12) (j := 14) (Ni := some 17) (Nj := some 3) (mK 16 8191) (mK 16 20479) rfl rfl rfl rfl (qFA HT_.o (by kernel_rfl)) (by decide) (by decide) (fun K hK => ?_) (fun K hK => ?_)
       ·skip
        refine Kd.R_append_rows_step (Kd.int .i64) (w0 := w) w.heap.size (by rfl) (.tmp 14) (.tmp 16) 57 3 (.int .i64 0) 8 rfl Tryz.underlying57 info3 rfl (by decide) (by omega) a8 af l0_2 _ _ _ (fun k_ => some k_ ≠ (.slice bU a5.length bW : Value).ownBlock) (fun _ => False) rfl rfl ?aO ?aR (fun _ _ h => h) (fun _ h => h.elim) ?aF ?aB ?aS ?aL ?_
        (case aR => exact (Kd.C_below bg.o HB.o))
        (case aB => exact HB.o)
        (case aF => exact (fun k_ hk => Kd.fresh' (Kd.R_lt aQ.o) k_ hk))
        (case aO => exact aN.o)
        (case aS => exact (qAf HB.o))
        (case aL => have := cG.o; omega)
        intro bJ cB ho hb hg bH
        rw [← bh.o] at ho
        have n_ := a2 (qAI (g := aE) (o := .cells #[.slice aV l0_0.length aX, .int .i64 a0_1, .slice aW l0_2.length aY, .slice a4 l0_3.length aZ] 98 (0, 0)) aA.o hg (Kd.R_ne aN.o aA.o (by decide))) (a2 (qAI (g := aI) (o := .cells #[.slice none 0 0, .int .i64 0, .slice none 0 0, .slice none 0 0] 90 (0, 0)) aC.o hg (Kd.R_ne aN.o aC.o (by decide))) (a2 (Kd.R_after (ok := (fun _ => True)) (by exact Kd.R_mono aQ.o (fun _ hk => ⟨trivial, hk⟩)) hg bH) (a2 (hb) (am (ho)))))
        clear aA aC aQ HB aN
        obtain ⟨aA, aC, aQ, HB, ak⟩ := n_
        clear ho hb hg bH
        obtain ⟨bk, bo, bs⟩ := Kd.R_slice ak.o
        (subst bs)
        refine hK.o _ _ (c4_ _ aA.o) (fun hHeld => ?_)
        clear hK K
        refine nm ?_
        refine pu 13 18 (mK 16 16383) (qBc HT_.o (by kernel_rfl)) ?_
        exact nq (hJ0_4_9_12 (a9, .slice bU a5.length bW, a8, .slice bk ag.length bo) _ ⟨hHeld, (by exact Kd.R_mono aQ.o (fun _ hk => hk.2)), ak.o, aA.o, aC.o, HB.o⟩)
       ·skip
        refine qDm ?hg (N := 3) ?hd (cs := #[.slice none 0 0, .int .i64 0, .slice none 0 0, .slice none 0 0]) (t := 90) ?hr ?_; (case hd => rfl); (case hg => rfl); (case hr => (go_simp; done))
        intro aD hg cB hbox hb
        have n_ := a2 (Kd.R_below aQ.o hb) (a2 (Kd.R_below aN.o hb) (a2 (qAk aA.o hb) (a2 (qAk aC.o hb) (a2 (qAe HB.o hb) (a2 (hbox) (a2 (by rw [hg]; exact (qAf HB.o) : w.heap.size ≤ aD) (a2 (by rw [hg]; exact (qAf HB.o) : w.heap.size ≤ aD) (a2 (by rw [hg]; exact Nat.ne_of_lt (qBd aA.o) : aE ≠ aD) (a2 (by rw [hg]; exact Nat.ne_of_gt (qBd aA.o) : aD ≠ aE) (a2 (by rw [hg]; exact Nat.ne_of_lt (qBd aC.o) : aI ≠ aD) (am (by rw [hg]; exact Nat.ne_of_gt (qBd aC.o) : aD ≠ aI))))))))))))
        clear aQ aN aA aC HB
        obtain ⟨aQ, aN, aA, aC, HB, aH, aa, a7, aG, aK, aJ, aM⟩ := n_
        clear hb hbox hg
        refine hK.o _ _ (c4_ _ aA.o) (fun hHeld => ?_)
        clear hK K
        refine nm ?_
        exact nq (hJ0_4_9_14 (a9, .slice bU a5.length bW, a8, aD) _ ⟨hHeld, aQ.o, aN.o, aA.o, aC.o, aH.o, aa.o, a7.o, aG.o, aK.o, aJ.o, aM.o, HB.o⟩)
     ·skip
      rintro ⟨a9, an, a8, aD⟩ cA ⟨hS_, h0_, h1_, h2_, h3_, h4_, h5_, h6_, h7_, h8_, h9_, h10_, h11_⟩
      have n0_ : qAa (Kd.R (Kd.int .i64) 3 cA w.heap.size (fun k_ => some k_ ≠ (a8 : Value).ownBlock) an a5) := ⟨h0_⟩
      have n1_ : qAa (Kd.R (Kd.int .i64) 3 cA w.heap.size (fun k_ => some k_ ≠ (an : Value).ownBlock) a8 af) := ⟨h1_⟩
      have n2_ : qAa (cA.heap[aE]? = some (.cells #[.slice aV l0_0.length aX, .int .i64 a0_1, .slice aW l0_2.length aY, .slice a4 l0_3.length aZ] 98 (0, 0))) := ⟨h2_⟩
      have n3_ : qAa (cA.heap[aI]? = some (.cells #[.slice none 0 0, .int .i64 0, .slice none 0 0, .slice none 0 0] 90 (0, 0))) := ⟨h3_⟩
      have n4_ : qAa (cA.heap[aD]? = some (.cells #[.slice none 0 0, .int .i64 0, .slice none 0 0, .slice none 0 0] 90 (0, 0))) := ⟨h4_⟩
      have n5_ : qAa (w.heap.size ≤ aD) := ⟨h5_⟩
      have n6_ : qAa (w.heap.size ≤ aD) := ⟨h6_⟩
      have n7_ : qAa (aE ≠ aD) := ⟨h7_⟩
      have n8_ : qAa (aD ≠ aE) := ⟨h8_⟩
      have n9_ : qAa (aI ≠ aD) := ⟨h9_⟩
      have n10_ : qAa (aD ≠ aI) := ⟨h10_⟩
      have n11_ : qAa (Below w.heap.size w cA) := ⟨h11_⟩
      clear aA aC HB h0_ h1_ h2_ h3_ h4_ h5_ h6_ h7_ h8_ h9_ h10_ h11_
      have aQ := n0_
      have aN := n1_
      have aA := n2_
      have aC := n3_
      have aH := n4_
      have aa := n5_
      have a7 := n6_
      have aG := n7_
      have aK := n8_
      have aJ := n9_
      have aM := n10_
      have HB := n11_
      clear n0_ n1_ n2_ n3_ n4_ n5_ n6_ n7_ n8_ n9_ n10_ n11_
      obtain ⟨cD, cL, ch⟩ := Kd.R_slice aQ.o
      (subst ch)
      refine qDw (a' := ?_) ?_ ?_
      rotate_left
      ·simp only [qCh, Act.put, List.setIfInBounds_toArray, List.set_cons_zero, List.set_cons_succ]
       rfl
      refine one_ (i := 12) (N := some 17) (mK 16 24575) rfl rfl (qB6 HT_.o (by kernel_rfl)) (by decide) (fun K hK => ?_)
      refine Kd.R_append_rows_step (Kd.int .i64) (w0 := w) w.heap.size (by rfl) (.tmp 14) (.tmp 16) 57 3 (.int .i64 0) 8 rfl Tryz.underlying57 info3 rfl (by decide) (by omega) a8 af l0_2 _ _ _ (fun k_ => some k_ ≠ (.slice cD a5.length cL : Value).ownBlock) (fun _ => False) rfl rfl ?aO ?aR (fun _ _ h => h) (fun _ h => h.elim) ?aF ?aB ?aS ?aL ?_
      (case aR => exact (Kd.C_below bg.o HB.o))
      (case aB => exact HB.o)
      (case aF => exact (fun k_ hk => Kd.fresh' (Kd.R_lt aQ.o) k_ hk))
      (case aO => exact aN.o)
      (case aS => exact (qAf HB.o))
      (case aL => have := cG.o; omega)
      intro bJ bK ho hb hg bH
      rw [← bh.o] at ho
      have n_ := a2 (qAI (g := aE) (o := .cells #[.slice aV l0_0.length aX, .int .i64 a0_1, .slice aW l0_2.length aY, .slice a4 l0_3.length aZ] 98 (0, 0)) aA.o hg (Kd.R_ne aN.o aA.o (by decide))) (a2 (qAI (g := aI) (o := .cells #[.slice none 0 0, .int .i64 0, .slice none 0 0, .slice none 0 0] 90 (0, 0)) aC.o hg (Kd.R_ne aN.o aC.o (by decide))) (a2 (Kd.R_after (ok := (fun _ => True)) (by exact Kd.R_mono aQ.o (fun _ hk => ⟨trivial, hk⟩)) hg bH) (a2 (qAI (g := aD) (o := .cells #[.slice none 0 0, .int .i64 0, .slice none 0 0, .slice none 0 0] 90 (0, 0)) aH.o hg (Kd.R_ne aN.o aH.o (by decide))) (a2 (hb) (am (ho))))))
      clear aA aC aQ aH HB aN
      obtain ⟨aA, aC, aQ, aH, HB, ak⟩ := n_
      clear ho hb hg bH
      obtain ⟨ah, ai, bX⟩ := Kd.R_slice ak.o
      (subst bX)
      refine hK.o _ _ (c4_ _ aA.o) (fun hHeld => ?_)
      clear hK K
      refine nm ?_
      refine pu 13 18 (mK 16 32767) (qBc HT_.o (by kernel_rfl)) ?_
      exact nq (hJ0_4_9_12_14 (a9, .slice cD a5.length cL, a8, .slice ah ag.length ai, aD) _ ⟨hHeld, (by exact Kd.R_mono aQ.o (fun _ hk => hk.2)), ak.o, aA.o, aC.o, aH.o, aa.o, a7.o, aG.o, aK.o, aJ.o, aM.o, HB.o⟩)
    ·skip
     rintro ⟨a9, an, a8, bJ⟩ cB ⟨hS_, h0_, h1_, h2_, h3_, h4_⟩
     have n0_ : qAa (Kd.R (Kd.int .i64) 3 cB w.heap.size (fun k_ => some k_ ≠ (bJ : Value).ownBlock) an a5) := ⟨h0_⟩
     have n1_ : qAa (Kd.R (Kd.int .i64) 3 cB w.heap.size (fun k_ => some k_ ≠ (an : Value).ownBlock) bJ ag) := ⟨h1_⟩
     have n2_ : qAa (cB.heap[aE]? = some (.cells #[.slice aV l0_0.length aX, .int .i64 a0_1, .slice aW l0_2.length aY, .slice a4 l0_3.length aZ] 98 (0, 0))) := ⟨h2_⟩
     have n3_ : qAa (cB.heap[aI]? = some (.cells #[.slice none 0 0, .int .i64 0, .slice none 0 0, .slice none 0 0] 90 (0, 0))) := ⟨h3_⟩
     have n4_ : qAa (Below w.heap.size w cB) := ⟨h4_⟩
     clear aA aC HB h0_ h1_ h2_ h3_ h4_
     have aQ := n0_
     have ak := n1_
     have aA := n2_
     have aC := n3_
     have HB := n4_
     clear n0_ n1_ n2_ n3_ n4_
     obtain ⟨bk, bo, bs⟩ := Kd.R_slice aQ.o
     (subst bs)
     obtain ⟨ah, ai, bX⟩ := Kd.R_slice ak.o
     (subst bX)
     refine qDw (a' := ?_) ?_ ?_
     rotate_left
     ·simp only [qCh, Act.put, List.setIfInBounds_toArray, List.set_cons_zero, List.set_cons_succ]
      rfl
     refine one_ (i := 14) (N := some 3) (mK 16 32767) rfl rfl (qB6 HT_.o (by kernel_rfl)) (by decide) (fun K hK => ?_)
     refine qDm ?hg (N := 3) ?hd (cs := #[.slice none 0 0, .int .i64 0, .slice none 0 0, .slice none 0 0]) (t := 90) ?hr ?_; (case hd => rfl); (case hg => rfl); (case hr => (go_simp; done))
     intro aD hg ct hbox hb
     have n_ := a2 (Kd.R_below aQ.o hb) (a2 (Kd.R_below ak.o hb) (a2 (qAk aA.o hb) (a2 (qAk aC.o hb) (a2 (qAe HB.o hb) (a2 (hbox) (a2 (by rw [hg]; exact (qAf HB.o) : w.heap.size ≤ aD) (a2 (by rw [hg]; exact (qAf HB.o) : w.heap.size ≤ aD) (a2 (by rw [hg]; exact Nat.ne_of_lt (qBd aA.o) : aE ≠ aD) (a2 (by rw [hg]; exact Nat.ne_of_gt (qBd aA.o) : aD ≠ aE) (a2 (by rw [hg]; exact Nat.ne_of_lt (qBd aC.o) : aI ≠ aD) (am (by rw [hg]; exact Nat.ne_of_gt (qBd aC.o) : aD ≠ aI))))))))))))
     clear aQ ak aA aC HB
     obtain ⟨aQ, ak, aA, aC, HB, aH, aa, a7, aG, aK, aJ, aM⟩ := n_
     clear hb hbox hg
     refine hK.o _ _ (c4_ _ aA.o) (fun hHeld => ?_)
     clear hK K
     refine nm ?_
     exact nq (hJ0_4_9_12_14 (a9, .slice bk a5.length bo, a8, .slice ah ag.length ai, aD) _ ⟨hHeld, aQ.o, ak.o, aA.o, aC.o, aH.o, aa.o, a7.o, aG.o, aK.o, aJ.o, aM.o, HB.o⟩)
   rintro ⟨a9, an, a8, bJ, aD⟩ bK ⟨hS_, h0_, h1_, h2_, h3_, h4_, h5_, h6_, h7_, h8_, h9_, h10_, h11_⟩
   have n0_ : qAa (Kd.R (Kd.int .i64) 3 bK w.heap.size (fun k_ => some k_ ≠ (bJ : Value).ownBlock) an a5) := ⟨h0_⟩
   have n1_ : qAa (Kd.R (Kd.int .i64) 3 bK w.heap.size (fun k_ => some k_ ≠ (an : Value).ownBlock) bJ ag) := ⟨h1_⟩
   have n2_ : qAa (bK.heap[aE]? = some (.cells #[.slice aV l0_0.length aX, .int .i64 a0_1, .slice aW l0_2.length aY, .slice a4 l0_3.length aZ] 98 (0, 0))) := ⟨h2_⟩
   have n3_ : qAa (bK.heap[aI]? = some (.cells #[.slice none 0 0, .int .i64 0, .slice none 0 0, .slice none 0 0] 90 (0, 0))) := ⟨h3_⟩
   have n4_ : qAa (bK.heap[aD]? = some (.cells #[.slice none 0 0, .int .i64 0, .slice none 0 0, .slice none 0 0] 90 (0, 0))) := ⟨h4_⟩
   have n5_ : qAa (w.heap.size ≤ aD) := ⟨h5_⟩
   have n6_ : qAa (w.heap.size ≤ aD) := ⟨h6_⟩
   have n7_ : qAa (aE ≠ aD) := ⟨h7_⟩
   have n8_ : qAa (aD ≠ aE) := ⟨h8_⟩
   have n9_ : qAa (aI ≠ aD) := ⟨h9_⟩
   have n10_ : qAa (aD ≠ aI) := ⟨h10_⟩
   have n11_ : qAa (Below w.heap.size w bK) := ⟨h11_⟩
   clear aA aC HB h0_ h1_ h2_ h3_ h4_ h5_ h6_ h7_ h8_ h9_ h10_ h11_
   have aQ := n0_
   have ak := n1_
   have aA := n2_
   have aC := n3_
   have aH := n4_
   have a7 := n6_
   have aG := n7_
   have aJ := n9_
   have HB := n11_
   clear n0_ n1_ n2_ n3_ n4_ n5_ n6_ n7_ n8_ n9_ n10_ n11_
   have hHeld : bK.cell? ⟨aE, 0, none⟩ = some (.slice aV l0_0.length aX) ∧ bK.cell? ⟨aE, 1, none⟩ = some (.int .i64 a0_1) ∧ bK.cell? ⟨aE, 2, none⟩ = some (.slice aW l0_2.length aY) ∧ bK.cell? ⟨aE, 3, none⟩ = some (.slice a4 l0_3.length aZ) := hS_
   obtain ⟨ah, ai, bX⟩ := Kd.R_slice aQ.o
   (subst bX)
   obtain ⟨ap, aq, ci⟩ := Kd.R_slice ak.o
   (subst ci)
   refine qDw (a' := ?_) ?_ ?_
   rotate_left
   ·simp only [qCh, Act.put, List.setIfInBounds_toArray, List.set_cons_zero, List.set_cons_succ]
    rfl
   refine one_ (i := 15) (N := none) (mK 16 65535) rfl rfl (qB6 HT_.o (by kernel_rfl)) (by decide) (fun K hK => ?_)
   have hs19 := c1_ bK aH.o
   have hfs19 := qAx aH.o 0
   obtain ⟨-, hs20⟩ := c2_ bK aH.o
   have hfs20 := qAx aH.o 1
   obtain ⟨-, -, hs21⟩ := c3_ bK aH.o
   have hfs21 := qAx aH.o 2
   obtain ⟨-, -, -, hs22⟩ := c4_ bK aH.o
   have hfs22 := qAx aH.o 3
   refine skip_ (w1 := ?_) (by rfl) rfl ?_ ?_
   rotate_left
   ·go_simp
    rfl
   refine hK.o _ _ ⟨((qBN (p := ⟨aD, _, none⟩) aG.o _).trans ((qBN (p := ⟨aD, _, none⟩) aG.o _).trans ((qBN (p := ⟨aD, _, none⟩) aG.o _).trans ((qBN (p := ⟨aD, _, none⟩) aG.o _).trans (hHeld.1))))), ((qBN (p := ⟨aD, _, none⟩) aG.o _).trans ((qBN (p := ⟨aD, _, none⟩) aG.o _).trans ((qBN (p := ⟨aD, _, none⟩) aG.o _).trans ((qBN (p := ⟨aD, _, none⟩) aG.o _).trans (hHeld.2.1))))), ((qBN (p := ⟨aD, _, none⟩) aG.o _).trans ((qBN (p := ⟨aD, _, none⟩) aG.o _).trans ((qBN (p := ⟨aD, _, none⟩) aG.o _).trans ((qBN (p := ⟨aD, _, none⟩) aG.o _).trans (hHeld.2.2.1))))), ((qBN (p := ⟨aD, _, none⟩) aG.o _).trans ((qBN (p := ⟨aD, _, none⟩) aG.o _).trans ((qBN (p := ⟨aD, _, none⟩) aG.o _).trans ((qBN (p := ⟨aD, _, none⟩) aG.o _).trans (hHeld.2.2.2)))))⟩ (fun hHeld => ?_)
   clear hK K
   refine done_ (qDn HT_.o (by kernel_rfl)) ?_
   try go_wp2
   go_loopg [4] k (fun kq v4 w' => ∃ (aU : Int) (ac : List (S144)) (al : Value), v4 = .int .i64 aU ∧ qAa (qAu.l0 kq aU l0_0 a0_1 l0_2 l0_3 a5 a0_1 ag ac = some (r1, r2, r3, r4)) ∧ qAa (kq ≤ k) ∧ qAa (Kd.R (Kd.int .i64) 3 w' w.heap.size (fun k_ => some k_ ≠ ((.slice ap ag.length aq) : Value).ownBlock) (.slice ah a5.length ai) a5) ∧ qAa (Kd.R (Kd.int .i64) 3 w' w.heap.size (fun k_ => some k_ ≠ ((.slice ah a5.length ai) : Value).ownBlock) (.slice ap ag.length aq) ag) ∧ qAa (Kd.R k144 144 w' w.heap.size (fun _ => True) al ac) ∧ qAa (w'.heap[aE]? = some (.cells #[(.slice aV l0_0.length aX), .int .i64 a0_1, (.slice aW l0_2.length aY), (.slice a4 l0_3.length aZ)] 98 (0, 0))) ∧ qAa (w'.heap[aI]? = some (.cells #[(.slice none 0 0), .int .i64 0, (.slice none 0 0), (.slice none 0 0)] 90 (0, 0))) ∧ qAa (w'.heap[aD]? = some (.cells #[(.slice ah a5.length ai), .int .i64 a0_1, (.slice ap ag.length aq), al] 90 (0, 0))) ∧ qAa (Below w.heap.size w w'))
   case atStart => exact ⟨(0), ([] : List (S144)), (.slice none 0 0), (by rfl), H', ⟨Nat.le_refl _⟩, ⟨by exact Kd.R_mono (Kd.R_far (p := ⟨aD, 3, none⟩) (Kd.R_far (p := ⟨aD, 2, none⟩) (Kd.R_far (p := ⟨aD, 1, none⟩) (Kd.R_far (p := ⟨aD, 0, none⟩) (Kd.R_types aQ.o aH.o (by decide)) (fun _ hk => hk.2) (.slice ah a5.length ai)) (fun _ hk => hk.2) (.int .i64 a0_1)) (fun _ hk => hk.2) (.slice ap ag.length aq)) (fun _ hk => hk.2) (.slice none 0 0)) (fun _ hk => hk.1)⟩, ⟨by exact Kd.R_mono (Kd.R_far (p := ⟨aD, 3, none⟩) (Kd.R_far (p := ⟨aD, 2, none⟩) (Kd.R_far (p := ⟨aD, 1, none⟩) (Kd.R_far (p := ⟨aD, 0, none⟩) (Kd.R_types ak.o aH.o (by decide)) (fun _ hk => hk.2) (.slice ah a5.length ai)) (fun _ hk => hk.2) (.int .i64 a0_1)) (fun _ hk => hk.2) (.slice ap ag.length aq)) (fun _ hk => hk.2) (.slice none 0 0)) (fun _ hk => hk.1)⟩, ⟨by (exact Kd.R_nil _ _ _ _ _)⟩, ⟨by refine qA2 ?_ aG.o _; refine qA2 ?_ aG.o _; refine qA2 ?_ aG.o _; refine qA2 ?_ aG.o _; exact aA.o⟩, ⟨by refine qA2 ?_ aJ.o _; refine qA2 ?_ aJ.o _; refine qA2 ?_ aJ.o _; refine qA2 ?_ aJ.o _; exact aC.o⟩, ⟨by refine qA5 (cs := #[.slice ah a5.length ai, .int .i64 a0_1, .slice ap ag.length aq, .slice none 0 0]) ?_ 3 _ rfl; refine qA5 (cs := #[.slice ah a5.length ai, .int .i64 a0_1, .slice none 0 0, .slice none 0 0]) ?_ 2 _ rfl; refine qA5 (cs := #[.slice ah a5.length ai, .int .i64 0, .slice none 0 0, .slice none 0 0]) ?_ 1 _ rfl; refine qA5 (cs := #[.slice none 0 0, .int .i64 0, .slice none 0 0, .slice none 0 0]) ?_ 0 _ rfl; exact aH.o⟩, ⟨by repeat (with_reducible first | exact HB.o | refine qA1 ?_ a7.o)⟩⟩
   case round =>
    clear H'
    obtain ⟨aU, ac, al, rfl, HA, cp, ad, ae, a6, aA, aC, aH, HB⟩ := hrel
    cases gk with
    | zero => exact absurd HA.o (by simp [qAu.l0])
    | succ k1 =>
     have H := HA.o
     clear HA
     simp only [qAu.l0] at H
     by_cases cC : aU < (l0_3.length : Int)
     rotate_left
     ·rw [if_neg cC] at H
      replace cC := d0 cC
      simp only [Option.some.injEq, Prod.mk.injEq] at H
      obtain ⟨rfl, rfl, rfl, rfl⟩ := H
      obtain ⟨-, -, -, cP⟩ := c4_ wr aA.o
      obtain ⟨cQ, cR, cS, cT⟩ := c4_ wr aH.o
      obtain ⟨cU, cV, cW, cX⟩ := c4_ wr aC.o
      obtain ⟨cY, cZ, c0, c1⟩ := z4_ aC.o
      obtain ⟨b5, b9, ck⟩ := Kd.R_slice a6.o
      subst ck
      go_wp2
      refine bodyPost_ret (results_cell_row rfl _ _ aI 90 #[.slice ah a5.length ai, .int .i64 a0_1, .slice ap ag.length aq, .slice b5 ac.length b9] (0, 0) _ rfl (by refine qA5 (cs := #[.slice ah a5.length ai, .int .i64 a0_1, .slice ap ag.length aq, .slice none 0 0]) ?_ 3 _ rfl; refine qA5 (cs := #[.slice ah a5.length ai, .int .i64 a0_1, .slice none 0 0, .slice none 0 0]) ?_ 2 _ rfl; refine qA5 (cs := #[.slice ah a5.length ai, .int .i64 0, .slice none 0 0, .slice none 0 0]) ?_ 1 _ rfl; refine qA5 (cs := #[.slice none 0 0, .int .i64 0, .slice none 0 0, .slice none 0 0]) ?_ 0 _ rfl; exact aC.o) Tryz.underlying90 rfl (by kernel_rfl)) rfl ?_
      exact ⟨_, _, _, by rfl, by exact Kd.R_mono (Kd.R_far (p := ⟨aI, 3, none⟩) (Kd.R_far (p := ⟨aI, 2, none⟩) (Kd.R_far (p := ⟨aI, 1, none⟩) (Kd.R_far (p := ⟨aI, 0, none⟩) (Kd.R_types ad.o aC.o (by decide)) (fun _ hk => hk.2) (.slice ah a5.length ai)) (fun _ hk => hk.2) (.int .i64 a0_1)) (fun _ hk => hk.2) (.slice ap ag.length aq)) (fun _ hk => hk.2) (.slice b5 ac.length b9)) (fun _ hk => hk.1), by exact Kd.R_mono (Kd.R_far (p := ⟨aI, 3, none⟩) (Kd.R_far (p := ⟨aI, 2, none⟩) (Kd.R_far (p := ⟨aI, 1, none⟩) (Kd.R_far (p := ⟨aI, 0, none⟩) (Kd.R_types ae.o aC.o (by decide)) (fun _ hk => hk.2) (.slice ah a5.length ai)) (fun _ hk => hk.2) (.int .i64 a0_1)) (fun _ hk => hk.2) (.slice ap ag.length aq)) (fun _ hk => hk.2) (.slice b5 ac.length b9)) (fun _ hk => hk.1), by exact Kd.R_mono (Kd.R_far (p := ⟨aI, 3, none⟩) (Kd.R_far (p := ⟨aI, 2, none⟩) (Kd.R_far (p := ⟨aI, 1, none⟩) (Kd.R_far (p := ⟨aI, 0, none⟩) (Kd.R_types a6.o aC.o (by decide)) (fun _ hk => hk.2) (.slice ah a5.length ai)) (fun _ hk => hk.2) (.int .i64 a0_1)) (fun _ hk => hk.2) (.slice ap ag.length aq)) (fun _ hk => hk.2) (.slice b5 ac.length b9)) (fun _ hk => trivial), by repeat (with_reducible first | exact HB.o | refine qA1 ?_ cE.o)⟩
     rw [if_pos cC] at H
     replace cC := d1 cC
     obtain ⟨cM, H⟩ := gd H
     replace cM := d1 cM
     obtain ⟨cN, H⟩ := gd H
     have cF := am cN
     clear cN
     obtain ⟨bT, b2⟩ : ∃ y_ : List (S144), y_ = (ac ++ [(⟨(qAv l0_3 aU).f0, (qAv l0_3 aU).f1, (⟨(qAv l0_3 aU).f2.f0, (qAv l0_3 aU).f2.f1⟩ : S83)⟩ : S144)]) := ⟨_, rfl⟩
     replace H : (qAu.l0 k1 (wrap64 (aU + 1)) l0_0 a0_1 l0_2 l0_3 a5 a0_1 ag bT) = some (r1, r2, r3, r4) := by (rw [b2]; with_reducible exact H)
     have cH := am b2
     clear b2
     have H' := am H
     clear H
     obtain ⟨-, -, -, cO⟩ := c4_ wr aA.o
     try go_wp2
     have n_ := a2 (Kd.R_drew ad.o) (a2 (Kd.R_drew ae.o) (a2 (Kd.R_drew a6.o) (a2 (qBF aA.o) (a2 (qBF aC.o) (a2 (qBF aH.o) (am (qAM HB.o)))))))
     clear ad ae a6 aA aC aH HB
     obtain ⟨ad, ae, a6, aA, aC, aH, HB⟩ := n_
     have bw : 0 ≤ aU := od (by assumption)
     have bz : aU < (l0_3.length : Int) := od (by assumption)
     obtain ⟨ab, cd, ar, au, av, aw⟩ := qBK bV.o aU bw bz
     have hw157_3 := aw
     have hw157_2 := av
     have hw157_1 := au
     have hw157_0 := ar
     cases cd
     replace ar := (HB.o.cell (World.block_lt_of_cell? w _ ar)).trans ar
     replace au := (HB.o.cell (World.block_lt_of_cell? w _ au)).trans au
     replace av := (HB.o.cell (World.block_lt_of_cell? w _ av)).trans av
     replace aw := (HB.o.cell (World.block_lt_of_cell? w _ aw)).trans aw
     replace bw := eq_true bw
     replace bz := eq_true bz
     have cl : 0 ≤ aU := od (by assumption)
     have cn : aU < (l0_3.length : Int) := od (by assumption)
     obtain ⟨cI, ce, ax, ay, az, bA⟩ := qBK bV.o aU cl cn
     have hw158_3 := bA
     have hw158_2 := az
     have hw158_1 := ay
     have hw158_0 := ax
     obtain rfl : ab = cI := (by injection ce)
     replace ax := (HB.o.cell (World.block_lt_of_cell? w _ ax)).trans ax
     replace ay := (HB.o.cell (World.block_lt_of_cell? w _ ay)).trans ay
     replace az := (HB.o.cell (World.block_lt_of_cell? w _ az)).trans az
     replace bA := (HB.o.cell (World.block_lt_of_cell? w _ bA)).trans bA
     have cm : 0 ≤ aU := od (by assumption)
     have co : aU < (l0_3.length : Int) := od (by assumption)
     obtain ⟨cJ, cf, bB, bC, bD, bE⟩ := qBK bV.o aU cm co
     have hw159_3 := bE
     have hw159_2 := bD
     have hw159_1 := bC
     have hw159_0 := bB
     obtain rfl : ab = cJ := (by injection cf)
     replace bB := (HB.o.cell (World.block_lt_of_cell? w _ bB)).trans bB
     replace bC := (HB.o.cell (World.block_lt_of_cell? w _ bC)).trans bC
     replace bD := (HB.o.cell (World.block_lt_of_cell? w _ bD)).trans bD
     replace bE := (HB.o.cell (World.block_lt_of_cell? w _ bE)).trans bE
     refine qEs (n := 25) (S := fun w' => w'.cell? ⟨aD, 0, none⟩ = some (.slice ah a5.length ai) ∧ w'.cell? ⟨aD, 1, none⟩ = some (.int .i64 a0_1) ∧ w'.cell? ⟨aD, 2, none⟩ = some (.slice ap ag.length aq) ∧ w'.cell? ⟨aD, 3, none⟩ = some (al) ∧ w'.cell? ⟨aE, 0, none⟩ = some (.slice aV l0_0.length aX) ∧ w'.cell? ⟨aE, 1, none⟩ = some (.int .i64 a0_1) ∧ w'.cell? ⟨aE, 2, none⟩ = some (.slice aW l0_2.length aY) ∧ w'.cell? ⟨aE, 3, none⟩ = some (.slice (some ab) l0_3.length aZ) ∧ w'.cell? (ab.add ((aU).toNat * 4)) = some (.int .i64 ((qAv l0_3 aU).f0)) ∧ w'.cell? ⟨(ab.add ((aU).toNat * 4)).block, (ab.add ((aU).toNat * 4)).off + 1, none⟩ = some (.int .i64 ((qAv l0_3 aU).f1)) ∧ w'.cell? ⟨(ab.add ((aU).toNat * 4)).block, (ab.add ((aU).toNat * 4)).off + 2, none⟩ = some (.int .i64 ((qAv l0_3 aU).f2.f0)) ∧ w'.cell? ⟨(ab.add ((aU).toNat * 4)).block, (ab.add ((aU).toNat * 4)).off + 3, none⟩ = some (.int .u64 ((qAv l0_3 aU).f2.f1)) ∧ w'.cell? (ab.add ((aU).toNat * 4)) = some (.int .i64 ((qAv l0_3 aU).f0)) ∧ w'.cell? ⟨(ab.add ((aU).toNat * 4)).block, (ab.add ((aU).toNat * 4)).off + 1, none⟩ = some (.int .i64 ((qAv l0_3 aU).f1)) ∧ w'.cell? ⟨(ab.add ((aU).toNat * 4)).block, (ab.add ((aU).toNat * 4)).off + 2, none⟩ = some (.int .i64 ((qAv l0_3 aU).f2.f0)) ∧ w'.cell? ⟨(ab.add ((aU).toNat * 4)).block, (ab.add ((aU).toNat * 4)).off + 3, none⟩ = some (.int .u64 ((qAv l0_3 aU).f2.f1)) ∧ w'.cell? (ab.add ((aU).toNat * 4)) = some (.int .i64 ((qAv l0_3 aU).f0)) ∧ w'.cell? ⟨(ab.add ((aU).toNat * 4)).block, (ab.add ((aU).toNat * 4)).off + 1, none⟩ = some (.int .i64 ((qAv l0_3 aU).f1)) ∧ w'.cell? ⟨(ab.add ((aU).toNat * 4)).block, (ab.add ((aU).toNat * 4)).off + 2, none⟩ = some (.int .i64 ((qAv l0_3 aU).f2.f0)) ∧ w'.cell? ⟨(ab.add ((aU).toNat * 4)).block, (ab.add ((aU).toNat * 4)).off + 3, none⟩ = some (.int .u64 ((qAv l0_3 aU).f2.f1))) (ds := [24]) (mK 25 0) (by kernel_rfl) rfl rfl ⟨(qAn aH.o 0).trans rfl, (qAn aH.o 1).trans rfl, (qAn aH.o 2).trans rfl, (qAn aH.o 3).trans rfl, (qAn aA.o 0).trans rfl, (qAn aA.o 1).trans rfl, (qAn aA.o 2).trans rfl, (qAn aA.o 3).trans rfl, ((HB.o.cell (World.block_lt_of_cell? w _ hw157_0)).trans hw157_0), ((HB.o.cell (World.block_lt_of_cell? w _ hw157_1)).trans hw157_1), ((HB.o.cell (World.block_lt_of_cell? w _ hw157_2)).trans hw157_2), ((HB.o.cell (World.block_lt_of_cell? w _ hw157_3)).trans hw157_3), ((HB.o.cell (World.block_lt_of_cell? w _ hw158_0)).trans hw158_0), ((HB.o.cell (World.block_lt_of_cell? w _ hw158_1)).trans hw158_1), ((HB.o.cell (World.block_lt_of_cell? w _ hw158_2)).trans hw158_2), ((HB.o.cell (World.block_lt_of_cell? w _ hw158_3)).trans hw158_3), ((HB.o.cell (World.block_lt_of_cell? w _ hw159_0)).trans hw159_0), ((HB.o.cell (World.block_lt_of_cell? w _ hw159_1)).trans hw159_1), ((HB.o.cell (World.block_lt_of_cell? w _ hw159_2)).trans hw159_2), ((HB.o.cell (World.block_lt_of_cell? w _ hw159_3)).trans hw159_3)⟩ (fun hHeld => ?_); refine qCs qAu.tab5 qAu.bits5 (fun HT_ HW_ => ?_)
     generalize wr.drew = cu at ad ae a6 aA aC aH HB ar au av aw ax ay az bA bB bC bD bE hHeld ⊢
     refine pu 0 26 (mK 25 1) (qBc HT_.o (by kernel_rfl)) ?_
     refine pu 2 28 (mK 25 5) (qBc HT_.o (by kernel_rfl)) ?_
     refine pu 4 30 (mK 25 21) (qBc HT_.o (by kernel_rfl)) ?_
     refine pu 8 34 (mK 25 277) (qBc HT_.o (by kernel_rfl)) ?_
     refine pu 10 36 (mK 25 1301) (qBc HT_.o (by kernel_rfl)) ?_
     refine pu 14 40 (mK 25 17685) (qBc HT_.o (by kernel_rfl)) ?_
     refine pu 16 42 (mK 25 83221) (qBc HT_.o (by kernel_rfl)) ?_
     refine tk 1 27 (mK 25 83223) (qBw HT_.o HW_.o (by kernel_rfl)) hHeld ?_
     refine tk 3 29 (mK 25 83231) (qBw HT_.o HW_.o (by kernel_rfl)) hHeld ?_
     refine pu 5 31 (mK 25 83263) (qBc HT_.o (by kernel_rfl)) ?_
     refine pu 6 32 (mK 25 83327) (qBc HT_.o (by kernel_rfl)) ?_
     refine tk 7 33 (mK 25 83455) (qBw HT_.o HW_.o (by kernel_rfl)) hHeld ?_
     refine tk 9 35 (mK 25 83967) (qBw HT_.o HW_.o (by kernel_rfl)) hHeld ?_
     refine pu 11 37 (mK 25 86015) (qBc HT_.o (by kernel_rfl)) ?_
     refine pu 12 38 (mK 25 90111) (qBc HT_.o (by kernel_rfl)) ?_
     refine tk 13 39 (mK 25 98303) (qBw HT_.o HW_.o (by kernel_rfl)) hHeld ?_
     refine tk 15 41 (mK 25 131071) (qBw HT_.o HW_.o (by kernel_rfl)) hHeld ?_
     refine pu 17 43 (mK 25 262143) (qBc HT_.o (by kernel_rfl)) ?_
     refine pu 18 44 (mK 25 524287) (qBc HT_.o (by kernel_rfl)) ?_
     refine tk 19 45 (mK 25 1048575) (qBw HT_.o HW_.o (by kernel_rfl)) hHeld ?_
     refine pu 20 46 (mK 25 2097151) (qBc HT_.o (by kernel_rfl)) ?_
     refine one_ (i := 21) (N := some 47) (mK 25 4194303) rfl rfl (qB6 HT_.o (by kernel_rfl)) (by decide) (fun K hK => ?_)
     refine value_ (w1 := ?_) (v := ?_) (by rfl) rfl ?_ ?_
     rotate_left 2
     ·go_simp
      constructor
      ·rfl
      rfl
     refine hK.o _ _ ⟨(qAn (qAW aH.o _) 0).trans rfl, (qAn (qAW aH.o _) 1).trans rfl, (qAn (qAW aH.o _) 2).trans rfl, (qAn (qAW aH.o _) 3).trans rfl, (qAn (qAW aA.o _) 0).trans rfl, (qAn (qAW aA.o _) 1).trans rfl, (qAn (qAW aA.o _) 2).trans rfl, (qAn (qAW aA.o _) 3).trans rfl, (World.cell?_alloc_lt _ _ _ (World.block_lt_of_cell? _ _ ((HB.o.cell (World.block_lt_of_cell? w _ hw157_0)).trans hw157_0))).trans ((HB.o.cell (World.block_lt_of_cell? w _ hw157_0)).trans hw157_0), (World.cell?_alloc_lt _ _ _ (World.block_lt_of_cell? _ _ ((HB.o.cell (World.block_lt_of_cell? w _ hw157_1)).trans hw157_1))).trans ((HB.o.cell (World.block_lt_of_cell? w _ hw157_1)).trans hw157_1), (World.cell?_alloc_lt _ _ _ (World.block_lt_of_cell? _ _ ((HB.o.cell (World.block_lt_of_cell? w _ hw157_2)).trans hw157_2))).trans ((HB.o.cell (World.block_lt_of_cell? w _ hw157_2)).trans hw157_2), (World.cell?_alloc_lt _ _ _ (World.block_lt_of_cell? _ _ ((HB.o.cell (World.block_lt_of_cell? w _ hw157_3)).trans hw157_3))).trans ((HB.o.cell (World.block_lt_of_cell? w _ hw157_3)).trans hw157_3), (World.cell?_alloc_lt _ _ _ (World.block_lt_of_cell? _ _ ((HB.o.cell (World.block_lt_of_cell? w _ hw158_0)).trans hw158_0))).trans ((HB.o.cell (World.block_lt_of_cell? w _ hw158_0)).trans hw158_0), (World.cell?_alloc_lt _ _ _ (World.block_lt_of_cell? _ _ ((HB.o.cell (World.block_lt_of_cell? w _ hw158_1)).trans hw158_1))).trans ((HB.o.cell (World.block_lt_of_cell? w _ hw158_1)).trans hw158_1), (World.cell?_alloc_lt _ _ _ (World.block_lt_of_cell? _ _ ((HB.o.cell (World.block_lt_of_cell? w _ hw158_2)).trans hw158_2))).trans ((HB.o.cell (World.block_lt_of_cell? w _ hw158_2)).trans hw158_2), (World.cell?_alloc_lt _ _ _ (World.block_lt_of_cell? _ _ ((HB.o.cell (World.block_lt_of_cell? w _ hw158_3)).trans hw158_3))).trans ((HB.o.cell (World.block_lt_of_cell? w _ hw158_3)).trans hw158_3), (World.cell?_alloc_lt _ _ _ (World.block_lt_of_cell? _ _ ((HB.o.cell (World.block_lt_of_cell? w _ hw159_0)).trans hw159_0))).trans ((HB.o.cell (World.block_lt_of_cell? w _ hw159_0)).trans hw159_0), (World.cell?_alloc_lt _ _ _ (World.block_lt_of_cell? _ _ ((HB.o.cell (World.block_lt_of_cell? w _ hw159_1)).trans hw159_1))).trans ((HB.o.cell (World.block_lt_of_cell? w _ hw159_1)).trans hw159_1), (World.cell?_alloc_lt _ _ _ (World.block_lt_of_cell? _ _ ((HB.o.cell (World.block_lt_of_cell? w _ hw159_2)).trans hw159_2))).trans ((HB.o.cell (World.block_lt_of_cell? w _ hw159_2)).trans hw159_2), (World.cell?_alloc_lt _ _ _ (World.block_lt_of_cell? _ _ ((HB.o.cell (World.block_lt_of_cell? w _ hw159_3)).trans hw159_3))).trans ((HB.o.cell (World.block_lt_of_cell? w _ hw159_3)).trans hw159_3)⟩ (fun hHeld => ?_)
     clear hK K
     refine nm ?_
     refine one_ (i := 22) (N := some 48) (mK 25 8388607) rfl rfl (qB6 HT_.o (by kernel_rfl)) (by decide) (fun K hK => ?_)
     refine Kd.R_append_step k144 (w0 := w) w.heap.size (by rfl) (.tmp 27) (.tmp 47) 88 144 (.agg #[(.int .i64 0), (.int .i64 0), (.int .i64 0), (.int .u64 0)]) 32 rfl Tryz.underlying88 info144 rfl (by decide) (by omega) al ac (⟨(qAv l0_3 aU).f0, (qAv l0_3 aU).f1, (⟨(qAv l0_3 aU).f2.f0, (qAv l0_3 aU).f2.f1⟩ : S83)⟩ : S144) [.int .i64 ((qAv l0_3 aU).f0), .int .i64 ((qAv l0_3 aU).f1), .int .i64 ((qAv l0_3 aU).f2.f0), .int .u64 ((qAv l0_3 aU).f2.f1)] (fun _ => True) (fun _ => False) rfl rfl ?aP (fun _ hk => hk.elim) ?aF ?aO ?aB ?aS ?aL ?_
     (case aP => exact k144_mkM _ _ _ (⟨(qAv l0_3 aU).f0, (qAv l0_3 aU).f1, (⟨(qAv l0_3 aU).f2.f0, (qAv l0_3 aU).f2.f1⟩ : S83)⟩ : S144))
     (case aB => exact HB.o)
     (case aF => exact (fun _ _ => trivial))
     (case aO => exact a6.o)
     (case aS => exact (qAf HB.o))
     (case aL => have := cF.o; omega)
     intro cr cv ho hb hg bH
     rw [← cH.o] at ho
     have n_ := a2 (Kd.R_over' ad.o (Kd.R_typed a6.o) (by decide) hg) (a2 (Kd.R_over' ae.o (Kd.R_typed a6.o) (by decide) hg) (a2 (qAI (g := aE) (o := .cells #[.slice aV l0_0.length aX, .int .i64 a0_1, .slice aW l0_2.length aY, .slice (some ab) l0_3.length aZ] 98 (0, 0)) aA.o hg (Kd.R_ne a6.o aA.o (by decide))) (a2 (qAI (g := aI) (o := .cells #[.slice none 0 0, .int .i64 0, .slice none 0 0, .slice none 0 0] 90 (0, 0)) aC.o hg (Kd.R_ne a6.o aC.o (by decide))) (a2 (qAI (g := aD) (o := .cells #[.slice ah a5.length ai, .int .i64 a0_1, .slice ap ag.length aq, al] 90 (0, 0)) aH.o hg (Kd.R_ne a6.o aH.o (by decide))) (a2 (hb) (am (ho)))))))
     clear ad ae aA aC aH HB a6
     obtain ⟨ad, ae, aA, aC, aH, HB, bd⟩ := n_
     clear ho hb hg bH
     obtain ⟨b4, b8, cj⟩ := Kd.R_slice bd.o
     (subst cj)
     refine hK.o _ _ ⟨(qAn aH.o 0).trans rfl, (qAn aH.o 1).trans rfl, (qAn aH.o 2).trans rfl, (qAn aH.o 3).trans rfl, (qAn aA.o 0).trans rfl, (qAn aA.o 1).trans rfl, (qAn aA.o 2).trans rfl, (qAn aA.o 3).trans rfl, ((HB.o.cell (World.block_lt_of_cell? w _ hw157_0)).trans hw157_0), ((HB.o.cell (World.block_lt_of_cell? w _ hw157_1)).trans hw157_1), ((HB.o.cell (World.block_lt_of_cell? w _ hw157_2)).trans hw157_2), ((HB.o.cell (World.block_lt_of_cell? w _ hw157_3)).trans hw157_3), ((HB.o.cell (World.block_lt_of_cell? w _ hw158_0)).trans hw158_0), ((HB.o.cell (World.block_lt_of_cell? w _ hw158_1)).trans hw158_1), ((HB.o.cell (World.block_lt_of_cell? w _ hw158_2)).trans hw158_2), ((HB.o.cell (World.block_lt_of_cell? w _ hw158_3)).trans hw158_3), ((HB.o.cell (World.block_lt_of_cell? w _ hw159_0)).trans hw159_0), ((HB.o.cell (World.block_lt_of_cell? w _ hw159_1)).trans hw159_1), ((HB.o.cell (World.block_lt_of_cell? w _ hw159_2)).trans hw159_2), ((HB.o.cell (World.block_lt_of_cell? w _ hw159_3)).trans hw159_3)⟩ (fun hHeld => ?_)
     clear hK K
     refine nm ?_
     refine pu 23 49 (mK 25 16777215) (qBc HT_.o (by kernel_rfl)) ?_
     refine last_ (i := 24) (N := none) (mK 25 33554431) rfl rfl (qB6 HT_.o (by kernel_rfl)) (by decide) (fun K hK => ?_)
     have hfs32 := qAx aH.o 3
     refine skip_ (w1 := ?_) (by rfl) rfl ?_ ?_
     rotate_left
     ·go_simp
      rfl
     refine hK.o _ _ ?_
     clear hK K
     refine done_ (qDn HT_.o (by kernel_rfl)) ?_
     try go_wp2
     go_roundg k1
     case measure => have := cp.o; omega
     case rel => exact ⟨(wrap64 (aU + 1)), (bT), (.slice b4 bT.length b8), (by rfl), H', ⟨by have := cp.o; omega⟩, ⟨by exact Kd.R_mono (Kd.R_far (p := ⟨aD, 3, none⟩) (Kd.R_types ad.o aH.o (by decide)) (fun _ hk => hk.2) (.slice b4 bT.length b8)) (fun _ hk => hk.1)⟩, ⟨by exact Kd.R_mono (Kd.R_far (p := ⟨aD, 3, none⟩) (Kd.R_types ae.o aH.o (by decide)) (fun _ hk => hk.2) (.slice b4 bT.length b8)) (fun _ hk => hk.1)⟩, ⟨by exact Kd.R_mono (Kd.R_far (p := ⟨aD, 3, none⟩) (Kd.R_types bd.o aH.o (by decide)) (fun _ hk => hk.2) (.slice b4 bT.length b8)) (fun _ hk => trivial)⟩, ⟨by refine qA2 ?_ aG.o _; exact aA.o⟩, ⟨by refine qA2 ?_ aJ.o _; exact aC.o⟩, ⟨by refine qA5 (cs := #[.slice ah a5.length ai, .int .i64 a0_1, .slice ap ag.length aq, al]) ?_ 3 _ rfl; exact aH.o⟩, ⟨by repeat (with_reducible first | exact HB.o | refine qA1 ?_ a7.o)⟩⟩
  ·rw [if_neg c3] at H
   exact absurd H (by simp)
 ·rw [if_neg c2] at H
  exact absurd H (by simp)
mutual
def qAq.l0 : Nat → Int → ByteArray → List (S95) → List (S100) → List (S103) → ByteArray → List (S85) → Option (ByteArray × (List (S85)) × (List (S92)) × (List (S104)))
 | 0, _, _, _, _, _, _, _ => none
 | k + 1, x4, ae, a5, aX, aY, aa, a8 => if x4 < (a5.length : Int) then (if 0 ≤ x4 then (if a8.length < 4398046511104 then (qAq.l0 k (wrap64 (x4 + 1)) ae a5 aX aY aa (a8 ++ [(⟨(qBq a5 x4).f0, (⟨(qBq a5 x4).f1.f0, (qBq a5 x4).f1.f1⟩ : S83)⟩ : S85)])) else (none)) else (none)) else (qAq.l1 k 0 ae a5 aX aY aa a8 ([] : List (S92)))
def qAq.l1 : Nat → Int → ByteArray → List (S95) → List (S100) → List (S103) → ByteArray → List (S85) → List (S92) → Option (ByteArray × (List (S85)) × (List (S92)) × (List (S104)))
 | 0, _, _, _, _, _, _, _, _ => none
 | k + 1, x5, ae, a5, aX, aY, aa, a8, an => if x5 < (aX.length : Int) then (if 0 ≤ x5 then ((qAu.f k ((qAz aX x5).f1.f0.f0) ((qAz aX x5).f1.f0.f1) ((qAz aX x5).f1.f1) ((qAz aX x5).f1.f2)).bind fun b3 => (if an.length < 1466015503701 then (qAq.l1 k (wrap64 (x5 + 1)) ae a5 aX aY aa a8 (an ++ [(⟨(qAz aX x5).f0, (⟨(⟨b3.1, b3.2.1⟩ : S69), b3.2.2.1, b3.2.2.2⟩ : S90)⟩ : S92)])) else (none))) else (none)) else (qAq.l2 k 0 ae a5 aX aY aa a8 an ([] : List (S104)))
def qAq.l2 : Nat → Int → ByteArray → List (S95) → List (S100) → List (S103) → ByteArray → List (S85) → List (S92) → List (S104) → Option (ByteArray × (List (S85)) × (List (S92)) × (List (S104)))
 | 0, _, _, _, _, _, _, _, _, _ => none
 | k + 1, x6, ae, a5, aX, aY, aa, a8, an, bM => if x6 < (aY.length : Int) then (if 0 ≤ x6 then (if bM.length < 2513169434916 then (qAq.l2 k (wrap64 (x6 + 1)) ae a5 aX aY aa a8 an (bM ++ [(⟨(qAj aY x6).f0, (qAj aY x6).f1, (qAj aY x6).f2, (qAj aY x6).f3, (qAj aY x6).f4⟩ : S104)])) else (none)) else (none)) else (some (aa, a8, an, bM))
end
def qAq.f (k : Nat) (a0_0 : ByteArray) (l0_1 : List (S95)) (l0_2 : List (S100)) (l0_3 : List (S103)) : Option (ByteArray × (List (S85)) × (List (S92)) × (List (S104))) := qAq.l0 k 0 a0_0 l0_1 l0_2 l0_3 a0_0 ([] : List (S85))
def qAq.T5 : Bool × List (List Nat × List Nat) := (true, [([], []), ([0], [0]), ([], []), ([2], [2]), ([], []), ([3, 4], [3, 4]), ([5], [5]), ([6], [6]), ([], []), ([8], [8]), ([], []), ([9, 10], [9, 10]), ([11], [11]), ([12], [12]), ([7, 13], [7, 13]), ([14], [14]), ([1, 15], [1, 15]), ([0, 1, 2, 3, 4, 5, 6, 7, 8, 9, 10, 11, 12, 13, 14, 15, 16], []), ([17, 16, 16, 0, 1, 2, 3, 4, 5, 6, 7, 8, 9, 10, 11, 12, 13, 14, 15, 16], [16, 17])])
def qAq.B5 : List Nat := [0, 1, 0, 4, 0, 28, 60, 124, 0, 256, 0, 1792, 3840, 7936, 16380, 32764, 65535, 131071, 262143]
theorem qAq.tab5 : rtab .any (opsOf Tryz.f10 5) = qAq.T5 := by kernel_rfl
theorem qAq.bits5 : qCz qAq.T5.2 qAq.B5 = true := by kernel_rfl
def qAq.T9 : Bool × List (List Nat × List Nat) := (true, [([], []), ([0], [0]), ([], []), ([2], [2]), ([], []), ([3, 4], [3, 4]), ([5], [5]), ([6], [6]), ([], []), ([8], [8]), ([], []), ([9, 10], [9, 10]), ([11], [11]), ([12], [12]), ([13], [13]), ([7, 14], [7, 14]), ([15], [15]), ([1, 16, 14], [1, 16]), ([0, 1, 2, 3, 4, 5, 6, 7, 8, 9, 10, 11, 12, 13, 14, 15, 16, 17], []), ([18, 17, 17, 0, 1, 2, 3, 4, 5, 6, 7, 8, 9, 10, 11, 12, 13, 14, 15, 16, 17], [17, 18])])
def qAq.B9 : List Nat := [0, 1, 0, 4, 0, 28, 60, 124, 0, 256, 0, 1792, 3840, 7936, 16128, 32764, 65532, 131071, 262143, 524287]
theorem qAq.tab9 : rtab .any (opsOf Tryz.f10 9) = qAq.T9 := by kernel_rfl
theorem qAq.bits9 : qCz qAq.T9.2 qAq.B9 = true := by kernel_rfl
theorem qAq.calls (k : Nat) (a0_0 : ByteArray) (bF : Option Addr) (bB : Nat) (l0_1 : List (S95)) (bG : Option Addr) (bC : Nat) (l0_2 : List (S100)) (bE : Option Addr) (bD : Nat) (l0_3 : List (S103)) (r1 : ByteArray) (r2 : List (S85)) (r3 : List (S92)) (r4 : List (S104)) (w : World) (hr0_1 : Kd.C k95 w bF l0_1.length l0_1) (hc0_1 : l0_1.length ≤ bB) (hr0_2 : Kd.C k100 w bG l0_2.length l0_2) (hc0_2 : l0_2.length ≤ bC) (hr0_3 : Kd.C k103 w bE l0_3.length l0_3) (hc0_3 : l0_3.length ≤ bD) (h : qAq.f k a0_0 l0_1 l0_2 l0_3 = some (r1, r2, r3, r4)) :
  Calls Tryz.prog 10 #[.agg #[.string a0_0, .slice bF l0_1.length bB, .slice bG l0_2.length bC, .slice bE l0_3.length bD]] w fun e w' => ∃ v1_ v2_ v3_ : Value, e = .returned (.agg #[.string r1, v1_, v2_, v3_]) ∧ Kd.R k85 85 w' w.heap.size (fun _ => True) v1_ r2 ∧ Kd.S k92 92 w' w.heap.size (fun _ => True) v2_ r3 ∧ Kd.R k104 104 w' w.heap.size (fun _ => True) v3_ r4 ∧ Below w.heap.size w w' := by
 have cd := am hr0_1
 clear hr0_1 hc0_1
 have ce := am hr0_2
 clear hr0_2 hc0_2
 have dP := am hr0_3
 clear hr0_3 hc0_3
 have HB := am (Below.refl w.heap.size w)
 have H : (qAq.l0 k 0 a0_0 l0_1 l0_2 l0_3 a0_0 ([] : List (S85))) = some (r1, r2, r3, r4) := h
 clear h
 have H' := am H
 clear H
 go_enter Tryz.func10, Tryz.ntmps10
 go_wp2_with (first | ((with_reducible refine qAK (N := 1) rfl ?_); refine bx 1 #[.string a0_0, .slice bF l0_1.length bB, .slice bG l0_2.length bC, .slice bE l0_3.length bD] 26 ?_; intro a7 hg w2 hbox hb; have n_ := a2 (qAe HB.o hb) (am (hbox)); clear HB; obtain ⟨HB, aA⟩ := n_; clear hb hbox hg) | ((with_reducible refine qAK (N := 2) rfl ?_); refine bx 2 #[.string ⟨#[]⟩, .slice none 0 0, .slice none 0 0, .slice none 0 0] 33 ?_; intro aW hg w3 hbox hb; have n_ := a2 (qAk aA.o hb) (a2 (qAe HB.o hb) (a2 (hbox) (am (by rw [hg]; exact (qAf HB.o) : w.heap.size ≤ aW)))); clear aA HB; obtain ⟨aA, HB, aG, dO⟩ := n_; clear hb hbox hg; obtain ⟨cj, ck, cl, cm⟩ := c4_ w3 aA.o; obtain ⟨cr, ct, cu, cv⟩ := z4_ aA.o) | ((with_reducible refine qAK (N := 3) rfl ?_); refine bx 3 #[.string ⟨#[]⟩, .slice none 0 0, .slice none 0 0, .slice none 0 0] 33 ?_; intro aU hg w6 hbox hb; have n_ := a2 (qAk aA.o hb) (a2 (qAk aG.o hb) (a2 (qAe HB.o hb) (a2 (hbox) (a2 (by rw [hg]; exact (qAf HB.o) : w.heap.size ≤ aU) (a2 (by rw [hg]; exact Nat.ne_of_lt (qBd aA.o) : a7 ≠ aU) (a2 (by rw [hg]; exact Nat.ne_of_lt (qBd aG.o) : aW ≠ aU) (am (by rw [hg]; exact Nat.ne_of_gt (qBd aG.o) : aU ≠ aW)))))))); clear aA aG HB; obtain ⟨aA, aG, HB, aC, bW, a6, a4, bg⟩ := n_; clear hb hbox hg; obtain ⟨cn, co, cp, cq⟩ := c4_ w6 aC.o; obtain ⟨cw, cx, cy, cz⟩ := z4_ aC.o))
 go_loopg [4] k (fun kq v4 w' => ∃ (aR : Int) (aH : List (S85)) (aT : Value), v4 = .int .i64 aR ∧ qAa (qAq.l0 kq aR a0_0 l0_1 l0_2 l0_3 a0_0 aH = some (r1, r2, r3, r4)) ∧ qAa (kq ≤ k) ∧ qAa (Kd.R k85 85 w' w.heap.size (fun _ => True) aT aH) ∧ qAa (w'.heap[a7]? = some (.cells #[.string a0_0, (.slice bF l0_1.length bB), (.slice bG l0_2.length bC), (.slice bE l0_3.length bD)] 26 (0, 0))) ∧ qAa (w'.heap[aW]? = some (.cells #[.string ⟨#[]⟩, (.slice none 0 0), (.slice none 0 0), (.slice none 0 0)] 33 (0, 0))) ∧ qAa (w'.heap[aU]? = some (.cells #[.string a0_0, aT, (.slice none 0 0), (.slice none 0 0)] 33 (0, 0))) ∧ qAa (Below w.heap.size w w'))
 case atStart => exact ⟨(0), ([] : List (S85)), (.slice none 0 0), (by rfl), H', ⟨Nat.le_refl _⟩, ⟨by (exact Kd.R_nil _ _ _ _ _)⟩, ⟨by refine qA2 ?_ a6.o _; refine qA2 ?_ a6.o _; refine qA2 ?_ a6.o _; refine qA2 ?_ a6.o _; exact aA.o⟩, ⟨by refine qA2 ?_ a4.o _; refine qA2 ?_ a4.o _; refine qA2 ?_ a4.o _; refine qA2 ?_ a4.o _; exact aG.o⟩, ⟨by refine qA5 (cs := #[.string a0_0, .slice none 0 0, .slice none 0 0, .slice none 0 0]) ?_ 3 _ rfl; refine qA5 (cs := #[.string a0_0, .slice none 0 0, .slice none 0 0, .slice none 0 0]) ?_ 2 _ rfl; refine qA5 (cs := #[.string a0_0, .slice none 0 0, .slice none 0 0, .slice none 0 0]) ?_ 1 _ rfl; refine qA5 (cs := #[.string ⟨#[]⟩, .slice none 0 0, .slice none 0 0, .slice none 0 0]) ?_ 0 _ rfl; exact aC.o⟩, ⟨by repeat (with_reducible first | exact HB.o | refine qA1 ?_ bW.o)⟩⟩
 case round =>
  clear H'
  obtain ⟨aR, aH, aT, rfl, HA, dG, aD, aA, aG, aC, HB⟩ := hrel
  cases gk with
  | zero => exact absurd HA.o (by simp [qAq.l0])
  | succ k1 =>
   have H := HA.o
   clear HA
   simp only [qAq.l0] at H
   by_cases c10 : aR < (l0_1.length : Int)
   ·rw [if_pos c10] at H
    replace c10 := d1 c10
    obtain ⟨d8, H⟩ := gd H
    replace d8 := d1 d8
    obtain ⟨d9, H⟩ := gd H
    have dQ := am d9
    clear d9
    obtain ⟨cZ, bo⟩ : ∃ y_ : List (S85), y_ = (aH ++ [(⟨(qBq l0_1 aR).f0, (⟨(qBq l0_1 aR).f1.f0, (qBq l0_1 aR).f1.f1⟩ : S83)⟩ : S85)]) := ⟨_, rfl⟩
    replace H : (qAq.l0 k1 (wrap64 (aR + 1)) a0_0 l0_1 l0_2 l0_3 a0_0 cZ) = some (r1, r2, r3, r4) := by (rw [bo]; with_reducible exact H)
    have dT := am bo
    clear bo
    have H' := am H
    clear H
    obtain ⟨-, de⟩ := c2_ wr aA.o
    try go_wp2
    have n_ := a2 (Kd.R_drew aD.o) (a2 (qBF aA.o) (a2 (qBF aG.o) (a2 (qBF aC.o) (am (qAM HB.o)))))
    clear aD aA aG aC HB
    obtain ⟨aD, aA, aG, aC, HB⟩ := n_
    have dA : 0 ≤ aR := od (by assumption)
    have dD : aR < (l0_1.length : Int) := od (by assumption)
    obtain ⟨ad, eQ, ao, ap, aq⟩ := qDN cd.o aR dA dD
    have hw166_2 := aq
    have hw166_1 := ap
    have hw166_0 := ao
    cases eQ
    replace ao := (HB.o.cell (World.block_lt_of_cell? w _ ao)).trans ao
    replace ap := (HB.o.cell (World.block_lt_of_cell? w _ ap)).trans ap
    replace aq := (HB.o.cell (World.block_lt_of_cell? w _ aq)).trans aq
    replace dA := eq_true dA
    replace dD := eq_true dD
    have e7 : 0 ≤ aR := od (by assumption)
    have e9 : aR < (l0_1.length : Int) := od (by assumption)
    obtain ⟨dW, eR, ar, au, av⟩ := qDN cd.o aR e7 e9
    have hw167_2 := av
    have hw167_1 := au
    have hw167_0 := ar
    obtain rfl : ad = dW := (by injection eR)
    replace ar := (HB.o.cell (World.block_lt_of_cell? w _ ar)).trans ar
    replace au := (HB.o.cell (World.block_lt_of_cell? w _ au)).trans au
    replace av := (HB.o.cell (World.block_lt_of_cell? w _ av)).trans av
    refine qEs (n := 19) (S := fun w' => w'.cell? ⟨aU, 0, none⟩ = some (.string a0_0) ∧ w'.cell? ⟨aU, 1, none⟩ = some (aT) ∧ w'.cell? ⟨aU, 2, none⟩ = some (.slice none 0 0) ∧ w'.cell? ⟨aU, 3, none⟩ = some (.slice none 0 0) ∧ w'.cell? ⟨a7, 0, none⟩ = some (.string a0_0) ∧ w'.cell? ⟨a7, 1, none⟩ = some (.slice (some ad) l0_1.length bB) ∧ w'.cell? ⟨a7, 2, none⟩ = some (.slice bG l0_2.length bC) ∧ w'.cell? ⟨a7, 3, none⟩ = some (.slice bE l0_3.length bD) ∧ w'.cell? (ad.add ((aR).toNat * 3)) = some (.string ((qBq l0_1 aR).f0)) ∧ w'.cell? ⟨(ad.add ((aR).toNat * 3)).block, (ad.add ((aR).toNat * 3)).off + 1, none⟩ = some (.int .i64 ((qBq l0_1 aR).f1.f0)) ∧ w'.cell? ⟨(ad.add ((aR).toNat * 3)).block, (ad.add ((aR).toNat * 3)).off + 2, none⟩ = some (.int .u64 ((qBq l0_1 aR).f1.f1)) ∧ w'.cell? (ad.add ((aR).toNat * 3)) = some (.string ((qBq l0_1 aR).f0)) ∧ w'.cell? ⟨(ad.add ((aR).toNat * 3)).block, (ad.add ((aR).toNat * 3)).off + 1, none⟩ = some (.int .i64 ((qBq l0_1 aR).f1.f0)) ∧ w'.cell? ⟨(ad.add ((aR).toNat * 3)).block, (ad.add ((aR).toNat * 3)).off + 2, none⟩ = some (.int .u64 ((qBq l0_1 aR).f1.f1))) (ds := [18]) (mK 19 0) (by kernel_rfl) rfl rfl ⟨(qAn aC.o 0).trans rfl, (qAn aC.o 1).trans rfl, (qAn aC.o 2).trans rfl, (qAn aC.o 3).trans rfl, (qAn aA.o 0).trans rfl, (qAn aA.o 1).trans rfl, (qAn aA.o 2).trans rfl, (qAn aA.o 3).trans rfl, ((HB.o.cell (World.block_lt_of_cell? w _ hw166_0)).trans hw166_0), ((HB.o.cell (World.block_lt_of_cell? w _ hw166_1)).trans hw166_1), ((HB.o.cell (World.block_lt_of_cell? w _ hw166_2)).trans hw166_2), ((HB.o.cell (World.block_lt_of_cell? w _ hw167_0)).trans hw167_0), ((HB.o.cell (World.block_lt_of_cell? w _ hw167_1)).trans hw167_1), ((HB.o.cell (World.block_lt_of_cell? w _ hw167_2)).trans hw167_2)⟩ (fun hHeld => ?_); refine qCs qAq.tab5 qAq.bits5 (fun HT_ HW_ => ?_)
    generalize wr.drew = er at aD aA aG aC HB ao ap aq ar au av hHeld ⊢
    refine pu 0 18 (mK 19 1) (qBc HT_.o (by kernel_rfl)) ?_
    refine pu 2 20 (mK 19 5) (qBc HT_.o (by kernel_rfl)) ?_
    refine pu 4 22 (mK 19 21) (qBc HT_.o (by kernel_rfl)) ?_
    refine pu 8 26 (mK 19 277) (qBc HT_.o (by kernel_rfl)) ?_
    refine pu 10 28 (mK 19 1301) (qBc HT_.o (by kernel_rfl)) ?_
    refine tk 1 19 (mK 19 1303) (qBw HT_.o HW_.o (by kernel_rfl)) hHeld ?_
    refine tk 3 21 (mK 19 1311) (qBw HT_.o HW_.o (by kernel_rfl)) hHeld ?_
    refine pu 5 23 (mK 19 1343) (qBc HT_.o (by kernel_rfl)) ?_
    refine pu 6 24 (mK 19 1407) (qBc HT_.o (by kernel_rfl)) ?_
    refine tk 7 25 (mK 19 1535) (qBw HT_.o HW_.o (by kernel_rfl)) hHeld ?_
    refine tk 9 27 (mK 19 2047) (qBw HT_.o HW_.o (by kernel_rfl)) hHeld ?_
    refine pu 11 29 (mK 19 4095) (qBc HT_.o (by kernel_rfl)) ?_
    refine pu 12 30 (mK 19 8191) (qBc HT_.o (by kernel_rfl)) ?_
    refine tk 13 31 (mK 19 16383) (qBw HT_.o HW_.o (by kernel_rfl)) hHeld ?_
    refine pu 14 32 (mK 19 32767) (qBc HT_.o (by kernel_rfl)) ?_
    refine one_ (i := 15) (N := some 33) (mK 19 65535) rfl rfl (qB6 HT_.o (by kernel_rfl)) (by decide) (fun K hK => ?_)
    refine value_ (w1 := ?_) (v := ?_) (by rfl) rfl ?_ ?_
    rotate_left 2
    ·go_simp
     constructor
     ·rfl
     rfl
    refine hK.o _ _ ⟨(qAn (qAW aC.o _) 0).trans rfl, (qAn (qAW aC.o _) 1).trans rfl, (qAn (qAW aC.o _) 2).trans rfl, (qAn (qAW aC.o _) 3).trans rfl, (qAn (qAW aA.o _) 0).trans rfl, (qAn (qAW aA.o _) 1).trans rfl, (qAn (qAW aA.o _) 2).trans rfl, (qAn (qAW aA.o _) 3).trans rfl, (World.cell?_alloc_lt _ _ _ (World.block_lt_of_cell? _ _ ((HB.o.cell (World.block_lt_of_cell? w _ hw166_0)).trans hw166_0))).trans ((HB.o.cell (World.block_lt_of_cell? w _ hw166_0)).trans hw166_0), (World.cell?_alloc_lt _ _ _ (World.block_lt_of_cell? _ _ ((HB.o.cell (World.block_lt_of_cell? w _ hw166_1)).trans hw166_1))).trans ((HB.o.cell (World.block_lt_of_cell? w _ hw166_1)).trans hw166_1), (World.cell?_alloc_lt _ _ _ (World.block_lt_of_cell? _ _ ((HB.o.cell (World.block_lt_of_cell? w _ hw166_2)).trans hw166_2))).trans ((HB.o.cell (World.block_lt_of_cell? w _ hw166_2)).trans hw166_2), (World.cell?_alloc_lt _ _ _ (World.block_lt_of_cell? _ _ ((HB.o.cell (World.block_lt_of_cell? w _ hw167_0)).trans hw167_0))).trans ((HB.o.cell (World.block_lt_of_cell? w _ hw167_0)).trans hw167_0), (World.cell?_alloc_lt _ _ _ (World.block_lt_of_cell? _ _ ((HB.o.cell (World.block_lt_of_cell? w _ hw167_1)).trans hw167_1))).trans ((HB.o.cell (World.block_lt_of_cell? w _ hw167_1)).trans hw167_1), (World.cell?_alloc_lt _ _ _ (World.block_lt_of_cell? _ _ ((HB.o.cell (World.block_lt_of_cell? w _ hw167_2)).trans hw167_2))).trans ((HB.o.cell (World.block_lt_of_cell? w _ hw167_2)).trans hw167_2)⟩ (fun hHeld => ?_)
    clear hK K
    refine nm ?_
    refine one_ (i := 16) (N := some 34) (mK 19 131071) rfl rfl (qB6 HT_.o (by kernel_rfl)) (by decide) (fun K hK => ?_)
    refine Kd.R_append_step k85 (w0 := w) w.heap.size (by rfl) (.tmp 19) (.tmp 33) 29 85 (.agg #[(.string ⟨#[]⟩), (.int .i64 0), (.int .u64 0)]) 32 rfl Tryz.underlying29 info85 rfl (by decide) (by omega) aT aH (⟨(qBq l0_1 aR).f0, (⟨(qBq l0_1 aR).f1.f0, (qBq l0_1 aR).f1.f1⟩ : S83)⟩ : S85) [.string ((qBq l0_1 aR).f0), .int .i64 ((qBq l0_1 aR).f1.f0), .int .u64 ((qBq l0_1 aR).f1.f1)] (fun _ => True) (fun _ => False) rfl rfl ?aP (fun _ hk => hk.elim) ?aF ?aO ?aB ?aS ?aL ?_
    (case aP => exact k85_mkM _ _ _ (⟨(qBq l0_1 aR).f0, (⟨(qBq l0_1 aR).f1.f0, (qBq l0_1 aR).f1.f1⟩ : S83)⟩ : S85))
    (case aB => exact HB.o)
    (case aF => exact (fun _ _ => trivial))
    (case aO => exact aD.o)
    (case aS => exact (qAf HB.o))
    (case aL => have := dQ.o; omega)
    intro ek es ho hb hg d6
    rw [← dT.o] at ho
    have n_ := a2 (qAI (g := a7) (o := .cells #[.string a0_0, .slice (some ad) l0_1.length bB, .slice bG l0_2.length bC, .slice bE l0_3.length bD] 26 (0, 0)) aA.o hg (Kd.R_ne aD.o aA.o (by decide))) (a2 (qAI (g := aW) (o := .cells #[.string ⟨#[]⟩, .slice none 0 0, .slice none 0 0, .slice none 0 0] 33 (0, 0)) aG.o hg (Kd.R_ne aD.o aG.o (by decide))) (a2 (qAI (g := aU) (o := .cells #[.string a0_0, aT, .slice none 0 0, .slice none 0 0] 33 (0, 0)) aC.o hg (Kd.R_ne aD.o aC.o (by decide))) (a2 (hb) (am (ho)))))
    clear aA aG aC HB aD
    obtain ⟨aA, aG, aC, HB, c1⟩ := n_
    clear ho hb hg d6
    obtain ⟨dK, d2, eV⟩ := Kd.R_slice c1.o
    (subst eV)
    refine hK.o _ _ ⟨(qAn aC.o 0).trans rfl, (qAn aC.o 1).trans rfl, (qAn aC.o 2).trans rfl, (qAn aC.o 3).trans rfl, (qAn aA.o 0).trans rfl, (qAn aA.o 1).trans rfl, (qAn aA.o 2).trans rfl, (qAn aA.o 3).trans rfl, ((HB.o.cell (World.block_lt_of_cell? w _ hw166_0)).trans hw166_0), ((HB.o.cell (World.block_lt_of_cell? w _ hw166_1)).trans hw166_1), ((HB.o.cell (World.block_lt_of_cell? w _ hw166_2)).trans hw166_2), ((HB.o.cell (World.block_lt_of_cell? w _ hw167_0)).trans hw167_0), ((HB.o.cell (World.block_lt_of_cell? w _ hw167_1)).trans hw167_1), ((HB.o.cell (World.block_lt_of_cell? w _ hw167_2)).trans hw167_2)⟩ (fun hHeld => ?_)
    clear hK K
    refine nm ?_
    refine pu 17 35 (mK 19 262143) (qBc HT_.o (by kernel_rfl)) ?_
    refine last_ (i := 18) (N := none) (mK 19 524287) rfl rfl (qB6 HT_.o (by kernel_rfl)) (by decide) (fun K hK => ?_)
    have hfs19 := qAx aC.o 1
    refine skip_ (w1 := ?_) (by rfl) rfl ?_ ?_
    rotate_left
    ·go_simp
     rfl
    refine hK.o _ _ ?_
    clear hK K
    refine done_ (qDn HT_.o (by kernel_rfl)) ?_
    try go_wp2
    go_roundg k1
    case measure => have := dG.o; omega
    case rel => exact ⟨(wrap64 (aR + 1)), (cZ), (.slice dK cZ.length d2), (by rfl), H', ⟨by have := dG.o; omega⟩, ⟨by exact Kd.R_mono (Kd.R_far (p := ⟨aU, 1, none⟩) (Kd.R_types c1.o aC.o (by decide)) (fun _ hk => hk.2) (.slice dK cZ.length d2)) (fun _ hk => trivial)⟩, ⟨by refine qA2 ?_ a6.o _; exact aA.o⟩, ⟨by refine qA2 ?_ a4.o _; exact aG.o⟩, ⟨by refine qA5 (cs := #[.string a0_0, aT, .slice none 0 0, .slice none 0 0]) ?_ 1 _ rfl; exact aC.o⟩, ⟨by repeat (with_reducible first | exact HB.o | refine qA1 ?_ bW.o)⟩⟩
   rw [if_neg c10] at H
   replace c10 := d0 c10
   have H' := am H
   clear H
   obtain ⟨cG, cH, cI, cJ⟩ := c4_ wr aA.o
   obtain ⟨cO, cP, cQ, cR⟩ := z4_ aA.o
   go_wp2
   go_loopg [5] k1 (fun kq v5 w' => ∃ (aJ : Int) (aI : List (S92)) (aQ : Value), v5 = .int .i64 aJ ∧ qAa (qAq.l1 kq aJ a0_0 l0_1 l0_2 l0_3 a0_0 aH aI = some (r1, r2, r3, r4)) ∧ qAa (kq ≤ k1) ∧ qAa (Kd.R k85 85 w' w.heap.size (fun _ => True) aT aH) ∧ qAa (Kd.S k92 92 w' w.heap.size (fun _ => True) aQ aI) ∧ qAa (w'.heap[a7]? = some (.cells #[.string a0_0, (.slice bF l0_1.length bB), (.slice bG l0_2.length bC), (.slice bE l0_3.length bD)] 26 (0, 0))) ∧ qAa (w'.heap[aW]? = some (.cells #[.string ⟨#[]⟩, (.slice none 0 0), (.slice none 0 0), (.slice none 0 0)] 33 (0, 0))) ∧ qAa (w'.heap[aU]? = some (.cells #[.string a0_0, aT, aQ, (.slice none 0 0)] 33 (0, 0))) ∧ qAa (Below w.heap.size w w'))
   case atStart => exact ⟨(0), ([] : List (S92)), (.slice none 0 0), (by rfl), H', ⟨Nat.le_refl _⟩, ⟨by exact aD.o⟩, ⟨by (exact Kd.S_nil _ _ _ _ _)⟩, ⟨by exact aA.o⟩, ⟨by exact aG.o⟩, ⟨by exact aC.o⟩, ⟨by exact HB.o⟩⟩
   case round =>
    clear H'
    obtain ⟨aJ, aI, aQ, rfl, HA, d7, aD, aE, aA, aG, aC, HB⟩ := hrel
    cases gk with
    | zero => exact absurd HA.o (by simp [qAq.l1])
    | succ k2 =>
     have H := HA.o
     clear HA
     simp only [qAq.l1] at H
     by_cases dH : aJ < (l0_2.length : Int)
     rotate_left
     ·rw [if_neg dH] at H
      replace dH := d0 dH
      have H' := am H
      clear H
      obtain ⟨cK, cL, cM, cN⟩ := c4_ wr aA.o
      obtain ⟨cS, cT, cU, cV⟩ := z4_ aA.o
      go_wp2
      go_loopg [6] k2 (fun kq v6 w' => ∃ (aK : Int) (aV : List (S104)) (al : Value), v6 = .int .i64 aK ∧ qAa (qAq.l2 kq aK a0_0 l0_1 l0_2 l0_3 a0_0 aH aI aV = some (r1, r2, r3, r4)) ∧ qAa (kq ≤ k2) ∧ qAa (Kd.R k85 85 w' w.heap.size (fun _ => True) aT aH) ∧ qAa (Kd.S k92 92 w' w.heap.size (fun _ => True) aQ aI) ∧ qAa (Kd.R k104 104 w' w.heap.size (fun _ => True) al aV) ∧ qAa (w'.heap[a7]? = some (.cells #[.string a0_0, (.slice bF l0_1.length bB), (.slice bG l0_2.length bC), (.slice bE l0_3.length bD)] 26 (0, 0))) ∧ qAa (w'.heap[aW]? = some (.cells #[.string ⟨#[]⟩, (.slice none 0 0), (.slice none 0 0), (.slice none 0 0)] 33 (0, 0))) ∧ qAa (w'.heap[aU]? = some (.cells #[.string a0_0, aT, aQ, al] 33 (0, 0))) ∧ qAa (Below w.heap.size w w'))
      case atStart => exact ⟨(0), ([] : List (S104)), (.slice none 0 0), (by rfl), H', ⟨Nat.le_refl _⟩, ⟨by exact aD.o⟩, ⟨by exact aE.o⟩, ⟨by (exact Kd.R_nil _ _ _ _ _)⟩, ⟨by exact aA.o⟩, ⟨by exact aG.o⟩, ⟨by exact aC.o⟩, ⟨by exact HB.o⟩⟩
      case round =>
       clear H'
       obtain ⟨aK, aV, al, rfl, HA, eb, aD, aE, aM, aA, aG, aC, HB⟩ := hrel
       cases gk with
       | zero => exact absurd HA.o (by simp [qAq.l2])
       | succ k3 =>
        have H := HA.o
        clear HA
        simp only [qAq.l2] at H
        by_cases dI : aK < (l0_3.length : Int)
        rotate_left
        ·rw [if_neg dI] at H
         replace dI := d0 dI
         simp only [Option.some.injEq, Prod.mk.injEq] at H
         obtain ⟨rfl, rfl, rfl, rfl⟩ := H
         obtain ⟨-, -, -, dp⟩ := c4_ wr aA.o
         obtain ⟨dq, dr, dt, du⟩ := c4_ wr aC.o
         obtain ⟨dv, dw, dx, dy⟩ := c4_ wr aG.o
         obtain ⟨eG, eH, eI, eJ⟩ := z4_ aG.o
         obtain ⟨bd, bh, e1⟩ := Kd.R_slice aD.o
         subst e1
         obtain ⟨bk, bl, e2⟩ := Kd.S_slice aE.o
         subst e2
         obtain ⟨bu, cF, e3⟩ := Kd.R_slice aM.o
         subst e3
         go_wp2
         refine bodyPost_ret (results_cell_row rfl _ _ aW 33 #[.string a0_0, .slice bd aH.length bh, .slice bk aI.length bl, .slice bu aV.length cF] (0, 0) _ rfl (by refine qA5 (cs := #[.string a0_0, .slice bd aH.length bh, .slice bk aI.length bl, .slice none 0 0]) ?_ 3 _ rfl; refine qA5 (cs := #[.string a0_0, .slice bd aH.length bh, .slice none 0 0, .slice none 0 0]) ?_ 2 _ rfl; refine qA5 (cs := #[.string a0_0, .slice none 0 0, .slice none 0 0, .slice none 0 0]) ?_ 1 _ rfl; refine qA5 (cs := #[.string ⟨#[]⟩, .slice none 0 0, .slice none 0 0, .slice none 0 0]) ?_ 0 _ rfl; exact aG.o) Tryz.underlying33 rfl (by kernel_rfl)) rfl ?_
         exact ⟨_, _, _, by rfl, by exact Kd.R_mono (Kd.R_far (p := ⟨aW, 3, none⟩) (Kd.R_far (p := ⟨aW, 2, none⟩) (Kd.R_far (p := ⟨aW, 1, none⟩) (Kd.R_far (p := ⟨aW, 0, none⟩) (Kd.R_types aD.o aG.o (by decide)) (fun _ hk => hk.2) (.string a0_0)) (fun _ hk => hk.2) (.slice bd aH.length bh)) (fun _ hk => hk.2) (.slice bk aI.length bl)) (fun _ hk => hk.2) (.slice bu aV.length cF)) (fun _ hk => trivial), by exact Kd.S_mono (Kd.S_far (p := ⟨aW, 3, none⟩) (Kd.S_far (p := ⟨aW, 2, none⟩) (Kd.S_far (p := ⟨aW, 1, none⟩) (Kd.S_far (p := ⟨aW, 0, none⟩) (Kd.S_types aE.o aG.o (by decide)) (fun _ hk => hk.2) (.string a0_0)) (fun _ hk => hk.2) (.slice bd aH.length bh)) (fun _ hk => hk.2) (.slice bk aI.length bl)) (fun _ hk => hk.2) (.slice bu aV.length cF)) (fun _ hk => trivial), by exact Kd.R_mono (Kd.R_far (p := ⟨aW, 3, none⟩) (Kd.R_far (p := ⟨aW, 2, none⟩) (Kd.R_far (p := ⟨aW, 1, none⟩) (Kd.R_far (p := ⟨aW, 0, none⟩) (Kd.R_types aM.o aG.o (by decide)) (fun _ hk => hk.2) (.string a0_0)) (fun _ hk => hk.2) (.slice bd aH.length bh)) (fun _ hk => hk.2) (.slice bk aI.length bl)) (fun _ hk => hk.2) (.slice bu aV.length cF)) (fun _ hk => trivial), by repeat (with_reducible first | exact HB.o | refine qA1 ?_ dO.o)⟩
        rw [if_pos dI] at H
        replace dI := d1 dI
        obtain ⟨dc, H⟩ := gd H
        replace dc := d1 dc
        obtain ⟨dd, H⟩ := gd H
        have dS := am dd
        clear dd
        obtain ⟨bj, bq⟩ : ∃ y_ : List (S104), y_ = (aV ++ [(⟨(qAj l0_3 aK).f0, (qAj l0_3 aK).f1, (qAj l0_3 aK).f2, (qAj l0_3 aK).f3, (qAj l0_3 aK).f4⟩ : S104)]) := ⟨_, rfl⟩
        replace H : (qAq.l2 k3 (wrap64 (aK + 1)) a0_0 l0_1 l0_2 l0_3 a0_0 aH aI bj) = some (r1, r2, r3, r4) := by (rw [bq]; with_reducible exact H)
        have dV := am bq
        clear bq
        have H' := am H
        clear H
        obtain ⟨-, -, -, dg⟩ := c4_ wr aA.o
        have dC : 0 ≤ aK := od (by assumption)
        have dF : aK < (l0_3.length : Int) := od (by assumption)
        obtain ⟨dY, eU, bH, bI, bJ, bK, bL⟩ := qCl dP.o aK dC dF
        cases eU
        replace bH := (HB.o.cell (World.block_lt_of_cell? w _ bH)).trans bH
        replace bI := (HB.o.cell (World.block_lt_of_cell? w _ bI)).trans bI
        replace bJ := (HB.o.cell (World.block_lt_of_cell? w _ bJ)).trans bJ
        replace bK := (HB.o.cell (World.block_lt_of_cell? w _ bK)).trans bK
        replace bL := (HB.o.cell (World.block_lt_of_cell? w _ bL)).trans bL
        replace dC := eq_true dC
        replace dF := eq_true dF
        go_wp2_with (first | ((with_reducible refine qAK (N := 7) rfl ?_); refine bx 7 #[.int .i64 0, .int .i64 0, .int .i64 0, .string ⟨#[]⟩, .string ⟨#[]⟩] 103 ?_; intro aN hg ei hbox hb; have n_ := a2 (Kd.R_below aD.o hb) (a2 (Kd.S_below aE.o hb) (a2 (Kd.R_below aM.o hb) (a2 (qAk aA.o hb) (a2 (qAk aG.o hb) (a2 (qAk aC.o hb) (a2 (qAe HB.o hb) (a2 (hbox) (a2 (by rw [hg]; exact (qAf HB.o) : w.heap.size ≤ aN) (a2 (by rw [hg]; exact Nat.ne_of_lt (qBd aA.o) : a7 ≠ aN) (a2 (by rw [hg]; exact Nat.ne_of_lt (qBd aG.o) : aW ≠ aN) (am (by rw [hg]; exact Nat.ne_of_lt (qBd aC.o) : aU ≠ aN)))))))))))); clear aD aE aM aA aG aC HB; obtain ⟨aD, aE, aM, aA, aG, aC, HB, bA, c0, ab, ac, a9⟩ := n_; clear hb hbox hg; have eg := a9.o; obtain ⟨dh, di, dj, dk, dl⟩ := c5_ ei bA.o; obtain ⟨dz, eA, eB, eC, eD⟩ := z5_ bA.o; have ef := bg.o; have eh := a4.o; obtain ⟨-, -, -, dm⟩ := c4_ ei aC.o; have eE := qAx aC.o 3) | ((with_reducible refine qAP (b := .append) (xs := #[.tmp 75, .tmp 87]) rfl ?_); at_builtin; refine Kd.R_append k104 (w0 := w) w.heap.size rfl (.tmp 75) (.tmp 87) 31 104 (.agg #[(.int .i64 0), (.int .i64 0), (.int .i64 0), (.string ⟨#[]⟩), (.string ⟨#[]⟩)]) 56 rfl Tryz.underlying31 info104 rfl (by decide) (by omega) al aV (⟨(qAj l0_3 aK).f0, (qAj l0_3 aK).f1, (qAj l0_3 aK).f2, (qAj l0_3 aK).f3, (qAj l0_3 aK).f4⟩ : S104) [.int .i64 ((qAj l0_3 aK).f0), .int .i64 ((qAj l0_3 aK).f1), .int .i64 ((qAj l0_3 aK).f2), .string ((qAj l0_3 aK).f3), .string ((qAj l0_3 aK).f4)] (fun _ => True) (fun _ => False) rfl (by (go_simp; done)) ?aP (fun _ hk => hk.elim) ?aF ?aO ?aB ?aS ?aL ?_; (case aP => exact qEZ _ _ _ (⟨(qAj l0_3 aK).f0, (qAj l0_3 aK).f1, (qAj l0_3 aK).f2, (qAj l0_3 aK).f3, (qAj l0_3 aK).f4⟩ : S104)); (case aB => exact (by repeat (with_reducible first | exact HB.o | refine qA1 ?_ c0.o))); (case aF => exact (fun _ _ => trivial)); (case aO => exact (by exact Kd.R_mono (Kd.R_far (p := ⟨aN, 4, none⟩) (Kd.R_far (p := ⟨aN, 3, none⟩) (Kd.R_far (p := ⟨aN, 2, none⟩) (Kd.R_far (p := ⟨aN, 1, none⟩) (Kd.R_far (p := ⟨aN, 0, none⟩) (Kd.R_types aM.o bA.o (by decide)) (fun _ hk => hk.2) (.int .i64 ((qAj l0_3 aK).f0))) (fun _ hk => hk.2) (.int .i64 ((qAj l0_3 aK).f1))) (fun _ hk => hk.2) (.int .i64 ((qAj l0_3 aK).f2))) (fun _ hk => hk.2) (.string ((qAj l0_3 aK).f3))) (fun _ hk => hk.2) (.string ((qAj l0_3 aK).f4))) (fun _ hk => trivial))); (case aS => exact (qAf (by repeat (with_reducible first | exact HB.o | refine qA1 ?_ c0.o)))); (case aL => have := dS.o; omega); intro ep eq ho hb hg d6; rw [← dV.o] at ho; have n_ := a2 (Kd.R_over' (by exact (Kd.R_mono (Kd.R_far (p := ⟨aN, 4, none⟩) (Kd.R_far (p := ⟨aN, 3, none⟩) (Kd.R_far (p := ⟨aN, 2, none⟩) (Kd.R_far (p := ⟨aN, 1, none⟩) (Kd.R_far (p := ⟨aN, 0, none⟩) (Kd.R_types aD.o bA.o (by decide)) (fun _ hk => hk.2) (.int .i64 ((qAj l0_3 aK).f0))) (fun _ hk => hk.2) (.int .i64 ((qAj l0_3 aK).f1))) (fun _ hk => hk.2) (.int .i64 ((qAj l0_3 aK).f2))) (fun _ hk => hk.2) (.string ((qAj l0_3 aK).f3))) (fun _ hk => hk.2) (.string ((qAj l0_3 aK).f4))) (fun _ h_ => h_.1))) (Kd.R_typed (by exact (Kd.R_mono (Kd.R_far (p := ⟨aN, 4, none⟩) (Kd.R_far (p := ⟨aN, 3, none⟩) (Kd.R_far (p := ⟨aN, 2, none⟩) (Kd.R_far (p := ⟨aN, 1, none⟩) (Kd.R_far (p := ⟨aN, 0, none⟩) (Kd.R_types aM.o bA.o (by decide)) (fun _ hk => hk.2) (.int .i64 ((qAj l0_3 aK).f0))) (fun _ hk => hk.2) (.int .i64 ((qAj l0_3 aK).f1))) (fun _ hk => hk.2) (.int .i64 ((qAj l0_3 aK).f2))) (fun _ hk => hk.2) (.string ((qAj l0_3 aK).f3))) (fun _ hk => hk.2) (.string ((qAj l0_3 aK).f4))) (fun _ h_ => h_.1)))) (by decide) hg) (a2 (Kd.S_over' (by exact (Kd.S_mono (Kd.S_far (p := ⟨aN, 4, none⟩) (Kd.S_far (p := ⟨aN, 3, none⟩) (Kd.S_far (p := ⟨aN, 2, none⟩) (Kd.S_far (p := ⟨aN, 1, none⟩) (Kd.S_far (p := ⟨aN, 0, none⟩) (Kd.S_types aE.o bA.o (by decide)) (fun _ hk => hk.2) (.int .i64 ((qAj l0_3 aK).f0))) (fun _ hk => hk.2) (.int .i64 ((qAj l0_3 aK).f1))) (fun _ hk => hk.2) (.int .i64 ((qAj l0_3 aK).f2))) (fun _ hk => hk.2) (.string ((qAj l0_3 aK).f3))) (fun _ hk => hk.2) (.string ((qAj l0_3 aK).f4))) (fun _ h_ => h_.1))) (Kd.R_typed (by exact (Kd.R_mono (Kd.R_far (p := ⟨aN, 4, none⟩) (Kd.R_far (p := ⟨aN, 3, none⟩) (Kd.R_far (p := ⟨aN, 2, none⟩) (Kd.R_far (p := ⟨aN, 1, none⟩) (Kd.R_far (p := ⟨aN, 0, none⟩) (Kd.R_types aM.o bA.o (by decide)) (fun _ hk => hk.2) (.int .i64 ((qAj l0_3 aK).f0))) (fun _ hk => hk.2) (.int .i64 ((qAj l0_3 aK).f1))) (fun _ hk => hk.2) (.int .i64 ((qAj l0_3 aK).f2))) (fun _ hk => hk.2) (.string ((qAj l0_3 aK).f3))) (fun _ hk => hk.2) (.string ((qAj l0_3 aK).f4))) (fun _ h_ => h_.1)))) (by decide) hg) (a2 (qAI (g := a7) (o := .cells #[.string a0_0, .slice bF l0_1.length bB, .slice bG l0_2.length bC, .slice (some dY) l0_3.length bD] 26 (0, 0)) (by refine qA2 ?_ ab.o _; refine qA2 ?_ ab.o _; refine qA2 ?_ ab.o _; refine qA2 ?_ ab.o _; refine qA2 ?_ ab.o _; exact aA.o) hg (Kd.R_ne aM.o aA.o (by decide))) (a2 (qAI (g := aW) (o := .cells #[.string ⟨#[]⟩, .slice none 0 0, .slice none 0 0, .slice none 0 0] 33 (0, 0)) (by refine qA2 ?_ ac.o _; refine qA2 ?_ ac.o _; refine qA2 ?_ ac.o _; refine qA2 ?_ ac.o _; refine qA2 ?_ ac.o _; exact aG.o) hg (Kd.R_ne aM.o aG.o (by decide))) (a2 (qAI (g := aU) (o := .cells #[.string a0_0, aT, aQ, al] 33 (0, 0)) (by refine qA2 ?_ a9.o _; refine qA2 ?_ a9.o _; refine qA2 ?_ a9.o _; refine qA2 ?_ a9.o _; refine qA2 ?_ a9.o _; exact aC.o) hg (Kd.R_ne aM.o aC.o (by decide))) (a2 (hb) (am (ho))))))); clear aD aE aA aG aC bA HB aM; obtain ⟨aD, aE, aA, aG, aC, HB, cc⟩ := n_; clear ho hb hg d6; obtain ⟨bs, cE, e0⟩ := Kd.R_slice cc.o; subst e0; obtain ⟨-, -, -, dn⟩ := c4_ eq aC.o; have eF := qAx aC.o 3))
        go_roundg k3
        case measure => have := dG.o; have := d7.o; have := eb.o; omega
        case rel => exact ⟨(wrap64 (aK + 1)), (bj), (.slice bs bj.length cE), (by rfl), H', ⟨by have := dG.o; have := d7.o; have := eb.o; omega⟩, ⟨by exact Kd.R_mono (Kd.R_far (p := ⟨aU, 3, none⟩) (Kd.R_types aD.o aC.o (by decide)) (fun _ hk => hk.2) (.slice bs bj.length cE)) (fun _ hk => trivial)⟩, ⟨by exact Kd.S_mono (Kd.S_far (p := ⟨aU, 3, none⟩) (Kd.S_types aE.o aC.o (by decide)) (fun _ hk => hk.2) (.slice bs bj.length cE)) (fun _ hk => trivial)⟩, ⟨by exact Kd.R_mono (Kd.R_far (p := ⟨aU, 3, none⟩) (Kd.R_types cc.o aC.o (by decide)) (fun _ hk => hk.2) (.slice bs bj.length cE)) (fun _ hk => trivial)⟩, ⟨by refine qA2 ?_ a6.o _; exact aA.o⟩, ⟨by refine qA2 ?_ a4.o _; exact aG.o⟩, ⟨by refine qA5 (cs := #[.string a0_0, aT, aQ, al]) ?_ 3 _ rfl; exact aC.o⟩, ⟨by repeat (with_reducible first | exact HB.o | refine qA1 ?_ bW.o)⟩⟩
     rw [if_pos dH] at H
     replace dH := d1 dH
     obtain ⟨da, H⟩ := gd H
     replace da := d1 da
     replace H := bm H
     obtain ⟨⟨bT, bi, bU, bV⟩, dJ, H⟩ := H
     replace H : (if aI.length < 1466015503701 then (qAq.l1 k2 (wrap64 (aJ + 1)) a0_0 l0_1 l0_2 l0_3 a0_0 aH (aI ++ [(⟨(qAz l0_2 aJ).f0, (⟨(⟨bT, bi⟩ : S69), bU, bV⟩ : S90)⟩ : S92)])) else (none)) = some (r1, r2, r3, r4) := H
     have ej := am dJ
     clear dJ
     obtain ⟨db, H⟩ := gd H
     have dR := am db
     clear db
     obtain ⟨br, bp⟩ : ∃ y_ : List (S92), y_ = (aI ++ [(⟨(qAz l0_2 aJ).f0, (⟨(⟨bT, bi⟩ : S69), bU, bV⟩ : S90)⟩ : S92)]) := ⟨_, rfl⟩
     replace H : (qAq.l1 k2 (wrap64 (aJ + 1)) a0_0 l0_1 l0_2 l0_3 a0_0 aH br) = some (r1, r2, r3, r4) := by (rw [bp]; with_reducible exact H)
     have dU := am bp
     clear bp
     have H' := am H
     clear H
     obtain ⟨-, -, df⟩ := c3_ wr aA.o
     try go_wp2
     have n_ := a2 (Kd.R_drew aD.o) (a2 (Kd.S_drew aE.o) (a2 (qBF aA.o) (a2 (qBF aG.o) (a2 (qBF aC.o) (am (qAM HB.o))))))
     clear aD aE aA aG aC HB
     obtain ⟨aD, aE, aA, aG, aC, HB⟩ := n_
     have dB : 0 ≤ aJ := od (by assumption)
     have dE : aJ < (l0_2.length : Int) := od (by assumption)
     obtain ⟨aZ, bN, bQ, bO, bR, bP, bS, eS, aw, af, ax, ag, ah, cW, b4, cX, b5, cY, b6⟩ := qCV ce.o aJ dB dE
     have hw171_4 := ah
     have hw171_3 := ag
     have hw171_2 := ax
     have hw171_1 := af
     have hw171_0 := aw
     cases eS
     replace aw := (HB.o.cell (World.block_lt_of_cell? w _ aw)).trans aw
     replace af := (HB.o.cell (World.block_lt_of_cell? w _ af)).trans af
     replace ax := (HB.o.cell (World.block_lt_of_cell? w _ ax)).trans ax
     replace ag := (HB.o.cell (World.block_lt_of_cell? w _ ag)).trans ag
     replace ah := (HB.o.cell (World.block_lt_of_cell? w _ ah)).trans ah
     have cB := am b4
     clear b4 cW
     have cC := am b5
     clear b5 cX
     have cD := am b6
     clear b6 cY
     replace dB := eq_true dB
     replace dE := eq_true dE
     have e8 : 0 ≤ aJ := od (by assumption)
     have ea : aJ < (l0_2.length : Int) := od (by assumption)
     obtain ⟨dX, eK, eN, eL, eO, eM, eP, eT, ay, ai, az, aj, ak, ba, b7, bb, b8, bc, b9⟩ := qCV ce.o aJ e8 ea
     have hw172_4 := ak
     have hw172_3 := aj
     have hw172_2 := az
     have hw172_1 := ai
     have hw172_0 := ay
     obtain rfl : aZ = dX := (by injection eT)
     replace ay := (HB.o.cell (World.block_lt_of_cell? w _ ay)).trans ay
     replace ai := (HB.o.cell (World.block_lt_of_cell? w _ ai)).trans ai
     replace az := (HB.o.cell (World.block_lt_of_cell? w _ az)).trans az
     replace aj := (HB.o.cell (World.block_lt_of_cell? w _ aj)).trans aj
     replace ak := (HB.o.cell (World.block_lt_of_cell? w _ ak)).trans ak
     have b0 := am b7
     have bw := am ba
     clear b7 ba
     have b1 := am b8
     have bz := am bb
     clear b8 bb
     have b2 := am b9
     have cA := am bc
     clear b9 bc
     have ea_ := Option.some.inj (af.symm.trans ai)
     injection ea_ with ea_ en_ ec_
     subst ea_
     subst ec_
     clear en_
     have ea_ := Option.some.inj (ag.symm.trans aj)
     injection ea_ with ea_ en_ ec_
     subst ea_
     subst ec_
     clear en_
     have ea_ := Option.some.inj (ah.symm.trans ak)
     injection ea_ with ea_ en_ ec_
     subst ea_
     subst ec_
     clear en_
     refine qEs (n := 20) (S := fun w' => w'.cell? ⟨aU, 0, none⟩ = some (.string a0_0) ∧ w'.cell? ⟨aU, 1, none⟩ = some (aT) ∧ w'.cell? ⟨aU, 2, none⟩ = some (aQ) ∧ w'.cell? ⟨aU, 3, none⟩ = some (.slice none 0 0) ∧ w'.cell? ⟨a7, 0, none⟩ = some (.string a0_0) ∧ w'.cell? ⟨a7, 1, none⟩ = some (.slice bF l0_1.length bB) ∧ w'.cell? ⟨a7, 2, none⟩ = some (.slice (some aZ) l0_2.length bC) ∧ w'.cell? ⟨a7, 3, none⟩ = some (.slice bE l0_3.length bD) ∧ w'.cell? (aZ.add ((aJ).toNat * 5)) = some (.string ((qAz l0_2 aJ).f0)) ∧ w'.cell? ⟨(aZ.add ((aJ).toNat * 5)).block, (aZ.add ((aJ).toNat * 5)).off + 1, none⟩ = some (.slice bN ((qAz l0_2 aJ).f1.f0.f0).length bQ) ∧ w'.cell? ⟨(aZ.add ((aJ).toNat * 5)).block, (aZ.add ((aJ).toNat * 5)).off + 2, none⟩ = some (.int .i64 ((qAz l0_2 aJ).f1.f0.f1)) ∧ w'.cell? ⟨(aZ.add ((aJ).toNat * 5)).block, (aZ.add ((aJ).toNat * 5)).off + 3, none⟩ = some (.slice bO ((qAz l0_2 aJ).f1.f1).length bR) ∧ w'.cell? ⟨(aZ.add ((aJ).toNat * 5)).block, (aZ.add ((aJ).toNat * 5)).off + 4, none⟩ = some (.slice bP ((qAz l0_2 aJ).f1.f2).length bS) ∧ w'.cell? (aZ.add ((aJ).toNat * 5)) = some (.string ((qAz l0_2 aJ).f0)) ∧ w'.cell? ⟨(aZ.add ((aJ).toNat * 5)).block, (aZ.add ((aJ).toNat * 5)).off + 1, none⟩ = some (.slice bN ((qAz l0_2 aJ).f1.f0.f0).length bQ) ∧ w'.cell? ⟨(aZ.add ((aJ).toNat * 5)).block, (aZ.add ((aJ).toNat * 5)).off + 2, none⟩ = some (.int .i64 ((qAz l0_2 aJ).f1.f0.f1)) ∧ w'.cell? ⟨(aZ.add ((aJ).toNat * 5)).block, (aZ.add ((aJ).toNat * 5)).off + 3, none⟩ = some (.slice bO ((qAz l0_2 aJ).f1.f1).length bR) ∧ w'.cell? ⟨(aZ.add ((aJ).toNat * 5)).block, (aZ.add ((aJ).toNat * 5)).off + 4, none⟩ = some (.slice bP ((qAz l0_2 aJ).f1.f2).length bS)) (ds := [19]) (mK 20 0) (by kernel_rfl) rfl rfl ⟨(qAn aC.o 0).trans rfl, (qAn aC.o 1).trans rfl, (qAn aC.o 2).trans rfl, (qAn aC.o 3).trans rfl, (qAn aA.o 0).trans rfl, (qAn aA.o 1).trans rfl, (qAn aA.o 2).trans rfl, (qAn aA.o 3).trans rfl, ((HB.o.cell (World.block_lt_of_cell? w _ hw171_0)).trans hw171_0), ((HB.o.cell (World.block_lt_of_cell? w _ hw171_1)).trans hw171_1), ((HB.o.cell (World.block_lt_of_cell? w _ hw171_2)).trans hw171_2), ((HB.o.cell (World.block_lt_of_cell? w _ hw171_3)).trans hw171_3), ((HB.o.cell (World.block_lt_of_cell? w _ hw171_4)).trans hw171_4), ((HB.o.cell (World.block_lt_of_cell? w _ hw172_0)).trans hw172_0), ((HB.o.cell (World.block_lt_of_cell? w _ hw172_1)).trans hw172_1), ((HB.o.cell (World.block_lt_of_cell? w _ hw172_2)).trans hw172_2), ((HB.o.cell (World.block_lt_of_cell? w _ hw172_3)).trans hw172_3), ((HB.o.cell (World.block_lt_of_cell? w _ hw172_4)).trans hw172_4)⟩ (fun hHeld => ?_); refine qCs qAq.tab9 qAq.bits9 (fun HT_ HW_ => ?_)
     generalize wr.drew = et at aD aE aA aG aC HB cB cC cD b0 b1 b2 aw af ax ag ah ay ai az aj ak hHeld ⊢
     refine pu 0 43 (mK 20 1) (qBc HT_.o (by kernel_rfl)) ?_
     refine pu 2 45 (mK 20 5) (qBc HT_.o (by kernel_rfl)) ?_
     refine pu 4 47 (mK 20 21) (qBc HT_.o (by kernel_rfl)) ?_
     refine pu 8 51 (mK 20 277) (qBc HT_.o (by kernel_rfl)) ?_
     refine pu 10 53 (mK 20 1301) (qBc HT_.o (by kernel_rfl)) ?_
     refine tk 1 44 (mK 20 1303) (qBw HT_.o HW_.o (by kernel_rfl)) hHeld ?_
     refine tk 3 46 (mK 20 1311) (qBw HT_.o HW_.o (by kernel_rfl)) hHeld ?_
     refine pu 5 48 (mK 20 1343) (qBc HT_.o (by kernel_rfl)) ?_
     refine pu 6 49 (mK 20 1407) (qBc HT_.o (by kernel_rfl)) ?_
     refine tk 7 50 (mK 20 1535) (qBw HT_.o HW_.o (by kernel_rfl)) hHeld ?_
     refine tk 9 52 (mK 20 2047) (qBw HT_.o HW_.o (by kernel_rfl)) hHeld ?_
     refine pu 11 54 (mK 20 4095) (qBc HT_.o (by kernel_rfl)) ?_
     refine pu 12 55 (mK 20 8191) (qBc HT_.o (by kernel_rfl)) ?_
     refine tk 13 56 (mK 20 16383) (qBw HT_.o HW_.o (by kernel_rfl)) hHeld ?_
     refine one_ (i := 14) (N := some 57) (mK 20 32767) rfl rfl (qB6 HT_.o (by kernel_rfl)) (by decide) (fun K hK => ?_)
     refine qEg Tryz.func35 (by kernel_rfl) rfl #[.agg #[.slice bN ((qAz l0_2 aJ).f1.f0.f0).length bQ, .int .i64 ((qAz l0_2 aJ).f1.f0.f1), .slice bO ((qAz l0_2 aJ).f1.f1).length bR, .slice bP ((qAz l0_2 aJ).f1.f2).length bS]] (by rfl) rfl rfl (by (try simp only [List.map_toArray, List.map_cons, List.map_nil]); (rfl)) ?_
     with_reducible refine (qAu.calls k2 _ _ ((qAz l0_2 aJ).f1.f0.f0) ((qAz l0_2 aJ).f1.f0.f1) _ _ ((qAz l0_2 aJ).f1.f1) _ _ ((qAz l0_2 aJ).f1.f2) bT bi bU bV _ ?side1 ?side2 ?side3 ?side4 ?side5 ?side6 ej.o).mono ?_
     (case side1 => exact (Kd.C_below b0.o HB.o))
     (case side2 => exact bw.o)
     (case side3 => exact (Kd.C_below b1.o HB.o))
     (case side4 => exact bz.o)
     (case side5 => exact (Kd.C_below b2.o HB.o))
     (case side6 => exact cA.o)
     rintro e eu ⟨el, em, en, rfl, e4, e5, e6, hb⟩
     refine ⟨_, rfl, ?_⟩
     have n_ := a2 (Kd.R_below aD.o hb) (a2 (Kd.S_mono (Kd.S_told (Kd.S_told (Kd.S_told (Kd.S_old aE.o hb) (Kd.R_base e4)) (Kd.R_base e5)) (Kd.R_base e6)) (fun _ h_ => h_.1)) (a2 (Kd.R_lower e4 (qAf HB.o)) (a2 (Kd.R_lower e5 (qAf HB.o)) (a2 (Kd.R_lower e6 (qAf HB.o)) (a2 (qAk aA.o hb) (a2 (qAk aG.o hb) (a2 (qAk aC.o hb) (am (qAe HB.o hb)))))))))
     clear aD aE aA aG aC HB
     obtain ⟨aD, aE, bX, bY, bZ, aA, aG, aC, HB⟩ := n_
     (try clear hb)
     (skip)
     (skip)
     (skip)
     (try clear e4)
     (try clear e5)
     (try clear e6)
     obtain ⟨dL, d3, eW⟩ := Kd.R_slice bZ.o
     (subst eW)
     obtain ⟨dM, d4, eX⟩ := Kd.R_slice bY.o
     (subst eX)
     obtain ⟨dN, d5, eY⟩ := Kd.R_slice bX.o
     (subst eY)
     refine hK.o _ _ ⟨(qAn aC.o 0).trans rfl, (qAn aC.o 1).trans rfl, (qAn aC.o 2).trans rfl, (qAn aC.o 3).trans rfl, (qAn aA.o 0).trans rfl, (qAn aA.o 1).trans rfl, (qAn aA.o 2).trans rfl, (qAn aA.o 3).trans rfl, ((HB.o.cell (World.block_lt_of_cell? w _ hw171_0)).trans hw171_0), ((HB.o.cell (World.block_lt_of_cell? w _ hw171_1)).trans hw171_1), ((HB.o.cell (World.block_lt_of_cell? w _ hw171_2)).trans hw171_2), ((HB.o.cell (World.block_lt_of_cell? w _ hw171_3)).trans hw171_3), ((HB.o.cell (World.block_lt_of_cell? w _ hw171_4)).trans hw171_4), ((HB.o.cell (World.block_lt_of_cell? w _ hw172_0)).trans hw172_0), ((HB.o.cell (World.block_lt_of_cell? w _ hw172_1)).trans hw172_1), ((HB.o.cell (World.block_lt_of_cell? w _ hw172_2)).trans hw172_2), ((HB.o.cell (World.block_lt_of_cell? w _ hw172_3)).trans hw172_3), ((HB.o.cell (World.block_lt_of_cell? w _ hw172_4)).trans hw172_4)⟩ (fun hHeld => ?_)
     clear hK K
     refine nm ?_
     refine pu 15 58 (mK 20 65535) (qBc HT_.o (by kernel_rfl)) ?_
     refine one_ (i := 16) (N := some 59) (mK 20 131071) rfl rfl (qB6 HT_.o (by kernel_rfl)) (by decide) (fun K hK => ?_)
     refine value_ (w1 := ?_) (v := ?_) (by rfl) rfl ?_ ?_
     rotate_left 2
     ·go_simp
      constructor
      ·rfl
      rfl
     refine hK.o _ _ ⟨(qAn (qAW aC.o _) 0).trans rfl, (qAn (qAW aC.o _) 1).trans rfl, (qAn (qAW aC.o _) 2).trans rfl, (qAn (qAW aC.o _) 3).trans rfl, (qAn (qAW aA.o _) 0).trans rfl, (qAn (qAW aA.o _) 1).trans rfl, (qAn (qAW aA.o _) 2).trans rfl, (qAn (qAW aA.o _) 3).trans rfl, (World.cell?_alloc_lt _ _ _ (World.block_lt_of_cell? _ _ ((HB.o.cell (World.block_lt_of_cell? w _ hw171_0)).trans hw171_0))).trans ((HB.o.cell (World.block_lt_of_cell? w _ hw171_0)).trans hw171_0), (World.cell?_alloc_lt _ _ _ (World.block_lt_of_cell? _ _ ((HB.o.cell (World.block_lt_of_cell? w _ hw171_1)).trans hw171_1))).trans ((HB.o.cell (World.block_lt_of_cell? w _ hw171_1)).trans hw171_1), (World.cell?_alloc_lt _ _ _ (World.block_lt_of_cell? _ _ ((HB.o.cell (World.block_lt_of_cell? w _ hw171_2)).trans hw171_2))).trans ((HB.o.cell (World.block_lt_of_cell? w _ hw171_2)).trans hw171_2), (World.cell?_alloc_lt _ _ _ (World.block_lt_of_cell? _ _ ((HB.o.cell (World.block_lt_of_cell? w _ hw171_3)).trans hw171_3))).trans ((HB.o.cell (World.block_lt_of_cell? w _ hw171_3)).trans hw171_3), (World.cell?_alloc_lt _ _ _ (World.block_lt_of_cell? _ _ ((HB.o.cell (World.block_lt_of_cell? w _ hw171_4)).trans hw171_4))).trans ((HB.o.cell (World.block_lt_of_cell? w _ hw171_4)).trans hw171_4), (World.cell?_alloc_lt _ _ _ (World.block_lt_of_cell? _ _ ((HB.o.cell (World.block_lt_of_cell? w _ hw172_0)).trans hw172_0))).trans ((HB.o.cell (World.block_lt_of_cell? w _ hw172_0)).trans hw172_0), (World.cell?_alloc_lt _ _ _ (World.block_lt_of_cell? _ _ ((HB.o.cell (World.block_lt_of_cell? w _ hw172_1)).trans hw172_1))).trans ((HB.o.cell (World.block_lt_of_cell? w _ hw172_1)).trans hw172_1), (World.cell?_alloc_lt _ _ _ (World.block_lt_of_cell? _ _ ((HB.o.cell (World.block_lt_of_cell? w _ hw172_2)).trans hw172_2))).trans ((HB.o.cell (World.block_lt_of_cell? w _ hw172_2)).trans hw172_2), (World.cell?_alloc_lt _ _ _ (World.block_lt_of_cell? _ _ ((HB.o.cell (World.block_lt_of_cell? w _ hw172_3)).trans hw172_3))).trans ((HB.o.cell (World.block_lt_of_cell? w _ hw172_3)).trans hw172_3), (World.cell?_alloc_lt _ _ _ (World.block_lt_of_cell? _ _ ((HB.o.cell (World.block_lt_of_cell? w _ hw172_4)).trans hw172_4))).trans ((HB.o.cell (World.block_lt_of_cell? w _ hw172_4)).trans hw172_4)⟩ (fun hHeld => ?_)
     clear hK K
     refine nm ?_
     refine one_ (i := 17) (N := some 60) (mK 20 262143) rfl rfl (qB6 HT_.o (by kernel_rfl)) (by decide) (fun K hK => ?_)
     refine Kd.S_append_step k92 (w0 := w) w.heap.size (by rfl) (.tmp 44) (.tmp 59) 30 92 (.agg #[(.string ⟨#[]⟩), (.slice none 0 0), (.int .i64 0), (.slice none 0 0), (.slice none 0 0)]) 96 rfl Tryz.underlying30 info92 rfl (by decide) (by omega) aQ aI (⟨(qAz l0_2 aJ).f0, (⟨(⟨bT, bi⟩ : S69), bU, bV⟩ : S90)⟩ : S92) [.string ((qAz l0_2 aJ).f0), .slice dN bT.length d5, .int .i64 bi, .slice dM bU.length d4, .slice dL bV.length d3] (fun _ => True) (fun k_ => some k_ = (.slice dN bT.length d5 : Value).ownBlock ∨ some k_ = (.slice dM bU.length d4 : Value).ownBlock ∨ some k_ = (.slice dL bV.length d3 : Value).ownBlock) rfl rfl ?aP (fun k_ hk_ => hk_.elim (fun h_ => (Kd.R_mono (ok' := fun k_ => (fun _ => True) k_ ∧ some k_ ≠ (aQ : Value).ownBlock) (Kd.R_apart' bX.o (Kd.S_typed aE.o) (by decide)) (fun k_ hk => ⟨trivial, hk.2⟩)).1 k_ h_.symm) (fun h_ => h_.elim (fun h_ => (Kd.R_mono (ok' := fun k_ => (fun _ => True) k_ ∧ some k_ ≠ (aQ : Value).ownBlock) (Kd.R_apart' bY.o (Kd.S_typed aE.o) (by decide)) (fun k_ hk => ⟨trivial, hk.2⟩)).1 k_ h_.symm) (fun h_ => (Kd.R_mono (ok' := fun k_ => (fun _ => True) k_ ∧ some k_ ≠ (aQ : Value).ownBlock) (Kd.R_apart' bZ.o (Kd.S_typed aE.o) (by decide)) (fun k_ hk => ⟨trivial, hk.2⟩)).1 k_ h_.symm))) ?aF ?aO ?aB ?aS ?aL ?_
     (case aP => exact k92_mkM _ _ _ (⟨(qAz l0_2 aJ).f0, (⟨(⟨bT, bi⟩ : S69), bU, bV⟩ : S90)⟩ : S92) (Kd.R_mono (Kd.R_tight rfl (Kd.R_mono (ok' := fun k_ => (fun _ => True) k_ ∧ some k_ ≠ (aQ : Value).ownBlock) (Kd.R_apart' bX.o (Kd.S_typed aE.o) (by decide)) (fun k_ hk => ⟨trivial, hk.2⟩))) (fun _ h_ => Or.inl h_)) (Kd.R_mono (Kd.R_tight rfl (Kd.R_mono (ok' := fun k_ => (fun _ => True) k_ ∧ some k_ ≠ (aQ : Value).ownBlock) (Kd.R_apart' bY.o (Kd.S_typed aE.o) (by decide)) (fun k_ hk => ⟨trivial, hk.2⟩))) (fun _ h_ => Or.inr (Or.inl h_))) (Kd.R_mono (Kd.R_tight rfl (Kd.R_mono (ok' := fun k_ => (fun _ => True) k_ ∧ some k_ ≠ (aQ : Value).ownBlock) (Kd.R_apart' bZ.o (Kd.S_typed aE.o) (by decide)) (fun k_ hk => ⟨trivial, hk.2⟩))) (fun _ h_ => Or.inr (Or.inr (h_)))))
     (case aB => exact HB.o)
     (case aF => exact (fun _ _ => trivial))
     (case aO => exact (by exact Kd.S_mono aE.o (fun k_ hk => ⟨trivial, fun e_ => e_.elim (fun h_ => hk.1.1.2 h_) (fun h_ => h_.elim (fun h_ => hk.1.2 h_) (fun h_ => hk.2 h_))⟩)))
     (case aS => exact (qAf HB.o))
     (case aL => have := dR.o; omega)
     intro eo ev ho hb hg d6
     rw [← dU.o] at ho
     have n_ := a2 (Kd.R_over' aD.o (Kd.S_typed aE.o) (by decide) hg) (a2 (qAI (g := a7) (o := .cells #[.string a0_0, .slice bF l0_1.length bB, .slice (some aZ) l0_2.length bC, .slice bE l0_3.length bD] 26 (0, 0)) aA.o hg (Kd.S_ne aE.o aA.o (by decide))) (a2 (qAI (g := aW) (o := .cells #[.string ⟨#[]⟩, .slice none 0 0, .slice none 0 0, .slice none 0 0] 33 (0, 0)) aG.o hg (Kd.S_ne aE.o aG.o (by decide))) (a2 (qAI (g := aU) (o := .cells #[.string a0_0, aT, aQ, .slice none 0 0] 33 (0, 0)) aC.o hg (Kd.S_ne aE.o aC.o (by decide))) (a2 (hb) (am (ho))))))
     clear aD aA aG aC HB aE bX bY bZ
     obtain ⟨aD, aA, aG, aC, HB, ca⟩ := n_
     clear ho hb hg d6
     obtain ⟨ch, ci, eZ⟩ := Kd.S_slice ca.o
     (subst eZ)
     refine hK.o _ _ ⟨(qAn aC.o 0).trans rfl, (qAn aC.o 1).trans rfl, (qAn aC.o 2).trans rfl, (qAn aC.o 3).trans rfl, (qAn aA.o 0).trans rfl, (qAn aA.o 1).trans rfl, (qAn aA.o 2).trans rfl, (qAn aA.o 3).trans rfl, ((HB.o.cell (World.block_lt_of_cell? w _ hw171_0)).trans hw171_0), ((HB.o.cell (World.block_lt_of_cell? w _ hw171_1)).trans hw171_1), ((HB.o.cell (World.block_lt_of_cell? w _ hw171_2)).trans hw171_2), ((HB.o.cell (World.block_lt_of_cell? w _ hw171_3)).trans hw171_3), ((HB.o.cell (World.block_lt_of_cell? w _ hw171_4)).trans hw171_4), ((HB.o.cell (World.block_lt_of_cell? w _ hw172_0)).trans hw172_0), ((HB.o.cell (World.block_lt_of_cell? w _ hw172_1)).trans hw172_1), ((HB.o.cell (World.block_lt_of_cell? w _ hw172_2)).trans hw172_2), ((HB.o.cell (World.block_lt_of_cell? w _ hw172_3)).trans hw172_3), ((HB.o.cell (World.block_lt_of_cell? w _ hw172_4)).trans hw172_4)⟩ (fun hHeld => ?_)
     clear hK K
     refine nm ?_
     refine pu 18 61 (mK 20 524287) (qBc HT_.o (by kernel_rfl)) ?_
     refine last_ (i := 19) (N := none) (mK 20 1048575) rfl rfl (qB6 HT_.o (by kernel_rfl)) (by decide) (fun K hK => ?_)
     have hfs37 := qAx aC.o 2
     refine skip_ (w1 := ?_) (by rfl) rfl ?_ ?_
     rotate_left
     ·go_simp
      rfl
     refine hK.o _ _ ?_
     clear hK K
     refine done_ (qDn HT_.o (by kernel_rfl)) ?_
     try go_wp2
     go_roundg k2
     case measure => have := dG.o; have := d7.o; omega
     case rel => exact ⟨(wrap64 (aJ + 1)), (br), (.slice ch br.length ci), (by rfl), H', ⟨by have := dG.o; have := d7.o; omega⟩, ⟨by exact Kd.R_mono (Kd.R_far (p := ⟨aU, 2, none⟩) (Kd.R_types aD.o aC.o (by decide)) (fun _ hk => hk.2) (.slice ch br.length ci)) (fun _ hk => trivial)⟩, ⟨by exact Kd.S_mono (Kd.S_far (p := ⟨aU, 2, none⟩) (Kd.S_types ca.o aC.o (by decide)) (fun _ hk => hk.2) (.slice ch br.length ci)) (fun _ hk => trivial)⟩, ⟨by refine qA2 ?_ a6.o _; exact aA.o⟩, ⟨by refine qA2 ?_ a4.o _; exact aG.o⟩, ⟨by refine qA5 (cs := #[.string a0_0, aT, aQ, .slice none 0 0]) ?_ 2 _ rfl; exact aC.o⟩, ⟨by repeat (with_reducible first | exact HB.o | refine qA1 ?_ bW.o)⟩⟩
end Q
end
section
namespace Q
open Go.RowKit PA PC PB
open Val Ins
def ofRI (x : S172) : S144 := ⟨x.f0, x.f1, x.f2⟩
def ofRV (x : S95) : S85 := ⟨x.f0, x.f1⟩
def ofRN (x : S100) : S92 := ⟨x.f0, ⟨⟨x.f1.f0.f0, x.f1.f0.f1⟩, x.f1.f1, x.f1.f2.map ofRI⟩⟩
def ofRR (x : S103) : S104 := ⟨x.f0, x.f1, x.f2, x.f3, x.f4⟩
theorem to_ofI (l : List S172) : (l.map ofRI).map toRI = l := by rw [List.map_map]; exact List.map_id l
theorem to_ofV (l : List S95) : (l.map ofRV).map toRV = l := by rw [List.map_map]; exact List.map_id l
theorem to_ofR (l : List S103) : (l.map ofRR).map toRR = l := by rw [List.map_map]; exact List.map_id l
theorem to_ofN (l : List S100) : (l.map ofRN).map toRN = l := by
 rw [List.map_map]
 have : (toRN ∘ ofRN) = id := by
  funext x
  show toRN (ofRN x) = x
  unfold toRN ofRN
  simp only [to_ofI]
 rw [this, List.map_id]
theorem ownfn_ev (a : List Int) (b : Int) (c : List Int) (d : List S172) (ha : a.length ≤ 1048576) (hc : c.length ≤ 1048576) (hd : d.length ≤ 1048576) : Ev (fun k => qAu.f k a b c d) (a, b, c, d.map ofRI) := by
 have loop : ∀ (n : Nat) (i : Int) (acc : List S144), 0 ≤ i → (d.length : Int) - i = n → acc.length ≤ i → Ev (fun k => qAu.l0 k i a b c d a b c acc) (a, b, c, acc ++ (d.drop i.toNat).map ofRI) := by
  intro n
  induction n with
  | zero =>
   intro i acc h0 hn hacc
   rw [List.drop_eq_nil_of_le (by omega), List.map_nil, List.append_nil]
   refine Ev.step (f := fun _ => some (a, b, c, acc)) (fun k => ?_) (Ev.now _)
   simp only [qAu.l0]
   rw [if_neg (by omega)]
  | succ n ih =>
   intro i acc h0 hn hacc
   have hw := qB1 (n := d.length) h0 (by omega) (by omega)
   have hrec := ih (i + 1) (acc ++ [ofRI (qAv d i)]) (by omega) (by omega) (by rw [List.length_append]; simp; omega)
   rw [qAV d z172 i h0 (by omega), List.map_cons]
   rw [List.append_assoc] at hrec
   refine Ev.step (fun k => ?_) hrec
   simp only [qAu.l0]
   rw [if_pos (by omega), if_pos h0, if_pos (by omega), hw]
   rfl
 have h := loop d.length 0 [] (by omega) (by omega) (by simp)
 refine Ev.congr (fun k => ?_) h
 unfold qAu.f
 rw [Option.bind_some, if_pos (by simp; omega), Option.bind_some, if_pos (by simp; omega), List.nil_append, List.nil_append]
section
variable (m : ByteArray) (vs : List S95) (fs : List S100) (rs : List S103)
theorem own2_ev (hr : rs.length ≤ 1048576) (V : List S85) (F : List S92) : ∀ (n : Nat) (i : Int) (acc : List S104), 0 ≤ i → (rs.length : Int) - i = n → acc.length ≤ i → Ev (fun k => qAq.l2 k i m vs fs rs m V F acc) (m, V, F, acc ++ (rs.drop i.toNat).map ofRR) := by
 intro n
 induction n with
 | zero =>
  intro i acc h0 hn hacc
  rw [List.drop_eq_nil_of_le (by omega), List.map_nil, List.append_nil]
  refine Ev.step (f := fun _ => some (m, V, F, acc)) (fun k => ?_) (Ev.now _)
  simp only [qAq.l2]
  rw [if_neg (by omega)]
 | succ n ih =>
  intro i acc h0 hn hacc
  have hw := qB1 (n := rs.length) h0 (by omega) (by omega)
  have hrec := ih (i + 1) (acc ++ [ofRR (qAj rs i)]) (by omega) (by omega) (by rw [List.length_append]; simp; omega)
  rw [qAV rs z103 i h0 (by omega), List.map_cons]
  rw [List.append_assoc] at hrec
  refine Ev.step (fun k => ?_) hrec
  simp only [qAq.l2]
  rw [if_pos (by omega), if_pos h0, if_pos (by omega), hw]
  rfl
theorem own1_ev (hr : rs.length ≤ 1048576) (hf : fs.length ≤ 1048576) (hx : ∀ x ∈ fs, x.f1.f0.f0.length ≤ 1048576 ∧ x.f1.f1.length ≤ 1048576 ∧ x.f1.f2.length ≤ 1048576) (V : List S85) : ∀ (n : Nat) (i : Int) (acc : List S92), 0 ≤ i → (fs.length : Int) - i = n → acc.length ≤ i → Ev (fun k => qAq.l1 k i m vs fs rs m V acc) (m, V, acc ++ (fs.drop i.toNat).map ofRN, rs.map ofRR) := by
 intro n
 induction n with
 | zero =>
  intro i acc h0 hn hacc
  rw [List.drop_eq_nil_of_le (by omega), List.map_nil, List.append_nil]
  have h := own2_ev m vs fs rs hr V acc rs.length 0 [] (by omega) (by omega) (by simp)
  refine Ev.step (fun k => ?_) h
  simp only [qAq.l1]
  rw [if_neg (by omega)]
 | succ n ih =>
  intro i acc h0 hn hacc
  have hw := qB1 (n := fs.length) h0 (by omega) (by omega)
  have hmem : qAz fs i ∈ fs := qCc fs z100 i h0 (by omega)
  obtain ⟨x0, x1, x2⟩ := hx _ hmem
  have hrec := ih (i + 1) (acc ++ [ofRN (qAz fs i)]) (by omega) (by omega) (by rw [List.length_append]; simp; omega)
  rw [qAV fs z100 i h0 (by omega), List.map_cons]
  rw [List.append_assoc] at hrec
  refine Ev.step (f := fun k => (qAu.f k ((qAz fs i).f1.f0.f0) ((qAz fs i).f1.f0.f1) ((qAz fs i).f1.f1) ((qAz fs i).f1.f2)).bind fun t => qAq.l1 k (i + 1) m vs fs rs m V (acc ++ [⟨(qAz fs i).f0, ⟨⟨t.1, t.2.1⟩, t.2.2.1, t.2.2.2⟩⟩])) (fun k => ?_) (Ev.bind (ownfn_ev _ _ _ _ x0 x1 x2) hrec)
  simp only [qAq.l1]
  rw [if_pos (by omega), if_pos h0, hw]
  have : acc.length < 1466015503701 := by omega
  simp only [if_pos this]
theorem own0_ev (hr : rs.length ≤ 1048576) (hf : fs.length ≤ 1048576) (hv : vs.length ≤ 1048576) (hx : ∀ x ∈ fs, x.f1.f0.f0.length ≤ 1048576 ∧ x.f1.f1.length ≤ 1048576 ∧ x.f1.f2.length ≤ 1048576) : ∀ (n : Nat) (i : Int) (acc : List S85), 0 ≤ i → (vs.length : Int) - i = n → acc.length ≤ i → Ev (fun k => qAq.l0 k i m vs fs rs m acc) (m, acc ++ (vs.drop i.toNat).map ofRV, fs.map ofRN, rs.map ofRR) := by
 intro n
 induction n with
 | zero =>
  intro i acc h0 hn hacc
  rw [List.drop_eq_nil_of_le (by omega), List.map_nil, List.append_nil]
  have h := own1_ev m vs fs rs hr hf hx acc fs.length 0 [] (by omega) (by omega) (by simp)
  refine Ev.step (fun k => ?_) h
  simp only [qAq.l0]
  rw [if_neg (by omega)]
 | succ n ih =>
  intro i acc h0 hn hacc
  have hw := qB1 (n := vs.length) h0 (by omega) (by omega)
  have hrec := ih (i + 1) (acc ++ [ofRV (qBq vs i)]) (by omega) (by omega) (by rw [List.length_append]; simp; omega)
  rw [qAV vs z95 i h0 (by omega), List.map_cons]
  rw [List.append_assoc] at hrec
  refine Ev.step (fun k => ?_) hrec
  simp only [qAq.l0]
  rw [if_pos (by omega), if_pos h0, if_pos (by omega), hw]
  rfl
theorem own_ev (hr : rs.length ≤ 1048576) (hf : fs.length ≤ 1048576) (hv : vs.length ≤ 1048576) (hx : ∀ x ∈ fs, x.f1.f0.f0.length ≤ 1048576 ∧ x.f1.f1.length ≤ 1048576 ∧ x.f1.f2.length ≤ 1048576) : Ev (fun k => qAq.f k m vs fs rs) (m, vs.map ofRV, fs.map ofRN, rs.map ofRR) :=
 own0_ev m vs fs rs hr hf hv hx vs.length 0 [] (by omega) (by omega) (by simp)
theorem u64_bounds {n : Int} (h : (Lit.int .u64 n).wf = true) : 0 ≤ n ∧ n < 18446744073709551616 := by
 simp [Lit.wf, IntKind.min, IntKind.max, IntKind.bits, IntKind.signed] at h
 omega
theorem own_good (g : qBT 1048576 ⟨m, vs, fs, rs⟩) : qDl m (vs.map ofRV) (fs.map ofRN) (rs.map ofRR) := by
 obtain ⟨gm, ⟨gvl, gv⟩, ⟨gfl, gf⟩, ⟨grl, gr⟩⟩ := g
 simp only at gm gvl gv gfl gf grl gr
 refine ⟨?_, ?_, ?_, ?_, ?_, ?_, ?_⟩
 ·show m.size ≤ _; omega
 ·rw [List.length_map]; omega
 ·intro x hx
  obtain ⟨y, hy, rfl⟩ := List.mem_map.1 hx
  obtain ⟨h0, h1, h2⟩ := gv y hy
  have := u64_bounds h2
  refine ⟨?_, this.1, this.2⟩
  show y.f0.size ≤ _; omega
 ·rw [List.length_map]; omega
 ·intro x hx
  obtain ⟨y, hy, rfl⟩ := List.mem_map.1 hx
  obtain ⟨h0, ⟨⟨h1, _⟩, _⟩, ⟨h2, _⟩, ⟨h3, h4⟩⟩ := gf y hy
  refine ⟨?_, ?_, ?_, ?_, ?_⟩
  ·show y.f0.size ≤ _; omega
  ·show y.f1.f0.f0.length ≤ _; omega
  ·show y.f1.f1.length ≤ _; omega
  ·show (y.f1.f2.map ofRI).length ≤ _; rw [List.length_map]; omega
  show (y.f1.f2.map ofRI).all u64S = true
  rw [List.all_eq_true]
  intro z hz
  obtain ⟨u, hu, rfl⟩ := List.mem_map.1 hz
  exact decide_eq_true (u64_bounds (h4 u hu).2.2.2)
 ·rw [List.length_map]; omega
 intro x hx
 obtain ⟨y, hy, rfl⟩ := List.mem_map.1 hx
 obtain ⟨_, _, _, h3, h4⟩ := gr y hy
 exact ⟨by show y.f3.size ≤ _; omega, by show y.f4.size ≤ _; omega⟩
end
end Q
end
section
namespace Q
open Go.RowKit PA PC PB
attribute [local go_sem] qAX min2_int qBi min_two max_three min_three max_four min_four
def qAH.l0 : Nat → List Int → List Int → Int → Option (List Int)
 | 0, _, _, _ => none
 | k + 1, x0, x3, x4 => if x4 < (x0.length : Int) then (if 0 ≤ x4 then (if x3.length < 140737488355328 then (qAH.l0 k x0 (x3 ++ [(rd x0 x4) % 256]) (wrap64 (x4 + 1))) else (none)) else (none)) else (some x3)
def qAH.f (k : Nat) (l0 : List Int) : Option (List Int) := qAH.l0 k l0 (([((l0.length : Int)) % 256] : List Int)) 0
theorem qAH.calls (k : Nat) (A0 : Option Addr) (c0 : Nat) (l0 : List Int) (r : List Int) (w : World) (hr0 : Kd.C (Kd.int .i64) w A0 l0.length l0) (hc0 : l0.length ≤ c0) (h : qAH.f k l0 = some r) :
  Calls Tryz.prog 117 #[.slice A0 l0.length c0] w fun e w' => ∃ v0_ : Value, e = .returned (v0_) ∧ Kd.R (Kd.int .u8) 5 w' w.heap.size (fun _ => True) v0_ r ∧ Below w.heap.size w w' := by
 have a1 := am hr0
 have a7 := am hc0
 clear hr0 hc0
 have HB := am (Below.refl w.heap.size w)
 have H : (qAH.l0 k l0 (([((l0.length : Int)) % 256] : List Int)) 0) = some r := h
 clear h
 obtain ⟨aT, aD⟩ : ∃ y_ : List Int, y_ = (([((l0.length : Int)) % 256] : List Int)) := ⟨_, rfl⟩
 replace H : (qAH.l0 k l0 aT 0) = some r := by first | (rw [aD]; with_reducible exact H) | (have H2_ := (Option.bind_some _ _).symm.trans H; rw [aD]; with_reducible exact H2_) | (have H2_ := (Option.bind_some _ _).symm.trans H; with_reducible exact H2_) | with_reducible exact H | (rw [aD]; exact H) | exact H
 have aH := am aD
 clear aD
 have H' := am H
 clear H
 go_enter Tryz.func117, Tryz.ntmps117
 go_wp2_with (first | ((with_reducible refine qAK (N := 8) rfl ?_); refine Kd.R_lit (Kd.int .u8) _ 5 ?hg (N := 8) ?hd (xs := ([((l0.length : Int)) % 256] : List Int)) (inner := [.int .u8 (((l0.length : Int)) % 256)]) (ok := fun _ => True) (okp := fun _ => True) ?hr ?hp (fun _ hk => hk) trivial (Below.refl _ _) (Nat.le_refl _) (by simp) ?_; (case hd => rfl); (case hg => rfl); (case hr => first | (go_simp; done) | (go_simp; rfl)); (case hp => exact (Reps.one (show Kd.M (Kd.int .u8) _ _ _ (((l0.length : Int)) % 256) [.int .u8 (((l0.length : Int)) % 256)] from rfl) (Reps.none _ _))); intro a5 w2 aR hb hg_ hnew_; clear hg_ hnew_; (first | rw [← aH.o] at aR | (simp only [Int.reduceToNat] at aR; rw [← aH.o] at aR)); have n0_ := am (Kd.R_lower aR (qAf (by repeat (first | (with_reducible first | exact HB.o | apply qA3 | apply qAl | apply qAM) | exact HB.o)))); have n1_ := am (qAe (by repeat (first | (with_reducible first | exact HB.o | apply qA3 | apply qAl | apply qAM) | exact HB.o)) hb); clear HB; have aM := n0_; have HB := n1_; clear n0_ n1_; clear hb aR))
 go_loopg [3, 4] k (fun kq v3 v4 w' => ∃ (aG : List Int) (aA : Int), v4 = .int .i64 aA ∧ qAa (qAH.l0 kq l0 aG aA = some r) ∧ qAa (kq ≤ k) ∧ qAa (Kd.R (Kd.int .u8) 5 w' w.heap.size (fun _ => True) v3 aG) ∧ qAa (Below w.heap.size w w'))
 case atStart => exact ⟨(aT), (0), (by first | rfl | (simp; done) | (simp [*]; done)), H', ⟨Nat.le_refl _⟩, ⟨by (with_reducible repeat (first | apply Kd.R_alloc | apply Kd.R_drewN | apply Kd.R_drew)); exact aM.o⟩, ⟨by repeat (first | (with_reducible first | exact HB.o | apply qA3 | apply qAl | apply qAM) | exact HB.o)⟩⟩
 case round =>
  clear H'
  obtain ⟨aG, aA, rfl, HA, aY, aI, HB⟩ := hrel
  cases gk with
  | zero => exact absurd HA.o (by simp [qAH.l0])
  | succ k1 =>
   have H := HA.o
   clear HA
   simp only [qAH.l0] at H
   by_cases c4 : aA < (l0.length : Int)
   rotate_left
   ·rw [if_neg c4] at H
    replace c4 := d0 c4
    obtain rfl := Option.some.inj H
    go_wp2
    go_ret
    exact ⟨_, by first | rfl | (simp [errW_none, errW_some] <;> rfl) | (simp [*, errW_none, errW_some] <;> rfl), by (with_reducible repeat (first | apply Kd.R_alloc | apply Kd.R_drewN | apply Kd.R_drew)); exact aI.o, by repeat (first | (with_reducible first | exact HB.o | apply qA3 | apply qAl | apply qAM) | exact HB.o)⟩
   rw [if_pos c4] at H
   replace c4 := d1 c4
   obtain ⟨c5, H⟩ := gd H
   replace c5 := d1 c5
   obtain ⟨c6, H⟩ := gd H
   have aV := am c6
   clear c6
   obtain ⟨aU, aE⟩ : ∃ y_ : List Int, y_ = (aG ++ [(rd l0 aA) % 256]) := ⟨_, rfl⟩
   replace H : (qAH.l0 k1 l0 aU (wrap64 (aA + 1))) = some r := by first | (rw [aE]; with_reducible exact H) | (have H2_ := (Option.bind_some _ _).symm.trans H; rw [aE]; with_reducible exact H2_) | (have H2_ := (Option.bind_some _ _).symm.trans H; with_reducible exact H2_) | with_reducible exact H | (rw [aE]; exact H) | exact H
   have aQ := am aE
   clear aE
   have H' := am H
   clear H
   have aJ : 0 ≤ (aA : Int) := of_decide_eq_true (by first | (with_reducible assumption) | assumption)
   have aK : aA < (l0.length : Int) := of_decide_eq_true (by first | (with_reducible assumption) | assumption)
   obtain ⟨aZ, aX, aC⟩ := Kd.at_int a1.o aA aJ aK
   cases aX
   replace aC := (HB.o.cell (World.block_lt_of_cell? w _ aC)).trans aC
   replace aJ := eq_true aJ
   replace aK := eq_true aK
   go_wp2_with (first | ((with_reducible refine qAP (b := .append) (xs := #[.tmp 15, .tmp 21]) rfl ?_); at_builtin; refine Kd.R_append (Kd.int .u8) (w0 := w) w.heap.size rfl (.tmp 15) (.tmp 21) 38 5 (.int .u8 0) 1 rfl Tryz.underlying38 qCi rfl (by decide) (by omega) u3 aG ((rd l0 aA) % 256) [.int .u8 ((rd l0 aA) % 256)] (fun _ => True) (fun _ => False) rfl rfl ?aP (fun _ hk => hk.elim) ?aF ?aO ?aB ?aS ?aL ?_; (case aP => exact rfl); (case aB => exact (by repeat (first | (with_reducible first | exact HB.o | apply qA3 | apply qAl | apply qAM) | exact HB.o))); (case aF => exact (fun _ _ => trivial)); (case aO => exact (by (with_reducible repeat (first | apply Kd.R_alloc | apply Kd.R_drewN | apply Kd.R_drew)); exact aI.o)); (case aS => exact (qAf (by repeat (first | (with_reducible first | exact HB.o | apply qA3 | apply qAl | apply qAM) | exact HB.o)))); (case aL => have := aV.o; omega); intro a6 w7 ho hb hg a4; rw [← aQ.o] at ho; have n0_ := am (hb); have n1_ := am (ho); clear HB; clear aI; have HB := n0_; have aN := n1_; clear n0_ n1_; clear ho hb hg a4))
   go_roundg k1
   case measure => have := aY.o; omega
   case rel => exact ⟨(aU), (wrap64 (aA + 1)), (by first | rfl | (simp; done) | (simp [*]; done)), H', ⟨by have := aY.o; omega⟩, ⟨by (with_reducible repeat (first | apply Kd.R_alloc | apply Kd.R_drewN | apply Kd.R_drew)); exact aN.o⟩, ⟨by repeat (first | (with_reducible first | exact HB.o | apply qA3 | apply qAl | apply qAM) | exact HB.o)⟩⟩
def qAs.j0 : Nat → Int → Bool → Option (Int)
 | 0, _, _ => none
 | k + 1, x3, x4 => if x4 = true then (some 1) else (if x3 = 4 then (some 2) else (if x3 = 5 then (some 2) else (if x3 = 8 then (some 2) else (if x3 = 9 then (some 2) else (if x3 = 10 then (some 2) else (if x3 = 15 then (some 2) else (some 0)))))))
def qAs.f (k : Nat) (a0 : Int) : Option (Int) := if a0 = 2 then (qAs.j0 k a0 (a0 == 2)) else (if a0 = 3 then (qAs.j0 k a0 (a0 == 3)) else (if a0 = 6 then (qAs.j0 k a0 (a0 == 6)) else (qAs.j0 k a0 (a0 == 7))))
theorem qAs.calls (k : Nat) (a0 : Int) (r : Int) (w : World) (h : qAs.f k a0 = some r) :
  Calls Tryz.prog 152 #[.int .i64 a0] w fun e w' => e = .returned (.int .i64 r) ∧ qAS w w' := by
 have H : (if a0 = 2 then (qAs.j0 k a0 (a0 == 2)) else (if a0 = 3 then (qAs.j0 k a0 (a0 == 3)) else (if a0 = 6 then (qAs.j0 k a0 (a0 == 6)) else (qAs.j0 k a0 (a0 == 7))))) = some r := h
 clear h
 have aP := am H
 clear H
 go_enter Tryz.func152, Tryz.ntmps152
 go_upto_if 4 with (fail)
 go_cut [4] (fun v4 wc => ∃ (kq : Nat) (aB : Bool), v4 = .bool aB ∧ qAa (qAs.j0 kq a0 aB = some r) ∧ qAa (kq ≤ k) ∧ qAS w wc)
 case first =>
  have H := aP.o
  clear aP
  by_cases c3 : a0 = 2
  ·rw [if_pos c3] at H
   have aA : (a0 == 2) = true := beq_iff_eq.mpr c3
   have aK : (a0 != 2) = false := bn c3
   clear c3
   (first | rw [aA] | (simp only [i64_w, i32_w]; rw [aA]) | skip)
   have H' := am H
   clear H
   go_wp2
   go_meet
   case rel => exact ⟨_, ((a0 == 2)), (by first | rfl | (simp; done) | (simp [*]; done)), H', ⟨by first | omega | exact Nat.le_refl _⟩, by repeat (first | exact qAS.refl _ | apply qAS.step)⟩
  rw [if_neg c3] at H
  have aA : (a0 == 2) = false := bf c3
  have aK : (a0 != 2) = true := bne_iff_ne.mpr c3
  (first | rw [aA] | (simp only [i64_w, i32_w]; rw [aA]) | skip)
  by_cases c4 : a0 = 3
  ·rw [if_pos c4] at H
   have aL : (a0 == 3) = true := beq_iff_eq.mpr c4
   have aM : (a0 != 3) = false := bn c4
   clear c4
   have H' := am H
   clear H
   go_wp2
   go_meet
   case rel => exact ⟨_, ((a0 == 3)), (by first | rfl | (simp; done) | (simp [*]; done)), H', ⟨by first | omega | exact Nat.le_refl _⟩, by repeat (first | exact qAS.refl _ | apply qAS.step)⟩
  rw [if_neg c4] at H
  have aL : (a0 == 3) = false := bf c4
  have aM : (a0 != 3) = true := bne_iff_ne.mpr c4
  by_cases c5 : a0 = 6
  rotate_left
  ·rw [if_neg c5] at H
   have aN : (a0 == 6) = false := bf c5
   have aO : (a0 != 6) = true := bne_iff_ne.mpr c5
   have H' := am H
   clear H
   go_wp2
   go_meet
   case rel => exact ⟨_, ((a0 == 7)), (by first | rfl | (simp; done) | (simp [*]; done)), H', ⟨by first | omega | exact Nat.le_refl _⟩, by repeat (first | exact qAS.refl _ | apply qAS.step)⟩
  rw [if_pos c5] at H
  have aN : (a0 == 6) = true := beq_iff_eq.mpr c5
  have aO : (a0 != 6) = false := bn c5
  clear c5
  have H' := am H
  clear H
  go_wp2
  go_meet
  case rel => exact ⟨_, ((a0 == 6)), (by first | rfl | (simp; done) | (simp [*]; done)), H', ⟨by first | omega | exact Nat.le_refl _⟩, by repeat (first | exact qAS.refl _ | apply qAS.step)⟩
 case rest =>
  clear aP
  obtain ⟨kq, aB, rfl, HA, aW, ⟨mc1, rfl⟩⟩ := hcut
  cases kq with
  | zero => exact absurd HA.o (by simp [qAs.j0])
  | succ aX =>
   have H := HA.o
   clear HA
   simp only [qAs.j0] at H
   by_cases c6 : aB = true
   ·subst c6
    replace H : (some 1) = some r := by rw [if_pos rfl] at H; exact H
    obtain rfl := Option.some.inj H
    go_wp2
    go_ret
    exact ⟨by first | rfl | (simp; done) | (simp [*]; done), by repeat (first | exact qAS.refl _ | apply qAS.step)⟩
   replace c6 := Bool.eq_false_iff.mpr c6
   subst c6
   replace H : (if a0 = 4 then (some 2) else (if a0 = 5 then (some 2) else (if a0 = 8 then (some 2) else (if a0 = 9 then (some 2) else (if a0 = 10 then (some 2) else (if a0 = 15 then (some 2) else (some 0))))))) = some r := by rw [if_neg (show ¬ (false = true) by decide)] at H; exact H
   by_cases c7 : a0 = 4
   ·rw [if_pos c7] at H
    have aQ : (a0 == 4) = true := beq_iff_eq.mpr c7
    have aR : (a0 != 4) = false := bn c7
    clear c7
    obtain rfl := Option.some.inj H
    go_wp2
    go_ret
    exact ⟨by first | rfl | (simp; done) | (simp [*]; done), by repeat (first | exact qAS.refl _ | apply qAS.step)⟩
   rw [if_neg c7] at H
   have aQ : (a0 == 4) = false := bf c7
   have aR : (a0 != 4) = true := bne_iff_ne.mpr c7
   by_cases c8 : a0 = 5
   ·rw [if_pos c8] at H
    have aS : (a0 == 5) = true := beq_iff_eq.mpr c8
    have aT : (a0 != 5) = false := bn c8
    clear c8
    obtain rfl := Option.some.inj H
    go_wp2
    go_ret
    exact ⟨by first | rfl | (simp; done) | (simp [*]; done), by repeat (first | exact qAS.refl _ | apply qAS.step)⟩
   rw [if_neg c8] at H
   have aS : (a0 == 5) = false := bf c8
   have aT : (a0 != 5) = true := bne_iff_ne.mpr c8
   by_cases c9 : a0 = 8
   ·rw [if_pos c9] at H
    have aU : (a0 == 8) = true := beq_iff_eq.mpr c9
    have aV : (a0 != 8) = false := bn c9
    clear c9
    obtain rfl := Option.some.inj H
    go_wp2
    go_ret
    exact ⟨by first | rfl | (simp; done) | (simp [*]; done), by repeat (first | exact qAS.refl _ | apply qAS.step)⟩
   rw [if_neg c9] at H
   have aU : (a0 == 8) = false := bf c9
   have aV : (a0 != 8) = true := bne_iff_ne.mpr c9
   by_cases c10 : a0 = 9
   ·rw [if_pos c10] at H
    have aE : (a0 == 9) = true := beq_iff_eq.mpr c10
    have aF : (a0 != 9) = false := bn c10
    clear c10
    obtain rfl := Option.some.inj H
    go_wp2
    go_ret
    exact ⟨by first | rfl | (simp; done) | (simp [*]; done), by repeat (first | exact qAS.refl _ | apply qAS.step)⟩
   rw [if_neg c10] at H
   have aE : (a0 == 9) = false := bf c10
   have aF : (a0 != 9) = true := bne_iff_ne.mpr c10
   by_cases aC : a0 = 10
   ·rw [if_pos aC] at H
    have aG : (a0 == 10) = true := beq_iff_eq.mpr aC
    have aH : (a0 != 10) = false := bn aC
    clear aC
    obtain rfl := Option.some.inj H
    go_wp2
    go_ret
    exact ⟨by first | rfl | (simp; done) | (simp [*]; done), by repeat (first | exact qAS.refl _ | apply qAS.step)⟩
   rw [if_neg aC] at H
   have aG : (a0 == 10) = false := bf aC
   have aH : (a0 != 10) = true := bne_iff_ne.mpr aC
   by_cases aD : a0 = 15
   rotate_left
   ·rw [if_neg aD] at H
    have aI : (a0 == 15) = false := bf aD
    have aJ : (a0 != 15) = true := bne_iff_ne.mpr aD
    obtain rfl := Option.some.inj H
    go_wp2
    go_ret
    exact ⟨by first | rfl | (simp; done) | (simp [*]; done), by repeat (first | exact qAS.refl _ | apply qAS.step)⟩
   rw [if_pos aD] at H
   have aI : (a0 == 15) = true := beq_iff_eq.mpr aD
   have aJ : (a0 != 15) = false := bn aD
   clear aD
   obtain rfl := Option.some.inj H
   go_wp2
   go_ret
   exact ⟨by first | rfl | (simp; done) | (simp [*]; done), by repeat (first | exact qAS.refl _ | apply qAS.step)⟩
def qAD.l0 : Nat → List Int → Int → Int → Int → Int → Int → Option (List Int)
 | 0, _, _, _, _, _, _ => none
 | k + 1, x3, x4, a9, aa, ab, aU => if x4 ≥ 0 then (if 0 ≤ (IntKind.u64.wrap (x4)) then (if x3.length < 140737488355328 then (qAD.l0 k (x3 ++ [(shr .u64 aU (IntKind.u64.wrap (x4))) % 256]) (wrap64 (x4 - 8)) a9 aa ab aU) else (none)) else (none)) else (some x3)
def qAD.f (k : Nat) (a0_0 : Int) (a0_1 : Int) (a0_2 : Int) (a0_3 : Int) : Option (List Int) := (some (([(a0_0) % 256] : List Int) : List Int)).bind fun aC => (if a0_0 = 1 then (if aC.length < 140737488355328 then (qAD.l0 k (aC ++ [(a0_2) % 256]) 56 a0_0 a0_1 a0_2 a0_3) else (none)) else ((qAs.f k a0_0).bind fun aI => (if aI = 2 then (if aC.length < 140737488355328 then ((some (aC ++ [(a0_1 / 256) % 256] : List Int)).bind fun aD => ((qAs.f k a0_0).bind fun aH => (if aH > 0 then (if aD.length < 140737488355328 then (some (aD ++ [(a0_1) % 256])) else (none)) else (some aD)))) else (none)) else ((qAs.f k a0_0).bind fun aJ => (if aJ > 0 then (if aC.length < 140737488355328 then (some (aC ++ [(a0_1) % 256])) else (none)) else (some aC))))))
theorem qAD.calls (k : Nat) (a0_0 : Int) (a0_1 : Int) (a0_2 : Int) (a0_3 : Int) (r : List Int) (w : World) (h : qAD.f k a0_0 a0_1 a0_2 a0_3 = some r) :
  Calls Tryz.prog 153 #[.agg #[.int .i64 a0_0, .int .i64 a0_1, .int .i64 a0_2, .int .u64 a0_3]] w fun e w' => ∃ v0_ : Value, e = .returned (v0_) ∧ Kd.R (Kd.int .u8) 5 w' w.heap.size (fun _ => True) v0_ r ∧ Below w.heap.size w w' := by
 have HB := am (Below.refl w.heap.size w)
 have H : ((some (([(a0_0) % 256] : List Int) : List Int)).bind fun aC => (if a0_0 = 1 then (if aC.length < 140737488355328 then (qAD.l0 k (aC ++ [(a0_2) % 256]) 56 a0_0 a0_1 a0_2 a0_3) else (none)) else ((qAs.f k a0_0).bind fun aI => (if aI = 2 then (if aC.length < 140737488355328 then ((some (aC ++ [(a0_1 / 256) % 256] : List Int)).bind fun aD => ((qAs.f k a0_0).bind fun aH => (if aH > 0 then (if aD.length < 140737488355328 then (some (aD ++ [(a0_1) % 256])) else (none)) else (some aD)))) else (none)) else ((qAs.f k a0_0).bind fun aJ => (if aJ > 0 then (if aC.length < 140737488355328 then (some (aC ++ [(a0_1) % 256])) else (none)) else (some aC))))))) = some r := h
 clear h
 obtain ⟨aC, aY⟩ : ∃ y_ : List Int, y_ = ([(a0_0) % 256] : List Int) := ⟨_, rfl⟩
 replace H : (if a0_0 = 1 then (if aC.length < 140737488355328 then (qAD.l0 k (aC ++ [(a0_2) % 256]) 56 a0_0 a0_1 a0_2 a0_3) else (none)) else ((qAs.f k a0_0).bind fun aI => (if aI = 2 then (if aC.length < 140737488355328 then ((some (aC ++ [(a0_1 / 256) % 256] : List Int)).bind fun aD => ((qAs.f k a0_0).bind fun aH => (if aH > 0 then (if aD.length < 140737488355328 then (some (aD ++ [(a0_1) % 256])) else (none)) else (some aD)))) else (none)) else ((qAs.f k a0_0).bind fun aJ => (if aJ > 0 then (if aC.length < 140737488355328 then (some (aC ++ [(a0_1) % 256])) else (none)) else (some aC)))))) = some r := by (have H2_ := (Option.bind_some _ _).symm.trans H; rw [aY]; with_reducible exact H2_)
 have aN := am aY
 clear aY
 by_cases c2 : a0_0 = 1
 ·rw [if_pos c2] at H
  have bR : (a0_0 == 1) = true := beq_iff_eq.mpr c2
  have cB : (a0_0 != 1) = false := bn c2
  clear c2
  by_cases c3 : aC.length < 140737488355328
  ·rw [if_pos c3] at H
   have cA := am c3
   clear c3
   obtain ⟨bV, aZ⟩ : ∃ y_ : List Int, y_ = (aC ++ [(a0_2) % 256]) := ⟨_, rfl⟩
   replace H : (qAD.l0 k bV 56 a0_0 a0_1 a0_2 a0_3) = some r := by (rw [aZ]; with_reducible exact H)
   have bK := am aZ
   clear aZ
   have H' := am H
   clear H
   go_enter Tryz.func153, Tryz.ntmps153
   go_wp2_with (first | ((with_reducible refine qAK (N := 1) rfl ?_); refine bx 1 #[.int .i64 a0_0, .int .i64 a0_1, .int .i64 a0_2, .int .u64 a0_3] 172 ?_; intro aG hg w4 hbox hb; have n_ := a2 (qAe HB.o hb) (am (hbox)); clear HB; obtain ⟨HB, aA⟩ := n_; clear hb hbox hg; obtain ⟨ae, af, ag, ah⟩ := c4_ w4 aA.o; obtain ⟨an, ao, ap, aq⟩ := z4_ aA.o) | ((with_reducible refine qAK (N := 8) rfl ?_); refine Kd.R_lit (Kd.int .u8) _ 5 ?hg (N := 8) ?hd (xs := ([(a0_0) % 256] : List Int)) (inner := [.int .u8 ((a0_0) % 256)]) (ok := fun _ => True) (okp := fun _ => True) ?hr ?hp (fun _ hk => hk) trivial (Below.refl _ _) (Nat.le_refl _) (by simp) ?_; (case hd => rfl); (case hg => rfl); (case hr => (go_simp; done)); (case hp => exact (Reps.one (show Kd.M (Kd.int .u8) _ _ _ ((a0_0) % 256) [.int .u8 ((a0_0) % 256)] from rfl) (Reps.none _ _))); intro aQ w6 cD hb hg_ hnew_; clear hg_ hnew_; (rw [← aN.o] at cD); have n_ := a2 (Kd.R_lower cD (qAf HB.o)) (a2 (qAk (g := aG) (o := .cells #[.int .i64 a0_0, .int .i64 a0_1, .int .i64 a0_2, .int .u64 a0_3] 172 (0, 0)) aA.o hb) (am (qAe HB.o hb))); clear aA HB; obtain ⟨aE, aA, HB⟩ := n_; clear hb cD; obtain ⟨ai, aj, ak, al⟩ := c4_ w6 aA.o; obtain ⟨ar, au, av, aw⟩ := z4_ aA.o) | ((with_reducible refine qAP (b := .append) (xs := #[.tmp 12, .tmp 17]) rfl ?_); at_builtin; refine Kd.R_append (Kd.int .u8) (w0 := w) w.heap.size rfl (.tmp 12) (.tmp 17) 38 5 (.int .u8 0) 1 rfl Tryz.underlying38 qCi rfl (by decide) (by omega) aQ aC ((a0_2) % 256) [.int .u8 ((a0_2) % 256)] (fun _ => True) (fun _ => False) rfl rfl ?aP (fun _ hk => hk.elim) ?aF ?aO ?aB ?aS ?aL ?_; (case aP => exact rfl); (case aB => exact HB.o); (case aF => exact (fun _ _ => trivial)); (case aO => exact aE.o); (case aS => exact (qAf HB.o)); (case aL => have := cA.o; omega); intro cL w9 ho hb hg aW; rw [← bK.o] at ho; have n_ := a2 (qAI (g := aG) (o := .cells #[.int .i64 a0_0, .int .i64 a0_1, .int .i64 a0_2, .int .u64 a0_3] 172 (0, 0)) aA.o hg (Kd.R_ne aE.o aA.o (by decide))) (a2 (hb) (am (ho))); clear aA HB aE; obtain ⟨aA, HB, bD⟩ := n_; clear ho hb hg aW))
   go_loopg [3, 4] k (fun kq v3 v4 w' => ∃ (aM : List Int) (aK : Int), v4 = .int .i64 aK ∧ qAa (qAD.l0 kq aM aK a0_0 a0_1 a0_2 a0_3 = some r) ∧ qAa (kq ≤ k) ∧ qAa (Kd.R (Kd.int .u8) 5 w' w.heap.size (fun _ => True) v3 aM) ∧ qAa (w'.heap[aG]? = some (.cells #[.int .i64 a0_0, .int .i64 a0_1, .int .i64 a0_2, .int .u64 a0_3] 172 (0, 0))) ∧ qAa (Below w.heap.size w w'))
   case atStart => exact ⟨(bV), (56), (by rfl), H', ⟨Nat.le_refl _⟩, ⟨by exact bD.o⟩, ⟨by exact aA.o⟩, ⟨by exact HB.o⟩⟩
   case round =>
    clear H'
    obtain ⟨aM, aK, rfl, HA, cI, a8, aA, HB⟩ := hrel
    cases gk with
    | zero => exact absurd HA.o (by simp [qAD.l0])
    | succ k1 =>
     have H := HA.o
     clear HA
     simp only [qAD.l0] at H
     by_cases c10 : aK ≥ 0
     rotate_left
     ·rw [if_neg c10] at H
      replace c10 := d0 c10
      obtain rfl := Option.some.inj H
      go_wp2
      go_ret
      exact ⟨_, by rfl, by exact a8.o, by exact HB.o⟩
     rw [if_pos c10] at H
     replace c10 := d1 c10
     obtain ⟨aR, bT⟩ : ∃ j_ : Int, (IntKind.u64.wrap (aK)) = j_ := ⟨_, rfl⟩
     replace H : (if 0 ≤ (aR) then (if aM.length < 140737488355328 then (qAD.l0 k1 (aM ++ [(shr .u64 a0_3 (aR)) % 256]) (wrap64 (aK - 8)) a0_0 a0_1 a0_2 a0_3) else (none)) else (none)) = some r := by (rw [bT] at H; exact H)
     obtain ⟨bY, H⟩ := gd H
     have cJ := eq_true bY
     clear bY
     obtain ⟨aV, aX⟩ : ∃ j_ : Int, (shr .u64 a0_3 (aR)) = j_ := ⟨_, rfl⟩
     replace H : (if aM.length < 140737488355328 then (qAD.l0 k1 (aM ++ [(aV) % 256]) (wrap64 (aK - 8)) a0_0 a0_1 a0_2 a0_3) else (none)) = some r := by (rw [aX] at H; exact H)
     have hji13_ : (a0_3 / 2 ^ min (aR).toNat 64) = aV := aX
     have cC : (aR) ≤ 64 → (a0_3 / 2 ^ (aR).toNat) = aV := shr_small aX
     obtain ⟨bZ, H⟩ := gd H
     have bH := am bZ
     clear bZ
     obtain ⟨bW, a4⟩ : ∃ y_ : List Int, y_ = (aM ++ [(aV) % 256]) := ⟨_, rfl⟩
     replace H : (qAD.l0 k1 bW (wrap64 (aK - 8)) a0_0 a0_1 a0_2 a0_3) = some r := by (rw [a4]; with_reducible exact H)
     have bL := am a4
     clear a4
     have H' := am H
     clear H
     obtain ⟨-, -, -, b3⟩ := c4_ wr aA.o
     go_wp2_with ((with_reducible refine qAP (b := .append) (xs := #[.tmp 23, .tmp 31]) rfl ?_); at_builtin; refine Kd.R_append (Kd.int .u8) (w0 := w) w.heap.size rfl (.tmp 23) (.tmp 31) 38 5 (.int .u8 0) 1 rfl Tryz.underlying38 qCi rfl (by decide) (by omega) u3 aM ((aV) % 256) [.int .u8 ((aV) % 256)] (fun _ => True) (fun _ => False) rfl rfl ?aP (fun _ hk => hk.elim) ?aF ?aO ?aB ?aS ?aL ?_; (case aP => exact rfl); (case aB => exact HB.o); (case aF => exact (fun _ _ => trivial)); (case aO => exact a8.o); (case aS => exact (qAf HB.o)); (case aL => have := bH.o; omega); intro cM cZ ho hb hg aW; rw [← bL.o] at ho; have n_ := a2 (qAI (g := aG) (o := .cells #[.int .i64 a0_0, .int .i64 a0_1, .int .i64 a0_2, .int .u64 a0_3] 172 (0, 0)) aA.o hg (Kd.R_ne a8.o aA.o (by decide))) (a2 (hb) (am (ho))); clear aA HB a8; obtain ⟨aA, HB, bE⟩ := n_; clear ho hb hg aW)
     go_roundg k1
     case measure => have := cI.o; omega
     case rel => exact ⟨(bW), (wrap64 (aK - 8)), (by rfl), H', ⟨by have := cI.o; omega⟩, ⟨by exact bE.o⟩, ⟨by exact aA.o⟩, ⟨by exact HB.o⟩⟩
  ·rw [if_neg c3] at H
   exact absurd H (by simp)
 ·rw [if_neg c2] at H
  have bR : (a0_0 == 1) = false := bf c2
  replace H := bm H
  obtain ⟨aI, bA, H⟩ := H
  replace H : (if aI = 2 then (if aC.length < 140737488355328 then ((some (aC ++ [(a0_1 / 256) % 256] : List Int)).bind fun aD => ((qAs.f k a0_0).bind fun aH => (if aH > 0 then (if aD.length < 140737488355328 then (some (aD ++ [(a0_1) % 256])) else (none)) else (some aD)))) else (none)) else ((qAs.f k a0_0).bind fun aJ => (if aJ > 0 then (if aC.length < 140737488355328 then (some (aC ++ [(a0_1) % 256])) else (none)) else (some aC)))) = some r := H
  have bX := am bA
  clear bA
  by_cases ax : aI = 2
  ·rw [if_pos ax] at H
   have bP : (aI == 2) = true := beq_iff_eq.mpr ax
   have cK : (aI != 2) = false := bn ax
   clear ax
   by_cases b0 : aC.length < 140737488355328
   ·rw [if_pos b0] at H
    have ac := am b0
    clear b0
    obtain ⟨aD, a5⟩ : ∃ y_ : List Int, y_ = (aC ++ [(a0_1 / 256) % 256]) := ⟨_, rfl⟩
    replace H : ((qAs.f k a0_0).bind fun aH => (if aH > 0 then (if aD.length < 140737488355328 then (some (aD ++ [(a0_1) % 256])) else (none)) else (some aD))) = some r := by (have H2_ := (Option.bind_some _ _).symm.trans H; rw [a5]; with_reducible exact H2_)
    have ad := am a5
    clear a5
    replace H := bm H
    obtain ⟨aH, bB, H⟩ := H
    replace H : (if aH > 0 then (if aD.length < 140737488355328 then (some (aD ++ [(a0_1) % 256])) else (none)) else (some aD)) = some r := H
    have cG := am bB
    clear bB
    by_cases ay : aH > 0
    ·rw [if_pos ay] at H
     replace ay := d1 ay
     by_cases b1 : aD.length < 140737488355328
     ·rw [if_pos b1] at H
      have bI := am b1
      clear b1
      obtain ⟨cE, a6⟩ : ∃ y_ : List Int, y_ = (aD ++ [(a0_1) % 256]) := ⟨_, rfl⟩
      replace H : (some cE) = some r := by (rw [a6]; with_reducible exact H)
      have bM := am a6
      clear a6
      obtain rfl := Option.some.inj H
      go_enter Tryz.func153, Tryz.ntmps153
      go_wp2_with (first | ((with_reducible refine qAK (N := 1) rfl ?_); refine bx 1 #[.int .i64 a0_0, .int .i64 a0_1, .int .i64 a0_2, .int .u64 a0_3] 172 ?_; intro aG hg cP hbox hb; have n_ := a2 (qAe HB.o hb) (am (hbox)); clear HB; obtain ⟨HB, aA⟩ := n_; clear hb hbox hg; have b4 := c1_ cP aA.o; have bk := qAx aA.o 3) | ((with_reducible refine qAK (N := 8) rfl ?_); refine Kd.R_lit (Kd.int .u8) _ 5 ?hg (N := 8) ?hd (xs := ([(a0_0) % 256] : List Int)) (inner := [.int .u8 ((a0_0) % 256)]) (ok := fun _ => True) (okp := fun _ => True) ?hr ?hp (fun _ hk => hk) trivial (Below.refl _ _) (Nat.le_refl _) (by simp) ?_; (case hd => rfl); (case hg => rfl); (case hr => (go_simp; done)); (case hp => exact (Reps.one (show Kd.M (Kd.int .u8) _ _ _ ((a0_0) % 256) [.int .u8 ((a0_0) % 256)] from rfl) (Reps.none _ _))); intro aQ cQ ho26 hb hg_ hnew_; clear hg_ hnew_; (rw [← aN.o] at ho26); have n_ := a2 (Kd.R_lower ho26 (qAf HB.o)) (a2 (qAk (g := aG) (o := .cells #[.int .i64 a0_0, .int .i64 a0_1, .int .i64 a0_2, .int .u64 a0_3] 172 (0, 0)) aA.o hb) (am (qAe HB.o hb))); clear aA HB; obtain ⟨aE, aA, HB⟩ := n_; clear hb ho26; obtain ⟨b5, b6⟩ := c2_ cQ aA.o; have bl := qAx aA.o 3) | ((with_reducible refine qAi (f := 152) rfl ?_); refine gL 36 Tryz.func152 #[.int .i64 a0_0] ?_; (with_reducible refine (qAs.calls k a0_0 aI _ bX.o).mono ?_); rintro e w' ⟨rfl, ⟨nd, rfl⟩⟩; refine ⟨_, rfl, ?_⟩) | ((with_reducible refine qAP (b := .append) (xs := #[.tmp 38, .tmp 43]) rfl ?_); at_builtin; refine Kd.R_append (Kd.int .u8) (w0 := w) w.heap.size rfl (.tmp 38) (.tmp 43) 38 5 (.int .u8 0) 1 rfl Tryz.underlying38 qCi rfl (by decide) (by omega) aQ aC ((a0_1 / 256) % 256) [.int .u8 ((a0_1 / 256) % 256)] (fun _ => True) (fun _ => False) rfl rfl ?aP (fun _ hk => hk.elim) ?aF ?aO ?aB ?aS ?aL ?_; (case aP => exact rfl); (case aB => exact (by repeat (with_reducible first | exact HB.o | apply qAl))); (case aF => exact (fun _ _ => trivial)); (case aO => exact (by (with_reducible repeat (apply Kd.R_drewN)); exact aE.o)); (case aS => exact (qAf (by repeat (with_reducible first | exact HB.o | apply qAl)))); (case aL => have := ac.o; omega); intro bU cR ho hb hg aW; rw [← ad.o] at ho; have n_ := a2 (qAI (g := aG) (o := .cells #[.int .i64 a0_0, .int .i64 a0_1, .int .i64 a0_2, .int .u64 a0_3] 172 (0, 0)) (by (with_reducible repeat (refine qBr ?_ _)); exact aA.o) hg (Kd.R_ne aE.o aA.o (by decide))) (a2 (hb) (am (ho))); clear aA HB aE; obtain ⟨aA, HB, aT⟩ := n_; clear ho hb hg aW; obtain ⟨b7, b8⟩ := c2_ cR aA.o; have bo := qAx aA.o 3) | ((with_reducible refine qAi (f := 152) rfl ?_); refine gL 47 Tryz.func152 #[.int .i64 a0_0] ?_; (with_reducible refine (qAs.calls k a0_0 aH _ cG.o).mono ?_); rintro e w' ⟨rfl, ⟨nd, rfl⟩⟩; refine ⟨_, rfl, ?_⟩) | ((with_reducible refine qAP (b := .append) (xs := #[.tmp 49, .tmp 53]) rfl ?_); at_builtin; refine Kd.R_append (Kd.int .u8) (w0 := w) w.heap.size rfl (.tmp 49) (.tmp 53) 38 5 (.int .u8 0) 1 rfl Tryz.underlying38 qCi rfl (by decide) (by omega) bU aD ((a0_1) % 256) [.int .u8 ((a0_1) % 256)] (fun _ => True) (fun _ => False) rfl rfl ?aP (fun _ hk => hk.elim) ?aF ?aO ?aB ?aS ?aL ?_; (case aP => exact rfl); (case aB => exact (by repeat (with_reducible first | exact HB.o | apply qAl))); (case aF => exact (fun _ _ => trivial)); (case aO => exact (by (with_reducible repeat (apply Kd.R_drewN)); exact aT.o)); (case aS => exact (qAf (by repeat (with_reducible first | exact HB.o | apply qAl)))); (case aL => have := bI.o; omega); intro cN c0 ho hb hg aW; rw [← bM.o] at ho; have n_ := a2 (hb) (am (ho)); clear aA HB aT; obtain ⟨HB, bF⟩ := n_; clear ho hb hg aW))
      go_ret
      exact ⟨_, by rfl, by exact bF.o, by exact HB.o⟩
     ·rw [if_neg b1] at H
      exact absurd H (by simp)
    ·rw [if_neg ay] at H
     replace ay := d0 ay
     obtain rfl := Option.some.inj H
     go_enter Tryz.func153, Tryz.ntmps153
     go_wp2_with (first | ((with_reducible refine qAK (N := 1) rfl ?_); refine bx 1 #[.int .i64 a0_0, .int .i64 a0_1, .int .i64 a0_2, .int .u64 a0_3] 172 ?_; intro aG hg cS hbox hb; have n_ := a2 (qAe HB.o hb) (am (hbox)); clear HB; obtain ⟨HB, aA⟩ := n_; clear hb hbox hg; have b9 := c1_ cS aA.o; have bp := qAx aA.o 3) | ((with_reducible refine qAK (N := 8) rfl ?_); refine Kd.R_lit (Kd.int .u8) _ 5 ?hg (N := 8) ?hd (xs := ([(a0_0) % 256] : List Int)) (inner := [.int .u8 ((a0_0) % 256)]) (ok := fun _ => True) (okp := fun _ => True) ?hr ?hp (fun _ hk => hk) trivial (Below.refl _ _) (Nat.le_refl _) (by simp) ?_; (case hd => rfl); (case hg => rfl); (case hr => (go_simp; done)); (case hp => exact (Reps.one (show Kd.M (Kd.int .u8) _ _ _ ((a0_0) % 256) [.int .u8 ((a0_0) % 256)] from rfl) (Reps.none _ _))); intro aQ cT ho34 hb hg_ hnew_; clear hg_ hnew_; (rw [← aN.o] at ho34); have n_ := a2 (Kd.R_lower ho34 (qAf HB.o)) (a2 (qAk (g := aG) (o := .cells #[.int .i64 a0_0, .int .i64 a0_1, .int .i64 a0_2, .int .u64 a0_3] 172 (0, 0)) aA.o hb) (am (qAe HB.o hb))); clear aA HB; obtain ⟨aE, aA, HB⟩ := n_; clear hb ho34; obtain ⟨ba, bb⟩ := c2_ cT aA.o; have bq := qAx aA.o 3) | ((with_reducible refine qAi (f := 152) rfl ?_); refine gL 36 Tryz.func152 #[.int .i64 a0_0] ?_; (with_reducible refine (qAs.calls k a0_0 aI _ bX.o).mono ?_); rintro e w' ⟨rfl, ⟨nd, rfl⟩⟩; refine ⟨_, rfl, ?_⟩) | ((with_reducible refine qAP (b := .append) (xs := #[.tmp 38, .tmp 43]) rfl ?_); at_builtin; refine Kd.R_append (Kd.int .u8) (w0 := w) w.heap.size rfl (.tmp 38) (.tmp 43) 38 5 (.int .u8 0) 1 rfl Tryz.underlying38 qCi rfl (by decide) (by omega) aQ aC ((a0_1 / 256) % 256) [.int .u8 ((a0_1 / 256) % 256)] (fun _ => True) (fun _ => False) rfl rfl ?aP (fun _ hk => hk.elim) ?aF ?aO ?aB ?aS ?aL ?_; (case aP => exact rfl); (case aB => exact (by repeat (with_reducible first | exact HB.o | apply qAl))); (case aF => exact (fun _ _ => trivial)); (case aO => exact (by (with_reducible repeat (apply Kd.R_drewN)); exact aE.o)); (case aS => exact (qAf (by repeat (with_reducible first | exact HB.o | apply qAl)))); (case aL => have := ac.o; omega); intro bU cU ho hb hg aW; rw [← ad.o] at ho; have n_ := a2 (qAI (g := aG) (o := .cells #[.int .i64 a0_0, .int .i64 a0_1, .int .i64 a0_2, .int .u64 a0_3] 172 (0, 0)) (by (with_reducible repeat (refine qBr ?_ _)); exact aA.o) hg (Kd.R_ne aE.o aA.o (by decide))) (a2 (hb) (am (ho))); clear aA HB aE; obtain ⟨aA, HB, aT⟩ := n_; clear ho hb hg aW; have bc := c1_ cU aA.o; have br := qAx aA.o 3) | ((with_reducible refine qAi (f := 152) rfl ?_); refine gL 47 Tryz.func152 #[.int .i64 a0_0] ?_; (with_reducible refine (qAs.calls k a0_0 aH _ cG.o).mono ?_); rintro e w' ⟨rfl, ⟨nd, rfl⟩⟩; refine ⟨_, rfl, ?_⟩))
     go_ret
     exact ⟨_, by rfl, by (with_reducible repeat (apply Kd.R_drewN)); exact aT.o, by repeat (with_reducible first | exact HB.o | apply qAl)⟩
   ·rw [if_neg b0] at H
    exact absurd H (by simp)
  ·rw [if_neg ax] at H
   have bP : (aI == 2) = false := bf ax
   replace H := bm H
   obtain ⟨aJ, bC, H⟩ := H
   replace H : (if aJ > 0 then (if aC.length < 140737488355328 then (some (aC ++ [(a0_1) % 256])) else (none)) else (some aC)) = some r := H
   have cH := am bC
   clear bC
   by_cases az : aJ > 0
   ·rw [if_pos az] at H
    replace az := d1 az
    by_cases b2 : aC.length < 140737488355328
    ·rw [if_pos b2] at H
     have bJ := am b2
     clear b2
     obtain ⟨cF, a7⟩ : ∃ y_ : List Int, y_ = (aC ++ [(a0_1) % 256]) := ⟨_, rfl⟩
     replace H : (some cF) = some r := by (rw [a7]; with_reducible exact H)
     have bN := am a7
     clear a7
     obtain rfl := Option.some.inj H
     go_enter Tryz.func153, Tryz.ntmps153
     go_wp2_with (first | ((with_reducible refine qAK (N := 1) rfl ?_); refine bx 1 #[.int .i64 a0_0, .int .i64 a0_1, .int .i64 a0_2, .int .u64 a0_3] 172 ?_; intro aG hg cV hbox hb; have n_ := a2 (qAe HB.o hb) (am (hbox)); clear HB; obtain ⟨HB, aA⟩ := n_; clear hb hbox hg; have bd := c1_ cV aA.o; have bs := qAx aA.o 3) | ((with_reducible refine qAK (N := 8) rfl ?_); refine Kd.R_lit (Kd.int .u8) _ 5 ?hg (N := 8) ?hd (xs := ([(a0_0) % 256] : List Int)) (inner := [.int .u8 ((a0_0) % 256)]) (ok := fun _ => True) (okp := fun _ => True) ?hr ?hp (fun _ hk => hk) trivial (Below.refl _ _) (Nat.le_refl _) (by simp) ?_; (case hd => rfl); (case hg => rfl); (case hr => (go_simp; done)); (case hp => exact (Reps.one (show Kd.M (Kd.int .u8) _ _ _ ((a0_0) % 256) [.int .u8 ((a0_0) % 256)] from rfl) (Reps.none _ _))); intro aQ cW ho44 hb hg_ hnew_; clear hg_ hnew_; (rw [← aN.o] at ho44); have n_ := a2 (Kd.R_lower ho44 (qAf HB.o)) (a2 (qAk (g := aG) (o := .cells #[.int .i64 a0_0, .int .i64 a0_1, .int .i64 a0_2, .int .u64 a0_3] 172 (0, 0)) aA.o hb) (am (qAe HB.o hb))); clear aA HB; obtain ⟨aE, aA, HB⟩ := n_; clear hb ho44; obtain ⟨bg, bh⟩ := c2_ cW aA.o; have bu := qAx aA.o 3) | ((with_reducible refine qAi (f := 152) rfl ?_); refine gL 36 Tryz.func152 #[.int .i64 a0_0] ?_; (with_reducible refine (qAs.calls k a0_0 aI _ bX.o).mono ?_); rintro e w' ⟨rfl, ⟨nd, rfl⟩⟩; refine ⟨_, rfl, ?_⟩) | ((with_reducible refine qAi (f := 152) rfl ?_); refine gL 47 Tryz.func152 #[.int .i64 a0_0] ?_; (with_reducible refine (qAs.calls k a0_0 aJ _ cH.o).mono ?_); rintro e w' ⟨rfl, ⟨nd, rfl⟩⟩; refine ⟨_, rfl, ?_⟩) | ((with_reducible refine qAP (b := .append) (xs := #[.tmp 49, .tmp 53]) rfl ?_); at_builtin; refine Kd.R_append (Kd.int .u8) (w0 := w) w.heap.size rfl (.tmp 49) (.tmp 53) 38 5 (.int .u8 0) 1 rfl Tryz.underlying38 qCi rfl (by decide) (by omega) aQ aC ((a0_1) % 256) [.int .u8 ((a0_1) % 256)] (fun _ => True) (fun _ => False) rfl rfl ?aP (fun _ hk => hk.elim) ?aF ?aO ?aB ?aS ?aL ?_; (case aP => exact rfl); (case aB => exact (by repeat (with_reducible first | exact HB.o | apply qAl))); (case aF => exact (fun _ _ => trivial)); (case aO => exact (by (with_reducible repeat (apply Kd.R_drewN)); exact aE.o)); (case aS => exact (qAf (by repeat (with_reducible first | exact HB.o | apply qAl)))); (case aL => have := bJ.o; omega); intro cO c1 ho hb hg aW; rw [← bN.o] at ho; have n_ := a2 (hb) (am (ho)); clear aA HB aE; obtain ⟨HB, bG⟩ := n_; clear ho hb hg aW))
     go_ret
     exact ⟨_, by rfl, by exact bG.o, by exact HB.o⟩
    ·rw [if_neg b2] at H
     exact absurd H (by simp)
   ·rw [if_neg az] at H
    replace az := d0 az
    obtain rfl := Option.some.inj H
    go_enter Tryz.func153, Tryz.ntmps153
    go_wp2_with (first | ((with_reducible refine qAK (N := 1) rfl ?_); refine bx 1 #[.int .i64 a0_0, .int .i64 a0_1, .int .i64 a0_2, .int .u64 a0_3] 172 ?_; intro aG hg cX hbox hb; have n_ := a2 (qAe HB.o hb) (am (hbox)); clear HB; obtain ⟨HB, aA⟩ := n_; clear hb hbox hg; have bi := c1_ cX aA.o; have bw := qAx aA.o 3) | ((with_reducible refine qAK (N := 8) rfl ?_); refine Kd.R_lit (Kd.int .u8) _ 5 ?hg (N := 8) ?hd (xs := ([(a0_0) % 256] : List Int)) (inner := [.int .u8 ((a0_0) % 256)]) (ok := fun _ => True) (okp := fun _ => True) ?hr ?hp (fun _ hk => hk) trivial (Below.refl _ _) (Nat.le_refl _) (by simp) ?_; (case hd => rfl); (case hg => rfl); (case hr => (go_simp; done)); (case hp => exact (Reps.one (show Kd.M (Kd.int .u8) _ _ _ ((a0_0) % 256) [.int .u8 ((a0_0) % 256)] from rfl) (Reps.none _ _))); intro aQ cY ho50 hb hg_ hnew_; clear hg_ hnew_; (rw [← aN.o] at ho50); have n_ := a2 (Kd.R_lower ho50 (qAf HB.o)) (a2 (qAk (g := aG) (o := .cells #[.int .i64 a0_0, .int .i64 a0_1, .int .i64 a0_2, .int .u64 a0_3] 172 (0, 0)) aA.o hb) (am (qAe HB.o hb))); clear aA HB; obtain ⟨aE, aA, HB⟩ := n_; clear hb ho50; have bj := c1_ cY aA.o; have bz := qAx aA.o 3) | ((with_reducible refine qAi (f := 152) rfl ?_); refine gL 36 Tryz.func152 #[.int .i64 a0_0] ?_; (with_reducible refine (qAs.calls k a0_0 aI _ bX.o).mono ?_); rintro e w' ⟨rfl, ⟨nd, rfl⟩⟩; refine ⟨_, rfl, ?_⟩) | ((with_reducible refine qAi (f := 152) rfl ?_); refine gL 47 Tryz.func152 #[.int .i64 a0_0] ?_; (with_reducible refine (qAs.calls k a0_0 aJ _ cH.o).mono ?_); rintro e w' ⟨rfl, ⟨nd, rfl⟩⟩; refine ⟨_, rfl, ?_⟩))
    go_ret
    exact ⟨_, by rfl, by (with_reducible repeat (apply Kd.R_drewN)); exact aE.o, by repeat (with_reducible first | exact HB.o | apply qAl)⟩
def qA8.l0 : Nat → List (S172) → List Int → Int → Option (List Int × Int)
 | 0, _, _, _ => none
 | k + 1, x0, x4, x5 => if x5 < (x0.length : Int) then (if 0 ≤ x5 then ((qBh.f ((qAv x0 x5).f0) ((qAv x0 x5).f1) ((qAv x0 x5).f2.f0) ((qAv x0 x5).f2.f1)).bind fun aW => (if aW = true then ((qAD.f k ((qAv x0 x5).f0) ((qAv x0 x5).f1) ((qAv x0 x5).f2.f0) ((qAv x0 x5).f2.f1)).bind fun aH => (if x4.length + aH.length < 140737488355328 then (qA8.l0 k x0 (x4 ++ aH) (wrap64 (x5 + 1))) else (none))) else (some (([] : List Int), 51)))) else (none)) else (some (x4, 0))
def qA8.f (k : Nat) (l0 : List (S172)) : Option (List Int × Int) := if (l0.length : Int) > 4096 then (some (([] : List Int), 3)) else (qA8.l0 k l0 ([] : List Int) 0)
theorem qA8.calls (k : Nat) (A0 : Option Addr) (c0 : Nat) (l0 : List (S172)) (r1 : List Int) (r2 : Int) (w : World) (hr0 : Kd.C k172 w A0 l0.length l0) (hc0 : l0.length ≤ c0) (h : qA8.f k l0 = some (r1, r2)) :
  Calls Tryz.prog 118 #[.slice A0 l0.length c0] w fun e w' => ∃ v0_ : Value, e = .returned (.tuple #[v0_, .int .i64 r2]) ∧ Kd.R (Kd.int .u8) 5 w' w.heap.size (fun _ => True) v0_ r1 ∧ Below w.heap.size w w' := by
 have a8 := am hr0
 clear hr0 hc0
 have HB := am (Below.refl w.heap.size w)
 have H : (if (l0.length : Int) > 4096 then (some (([] : List Int), 3)) else (qA8.l0 k l0 ([] : List Int) 0)) = some (r1, r2) := h
 clear h
 by_cases c2 : (l0.length : Int) > 4096
 ·rw [if_pos c2] at H
  have a5 := d1 c2
  clear c2
  simp only [Option.some.injEq, Prod.mk.injEq] at H
  obtain ⟨rfl, rfl⟩ := H
  go_enter Tryz.func118, Tryz.ntmps118
  go_wp2
  go_ret2
  exact ⟨_, by rfl, by (exact Kd.R_nil _ _ _ _ _), by exact HB.o⟩
 ·rw [if_neg c2] at H
  have a5 := d0 c2
  have aa : decide (4096 < l0.length) = false := decide_eq_false (by omega)
  clear c2
  have H' := am H
  clear H
  go_enter Tryz.func118, Tryz.ntmps118
  go_wp2
  go_loopg [4, 5] k (fun kq v4 v5 w' => ∃ (aI : List Int) (aA : Int), v5 = .int .i64 aA ∧ qAa (qA8.l0 kq l0 aI aA = some (r1, r2)) ∧ qAa (kq ≤ k) ∧ qAa (Kd.R (Kd.int .u8) 5 w' w.heap.size (fun _ => True) v4 aI) ∧ qAa (Below w.heap.size w w'))
  case atStart => exact ⟨([] : List Int), (0), (by rfl), H', ⟨Nat.le_refl _⟩, ⟨by (exact Kd.R_nil _ _ _ _ _)⟩, ⟨by exact HB.o⟩⟩
  case round =>
   clear H'
   obtain ⟨aI, aA, rfl, HA, aj, aJ, HB⟩ := hrel
   cases gk with
   | zero => exact absurd HA.o (by simp [qA8.l0])
   | succ k1 =>
    have H := HA.o
    clear HA
    simp only [qA8.l0] at H
    by_cases c3 : aA < (l0.length : Int)
    rotate_left
    ·rw [if_neg c3] at H
     replace c3 := d0 c3
     simp only [Option.some.injEq, Prod.mk.injEq] at H
     obtain ⟨rfl, rfl⟩ := H
     go_wp2
     go_ret2
     exact ⟨_, by rfl, by exact aJ.o, by exact HB.o⟩
    rw [if_pos c3] at H
    replace c3 := d1 c3
    obtain ⟨c4, H⟩ := gd H
    replace c4 := d1 c4
    replace H := bm H
    obtain ⟨aW, ah, H⟩ := H
    replace H : (if aW = true then ((qAD.f k1 ((qAv l0 aA).f0) ((qAv l0 aA).f1) ((qAv l0 aA).f2.f0) ((qAv l0 aA).f2.f1)).bind fun aH => (if aI.length + aH.length < 140737488355328 then (qA8.l0 k1 l0 (aI ++ aH) (wrap64 (aA + 1))) else (none))) else (some (([] : List Int), 51))) = some (r1, r2) := H
    have A5 := am ah
    clear ah
    by_cases c6 : aW = true
    rotate_left
    ·replace c6 := Bool.eq_false_iff.mpr c6
     subst c6
     replace H : (some (([] : List Int), 51)) = some (r1, r2) := by rw [if_neg (show ¬ (false = true) by decide)] at H; exact H
     simp only [Option.some.injEq, Prod.mk.injEq] at H
     obtain ⟨rfl, rfl⟩ := H
     have aQ : 0 ≤ aA := od (by assumption)
     have aT : aA < (l0.length : Int) := od (by assumption)
     obtain ⟨aX, aY, aC, aD, aE, aG⟩ := qBK a8.o aA aQ aT
     cases aY
     replace aC := (HB.o.cell (World.block_lt_of_cell? w _ aC)).trans aC
     replace aD := (HB.o.cell (World.block_lt_of_cell? w _ aD)).trans aD
     replace aE := (HB.o.cell (World.block_lt_of_cell? w _ aE)).trans aE
     replace aG := (HB.o.cell (World.block_lt_of_cell? w _ aG)).trans aG
     replace aQ := eq_true aQ
     replace aT := eq_true aT
     go_wp2_with ((with_reducible refine qAi (f := 111) rfl ?_); refine gL 19 Tryz.func111 #[.agg #[.int .i64 ((qAv l0 aA).f0), .int .i64 ((qAv l0 aA).f1), .int .i64 ((qAv l0 aA).f2.f0), .int .u64 ((qAv l0 aA).f2.f1)]] ?_; (with_reducible refine (qBh.calls ((qAv l0 aA).f0) ((qAv l0 aA).f1) ((qAv l0 aA).f2.f0) ((qAv l0 aA).f2.f1) false _ A5.o).mono ?_); rintro e ar ⟨rfl, hb⟩; refine ⟨_, rfl, ?_⟩; have n_ := am (qAe HB.o hb); clear aJ HB; have HB := n_; clear n_; (skip))
     go_ret2
     exact ⟨_, by rfl, by (exact Kd.R_nil _ _ _ _ _), by exact HB.o⟩
    subst c6
    replace H : ((qAD.f k1 ((qAv l0 aA).f0) ((qAv l0 aA).f1) ((qAv l0 aA).f2.f0) ((qAv l0 aA).f2.f1)).bind fun aH => (if aI.length + aH.length < 140737488355328 then (qA8.l0 k1 l0 (aI ++ aH) (wrap64 (aA + 1))) else (none))) = some (r1, r2) := by rw [if_pos rfl] at H; exact H
    replace H := bm H
    obtain ⟨aH, ai, H⟩ := H
    replace H : (if aI.length + aH.length < 140737488355328 then (qA8.l0 k1 l0 (aI ++ aH) (wrap64 (aA + 1))) else (none)) = some (r1, r2) := H
    have A7 := am ai
    clear ai
    obtain ⟨c8, H⟩ := gd H
    have a9 := am c8
    clear c8
    obtain ⟨a6, aV⟩ : ∃ y_ : List Int, y_ = (aI ++ aH) := ⟨_, rfl⟩
    replace H : (qA8.l0 k1 l0 a6 (wrap64 (aA + 1))) = some (r1, r2) := by (rw [aV]; with_reducible exact H)
    have a3 := am aV
    clear aV
    have H' := am H
    clear H
    have aQ : 0 ≤ aA := od (by assumption)
    have aT : aA < (l0.length : Int) := od (by assumption)
    obtain ⟨aX, aY, aC, aD, aE, aG⟩ := qBK a8.o aA aQ aT
    cases aY
    replace aC := (HB.o.cell (World.block_lt_of_cell? w _ aC)).trans aC
    replace aD := (HB.o.cell (World.block_lt_of_cell? w _ aD)).trans aD
    replace aE := (HB.o.cell (World.block_lt_of_cell? w _ aE)).trans aE
    replace aG := (HB.o.cell (World.block_lt_of_cell? w _ aG)).trans aG
    replace aQ := eq_true aQ
    replace aT := eq_true aT
    go_wp2_with (first | ((with_reducible refine qAi (f := 111) rfl ?_); refine gL 19 Tryz.func111 #[.agg #[.int .i64 ((qAv l0 aA).f0), .int .i64 ((qAv l0 aA).f1), .int .i64 ((qAv l0 aA).f2.f0), .int .u64 ((qAv l0 aA).f2.f1)]] ?_; (with_reducible refine (qBh.calls ((qAv l0 aA).f0) ((qAv l0 aA).f1) ((qAv l0 aA).f2.f0) ((qAv l0 aA).f2.f1) true _ A5.o).mono ?_); rintro e w9 ⟨rfl, hb⟩; refine ⟨_, rfl, ?_⟩; have n_ := a2 (Kd.R_below aJ.o hb) (am (qAe HB.o hb)); clear aJ HB; obtain ⟨aJ, HB⟩ := n_; have ag : 0 ≤ aA := od (by assumption); have aZ : aA < (l0.length : Int) := od (by assumption); obtain ⟨a4, ad, aK, aM, aN, aP⟩ := qBK a8.o aA ag aZ; obtain rfl : aX = a4 := (by injection ad); replace aK := (HB.o.cell (World.block_lt_of_cell? w _ aK)).trans aK; replace aM := (HB.o.cell (World.block_lt_of_cell? w _ aM)).trans aM; replace aN := (HB.o.cell (World.block_lt_of_cell? w _ aN)).trans aN; replace aP := (HB.o.cell (World.block_lt_of_cell? w _ aP)).trans aP; replace aZ := eq_true aZ) | ((with_reducible refine qAi (f := 153) rfl ?_); refine gL 26 Tryz.func153 #[.agg #[.int .i64 ((qAv l0 aA).f0), .int .i64 ((qAv l0 aA).f1), .int .i64 ((qAv l0 aA).f2.f0), .int .u64 ((qAv l0 aA).f2.f1)]] ?_; (with_reducible refine (qAD.calls k1 ((qAv l0 aA).f0) ((qAv l0 aA).f1) ((qAv l0 aA).f2.f0) ((qAv l0 aA).f2.f1) aH _ A7.o).mono ?_); rintro e ap ⟨an, rfl, af, hb⟩; refine ⟨_, rfl, ?_⟩; have n_ := a2 (Kd.R_elder' aJ.o (Kd.R_base af) hb) (a2 (Kd.R_lower (Kd.R_new' af (Kd.R_lt aJ.o)) (qAf HB.o)) (am (qAe HB.o hb))); clear aJ HB; obtain ⟨aJ, aU, HB⟩ := n_; obtain ⟨a7, ac, ae⟩ := Kd.R_slice aU.o; subst ae) | ((with_reducible refine qAP (b := .append) (xs := #[.tmp 21, .tmp 26]) rfl ?_); at_builtin; refine Kd.R_append_rows (Kd.int .u8) (w0 := w) w.heap.size rfl (.tmp 21) (.tmp 26) 38 5 (.int .u8 0) 1 rfl Tryz.underlying38 qCi rfl (by decide) (by omega) u4 aI aH _ _ _ (fun k_ => some k_ ≠ (.slice a7 aH.length ac : Value).ownBlock) (fun _ => False) rfl rfl ?aO ?aR (fun _ _ h => h) (fun _ h => h.elim) ?aF ?aB ?aS ?aL ?_; (case aR => exact (Kd.R_reads' aU.o).2.2); (case aB => exact HB.o); (case aF => exact (fun k_ hk => Kd.fresh' (Kd.R_lt aU.o) k_ hk)); (case aO => exact (by exact Kd.R_mono aJ.o (fun _ hk => hk.2))); (case aS => exact (qAf HB.o)); (case aL => have := a9.o; omega); intro ao aq ho hb hg al; rw [← a3.o] at ho; have n_ := a2 (hb) (am (ho)); clear aU HB aJ; obtain ⟨HB, a1⟩ := n_; clear ho hb hg al))
    go_roundg k1
    case measure => have := aj.o; omega
    case rel => exact ⟨(a6), (wrap64 (aA + 1)), (by rfl), H', ⟨by have := aj.o; omega⟩, ⟨by exact Kd.R_mono a1.o (fun _ hk => trivial)⟩, ⟨by exact HB.o⟩⟩
end Q
end
end Go.Proofs.YtfjpnjbinbhcfaaGreat
