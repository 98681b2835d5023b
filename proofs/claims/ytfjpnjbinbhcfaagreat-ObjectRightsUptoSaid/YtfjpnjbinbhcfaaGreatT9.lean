/- The program's object.Right of any object and the document's tell the same, where what is read is of bulk at most 1048576: Rows.ObjectRightsUptoSaid. Part 9 of 10. -/
import Derived.Test.YtfjpnjbinbhcfaaGreatT2
set_option maxHeartbeats 8000000
set_option maxRecDepth 100000
set_option linter.unusedVariables false
set_option linter.unusedSimpArgs false
namespace Go.Proofs.YtfjpnjbinbhcfaaGreat
section
namespace Q
open Go.RowKit PA PC PB
attribute [local go_sem] qAU min2_int qBd min_two max_three min_three max_four min_four
def qAy.l0 : Nat → Int → List Int → Int → List Int → List (S172) → List Int → Int → List Int → List (S144) → Option (List Int × Int × List Int × (List (S144)))
 | 0, _, _, _, _, _, _, _, _, _ => none
 | k + 1, x4, ba, bb, bc, ao, bP, bQ, bR, bG => if x4 < (ao.length : Int) then (if 0 ≤ x4 then (if bG.length < 4398046511104 then (qAy.l0 k (wrap64 (x4 + 1)) ba bb bc ao bP bQ bR (bG ++ [(⟨(qAC ao x4).f0, (qAC ao x4).f1, (⟨(qAC ao x4).f2.f0, (qAC ao x4).f2.f1⟩ : S83)⟩ : S144)])) else (none)) else (none)) else (some (bP, bQ, bR, bG))
def qAy.f (k : Nat) (l0_0 : List Int) (a0_1 : Int) (l0_2 : List Int) (l0_3 : List (S172)) : Option (List Int × Int × List Int × (List (S144))) := (some (([] : List Int) : List Int)).bind fun aj => (if aj.length + l0_0.length < 17592186044416 then ((some (([] : List Int) : List Int)).bind fun af => (if af.length + l0_2.length < 17592186044416 then (qAy.l0 k 0 l0_0 a0_1 l0_2 l0_3 (aj ++ l0_0) a0_1 (af ++ l0_2) ([] : List (S144))) else (none))) else (none))
def qAy.T1 : Bool × List (List Nat × List Nat) := (true, [([], []), ([], []), ([1], [1]), ([2], [2]), ([0, 3], [0, 3]), ([], []), ([5], [5]), ([6], [6]), ([4, 7], [4, 7]), ([], []), ([], []), ([10], [10]), ([9, 11, 4], [9, 11]), ([8, 12], [8, 12]), ([], []), ([14, 13, 12, 0, 1, 2, 3, 4, 5, 6, 7, 8, 9, 10, 11, 12, 13, 14], [13, 14])])
def qAy.B1 : List Nat := [0, 0, 2, 6, 15, 0, 32, 96, 255, 0, 0, 1024, 3615, 8191, 0, 32767]
theorem qAy.tab1 : rtab .any (opsOf Tryz.f35 1) = qAy.T1 := by kernel_rfl
theorem qAy.bits1 : qCe qAy.T1.2 qAy.B1 = true := by kernel_rfl
def qAy.T5 : Bool × List (List Nat × List Nat) := (true, [([], []), ([0], [0]), ([], []), ([2], [2]), ([], []), ([3, 4], [3, 4]), ([5], [5]), ([6], [6]), ([], []), ([8], [8]), ([], []), ([9, 10], [9, 10]), ([11], [11]), ([12], [12]), ([], []), ([14], [14]), ([], []), ([15, 16], [15, 16]), ([17], [17]), ([18], [18]), ([7, 13, 19], [7, 13, 19]), ([20], [20]), ([1, 21], [1, 21]), ([0, 1, 2, 3, 4, 5, 6, 7, 8, 9, 10, 11, 12, 13, 14, 15, 16, 17, 18, 19, 20, 21, 22], []), ([23, 22, 22, 0, 1, 2, 3, 4, 5, 6, 7, 8, 9, 10, 11, 12, 13, 14, 15, 16, 17, 18, 19, 20, 21, 22], [22, 23])])
def qAy.B5 : List Nat := [0, 1, 0, 4, 0, 28, 60, 124, 0, 256, 0, 1792, 3840, 7936, 0, 16384, 0, 114688, 245760, 507904, 1048572, 2097148, 4194303, 8388607, 16777215]
theorem qAy.tab5 : rtab .any (opsOf Tryz.f35 5) = qAy.T5 := by kernel_rfl
theorem qAy.bits5 : qCe qAy.T5.2 qAy.B5 = true := by kernel_rfl
theorem qAy.calls (k : Nat) (aT : Option Addr) (aW : Nat) (l0_0 : List Int) (a0_1 : Int) (aU : Option Addr) (aX : Nat) (l0_2 : List Int) (aV : Option Addr) (aQ : Nat) (l0_3 : List (S172)) (r1 : List Int) (r2 : Int) (r3 : List Int) (r4 : List (S144)) (w : World) (hr0_0 : Kd.C (Kd.int .i64) w aT l0_0.length l0_0) (hc0_0 : l0_0.length ≤ aW) (hr0_2 : Kd.C (Kd.int .i64) w aU l0_2.length l0_2) (hc0_2 : l0_2.length ≤ aX) (hr0_3 : Kd.C k172 w aV l0_3.length l0_3) (hc0_3 : l0_3.length ≤ aQ) (h : qAy.f k l0_0 a0_1 l0_2 l0_3 = some (r1, r2, r3, r4)) :
  Calls Tryz.prog 35 #[.agg #[.slice aT l0_0.length aW, .int .i64 a0_1, .slice aU l0_2.length aX, .slice aV l0_3.length aQ]] w fun e w' => ∃ v0_ v2_ v3_ : Value, e = .returned (.agg #[v0_, .int .i64 r2, v2_, v3_]) ∧ Kd.R (Kd.int .i64) 3 w' w.heap.size (fun k_ => some k_ ≠ (v2_ : Value).ownBlock) v0_ r1 ∧ Kd.R (Kd.int .i64) 3 w' w.heap.size (fun k_ => some k_ ≠ (v0_ : Value).ownBlock) v2_ r3 ∧ Kd.R k144 144 w' w.heap.size (fun _ => True) v3_ r4 ∧ Below w.heap.size w w' := by
 have bL := am hr0_0
 clear hr0_0 hc0_0
 have bg := am hr0_2
 clear hr0_2 hc0_2
 have bV := am hr0_3
 clear hr0_3 hc0_3
 have HB := am (Below.refl w.heap.size w)
 have H : ((some (([] : List Int) : List Int)).bind fun aj => (if aj.length + l0_0.length < 17592186044416 then ((some (([] : List Int) : List Int)).bind fun af => (if af.length + l0_2.length < 17592186044416 then (qAy.l0 k 0 l0_0 a0_1 l0_2 l0_3 (aj ++ l0_0) a0_1 (af ++ l0_2) ([] : List (S144))) else (none))) else (none))) = some (r1, r2, r3, r4) := h
 clear h
 obtain ⟨aj, bY⟩ : ∃ y_ : List Int, y_ = ([] : List Int) := ⟨_, rfl⟩
 replace H : (if aj.length + l0_0.length < 17592186044416 then ((some (([] : List Int) : List Int)).bind fun af => (if af.length + l0_2.length < 17592186044416 then (qAy.l0 k 0 l0_0 a0_1 l0_2 l0_3 (aj ++ l0_0) a0_1 (af ++ l0_2) ([] : List (S144))) else (none))) else (none)) = some (r1, r2, r3, r4) := by (have H2_ := (Option.bind_some _ _).symm.trans H; rw [bY]; with_reducible exact H2_)
 have bM := am bY
 clear bY
 by_cases c2 : aj.length + l0_0.length < 17592186044416
 ·rw [if_pos c2] at H
  have b6 := am c2
  clear c2
  obtain ⟨a5, bZ⟩ : ∃ y_ : List Int, y_ = (aj ++ l0_0) := ⟨_, rfl⟩
  replace H : ((some (([] : List Int) : List Int)).bind fun af => (if af.length + l0_2.length < 17592186044416 then (qAy.l0 k 0 l0_0 a0_1 l0_2 l0_3 a5 a0_1 (af ++ l0_2) ([] : List (S144))) else (none))) = some (r1, r2, r3, r4) := by (rw [bZ]; with_reducible exact H)
  have bN := am bZ
  clear bZ
  obtain ⟨af, b0⟩ : ∃ y_ : List Int, y_ = ([] : List Int) := ⟨_, rfl⟩
  replace H : (if af.length + l0_2.length < 17592186044416 then (qAy.l0 k 0 l0_0 a0_1 l0_2 l0_3 a5 a0_1 (af ++ l0_2) ([] : List (S144))) else (none)) = some (r1, r2, r3, r4) := by (have H2_ := (Option.bind_some _ _).symm.trans H; rw [b0]; with_reducible exact H2_)
  have bF := am b0
  clear b0
  by_cases c3 : af.length + l0_2.length < 17592186044416
  ·rw [if_pos c3] at H
   have cG := am c3
   clear c3
   obtain ⟨ag, b1⟩ : ∃ y_ : List Int, y_ = (af ++ l0_2) := ⟨_, rfl⟩
   replace H : (qAy.l0 k 0 l0_0 a0_1 l0_2 l0_3 a5 a0_1 ag ([] : List (S144))) = some (r1, r2, r3, r4) := by (rw [b1]; with_reducible exact H)
   have bh := am b1
   clear b1
   have H' := am H
   clear H
   go_enter Tryz.func35, Tryz.ntmps35
   try go_wp2_with (first | ((with_reducible refine qAI (N := 1) rfl ?_); refine bx 1 #[.slice aT l0_0.length aW, .int .i64 a0_1, .slice aU l0_2.length aX, .slice aV l0_3.length aQ] 98 ?_; intro aC hg w4 hbox hb; have n_ := a2 (qAp HB.o hb) (am (hbox)); clear HB; obtain ⟨HB, aA⟩ := n_; clear hb hbox hg) | ((with_reducible refine qAI (N := 2) rfl ?_); refine bx 2 #[.slice none 0 0, .int .i64 0, .slice none 0 0, .slice none 0 0] 90 ?_; intro aG hg w5 hbox hb; have n_ := a2 (qAt (g := aC) (o := .cells #[.slice aT l0_0.length aW, .int .i64 a0_1, .slice aU l0_2.length aX, .slice aV l0_3.length aQ] 98 (0, 0)) aA.o hb) (a2 (qAp HB.o hb) (a2 (hbox) (am (by rw [hg]; exact (qAs HB.o) : w.heap.size ≤ aG)))); clear aA HB; obtain ⟨aA, HB, aE, cE⟩ := n_; clear hb hbox hg))
   have n_ := a2 (qAh aA.o) (a2 (qAh aE.o) (am (qAk HB.o)))
   clear aA aE HB
   obtain ⟨aA, aE, HB⟩ := n_
   refine qDz (n := 16) (S := fun w' => w'.cell? ⟨aC, 0, none⟩ = some (.slice aT l0_0.length aW) ∧ w'.cell? ⟨aC, 1, none⟩ = some (.int .i64 a0_1) ∧ w'.cell? ⟨aC, 2, none⟩ = some (.slice aU l0_2.length aX) ∧ w'.cell? ⟨aC, 3, none⟩ = some (.slice aV l0_3.length aQ)) (ds := []) #[false, false, false, false, false, false, false, false, false, false, false, false, false, false, false, false] (by kernel_rfl) rfl rfl ⟨(qAa aA.o 0).trans rfl, (qAa aA.o 1).trans rfl, (qAa aA.o 2).trans rfl, (qAa aA.o 3).trans rfl⟩ (fun hHeld => ?_); refine qBM qAy.tab1 qAy.bits1 (fun HT_ HW_ => ?_)
   generalize w5.drew = w6 at aA aE HB hHeld ⊢
   refine pu 1 6 #[false, true, false, false, false, false, false, false, false, false, false, false, false, false, false, false] (qAK HT_.o (by kernel_rfl)) ?_
   refine pu 2 7 #[false, true, true, false, false, false, false, false, false, false, false, false, false, false, false, false] (qAK HT_.o (by kernel_rfl)) ?_
   refine pu 5 10 #[false, true, true, false, false, true, false, false, false, false, false, false, false, false, false, false] (qAK HT_.o (by kernel_rfl)) ?_
   refine pu 6 11 #[false, true, true, false, false, true, true, false, false, false, false, false, false, false, false, false] (qAK HT_.o (by kernel_rfl)) ?_
   refine pu 10 15 #[false, true, true, false, false, true, true, false, false, false, true, false, false, false, false, false] (qAK HT_.o (by kernel_rfl)) ?_
   refine qBR (i := 3) (N := some 8) (v := ?_) (a' := ?_) #[false, true, true, true, false, true, true, false, false, false, true, false, false, false, false, false] rfl rfl (qBg HT_.o HW_.o (by kernel_rfl)) (fun _ _ _ h => h) (Or.inl ⟨by rfl, ?_⟩) hHeld ?_ ?_
   rotate_left
   ·rintro w' ⟨s0, s1, s2, s3⟩
    go_simp
    with_reducible rfl
   rotate_left
   ·simp only [Act.put, List.setIfInBounds_toArray, List.set_cons_zero, List.set_cons_succ]
    rfl
   refine qBR (i := 7) (N := some 12) (v := ?_) (a' := ?_) #[false, true, true, true, false, true, true, true, false, false, true, false, false, false, false, false] rfl rfl (qBg HT_.o HW_.o (by kernel_rfl)) (fun _ _ _ h => h) (Or.inl ⟨by rfl, ?_⟩) hHeld ?_ ?_
   rotate_left
   ·rintro w' ⟨s0, s1, s2, s3⟩
    go_simp
    with_reducible rfl
   rotate_left
   ·simp only [Act.put, List.setIfInBounds_toArray, List.set_cons_zero, List.set_cons_succ]
    rfl
   refine qBR (i := 11) (N := some 16) (v := ?_) (a' := ?_) #[false, true, true, true, false, true, true, true, false, false, true, true, false, false, false, false] rfl rfl (qBg HT_.o HW_.o (by kernel_rfl)) (fun _ _ _ h => h) (Or.inl ⟨by rfl, ?_⟩) hHeld ?_ ?_
   rotate_left
   ·rintro w' ⟨s0, s1, s2, s3⟩
    go_simp
    with_reducible rfl
   rotate_left
   ·simp only [Act.put, List.setIfInBounds_toArray, List.set_cons_zero, List.set_cons_succ]
    rfl
   refine qEd (σ := Value × Value × Value × Value × Nat) 1 #[true, true, true, true, true, true, true, true, true, true, true, true, true, true, true, false] (fun s_ => [(5, s_.1), (9, s_.2.1), (14, s_.2.2.1), (17, s_.2.2.2.1), (3, .pointer (some ⟨s_.2.2.2.2, 0, none⟩)), (13, .agg #[s_.2.1, .int .i64 a0_1]), (18, .agg #[s_.2.1, .int .i64 a0_1, s_.2.2.2.1, .slice none 0 0])]) (fun s_ w' => (w'.cell? ⟨aC, 0, none⟩ = some (.slice aT l0_0.length aW) ∧ w'.cell? ⟨aC, 1, none⟩ = some (.int .i64 a0_1) ∧ w'.cell? ⟨aC, 2, none⟩ = some (.slice aU l0_2.length aX) ∧ w'.cell? ⟨aC, 3, none⟩ = some (.slice aV l0_3.length aQ)) ∧ (Kd.R (Kd.int .i64) 3 w' w.heap.size (fun k_ => some k_ ≠ (s_.2.2.2.1 : Value).ownBlock) s_.2.1 a5) ∧ (Kd.R (Kd.int .i64) 3 w' w.heap.size (fun k_ => some k_ ≠ (s_.2.1 : Value).ownBlock) s_.2.2.2.1 ag) ∧ (w'.heap[aC]? = some (.cells #[.slice aT l0_0.length aW, .int .i64 a0_1, .slice aU l0_2.length aX, .slice aV l0_3.length aQ] 98 (0, 0))) ∧ (w'.heap[aG]? = some (.cells #[.slice none 0 0, .int .i64 0, .slice none 0 0, .slice none 0 0] 90 (0, 0))) ∧ (w'.heap[s_.2.2.2.2]? = some (.cells #[.slice none 0 0, .int .i64 0, .slice none 0 0, .slice none 0 0] 90 (0, 0))) ∧ (w.heap.size ≤ s_.2.2.2.2) ∧ (w.heap.size ≤ s_.2.2.2.2) ∧ (aC ≠ s_.2.2.2.2) ∧ (s_.2.2.2.2 ≠ aC) ∧ (aG ≠ s_.2.2.2.2) ∧ (s_.2.2.2.2 ≠ aG) ∧ (Below w.heap.size w w')) ?_ ?_
   rotate_left
   ·intro hJ0_4_9_12_14
    refine qEd (σ := Value × Value × Value × Value) 2 #[true, true, true, true, true, true, true, true, true, true, true, true, true, true, false, false] (fun s_ => [(5, s_.1), (9, s_.2.1), (14, s_.2.2.1), (17, s_.2.2.2), (13, .agg #[s_.2.1, .int .i64 a0_1]), (18, .agg #[s_.2.1, .int .i64 a0_1, s_.2.2.2, .slice none 0 0])]) (fun s_ w' => (w'.cell? ⟨aC, 0, none⟩ = some (.slice aT l0_0.length aW) ∧ w'.cell? ⟨aC, 1, none⟩ = some (.int .i64 a0_1) ∧ w'.cell? ⟨aC, 2, none⟩ = some (.slice aU l0_2.length aX) ∧ w'.cell? ⟨aC, 3, none⟩ = some (.slice aV l0_3.length aQ)) ∧ (Kd.R (Kd.int .i64) 3 w' w.heap.size (fun k_ => some k_ ≠ (s_.2.2.2 : Value).ownBlock) s_.2.1 a5) ∧ (Kd.R (Kd.int .i64) 3 w' w.heap.size (fun k_ => some k_ ≠ (s_.2.1 : Value).ownBlock) s_.2.2.2 ag) ∧ (w'.heap[aC]? = some (.cells #[.slice aT l0_0.length aW, .int .i64 a0_1, .slice aU l0_2.length aX, .slice aV l0_3.length aQ] 98 (0, 0))) ∧ (w'.heap[aG]? = some (.cells #[.slice none 0 0, .int .i64 0, .slice none 0 0, .slice none 0 0] 90 (0, 0))) ∧ (Below w.heap.size w w')) ?_ ?_
    rotate_left
    ·intro hJ0_4_9_12
     refine qEd (σ := Value × Value × Value × Nat) 3 #[true, true, true, true, true, true, true, true, true, true, true, true, false, false, true, false] (fun s_ => [(5, s_.1), (9, s_.2.1), (14, s_.2.2.1), (3, .pointer (some ⟨s_.2.2.2, 0, none⟩)), (13, .agg #[s_.2.1, .int .i64 a0_1])]) (fun s_ w' => (w'.cell? ⟨aC, 0, none⟩ = some (.slice aT l0_0.length aW) ∧ w'.cell? ⟨aC, 1, none⟩ = some (.int .i64 a0_1) ∧ w'.cell? ⟨aC, 2, none⟩ = some (.slice aU l0_2.length aX) ∧ w'.cell? ⟨aC, 3, none⟩ = some (.slice aV l0_3.length aQ)) ∧ (Kd.R (Kd.int .i64) 3 w' w.heap.size (fun k_ => some k_ ≠ (s_.2.2.1 : Value).ownBlock) s_.2.1 a5) ∧ (Kd.R (Kd.int .i64) 3 w' w.heap.size (fun k_ => some k_ ≠ (s_.2.1 : Value).ownBlock) s_.2.2.1 af) ∧ (w'.heap[aC]? = some (.cells #[.slice aT l0_0.length aW, .int .i64 a0_1, .slice aU l0_2.length aX, .slice aV l0_3.length aQ] 98 (0, 0))) ∧ (w'.heap[aG]? = some (.cells #[.slice none 0 0, .int .i64 0, .slice none 0 0, .slice none 0 0] 90 (0, 0))) ∧ (w'.heap[s_.2.2.2]? = some (.cells #[.slice none 0 0, .int .i64 0, .slice none 0 0, .slice none 0 0] 90 (0, 0))) ∧ (w.heap.size ≤ s_.2.2.2) ∧ (w.heap.size ≤ s_.2.2.2) ∧ (aC ≠ s_.2.2.2) ∧ (s_.2.2.2 ≠ aC) ∧ (aG ≠ s_.2.2.2) ∧ (s_.2.2.2 ≠ aG) ∧ (Below w.heap.size w w')) ?_ ?_
     rotate_left
     ·intro hJ0_4_9_14
      refine qEd (σ := Value × Value × Value) 4 #[true, true, true, true, true, true, true, true, true, true, true, true, false, false, false, false] (fun s_ => [(5, s_.1), (9, s_.2.1), (14, s_.2.2), (13, .agg #[s_.2.1, .int .i64 a0_1])]) (fun s_ w' => (w'.cell? ⟨aC, 0, none⟩ = some (.slice aT l0_0.length aW) ∧ w'.cell? ⟨aC, 1, none⟩ = some (.int .i64 a0_1) ∧ w'.cell? ⟨aC, 2, none⟩ = some (.slice aU l0_2.length aX) ∧ w'.cell? ⟨aC, 3, none⟩ = some (.slice aV l0_3.length aQ)) ∧ (Kd.R (Kd.int .i64) 3 w' w.heap.size (fun k_ => some k_ ≠ (s_.2.2 : Value).ownBlock) s_.2.1 a5) ∧ (Kd.R (Kd.int .i64) 3 w' w.heap.size (fun k_ => some k_ ≠ (s_.2.1 : Value).ownBlock) s_.2.2 af) ∧ (w'.heap[aC]? = some (.cells #[.slice aT l0_0.length aW, .int .i64 a0_1, .slice aU l0_2.length aX, .slice aV l0_3.length aQ] 98 (0, 0))) ∧ (w'.heap[aG]? = some (.cells #[.slice none 0 0, .int .i64 0, .slice none 0 0, .slice none 0 0] 90 (0, 0))) ∧ (Below w.heap.size w w')) ?_ ?_
      rotate_left
      ·intro hJ0_4_9
       refine qEd (σ := Value × Value × Nat) 4 #[true, true, true, true, true, true, true, true, true, false, true, true, false, false, true, false] (fun s_ => [(5, s_.1), (9, s_.2.1), (3, .pointer (some ⟨s_.2.2, 0, none⟩)), (13, .agg #[s_.2.1, .int .i64 a0_1])]) (fun s_ w' => (w'.cell? ⟨aC, 0, none⟩ = some (.slice aT l0_0.length aW) ∧ w'.cell? ⟨aC, 1, none⟩ = some (.int .i64 a0_1) ∧ w'.cell? ⟨aC, 2, none⟩ = some (.slice aU l0_2.length aX) ∧ w'.cell? ⟨aC, 3, none⟩ = some (.slice aV l0_3.length aQ)) ∧ (Kd.R (Kd.int .i64) 3 w' w.heap.size (fun _ => True) s_.2.1 a5) ∧ (w'.heap[aC]? = some (.cells #[.slice aT l0_0.length aW, .int .i64 a0_1, .slice aU l0_2.length aX, .slice aV l0_3.length aQ] 98 (0, 0))) ∧ (w'.heap[aG]? = some (.cells #[.slice none 0 0, .int .i64 0, .slice none 0 0, .slice none 0 0] 90 (0, 0))) ∧ (w'.heap[s_.2.2]? = some (.cells #[.slice none 0 0, .int .i64 0, .slice none 0 0, .slice none 0 0] 90 (0, 0))) ∧ (w.heap.size ≤ s_.2.2) ∧ (w.heap.size ≤ s_.2.2) ∧ (aC ≠ s_.2.2) ∧ (s_.2.2 ≠ aC) ∧ (aG ≠ s_.2.2) ∧ (s_.2.2 ≠ aG) ∧ (Below w.heap.size w w')) ?_ ?_
       rotate_left
       ·intro hJ0_4_14
        refine qEd (σ := Value × Value × Nat) 5 #[true, true, true, true, false, true, true, true, false, true, true, true, false, false, true, false] (fun s_ => [(5, s_.1), (14, s_.2.1), (3, .pointer (some ⟨s_.2.2, 0, none⟩))]) (fun s_ w' => (w'.cell? ⟨aC, 0, none⟩ = some (.slice aT l0_0.length aW) ∧ w'.cell? ⟨aC, 1, none⟩ = some (.int .i64 a0_1) ∧ w'.cell? ⟨aC, 2, none⟩ = some (.slice aU l0_2.length aX) ∧ w'.cell? ⟨aC, 3, none⟩ = some (.slice aV l0_3.length aQ)) ∧ (Kd.R (Kd.int .i64) 3 w' w.heap.size (fun k_ => some k_ ≠ (s_.2.1 : Value).ownBlock) s_.1 aj) ∧ (Kd.R (Kd.int .i64) 3 w' w.heap.size (fun k_ => some k_ ≠ (s_.1 : Value).ownBlock) s_.2.1 af) ∧ (w'.heap[aC]? = some (.cells #[.slice aT l0_0.length aW, .int .i64 a0_1, .slice aU l0_2.length aX, .slice aV l0_3.length aQ] 98 (0, 0))) ∧ (w'.heap[aG]? = some (.cells #[.slice none 0 0, .int .i64 0, .slice none 0 0, .slice none 0 0] 90 (0, 0))) ∧ (w'.heap[s_.2.2]? = some (.cells #[.slice none 0 0, .int .i64 0, .slice none 0 0, .slice none 0 0] 90 (0, 0))) ∧ (w.heap.size ≤ s_.2.2) ∧ (w.heap.size ≤ s_.2.2) ∧ (aC ≠ s_.2.2) ∧ (s_.2.2 ≠ aC) ∧ (aG ≠ s_.2.2) ∧ (s_.2.2 ≠ aG) ∧ (Below w.heap.size w w')) ?_ ?_
        rotate_left
        ·intro hJ0_9_14
         refine qEd (σ := Value × Value) 5 #[true, true, true, true, true, true, true, true, true, false, true, true, false, false, false, false] (fun s_ => [(5, s_.1), (9, s_.2), (13, .agg #[s_.2, .int .i64 a0_1])]) (fun s_ w' => (w'.cell? ⟨aC, 0, none⟩ = some (.slice aT l0_0.length aW) ∧ w'.cell? ⟨aC, 1, none⟩ = some (.int .i64 a0_1) ∧ w'.cell? ⟨aC, 2, none⟩ = some (.slice aU l0_2.length aX) ∧ w'.cell? ⟨aC, 3, none⟩ = some (.slice aV l0_3.length aQ)) ∧ (Kd.R (Kd.int .i64) 3 w' w.heap.size (fun _ => True) s_.2 a5) ∧ (w'.heap[aC]? = some (.cells #[.slice aT l0_0.length aW, .int .i64 a0_1, .slice aU l0_2.length aX, .slice aV l0_3.length aQ] 98 (0, 0))) ∧ (w'.heap[aG]? = some (.cells #[.slice none 0 0, .int .i64 0, .slice none 0 0, .slice none 0 0] 90 (0, 0))) ∧ (Below w.heap.size w w')) ?_ ?_
         rotate_left
         ·intro hJ0_4
          refine qEd (σ := Value × Value) 6 #[true, true, true, true, false, true, true, true, false, true, true, true, false, false, false, false] (fun s_ => [(5, s_.1), (14, s_.2)]) (fun s_ w' => (w'.cell? ⟨aC, 0, none⟩ = some (.slice aT l0_0.length aW) ∧ w'.cell? ⟨aC, 1, none⟩ = some (.int .i64 a0_1) ∧ w'.cell? ⟨aC, 2, none⟩ = some (.slice aU l0_2.length aX) ∧ w'.cell? ⟨aC, 3, none⟩ = some (.slice aV l0_3.length aQ)) ∧ (Kd.R (Kd.int .i64) 3 w' w.heap.size (fun k_ => some k_ ≠ (s_.2 : Value).ownBlock) s_.1 aj) ∧ (Kd.R (Kd.int .i64) 3 w' w.heap.size (fun k_ => some k_ ≠ (s_.1 : Value).ownBlock) s_.2 af) ∧ (w'.heap[aC]? = some (.cells #[.slice aT l0_0.length aW, .int .i64 a0_1, .slice aU l0_2.length aX, .slice aV l0_3.length aQ] 98 (0, 0))) ∧ (w'.heap[aG]? = some (.cells #[.slice none 0 0, .int .i64 0, .slice none 0 0, .slice none 0 0] 90 (0, 0))) ∧ (Below w.heap.size w w')) ?_ ?_
          rotate_left
          ·intro hJ0_9
           refine qEd (σ := Value × Nat) 6 #[true, true, true, true, false, true, true, true, false, false, true, true, false, false, true, false] (fun s_ => [(5, s_.1), (3, .pointer (some ⟨s_.2, 0, none⟩))]) (fun s_ w' => (w'.cell? ⟨aC, 0, none⟩ = some (.slice aT l0_0.length aW) ∧ w'.cell? ⟨aC, 1, none⟩ = some (.int .i64 a0_1) ∧ w'.cell? ⟨aC, 2, none⟩ = some (.slice aU l0_2.length aX) ∧ w'.cell? ⟨aC, 3, none⟩ = some (.slice aV l0_3.length aQ)) ∧ (Kd.R (Kd.int .i64) 3 w' w.heap.size (fun _ => True) s_.1 aj) ∧ (w'.heap[aC]? = some (.cells #[.slice aT l0_0.length aW, .int .i64 a0_1, .slice aU l0_2.length aX, .slice aV l0_3.length aQ] 98 (0, 0))) ∧ (w'.heap[aG]? = some (.cells #[.slice none 0 0, .int .i64 0, .slice none 0 0, .slice none 0 0] 90 (0, 0))) ∧ (w'.heap[s_.2]? = some (.cells #[.slice none 0 0, .int .i64 0, .slice none 0 0, .slice none 0 0] 90 (0, 0))) ∧ (w.heap.size ≤ s_.2) ∧ (w.heap.size ≤ s_.2) ∧ (aC ≠ s_.2) ∧ (s_.2 ≠ aC) ∧ (aG ≠ s_.2) ∧ (s_.2 ≠ aG) ∧ (Below w.heap.size w w')) ?_ ?_
           rotate_left
           ·intro hJ0_14
            refine qEd (σ := Value × Nat) 6 #[false, true, true, true, false, true, true, true, false, true, true, true, false, false, true, false] (fun s_ => [(14, s_.1), (3, .pointer (some ⟨s_.2, 0, none⟩))]) (fun s_ w' => (w'.cell? ⟨aC, 0, none⟩ = some (.slice aT l0_0.length aW) ∧ w'.cell? ⟨aC, 1, none⟩ = some (.int .i64 a0_1) ∧ w'.cell? ⟨aC, 2, none⟩ = some (.slice aU l0_2.length aX) ∧ w'.cell? ⟨aC, 3, none⟩ = some (.slice aV l0_3.length aQ)) ∧ (Kd.R (Kd.int .i64) 3 w' w.heap.size (fun _ => True) s_.1 af) ∧ (w'.heap[aC]? = some (.cells #[.slice aT l0_0.length aW, .int .i64 a0_1, .slice aU l0_2.length aX, .slice aV l0_3.length aQ] 98 (0, 0))) ∧ (w'.heap[aG]? = some (.cells #[.slice none 0 0, .int .i64 0, .slice none 0 0, .slice none 0 0] 90 (0, 0))) ∧ (w'.heap[s_.2]? = some (.cells #[.slice none 0 0, .int .i64 0, .slice none 0 0, .slice none 0 0] 90 (0, 0))) ∧ (w.heap.size ≤ s_.2) ∧ (w.heap.size ≤ s_.2) ∧ (aC ≠ s_.2) ∧ (s_.2 ≠ aC) ∧ (aG ≠ s_.2) ∧ (s_.2 ≠ aG) ∧ (Below w.heap.size w w')) ?_ ?_
            rotate_left
            ·intro hJ9_14
             refine qEd (σ := Value) 7 #[true, true, true, true, false, true, true, true, false, false, true, true, false, false, false, false] (fun s_ => [(5, s_)]) (fun s_ w' => (w'.cell? ⟨aC, 0, none⟩ = some (.slice aT l0_0.length aW) ∧ w'.cell? ⟨aC, 1, none⟩ = some (.int .i64 a0_1) ∧ w'.cell? ⟨aC, 2, none⟩ = some (.slice aU l0_2.length aX) ∧ w'.cell? ⟨aC, 3, none⟩ = some (.slice aV l0_3.length aQ)) ∧ (Kd.R (Kd.int .i64) 3 w' w.heap.size (fun _ => True) s_ aj) ∧ (w'.heap[aC]? = some (.cells #[.slice aT l0_0.length aW, .int .i64 a0_1, .slice aU l0_2.length aX, .slice aV l0_3.length aQ] 98 (0, 0))) ∧ (w'.heap[aG]? = some (.cells #[.slice none 0 0, .int .i64 0, .slice none 0 0, .slice none 0 0] 90 (0, 0))) ∧ (Below w.heap.size w w')) ?_ ?_
             rotate_left
             ·intro hJ0
              refine qEd (σ := Value) 7 #[false, true, true, true, false, true, true, true, false, true, true, true, false, false, false, false] (fun s_ => [(14, s_)]) (fun s_ w' => (w'.cell? ⟨aC, 0, none⟩ = some (.slice aT l0_0.length aW) ∧ w'.cell? ⟨aC, 1, none⟩ = some (.int .i64 a0_1) ∧ w'.cell? ⟨aC, 2, none⟩ = some (.slice aU l0_2.length aX) ∧ w'.cell? ⟨aC, 3, none⟩ = some (.slice aV l0_3.length aQ)) ∧ (Kd.R (Kd.int .i64) 3 w' w.heap.size (fun _ => True) s_ af) ∧ (w'.heap[aC]? = some (.cells #[.slice aT l0_0.length aW, .int .i64 a0_1, .slice aU l0_2.length aX, .slice aV l0_3.length aQ] 98 (0, 0))) ∧ (w'.heap[aG]? = some (.cells #[.slice none 0 0, .int .i64 0, .slice none 0 0, .slice none 0 0] 90 (0, 0))) ∧ (Below w.heap.size w w')) ?_ ?_
              rotate_left
              ·intro hJ9
               refine qEd (σ := Nat) 7 #[false, true, true, true, false, true, true, true, false, false, true, true, false, false, true, false] (fun s_ => [(3, .pointer (some ⟨s_, 0, none⟩))]) (fun s_ w' => (w'.cell? ⟨aC, 0, none⟩ = some (.slice aT l0_0.length aW) ∧ w'.cell? ⟨aC, 1, none⟩ = some (.int .i64 a0_1) ∧ w'.cell? ⟨aC, 2, none⟩ = some (.slice aU l0_2.length aX) ∧ w'.cell? ⟨aC, 3, none⟩ = some (.slice aV l0_3.length aQ)) ∧ (w'.heap[aC]? = some (.cells #[.slice aT l0_0.length aW, .int .i64 a0_1, .slice aU l0_2.length aX, .slice aV l0_3.length aQ] 98 (0, 0))) ∧ (w'.heap[aG]? = some (.cells #[.slice none 0 0, .int .i64 0, .slice none 0 0, .slice none 0 0] 90 (0, 0))) ∧ (w'.heap[s_]? = some (.cells #[.slice none 0 0, .int .i64 0, .slice none 0 0, .slice none 0 0] 90 (0, 0))) ∧ (w.heap.size ≤ s_) ∧ (w.heap.size ≤ s_) ∧ (aC ≠ s_) ∧ (s_ ≠ aC) ∧ (aG ≠ s_) ∧ (s_ ≠ aG) ∧ (Below w.heap.size w w')) ?_ ?_
               rotate_left
               ·intro hJ14
                refine three_ (i := 0) (j := 9) (k := 14) (Ni := some 5) (Nj := some 14) (Nk := some 3) #[true, true, true, true, false, true, true, true, false, false, true, true, false, false, false, false] #[false, true, true, true, false, true, true, true, false, true, true, true, false, false, false, false] #[false, true, true, true, false, true, true, true, false, false, true, true, false, false, true, false] rfl rfl rfl rfl rfl rfl (three_of HT_.o (by kernel_rfl)) (by decide) (by decide) (by decide) (fun K hK => ?_) (fun K hK => ?_) (fun K hK => ?_)
                ·skip
                 refine Kd.R_lit_step (Kd.int .i64) _ 3 ?hg (N := 5) ?hd (xs := ([] : List Int)) (inner := []) (ok := fun _ => True) (okp := fun _ => True) ?hr ?hp (fun _ hk => hk) trivial (Below.refl _ _) (Nat.le_refl _) (by simp) ?_; (case hd => rfl); (case hg => rfl); (case hr => (go_simp; done)); (case hp => exact (Reps.none _ _))
                 intro a9 w7 bu hb hg_ hnew_
                 clear hg_ hnew_
                 (rw [← bM.o] at bu)
                 have n_ := a2 (Kd.R_lower bu (qAs HB.o)) (a2 (qAt (g := aC) (o := .cells #[.slice aT l0_0.length aW, .int .i64 a0_1, .slice aU l0_2.length aX, .slice aV l0_3.length aQ] 98 (0, 0)) aA.o hb) (a2 (qAt (g := aG) (o := .cells #[.slice none 0 0, .int .i64 0, .slice none 0 0, .slice none 0 0] 90 (0, 0)) aE.o hb) (am (qAp HB.o hb))))
                 clear aA aE HB
                 obtain ⟨aZ, aA, aE, HB⟩ := n_
                 clear hb bu
                 refine hK.o _ _ ⟨(qAa aA.o 0).trans rfl, (qAa aA.o 1).trans rfl, (qAa aA.o 2).trans rfl, (qAa aA.o 3).trans rfl⟩ (fun hHeld => ?_)
                 clear hK K
                 refine qBc (a' := ?_) ?_ ?_
                 rotate_left
                 ·show Act.put _ (some 5) _ = _
                  simp only [Act.put, List.setIfInBounds_toArray, List.set_cons_zero, List.set_cons_succ]
                  rfl
                 exact qBc (by (simp only [qBa, Act.put, List.setIfInBounds_toArray, List.set_cons_zero, List.set_cons_succ]; done)) (hJ0 (a9) _ ⟨hHeld, aZ.o, aA.o, aE.o, HB.o⟩)
                ·skip
                 refine Kd.R_lit_step (Kd.int .i64) _ 3 ?hg (N := 14) ?hd (xs := ([] : List Int)) (inner := []) (ok := fun _ => True) (okp := fun _ => True) ?hr ?hp (fun _ hk => hk) trivial (Below.refl _ _) (Nat.le_refl _) (by simp) ?_; (case hd => rfl); (case hg => rfl); (case hr => (go_simp; done)); (case hp => exact (Reps.none _ _))
                 intro a8 w7 bu hb hg_ hnew_
                 clear hg_ hnew_
                 (rw [← bF.o] at bu)
                 have n_ := a2 (Kd.R_lower bu (qAs HB.o)) (a2 (qAt (g := aC) (o := .cells #[.slice aT l0_0.length aW, .int .i64 a0_1, .slice aU l0_2.length aX, .slice aV l0_3.length aQ] 98 (0, 0)) aA.o hb) (a2 (qAt (g := aG) (o := .cells #[.slice none 0 0, .int .i64 0, .slice none 0 0, .slice none 0 0] 90 (0, 0)) aE.o hb) (am (qAp HB.o hb))))
                 clear aA aE HB
                 obtain ⟨aN, aA, aE, HB⟩ := n_
                 clear hb bu
                 refine hK.o _ _ ⟨(qAa aA.o 0).trans rfl, (qAa aA.o 1).trans rfl, (qAa aA.o 2).trans rfl, (qAa aA.o 3).trans rfl⟩ (fun hHeld => ?_)
                 clear hK K
                 refine qBc (a' := ?_) ?_ ?_
                 rotate_left
                 ·show Act.put _ (some 14) _ = _
                  simp only [Act.put, List.setIfInBounds_toArray, List.set_cons_zero, List.set_cons_succ]
                  rfl
                 exact qBc (by (simp only [qBa, Act.put, List.setIfInBounds_toArray, List.set_cons_zero, List.set_cons_succ]; done)) (hJ9 (a8) _ ⟨hHeld, aN.o, aA.o, aE.o, HB.o⟩)
                ·skip
                 refine qCN ?hg (N := 3) ?hd (cs := #[.slice none 0 0, .int .i64 0, .slice none 0 0, .slice none 0 0]) (t := 90) ?hr ?_; (case hd => rfl); (case hg => rfl); (case hr => (go_simp; done))
                 intro aD hg w7 hbox hb
                 have n_ := a2 (qAt (g := aC) (o := .cells #[.slice aT l0_0.length aW, .int .i64 a0_1, .slice aU l0_2.length aX, .slice aV l0_3.length aQ] 98 (0, 0)) aA.o hb) (a2 (qAt (g := aG) (o := .cells #[.slice none 0 0, .int .i64 0, .slice none 0 0, .slice none 0 0] 90 (0, 0)) aE.o hb) (a2 (qAp HB.o hb) (a2 (hbox) (a2 (by rw [hg]; exact (qAs HB.o) : w.heap.size ≤ aD) (a2 (by rw [hg]; exact (qAs HB.o) : w.heap.size ≤ aD) (a2 (by rw [hg]; exact Nat.ne_of_lt (qAM (g := aC) (o := .cells #[.slice aT l0_0.length aW, .int .i64 a0_1, .slice aU l0_2.length aX, .slice aV l0_3.length aQ] 98 (0, 0)) aA.o) : aC ≠ aD) (a2 (by rw [hg]; exact Nat.ne_of_gt (qAM (g := aC) (o := .cells #[.slice aT l0_0.length aW, .int .i64 a0_1, .slice aU l0_2.length aX, .slice aV l0_3.length aQ] 98 (0, 0)) aA.o) : aD ≠ aC) (a2 (by rw [hg]; exact Nat.ne_of_lt (qAM (g := aG) (o := .cells #[.slice none 0 0, .int .i64 0, .slice none 0 0, .slice none 0 0] 90 (0, 0)) aE.o) : aG ≠ aD) (am (by rw [hg]; exact Nat.ne_of_gt (qAM (g := aG) (o := .cells #[.slice none 0 0, .int .i64 0, .slice none 0 0, .slice none 0 0] 90 (0, 0)) aE.o) : aD ≠ aG))))))))))
                 clear aA aE HB
                 obtain ⟨aA, aE, HB, aI, aa, a7, aH, aK, aJ, aM⟩ := n_
                 clear hb hbox hg
                 refine hK.o _ _ ⟨(qAa aA.o 0).trans rfl, (qAa aA.o 1).trans rfl, (qAa aA.o 2).trans rfl, (qAa aA.o 3).trans rfl⟩ (fun hHeld => ?_)
                 clear hK K
                 refine qBc (a' := ?_) ?_ ?_
                 rotate_left
                 ·show Act.put _ (some 3) _ = _
                  simp only [Act.put, List.setIfInBounds_toArray, List.set_cons_zero, List.set_cons_succ]
                  rfl
                 exact qBc (by (simp only [qBa, Act.put, List.setIfInBounds_toArray, List.set_cons_zero, List.set_cons_succ]; done)) (hJ14 (aD) _ ⟨hHeld, aA.o, aE.o, aI.o, aa.o, a7.o, aH.o, aK.o, aJ.o, aM.o, HB.o⟩)
               ·skip
                rintro aD w8 ⟨hS_, h0_, h1_, h2_, h3_, h4_, h5_, h6_, h7_, h8_, h9_⟩
                have n0_ : qAj (w8.heap[aC]? = some (.cells #[.slice aT l0_0.length aW, .int .i64 a0_1, .slice aU l0_2.length aX, .slice aV l0_3.length aQ] 98 (0, 0))) := ⟨h0_⟩
                have n1_ : qAj (w8.heap[aG]? = some (.cells #[.slice none 0 0, .int .i64 0, .slice none 0 0, .slice none 0 0] 90 (0, 0))) := ⟨h1_⟩
                have n2_ : qAj (w8.heap[aD]? = some (.cells #[.slice none 0 0, .int .i64 0, .slice none 0 0, .slice none 0 0] 90 (0, 0))) := ⟨h2_⟩
                have n3_ : qAj (w.heap.size ≤ aD) := ⟨h3_⟩
                have n4_ : qAj (w.heap.size ≤ aD) := ⟨h4_⟩
                have n5_ : qAj (aC ≠ aD) := ⟨h5_⟩
                have n6_ : qAj (aD ≠ aC) := ⟨h6_⟩
                have n7_ : qAj (aG ≠ aD) := ⟨h7_⟩
                have n8_ : qAj (aD ≠ aG) := ⟨h8_⟩
                have n9_ : qAj (Below w.heap.size w w8) := ⟨h9_⟩
                clear aA aE HB h0_ h1_ h2_ h3_ h4_ h5_ h6_ h7_ h8_ h9_
                have aA := n0_
                have aE := n1_
                have aI := n2_
                have aa := n3_
                have a7 := n4_
                have aH := n5_
                have aK := n6_
                have aJ := n7_
                have aM := n8_
                have HB := n9_
                clear n0_ n1_ n2_ n3_ n4_ n5_ n6_ n7_ n8_ n9_
                refine qBc (a' := ?_) ?_ ?_
                rotate_left
                ·simp only [qBa, Act.put, List.setIfInBounds_toArray, List.set_cons_zero, List.set_cons_succ]
                 rfl
                refine two_ (i := 0) (j := 9) (Ni := some 5) (Nj := some 14) #[true, true, true, true, false, true, true, true, false, false, true, true, false, false, true, false] #[false, true, true, true, false, true, true, true, false, true, true, true, false, false, true, false] rfl rfl rfl rfl (two_of HT_.o (by kernel_rfl)) (by decide) (by decide) (fun K hK => ?_) (fun K hK => ?_)
                ·skip
                 refine Kd.R_lit_step (Kd.int .i64) _ 3 ?hg (N := 5) ?hd (xs := ([] : List Int)) (inner := []) (ok := fun _ => True) (okp := fun _ => True) ?hr ?hp (fun _ hk => hk) trivial (Below.refl _ _) (Nat.le_refl _) (by simp) ?_; (case hd => rfl); (case hg => rfl); (case hr => (go_simp; done)); (case hp => exact (Reps.none _ _))
                 intro a9 w9 ho10 hb hg_ hnew_
                 clear hg_ hnew_
                 (rw [← bM.o] at ho10)
                 have n_ := a2 (Kd.R_lower ho10 (qAs HB.o)) (a2 (qAt (g := aC) (o := .cells #[.slice aT l0_0.length aW, .int .i64 a0_1, .slice aU l0_2.length aX, .slice aV l0_3.length aQ] 98 (0, 0)) aA.o hb) (a2 (qAt (g := aG) (o := .cells #[.slice none 0 0, .int .i64 0, .slice none 0 0, .slice none 0 0] 90 (0, 0)) aE.o hb) (a2 (qAt (g := aD) (o := .cells #[.slice none 0 0, .int .i64 0, .slice none 0 0, .slice none 0 0] 90 (0, 0)) aI.o hb) (am (qAp HB.o hb)))))
                 clear aA aE aI HB
                 obtain ⟨aZ, aA, aE, aI, HB⟩ := n_
                 clear hb ho10
                 refine hK.o _ _ ⟨(qAa aA.o 0).trans rfl, (qAa aA.o 1).trans rfl, (qAa aA.o 2).trans rfl, (qAa aA.o 3).trans rfl⟩ (fun hHeld => ?_)
                 clear hK K
                 refine qBc (a' := ?_) ?_ ?_
                 rotate_left
                 ·show Act.put _ (some 5) _ = _
                  simp only [Act.put, List.setIfInBounds_toArray, List.set_cons_zero, List.set_cons_succ]
                  rfl
                 exact qBc (by (simp only [qBa, Act.put, List.setIfInBounds_toArray, List.set_cons_zero, List.set_cons_succ]; done)) (hJ0_14 (a9, aD) _ ⟨hHeld, aZ.o, aA.o, aE.o, aI.o, aa.o, a7.o, aH.o, aK.o, aJ.o, aM.o, HB.o⟩)
                ·skip
                 refine Kd.R_lit_step (Kd.int .i64) _ 3 ?hg (N := 14) ?hd (xs := ([] : List Int)) (inner := []) (ok := fun _ => True) (okp := fun _ => True) ?hr ?hp (fun _ hk => hk) trivial (Below.refl _ _) (Nat.le_refl _) (by simp) ?_; (case hd => rfl); (case hg => rfl); (case hr => (go_simp; done)); (case hp => exact (Reps.none _ _))
                 intro a8 w9 ho10 hb hg_ hnew_
                 clear hg_ hnew_
                 (rw [← bF.o] at ho10)
                 have n_ := a2 (Kd.R_lower ho10 (qAs HB.o)) (a2 (qAt (g := aC) (o := .cells #[.slice aT l0_0.length aW, .int .i64 a0_1, .slice aU l0_2.length aX, .slice aV l0_3.length aQ] 98 (0, 0)) aA.o hb) (a2 (qAt (g := aG) (o := .cells #[.slice none 0 0, .int .i64 0, .slice none 0 0, .slice none 0 0] 90 (0, 0)) aE.o hb) (a2 (qAt (g := aD) (o := .cells #[.slice none 0 0, .int .i64 0, .slice none 0 0, .slice none 0 0] 90 (0, 0)) aI.o hb) (am (qAp HB.o hb)))))
                 clear aA aE aI HB
                 obtain ⟨aN, aA, aE, aI, HB⟩ := n_
                 clear hb ho10
                 refine hK.o _ _ ⟨(qAa aA.o 0).trans rfl, (qAa aA.o 1).trans rfl, (qAa aA.o 2).trans rfl, (qAa aA.o 3).trans rfl⟩ (fun hHeld => ?_)
                 clear hK K
                 refine qBc (a' := ?_) ?_ ?_
                 rotate_left
                 ·show Act.put _ (some 14) _ = _
                  simp only [Act.put, List.setIfInBounds_toArray, List.set_cons_zero, List.set_cons_succ]
                  rfl
                 exact qBc (by (simp only [qBa, Act.put, List.setIfInBounds_toArray, List.set_cons_zero, List.set_cons_succ]; done)) (hJ9_14 (a8, aD) _ ⟨hHeld, aN.o, aA.o, aE.o, aI.o, aa.o, a7.o, aH.o, aK.o, aJ.o, aM.o, HB.o⟩)
              ·skip
               rintro a8 w9 ⟨hS_, h0_, h1_, h2_, h3_⟩
               have n0_ : qAj (Kd.R (Kd.int .i64) 3 w9 w.heap.size (fun _ => True) a8 af) := ⟨h0_⟩
               have n1_ : qAj (w9.heap[aC]? = some (.cells #[.slice aT l0_0.length aW, .int .i64 a0_1, .slice aU l0_2.length aX, .slice aV l0_3.length aQ] 98 (0, 0))) := ⟨h1_⟩
               have n2_ : qAj (w9.heap[aG]? = some (.cells #[.slice none 0 0, .int .i64 0, .slice none 0 0, .slice none 0 0] 90 (0, 0))) := ⟨h2_⟩
               have n3_ : qAj (Below w.heap.size w w9) := ⟨h3_⟩
               clear aA aE HB h0_ h1_ h2_ h3_
               have aN := n0_
               have aA := n1_
               have aE := n2_
               have HB := n3_
               clear n0_ n1_ n2_ n3_
               refine qBc (a' := ?_) ?_ ?_
               rotate_left
               ·simp only [qBa, Act.put, List.setIfInBounds_toArray, List.set_cons_zero, List.set_cons_succ]
                rfl
               refine two_ (i := 0) (j := 14) (Ni := some 5) (Nj := some 3) #[true, true, true, true, false, true, true, true, false, true, true, true, false, false, false, false] #[false, true, true, true, false, true, true, true, false, true, true, true, false, false, true, false] rfl rfl rfl rfl (two_of HT_.o (by kernel_rfl)) (by decide) (by decide) (fun K hK => ?_) (fun K hK => ?_)
               ·skip
                refine Kd.R_lit_step (Kd.int .i64) _ 3 ?hg (N := 5) ?hd (xs := ([] : List Int)) (inner := []) (ok := fun _ => True) (okp := fun _ => True) ?hr ?hp (fun _ hk => hk) trivial (Below.refl _ _) (Nat.le_refl _) (by simp) ?_; (case hd => rfl); (case hg => rfl); (case hr => (go_simp; done)); (case hp => exact (Reps.none _ _))
                intro a9 bI ho11 hb hg_ hnew_
                clear hg_ hnew_
                (rw [← bM.o] at ho11)
                have n_ := a2 (Kd.R_elder' aN.o (Kd.R_base ho11) hb) (a2 (Kd.R_lower (Kd.R_new' ho11 (Kd.R_lt aN.o)) (qAs HB.o)) (a2 (qAt (g := aC) (o := .cells #[.slice aT l0_0.length aW, .int .i64 a0_1, .slice aU l0_2.length aX, .slice aV l0_3.length aQ] 98 (0, 0)) aA.o hb) (a2 (qAt (g := aG) (o := .cells #[.slice none 0 0, .int .i64 0, .slice none 0 0, .slice none 0 0] 90 (0, 0)) aE.o hb) (am (qAp HB.o hb)))))
                clear aN aA aE HB
                obtain ⟨aN, aZ, aA, aE, HB⟩ := n_
                clear hb ho11
                refine hK.o _ _ ⟨(qAa aA.o 0).trans rfl, (qAa aA.o 1).trans rfl, (qAa aA.o 2).trans rfl, (qAa aA.o 3).trans rfl⟩ (fun hHeld => ?_)
                clear hK K
                refine qBc (a' := ?_) ?_ ?_
                rotate_left
                ·show Act.put _ (some 5) _ = _
                 simp only [Act.put, List.setIfInBounds_toArray, List.set_cons_zero, List.set_cons_succ]
                 rfl
                exact qBc (by (simp only [qBa, Act.put, List.setIfInBounds_toArray, List.set_cons_zero, List.set_cons_succ]; done)) (hJ0_9 (a9, a8) _ ⟨hHeld, (by exact Kd.R_mono aZ.o (fun _ hk => hk.2)), (by exact Kd.R_mono aN.o (fun _ hk => hk.2)), aA.o, aE.o, HB.o⟩)
               ·skip
                refine qCN ?hg (N := 3) ?hd (cs := #[.slice none 0 0, .int .i64 0, .slice none 0 0, .slice none 0 0]) (t := 90) ?hr ?_; (case hd => rfl); (case hg => rfl); (case hr => (go_simp; done))
                intro aD hg bI hbox hb
                have n_ := a2 (Kd.R_below aN.o hb) (a2 (qAt (g := aC) (o := .cells #[.slice aT l0_0.length aW, .int .i64 a0_1, .slice aU l0_2.length aX, .slice aV l0_3.length aQ] 98 (0, 0)) aA.o hb) (a2 (qAt (g := aG) (o := .cells #[.slice none 0 0, .int .i64 0, .slice none 0 0, .slice none 0 0] 90 (0, 0)) aE.o hb) (a2 (qAp HB.o hb) (a2 (hbox) (a2 (by rw [hg]; exact (qAs HB.o) : w.heap.size ≤ aD) (a2 (by rw [hg]; exact (qAs HB.o) : w.heap.size ≤ aD) (a2 (by rw [hg]; exact Nat.ne_of_lt (qAM (g := aC) (o := .cells #[.slice aT l0_0.length aW, .int .i64 a0_1, .slice aU l0_2.length aX, .slice aV l0_3.length aQ] 98 (0, 0)) aA.o) : aC ≠ aD) (a2 (by rw [hg]; exact Nat.ne_of_gt (qAM (g := aC) (o := .cells #[.slice aT l0_0.length aW, .int .i64 a0_1, .slice aU l0_2.length aX, .slice aV l0_3.length aQ] 98 (0, 0)) aA.o) : aD ≠ aC) (a2 (by rw [hg]; exact Nat.ne_of_lt (qAM (g := aG) (o := .cells #[.slice none 0 0, .int .i64 0, .slice none 0 0, .slice none 0 0] 90 (0, 0)) aE.o) : aG ≠ aD) (am (by rw [hg]; exact Nat.ne_of_gt (qAM (g := aG) (o := .cells #[.slice none 0 0, .int .i64 0, .slice none 0 0, .slice none 0 0] 90 (0, 0)) aE.o) : aD ≠ aG)))))))))))
                clear aN aA aE HB
                obtain ⟨aN, aA, aE, HB, aI, aa, a7, aH, aK, aJ, aM⟩ := n_
                clear hb hbox hg
                refine hK.o _ _ ⟨(qAa aA.o 0).trans rfl, (qAa aA.o 1).trans rfl, (qAa aA.o 2).trans rfl, (qAa aA.o 3).trans rfl⟩ (fun hHeld => ?_)
                clear hK K
                refine qBc (a' := ?_) ?_ ?_
                rotate_left
                ·show Act.put _ (some 3) _ = _
                 simp only [Act.put, List.setIfInBounds_toArray, List.set_cons_zero, List.set_cons_succ]
                 rfl
                exact qBc (by (simp only [qBa, Act.put, List.setIfInBounds_toArray, List.set_cons_zero, List.set_cons_succ]; done)) (hJ9_14 (a8, aD) _ ⟨hHeld, aN.o, aA.o, aE.o, aI.o, aa.o, a7.o, aH.o, aK.o, aJ.o, aM.o, HB.o⟩)
             ·skip
              rintro a9 w9 ⟨hS_, h0_, h1_, h2_, h3_⟩
              have n0_ : qAj (Kd.R (Kd.int .i64) 3 w9 w.heap.size (fun _ => True) a9 aj) := ⟨h0_⟩
              have n1_ : qAj (w9.heap[aC]? = some (.cells #[.slice aT l0_0.length aW, .int .i64 a0_1, .slice aU l0_2.length aX, .slice aV l0_3.length aQ] 98 (0, 0))) := ⟨h1_⟩
              have n2_ : qAj (w9.heap[aG]? = some (.cells #[.slice none 0 0, .int .i64 0, .slice none 0 0, .slice none 0 0] 90 (0, 0))) := ⟨h2_⟩
              have n3_ : qAj (Below w.heap.size w w9) := ⟨h3_⟩
              clear aA aE HB h0_ h1_ h2_ h3_
              have aZ := n0_
              have aA := n1_
              have aE := n2_
              have HB := n3_
              clear n0_ n1_ n2_ n3_
              refine qBc (a' := ?_) ?_ ?_
              rotate_left
              ·simp only [qBa, Act.put, List.setIfInBounds_toArray, List.set_cons_zero, List.set_cons_succ]
               rfl
              refine three_ (i := 4) (j := 9) (k := 14) (Ni := some 9) (Nj := some 14) (Nk := some 3) #[true, true, true, true, true, true, true, true, false, false, true, true, false, false, false, false] #[true, true, true, true, false, true, true, true, false, true, true, true, false, false, false, false] #[true, true, true, true, false, true, true, true, false, false, true, true, false, false, true, false] rfl rfl rfl rfl rfl rfl (three_of HT_.o (by kernel_rfl)) (by decide) (by decide) (by decide) (fun K hK => ?_) (fun K hK => ?_) (fun K hK => ?_)
              ·skip
               refine Kd.R_append_rows_step (Kd.int .i64) (w0 := w) w.heap.size (by rfl) (.tmp 5) (.tmp 8) 57 3 (.int .i64 0) 8 rfl Tryz.underlying57 info3 rfl (by decide) (by omega) a9 aj l0_0 _ _ _ (fun _ => True) (fun _ => False) rfl rfl ?aO ?aR (fun _ _ h => h) (fun _ h => h.elim) ?aF ?aB ?aS ?aL ?_
               (case aR => exact (Kd.C_below bL.o HB.o))
               (case aB => exact HB.o)
               (case aF => exact (fun _ _ => trivial))
               (case aO => exact aZ.o)
               (case aS => exact (qAs HB.o))
               (case aL => have := b6.o; omega)
               intro an bI ho hb hg bH
               rw [← bN.o] at ho
               have n_ := a2 (qAP (g := aC) (o := .cells #[.slice aT l0_0.length aW, .int .i64 a0_1, .slice aU l0_2.length aX, .slice aV l0_3.length aQ] 98 (0, 0)) aA.o hg (Kd.R_ne aZ.o aA.o (by decide))) (a2 (qAP (g := aG) (o := .cells #[.slice none 0 0, .int .i64 0, .slice none 0 0, .slice none 0 0] 90 (0, 0)) aE.o hg (Kd.R_ne aZ.o aE.o (by decide))) (a2 (hb) (am (ho))))
               clear aA aE HB aZ
               obtain ⟨aA, aE, HB, aY⟩ := n_
               clear ho hb hg bH
               obtain ⟨ca, cc, cg⟩ := Kd.R_slice aY.o
               (subst cg)
               refine hK.o _ _ ⟨(qAa aA.o 0).trans rfl, (qAa aA.o 1).trans rfl, (qAa aA.o 2).trans rfl, (qAa aA.o 3).trans rfl⟩ (fun hHeld => ?_)
               clear hK K
               refine qBc (a' := ?_) ?_ ?_
               rotate_left
               ·show Act.put _ (some 9) _ = _
                simp only [Act.put, List.setIfInBounds_toArray, List.set_cons_zero, List.set_cons_succ]
                rfl
               refine pu 8 13 #[true, true, true, true, true, true, true, true, true, false, true, true, false, false, false, false] (qAK HT_.o (by kernel_rfl)) ?_
               exact qBc (by (simp only [qBa, Act.put, List.setIfInBounds_toArray, List.set_cons_zero, List.set_cons_succ]; done)) (hJ0_4 (a9, .slice ca a5.length cc) _ ⟨hHeld, aY.o, aA.o, aE.o, HB.o⟩)
              ·skip
               refine Kd.R_lit_step (Kd.int .i64) _ 3 ?hg (N := 14) ?hd (xs := ([] : List Int)) (inner := []) (ok := fun _ => True) (okp := fun _ => True) ?hr ?hp (fun _ hk => hk) trivial (Below.refl _ _) (Nat.le_refl _) (by simp) ?_; (case hd => rfl); (case hg => rfl); (case hr => (go_simp; done)); (case hp => exact (Reps.none _ _))
               intro a8 bI ho11 hb hg_ hnew_
               clear hg_ hnew_
               (rw [← bF.o] at ho11)
               have n_ := a2 (Kd.R_elder' aZ.o (Kd.R_base ho11) hb) (a2 (Kd.R_lower (Kd.R_new' ho11 (Kd.R_lt aZ.o)) (qAs HB.o)) (a2 (qAt (g := aC) (o := .cells #[.slice aT l0_0.length aW, .int .i64 a0_1, .slice aU l0_2.length aX, .slice aV l0_3.length aQ] 98 (0, 0)) aA.o hb) (a2 (qAt (g := aG) (o := .cells #[.slice none 0 0, .int .i64 0, .slice none 0 0, .slice none 0 0] 90 (0, 0)) aE.o hb) (am (qAp HB.o hb)))))
               clear aZ aA aE HB
               obtain ⟨aZ, aN, aA, aE, HB⟩ := n_
               clear hb ho11
               refine hK.o _ _ ⟨(qAa aA.o 0).trans rfl, (qAa aA.o 1).trans rfl, (qAa aA.o 2).trans rfl, (qAa aA.o 3).trans rfl⟩ (fun hHeld => ?_)
               clear hK K
               refine qBc (a' := ?_) ?_ ?_
               rotate_left
               ·show Act.put _ (some 14) _ = _
                simp only [Act.put, List.setIfInBounds_toArray, List.set_cons_zero, List.set_cons_succ]
                rfl
               exact qBc (by (simp only [qBa, Act.put, List.setIfInBounds_toArray, List.set_cons_zero, List.set_cons_succ]; done)) (hJ0_9 (a9, a8) _ ⟨hHeld, (by exact Kd.R_mono aZ.o (fun _ hk => hk.2)), (by exact Kd.R_mono aN.o (fun _ hk => hk.2)), aA.o, aE.o, HB.o⟩)
              ·skip
               refine qCN ?hg (N := 3) ?hd (cs := #[.slice none 0 0, .int .i64 0, .slice none 0 0, .slice none 0 0]) (t := 90) ?hr ?_; (case hd => rfl); (case hg => rfl); (case hr => (go_simp; done))
               intro aD hg bI hbox hb
               have n_ := a2 (Kd.R_below aZ.o hb) (a2 (qAt (g := aC) (o := .cells #[.slice aT l0_0.length aW, .int .i64 a0_1, .slice aU l0_2.length aX, .slice aV l0_3.length aQ] 98 (0, 0)) aA.o hb) (a2 (qAt (g := aG) (o := .cells #[.slice none 0 0, .int .i64 0, .slice none 0 0, .slice none 0 0] 90 (0, 0)) aE.o hb) (a2 (qAp HB.o hb) (a2 (hbox) (a2 (by rw [hg]; exact (qAs HB.o) : w.heap.size ≤ aD) (a2 (by rw [hg]; exact (qAs HB.o) : w.heap.size ≤ aD) (a2 (by rw [hg]; exact Nat.ne_of_lt (qAM (g := aC) (o := .cells #[.slice aT l0_0.length aW, .int .i64 a0_1, .slice aU l0_2.length aX, .slice aV l0_3.length aQ] 98 (0, 0)) aA.o) : aC ≠ aD) (a2 (by rw [hg]; exact Nat.ne_of_gt (qAM (g := aC) (o := .cells #[.slice aT l0_0.length aW, .int .i64 a0_1, .slice aU l0_2.length aX, .slice aV l0_3.length aQ] 98 (0, 0)) aA.o) : aD ≠ aC) (a2 (by rw [hg]; exact Nat.ne_of_lt (qAM (g := aG) (o := .cells #[.slice none 0 0, .int .i64 0, .slice none 0 0, .slice none 0 0] 90 (0, 0)) aE.o) : aG ≠ aD) (am (by rw [hg]; exact Nat.ne_of_gt (qAM (g := aG) (o := .cells #[.slice none 0 0, .int .i64 0, .slice none 0 0, .slice none 0 0] 90 (0, 0)) aE.o) : aD ≠ aG)))))))))))
               clear aZ aA aE HB
               obtain ⟨aZ, aA, aE, HB, aI, aa, a7, aH, aK, aJ, aM⟩ := n_
               clear hb hbox hg
               refine hK.o _ _ ⟨(qAa aA.o 0).trans rfl, (qAa aA.o 1).trans rfl, (qAa aA.o 2).trans rfl, (qAa aA.o 3).trans rfl⟩ (fun hHeld => ?_)
               clear hK K
               refine qBc (a' := ?_) ?_ ?_
               rotate_left
               ·show Act.put _ (some 3) _ = _
                simp only [Act.put, List.setIfInBounds_toArray, List.set_cons_zero, List.set_cons_succ]
                rfl
               exact qBc (by (simp only [qBa, Act.put, List.setIfInBounds_toArray, List.set_cons_zero, List.set_cons_succ]; done)) (hJ0_14 (a9, aD) _ ⟨hHeld, aZ.o, aA.o, aE.o, aI.o, aa.o, a7.o, aH.o, aK.o, aJ.o, aM.o, HB.o⟩)
            ·skip
             rintro ⟨a8, aD⟩ bI ⟨hS_, h0_, h1_, h2_, h3_, h4_, h5_, h6_, h7_, h8_, h9_, h10_⟩
             have n0_ : qAj (Kd.R (Kd.int .i64) 3 bI w.heap.size (fun _ => True) a8 af) := ⟨h0_⟩
             have n1_ : qAj (bI.heap[aC]? = some (.cells #[.slice aT l0_0.length aW, .int .i64 a0_1, .slice aU l0_2.length aX, .slice aV l0_3.length aQ] 98 (0, 0))) := ⟨h1_⟩
             have n2_ : qAj (bI.heap[aG]? = some (.cells #[.slice none 0 0, .int .i64 0, .slice none 0 0, .slice none 0 0] 90 (0, 0))) := ⟨h2_⟩
             have n3_ : qAj (bI.heap[aD]? = some (.cells #[.slice none 0 0, .int .i64 0, .slice none 0 0, .slice none 0 0] 90 (0, 0))) := ⟨h3_⟩
             have n4_ : qAj (w.heap.size ≤ aD) := ⟨h4_⟩
             have n5_ : qAj (w.heap.size ≤ aD) := ⟨h5_⟩
             have n6_ : qAj (aC ≠ aD) := ⟨h6_⟩
             have n7_ : qAj (aD ≠ aC) := ⟨h7_⟩
             have n8_ : qAj (aG ≠ aD) := ⟨h8_⟩
             have n9_ : qAj (aD ≠ aG) := ⟨h9_⟩
             have n10_ : qAj (Below w.heap.size w bI) := ⟨h10_⟩
             clear aA aE HB h0_ h1_ h2_ h3_ h4_ h5_ h6_ h7_ h8_ h9_ h10_
             have aN := n0_
             have aA := n1_
             have aE := n2_
             have aI := n3_
             have aa := n4_
             have a7 := n5_
             have aH := n6_
             have aK := n7_
             have aJ := n8_
             have aM := n9_
             have HB := n10_
             clear n0_ n1_ n2_ n3_ n4_ n5_ n6_ n7_ n8_ n9_ n10_
             refine qBc (a' := ?_) ?_ ?_
             rotate_left
             ·simp only [qBa, Act.put, List.setIfInBounds_toArray, List.set_cons_zero, List.set_cons_succ]
              rfl
             refine one_ (i := 0) (N := some 5) #[true, true, true, true, false, true, true, true, false, true, true, true, false, false, true, false] rfl rfl (qBq HT_.o (by kernel_rfl)) (by decide) (fun K hK => ?_)
             refine Kd.R_lit_step (Kd.int .i64) _ 3 ?hg (N := 5) ?hd (xs := ([] : List Int)) (inner := []) (ok := fun _ => True) (okp := fun _ => True) ?hr ?hp (fun _ hk => hk) trivial (Below.refl _ _) (Nat.le_refl _) (by simp) ?_; (case hd => rfl); (case hg => rfl); (case hr => (go_simp; done)); (case hp => exact (Reps.none _ _))
             intro a9 bS ho12 hb hg_ hnew_
             clear hg_ hnew_
             (rw [← bM.o] at ho12)
             have n_ := a2 (Kd.R_elder' aN.o (Kd.R_base ho12) hb) (a2 (Kd.R_lower (Kd.R_new' ho12 (Kd.R_lt aN.o)) (qAs HB.o)) (a2 (qAt (g := aC) (o := .cells #[.slice aT l0_0.length aW, .int .i64 a0_1, .slice aU l0_2.length aX, .slice aV l0_3.length aQ] 98 (0, 0)) aA.o hb) (a2 (qAt (g := aG) (o := .cells #[.slice none 0 0, .int .i64 0, .slice none 0 0, .slice none 0 0] 90 (0, 0)) aE.o hb) (a2 (qAt (g := aD) (o := .cells #[.slice none 0 0, .int .i64 0, .slice none 0 0, .slice none 0 0] 90 (0, 0)) aI.o hb) (am (qAp HB.o hb))))))
             clear aN aA aE aI HB
             obtain ⟨aN, aZ, aA, aE, aI, HB⟩ := n_
             clear hb ho12
             refine hK.o _ _ ⟨(qAa aA.o 0).trans rfl, (qAa aA.o 1).trans rfl, (qAa aA.o 2).trans rfl, (qAa aA.o 3).trans rfl⟩ (fun hHeld => ?_)
             clear hK K
             refine qBc (a' := ?_) ?_ ?_
             rotate_left
             ·show Act.put _ (some 5) _ = _
              simp only [Act.put, List.setIfInBounds_toArray, List.set_cons_zero, List.set_cons_succ]
              rfl
             exact qBc (by (simp only [qBa, Act.put, List.setIfInBounds_toArray, List.set_cons_zero, List.set_cons_succ]; done)) (hJ0_9_14 (a9, a8, aD) _ ⟨hHeld, (by exact Kd.R_mono aZ.o (fun _ hk => hk.2)), (by exact Kd.R_mono aN.o (fun _ hk => hk.2)), aA.o, aE.o, aI.o, aa.o, a7.o, aH.o, aK.o, aJ.o, aM.o, HB.o⟩)
           ·skip
            rintro ⟨a9, aD⟩ bI ⟨hS_, h0_, h1_, h2_, h3_, h4_, h5_, h6_, h7_, h8_, h9_, h10_⟩
            have n0_ : qAj (Kd.R (Kd.int .i64) 3 bI w.heap.size (fun _ => True) a9 aj) := ⟨h0_⟩
            have n1_ : qAj (bI.heap[aC]? = some (.cells #[.slice aT l0_0.length aW, .int .i64 a0_1, .slice aU l0_2.length aX, .slice aV l0_3.length aQ] 98 (0, 0))) := ⟨h1_⟩
            have n2_ : qAj (bI.heap[aG]? = some (.cells #[.slice none 0 0, .int .i64 0, .slice none 0 0, .slice none 0 0] 90 (0, 0))) := ⟨h2_⟩
            have n3_ : qAj (bI.heap[aD]? = some (.cells #[.slice none 0 0, .int .i64 0, .slice none 0 0, .slice none 0 0] 90 (0, 0))) := ⟨h3_⟩
            have n4_ : qAj (w.heap.size ≤ aD) := ⟨h4_⟩
            have n5_ : qAj (w.heap.size ≤ aD) := ⟨h5_⟩
            have n6_ : qAj (aC ≠ aD) := ⟨h6_⟩
            have n7_ : qAj (aD ≠ aC) := ⟨h7_⟩
            have n8_ : qAj (aG ≠ aD) := ⟨h8_⟩
            have n9_ : qAj (aD ≠ aG) := ⟨h9_⟩
            have n10_ : qAj (Below w.heap.size w bI) := ⟨h10_⟩
            clear aA aE HB h0_ h1_ h2_ h3_ h4_ h5_ h6_ h7_ h8_ h9_ h10_
            have aZ := n0_
            have aA := n1_
            have aE := n2_
            have aI := n3_
            have aa := n4_
            have a7 := n5_
            have aH := n6_
            have aK := n7_
            have aJ := n8_
            have aM := n9_
            have HB := n10_
            clear n0_ n1_ n2_ n3_ n4_ n5_ n6_ n7_ n8_ n9_ n10_
            refine qBc (a' := ?_) ?_ ?_
            rotate_left
            ·simp only [qBa, Act.put, List.setIfInBounds_toArray, List.set_cons_zero, List.set_cons_succ]
             rfl
            refine two_ (i := 4) (j := 9) (Ni := some 9) (Nj := some 14) #[true, true, true, true, true, true, true, true, false, false, true, true, false, false, true, false] #[true, true, true, true, false, true, true, true, false, true, true, true, false, false, true, false] rfl rfl rfl rfl (two_of HT_.o (by kernel_rfl)) (by decide) (by decide) (fun K hK => ?_) (fun K hK => ?_)
            ·skip
             refine Kd.R_append_rows_step (Kd.int .i64) (w0 := w) w.heap.size (by rfl) (.tmp 5) (.tmp 8) 57 3 (.int .i64 0) 8 rfl Tryz.underlying57 info3 rfl (by decide) (by omega) a9 aj l0_0 _ _ _ (fun _ => True) (fun _ => False) rfl rfl ?aO ?aR (fun _ _ h => h) (fun _ h => h.elim) ?aF ?aB ?aS ?aL ?_
             (case aR => exact (Kd.C_below bL.o HB.o))
             (case aB => exact HB.o)
             (case aF => exact (fun _ _ => trivial))
             (case aO => exact aZ.o)
             (case aS => exact (qAs HB.o))
             (case aL => have := b6.o; omega)
             intro an bS ho hb hg bH
             rw [← bN.o] at ho
             have n_ := a2 (qAP (g := aC) (o := .cells #[.slice aT l0_0.length aW, .int .i64 a0_1, .slice aU l0_2.length aX, .slice aV l0_3.length aQ] 98 (0, 0)) aA.o hg (Kd.R_ne aZ.o aA.o (by decide))) (a2 (qAP (g := aG) (o := .cells #[.slice none 0 0, .int .i64 0, .slice none 0 0, .slice none 0 0] 90 (0, 0)) aE.o hg (Kd.R_ne aZ.o aE.o (by decide))) (a2 (qAP (g := aD) (o := .cells #[.slice none 0 0, .int .i64 0, .slice none 0 0, .slice none 0 0] 90 (0, 0)) aI.o hg (Kd.R_ne aZ.o aI.o (by decide))) (a2 (hb) (am (ho)))))
             clear aA aE aI HB aZ
             obtain ⟨aA, aE, aI, HB, aY⟩ := n_
             clear ho hb hg bH
             obtain ⟨b3, b7, bp⟩ := Kd.R_slice aY.o
             (subst bp)
             refine hK.o _ _ ⟨(qAa aA.o 0).trans rfl, (qAa aA.o 1).trans rfl, (qAa aA.o 2).trans rfl, (qAa aA.o 3).trans rfl⟩ (fun hHeld => ?_)
             clear hK K
             refine qBc (a' := ?_) ?_ ?_
             rotate_left
             ·show Act.put _ (some 9) _ = _
              simp only [Act.put, List.setIfInBounds_toArray, List.set_cons_zero, List.set_cons_succ]
              rfl
             refine pu 8 13 #[true, true, true, true, true, true, true, true, true, false, true, true, false, false, true, false] (qAK HT_.o (by kernel_rfl)) ?_
             exact qBc (by (simp only [qBa, Act.put, List.setIfInBounds_toArray, List.set_cons_zero, List.set_cons_succ]; done)) (hJ0_4_14 (a9, .slice b3 a5.length b7, aD) _ ⟨hHeld, aY.o, aA.o, aE.o, aI.o, aa.o, a7.o, aH.o, aK.o, aJ.o, aM.o, HB.o⟩)
            ·skip
             refine Kd.R_lit_step (Kd.int .i64) _ 3 ?hg (N := 14) ?hd (xs := ([] : List Int)) (inner := []) (ok := fun _ => True) (okp := fun _ => True) ?hr ?hp (fun _ hk => hk) trivial (Below.refl _ _) (Nat.le_refl _) (by simp) ?_; (case hd => rfl); (case hg => rfl); (case hr => (go_simp; done)); (case hp => exact (Reps.none _ _))
             intro a8 bS ho12 hb hg_ hnew_
             clear hg_ hnew_
             (rw [← bF.o] at ho12)
             have n_ := a2 (Kd.R_elder' aZ.o (Kd.R_base ho12) hb) (a2 (Kd.R_lower (Kd.R_new' ho12 (Kd.R_lt aZ.o)) (qAs HB.o)) (a2 (qAt (g := aC) (o := .cells #[.slice aT l0_0.length aW, .int .i64 a0_1, .slice aU l0_2.length aX, .slice aV l0_3.length aQ] 98 (0, 0)) aA.o hb) (a2 (qAt (g := aG) (o := .cells #[.slice none 0 0, .int .i64 0, .slice none 0 0, .slice none 0 0] 90 (0, 0)) aE.o hb) (a2 (qAt (g := aD) (o := .cells #[.slice none 0 0, .int .i64 0, .slice none 0 0, .slice none 0 0] 90 (0, 0)) aI.o hb) (am (qAp HB.o hb))))))
             clear aZ aA aE aI HB
             obtain ⟨aZ, aN, aA, aE, aI, HB⟩ := n_
             clear hb ho12
             refine hK.o _ _ ⟨(qAa aA.o 0).trans rfl, (qAa aA.o 1).trans rfl, (qAa aA.o 2).trans rfl, (qAa aA.o 3).trans rfl⟩ (fun hHeld => ?_)
             clear hK K
             refine qBc (a' := ?_) ?_ ?_
             rotate_left
             ·show Act.put _ (some 14) _ = _
              simp only [Act.put, List.setIfInBounds_toArray, List.set_cons_zero, List.set_cons_succ]
              rfl
             exact qBc (by (simp only [qBa, Act.put, List.setIfInBounds_toArray, List.set_cons_zero, List.set_cons_succ]; done)) (hJ0_9_14 (a9, a8, aD) _ ⟨hHeld, (by exact Kd.R_mono aZ.o (fun _ hk => hk.2)), (by exact Kd.R_mono aN.o (fun _ hk => hk.2)), aA.o, aE.o, aI.o, aa.o, a7.o, aH.o, aK.o, aJ.o, aM.o, HB.o⟩)
          ·skip
           rintro ⟨a9, a8⟩ bS ⟨hS_, h0_, h1_, h2_, h3_, h4_⟩
           have n0_ : qAj (Kd.R (Kd.int .i64) 3 bS w.heap.size (fun k_ => some k_ ≠ (a8 : Value).ownBlock) a9 aj) := ⟨h0_⟩
           have n1_ : qAj (Kd.R (Kd.int .i64) 3 bS w.heap.size (fun k_ => some k_ ≠ (a9 : Value).ownBlock) a8 af) := ⟨h1_⟩
           have n2_ : qAj (bS.heap[aC]? = some (.cells #[.slice aT l0_0.length aW, .int .i64 a0_1, .slice aU l0_2.length aX, .slice aV l0_3.length aQ] 98 (0, 0))) := ⟨h2_⟩
           have n3_ : qAj (bS.heap[aG]? = some (.cells #[.slice none 0 0, .int .i64 0, .slice none 0 0, .slice none 0 0] 90 (0, 0))) := ⟨h3_⟩
           have n4_ : qAj (Below w.heap.size w bS) := ⟨h4_⟩
           clear aA aE HB h0_ h1_ h2_ h3_ h4_
           have aZ := n0_
           have aN := n1_
           have aA := n2_
           have aE := n3_
           have HB := n4_
           clear n0_ n1_ n2_ n3_ n4_
           refine qBc (a' := ?_) ?_ ?_
           rotate_left
           ·simp only [qBa, Act.put, List.setIfInBounds_toArray, List.set_cons_zero, List.set_cons_succ]
            rfl
           refine two_ (i := 4) (j := 14) (Ni := some 9) (Nj := some 3) #[true, true, true, true, true, true, true, true, false, true, true, true, false, false, false, false] #[true, true, true, true, false, true, true, true, false, true, true, true, false, false, true, false] rfl rfl rfl rfl (two_of HT_.o (by kernel_rfl)) (by decide) (by decide) (fun K hK => ?_) (fun K hK => ?_)
           ·skip
            refine Kd.R_append_rows_step (Kd.int .i64) (w0 := w) w.heap.size (by rfl) (.tmp 5) (.tmp 8) 57 3 (.int .i64 0) 8 rfl Tryz.underlying57 info3 rfl (by decide) (by omega) a9 aj l0_0 _ _ _ (fun k_ => some k_ ≠ (a8 : Value).ownBlock) (fun _ => False) rfl rfl ?aO ?aR (fun _ _ h => h) (fun _ h => h.elim) ?aF ?aB ?aS ?aL ?_
            (case aR => exact (Kd.C_below bL.o HB.o))
            (case aB => exact HB.o)
            (case aF => exact (fun k_ hk => Kd.fresh' (Kd.R_lt aN.o) k_ hk))
            (case aO => exact aZ.o)
            (case aS => exact (qAs HB.o))
            (case aL => have := b6.o; omega)
            intro an bO ho hb hg bH
            rw [← bN.o] at ho
            have n_ := a2 (qAP (g := aC) (o := .cells #[.slice aT l0_0.length aW, .int .i64 a0_1, .slice aU l0_2.length aX, .slice aV l0_3.length aQ] 98 (0, 0)) aA.o hg (Kd.R_ne aZ.o aA.o (by decide))) (a2 (qAP (g := aG) (o := .cells #[.slice none 0 0, .int .i64 0, .slice none 0 0, .slice none 0 0] 90 (0, 0)) aE.o hg (Kd.R_ne aZ.o aE.o (by decide))) (a2 (Kd.R_after (ok := (fun _ => True)) (by exact Kd.R_mono aN.o (fun _ hk => ⟨trivial, hk⟩)) hg bH) (a2 (hb) (am (ho)))))
            clear aA aE aN HB aZ
            obtain ⟨aA, aE, aN, HB, aY⟩ := n_
            clear ho hb hg bH
            obtain ⟨bj, bl, bq⟩ := Kd.R_slice aY.o
            (subst bq)
            refine hK.o _ _ ⟨(qAa aA.o 0).trans rfl, (qAa aA.o 1).trans rfl, (qAa aA.o 2).trans rfl, (qAa aA.o 3).trans rfl⟩ (fun hHeld => ?_)
            clear hK K
            refine qBc (a' := ?_) ?_ ?_
            rotate_left
            ·show Act.put _ (some 9) _ = _
             simp only [Act.put, List.setIfInBounds_toArray, List.set_cons_zero, List.set_cons_succ]
             rfl
            refine pu 8 13 #[true, true, true, true, true, true, true, true, true, true, true, true, false, false, false, false] (qAK HT_.o (by kernel_rfl)) ?_
            exact qBc (by (simp only [qBa, Act.put, List.setIfInBounds_toArray, List.set_cons_zero, List.set_cons_succ]; done)) (hJ0_4_9 (a9, .slice bj a5.length bl, a8) _ ⟨hHeld, aY.o, (by exact Kd.R_mono aN.o (fun _ hk => hk.2)), aA.o, aE.o, HB.o⟩)
           ·skip
            refine qCN ?hg (N := 3) ?hd (cs := #[.slice none 0 0, .int .i64 0, .slice none 0 0, .slice none 0 0]) (t := 90) ?hr ?_; (case hd => rfl); (case hg => rfl); (case hr => (go_simp; done))
            intro aD hg bO hbox hb
            have n_ := a2 (Kd.R_below aZ.o hb) (a2 (Kd.R_below aN.o hb) (a2 (qAt (g := aC) (o := .cells #[.slice aT l0_0.length aW, .int .i64 a0_1, .slice aU l0_2.length aX, .slice aV l0_3.length aQ] 98 (0, 0)) aA.o hb) (a2 (qAt (g := aG) (o := .cells #[.slice none 0 0, .int .i64 0, .slice none 0 0, .slice none 0 0] 90 (0, 0)) aE.o hb) (a2 (qAp HB.o hb) (a2 (hbox) (a2 (by rw [hg]; exact (qAs HB.o) : w.heap.size ≤ aD) (a2 (by rw [hg]; exact (qAs HB.o) : w.heap.size ≤ aD) (a2 (by rw [hg]; exact Nat.ne_of_lt (qAM (g := aC) (o := .cells #[.slice aT l0_0.length aW, .int .i64 a0_1, .slice aU l0_2.length aX, .slice aV l0_3.length aQ] 98 (0, 0)) aA.o) : aC ≠ aD) (a2 (by rw [hg]; exact Nat.ne_of_gt (qAM (g := aC) (o := .cells #[.slice aT l0_0.length aW, .int .i64 a0_1, .slice aU l0_2.length aX, .slice aV l0_3.length aQ] 98 (0, 0)) aA.o) : aD ≠ aC) (a2 (by rw [hg]; exact Nat.ne_of_lt (qAM (g := aG) (o := .cells #[.slice none 0 0, .int .i64 0, .slice none 0 0, .slice none 0 0] 90 (0, 0)) aE.o) : aG ≠ aD) (am (by rw [hg]; exact Nat.ne_of_gt (qAM (g := aG) (o := .cells #[.slice none 0 0, .int .i64 0, .slice none 0 0, .slice none 0 0] 90 (0, 0)) aE.o) : aD ≠ aG))))))))))))
            clear aZ aN aA aE HB
            obtain ⟨aZ, aN, aA, aE, HB, aI, aa, a7, aH, aK, aJ, aM⟩ := n_
            clear hb hbox hg
            refine hK.o _ _ ⟨(qAa aA.o 0).trans rfl, (qAa aA.o 1).trans rfl, (qAa aA.o 2).trans rfl, (qAa aA.o 3).trans rfl⟩ (fun hHeld => ?_)
            clear hK K
            refine qBc (a' := ?_) ?_ ?_
            rotate_left
            ·show Act.put _ (some 3) _ = _
             simp only [Act.put, List.setIfInBounds_toArray, List.set_cons_zero, List.set_cons_succ]
             rfl
            exact qBc (by (simp only [qBa, Act.put, List.setIfInBounds_toArray, List.set_cons_zero, List.set_cons_succ]; done)) (hJ0_9_14 (a9, a8, aD) _ ⟨hHeld, aZ.o, aN.o, aA.o, aE.o, aI.o, aa.o, a7.o, aH.o, aK.o, aJ.o, aM.o, HB.o⟩)
         ·skip
          rintro ⟨a9, an⟩ bS ⟨hS_, h0_, h1_, h2_, h3_⟩
          have n0_ : qAj (Kd.R (Kd.int .i64) 3 bS w.heap.size (fun _ => True) an a5) := ⟨h0_⟩
          have n1_ : qAj (bS.heap[aC]? = some (.cells #[.slice aT l0_0.length aW, .int .i64 a0_1, .slice aU l0_2.length aX, .slice aV l0_3.length aQ] 98 (0, 0))) := ⟨h1_⟩
          have n2_ : qAj (bS.heap[aG]? = some (.cells #[.slice none 0 0, .int .i64 0, .slice none 0 0, .slice none 0 0] 90 (0, 0))) := ⟨h2_⟩
          have n3_ : qAj (Below w.heap.size w bS) := ⟨h3_⟩
          clear aA aE HB h0_ h1_ h2_ h3_
          have aY := n0_
          have aA := n1_
          have aE := n2_
          have HB := n3_
          clear n0_ n1_ n2_ n3_
          obtain ⟨b3, b7, bp⟩ := Kd.R_slice aY.o
          (subst bp)
          refine qBc (a' := ?_) ?_ ?_
          rotate_left
          ·simp only [qBa, Act.put, List.setIfInBounds_toArray, List.set_cons_zero, List.set_cons_succ]
           rfl
          refine two_ (i := 9) (j := 14) (Ni := some 14) (Nj := some 3) #[true, true, true, true, true, true, true, true, true, true, true, true, false, false, false, false] #[true, true, true, true, true, true, true, true, true, false, true, true, false, false, true, false] rfl rfl rfl rfl (two_of HT_.o (by kernel_rfl)) (by decide) (by decide) (fun K hK => ?_) (fun K hK => ?_)
          ·skip
           refine Kd.R_lit_step (Kd.int .i64) _ 3 ?hg (N := 14) ?hd (xs := ([] : List Int)) (inner := []) (ok := fun _ => True) (okp := fun _ => True) ?hr ?hp (fun _ hk => hk) trivial (Below.refl _ _) (Nat.le_refl _) (by simp) ?_; (case hd => rfl); (case hg => rfl); (case hr => (go_simp; done)); (case hp => exact (Reps.none _ _))
           intro a8 bi ho14 hb hg_ hnew_
           clear hg_ hnew_
           (rw [← bF.o] at ho14)
           have n_ := a2 (Kd.R_elder' aY.o (Kd.R_base ho14) hb) (a2 (Kd.R_lower (Kd.R_new' ho14 (Kd.R_lt aY.o)) (qAs HB.o)) (a2 (qAt (g := aC) (o := .cells #[.slice aT l0_0.length aW, .int .i64 a0_1, .slice aU l0_2.length aX, .slice aV l0_3.length aQ] 98 (0, 0)) aA.o hb) (a2 (qAt (g := aG) (o := .cells #[.slice none 0 0, .int .i64 0, .slice none 0 0, .slice none 0 0] 90 (0, 0)) aE.o hb) (am (qAp HB.o hb)))))
           clear aY aA aE HB
           obtain ⟨aY, aN, aA, aE, HB⟩ := n_
           clear hb ho14
           refine hK.o _ _ ⟨(qAa aA.o 0).trans rfl, (qAa aA.o 1).trans rfl, (qAa aA.o 2).trans rfl, (qAa aA.o 3).trans rfl⟩ (fun hHeld => ?_)
           clear hK K
           refine qBc (a' := ?_) ?_ ?_
           rotate_left
           ·show Act.put _ (some 14) _ = _
            simp only [Act.put, List.setIfInBounds_toArray, List.set_cons_zero, List.set_cons_succ]
            rfl
           exact qBc (by (simp only [qBa, Act.put, List.setIfInBounds_toArray, List.set_cons_zero, List.set_cons_succ]; done)) (hJ0_4_9 (a9, .slice b3 a5.length b7, a8) _ ⟨hHeld, (by exact Kd.R_mono aY.o (fun _ hk => hk.2)), (by exact Kd.R_mono aN.o (fun _ hk => hk.2)), aA.o, aE.o, HB.o⟩)
          ·skip
           refine qCN ?hg (N := 3) ?hd (cs := #[.slice none 0 0, .int .i64 0, .slice none 0 0, .slice none 0 0]) (t := 90) ?hr ?_; (case hd => rfl); (case hg => rfl); (case hr => (go_simp; done))
           intro aD hg bi hbox hb
           have n_ := a2 (Kd.R_below aY.o hb) (a2 (qAt (g := aC) (o := .cells #[.slice aT l0_0.length aW, .int .i64 a0_1, .slice aU l0_2.length aX, .slice aV l0_3.length aQ] 98 (0, 0)) aA.o hb) (a2 (qAt (g := aG) (o := .cells #[.slice none 0 0, .int .i64 0, .slice none 0 0, .slice none 0 0] 90 (0, 0)) aE.o hb) (a2 (qAp HB.o hb) (a2 (hbox) (a2 (by rw [hg]; exact (qAs HB.o) : w.heap.size ≤ aD) (a2 (by rw [hg]; exact (qAs HB.o) : w.heap.size ≤ aD) (a2 (by rw [hg]; exact Nat.ne_of_lt (qAM (g := aC) (o := .cells #[.slice aT l0_0.length aW, .int .i64 a0_1, .slice aU l0_2.length aX, .slice aV l0_3.length aQ] 98 (0, 0)) aA.o) : aC ≠ aD) (a2 (by rw [hg]; exact Nat.ne_of_gt (qAM (g := aC) (o := .cells #[.slice aT l0_0.length aW, .int .i64 a0_1, .slice aU l0_2.length aX, .slice aV l0_3.length aQ] 98 (0, 0)) aA.o) : aD ≠ aC) (a2 (by rw [hg]; exact Nat.ne_of_lt (qAM (g := aG) (o := .cells #[.slice none 0 0, .int .i64 0, .slice none 0 0, .slice none 0 0] 90 (0, 0)) aE.o) : aG ≠ aD) (am (by rw [hg]; exact Nat.ne_of_gt (qAM (g := aG) (o := .cells #[.slice none 0 0, .int .i64 0, .slice none 0 0, .slice none 0 0] 90 (0, 0)) aE.o) : aD ≠ aG)))))))))))
           clear aY aA aE HB
           obtain ⟨aY, aA, aE, HB, aI, aa, a7, aH, aK, aJ, aM⟩ := n_
           clear hb hbox hg
           refine hK.o _ _ ⟨(qAa aA.o 0).trans rfl, (qAa aA.o 1).trans rfl, (qAa aA.o 2).trans rfl, (qAa aA.o 3).trans rfl⟩ (fun hHeld => ?_)
           clear hK K
           refine qBc (a' := ?_) ?_ ?_
           rotate_left
           ·show Act.put _ (some 3) _ = _
            simp only [Act.put, List.setIfInBounds_toArray, List.set_cons_zero, List.set_cons_succ]
            rfl
           exact qBc (by (simp only [qBa, Act.put, List.setIfInBounds_toArray, List.set_cons_zero, List.set_cons_succ]; done)) (hJ0_4_14 (a9, .slice b3 a5.length b7, aD) _ ⟨hHeld, aY.o, aA.o, aE.o, aI.o, aa.o, a7.o, aH.o, aK.o, aJ.o, aM.o, HB.o⟩)
        ·skip
         rintro ⟨a9, a8, aD⟩ bO ⟨hS_, h0_, h1_, h2_, h3_, h4_, h5_, h6_, h7_, h8_, h9_, h10_, h11_⟩
         have n0_ : qAj (Kd.R (Kd.int .i64) 3 bO w.heap.size (fun k_ => some k_ ≠ (a8 : Value).ownBlock) a9 aj) := ⟨h0_⟩
         have n1_ : qAj (Kd.R (Kd.int .i64) 3 bO w.heap.size (fun k_ => some k_ ≠ (a9 : Value).ownBlock) a8 af) := ⟨h1_⟩
         have n2_ : qAj (bO.heap[aC]? = some (.cells #[.slice aT l0_0.length aW, .int .i64 a0_1, .slice aU l0_2.length aX, .slice aV l0_3.length aQ] 98 (0, 0))) := ⟨h2_⟩
         have n3_ : qAj (bO.heap[aG]? = some (.cells #[.slice none 0 0, .int .i64 0, .slice none 0 0, .slice none 0 0] 90 (0, 0))) := ⟨h3_⟩
         have n4_ : qAj (bO.heap[aD]? = some (.cells #[.slice none 0 0, .int .i64 0, .slice none 0 0, .slice none 0 0] 90 (0, 0))) := ⟨h4_⟩
         have n5_ : qAj (w.heap.size ≤ aD) := ⟨h5_⟩
         have n6_ : qAj (w.heap.size ≤ aD) := ⟨h6_⟩
         have n7_ : qAj (aC ≠ aD) := ⟨h7_⟩
         have n8_ : qAj (aD ≠ aC) := ⟨h8_⟩
         have n9_ : qAj (aG ≠ aD) := ⟨h9_⟩
         have n10_ : qAj (aD ≠ aG) := ⟨h10_⟩
         have n11_ : qAj (Below w.heap.size w bO) := ⟨h11_⟩
         clear aA aE HB h0_ h1_ h2_ h3_ h4_ h5_ h6_ h7_ h8_ h9_ h10_ h11_
         have aZ := n0_
         have aN := n1_
         have aA := n2_
         have aE := n3_
         have aI := n4_
         have aa := n5_
         have a7 := n6_
         have aH := n7_
         have aK := n8_
         have aJ := n9_
         have aM := n10_
         have HB := n11_
         clear n0_ n1_ n2_ n3_ n4_ n5_ n6_ n7_ n8_ n9_ n10_ n11_
         refine qBc (a' := ?_) ?_ ?_
         rotate_left
         ·simp only [qBa, Act.put, List.setIfInBounds_toArray, List.set_cons_zero, List.set_cons_succ]
          rfl
         refine one_ (i := 4) (N := some 9) #[true, true, true, true, true, true, true, true, false, true, true, true, false, false, true, false] rfl rfl (qBq HT_.o (by kernel_rfl)) (by decide) (fun K hK => ?_)
         refine Kd.R_append_rows_step (Kd.int .i64) (w0 := w) w.heap.size (by rfl) (.tmp 5) (.tmp 8) 57 3 (.int .i64 0) 8 rfl Tryz.underlying57 info3 rfl (by decide) (by omega) a9 aj l0_0 _ _ _ (fun k_ => some k_ ≠ (a8 : Value).ownBlock) (fun _ => False) rfl rfl ?aO ?aR (fun _ _ h => h) (fun _ h => h.elim) ?aF ?aB ?aS ?aL ?_
         (case aR => exact (Kd.C_below bL.o HB.o))
         (case aB => exact HB.o)
         (case aF => exact (fun k_ hk => Kd.fresh' (Kd.R_lt aN.o) k_ hk))
         (case aO => exact aZ.o)
         (case aS => exact (qAs HB.o))
         (case aL => have := b6.o; omega)
         intro an bi ho hb hg bH
         rw [← bN.o] at ho
         have n_ := a2 (qAP (g := aC) (o := .cells #[.slice aT l0_0.length aW, .int .i64 a0_1, .slice aU l0_2.length aX, .slice aV l0_3.length aQ] 98 (0, 0)) aA.o hg (Kd.R_ne aZ.o aA.o (by decide))) (a2 (qAP (g := aG) (o := .cells #[.slice none 0 0, .int .i64 0, .slice none 0 0, .slice none 0 0] 90 (0, 0)) aE.o hg (Kd.R_ne aZ.o aE.o (by decide))) (a2 (Kd.R_after (ok := (fun _ => True)) (by exact Kd.R_mono aN.o (fun _ hk => ⟨trivial, hk⟩)) hg bH) (a2 (qAP (g := aD) (o := .cells #[.slice none 0 0, .int .i64 0, .slice none 0 0, .slice none 0 0] 90 (0, 0)) aI.o hg (Kd.R_ne aZ.o aI.o (by decide))) (a2 (hb) (am (ho))))))
         clear aA aE aN aI HB aZ
         obtain ⟨aA, aE, aN, aI, HB, aY⟩ := n_
         clear ho hb hg bH
         obtain ⟨bU, bW, br⟩ := Kd.R_slice aY.o
         (subst br)
         refine hK.o _ _ ⟨(qAa aA.o 0).trans rfl, (qAa aA.o 1).trans rfl, (qAa aA.o 2).trans rfl, (qAa aA.o 3).trans rfl⟩ (fun hHeld => ?_)
         clear hK K
         refine qBc (a' := ?_) ?_ ?_
         rotate_left
         ·show Act.put _ (some 9) _ = _
          simp only [Act.put, List.setIfInBounds_toArray, List.set_cons_zero, List.set_cons_succ]
          rfl
         refine pu 8 13 #[true, true, true, true, true, true, true, true, true, true, true, true, false, false, true, false] (qAK HT_.o (by kernel_rfl)) ?_
         exact qBc (by (simp only [qBa, Act.put, List.setIfInBounds_toArray, List.set_cons_zero, List.set_cons_succ]; done)) (hJ0_4_9_14 (a9, .slice bU a5.length bW, a8, aD) _ ⟨hHeld, aY.o, (by exact Kd.R_mono aN.o (fun _ hk => hk.2)), aA.o, aE.o, aI.o, aa.o, a7.o, aH.o, aK.o, aJ.o, aM.o, HB.o⟩)
       ·skip
        rintro ⟨a9, an, aD⟩ bO ⟨hS_, h0_, h1_, h2_, h3_, h4_, h5_, h6_, h7_, h8_, h9_, h10_⟩
        have n0_ : qAj (Kd.R (Kd.int .i64) 3 bO w.heap.size (fun _ => True) an a5) := ⟨h0_⟩
        have n1_ : qAj (bO.heap[aC]? = some (.cells #[.slice aT l0_0.length aW, .int .i64 a0_1, .slice aU l0_2.length aX, .slice aV l0_3.length aQ] 98 (0, 0))) := ⟨h1_⟩
        have n2_ : qAj (bO.heap[aG]? = some (.cells #[.slice none 0 0, .int .i64 0, .slice none 0 0, .slice none 0 0] 90 (0, 0))) := ⟨h2_⟩
        have n3_ : qAj (bO.heap[aD]? = some (.cells #[.slice none 0 0, .int .i64 0, .slice none 0 0, .slice none 0 0] 90 (0, 0))) := ⟨h3_⟩
        have n4_ : qAj (w.heap.size ≤ aD) := ⟨h4_⟩
        have n5_ : qAj (w.heap.size ≤ aD) := ⟨h5_⟩
        have n6_ : qAj (aC ≠ aD) := ⟨h6_⟩
        have n7_ : qAj (aD ≠ aC) := ⟨h7_⟩
        have n8_ : qAj (aG ≠ aD) := ⟨h8_⟩
        have n9_ : qAj (aD ≠ aG) := ⟨h9_⟩
        have n10_ : qAj (Below w.heap.size w bO) := ⟨h10_⟩
        clear aA aE HB h0_ h1_ h2_ h3_ h4_ h5_ h6_ h7_ h8_ h9_ h10_
        have aY := n0_
        have aA := n1_
        have aE := n2_
        have aI := n3_
        have aa := n4_
        have a7 := n5_
        have aH := n6_
        have aK := n7_
        have aJ := n8_
        have aM := n9_
        have HB := n10_
        clear n0_ n1_ n2_ n3_ n4_ n5_ n6_ n7_ n8_ n9_ n10_
        obtain ⟨bj, bl, bq⟩ := Kd.R_slice aY.o
        (subst bq)
        refine qBc (a' := ?_) ?_ ?_
        rotate_left
        ·simp only [qBa, Act.put, List.setIfInBounds_toArray, List.set_cons_zero, List.set_cons_succ]
         rfl
        refine one_ (i := 9) (N := some 14) #[true, true, true, true, true, true, true, true, true, true, true, true, false, false, true, false] rfl rfl (qBq HT_.o (by kernel_rfl)) (by decide) (fun K hK => ?_)
        refine Kd.R_lit_step (Kd.int .i64) _ 3 ?hg (N := 14) ?hd (xs := ([] : List Int)) (inner := []) (ok := fun _ => True) (okp := fun _ => True) ?hr ?hp (fun _ hk => hk) trivial (Below.refl _ _) (Nat.le_refl _) (by simp) ?_; (case hd => rfl); (case hg => rfl); (case hr => (go_simp; done)); (case hp => exact (Reps.none _ _))
        intro a8 cA ho15 hb hg_ hnew_
        clear hg_ hnew_
        (rw [← bF.o] at ho15)
        have n_ := a2 (Kd.R_elder' aY.o (Kd.R_base ho15) hb) (a2 (Kd.R_lower (Kd.R_new' ho15 (Kd.R_lt aY.o)) (qAs HB.o)) (a2 (qAt (g := aC) (o := .cells #[.slice aT l0_0.length aW, .int .i64 a0_1, .slice aU l0_2.length aX, .slice aV l0_3.length aQ] 98 (0, 0)) aA.o hb) (a2 (qAt (g := aG) (o := .cells #[.slice none 0 0, .int .i64 0, .slice none 0 0, .slice none 0 0] 90 (0, 0)) aE.o hb) (a2 (qAt (g := aD) (o := .cells #[.slice none 0 0, .int .i64 0, .slice none 0 0, .slice none 0 0] 90 (0, 0)) aI.o hb) (am (qAp HB.o hb))))))
        clear aY aA aE aI HB
        obtain ⟨aY, aN, aA, aE, aI, HB⟩ := n_
        clear hb ho15
        refine hK.o _ _ ⟨(qAa aA.o 0).trans rfl, (qAa aA.o 1).trans rfl, (qAa aA.o 2).trans rfl, (qAa aA.o 3).trans rfl⟩ (fun hHeld => ?_)
        clear hK K
        refine qBc (a' := ?_) ?_ ?_
        rotate_left
        ·show Act.put _ (some 14) _ = _
         simp only [Act.put, List.setIfInBounds_toArray, List.set_cons_zero, List.set_cons_succ]
         rfl
        exact qBc (by (simp only [qBa, Act.put, List.setIfInBounds_toArray, List.set_cons_zero, List.set_cons_succ]; done)) (hJ0_4_9_14 (a9, .slice bj a5.length bl, a8, aD) _ ⟨hHeld, (by exact Kd.R_mono aY.o (fun _ hk => hk.2)), (by exact Kd.R_mono aN.o (fun _ hk => hk.2)), aA.o, aE.o, aI.o, aa.o, a7.o, aH.o, aK.o, aJ.o, aM.o, HB.o⟩)
      ·skip
       rintro ⟨a9, an, a8⟩ bi ⟨hS_, h0_, h1_, h2_, h3_, h4_⟩
       have n0_ : qAj (Kd.R (Kd.int .i64) 3 bi w.heap.size (fun k_ => some k_ ≠ (a8 : Value).ownBlock) an a5) := ⟨h0_⟩
       have n1_ : qAj (Kd.R (Kd.int .i64) 3 bi w.heap.size (fun k_ => some k_ ≠ (an : Value).ownBlock) a8 af) := ⟨h1_⟩
       have n2_ : qAj (bi.heap[aC]? = some (.cells #[.slice aT l0_0.length aW, .int .i64 a0_1, .slice aU l0_2.length aX, .slice aV l0_3.length aQ] 98 (0, 0))) := ⟨h2_⟩
       have n3_ : qAj (bi.heap[aG]? = some (.cells #[.slice none 0 0, .int .i64 0, .slice none 0 0, .slice none 0 0] 90 (0, 0))) := ⟨h3_⟩
       have n4_ : qAj (Below w.heap.size w bi) := ⟨h4_⟩
       clear aA aE HB h0_ h1_ h2_ h3_ h4_
       have aY := n0_
       have aN := n1_
       have aA := n2_
       have aE := n3_
       have HB := n4_
       clear n0_ n1_ n2_ n3_ n4_
       obtain ⟨bU, bW, br⟩ := Kd.R_slice aY.o
       (subst br)
       refine qBc (a' := ?_) ?_ ?_
       rotate_left
       ·simp only [qBa, Act.put, List.setIfInBounds_toArray, List.set_cons_zero, List.set_cons_succ]
        rfl
       refine two_ (i := 12) (j := 14) (Ni := some 17) (Nj := some 3) #[true, true, true, true, true, true, true, true, true, true, true, true, true, false, false, false] #[true, true, true, true, true, true, true, true, true, true, true, true, false, false, true, false] rfl rfl rfl rfl (two_of HT_.o (by kernel_rfl)) (by decide) (by decide) (fun K hK => ?_) (fun K hK => ?_)
       ·skip
        refine Kd.R_append_rows_step (Kd.int .i64) (w0 := w) w.heap.size (by rfl) (.tmp 14) (.tmp 16) 57 3 (.int .i64 0) 8 rfl Tryz.underlying57 info3 rfl (by decide) (by omega) a8 af l0_2 _ _ _ (fun k_ => some k_ ≠ (.slice bU a5.length bW : Value).ownBlock) (fun _ => False) rfl rfl ?aO ?aR (fun _ _ h => h) (fun _ h => h.elim) ?aF ?aB ?aS ?aL ?_
        (case aR => exact (Kd.C_below bg.o HB.o))
        (case aB => exact HB.o)
        (case aF => exact (fun k_ hk => Kd.fresh' (Kd.R_lt aY.o) k_ hk))
        (case aO => exact aN.o)
        (case aS => exact (qAs HB.o))
        (case aL => have := cG.o; omega)
        intro bJ cB ho hb hg bH
        rw [← bh.o] at ho
        have n_ := a2 (qAP (g := aC) (o := .cells #[.slice aT l0_0.length aW, .int .i64 a0_1, .slice aU l0_2.length aX, .slice aV l0_3.length aQ] 98 (0, 0)) aA.o hg (Kd.R_ne aN.o aA.o (by decide))) (a2 (qAP (g := aG) (o := .cells #[.slice none 0 0, .int .i64 0, .slice none 0 0, .slice none 0 0] 90 (0, 0)) aE.o hg (Kd.R_ne aN.o aE.o (by decide))) (a2 (Kd.R_after (ok := (fun _ => True)) (by exact Kd.R_mono aY.o (fun _ hk => ⟨trivial, hk⟩)) hg bH) (a2 (hb) (am (ho)))))
        clear aA aE aY HB aN
        obtain ⟨aA, aE, aY, HB, ak⟩ := n_
        clear ho hb hg bH
        obtain ⟨bk, bo, bs⟩ := Kd.R_slice ak.o
        (subst bs)
        refine hK.o _ _ ⟨(qAa aA.o 0).trans rfl, (qAa aA.o 1).trans rfl, (qAa aA.o 2).trans rfl, (qAa aA.o 3).trans rfl⟩ (fun hHeld => ?_)
        clear hK K
        refine qBc (a' := ?_) ?_ ?_
        rotate_left
        ·show Act.put _ (some 17) _ = _
         simp only [Act.put, List.setIfInBounds_toArray, List.set_cons_zero, List.set_cons_succ]
         rfl
        refine pu 13 18 #[true, true, true, true, true, true, true, true, true, true, true, true, true, true, false, false] (qAK HT_.o (by kernel_rfl)) ?_
        exact qBc (by (simp only [qBa, Act.put, List.setIfInBounds_toArray, List.set_cons_zero, List.set_cons_succ]; done)) (hJ0_4_9_12 (a9, .slice bU a5.length bW, a8, .slice bk ag.length bo) _ ⟨hHeld, (by exact Kd.R_mono aY.o (fun _ hk => hk.2)), ak.o, aA.o, aE.o, HB.o⟩)
       ·skip
        refine qCN ?hg (N := 3) ?hd (cs := #[.slice none 0 0, .int .i64 0, .slice none 0 0, .slice none 0 0]) (t := 90) ?hr ?_; (case hd => rfl); (case hg => rfl); (case hr => (go_simp; done))
        intro aD hg cB hbox hb
        have n_ := a2 (Kd.R_below aY.o hb) (a2 (Kd.R_below aN.o hb) (a2 (qAt (g := aC) (o := .cells #[.slice aT l0_0.length aW, .int .i64 a0_1, .slice aU l0_2.length aX, .slice aV l0_3.length aQ] 98 (0, 0)) aA.o hb) (a2 (qAt (g := aG) (o := .cells #[.slice none 0 0, .int .i64 0, .slice none 0 0, .slice none 0 0] 90 (0, 0)) aE.o hb) (a2 (qAp HB.o hb) (a2 (hbox) (a2 (by rw [hg]; exact (qAs HB.o) : w.heap.size ≤ aD) (a2 (by rw [hg]; exact (qAs HB.o) : w.heap.size ≤ aD) (a2 (by rw [hg]; exact Nat.ne_of_lt (qAM (g := aC) (o := .cells #[.slice aT l0_0.length aW, .int .i64 a0_1, .slice aU l0_2.length aX, .slice aV l0_3.length aQ] 98 (0, 0)) aA.o) : aC ≠ aD) (a2 (by rw [hg]; exact Nat.ne_of_gt (qAM (g := aC) (o := .cells #[.slice aT l0_0.length aW, .int .i64 a0_1, .slice aU l0_2.length aX, .slice aV l0_3.length aQ] 98 (0, 0)) aA.o) : aD ≠ aC) (a2 (by rw [hg]; exact Nat.ne_of_lt (qAM (g := aG) (o := .cells #[.slice none 0 0, .int .i64 0, .slice none 0 0, .slice none 0 0] 90 (0, 0)) aE.o) : aG ≠ aD) (am (by rw [hg]; exact Nat.ne_of_gt (qAM (g := aG) (o := .cells #[.slice none 0 0, .int .i64 0, .slice none 0 0, .slice none 0 0] 90 (0, 0)) aE.o) : aD ≠ aG))))))))))))
        clear aY aN aA aE HB
        obtain ⟨aY, aN, aA, aE, HB, aI, aa, a7, aH, aK, aJ, aM⟩ := n_
        clear hb hbox hg
        refine hK.o _ _ ⟨(qAa aA.o 0).trans rfl, (qAa aA.o 1).trans rfl, (qAa aA.o 2).trans rfl, (qAa aA.o 3).trans rfl⟩ (fun hHeld => ?_)
        clear hK K
        refine qBc (a' := ?_) ?_ ?_
        rotate_left
        ·show Act.put _ (some 3) _ = _
         simp only [Act.put, List.setIfInBounds_toArray, List.set_cons_zero, List.set_cons_succ]
         rfl
        exact qBc (by (simp only [qBa, Act.put, List.setIfInBounds_toArray, List.set_cons_zero, List.set_cons_succ]; done)) (hJ0_4_9_14 (a9, .slice bU a5.length bW, a8, aD) _ ⟨hHeld, aY.o, aN.o, aA.o, aE.o, aI.o, aa.o, a7.o, aH.o, aK.o, aJ.o, aM.o, HB.o⟩)
     ·skip
      rintro ⟨a9, an, a8, aD⟩ cA ⟨hS_, h0_, h1_, h2_, h3_, h4_, h5_, h6_, h7_, h8_, h9_, h10_, h11_⟩
      have n0_ : qAj (Kd.R (Kd.int .i64) 3 cA w.heap.size (fun k_ => some k_ ≠ (a8 : Value).ownBlock) an a5) := ⟨h0_⟩
      have n1_ : qAj (Kd.R (Kd.int .i64) 3 cA w.heap.size (fun k_ => some k_ ≠ (an : Value).ownBlock) a8 af) := ⟨h1_⟩
      have n2_ : qAj (cA.heap[aC]? = some (.cells #[.slice aT l0_0.length aW, .int .i64 a0_1, .slice aU l0_2.length aX, .slice aV l0_3.length aQ] 98 (0, 0))) := ⟨h2_⟩
      have n3_ : qAj (cA.heap[aG]? = some (.cells #[.slice none 0 0, .int .i64 0, .slice none 0 0, .slice none 0 0] 90 (0, 0))) := ⟨h3_⟩
      have n4_ : qAj (cA.heap[aD]? = some (.cells #[.slice none 0 0, .int .i64 0, .slice none 0 0, .slice none 0 0] 90 (0, 0))) := ⟨h4_⟩
      have n5_ : qAj (w.heap.size ≤ aD) := ⟨h5_⟩
      have n6_ : qAj (w.heap.size ≤ aD) := ⟨h6_⟩
      have n7_ : qAj (aC ≠ aD) := ⟨h7_⟩
      have n8_ : qAj (aD ≠ aC) := ⟨h8_⟩
      have n9_ : qAj (aG ≠ aD) := ⟨h9_⟩
      have n10_ : qAj (aD ≠ aG) := ⟨h10_⟩
      have n11_ : qAj (Below w.heap.size w cA) := ⟨h11_⟩
      clear aA aE HB h0_ h1_ h2_ h3_ h4_ h5_ h6_ h7_ h8_ h9_ h10_ h11_
      have aY := n0_
      have aN := n1_
      have aA := n2_
      have aE := n3_
      have aI := n4_
      have aa := n5_
      have a7 := n6_
      have aH := n7_
      have aK := n8_
      have aJ := n9_
      have aM := n10_
      have HB := n11_
      clear n0_ n1_ n2_ n3_ n4_ n5_ n6_ n7_ n8_ n9_ n10_ n11_
      obtain ⟨cD, cL, ch⟩ := Kd.R_slice aY.o
      (subst ch)
      refine qBc (a' := ?_) ?_ ?_
      rotate_left
      ·simp only [qBa, Act.put, List.setIfInBounds_toArray, List.set_cons_zero, List.set_cons_succ]
       rfl
      refine one_ (i := 12) (N := some 17) #[true, true, true, true, true, true, true, true, true, true, true, true, true, false, true, false] rfl rfl (qBq HT_.o (by kernel_rfl)) (by decide) (fun K hK => ?_)
      refine Kd.R_append_rows_step (Kd.int .i64) (w0 := w) w.heap.size (by rfl) (.tmp 14) (.tmp 16) 57 3 (.int .i64 0) 8 rfl Tryz.underlying57 info3 rfl (by decide) (by omega) a8 af l0_2 _ _ _ (fun k_ => some k_ ≠ (.slice cD a5.length cL : Value).ownBlock) (fun _ => False) rfl rfl ?aO ?aR (fun _ _ h => h) (fun _ h => h.elim) ?aF ?aB ?aS ?aL ?_
      (case aR => exact (Kd.C_below bg.o HB.o))
      (case aB => exact HB.o)
      (case aF => exact (fun k_ hk => Kd.fresh' (Kd.R_lt aY.o) k_ hk))
      (case aO => exact aN.o)
      (case aS => exact (qAs HB.o))
      (case aL => have := cG.o; omega)
      intro bJ bK ho hb hg bH
      rw [← bh.o] at ho
      have n_ := a2 (qAP (g := aC) (o := .cells #[.slice aT l0_0.length aW, .int .i64 a0_1, .slice aU l0_2.length aX, .slice aV l0_3.length aQ] 98 (0, 0)) aA.o hg (Kd.R_ne aN.o aA.o (by decide))) (a2 (qAP (g := aG) (o := .cells #[.slice none 0 0, .int .i64 0, .slice none 0 0, .slice none 0 0] 90 (0, 0)) aE.o hg (Kd.R_ne aN.o aE.o (by decide))) (a2 (Kd.R_after (ok := (fun _ => True)) (by exact Kd.R_mono aY.o (fun _ hk => ⟨trivial, hk⟩)) hg bH) (a2 (qAP (g := aD) (o := .cells #[.slice none 0 0, .int .i64 0, .slice none 0 0, .slice none 0 0] 90 (0, 0)) aI.o hg (Kd.R_ne aN.o aI.o (by decide))) (a2 (hb) (am (ho))))))
      clear aA aE aY aI HB aN
      obtain ⟨aA, aE, aY, aI, HB, ak⟩ := n_
      clear ho hb hg bH
      obtain ⟨ah, ai, bX⟩ := Kd.R_slice ak.o
      (subst bX)
      refine hK.o _ _ ⟨(qAa aA.o 0).trans rfl, (qAa aA.o 1).trans rfl, (qAa aA.o 2).trans rfl, (qAa aA.o 3).trans rfl⟩ (fun hHeld => ?_)
      clear hK K
      refine qBc (a' := ?_) ?_ ?_
      rotate_left
      ·show Act.put _ (some 17) _ = _
       simp only [Act.put, List.setIfInBounds_toArray, List.set_cons_zero, List.set_cons_succ]
       rfl
      refine pu 13 18 #[true, true, true, true, true, true, true, true, true, true, true, true, true, true, true, false] (qAK HT_.o (by kernel_rfl)) ?_
      exact qBc (by (simp only [qBa, Act.put, List.setIfInBounds_toArray, List.set_cons_zero, List.set_cons_succ]; done)) (hJ0_4_9_12_14 (a9, .slice cD a5.length cL, a8, .slice ah ag.length ai, aD) _ ⟨hHeld, (by exact Kd.R_mono aY.o (fun _ hk => hk.2)), ak.o, aA.o, aE.o, aI.o, aa.o, a7.o, aH.o, aK.o, aJ.o, aM.o, HB.o⟩)
    ·skip
     rintro ⟨a9, an, a8, bJ⟩ cB ⟨hS_, h0_, h1_, h2_, h3_, h4_⟩
     have n0_ : qAj (Kd.R (Kd.int .i64) 3 cB w.heap.size (fun k_ => some k_ ≠ (bJ : Value).ownBlock) an a5) := ⟨h0_⟩
     have n1_ : qAj (Kd.R (Kd.int .i64) 3 cB w.heap.size (fun k_ => some k_ ≠ (an : Value).ownBlock) bJ ag) := ⟨h1_⟩
     have n2_ : qAj (cB.heap[aC]? = some (.cells #[.slice aT l0_0.length aW, .int .i64 a0_1, .slice aU l0_2.length aX, .slice aV l0_3.length aQ] 98 (0, 0))) := ⟨h2_⟩
     have n3_ : qAj (cB.heap[aG]? = some (.cells #[.slice none 0 0, .int .i64 0, .slice none 0 0, .slice none 0 0] 90 (0, 0))) := ⟨h3_⟩
     have n4_ : qAj (Below w.heap.size w cB) := ⟨h4_⟩
     clear aA aE HB h0_ h1_ h2_ h3_ h4_
     have aY := n0_
     have ak := n1_
     have aA := n2_
     have aE := n3_
     have HB := n4_
     clear n0_ n1_ n2_ n3_ n4_
     obtain ⟨bk, bo, bs⟩ := Kd.R_slice aY.o
     (subst bs)
     obtain ⟨ah, ai, bX⟩ := Kd.R_slice ak.o
     (subst bX)
     refine qBc (a' := ?_) ?_ ?_
     rotate_left
     ·simp only [qBa, Act.put, List.setIfInBounds_toArray, List.set_cons_zero, List.set_cons_succ]
      rfl
     refine one_ (i := 14) (N := some 3) #[true, true, true, true, true, true, true, true, true, true, true, true, true, true, true, false] rfl rfl (qBq HT_.o (by kernel_rfl)) (by decide) (fun K hK => ?_)
     refine qCN ?hg (N := 3) ?hd (cs := #[.slice none 0 0, .int .i64 0, .slice none 0 0, .slice none 0 0]) (t := 90) ?hr ?_; (case hd => rfl); (case hg => rfl); (case hr => (go_simp; done))
     intro aD hg ct hbox hb
     have n_ := a2 (Kd.R_below aY.o hb) (a2 (Kd.R_below ak.o hb) (a2 (qAt (g := aC) (o := .cells #[.slice aT l0_0.length aW, .int .i64 a0_1, .slice aU l0_2.length aX, .slice aV l0_3.length aQ] 98 (0, 0)) aA.o hb) (a2 (qAt (g := aG) (o := .cells #[.slice none 0 0, .int .i64 0, .slice none 0 0, .slice none 0 0] 90 (0, 0)) aE.o hb) (a2 (qAp HB.o hb) (a2 (hbox) (a2 (by rw [hg]; exact (qAs HB.o) : w.heap.size ≤ aD) (a2 (by rw [hg]; exact (qAs HB.o) : w.heap.size ≤ aD) (a2 (by rw [hg]; exact Nat.ne_of_lt (qAM (g := aC) (o := .cells #[.slice aT l0_0.length aW, .int .i64 a0_1, .slice aU l0_2.length aX, .slice aV l0_3.length aQ] 98 (0, 0)) aA.o) : aC ≠ aD) (a2 (by rw [hg]; exact Nat.ne_of_gt (qAM (g := aC) (o := .cells #[.slice aT l0_0.length aW, .int .i64 a0_1, .slice aU l0_2.length aX, .slice aV l0_3.length aQ] 98 (0, 0)) aA.o) : aD ≠ aC) (a2 (by rw [hg]; exact Nat.ne_of_lt (qAM (g := aG) (o := .cells #[.slice none 0 0, .int .i64 0, .slice none 0 0, .slice none 0 0] 90 (0, 0)) aE.o) : aG ≠ aD) (am (by rw [hg]; exact Nat.ne_of_gt (qAM (g := aG) (o := .cells #[.slice none 0 0, .int .i64 0, .slice none 0 0, .slice none 0 0] 90 (0, 0)) aE.o) : aD ≠ aG))))))))))))
     clear aY ak aA aE HB
     obtain ⟨aY, ak, aA, aE, HB, aI, aa, a7, aH, aK, aJ, aM⟩ := n_
     clear hb hbox hg
     refine hK.o _ _ ⟨(qAa aA.o 0).trans rfl, (qAa aA.o 1).trans rfl, (qAa aA.o 2).trans rfl, (qAa aA.o 3).trans rfl⟩ (fun hHeld => ?_)
     clear hK K
     refine qBc (a' := ?_) ?_ ?_
     rotate_left
     ·show Act.put _ (some 3) _ = _
      simp only [Act.put, List.setIfInBounds_toArray, List.set_cons_zero, List.set_cons_succ]
      rfl
     exact qBc (by (simp only [qBa, Act.put, List.setIfInBounds_toArray, List.set_cons_zero, List.set_cons_succ]; done)) (hJ0_4_9_12_14 (a9, .slice bk a5.length bo, a8, .slice ah ag.length ai, aD) _ ⟨hHeld, aY.o, ak.o, aA.o, aE.o, aI.o, aa.o, a7.o, aH.o, aK.o, aJ.o, aM.o, HB.o⟩)
   rintro ⟨a9, an, a8, bJ, aD⟩ bK ⟨hS_, h0_, h1_, h2_, h3_, h4_, h5_, h6_, h7_, h8_, h9_, h10_, h11_⟩
   have n0_ : qAj (Kd.R (Kd.int .i64) 3 bK w.heap.size (fun k_ => some k_ ≠ (bJ : Value).ownBlock) an a5) := ⟨h0_⟩
   have n1_ : qAj (Kd.R (Kd.int .i64) 3 bK w.heap.size (fun k_ => some k_ ≠ (an : Value).ownBlock) bJ ag) := ⟨h1_⟩
   have n2_ : qAj (bK.heap[aC]? = some (.cells #[.slice aT l0_0.length aW, .int .i64 a0_1, .slice aU l0_2.length aX, .slice aV l0_3.length aQ] 98 (0, 0))) := ⟨h2_⟩
   have n3_ : qAj (bK.heap[aG]? = some (.cells #[.slice none 0 0, .int .i64 0, .slice none 0 0, .slice none 0 0] 90 (0, 0))) := ⟨h3_⟩
   have n4_ : qAj (bK.heap[aD]? = some (.cells #[.slice none 0 0, .int .i64 0, .slice none 0 0, .slice none 0 0] 90 (0, 0))) := ⟨h4_⟩
   have n5_ : qAj (w.heap.size ≤ aD) := ⟨h5_⟩
   have n6_ : qAj (w.heap.size ≤ aD) := ⟨h6_⟩
   have n7_ : qAj (aC ≠ aD) := ⟨h7_⟩
   have n8_ : qAj (aD ≠ aC) := ⟨h8_⟩
   have n9_ : qAj (aG ≠ aD) := ⟨h9_⟩
   have n10_ : qAj (aD ≠ aG) := ⟨h10_⟩
   have n11_ : qAj (Below w.heap.size w bK) := ⟨h11_⟩
   clear aA aE HB h0_ h1_ h2_ h3_ h4_ h5_ h6_ h7_ h8_ h9_ h10_ h11_
   have aY := n0_
   have ak := n1_
   have aA := n2_
   have aE := n3_
   have aI := n4_
   have a7 := n6_
   have aH := n7_
   have aJ := n9_
   have HB := n11_
   clear n0_ n1_ n2_ n3_ n4_ n5_ n6_ n7_ n8_ n9_ n10_ n11_
   have hHeld : bK.cell? ⟨aC, 0, none⟩ = some (.slice aT l0_0.length aW) ∧ bK.cell? ⟨aC, 1, none⟩ = some (.int .i64 a0_1) ∧ bK.cell? ⟨aC, 2, none⟩ = some (.slice aU l0_2.length aX) ∧ bK.cell? ⟨aC, 3, none⟩ = some (.slice aV l0_3.length aQ) := hS_
   obtain ⟨ah, ai, bX⟩ := Kd.R_slice aY.o
   (subst bX)
   obtain ⟨ap, aq, ci⟩ := Kd.R_slice ak.o
   (subst ci)
   refine qBc (a' := ?_) ?_ ?_
   rotate_left
   ·simp only [qBa, Act.put, List.setIfInBounds_toArray, List.set_cons_zero, List.set_cons_succ]
    rfl
   refine one_ (i := 15) (N := none) #[true, true, true, true, true, true, true, true, true, true, true, true, true, true, true, true] rfl rfl (qBq HT_.o (by kernel_rfl)) (by decide) (fun K hK => ?_)
   have hs19 : bK.cell? ⟨aD, 0, none⟩ = some (.slice none 0 0) := (qAa aI.o 0).trans rfl
   have hfs19 := qAc aI.o 0
   have hs20 : bK.cell? ⟨aD, 1, none⟩ = some (.int .i64 0) := (qAa aI.o 1).trans rfl
   have hfs20 := qAc aI.o 1
   have hs21 : bK.cell? ⟨aD, 2, none⟩ = some (.slice none 0 0) := (qAa aI.o 2).trans rfl
   have hfs21 := qAc aI.o 2
   have hs22 : bK.cell? ⟨aD, 3, none⟩ = some (.slice none 0 0) := (qAa aI.o 3).trans rfl
   have hfs22 := qAc aI.o 3
   refine skip_ (w1 := ?_) (by rfl) rfl ?_ ?_
   rotate_left
   ·go_simp
    rfl
   refine hK.o _ _ ⟨((qB7 (p := ⟨aD, _, none⟩) aH.o _).trans ((qB7 (p := ⟨aD, _, none⟩) aH.o _).trans ((qB7 (p := ⟨aD, _, none⟩) aH.o _).trans ((qB7 (p := ⟨aD, _, none⟩) aH.o _).trans (hHeld.1))))), ((qB7 (p := ⟨aD, _, none⟩) aH.o _).trans ((qB7 (p := ⟨aD, _, none⟩) aH.o _).trans ((qB7 (p := ⟨aD, _, none⟩) aH.o _).trans ((qB7 (p := ⟨aD, _, none⟩) aH.o _).trans (hHeld.2.1))))), ((qB7 (p := ⟨aD, _, none⟩) aH.o _).trans ((qB7 (p := ⟨aD, _, none⟩) aH.o _).trans ((qB7 (p := ⟨aD, _, none⟩) aH.o _).trans ((qB7 (p := ⟨aD, _, none⟩) aH.o _).trans (hHeld.2.2.1))))), ((qB7 (p := ⟨aD, _, none⟩) aH.o _).trans ((qB7 (p := ⟨aD, _, none⟩) aH.o _).trans ((qB7 (p := ⟨aD, _, none⟩) aH.o _).trans ((qB7 (p := ⟨aD, _, none⟩) aH.o _).trans (hHeld.2.2.2)))))⟩ (fun hHeld => ?_)
   clear hK K
   refine done_ (qC8 HT_.o (by kernel_rfl)) ?_
   try go_wp2
   go_loopg [4] k (fun kq v4 w' => ∃ (a4 : Int) (ac : List (S144)) (al : Value), v4 = .int .i64 a4 ∧ qAj (qAy.l0 kq a4 l0_0 a0_1 l0_2 l0_3 a5 a0_1 ag ac = some (r1, r2, r3, r4)) ∧ qAj (kq ≤ k) ∧ qAj (Kd.R (Kd.int .i64) 3 w' w.heap.size (fun k_ => some k_ ≠ ((.slice ap ag.length aq) : Value).ownBlock) (.slice ah a5.length ai) a5) ∧ qAj (Kd.R (Kd.int .i64) 3 w' w.heap.size (fun k_ => some k_ ≠ ((.slice ah a5.length ai) : Value).ownBlock) (.slice ap ag.length aq) ag) ∧ qAj (Kd.R k144 144 w' w.heap.size (fun _ => True) al ac) ∧ qAj (w'.heap[aC]? = some (.cells #[(.slice aT l0_0.length aW), .int .i64 a0_1, (.slice aU l0_2.length aX), (.slice aV l0_3.length aQ)] 98 (0, 0))) ∧ qAj (w'.heap[aG]? = some (.cells #[(.slice none 0 0), .int .i64 0, (.slice none 0 0), (.slice none 0 0)] 90 (0, 0))) ∧ qAj (w'.heap[aD]? = some (.cells #[(.slice ah a5.length ai), .int .i64 a0_1, (.slice ap ag.length aq), al] 90 (0, 0))) ∧ qAj (Below w.heap.size w w'))
   case atStart => exact ⟨(0), ([] : List (S144)), (.slice none 0 0), (by rfl), H', ⟨Nat.le_refl _⟩, ⟨by exact Kd.R_mono (Kd.R_far (p := ⟨aD, 3, none⟩) (Kd.R_far (p := ⟨aD, 2, none⟩) (Kd.R_far (p := ⟨aD, 1, none⟩) (Kd.R_far (p := ⟨aD, 0, none⟩) (Kd.R_types aY.o aI.o (by decide)) (fun _ hk => hk.2) (.slice ah a5.length ai)) (fun _ hk => hk.2) (.int .i64 a0_1)) (fun _ hk => hk.2) (.slice ap ag.length aq)) (fun _ hk => hk.2) (.slice none 0 0)) (fun _ hk => hk.1)⟩, ⟨by exact Kd.R_mono (Kd.R_far (p := ⟨aD, 3, none⟩) (Kd.R_far (p := ⟨aD, 2, none⟩) (Kd.R_far (p := ⟨aD, 1, none⟩) (Kd.R_far (p := ⟨aD, 0, none⟩) (Kd.R_types ak.o aI.o (by decide)) (fun _ hk => hk.2) (.slice ah a5.length ai)) (fun _ hk => hk.2) (.int .i64 a0_1)) (fun _ hk => hk.2) (.slice ap ag.length aq)) (fun _ hk => hk.2) (.slice none 0 0)) (fun _ hk => hk.1)⟩, ⟨by (exact Kd.R_nil _ _ _ _ _)⟩, ⟨by refine qA1 ?_ aH.o _; refine qA1 ?_ aH.o _; refine qA1 ?_ aH.o _; refine qA1 ?_ aH.o _; exact aA.o⟩, ⟨by refine qA1 ?_ aJ.o _; refine qA1 ?_ aJ.o _; refine qA1 ?_ aJ.o _; refine qA1 ?_ aJ.o _; exact aE.o⟩, ⟨by refine qA6 (cs := #[.slice ah a5.length ai, .int .i64 a0_1, .slice ap ag.length aq, .slice none 0 0]) ?_ 3 _ rfl; refine qA6 (cs := #[.slice ah a5.length ai, .int .i64 a0_1, .slice none 0 0, .slice none 0 0]) ?_ 2 _ rfl; refine qA6 (cs := #[.slice ah a5.length ai, .int .i64 0, .slice none 0 0, .slice none 0 0]) ?_ 1 _ rfl; refine qA6 (cs := #[.slice none 0 0, .int .i64 0, .slice none 0 0, .slice none 0 0]) ?_ 0 _ rfl; exact aI.o⟩, ⟨by repeat (with_reducible first | exact HB.o | refine qAb ?_ a7.o)⟩⟩
   case round =>
    clear H'
    obtain ⟨a4, ac, al, rfl, HA, cp, ad, ae, a6, aA, aE, aI, HB⟩ := hrel
    cases gk with
    | zero => exact absurd HA.o (by simp [qAy.l0])
    | succ k1 =>
     have H := HA.o
     clear HA
     simp only [qAy.l0] at H
     by_cases cC : a4 < (l0_3.length : Int)
     rotate_left
     ·rw [if_neg cC] at H
      replace cC := d0 cC
      simp only [Option.some.injEq, Prod.mk.injEq] at H
      obtain ⟨rfl, rfl, rfl, rfl⟩ := H
      have cP : wr.cell? ⟨aC, 3, none⟩ = some (.slice aV l0_3.length aQ) := (qAa aA.o 3).trans rfl
      have cQ : wr.cell? ⟨aD, 0, none⟩ = some (.slice ah a5.length ai) := (qAa aI.o 0).trans rfl
      have cR : wr.cell? ⟨aD, 1, none⟩ = some (.int .i64 a0_1) := (qAa aI.o 1).trans rfl
      have cS : wr.cell? ⟨aD, 2, none⟩ = some (.slice ap ag.length aq) := (qAa aI.o 2).trans rfl
      have cT : wr.cell? ⟨aD, 3, none⟩ = some (al) := (qAa aI.o 3).trans rfl
      have cU : wr.cell? ⟨aG, 0, none⟩ = some (.slice none 0 0) := (qAa aE.o 0).trans rfl
      have cV : wr.cell? ⟨aG, 1, none⟩ = some (.int .i64 0) := (qAa aE.o 1).trans rfl
      have cW : wr.cell? ⟨aG, 2, none⟩ = some (.slice none 0 0) := (qAa aE.o 2).trans rfl
      have cX : wr.cell? ⟨aG, 3, none⟩ = some (.slice none 0 0) := (qAa aE.o 3).trans rfl
      have cY := qAc aE.o 0
      have cZ := qAc aE.o 1
      have c0 := qAc aE.o 2
      have c1 := qAc aE.o 3
      obtain ⟨b5, b9, ck⟩ := Kd.R_slice a6.o
      subst ck
      go_wp2
      refine bodyPost_ret (results_cell_row rfl _ _ aG 90 #[.slice ah a5.length ai, .int .i64 a0_1, .slice ap ag.length aq, .slice b5 ac.length b9] (0, 0) _ rfl (by refine qA6 (cs := #[.slice ah a5.length ai, .int .i64 a0_1, .slice ap ag.length aq, .slice none 0 0]) ?_ 3 _ rfl; refine qA6 (cs := #[.slice ah a5.length ai, .int .i64 a0_1, .slice none 0 0, .slice none 0 0]) ?_ 2 _ rfl; refine qA6 (cs := #[.slice ah a5.length ai, .int .i64 0, .slice none 0 0, .slice none 0 0]) ?_ 1 _ rfl; refine qA6 (cs := #[.slice none 0 0, .int .i64 0, .slice none 0 0, .slice none 0 0]) ?_ 0 _ rfl; exact aE.o) Tryz.underlying90 rfl (by kernel_rfl)) rfl ?_
      exact ⟨_, _, _, by rfl, by exact Kd.R_mono (Kd.R_far (p := ⟨aG, 3, none⟩) (Kd.R_far (p := ⟨aG, 2, none⟩) (Kd.R_far (p := ⟨aG, 1, none⟩) (Kd.R_far (p := ⟨aG, 0, none⟩) (Kd.R_types ad.o aE.o (by decide)) (fun _ hk => hk.2) (.slice ah a5.length ai)) (fun _ hk => hk.2) (.int .i64 a0_1)) (fun _ hk => hk.2) (.slice ap ag.length aq)) (fun _ hk => hk.2) (.slice b5 ac.length b9)) (fun _ hk => hk.1), by exact Kd.R_mono (Kd.R_far (p := ⟨aG, 3, none⟩) (Kd.R_far (p := ⟨aG, 2, none⟩) (Kd.R_far (p := ⟨aG, 1, none⟩) (Kd.R_far (p := ⟨aG, 0, none⟩) (Kd.R_types ae.o aE.o (by decide)) (fun _ hk => hk.2) (.slice ah a5.length ai)) (fun _ hk => hk.2) (.int .i64 a0_1)) (fun _ hk => hk.2) (.slice ap ag.length aq)) (fun _ hk => hk.2) (.slice b5 ac.length b9)) (fun _ hk => hk.1), by exact Kd.R_mono (Kd.R_far (p := ⟨aG, 3, none⟩) (Kd.R_far (p := ⟨aG, 2, none⟩) (Kd.R_far (p := ⟨aG, 1, none⟩) (Kd.R_far (p := ⟨aG, 0, none⟩) (Kd.R_types a6.o aE.o (by decide)) (fun _ hk => hk.2) (.slice ah a5.length ai)) (fun _ hk => hk.2) (.int .i64 a0_1)) (fun _ hk => hk.2) (.slice ap ag.length aq)) (fun _ hk => hk.2) (.slice b5 ac.length b9)) (fun _ hk => trivial), by repeat (with_reducible first | exact HB.o | refine qAb ?_ cE.o)⟩
     rw [if_pos cC] at H
     replace cC := d1 cC
     obtain ⟨cM, H⟩ := gd H
     replace cM := d1 cM
     obtain ⟨cN, H⟩ := gd H
     have cF := am cN
     clear cN
     obtain ⟨bT, b2⟩ : ∃ y_ : List (S144), y_ = (ac ++ [(⟨(qAC l0_3 a4).f0, (qAC l0_3 a4).f1, (⟨(qAC l0_3 a4).f2.f0, (qAC l0_3 a4).f2.f1⟩ : S83)⟩ : S144)]) := ⟨_, rfl⟩
     replace H : (qAy.l0 k1 (wrap64 (a4 + 1)) l0_0 a0_1 l0_2 l0_3 a5 a0_1 ag bT) = some (r1, r2, r3, r4) := by (rw [b2]; with_reducible exact H)
     have cH := am b2
     clear b2
     have H' := am H
     clear H
     have cO : wr.cell? ⟨aC, 3, none⟩ = some (.slice aV l0_3.length aQ) := (qAa aA.o 3).trans rfl
     try go_wp2
     have n_ := a2 (Kd.R_drew ad.o) (a2 (Kd.R_drew ae.o) (a2 (Kd.R_drew a6.o) (a2 (qAh aA.o) (a2 (qAh aE.o) (a2 (qAh aI.o) (am (qAk HB.o)))))))
     clear ad ae a6 aA aE aI HB
     obtain ⟨ad, ae, a6, aA, aE, aI, HB⟩ := n_
     have bw : 0 ≤ a4 := od (by assumption)
     have bz : a4 < (l0_3.length : Int) := od (by assumption)
     obtain ⟨ab, cd, ar, au, av, aw⟩ := qCM bV.o a4 bw bz
     have hw157_3 := aw
     have hw157_2 := av
     have hw157_1 := au
     have hw157_0 := ar
     cases cd
     replace ar := (HB.o.cell (World.block_lt_of_cell? w _ ar)).trans ar
     replace au := (HB.o.cell (World.block_lt_of_cell? w _ au)).trans au
     replace av := (HB.o.cell (World.block_lt_of_cell? w _ av)).trans av
     replace aw := (HB.o.cell (World.block_lt_of_cell? w _ aw)).trans aw
     replace bw := eq_true bw
     replace bz := eq_true bz
     have cl : 0 ≤ a4 := od (by assumption)
     have cn : a4 < (l0_3.length : Int) := od (by assumption)
     obtain ⟨cI, ce, ax, ay, az, bA⟩ := qCM bV.o a4 cl cn
     have hw158_3 := bA
     have hw158_2 := az
     have hw158_1 := ay
     have hw158_0 := ax
     obtain rfl : ab = cI := (by injection ce)
     replace ax := (HB.o.cell (World.block_lt_of_cell? w _ ax)).trans ax
     replace ay := (HB.o.cell (World.block_lt_of_cell? w _ ay)).trans ay
     replace az := (HB.o.cell (World.block_lt_of_cell? w _ az)).trans az
     replace bA := (HB.o.cell (World.block_lt_of_cell? w _ bA)).trans bA
     have cm : 0 ≤ a4 := od (by assumption)
     have co : a4 < (l0_3.length : Int) := od (by assumption)
     obtain ⟨cJ, cf, bB, bC, bD, bE⟩ := qCM bV.o a4 cm co
     have hw159_3 := bE
     have hw159_2 := bD
     have hw159_1 := bC
     have hw159_0 := bB
     obtain rfl : ab = cJ := (by injection cf)
     replace bB := (HB.o.cell (World.block_lt_of_cell? w _ bB)).trans bB
     replace bC := (HB.o.cell (World.block_lt_of_cell? w _ bC)).trans bC
     replace bD := (HB.o.cell (World.block_lt_of_cell? w _ bD)).trans bD
     replace bE := (HB.o.cell (World.block_lt_of_cell? w _ bE)).trans bE
     refine qDz (n := 25) (S := fun w' => w'.cell? ⟨aD, 0, none⟩ = some (.slice ah a5.length ai) ∧ w'.cell? ⟨aD, 1, none⟩ = some (.int .i64 a0_1) ∧ w'.cell? ⟨aD, 2, none⟩ = some (.slice ap ag.length aq) ∧ w'.cell? ⟨aD, 3, none⟩ = some (al) ∧ w'.cell? ⟨aC, 0, none⟩ = some (.slice aT l0_0.length aW) ∧ w'.cell? ⟨aC, 1, none⟩ = some (.int .i64 a0_1) ∧ w'.cell? ⟨aC, 2, none⟩ = some (.slice aU l0_2.length aX) ∧ w'.cell? ⟨aC, 3, none⟩ = some (.slice (some ab) l0_3.length aQ) ∧ w'.cell? (ab.add ((a4).toNat * 4)) = some (.int .i64 ((qAC l0_3 a4).f0)) ∧ w'.cell? ⟨(ab.add ((a4).toNat * 4)).block, (ab.add ((a4).toNat * 4)).off + 1, none⟩ = some (.int .i64 ((qAC l0_3 a4).f1)) ∧ w'.cell? ⟨(ab.add ((a4).toNat * 4)).block, (ab.add ((a4).toNat * 4)).off + 2, none⟩ = some (.int .i64 ((qAC l0_3 a4).f2.f0)) ∧ w'.cell? ⟨(ab.add ((a4).toNat * 4)).block, (ab.add ((a4).toNat * 4)).off + 3, none⟩ = some (.int .u64 ((qAC l0_3 a4).f2.f1)) ∧ w'.cell? (ab.add ((a4).toNat * 4)) = some (.int .i64 ((qAC l0_3 a4).f0)) ∧ w'.cell? ⟨(ab.add ((a4).toNat * 4)).block, (ab.add ((a4).toNat * 4)).off + 1, none⟩ = some (.int .i64 ((qAC l0_3 a4).f1)) ∧ w'.cell? ⟨(ab.add ((a4).toNat * 4)).block, (ab.add ((a4).toNat * 4)).off + 2, none⟩ = some (.int .i64 ((qAC l0_3 a4).f2.f0)) ∧ w'.cell? ⟨(ab.add ((a4).toNat * 4)).block, (ab.add ((a4).toNat * 4)).off + 3, none⟩ = some (.int .u64 ((qAC l0_3 a4).f2.f1)) ∧ w'.cell? (ab.add ((a4).toNat * 4)) = some (.int .i64 ((qAC l0_3 a4).f0)) ∧ w'.cell? ⟨(ab.add ((a4).toNat * 4)).block, (ab.add ((a4).toNat * 4)).off + 1, none⟩ = some (.int .i64 ((qAC l0_3 a4).f1)) ∧ w'.cell? ⟨(ab.add ((a4).toNat * 4)).block, (ab.add ((a4).toNat * 4)).off + 2, none⟩ = some (.int .i64 ((qAC l0_3 a4).f2.f0)) ∧ w'.cell? ⟨(ab.add ((a4).toNat * 4)).block, (ab.add ((a4).toNat * 4)).off + 3, none⟩ = some (.int .u64 ((qAC l0_3 a4).f2.f1))) (ds := [24]) #[false, false, false, false, false, false, false, false, false, false, false, false, false, false, false, false, false, false, false, false, false, false, false, false, false] (by kernel_rfl) rfl rfl ⟨(qAa aI.o 0).trans rfl, (qAa aI.o 1).trans rfl, (qAa aI.o 2).trans rfl, (qAa aI.o 3).trans rfl, (qAa aA.o 0).trans rfl, (qAa aA.o 1).trans rfl, (qAa aA.o 2).trans rfl, (qAa aA.o 3).trans rfl, ((HB.o.cell (World.block_lt_of_cell? w _ hw157_0)).trans hw157_0), ((HB.o.cell (World.block_lt_of_cell? w _ hw157_1)).trans hw157_1), ((HB.o.cell (World.block_lt_of_cell? w _ hw157_2)).trans hw157_2), ((HB.o.cell (World.block_lt_of_cell? w _ hw157_3)).trans hw157_3), ((HB.o.cell (World.block_lt_of_cell? w _ hw158_0)).trans hw158_0), ((HB.o.cell (World.block_lt_of_cell? w _ hw158_1)).trans hw158_1), ((HB.o.cell (World.block_lt_of_cell? w _ hw158_2)).trans hw158_2), ((HB.o.cell (World.block_lt_of_cell? w _ hw158_3)).trans hw158_3), ((HB.o.cell (World.block_lt_of_cell? w _ hw159_0)).trans hw159_0), ((HB.o.cell (World.block_lt_of_cell? w _ hw159_1)).trans hw159_1), ((HB.o.cell (World.block_lt_of_cell? w _ hw159_2)).trans hw159_2), ((HB.o.cell (World.block_lt_of_cell? w _ hw159_3)).trans hw159_3)⟩ (fun hHeld => ?_); refine qBM qAy.tab5 qAy.bits5 (fun HT_ HW_ => ?_)
     generalize wr.drew = cu at ad ae a6 aA aE aI HB ar au av aw ax ay az bA bB bC bD bE hHeld ⊢
     refine pu 0 26 #[true, false, false, false, false, false, false, false, false, false, false, false, false, false, false, false, false, false, false, false, false, false, false, false, false] (qAK HT_.o (by kernel_rfl)) ?_
     refine pu 2 28 #[true, false, true, false, false, false, false, false, false, false, false, false, false, false, false, false, false, false, false, false, false, false, false, false, false] (qAK HT_.o (by kernel_rfl)) ?_
     refine pu 4 30 #[true, false, true, false, true, false, false, false, false, false, false, false, false, false, false, false, false, false, false, false, false, false, false, false, false] (qAK HT_.o (by kernel_rfl)) ?_
     refine pu 8 34 #[true, false, true, false, true, false, false, false, true, false, false, false, false, false, false, false, false, false, false, false, false, false, false, false, false] (qAK HT_.o (by kernel_rfl)) ?_
     refine pu 10 36 #[true, false, true, false, true, false, false, false, true, false, true, false, false, false, false, false, false, false, false, false, false, false, false, false, false] (qAK HT_.o (by kernel_rfl)) ?_
     refine pu 14 40 #[true, false, true, false, true, false, false, false, true, false, true, false, false, false, true, false, false, false, false, false, false, false, false, false, false] (qAK HT_.o (by kernel_rfl)) ?_
     refine pu 16 42 #[true, false, true, false, true, false, false, false, true, false, true, false, false, false, true, false, true, false, false, false, false, false, false, false, false] (qAK HT_.o (by kernel_rfl)) ?_
     refine qBR (i := 1) (N := some 27) (v := ?_) (a' := ?_) #[true, true, true, false, true, false, false, false, true, false, true, false, false, false, true, false, true, false, false, false, false, false, false, false, false] rfl rfl (qBg HT_.o HW_.o (by kernel_rfl)) (fun _ _ _ h => h) (Or.inl ⟨by rfl, ?_⟩) hHeld ?_ ?_
     rotate_left
     ·rintro w' ⟨s0, s1, s2, s3, s4, s5, s6, s7, s8, s9, s10, s11, s12, s13, s14, s15, s16, s17, s18, s19⟩
      go_simp
      with_reducible rfl
     rotate_left
     ·simp only [Act.put, List.setIfInBounds_toArray, List.set_cons_zero, List.set_cons_succ]
      rfl
     refine qBR (i := 3) (N := some 29) (v := ?_) (a' := ?_) #[true, true, true, true, true, false, false, false, true, false, true, false, false, false, true, false, true, false, false, false, false, false, false, false, false] rfl rfl (qBg HT_.o HW_.o (by kernel_rfl)) (fun _ _ _ h => h) (Or.inl ⟨by rfl, ?_⟩) hHeld ?_ ?_
     rotate_left
     ·rintro w' ⟨s0, s1, s2, s3, s4, s5, s6, s7, s8, s9, s10, s11, s12, s13, s14, s15, s16, s17, s18, s19⟩
      go_simp
      with_reducible rfl
     rotate_left
     ·simp only [Act.put, List.setIfInBounds_toArray, List.set_cons_zero, List.set_cons_succ]
      rfl
     refine pu 5 31 #[true, true, true, true, true, true, false, false, true, false, true, false, false, false, true, false, true, false, false, false, false, false, false, false, false] (qAK HT_.o (by kernel_rfl)) ?_
     refine pu 6 32 #[true, true, true, true, true, true, true, false, true, false, true, false, false, false, true, false, true, false, false, false, false, false, false, false, false] (qAK HT_.o (by kernel_rfl)) ?_
     refine qBR (i := 7) (N := some 33) (v := ?_) (a' := ?_) #[true, true, true, true, true, true, true, true, true, false, true, false, false, false, true, false, true, false, false, false, false, false, false, false, false] rfl rfl (qBg HT_.o HW_.o (by kernel_rfl)) (fun _ _ _ h => h) (Or.inl ⟨by rfl, ?_⟩) hHeld ?_ ?_
     rotate_left
     ·rintro w' ⟨s0, s1, s2, s3, s4, s5, s6, s7, s8, s9, s10, s11, s12, s13, s14, s15, s16, s17, s18, s19⟩
      go_simp
      with_reducible rfl
     rotate_left
     ·simp only [Act.put, List.setIfInBounds_toArray, List.set_cons_zero, List.set_cons_succ]
      rfl
     refine qBR (i := 9) (N := some 35) (v := ?_) (a' := ?_) #[true, true, true, true, true, true, true, true, true, true, true, false, false, false, true, false, true, false, false, false, false, false, false, false, false] rfl rfl (qBg HT_.o HW_.o (by kernel_rfl)) (fun _ _ _ h => h) (Or.inl ⟨by rfl, ?_⟩) hHeld ?_ ?_
     rotate_left
     ·rintro w' ⟨s0, s1, s2, s3, s4, s5, s6, s7, s8, s9, s10, s11, s12, s13, s14, s15, s16, s17, s18, s19⟩
      go_simp
      with_reducible rfl
     rotate_left
     ·simp only [Act.put, List.setIfInBounds_toArray, List.set_cons_zero, List.set_cons_succ]
      rfl
     refine pu 11 37 #[true, true, true, true, true, true, true, true, true, true, true, true, false, false, true, false, true, false, false, false, false, false, false, false, false] (qAK HT_.o (by kernel_rfl)) ?_
     refine pu 12 38 #[true, true, true, true, true, true, true, true, true, true, true, true, true, false, true, false, true, false, false, false, false, false, false, false, false] (qAK HT_.o (by kernel_rfl)) ?_
     refine qBR (i := 13) (N := some 39) (v := ?_) (a' := ?_) #[true, true, true, true, true, true, true, true, true, true, true, true, true, true, true, false, true, false, false, false, false, false, false, false, false] rfl rfl (qBg HT_.o HW_.o (by kernel_rfl)) (fun _ _ _ h => h) (Or.inl ⟨by rfl, ?_⟩) hHeld ?_ ?_
     rotate_left
     ·rintro w' ⟨s0, s1, s2, s3, s4, s5, s6, s7, s8, s9, s10, s11, s12, s13, s14, s15, s16, s17, s18, s19⟩
      go_simp
      with_reducible rfl
     rotate_left
     ·simp only [Act.put, List.setIfInBounds_toArray, List.set_cons_zero, List.set_cons_succ]
      rfl
     refine qBR (i := 15) (N := some 41) (v := ?_) (a' := ?_) #[true, true, true, true, true, true, true, true, true, true, true, true, true, true, true, true, true, false, false, false, false, false, false, false, false] rfl rfl (qBg HT_.o HW_.o (by kernel_rfl)) (fun _ _ _ h => h) (Or.inl ⟨by rfl, ?_⟩) hHeld ?_ ?_
     rotate_left
     ·rintro w' ⟨s0, s1, s2, s3, s4, s5, s6, s7, s8, s9, s10, s11, s12, s13, s14, s15, s16, s17, s18, s19⟩
      go_simp
      with_reducible rfl
     rotate_left
     ·simp only [Act.put, List.setIfInBounds_toArray, List.set_cons_zero, List.set_cons_succ]
      rfl
     refine pu 17 43 #[true, true, true, true, true, true, true, true, true, true, true, true, true, true, true, true, true, true, false, false, false, false, false, false, false] (qAK HT_.o (by kernel_rfl)) ?_
     refine pu 18 44 #[true, true, true, true, true, true, true, true, true, true, true, true, true, true, true, true, true, true, true, false, false, false, false, false, false] (qAK HT_.o (by kernel_rfl)) ?_
     refine qBR (i := 19) (N := some 45) (v := ?_) (a' := ?_) #[true, true, true, true, true, true, true, true, true, true, true, true, true, true, true, true, true, true, true, true, false, false, false, false, false] rfl rfl (qBg HT_.o HW_.o (by kernel_rfl)) (fun _ _ _ h => h) (Or.inl ⟨by rfl, ?_⟩) hHeld ?_ ?_
     rotate_left
     ·rintro w' ⟨s0, s1, s2, s3, s4, s5, s6, s7, s8, s9, s10, s11, s12, s13, s14, s15, s16, s17, s18, s19⟩
      go_simp
      with_reducible rfl
     rotate_left
     ·simp only [Act.put, List.setIfInBounds_toArray, List.set_cons_zero, List.set_cons_succ]
      rfl
     refine pu 20 46 #[true, true, true, true, true, true, true, true, true, true, true, true, true, true, true, true, true, true, true, true, true, false, false, false, false] (qAK HT_.o (by kernel_rfl)) ?_
     refine one_ (i := 21) (N := some 47) #[true, true, true, true, true, true, true, true, true, true, true, true, true, true, true, true, true, true, true, true, true, true, false, false, false] rfl rfl (qBq HT_.o (by kernel_rfl)) (by decide) (fun K hK => ?_)
     refine value_ (w1 := ?_) (v := ?_) (by rfl) rfl ?_ ?_
     rotate_left 2
     ·go_simp
      constructor
      ·rfl
      rfl
     refine hK.o _ _ ⟨(qAa (qAe aI.o _) 0).trans rfl, (qAa (qAe aI.o _) 1).trans rfl, (qAa (qAe aI.o _) 2).trans rfl, (qAa (qAe aI.o _) 3).trans rfl, (qAa (qAe aA.o _) 0).trans rfl, (qAa (qAe aA.o _) 1).trans rfl, (qAa (qAe aA.o _) 2).trans rfl, (qAa (qAe aA.o _) 3).trans rfl, (World.cell?_alloc_lt _ _ _ (World.block_lt_of_cell? _ _ ((HB.o.cell (World.block_lt_of_cell? w _ hw157_0)).trans hw157_0))).trans ((HB.o.cell (World.block_lt_of_cell? w _ hw157_0)).trans hw157_0), (World.cell?_alloc_lt _ _ _ (World.block_lt_of_cell? _ _ ((HB.o.cell (World.block_lt_of_cell? w _ hw157_1)).trans hw157_1))).trans ((HB.o.cell (World.block_lt_of_cell? w _ hw157_1)).trans hw157_1), (World.cell?_alloc_lt _ _ _ (World.block_lt_of_cell? _ _ ((HB.o.cell (World.block_lt_of_cell? w _ hw157_2)).trans hw157_2))).trans ((HB.o.cell (World.block_lt_of_cell? w _ hw157_2)).trans hw157_2), (World.cell?_alloc_lt _ _ _ (World.block_lt_of_cell? _ _ ((HB.o.cell (World.block_lt_of_cell? w _ hw157_3)).trans hw157_3))).trans ((HB.o.cell (World.block_lt_of_cell? w _ hw157_3)).trans hw157_3), (World.cell?_alloc_lt _ _ _ (World.block_lt_of_cell? _ _ ((HB.o.cell (World.block_lt_of_cell? w _ hw158_0)).trans hw158_0))).trans ((HB.o.cell (World.block_lt_of_cell? w _ hw158_0)).trans hw158_0), (World.cell?_alloc_lt _ _ _ (World.block_lt_of_cell? _ _ ((HB.o.cell (World.block_lt_of_cell? w _ hw158_1)).trans hw158_1))).trans ((HB.o.cell (World.block_lt_of_cell? w _ hw158_1)).trans hw158_1), (World.cell?_alloc_lt _ _ _ (World.block_lt_of_cell? _ _ ((HB.o.cell (World.block_lt_of_cell? w _ hw158_2)).trans hw158_2))).trans ((HB.o.cell (World.block_lt_of_cell? w _ hw158_2)).trans hw158_2), (World.cell?_alloc_lt _ _ _ (World.block_lt_of_cell? _ _ ((HB.o.cell (World.block_lt_of_cell? w _ hw158_3)).trans hw158_3))).trans ((HB.o.cell (World.block_lt_of_cell? w _ hw158_3)).trans hw158_3), (World.cell?_alloc_lt _ _ _ (World.block_lt_of_cell? _ _ ((HB.o.cell (World.block_lt_of_cell? w _ hw159_0)).trans hw159_0))).trans ((HB.o.cell (World.block_lt_of_cell? w _ hw159_0)).trans hw159_0), (World.cell?_alloc_lt _ _ _ (World.block_lt_of_cell? _ _ ((HB.o.cell (World.block_lt_of_cell? w _ hw159_1)).trans hw159_1))).trans ((HB.o.cell (World.block_lt_of_cell? w _ hw159_1)).trans hw159_1), (World.cell?_alloc_lt _ _ _ (World.block_lt_of_cell? _ _ ((HB.o.cell (World.block_lt_of_cell? w _ hw159_2)).trans hw159_2))).trans ((HB.o.cell (World.block_lt_of_cell? w _ hw159_2)).trans hw159_2), (World.cell?_alloc_lt _ _ _ (World.block_lt_of_cell? _ _ ((HB.o.cell (World.block_lt_of_cell? w _ hw159_3)).trans hw159_3))).trans ((HB.o.cell (World.block_lt_of_cell? w _ hw159_3)).trans hw159_3)⟩ (fun hHeld => ?_)
     clear hK K
     refine qBc (a' := ?_) ?_ ?_
     rotate_left
     ·show Act.put _ (some 47) _ = _
      simp only [Act.put, List.setIfInBounds_toArray, List.set_cons_zero, List.set_cons_succ]
      rfl
     refine one_ (i := 22) (N := some 48) #[true, true, true, true, true, true, true, true, true, true, true, true, true, true, true, true, true, true, true, true, true, true, true, false, false] rfl rfl (qBq HT_.o (by kernel_rfl)) (by decide) (fun K hK => ?_)
     refine Kd.R_append_step k144 (w0 := w) w.heap.size (by rfl) (.tmp 27) (.tmp 47) 88 144 (.agg #[(.int .i64 0), (.int .i64 0), (.int .i64 0), (.int .u64 0)]) 32 rfl Tryz.underlying88 info144 rfl (by decide) (by omega) al ac (⟨(qAC l0_3 a4).f0, (qAC l0_3 a4).f1, (⟨(qAC l0_3 a4).f2.f0, (qAC l0_3 a4).f2.f1⟩ : S83)⟩ : S144) [.int .i64 ((qAC l0_3 a4).f0), .int .i64 ((qAC l0_3 a4).f1), .int .i64 ((qAC l0_3 a4).f2.f0), .int .u64 ((qAC l0_3 a4).f2.f1)] (fun _ => True) (fun _ => False) rfl rfl ?aP (fun _ hk => hk.elim) ?aF ?aO ?aB ?aS ?aL ?_
     (case aP => exact k144_mkM _ _ _ (⟨(qAC l0_3 a4).f0, (qAC l0_3 a4).f1, (⟨(qAC l0_3 a4).f2.f0, (qAC l0_3 a4).f2.f1⟩ : S83)⟩ : S144))
     (case aB => exact HB.o)
     (case aF => exact (fun _ _ => trivial))
     (case aO => exact a6.o)
     (case aS => exact (qAs HB.o))
     (case aL => have := cF.o; omega)
     intro cr cv ho hb hg bH
     rw [← cH.o] at ho
     have n_ := a2 (Kd.R_over' ad.o (Kd.R_typed a6.o) (by decide) hg) (a2 (Kd.R_over' ae.o (Kd.R_typed a6.o) (by decide) hg) (a2 (qAP (g := aC) (o := .cells #[.slice aT l0_0.length aW, .int .i64 a0_1, .slice aU l0_2.length aX, .slice (some ab) l0_3.length aQ] 98 (0, 0)) aA.o hg (Kd.R_ne a6.o aA.o (by decide))) (a2 (qAP (g := aG) (o := .cells #[.slice none 0 0, .int .i64 0, .slice none 0 0, .slice none 0 0] 90 (0, 0)) aE.o hg (Kd.R_ne a6.o aE.o (by decide))) (a2 (qAP (g := aD) (o := .cells #[.slice ah a5.length ai, .int .i64 a0_1, .slice ap ag.length aq, al] 90 (0, 0)) aI.o hg (Kd.R_ne a6.o aI.o (by decide))) (a2 (hb) (am (ho)))))))
     clear ad ae aA aE aI HB a6
     obtain ⟨ad, ae, aA, aE, aI, HB, bd⟩ := n_
     clear ho hb hg bH
     obtain ⟨b4, b8, cj⟩ := Kd.R_slice bd.o
     (subst cj)
     refine hK.o _ _ ⟨(qAa aI.o 0).trans rfl, (qAa aI.o 1).trans rfl, (qAa aI.o 2).trans rfl, (qAa aI.o 3).trans rfl, (qAa aA.o 0).trans rfl, (qAa aA.o 1).trans rfl, (qAa aA.o 2).trans rfl, (qAa aA.o 3).trans rfl, ((HB.o.cell (World.block_lt_of_cell? w _ hw157_0)).trans hw157_0), ((HB.o.cell (World.block_lt_of_cell? w _ hw157_1)).trans hw157_1), ((HB.o.cell (World.block_lt_of_cell? w _ hw157_2)).trans hw157_2), ((HB.o.cell (World.block_lt_of_cell? w _ hw157_3)).trans hw157_3), ((HB.o.cell (World.block_lt_of_cell? w _ hw158_0)).trans hw158_0), ((HB.o.cell (World.block_lt_of_cell? w _ hw158_1)).trans hw158_1), ((HB.o.cell (World.block_lt_of_cell? w _ hw158_2)).trans hw158_2), ((HB.o.cell (World.block_lt_of_cell? w _ hw158_3)).trans hw158_3), ((HB.o.cell (World.block_lt_of_cell? w _ hw159_0)).trans hw159_0), ((HB.o.cell (World.block_lt_of_cell? w _ hw159_1)).trans hw159_1), ((HB.o.cell (World.block_lt_of_cell? w _ hw159_2)).trans hw159_2), ((HB.o.cell (World.block_lt_of_cell? w _ hw159_3)).trans hw159_3)⟩ (fun hHeld => ?_)
     clear hK K
     refine qBc (a' := ?_) ?_ ?_
     rotate_left
     ·show Act.put _ (some 48) _ = _
      simp only [Act.put, List.setIfInBounds_toArray, List.set_cons_zero, List.set_cons_succ]
      rfl
     refine pu 23 49 #[true, true, true, true, true, true, true, true, true, true, true, true, true, true, true, true, true, true, true, true, true, true, true, true, false] (qAK HT_.o (by kernel_rfl)) ?_
     refine last_ (i := 24) (N := none) #[true, true, true, true, true, true, true, true, true, true, true, true, true, true, true, true, true, true, true, true, true, true, true, true, true] rfl rfl (qBq HT_.o (by kernel_rfl)) (by decide) (fun K hK => ?_)
     have hfs32 := qAc aI.o 3
     refine skip_ (w1 := ?_) (by rfl) rfl ?_ ?_
     rotate_left
     ·go_simp
      rfl
     refine hK.o _ _ ?_
     clear hK K
     refine done_ (qC8 HT_.o (by kernel_rfl)) ?_
     try go_wp2
     go_roundg k1
     case measure => have := cp.o; omega
     case rel => exact ⟨(wrap64 (a4 + 1)), (bT), (.slice b4 bT.length b8), (by rfl), H', ⟨by have := cp.o; omega⟩, ⟨by exact Kd.R_mono (Kd.R_far (p := ⟨aD, 3, none⟩) (Kd.R_types ad.o aI.o (by decide)) (fun _ hk => hk.2) (.slice b4 bT.length b8)) (fun _ hk => hk.1)⟩, ⟨by exact Kd.R_mono (Kd.R_far (p := ⟨aD, 3, none⟩) (Kd.R_types ae.o aI.o (by decide)) (fun _ hk => hk.2) (.slice b4 bT.length b8)) (fun _ hk => hk.1)⟩, ⟨by exact Kd.R_mono (Kd.R_far (p := ⟨aD, 3, none⟩) (Kd.R_types bd.o aI.o (by decide)) (fun _ hk => hk.2) (.slice b4 bT.length b8)) (fun _ hk => trivial)⟩, ⟨by refine qA1 ?_ aH.o _; exact aA.o⟩, ⟨by refine qA1 ?_ aJ.o _; exact aE.o⟩, ⟨by refine qA6 (cs := #[.slice ah a5.length ai, .int .i64 a0_1, .slice ap ag.length aq, al]) ?_ 3 _ rfl; exact aI.o⟩, ⟨by repeat (with_reducible first | exact HB.o | refine qAb ?_ a7.o)⟩⟩
  ·rw [if_neg c3] at H
   exact absurd H (by simp)
 ·rw [if_neg c2] at H
  exact absurd H (by simp)
end Q
end
end Go.Proofs.YtfjpnjbinbhcfaaGreat
