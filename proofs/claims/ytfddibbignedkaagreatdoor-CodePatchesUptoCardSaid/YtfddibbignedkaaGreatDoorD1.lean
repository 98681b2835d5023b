/- Chapter 14: what the laws of this seat share: the words, the contracts of code.Verify, Encode, Text and of the document's Verify. -/
import Derived.Test.YtfddibbignedkaaGreatDoorB4
import Derived.Laws.BitsAllLaws
set_option maxHeartbeats 8000000
set_option maxRecDepth 100000
set_option linter.unusedVariables false
set_option linter.unusedSimpArgs false
namespace Go.Proofs.YtfddibbignedkaaGreatDoor
section
namespace Q
open Go.RowKit YA YC YB
attribute [local go_sem] max2_int min2_int max_two min_two max_three min_three max_four min_four
def qBo.f (a0_0 : Int) (a0_1 : Int) (a1_0 : Int) (a1_1 : Int) : Option (Bool) := if a0_0 = a1_0 then (some (a0_1 == a1_1)) else (some false)
theorem qBo.calls (a0_0 : Int) (a0_1 : Int) (a1_0 : Int) (a1_1 : Int) (r : Bool) (w : World) (h : qBo.f a0_0 a0_1 a1_0 a1_1 = some r) :
  Calls Tryz.prog 58 #[.agg #[.int .i64 a0_0, .int .u64 a0_1], .agg #[.int .i64 a1_0, .int .u64 a1_1]] w fun e w' => e = .returned (.bool r) ∧ Below w.heap.size w w' := by
 have hu48 := Tryz.underlying48
 have HB := am (Below.refl w.heap.size w)
 have H : (if a0_0 = a1_0 then (some (a0_1 == a1_1)) else (some false)) = some r := h
 clear h
 by_cases c3 : a0_0 = a1_0
 ·rw [if_pos c3] at H
  have aS : (a0_0 == a1_0) = true := beq_iff_eq.mpr c3
  have aT : (a0_0 != a1_0) = false := bn c3
  clear c3
  obtain rfl := Option.some.inj H
  go_enter Tryz.func58, Tryz.ntmps58
  go_wp2_with (first | ((with_reducible refine qAV (N := 2) rfl ?_); refine qB5 ?hg (N := 2) ?hd (cs := #[.int .i64 a0_0, .int .u64 a0_1]) (t := 48) ?hr ?_; (case hd => rfl); (case hg => rfl); (case hr => first | (go_simp; done) | (go_simp; rfl)); intro aB hg w4 hbox hb; have n0_ := am (qAq (by repeat (first | (with_reducible first | exact HB.o | apply qAg | apply qAe | apply qAj) | exact HB.o)) hb); have n1_ := am (hbox); have n2_ := am ((by rw [hg]; exact (qAm (by repeat (first | (with_reducible first | exact HB.o | apply qAg | apply qAe | apply qAj) | exact HB.o))) : w.heap.size ≤ aB)); have n3_ := am ((by rw [hg]; exact (qAm (by repeat (first | (with_reducible first | exact HB.o | apply qAg | apply qAe | apply qAj) | exact HB.o))) : w.heap.size ≤ aB)); clear HB; have HB := n0_; have aA := n1_; have aI := n2_; have aC := n3_; clear n0_ n1_ n2_ n3_; clear hb hbox hg) | ((with_reducible refine qAV (N := 3) rfl ?_); refine qB5 ?hg (N := 3) ?hd (cs := #[.int .i64 a1_0, .int .u64 a1_1]) (t := 48) ?hr ?_; (case hd => rfl); (case hg => rfl); (case hr => first | (go_simp; done) | (go_simp; rfl)); intro aD hg w5 hbox hb; have n0_ := am (qAk (g := aB) (o := .cells #[.int .i64 a0_0, .int .u64 a0_1] 48 (0, 0)) (by (with_reducible repeat (first | refine qAs ?_ _ | refine qAt ?_ | refine qAv ?_ _)); exact aA.o) hb); have n1_ := am (qAq (by repeat (first | (with_reducible first | exact HB.o | apply qAg | apply qAe | apply qAj | refine qAi ?_ aC.o) | exact HB.o)) hb); have n2_ := am (hbox); have n3_ := am ((by rw [hg]; exact (qAm (by repeat (first | (with_reducible first | exact HB.o | apply qAg | apply qAe | apply qAj | refine qAi ?_ aC.o) | exact HB.o))) : w.heap.size ≤ aD)); have n4_ := am ((by rw [hg]; exact (qAm (by repeat (first | (with_reducible first | exact HB.o | apply qAg | apply qAe | apply qAj | refine qAi ?_ aC.o) | exact HB.o))) : w.heap.size ≤ aD)); have n5_ := am ((by rw [hg]; exact Nat.ne_of_lt (qAZ (g := aB) (o := .cells #[.int .i64 a0_0, .int .u64 a0_1] 48 (0, 0)) (by (with_reducible repeat (first | refine qAs ?_ _ | refine qAt ?_ | refine qAv ?_ _)); exact aA.o)) : aB ≠ aD)); have n6_ := am ((by rw [hg]; exact Nat.ne_of_gt (qAZ (g := aB) (o := .cells #[.int .i64 a0_0, .int .u64 a0_1] 48 (0, 0)) (by (with_reducible repeat (first | refine qAs ?_ _ | refine qAt ?_ | refine qAv ?_ _)); exact aA.o)) : aD ≠ aB)); clear aA; clear HB; have aA := n0_; have HB := n1_; have aG := n2_; have aJ := n3_; have aH := n4_; have aE := n5_; have aF := n6_; clear n0_ n1_ n2_ n3_ n4_ n5_ n6_; clear hb hbox hg; have a6 := aE.o; have a7 := aF.o; obtain ⟨aU, aV⟩ := c2_ w5 aA.o; obtain ⟨aY, aZ⟩ := z2_ aA.o; obtain ⟨aW, aX⟩ := c2_ w5 aG.o; obtain ⟨a0, a1⟩ := z2_ aG.o))
  go_ret
  exact ⟨by first | rfl | (simp [errW_none, errW_some] <;> rfl) | (simp [*, errW_none, errW_some] <;> rfl), by repeat (first | (with_reducible first | exact HB.o | apply qAg | apply qAe | apply qAj | refine qAi ?_ aC.o | refine qAi ?_ aH.o) | exact HB.o)⟩
 ·rw [if_neg c3] at H
  have aS : (a0_0 == a1_0) = false := bf c3
  have aT : (a0_0 != a1_0) = true := bne_iff_ne.mpr c3
  obtain rfl := Option.some.inj H
  go_enter Tryz.func58, Tryz.ntmps58
  go_wp2_with (first | ((with_reducible refine qAV (N := 2) rfl ?_); refine qB5 ?hg (N := 2) ?hd (cs := #[.int .i64 a0_0, .int .u64 a0_1]) (t := 48) ?hr ?_; (case hd => rfl); (case hg => rfl); (case hr => first | (go_simp; done) | (go_simp; rfl)); intro aB hg w9 hbox hb; have n0_ := am (qAq (by repeat (first | (with_reducible first | exact HB.o | apply qAg | apply qAe | apply qAj) | exact HB.o)) hb); have n1_ := am (hbox); have n2_ := am ((by rw [hg]; exact (qAm (by repeat (first | (with_reducible first | exact HB.o | apply qAg | apply qAe | apply qAj) | exact HB.o))) : w.heap.size ≤ aB)); have n3_ := am ((by rw [hg]; exact (qAm (by repeat (first | (with_reducible first | exact HB.o | apply qAg | apply qAe | apply qAj) | exact HB.o))) : w.heap.size ≤ aB)); clear HB; have HB := n0_; have aA := n1_; have aI := n2_; have aC := n3_; clear n0_ n1_ n2_ n3_; clear hb hbox hg) | ((with_reducible refine qAV (N := 3) rfl ?_); refine qB5 ?hg (N := 3) ?hd (cs := #[.int .i64 a1_0, .int .u64 a1_1]) (t := 48) ?hr ?_; (case hd => rfl); (case hg => rfl); (case hr => first | (go_simp; done) | (go_simp; rfl)); intro aD hg a5 hbox hb; have n0_ := am (qAk (g := aB) (o := .cells #[.int .i64 a0_0, .int .u64 a0_1] 48 (0, 0)) (by (with_reducible repeat (first | refine qAs ?_ _ | refine qAt ?_ | refine qAv ?_ _)); exact aA.o) hb); have n1_ := am (qAq (by repeat (first | (with_reducible first | exact HB.o | apply qAg | apply qAe | apply qAj | refine qAi ?_ aC.o) | exact HB.o)) hb); have n2_ := am (hbox); have n3_ := am ((by rw [hg]; exact (qAm (by repeat (first | (with_reducible first | exact HB.o | apply qAg | apply qAe | apply qAj | refine qAi ?_ aC.o) | exact HB.o))) : w.heap.size ≤ aD)); have n4_ := am ((by rw [hg]; exact (qAm (by repeat (first | (with_reducible first | exact HB.o | apply qAg | apply qAe | apply qAj | refine qAi ?_ aC.o) | exact HB.o))) : w.heap.size ≤ aD)); have n5_ := am ((by rw [hg]; exact Nat.ne_of_lt (qAZ (g := aB) (o := .cells #[.int .i64 a0_0, .int .u64 a0_1] 48 (0, 0)) (by (with_reducible repeat (first | refine qAs ?_ _ | refine qAt ?_ | refine qAv ?_ _)); exact aA.o)) : aB ≠ aD)); have n6_ := am ((by rw [hg]; exact Nat.ne_of_gt (qAZ (g := aB) (o := .cells #[.int .i64 a0_0, .int .u64 a0_1] 48 (0, 0)) (by (with_reducible repeat (first | refine qAs ?_ _ | refine qAt ?_ | refine qAv ?_ _)); exact aA.o)) : aD ≠ aB)); clear aA; clear HB; have aA := n0_; have HB := n1_; have aG := n2_; have aJ := n3_; have aH := n4_; have aE := n5_; have aF := n6_; clear n0_ n1_ n2_ n3_ n4_ n5_ n6_; clear hb hbox hg; have a3 := aE.o; have a4 := aF.o; obtain ⟨aK, aL⟩ := c2_ a5 aA.o; obtain ⟨aO, aP⟩ := z2_ aA.o; obtain ⟨aM, aN⟩ := c2_ a5 aG.o; obtain ⟨aQ, aR⟩ := z2_ aG.o))
  go_ret
  exact ⟨by first | rfl | (simp [errW_none, errW_some] <;> rfl) | (simp [*, errW_none, errW_some] <;> rfl), by repeat (first | (with_reducible first | exact HB.o | apply qAg | apply qAe | apply qAj | refine qAi ?_ aC.o | refine qAi ?_ aH.o) | exact HB.o)⟩
def qAl.l0 : Nat → List (S51) → List (S50) → Int → Option (Bool)
 | 0, _, _, _ => none
 | k + 1, x0, x1, x5 => if x5 < (x0.length : Int) then (if 0 ≤ x5 then (if x5 < (x1.length : Int) then (if ((qA0 x0 x5).f0) = ((qA3 x1 x5).f0) then (if ((qA0 x0 x5).f1) = ((qA3 x1 x5).f1) then ((qBo.f ((qA0 x0 x5).f2.f0) ((qA0 x0 x5).f2.f1) ((qA3 x1 x5).f2.f0) ((qA3 x1 x5).f2.f1)).bind fun an => (if an = true then (qAl.l0 k x0 x1 (wrap64 (x5 + 1))) else (some false))) else (some false)) else (some false)) else (none)) else (none)) else (some true)
def qAl.f (k : Nat) (l0 : List (S51)) (l1 : List (S50)) : Option (Bool) := if (l0.length : Int) = (l1.length : Int) then (qAl.l0 k l0 l1 0) else (some false)
def qAl.T6 : Bool × List (List Nat × List Nat) := (true, [([], []), ([], []), ([0, 1], [0, 1]), ([2], [2]), ([3], [3]), ([], []), ([], []), ([5, 6], [5, 6]), ([7], [7]), ([8], [8]), ([4, 9], [4, 9]), ([10], [10]), ([11], [11]), ([11], [11]), ([12, 13, 11], [11, 12, 13]), ([14, 11], [11, 14]), ([15, 11], [11, 15]), ([11], [11]), ([11], [11]), ([17, 18, 11], [11, 17, 18]), ([19, 11], [11, 19]), ([20, 11], [11, 20]), ([16, 21, 11], [11, 16, 21]), ([11, 22], [11, 22]), ([23, 11], [23]), ([24], [24]), ([24], [24]), ([25, 26, 24], [24, 25, 26]), ([27, 24], [24, 27]), ([28, 24], [24, 28]), ([24], [24]), ([24], [24]), ([30, 31, 24], [24, 30, 31]), ([32, 24], [24, 32]), ([33, 24], [24, 33]), ([29, 34, 24, 24], [24, 29, 34]), ([35, 24], [24, 35]), ([24, 36], [24, 36])])
def qAl.B6 : List Nat := [0, 0, 3, 7, 15, 0, 0, 96, 224, 480, 1023, 2047, 4095, 4095, 16383, 32767, 65535, 4095, 4095, 397311, 921599, 1970175, 4194303, 8388607, 16777215, 33554431, 33554431, 134217727, 268435455, 536870911, 33554431, 33554431, 3254779903, 7549747199, 16139681791, 34359738367, 68719476735, 137438953471]
theorem qAl.tab6 : rtab .any (opsOf Tryz.f35 6) = qAl.T6 := by kernel_rfl
theorem qAl.bits6 : qCd qAl.T6.2 qAl.B6 = true := by kernel_rfl
theorem qAl.calls (k : Nat) (A0 : Option Addr) (c0 : Nat) (l0 : List (S51)) (A1 : Option Addr) (c1 : Nat) (l1 : List (S50)) (r : Bool) (w : World) (hr0 : Kd.C k51 w A0 l0.length l0) (hc0 : l0.length ≤ c0) (hr1 : Kd.C k50 w A1 l1.length l1) (hc1 : l1.length ≤ c1) (h : qAl.f k l0 l1 = some r) :
  Calls Tryz.prog 35 #[.slice A0 l0.length c0, .slice A1 l1.length c1] w fun e w' => e = .returned (.bool r) ∧ Below w.heap.size w w' := by
 have ak := am hr0
 clear hr0 hc0
 have al := am hr1
 clear hr1 hc1
 have HB := am (Below.refl w.heap.size w)
 have H : (if (l0.length : Int) = (l1.length : Int) then (qAl.l0 k l0 l1 0) else (some false)) = some r := h
 clear h
 by_cases c3 : (l0.length : Int) = (l1.length : Int)
 ·rw [if_pos c3] at H
  have ax : ((l0.length : Int) == (l1.length : Int)) = true := beq_iff_eq.mpr c3
  have aw : ((l0.length : Int) != (l1.length : Int)) = false := bn c3
  have ay : (l0.length == l1.length) = true := by (simp at c3 ⊢; omega)
  clear c3
  have H' := am H
  clear H
  go_enter Tryz.func35, Tryz.ntmps35
  go_wp2
  go_loopg [5] k (fun kq v5 w' => ∃ (aA : Int), v5 = .int .i64 aA ∧ qAd (qAl.l0 kq l0 l1 aA = some r) ∧ qAd (kq ≤ k) ∧ qAd (Below w.heap.size w w'))
  case atStart => exact ⟨(0), (by (rfl)), H', ⟨Nat.le_refl _⟩, ⟨by repeat ((with_reducible (exact HB.o)))⟩⟩
  case round =>
   clear H'
   skip
   skip
   skip
   obtain ⟨aA, rfl, HA, bD, HB⟩ := hrel
   cases gk with
   | zero => exact absurd HA.o (by simp [qAl.l0])
   | succ k1 =>
    have H := HA.o
    clear HA
    simp only [qAl.l0] at H
    by_cases c4 : aA < (l0.length : Int)
    rotate_left
    ·rw [if_neg c4] at H
     replace c4 := d0 c4
     obtain rfl := Option.some.inj H
     go_wp2
     go_ret
     exact ⟨by (rfl), by repeat ((with_reducible (exact HB.o)))⟩
    rw [if_pos c4] at H
    replace c4 := d1 c4
    obtain ⟨c5, H⟩ := gd H
    replace c5 := d1 c5
    obtain ⟨c6, H⟩ := gd H
    replace c6 := d1 c6
    by_cases c7 : ((qA0 l0 aA).f0) = ((qA3 l1 aA).f0)
    rotate_left
    ·rw [if_neg c7] at H
     have bA : (((qA0 l0 aA).f0) != ((qA3 l1 aA).f0)) = true := bne_iff_ne.mpr c7
     obtain rfl := Option.some.inj H
     try go_wp2
     have n0_ := am (qAj HB.o)
     clear HB
     have HB := n0_
     clear n0_
     have a4 : 0 ≤ (aA : Int) := of_decide_eq_true (by (with_reducible assumption))
     have a5 : aA < (l0.length : Int) := of_decide_eq_true (by (with_reducible assumption))
     obtain ⟨aB, a9, aD, aE, aF, aG⟩ := qBM ak.o aA a4 a5
     have hw802_3 := aG
     have hw802_2 := aF
     have hw802_1 := aE
     have hw802_0 := aD
     cases a9
     replace aD := (HB.o.cell (World.block_lt_of_cell? w _ aD)).trans aD
     replace aE := (HB.o.cell (World.block_lt_of_cell? w _ aE)).trans aE
     replace aF := (HB.o.cell (World.block_lt_of_cell? w _ aF)).trans aF
     replace aG := (HB.o.cell (World.block_lt_of_cell? w _ aG)).trans aG
     replace a4 := eq_true a4
     replace a5 := eq_true a5
     have ab : 0 ≤ (aA : Int) := of_decide_eq_true (by (with_reducible assumption))
     have a6 : aA < (l1.length : Int) := of_decide_eq_true (by (with_reducible assumption))
     obtain ⟨aC, aa, aH, aI, aJ, aK⟩ := qCr al.o aA ab a6
     have hw803_3 := aK
     have hw803_2 := aJ
     have hw803_1 := aI
     have hw803_0 := aH
     cases aa
     replace aH := (HB.o.cell (World.block_lt_of_cell? w _ aH)).trans aH
     replace aI := (HB.o.cell (World.block_lt_of_cell? w _ aI)).trans aI
     replace aJ := (HB.o.cell (World.block_lt_of_cell? w _ aJ)).trans aJ
     replace aK := (HB.o.cell (World.block_lt_of_cell? w _ aK)).trans aK
     replace a6 := eq_true a6
     refine qCi (n := 38) (S := fun w' => w'.cell? (aB.add ((aA).toNat * 4)) = some (.int .i64 ((qA0 l0 aA).f0)) ∧ w'.cell? ⟨(aB.add ((aA).toNat * 4)).block, (aB.add ((aA).toNat * 4)).off + 1, none⟩ = some (.int .i64 ((qA0 l0 aA).f1)) ∧ w'.cell? ⟨(aB.add ((aA).toNat * 4)).block, (aB.add ((aA).toNat * 4)).off + 2, none⟩ = some (.int .i64 ((qA0 l0 aA).f2.f0)) ∧ w'.cell? ⟨(aB.add ((aA).toNat * 4)).block, (aB.add ((aA).toNat * 4)).off + 3, none⟩ = some (.int .u64 ((qA0 l0 aA).f2.f1)) ∧ w'.cell? (aC.add ((aA).toNat * 4)) = some (.int .i64 ((qA3 l1 aA).f0)) ∧ w'.cell? ⟨(aC.add ((aA).toNat * 4)).block, (aC.add ((aA).toNat * 4)).off + 1, none⟩ = some (.int .i64 ((qA3 l1 aA).f1)) ∧ w'.cell? ⟨(aC.add ((aA).toNat * 4)).block, (aC.add ((aA).toNat * 4)).off + 2, none⟩ = some (.int .i64 ((qA3 l1 aA).f2.f0)) ∧ w'.cell? ⟨(aC.add ((aA).toNat * 4)).block, (aC.add ((aA).toNat * 4)).off + 3, none⟩ = some (.int .u64 ((qA3 l1 aA).f2.f1))) (ds := []) (mK 38 0) (by kernel_rfl) rfl rfl ⟨((HB.o.cell (World.block_lt_of_cell? w _ hw802_0)).trans hw802_0), ((HB.o.cell (World.block_lt_of_cell? w _ hw802_1)).trans hw802_1), ((HB.o.cell (World.block_lt_of_cell? w _ hw802_2)).trans hw802_2), ((HB.o.cell (World.block_lt_of_cell? w _ hw802_3)).trans hw802_3), ((HB.o.cell (World.block_lt_of_cell? w _ hw803_0)).trans hw803_0), ((HB.o.cell (World.block_lt_of_cell? w _ hw803_1)).trans hw803_1), ((HB.o.cell (World.block_lt_of_cell? w _ hw803_2)).trans hw803_2), ((HB.o.cell (World.block_lt_of_cell? w _ hw803_3)).trans hw803_3)⟩ (fun hHeld => ?_); refine qBn qAl.tab6 qAl.bits6 (fun HT_ HW_ => ?_)
     generalize wr.drew = bM at HB aD aE aF aG aH aI aJ aK hHeld ⊢
     refine pu 0 17 (mK 38 1) (qAh HT_.o (by kernel_rfl)) ?_
     refine pu 1 18 (mK 38 3) (qAh HT_.o (by kernel_rfl)) ?_
     refine pu 2 19 (mK 38 7) (qAh HT_.o (by kernel_rfl)) ?_
     refine pu 3 20 (mK 38 15) (qAh HT_.o (by kernel_rfl)) ?_
     refine pu 5 22 (mK 38 47) (qAh HT_.o (by kernel_rfl)) ?_
     refine pu 6 23 (mK 38 111) (qAh HT_.o (by kernel_rfl)) ?_
     refine pu 7 24 (mK 38 239) (qAh HT_.o (by kernel_rfl)) ?_
     refine pu 8 25 (mK 38 495) (qAh HT_.o (by kernel_rfl)) ?_
     refine tk 4 21 (mK 38 511) (qA6 HT_.o HW_.o (by kernel_rfl)) hHeld ?_
     refine tk 9 26 (mK 38 1023) (qA6 HT_.o HW_.o (by kernel_rfl)) hHeld ?_
     refine pu 10 27 (mK 38 2047) (qAh HT_.o (by kernel_rfl)) ?_
     refine pu 11 28 (mK 38 4095) (qAh HT_.o (by kernel_rfl)) ?_
     refine qAw (i := 12) (N := some 29) (v := undef) (a' := ?_) (mK 38 8191) rfl rfl (qAh HT_.o (by kernel_rfl)) (fun _ _ _ h => h) (Or.inr ⟨by rfl, rfl⟩) ?_ ?_
     rotate_left
     ·simp only [Act.put, List.setIfInBounds_toArray, List.set_cons_zero, List.set_cons_succ]
      rfl
     refine qAw (i := 13) (N := some 30) (v := undef) (a' := ?_) (mK 38 16383) rfl rfl (qAh HT_.o (by kernel_rfl)) (fun _ _ _ h => h) (Or.inr ⟨by rfl, rfl⟩) ?_ ?_
     rotate_left
     ·simp only [Act.put, List.setIfInBounds_toArray, List.set_cons_zero, List.set_cons_succ]
      rfl
     refine qAw (i := 14) (N := some 31) (v := undef) (a' := ?_) (mK 38 32767) rfl rfl (qAh HT_.o (by kernel_rfl)) (fun _ _ _ h => h) (Or.inr ⟨by rfl, rfl⟩) ?_ ?_
     rotate_left
     ·simp only [Act.put, List.setIfInBounds_toArray, List.set_cons_zero, List.set_cons_succ]
      rfl
     refine qAw (i := 15) (N := some 32) (v := undef) (a' := ?_) (mK 38 65535) rfl rfl (qAh HT_.o (by kernel_rfl)) (fun _ _ _ h => h) (Or.inr ⟨by rfl, rfl⟩) ?_ ?_
     rotate_left
     ·simp only [Act.put, List.setIfInBounds_toArray, List.set_cons_zero, List.set_cons_succ]
      rfl
     refine qAw (i := 16) (N := some 33) (v := undef) (a' := ?_) (mK 38 131071) rfl rfl (qAh HT_.o (by kernel_rfl)) (fun _ _ _ h => h) (Or.inr ⟨by rfl, rfl⟩) ?_ ?_
     rotate_left
     ·simp only [Act.put, List.setIfInBounds_toArray, List.set_cons_zero, List.set_cons_succ]
      rfl
     refine qAw (i := 17) (N := some 34) (v := undef) (a' := ?_) (mK 38 262143) rfl rfl (qAh HT_.o (by kernel_rfl)) (fun _ _ _ h => h) (Or.inr ⟨by rfl, rfl⟩) ?_ ?_
     rotate_left
     ·simp only [Act.put, List.setIfInBounds_toArray, List.set_cons_zero, List.set_cons_succ]
      rfl
     refine qAw (i := 18) (N := some 35) (v := undef) (a' := ?_) (mK 38 524287) rfl rfl (qAh HT_.o (by kernel_rfl)) (fun _ _ _ h => h) (Or.inr ⟨by rfl, rfl⟩) ?_ ?_
     rotate_left
     ·simp only [Act.put, List.setIfInBounds_toArray, List.set_cons_zero, List.set_cons_succ]
      rfl
     refine qAw (i := 19) (N := some 36) (v := undef) (a' := ?_) (mK 38 1048575) rfl rfl (qAh HT_.o (by kernel_rfl)) (fun _ _ _ h => h) (Or.inr ⟨by rfl, rfl⟩) ?_ ?_
     rotate_left
     ·simp only [Act.put, List.setIfInBounds_toArray, List.set_cons_zero, List.set_cons_succ]
      rfl
     refine qAw (i := 20) (N := some 37) (v := undef) (a' := ?_) (mK 38 2097151) rfl rfl (qAh HT_.o (by kernel_rfl)) (fun _ _ _ h => h) (Or.inr ⟨by rfl, rfl⟩) ?_ ?_
     rotate_left
     ·simp only [Act.put, List.setIfInBounds_toArray, List.set_cons_zero, List.set_cons_succ]
      rfl
     refine qAw (i := 21) (N := some 38) (v := undef) (a' := ?_) (mK 38 4194303) rfl rfl (qAh HT_.o (by kernel_rfl)) (fun _ _ _ h => h) (Or.inr ⟨by rfl, rfl⟩) ?_ ?_
     rotate_left
     ·simp only [Act.put, List.setIfInBounds_toArray, List.set_cons_zero, List.set_cons_succ]
      rfl
     refine qAw (i := 22) (N := some 39) (v := undef) (a' := ?_) (mK 38 8388607) rfl rfl (qAh HT_.o (by kernel_rfl)) (fun _ _ _ h => h) (Or.inr ⟨by rfl, rfl⟩) ?_ ?_
     rotate_left
     ·simp only [Act.put, List.setIfInBounds_toArray, List.set_cons_zero, List.set_cons_succ]
      rfl
     refine pu 23 40 (mK 38 16777215) (qAh HT_.o (by kernel_rfl)) ?_
     refine pu 24 41 (mK 38 33554431) (qAh HT_.o (by kernel_rfl)) ?_
     refine qAw (i := 25) (N := some 42) (v := undef) (a' := ?_) (mK 38 67108863) rfl rfl (qAh HT_.o (by kernel_rfl)) (fun _ _ _ h => h) (Or.inr ⟨by rfl, rfl⟩) ?_ ?_
     rotate_left
     ·simp only [Act.put, List.setIfInBounds_toArray, List.set_cons_zero, List.set_cons_succ]
      rfl
     refine qAw (i := 26) (N := some 43) (v := undef) (a' := ?_) (mK 38 134217727) rfl rfl (qAh HT_.o (by kernel_rfl)) (fun _ _ _ h => h) (Or.inr ⟨by rfl, rfl⟩) ?_ ?_
     rotate_left
     ·simp only [Act.put, List.setIfInBounds_toArray, List.set_cons_zero, List.set_cons_succ]
      rfl
     refine qAw (i := 27) (N := some 44) (v := undef) (a' := ?_) (mK 38 268435455) rfl rfl (qAh HT_.o (by kernel_rfl)) (fun _ _ _ h => h) (Or.inr ⟨by rfl, rfl⟩) ?_ ?_
     rotate_left
     ·simp only [Act.put, List.setIfInBounds_toArray, List.set_cons_zero, List.set_cons_succ]
      rfl
     refine qAw (i := 28) (N := some 45) (v := undef) (a' := ?_) (mK 38 536870911) rfl rfl (qAh HT_.o (by kernel_rfl)) (fun _ _ _ h => h) (Or.inr ⟨by rfl, rfl⟩) ?_ ?_
     rotate_left
     ·simp only [Act.put, List.setIfInBounds_toArray, List.set_cons_zero, List.set_cons_succ]
      rfl
     refine qAw (i := 29) (N := some 46) (v := undef) (a' := ?_) (mK 38 1073741823) rfl rfl (qAh HT_.o (by kernel_rfl)) (fun _ _ _ h => h) (Or.inr ⟨by rfl, rfl⟩) ?_ ?_
     rotate_left
     ·simp only [Act.put, List.setIfInBounds_toArray, List.set_cons_zero, List.set_cons_succ]
      rfl
     refine qAw (i := 30) (N := some 47) (v := undef) (a' := ?_) (mK 38 2147483647) rfl rfl (qAh HT_.o (by kernel_rfl)) (fun _ _ _ h => h) (Or.inr ⟨by rfl, rfl⟩) ?_ ?_
     rotate_left
     ·simp only [Act.put, List.setIfInBounds_toArray, List.set_cons_zero, List.set_cons_succ]
      rfl
     refine qAw (i := 31) (N := some 48) (v := undef) (a' := ?_) (mK 38 4294967295) rfl rfl (qAh HT_.o (by kernel_rfl)) (fun _ _ _ h => h) (Or.inr ⟨by rfl, rfl⟩) ?_ ?_
     rotate_left
     ·simp only [Act.put, List.setIfInBounds_toArray, List.set_cons_zero, List.set_cons_succ]
      rfl
     refine qAw (i := 32) (N := some 49) (v := undef) (a' := ?_) (mK 38 8589934591) rfl rfl (qAh HT_.o (by kernel_rfl)) (fun _ _ _ h => h) (Or.inr ⟨by rfl, rfl⟩) ?_ ?_
     rotate_left
     ·simp only [Act.put, List.setIfInBounds_toArray, List.set_cons_zero, List.set_cons_succ]
      rfl
     refine qAw (i := 33) (N := some 50) (v := undef) (a' := ?_) (mK 38 17179869183) rfl rfl (qAh HT_.o (by kernel_rfl)) (fun _ _ _ h => h) (Or.inr ⟨by rfl, rfl⟩) ?_ ?_
     rotate_left
     ·simp only [Act.put, List.setIfInBounds_toArray, List.set_cons_zero, List.set_cons_succ]
      rfl
     refine qAw (i := 34) (N := some 51) (v := undef) (a' := ?_) (mK 38 34359738367) rfl rfl (qAh HT_.o (by kernel_rfl)) (fun _ _ _ h => h) (Or.inr ⟨by rfl, rfl⟩) ?_ ?_
     rotate_left
     ·simp only [Act.put, List.setIfInBounds_toArray, List.set_cons_zero, List.set_cons_succ]
      rfl
     refine qAw (i := 35) (N := some 52) (v := undef) (a' := ?_) (mK 38 68719476735) rfl rfl (qAh HT_.o (by kernel_rfl)) (fun _ _ _ h => h) (Or.inr ⟨by rfl, rfl⟩) ?_ ?_
     rotate_left
     ·simp only [Act.put, List.setIfInBounds_toArray, List.set_cons_zero, List.set_cons_succ]
      rfl
     refine qAw (i := 36) (N := some 53) (v := undef) (a' := ?_) (mK 38 137438953471) rfl rfl (qAh HT_.o (by kernel_rfl)) (fun _ _ _ h => h) (Or.inr ⟨by rfl, rfl⟩) ?_ ?_
     rotate_left
     ·simp only [Act.put, List.setIfInBounds_toArray, List.set_cons_zero, List.set_cons_succ]
      rfl
     refine pu 37 54 (mK 38 274877906943) (qAh HT_.o (by kernel_rfl)) ?_
     refine qCS (qBA HT_.o (by kernel_rfl)) ?_
     try go_wp2
     go_ret
     exact ⟨by (rfl), by repeat ((with_reducible (exact HB.o)))⟩
    rw [if_pos c7] at H
    have bG : (((qA0 l0 aA).f0) == ((qA3 l1 aA).f0)) = true := beq_iff_eq.mpr c7
    have bA : (((qA0 l0 aA).f0) != ((qA3 l1 aA).f0)) = false := bn c7
    clear c7
    by_cases c8 : ((qA0 l0 aA).f1) = ((qA3 l1 aA).f1)
    rotate_left
    ·rw [if_neg c8] at H
     have bB : (((qA0 l0 aA).f1) != ((qA3 l1 aA).f1)) = true := bne_iff_ne.mpr c8
     obtain rfl := Option.some.inj H
     try go_wp2
     have n0_ := am (qAj HB.o)
     clear HB
     have HB := n0_
     clear n0_
     have a4 : 0 ≤ (aA : Int) := of_decide_eq_true (by (with_reducible assumption))
     have a5 : aA < (l0.length : Int) := of_decide_eq_true (by (with_reducible assumption))
     obtain ⟨aB, a9, aD, aE, aF, aG⟩ := qBM ak.o aA a4 a5
     have hw802_3 := aG
     have hw802_2 := aF
     have hw802_1 := aE
     have hw802_0 := aD
     cases a9
     replace aD := (HB.o.cell (World.block_lt_of_cell? w _ aD)).trans aD
     replace aE := (HB.o.cell (World.block_lt_of_cell? w _ aE)).trans aE
     replace aF := (HB.o.cell (World.block_lt_of_cell? w _ aF)).trans aF
     replace aG := (HB.o.cell (World.block_lt_of_cell? w _ aG)).trans aG
     replace a4 := eq_true a4
     replace a5 := eq_true a5
     have ab : 0 ≤ (aA : Int) := of_decide_eq_true (by (with_reducible assumption))
     have a6 : aA < (l1.length : Int) := of_decide_eq_true (by (with_reducible assumption))
     obtain ⟨aC, aa, aH, aI, aJ, aK⟩ := qCr al.o aA ab a6
     have hw803_3 := aK
     have hw803_2 := aJ
     have hw803_1 := aI
     have hw803_0 := aH
     cases aa
     replace aH := (HB.o.cell (World.block_lt_of_cell? w _ aH)).trans aH
     replace aI := (HB.o.cell (World.block_lt_of_cell? w _ aI)).trans aI
     replace aJ := (HB.o.cell (World.block_lt_of_cell? w _ aJ)).trans aJ
     replace aK := (HB.o.cell (World.block_lt_of_cell? w _ aK)).trans aK
     replace a6 := eq_true a6
     have ag : 0 ≤ (aA : Int) := of_decide_eq_true (by (with_reducible assumption))
     have ai : aA < (l0.length : Int) := of_decide_eq_true (by (with_reducible assumption))
     obtain ⟨a7, ae, aL, aM, aN, aO⟩ := qBM ak.o aA ag ai
     have hw804_3 := aO
     have hw804_2 := aN
     have hw804_1 := aM
     have hw804_0 := aL
     obtain rfl : aB = a7 := (by injection ae)
     replace aL := (HB.o.cell (World.block_lt_of_cell? w _ aL)).trans aL
     replace aM := (HB.o.cell (World.block_lt_of_cell? w _ aM)).trans aM
     replace aN := (HB.o.cell (World.block_lt_of_cell? w _ aN)).trans aN
     replace aO := (HB.o.cell (World.block_lt_of_cell? w _ aO)).trans aO
     have ah : 0 ≤ (aA : Int) := of_decide_eq_true (by (with_reducible assumption))
     have aj : aA < (l1.length : Int) := of_decide_eq_true (by (with_reducible assumption))
     obtain ⟨a8, af, aP, aQ, aR, aS⟩ := qCr al.o aA ah aj
     have hw805_3 := aS
     have hw805_2 := aR
     have hw805_1 := aQ
     have hw805_0 := aP
     obtain rfl : aC = a8 := (by injection af)
     replace aP := (HB.o.cell (World.block_lt_of_cell? w _ aP)).trans aP
     replace aQ := (HB.o.cell (World.block_lt_of_cell? w _ aQ)).trans aQ
     replace aR := (HB.o.cell (World.block_lt_of_cell? w _ aR)).trans aR
     replace aS := (HB.o.cell (World.block_lt_of_cell? w _ aS)).trans aS
     refine qCi (n := 38) (S := fun w' => w'.cell? (aB.add ((aA).toNat * 4)) = some (.int .i64 ((qA0 l0 aA).f0)) ∧ w'.cell? ⟨(aB.add ((aA).toNat * 4)).block, (aB.add ((aA).toNat * 4)).off + 1, none⟩ = some (.int .i64 ((qA0 l0 aA).f1)) ∧ w'.cell? ⟨(aB.add ((aA).toNat * 4)).block, (aB.add ((aA).toNat * 4)).off + 2, none⟩ = some (.int .i64 ((qA0 l0 aA).f2.f0)) ∧ w'.cell? ⟨(aB.add ((aA).toNat * 4)).block, (aB.add ((aA).toNat * 4)).off + 3, none⟩ = some (.int .u64 ((qA0 l0 aA).f2.f1)) ∧ w'.cell? (aC.add ((aA).toNat * 4)) = some (.int .i64 ((qA3 l1 aA).f0)) ∧ w'.cell? ⟨(aC.add ((aA).toNat * 4)).block, (aC.add ((aA).toNat * 4)).off + 1, none⟩ = some (.int .i64 ((qA3 l1 aA).f1)) ∧ w'.cell? ⟨(aC.add ((aA).toNat * 4)).block, (aC.add ((aA).toNat * 4)).off + 2, none⟩ = some (.int .i64 ((qA3 l1 aA).f2.f0)) ∧ w'.cell? ⟨(aC.add ((aA).toNat * 4)).block, (aC.add ((aA).toNat * 4)).off + 3, none⟩ = some (.int .u64 ((qA3 l1 aA).f2.f1)) ∧ w'.cell? (aB.add ((aA).toNat * 4)) = some (.int .i64 ((qA0 l0 aA).f0)) ∧ w'.cell? ⟨(aB.add ((aA).toNat * 4)).block, (aB.add ((aA).toNat * 4)).off + 1, none⟩ = some (.int .i64 ((qA0 l0 aA).f1)) ∧ w'.cell? ⟨(aB.add ((aA).toNat * 4)).block, (aB.add ((aA).toNat * 4)).off + 2, none⟩ = some (.int .i64 ((qA0 l0 aA).f2.f0)) ∧ w'.cell? ⟨(aB.add ((aA).toNat * 4)).block, (aB.add ((aA).toNat * 4)).off + 3, none⟩ = some (.int .u64 ((qA0 l0 aA).f2.f1)) ∧ w'.cell? (aC.add ((aA).toNat * 4)) = some (.int .i64 ((qA3 l1 aA).f0)) ∧ w'.cell? ⟨(aC.add ((aA).toNat * 4)).block, (aC.add ((aA).toNat * 4)).off + 1, none⟩ = some (.int .i64 ((qA3 l1 aA).f1)) ∧ w'.cell? ⟨(aC.add ((aA).toNat * 4)).block, (aC.add ((aA).toNat * 4)).off + 2, none⟩ = some (.int .i64 ((qA3 l1 aA).f2.f0)) ∧ w'.cell? ⟨(aC.add ((aA).toNat * 4)).block, (aC.add ((aA).toNat * 4)).off + 3, none⟩ = some (.int .u64 ((qA3 l1 aA).f2.f1))) (ds := []) (mK 38 0) (by kernel_rfl) rfl rfl ⟨((HB.o.cell (World.block_lt_of_cell? w _ hw802_0)).trans hw802_0), ((HB.o.cell (World.block_lt_of_cell? w _ hw802_1)).trans hw802_1), ((HB.o.cell (World.block_lt_of_cell? w _ hw802_2)).trans hw802_2), ((HB.o.cell (World.block_lt_of_cell? w _ hw802_3)).trans hw802_3), ((HB.o.cell (World.block_lt_of_cell? w _ hw803_0)).trans hw803_0), ((HB.o.cell (World.block_lt_of_cell? w _ hw803_1)).trans hw803_1), ((HB.o.cell (World.block_lt_of_cell? w _ hw803_2)).trans hw803_2), ((HB.o.cell (World.block_lt_of_cell? w _ hw803_3)).trans hw803_3), ((HB.o.cell (World.block_lt_of_cell? w _ hw804_0)).trans hw804_0), ((HB.o.cell (World.block_lt_of_cell? w _ hw804_1)).trans hw804_1), ((HB.o.cell (World.block_lt_of_cell? w _ hw804_2)).trans hw804_2), ((HB.o.cell (World.block_lt_of_cell? w _ hw804_3)).trans hw804_3), ((HB.o.cell (World.block_lt_of_cell? w _ hw805_0)).trans hw805_0), ((HB.o.cell (World.block_lt_of_cell? w _ hw805_1)).trans hw805_1), ((HB.o.cell (World.block_lt_of_cell? w _ hw805_2)).trans hw805_2), ((HB.o.cell (World.block_lt_of_cell? w _ hw805_3)).trans hw805_3)⟩ (fun hHeld => ?_); refine qBn qAl.tab6 qAl.bits6 (fun HT_ HW_ => ?_)
     generalize wr.drew = bL at HB aD aE aF aG aH aI aJ aK aL aM aN aO aP aQ aR aS hHeld ⊢
     refine pu 0 17 (mK 38 1) (qAh HT_.o (by kernel_rfl)) ?_
     refine pu 1 18 (mK 38 3) (qAh HT_.o (by kernel_rfl)) ?_
     refine pu 2 19 (mK 38 7) (qAh HT_.o (by kernel_rfl)) ?_
     refine pu 3 20 (mK 38 15) (qAh HT_.o (by kernel_rfl)) ?_
     refine pu 5 22 (mK 38 47) (qAh HT_.o (by kernel_rfl)) ?_
     refine pu 6 23 (mK 38 111) (qAh HT_.o (by kernel_rfl)) ?_
     refine pu 7 24 (mK 38 239) (qAh HT_.o (by kernel_rfl)) ?_
     refine pu 8 25 (mK 38 495) (qAh HT_.o (by kernel_rfl)) ?_
     refine tk 4 21 (mK 38 511) (qA6 HT_.o HW_.o (by kernel_rfl)) hHeld ?_
     refine tk 9 26 (mK 38 1023) (qA6 HT_.o HW_.o (by kernel_rfl)) hHeld ?_
     refine pu 10 27 (mK 38 2047) (qAh HT_.o (by kernel_rfl)) ?_
     refine pu 11 28 (mK 38 4095) (qAh HT_.o (by kernel_rfl)) ?_
     refine pu 12 29 (mK 38 8191) (qAh HT_.o (by kernel_rfl)) ?_
     refine pu 13 30 (mK 38 16383) (qAh HT_.o (by kernel_rfl)) ?_
     refine pu 14 31 (mK 38 32767) (qAh HT_.o (by kernel_rfl)) ?_
     refine pu 15 32 (mK 38 65535) (qAh HT_.o (by kernel_rfl)) ?_
     refine pu 17 34 (mK 38 196607) (qAh HT_.o (by kernel_rfl)) ?_
     refine pu 18 35 (mK 38 458751) (qAh HT_.o (by kernel_rfl)) ?_
     refine pu 19 36 (mK 38 983039) (qAh HT_.o (by kernel_rfl)) ?_
     refine pu 20 37 (mK 38 2031615) (qAh HT_.o (by kernel_rfl)) ?_
     refine tk 16 33 (mK 38 2097151) (qA6 HT_.o HW_.o (by kernel_rfl)) hHeld ?_
     refine tk 21 38 (mK 38 4194303) (qA6 HT_.o HW_.o (by kernel_rfl)) hHeld ?_
     refine pu 22 39 (mK 38 8388607) (qAh HT_.o (by kernel_rfl)) ?_
     refine pu 23 40 (mK 38 16777215) (qAh HT_.o (by kernel_rfl)) ?_
     refine pu 24 41 (mK 38 33554431) (qAh HT_.o (by kernel_rfl)) ?_
     refine qAw (i := 25) (N := some 42) (v := undef) (a' := ?_) (mK 38 67108863) rfl rfl (qAh HT_.o (by kernel_rfl)) (fun _ _ _ h => h) (Or.inr ⟨by rfl, rfl⟩) ?_ ?_
     rotate_left
     ·simp only [Act.put, List.setIfInBounds_toArray, List.set_cons_zero, List.set_cons_succ]
      rfl
     refine qAw (i := 26) (N := some 43) (v := undef) (a' := ?_) (mK 38 134217727) rfl rfl (qAh HT_.o (by kernel_rfl)) (fun _ _ _ h => h) (Or.inr ⟨by rfl, rfl⟩) ?_ ?_
     rotate_left
     ·simp only [Act.put, List.setIfInBounds_toArray, List.set_cons_zero, List.set_cons_succ]
      rfl
     refine qAw (i := 27) (N := some 44) (v := undef) (a' := ?_) (mK 38 268435455) rfl rfl (qAh HT_.o (by kernel_rfl)) (fun _ _ _ h => h) (Or.inr ⟨by rfl, rfl⟩) ?_ ?_
     rotate_left
     ·simp only [Act.put, List.setIfInBounds_toArray, List.set_cons_zero, List.set_cons_succ]
      rfl
     refine qAw (i := 28) (N := some 45) (v := undef) (a' := ?_) (mK 38 536870911) rfl rfl (qAh HT_.o (by kernel_rfl)) (fun _ _ _ h => h) (Or.inr ⟨by rfl, rfl⟩) ?_ ?_
     rotate_left
     ·simp only [Act.put, List.setIfInBounds_toArray, List.set_cons_zero, List.set_cons_succ]
      rfl
     refine qAw (i := 29) (N := some 46) (v := undef) (a' := ?_) (mK 38 1073741823) rfl rfl (qAh HT_.o (by kernel_rfl)) (fun _ _ _ h => h) (Or.inr ⟨by rfl, rfl⟩) ?_ ?_
     rotate_left
     ·simp only [Act.put, List.setIfInBounds_toArray, List.set_cons_zero, List.set_cons_succ]
      rfl
     refine qAw (i := 30) (N := some 47) (v := undef) (a' := ?_) (mK 38 2147483647) rfl rfl (qAh HT_.o (by kernel_rfl)) (fun _ _ _ h => h) (Or.inr ⟨by rfl, rfl⟩) ?_ ?_
     rotate_left
     ·simp only [Act.put, List.setIfInBounds_toArray, List.set_cons_zero, List.set_cons_succ]
      rfl
     refine qAw (i := 31) (N := some 48) (v := undef) (a' := ?_) (mK 38 4294967295) rfl rfl (qAh HT_.o (by kernel_rfl)) (fun _ _ _ h => h) (Or.inr ⟨by rfl, rfl⟩) ?_ ?_
     rotate_left
     ·simp only [Act.put, List.setIfInBounds_toArray, List.set_cons_zero, List.set_cons_succ]
      rfl
     refine qAw (i := 32) (N := some 49) (v := undef) (a' := ?_) (mK 38 8589934591) rfl rfl (qAh HT_.o (by kernel_rfl)) (fun _ _ _ h => h) (Or.inr ⟨by rfl, rfl⟩) ?_ ?_
     rotate_left
     ·simp only [Act.put, List.setIfInBounds_toArray, List.set_cons_zero, List.set_cons_succ]
      rfl
     refine qAw (i := 33) (N := some 50) (v := undef) (a' := ?_) (mK 38 17179869183) rfl rfl (qAh HT_.o (by kernel_rfl)) (fun _ _ _ h => h) (Or.inr ⟨by rfl, rfl⟩) ?_ ?_
     rotate_left
     ·simp only [Act.put, List.setIfInBounds_toArray, List.set_cons_zero, List.set_cons_succ]
      rfl
     refine qAw (i := 34) (N := some 51) (v := undef) (a' := ?_) (mK 38 34359738367) rfl rfl (qAh HT_.o (by kernel_rfl)) (fun _ _ _ h => h) (Or.inr ⟨by rfl, rfl⟩) ?_ ?_
     rotate_left
     ·simp only [Act.put, List.setIfInBounds_toArray, List.set_cons_zero, List.set_cons_succ]
      rfl
     refine qAw (i := 35) (N := some 52) (v := undef) (a' := ?_) (mK 38 68719476735) rfl rfl (qAh HT_.o (by kernel_rfl)) (fun _ _ _ h => h) (Or.inr ⟨by rfl, rfl⟩) ?_ ?_
     rotate_left
     ·simp only [Act.put, List.setIfInBounds_toArray, List.set_cons_zero, List.set_cons_succ]
      rfl
     refine qAw (i := 36) (N := some 53) (v := undef) (a' := ?_) (mK 38 137438953471) rfl rfl (qAh HT_.o (by kernel_rfl)) (fun _ _ _ h => h) (Or.inr ⟨by rfl, rfl⟩) ?_ ?_
     rotate_left
     ·simp only [Act.put, List.setIfInBounds_toArray, List.set_cons_zero, List.set_cons_succ]
      rfl
     refine pu 37 54 (mK 38 274877906943) (qAh HT_.o (by kernel_rfl)) ?_
     refine qCS (qBA HT_.o (by kernel_rfl)) ?_
     try go_wp2
     go_ret
     exact ⟨by (rfl), by repeat ((with_reducible (exact HB.o)))⟩
    rw [if_pos c8] at H
    have bB : (((qA0 l0 aA).f1) != ((qA3 l1 aA).f1)) = false := bn c8
    clear c8
    replace H := bm H
    obtain ⟨an, bC, H⟩ := H
    replace H : (if an = true then (qAl.l0 k1 l0 l1 (wrap64 (aA + 1))) else (some false)) = some r := H
    have A9 := am bC
    clear bC
    by_cases c10 : an = true
    rotate_left
    ·replace c10 := Bool.eq_false_iff.mpr c10
     subst c10
     replace H : (some false) = some r := by rw [if_neg (show ¬ (false = true) by decide)] at H; exact H
     obtain rfl := Option.some.inj H
     try go_wp2
     have n0_ := am (qAj HB.o)
     clear HB
     have HB := n0_
     clear n0_
     have a4 : 0 ≤ (aA : Int) := of_decide_eq_true (by (with_reducible assumption))
     have a5 : aA < (l0.length : Int) := of_decide_eq_true (by (with_reducible assumption))
     obtain ⟨aB, a9, aD, aE, aF, aG⟩ := qBM ak.o aA a4 a5
     have hw802_3 := aG
     have hw802_2 := aF
     have hw802_1 := aE
     have hw802_0 := aD
     cases a9
     replace aD := (HB.o.cell (World.block_lt_of_cell? w _ aD)).trans aD
     replace aE := (HB.o.cell (World.block_lt_of_cell? w _ aE)).trans aE
     replace aF := (HB.o.cell (World.block_lt_of_cell? w _ aF)).trans aF
     replace aG := (HB.o.cell (World.block_lt_of_cell? w _ aG)).trans aG
     replace a4 := eq_true a4
     replace a5 := eq_true a5
     have ab : 0 ≤ (aA : Int) := of_decide_eq_true (by (with_reducible assumption))
     have a6 : aA < (l1.length : Int) := of_decide_eq_true (by (with_reducible assumption))
     obtain ⟨aC, aa, aH, aI, aJ, aK⟩ := qCr al.o aA ab a6
     have hw803_3 := aK
     have hw803_2 := aJ
     have hw803_1 := aI
     have hw803_0 := aH
     cases aa
     replace aH := (HB.o.cell (World.block_lt_of_cell? w _ aH)).trans aH
     replace aI := (HB.o.cell (World.block_lt_of_cell? w _ aI)).trans aI
     replace aJ := (HB.o.cell (World.block_lt_of_cell? w _ aJ)).trans aJ
     replace aK := (HB.o.cell (World.block_lt_of_cell? w _ aK)).trans aK
     replace a6 := eq_true a6
     have ag : 0 ≤ (aA : Int) := of_decide_eq_true (by (with_reducible assumption))
     have ai : aA < (l0.length : Int) := of_decide_eq_true (by (with_reducible assumption))
     obtain ⟨a7, ae, aL, aM, aN, aO⟩ := qBM ak.o aA ag ai
     have hw804_3 := aO
     have hw804_2 := aN
     have hw804_1 := aM
     have hw804_0 := aL
     obtain rfl : aB = a7 := (by injection ae)
     replace aL := (HB.o.cell (World.block_lt_of_cell? w _ aL)).trans aL
     replace aM := (HB.o.cell (World.block_lt_of_cell? w _ aM)).trans aM
     replace aN := (HB.o.cell (World.block_lt_of_cell? w _ aN)).trans aN
     replace aO := (HB.o.cell (World.block_lt_of_cell? w _ aO)).trans aO
     have ah : 0 ≤ (aA : Int) := of_decide_eq_true (by (with_reducible assumption))
     have aj : aA < (l1.length : Int) := of_decide_eq_true (by (with_reducible assumption))
     obtain ⟨a8, af, aP, aQ, aR, aS⟩ := qCr al.o aA ah aj
     have hw805_3 := aS
     have hw805_2 := aR
     have hw805_1 := aQ
     have hw805_0 := aP
     obtain rfl : aC = a8 := (by injection af)
     replace aP := (HB.o.cell (World.block_lt_of_cell? w _ aP)).trans aP
     replace aQ := (HB.o.cell (World.block_lt_of_cell? w _ aQ)).trans aQ
     replace aR := (HB.o.cell (World.block_lt_of_cell? w _ aR)).trans aR
     replace aS := (HB.o.cell (World.block_lt_of_cell? w _ aS)).trans aS
     have aq : 0 ≤ (aA : Int) := of_decide_eq_true (by (with_reducible assumption))
     have au : aA < (l0.length : Int) := of_decide_eq_true (by (with_reducible assumption))
     obtain ⟨ac, ao, aT, aU, aV, aW⟩ := qBM ak.o aA aq au
     have hw806_3 := aW
     have hw806_2 := aV
     have hw806_1 := aU
     have hw806_0 := aT
     obtain rfl : aB = ac := (by injection ao)
     replace aT := (HB.o.cell (World.block_lt_of_cell? w _ aT)).trans aT
     replace aU := (HB.o.cell (World.block_lt_of_cell? w _ aU)).trans aU
     replace aV := (HB.o.cell (World.block_lt_of_cell? w _ aV)).trans aV
     replace aW := (HB.o.cell (World.block_lt_of_cell? w _ aW)).trans aW
     have ar : 0 ≤ (aA : Int) := of_decide_eq_true (by (with_reducible assumption))
     have av : aA < (l1.length : Int) := of_decide_eq_true (by (with_reducible assumption))
     obtain ⟨ad, ap, aX, aY, aZ, a3⟩ := qCr al.o aA ar av
     have hw807_3 := a3
     have hw807_2 := aZ
     have hw807_1 := aY
     have hw807_0 := aX
     obtain rfl : aC = ad := (by injection ap)
     replace aX := (HB.o.cell (World.block_lt_of_cell? w _ aX)).trans aX
     replace aY := (HB.o.cell (World.block_lt_of_cell? w _ aY)).trans aY
     replace aZ := (HB.o.cell (World.block_lt_of_cell? w _ aZ)).trans aZ
     replace a3 := (HB.o.cell (World.block_lt_of_cell? w _ a3)).trans a3
     refine qCi (n := 38) (S := fun w' => w'.cell? (aB.add ((aA).toNat * 4)) = some (.int .i64 ((qA0 l0 aA).f0)) ∧ w'.cell? ⟨(aB.add ((aA).toNat * 4)).block, (aB.add ((aA).toNat * 4)).off + 1, none⟩ = some (.int .i64 ((qA0 l0 aA).f1)) ∧ w'.cell? ⟨(aB.add ((aA).toNat * 4)).block, (aB.add ((aA).toNat * 4)).off + 2, none⟩ = some (.int .i64 ((qA0 l0 aA).f2.f0)) ∧ w'.cell? ⟨(aB.add ((aA).toNat * 4)).block, (aB.add ((aA).toNat * 4)).off + 3, none⟩ = some (.int .u64 ((qA0 l0 aA).f2.f1)) ∧ w'.cell? (aC.add ((aA).toNat * 4)) = some (.int .i64 ((qA3 l1 aA).f0)) ∧ w'.cell? ⟨(aC.add ((aA).toNat * 4)).block, (aC.add ((aA).toNat * 4)).off + 1, none⟩ = some (.int .i64 ((qA3 l1 aA).f1)) ∧ w'.cell? ⟨(aC.add ((aA).toNat * 4)).block, (aC.add ((aA).toNat * 4)).off + 2, none⟩ = some (.int .i64 ((qA3 l1 aA).f2.f0)) ∧ w'.cell? ⟨(aC.add ((aA).toNat * 4)).block, (aC.add ((aA).toNat * 4)).off + 3, none⟩ = some (.int .u64 ((qA3 l1 aA).f2.f1)) ∧ w'.cell? (aB.add ((aA).toNat * 4)) = some (.int .i64 ((qA0 l0 aA).f0)) ∧ w'.cell? ⟨(aB.add ((aA).toNat * 4)).block, (aB.add ((aA).toNat * 4)).off + 1, none⟩ = some (.int .i64 ((qA0 l0 aA).f1)) ∧ w'.cell? ⟨(aB.add ((aA).toNat * 4)).block, (aB.add ((aA).toNat * 4)).off + 2, none⟩ = some (.int .i64 ((qA0 l0 aA).f2.f0)) ∧ w'.cell? ⟨(aB.add ((aA).toNat * 4)).block, (aB.add ((aA).toNat * 4)).off + 3, none⟩ = some (.int .u64 ((qA0 l0 aA).f2.f1)) ∧ w'.cell? (aC.add ((aA).toNat * 4)) = some (.int .i64 ((qA3 l1 aA).f0)) ∧ w'.cell? ⟨(aC.add ((aA).toNat * 4)).block, (aC.add ((aA).toNat * 4)).off + 1, none⟩ = some (.int .i64 ((qA3 l1 aA).f1)) ∧ w'.cell? ⟨(aC.add ((aA).toNat * 4)).block, (aC.add ((aA).toNat * 4)).off + 2, none⟩ = some (.int .i64 ((qA3 l1 aA).f2.f0)) ∧ w'.cell? ⟨(aC.add ((aA).toNat * 4)).block, (aC.add ((aA).toNat * 4)).off + 3, none⟩ = some (.int .u64 ((qA3 l1 aA).f2.f1)) ∧ w'.cell? (aB.add ((aA).toNat * 4)) = some (.int .i64 ((qA0 l0 aA).f0)) ∧ w'.cell? ⟨(aB.add ((aA).toNat * 4)).block, (aB.add ((aA).toNat * 4)).off + 1, none⟩ = some (.int .i64 ((qA0 l0 aA).f1)) ∧ w'.cell? ⟨(aB.add ((aA).toNat * 4)).block, (aB.add ((aA).toNat * 4)).off + 2, none⟩ = some (.int .i64 ((qA0 l0 aA).f2.f0)) ∧ w'.cell? ⟨(aB.add ((aA).toNat * 4)).block, (aB.add ((aA).toNat * 4)).off + 3, none⟩ = some (.int .u64 ((qA0 l0 aA).f2.f1)) ∧ w'.cell? (aC.add ((aA).toNat * 4)) = some (.int .i64 ((qA3 l1 aA).f0)) ∧ w'.cell? ⟨(aC.add ((aA).toNat * 4)).block, (aC.add ((aA).toNat * 4)).off + 1, none⟩ = some (.int .i64 ((qA3 l1 aA).f1)) ∧ w'.cell? ⟨(aC.add ((aA).toNat * 4)).block, (aC.add ((aA).toNat * 4)).off + 2, none⟩ = some (.int .i64 ((qA3 l1 aA).f2.f0)) ∧ w'.cell? ⟨(aC.add ((aA).toNat * 4)).block, (aC.add ((aA).toNat * 4)).off + 3, none⟩ = some (.int .u64 ((qA3 l1 aA).f2.f1))) (ds := []) (mK 38 0) (by kernel_rfl) rfl rfl ⟨((HB.o.cell (World.block_lt_of_cell? w _ hw802_0)).trans hw802_0), ((HB.o.cell (World.block_lt_of_cell? w _ hw802_1)).trans hw802_1), ((HB.o.cell (World.block_lt_of_cell? w _ hw802_2)).trans hw802_2), ((HB.o.cell (World.block_lt_of_cell? w _ hw802_3)).trans hw802_3), ((HB.o.cell (World.block_lt_of_cell? w _ hw803_0)).trans hw803_0), ((HB.o.cell (World.block_lt_of_cell? w _ hw803_1)).trans hw803_1), ((HB.o.cell (World.block_lt_of_cell? w _ hw803_2)).trans hw803_2), ((HB.o.cell (World.block_lt_of_cell? w _ hw803_3)).trans hw803_3), ((HB.o.cell (World.block_lt_of_cell? w _ hw804_0)).trans hw804_0), ((HB.o.cell (World.block_lt_of_cell? w _ hw804_1)).trans hw804_1), ((HB.o.cell (World.block_lt_of_cell? w _ hw804_2)).trans hw804_2), ((HB.o.cell (World.block_lt_of_cell? w _ hw804_3)).trans hw804_3), ((HB.o.cell (World.block_lt_of_cell? w _ hw805_0)).trans hw805_0), ((HB.o.cell (World.block_lt_of_cell? w _ hw805_1)).trans hw805_1), ((HB.o.cell (World.block_lt_of_cell? w _ hw805_2)).trans hw805_2), ((HB.o.cell (World.block_lt_of_cell? w _ hw805_3)).trans hw805_3), ((HB.o.cell (World.block_lt_of_cell? w _ hw806_0)).trans hw806_0), ((HB.o.cell (World.block_lt_of_cell? w _ hw806_1)).trans hw806_1), ((HB.o.cell (World.block_lt_of_cell? w _ hw806_2)).trans hw806_2), ((HB.o.cell (World.block_lt_of_cell? w _ hw806_3)).trans hw806_3), ((HB.o.cell (World.block_lt_of_cell? w _ hw807_0)).trans hw807_0), ((HB.o.cell (World.block_lt_of_cell? w _ hw807_1)).trans hw807_1), ((HB.o.cell (World.block_lt_of_cell? w _ hw807_2)).trans hw807_2), ((HB.o.cell (World.block_lt_of_cell? w _ hw807_3)).trans hw807_3)⟩ (fun hHeld => ?_); refine qBn qAl.tab6 qAl.bits6 (fun HT_ HW_ => ?_)
     generalize wr.drew = bJ at HB aD aE aF aG aH aI aJ aK aL aM aN aO aP aQ aR aS aT aU aV aW aX aY aZ a3 hHeld ⊢
     refine pu 0 17 (mK 38 1) (qAh HT_.o (by kernel_rfl)) ?_
     refine pu 1 18 (mK 38 3) (qAh HT_.o (by kernel_rfl)) ?_
     refine pu 2 19 (mK 38 7) (qAh HT_.o (by kernel_rfl)) ?_
     refine pu 3 20 (mK 38 15) (qAh HT_.o (by kernel_rfl)) ?_
     refine pu 5 22 (mK 38 47) (qAh HT_.o (by kernel_rfl)) ?_
     refine pu 6 23 (mK 38 111) (qAh HT_.o (by kernel_rfl)) ?_
     refine pu 7 24 (mK 38 239) (qAh HT_.o (by kernel_rfl)) ?_
     refine pu 8 25 (mK 38 495) (qAh HT_.o (by kernel_rfl)) ?_
     refine tk 4 21 (mK 38 511) (qA6 HT_.o HW_.o (by kernel_rfl)) hHeld ?_
     refine tk 9 26 (mK 38 1023) (qA6 HT_.o HW_.o (by kernel_rfl)) hHeld ?_
     refine pu 10 27 (mK 38 2047) (qAh HT_.o (by kernel_rfl)) ?_
     refine pu 11 28 (mK 38 4095) (qAh HT_.o (by kernel_rfl)) ?_
     refine pu 12 29 (mK 38 8191) (qAh HT_.o (by kernel_rfl)) ?_
     refine pu 13 30 (mK 38 16383) (qAh HT_.o (by kernel_rfl)) ?_
     refine pu 14 31 (mK 38 32767) (qAh HT_.o (by kernel_rfl)) ?_
     refine pu 15 32 (mK 38 65535) (qAh HT_.o (by kernel_rfl)) ?_
     refine pu 17 34 (mK 38 196607) (qAh HT_.o (by kernel_rfl)) ?_
     refine pu 18 35 (mK 38 458751) (qAh HT_.o (by kernel_rfl)) ?_
     refine pu 19 36 (mK 38 983039) (qAh HT_.o (by kernel_rfl)) ?_
     refine pu 20 37 (mK 38 2031615) (qAh HT_.o (by kernel_rfl)) ?_
     refine tk 16 33 (mK 38 2097151) (qA6 HT_.o HW_.o (by kernel_rfl)) hHeld ?_
     refine tk 21 38 (mK 38 4194303) (qA6 HT_.o HW_.o (by kernel_rfl)) hHeld ?_
     refine pu 22 39 (mK 38 8388607) (qAh HT_.o (by kernel_rfl)) ?_
     refine pu 23 40 (mK 38 16777215) (qAh HT_.o (by kernel_rfl)) ?_
     refine pu 24 41 (mK 38 33554431) (qAh HT_.o (by kernel_rfl)) ?_
     refine pu 25 42 (mK 38 67108863) (qAh HT_.o (by kernel_rfl)) ?_
     refine pu 26 43 (mK 38 134217727) (qAh HT_.o (by kernel_rfl)) ?_
     refine pu 27 44 (mK 38 268435455) (qAh HT_.o (by kernel_rfl)) ?_
     refine pu 28 45 (mK 38 536870911) (qAh HT_.o (by kernel_rfl)) ?_
     refine pu 30 47 (mK 38 1610612735) (qAh HT_.o (by kernel_rfl)) ?_
     refine pu 31 48 (mK 38 3758096383) (qAh HT_.o (by kernel_rfl)) ?_
     refine pu 32 49 (mK 38 8053063679) (qAh HT_.o (by kernel_rfl)) ?_
     refine pu 33 50 (mK 38 16642998271) (qAh HT_.o (by kernel_rfl)) ?_
     refine tk 29 46 (mK 38 17179869183) (qA6 HT_.o HW_.o (by kernel_rfl)) hHeld ?_
     refine tk 34 51 (mK 38 34359738367) (qA6 HT_.o HW_.o (by kernel_rfl)) hHeld ?_
     refine one_ (i := 35) (N := some 52) (mK 38 68719476735) rfl rfl (qBp HT_.o (by kernel_rfl)) (by decide) (fun K hK => ?_)
     refine qCs Tryz.func58 (by kernel_rfl) rfl #[.agg #[.int .i64 ((qA0 l0 aA).f2.f0), .int .u64 ((qA0 l0 aA).f2.f1)], .agg #[.int .i64 ((qA3 l1 aA).f2.f0), .int .u64 ((qA3 l1 aA).f2.f1)]] (by rfl) rfl rfl (by (try simp only [List.map_toArray, List.map_cons, List.map_nil]); (rfl)) ?_
     with_reducible refine (qBo.calls ((qA0 l0 aA).f2.f0) ((qA0 l0 aA).f2.f1) ((qA3 l1 aA).f2.f0) ((qA3 l1 aA).f2.f1) false _ A9.o).mono ?_
     rintro e bK ⟨rfl, hb⟩
     refine ⟨_, rfl, ?_⟩
     have n0_ := am (qAq (by repeat ((with_reducible (exact HB.o)))) hb)
     clear HB
     have HB := n0_
     clear n0_
     (try clear hb)
     (skip)
     (skip)
     (skip)
     refine hK.o _ _ ⟨((HB.o.cell (World.block_lt_of_cell? w _ hw802_0)).trans hw802_0), ((HB.o.cell (World.block_lt_of_cell? w _ hw802_1)).trans hw802_1), ((HB.o.cell (World.block_lt_of_cell? w _ hw802_2)).trans hw802_2), ((HB.o.cell (World.block_lt_of_cell? w _ hw802_3)).trans hw802_3), ((HB.o.cell (World.block_lt_of_cell? w _ hw803_0)).trans hw803_0), ((HB.o.cell (World.block_lt_of_cell? w _ hw803_1)).trans hw803_1), ((HB.o.cell (World.block_lt_of_cell? w _ hw803_2)).trans hw803_2), ((HB.o.cell (World.block_lt_of_cell? w _ hw803_3)).trans hw803_3), ((HB.o.cell (World.block_lt_of_cell? w _ hw804_0)).trans hw804_0), ((HB.o.cell (World.block_lt_of_cell? w _ hw804_1)).trans hw804_1), ((HB.o.cell (World.block_lt_of_cell? w _ hw804_2)).trans hw804_2), ((HB.o.cell (World.block_lt_of_cell? w _ hw804_3)).trans hw804_3), ((HB.o.cell (World.block_lt_of_cell? w _ hw805_0)).trans hw805_0), ((HB.o.cell (World.block_lt_of_cell? w _ hw805_1)).trans hw805_1), ((HB.o.cell (World.block_lt_of_cell? w _ hw805_2)).trans hw805_2), ((HB.o.cell (World.block_lt_of_cell? w _ hw805_3)).trans hw805_3), ((HB.o.cell (World.block_lt_of_cell? w _ hw806_0)).trans hw806_0), ((HB.o.cell (World.block_lt_of_cell? w _ hw806_1)).trans hw806_1), ((HB.o.cell (World.block_lt_of_cell? w _ hw806_2)).trans hw806_2), ((HB.o.cell (World.block_lt_of_cell? w _ hw806_3)).trans hw806_3), ((HB.o.cell (World.block_lt_of_cell? w _ hw807_0)).trans hw807_0), ((HB.o.cell (World.block_lt_of_cell? w _ hw807_1)).trans hw807_1), ((HB.o.cell (World.block_lt_of_cell? w _ hw807_2)).trans hw807_2), ((HB.o.cell (World.block_lt_of_cell? w _ hw807_3)).trans hw807_3)⟩ (fun hHeld => ?_)
     clear hK K
     refine nm ?_
     refine pu 36 53 (mK 38 137438953471) (qAh HT_.o (by kernel_rfl)) ?_
     refine pu 37 54 (mK 38 274877906943) (qAh HT_.o (by kernel_rfl)) ?_
     refine qCS (qBA HT_.o (by kernel_rfl)) ?_
     try go_wp2
     go_ret
     exact ⟨by (rfl), by repeat ((with_reducible (exact HB.o)))⟩
    subst c10
    replace H : (qAl.l0 k1 l0 l1 (wrap64 (aA + 1))) = some r := by rw [if_pos rfl] at H; exact H
    have H' := am H
    clear H
    try go_wp2
    have n0_ := am (qAj HB.o)
    clear HB
    have HB := n0_
    clear n0_
    have a4 : 0 ≤ (aA : Int) := of_decide_eq_true (by (with_reducible assumption))
    have a5 : aA < (l0.length : Int) := of_decide_eq_true (by (with_reducible assumption))
    obtain ⟨aB, a9, aD, aE, aF, aG⟩ := qBM ak.o aA a4 a5
    have hw802_3 := aG
    have hw802_2 := aF
    have hw802_1 := aE
    have hw802_0 := aD
    cases a9
    replace aD := (HB.o.cell (World.block_lt_of_cell? w _ aD)).trans aD
    replace aE := (HB.o.cell (World.block_lt_of_cell? w _ aE)).trans aE
    replace aF := (HB.o.cell (World.block_lt_of_cell? w _ aF)).trans aF
    replace aG := (HB.o.cell (World.block_lt_of_cell? w _ aG)).trans aG
    replace a4 := eq_true a4
    replace a5 := eq_true a5
    have ab : 0 ≤ (aA : Int) := of_decide_eq_true (by (with_reducible assumption))
    have a6 : aA < (l1.length : Int) := of_decide_eq_true (by (with_reducible assumption))
    obtain ⟨aC, aa, aH, aI, aJ, aK⟩ := qCr al.o aA ab a6
    have hw803_3 := aK
    have hw803_2 := aJ
    have hw803_1 := aI
    have hw803_0 := aH
    cases aa
    replace aH := (HB.o.cell (World.block_lt_of_cell? w _ aH)).trans aH
    replace aI := (HB.o.cell (World.block_lt_of_cell? w _ aI)).trans aI
    replace aJ := (HB.o.cell (World.block_lt_of_cell? w _ aJ)).trans aJ
    replace aK := (HB.o.cell (World.block_lt_of_cell? w _ aK)).trans aK
    replace a6 := eq_true a6
    have ag : 0 ≤ (aA : Int) := of_decide_eq_true (by (with_reducible assumption))
    have ai : aA < (l0.length : Int) := of_decide_eq_true (by (with_reducible assumption))
    obtain ⟨a7, ae, aL, aM, aN, aO⟩ := qBM ak.o aA ag ai
    have hw804_3 := aO
    have hw804_2 := aN
    have hw804_1 := aM
    have hw804_0 := aL
    obtain rfl : aB = a7 := (by injection ae)
    replace aL := (HB.o.cell (World.block_lt_of_cell? w _ aL)).trans aL
    replace aM := (HB.o.cell (World.block_lt_of_cell? w _ aM)).trans aM
    replace aN := (HB.o.cell (World.block_lt_of_cell? w _ aN)).trans aN
    replace aO := (HB.o.cell (World.block_lt_of_cell? w _ aO)).trans aO
    have ah : 0 ≤ (aA : Int) := of_decide_eq_true (by (with_reducible assumption))
    have aj : aA < (l1.length : Int) := of_decide_eq_true (by (with_reducible assumption))
    obtain ⟨a8, af, aP, aQ, aR, aS⟩ := qCr al.o aA ah aj
    have hw805_3 := aS
    have hw805_2 := aR
    have hw805_1 := aQ
    have hw805_0 := aP
    obtain rfl : aC = a8 := (by injection af)
    replace aP := (HB.o.cell (World.block_lt_of_cell? w _ aP)).trans aP
    replace aQ := (HB.o.cell (World.block_lt_of_cell? w _ aQ)).trans aQ
    replace aR := (HB.o.cell (World.block_lt_of_cell? w _ aR)).trans aR
    replace aS := (HB.o.cell (World.block_lt_of_cell? w _ aS)).trans aS
    have aq : 0 ≤ (aA : Int) := of_decide_eq_true (by (with_reducible assumption))
    have au : aA < (l0.length : Int) := of_decide_eq_true (by (with_reducible assumption))
    obtain ⟨ac, ao, aT, aU, aV, aW⟩ := qBM ak.o aA aq au
    have hw806_3 := aW
    have hw806_2 := aV
    have hw806_1 := aU
    have hw806_0 := aT
    obtain rfl : aB = ac := (by injection ao)
    replace aT := (HB.o.cell (World.block_lt_of_cell? w _ aT)).trans aT
    replace aU := (HB.o.cell (World.block_lt_of_cell? w _ aU)).trans aU
    replace aV := (HB.o.cell (World.block_lt_of_cell? w _ aV)).trans aV
    replace aW := (HB.o.cell (World.block_lt_of_cell? w _ aW)).trans aW
    have ar : 0 ≤ (aA : Int) := of_decide_eq_true (by (with_reducible assumption))
    have av : aA < (l1.length : Int) := of_decide_eq_true (by (with_reducible assumption))
    obtain ⟨ad, ap, aX, aY, aZ, a3⟩ := qCr al.o aA ar av
    have hw807_3 := a3
    have hw807_2 := aZ
    have hw807_1 := aY
    have hw807_0 := aX
    obtain rfl : aC = ad := (by injection ap)
    replace aX := (HB.o.cell (World.block_lt_of_cell? w _ aX)).trans aX
    replace aY := (HB.o.cell (World.block_lt_of_cell? w _ aY)).trans aY
    replace aZ := (HB.o.cell (World.block_lt_of_cell? w _ aZ)).trans aZ
    replace a3 := (HB.o.cell (World.block_lt_of_cell? w _ a3)).trans a3
    refine qCi (n := 38) (S := fun w' => w'.cell? (aB.add ((aA).toNat * 4)) = some (.int .i64 ((qA0 l0 aA).f0)) ∧ w'.cell? ⟨(aB.add ((aA).toNat * 4)).block, (aB.add ((aA).toNat * 4)).off + 1, none⟩ = some (.int .i64 ((qA0 l0 aA).f1)) ∧ w'.cell? ⟨(aB.add ((aA).toNat * 4)).block, (aB.add ((aA).toNat * 4)).off + 2, none⟩ = some (.int .i64 ((qA0 l0 aA).f2.f0)) ∧ w'.cell? ⟨(aB.add ((aA).toNat * 4)).block, (aB.add ((aA).toNat * 4)).off + 3, none⟩ = some (.int .u64 ((qA0 l0 aA).f2.f1)) ∧ w'.cell? (aC.add ((aA).toNat * 4)) = some (.int .i64 ((qA3 l1 aA).f0)) ∧ w'.cell? ⟨(aC.add ((aA).toNat * 4)).block, (aC.add ((aA).toNat * 4)).off + 1, none⟩ = some (.int .i64 ((qA3 l1 aA).f1)) ∧ w'.cell? ⟨(aC.add ((aA).toNat * 4)).block, (aC.add ((aA).toNat * 4)).off + 2, none⟩ = some (.int .i64 ((qA3 l1 aA).f2.f0)) ∧ w'.cell? ⟨(aC.add ((aA).toNat * 4)).block, (aC.add ((aA).toNat * 4)).off + 3, none⟩ = some (.int .u64 ((qA3 l1 aA).f2.f1)) ∧ w'.cell? (aB.add ((aA).toNat * 4)) = some (.int .i64 ((qA0 l0 aA).f0)) ∧ w'.cell? ⟨(aB.add ((aA).toNat * 4)).block, (aB.add ((aA).toNat * 4)).off + 1, none⟩ = some (.int .i64 ((qA0 l0 aA).f1)) ∧ w'.cell? ⟨(aB.add ((aA).toNat * 4)).block, (aB.add ((aA).toNat * 4)).off + 2, none⟩ = some (.int .i64 ((qA0 l0 aA).f2.f0)) ∧ w'.cell? ⟨(aB.add ((aA).toNat * 4)).block, (aB.add ((aA).toNat * 4)).off + 3, none⟩ = some (.int .u64 ((qA0 l0 aA).f2.f1)) ∧ w'.cell? (aC.add ((aA).toNat * 4)) = some (.int .i64 ((qA3 l1 aA).f0)) ∧ w'.cell? ⟨(aC.add ((aA).toNat * 4)).block, (aC.add ((aA).toNat * 4)).off + 1, none⟩ = some (.int .i64 ((qA3 l1 aA).f1)) ∧ w'.cell? ⟨(aC.add ((aA).toNat * 4)).block, (aC.add ((aA).toNat * 4)).off + 2, none⟩ = some (.int .i64 ((qA3 l1 aA).f2.f0)) ∧ w'.cell? ⟨(aC.add ((aA).toNat * 4)).block, (aC.add ((aA).toNat * 4)).off + 3, none⟩ = some (.int .u64 ((qA3 l1 aA).f2.f1)) ∧ w'.cell? (aB.add ((aA).toNat * 4)) = some (.int .i64 ((qA0 l0 aA).f0)) ∧ w'.cell? ⟨(aB.add ((aA).toNat * 4)).block, (aB.add ((aA).toNat * 4)).off + 1, none⟩ = some (.int .i64 ((qA0 l0 aA).f1)) ∧ w'.cell? ⟨(aB.add ((aA).toNat * 4)).block, (aB.add ((aA).toNat * 4)).off + 2, none⟩ = some (.int .i64 ((qA0 l0 aA).f2.f0)) ∧ w'.cell? ⟨(aB.add ((aA).toNat * 4)).block, (aB.add ((aA).toNat * 4)).off + 3, none⟩ = some (.int .u64 ((qA0 l0 aA).f2.f1)) ∧ w'.cell? (aC.add ((aA).toNat * 4)) = some (.int .i64 ((qA3 l1 aA).f0)) ∧ w'.cell? ⟨(aC.add ((aA).toNat * 4)).block, (aC.add ((aA).toNat * 4)).off + 1, none⟩ = some (.int .i64 ((qA3 l1 aA).f1)) ∧ w'.cell? ⟨(aC.add ((aA).toNat * 4)).block, (aC.add ((aA).toNat * 4)).off + 2, none⟩ = some (.int .i64 ((qA3 l1 aA).f2.f0)) ∧ w'.cell? ⟨(aC.add ((aA).toNat * 4)).block, (aC.add ((aA).toNat * 4)).off + 3, none⟩ = some (.int .u64 ((qA3 l1 aA).f2.f1))) (ds := []) (mK 38 0) (by kernel_rfl) rfl rfl ⟨((HB.o.cell (World.block_lt_of_cell? w _ hw802_0)).trans hw802_0), ((HB.o.cell (World.block_lt_of_cell? w _ hw802_1)).trans hw802_1), ((HB.o.cell (World.block_lt_of_cell? w _ hw802_2)).trans hw802_2), ((HB.o.cell (World.block_lt_of_cell? w _ hw802_3)).trans hw802_3), ((HB.o.cell (World.block_lt_of_cell? w _ hw803_0)).trans hw803_0), ((HB.o.cell (World.block_lt_of_cell? w _ hw803_1)).trans hw803_1), ((HB.o.cell (World.block_lt_of_cell? w _ hw803_2)).trans hw803_2), ((HB.o.cell (World.block_lt_of_cell? w _ hw803_3)).trans hw803_3), ((HB.o.cell (World.block_lt_of_cell? w _ hw804_0)).trans hw804_0), ((HB.o.cell (World.block_lt_of_cell? w _ hw804_1)).trans hw804_1), ((HB.o.cell (World.block_lt_of_cell? w _ hw804_2)).trans hw804_2), ((HB.o.cell (World.block_lt_of_cell? w _ hw804_3)).trans hw804_3), ((HB.o.cell (World.block_lt_of_cell? w _ hw805_0)).trans hw805_0), ((HB.o.cell (World.block_lt_of_cell? w _ hw805_1)).trans hw805_1), ((HB.o.cell (World.block_lt_of_cell? w _ hw805_2)).trans hw805_2), ((HB.o.cell (World.block_lt_of_cell? w _ hw805_3)).trans hw805_3), ((HB.o.cell (World.block_lt_of_cell? w _ hw806_0)).trans hw806_0), ((HB.o.cell (World.block_lt_of_cell? w _ hw806_1)).trans hw806_1), ((HB.o.cell (World.block_lt_of_cell? w _ hw806_2)).trans hw806_2), ((HB.o.cell (World.block_lt_of_cell? w _ hw806_3)).trans hw806_3), ((HB.o.cell (World.block_lt_of_cell? w _ hw807_0)).trans hw807_0), ((HB.o.cell (World.block_lt_of_cell? w _ hw807_1)).trans hw807_1), ((HB.o.cell (World.block_lt_of_cell? w _ hw807_2)).trans hw807_2), ((HB.o.cell (World.block_lt_of_cell? w _ hw807_3)).trans hw807_3)⟩ (fun hHeld => ?_); refine qBn qAl.tab6 qAl.bits6 (fun HT_ HW_ => ?_)
    generalize wr.drew = bH at HB aD aE aF aG aH aI aJ aK aL aM aN aO aP aQ aR aS aT aU aV aW aX aY aZ a3 hHeld ⊢
    refine pu 0 17 (mK 38 1) (qAh HT_.o (by kernel_rfl)) ?_
    refine pu 1 18 (mK 38 3) (qAh HT_.o (by kernel_rfl)) ?_
    refine pu 2 19 (mK 38 7) (qAh HT_.o (by kernel_rfl)) ?_
    refine pu 3 20 (mK 38 15) (qAh HT_.o (by kernel_rfl)) ?_
    refine pu 5 22 (mK 38 47) (qAh HT_.o (by kernel_rfl)) ?_
    refine pu 6 23 (mK 38 111) (qAh HT_.o (by kernel_rfl)) ?_
    refine pu 7 24 (mK 38 239) (qAh HT_.o (by kernel_rfl)) ?_
    refine pu 8 25 (mK 38 495) (qAh HT_.o (by kernel_rfl)) ?_
    refine tk 4 21 (mK 38 511) (qA6 HT_.o HW_.o (by kernel_rfl)) hHeld ?_
    refine tk 9 26 (mK 38 1023) (qA6 HT_.o HW_.o (by kernel_rfl)) hHeld ?_
    refine pu 10 27 (mK 38 2047) (qAh HT_.o (by kernel_rfl)) ?_
    refine pu 11 28 (mK 38 4095) (qAh HT_.o (by kernel_rfl)) ?_
    refine pu 12 29 (mK 38 8191) (qAh HT_.o (by kernel_rfl)) ?_
    refine pu 13 30 (mK 38 16383) (qAh HT_.o (by kernel_rfl)) ?_
    refine pu 14 31 (mK 38 32767) (qAh HT_.o (by kernel_rfl)) ?_
    refine pu 15 32 (mK 38 65535) (qAh HT_.o (by kernel_rfl)) ?_
    refine pu 17 34 (mK 38 196607) (qAh HT_.o (by kernel_rfl)) ?_
    refine pu 18 35 (mK 38 458751) (qAh HT_.o (by kernel_rfl)) ?_
    refine pu 19 36 (mK 38 983039) (qAh HT_.o (by kernel_rfl)) ?_
    refine pu 20 37 (mK 38 2031615) (qAh HT_.o (by kernel_rfl)) ?_
    refine tk 16 33 (mK 38 2097151) (qA6 HT_.o HW_.o (by kernel_rfl)) hHeld ?_
    refine tk 21 38 (mK 38 4194303) (qA6 HT_.o HW_.o (by kernel_rfl)) hHeld ?_
    refine pu 22 39 (mK 38 8388607) (qAh HT_.o (by kernel_rfl)) ?_
    refine pu 23 40 (mK 38 16777215) (qAh HT_.o (by kernel_rfl)) ?_
    refine pu 24 41 (mK 38 33554431) (qAh HT_.o (by kernel_rfl)) ?_
    refine pu 25 42 (mK 38 67108863) (qAh HT_.o (by kernel_rfl)) ?_
    refine pu 26 43 (mK 38 134217727) (qAh HT_.o (by kernel_rfl)) ?_
    refine pu 27 44 (mK 38 268435455) (qAh HT_.o (by kernel_rfl)) ?_
    refine pu 28 45 (mK 38 536870911) (qAh HT_.o (by kernel_rfl)) ?_
    refine pu 30 47 (mK 38 1610612735) (qAh HT_.o (by kernel_rfl)) ?_
    refine pu 31 48 (mK 38 3758096383) (qAh HT_.o (by kernel_rfl)) ?_
    refine pu 32 49 (mK 38 8053063679) (qAh HT_.o (by kernel_rfl)) ?_
    refine pu 33 50 (mK 38 16642998271) (qAh HT_.o (by kernel_rfl)) ?_
    refine tk 29 46 (mK 38 17179869183) (qA6 HT_.o HW_.o (by kernel_rfl)) hHeld ?_
    refine tk 34 51 (mK 38 34359738367) (qA6 HT_.o HW_.o (by kernel_rfl)) hHeld ?_
    refine one_ (i := 35) (N := some 52) (mK 38 68719476735) rfl rfl (qBp HT_.o (by kernel_rfl)) (by decide) (fun K hK => ?_)
    refine qCs Tryz.func58 (by kernel_rfl) rfl #[.agg #[.int .i64 ((qA0 l0 aA).f2.f0), .int .u64 ((qA0 l0 aA).f2.f1)], .agg #[.int .i64 ((qA3 l1 aA).f2.f0), .int .u64 ((qA3 l1 aA).f2.f1)]] (by rfl) rfl rfl (by (try simp only [List.map_toArray, List.map_cons, List.map_nil]); (rfl)) ?_
    with_reducible refine (qBo.calls ((qA0 l0 aA).f2.f0) ((qA0 l0 aA).f2.f1) ((qA3 l1 aA).f2.f0) ((qA3 l1 aA).f2.f1) true _ A9.o).mono ?_
    rintro e bI ⟨rfl, hb⟩
    refine ⟨_, rfl, ?_⟩
    have n0_ := am (qAq (by repeat ((with_reducible (exact HB.o)))) hb)
    clear HB
    have HB := n0_
    clear n0_
    (try clear hb)
    (skip)
    (skip)
    (skip)
    refine hK.o _ _ ⟨((HB.o.cell (World.block_lt_of_cell? w _ hw802_0)).trans hw802_0), ((HB.o.cell (World.block_lt_of_cell? w _ hw802_1)).trans hw802_1), ((HB.o.cell (World.block_lt_of_cell? w _ hw802_2)).trans hw802_2), ((HB.o.cell (World.block_lt_of_cell? w _ hw802_3)).trans hw802_3), ((HB.o.cell (World.block_lt_of_cell? w _ hw803_0)).trans hw803_0), ((HB.o.cell (World.block_lt_of_cell? w _ hw803_1)).trans hw803_1), ((HB.o.cell (World.block_lt_of_cell? w _ hw803_2)).trans hw803_2), ((HB.o.cell (World.block_lt_of_cell? w _ hw803_3)).trans hw803_3), ((HB.o.cell (World.block_lt_of_cell? w _ hw804_0)).trans hw804_0), ((HB.o.cell (World.block_lt_of_cell? w _ hw804_1)).trans hw804_1), ((HB.o.cell (World.block_lt_of_cell? w _ hw804_2)).trans hw804_2), ((HB.o.cell (World.block_lt_of_cell? w _ hw804_3)).trans hw804_3), ((HB.o.cell (World.block_lt_of_cell? w _ hw805_0)).trans hw805_0), ((HB.o.cell (World.block_lt_of_cell? w _ hw805_1)).trans hw805_1), ((HB.o.cell (World.block_lt_of_cell? w _ hw805_2)).trans hw805_2), ((HB.o.cell (World.block_lt_of_cell? w _ hw805_3)).trans hw805_3), ((HB.o.cell (World.block_lt_of_cell? w _ hw806_0)).trans hw806_0), ((HB.o.cell (World.block_lt_of_cell? w _ hw806_1)).trans hw806_1), ((HB.o.cell (World.block_lt_of_cell? w _ hw806_2)).trans hw806_2), ((HB.o.cell (World.block_lt_of_cell? w _ hw806_3)).trans hw806_3), ((HB.o.cell (World.block_lt_of_cell? w _ hw807_0)).trans hw807_0), ((HB.o.cell (World.block_lt_of_cell? w _ hw807_1)).trans hw807_1), ((HB.o.cell (World.block_lt_of_cell? w _ hw807_2)).trans hw807_2), ((HB.o.cell (World.block_lt_of_cell? w _ hw807_3)).trans hw807_3)⟩ (fun hHeld => ?_)
    clear hK K
    refine nm ?_
    refine pu 36 53 (mK 38 137438953471) (qAh HT_.o (by kernel_rfl)) ?_
    refine pu 37 54 (mK 38 274877906943) (qAh HT_.o (by kernel_rfl)) ?_
    refine qCS (qBA HT_.o (by kernel_rfl)) ?_
    try go_wp2
    go_roundg k1
    case measure => have := bD.o; omega
    case rel => exact ⟨(wrap64 (aA + 1)), (by (rfl)), H', ⟨by have := bD.o; omega⟩, ⟨by repeat ((with_reducible (exact HB.o)))⟩⟩
 ·rw [if_neg c3] at H
  have aw : ((l0.length : Int) != (l1.length : Int)) = true := bne_iff_ne.mpr c3
  obtain rfl := Option.some.inj H
  go_enter Tryz.func35, Tryz.ntmps35
  go_wp2
  go_ret
  exact ⟨by (rfl), by repeat ((with_reducible (exact HB.o)))⟩
end Q
end
section
namespace Q
open Go.RowKit YA YC YB
open Val Ins
namespace C14
theorem same_ev (l : List S50) (hl : l.length ≤ 4611686018427387904) : Ev (fun k => qAl.f k (l.map ofI) l) true := by
 have loop : ∀ (d : Nat) (i : Int), 0 ≤ i → (l.length : Int) - i = d → Ev (fun k => qAl.l0 k (l.map ofI) l i) true := by
  intro d
  induction d with
  | zero =>
   intro i h0 hd
   refine Ev.step (f := fun _ => some true) (fun k => ?_) (Ev.now _)
   simp only [qAl.l0]; rw [if_neg (by rw [List.length_map]; omega)]
  | succ d ih =>
   intro i h0 hd
   have hx : qA0 (l.map ofI) i = ofI (qA3 l i) := rd_map ofI l _ _ i h0 (by omega)
   generalize hy : qA3 l i = y at hx
   have hs : qBo.f y.f2.f0 y.f2.f1 y.f2.f0 y.f2.f1 = some true := by unfold qBo.f; rw [if_pos rfl, beq_self_eq_true]
   refine Ev.step (f := fun k => qAl.l0 k (l.map ofI) l (i + 1)) (fun k => ?_) (ih (i + 1) (by omega) (by omega))
   simp only [qAl.l0, hx, hy]
   rw [if_pos (by rw [List.length_map]; omega), if_pos h0, if_pos (by omega), if_pos (show (ofI y).f0 = y.f0 from rfl), if_pos (show (ofI y).f1 = y.f1 from rfl)]
   simp only [ofI]
   rw [hs, Option.bind_some, if_pos rfl, qDc (n := l.length) h0 (by omega) hl]
 refine Ev.congr (f := fun k => qAl.l0 k (l.map ofI) l 0) (fun k => by unfold qAl.f; rw [if_pos (by rw [List.length_map])]) ?_
 exact loop l.length 0 (by omega) (by omega)
end C14
end Q
end
section
namespace DecLaw
open Go.RowKit Base Val Ins Wr Enc
def valB (l : List Int) : Int := l.foldl (fun v x => v * 256 + x) 0
def qBT (l : List Int) : Prop := ∀ x ∈ l, 0 ≤ x ∧ x < 256
theorem qCJ (l : List Int) (x : Int) : valB (l ++ [x]) = valB l * 256 + x := by simp [valB]
theorem be_snoc (n : Int) (m : Nat) : be n (m + 1) (m + 1) = be (n / 256) m m ++ [n % 256] := by
 unfold be
 rw [List.range_succ, List.map_append]
 congr 1
 ·apply List.map_congr_left
  intro t ht
  have ht' : t < m := List.mem_range.1 ht
  rw [show 8 * (m + 1 - 1 - t) = 8 + 8 * (m - 1 - t) by omega, Int.pow_add, ← Int.ediv_ediv_of_nonneg (by decide)]
  rfl
 simp
theorem be_valB : ∀ (m : Nat) (l : List Int), l.length = m → qBT l → be (valB l) m m = l := by
 intro m
 induction m with
 | zero => intro l hl _; rw [List.length_eq_zero_iff.1 hl]; rfl
 | succ m ih =>
  intro l hl hb
  obtain ⟨l0, x, rfl⟩ : ∃ l0 x, l = l0 ++ [x] := ⟨l.dropLast, l.getLast (by intro e; simp [e] at hl), (List.dropLast_concat_getLast _).symm⟩
  have hx := hb x (by simp)
  rw [qCJ, be_snoc, show (valB l0 * 256 + x) / 256 = valB l0 by omega, show (valB l0 * 256 + x) % 256 = x by omega, ih l0 (by simpa using hl) (fun y hy => hb y (by simp [hy]))]
theorem valB_be : ∀ (m : Nat) (n : Int), 0 ≤ n → n < 256 ^ m → valB (be n m m) = n := by
 intro m
 induction m with
 | zero =>
  intro n h0 h1; simp at h1; have : n = 0 := by omega
  subst this; rfl
 | succ m ih =>
  intro n h0 h1
  rw [Int.pow_succ] at h1
  rw [be_snoc, qCJ, ih (n / 256) (by omega) (by omega)]
  omega
theorem be_bytes (n : Int) (m : Nat) : qBT (be n m m) := by
 intro x hx
 unfold be at hx
 obtain ⟨t, _, rfl⟩ := List.mem_map.1 hx
 omega
def qAY (r : List Int) : InsD :=
 if r.getD 0 0 = 1 then ⟨1, 0, r.getD 1 0, valB ((r.drop 2).take 8)⟩ else ⟨r.getD 0 0, valB ((r.drop 1).take (widN (r.getD 0 0))), 0, 0⟩
theorem ok_op {x : InsD} (h : x.ok = true) : 1 ≤ x.op ∧ x.op ≤ 17 := by
 unfold InsD.ok okI at h
 split at h
 ·cases h
 omega
theorem ok_n {x : InsD} (h : x.ok = true) (h1 : x.op ≠ 1) : x.ty = 0 ∧ x.b = 0 ∧ 0 ≤ x.n ∧ x.n < 256 ^ widN x.op := by
 obtain ⟨_, _, ht, hb, hn0, _, hw⟩ := okI_mid_of x.op x.n x.ty x.b h h1
 refine ⟨ht, hb, hn0, ?_⟩
 have hm : x.n ≤ most x.op := by
  unfold InsD.ok okI at h
  split at h
  ·cases h
  split at h
  ·cases h
  rename_i h3; simp only [Decidable.not_not] at h3; exact h3.2.2.2
 unfold most at hm
 unfold widN
 rcases hw with e | e | e <;> rw [e] at hm ⊢ <;> simp at hm ⊢ <;> omega
theorem ok_push {x : InsD} (h : x.ok = true) (h1 : x.op = 1) : x.n = 0 ∧ 1 ≤ x.ty ∧ x.ty ≤ 3 := by
 unfold InsD.ok at h
 rw [h1, okI_1] at h
 simp only [Bool.and_eq_true, beq_iff_eq] at h
 refine ⟨h.1, ?_⟩
 by_cases hn : x.ty < 1 ∨ 3 < x.ty
 rotate_left
 ·omega
 rw [okV_no _ _ hn] at h; exact absurd h.2 (by simp)
theorem qEj {x : InsD} (h : x.ok = true) : ((insB x).length : Int) = sizeI x.op := by
 obtain ⟨h1, h2⟩ := ok_op h
 have hs : sizeI x.op = 1 + wid x.op := by unfold sizeI; rw [if_neg (by omega)]
 rw [hs]
 unfold insB
 by_cases e : x.op = 1
 ·rw [if_pos e, e]; simp [qBx, wid]
 rw [if_neg e]
 have : 0 ≤ wid x.op := by
  unfold wid; split
  ·omega
  split
  ·omega
  split <;> omega
 simp only [List.length_cons, qBx]
 unfold widN
 omega
theorem qDh {x : InsD} (h : x.ok = true) (hb : U64 x.b) (t : List Int) : qAY (insB x ++ t) = x := by
 obtain ⟨h1, h2⟩ := ok_op h
 have hop : x.op % 256 = x.op := by omega
 obtain ⟨op, n, ty, b⟩ := x
 dsimp only at *
 by_cases e : op = 1
 rotate_left
 ·obtain ⟨ht, hb0, hn0, hn1⟩ := ok_n h e
  dsimp only at ht hb0 hn0 hn1
  subst ht hb0
  unfold qAY insB
  simp only [if_neg e, List.cons_append, List.getD_cons_zero, List.drop_succ_cons, List.drop_zero, hop]
  rw [List.take_append_of_le_length (by rw [qBx]; omega), List.take_of_length_le (by rw [qBx]; omega), valB_be _ _ hn0 hn1]
 subst e
 obtain ⟨hn, ht1, ht3⟩ := ok_push h rfl
 dsimp only at hn ht1 ht3
 subst hn
 unfold qAY insB
 have hv := valB_be 8 b hb.1 (by have := hb.2; simpa using this)
 simp only [if_true, List.cons_append, List.getD_cons_zero, List.getD_cons_succ, List.drop_succ_cons, List.drop_zero, hop]
 rw [show ty % 256 = ty by omega, List.take_append_of_le_length (by rw [qBx]; omega), List.take_of_length_le (by rw [qBx]; omega), hv]
theorem qDe (r : List Int) (hr : qBT r) (h0 : sizeI (r.getD 0 0) ≠ 0) (hl : sizeI (r.getD 0 0) ≤ r.length) (hn : r ≠ []) :
  insB (qAY r) ++ r.drop (sizeI (r.getD 0 0)).toNat = r := by
 cases r with
 | nil => exact absurd rfl hn
 | cons op r =>
  rw [List.getD_cons_zero] at *
  have hop := hr op (by simp)
  have hb : qBT r := fun x hx => hr x (by simp [hx])
  have h17 : ¬(op < 1 ∨ 17 < op) := by
   intro h; apply h0; unfold sizeI; rw [if_pos h]
  have hsz : sizeI op = 1 + wid op := by unfold sizeI; rw [if_neg h17]
  by_cases e : op = 1
  ·subst e
   have h10 : sizeI 1 = 10 := rfl
   rw [h10] at hl ⊢
   cases r with
   | nil => simp at hl
   | cons ty r =>
    have hty := hb ty (by simp)
    have hl8 : 8 ≤ r.length := by simp at hl; omega
    unfold qAY insB
    simp only [List.getD_cons_zero, List.getD_cons_succ, List.drop_succ_cons, List.drop_zero, if_true]
    rw [be_valB 8 (r.take 8) (by rw [List.length_take]; omega) (fun x hx => hb x (by simp [List.mem_of_mem_take hx])), show ty % 256 = ty by omega]
    simp
  unfold qAY insB
  have hw0 : 0 ≤ wid op := by
   unfold wid; split
   ·omega
   split
   ·omega
   split <;> omega
  have hlw : widN op ≤ r.length := by unfold widN; simp at hl; omega
  simp only [List.getD_cons_zero, List.drop_succ_cons, List.drop_zero, if_neg e]
  rw [be_valB (widN op) (r.take (widN op)) (by rw [List.length_take]; omega) (fun x hx => hb x (List.mem_of_mem_take hx)), show op % 256 = op by omega, hsz, show (1 + wid op).toNat = widN op + 1 by unfold widN; omega]
  simp
def DecOk (bs : List Int) (l : List InsD) : Prop := (∀ x ∈ l, x.ok = true ∧ U64 x.b) ∧ l.length ≤ 4096 ∧ bs = encB l
def qEo (bs : List Int) : Prop := ∃ l r, (∀ x ∈ l, x.ok = true ∧ U64 x.b) ∧ l.length = 4097 ∧ bs = encB l ++ r
def DecBad (bs : List Int) : Prop := ∃ l r, (∀ x ∈ l, x.ok = true ∧ U64 x.b) ∧ l.length ≤ 4096 ∧ bs = encB l ++ r ∧ r ≠ [] ∧ ∀ x t, x.ok = true → U64 x.b → r ≠ insB x ++ t
theorem insB_front {x y : InsD} {s t : List Int} (hx : x.ok = true ∧ U64 x.b) (hy : y.ok = true ∧ U64 y.b) (h : insB x ++ s = insB y ++ t) : x = y ∧ s = t := by
 have e : x = y := by rw [← qDh hx.1 hx.2 s, h, qDh hy.1 hy.2 t]
 subst e
 exact ⟨rfl, List.append_cancel_left h⟩
theorem qDx : ∀ (l m : List InsD) (s t : List Int), (∀ x ∈ l, x.ok = true ∧ U64 x.b) → (∀ x ∈ m, x.ok = true ∧ U64 x.b) → encB l ++ s = encB m ++ t →
  (∃ d, m = l ++ d ∧ s = encB d ++ t) ∨ (∃ d, l = m ++ d ∧ t = encB d ++ s) := by
 intro l
 induction l with
 | nil => intro m s t _ _ h; exact .inl ⟨m, rfl, by simpa [encB] using h⟩
 | cons x l ih =>
  intro m s t hl hm h
  cases m with
  | nil => exact .inr ⟨x :: l, rfl, by simpa [encB] using h.symm⟩
  | cons y m =>
   simp only [encB, List.flatMap_cons, List.append_assoc] at h
   obtain ⟨rfl, h2⟩ := insB_front (hl x (by simp)) (hm y (by simp)) h
   rcases ih m s t (fun z hz => hl z (by simp [hz])) (fun z hz => hm z (by simp [hz])) h2 with ⟨d, e1, e2⟩ | ⟨d, e1, e2⟩
   ·exact .inl ⟨d, by rw [e1]; rfl, e2⟩
   exact .inr ⟨d, by rw [e1]; rfl, e2⟩
theorem qDu (x : InsD) (l : List InsD) : encB (x :: l) = insB x ++ encB l := rfl
theorem insB_ne (x : InsD) (t : List Int) : insB x ++ t ≠ [] := by unfold insB; simp
theorem ok_ok {bs : List Int} {l m : List InsD} (h : DecOk bs l) (k : DecOk bs m) : l = m := by
 have e : encB l ++ [] = encB m ++ [] := by rw [List.append_nil, List.append_nil, ← h.2.2, ← k.2.2]
 rcases qDx l m [] [] h.1 k.1 e with ⟨d, e1, e2⟩ | ⟨d, e1, e2⟩ <;>
 cases d with
 | nil => simp [e1]
 | cons y d => rw [qDu, List.append_assoc] at e2; exact absurd e2.symm (insB_ne _ _)
theorem ok_big {bs : List Int} {l : List InsD} (h : DecOk bs l) (k : qEo bs) : False := by
 obtain ⟨m, r, hm, hl, hr⟩ := k
 have e : encB l ++ [] = encB m ++ r := by rw [List.append_nil, ← h.2.2, hr]
 rcases qDx l m [] r h.1 hm e with ⟨d, e1, e2⟩ | ⟨d, e1, e2⟩
 ·cases d with
  | nil => have := h.2.1; rw [e1] at hl; simp at hl; omega
  | cons y d => rw [qDu, List.append_assoc] at e2; exact absurd e2.symm (insB_ne _ _)
 have := h.2.1; rw [e1] at this; simp at this; omega
theorem ok_bad {bs : List Int} {l : List InsD} (h : DecOk bs l) (k : DecBad bs) : False := by
 obtain ⟨m, r, hm, hl, hr, hne, hno⟩ := k
 have e : encB l ++ [] = encB m ++ r := by rw [List.append_nil, ← h.2.2, hr]
 rcases qDx l m [] r h.1 hm e with ⟨d, e1, e2⟩ | ⟨d, e1, e2⟩
 ·have := congrArg List.length e2; simp at this; exact hne (List.length_eq_zero_iff.1 (by omega))
 cases d with
 | nil => exact hne (by simpa [encB] using e2)
 | cons y d => exact hno y (encB d ++ []) (h.1 y (by rw [e1]; simp)).1 (h.1 y (by rw [e1]; simp)).2 (by rw [e2, qDu, List.append_assoc])
theorem big_bad {bs : List Int} (h : qEo bs) (k : DecBad bs) : False := by
 obtain ⟨l, s, hl, hll, hs⟩ := h
 obtain ⟨m, r, hm, hml, hr, hne, hno⟩ := k
 rcases qDx l m s r hl hm (by rw [← hs, hr]) with ⟨d, e1, e2⟩ | ⟨d, e1, e2⟩
 ·rw [e1] at hml; simp at hml; omega
 cases d with
 | nil => rw [e1] at hll; simp at hll; omega
 | cons y d => exact hno y (encB d ++ s) (hl y (by rw [e1]; simp)).1 (hl y (by rw [e1]; simp)).2 (by rw [e2, qDu, List.append_assoc])
end DecLaw
end
section
namespace Dec
open Go.RowKit Base Val Ins Wr Enc DecLaw
def slen : Value → Nat
 | .slice _ n _ => n
 | _ => 0
def qDt (x : InsD) : List Value := [.int .i64 x.op, .int .i64 x.n, .int .i64 x.ty, .int .u64 x.b]
def insC (l : List InsD) : List Value := l.flatMap qDt
theorem qEz (l : List InsD) (x : InsD) : insC (l ++ [x]) = insC l ++ qDt x := by simp [insC]
theorem qDv (l : List InsD) (x : InsD) : encB (l ++ [x]) = encB l ++ insB x := by simp [encB]
theorem infoIns : (Tryz.prog.info? 51).map (fun i => (i.zero, i.size, i.bytes)) = some (some (.agg #[.int .i64 0, .int .i64 0, .int .i64 0, .int .u64 0]), 4, 32) := by kernel_rfl
def BytesAt (W : World) (b o : Nat) (bs : List Int) : Prop := ∀ j y, bs[j]? = some y → W.cell? ⟨b, o + j, none⟩ = some (.int .u8 y)
theorem or_low (a x : Int) (ha : 0 ≤ a) (ha2 : a < 18446744073709551616) (hx : 0 ≤ x) (hx2 : x < 256) : bits .or .u64 (a * 256 % 18446744073709551616) x = a * 256 % 18446744073709551616 + x := by
 obtain ⟨n, rfl⟩ := Int.eq_ofNat_of_zero_le ha
 obtain ⟨y, rfl⟩ := Int.eq_ofNat_of_zero_le hx
 have hy : y < 2 ^ 8 := by omega
 have e : ((n : Int) * 256 % 18446744073709551616) = ((n % 72057594037927936 * 256 : Nat) : Int) := by omega
 rw [e, u64_or_nat _ _ (by omega) (by omega)]
 have := Nat.shiftLeft_add_eq_or_of_lt hy (n % 72057594037927936)
 rw [Nat.shiftLeft_eq] at this
 rw [← this]
 omega
theorem wrap_256 (a : Int) : IntKind.u64.wrap (a * 256) = a * 256 % 18446744073709551616 := by simp [IntKind.wrap, IntKind.bits, IntKind.signed]
theorem qED (l : List Int) (h : qBT l) : 0 ≤ valB l ∧ valB l < 256 ^ l.length := by
 have e := be_valB l.length l rfl h
 induction hn : l.length generalizing l with
 | zero => rw [List.length_eq_zero_iff.1 hn]; exact ⟨by decide, by decide⟩
 | succ m ih =>
  obtain ⟨l0, x, rfl⟩ : ∃ l0 x, l = l0 ++ [x] := ⟨l.dropLast, l.getLast (by intro e; simp [e] at hn), (List.dropLast_concat_getLast _).symm⟩
  have hb0 : qBT l0 := fun y hy => h y (by simp [hy])
  have hx := h x (by simp)
  have hm : l0.length = m := by simpa using hn
  have := ih l0 hb0 (be_valB l0.length l0 rfl hb0) hm
  rw [qCJ, Int.pow_succ]
  omega
theorem foldl_val (l : List Int) : ∀ a : Int, l.foldl (fun v x => v * 256 + x) a = a * 256 ^ l.length + valB l := by
 induction l with
 | nil => intro a; simp [valB]
 | cons x l ih =>
  intro a
  have e := ih (0 * 256 + x)
  show l.foldl (fun v x => v * 256 + x) (a * 256 + x) = a * 256 ^ (l.length + 1) + l.foldl (fun v x => v * 256 + x) (0 * 256 + x)
  rw [ih (a * 256 + x), e, Int.pow_succ, Int.add_mul, Int.mul_assoc, Int.mul_comm 256]
  simp [Int.add_assoc]
theorem valB_cons (x : Int) (l : List Int) (_ : qBT l) : valB (x :: l) = x * 256 ^ l.length + valB l := by
 have := foldl_val l x
 show l.foldl (fun v x => v * 256 + x) (0 * 256 + x) = _
 rw [show (0 : Int) * 256 + x = x by omega]; exact this
theorem qCT {bs r : List Int} {l : List InsD} (hl : ∀ x ∈ l, x.ok = true ∧ U64 x.b) (h4 : l.length ≤ 4096) (hbs : bs = encB l ++ r) (hr : r ≠ []) (hp : (qAY r).ok = false) : DecBad bs :=
 ⟨l, r, hl, h4, hbs, hr, fun x t hx hb e => by rw [e, qDh hx hb t, hx] at hp; cases hp⟩
theorem qDR {W W' : World} {N0 n sz : Nat} {E : TypeId} {v : Value} {xs : List Value} (h : W.ownsRow N0 E sz v n xs) (hB : Below W.heap.size W W') : W'.ownsRow N0 E sz v n xs := by
 refine ⟨h.1, ?_⟩
 rcases h.2 with r | ⟨g, cap, cur, hv, hb, hg, r⟩
 ·exact .inl r
 exact .inr ⟨g, cap, cur, hv, hb, (hB.block g (Array.getElem?_eq_some_iff.1 hg).1).trans hg, r⟩
def DecPost (bs : List Int) (w : World) (e : Ending) (w' : World) : Prop :=
 Below w.heap.size w w' ∧
  ((∃ l v, DecOk bs l ∧ e = .returned (.tuple #[v, .int .i64 0]) ∧ w'.ownsRow w.heap.size 51 4 v l.length (insC l)) ∨
    (DecBad bs ∧ e = .returned (.tuple #[.slice none 0 0, .int .i64 51])) ∨ (qEo bs ∧ e = .returned (.tuple #[.slice none 0 0, .int .i64 3])))
theorem decode_some (b o c : Nat) (bs : List Int) (w : World) (h : BytesAt w b o bs) (hb : b < w.heap.size) (hbs : qBT bs) (hc : bs.length ≤ c) :
  Calls Tryz.prog 39 #[.slice (some ⟨b, o, none⟩) bs.length c] w (DecPost bs w) := by
 have H := hid h
 have HBS := hid hbs
 clear h hbs
 go_enter Tryz.func39, Tryz.ntmps39
 go_wp2
 go_loopw [0, 4] (fun t v wr => ∃ (l : List InsD) (r : List Int) (p q c' : Nat), t = .slice (some ⟨b, q, none⟩) r.length c' ∧ (0 < r.length → q = o + p) ∧ r.length ≤ c' ∧ l.length ≤ 4096 ∧ p + r.length = bs.length ∧ Hid (bs.drop p = r ∧ bs = encB l ++ r ∧ (∀ x ∈ l, x.ok = true ∧ U64 x.b) ∧ wr.ownsRow w.heap.size 51 4 v l.length (insC l) ∧ Below w.heap.size w wr)) (fun t _ _ => slen t)
 case atStart => exact ⟨[], bs, 0, o, c, rfl, fun _ => rfl, hc, by simp, by simp, hid ⟨rfl, rfl, by simp, World.ownsRow_nil _ _ _ _, Below.refl _ _⟩⟩
 case round =>
  obtain ⟨l, r, p, q, c', rfl, hq, hrc, hl4, hp, hst⟩ := hrel
  obtain ⟨wo, rfl⟩ : ∃ wo, wo = wr := ⟨_, rfl⟩
  by_cases hlt : 0 < r.length
  rotate_left
  ·obtain rfl : r = [] := List.length_eq_zero_iff.1 (by omega)
   go_wp2
   go_ret2
   exact ⟨hst.out.2.2.2.2, .inl ⟨l, _, ⟨hst.out.2.2.1, hl4, by have := hst.out.2.1; rwa [List.append_nil] at this⟩, rfl, hst.out.2.2.2.1⟩⟩
  obtain rfl := hq hlt
  have hb0 : ∃ y, wo.cell? ⟨b, o + p, none⟩ = some (.int .u8 y) ∧ r.getD 0 0 = y ∧ 0 ≤ y ∧ y < 256 := by
   obtain ⟨y, hy⟩ : ∃ y, bs[p]? = some y := ⟨bs[p]'(by omega), List.getElem?_eq_getElem (by omega)⟩
   refine ⟨y, (hst.out.2.2.2.2.cell (p := ⟨b, o + p, none⟩) hb).trans (H.out p y hy), ?_, HBS.out y (List.mem_of_getElem? hy)⟩
   rw [← hst.out.1, List.getD_eq_getElem?_getD, List.getElem?_drop, Nat.add_zero, hy]; rfl
  obtain ⟨op, hop, hop2, hop0, hop1⟩ := hb0
  have hsz : (sizeI op = 0 ∨ ∃ s1 : Nat, sizeI op = ((s1 + 1 : Nat) : Int) ∧ s1 ≤ 9) := by
   unfold sizeI; split
   ·left; rfl
   right; unfold wid; split
   ·exact ⟨9, rfl, by omega⟩
   split
   ·exact ⟨1, rfl, by omega⟩
   split
   ·exact ⟨2, rfl, by omega⟩
   exact ⟨0, rfl, by omega⟩
  have HS := hid (fun W => size_ins op 0 0 0 W)
  unfold insV at HS
  have hbad : (sizeI op = 0 ∨ (r.length : Int) < sizeI op) → DecBad bs := fun hh => by
   refine ⟨l, r, hst.out.2.2.1, hl4, hst.out.2.1, by intro e; rw [e] at hlt; simp at hlt, fun x t hx _ e => ?_⟩
   obtain ⟨o1, o2⟩ := ok_op hx
   have hxo : x.op = op := by
    rw [← hop2, e]; unfold insB; simp only [List.cons_append, List.getD_cons_zero]; omega
   have hxl := qEj hx
   rw [hxo] at hxl
   have : (r.length : Int) = (insB x).length + t.length := by rw [e, List.length_append]; push_cast; rfl
   rcases hh with hh | hh
   ·rw [hh] at hxl; unfold insB at hxl; simp at hxl; omega
   omega
  have HBAD := hid hbad
  have HO2 := hid hop2
  clear hbad hop2
  rcases hsz with hsz | ⟨s1, hsz, hs9⟩
  ·have hbd := hid (HBAD.out (.inl hsz))
   rw [hsz] at HS
   clear HBAD hsz
   go_wp2_with fail
   refine (HS.out _).mono ?_
   rintro e w1 ⟨rfl, hb1⟩
   go_wp2
   go_ret2
   exact ⟨hst.out.2.2.2.2.trans (((Below.refl _ _).alloc (Nat.le_refl _) _).trans (hb1.mono (by simp)) |>.mono hst.out.2.2.2.2.size), .inr (.inl ⟨hbd.out, rfl⟩)⟩
  rw [hsz] at HS
  by_cases hshort : r.length < s1 + 1
  ·have hbd := hid (HBAD.out (.inr (by rw [hsz]; omega)))
   have hx1 : (((s1 + 1 : Nat) : Int) == 0) = false := beq_eq_false_iff_ne.mpr (by omega)
   have hx2 : decide ((r.length : Int) < ((s1 + 1 : Nat) : Int)) = true := by simp; omega
   clear HBAD hsz
   go_wp2_with fail
   refine (HS.out _).mono ?_
   rintro e w1 ⟨rfl, hb1⟩
   go_wp2
   all_goals go_ret2
   all_goals exact ⟨hst.out.2.2.2.2.trans (((Below.refl _ _).alloc (Nat.le_refl _) _).trans (hb1.mono (by simp)) |>.mono hst.out.2.2.2.2.size), .inr (.inl ⟨hbd.out, rfl⟩)⟩
  clear HBAD
  have hcl : ∀ j, j < s1 → ∃ y, wo.cell? ⟨b, o + p + 1 + j, none⟩ = some (.int .u8 y) ∧ 0 ≤ y ∧ y < 256 ∧ (r.drop 1).take (j + 1) = (r.drop 1).take j ++ [y] := fun j hj => by
   obtain ⟨y, hy⟩ : ∃ y, bs[p + 1 + j]? = some y := ⟨bs[p + 1 + j]'(by omega), List.getElem?_eq_getElem (by omega)⟩
   refine ⟨y, ?_, (HBS.out y (List.mem_of_getElem? hy)).1, (HBS.out y (List.mem_of_getElem? hy)).2, ?_⟩
   ·have := (hst.out.2.2.2.2.cell (p := ⟨b, o + (p + 1 + j), none⟩) hb).trans (H.out (p + 1 + j) y hy)
    rwa [show o + (p + 1 + j) = o + p + 1 + j by omega] at this
   have e : (r.drop 1)[j]? = some y := by rw [← hst.out.1, List.getElem?_drop, List.getElem?_drop, ← hy]; congr 1; omega
   rw [List.take_add_one, e]; rfl
  have HCL := hid hcl
  clear hcl
  have hx1 : (((s1 + 1 : Nat) : Int) == 0) = false := beq_eq_false_iff_ne.mpr (by omega)
  have hx2 : decide ((r.length : Int) < ((s1 + 1 : Nat) : Int)) = false := by simp; omega
  have hx3 : decide ((r.length : Int) < (s1 : Int) + 1) = false := by simp; omega
  by_cases hc1 : c' = 1
  ·subst hc1
   obtain rfl : s1 = 0 := by omega
   have h1 : op ≠ 1 := by
    intro e; subst e; have : sizeI 1 = 10 := rfl
    rw [this] at hsz; simp at hsz
   go_wp2_with fail
   refine (HS.out _).mono ?_
   rintro e w1 ⟨rfl, hb1⟩
   have hBr : Hid (Below wo.heap.size wo w1) := hid (((Below.refl _ _).alloc (Nat.le_refl _) _).trans (hb1.mono (by simp)))
   have hbo : b < wo.heap.size := Nat.lt_of_lt_of_le hb hst.out.2.2.2.2.size
   go_wp2
   go_loopw [7, 32] (fun v i W => ∃ j : Nat, j ≤ 0 ∧ i = .int .i64 (j : Int) ∧ v = .int .u64 (valB ((r.drop 1).take j) % 18446744073709551616) ∧ W = w1) (fun _ i _ => (0 - intOf i).toNat)
   case atStart => exact ⟨0, Nat.zero_le _, rfl, rfl, rfl⟩
   case round =>
    obtain ⟨j, hj, rfl, rfl, hW⟩ := hrel
    subst hW
    obtain rfl : j = 0 := by omega
    clear HCL
    have h1' : (op == 1) = false := beq_eq_false_iff_ne.mpr h1
    have hwN : widN op = 0 := by
     have : sizeI op = 1 + wid op := by
      unfold sizeI; rw [if_neg]; intro hh; unfold sizeI at hsz; rw [if_pos hh] at hsz; omega
     unfold widN; omega
    have hj2 : 0 ≤ 2 := by
     rw [← hwN]; unfold widN wid; rw [if_neg h1]; split
     ·decide
     split <;> decide
    have hdrop : r.drop 1 ≠ [] ∨ True := .inr trivial
    have hbyt : qBT ((r.drop 1).take 0) := fun x hx => HBS.out x (by
      have := List.mem_of_mem_drop (List.mem_of_mem_take hx); rw [← hst.out.1] at this; exact List.mem_of_mem_drop this)
    have hvl := qED _ hbyt
    have hlen : ((r.drop 1).take 0).length = 0 := by rw [List.length_take, List.length_drop]; omega
    rw [hlen] at hvl
    have hv65 : valB ((r.drop 1).take 0) < 65536 := by
     rw [List.take_zero]; decide
    have hP : qAY r = ⟨op, valB ((r.drop 1).take 0), 0, 0⟩ := by unfold qAY; rw [HO2.out, if_neg h1, hwN]
    have hv0 := hvl.1
    clear hvl hlen hbyt hdrop
    rw [show valB ((r.drop 1).take 0) % 18446744073709551616 = valB ((r.drop 1).take 0) by omega]
    generalize valB ((r.drop 1).take 0) = n at *
    have hwr : IntKind.i64.wrap n = n := by simp [IntKind.wrap, IntKind.bits, IntKind.signed]; omega
    have hrowB : wr.heap[wo.heap.size]? = some (.cells #[.int .i64 op, .int .i64 0, .int .i64 0, .int .u64 0] 51 (0, 0)) := (hb1.block wo.heap.size (by simp)).trans (World.alloc_heap_new wo _)
    have g0 : wr.cell? ⟨wo.heap.size, 0, none⟩ = some (.int .i64 op) := by simp [World.cell?, hrowB]
    have g1 : wr.cell? ⟨wo.heap.size, 1, none⟩ = some (.int .i64 0) := by simp [World.cell?, hrowB]
    have g2 : wr.cell? ⟨wo.heap.size, 2, none⟩ = some (.int .i64 0) := by simp [World.cell?, hrowB]
    have g3 : wr.cell? ⟨wo.heap.size, 3, none⟩ = some (.int .u64 0) := by simp [World.cell?, hrowB]
    have gf : wr.frozen? ⟨wo.heap.size, 1, none⟩ = false := by simp [World.frozen?, hrowB]
    have HR := hid (fun W => right_ins op n 0 0 ⟨by omega, by omega⟩ W)
    unfold insV at HR
    clear hrowB
    have HU : Hid (U64 0) := hid ⟨by omega, by omega⟩
    have HBX := hBr.out.setCell (p := ⟨wo.heap.size, 1, none⟩) (Nat.le_refl _) (.int .i64 n)
    obtain ⟨WW, hWW⟩ : ∃ WW, WW = wr.setCell ⟨wo.heap.size, 1, none⟩ (.int .i64 n) := ⟨_, rfl⟩
    rw [← hWW] at HBX
    have hwb : wo.heap.size < (wr.setCell ⟨wo.heap.size, 1, none⟩ (.int .i64 n)).heap.size := by have := hb1.size; simp at *; omega
    go_wp2_with fail
    subst hWW
    have HB2 := hid HBX
    have hbw : b < wo.heap.size := hbo
    refine (HR.out _).mono ?_
    rintro e w3 ⟨rfl, hb3⟩
    have hB3 : Below wo.heap.size wo w3 := HB2.out.trans (hb3.mono HB2.out.size)
    have hwl : wo.heap.size < w3.heap.size := by have := hBr.out.size; have := hb3.size; have := hb1.size; simp at *; omega
    have k0 : w3.cell? ⟨wo.heap.size, 0, none⟩ = some (.int .i64 op) := (hb3.cell (p := ⟨wo.heap.size, 0, none⟩) hwb).trans (by rw [World.cell?_setCell_other _ _ _ _ (by intro e; injection e with _ e; omega)]; exact g0)
    have k1 : w3.cell? ⟨wo.heap.size, 1, none⟩ = some (.int .i64 n) := (hb3.cell (p := ⟨wo.heap.size, 1, none⟩) hwb).trans (World.cell?_setCell_same _ _ _ g1)
    have k2 : w3.cell? ⟨wo.heap.size, 2, none⟩ = some (.int .i64 0) := (hb3.cell (p := ⟨wo.heap.size, 2, none⟩) hwb).trans (by rw [World.cell?_setCell_other _ _ _ _ (by intro e; injection e with _ e; omega)]; exact g2)
    have k3 : w3.cell? ⟨wo.heap.size, 3, none⟩ = some (.int .u64 0) := (hb3.cell (p := ⟨wo.heap.size, 3, none⟩) hwb).trans (by rw [World.cell?_setCell_other _ _ _ _ (by intro e; injection e with _ e; omega)]; exact g3)
    clear g0 g1 g2 g3 gf
    cases hok : okI op n 0 0 with
    | false =>
     have hbd := hid (qCT hst.out.2.2.1 hl4 hst.out.2.1 (by intro e; rw [e] at hlt; simp at hlt) (by rw [hP]; exact hok))
     have HB3 := hid hB3
     clear hb3 hB3
     go_wp2
     go_ret2
     exact ⟨hst.out.2.2.2.2.trans (HB3.out.mono hst.out.2.2.2.2.size), .inr (.inl ⟨hbd.out, rfl⟩)⟩
    | true =>
     obtain ⟨i0, hi, hz0, hz1, hz2⟩ := info_parts infoIns
     have hown3 := qDR hst.out.2.2.2.1 hB3
     have HB3 := hid hB3
     have hN3 : w.heap.size ≤ w3.heap.size := Nat.le_trans hst.out.2.2.2.2.size hB3.size
     clear hb3 hB3
     go_wp2_with (at_builtin; refine wpList_append_lies _ rfl _ _ 35 rfl w.heap.size 51 i0 _ 4 32 Tryz.underlying35 hi hz0 hz1 hz2 rfl (by decide) _ _ _ rfl (hown3.alloc _) ⟨w3.heap.size, 0, none⟩ 1 1 (qDt ⟨op, n, 0, 0⟩) rfl rfl (World.news_of_block (World.alloc_heap_new w3 _)) ?c2 ?c0 ?c3 ?c4 ?c5 _ rfl ?_)
     case c2 => intro u hu; simp only [qDt, List.mem_cons, List.not_mem_nil, or_false] at hu; rcases hu with rfl | rfl | rfl | rfl <;> rfl
     case c0 => omega
     case c3 => unfold maxLen; omega
     case c4 => omega
     case c5 => simp; omega
     intro g cap w4 hown4 hgrow hgg hlt4
     have hH4 : w4.ownsRow w.heap.size 51 4 (.slice (some ⟨g, 0, none⟩) (l.length + 1) cap) (l.length + 1) (insC (l ++ [⟨op, n, 0, 0⟩])) := by rw [qEz]; exact hown4
     have H4 := hid hH4
     have HB4 : Hid (Below w.heap.size w w4) := hid (((hst.out.2.2.2.2.trans (HB3.out.mono hst.out.2.2.2.2.size)).alloc hN3 _).grown hgrow (by simp; omega) (fun j hj => (hown3.lt j hj).1))
     clear hown4 hgrow hgg hlt4 hown3 hH4
     have hcat : bs = encB (l ++ [⟨op, n, 0, 0⟩]) ++ r.drop (0 + 1) := by
      have e := qDe r (fun x hx => HBS.out x (by rw [← hst.out.1] at hx; exact List.mem_of_mem_drop hx)) (by rw [HO2.out, hsz]; omega) (by rw [HO2.out, hsz]; omega) (by intro e; rw [e] at hlt; simp at hlt)
      rw [HO2.out, hsz, Int.toNat_natCast, hP] at e
      rw [qDv, List.append_assoc, e]; exact hst.out.2.1
     have hall : ∀ x ∈ l ++ [⟨op, n, 0, 0⟩], x.ok = true ∧ U64 x.b := fun x hx => by
      rcases List.mem_append.1 hx with hx | hx
      ·exact hst.out.2.2.1 x hx
      obtain rfl := List.mem_singleton.1 hx; exact ⟨hok, HU.out⟩
     have HCAT := hid hcat
     have HALL := hid hall
     clear hcat hall
     by_cases hbig : l.length = 4096
     ·have hbd : Hid (qEo bs) := hid ⟨_, _, HALL.out, by simp [hbig], HCAT.out⟩
      go_wp2
      all_goals first
       | (exfalso; omega)
       | (go_ret2; exact ⟨HB4.out, .inr (.inr ⟨hbd.out, rfl⟩)⟩)
     go_wp2
     all_goals first
      | (exfalso; omega)
      | (go_roundw
         case rel =>
           refine ⟨l ++ [⟨op, n, 0, 0⟩], r.drop (0 + 1), p + (0 + 1), o + p, 0, by rw [List.length_drop, show r.length - (0 + 1) = 0 by omega], fun hpos => by rw [List.length_drop] at hpos; omega, ?_, by simp; omega, by rw [List.length_drop]; omega, hid ⟨by rw [← List.drop_drop, hst.out.1], HCAT.out, HALL.out, by simpa using H4.out, HB4.out⟩⟩
           rw [List.length_drop]; omega
         case measure => simp [slen]; omega)
  go_wp2_with fail
  refine (HS.out _).mono ?_
  rintro e w1 ⟨rfl, hb1⟩
  have hBr : Hid (Below wo.heap.size wo w1) := hid (((Below.refl _ _).alloc (Nat.le_refl _) _).trans (hb1.mono (by simp)))
  have hbo : b < wo.heap.size := Nat.lt_of_lt_of_le hb hst.out.2.2.2.2.size
  go_wp2
  go_loopw [7, 32] (fun v i W => ∃ j : Nat, j ≤ s1 ∧ i = .int .i64 (j : Int) ∧ v = .int .u64 (valB ((r.drop 1).take j) % 18446744073709551616) ∧ W = w1) (fun _ i _ => (s1 - intOf i).toNat)
  case atStart => exact ⟨0, Nat.zero_le _, rfl, rfl, rfl⟩
  case round =>
   obtain ⟨j, hj, rfl, rfl, hW⟩ := hrel
   subst hW
   by_cases hjl : j < s1
   ·obtain ⟨y, hy, hy0, hy1, hyt⟩ := HCL.out j hjl
    have hyc := (hBr.out.cell (p := ⟨b, o + p + 1 + j, none⟩) hbo).trans hy
    have hval : valB ((r.drop 1).take (j + 1)) % 18446744073709551616 = (valB ((r.drop 1).take j) % 18446744073709551616) * 256 % 18446744073709551616 + y := by rw [hyt, qCJ]; omega
    have HV := hid hval
    clear hval hyt hy
    have ha0 : 0 ≤ valB ((r.drop 1).take j) % 18446744073709551616 := by omega
    have ha1 : valB ((r.drop 1).take j) % 18446744073709551616 < 18446744073709551616 := by omega
    generalize valB ((r.drop 1).take j) % 18446744073709551616 = a at *
    have hor := or_low a y ha0 ha1 hy0 hy1
    go_wp2
    exact ⟨⟨j + 1, by omega, by simp, by rw [wrap_256 a, hor, HV.out], trivial⟩, by simp [intOf]; omega⟩
   obtain rfl : j = s1 := by omega
   by_cases h1 : op = 1
   rotate_left
   ·clear HCL
    have h1' : (op == 1) = false := beq_eq_false_iff_ne.mpr h1
    have hwN : widN op = j := by
     have : sizeI op = 1 + wid op := by
      unfold sizeI; rw [if_neg]; intro hh; unfold sizeI at hsz; rw [if_pos hh] at hsz; omega
     unfold widN; omega
    have hj2 : j ≤ 2 := by
     rw [← hwN]; unfold widN wid; rw [if_neg h1]; split
     ·decide
     split <;> decide
    have hdrop : r.drop 1 ≠ [] ∨ True := .inr trivial
    have hbyt : qBT ((r.drop 1).take j) := fun x hx => HBS.out x (by
      have := List.mem_of_mem_drop (List.mem_of_mem_take hx); rw [← hst.out.1] at this; exact List.mem_of_mem_drop this)
    have hvl := qED _ hbyt
    have hlen : ((r.drop 1).take j).length = j := by rw [List.length_take, List.length_drop]; omega
    rw [hlen] at hvl
    have hv65 : valB ((r.drop 1).take j) < 65536 := by
     rcases (by omega : j = 0 ∨ j = 1 ∨ j = 2) with e | e | e <;> rw [e] at hvl ⊢ <;> simp at hvl ⊢ <;> omega
    have hP : qAY r = ⟨op, valB ((r.drop 1).take j), 0, 0⟩ := by unfold qAY; rw [HO2.out, if_neg h1, hwN]
    have hv0 := hvl.1
    clear hvl hlen hbyt hdrop
    rw [show valB ((r.drop 1).take j) % 18446744073709551616 = valB ((r.drop 1).take j) by omega]
    generalize valB ((r.drop 1).take j) = n at *
    have hwr : IntKind.i64.wrap n = n := by simp [IntKind.wrap, IntKind.bits, IntKind.signed]; omega
    have hrowB : wr.heap[wo.heap.size]? = some (.cells #[.int .i64 op, .int .i64 0, .int .i64 0, .int .u64 0] 51 (0, 0)) := (hb1.block wo.heap.size (by simp)).trans (World.alloc_heap_new wo _)
    have g0 : wr.cell? ⟨wo.heap.size, 0, none⟩ = some (.int .i64 op) := by simp [World.cell?, hrowB]
    have g1 : wr.cell? ⟨wo.heap.size, 1, none⟩ = some (.int .i64 0) := by simp [World.cell?, hrowB]
    have g2 : wr.cell? ⟨wo.heap.size, 2, none⟩ = some (.int .i64 0) := by simp [World.cell?, hrowB]
    have g3 : wr.cell? ⟨wo.heap.size, 3, none⟩ = some (.int .u64 0) := by simp [World.cell?, hrowB]
    have gf : wr.frozen? ⟨wo.heap.size, 1, none⟩ = false := by simp [World.frozen?, hrowB]
    have HR := hid (fun W => right_ins op n 0 0 ⟨by omega, by omega⟩ W)
    unfold insV at HR
    clear hrowB
    have HU : Hid (U64 0) := hid ⟨by omega, by omega⟩
    have HBX := hBr.out.setCell (p := ⟨wo.heap.size, 1, none⟩) (Nat.le_refl _) (.int .i64 n)
    obtain ⟨WW, hWW⟩ : ∃ WW, WW = wr.setCell ⟨wo.heap.size, 1, none⟩ (.int .i64 n) := ⟨_, rfl⟩
    rw [← hWW] at HBX
    have hwb : wo.heap.size < (wr.setCell ⟨wo.heap.size, 1, none⟩ (.int .i64 n)).heap.size := by have := hb1.size; simp at *; omega
    go_wp2_with fail
    subst hWW
    have HB2 := hid HBX
    have hbw : b < wo.heap.size := hbo
    refine (HR.out _).mono ?_
    rintro e w3 ⟨rfl, hb3⟩
    have hB3 : Below wo.heap.size wo w3 := HB2.out.trans (hb3.mono HB2.out.size)
    have hwl : wo.heap.size < w3.heap.size := by have := hBr.out.size; have := hb3.size; have := hb1.size; simp at *; omega
    have k0 : w3.cell? ⟨wo.heap.size, 0, none⟩ = some (.int .i64 op) := (hb3.cell (p := ⟨wo.heap.size, 0, none⟩) hwb).trans (by rw [World.cell?_setCell_other _ _ _ _ (by intro e; injection e with _ e; omega)]; exact g0)
    have k1 : w3.cell? ⟨wo.heap.size, 1, none⟩ = some (.int .i64 n) := (hb3.cell (p := ⟨wo.heap.size, 1, none⟩) hwb).trans (World.cell?_setCell_same _ _ _ g1)
    have k2 : w3.cell? ⟨wo.heap.size, 2, none⟩ = some (.int .i64 0) := (hb3.cell (p := ⟨wo.heap.size, 2, none⟩) hwb).trans (by rw [World.cell?_setCell_other _ _ _ _ (by intro e; injection e with _ e; omega)]; exact g2)
    have k3 : w3.cell? ⟨wo.heap.size, 3, none⟩ = some (.int .u64 0) := (hb3.cell (p := ⟨wo.heap.size, 3, none⟩) hwb).trans (by rw [World.cell?_setCell_other _ _ _ _ (by intro e; injection e with _ e; omega)]; exact g3)
    clear g0 g1 g2 g3 gf
    cases hok : okI op n 0 0 with
    | false =>
     have hbd := hid (qCT hst.out.2.2.1 hl4 hst.out.2.1 (by intro e; rw [e] at hlt; simp at hlt) (by rw [hP]; exact hok))
     have HB3 := hid hB3
     clear hb3 hB3
     go_wp2
     go_ret2
     exact ⟨hst.out.2.2.2.2.trans (HB3.out.mono hst.out.2.2.2.2.size), .inr (.inl ⟨hbd.out, rfl⟩)⟩
    | true =>
     obtain ⟨i0, hi, hz0, hz1, hz2⟩ := info_parts infoIns
     have hown3 := qDR hst.out.2.2.2.1 hB3
     have HB3 := hid hB3
     have hN3 : w.heap.size ≤ w3.heap.size := Nat.le_trans hst.out.2.2.2.2.size hB3.size
     clear hb3 hB3
     go_wp2_with (at_builtin; refine wpList_append_lies _ rfl _ _ 35 rfl w.heap.size 51 i0 _ 4 32 Tryz.underlying35 hi hz0 hz1 hz2 rfl (by decide) _ _ _ rfl (hown3.alloc _) ⟨w3.heap.size, 0, none⟩ 1 1 (qDt ⟨op, n, 0, 0⟩) rfl rfl (World.news_of_block (World.alloc_heap_new w3 _)) ?c2 ?c0 ?c3 ?c4 ?c5 _ rfl ?_)
     case c2 => intro u hu; simp only [qDt, List.mem_cons, List.not_mem_nil, or_false] at hu; rcases hu with rfl | rfl | rfl | rfl <;> rfl
     case c0 => omega
     case c3 => unfold maxLen; omega
     case c4 => omega
     case c5 => simp; omega
     intro g cap w4 hown4 hgrow hgg hlt4
     have hH4 : w4.ownsRow w.heap.size 51 4 (.slice (some ⟨g, 0, none⟩) (l.length + 1) cap) (l.length + 1) (insC (l ++ [⟨op, n, 0, 0⟩])) := by rw [qEz]; exact hown4
     have H4 := hid hH4
     have HB4 : Hid (Below w.heap.size w w4) := hid (((hst.out.2.2.2.2.trans (HB3.out.mono hst.out.2.2.2.2.size)).alloc hN3 _).grown hgrow (by simp; omega) (fun j hj => (hown3.lt j hj).1))
     clear hown4 hgrow hgg hlt4 hown3 hH4
     have hcat : bs = encB (l ++ [⟨op, n, 0, 0⟩]) ++ r.drop (j + 1) := by
      have e := qDe r (fun x hx => HBS.out x (by rw [← hst.out.1] at hx; exact List.mem_of_mem_drop hx)) (by rw [HO2.out, hsz]; omega) (by rw [HO2.out, hsz]; omega) (by intro e; rw [e] at hlt; simp at hlt)
      rw [HO2.out, hsz, Int.toNat_natCast, hP] at e
      rw [qDv, List.append_assoc, e]; exact hst.out.2.1
     have hall : ∀ x ∈ l ++ [⟨op, n, 0, 0⟩], x.ok = true ∧ U64 x.b := fun x hx => by
      rcases List.mem_append.1 hx with hx | hx
      ·exact hst.out.2.2.1 x hx
      obtain rfl := List.mem_singleton.1 hx; exact ⟨hok, HU.out⟩
     have HCAT := hid hcat
     have HALL := hid hall
     clear hcat hall
     by_cases hbig : l.length = 4096
     ·have hbd : Hid (qEo bs) := hid ⟨_, _, HALL.out, by simp [hbig], HCAT.out⟩
      go_wp2
      all_goals first
       | (exfalso; omega)
       | (go_ret2; exact ⟨HB4.out, .inr (.inr ⟨hbd.out, rfl⟩)⟩)
     go_wp2
     all_goals first
      | (exfalso; omega)
      | (go_roundw
         case rel =>
           refine ⟨l ++ [⟨op, n, 0, 0⟩], r.drop (j + 1), p + (j + 1), (if c' = j + 1 then o + p else o + p + (j + 1)), c' - (j + 1), by rw [List.length_drop]; split <;> rfl, fun hpos => by rw [if_neg (by rw [List.length_drop] at hpos; omega)]; omega, ?_, by simp; omega, by rw [List.length_drop]; omega, hid ⟨by rw [← List.drop_drop, hst.out.1], HCAT.out, HALL.out, by simpa using H4.out, HB4.out⟩⟩
           rw [List.length_drop]; omega
         case measure => simp [slen]; omega)
   subst h1
   obtain rfl : j = 9 := by
    have : sizeI 1 = 10 := rfl
    rw [this] at hsz; omega
   obtain ⟨ty, hty, hty0, hty1, htyt⟩ := HCL.out 0 (by omega)
   have htc := (hBr.out.cell (p := ⟨b, o + p + 1 + 0, none⟩) hbo).trans hty
   rw [Nat.add_zero] at htc
   have hbyt : qBT (r.drop 1) := fun x hx => HBS.out x (by
     have := List.mem_of_mem_drop hx; rw [← hst.out.1] at this; exact List.mem_of_mem_drop this)
   have hr1 : r.drop 1 = ty :: r.drop 2 := by
    have h0 : (r.drop 1)[0]? = some ty := by
     have := congrArg (fun l => l[0]?) htyt
     simpa using this
    rw [show r.drop 2 = (r.drop 1).drop 1 from by rw [List.drop_drop]]
    cases hd : r.drop 1 with
    | nil => rw [hd] at h0; simp at h0
    | cons y t => rw [hd] at h0; simp at h0; rw [h0]; simp
   have hg1 : r.getD 1 0 = ty := by
    have h0 : r[1]? = some ty := by
     have := congrArg (fun l => l[0]?) hr1
     simpa [List.getElem?_drop] using this
    rw [List.getD_eq_getElem?_getD, h0]; rfl
   have hb8 : qBT ((r.drop 2).take 8) := fun x hx => hbyt x (by rw [hr1]; exact List.mem_cons_of_mem _ (List.mem_of_mem_take hx))
   have hl8 : ((r.drop 2).take 8).length = 8 := by rw [List.length_take, List.length_drop]; omega
   have hvl := qED _ hb8
   rw [hl8] at hvl
   have hv9 : valB ((r.drop 1).take 9) % 18446744073709551616 = valB ((r.drop 2).take 8) := by
    rw [hr1, List.take_succ_cons, valB_cons _ _ hb8, hl8]
    have e : (256 : Int) ^ 8 = 18446744073709551616 := by decide
    rw [e] at hvl ⊢
    omega
   rw [hv9]
   have hP : qAY r = ⟨1, 0, ty, valB ((r.drop 2).take 8)⟩ := by unfold qAY; rw [HO2.out, if_pos rfl, hg1]
   have hU : U64 (valB ((r.drop 2).take 8)) := ⟨hvl.1, by have := hvl.2; simpa using this⟩
   clear hvl hv9 hl8 hb8 hg1 hr1 hbyt htyt hty HCL
   generalize valB ((r.drop 2).take 8) = n at *
   have HU := hid hU
   have hrowB : wr.heap[wo.heap.size]? = some (.cells #[.int .i64 1, .int .i64 0, .int .i64 0, .int .u64 0] 51 (0, 0)) := (hb1.block wo.heap.size (by simp)).trans (World.alloc_heap_new wo _)
   have g0 : wr.cell? ⟨wo.heap.size, 0, none⟩ = some (.int .i64 1) := by simp [World.cell?, hrowB]
   have g1 : wr.cell? ⟨wo.heap.size, 1, none⟩ = some (.int .i64 0) := by simp [World.cell?, hrowB]
   have g2 : wr.cell? ⟨wo.heap.size, 2, none⟩ = some (.int .i64 0) := by simp [World.cell?, hrowB]
   have g3 : wr.cell? ⟨wo.heap.size, 3, none⟩ = some (.int .u64 0) := by simp [World.cell?, hrowB]
   have gf2 : wr.frozen? ⟨wo.heap.size, 2, none⟩ = false := by simp [World.frozen?, hrowB]
   have gf3 : wr.frozen? ⟨wo.heap.size, 3, none⟩ = false := by simp [World.frozen?, hrowB]
   have HR := hid (fun W => right_ins 1 0 ty n hU W)
   unfold insV at HR
   clear hrowB hU
   have HBX := (hBr.out.setCell (p := ⟨wo.heap.size, 2, none⟩) (Nat.le_refl _) (.int .i64 ty)).setCell (p := ⟨wo.heap.size, 3, none⟩) (Nat.le_refl _) (.int .u64 n)
   have hwb : wo.heap.size < ((wr.setCell ⟨wo.heap.size, 2, none⟩ (.int .i64 ty)).setCell ⟨wo.heap.size, 3, none⟩ (.int .u64 n)).heap.size := by have := hb1.size; simp at *; omega
   go_wp2_with fail
   have HB2 := hid HBX
   have hbw : b < wo.heap.size := hbo
   refine (HR.out _).mono ?_
   rintro e w3 ⟨rfl, hb3⟩
   have hB3 : Below wo.heap.size wo w3 := HB2.out.trans (hb3.mono HB2.out.size)
   have hwl : wo.heap.size < w3.heap.size := by have := hBr.out.size; have := hb3.size; have := hb1.size; simp at *; omega
   have k0 : w3.cell? ⟨wo.heap.size, 0, none⟩ = some (.int .i64 1) := (hb3.cell (p := ⟨wo.heap.size, 0, none⟩) hwb).trans (by rw [World.cell?_setCell_other _ _ _ _ (by intro e; injection e with _ e; omega), World.cell?_setCell_other _ _ _ _ (by intro e; injection e with _ e; omega)]; exact g0)
   have k1 : w3.cell? ⟨wo.heap.size, 1, none⟩ = some (.int .i64 0) := (hb3.cell (p := ⟨wo.heap.size, 1, none⟩) hwb).trans (by rw [World.cell?_setCell_other _ _ _ _ (by intro e; injection e with _ e; omega), World.cell?_setCell_other _ _ _ _ (by intro e; injection e with _ e; omega)]; exact g1)
   have k2 : w3.cell? ⟨wo.heap.size, 2, none⟩ = some (.int .i64 ty) := (hb3.cell (p := ⟨wo.heap.size, 2, none⟩) hwb).trans (by rw [World.cell?_setCell_other _ _ _ _ (by intro e; injection e with _ e; omega)]; exact World.cell?_setCell_same _ _ _ g2)
   have k3 : w3.cell? ⟨wo.heap.size, 3, none⟩ = some (.int .u64 n) := (hb3.cell (p := ⟨wo.heap.size, 3, none⟩) hwb).trans (World.cell?_setCell_same _ _ _ (u := .int .u64 0) (by rw [World.cell?_setCell_other _ _ _ _ (by intro e; injection e with _ e; omega)]; exact g3))
   clear g0 g1 g2 g3 gf2 gf3
   cases hok : okI 1 0 ty n with
   | false =>
    have hbd := hid (qCT hst.out.2.2.1 hl4 hst.out.2.1 (by intro e; rw [e] at hlt; simp at hlt) (by rw [hP]; exact hok))
    have HB3 := hid hB3
    clear hb3 hB3
    go_wp2
    go_ret2
    exact ⟨hst.out.2.2.2.2.trans (HB3.out.mono hst.out.2.2.2.2.size), .inr (.inl ⟨hbd.out, rfl⟩)⟩
   | true =>
    obtain ⟨i0, hi, hz0, hz1, hz2⟩ := info_parts infoIns
    have hown3 := qDR hst.out.2.2.2.1 hB3
    have HB3 := hid hB3
    have hN3 : w.heap.size ≤ w3.heap.size := Nat.le_trans hst.out.2.2.2.2.size hB3.size
    clear hb3 hB3
    go_wp2_with (at_builtin; refine wpList_append_lies _ rfl _ _ 35 rfl w.heap.size 51 i0 _ 4 32 Tryz.underlying35 hi hz0 hz1 hz2 rfl (by decide) _ _ _ rfl (hown3.alloc _) ⟨w3.heap.size, 0, none⟩ 1 1 (qDt ⟨1, 0, ty, n⟩) rfl rfl (World.news_of_block (World.alloc_heap_new w3 _)) ?c2 ?c0 ?c3 ?c4 ?c5 _ rfl ?_)
    case c2 => intro u hu; simp only [qDt, List.mem_cons, List.not_mem_nil, or_false] at hu; rcases hu with rfl | rfl | rfl | rfl <;> rfl
    case c0 => omega
    case c3 => unfold maxLen; omega
    case c4 => omega
    case c5 => simp; omega
    intro g cap w4 hown4 hgrow hgg hlt4
    have hH4 : w4.ownsRow w.heap.size 51 4 (.slice (some ⟨g, 0, none⟩) (l.length + 1) cap) (l.length + 1) (insC (l ++ [⟨1, 0, ty, n⟩])) := by rw [qEz]; exact hown4
    have H4 := hid hH4
    have HB4 : Hid (Below w.heap.size w w4) := hid (((hst.out.2.2.2.2.trans (HB3.out.mono hst.out.2.2.2.2.size)).alloc hN3 _).grown hgrow (by simp; omega) (fun j hj => (hown3.lt j hj).1))
    clear hown4 hgrow hgg hlt4 hown3 hH4
    have hcat : bs = encB (l ++ [⟨1, 0, ty, n⟩]) ++ r.drop (9 + 1) := by
     have e := qDe r (fun x hx => HBS.out x (by rw [← hst.out.1] at hx; exact List.mem_of_mem_drop hx)) (by rw [HO2.out, hsz]; omega) (by rw [HO2.out, hsz]; omega) (by intro e; rw [e] at hlt; simp at hlt)
     rw [HO2.out, hsz, Int.toNat_natCast, hP] at e
     rw [qDv, List.append_assoc, e]; exact hst.out.2.1
    have hall : ∀ x ∈ l ++ [⟨1, 0, ty, n⟩], x.ok = true ∧ U64 x.b := fun x hx => by
     rcases List.mem_append.1 hx with hx | hx
     ·exact hst.out.2.2.1 x hx
     obtain rfl := List.mem_singleton.1 hx; exact ⟨hok, HU.out⟩
    have HCAT := hid hcat
    have HALL := hid hall
    clear hcat hall
    by_cases hbig : l.length = 4096
    ·have hbd : Hid (qEo bs) := hid ⟨_, _, HALL.out, by simp [hbig], HCAT.out⟩
     go_wp2
     all_goals first
      | (exfalso; omega)
      | (go_ret2; exact ⟨HB4.out, .inr (.inr ⟨hbd.out, rfl⟩)⟩)
    go_wp2
    all_goals first
     | (exfalso; omega)
     | (go_roundw
        case rel =>
          refine ⟨l ++ [⟨1, 0, ty, n⟩], r.drop (9 + 1), p + (9 + 1), (if c' = 9 + 1 then o + p else o + p + (9 + 1)), c' - (9 + 1), by rw [List.length_drop]; split <;> rfl, fun hpos => by rw [if_neg (by rw [List.length_drop] at hpos; omega)]; omega, ?_, by simp; omega, by rw [List.length_drop]; omega, hid ⟨by rw [← List.drop_drop, hst.out.1], HCAT.out, HALL.out, by simpa using H4.out, HB4.out⟩⟩
          rw [List.length_drop]; omega
        case measure => simp [slen]; omega)
end Dec
end
section
namespace Q
open Go.RowKit YA YC YB
open Val Enc DecLaw Dec
def toS (x : InsD) : S51 := ⟨x.op, x.n, ⟨x.ty, x.b⟩⟩
def decL : Nat → List InsD → List Int → List InsD × Int
 | 0, _, _ => ([], 51)
 | k + 1, l, r =>
  if r = [] then (l, 0)
  else if (qAY r).ok = true ∧ 0 ≤ (qAY r).b ∧ (qAY r).b < 18446744073709551616 ∧ r = insB (qAY r) ++ r.drop (insB (qAY r)).length then
   (if l.length = 4096 then ([], 3) else decL k (l ++ [qAY r]) (r.drop (insB (qAY r)).length))
  else ([], 51)
theorem qEv (bs : List Int) : ∀ (k : Nat) (l : List InsD) (r : List Int), r.length < k → (∀ x ∈ l, x.ok = true ∧ U64 x.b) → l.length ≤ 4096 → bs = encB l ++ r →
  (∃ m, decL k l r = (m, 0) ∧ DecOk bs m) ∨ (decL k l r = ([], 51) ∧ DecBad bs) ∨ (decL k l r = ([], 3) ∧ qEo bs) := by
 intro k
 induction k with
 | zero => intro l r hk; omega
 | succ k ih =>
  intro l r hk hl h4 hbs
  unfold decL
  by_cases hr : r = []
  ·subst hr
   rw [if_pos rfl]
   exact .inl ⟨l, rfl, hl, h4, by rw [hbs, List.append_nil]⟩
  rw [if_neg hr]
  by_cases hp : (qAY r).ok = true ∧ 0 ≤ (qAY r).b ∧ (qAY r).b < 18446744073709551616 ∧ r = insB (qAY r) ++ r.drop (insB (qAY r)).length
  rotate_left
  ·rw [if_neg hp]
   refine .inr (.inl ⟨rfl, l, r, hl, h4, hbs, hr, fun x t hx hu he => hp ?_⟩)
   have := qDh hx hu t
   rw [← he] at this
   rw [this]
   exact ⟨hx, hu.1, hu.2, by rw [he, List.drop_append_of_le_length (Nat.le_refl _), List.drop_length, List.nil_append]⟩
  rw [if_pos hp]
  have hx : ∀ x ∈ l ++ [qAY r], x.ok = true ∧ U64 x.b := fun x hx => by
   rcases List.mem_append.1 hx with hx | hx
   ·exact hl x hx
   obtain rfl := List.mem_singleton.1 hx; exact ⟨hp.1, hp.2.1, hp.2.2.1⟩
  have hcat : bs = encB (l ++ [qAY r]) ++ r.drop (insB (qAY r)).length := by rw [qDv, List.append_assoc, ← hp.2.2.2]; exact hbs
  by_cases hb : l.length = 4096
  ·rw [if_pos hb]
   exact .inr (.inr ⟨rfl, _, _, hx, by simp [hb], hcat⟩)
  rw [if_neg hb]
  refine ih _ _ ?_ hx (by simp; omega) hcat
  have : 0 < (insB (qAY r)).length := by unfold insB; simp
  have : 0 < r.length := List.length_pos_iff.2 hr
  rw [List.length_drop]; omega
def qAB.f (l0 : List Int) : Option ((List (S51)) × Int) :=
 if l0.all (fun x => decide (0 ≤ x ∧ x < 256)) = true then some ((decL (l0.length + 1) [] l0).1.map toS, (decL (l0.length + 1) [] l0).2) else none
theorem decode_nil2 (A : Option Addr) (c : Nat) (w : World) : Calls Tryz.prog 39 #[.slice A 0 c] w fun e w' => e = .returned (.tuple #[.slice none 0 0, .int .i64 0]) ∧ w' = w := by
 go_enter Tryz.func39, Tryz.ntmps39
 go_wp2
 go_loopw [0, 4] (fun t v wr => t = .slice A 0 c ∧ v = .slice none 0 0 ∧ wr = w) (fun _ _ _ => 0)
 case atStart => exact ⟨rfl, rfl, rfl⟩
 case round =>
  obtain ⟨rfl, rfl, rfl⟩ := hrel
  go_wp2
  go_ret2
  exact ⟨rfl, rfl⟩
theorem reps_ins (w : World) (base : Nat) (ok : Nat → Prop) : ∀ l : List InsD, Reps (k51.M w base ok) 4 (l.map toS) (insC l) := by
 intro l
 induction l with
 | nil => exact Reps.none _ _
 | cons x l ih =>
  have h1 : Reps (k51.M w base ok) 4 ([] ++ [toS x]) ([] ++ qDt x) := Reps.snoc (Reps.none _ _) (qCW w base ok (toS x)) rfl
  exact Kd.reps_append h1 ih
theorem qAB.calls (A0 : Option Addr) (c0 : Nat) (l0 : List Int) (r1 : List (S51)) (r2 : Int) (w : World) (hr0 : Kd.C (Kd.int .u8) w A0 l0.length l0) (hc0 : l0.length ≤ c0) (h : qAB.f l0 = some (r1, r2)) :
  Calls Tryz.prog 39 #[.slice A0 l0.length c0] w fun e w' => ∃ v0_ : Value, e = .returned (.tuple #[v0_, .int .i64 r2]) ∧ Kd.R k51 51 w' w.heap.size (fun _ => True) v0_ r1 ∧ Below w.heap.size w w' := by
 unfold qAB.f at h
 split at h
 case isFalse => cases h
 rename_i hb
 have hbs : qBT l0 := fun x hx => by simpa using List.all_eq_true.1 hb x hx
 simp only [Option.some.injEq, Prod.mk.injEq] at h
 obtain ⟨h1, h2⟩ := h
 have hsp := qEv l0 (l0.length + 1) [] l0 (by omega) (by simp) (by simp) (by simp [encB])
 have hD : Calls Tryz.prog 39 #[.slice A0 l0.length c0] w (DecPost l0 w) := by
  rcases Nat.eq_zero_or_pos l0.length with hz | hp
  ·obtain rfl := List.length_eq_zero_iff.1 hz
   exact (decode_nil2 A0 c0 w).mono fun e w' ⟨he, hw⟩ => ⟨hw ▸ Below.refl _ _, .inl ⟨[], _, ⟨by simp, by simp, rfl⟩, he, World.ownsRow_nil _ _ _ _⟩⟩
  obtain ⟨ad, had, hcell⟩ := hr0.2.2 hp
  subst had
  obtain ⟨b, o, s⟩ := ad
  have hat : ∀ j y, l0[j]? = some y → w.cell? (Addr.add ⟨b, o, s⟩ j) = some (.int .u8 y) := fun j y hj => by
   obtain ⟨cs, _, hK, hcc⟩ := hcell j y hj
   obtain rfl : cs = [Value.int .u8 y] := hK
   have h2 := hcc 0 _ rfl
   rw [show j * (Kd.int .u8).sz + 0 = j from Nat.mul_one j] at h2
   exact h2
  obtain ⟨y0, hy0⟩ : ∃ y, l0[0]? = some y := ⟨l0[0], List.getElem?_eq_getElem hp⟩
  have h0 := hat 0 y0 hy0
  have hlt := World.block_lt_of_cell? w _ h0
  have hadd : ∀ j, Addr.add ⟨b, o, none⟩ j = ⟨b, o + j, none⟩ := fun j => by by_cases hj : j = 0 <;> simp [Addr.add, hj]
  obtain rfl : s = none := by
   cases s with
   | none => rfl
   | some k =>
    simp only [Addr.add, World.cell?] at h0
    split at h0 <;> simp at h0
  exact decode_some b o c0 l0 w (fun j y hj => by have := hat j y hj; rw [hadd] at this; exact this) (by rw [hadd] at hlt; exact hlt) hbs hc0
 refine hD.mono fun e w' hP => ?_
 obtain ⟨hB, hP⟩ := hP
 rcases hP with ⟨l, v, hok, he, hown⟩ | ⟨hbad, he⟩ | ⟨hbig, he⟩
 ·rcases hsp with ⟨m, hm, hok2⟩ | ⟨_, hb2⟩ | ⟨_, hb2⟩
  ·obtain rfl := ok_ok hok hok2
   rw [hm] at h1 h2
   subst h1; subst h2
   exact ⟨v, he, ⟨fun _ _ => trivial, insC l, by rw [List.length_map]; exact hown, reps_ins _ _ _ l⟩, hB⟩
  ·exact (ok_bad hok hb2).elim
  ·exact (ok_big hok hb2).elim
 ·rcases hsp with ⟨m, hm, hok2⟩ | ⟨hm, _⟩ | ⟨_, hb2⟩
  ·exact (ok_bad hok2 hbad).elim
  ·rw [hm] at h1 h2
   subst h1; subst h2
   exact ⟨_, he, Kd.R_nil _ _ _ _ _, hB⟩
  ·exact (big_bad hb2 hbad).elim
 ·rcases hsp with ⟨m, hm, hok2⟩ | ⟨hm, hb2⟩ | ⟨hm, _⟩
  ·exact (ok_big hok2 hbig).elim
  ·exact (big_bad hbig hb2).elim
  ·rw [hm] at h1 h2
   subst h1; subst h2
   exact ⟨_, he, Kd.R_nil _ _ _ _ _, hB⟩
end Q
end
end Go.Proofs.YtfddibbignedkaaGreatDoor
