/- The texts of floats and of an instruction, the program's and the document's. -/
import Derived.Test.YtfddibbignedkaaGreatDoorA3
import Derived.Deep.Cut
import Derived.Deep.LoopGhost
import Derived.Shelf.Strings.Builder1
import Derived.Shelf.Small.Strs
import Derived.Shelf.Strings.BuilderF
import Derived.Shelf.Strings.BuilderK
import Derived.Shelf.Strconv.Itoa0
import Derived.Shelf.Strconv.Itoa1
import Derived.Shelf.LaysM
import Derived.Shelf.Strconv.Itoa2
import Derived.Shelf.Strconv.Itoa3
import Derived.Shelf.Strconv.Itoa4
import Derived.Shelf.Strings.Search1
import Derived.Shelf.Strings.Fields
import Derived.Shelf.Unicode.Latin
import Derived.Shelf.Bits.Mul64
import Derived.Shelf.Unicode.Is16White
import Derived.Shelf.Unicode.IsSpaceAny
import Derived.Shelf.Unicode.Is16WhiteD
import Derived.Shelf.Unicode.IsSpaceAnyD
import Derived.Shelf.Strings.FieldsAny
import Derived.Shelf.Strings.FieldsFuncAny
import Derived.Shelf.Unicode.Is16Any
import Derived.Shelf.Unicode.Is32Any
import Derived.Shelf.Unicode.ExclAny
import Derived.Test.YtfddibbignedkaaGreatDoorProg
import Derived.Lib.SmallJoins
import Derived.Lib.AppendIntMem
set_option maxHeartbeats 8000000
set_option maxRecDepth 100000
set_option linter.unusedVariables false
set_option linter.unusedSimpArgs false
namespace Go.Proofs.YtfddibbignedkaaGreatDoor
section
namespace Q
open Go.RowKit YA YC YB
attribute [local go_sem] max2_int min2_int max_two min_two max_three min_three max_four min_four
def qAI.f (a0_0 : Int) (a0_1 : Int) (a1_0 : Int) (a1_1 : Int) : Option (Bool) := if a0_0 = a1_0 then (some (a0_1 == a1_1)) else (some false)
theorem qAI.calls (a0_0 : Int) (a0_1 : Int) (a1_0 : Int) (a1_1 : Int) (r : Bool) (w : World) (h : qAI.f a0_0 a0_1 a1_0 a1_1 = some r) :
  Calls Tryz.prog 58 #[.agg #[.int .i64 a0_0, .int .u64 a0_1], .agg #[.int .i64 a1_0, .int .u64 a1_1]] w fun e w' => e = .returned (.bool r) ∧ Below w.heap.size w w' := by
 have hu48 := Tryz.underlying48
 have HB := am (Below.refl w.heap.size w)
 have H : (if a0_0 = a1_0 then (some (a0_1 == a1_1)) else (some false)) = some r := h
 clear h
 by_cases c3 : a0_0 = a1_0
 ·rw [if_pos c3] at H
  have aS : (a0_0 == a1_0) = true := beq_iff_eq.mpr c3
  have aT : (a0_0 != a1_0) = false := bn c3
  clear c3
  obtain rfl := Option.some.inj H
  go_enter Tryz.func58, Tryz.ntmps58
  go_wp2_with (first | ((with_reducible refine qAP (N := 2) rfl ?_); refine qBo ?hg (N := 2) ?hd (cs := #[.int .i64 a0_0, .int .u64 a0_1]) (t := 48) ?hr ?_; (case hd => rfl); (case hg => rfl); (case hr => first | (go_simp; done) | (go_simp; rfl)); intro aB hg w4 hbox hb; have n0_ := am (qAt (by repeat (first | (with_reducible first | exact HB.o | apply qAb | apply qAa | apply qAd) | exact HB.o)) hb); have n1_ := am (hbox); have n2_ := am ((by rw [hg]; exact (qA2 (by repeat (first | (with_reducible first | exact HB.o | apply qAb | apply qAa | apply qAd) | exact HB.o))) : w.heap.size ≤ aB)); have n3_ := am ((by rw [hg]; exact (qA2 (by repeat (first | (with_reducible first | exact HB.o | apply qAb | apply qAa | apply qAd) | exact HB.o))) : w.heap.size ≤ aB)); clear HB; have HB := n0_; have aA := n1_; have aI := n2_; have aC := n3_; clear n0_ n1_ n2_ n3_; clear hb hbox hg) | ((with_reducible refine qAP (N := 3) rfl ?_); refine qBo ?hg (N := 3) ?hd (cs := #[.int .i64 a1_0, .int .u64 a1_1]) (t := 48) ?hr ?_; (case hd => rfl); (case hg => rfl); (case hr => first | (go_simp; done) | (go_simp; rfl)); intro aD hg w5 hbox hb; have n0_ := am (qAs (g := aB) (o := .cells #[.int .i64 a0_0, .int .u64 a0_1] 48 (0, 0)) (by (with_reducible repeat (first | refine qBv ?_ _ | refine qB4 ?_ | refine blk_alloc ?_ _)); exact aA.o) hb); have n1_ := am (qAt (by repeat (first | (with_reducible first | exact HB.o | apply qAb | apply qAa | apply qAd | refine qA8 ?_ aC.o) | exact HB.o)) hb); have n2_ := am (hbox); have n3_ := am ((by rw [hg]; exact (qA2 (by repeat (first | (with_reducible first | exact HB.o | apply qAb | apply qAa | apply qAd | refine qA8 ?_ aC.o) | exact HB.o))) : w.heap.size ≤ aD)); have n4_ := am ((by rw [hg]; exact (qA2 (by repeat (first | (with_reducible first | exact HB.o | apply qAb | apply qAa | apply qAd | refine qA8 ?_ aC.o) | exact HB.o))) : w.heap.size ≤ aD)); have n5_ := am ((by rw [hg]; exact Nat.ne_of_lt (qBf (g := aB) (o := .cells #[.int .i64 a0_0, .int .u64 a0_1] 48 (0, 0)) (by (with_reducible repeat (first | refine qBv ?_ _ | refine qB4 ?_ | refine blk_alloc ?_ _)); exact aA.o)) : aB ≠ aD)); have n6_ := am ((by rw [hg]; exact Nat.ne_of_gt (qBf (g := aB) (o := .cells #[.int .i64 a0_0, .int .u64 a0_1] 48 (0, 0)) (by (with_reducible repeat (first | refine qBv ?_ _ | refine qB4 ?_ | refine blk_alloc ?_ _)); exact aA.o)) : aD ≠ aB)); clear aA; clear HB; have aA := n0_; have HB := n1_; have aG := n2_; have aJ := n3_; have aH := n4_; have aE := n5_; have aF := n6_; clear n0_ n1_ n2_ n3_ n4_ n5_ n6_; clear hb hbox hg; have a6 := aE.o; have a7 := aF.o; obtain ⟨aU, aV⟩ := c2_ w5 aA.o; obtain ⟨aY, aZ⟩ := z2_ aA.o; obtain ⟨aW, aX⟩ := c2_ w5 aG.o; obtain ⟨a0, a1⟩ := z2_ aG.o))
  go_ret
  exact ⟨by first | rfl | (simp [errW_none, errW_some] <;> rfl) | (simp [*, errW_none, errW_some] <;> rfl), by repeat (first | (with_reducible first | exact HB.o | apply qAb | apply qAa | apply qAd | refine qA8 ?_ aC.o | refine qA8 ?_ aH.o) | exact HB.o)⟩
 ·rw [if_neg c3] at H
  have aS : (a0_0 == a1_0) = false := bf c3
  have aT : (a0_0 != a1_0) = true := bne_iff_ne.mpr c3
  obtain rfl := Option.some.inj H
  go_enter Tryz.func58, Tryz.ntmps58
  go_wp2_with (first | ((with_reducible refine qAP (N := 2) rfl ?_); refine qBo ?hg (N := 2) ?hd (cs := #[.int .i64 a0_0, .int .u64 a0_1]) (t := 48) ?hr ?_; (case hd => rfl); (case hg => rfl); (case hr => first | (go_simp; done) | (go_simp; rfl)); intro aB hg w9 hbox hb; have n0_ := am (qAt (by repeat (first | (with_reducible first | exact HB.o | apply qAb | apply qAa | apply qAd) | exact HB.o)) hb); have n1_ := am (hbox); have n2_ := am ((by rw [hg]; exact (qA2 (by repeat (first | (with_reducible first | exact HB.o | apply qAb | apply qAa | apply qAd) | exact HB.o))) : w.heap.size ≤ aB)); have n3_ := am ((by rw [hg]; exact (qA2 (by repeat (first | (with_reducible first | exact HB.o | apply qAb | apply qAa | apply qAd) | exact HB.o))) : w.heap.size ≤ aB)); clear HB; have HB := n0_; have aA := n1_; have aI := n2_; have aC := n3_; clear n0_ n1_ n2_ n3_; clear hb hbox hg) | ((with_reducible refine qAP (N := 3) rfl ?_); refine qBo ?hg (N := 3) ?hd (cs := #[.int .i64 a1_0, .int .u64 a1_1]) (t := 48) ?hr ?_; (case hd => rfl); (case hg => rfl); (case hr => first | (go_simp; done) | (go_simp; rfl)); intro aD hg a5 hbox hb; have n0_ := am (qAs (g := aB) (o := .cells #[.int .i64 a0_0, .int .u64 a0_1] 48 (0, 0)) (by (with_reducible repeat (first | refine qBv ?_ _ | refine qB4 ?_ | refine blk_alloc ?_ _)); exact aA.o) hb); have n1_ := am (qAt (by repeat (first | (with_reducible first | exact HB.o | apply qAb | apply qAa | apply qAd | refine qA8 ?_ aC.o) | exact HB.o)) hb); have n2_ := am (hbox); have n3_ := am ((by rw [hg]; exact (qA2 (by repeat (first | (with_reducible first | exact HB.o | apply qAb | apply qAa | apply qAd | refine qA8 ?_ aC.o) | exact HB.o))) : w.heap.size ≤ aD)); have n4_ := am ((by rw [hg]; exact (qA2 (by repeat (first | (with_reducible first | exact HB.o | apply qAb | apply qAa | apply qAd | refine qA8 ?_ aC.o) | exact HB.o))) : w.heap.size ≤ aD)); have n5_ := am ((by rw [hg]; exact Nat.ne_of_lt (qBf (g := aB) (o := .cells #[.int .i64 a0_0, .int .u64 a0_1] 48 (0, 0)) (by (with_reducible repeat (first | refine qBv ?_ _ | refine qB4 ?_ | refine blk_alloc ?_ _)); exact aA.o)) : aB ≠ aD)); have n6_ := am ((by rw [hg]; exact Nat.ne_of_gt (qBf (g := aB) (o := .cells #[.int .i64 a0_0, .int .u64 a0_1] 48 (0, 0)) (by (with_reducible repeat (first | refine qBv ?_ _ | refine qB4 ?_ | refine blk_alloc ?_ _)); exact aA.o)) : aD ≠ aB)); clear aA; clear HB; have aA := n0_; have HB := n1_; have aG := n2_; have aJ := n3_; have aH := n4_; have aE := n5_; have aF := n6_; clear n0_ n1_ n2_ n3_ n4_ n5_ n6_; clear hb hbox hg; have a3 := aE.o; have a4 := aF.o; obtain ⟨aK, aL⟩ := c2_ a5 aA.o; obtain ⟨aO, aP⟩ := z2_ aA.o; obtain ⟨aM, aN⟩ := c2_ a5 aG.o; obtain ⟨aQ, aR⟩ := z2_ aG.o))
  go_ret
  exact ⟨by first | rfl | (simp [errW_none, errW_some] <;> rfl) | (simp [*, errW_none, errW_some] <;> rfl), by repeat (first | (with_reducible first | exact HB.o | apply qAb | apply qAa | apply qAd | refine qA8 ?_ aC.o | refine qA8 ?_ aH.o) | exact HB.o)⟩
def qAe.l0 : Nat → List (S51) → List (S50) → Int → Option (Bool)
 | 0, _, _, _ => none
 | k + 1, x0, x1, x5 => if x5 < (x0.length : Int) then (if 0 ≤ x5 then (if x5 < (x1.length : Int) then (if ((qAl x0 x5).f0) = ((qAu x1 x5).f0) then (if ((qAl x0 x5).f1) = ((qAu x1 x5).f1) then ((qAI.f ((qAl x0 x5).f2.f0) ((qAl x0 x5).f2.f1) ((qAu x1 x5).f2.f0) ((qAu x1 x5).f2.f1)).bind fun ar => (if ar = true then (qAe.l0 k x0 x1 (wrap64 (x5 + 1))) else (some false))) else (some false)) else (some false)) else (none)) else (none)) else (some true)
def qAe.f (k : Nat) (l0 : List (S51)) (l1 : List (S50)) : Option (Bool) := if (l0.length : Int) = (l1.length : Int) then (qAe.l0 k l0 l1 0) else (some false)
def qAe.T6 : Bool × List (List Nat × List Nat) := (true, [([], []), ([], []), ([0, 1], [0, 1]), ([2], [2]), ([3], [3]), ([], []), ([], []), ([5, 6], [5, 6]), ([7], [7]), ([8], [8]), ([4, 9], [4, 9]), ([10], [10]), ([11], [11]), ([11], [11]), ([12, 13, 11], [11, 12, 13]), ([14, 11], [11, 14]), ([15, 11], [11, 15]), ([11], [11]), ([11], [11]), ([17, 18, 11], [11, 17, 18]), ([19, 11], [11, 19]), ([20, 11], [11, 20]), ([16, 21, 11], [11, 16, 21]), ([11, 22], [11, 22]), ([23, 11], [23]), ([24], [24]), ([24], [24]), ([25, 26, 24], [24, 25, 26]), ([27, 24], [24, 27]), ([28, 24], [24, 28]), ([24], [24]), ([24], [24]), ([30, 31, 24], [24, 30, 31]), ([32, 24], [24, 32]), ([33, 24], [24, 33]), ([29, 34, 24, 24], [24, 29, 34]), ([35, 24], [24, 35]), ([24, 36], [24, 36])])
def qAe.B6 : List Nat := [0, 0, 3, 7, 15, 0, 0, 96, 224, 480, 1023, 2047, 4095, 4095, 16383, 32767, 65535, 4095, 4095, 397311, 921599, 1970175, 4194303, 8388607, 16777215, 33554431, 33554431, 134217727, 268435455, 536870911, 33554431, 33554431, 3254779903, 7549747199, 16139681791, 34359738367, 68719476735, 137438953471]
theorem qAe.tab6 : rtab .any (opsOf Tryz.f35 6) = qAe.T6 := by kernel_rfl
theorem qAe.bits6 : qCq qAe.T6.2 qAe.B6 = true := by kernel_rfl
theorem qAe.calls (k : Nat) (A0 : Option Addr) (c0 : Nat) (l0 : List (S51)) (A1 : Option Addr) (c1 : Nat) (l1 : List (S50)) (r : Bool) (w : World) (hr0 : Kd.C k51 w A0 l0.length l0) (hc0 : l0.length ≤ c0) (hr1 : Kd.C k50 w A1 l1.length l1) (hc1 : l1.length ≤ c1) (h : qAe.f k l0 l1 = some r) :
  Calls Tryz.prog 35 #[.slice A0 l0.length c0, .slice A1 l1.length c1] w fun e w' => e = .returned (.bool r) ∧ Below w.heap.size w w' := by
 have hu48 := Tryz.underlying48
 have ap := am hr0
 have bI := am hc0
 clear hr0 hc0
 have aq := am hr1
 have bJ := am hc1
 clear hr1 hc1
 have HB := am (Below.refl w.heap.size w)
 have H : (if (l0.length : Int) = (l1.length : Int) then (qAe.l0 k l0 l1 0) else (some false)) = some r := h
 clear h
 by_cases c3 : (l0.length : Int) = (l1.length : Int)
 ·rw [if_pos c3] at H
  have aw : ((l0.length : Int) == (l1.length : Int)) = true := beq_iff_eq.mpr c3
  have ax : ((l0.length : Int) != (l1.length : Int)) = false := bn c3
  have ay : (l0.length == l1.length) = true := by first | simpa using c3 | (simp at c3 ⊢; omega)
  clear c3
  have H' := am H
  clear H
  go_enter Tryz.func35, Tryz.ntmps35
  go_wp2
  go_loopg [5] k (fun kq v5 w' => ∃ (aA : Int), v5 = .int .i64 aA ∧ qAi (qAe.l0 kq l0 l1 aA = some r) ∧ qAi (kq ≤ k) ∧ qAi (Below w.heap.size w w'))
  case atStart => exact ⟨(0), (by first | rfl | (simp; done) | (simp [*]; done)), H', ⟨Nat.le_refl _⟩, ⟨by repeat (first | (with_reducible first | exact HB.o | apply qAb | apply qAa | apply qAd) | exact HB.o)⟩⟩
  case round =>
   clear H'
   obtain ⟨aA, rfl, HA, bF, HB⟩ := hrel
   cases gk with
   | zero => exact absurd HA.o (by simp [qAe.l0])
   | succ k1 =>
    have H := HA.o
    clear HA
    simp only [qAe.l0] at H
    by_cases c4 : aA < (l0.length : Int)
    rotate_left
    ·rw [if_neg c4] at H
     replace c4 := d0 c4
     obtain rfl := Option.some.inj H
     go_wp2
     go_ret
     exact ⟨by first | rfl | (simp [errW_none, errW_some] <;> rfl) | (simp [*, errW_none, errW_some] <;> rfl), by repeat (first | (with_reducible first | exact HB.o | apply qAb | apply qAa | apply qAd) | exact HB.o)⟩
    rw [if_pos c4] at H
    replace c4 := d1 c4
    obtain ⟨c5, H⟩ := gd H
    replace c5 := d1 c5
    obtain ⟨c6, H⟩ := gd H
    replace c6 := d1 c6
    by_cases c7 : ((qAl l0 aA).f0) = ((qAu l1 aA).f0)
    rotate_left
    ·rw [if_neg c7] at H
     have bA : (((qAl l0 aA).f0) == ((qAu l1 aA).f0)) = false := bf c7
     have bB : (((qAl l0 aA).f0) != ((qAu l1 aA).f0)) = true := bne_iff_ne.mpr c7
     obtain rfl := Option.some.inj H
     try go_wp2
     have n0_ := am (qAd HB.o)
     clear HB
     have HB := n0_
     clear n0_
     have a4 : 0 ≤ (aA : Int) := of_decide_eq_true (by first | (with_reducible assumption) | assumption)
     have a6 : aA < (l0.length : Int) := of_decide_eq_true (by first | (with_reducible assumption) | assumption)
     obtain ⟨aB, ae, aD, aE, aF, aG⟩ := qBn ap.o aA a4 a6
     have hw802_3 := aG
     have hw802_2 := aF
     have hw802_1 := aE
     have hw802_0 := aD
     cases ae
     replace aD := (HB.o.cell (World.block_lt_of_cell? w _ aD)).trans aD
     replace aE := (HB.o.cell (World.block_lt_of_cell? w _ aE)).trans aE
     replace aF := (HB.o.cell (World.block_lt_of_cell? w _ aF)).trans aF
     replace aG := (HB.o.cell (World.block_lt_of_cell? w _ aG)).trans aG
     replace a4 := eq_true a4
     replace a6 := eq_true a6
     have a5 : 0 ≤ (aA : Int) := of_decide_eq_true (by first | (with_reducible assumption) | assumption)
     have a7 : aA < (l1.length : Int) := of_decide_eq_true (by first | (with_reducible assumption) | assumption)
     obtain ⟨aC, af, aH, aI, aJ, aK⟩ := qBE aq.o aA a5 a7
     have hw803_3 := aK
     have hw803_2 := aJ
     have hw803_1 := aI
     have hw803_0 := aH
     cases af
     replace aH := (HB.o.cell (World.block_lt_of_cell? w _ aH)).trans aH
     replace aI := (HB.o.cell (World.block_lt_of_cell? w _ aI)).trans aI
     replace aJ := (HB.o.cell (World.block_lt_of_cell? w _ aJ)).trans aJ
     replace aK := (HB.o.cell (World.block_lt_of_cell? w _ aK)).trans aK
     replace a5 := eq_true a5
     replace a7 := eq_true a7
     refine start_ (n := 38) (S := fun w' => w'.cell? (aB.add ((aA).toNat * 4)) = some (.int .i64 ((qAl l0 aA).f0)) ∧ w'.cell? ⟨(aB.add ((aA).toNat * 4)).block, (aB.add ((aA).toNat * 4)).off + 1, none⟩ = some (.int .i64 ((qAl l0 aA).f1)) ∧ w'.cell? ⟨(aB.add ((aA).toNat * 4)).block, (aB.add ((aA).toNat * 4)).off + 2, none⟩ = some (.int .i64 ((qAl l0 aA).f2.f0)) ∧ w'.cell? ⟨(aB.add ((aA).toNat * 4)).block, (aB.add ((aA).toNat * 4)).off + 3, none⟩ = some (.int .u64 ((qAl l0 aA).f2.f1)) ∧ w'.cell? (aC.add ((aA).toNat * 4)) = some (.int .i64 ((qAu l1 aA).f0)) ∧ w'.cell? ⟨(aC.add ((aA).toNat * 4)).block, (aC.add ((aA).toNat * 4)).off + 1, none⟩ = some (.int .i64 ((qAu l1 aA).f1)) ∧ w'.cell? ⟨(aC.add ((aA).toNat * 4)).block, (aC.add ((aA).toNat * 4)).off + 2, none⟩ = some (.int .i64 ((qAu l1 aA).f2.f0)) ∧ w'.cell? ⟨(aC.add ((aA).toNat * 4)).block, (aC.add ((aA).toNat * 4)).off + 3, none⟩ = some (.int .u64 ((qAu l1 aA).f2.f1))) (ds := []) (mK 38 0) (by kernel_rfl) rfl rfl ⟨((HB.o.cell (World.block_lt_of_cell? w _ hw802_0)).trans hw802_0), ((HB.o.cell (World.block_lt_of_cell? w _ hw802_1)).trans hw802_1), ((HB.o.cell (World.block_lt_of_cell? w _ hw802_2)).trans hw802_2), ((HB.o.cell (World.block_lt_of_cell? w _ hw802_3)).trans hw802_3), ((HB.o.cell (World.block_lt_of_cell? w _ hw803_0)).trans hw803_0), ((HB.o.cell (World.block_lt_of_cell? w _ hw803_1)).trans hw803_1), ((HB.o.cell (World.block_lt_of_cell? w _ hw803_2)).trans hw803_2), ((HB.o.cell (World.block_lt_of_cell? w _ hw803_3)).trans hw803_3)⟩ (fun hHeld => ?_); refine qBM qAe.tab6 qAe.bits6 (fun HT_ HW_ => ?_)
     generalize wr.drew = bP at HB aD aE aF aG aH aI aJ aK hHeld ⊢
     refine qAx (i := 0) (N := some 17) (v := ?_) (a' := ?_) (mK 38 1) rfl rfl (qAj HT_.o (by kernel_rfl)) (fun _ _ _ h => h) (Or.inl ⟨by rfl, ?_⟩) ?_ ?_
     rotate_left
     ·intro w'
      go_simp
      with_reducible rfl
     rotate_left
     ·simp only [Act.put, List.setIfInBounds_toArray, List.set_cons_zero, List.set_cons_succ, qAo, i32_w]
      rfl
     refine qAx (i := 1) (N := some 18) (v := ?_) (a' := ?_) (mK 38 3) rfl rfl (qAj HT_.o (by kernel_rfl)) (fun _ _ _ h => h) (Or.inl ⟨by rfl, ?_⟩) ?_ ?_
     rotate_left
     ·intro w'
      go_simp
      with_reducible rfl
     rotate_left
     ·simp only [Act.put, List.setIfInBounds_toArray, List.set_cons_zero, List.set_cons_succ, qAo, i32_w]
      rfl
     refine qAx (i := 2) (N := some 19) (v := ?_) (a' := ?_) (mK 38 7) rfl rfl (qAj HT_.o (by kernel_rfl)) (fun _ _ _ h => h) (Or.inl ⟨by rfl, ?_⟩) ?_ ?_
     rotate_left
     ·intro w'
      go_simp
      with_reducible rfl
     rotate_left
     ·simp only [Act.put, List.setIfInBounds_toArray, List.set_cons_zero, List.set_cons_succ, qAo, i32_w]
      rfl
     refine qAx (i := 3) (N := some 20) (v := ?_) (a' := ?_) (mK 38 15) rfl rfl (qAj HT_.o (by kernel_rfl)) (fun _ _ _ h => h) (Or.inl ⟨by rfl, ?_⟩) ?_ ?_
     rotate_left
     ·intro w'
      go_simp
      with_reducible rfl
     rotate_left
     ·simp only [Act.put, List.setIfInBounds_toArray, List.set_cons_zero, List.set_cons_succ, qAo, i32_w]
      rfl
     refine qAx (i := 5) (N := some 22) (v := ?_) (a' := ?_) (mK 38 47) rfl rfl (qAj HT_.o (by kernel_rfl)) (fun _ _ _ h => h) (Or.inl ⟨by rfl, ?_⟩) ?_ ?_
     rotate_left
     ·intro w'
      go_simp
      with_reducible rfl
     rotate_left
     ·simp only [Act.put, List.setIfInBounds_toArray, List.set_cons_zero, List.set_cons_succ, qAo, i32_w]
      rfl
     refine qAx (i := 6) (N := some 23) (v := ?_) (a' := ?_) (mK 38 111) rfl rfl (qAj HT_.o (by kernel_rfl)) (fun _ _ _ h => h) (Or.inl ⟨by rfl, ?_⟩) ?_ ?_
     rotate_left
     ·intro w'
      go_simp
      with_reducible rfl
     rotate_left
     ·simp only [Act.put, List.setIfInBounds_toArray, List.set_cons_zero, List.set_cons_succ, qAo, i32_w]
      rfl
     refine qAx (i := 7) (N := some 24) (v := ?_) (a' := ?_) (mK 38 239) rfl rfl (qAj HT_.o (by kernel_rfl)) (fun _ _ _ h => h) (Or.inl ⟨by rfl, ?_⟩) ?_ ?_
     rotate_left
     ·intro w'
      go_simp
      with_reducible rfl
     rotate_left
     ·simp only [Act.put, List.setIfInBounds_toArray, List.set_cons_zero, List.set_cons_succ, qAo, i32_w]
      rfl
     refine qAx (i := 8) (N := some 25) (v := ?_) (a' := ?_) (mK 38 495) rfl rfl (qAj HT_.o (by kernel_rfl)) (fun _ _ _ h => h) (Or.inl ⟨by rfl, ?_⟩) ?_ ?_
     rotate_left
     ·intro w'
      go_simp
      with_reducible rfl
     rotate_left
     ·simp only [Act.put, List.setIfInBounds_toArray, List.set_cons_zero, List.set_cons_succ, qAo, i32_w]
      rfl
     refine qBQ (i := 4) (N := some 21) (v := ?_) (a' := ?_) (mK 38 511) rfl rfl (qAK HT_.o HW_.o (by kernel_rfl)) (fun _ _ _ h => h) (Or.inl ⟨by rfl, ?_⟩) hHeld ?_ ?_
     rotate_left
     ·rintro w' ⟨s0, s1, s2, s3, s4, s5, s6, s7⟩
      go_simp
      with_reducible rfl
     rotate_left
     ·simp only [Act.put, List.setIfInBounds_toArray, List.set_cons_zero, List.set_cons_succ, qAo, i32_w]
      rfl
     refine qBQ (i := 9) (N := some 26) (v := ?_) (a' := ?_) (mK 38 1023) rfl rfl (qAK HT_.o HW_.o (by kernel_rfl)) (fun _ _ _ h => h) (Or.inl ⟨by rfl, ?_⟩) hHeld ?_ ?_
     rotate_left
     ·rintro w' ⟨s0, s1, s2, s3, s4, s5, s6, s7⟩
      go_simp
      with_reducible rfl
     rotate_left
     ·simp only [Act.put, List.setIfInBounds_toArray, List.set_cons_zero, List.set_cons_succ, qAo, i32_w]
      rfl
     refine qAx (i := 10) (N := some 27) (v := ?_) (a' := ?_) (mK 38 2047) rfl rfl (qAj HT_.o (by kernel_rfl)) (fun _ _ _ h => h) (Or.inl ⟨by rfl, ?_⟩) ?_ ?_
     rotate_left
     ·intro w'
      go_simp
      with_reducible rfl
     rotate_left
     ·simp only [Act.put, List.setIfInBounds_toArray, List.set_cons_zero, List.set_cons_succ, qAo, i32_w]
      rfl
     refine qAx (i := 11) (N := some 28) (v := ?_) (a' := ?_) (mK 38 4095) rfl rfl (qAj HT_.o (by kernel_rfl)) (fun _ _ _ h => h) (Or.inl ⟨by rfl, ?_⟩) ?_ ?_
     rotate_left
     ·intro w'
      go_simp
      with_reducible rfl
     rotate_left
     ·simp only [Act.put, List.setIfInBounds_toArray, List.set_cons_zero, List.set_cons_succ, qAo, i32_w]
      rfl
     refine qAx (i := 12) (N := some 29) (v := undef) (a' := ?_) (mK 38 8191) rfl rfl (qAj HT_.o (by kernel_rfl)) (fun _ _ _ h => h) (Or.inr ⟨by rfl, rfl⟩) ?_ ?_
     rotate_left
     ·simp only [Act.put, List.setIfInBounds_toArray, List.set_cons_zero, List.set_cons_succ, qAo, i32_w]
      rfl
     refine qAx (i := 13) (N := some 30) (v := undef) (a' := ?_) (mK 38 16383) rfl rfl (qAj HT_.o (by kernel_rfl)) (fun _ _ _ h => h) (Or.inr ⟨by rfl, rfl⟩) ?_ ?_
     rotate_left
     ·simp only [Act.put, List.setIfInBounds_toArray, List.set_cons_zero, List.set_cons_succ, qAo, i32_w]
      rfl
     refine qAx (i := 14) (N := some 31) (v := undef) (a' := ?_) (mK 38 32767) rfl rfl (qAj HT_.o (by kernel_rfl)) (fun _ _ _ h => h) (Or.inr ⟨by rfl, rfl⟩) ?_ ?_
     rotate_left
     ·simp only [Act.put, List.setIfInBounds_toArray, List.set_cons_zero, List.set_cons_succ, qAo, i32_w]
      rfl
     refine qAx (i := 15) (N := some 32) (v := undef) (a' := ?_) (mK 38 65535) rfl rfl (qAj HT_.o (by kernel_rfl)) (fun _ _ _ h => h) (Or.inr ⟨by rfl, rfl⟩) ?_ ?_
     rotate_left
     ·simp only [Act.put, List.setIfInBounds_toArray, List.set_cons_zero, List.set_cons_succ, qAo, i32_w]
      rfl
     refine qAx (i := 16) (N := some 33) (v := undef) (a' := ?_) (mK 38 131071) rfl rfl (qAj HT_.o (by kernel_rfl)) (fun _ _ _ h => h) (Or.inr ⟨by rfl, rfl⟩) ?_ ?_
     rotate_left
     ·simp only [Act.put, List.setIfInBounds_toArray, List.set_cons_zero, List.set_cons_succ, qAo, i32_w]
      rfl
     refine qAx (i := 17) (N := some 34) (v := undef) (a' := ?_) (mK 38 262143) rfl rfl (qAj HT_.o (by kernel_rfl)) (fun _ _ _ h => h) (Or.inr ⟨by rfl, rfl⟩) ?_ ?_
     rotate_left
     ·simp only [Act.put, List.setIfInBounds_toArray, List.set_cons_zero, List.set_cons_succ, qAo, i32_w]
      rfl
     refine qAx (i := 18) (N := some 35) (v := undef) (a' := ?_) (mK 38 524287) rfl rfl (qAj HT_.o (by kernel_rfl)) (fun _ _ _ h => h) (Or.inr ⟨by rfl, rfl⟩) ?_ ?_
     rotate_left
     ·simp only [Act.put, List.setIfInBounds_toArray, List.set_cons_zero, List.set_cons_succ, qAo, i32_w]
      rfl
     refine qAx (i := 19) (N := some 36) (v := undef) (a' := ?_) (mK 38 1048575) rfl rfl (qAj HT_.o (by kernel_rfl)) (fun _ _ _ h => h) (Or.inr ⟨by rfl, rfl⟩) ?_ ?_
     rotate_left
     ·simp only [Act.put, List.setIfInBounds_toArray, List.set_cons_zero, List.set_cons_succ, qAo, i32_w]
      rfl
     refine qAx (i := 20) (N := some 37) (v := undef) (a' := ?_) (mK 38 2097151) rfl rfl (qAj HT_.o (by kernel_rfl)) (fun _ _ _ h => h) (Or.inr ⟨by rfl, rfl⟩) ?_ ?_
     rotate_left
     ·simp only [Act.put, List.setIfInBounds_toArray, List.set_cons_zero, List.set_cons_succ, qAo, i32_w]
      rfl
     refine qAx (i := 21) (N := some 38) (v := undef) (a' := ?_) (mK 38 4194303) rfl rfl (qAj HT_.o (by kernel_rfl)) (fun _ _ _ h => h) (Or.inr ⟨by rfl, rfl⟩) ?_ ?_
     rotate_left
     ·simp only [Act.put, List.setIfInBounds_toArray, List.set_cons_zero, List.set_cons_succ, qAo, i32_w]
      rfl
     refine qAx (i := 22) (N := some 39) (v := undef) (a' := ?_) (mK 38 8388607) rfl rfl (qAj HT_.o (by kernel_rfl)) (fun _ _ _ h => h) (Or.inr ⟨by rfl, rfl⟩) ?_ ?_
     rotate_left
     ·simp only [Act.put, List.setIfInBounds_toArray, List.set_cons_zero, List.set_cons_succ, qAo, i32_w]
      rfl
     refine qAx (i := 23) (N := some 40) (v := ?_) (a' := ?_) (mK 38 16777215) rfl rfl (qAj HT_.o (by kernel_rfl)) (fun _ _ _ h => h) (Or.inl ⟨by rfl, ?_⟩) ?_ ?_
     rotate_left
     ·intro w'
      go_simp
      with_reducible rfl
     rotate_left
     ·simp only [Act.put, List.setIfInBounds_toArray, List.set_cons_zero, List.set_cons_succ, qAo, i32_w]
      rfl
     refine qAx (i := 24) (N := some 41) (v := ?_) (a' := ?_) (mK 38 33554431) rfl rfl (qAj HT_.o (by kernel_rfl)) (fun _ _ _ h => h) (Or.inl ⟨by rfl, ?_⟩) ?_ ?_
     rotate_left
     ·intro w'
      go_simp
      with_reducible rfl
     rotate_left
     ·simp only [Act.put, List.setIfInBounds_toArray, List.set_cons_zero, List.set_cons_succ, qAo, i32_w]
      rfl
     refine qAx (i := 25) (N := some 42) (v := undef) (a' := ?_) (mK 38 67108863) rfl rfl (qAj HT_.o (by kernel_rfl)) (fun _ _ _ h => h) (Or.inr ⟨by rfl, rfl⟩) ?_ ?_
     rotate_left
     ·simp only [Act.put, List.setIfInBounds_toArray, List.set_cons_zero, List.set_cons_succ, qAo, i32_w]
      rfl
     refine qAx (i := 26) (N := some 43) (v := undef) (a' := ?_) (mK 38 134217727) rfl rfl (qAj HT_.o (by kernel_rfl)) (fun _ _ _ h => h) (Or.inr ⟨by rfl, rfl⟩) ?_ ?_
     rotate_left
     ·simp only [Act.put, List.setIfInBounds_toArray, List.set_cons_zero, List.set_cons_succ, qAo, i32_w]
      rfl
     refine qAx (i := 27) (N := some 44) (v := undef) (a' := ?_) (mK 38 268435455) rfl rfl (qAj HT_.o (by kernel_rfl)) (fun _ _ _ h => h) (Or.inr ⟨by rfl, rfl⟩) ?_ ?_
     rotate_left
     ·simp only [Act.put, List.setIfInBounds_toArray, List.set_cons_zero, List.set_cons_succ, qAo, i32_w]
      rfl
     refine qAx (i := 28) (N := some 45) (v := undef) (a' := ?_) (mK 38 536870911) rfl rfl (qAj HT_.o (by kernel_rfl)) (fun _ _ _ h => h) (Or.inr ⟨by rfl, rfl⟩) ?_ ?_
     rotate_left
     ·simp only [Act.put, List.setIfInBounds_toArray, List.set_cons_zero, List.set_cons_succ, qAo, i32_w]
      rfl
     refine qAx (i := 29) (N := some 46) (v := undef) (a' := ?_) (mK 38 1073741823) rfl rfl (qAj HT_.o (by kernel_rfl)) (fun _ _ _ h => h) (Or.inr ⟨by rfl, rfl⟩) ?_ ?_
     rotate_left
     ·simp only [Act.put, List.setIfInBounds_toArray, List.set_cons_zero, List.set_cons_succ, qAo, i32_w]
      rfl
     refine qAx (i := 30) (N := some 47) (v := undef) (a' := ?_) (mK 38 2147483647) rfl rfl (qAj HT_.o (by kernel_rfl)) (fun _ _ _ h => h) (Or.inr ⟨by rfl, rfl⟩) ?_ ?_
     rotate_left
     ·simp only [Act.put, List.setIfInBounds_toArray, List.set_cons_zero, List.set_cons_succ, qAo, i32_w]
      rfl
     refine qAx (i := 31) (N := some 48) (v := undef) (a' := ?_) (mK 38 4294967295) rfl rfl (qAj HT_.o (by kernel_rfl)) (fun _ _ _ h => h) (Or.inr ⟨by rfl, rfl⟩) ?_ ?_
     rotate_left
     ·simp only [Act.put, List.setIfInBounds_toArray, List.set_cons_zero, List.set_cons_succ, qAo, i32_w]
      rfl
     refine qAx (i := 32) (N := some 49) (v := undef) (a' := ?_) (mK 38 8589934591) rfl rfl (qAj HT_.o (by kernel_rfl)) (fun _ _ _ h => h) (Or.inr ⟨by rfl, rfl⟩) ?_ ?_
     rotate_left
     ·simp only [Act.put, List.setIfInBounds_toArray, List.set_cons_zero, List.set_cons_succ, qAo, i32_w]
      rfl
     refine qAx (i := 33) (N := some 50) (v := undef) (a' := ?_) (mK 38 17179869183) rfl rfl (qAj HT_.o (by kernel_rfl)) (fun _ _ _ h => h) (Or.inr ⟨by rfl, rfl⟩) ?_ ?_
     rotate_left
     ·simp only [Act.put, List.setIfInBounds_toArray, List.set_cons_zero, List.set_cons_succ, qAo, i32_w]
      rfl
     refine qAx (i := 34) (N := some 51) (v := undef) (a' := ?_) (mK 38 34359738367) rfl rfl (qAj HT_.o (by kernel_rfl)) (fun _ _ _ h => h) (Or.inr ⟨by rfl, rfl⟩) ?_ ?_
     rotate_left
     ·simp only [Act.put, List.setIfInBounds_toArray, List.set_cons_zero, List.set_cons_succ, qAo, i32_w]
      rfl
     refine qAx (i := 35) (N := some 52) (v := undef) (a' := ?_) (mK 38 68719476735) rfl rfl (qAj HT_.o (by kernel_rfl)) (fun _ _ _ h => h) (Or.inr ⟨by rfl, rfl⟩) ?_ ?_
     rotate_left
     ·simp only [Act.put, List.setIfInBounds_toArray, List.set_cons_zero, List.set_cons_succ, qAo, i32_w]
      rfl
     refine qAx (i := 36) (N := some 53) (v := undef) (a' := ?_) (mK 38 137438953471) rfl rfl (qAj HT_.o (by kernel_rfl)) (fun _ _ _ h => h) (Or.inr ⟨by rfl, rfl⟩) ?_ ?_
     rotate_left
     ·simp only [Act.put, List.setIfInBounds_toArray, List.set_cons_zero, List.set_cons_succ, qAo, i32_w]
      rfl
     refine qAx (i := 37) (N := some 54) (v := ?_) (a' := ?_) (mK 38 274877906943) rfl rfl (qAj HT_.o (by kernel_rfl)) (fun _ _ _ h => h) (Or.inl ⟨by rfl, ?_⟩) ?_ ?_
     rotate_left
     ·intro w'
      go_simp
      with_reducible rfl
     rotate_left
     ·simp only [Act.put, List.setIfInBounds_toArray, List.set_cons_zero, List.set_cons_succ, qAo, i32_w]
      rfl
     refine done_ (qC9 HT_.o (by kernel_rfl)) ?_
     try go_wp2
     go_ret
     exact ⟨by first | rfl | (simp [errW_none, errW_some] <;> rfl) | (simp [*, errW_none, errW_some] <;> rfl), by repeat (first | (with_reducible first | exact HB.o | apply qAb | apply qAa | apply qAd) | exact HB.o)⟩
    rw [if_pos c7] at H
    have bA : (((qAl l0 aA).f0) == ((qAu l1 aA).f0)) = true := beq_iff_eq.mpr c7
    have bB : (((qAl l0 aA).f0) != ((qAu l1 aA).f0)) = false := bn c7
    clear c7
    by_cases c8 : ((qAl l0 aA).f1) = ((qAu l1 aA).f1)
    rotate_left
    ·rw [if_neg c8] at H
     have bC : (((qAl l0 aA).f1) == ((qAu l1 aA).f1)) = false := bf c8
     have bD : (((qAl l0 aA).f1) != ((qAu l1 aA).f1)) = true := bne_iff_ne.mpr c8
     obtain rfl := Option.some.inj H
     try go_wp2
     have n0_ := am (qAd HB.o)
     clear HB
     have HB := n0_
     clear n0_
     have a4 : 0 ≤ (aA : Int) := of_decide_eq_true (by first | (with_reducible assumption) | assumption)
     have a6 : aA < (l0.length : Int) := of_decide_eq_true (by first | (with_reducible assumption) | assumption)
     obtain ⟨aB, ae, aD, aE, aF, aG⟩ := qBn ap.o aA a4 a6
     have hw802_3 := aG
     have hw802_2 := aF
     have hw802_1 := aE
     have hw802_0 := aD
     cases ae
     replace aD := (HB.o.cell (World.block_lt_of_cell? w _ aD)).trans aD
     replace aE := (HB.o.cell (World.block_lt_of_cell? w _ aE)).trans aE
     replace aF := (HB.o.cell (World.block_lt_of_cell? w _ aF)).trans aF
     replace aG := (HB.o.cell (World.block_lt_of_cell? w _ aG)).trans aG
     replace a4 := eq_true a4
     replace a6 := eq_true a6
     have a5 : 0 ≤ (aA : Int) := of_decide_eq_true (by first | (with_reducible assumption) | assumption)
     have a7 : aA < (l1.length : Int) := of_decide_eq_true (by first | (with_reducible assumption) | assumption)
     obtain ⟨aC, af, aH, aI, aJ, aK⟩ := qBE aq.o aA a5 a7
     have hw803_3 := aK
     have hw803_2 := aJ
     have hw803_1 := aI
     have hw803_0 := aH
     cases af
     replace aH := (HB.o.cell (World.block_lt_of_cell? w _ aH)).trans aH
     replace aI := (HB.o.cell (World.block_lt_of_cell? w _ aI)).trans aI
     replace aJ := (HB.o.cell (World.block_lt_of_cell? w _ aJ)).trans aJ
     replace aK := (HB.o.cell (World.block_lt_of_cell? w _ aK)).trans aK
     replace a5 := eq_true a5
     replace a7 := eq_true a7
     have a8 : 0 ≤ (aA : Int) := of_decide_eq_true (by first | (with_reducible assumption) | assumption)
     have aa : aA < (l0.length : Int) := of_decide_eq_true (by first | (with_reducible assumption) | assumption)
     obtain ⟨ac, an, aL, aM, aN, aO⟩ := qBn ap.o aA a8 aa
     have hw804_3 := aO
     have hw804_2 := aN
     have hw804_1 := aM
     have hw804_0 := aL
     obtain rfl : aB = ac := (by injection an)
     replace aL := (HB.o.cell (World.block_lt_of_cell? w _ aL)).trans aL
     replace aM := (HB.o.cell (World.block_lt_of_cell? w _ aM)).trans aM
     replace aN := (HB.o.cell (World.block_lt_of_cell? w _ aN)).trans aN
     replace aO := (HB.o.cell (World.block_lt_of_cell? w _ aO)).trans aO
     replace a8 := eq_true a8
     replace aa := eq_true aa
     have a9 : 0 ≤ (aA : Int) := of_decide_eq_true (by first | (with_reducible assumption) | assumption)
     have ab : aA < (l1.length : Int) := of_decide_eq_true (by first | (with_reducible assumption) | assumption)
     obtain ⟨ad, ao, aP, aQ, aR, aS⟩ := qBE aq.o aA a9 ab
     have hw805_3 := aS
     have hw805_2 := aR
     have hw805_1 := aQ
     have hw805_0 := aP
     obtain rfl : aC = ad := (by injection ao)
     replace aP := (HB.o.cell (World.block_lt_of_cell? w _ aP)).trans aP
     replace aQ := (HB.o.cell (World.block_lt_of_cell? w _ aQ)).trans aQ
     replace aR := (HB.o.cell (World.block_lt_of_cell? w _ aR)).trans aR
     replace aS := (HB.o.cell (World.block_lt_of_cell? w _ aS)).trans aS
     replace a9 := eq_true a9
     replace ab := eq_true ab
     refine start_ (n := 38) (S := fun w' => w'.cell? (aB.add ((aA).toNat * 4)) = some (.int .i64 ((qAl l0 aA).f0)) ∧ w'.cell? ⟨(aB.add ((aA).toNat * 4)).block, (aB.add ((aA).toNat * 4)).off + 1, none⟩ = some (.int .i64 ((qAl l0 aA).f1)) ∧ w'.cell? ⟨(aB.add ((aA).toNat * 4)).block, (aB.add ((aA).toNat * 4)).off + 2, none⟩ = some (.int .i64 ((qAl l0 aA).f2.f0)) ∧ w'.cell? ⟨(aB.add ((aA).toNat * 4)).block, (aB.add ((aA).toNat * 4)).off + 3, none⟩ = some (.int .u64 ((qAl l0 aA).f2.f1)) ∧ w'.cell? (aC.add ((aA).toNat * 4)) = some (.int .i64 ((qAu l1 aA).f0)) ∧ w'.cell? ⟨(aC.add ((aA).toNat * 4)).block, (aC.add ((aA).toNat * 4)).off + 1, none⟩ = some (.int .i64 ((qAu l1 aA).f1)) ∧ w'.cell? ⟨(aC.add ((aA).toNat * 4)).block, (aC.add ((aA).toNat * 4)).off + 2, none⟩ = some (.int .i64 ((qAu l1 aA).f2.f0)) ∧ w'.cell? ⟨(aC.add ((aA).toNat * 4)).block, (aC.add ((aA).toNat * 4)).off + 3, none⟩ = some (.int .u64 ((qAu l1 aA).f2.f1)) ∧ w'.cell? (aB.add ((aA).toNat * 4)) = some (.int .i64 ((qAl l0 aA).f0)) ∧ w'.cell? ⟨(aB.add ((aA).toNat * 4)).block, (aB.add ((aA).toNat * 4)).off + 1, none⟩ = some (.int .i64 ((qAl l0 aA).f1)) ∧ w'.cell? ⟨(aB.add ((aA).toNat * 4)).block, (aB.add ((aA).toNat * 4)).off + 2, none⟩ = some (.int .i64 ((qAl l0 aA).f2.f0)) ∧ w'.cell? ⟨(aB.add ((aA).toNat * 4)).block, (aB.add ((aA).toNat * 4)).off + 3, none⟩ = some (.int .u64 ((qAl l0 aA).f2.f1)) ∧ w'.cell? (aC.add ((aA).toNat * 4)) = some (.int .i64 ((qAu l1 aA).f0)) ∧ w'.cell? ⟨(aC.add ((aA).toNat * 4)).block, (aC.add ((aA).toNat * 4)).off + 1, none⟩ = some (.int .i64 ((qAu l1 aA).f1)) ∧ w'.cell? ⟨(aC.add ((aA).toNat * 4)).block, (aC.add ((aA).toNat * 4)).off + 2, none⟩ = some (.int .i64 ((qAu l1 aA).f2.f0)) ∧ w'.cell? ⟨(aC.add ((aA).toNat * 4)).block, (aC.add ((aA).toNat * 4)).off + 3, none⟩ = some (.int .u64 ((qAu l1 aA).f2.f1))) (ds := []) (mK 38 0) (by kernel_rfl) rfl rfl ⟨((HB.o.cell (World.block_lt_of_cell? w _ hw802_0)).trans hw802_0), ((HB.o.cell (World.block_lt_of_cell? w _ hw802_1)).trans hw802_1), ((HB.o.cell (World.block_lt_of_cell? w _ hw802_2)).trans hw802_2), ((HB.o.cell (World.block_lt_of_cell? w _ hw802_3)).trans hw802_3), ((HB.o.cell (World.block_lt_of_cell? w _ hw803_0)).trans hw803_0), ((HB.o.cell (World.block_lt_of_cell? w _ hw803_1)).trans hw803_1), ((HB.o.cell (World.block_lt_of_cell? w _ hw803_2)).trans hw803_2), ((HB.o.cell (World.block_lt_of_cell? w _ hw803_3)).trans hw803_3), ((HB.o.cell (World.block_lt_of_cell? w _ hw804_0)).trans hw804_0), ((HB.o.cell (World.block_lt_of_cell? w _ hw804_1)).trans hw804_1), ((HB.o.cell (World.block_lt_of_cell? w _ hw804_2)).trans hw804_2), ((HB.o.cell (World.block_lt_of_cell? w _ hw804_3)).trans hw804_3), ((HB.o.cell (World.block_lt_of_cell? w _ hw805_0)).trans hw805_0), ((HB.o.cell (World.block_lt_of_cell? w _ hw805_1)).trans hw805_1), ((HB.o.cell (World.block_lt_of_cell? w _ hw805_2)).trans hw805_2), ((HB.o.cell (World.block_lt_of_cell? w _ hw805_3)).trans hw805_3)⟩ (fun hHeld => ?_); refine qBM qAe.tab6 qAe.bits6 (fun HT_ HW_ => ?_)
     generalize wr.drew = bO at HB aD aE aF aG aH aI aJ aK aL aM aN aO aP aQ aR aS hHeld ⊢
     refine qAx (i := 0) (N := some 17) (v := ?_) (a' := ?_) (mK 38 1) rfl rfl (qAj HT_.o (by kernel_rfl)) (fun _ _ _ h => h) (Or.inl ⟨by rfl, ?_⟩) ?_ ?_
     rotate_left
     ·intro w'
      go_simp
      with_reducible rfl
     rotate_left
     ·simp only [Act.put, List.setIfInBounds_toArray, List.set_cons_zero, List.set_cons_succ, qAo, i32_w]
      rfl
     refine qAx (i := 1) (N := some 18) (v := ?_) (a' := ?_) (mK 38 3) rfl rfl (qAj HT_.o (by kernel_rfl)) (fun _ _ _ h => h) (Or.inl ⟨by rfl, ?_⟩) ?_ ?_
     rotate_left
     ·intro w'
      go_simp
      with_reducible rfl
     rotate_left
     ·simp only [Act.put, List.setIfInBounds_toArray, List.set_cons_zero, List.set_cons_succ, qAo, i32_w]
      rfl
     refine qAx (i := 2) (N := some 19) (v := ?_) (a' := ?_) (mK 38 7) rfl rfl (qAj HT_.o (by kernel_rfl)) (fun _ _ _ h => h) (Or.inl ⟨by rfl, ?_⟩) ?_ ?_
     rotate_left
     ·intro w'
      go_simp
      with_reducible rfl
     rotate_left
     ·simp only [Act.put, List.setIfInBounds_toArray, List.set_cons_zero, List.set_cons_succ, qAo, i32_w]
      rfl
     refine qAx (i := 3) (N := some 20) (v := ?_) (a' := ?_) (mK 38 15) rfl rfl (qAj HT_.o (by kernel_rfl)) (fun _ _ _ h => h) (Or.inl ⟨by rfl, ?_⟩) ?_ ?_
     rotate_left
     ·intro w'
      go_simp
      with_reducible rfl
     rotate_left
     ·simp only [Act.put, List.setIfInBounds_toArray, List.set_cons_zero, List.set_cons_succ, qAo, i32_w]
      rfl
     refine qAx (i := 5) (N := some 22) (v := ?_) (a' := ?_) (mK 38 47) rfl rfl (qAj HT_.o (by kernel_rfl)) (fun _ _ _ h => h) (Or.inl ⟨by rfl, ?_⟩) ?_ ?_
     rotate_left
     ·intro w'
      go_simp
      with_reducible rfl
     rotate_left
     ·simp only [Act.put, List.setIfInBounds_toArray, List.set_cons_zero, List.set_cons_succ, qAo, i32_w]
      rfl
     refine qAx (i := 6) (N := some 23) (v := ?_) (a' := ?_) (mK 38 111) rfl rfl (qAj HT_.o (by kernel_rfl)) (fun _ _ _ h => h) (Or.inl ⟨by rfl, ?_⟩) ?_ ?_
     rotate_left
     ·intro w'
      go_simp
      with_reducible rfl
     rotate_left
     ·simp only [Act.put, List.setIfInBounds_toArray, List.set_cons_zero, List.set_cons_succ, qAo, i32_w]
      rfl
     refine qAx (i := 7) (N := some 24) (v := ?_) (a' := ?_) (mK 38 239) rfl rfl (qAj HT_.o (by kernel_rfl)) (fun _ _ _ h => h) (Or.inl ⟨by rfl, ?_⟩) ?_ ?_
     rotate_left
     ·intro w'
      go_simp
      with_reducible rfl
     rotate_left
     ·simp only [Act.put, List.setIfInBounds_toArray, List.set_cons_zero, List.set_cons_succ, qAo, i32_w]
      rfl
     refine qAx (i := 8) (N := some 25) (v := ?_) (a' := ?_) (mK 38 495) rfl rfl (qAj HT_.o (by kernel_rfl)) (fun _ _ _ h => h) (Or.inl ⟨by rfl, ?_⟩) ?_ ?_
     rotate_left
     ·intro w'
      go_simp
      with_reducible rfl
     rotate_left
     ·simp only [Act.put, List.setIfInBounds_toArray, List.set_cons_zero, List.set_cons_succ, qAo, i32_w]
      rfl
     refine qBQ (i := 4) (N := some 21) (v := ?_) (a' := ?_) (mK 38 511) rfl rfl (qAK HT_.o HW_.o (by kernel_rfl)) (fun _ _ _ h => h) (Or.inl ⟨by rfl, ?_⟩) hHeld ?_ ?_
     rotate_left
     ·rintro w' ⟨s0, s1, s2, s3, s4, s5, s6, s7, s8, s9, s10, s11, s12, s13, s14, s15⟩
      go_simp
      with_reducible rfl
     rotate_left
     ·simp only [Act.put, List.setIfInBounds_toArray, List.set_cons_zero, List.set_cons_succ, qAo, i32_w]
      rfl
     refine qBQ (i := 9) (N := some 26) (v := ?_) (a' := ?_) (mK 38 1023) rfl rfl (qAK HT_.o HW_.o (by kernel_rfl)) (fun _ _ _ h => h) (Or.inl ⟨by rfl, ?_⟩) hHeld ?_ ?_
     rotate_left
     ·rintro w' ⟨s0, s1, s2, s3, s4, s5, s6, s7, s8, s9, s10, s11, s12, s13, s14, s15⟩
      go_simp
      with_reducible rfl
     rotate_left
     ·simp only [Act.put, List.setIfInBounds_toArray, List.set_cons_zero, List.set_cons_succ, qAo, i32_w]
      rfl
     refine qAx (i := 10) (N := some 27) (v := ?_) (a' := ?_) (mK 38 2047) rfl rfl (qAj HT_.o (by kernel_rfl)) (fun _ _ _ h => h) (Or.inl ⟨by rfl, ?_⟩) ?_ ?_
     rotate_left
     ·intro w'
      go_simp
      with_reducible rfl
     rotate_left
     ·simp only [Act.put, List.setIfInBounds_toArray, List.set_cons_zero, List.set_cons_succ, qAo, i32_w]
      rfl
     refine qAx (i := 11) (N := some 28) (v := ?_) (a' := ?_) (mK 38 4095) rfl rfl (qAj HT_.o (by kernel_rfl)) (fun _ _ _ h => h) (Or.inl ⟨by rfl, ?_⟩) ?_ ?_
     rotate_left
     ·intro w'
      go_simp
      with_reducible rfl
     rotate_left
     ·simp only [Act.put, List.setIfInBounds_toArray, List.set_cons_zero, List.set_cons_succ, qAo, i32_w]
      rfl
     refine qAx (i := 12) (N := some 29) (v := ?_) (a' := ?_) (mK 38 8191) rfl rfl (qAj HT_.o (by kernel_rfl)) (fun _ _ _ h => h) (Or.inl ⟨by rfl, ?_⟩) ?_ ?_
     rotate_left
     ·intro w'
      go_simp
      with_reducible rfl
     rotate_left
     ·simp only [Act.put, List.setIfInBounds_toArray, List.set_cons_zero, List.set_cons_succ, qAo, i32_w]
      rfl
     refine qAx (i := 13) (N := some 30) (v := ?_) (a' := ?_) (mK 38 16383) rfl rfl (qAj HT_.o (by kernel_rfl)) (fun _ _ _ h => h) (Or.inl ⟨by rfl, ?_⟩) ?_ ?_
     rotate_left
     ·intro w'
      go_simp
      with_reducible rfl
     rotate_left
     ·simp only [Act.put, List.setIfInBounds_toArray, List.set_cons_zero, List.set_cons_succ, qAo, i32_w]
      rfl
     refine qAx (i := 14) (N := some 31) (v := ?_) (a' := ?_) (mK 38 32767) rfl rfl (qAj HT_.o (by kernel_rfl)) (fun _ _ _ h => h) (Or.inl ⟨by rfl, ?_⟩) ?_ ?_
     rotate_left
     ·intro w'
      go_simp
      with_reducible rfl
     rotate_left
     ·simp only [Act.put, List.setIfInBounds_toArray, List.set_cons_zero, List.set_cons_succ, qAo, i32_w]
      rfl
     refine qAx (i := 15) (N := some 32) (v := ?_) (a' := ?_) (mK 38 65535) rfl rfl (qAj HT_.o (by kernel_rfl)) (fun _ _ _ h => h) (Or.inl ⟨by rfl, ?_⟩) ?_ ?_
     rotate_left
     ·intro w'
      go_simp
      with_reducible rfl
     rotate_left
     ·simp only [Act.put, List.setIfInBounds_toArray, List.set_cons_zero, List.set_cons_succ, qAo, i32_w]
      rfl
     refine qAx (i := 17) (N := some 34) (v := ?_) (a' := ?_) (mK 38 196607) rfl rfl (qAj HT_.o (by kernel_rfl)) (fun _ _ _ h => h) (Or.inl ⟨by rfl, ?_⟩) ?_ ?_
     rotate_left
     ·intro w'
      go_simp
      with_reducible rfl
     rotate_left
     ·simp only [Act.put, List.setIfInBounds_toArray, List.set_cons_zero, List.set_cons_succ, qAo, i32_w]
      rfl
     refine qAx (i := 18) (N := some 35) (v := ?_) (a' := ?_) (mK 38 458751) rfl rfl (qAj HT_.o (by kernel_rfl)) (fun _ _ _ h => h) (Or.inl ⟨by rfl, ?_⟩) ?_ ?_
     rotate_left
     ·intro w'
      go_simp
      with_reducible rfl
     rotate_left
     ·simp only [Act.put, List.setIfInBounds_toArray, List.set_cons_zero, List.set_cons_succ, qAo, i32_w]
      rfl
     refine qAx (i := 19) (N := some 36) (v := ?_) (a' := ?_) (mK 38 983039) rfl rfl (qAj HT_.o (by kernel_rfl)) (fun _ _ _ h => h) (Or.inl ⟨by rfl, ?_⟩) ?_ ?_
     rotate_left
     ·intro w'
      go_simp
      with_reducible rfl
     rotate_left
     ·simp only [Act.put, List.setIfInBounds_toArray, List.set_cons_zero, List.set_cons_succ, qAo, i32_w]
      rfl
     refine qAx (i := 20) (N := some 37) (v := ?_) (a' := ?_) (mK 38 2031615) rfl rfl (qAj HT_.o (by kernel_rfl)) (fun _ _ _ h => h) (Or.inl ⟨by rfl, ?_⟩) ?_ ?_
     rotate_left
     ·intro w'
      go_simp
      with_reducible rfl
     rotate_left
     ·simp only [Act.put, List.setIfInBounds_toArray, List.set_cons_zero, List.set_cons_succ, qAo, i32_w]
      rfl
     refine qBQ (i := 16) (N := some 33) (v := ?_) (a' := ?_) (mK 38 2097151) rfl rfl (qAK HT_.o HW_.o (by kernel_rfl)) (fun _ _ _ h => h) (Or.inl ⟨by rfl, ?_⟩) hHeld ?_ ?_
     rotate_left
     ·rintro w' ⟨s0, s1, s2, s3, s4, s5, s6, s7, s8, s9, s10, s11, s12, s13, s14, s15⟩
      go_simp
      with_reducible rfl
     rotate_left
     ·simp only [Act.put, List.setIfInBounds_toArray, List.set_cons_zero, List.set_cons_succ, qAo, i32_w]
      rfl
     refine qBQ (i := 21) (N := some 38) (v := ?_) (a' := ?_) (mK 38 4194303) rfl rfl (qAK HT_.o HW_.o (by kernel_rfl)) (fun _ _ _ h => h) (Or.inl ⟨by rfl, ?_⟩) hHeld ?_ ?_
     rotate_left
     ·rintro w' ⟨s0, s1, s2, s3, s4, s5, s6, s7, s8, s9, s10, s11, s12, s13, s14, s15⟩
      go_simp
      with_reducible rfl
     rotate_left
     ·simp only [Act.put, List.setIfInBounds_toArray, List.set_cons_zero, List.set_cons_succ, qAo, i32_w]
      rfl
     refine qAx (i := 22) (N := some 39) (v := ?_) (a' := ?_) (mK 38 8388607) rfl rfl (qAj HT_.o (by kernel_rfl)) (fun _ _ _ h => h) (Or.inl ⟨by rfl, ?_⟩) ?_ ?_
     rotate_left
     ·intro w'
      go_simp
      with_reducible rfl
     rotate_left
     ·simp only [Act.put, List.setIfInBounds_toArray, List.set_cons_zero, List.set_cons_succ, qAo, i32_w]
      rfl
     refine qAx (i := 23) (N := some 40) (v := ?_) (a' := ?_) (mK 38 16777215) rfl rfl (qAj HT_.o (by kernel_rfl)) (fun _ _ _ h => h) (Or.inl ⟨by rfl, ?_⟩) ?_ ?_
     rotate_left
     ·intro w'
      go_simp
      with_reducible rfl
     rotate_left
     ·simp only [Act.put, List.setIfInBounds_toArray, List.set_cons_zero, List.set_cons_succ, qAo, i32_w]
      rfl
     refine qAx (i := 24) (N := some 41) (v := ?_) (a' := ?_) (mK 38 33554431) rfl rfl (qAj HT_.o (by kernel_rfl)) (fun _ _ _ h => h) (Or.inl ⟨by rfl, ?_⟩) ?_ ?_
     rotate_left
     ·intro w'
      go_simp
      with_reducible rfl
     rotate_left
     ·simp only [Act.put, List.setIfInBounds_toArray, List.set_cons_zero, List.set_cons_succ, qAo, i32_w]
      rfl
     refine qAx (i := 25) (N := some 42) (v := undef) (a' := ?_) (mK 38 67108863) rfl rfl (qAj HT_.o (by kernel_rfl)) (fun _ _ _ h => h) (Or.inr ⟨by rfl, rfl⟩) ?_ ?_
     rotate_left
     ·simp only [Act.put, List.setIfInBounds_toArray, List.set_cons_zero, List.set_cons_succ, qAo, i32_w]
      rfl
     refine qAx (i := 26) (N := some 43) (v := undef) (a' := ?_) (mK 38 134217727) rfl rfl (qAj HT_.o (by kernel_rfl)) (fun _ _ _ h => h) (Or.inr ⟨by rfl, rfl⟩) ?_ ?_
     rotate_left
     ·simp only [Act.put, List.setIfInBounds_toArray, List.set_cons_zero, List.set_cons_succ, qAo, i32_w]
      rfl
     refine qAx (i := 27) (N := some 44) (v := undef) (a' := ?_) (mK 38 268435455) rfl rfl (qAj HT_.o (by kernel_rfl)) (fun _ _ _ h => h) (Or.inr ⟨by rfl, rfl⟩) ?_ ?_
     rotate_left
     ·simp only [Act.put, List.setIfInBounds_toArray, List.set_cons_zero, List.set_cons_succ, qAo, i32_w]
      rfl
     refine qAx (i := 28) (N := some 45) (v := undef) (a' := ?_) (mK 38 536870911) rfl rfl (qAj HT_.o (by kernel_rfl)) (fun _ _ _ h => h) (Or.inr ⟨by rfl, rfl⟩) ?_ ?_
     rotate_left
     ·simp only [Act.put, List.setIfInBounds_toArray, List.set_cons_zero, List.set_cons_succ, qAo, i32_w]
      rfl
     refine qAx (i := 29) (N := some 46) (v := undef) (a' := ?_) (mK 38 1073741823) rfl rfl (qAj HT_.o (by kernel_rfl)) (fun _ _ _ h => h) (Or.inr ⟨by rfl, rfl⟩) ?_ ?_
     rotate_left
     ·simp only [Act.put, List.setIfInBounds_toArray, List.set_cons_zero, List.set_cons_succ, qAo, i32_w]
      rfl
     refine qAx (i := 30) (N := some 47) (v := undef) (a' := ?_) (mK 38 2147483647) rfl rfl (qAj HT_.o (by kernel_rfl)) (fun _ _ _ h => h) (Or.inr ⟨by rfl, rfl⟩) ?_ ?_
     rotate_left
     ·simp only [Act.put, List.setIfInBounds_toArray, List.set_cons_zero, List.set_cons_succ, qAo, i32_w]
      rfl
     refine qAx (i := 31) (N := some 48) (v := undef) (a' := ?_) (mK 38 4294967295) rfl rfl (qAj HT_.o (by kernel_rfl)) (fun _ _ _ h => h) (Or.inr ⟨by rfl, rfl⟩) ?_ ?_
     rotate_left
     ·simp only [Act.put, List.setIfInBounds_toArray, List.set_cons_zero, List.set_cons_succ, qAo, i32_w]
      rfl
     refine qAx (i := 32) (N := some 49) (v := undef) (a' := ?_) (mK 38 8589934591) rfl rfl (qAj HT_.o (by kernel_rfl)) (fun _ _ _ h => h) (Or.inr ⟨by rfl, rfl⟩) ?_ ?_
     rotate_left
     ·simp only [Act.put, List.setIfInBounds_toArray, List.set_cons_zero, List.set_cons_succ, qAo, i32_w]
      rfl
     refine qAx (i := 33) (N := some 50) (v := undef) (a' := ?_) (mK 38 17179869183) rfl rfl (qAj HT_.o (by kernel_rfl)) (fun _ _ _ h => h) (Or.inr ⟨by rfl, rfl⟩) ?_ ?_
     rotate_left
     ·simp only [Act.put, List.setIfInBounds_toArray, List.set_cons_zero, List.set_cons_succ, qAo, i32_w]
      rfl
     refine qAx (i := 34) (N := some 51) (v := undef) (a' := ?_) (mK 38 34359738367) rfl rfl (qAj HT_.o (by kernel_rfl)) (fun _ _ _ h => h) (Or.inr ⟨by rfl, rfl⟩) ?_ ?_
     rotate_left
     ·simp only [Act.put, List.setIfInBounds_toArray, List.set_cons_zero, List.set_cons_succ, qAo, i32_w]
      rfl
     refine qAx (i := 35) (N := some 52) (v := undef) (a' := ?_) (mK 38 68719476735) rfl rfl (qAj HT_.o (by kernel_rfl)) (fun _ _ _ h => h) (Or.inr ⟨by rfl, rfl⟩) ?_ ?_
     rotate_left
     ·simp only [Act.put, List.setIfInBounds_toArray, List.set_cons_zero, List.set_cons_succ, qAo, i32_w]
      rfl
     refine qAx (i := 36) (N := some 53) (v := undef) (a' := ?_) (mK 38 137438953471) rfl rfl (qAj HT_.o (by kernel_rfl)) (fun _ _ _ h => h) (Or.inr ⟨by rfl, rfl⟩) ?_ ?_
     rotate_left
     ·simp only [Act.put, List.setIfInBounds_toArray, List.set_cons_zero, List.set_cons_succ, qAo, i32_w]
      rfl
     refine qAx (i := 37) (N := some 54) (v := ?_) (a' := ?_) (mK 38 274877906943) rfl rfl (qAj HT_.o (by kernel_rfl)) (fun _ _ _ h => h) (Or.inl ⟨by rfl, ?_⟩) ?_ ?_
     rotate_left
     ·intro w'
      go_simp
      with_reducible rfl
     rotate_left
     ·simp only [Act.put, List.setIfInBounds_toArray, List.set_cons_zero, List.set_cons_succ, qAo, i32_w]
      rfl
     refine done_ (qC9 HT_.o (by kernel_rfl)) ?_
     try go_wp2
     go_ret
     exact ⟨by first | rfl | (simp [errW_none, errW_some] <;> rfl) | (simp [*, errW_none, errW_some] <;> rfl), by repeat (first | (with_reducible first | exact HB.o | apply qAb | apply qAa | apply qAd) | exact HB.o)⟩
    rw [if_pos c8] at H
    have bC : (((qAl l0 aA).f1) == ((qAu l1 aA).f1)) = true := beq_iff_eq.mpr c8
    have bD : (((qAl l0 aA).f1) != ((qAu l1 aA).f1)) = false := bn c8
    clear c8
    replace H := bm H
    obtain ⟨ar, bE, H⟩ := H
    replace H : (if ar = true then (qAe.l0 k1 l0 l1 (wrap64 (aA + 1))) else (some false)) = some r := H
    have A9 := am bE
    clear bE
    by_cases c10 : ar = true
    rotate_left
    ·replace c10 := Bool.eq_false_iff.mpr c10
     subst c10
     replace H : (some false) = some r := by rw [if_neg (show ¬ (false = true) by decide)] at H; exact H
     obtain rfl := Option.some.inj H
     try go_wp2
     have n0_ := am (qAd HB.o)
     clear HB
     have HB := n0_
     clear n0_
     have a4 : 0 ≤ (aA : Int) := of_decide_eq_true (by first | (with_reducible assumption) | assumption)
     have a6 : aA < (l0.length : Int) := of_decide_eq_true (by first | (with_reducible assumption) | assumption)
     obtain ⟨aB, ae, aD, aE, aF, aG⟩ := qBn ap.o aA a4 a6
     have hw802_3 := aG
     have hw802_2 := aF
     have hw802_1 := aE
     have hw802_0 := aD
     cases ae
     replace aD := (HB.o.cell (World.block_lt_of_cell? w _ aD)).trans aD
     replace aE := (HB.o.cell (World.block_lt_of_cell? w _ aE)).trans aE
     replace aF := (HB.o.cell (World.block_lt_of_cell? w _ aF)).trans aF
     replace aG := (HB.o.cell (World.block_lt_of_cell? w _ aG)).trans aG
     replace a4 := eq_true a4
     replace a6 := eq_true a6
     have a5 : 0 ≤ (aA : Int) := of_decide_eq_true (by first | (with_reducible assumption) | assumption)
     have a7 : aA < (l1.length : Int) := of_decide_eq_true (by first | (with_reducible assumption) | assumption)
     obtain ⟨aC, af, aH, aI, aJ, aK⟩ := qBE aq.o aA a5 a7
     have hw803_3 := aK
     have hw803_2 := aJ
     have hw803_1 := aI
     have hw803_0 := aH
     cases af
     replace aH := (HB.o.cell (World.block_lt_of_cell? w _ aH)).trans aH
     replace aI := (HB.o.cell (World.block_lt_of_cell? w _ aI)).trans aI
     replace aJ := (HB.o.cell (World.block_lt_of_cell? w _ aJ)).trans aJ
     replace aK := (HB.o.cell (World.block_lt_of_cell? w _ aK)).trans aK
     replace a5 := eq_true a5
     replace a7 := eq_true a7
     have a8 : 0 ≤ (aA : Int) := of_decide_eq_true (by first | (with_reducible assumption) | assumption)
     have aa : aA < (l0.length : Int) := of_decide_eq_true (by first | (with_reducible assumption) | assumption)
     obtain ⟨ac, an, aL, aM, aN, aO⟩ := qBn ap.o aA a8 aa
     have hw804_3 := aO
     have hw804_2 := aN
     have hw804_1 := aM
     have hw804_0 := aL
     obtain rfl : aB = ac := (by injection an)
     replace aL := (HB.o.cell (World.block_lt_of_cell? w _ aL)).trans aL
     replace aM := (HB.o.cell (World.block_lt_of_cell? w _ aM)).trans aM
     replace aN := (HB.o.cell (World.block_lt_of_cell? w _ aN)).trans aN
     replace aO := (HB.o.cell (World.block_lt_of_cell? w _ aO)).trans aO
     replace a8 := eq_true a8
     replace aa := eq_true aa
     have a9 : 0 ≤ (aA : Int) := of_decide_eq_true (by first | (with_reducible assumption) | assumption)
     have ab : aA < (l1.length : Int) := of_decide_eq_true (by first | (with_reducible assumption) | assumption)
     obtain ⟨ad, ao, aP, aQ, aR, aS⟩ := qBE aq.o aA a9 ab
     have hw805_3 := aS
     have hw805_2 := aR
     have hw805_1 := aQ
     have hw805_0 := aP
     obtain rfl : aC = ad := (by injection ao)
     replace aP := (HB.o.cell (World.block_lt_of_cell? w _ aP)).trans aP
     replace aQ := (HB.o.cell (World.block_lt_of_cell? w _ aQ)).trans aQ
     replace aR := (HB.o.cell (World.block_lt_of_cell? w _ aR)).trans aR
     replace aS := (HB.o.cell (World.block_lt_of_cell? w _ aS)).trans aS
     replace a9 := eq_true a9
     replace ab := eq_true ab
     have ag : 0 ≤ (aA : Int) := of_decide_eq_true (by first | (with_reducible assumption) | assumption)
     have ai : aA < (l0.length : Int) := of_decide_eq_true (by first | (with_reducible assumption) | assumption)
     obtain ⟨ak, au, aT, aU, aV, aW⟩ := qBn ap.o aA ag ai
     have hw806_3 := aW
     have hw806_2 := aV
     have hw806_1 := aU
     have hw806_0 := aT
     obtain rfl : aB = ak := (by injection au)
     replace aT := (HB.o.cell (World.block_lt_of_cell? w _ aT)).trans aT
     replace aU := (HB.o.cell (World.block_lt_of_cell? w _ aU)).trans aU
     replace aV := (HB.o.cell (World.block_lt_of_cell? w _ aV)).trans aV
     replace aW := (HB.o.cell (World.block_lt_of_cell? w _ aW)).trans aW
     replace ag := eq_true ag
     replace ai := eq_true ai
     have ah : 0 ≤ (aA : Int) := of_decide_eq_true (by first | (with_reducible assumption) | assumption)
     have aj : aA < (l1.length : Int) := of_decide_eq_true (by first | (with_reducible assumption) | assumption)
     obtain ⟨al, av, aX, aY, aZ, a3⟩ := qBE aq.o aA ah aj
     have hw807_3 := a3
     have hw807_2 := aZ
     have hw807_1 := aY
     have hw807_0 := aX
     obtain rfl : aC = al := (by injection av)
     replace aX := (HB.o.cell (World.block_lt_of_cell? w _ aX)).trans aX
     replace aY := (HB.o.cell (World.block_lt_of_cell? w _ aY)).trans aY
     replace aZ := (HB.o.cell (World.block_lt_of_cell? w _ aZ)).trans aZ
     replace a3 := (HB.o.cell (World.block_lt_of_cell? w _ a3)).trans a3
     replace ah := eq_true ah
     replace aj := eq_true aj
     refine start_ (n := 38) (S := fun w' => w'.cell? (aB.add ((aA).toNat * 4)) = some (.int .i64 ((qAl l0 aA).f0)) ∧ w'.cell? ⟨(aB.add ((aA).toNat * 4)).block, (aB.add ((aA).toNat * 4)).off + 1, none⟩ = some (.int .i64 ((qAl l0 aA).f1)) ∧ w'.cell? ⟨(aB.add ((aA).toNat * 4)).block, (aB.add ((aA).toNat * 4)).off + 2, none⟩ = some (.int .i64 ((qAl l0 aA).f2.f0)) ∧ w'.cell? ⟨(aB.add ((aA).toNat * 4)).block, (aB.add ((aA).toNat * 4)).off + 3, none⟩ = some (.int .u64 ((qAl l0 aA).f2.f1)) ∧ w'.cell? (aC.add ((aA).toNat * 4)) = some (.int .i64 ((qAu l1 aA).f0)) ∧ w'.cell? ⟨(aC.add ((aA).toNat * 4)).block, (aC.add ((aA).toNat * 4)).off + 1, none⟩ = some (.int .i64 ((qAu l1 aA).f1)) ∧ w'.cell? ⟨(aC.add ((aA).toNat * 4)).block, (aC.add ((aA).toNat * 4)).off + 2, none⟩ = some (.int .i64 ((qAu l1 aA).f2.f0)) ∧ w'.cell? ⟨(aC.add ((aA).toNat * 4)).block, (aC.add ((aA).toNat * 4)).off + 3, none⟩ = some (.int .u64 ((qAu l1 aA).f2.f1)) ∧ w'.cell? (aB.add ((aA).toNat * 4)) = some (.int .i64 ((qAl l0 aA).f0)) ∧ w'.cell? ⟨(aB.add ((aA).toNat * 4)).block, (aB.add ((aA).toNat * 4)).off + 1, none⟩ = some (.int .i64 ((qAl l0 aA).f1)) ∧ w'.cell? ⟨(aB.add ((aA).toNat * 4)).block, (aB.add ((aA).toNat * 4)).off + 2, none⟩ = some (.int .i64 ((qAl l0 aA).f2.f0)) ∧ w'.cell? ⟨(aB.add ((aA).toNat * 4)).block, (aB.add ((aA).toNat * 4)).off + 3, none⟩ = some (.int .u64 ((qAl l0 aA).f2.f1)) ∧ w'.cell? (aC.add ((aA).toNat * 4)) = some (.int .i64 ((qAu l1 aA).f0)) ∧ w'.cell? ⟨(aC.add ((aA).toNat * 4)).block, (aC.add ((aA).toNat * 4)).off + 1, none⟩ = some (.int .i64 ((qAu l1 aA).f1)) ∧ w'.cell? ⟨(aC.add ((aA).toNat * 4)).block, (aC.add ((aA).toNat * 4)).off + 2, none⟩ = some (.int .i64 ((qAu l1 aA).f2.f0)) ∧ w'.cell? ⟨(aC.add ((aA).toNat * 4)).block, (aC.add ((aA).toNat * 4)).off + 3, none⟩ = some (.int .u64 ((qAu l1 aA).f2.f1)) ∧ w'.cell? (aB.add ((aA).toNat * 4)) = some (.int .i64 ((qAl l0 aA).f0)) ∧ w'.cell? ⟨(aB.add ((aA).toNat * 4)).block, (aB.add ((aA).toNat * 4)).off + 1, none⟩ = some (.int .i64 ((qAl l0 aA).f1)) ∧ w'.cell? ⟨(aB.add ((aA).toNat * 4)).block, (aB.add ((aA).toNat * 4)).off + 2, none⟩ = some (.int .i64 ((qAl l0 aA).f2.f0)) ∧ w'.cell? ⟨(aB.add ((aA).toNat * 4)).block, (aB.add ((aA).toNat * 4)).off + 3, none⟩ = some (.int .u64 ((qAl l0 aA).f2.f1)) ∧ w'.cell? (aC.add ((aA).toNat * 4)) = some (.int .i64 ((qAu l1 aA).f0)) ∧ w'.cell? ⟨(aC.add ((aA).toNat * 4)).block, (aC.add ((aA).toNat * 4)).off + 1, none⟩ = some (.int .i64 ((qAu l1 aA).f1)) ∧ w'.cell? ⟨(aC.add ((aA).toNat * 4)).block, (aC.add ((aA).toNat * 4)).off + 2, none⟩ = some (.int .i64 ((qAu l1 aA).f2.f0)) ∧ w'.cell? ⟨(aC.add ((aA).toNat * 4)).block, (aC.add ((aA).toNat * 4)).off + 3, none⟩ = some (.int .u64 ((qAu l1 aA).f2.f1))) (ds := []) (mK 38 0) (by kernel_rfl) rfl rfl ⟨((HB.o.cell (World.block_lt_of_cell? w _ hw802_0)).trans hw802_0), ((HB.o.cell (World.block_lt_of_cell? w _ hw802_1)).trans hw802_1), ((HB.o.cell (World.block_lt_of_cell? w _ hw802_2)).trans hw802_2), ((HB.o.cell (World.block_lt_of_cell? w _ hw802_3)).trans hw802_3), ((HB.o.cell (World.block_lt_of_cell? w _ hw803_0)).trans hw803_0), ((HB.o.cell (World.block_lt_of_cell? w _ hw803_1)).trans hw803_1), ((HB.o.cell (World.block_lt_of_cell? w _ hw803_2)).trans hw803_2), ((HB.o.cell (World.block_lt_of_cell? w _ hw803_3)).trans hw803_3), ((HB.o.cell (World.block_lt_of_cell? w _ hw804_0)).trans hw804_0), ((HB.o.cell (World.block_lt_of_cell? w _ hw804_1)).trans hw804_1), ((HB.o.cell (World.block_lt_of_cell? w _ hw804_2)).trans hw804_2), ((HB.o.cell (World.block_lt_of_cell? w _ hw804_3)).trans hw804_3), ((HB.o.cell (World.block_lt_of_cell? w _ hw805_0)).trans hw805_0), ((HB.o.cell (World.block_lt_of_cell? w _ hw805_1)).trans hw805_1), ((HB.o.cell (World.block_lt_of_cell? w _ hw805_2)).trans hw805_2), ((HB.o.cell (World.block_lt_of_cell? w _ hw805_3)).trans hw805_3), ((HB.o.cell (World.block_lt_of_cell? w _ hw806_0)).trans hw806_0), ((HB.o.cell (World.block_lt_of_cell? w _ hw806_1)).trans hw806_1), ((HB.o.cell (World.block_lt_of_cell? w _ hw806_2)).trans hw806_2), ((HB.o.cell (World.block_lt_of_cell? w _ hw806_3)).trans hw806_3), ((HB.o.cell (World.block_lt_of_cell? w _ hw807_0)).trans hw807_0), ((HB.o.cell (World.block_lt_of_cell? w _ hw807_1)).trans hw807_1), ((HB.o.cell (World.block_lt_of_cell? w _ hw807_2)).trans hw807_2), ((HB.o.cell (World.block_lt_of_cell? w _ hw807_3)).trans hw807_3)⟩ (fun hHeld => ?_); refine qBM qAe.tab6 qAe.bits6 (fun HT_ HW_ => ?_)
     generalize wr.drew = bM at HB aD aE aF aG aH aI aJ aK aL aM aN aO aP aQ aR aS aT aU aV aW aX aY aZ a3 hHeld ⊢
     refine qAx (i := 0) (N := some 17) (v := ?_) (a' := ?_) (mK 38 1) rfl rfl (qAj HT_.o (by kernel_rfl)) (fun _ _ _ h => h) (Or.inl ⟨by rfl, ?_⟩) ?_ ?_
     rotate_left
     ·intro w'
      go_simp
      with_reducible rfl
     rotate_left
     ·simp only [Act.put, List.setIfInBounds_toArray, List.set_cons_zero, List.set_cons_succ, qAo, i32_w]
      rfl
     refine qAx (i := 1) (N := some 18) (v := ?_) (a' := ?_) (mK 38 3) rfl rfl (qAj HT_.o (by kernel_rfl)) (fun _ _ _ h => h) (Or.inl ⟨by rfl, ?_⟩) ?_ ?_
     rotate_left
     ·intro w'
      go_simp
      with_reducible rfl
     rotate_left
     ·simp only [Act.put, List.setIfInBounds_toArray, List.set_cons_zero, List.set_cons_succ, qAo, i32_w]
      rfl
     refine qAx (i := 2) (N := some 19) (v := ?_) (a' := ?_) (mK 38 7) rfl rfl (qAj HT_.o (by kernel_rfl)) (fun _ _ _ h => h) (Or.inl ⟨by rfl, ?_⟩) ?_ ?_
     rotate_left
     ·intro w'
      go_simp
      with_reducible rfl
     rotate_left
     ·simp only [Act.put, List.setIfInBounds_toArray, List.set_cons_zero, List.set_cons_succ, qAo, i32_w]
      rfl
     refine qAx (i := 3) (N := some 20) (v := ?_) (a' := ?_) (mK 38 15) rfl rfl (qAj HT_.o (by kernel_rfl)) (fun _ _ _ h => h) (Or.inl ⟨by rfl, ?_⟩) ?_ ?_
     rotate_left
     ·intro w'
      go_simp
      with_reducible rfl
     rotate_left
     ·simp only [Act.put, List.setIfInBounds_toArray, List.set_cons_zero, List.set_cons_succ, qAo, i32_w]
      rfl
     refine qAx (i := 5) (N := some 22) (v := ?_) (a' := ?_) (mK 38 47) rfl rfl (qAj HT_.o (by kernel_rfl)) (fun _ _ _ h => h) (Or.inl ⟨by rfl, ?_⟩) ?_ ?_
     rotate_left
     ·intro w'
      go_simp
      with_reducible rfl
     rotate_left
     ·simp only [Act.put, List.setIfInBounds_toArray, List.set_cons_zero, List.set_cons_succ, qAo, i32_w]
      rfl
     refine qAx (i := 6) (N := some 23) (v := ?_) (a' := ?_) (mK 38 111) rfl rfl (qAj HT_.o (by kernel_rfl)) (fun _ _ _ h => h) (Or.inl ⟨by rfl, ?_⟩) ?_ ?_
     rotate_left
     ·intro w'
      go_simp
      with_reducible rfl
     rotate_left
     ·simp only [Act.put, List.setIfInBounds_toArray, List.set_cons_zero, List.set_cons_succ, qAo, i32_w]
      rfl
     refine qAx (i := 7) (N := some 24) (v := ?_) (a' := ?_) (mK 38 239) rfl rfl (qAj HT_.o (by kernel_rfl)) (fun _ _ _ h => h) (Or.inl ⟨by rfl, ?_⟩) ?_ ?_
     rotate_left
     ·intro w'
      go_simp
      with_reducible rfl
     rotate_left
     ·simp only [Act.put, List.setIfInBounds_toArray, List.set_cons_zero, List.set_cons_succ, qAo, i32_w]
      rfl
     refine qAx (i := 8) (N := some 25) (v := ?_) (a' := ?_) (mK 38 495) rfl rfl (qAj HT_.o (by kernel_rfl)) (fun _ _ _ h => h) (Or.inl ⟨by rfl, ?_⟩) ?_ ?_
     rotate_left
     ·intro w'
      go_simp
      with_reducible rfl
     rotate_left
     ·simp only [Act.put, List.setIfInBounds_toArray, List.set_cons_zero, List.set_cons_succ, qAo, i32_w]
      rfl
     refine qBQ (i := 4) (N := some 21) (v := ?_) (a' := ?_) (mK 38 511) rfl rfl (qAK HT_.o HW_.o (by kernel_rfl)) (fun _ _ _ h => h) (Or.inl ⟨by rfl, ?_⟩) hHeld ?_ ?_
     rotate_left
     ·rintro w' ⟨s0, s1, s2, s3, s4, s5, s6, s7, s8, s9, s10, s11, s12, s13, s14, s15, s16, s17, s18, s19, s20, s21, s22, s23⟩
      go_simp
      with_reducible rfl
     rotate_left
     ·simp only [Act.put, List.setIfInBounds_toArray, List.set_cons_zero, List.set_cons_succ, qAo, i32_w]
      rfl
     refine qBQ (i := 9) (N := some 26) (v := ?_) (a' := ?_) (mK 38 1023) rfl rfl (qAK HT_.o HW_.o (by kernel_rfl)) (fun _ _ _ h => h) (Or.inl ⟨by rfl, ?_⟩) hHeld ?_ ?_
     rotate_left
     ·rintro w' ⟨s0, s1, s2, s3, s4, s5, s6, s7, s8, s9, s10, s11, s12, s13, s14, s15, s16, s17, s18, s19, s20, s21, s22, s23⟩
      go_simp
      with_reducible rfl
     rotate_left
     ·simp only [Act.put, List.setIfInBounds_toArray, List.set_cons_zero, List.set_cons_succ, qAo, i32_w]
      rfl
     refine qAx (i := 10) (N := some 27) (v := ?_) (a' := ?_) (mK 38 2047) rfl rfl (qAj HT_.o (by kernel_rfl)) (fun _ _ _ h => h) (Or.inl ⟨by rfl, ?_⟩) ?_ ?_
     rotate_left
     ·intro w'
      go_simp
      with_reducible rfl
     rotate_left
     ·simp only [Act.put, List.setIfInBounds_toArray, List.set_cons_zero, List.set_cons_succ, qAo, i32_w]
      rfl
     refine qAx (i := 11) (N := some 28) (v := ?_) (a' := ?_) (mK 38 4095) rfl rfl (qAj HT_.o (by kernel_rfl)) (fun _ _ _ h => h) (Or.inl ⟨by rfl, ?_⟩) ?_ ?_
     rotate_left
     ·intro w'
      go_simp
      with_reducible rfl
     rotate_left
     ·simp only [Act.put, List.setIfInBounds_toArray, List.set_cons_zero, List.set_cons_succ, qAo, i32_w]
      rfl
     refine qAx (i := 12) (N := some 29) (v := ?_) (a' := ?_) (mK 38 8191) rfl rfl (qAj HT_.o (by kernel_rfl)) (fun _ _ _ h => h) (Or.inl ⟨by rfl, ?_⟩) ?_ ?_
     rotate_left
     ·intro w'
      go_simp
      with_reducible rfl
     rotate_left
     ·simp only [Act.put, List.setIfInBounds_toArray, List.set_cons_zero, List.set_cons_succ, qAo, i32_w]
      rfl
     refine qAx (i := 13) (N := some 30) (v := ?_) (a' := ?_) (mK 38 16383) rfl rfl (qAj HT_.o (by kernel_rfl)) (fun _ _ _ h => h) (Or.inl ⟨by rfl, ?_⟩) ?_ ?_
     rotate_left
     ·intro w'
      go_simp
      with_reducible rfl
     rotate_left
     ·simp only [Act.put, List.setIfInBounds_toArray, List.set_cons_zero, List.set_cons_succ, qAo, i32_w]
      rfl
     refine qAx (i := 14) (N := some 31) (v := ?_) (a' := ?_) (mK 38 32767) rfl rfl (qAj HT_.o (by kernel_rfl)) (fun _ _ _ h => h) (Or.inl ⟨by rfl, ?_⟩) ?_ ?_
     rotate_left
     ·intro w'
      go_simp
      with_reducible rfl
     rotate_left
     ·simp only [Act.put, List.setIfInBounds_toArray, List.set_cons_zero, List.set_cons_succ, qAo, i32_w]
      rfl
     refine qAx (i := 15) (N := some 32) (v := ?_) (a' := ?_) (mK 38 65535) rfl rfl (qAj HT_.o (by kernel_rfl)) (fun _ _ _ h => h) (Or.inl ⟨by rfl, ?_⟩) ?_ ?_
     rotate_left
     ·intro w'
      go_simp
      with_reducible rfl
     rotate_left
     ·simp only [Act.put, List.setIfInBounds_toArray, List.set_cons_zero, List.set_cons_succ, qAo, i32_w]
      rfl
     refine qAx (i := 17) (N := some 34) (v := ?_) (a' := ?_) (mK 38 196607) rfl rfl (qAj HT_.o (by kernel_rfl)) (fun _ _ _ h => h) (Or.inl ⟨by rfl, ?_⟩) ?_ ?_
     rotate_left
     ·intro w'
      go_simp
      with_reducible rfl
     rotate_left
     ·simp only [Act.put, List.setIfInBounds_toArray, List.set_cons_zero, List.set_cons_succ, qAo, i32_w]
      rfl
     refine qAx (i := 18) (N := some 35) (v := ?_) (a' := ?_) (mK 38 458751) rfl rfl (qAj HT_.o (by kernel_rfl)) (fun _ _ _ h => h) (Or.inl ⟨by rfl, ?_⟩) ?_ ?_
     rotate_left
     ·intro w'
      go_simp
      with_reducible rfl
     rotate_left
     ·simp only [Act.put, List.setIfInBounds_toArray, List.set_cons_zero, List.set_cons_succ, qAo, i32_w]
      rfl
     refine qAx (i := 19) (N := some 36) (v := ?_) (a' := ?_) (mK 38 983039) rfl rfl (qAj HT_.o (by kernel_rfl)) (fun _ _ _ h => h) (Or.inl ⟨by rfl, ?_⟩) ?_ ?_
     rotate_left
     ·intro w'
      go_simp
      with_reducible rfl
     rotate_left
     ·simp only [Act.put, List.setIfInBounds_toArray, List.set_cons_zero, List.set_cons_succ, qAo, i32_w]
      rfl
     refine qAx (i := 20) (N := some 37) (v := ?_) (a' := ?_) (mK 38 2031615) rfl rfl (qAj HT_.o (by kernel_rfl)) (fun _ _ _ h => h) (Or.inl ⟨by rfl, ?_⟩) ?_ ?_
     rotate_left
     ·intro w'
      go_simp
      with_reducible rfl
     rotate_left
     ·simp only [Act.put, List.setIfInBounds_toArray, List.set_cons_zero, List.set_cons_succ, qAo, i32_w]
      rfl
     refine qBQ (i := 16) (N := some 33) (v := ?_) (a' := ?_) (mK 38 2097151) rfl rfl (qAK HT_.o HW_.o (by kernel_rfl)) (fun _ _ _ h => h) (Or.inl ⟨by rfl, ?_⟩) hHeld ?_ ?_
     rotate_left
     ·rintro w' ⟨s0, s1, s2, s3, s4, s5, s6, s7, s8, s9, s10, s11, s12, s13, s14, s15, s16, s17, s18, s19, s20, s21, s22, s23⟩
      go_simp
      with_reducible rfl
     rotate_left
     ·simp only [Act.put, List.setIfInBounds_toArray, List.set_cons_zero, List.set_cons_succ, qAo, i32_w]
      rfl
     refine qBQ (i := 21) (N := some 38) (v := ?_) (a' := ?_) (mK 38 4194303) rfl rfl (qAK HT_.o HW_.o (by kernel_rfl)) (fun _ _ _ h => h) (Or.inl ⟨by rfl, ?_⟩) hHeld ?_ ?_
     rotate_left
     ·rintro w' ⟨s0, s1, s2, s3, s4, s5, s6, s7, s8, s9, s10, s11, s12, s13, s14, s15, s16, s17, s18, s19, s20, s21, s22, s23⟩
      go_simp
      with_reducible rfl
     rotate_left
     ·simp only [Act.put, List.setIfInBounds_toArray, List.set_cons_zero, List.set_cons_succ, qAo, i32_w]
      rfl
     refine qAx (i := 22) (N := some 39) (v := ?_) (a' := ?_) (mK 38 8388607) rfl rfl (qAj HT_.o (by kernel_rfl)) (fun _ _ _ h => h) (Or.inl ⟨by rfl, ?_⟩) ?_ ?_
     rotate_left
     ·intro w'
      go_simp
      with_reducible rfl
     rotate_left
     ·simp only [Act.put, List.setIfInBounds_toArray, List.set_cons_zero, List.set_cons_succ, qAo, i32_w]
      rfl
     refine qAx (i := 23) (N := some 40) (v := ?_) (a' := ?_) (mK 38 16777215) rfl rfl (qAj HT_.o (by kernel_rfl)) (fun _ _ _ h => h) (Or.inl ⟨by rfl, ?_⟩) ?_ ?_
     rotate_left
     ·intro w'
      go_simp
      with_reducible rfl
     rotate_left
     ·simp only [Act.put, List.setIfInBounds_toArray, List.set_cons_zero, List.set_cons_succ, qAo, i32_w]
      rfl
     refine qAx (i := 24) (N := some 41) (v := ?_) (a' := ?_) (mK 38 33554431) rfl rfl (qAj HT_.o (by kernel_rfl)) (fun _ _ _ h => h) (Or.inl ⟨by rfl, ?_⟩) ?_ ?_
     rotate_left
     ·intro w'
      go_simp
      with_reducible rfl
     rotate_left
     ·simp only [Act.put, List.setIfInBounds_toArray, List.set_cons_zero, List.set_cons_succ, qAo, i32_w]
      rfl
     refine qAx (i := 25) (N := some 42) (v := ?_) (a' := ?_) (mK 38 67108863) rfl rfl (qAj HT_.o (by kernel_rfl)) (fun _ _ _ h => h) (Or.inl ⟨by rfl, ?_⟩) ?_ ?_
     rotate_left
     ·intro w'
      go_simp
      with_reducible rfl
     rotate_left
     ·simp only [Act.put, List.setIfInBounds_toArray, List.set_cons_zero, List.set_cons_succ, qAo, i32_w]
      rfl
     refine qAx (i := 26) (N := some 43) (v := ?_) (a' := ?_) (mK 38 134217727) rfl rfl (qAj HT_.o (by kernel_rfl)) (fun _ _ _ h => h) (Or.inl ⟨by rfl, ?_⟩) ?_ ?_
     rotate_left
     ·intro w'
      go_simp
      with_reducible rfl
     rotate_left
     ·simp only [Act.put, List.setIfInBounds_toArray, List.set_cons_zero, List.set_cons_succ, qAo, i32_w]
      rfl
     refine qAx (i := 27) (N := some 44) (v := ?_) (a' := ?_) (mK 38 268435455) rfl rfl (qAj HT_.o (by kernel_rfl)) (fun _ _ _ h => h) (Or.inl ⟨by rfl, ?_⟩) ?_ ?_
     rotate_left
     ·intro w'
      go_simp
      with_reducible rfl
     rotate_left
     ·simp only [Act.put, List.setIfInBounds_toArray, List.set_cons_zero, List.set_cons_succ, qAo, i32_w]
      rfl
     refine qAx (i := 28) (N := some 45) (v := ?_) (a' := ?_) (mK 38 536870911) rfl rfl (qAj HT_.o (by kernel_rfl)) (fun _ _ _ h => h) (Or.inl ⟨by rfl, ?_⟩) ?_ ?_
     rotate_left
     ·intro w'
      go_simp
      with_reducible rfl
     rotate_left
     ·simp only [Act.put, List.setIfInBounds_toArray, List.set_cons_zero, List.set_cons_succ, qAo, i32_w]
      rfl
     refine qAx (i := 30) (N := some 47) (v := ?_) (a' := ?_) (mK 38 1610612735) rfl rfl (qAj HT_.o (by kernel_rfl)) (fun _ _ _ h => h) (Or.inl ⟨by rfl, ?_⟩) ?_ ?_
     rotate_left
     ·intro w'
      go_simp
      with_reducible rfl
     rotate_left
     ·simp only [Act.put, List.setIfInBounds_toArray, List.set_cons_zero, List.set_cons_succ, qAo, i32_w]
      rfl
     refine qAx (i := 31) (N := some 48) (v := ?_) (a' := ?_) (mK 38 3758096383) rfl rfl (qAj HT_.o (by kernel_rfl)) (fun _ _ _ h => h) (Or.inl ⟨by rfl, ?_⟩) ?_ ?_
     rotate_left
     ·intro w'
      go_simp
      with_reducible rfl
     rotate_left
     ·simp only [Act.put, List.setIfInBounds_toArray, List.set_cons_zero, List.set_cons_succ, qAo, i32_w]
      rfl
     refine qAx (i := 32) (N := some 49) (v := ?_) (a' := ?_) (mK 38 8053063679) rfl rfl (qAj HT_.o (by kernel_rfl)) (fun _ _ _ h => h) (Or.inl ⟨by rfl, ?_⟩) ?_ ?_
     rotate_left
     ·intro w'
      go_simp
      with_reducible rfl
     rotate_left
     ·simp only [Act.put, List.setIfInBounds_toArray, List.set_cons_zero, List.set_cons_succ, qAo, i32_w]
      rfl
     refine qAx (i := 33) (N := some 50) (v := ?_) (a' := ?_) (mK 38 16642998271) rfl rfl (qAj HT_.o (by kernel_rfl)) (fun _ _ _ h => h) (Or.inl ⟨by rfl, ?_⟩) ?_ ?_
     rotate_left
     ·intro w'
      go_simp
      with_reducible rfl
     rotate_left
     ·simp only [Act.put, List.setIfInBounds_toArray, List.set_cons_zero, List.set_cons_succ, qAo, i32_w]
      rfl
     refine qBQ (i := 29) (N := some 46) (v := ?_) (a' := ?_) (mK 38 17179869183) rfl rfl (qAK HT_.o HW_.o (by kernel_rfl)) (fun _ _ _ h => h) (Or.inl ⟨by rfl, ?_⟩) hHeld ?_ ?_
     rotate_left
     ·rintro w' ⟨s0, s1, s2, s3, s4, s5, s6, s7, s8, s9, s10, s11, s12, s13, s14, s15, s16, s17, s18, s19, s20, s21, s22, s23⟩
      go_simp
      with_reducible rfl
     rotate_left
     ·simp only [Act.put, List.setIfInBounds_toArray, List.set_cons_zero, List.set_cons_succ, qAo, i32_w]
      rfl
     refine qBQ (i := 34) (N := some 51) (v := ?_) (a' := ?_) (mK 38 34359738367) rfl rfl (qAK HT_.o HW_.o (by kernel_rfl)) (fun _ _ _ h => h) (Or.inl ⟨by rfl, ?_⟩) hHeld ?_ ?_
     rotate_left
     ·rintro w' ⟨s0, s1, s2, s3, s4, s5, s6, s7, s8, s9, s10, s11, s12, s13, s14, s15, s16, s17, s18, s19, s20, s21, s22, s23⟩
      go_simp
      with_reducible rfl
     rotate_left
     ·simp only [Act.put, List.setIfInBounds_toArray, List.set_cons_zero, List.set_cons_succ, qAo, i32_w]
      rfl
     refine one_ (i := 35) (N := some 52) (mK 38 68719476735) rfl rfl (qCL HT_.o (by kernel_rfl)) (by decide) (fun K hK => ?_)
     refine goes_ Tryz.func58 (by kernel_rfl) rfl #[.agg #[.int .i64 ((qAl l0 aA).f2.f0), .int .u64 ((qAl l0 aA).f2.f1)], .agg #[.int .i64 ((qAu l1 aA).f2.f0), .int .u64 ((qAu l1 aA).f2.f1)]] (by rfl) rfl rfl (by (try simp only [List.map_toArray, List.map_cons, List.map_nil]); first | done | rfl | (simp only [List.length_drop, List.length_take]; rfl)) ?_
     with_reducible refine (qAI.calls ((qAl l0 aA).f2.f0) ((qAl l0 aA).f2.f1) ((qAu l1 aA).f2.f0) ((qAu l1 aA).f2.f1) false _ A9.o).mono ?_
     rintro e bN ⟨rfl, hb⟩
     refine ⟨_, rfl, ?_⟩
     have n0_ := am (qAt (by repeat (first | (with_reducible first | exact HB.o | apply qAb | apply qAa | apply qAd) | exact HB.o)) hb)
     clear HB
     have HB := n0_
     clear n0_
     (try clear hb)
     (try clear hb2)
     (try clear hk)
     (try clear hi)
     refine hK.o _ _ ⟨((HB.o.cell (World.block_lt_of_cell? w _ hw802_0)).trans hw802_0), ((HB.o.cell (World.block_lt_of_cell? w _ hw802_1)).trans hw802_1), ((HB.o.cell (World.block_lt_of_cell? w _ hw802_2)).trans hw802_2), ((HB.o.cell (World.block_lt_of_cell? w _ hw802_3)).trans hw802_3), ((HB.o.cell (World.block_lt_of_cell? w _ hw803_0)).trans hw803_0), ((HB.o.cell (World.block_lt_of_cell? w _ hw803_1)).trans hw803_1), ((HB.o.cell (World.block_lt_of_cell? w _ hw803_2)).trans hw803_2), ((HB.o.cell (World.block_lt_of_cell? w _ hw803_3)).trans hw803_3), ((HB.o.cell (World.block_lt_of_cell? w _ hw804_0)).trans hw804_0), ((HB.o.cell (World.block_lt_of_cell? w _ hw804_1)).trans hw804_1), ((HB.o.cell (World.block_lt_of_cell? w _ hw804_2)).trans hw804_2), ((HB.o.cell (World.block_lt_of_cell? w _ hw804_3)).trans hw804_3), ((HB.o.cell (World.block_lt_of_cell? w _ hw805_0)).trans hw805_0), ((HB.o.cell (World.block_lt_of_cell? w _ hw805_1)).trans hw805_1), ((HB.o.cell (World.block_lt_of_cell? w _ hw805_2)).trans hw805_2), ((HB.o.cell (World.block_lt_of_cell? w _ hw805_3)).trans hw805_3), ((HB.o.cell (World.block_lt_of_cell? w _ hw806_0)).trans hw806_0), ((HB.o.cell (World.block_lt_of_cell? w _ hw806_1)).trans hw806_1), ((HB.o.cell (World.block_lt_of_cell? w _ hw806_2)).trans hw806_2), ((HB.o.cell (World.block_lt_of_cell? w _ hw806_3)).trans hw806_3), ((HB.o.cell (World.block_lt_of_cell? w _ hw807_0)).trans hw807_0), ((HB.o.cell (World.block_lt_of_cell? w _ hw807_1)).trans hw807_1), ((HB.o.cell (World.block_lt_of_cell? w _ hw807_2)).trans hw807_2), ((HB.o.cell (World.block_lt_of_cell? w _ hw807_3)).trans hw807_3)⟩ (fun hHeld => ?_)
     clear hK K
     refine qCj (a' := ?_) ?_ ?_
     rotate_left
     ·show Act.put _ (some 52) _ = _
      simp only [Act.put, List.setIfInBounds_toArray, List.set_cons_zero, List.set_cons_succ, qAo, i32_w]
      rfl
     refine qAx (i := 36) (N := some 53) (v := ?_) (a' := ?_) (mK 38 137438953471) rfl rfl (qAj HT_.o (by kernel_rfl)) (fun _ _ _ h => h) (Or.inl ⟨by rfl, ?_⟩) ?_ ?_
     rotate_left
     ·intro w'
      go_simp
      with_reducible rfl
     rotate_left
     ·simp only [Act.put, List.setIfInBounds_toArray, List.set_cons_zero, List.set_cons_succ, qAo, i32_w]
      rfl
     refine qAx (i := 37) (N := some 54) (v := ?_) (a' := ?_) (mK 38 274877906943) rfl rfl (qAj HT_.o (by kernel_rfl)) (fun _ _ _ h => h) (Or.inl ⟨by rfl, ?_⟩) ?_ ?_
     rotate_left
     ·intro w'
      go_simp
      with_reducible rfl
     rotate_left
     ·simp only [Act.put, List.setIfInBounds_toArray, List.set_cons_zero, List.set_cons_succ, qAo, i32_w]
      rfl
     refine done_ (qC9 HT_.o (by kernel_rfl)) ?_
     try go_wp2
     go_ret
     exact ⟨by first | rfl | (simp [errW_none, errW_some] <;> rfl) | (simp [*, errW_none, errW_some] <;> rfl), by repeat (first | (with_reducible first | exact HB.o | apply qAb | apply qAa | apply qAd) | exact HB.o)⟩
    subst c10
    replace H : (qAe.l0 k1 l0 l1 (wrap64 (aA + 1))) = some r := by rw [if_pos rfl] at H; exact H
    have H' := am H
    clear H
    try go_wp2
    have n0_ := am (qAd HB.o)
    clear HB
    have HB := n0_
    clear n0_
    have a4 : 0 ≤ (aA : Int) := of_decide_eq_true (by first | (with_reducible assumption) | assumption)
    have a6 : aA < (l0.length : Int) := of_decide_eq_true (by first | (with_reducible assumption) | assumption)
    obtain ⟨aB, ae, aD, aE, aF, aG⟩ := qBn ap.o aA a4 a6
    have hw802_3 := aG
    have hw802_2 := aF
    have hw802_1 := aE
    have hw802_0 := aD
    cases ae
    replace aD := (HB.o.cell (World.block_lt_of_cell? w _ aD)).trans aD
    replace aE := (HB.o.cell (World.block_lt_of_cell? w _ aE)).trans aE
    replace aF := (HB.o.cell (World.block_lt_of_cell? w _ aF)).trans aF
    replace aG := (HB.o.cell (World.block_lt_of_cell? w _ aG)).trans aG
    replace a4 := eq_true a4
    replace a6 := eq_true a6
    have a5 : 0 ≤ (aA : Int) := of_decide_eq_true (by first | (with_reducible assumption) | assumption)
    have a7 : aA < (l1.length : Int) := of_decide_eq_true (by first | (with_reducible assumption) | assumption)
    obtain ⟨aC, af, aH, aI, aJ, aK⟩ := qBE aq.o aA a5 a7
    have hw803_3 := aK
    have hw803_2 := aJ
    have hw803_1 := aI
    have hw803_0 := aH
    cases af
    replace aH := (HB.o.cell (World.block_lt_of_cell? w _ aH)).trans aH
    replace aI := (HB.o.cell (World.block_lt_of_cell? w _ aI)).trans aI
    replace aJ := (HB.o.cell (World.block_lt_of_cell? w _ aJ)).trans aJ
    replace aK := (HB.o.cell (World.block_lt_of_cell? w _ aK)).trans aK
    replace a5 := eq_true a5
    replace a7 := eq_true a7
    have a8 : 0 ≤ (aA : Int) := of_decide_eq_true (by first | (with_reducible assumption) | assumption)
    have aa : aA < (l0.length : Int) := of_decide_eq_true (by first | (with_reducible assumption) | assumption)
    obtain ⟨ac, an, aL, aM, aN, aO⟩ := qBn ap.o aA a8 aa
    have hw804_3 := aO
    have hw804_2 := aN
    have hw804_1 := aM
    have hw804_0 := aL
    obtain rfl : aB = ac := (by injection an)
    replace aL := (HB.o.cell (World.block_lt_of_cell? w _ aL)).trans aL
    replace aM := (HB.o.cell (World.block_lt_of_cell? w _ aM)).trans aM
    replace aN := (HB.o.cell (World.block_lt_of_cell? w _ aN)).trans aN
    replace aO := (HB.o.cell (World.block_lt_of_cell? w _ aO)).trans aO
    replace a8 := eq_true a8
    replace aa := eq_true aa
    have a9 : 0 ≤ (aA : Int) := of_decide_eq_true (by first | (with_reducible assumption) | assumption)
    have ab : aA < (l1.length : Int) := of_decide_eq_true (by first | (with_reducible assumption) | assumption)
    obtain ⟨ad, ao, aP, aQ, aR, aS⟩ := qBE aq.o aA a9 ab
    have hw805_3 := aS
    have hw805_2 := aR
    have hw805_1 := aQ
    have hw805_0 := aP
    obtain rfl : aC = ad := (by injection ao)
    replace aP := (HB.o.cell (World.block_lt_of_cell? w _ aP)).trans aP
    replace aQ := (HB.o.cell (World.block_lt_of_cell? w _ aQ)).trans aQ
    replace aR := (HB.o.cell (World.block_lt_of_cell? w _ aR)).trans aR
    replace aS := (HB.o.cell (World.block_lt_of_cell? w _ aS)).trans aS
    replace a9 := eq_true a9
    replace ab := eq_true ab
    have ag : 0 ≤ (aA : Int) := of_decide_eq_true (by first | (with_reducible assumption) | assumption)
    have ai : aA < (l0.length : Int) := of_decide_eq_true (by first | (with_reducible assumption) | assumption)
    obtain ⟨ak, au, aT, aU, aV, aW⟩ := qBn ap.o aA ag ai
    have hw806_3 := aW
    have hw806_2 := aV
    have hw806_1 := aU
    have hw806_0 := aT
    obtain rfl : aB = ak := (by injection au)
    replace aT := (HB.o.cell (World.block_lt_of_cell? w _ aT)).trans aT
    replace aU := (HB.o.cell (World.block_lt_of_cell? w _ aU)).trans aU
    replace aV := (HB.o.cell (World.block_lt_of_cell? w _ aV)).trans aV
    replace aW := (HB.o.cell (World.block_lt_of_cell? w _ aW)).trans aW
    replace ag := eq_true ag
    replace ai := eq_true ai
    have ah : 0 ≤ (aA : Int) := of_decide_eq_true (by first | (with_reducible assumption) | assumption)
    have aj : aA < (l1.length : Int) := of_decide_eq_true (by first | (with_reducible assumption) | assumption)
    obtain ⟨al, av, aX, aY, aZ, a3⟩ := qBE aq.o aA ah aj
    have hw807_3 := a3
    have hw807_2 := aZ
    have hw807_1 := aY
    have hw807_0 := aX
    obtain rfl : aC = al := (by injection av)
    replace aX := (HB.o.cell (World.block_lt_of_cell? w _ aX)).trans aX
    replace aY := (HB.o.cell (World.block_lt_of_cell? w _ aY)).trans aY
    replace aZ := (HB.o.cell (World.block_lt_of_cell? w _ aZ)).trans aZ
    replace a3 := (HB.o.cell (World.block_lt_of_cell? w _ a3)).trans a3
    replace ah := eq_true ah
    replace aj := eq_true aj
    refine start_ (n := 38) (S := fun w' => w'.cell? (aB.add ((aA).toNat * 4)) = some (.int .i64 ((qAl l0 aA).f0)) ∧ w'.cell? ⟨(aB.add ((aA).toNat * 4)).block, (aB.add ((aA).toNat * 4)).off + 1, none⟩ = some (.int .i64 ((qAl l0 aA).f1)) ∧ w'.cell? ⟨(aB.add ((aA).toNat * 4)).block, (aB.add ((aA).toNat * 4)).off + 2, none⟩ = some (.int .i64 ((qAl l0 aA).f2.f0)) ∧ w'.cell? ⟨(aB.add ((aA).toNat * 4)).block, (aB.add ((aA).toNat * 4)).off + 3, none⟩ = some (.int .u64 ((qAl l0 aA).f2.f1)) ∧ w'.cell? (aC.add ((aA).toNat * 4)) = some (.int .i64 ((qAu l1 aA).f0)) ∧ w'.cell? ⟨(aC.add ((aA).toNat * 4)).block, (aC.add ((aA).toNat * 4)).off + 1, none⟩ = some (.int .i64 ((qAu l1 aA).f1)) ∧ w'.cell? ⟨(aC.add ((aA).toNat * 4)).block, (aC.add ((aA).toNat * 4)).off + 2, none⟩ = some (.int .i64 ((qAu l1 aA).f2.f0)) ∧ w'.cell? ⟨(aC.add ((aA).toNat * 4)).block, (aC.add ((aA).toNat * 4)).off + 3, none⟩ = some (.int .u64 ((qAu l1 aA).f2.f1)) ∧ w'.cell? (aB.add ((aA).toNat * 4)) = some (.int .i64 ((qAl l0 aA).f0)) ∧ w'.cell? ⟨(aB.add ((aA).toNat * 4)).block, (aB.add ((aA).toNat * 4)).off + 1, none⟩ = some (.int .i64 ((qAl l0 aA).f1)) ∧ w'.cell? ⟨(aB.add ((aA).toNat * 4)).block, (aB.add ((aA).toNat * 4)).off + 2, none⟩ = some (.int .i64 ((qAl l0 aA).f2.f0)) ∧ w'.cell? ⟨(aB.add ((aA).toNat * 4)).block, (aB.add ((aA).toNat * 4)).off + 3, none⟩ = some (.int .u64 ((qAl l0 aA).f2.f1)) ∧ w'.cell? (aC.add ((aA).toNat * 4)) = some (.int .i64 ((qAu l1 aA).f0)) ∧ w'.cell? ⟨(aC.add ((aA).toNat * 4)).block, (aC.add ((aA).toNat * 4)).off + 1, none⟩ = some (.int .i64 ((qAu l1 aA).f1)) ∧ w'.cell? ⟨(aC.add ((aA).toNat * 4)).block, (aC.add ((aA).toNat * 4)).off + 2, none⟩ = some (.int .i64 ((qAu l1 aA).f2.f0)) ∧ w'.cell? ⟨(aC.add ((aA).toNat * 4)).block, (aC.add ((aA).toNat * 4)).off + 3, none⟩ = some (.int .u64 ((qAu l1 aA).f2.f1)) ∧ w'.cell? (aB.add ((aA).toNat * 4)) = some (.int .i64 ((qAl l0 aA).f0)) ∧ w'.cell? ⟨(aB.add ((aA).toNat * 4)).block, (aB.add ((aA).toNat * 4)).off + 1, none⟩ = some (.int .i64 ((qAl l0 aA).f1)) ∧ w'.cell? ⟨(aB.add ((aA).toNat * 4)).block, (aB.add ((aA).toNat * 4)).off + 2, none⟩ = some (.int .i64 ((qAl l0 aA).f2.f0)) ∧ w'.cell? ⟨(aB.add ((aA).toNat * 4)).block, (aB.add ((aA).toNat * 4)).off + 3, none⟩ = some (.int .u64 ((qAl l0 aA).f2.f1)) ∧ w'.cell? (aC.add ((aA).toNat * 4)) = some (.int .i64 ((qAu l1 aA).f0)) ∧ w'.cell? ⟨(aC.add ((aA).toNat * 4)).block, (aC.add ((aA).toNat * 4)).off + 1, none⟩ = some (.int .i64 ((qAu l1 aA).f1)) ∧ w'.cell? ⟨(aC.add ((aA).toNat * 4)).block, (aC.add ((aA).toNat * 4)).off + 2, none⟩ = some (.int .i64 ((qAu l1 aA).f2.f0)) ∧ w'.cell? ⟨(aC.add ((aA).toNat * 4)).block, (aC.add ((aA).toNat * 4)).off + 3, none⟩ = some (.int .u64 ((qAu l1 aA).f2.f1))) (ds := []) (mK 38 0) (by kernel_rfl) rfl rfl ⟨((HB.o.cell (World.block_lt_of_cell? w _ hw802_0)).trans hw802_0), ((HB.o.cell (World.block_lt_of_cell? w _ hw802_1)).trans hw802_1), ((HB.o.cell (World.block_lt_of_cell? w _ hw802_2)).trans hw802_2), ((HB.o.cell (World.block_lt_of_cell? w _ hw802_3)).trans hw802_3), ((HB.o.cell (World.block_lt_of_cell? w _ hw803_0)).trans hw803_0), ((HB.o.cell (World.block_lt_of_cell? w _ hw803_1)).trans hw803_1), ((HB.o.cell (World.block_lt_of_cell? w _ hw803_2)).trans hw803_2), ((HB.o.cell (World.block_lt_of_cell? w _ hw803_3)).trans hw803_3), ((HB.o.cell (World.block_lt_of_cell? w _ hw804_0)).trans hw804_0), ((HB.o.cell (World.block_lt_of_cell? w _ hw804_1)).trans hw804_1), ((HB.o.cell (World.block_lt_of_cell? w _ hw804_2)).trans hw804_2), ((HB.o.cell (World.block_lt_of_cell? w _ hw804_3)).trans hw804_3), ((HB.o.cell (World.block_lt_of_cell? w _ hw805_0)).trans hw805_0), ((HB.o.cell (World.block_lt_of_cell? w _ hw805_1)).trans hw805_1), ((HB.o.cell (World.block_lt_of_cell? w _ hw805_2)).trans hw805_2), ((HB.o.cell (World.block_lt_of_cell? w _ hw805_3)).trans hw805_3), ((HB.o.cell (World.block_lt_of_cell? w _ hw806_0)).trans hw806_0), ((HB.o.cell (World.block_lt_of_cell? w _ hw806_1)).trans hw806_1), ((HB.o.cell (World.block_lt_of_cell? w _ hw806_2)).trans hw806_2), ((HB.o.cell (World.block_lt_of_cell? w _ hw806_3)).trans hw806_3), ((HB.o.cell (World.block_lt_of_cell? w _ hw807_0)).trans hw807_0), ((HB.o.cell (World.block_lt_of_cell? w _ hw807_1)).trans hw807_1), ((HB.o.cell (World.block_lt_of_cell? w _ hw807_2)).trans hw807_2), ((HB.o.cell (World.block_lt_of_cell? w _ hw807_3)).trans hw807_3)⟩ (fun hHeld => ?_); refine qBM qAe.tab6 qAe.bits6 (fun HT_ HW_ => ?_)
    generalize wr.drew = bK at HB aD aE aF aG aH aI aJ aK aL aM aN aO aP aQ aR aS aT aU aV aW aX aY aZ a3 hHeld ⊢
    refine qAx (i := 0) (N := some 17) (v := ?_) (a' := ?_) (mK 38 1) rfl rfl (qAj HT_.o (by kernel_rfl)) (fun _ _ _ h => h) (Or.inl ⟨by rfl, ?_⟩) ?_ ?_
    rotate_left
    ·intro w'
     go_simp
     with_reducible rfl
    rotate_left
    ·simp only [Act.put, List.setIfInBounds_toArray, List.set_cons_zero, List.set_cons_succ, qAo, i32_w]
     rfl
    refine qAx (i := 1) (N := some 18) (v := ?_) (a' := ?_) (mK 38 3) rfl rfl (qAj HT_.o (by kernel_rfl)) (fun _ _ _ h => h) (Or.inl ⟨by rfl, ?_⟩) ?_ ?_
    rotate_left
    ·intro w'
     go_simp
     with_reducible rfl
    rotate_left
    ·simp only [Act.put, List.setIfInBounds_toArray, List.set_cons_zero, List.set_cons_succ, qAo, i32_w]
     rfl
    refine qAx (i := 2) (N := some 19) (v := ?_) (a' := ?_) (mK 38 7) rfl rfl (qAj HT_.o (by kernel_rfl)) (fun _ _ _ h => h) (Or.inl ⟨by rfl, ?_⟩) ?_ ?_
    rotate_left
    ·intro w'
     go_simp
     with_reducible rfl
    rotate_left
    ·simp only [Act.put, List.setIfInBounds_toArray, List.set_cons_zero, List.set_cons_succ, qAo, i32_w]
     rfl
    refine qAx (i := 3) (N := some 20) (v := ?_) (a' := ?_) (mK 38 15) rfl rfl (qAj HT_.o (by kernel_rfl)) (fun _ _ _ h => h) (Or.inl ⟨by rfl, ?_⟩) ?_ ?_
    rotate_left
    ·intro w'
     go_simp
     with_reducible rfl
    rotate_left
    ·simp only [Act.put, List.setIfInBounds_toArray, List.set_cons_zero, List.set_cons_succ, qAo, i32_w]
     rfl
    refine qAx (i := 5) (N := some 22) (v := ?_) (a' := ?_) (mK 38 47) rfl rfl (qAj HT_.o (by kernel_rfl)) (fun _ _ _ h => h) (Or.inl ⟨by rfl, ?_⟩) ?_ ?_
    rotate_left
    ·intro w'
     go_simp
     with_reducible rfl
    rotate_left
    ·simp only [Act.put, List.setIfInBounds_toArray, List.set_cons_zero, List.set_cons_succ, qAo, i32_w]
     rfl
    refine qAx (i := 6) (N := some 23) (v := ?_) (a' := ?_) (mK 38 111) rfl rfl (qAj HT_.o (by kernel_rfl)) (fun _ _ _ h => h) (Or.inl ⟨by rfl, ?_⟩) ?_ ?_
    rotate_left
    ·intro w'
     go_simp
     with_reducible rfl
    rotate_left
    ·simp only [Act.put, List.setIfInBounds_toArray, List.set_cons_zero, List.set_cons_succ, qAo, i32_w]
     rfl
    refine qAx (i := 7) (N := some 24) (v := ?_) (a' := ?_) (mK 38 239) rfl rfl (qAj HT_.o (by kernel_rfl)) (fun _ _ _ h => h) (Or.inl ⟨by rfl, ?_⟩) ?_ ?_
    rotate_left
    ·intro w'
     go_simp
     with_reducible rfl
    rotate_left
    ·simp only [Act.put, List.setIfInBounds_toArray, List.set_cons_zero, List.set_cons_succ, qAo, i32_w]
     rfl
    refine qAx (i := 8) (N := some 25) (v := ?_) (a' := ?_) (mK 38 495) rfl rfl (qAj HT_.o (by kernel_rfl)) (fun _ _ _ h => h) (Or.inl ⟨by rfl, ?_⟩) ?_ ?_
    rotate_left
    ·intro w'
     go_simp
     with_reducible rfl
    rotate_left
    ·simp only [Act.put, List.setIfInBounds_toArray, List.set_cons_zero, List.set_cons_succ, qAo, i32_w]
     rfl
    refine qBQ (i := 4) (N := some 21) (v := ?_) (a' := ?_) (mK 38 511) rfl rfl (qAK HT_.o HW_.o (by kernel_rfl)) (fun _ _ _ h => h) (Or.inl ⟨by rfl, ?_⟩) hHeld ?_ ?_
    rotate_left
    ·rintro w' ⟨s0, s1, s2, s3, s4, s5, s6, s7, s8, s9, s10, s11, s12, s13, s14, s15, s16, s17, s18, s19, s20, s21, s22, s23⟩
     go_simp
     with_reducible rfl
    rotate_left
    ·simp only [Act.put, List.setIfInBounds_toArray, List.set_cons_zero, List.set_cons_succ, qAo, i32_w]
     rfl
    refine qBQ (i := 9) (N := some 26) (v := ?_) (a' := ?_) (mK 38 1023) rfl rfl (qAK HT_.o HW_.o (by kernel_rfl)) (fun _ _ _ h => h) (Or.inl ⟨by rfl, ?_⟩) hHeld ?_ ?_
    rotate_left
    ·rintro w' ⟨s0, s1, s2, s3, s4, s5, s6, s7, s8, s9, s10, s11, s12, s13, s14, s15, s16, s17, s18, s19, s20, s21, s22, s23⟩
     go_simp
     with_reducible rfl
    rotate_left
    ·simp only [Act.put, List.setIfInBounds_toArray, List.set_cons_zero, List.set_cons_succ, qAo, i32_w]
     rfl
    refine qAx (i := 10) (N := some 27) (v := ?_) (a' := ?_) (mK 38 2047) rfl rfl (qAj HT_.o (by kernel_rfl)) (fun _ _ _ h => h) (Or.inl ⟨by rfl, ?_⟩) ?_ ?_
    rotate_left
    ·intro w'
     go_simp
     with_reducible rfl
    rotate_left
    ·simp only [Act.put, List.setIfInBounds_toArray, List.set_cons_zero, List.set_cons_succ, qAo, i32_w]
     rfl
    refine qAx (i := 11) (N := some 28) (v := ?_) (a' := ?_) (mK 38 4095) rfl rfl (qAj HT_.o (by kernel_rfl)) (fun _ _ _ h => h) (Or.inl ⟨by rfl, ?_⟩) ?_ ?_
    rotate_left
    ·intro w'
     go_simp
     with_reducible rfl
    rotate_left
    ·simp only [Act.put, List.setIfInBounds_toArray, List.set_cons_zero, List.set_cons_succ, qAo, i32_w]
     rfl
    refine qAx (i := 12) (N := some 29) (v := ?_) (a' := ?_) (mK 38 8191) rfl rfl (qAj HT_.o (by kernel_rfl)) (fun _ _ _ h => h) (Or.inl ⟨by rfl, ?_⟩) ?_ ?_
    rotate_left
    ·intro w'
     go_simp
     with_reducible rfl
    rotate_left
    ·simp only [Act.put, List.setIfInBounds_toArray, List.set_cons_zero, List.set_cons_succ, qAo, i32_w]
     rfl
    refine qAx (i := 13) (N := some 30) (v := ?_) (a' := ?_) (mK 38 16383) rfl rfl (qAj HT_.o (by kernel_rfl)) (fun _ _ _ h => h) (Or.inl ⟨by rfl, ?_⟩) ?_ ?_
    rotate_left
    ·intro w'
     go_simp
     with_reducible rfl
    rotate_left
    ·simp only [Act.put, List.setIfInBounds_toArray, List.set_cons_zero, List.set_cons_succ, qAo, i32_w]
     rfl
    refine qAx (i := 14) (N := some 31) (v := ?_) (a' := ?_) (mK 38 32767) rfl rfl (qAj HT_.o (by kernel_rfl)) (fun _ _ _ h => h) (Or.inl ⟨by rfl, ?_⟩) ?_ ?_
    rotate_left
    ·intro w'
     go_simp
     with_reducible rfl
    rotate_left
    ·simp only [Act.put, List.setIfInBounds_toArray, List.set_cons_zero, List.set_cons_succ, qAo, i32_w]
     rfl
    refine qAx (i := 15) (N := some 32) (v := ?_) (a' := ?_) (mK 38 65535) rfl rfl (qAj HT_.o (by kernel_rfl)) (fun _ _ _ h => h) (Or.inl ⟨by rfl, ?_⟩) ?_ ?_
    rotate_left
    ·intro w'
     go_simp
     with_reducible rfl
    rotate_left
    ·simp only [Act.put, List.setIfInBounds_toArray, List.set_cons_zero, List.set_cons_succ, qAo, i32_w]
     rfl
    refine qAx (i := 17) (N := some 34) (v := ?_) (a' := ?_) (mK 38 196607) rfl rfl (qAj HT_.o (by kernel_rfl)) (fun _ _ _ h => h) (Or.inl ⟨by rfl, ?_⟩) ?_ ?_
    rotate_left
    ·intro w'
     go_simp
     with_reducible rfl
    rotate_left
    ·simp only [Act.put, List.setIfInBounds_toArray, List.set_cons_zero, List.set_cons_succ, qAo, i32_w]
     rfl
    refine qAx (i := 18) (N := some 35) (v := ?_) (a' := ?_) (mK 38 458751) rfl rfl (qAj HT_.o (by kernel_rfl)) (fun _ _ _ h => h) (Or.inl ⟨by rfl, ?_⟩) ?_ ?_
    rotate_left
    ·intro w'
     go_simp
     with_reducible rfl
    rotate_left
    ·simp only [Act.put, List.setIfInBounds_toArray, List.set_cons_zero, List.set_cons_succ, qAo, i32_w]
     rfl
    refine qAx (i := 19) (N := some 36) (v := ?_) (a' := ?_) (mK 38 983039) rfl rfl (qAj HT_.o (by kernel_rfl)) (fun _ _ _ h => h) (Or.inl ⟨by rfl, ?_⟩) ?_ ?_
    rotate_left
    ·intro w'
     go_simp
     with_reducible rfl
    rotate_left
    ·simp only [Act.put, List.setIfInBounds_toArray, List.set_cons_zero, List.set_cons_succ, qAo, i32_w]
     rfl
    refine qAx (i := 20) (N := some 37) (v := ?_) (a' := ?_) (mK 38 2031615) rfl rfl (qAj HT_.o (by kernel_rfl)) (fun _ _ _ h => h) (Or.inl ⟨by rfl, ?_⟩) ?_ ?_
    rotate_left
    ·intro w'
     go_simp
     with_reducible rfl
    rotate_left
    ·simp only [Act.put, List.setIfInBounds_toArray, List.set_cons_zero, List.set_cons_succ, qAo, i32_w]
     rfl
    refine qBQ (i := 16) (N := some 33) (v := ?_) (a' := ?_) (mK 38 2097151) rfl rfl (qAK HT_.o HW_.o (by kernel_rfl)) (fun _ _ _ h => h) (Or.inl ⟨by rfl, ?_⟩) hHeld ?_ ?_
    rotate_left
    ·rintro w' ⟨s0, s1, s2, s3, s4, s5, s6, s7, s8, s9, s10, s11, s12, s13, s14, s15, s16, s17, s18, s19, s20, s21, s22, s23⟩
     go_simp
     with_reducible rfl
    rotate_left
    ·simp only [Act.put, List.setIfInBounds_toArray, List.set_cons_zero, List.set_cons_succ, qAo, i32_w]
     rfl
    refine qBQ (i := 21) (N := some 38) (v := ?_) (a' := ?_) (mK 38 4194303) rfl rfl (qAK HT_.o HW_.o (by kernel_rfl)) (fun _ _ _ h => h) (Or.inl ⟨by rfl, ?_⟩) hHeld ?_ ?_
    rotate_left
    ·rintro w' ⟨s0, s1, s2, s3, s4, s5, s6, s7, s8, s9, s10, s11, s12, s13, s14, s15, s16, s17, s18, s19, s20, s21, s22, s23⟩
     go_simp
     with_reducible rfl
    rotate_left
    ·simp only [Act.put, List.setIfInBounds_toArray, List.set_cons_zero, List.set_cons_succ, qAo, i32_w]
     rfl
    refine qAx (i := 22) (N := some 39) (v := ?_) (a' := ?_) (mK 38 8388607) rfl rfl (qAj HT_.o (by kernel_rfl)) (fun _ _ _ h => h) (Or.inl ⟨by rfl, ?_⟩) ?_ ?_
    rotate_left
    ·intro w'
     go_simp
     with_reducible rfl
    rotate_left
    ·simp only [Act.put, List.setIfInBounds_toArray, List.set_cons_zero, List.set_cons_succ, qAo, i32_w]
     rfl
    refine qAx (i := 23) (N := some 40) (v := ?_) (a' := ?_) (mK 38 16777215) rfl rfl (qAj HT_.o (by kernel_rfl)) (fun _ _ _ h => h) (Or.inl ⟨by rfl, ?_⟩) ?_ ?_
    rotate_left
    ·intro w'
     go_simp
     with_reducible rfl
    rotate_left
    ·simp only [Act.put, List.setIfInBounds_toArray, List.set_cons_zero, List.set_cons_succ, qAo, i32_w]
     rfl
    refine qAx (i := 24) (N := some 41) (v := ?_) (a' := ?_) (mK 38 33554431) rfl rfl (qAj HT_.o (by kernel_rfl)) (fun _ _ _ h => h) (Or.inl ⟨by rfl, ?_⟩) ?_ ?_
    rotate_left
    ·intro w'
     go_simp
     with_reducible rfl
    rotate_left
    ·simp only [Act.put, List.setIfInBounds_toArray, List.set_cons_zero, List.set_cons_succ, qAo, i32_w]
     rfl
    refine qAx (i := 25) (N := some 42) (v := ?_) (a' := ?_) (mK 38 67108863) rfl rfl (qAj HT_.o (by kernel_rfl)) (fun _ _ _ h => h) (Or.inl ⟨by rfl, ?_⟩) ?_ ?_
    rotate_left
    ·intro w'
     go_simp
     with_reducible rfl
    rotate_left
    ·simp only [Act.put, List.setIfInBounds_toArray, List.set_cons_zero, List.set_cons_succ, qAo, i32_w]
     rfl
    refine qAx (i := 26) (N := some 43) (v := ?_) (a' := ?_) (mK 38 134217727) rfl rfl (qAj HT_.o (by kernel_rfl)) (fun _ _ _ h => h) (Or.inl ⟨by rfl, ?_⟩) ?_ ?_
    rotate_left
    ·intro w'
     go_simp
     with_reducible rfl
    rotate_left
    ·simp only [Act.put, List.setIfInBounds_toArray, List.set_cons_zero, List.set_cons_succ, qAo, i32_w]
     rfl
    refine qAx (i := 27) (N := some 44) (v := ?_) (a' := ?_) (mK 38 268435455) rfl rfl (qAj HT_.o (by kernel_rfl)) (fun _ _ _ h => h) (Or.inl ⟨by rfl, ?_⟩) ?_ ?_
    rotate_left
    ·intro w'
     go_simp
     with_reducible rfl
    rotate_left
    ·simp only [Act.put, List.setIfInBounds_toArray, List.set_cons_zero, List.set_cons_succ, qAo, i32_w]
     rfl
    refine qAx (i := 28) (N := some 45) (v := ?_) (a' := ?_) (mK 38 536870911) rfl rfl (qAj HT_.o (by kernel_rfl)) (fun _ _ _ h => h) (Or.inl ⟨by rfl, ?_⟩) ?_ ?_
    rotate_left
    ·intro w'
     go_simp
     with_reducible rfl
    rotate_left
    ·simp only [Act.put, List.setIfInBounds_toArray, List.set_cons_zero, List.set_cons_succ, qAo, i32_w]
     rfl
    refine qAx (i := 30) (N := some 47) (v := ?_) (a' := ?_) (mK 38 1610612735) rfl rfl (qAj HT_.o (by kernel_rfl)) (fun _ _ _ h => h) (Or.inl ⟨by rfl, ?_⟩) ?_ ?_
    rotate_left
    ·intro w'
     go_simp
     with_reducible rfl
    rotate_left
    ·simp only [Act.put, List.setIfInBounds_toArray, List.set_cons_zero, List.set_cons_succ, qAo, i32_w]
     rfl
    refine qAx (i := 31) (N := some 48) (v := ?_) (a' := ?_) (mK 38 3758096383) rfl rfl (qAj HT_.o (by kernel_rfl)) (fun _ _ _ h => h) (Or.inl ⟨by rfl, ?_⟩) ?_ ?_
    rotate_left
    ·intro w'
     go_simp
     with_reducible rfl
    rotate_left
    ·simp only [Act.put, List.setIfInBounds_toArray, List.set_cons_zero, List.set_cons_succ, qAo, i32_w]
     rfl
    refine qAx (i := 32) (N := some 49) (v := ?_) (a' := ?_) (mK 38 8053063679) rfl rfl (qAj HT_.o (by kernel_rfl)) (fun _ _ _ h => h) (Or.inl ⟨by rfl, ?_⟩) ?_ ?_
    rotate_left
    ·intro w'
     go_simp
     with_reducible rfl
    rotate_left
    ·simp only [Act.put, List.setIfInBounds_toArray, List.set_cons_zero, List.set_cons_succ, qAo, i32_w]
     rfl
    refine qAx (i := 33) (N := some 50) (v := ?_) (a' := ?_) (mK 38 16642998271) rfl rfl (qAj HT_.o (by kernel_rfl)) (fun _ _ _ h => h) (Or.inl ⟨by rfl, ?_⟩) ?_ ?_
    rotate_left
    ·intro w'
     go_simp
     with_reducible rfl
    rotate_left
    ·simp only [Act.put, List.setIfInBounds_toArray, List.set_cons_zero, List.set_cons_succ, qAo, i32_w]
     rfl
    refine qBQ (i := 29) (N := some 46) (v := ?_) (a' := ?_) (mK 38 17179869183) rfl rfl (qAK HT_.o HW_.o (by kernel_rfl)) (fun _ _ _ h => h) (Or.inl ⟨by rfl, ?_⟩) hHeld ?_ ?_
    rotate_left
    ·rintro w' ⟨s0, s1, s2, s3, s4, s5, s6, s7, s8, s9, s10, s11, s12, s13, s14, s15, s16, s17, s18, s19, s20, s21, s22, s23⟩
     go_simp
     with_reducible rfl
    rotate_left
    ·simp only [Act.put, List.setIfInBounds_toArray, List.set_cons_zero, List.set_cons_succ, qAo, i32_w]
     rfl
    refine qBQ (i := 34) (N := some 51) (v := ?_) (a' := ?_) (mK 38 34359738367) rfl rfl (qAK HT_.o HW_.o (by kernel_rfl)) (fun _ _ _ h => h) (Or.inl ⟨by rfl, ?_⟩) hHeld ?_ ?_
    rotate_left
    ·rintro w' ⟨s0, s1, s2, s3, s4, s5, s6, s7, s8, s9, s10, s11, s12, s13, s14, s15, s16, s17, s18, s19, s20, s21, s22, s23⟩
     go_simp
     with_reducible rfl
    rotate_left
    ·simp only [Act.put, List.setIfInBounds_toArray, List.set_cons_zero, List.set_cons_succ, qAo, i32_w]
     rfl
    refine one_ (i := 35) (N := some 52) (mK 38 68719476735) rfl rfl (qCL HT_.o (by kernel_rfl)) (by decide) (fun K hK => ?_)
    refine goes_ Tryz.func58 (by kernel_rfl) rfl #[.agg #[.int .i64 ((qAl l0 aA).f2.f0), .int .u64 ((qAl l0 aA).f2.f1)], .agg #[.int .i64 ((qAu l1 aA).f2.f0), .int .u64 ((qAu l1 aA).f2.f1)]] (by rfl) rfl rfl (by (try simp only [List.map_toArray, List.map_cons, List.map_nil]); first | done | rfl | (simp only [List.length_drop, List.length_take]; rfl)) ?_
    with_reducible refine (qAI.calls ((qAl l0 aA).f2.f0) ((qAl l0 aA).f2.f1) ((qAu l1 aA).f2.f0) ((qAu l1 aA).f2.f1) true _ A9.o).mono ?_
    rintro e bL ⟨rfl, hb⟩
    refine ⟨_, rfl, ?_⟩
    have n0_ := am (qAt (by repeat (first | (with_reducible first | exact HB.o | apply qAb | apply qAa | apply qAd) | exact HB.o)) hb)
    clear HB
    have HB := n0_
    clear n0_
    (try clear hb)
    (try clear hb2)
    (try clear hk)
    (try clear hi)
    refine hK.o _ _ ⟨((HB.o.cell (World.block_lt_of_cell? w _ hw802_0)).trans hw802_0), ((HB.o.cell (World.block_lt_of_cell? w _ hw802_1)).trans hw802_1), ((HB.o.cell (World.block_lt_of_cell? w _ hw802_2)).trans hw802_2), ((HB.o.cell (World.block_lt_of_cell? w _ hw802_3)).trans hw802_3), ((HB.o.cell (World.block_lt_of_cell? w _ hw803_0)).trans hw803_0), ((HB.o.cell (World.block_lt_of_cell? w _ hw803_1)).trans hw803_1), ((HB.o.cell (World.block_lt_of_cell? w _ hw803_2)).trans hw803_2), ((HB.o.cell (World.block_lt_of_cell? w _ hw803_3)).trans hw803_3), ((HB.o.cell (World.block_lt_of_cell? w _ hw804_0)).trans hw804_0), ((HB.o.cell (World.block_lt_of_cell? w _ hw804_1)).trans hw804_1), ((HB.o.cell (World.block_lt_of_cell? w _ hw804_2)).trans hw804_2), ((HB.o.cell (World.block_lt_of_cell? w _ hw804_3)).trans hw804_3), ((HB.o.cell (World.block_lt_of_cell? w _ hw805_0)).trans hw805_0), ((HB.o.cell (World.block_lt_of_cell? w _ hw805_1)).trans hw805_1), ((HB.o.cell (World.block_lt_of_cell? w _ hw805_2)).trans hw805_2), ((HB.o.cell (World.block_lt_of_cell? w _ hw805_3)).trans hw805_3), ((HB.o.cell (World.block_lt_of_cell? w _ hw806_0)).trans hw806_0), ((HB.o.cell (World.block_lt_of_cell? w _ hw806_1)).trans hw806_1), ((HB.o.cell (World.block_lt_of_cell? w _ hw806_2)).trans hw806_2), ((HB.o.cell (World.block_lt_of_cell? w _ hw806_3)).trans hw806_3), ((HB.o.cell (World.block_lt_of_cell? w _ hw807_0)).trans hw807_0), ((HB.o.cell (World.block_lt_of_cell? w _ hw807_1)).trans hw807_1), ((HB.o.cell (World.block_lt_of_cell? w _ hw807_2)).trans hw807_2), ((HB.o.cell (World.block_lt_of_cell? w _ hw807_3)).trans hw807_3)⟩ (fun hHeld => ?_)
    clear hK K
    refine qCj (a' := ?_) ?_ ?_
    rotate_left
    ·show Act.put _ (some 52) _ = _
     simp only [Act.put, List.setIfInBounds_toArray, List.set_cons_zero, List.set_cons_succ, qAo, i32_w]
     rfl
    refine qAx (i := 36) (N := some 53) (v := ?_) (a' := ?_) (mK 38 137438953471) rfl rfl (qAj HT_.o (by kernel_rfl)) (fun _ _ _ h => h) (Or.inl ⟨by rfl, ?_⟩) ?_ ?_
    rotate_left
    ·intro w'
     go_simp
     with_reducible rfl
    rotate_left
    ·simp only [Act.put, List.setIfInBounds_toArray, List.set_cons_zero, List.set_cons_succ, qAo, i32_w]
     rfl
    refine qAx (i := 37) (N := some 54) (v := ?_) (a' := ?_) (mK 38 274877906943) rfl rfl (qAj HT_.o (by kernel_rfl)) (fun _ _ _ h => h) (Or.inl ⟨by rfl, ?_⟩) ?_ ?_
    rotate_left
    ·intro w'
     go_simp
     with_reducible rfl
    rotate_left
    ·simp only [Act.put, List.setIfInBounds_toArray, List.set_cons_zero, List.set_cons_succ, qAo, i32_w]
     rfl
    refine done_ (qC9 HT_.o (by kernel_rfl)) ?_
    try go_wp2
    go_roundg k1
    case measure => have := bF.o; omega
    case rel => exact ⟨(wrap64 (aA + 1)), (by first | rfl | (simp; done) | (simp [*]; done)), H', ⟨by have := bF.o; omega⟩, ⟨by repeat (first | (with_reducible first | exact HB.o | apply qAb | apply qAa | apply qAd) | exact HB.o)⟩⟩
 ·rw [if_neg c3] at H
  have aw : ((l0.length : Int) == (l1.length : Int)) = false := bf c3
  have ax : ((l0.length : Int) != (l1.length : Int)) = true := bne_iff_ne.mpr c3
  have ay : (l0.length == l1.length) = false := by first | simpa using c3 | (simp at c3 ⊢; omega)
  obtain rfl := Option.some.inj H
  go_enter Tryz.func35, Tryz.ntmps35
  go_wp2
  go_ret
  exact ⟨by first | rfl | (simp [errW_none, errW_some] <;> rfl) | (simp [*, errW_none, errW_some] <;> rfl), by repeat (first | (with_reducible first | exact HB.o | apply qAb | apply qAa | apply qAd) | exact HB.o)⟩
end Q
end
section
namespace Q
open Go.RowKit YA YC YB
open Val Ins
namespace C14
theorem same_ev (l : List S50) (hl : l.length ≤ 4611686018427387904) : Ev (fun k => qAe.f k (l.map ofI) l) true := by
 have loop : ∀ (d : Nat) (i : Int), 0 ≤ i → (l.length : Int) - i = d → Ev (fun k => qAe.l0 k (l.map ofI) l i) true := by
  intro d
  induction d with
  | zero =>
   intro i h0 hd
   refine Ev.step (f := fun _ => some true) (fun k => ?_) (Ev.now _)
   simp only [qAe.l0]; rw [if_neg (by rw [List.length_map]; omega)]
  | succ d ih =>
   intro i h0 hd
   have hx : qAl (l.map ofI) i = ofI (qAu l i) := rd_map ofI l _ _ i h0 (by omega)
   generalize hy : qAu l i = y at hx
   have hs : qAI.f y.f2.f0 y.f2.f1 y.f2.f0 y.f2.f1 = some true := by unfold qAI.f; rw [if_pos rfl, beq_self_eq_true]
   refine Ev.step (f := fun k => qAe.l0 k (l.map ofI) l (i + 1)) (fun k => ?_) (ih (i + 1) (by omega) (by omega))
   simp only [qAe.l0, hx, hy]
   rw [if_pos (by rw [List.length_map]; omega), if_pos h0, if_pos (by omega), if_pos (show (ofI y).f0 = y.f0 from rfl), if_pos (show (ofI y).f1 = y.f1 from rfl)]
   simp only [ofI]
   rw [hs, Option.bind_some, if_pos rfl, wrap_add1 (n := l.length) h0 (by omega) hl]
 refine Ev.congr (f := fun k => qAe.l0 k (l.map ofI) l 0) (fun k => by unfold qAe.f; rw [if_pos (by rw [List.length_map])]) ?_
 exact loop l.length 0 (by omega) (by omega)
end C14
end Q
end
section
namespace Q
open Go.RowKit YA YC YB
namespace Flt
def nrm : Nat → Int → Int → Int × Int
 | 0, m, e => (m, e)
 | k + 1, m, e => if m ≠ 0 ∧ m < 1152921504606846976 then nrm k (m * 2) (e - 1) else (m, e)
def hx (d : Int) : Int := if d < 10 then 48 + d else 87 + d
def hexs : Nat → Int → List Int
 | 0, _ => []
 | k + 1, m => if m = 0 then [] else hx (m / 1152921504606846976) :: hexs k (m * 16 % 18446744073709551616)
def qCR (neg : Bool) (m : Int) : List Int :=
 (if neg = true then [45] else []) ++ [48, 120, 48 + m / 1152921504606846976] ++ (if m * 16 % 18446744073709551616 = 0 then [] else 46 :: hexs 17 (m * 16 % 18446744073709551616))
def exL (e : Int) : List Int :=
 if e < 100 then [e / 10 + 48, e % 10 + 48] else if e < 1000 then [e / 100 + 48, e / 10 % 10 + 48, e % 10 + 48] else [e / 1000 + 48, e / 100 % 10 + 48, e / 10 % 10 + 48, e % 10 + 48]
def sgL (e : Int) : Int := if e < 0 then 45 else 43
def abL (e : Int) : Int := if e < 0 then -e else e
def fxL (neg : Bool) (m e : Int) : List Int := qCR neg m ++ [112, sgL e] ++ exL (abL e)
def qBt : List Int → List Int
 | 48 :: d :: r => qBt (d :: r)
 | l => l
def decL : Nat → Nat → List Int
 | 0, n => [48 + (n : Int)]
 | k + 1, n => if n < 10 then [48 + (n : Int)] else decL k (n / 10) ++ [48 + ((n % 10 : Nat) : Int)]
theorem strip_ex : ∀ n : Nat, n < 1100 → qBt (exL n) = decL 4 n := by decide +kernel
def negF (a : Int) : Bool := decide (9223372036854775808 ≤ a)
def expF (a : Int) : Int := a / 4503599627370496 % 2048
def manF (a : Int) : Int := if expF a = 0 then a % 4503599627370496 else a % 4503599627370496 + 4503599627370496
def exF (a : Int) : Int := if manF a = 0 then 0 else (if expF a = 0 then 1 else expF a) - 1023
def nF (a : Int) : Int × Int := nrm 64 (manF a * 256) (exF a)
def qDu (a : Int) : List Int := qCR (negF a) (nF a).1 ++ [112, sgL (nF a).2] ++ qBt (exL (abL (nF a).2))
def qBD (a : Int) : List Int :=
 if 9218868437227405312 < a % 9223372036854775808 then [110, 97, 110]
 else if a % 9223372036854775808 = 9218868437227405312 then (if a = 9218868437227405312 then [105, 110, 102] else [45, 105, 110, 102])
 else qDu a
theorem qCg {a : Int} (h0 : 0 ≤ a) : 0 ≤ manF a ∧ manF a < 9007199254740992 := by
 unfold manF; split <;> omega
theorem nrm_out : ∀ (k : Nat) (m e : Int), 0 < m → m < 2305843009213693952 → 1152921504606846976 ≤ m * 2 ^ k → 1152921504606846976 ≤ (nrm k m e).1 ∧ (nrm k m e).1 < 2305843009213693952 ∧ (nrm k m e).2 ≤ e ∧ e - k ≤ (nrm k m e).2
 | 0, m, e, h0, h1, h2 => by
  simp only [Int.pow_zero, Int.mul_one] at h2
  exact ⟨h2, h1, Int.le_refl _, by simp [nrm]⟩
 | k + 1, m, e, h0, h1, h2 => by
  unfold nrm
  split
  ·rename_i h
   obtain ⟨a, b, c, d⟩ := nrm_out k (m * 2) (e - 1) (by omega) (by omega) (by rw [Int.pow_succ] at h2; rw [Int.mul_assoc, Int.mul_comm 2]; exact h2)
   exact ⟨a, b, by omega, by omega⟩
  rename_i h
  exact ⟨by omega, h1, Int.le_refl _, by omega⟩
theorem nF_zero {a : Int} (h : manF a = 0) : nF a = (0, 0) := by
 unfold nF exF; rw [if_pos h, h]; rfl
theorem nF_out {a : Int} (h0 : 0 ≤ a) (h : manF a ≠ 0) : 1152921504606846976 ≤ (nF a).1 ∧ (nF a).1 < 2305843009213693952 ∧ (nF a).2 ≤ 1024 ∧ -1087 ≤ (nF a).2 := by
 have hb := qCg h0
 have he : -1022 ≤ exF a ∧ exF a ≤ 1024 := by
  unfold exF expF; rw [if_neg h]; split <;> omega
 unfold nF
 obtain ⟨a1, b1, c1, d1⟩ := nrm_out 64 (manF a * 256) (exF a) (by omega) (by omega) (by omega)
 exact ⟨a1, b1, by omega, by omega⟩
theorem hx_lt {m : Int} (h0 : 0 ≤ m) (h1 : m < 18446744073709551616) : 0 ≤ m / 1152921504606846976 ∧ m / 1152921504606846976 < 16 := by omega
theorem hx_ne {d : Int} (h : 0 ≤ d) (h1 : d < 16) : hx d ≠ 112 ∧ 0 ≤ hx d ∧ hx d < 256 := by unfold hx; split <;> omega
theorem hexs_ne : ∀ (k : Nat) (m : Int), 0 ≤ m → m < 18446744073709551616 → ∀ x ∈ hexs k m, x ≠ 112 ∧ 0 ≤ x ∧ x < 256
 | 0, m, _, _ => fun x hx => by cases hx
 | k + 1, m, h0, h1 => fun x h => by
  unfold hexs at h
  split at h
  ·cases h
  rcases List.mem_cons.1 h with rfl | h
  ·exact hx_ne (hx_lt h0 h1).1 (hx_lt h0 h1).2
  exact hexs_ne k _ (by omega) (by omega) x h
theorem headL_ne (neg : Bool) (m : Int) (h0 : 0 ≤ m) (h1 : m < 2305843009213693952) : ∀ x ∈ qCR neg m, x ≠ 112 ∧ 0 ≤ x ∧ x < 256 := by
 intro x hx
 unfold qCR at hx
 rcases List.mem_append.1 hx with hx | hx
 ·rcases List.mem_append.1 hx with hx | hx
  ·split at hx
   ·rcases List.mem_singleton.1 hx with rfl; decide
   cases hx
  simp only [List.mem_cons, List.not_mem_nil, or_false] at hx
  rcases hx with rfl | rfl | rfl
  ·decide
  ·decide
  omega
 split at hx
 ·cases hx
 rcases List.mem_cons.1 hx with rfl | hx
 ·decide
 exact hexs_ne 17 _ (by omega) (by omega) x hx
theorem hexs_len : ∀ (k : Nat) (m : Int), (hexs k m).length ≤ k
 | 0, _ => Nat.le_refl _
 | k + 1, m => by
  unfold hexs; split
  ·simp
  rw [List.length_cons]; exact Nat.succ_le_succ (hexs_len k _)
theorem qDf (neg : Bool) (m : Int) : (qCR neg m).length ≤ 22 := by
 unfold qCR
 have := hexs_len 17 (m * 16 % 18446744073709551616)
 simp only [List.length_append, List.length_cons, List.length_nil]
 split <;> split <;> simp <;> omega
end Flt
end Q
end
section
namespace Q
open Go.RowKit YA YC YB
attribute [local go_sem] max2_int min2_int max_two min_two max_three min_three max_four min_four
def qBP.f (a0 : Int) : Option (Int) := some (Go.bits .or .u8 a0 32)
theorem qBP.calls (a0 : Int) (r : Int) (w : World) (h : qBP.f a0 = some r) :
  Calls Tryz.prog 154 #[.int .u8 a0] w fun e w' => e = .returned (.int .u8 r) ∧ qAy w w' := by
 have H : (some (Go.bits .or .u8 a0 32)) = some r := h
 clear h
 obtain rfl := Option.some.inj H
 go_enter Tryz.func154, Tryz.ntmps154
 go_wp2
 go_ret
 exact ⟨by first | rfl | (simp; done) | (simp [*]; done), by repeat (first | exact qAy.refl _ | apply qAy.step)⟩
end Q
end
section
namespace Q
open Go.RowKit YA YC YB
namespace Flt
theorem and_bit {m : Int} (h0 : 0 ≤ m) (h1 : m < 2305843009213693952) : bits .and .u64 m 1152921504606846976 = if m < 1152921504606846976 then 0 else 1152921504606846976 := by
 obtain ⟨n, rfl⟩ := Int.eq_ofNat_of_zero_le h0
 rw [show (1152921504606846976 : Int) = ((1152921504606846976 : Nat) : Int) from rfl, u64_and_nat n 1152921504606846976 (by omega) (by decide), show (1152921504606846976 : Nat) = 2 ^ 60 from rfl]
 have hb : n.testBit 60 = decide (n / 2 ^ 60 % 2 = 1) := Nat.testBit_eq_decide_div_mod_eq
 have key : n &&& 2 ^ 60 = if n.testBit 60 = true then 2 ^ 60 else 0 := by
  apply Nat.eq_of_testBit_eq
  intro i
  rw [Nat.testBit_and, Nat.testBit_two_pow]
  by_cases hi : 60 = i
  ·subst hi
   cases n.testBit 60 <;> (simp <;> decide)
  rw [decide_eq_false hi, Bool.and_false]
  split
  ·rw [Nat.testBit_two_pow, decide_eq_false hi]
  simp
 by_cases h : n < 1152921504606846976
 ·have hd : n / 2 ^ 60 % 2 = 0 := by omega
  rw [key, hb, if_neg (by rw [hd]; decide), if_pos (by omega)]; rfl
 have hd : n / 2 ^ 60 % 2 = 1 := by omega
 rw [key, hb, if_pos (by rw [hd]; decide), if_neg (by omega)]
theorem and_low {m : Int} (h0 : 0 ≤ m) (h1 : m < 18446744073709551616) : bits .and .u64 m 4503599627370495 = m % 4503599627370496 := by
 obtain ⟨n, rfl⟩ := Int.eq_ofNat_of_zero_le h0
 rw [show (4503599627370495 : Int) = ((4503599627370495 : Nat) : Int) from rfl, u64_and_nat n 4503599627370495 (by omega) (by decide), show (4503599627370495 : Nat) = 2 ^ 52 - 1 from rfl, Nat.and_two_pow_sub_one_eq_mod]
 rfl
theorem and_15 {m : Int} (h0 : 0 ≤ m) (h1 : m < 16) : bits .and .u64 m 15 = m := by
 obtain ⟨n, rfl⟩ := Int.eq_ofNat_of_zero_le h0
 rw [show (15 : Int) = ((15 : Nat) : Int) from rfl, u64_and_nat n 15 (by omega) (by decide), show (15 : Nat) = 2 ^ 4 - 1 from rfl, Nat.and_two_pow_sub_one_eq_mod, Nat.mod_eq_of_lt (by omega)]
theorem and_1 {m : Int} (h0 : 0 ≤ m) (h1 : m < 2) : bits .and .u64 m 1 = m := by
 obtain ⟨n, rfl⟩ := Int.eq_ofNat_of_zero_le h0
 rw [show (1 : Int) = ((1 : Nat) : Int) from rfl, u64_and_nat n 1 (by omega) (by decide), show (1 : Nat) = 2 ^ 1 - 1 from rfl, Nat.and_two_pow_sub_one_eq_mod, Nat.mod_eq_of_lt (by omega)]
theorem nrm_stop (k : Nat) (m e : Int) (h : ¬ (m ≠ 0 ∧ m < 1152921504606846976)) : nrm k m e = (m, e) := by
 cases k with
 | zero => rfl
 | succ k => unfold nrm; rw [if_neg h]
theorem hx_at (d : Int) (h0 : 0 ≤ d) (h1 : d < 16) : ∀ w, (Instr.index 9 (.string ⟨#[48, 49, 50, 51, 52, 53, 54, 55, 56, 57, 97, 98, 99, 100, 101, 102]⟩) (.int .u64 d)).run Tryz.prog w = .ok (.int .u8 (hx d)) w := by
 obtain ⟨n, rfl⟩ := Int.eq_ofNat_of_zero_le h0
 have hn : n < 16 := by omega
 have : n = 0 ∨ n = 1 ∨ n = 2 ∨ n = 3 ∨ n = 4 ∨ n = 5 ∨ n = 6 ∨ n = 7 ∨ n = 8 ∨ n = 9 ∨ n = 10 ∨ n = 11 ∨ n = 12 ∨ n = 13 ∨ n = 14 ∨ n = 15 := by omega
 rcases this with rfl | rfl | rfl | rfl | rfl | rfl | rfl | rfl | rfl | rfl | rfl | rfl | rfl | rfl | rfl | rfl <;> exact fun _ => by kernel_rfl
theorem hexs_step (k : Nat) (m : Int) (h0 : 0 ≤ m) (h1 : m < 18446744073709551616) (hm : m ≠ 0) (h3 : m % 16 ^ (17 - (k + 1)) = 0) (hk : k + 1 ≤ 17) (hn : m * 16 % 18446744073709551616 ≠ 0) : m * 16 % 18446744073709551616 % 16 ^ (17 - k) = 0 ∧ 1 < k := by
 have hk0 : 1 ≤ k := by
  rcases Nat.eq_zero_or_pos k with rfl | h
  ·exfalso
   have : m % 18446744073709551616 = 0 := h3
   omega
  exact h
 have hdv : ((16 : Int) ^ (17 - k)) ∣ 18446744073709551616 := ⟨16 ^ (k - 1), by rw [← Int.pow_add, show 17 - k + (k - 1) = 16 by omega]; rfl⟩
 have hz : m * 16 % 18446744073709551616 % 16 ^ (17 - k) = 0 := by
  rw [Int.emod_emod_of_dvd _ hdv]
  obtain ⟨q, hq⟩ := Int.dvd_of_emod_eq_zero h3
  rw [hq, show 17 - k = 17 - (k + 1) + 1 by omega, Int.pow_succ, show (16 : Int) ^ (17 - (k + 1)) * q * 16 = 16 ^ (17 - (k + 1)) * 16 * q by rw [Int.mul_assoc, Int.mul_comm q, Int.mul_assoc]]
  exact Int.mul_emod_right _ _
 refine ⟨hz, ?_⟩
 rcases Nat.lt_or_ge 1 k with h | h
 ·exact h
 exfalso
 have hk1 : k = 1 := by omega
 subst hk1
 have : m * 16 % 18446744073709551616 % 18446744073709551616 = 0 := hz
 omega
theorem w_u64 (x : Int) : IntKind.u64.wrap x = x % 18446744073709551616 := rfl
theorem qB1 {x : Int} (h : -9223372036854775808 ≤ x) (h1 : x < 9223372036854775808) : wrap64 x = x := by unfold wrap64; omega
theorem ten {e : Int} (h0 : 0 ≤ e) (h : e < 5000) (c : Nat) (hc : 0 < c) (hc2 : c ≤ 1000) : wrap64 (Int.tdiv e c) = e / c ∧ Int.tmod e c = e % c := by
 rw [Int.tdiv_eq_ediv_of_nonneg h0, Int.tmod_eq_emod_of_nonneg h0]
 refine ⟨qB1 ?_ ?_, rfl⟩
 ·have : 0 ≤ e / (c : Int) := Int.ediv_nonneg h0 (by omega)
  omega
 have : e / (c : Int) ≤ e := Int.ediv_le_self _ h0
 omega
def St (w0 W : World) (v : Value) (l : List Int) : Prop := W.ownsRow w0.heap.size 5 1 v l.length (nums .u8 l) ∧ Below w0.heap.size w0 W
theorem St.drew {w0 W : World} {v : Value} {l : List Int} (h : St w0 W v l) (n : Nat) : St w0 (W.drewN n) v l := ⟨h.1, qAa h.2 n⟩
section
variable {P : Program} {ops : Array Oper} {rest : List Oper} {o : Oper} {a : Act} {Q : Exit → Act → World → Prop}
theorem qCs {w0 W : World} {v : Value} {xs : List Int} (HO : St w0 W v xs) (hgd : o.guard = none) (s x : Operand) (t : TypeId) (ho : o.op = .call { callee := .builtin .append, args := #[s, x], argTypes := #[t, t] })
  (ht : P.underlying t = some (.slice 5)) (hinfo : (P.info? 5).map (fun i => (i.zero, i.size, i.bytes)) = some (some (.int .u8 0), 1, 1))
  (ys : List Int) (cs : Array Value) (hcs : cs.toList = nums .u8 ys) (hs : a.eval s = v) (n c : Nat) (hn : n = ys.length) (hx : a.eval x = .slice (some ⟨W.heap.size, 0, none⟩) n c)
  (hl : xs.length + ys.length ≤ 100000)
  (h : ∀ v1 w1, St w0 w1 v1 (xs ++ ys) → wpList P ops Q rest (a.put o.dst v1) w1) :
  wpList P ops Q (o :: rest) a (W.alloc (.cells cs 5)) := by
 subst hn
 obtain ⟨i0, hi, hzz⟩ := Option.map_eq_some_iff.1 hinfo
 simp only [Prod.mk.injEq] at hzz
 obtain ⟨hz0, hz1, hz2⟩ := hzz
 have hb : w0.heap.size ≤ W.heap.size := HO.2.size
 have hnew : (W.alloc (.cells cs 5)).heap[W.heap.size]? = some (.cells (nums .u8 ys).toArray 5 (0, 0)) := by
  rw [heap_alloc_new W _, ← hcs]
 refine wpList_append_own_at (W.alloc (.cells cs 5)) hgd s x t ho w0.heap.size 5 i0 (.int .u8 0) 1 1 ht hi hz0 hz1 hz2 rfl (by omega) v xs.length (nums .u8 xs) hs (HO.1.alloc _) ⟨W.heap.size, 0, none⟩ ys.length c (nums .u8 ys) hx (by simp [nums])
  (fun j u hu => World.news_of_block hnew j u (by simpa using hu)) (fun u hu => by unfold nums at hu; obtain ⟨y, _, rfl⟩ := List.mem_map.1 hu; rfl) (by simp only [maxLen]; omega) (by omega) (by simp; omega) ?_
 intro v1 w1 hown hg _ hat
 refine h v1 w1 ⟨by rw [List.length_append, nums_append]; exact hown, (HO.2.alloc hb _).grown hg (by simp; omega) (qBN HO.1)⟩
end
theorem fmtx_any (neg : Bool) (m e M E : Int) (hm0 : 0 ≤ m) (hm : m < 9007199254740992) (he : -2000 < e) (he2 : e < 2000) (hn : nrm 64 (m * 256) (if m = 0 then 0 else e) = (M, E)) (u : Value) (w0 w : World) (HO : St w0 w u []) :
  Calls Tryz.prog 141 #[u, .int .i64 (-1), .int .u8 120, .bool neg, .int .u64 m, .int .i64 e, .int .i64 52] w fun r w' => ∃ v, r = .returned v ∧ St w0 w' v (fxL neg M E) := by
 have HO := am HO
 have HN := am hn
 clear hn
 go_enter Tryz.func141, Tryz.ntmps141
 go_upto_if 21 with (fail)
 go_cut [5] (fun v5 wc => v5 = .int .i64 (if m = 0 then 0 else e) ∧ qAi (St w0 wc u []))
 case first =>
  by_cases c : m = 0
  ·have C := am c
   have cb : (m == 0) = true := beq_iff_eq.mpr c
   clear c hm0 hm he he2 HN
   go_wp2
   go_meet
   case rel => exact ⟨by rw [if_pos C.out], HO⟩
  have C := am c
  have cb : (m == 0) = false := beq_eq_false_iff_ne.mpr c
  clear c hm0 hm he he2 HN
  go_wp2
  go_meet
  case rel => exact ⟨by rw [if_neg C.out], HO⟩
 case rest =>
  clear HO
  obtain ⟨rfl, HO⟩ := hcut
  obtain ⟨e1, he1⟩ : ∃ e1, e1 = (if m = 0 then 0 else e) := ⟨_, rfl⟩
  have hne1 := HN.out
  rw [← he1] at hne1 ⊢
  have hb1 : -2000 < e1 ∧ e1 < 2000 := by rw [he1]; split <;> omega
  have hm8 : IntKind.u64.wrap (m * 256) = m * 256 := by rw [w_u64]; omega
  have HD := am (show nrm 64 (m * 256) e1 = (M, E) ∧ 0 ≤ m * 256 ∧ m * 256 < 2305843009213693952 ∧ (m * 256 ≠ 0 → 1152921504606846976 ≤ m * 256 * 2 ^ 64) ∧ -3000 < e1 - (64 : Nat) ∧ e1 < 3000 from ⟨hne1, by omega, by omega, fun h => by omega, by omega, by omega⟩)
  clear he1 HN hne1 hb1 he he2 hm0 hm
  go_upto_block 0 with (fail)
  go_cut [4, 5] (fun v4 v5 wc => v4 = .int .u64 M ∧ v5 = .int .i64 E ∧ qAi (0 ≤ M ∧ M < 2305843009213693952 ∧ -3100 < E ∧ E < 3000) ∧ qAi (St w0 wc u []))
  case first =>
   go_wp2
   go_loopg [4, 5] 64 (fun kq v4 v5 w' => ∃ x y : Int, v4 = .int .u64 x ∧ v5 = .int .i64 y ∧ qAi (nrm kq x y = (M, E) ∧ 0 ≤ x ∧ x < 2305843009213693952 ∧ (x ≠ 0 → 1152921504606846976 ≤ x * 2 ^ kq) ∧ -3000 < y - kq ∧ y < 3000) ∧ qAi (St w0 w' u []))
   case atStart => exact ⟨_, _, rfl, rfl, HD, HO⟩
   case round =>
    clear HO HD
    obtain ⟨x, y, rfl, rfl, HD, HO⟩ := hrel
    obtain ⟨d1, d2, d3, d4, d5, d6⟩ := HD.out
    by_cases c : x = 0
    ·have cb : (x != 0) = false := bne_eq_false_iff_eq.mpr c
     have hst := nrm_stop gk x y (fun h => h.1 c)
     rw [d1] at hst
     obtain ⟨rfl, rfl⟩ := Prod.mk.inj hst
     have HB := am (show 0 ≤ M ∧ M < 2305843009213693952 ∧ -3100 < E ∧ E < 3000 from ⟨d2, d3, by omega, d6⟩)
     clear c d1 d2 d3 d4 d5 d6 HD hst
     go_wp2
     go_meet
     case rel => exact ⟨rfl, rfl, HB, HO⟩
    have cb : (x != 0) = true := bne_iff_ne.mpr c
    have hab := and_bit d2 d3
    by_cases c2 : x < 1152921504606846976
    rotate_left
    ·rw [if_neg c2] at hab
     have cb2 : (bits .and .u64 x 1152921504606846976 == 0) = false := by rw [hab]; rfl
     have hst := nrm_stop gk x y (fun h => c2 h.2)
     rw [d1] at hst
     obtain ⟨rfl, rfl⟩ := Prod.mk.inj hst
     have HB := am (show 0 ≤ M ∧ M < 2305843009213693952 ∧ -3100 < E ∧ E < 3000 from ⟨d2, d3, by omega, d6⟩)
     clear c c2 d1 d2 d3 d4 d5 d6 HD hst hab
     go_wp2
     go_meet
     case rel => exact ⟨rfl, rfl, HB, HO⟩
    rw [if_pos c2] at hab
    have cb2 : (bits .and .u64 x 1152921504606846976 == 0) = true := by rw [hab]; rfl
    have hw1 : IntKind.u64.wrap (x * 2) = x * 2 := by rw [w_u64]; omega
    have hw2 : IntKind.i64.wrap (y - 1) = y - 1 := (qAo _).trans (qB1 (by omega) (by omega))
    cases gk with
    | zero => exact absurd (d4 c) (by simp; omega)
    | succ k2 =>
     have HE := am (show nrm k2 (x * 2) (y - 1) = (M, E) ∧ 0 ≤ x * 2 ∧ x * 2 < 2305843009213693952 ∧ (x * 2 ≠ 0 → 1152921504606846976 ≤ x * 2 * 2 ^ k2) ∧ -3000 < y - 1 - k2 ∧ y - 1 < 3000 from ⟨by rw [← d1, nrm, if_pos ⟨c, c2⟩], by omega, by omega, fun _ => (by have := d4 c; rw [Int.pow_succ] at this; rw [Int.mul_assoc, Int.mul_comm 2]; exact this), by omega, by omega⟩)
     clear c c2 hab d1 d2 d3 d4 d5 d6 HD
     go_wp2
     go_roundg k2
     case measure => omega
     case rel => exact ⟨_, _, rfl, rfl, HE, HO⟩
  case rest =>
   clear HO HD
   obtain ⟨rfl, rfl, HB, HO⟩ := hcut
   go_upto_if 74 with (fail)
   go_cut [0] (fun v0 wc => qAi (St w0 wc v0 (if neg = true then [45] else [])))
   case first =>
    cases neg with
    | true =>
     go_wp2_with ((with_reducible refine qAW (b := .append) (xs := #[.tmp 75, .tmp 76]) rfl ?_); at_builtin; refine qCs HO.out rfl _ _ 53 rfl Tryz.underlying53 qDg [45] _ rfl rfl _ _ rfl rfl (by simp) ?_; intro v1 w1 hst; have HO2 := am hst; clear hst HO)
     go_meet
     case rel => exact HO2
    | false =>
     go_wp2
     go_meet
     case rel => exact HO
   case rest =>
    clear HO
    have HO := hcut
    clear hcut
    obtain ⟨b1, b2, b3, b4⟩ := HB.out
    have hd : bits .and .u64 (M / 1152921504606846976) 1 = M / 1152921504606846976 := and_1 (by omega) (by omega)
    have hwd : (48 + M / 1152921504606846976) % 256 = 48 + M / 1152921504606846976 := by omega
    have HW := am (And.intro hd hwd)
    have hsl : (if neg = true then [45] else ([] : List Int)).length ≤ 1 := by cases neg <;> simp
    obtain ⟨sg, hsg⟩ : ∃ sg : List Int, sg = if neg = true then [45] else [] := ⟨_, rfl⟩
    rw [← hsg] at hsl HO
    have HSG := am (And.intro hsg hsl)
    obtain ⟨F, hF⟩ : ∃ F, F = IntKind.u64.wrap (M * 16) := ⟨_, rfl⟩
    have hF2 : F = M * 16 % 18446744073709551616 := hF
    have hF3 := hF.symm
    have HF := am (show F = M * 16 % 18446744073709551616 ∧ 0 ≤ F ∧ F < 18446744073709551616 from ⟨hF2, by omega, by omega⟩)
    clear b1 b2 b3 b4 hd hwd hsg hsl hF hF2
    go_upto_region 24 with ((with_reducible refine qAW (b := .append) (xs := #[.tmp 78, .tmp 85]) rfl ?_); at_builtin; refine qCs HO.out rfl _ _ 53 rfl Tryz.underlying53 qDg [48, 120, 48 + M / 1152921504606846976] _ (by simp only [nums, List.map_cons, List.map_nil, HW.out.1, HW.out.2]) rfl _ _ rfl rfl (by have := HSG.out.2; simp; omega) ?_; intro v1 w1 hst; have HO2 := am hst; clear hst HO)
    obtain ⟨l3, hl3⟩ : ∃ l3, l3 = sg ++ [48, 120, 48 + M / 1152921504606846976] := ⟨_, rfl⟩
    have HL3 := am (show l3 = sg ++ [48, 120, 48 + M / 1152921504606846976] ∧ l3.length ≤ 4 from ⟨hl3, by have := HSG.out.2; rw [hl3]; simp; omega⟩)
    rw [← hl3] at HO2
    clear hl3
    go_upto_if 94 with (fail)
    go_cut [0] (fun v0 wc => qAi (St w0 wc v0 (l3 ++ if F = 0 then [] else 46 :: hexs 17 F)))
    case first =>
     clear HW
     by_cases c : F = 0
     ·have cb : (F != 0) = false := bne_eq_false_iff_eq.mpr c
      have C := am c
      clear c
      go_wp2
      go_meet
      case rel => rw [if_pos C.out, List.append_nil]; exact HO2
     have cb : (F != 0) = true := bne_iff_ne.mpr c
     have C := am c
     clear c
     go_wp2_with ((with_reducible refine qAW (b := .append) (xs := #[.tmp 95, .tmp 96]) rfl ?_); at_builtin; refine qCs HO2.out rfl _ _ 53 rfl Tryz.underlying53 qDg [46] _ rfl rfl _ _ rfl rfl (by have := HL3.out.2; simp; omega) ?_; intro v1 w1 hst; have HO3 := am hst; clear hst HO2)
     have HX := am (show l3 ++ [46] ++ hexs 17 F = (l3 ++ if F = 0 then [] else 46 :: hexs 17 F) ∧ (l3 ++ [46]).length + 17 ≤ 22 from ⟨by rw [if_neg C.out, List.append_assoc]; rfl, by have := HL3.out.2; simp; omega⟩)
     have HY := am (show 0 ≤ F ∧ F < 18446744073709551616 ∧ (F ≠ 0 → F % 16 ^ (17 - 17) = 0 ∧ 1 < 17) from ⟨HF.out.2.1, HF.out.2.2, fun _ => ⟨by simp, by decide⟩⟩)
     clear cb
     go_loopg [0, 4] 17 (fun kq v0 v4 w' => ∃ (x : Int) (l : List Int), v4 = .int .u64 x ∧ qAi (l ++ hexs kq x = (l3 ++ if F = 0 then [] else 46 :: hexs 17 F) ∧ l.length + kq ≤ 22) ∧ qAi (kq ≤ 17 ∧ 0 ≤ x ∧ x < 18446744073709551616 ∧ (x ≠ 0 → x % 16 ^ (17 - kq) = 0 ∧ 1 < kq)) ∧ qAi (St w0 w' v0 l))
     case atStart => exact ⟨_, _, rfl, HX, ⟨Nat.le_refl _, HY.out⟩, HO3⟩
     case round =>
      clear HX HY HO3
      obtain ⟨x, l, rfl, HX, HY, HO⟩ := hrel
      obtain ⟨d0, d1, d2, d3⟩ := HY.out
      by_cases c : x = 0
      ·have cb : (x != 0) = false := bne_eq_false_iff_eq.mpr c
       have HZ := am (show l = (l3 ++ if F = 0 then [] else 46 :: hexs 17 F) from by rw [← HX.out.1, c, show hexs gk 0 = [] from by cases gk <;> rfl, List.append_nil])
       clear c d0 d1 d2 d3 HX HY
       go_wp2
       go_meet
       case rel => rw [← HZ.out]; exact HO
      have cb : (x != 0) = true := bne_iff_ne.mpr c
      obtain ⟨d4, d5⟩ := d3 c
      obtain ⟨e1, e2⟩ := hx_lt d1 d2
      have hb15 := and_15 e1 e2
      obtain ⟨d, hd⟩ : ∃ d, d = x / 1152921504606846976 := ⟨_, rfl⟩
      rw [← hd] at hb15 e1 e2
      have hd' := hd.symm
      have hw16 : IntKind.u64.wrap (x * 16) = x * 16 % 18446744073709551616 := rfl
      have hget := hx_at d e1 e2
      cases gk with
      | zero => omega
      | succ k2 =>
       have hz := hexs_step k2 x d1 d2 c d4 d0
       have HE := am (show l ++ [hx d] ++ hexs k2 (x * 16 % 18446744073709551616) = (l3 ++ if F = 0 then [] else 46 :: hexs 17 F) ∧ (l ++ [hx d]).length + k2 ≤ 22 from ⟨by rw [← HX.out.1, hexs, if_neg c, hd', List.append_assoc]; rfl, by have := HX.out.2; simp; omega⟩)
       have HG := am (show k2 ≤ 17 ∧ 0 ≤ x * 16 % 18446744073709551616 ∧ x * 16 % 18446744073709551616 < 18446744073709551616 ∧ (x * 16 % 18446744073709551616 ≠ 0 → x * 16 % 18446744073709551616 % 16 ^ (17 - k2) = 0 ∧ 1 < k2) from ⟨by omega, by omega, by omega, fun h => hz h⟩)
       have HLL := am (show l.length ≤ 22 from by have := HX.out.2; omega)
       clear c d0 d1 d2 d3 d4 d5 hz HX HY hd
       go_wp2_with ((with_reducible refine qAW (b := .append) (xs := #[.tmp 100, .tmp 106]) rfl ?_); at_builtin; refine qCs HO.out rfl _ _ 53 rfl Tryz.underlying53 qDg [hx d] _ rfl rfl _ _ rfl rfl (by have := HLL.out; simp; omega) ?_; intro v1 w1 hst; have HO4 := am hst; clear hst HO)
       go_roundg k2
       case measure => omega
       case rel => exact ⟨_, _, rfl, HE, HG, HO4⟩
    case rest =>
     have HO := hcut
     clear hcut
     obtain ⟨l4, hl4⟩ : ∃ l4, l4 = l3 ++ (if F = 0 then [] else 46 :: hexs 17 F) := ⟨_, rfl⟩
     rw [← hl4] at HO
     have hh : l4 = qCR neg M := by
      rw [hl4, HL3.out.1, HSG.out.1]; unfold qCR; rw [← HF.out.1]
     have HL4 := am (show l4 = qCR neg M ∧ l4.length ≤ 22 from ⟨hh, by rw [hh]; exact qDf neg M⟩)
     obtain ⟨b1, b2, b3, b4⟩ := HB.out
     clear hl4 hh HL3 HSG HF hF3
     go_upto_if 139 with (first | (go_at_call 154; refine (qBP.calls 120 120 _ (by decide +kernel)).mono ?_; rintro e w' ⟨rfl, ⟨nd, rfl⟩⟩; have HO3 := am (St.drew HO.out nd); clear HO; have HO := HO3; clear HO3) | ((with_reducible refine qAW (b := .append) (xs := #[.tmp 134, .tmp 136]) rfl ?_); at_builtin; refine qCs HO.out rfl _ _ 53 rfl Tryz.underlying53 qDg [112] _ rfl rfl _ _ rfl rfl (by have := HL4.out.2; simp; omega) ?_; intro v1 w1 hst; have HO5 := am hst; clear hst HO))
     go_cut [5, 19] (fun v5 v19 wc => v5 = .int .i64 (abL E) ∧ v19 = .int .u8 (sgL E) ∧ qAi (St w0 wc v1 (l4 ++ [112])))
     case first =>
      by_cases c : E < 0
      rotate_left
      ·have cb := decide_eq_false c
       have C := am c
       clear c b1 b2 b3 b4
       rw [cb]
       go_wp2
       go_meet
       case rel => exact ⟨by unfold abL; rw [if_neg (by have := C.out; omega)], by unfold sgL; rw [if_neg (by have := C.out; omega)], HO5⟩
      have cb := decide_eq_true c
      have hw : IntKind.i64.wrap (-E) = -E := (qAo _).trans (qB1 (by omega) (by omega))
      have C := am c
      clear c b1 b2 b3 b4
      rw [cb]
      go_wp2
      go_meet
      case rel => exact ⟨by unfold abL; rw [if_pos (by have := C.out; omega)], by unfold sgL; rw [if_pos (by have := C.out; omega)], HO5⟩
     case rest =>
      clear HO5
      obtain ⟨rfl, rfl, HO⟩ := hcut
      have hx0 : 0 ≤ abL E ∧ abL E < 5000 := by unfold abL; split <;> omega
      have hfx : fxL neg M E = l4 ++ [112] ++ [sgL E] ++ exL (abL E) := by unfold fxL; rw [HL4.out.1]; simp only [List.append_assoc]; rfl
      clear b1 b2 b3 b4 HB
      obtain ⟨x, hx⟩ : ∃ x, x = abL E := ⟨_, rfl⟩
      obtain ⟨sgn, hsgn⟩ : ∃ x, x = sgL E := ⟨_, rfl⟩
      rw [← hx] at hx0 hfx ⊢
      rw [← hsgn] at hfx ⊢
      obtain ⟨x0, x1⟩ := hx0
      clear hx hsgn
      have HL6 := am (show (l4 ++ [112] ++ [sgn]).length ≤ 24 from by have := HL4.out.2; simp; omega)
      clear HW HO2
      go_upto_block 6 with ((with_reducible refine qAW (b := .append) (xs := #[.tmp 142, .tmp 144]) rfl ?_); at_builtin; refine qCs HO.out rfl _ _ 53 rfl Tryz.underlying53 qDg [sgn] _ rfl rfl _ _ rfl rfl (by have := HL4.out.2; simp; omega) ?_; intro v1 w1 hst; have HO6 := am hst; clear hst HO)
      obtain ⟨l6, hl6⟩ : ∃ l6, l6 = l4 ++ [112] ++ [sgn] := ⟨_, rfl⟩
      rw [← hl6] at HO6 HL6 hfx
      clear hl6 HL4
      obtain ⟨d1, m1⟩ := ten x0 x1 10 (by decide) (by decide)
      obtain ⟨d2, _⟩ := ten x0 x1 100 (by decide) (by decide)
      obtain ⟨d3, _⟩ := ten x0 x1 1000 (by decide) (by decide)
      have m2 : Int.tmod (x / 10) 10 = x / 10 % 10 := Int.tmod_eq_emod_of_nonneg (by omega)
      have HQ := am (And.intro d1 (And.intro d2 (And.intro d3 (And.intro m1 m2))))
      clear d1 d2 d3 m1 m2
      unfold exL at hfx
      by_cases c : x < 100
      ·rw [if_pos c] at hfx
       have HFX := am hfx
       clear hfx
       have cb := decide_eq_true c
       go_wp2_with ((with_reducible refine qAW (b := .append) (xs := #[.tmp 170, .tmp 179]) rfl ?_); at_builtin; refine qCs HO6.out rfl _ _ 53 rfl Tryz.underlying53 qDg [x / 10 + 48, x % 10 + 48] _ rfl rfl _ _ rfl rfl (by have := HL6.out; simp; omega) ?_; intro v1 w1 hst; have HO7 := am hst; clear hst HO6)
       go_ret
       exact ⟨_, rfl, by rw [HFX.out]; exact HO7.out⟩
      rw [if_neg c] at hfx
      have cb := decide_eq_false c
      by_cases c2 : x < 1000
      ·rw [if_pos c2] at hfx
       have HFX := am hfx
       clear hfx
       have cb2 := decide_eq_true c2
       go_wp2_with ((with_reducible refine qAW (b := .append) (xs := #[.tmp 184, .tmp 198]) rfl ?_); at_builtin; refine qCs HO6.out rfl _ _ 53 rfl Tryz.underlying53 qDg [x / 100 + 48, x / 10 % 10 + 48, x % 10 + 48] _ rfl rfl _ _ rfl rfl (by have := HL6.out; simp; omega) ?_; intro v1 w1 hst; have HO7 := am hst; clear hst HO6)
       go_ret
       exact ⟨_, rfl, by rw [HFX.out]; exact HO7.out⟩
      rw [if_neg c2] at hfx
      have HFX := am hfx
      clear hfx
      have cb2 := decide_eq_false c2
      go_wp2_with ((with_reducible refine qAW (b := .append) (xs := #[.tmp 146, .tmp 165]) rfl ?_); at_builtin; refine qCs HO6.out rfl _ _ 53 rfl Tryz.underlying53 qDg [x / 1000 + 48, x / 100 % 10 + 48, x / 10 % 10 + 48, x % 10 + 48] _ rfl rfl _ _ rfl rfl (by have := HL6.out; simp; omega) ?_; intro v1 w1 hst; have HO7 := am hst; clear hst HO6)
      go_ret
      exact ⟨_, rfl, by rw [HFX.out]; exact HO7.out⟩
end Flt
end Q
end
section
open Go.Shelf
def Tryz.lays169_ren : Go.Shelf.Ren := ⟨fun | 169 => 61 | n => n, fun | 70 => 122 | 9 => 9 | 0 => 0 | 72 => 124 | 37 => 53 | 127 => 154 | 3 => 3 | 5 => 5 | n => n, fun | n => n⟩
theorem Tryz.lays169 : Go.Proofs.Lays.n169 Tryz.prog Tryz.lays169_ren := {
  mixed := by kernel_rfl
  f169 := Tryz.func61.trans (congrArg some (by kernel_rfl))
  t0 := Tryz.underlying0
  a0 := Tryz.isAgg0
  z0 := Tryz.sizeOf0
  v0 := Tryz.zeroValue0
  t3 := Tryz.underlying3
  a3 := Tryz.isAgg3
  z3 := Tryz.sizeOf3
  v3 := Tryz.zeroValue3
  t9 := Tryz.underlying9
  a9 := Tryz.isAgg9
  z9 := Tryz.sizeOf9
  v9 := Tryz.zeroValue9
  t37 := Tryz.underlying53
  a37 := Tryz.isAgg53
  z37 := Tryz.sizeOf53
  v37 := Tryz.zeroValue53
  t70 := Tryz.underlying122
  a70 := Tryz.isAgg122
  z70 := Tryz.sizeOf122
  v70 := Tryz.zeroValue122
  t72 := Tryz.underlying124
  a72 := Tryz.isAgg124
  z72 := Tryz.sizeOf124
  v72 := Tryz.zeroValue124
  t127 := Tryz.underlying154
  a127 := Tryz.isAgg154
  z127 := Tryz.sizeOf154
  v127 := Tryz.zeroValue154 }
theorem Tryz.Builder_Extra_169 : Builder.Extra Tryz.prog Tryz.lays169_ren := {
  sizeBuilder := by kernel_rfl
  liesBuilder := by kernel_rfl
  t5 := Tryz.underlying5
  a5 := Tryz.isAgg5
  z5 := Tryz.sizeOf5
  v5 := Tryz.zeroValue5
  infoByte := by kernel_rfl
  cellsByte := by kernel_rfl
  sizeByte := by kernel_rfl
  neB5 := by decide }
open Go.RowKit in
theorem Tryz.Builder_String_any (B b : Nat) (l : List UInt8) (w : World) (h : Lib.IsBuilder 124 5 B b (Lib.byteCells l) w) (hBw : B ≤ w.heap.size) :
  Calls Tryz.prog 61 #[.pointer (some ⟨b, 0, none⟩)] w fun e w' => e = .returned (.string ⟨l.toArray⟩) ∧ Below B w w' := Any.Builder_String_any Tryz.lays169 Tryz.Builder_Extra_169 B b l w h hBw
def Tryz.lays137_ren : Go.Shelf.Ren := ⟨fun | 137 => 105 | 217 => 122 | 266 => 132 | n => n, fun | 9 => 9 | 5 => 5 | 3 => 3 | n => n, fun | n => n⟩
theorem Tryz.lays137 : Go.Proofs.Lays.n137 Tryz.prog Tryz.lays137_ren := {
  mixed := by kernel_rfl
  f137 := Tryz.func105.trans (congrArg some (by kernel_rfl))
  f217 := Tryz.func122.trans (congrArg some (by kernel_rfl))
  f266 := Tryz.func132.trans (congrArg some (by kernel_rfl))
  t3 := Tryz.underlying3
  a3 := Tryz.isAgg3
  z3 := Tryz.sizeOf3
  v3 := Tryz.zeroValue3
  t5 := Tryz.underlying5
  a5 := Tryz.isAgg5
  z5 := Tryz.sizeOf5
  v5 := Tryz.zeroValue5
  t9 := Tryz.underlying9
  a9 := Tryz.isAgg9
  z9 := Tryz.sizeOf9
  v9 := Tryz.zeroValue9 }
open Go.RowKit in
theorem Tryz.strings_IndexByte (s : ByteArray) (c : Int) (w : World) :
  Calls Tryz.prog 105 #[.string s, .int .u8 c] w fun e w' => e = .returned (.int .i64 (Lib.indexByte s.data.toList c.toNat.toUInt8)) ∧ w' = w := Any.strings_IndexByte Tryz.lays137 s c w
open Go.RowKit Go.Sort Go.Lib in
def Tryz.laysM171_ren : Go.Shelf.Ren := ⟨fun | 171 => 49 | 243 => 77 | 246 => 108 | 283 => 125 | 284 => 126 | 285 => 127 | 286 => 128 | 129 => 134 | 317 => 133 | 318 => 135 | 319 => 136 | 320 => 137 | 337 => 150 | 338 => 151 | n => n, fun | 3 => 3 | 9 => 9 | 2 => 2 | 4 => 4 | 171 => 212 | 0 => 0 | 53 => 46 | 37 => 53 | 5 => 5 | 173 => 214 | 212 => 223 | 51 => 181 | 20 => 20 | 213 => 224 | 46 => 130 | 232 => 231 | 233 => 259 | n => n, fun | 17 => 3 | 18 => 6 | 19 => 7 | n => n⟩
theorem Tryz.laysM171 : Go.Proofs.LaysM.n171 Tryz.prog Tryz.laysM171_ren := {
  mixed := by kernel_rfl
  f129 := Tryz.func134.trans (congrArg some (by kernel_rfl))
  f171 := Tryz.func49.trans (congrArg some (by kernel_rfl))
  f243 := Tryz.func77.trans (congrArg some (by kernel_rfl))
  f246 := Tryz.func108.trans (congrArg some (by kernel_rfl))
  f283 := Tryz.func125.trans (congrArg some (by kernel_rfl))
  f284 := Tryz.func126.trans (congrArg some (by kernel_rfl))
  f285 := Tryz.func127.trans (congrArg some (by kernel_rfl))
  f286 := Tryz.func128.trans (congrArg some (by kernel_rfl))
  f317 := Tryz.func133.trans (congrArg some (by kernel_rfl))
  f318 := Tryz.func135.trans (congrArg some (by kernel_rfl))
  f319 := Tryz.func136.trans (congrArg some (by kernel_rfl))
  f320 := Tryz.func137.trans (congrArg some (by kernel_rfl))
  f337 := Tryz.func150.trans (congrArg some (by kernel_rfl))
  f338 := Tryz.func151.trans (congrArg some (by kernel_rfl))
  t0 := Tryz.underlying0
  a0 := Tryz.isAgg0
  z0 := Tryz.sizeOf0
  v0 := Tryz.zeroValue0
  t2 := Tryz.underlying2
  a2 := Tryz.isAgg2
  z2 := Tryz.sizeOf2
  v2 := Tryz.zeroValue2
  t3 := Tryz.underlying3
  a3 := Tryz.isAgg3
  z3 := Tryz.sizeOf3
  v3 := Tryz.zeroValue3
  t4 := Tryz.underlying4
  a4 := Tryz.isAgg4
  z4 := Tryz.sizeOf4
  v4 := Tryz.zeroValue4
  t5 := Tryz.underlying5
  a5 := Tryz.isAgg5
  z5 := Tryz.sizeOf5
  v5 := Tryz.zeroValue5
  t9 := Tryz.underlying9
  a9 := Tryz.isAgg9
  z9 := Tryz.sizeOf9
  v9 := Tryz.zeroValue9
  t20 := Tryz.underlying20
  a20 := Tryz.isAgg20
  z20 := Tryz.sizeOf20
  v20 := Tryz.zeroValue20
  t37 := Tryz.underlying53
  a37 := Tryz.isAgg53
  z37 := Tryz.sizeOf53
  v37 := Tryz.zeroValue53
  t46 := Tryz.underlying130
  a46 := Tryz.isAgg130
  z46 := Tryz.sizeOf130
  v46 := Tryz.zeroValue130
  t51 := Tryz.underlying181
  a51 := Tryz.isAgg181
  z51 := Tryz.sizeOf181
  v51 := Tryz.zeroValue181
  t53 := Tryz.underlying46
  a53 := Tryz.isAgg46
  z53 := Tryz.sizeOf46
  v53 := Tryz.zeroValue46
  t171 := Tryz.underlying212
  a171 := Tryz.isAgg212
  z171 := Tryz.sizeOf212
  v171 := Tryz.zeroValue212
  t173 := Tryz.underlying214
  a173 := Tryz.isAgg214
  z173 := Tryz.sizeOf214
  v173 := Tryz.zeroValue214
  t212 := Tryz.underlying223
  a212 := Tryz.isAgg223
  z212 := Tryz.sizeOf223
  v212 := Tryz.zeroValue223
  t213 := Tryz.underlying224
  a213 := Tryz.isAgg224
  z213 := Tryz.sizeOf224
  t232 := Tryz.underlying231
  a232 := Tryz.isAgg231
  z232 := Tryz.sizeOf231
  v232 := Tryz.zeroValue231
  t233 := Tryz.underlying259
  a233 := Tryz.isAgg259
  z233 := Tryz.sizeOf259
  v233 := Tryz.zeroValue259
  g17 := by kernel_rfl
  g18 := by kernel_rfl
  g19 := by kernel_rfl
  i0 := by kernel_rfl
  i2 := by kernel_rfl
  i3 := by kernel_rfl
  i4 := by kernel_rfl
  i5 := by kernel_rfl
  i9 := by kernel_rfl
  i20 := by kernel_rfl
  i37 := by kernel_rfl
  i46 := by kernel_rfl
  i51 := by kernel_rfl
  i53 := by kernel_rfl
  i171 := by kernel_rfl
  i173 := by kernel_rfl
  i212 := by kernel_rfl
  i232 := by kernel_rfl
  i233 := by kernel_rfl
  m17 := by kernel_rfl
  m18 := by kernel_rfl
  m19 := by kernel_rfl }
open Go.RowKit Go.Sort Go.Lib in
theorem Tryz.strconv_Itoa (n : Int) (h0 : -9223372036854775808 ≤ n) (h1 : n ≤ 9223372036854775807) (w : World) (htab : Lib.TabIs Tryz.prog w "internal/strconv.uint64pow10" .u64 Lib.pow10Tab) :
  Calls Tryz.prog 49 #[.int .i64 n] w fun e w' => e = .returned (.string ⟨(Lib.itoa n).toArray⟩) ∧ ∃ k os, w' = grow (w.drewN k) os := Any.strconv_Itoa Tryz.laysM171 n h0 h1 w htab
open Go.RowKit Go.Sort Go.Lib in
def Tryz.laysM173_ren : Go.Shelf.Ren := ⟨fun | 173 => 102 | 246 => 108 | 283 => 125 | 284 => 126 | 285 => 127 | 286 => 128 | 129 => 134 | 317 => 133 | 318 => 135 | 319 => 136 | 320 => 137 | 337 => 150 | 338 => 151 | n => n, fun | 2 => 2 | 3 => 3 | 9 => 9 | 4 => 4 | 171 => 212 | 0 => 0 | 53 => 46 | 37 => 53 | 5 => 5 | 173 => 214 | 212 => 223 | 51 => 181 | 20 => 20 | 213 => 224 | 46 => 130 | 232 => 231 | 233 => 259 | n => n, fun | 17 => 3 | 18 => 6 | 19 => 7 | n => n⟩
theorem Tryz.laysM173 : Go.Proofs.LaysM.n173 Tryz.prog Tryz.laysM173_ren := {
  mixed := by kernel_rfl
  f129 := Tryz.func134.trans (congrArg some (by kernel_rfl))
  f173 := Tryz.func102.trans (congrArg some (by kernel_rfl))
  f246 := Tryz.func108.trans (congrArg some (by kernel_rfl))
  f283 := Tryz.func125.trans (congrArg some (by kernel_rfl))
  f284 := Tryz.func126.trans (congrArg some (by kernel_rfl))
  f285 := Tryz.func127.trans (congrArg some (by kernel_rfl))
  f286 := Tryz.func128.trans (congrArg some (by kernel_rfl))
  f317 := Tryz.func133.trans (congrArg some (by kernel_rfl))
  f318 := Tryz.func135.trans (congrArg some (by kernel_rfl))
  f319 := Tryz.func136.trans (congrArg some (by kernel_rfl))
  f320 := Tryz.func137.trans (congrArg some (by kernel_rfl))
  f337 := Tryz.func150.trans (congrArg some (by kernel_rfl))
  f338 := Tryz.func151.trans (congrArg some (by kernel_rfl))
  t0 := Tryz.underlying0
  a0 := Tryz.isAgg0
  z0 := Tryz.sizeOf0
  v0 := Tryz.zeroValue0
  t2 := Tryz.underlying2
  a2 := Tryz.isAgg2
  z2 := Tryz.sizeOf2
  v2 := Tryz.zeroValue2
  t3 := Tryz.underlying3
  a3 := Tryz.isAgg3
  z3 := Tryz.sizeOf3
  v3 := Tryz.zeroValue3
  t4 := Tryz.underlying4
  a4 := Tryz.isAgg4
  z4 := Tryz.sizeOf4
  v4 := Tryz.zeroValue4
  t5 := Tryz.underlying5
  a5 := Tryz.isAgg5
  z5 := Tryz.sizeOf5
  v5 := Tryz.zeroValue5
  t9 := Tryz.underlying9
  a9 := Tryz.isAgg9
  z9 := Tryz.sizeOf9
  v9 := Tryz.zeroValue9
  t20 := Tryz.underlying20
  a20 := Tryz.isAgg20
  z20 := Tryz.sizeOf20
  v20 := Tryz.zeroValue20
  t37 := Tryz.underlying53
  a37 := Tryz.isAgg53
  z37 := Tryz.sizeOf53
  v37 := Tryz.zeroValue53
  t46 := Tryz.underlying130
  a46 := Tryz.isAgg130
  z46 := Tryz.sizeOf130
  v46 := Tryz.zeroValue130
  t51 := Tryz.underlying181
  a51 := Tryz.isAgg181
  z51 := Tryz.sizeOf181
  v51 := Tryz.zeroValue181
  t53 := Tryz.underlying46
  a53 := Tryz.isAgg46
  z53 := Tryz.sizeOf46
  v53 := Tryz.zeroValue46
  t171 := Tryz.underlying212
  a171 := Tryz.isAgg212
  z171 := Tryz.sizeOf212
  v171 := Tryz.zeroValue212
  t173 := Tryz.underlying214
  a173 := Tryz.isAgg214
  z173 := Tryz.sizeOf214
  v173 := Tryz.zeroValue214
  t212 := Tryz.underlying223
  a212 := Tryz.isAgg223
  z212 := Tryz.sizeOf223
  v212 := Tryz.zeroValue223
  t213 := Tryz.underlying224
  a213 := Tryz.isAgg224
  z213 := Tryz.sizeOf224
  t232 := Tryz.underlying231
  a232 := Tryz.isAgg231
  z232 := Tryz.sizeOf231
  v232 := Tryz.zeroValue231
  t233 := Tryz.underlying259
  a233 := Tryz.isAgg259
  z233 := Tryz.sizeOf259
  v233 := Tryz.zeroValue259
  g17 := by kernel_rfl
  g18 := by kernel_rfl
  g19 := by kernel_rfl
  i0 := by kernel_rfl
  i2 := by kernel_rfl
  i3 := by kernel_rfl
  i4 := by kernel_rfl
  i5 := by kernel_rfl
  i9 := by kernel_rfl
  i20 := by kernel_rfl
  i37 := by kernel_rfl
  i46 := by kernel_rfl
  i51 := by kernel_rfl
  i53 := by kernel_rfl
  i171 := by kernel_rfl
  i173 := by kernel_rfl
  i212 := by kernel_rfl
  i232 := by kernel_rfl
  i233 := by kernel_rfl
  m17 := by kernel_rfl
  m18 := by kernel_rfl
  m19 := by kernel_rfl }
open Go.RowKit Go.Sort Go.Lib in
theorem Tryz.strconv_FormatInt_10 (n : Int) (h0 : -9223372036854775808 ≤ n) (h1 : n ≤ 9223372036854775807) (w : World) (htab : Lib.TabIs Tryz.prog w "internal/strconv.uint64pow10" .u64 Lib.pow10Tab) :
  Calls Tryz.prog 102 #[.int .i64 n, .int .i64 10] w fun e w' => e = .returned (.string ⟨(Lib.itoa n).toArray⟩) ∧ ∃ k os, w' = grow (w.drewN k) os := Any.strconv_FormatInt_10 Tryz.laysM173 n h0 h1 w htab
open Go.RowKit Go.Lib in
def Tryz.lays157_ren : Go.Shelf.Ren := ⟨fun | 157 => 48 | 229 => 75 | 199 => 76 | 261 => 107 | 311 => 123 | 312 => 124 | n => n, fun | 9 => 9 | 31 => 103 | 3 => 3 | 5 => 5 | 4 => 4 | 119 => 148 | 0 => 0 | 40 => 150 | 152 => 178 | 21 => 21 | 154 => 180 | 51 => 181 | 141 => 183 | 196 => 204 | 193 => 201 | 198 => 207 | 49 => 205 | 194 => 202 | 201 => 210 | 226 => 220 | 46 => 130 | 227 => 221 | n => n, fun | 0 => 0 | 6 => 1 | n => n⟩
theorem Tryz.lays157 : Go.Proofs.Lays.n157 Tryz.prog Tryz.lays157_ren := {
  mixed := by kernel_rfl
  f157 := Tryz.func48.trans (congrArg some (by kernel_rfl))
  f199 := Tryz.func76.trans (congrArg some (by kernel_rfl))
  f229 := Tryz.func75.trans (congrArg some (by kernel_rfl))
  f261 := Tryz.func107.trans (congrArg some (by kernel_rfl))
  f311 := Tryz.func123.trans (congrArg some (by kernel_rfl))
  f312 := Tryz.func124.trans (congrArg some (by kernel_rfl))
  t0 := Tryz.underlying0
  a0 := Tryz.isAgg0
  z0 := Tryz.sizeOf0
  v0 := Tryz.zeroValue0
  t3 := Tryz.underlying3
  a3 := Tryz.isAgg3
  z3 := Tryz.sizeOf3
  v3 := Tryz.zeroValue3
  t4 := Tryz.underlying4
  a4 := Tryz.isAgg4
  z4 := Tryz.sizeOf4
  v4 := Tryz.zeroValue4
  t5 := Tryz.underlying5
  a5 := Tryz.isAgg5
  z5 := Tryz.sizeOf5
  v5 := Tryz.zeroValue5
  t9 := Tryz.underlying9
  a9 := Tryz.isAgg9
  z9 := Tryz.sizeOf9
  v9 := Tryz.zeroValue9
  t21 := Tryz.underlying21
  a21 := Tryz.isAgg21
  z21 := Tryz.sizeOf21
  v21 := Tryz.zeroValue21
  t31 := Tryz.underlying103
  a31 := Tryz.isAgg103
  z31 := Tryz.sizeOf103
  v31 := Tryz.zeroValue103
  t40 := Tryz.underlying150
  a40 := Tryz.isAgg150
  z40 := Tryz.sizeOf150
  v40 := Tryz.zeroValue150
  t46 := Tryz.underlying130
  a46 := Tryz.isAgg130
  z46 := Tryz.sizeOf130
  v46 := Tryz.zeroValue130
  t49 := Tryz.underlying205
  a49 := Tryz.isAgg205
  z49 := Tryz.sizeOf205
  v49 := Tryz.zeroValue205
  t51 := Tryz.underlying181
  a51 := Tryz.isAgg181
  z51 := Tryz.sizeOf181
  v51 := Tryz.zeroValue181
  t119 := Tryz.underlying148
  a119 := Tryz.isAgg148
  z119 := Tryz.sizeOf148
  t141 := Tryz.underlying183
  a141 := Tryz.isAgg183
  z141 := Tryz.sizeOf183
  v141 := Tryz.zeroValue183
  t152 := Tryz.underlying178
  a152 := Tryz.isAgg178
  z152 := Tryz.sizeOf178
  v152 := Tryz.zeroValue178
  t154 := Tryz.underlying180
  a154 := Tryz.isAgg180
  z154 := Tryz.sizeOf180
  v154 := Tryz.zeroValue180
  t193 := Tryz.underlying201
  a193 := Tryz.isAgg201
  z193 := Tryz.sizeOf201
  v193 := Tryz.zeroValue201
  t194 := Tryz.underlying202
  a194 := Tryz.isAgg202
  z194 := Tryz.sizeOf202
  v194 := Tryz.zeroValue202
  t196 := Tryz.underlying204
  a196 := Tryz.isAgg204
  z196 := Tryz.sizeOf204
  v196 := Tryz.zeroValue204
  t198 := Tryz.underlying207
  a198 := Tryz.isAgg207
  z198 := Tryz.sizeOf207
  v198 := Tryz.zeroValue207
  t201 := Tryz.underlying210
  a201 := Tryz.isAgg210
  z201 := Tryz.sizeOf210
  v201 := Tryz.zeroValue210
  t226 := Tryz.underlying220
  a226 := Tryz.isAgg220
  z226 := Tryz.sizeOf220
  v226 := Tryz.zeroValue220
  t227 := Tryz.underlying221
  a227 := Tryz.isAgg221
  z227 := Tryz.sizeOf221
  v227 := Tryz.zeroValue221
  g0 := by kernel_rfl
  g6 := by kernel_rfl }
open Go.RowKit Go.Lib in
theorem Tryz.strings_Fields (s : ByteArray) (w : World) (hs : s.size < 4294967281) (hascii : ∀ (j : Nat) b, s.data.toList[j]? = some b → b.toNat < 128) (htab : Lib.TabIs Tryz.prog w "strings.asciiSpace" .u8 Lib.asciiSpaceTab) :
  Calls Tryz.prog 48 #[.string s] w fun e w' =>
   e = .returned (.slice (some ⟨w.heap.size, 0, none⟩) (Lib.fields s.data.toList).length (Lib.fields s.data.toList).length) ∧ w' = w.alloc (.cells ((Lib.fields s.data.toList).map fun l => Value.string ⟨l.toArray⟩).toArray 9) := Any.strings_Fields Tryz.lays157 (by kernel_rfl) (by kernel_rfl) s w hs hascii htab
end
section
namespace Q
open Go.RowKit YA YC YB
namespace Flt
theorem i64_and (m : Int) : bits .and .i64 m 2047 = m % 2048 := by
 have h127 : (BitVec.ofInt 64 2047).toNat = 2 ^ 11 - 1 := by decide
 have key : (BitVec.ofInt 64 m &&& BitVec.ofInt 64 2047).toNat = (m % ((2 ^ 64 : Nat) : Int)).toNat % 2 ^ 11 := by
  rw [BitVec.toNat_and, BitVec.toNat_ofInt, h127, Nat.and_two_pow_sub_one_eq_mod]
 show IntKind.i64.wrap ((BitVec.ofInt 64 m &&& BitVec.ofInt 64 2047).toNat : Nat) = m % 2048
 rw [key, IntKind.wrap_i64]
 omega
theorem c139 (n : Nat) (w : World) : (callFunc 139 #[.float .f64 n]).run Tryz.prog w = .ok (.value (.int .u64 (n : Int))) w := by kernel_rfl
theorem c121 (n : Int) (w : World) : (callFunc 121 #[.int .u64 n]).run Tryz.prog w = .ok (.value (.float .f64 n.toNat)) w := by kernel_rfl
theorem or_52 {m : Int} (h0 : 0 ≤ m) (h1 : m < 4503599627370496) : bits .or .u64 m 4503599627370496 = m + 4503599627370496 := by
 obtain ⟨n, rfl⟩ := Int.eq_ofNat_of_zero_le h0
 rw [show (4503599627370496 : Int) = ((4503599627370496 : Nat) : Int) from rfl, u64_or_nat n 4503599627370496 (by omega) (by decide), show (4503599627370496 : Nat) = 2 ^ 52 * 1 from rfl, Nat.or_comm, ← Nat.two_pow_add_eq_or_of_lt (by omega) 1]
 omega
theorem ftoa_any (a : Int) (h0 : 0 ≤ a) (h1 : a < 18446744073709551616) (hf : expF a ≠ 2047) (u : Value) (w0 w : World) (HO : St w0 w u []) :
  Calls Tryz.prog 131 #[u, .float .f64 a.toNat, .int .u8 120, .int .i64 (-1)] w fun r w' => ∃ v, r = .returned v ∧ St w0 w' v (fxL (negF a) (nF a).1 (nF a).2) := by
 have HO := am HO
 have hX := am (fun w (HO : St w0 w u []) => fmtx_any (negF a) (manF a) ((if expF a = 0 then 1 else expF a) - 1023) (nF a).1 (nF a).2 (qCg h0).1 (qCg h0).2 (by unfold expF; split <;> omega) (by unfold expF; split <;> omega) rfl u w0 w HO)
 obtain ⟨n, rfl⟩ := Int.eq_ofNat_of_zero_le h0
 have hc := c139 n
 have e1 : bits .and .i64 (n / 4503599627370496 : Int) 2047 = expF n := i64_and _
 have e2 := and_low h0 h1
 go_enter Tryz.func131, Tryz.ntmps131
 go_upto_region 16 with (fail)
 have hw0 : IntKind.i64.wrap (n / 4503599627370496 : Int) = n / 4503599627370496 := (qAo _).trans (qB1 (by omega) (by omega))
 go_quiet (fail)
 go_upto_region 16 with (fail)
 have hb : 0 ≤ expF n ∧ expF n < 2048 := by unfold expF; omega
 have hneg : ((n : Int) / 9223372036854775808 != 0) = negF n := by
  unfold negF
  by_cases c : 9223372036854775808 ≤ (n : Int)
  ·rw [decide_eq_true c]; exact bne_iff_ne.mpr (by omega)
  rw [decide_eq_false c]; exact bne_eq_false_iff_eq.mpr (by omega)
 have hne : (expF n == 2047) = false := beq_eq_false_iff_ne.mpr hf
 have hman : manF n = if expF n = 0 then (n : Int) % 4503599627370496 else n % 4503599627370496 + 4503599627370496 := rfl
 rw [hneg]
 clear hc e1 e2 hw0 hf hneg
 by_cases c : expF n = 0
 ·rw [if_pos c] at hman hX
  rw [← hman]
  have cb : (expF n == 0) = true := beq_iff_eq.mpr c
  have hX' := hX.out
  simp only [show (1 : Int) - 1023 = -1022 from rfl] at hX'
  have HX := am hX'
  clear hX hX' hman h0 h1 hb
  rw [c] at *
  go_wp2_with (go_at_call 141; refine (HX.out _ (HO.out.drew _)).mono ?_; rintro r w1 ⟨v, rfl, hst⟩; have HS := am hst; clear hst)
  go_ret
  exact ⟨_, rfl, HS.out⟩
 ·rw [if_neg c] at hman hX
  have cb : (expF n == 0) = false := beq_eq_false_iff_ne.mpr c
  have hor := or_52 (m := (n : Int) % 4503599627370496) (by omega) (by omega)
  rw [← hman] at hor
  have hw1 : IntKind.i64.wrap (expF n - 1023) = expF n - 1023 := (qAo _).trans (qB1 (by omega) (by omega))
  have hw2 : IntKind.i64.wrap (expF n + -1023) = expF n - 1023 := (qAo _).trans (qB1 (by omega) (by omega))
  clear h0 h1 hb hman
  go_wp2_with (go_at_call 141; refine (hX.out _ (HO.out.drew _)).mono ?_; rintro r w1 ⟨v, rfl, hst⟩; have HS := am hst; clear hst)
  go_ret
  exact ⟨_, rfl, HS.out⟩
theorem ff_any (a : Int) (h0 : 0 ≤ a) (h1 : a < 18446744073709551616) (hf : expF a ≠ 2047) (w : World) :
  Calls Tryz.prog 120 #[.float .f64 a.toNat, .int .u8 120, .int .i64 (-1), .int .i64 64] w fun r w' => r = .returned (.string (strOfNums (fxL (negF a) (nF a).1 (nF a).2))) ∧ Below w.heap.size w w' := by
 have hX := am (fun (u : Value) (W : World) (HO : St w W u []) => ftoa_any a h0 h1 hf u w W HO)
 clear hf
 go_enter Tryz.func120, Tryz.ntmps120
 have hmk : ∀ W : World, (Instr.makeSlice 53 (.int .i64 0) (.int .i64 (max 3 24))).run Tryz.prog W = .ok (.slice (some ⟨W.heap.size, 0, none⟩) 0 24) (W.alloc (.cells (Array.replicate 24 (.int .u8 0)) 5)) := fun W => by kernel_rfl
 have hst0 := am (show St w (w.alloc (.cells (Array.replicate 24 (.int .u8 0)) 5)) (.slice (some ⟨w.heap.size, 0, none⟩) 0 24) [] from ⟨World.ownsRow_made w _ 24 (Nat.le_refl _) (by decide) (by simp), (Below.refl _ _).alloc (Nat.le_refl _) _⟩)
 clear h0 h1
 go_wp2_with (go_at_call 131; refine (hX.out _ _ hst0.out).mono ?_; rintro r w1 ⟨v, rfl, hst⟩; have HS := am hst.2; have hss := qBl Tryz.underlying53 Tryz.underlying5 Tryz.underlying9 hst.1; clear hst)
 go_ret
 exact ⟨rfl, HS.out⟩
theorem f_any (a : Int) (h0 : 0 ≤ a) (h1 : a < 18446744073709551616) (hf : expF a ≠ 2047) (w : World) :
  Calls Tryz.prog 103 #[.float .f64 a.toNat, .int .u8 120, .int .i64 (-1), .int .i64 64] w fun r w' => r = .returned (.string (strOfNums (fxL (negF a) (nF a).1 (nF a).2))) ∧ Below w.heap.size w w' := by
 have hX := am (ff_any a h0 h1 hf w)
 clear hf h0 h1
 go_enter Tryz.func103, Tryz.ntmps103
 go_wp2_with (go_at_call 120; refine hX.out.mono ?_; rintro r w1 ⟨rfl, hst⟩; have HS := am hst; clear hst)
 go_ret
 exact ⟨rfl, HS.out⟩
theorem to_any (a : Int) (w : World) : Calls Tryz.prog 104 #[.int .u64 a] w fun r w' => r = .returned (.float .f64 a.toNat) ∧ w = w' := by
 have hc := c121 a
 go_enter Tryz.func104, Tryz.ntmps104
 go_wp2
 go_ret
 exact ⟨rfl, rfl⟩
end Flt
end Q
end
section
namespace Q
open Go.RowKit YA YC YB
open Val
namespace Flt
theorem qAX (l : List Int) : (strOfNums l).size = l.length := by simp [strOfNums, ByteArray.size]
theorem qBC (l m : List Int) : strOfNums (l ++ m) = strOfNums l ++ strOfNums m := by
 simp [strOfNums, ByteArray.ext_iff]
theorem index_of : ∀ (l r : List Int), (∀ x ∈ l, x ≠ 112 ∧ 0 ≤ x ∧ x < 256) → Lib.indexByte (strOfNums (l ++ 112 :: r)).data.toList ((112 : Int).toNat.toUInt8) = l.length
 | [], r, h => by simp [strOfNums, Lib.indexByte]
 | x :: l, r, h => by
  have ih := index_of l r (fun y hy => h y (List.mem_cons_of_mem _ hy))
  obtain ⟨h1, h2, h3⟩ := h x (List.mem_cons_self ..)
  simp only [strOfNums, List.cons_append, List.map_cons] at ih ⊢
  have hx : (UInt8.ofNat x.toNat == (112 : Int).toNat.toUInt8) = false := by
   rw [beq_eq_false_iff_ne]
   intro e
   have := congrArg UInt8.toNat e
   simp at this
   omega
  rw [Lib.indexByte, hx]
  simp only [Bool.false_eq_true, if_false]
  rw [ih]
  split
  ·rename_i h; simp at h
  simp
theorem textL_not {c : Int} (h0 : 0 ≤ c) (h1 : c < 18446744073709551616) (hn : c ≠ 9218868437227405312) (hm : c ≠ 18442240474082181120) (hq : ¬ 9218868437227405312 < c % 9223372036854775808) : qBD c = qDu c ∧ expF c ≠ 2047 := by
 constructor
 ·unfold qBD; rw [if_neg hq, if_neg (by omega)]
 unfold expF; omega
theorem ex_bytes {e : Int} (h0 : 0 ≤ e) (h1 : e < 1100) : ∀ y ∈ exL e, 0 ≤ y ∧ y < 256 := by
 intro y hy
 unfold exL at hy
 split at hy
 ·simp only [List.mem_cons, List.not_mem_nil, or_false] at hy
  omega
 split at hy <;> (simp only [List.mem_cons, List.not_mem_nil, or_false] at hy; omega)
theorem str_at (p : List Int) (x : Int) (r : List Int) (h : p.length < (strOfNums (p ++ x :: r)).size) : (strOfNums (p ++ x :: r))[p.length]'h = UInt8.ofNat x.toNat := by
 simp [strOfNums, ByteArray.getElem_eq_getElem_data]
theorem str_cut (p : List Int) (x : Int) (r : List Int) : (strOfNums (p ++ x :: r)).extract 0 p.length ++ (strOfNums (p ++ x :: r)).extract (p.length + 1) (strOfNums (p ++ x :: r)).size = strOfNums (p ++ r) := by
 simp [strOfNums, ByteArray.ext_iff, ByteArray.size]
 have h1 : p.length + 1 = (p.map fun n => UInt8.ofNat n.toNat).length + 1 := by simp
 rw [h1, List.drop_append, List.drop_of_length_le (Nat.le_succ _), List.nil_append, show (p.map fun n => UInt8.ofNat n.toNat).length + 1 - (p.map fun n => UInt8.ofNat n.toNat).length = 1 by omega]
 simp only [List.drop_succ_cons, List.drop_zero]
 exact List.take_of_length_le (by simp; omega)
theorem text_fin (a c : Int) (ha : U64 a) (hc : qB8 a = c) (h0 : 0 ≤ c) (h1 : c < 18446744073709551616) (hx : c ≠ 9221120237041090561) (hn : c ≠ 9218868437227405312) (hm : c ≠ 18442240474082181120) (hf : expF c ≠ 2047) (w : World) :
  Calls Tryz.prog 73 #[.int .u64 a] w fun e w' => e = .returned (.string (strOfNums (qDu c))) ∧ Below w.heap.size w w' := by
 have hC := am (qCY a ha w)
 have hF := am (f_any c h0 h1 hf w)
 rw [hc] at hC
 have b1 : (c == 9221120237041090561) = false := beq_eq_false_iff_ne.mpr hx
 have b2 : (c == 9218868437227405312) = false := beq_eq_false_iff_ne.mpr hn
 have b3 : (c == 18442240474082181120) = false := beq_eq_false_iff_ne.mpr hm
 have ho : 0 ≤ (nF c).1 ∧ (nF c).1 < 2305843009213693952 ∧ abL (nF c).2 < 1100 ∧ 0 ≤ abL (nF c).2 := by
  by_cases hz : manF c = 0
  ·rw [nF_zero hz]; decide
  obtain ⟨k1, k2, k3, k4⟩ := nF_out h0 hz
  refine ⟨by omega, k2, ?_, ?_⟩ <;> (unfold abL; split <;> omega)
 obtain ⟨hd, hhd⟩ : ∃ hd, hd = qCR (negF c) (nF c).1 := ⟨_, rfl⟩
 obtain ⟨sg, hsg⟩ : ∃ sg, sg = sgL (nF c).2 := ⟨_, rfl⟩
 obtain ⟨ex, hex⟩ : ∃ ex, ex = exL (abL (nF c).2) := ⟨_, rfl⟩
 have hfx : fxL (negF c) (nF c).1 (nF c).2 = hd ++ [112, sg] ++ ex := by rw [hhd, hsg, hex]; rfl
 have htx : qDu c = hd ++ [112, sg] ++ qBt ex := by rw [hhd, hsg, hex]; rfl
 have hidx := index_of hd ([sg] ++ ex) (by rw [hhd]; exact headL_ne _ _ ho.1 ho.2.1)
 have hlen : hd.length ≤ 22 := by rw [hhd]; exact qDf _ _
 have hexl : ex.length ≤ 4 := by rw [hex]; unfold exL; split <;> (try split) <;> simp
 obtain ⟨p, hp⟩ : ∃ p, p = hd ++ [112, sg] := ⟨_, rfl⟩
 rw [show hd ++ 112 :: ([sg] ++ ex) = p ++ ex by rw [hp]; simp] at hidx
 rw [hfx, ← hp] at hF
 rw [htx, ← hp]
 have hpl : (hd.length : Int) + 2 = p.length := by rw [hp]; simp
 obtain ⟨s0, hs0⟩ : ∃ s0, s0 = strOfNums (p ++ ex) := ⟨_, rfl⟩
 rw [← hs0] at hF hidx
 have hI := am (fun W => Tryz.strings_IndexByte s0 112 W)
 rw [hidx] at hI
 have hT := am (to_any c)
 have hpl2 : p.length ≤ 24 := by omega
 obtain ⟨hdl, hhdl⟩ : ∃ k : Int, k = hd.length := ⟨_, rfl⟩
 rw [← hhdl] at hI hpl
 have hw2 : IntKind.i64.wrap (hdl + 2) = p.length := by rw [← hpl]; exact (qAo _).trans (qB1 (by omega) (by omega))
 have HP := am (And.intro hpl2 hexl)
 have HS0 := am hs0
 obtain ⟨E, hE⟩ : ∃ E, E = qBt ex := ⟨_, rfl⟩
 rw [← hE]
 have HE := am hE.symm
 have HX0 := am (show ∀ y ∈ ex, 0 ≤ y ∧ y < 256 from by rw [hex]; exact ex_bytes ho.2.2.2 ho.2.2.1)
 clear hfx htx hidx hhd hsg ho hc hx hn hm hf h0 h1 ha hex hp hpl hhdl hpl2 hexl hs0 hE hlen
 go_enter Tryz.func73, Tryz.ntmps73
 go_upto_block 1 with (first | (go_at_call 70; refine hC.out.mono ?_; rintro e w1 ⟨rfl, rfl⟩) | (go_at_call 104; refine (hT.out _).mono ?_; rintro e w1 ⟨rfl, rfl⟩) | (go_at_call 103; refine hF.out.mono ?_; rintro e w1 ⟨rfl, hb⟩; have HB := am hb; clear hb) | (go_at_call 105; refine (hI.out _).mono ?_; rintro e w1 ⟨rfl, rfl⟩))
 clear hC hF hI hT b1 b2 b3 hw2
 go_wp2
 go_loopg [3] 4 (fun kq v3 w' => ∃ (t : ByteArray) (ex' : List Int), v3 = .string t ∧ qAi (t = strOfNums (p ++ ex') ∧ qBt ex' = E ∧ ex'.length ≤ kq ∧ kq ≤ 4) ∧ qAi (∀ y ∈ ex', 0 ≤ y ∧ y < 256) ∧ qAi (Below w.heap.size w w'))
 case atStart => exact ⟨_, ex, rfl, ⟨HS0.out, HE.out, HP.out.2, by decide⟩, HX0, HB⟩
 case round =>
  clear HS0 HE HB HX0
  obtain ⟨t, ex', rfl, HS, HX, HB⟩ := hrel
  obtain ⟨q0, q1, q2, q3⟩ := HS.out
  have hsz : (t.size : Int) = p.length + ex'.length := by rw [q0, qAX, List.length_append]; omega
  obtain ⟨n1, hn1⟩ : ∃ n1 : Nat, n1 = p.length + 1 := ⟨_, rfl⟩
  have hw1 : IntKind.i64.wrap ((p.length : Int) + 1) = (n1 : Int) := (qAo _).trans ((qB1 (by omega) (by have := HP.out.1; omega)).trans (by omega))
  by_cases c1 : (n1 : Int) < t.size
  rotate_left
  ·have hst : qBt ex' = ex' := by
    cases ex' with
    | nil => rfl
    | cons x r =>
     cases r with
     | nil => unfold qBt; split <;> simp_all
     | cons d r => simp at hsz; omega
   have HZ := am (show t = strOfNums (p ++ E) from by rw [q0, ← q1, hst])
   have cb := decide_eq_false c1
   clear HS HX q0 q1 q2 q3 hsz hn1 hst
   go_wp2
   go_ret
   exact ⟨by rw [HZ.out]; rfl, HB.out⟩
  have hlt : (p.length : Int) < t.size := by omega
  have hge : 0 ≤ (p.length : Int) := by omega
  have hle : (p.length : Int) ≤ t.size := by omega
  have hle1 : (n1 : Int) ≤ t.size := by omega
  obtain ⟨x, ex2, rfl⟩ : ∃ x ex2, ex' = x :: ex2 := by
   cases ex' with
   | nil => simp at hsz; omega
   | cons x ex2 => exact ⟨x, ex2, rfl⟩
  have hbt : ∀ h : p.length < t.size, ((t[p.length]'h).toNat : Int) = (UInt8.ofNat x.toNat).toNat := fun h => by
   have := str_at p x ex2 (by rw [← q0]; exact h)
   simp only [← q0] at this
   rw [this]
  have hx8 := HX.out x (List.mem_cons_self ..)
  rw [show ((UInt8.ofNat x.toNat).toNat : Int) = x by simp; omega] at hbt
  cases ex2 with
  | nil => simp at hsz; omega
  | cons d r =>
   by_cases c2 : x = 48
   rotate_left
   ·have cb : (x == 48) = false := beq_eq_false_iff_ne.mpr c2
    have hst : qBt (x :: d :: r) = x :: d :: r := by
     unfold qBt
     split
     ·rename_i e; injection e with e1 _; exact absurd e1 c2
     rfl
    have HZ := am (show t = strOfNums (p ++ E) from by rw [q0, ← q1, hst])
    clear HS HX q0 q1 q2 q3 hsz hx8 hn1 hst
    go_wp2
    go_ret
    exact ⟨by rw [HZ.out]; rfl, HB.out⟩
   subst c2
   cases gk with
   | zero => simp at q2
   | succ k2 =>
    have hnew : t.extract 0 p.length ++ t.extract n1 t.size = strOfNums (p ++ d :: r) := by rw [q0, hn1]; exact str_cut p 48 (d :: r)
    obtain ⟨t2, ht2⟩ : ∃ t2, t2 = strOfNums (p ++ d :: r) := ⟨_, rfl⟩
    rw [← ht2] at hnew
    have HT := am (show t2 = strOfNums (p ++ d :: r) ∧ qBt (d :: r) = E ∧ (d :: r).length ≤ k2 ∧ k2 ≤ 4 from ⟨ht2, q1, by simp at q2 ⊢; omega, by omega⟩)
    have HY := am (fun y (hy : y ∈ d :: r) => HX.out y (List.mem_cons_of_mem _ hy))
    obtain ⟨A, hA⟩ : ∃ A, t.extract 0 p.length = A := ⟨_, rfl⟩
    obtain ⟨B, hB⟩ : ∃ B, t.extract n1 t.size = B := ⟨_, rfl⟩
    rw [hA, hB] at hnew
    have hap : A.size + B.size ≤ 9223372036854775807 := by
     have h1 : (A ++ B).size = A.size + B.size := ByteArray.size_append
     have h2 : (A ++ B).size = (p ++ d :: r).length := by rw [hnew, ht2, qAX]
     have := HP.out.1
     simp at h2 q2
     omega
    clear HS HX q0 q1 q2 q3 hsz ht2 hx8 hn1
    go_wp2
    go_quiet (fail)
    go_wp2
    go_roundg k2
    case measure => omega
    case rel => exact ⟨t2, d :: r, rfl, HT, HY, ⟨qAa HB.out _⟩⟩
theorem text_any (a : Int) (ha : U64 a) (w : World) :
  Calls Tryz.prog 73 #[.int .u64 a] w fun e w' => e = .returned (.string (strOfNums (qBD (qB8 a)))) ∧ Below w.heap.size w w' := by
 have hcu : U64 (qB8 a) := by
  unfold qB8; split
  ·constructor <;> decide
  exact ha
 have hC := am (qCY a ha w)
 by_cases h1 : qB8 a = 9221120237041090561
 ·rw [h1] at hC ⊢
  rw [show qBD 9221120237041090561 = [110, 97, 110] from by decide +kernel]
  clear hcu h1 ha
  go_enter Tryz.func73, Tryz.ntmps73
  go_wp2_with (go_at_call 70; refine hC.out.mono ?_; rintro e w1 ⟨rfl, rfl⟩)
  go_ret
  exact ⟨by kernel_rfl, Below.refl _ _⟩
 by_cases h2 : qB8 a = 9218868437227405312
 ·rw [h2] at hC ⊢
  rw [show qBD 9218868437227405312 = [105, 110, 102] from by decide +kernel]
  clear hcu h1 h2 ha
  go_enter Tryz.func73, Tryz.ntmps73
  go_wp2_with (go_at_call 70; refine hC.out.mono ?_; rintro e w1 ⟨rfl, rfl⟩)
  go_ret
  exact ⟨by kernel_rfl, Below.refl _ _⟩
 by_cases h3 : qB8 a = 18442240474082181120
 ·rw [h3] at hC ⊢
  rw [show qBD 18442240474082181120 = [45, 105, 110, 102] from by decide +kernel]
  clear hcu h1 h2 h3 ha
  go_enter Tryz.func73, Tryz.ntmps73
  go_wp2_with (go_at_call 70; refine hC.out.mono ?_; rintro e w1 ⟨rfl, rfl⟩)
  go_ret
  exact ⟨by kernel_rfl, Below.refl _ _⟩
 have hq : ¬ 9218868437227405312 < qB8 a % 9223372036854775808 := fun h => by
  have hn : nanB a = false := by
   cases hb : nanB a
   ·rfl
   exact absurd (qCv hb) h1
  rw [qBT hn] at h
  unfold nanB at hn
  simp at hn
  omega
 obtain ⟨k1, k2⟩ := textL_not hcu.1 hcu.2 h2 h3 hq
 rw [k1]
 exact text_fin a (qB8 a) ha rfl hcu.1 hcu.2 h1 h2 h3 k2 w
end Flt
end Q
end
section
namespace Q
open Go.RowKit YA YC YB
attribute [local go_sem] max2_int min2_int max_two min_two max_three min_three max_four min_four
mutual
def qAg.j0 : Nat → Int → Int → Bool → Option (Int)
 | 0, _, _, _ => none
 | k + 1, x3, x4, aQ => if aQ = true then (some 1) else (if x3 = 2047 then (some 2) else (if x3 = 0 then (qAg.j1 k x3 (x4 == 0)) else (qAg.j1 k x3 false)))
def qAg.j1 : Nat → Int → Bool → Option (Int)
 | 0, _, _ => none
 | k + 1, x3, aR => if aR = true then (some 3) else (if x3 = 0 then (some 4) else (some 5))
end
def qAg.f (k : Nat) (a0 : Int) : Option (Int) := if (Go.bits .and .u64 (a0 / 4503599627370496) 2047) = 2047 then (qAg.j0 k (Go.bits .and .u64 (a0 / 4503599627370496) 2047) (IntKind.u64.wrap (a0 * 4096)) ((IntKind.u64.wrap (a0 * 4096)) != 0)) else (qAg.j0 k (Go.bits .and .u64 (a0 / 4503599627370496) 2047) (IntKind.u64.wrap (a0 * 4096)) false)
theorem qAg.calls (k : Nat) (a0 : Int) (r : Int) (w : World) (h : qAg.f k a0 = some r) :
  Calls Tryz.prog 109 #[.int .u64 a0] w fun e w' => e = .returned (.int .i64 r) ∧ qAy w w' := by
 have H : (if (Go.bits .and .u64 (a0 / 4503599627370496) 2047) = 2047 then (qAg.j0 k (Go.bits .and .u64 (a0 / 4503599627370496) 2047) (IntKind.u64.wrap (a0 * 4096)) ((IntKind.u64.wrap (a0 * 4096)) != 0)) else (qAg.j0 k (Go.bits .and .u64 (a0 / 4503599627370496) 2047) (IntKind.u64.wrap (a0 * 4096)) false)) = some r := h
 clear h
 have aI := am H
 clear H
 go_enter Tryz.func109, Tryz.ntmps109
 go_upto_region 3 with (fail)
 go_cut [10] (fun aO wc => ∃ (kq : Nat) (aB : Bool), aO = .bool aB ∧ qAi (qAg.j0 kq (Go.bits .and .u64 (a0 / 4503599627370496) 2047) (IntKind.u64.wrap (a0 * 4096)) aB = some r) ∧ qAi (kq ≤ k) ∧ qAy w wc)
 case first =>
  have H := aI.o
  clear aI
  by_cases c3 : (Go.bits .and .u64 (a0 / 4503599627370496) 2047) = 2047
  rotate_left
  ·rw [if_neg c3] at H
   have aA : ((Go.bits .and .u64 (a0 / 4503599627370496) 2047) == 2047) = false := bf c3
   have aE : ((Go.bits .and .u64 (a0 / 4503599627370496) 2047) != 2047) = true := bne_iff_ne.mpr c3
   (first | rw [aA] | (simp only [qAo, i32_w]; rw [aA]) | skip)
   have H' := am H
   clear H
   go_wp2
   go_meet
   case rel => exact ⟨_, (false), (by first | rfl | (simp; done) | (simp [*]; done)), H', ⟨by first | omega | exact Nat.le_refl _⟩, by repeat (first | exact qAy.refl _ | apply qAy.step)⟩
  rw [if_pos c3] at H
  have aA : ((Go.bits .and .u64 (a0 / 4503599627370496) 2047) == 2047) = true := beq_iff_eq.mpr c3
  have aE : ((Go.bits .and .u64 (a0 / 4503599627370496) 2047) != 2047) = false := bn c3
  clear c3
  (first | rw [aA] | (simp only [qAo, i32_w]; rw [aA]) | skip)
  have H' := am H
  clear H
  go_wp2
  go_meet
  case rel => exact ⟨_, (((IntKind.u64.wrap (a0 * 4096)) != 0)), (by first | rfl | (simp; done) | (simp [*]; done)), H', ⟨by first | omega | exact Nat.le_refl _⟩, by repeat (first | exact qAy.refl _ | apply qAy.step)⟩
 case rest =>
  clear aI
  obtain ⟨kq, aB, rfl, HA, aN, ⟨mc1, rfl⟩⟩ := hcut
  cases kq with
  | zero => exact absurd HA.o (by simp [qAg.j0])
  | succ aM =>
   have H := HA.o
   clear HA
   simp only [qAg.j0] at H
   by_cases c4 : aB = true
   ·subst c4
    replace H : (some 1) = some r := by rw [if_pos rfl] at H; exact H
    obtain rfl := Option.some.inj H
    go_wp2
    go_ret
    exact ⟨by first | rfl | (simp; done) | (simp [*]; done), by repeat (first | exact qAy.refl _ | apply qAy.step)⟩
   replace c4 := Bool.eq_false_iff.mpr c4
   subst c4
   replace H : (if (Go.bits .and .u64 (a0 / 4503599627370496) 2047) = 2047 then (some 2) else (if (Go.bits .and .u64 (a0 / 4503599627370496) 2047) = 0 then (qAg.j1 aM (Go.bits .and .u64 (a0 / 4503599627370496) 2047) ((IntKind.u64.wrap (a0 * 4096)) == 0)) else (qAg.j1 aM (Go.bits .and .u64 (a0 / 4503599627370496) 2047) false))) = some r := by rw [if_neg (show ¬ (false = true) by decide)] at H; exact H
   by_cases c5 : (Go.bits .and .u64 (a0 / 4503599627370496) 2047) = 2047
   ·rw [if_pos c5] at H
    have aF : ((Go.bits .and .u64 (a0 / 4503599627370496) 2047) == 2047) = true := beq_iff_eq.mpr c5
    have aG : ((Go.bits .and .u64 (a0 / 4503599627370496) 2047) != 2047) = false := bn c5
    clear c5
    obtain rfl := Option.some.inj H
    go_wp2
    go_ret
    exact ⟨by first | rfl | (simp; done) | (simp [*]; done), by repeat (first | exact qAy.refl _ | apply qAy.step)⟩
   rw [if_neg c5] at H
   have aF : ((Go.bits .and .u64 (a0 / 4503599627370496) 2047) == 2047) = false := bf c5
   have aG : ((Go.bits .and .u64 (a0 / 4503599627370496) 2047) != 2047) = true := bne_iff_ne.mpr c5
   have aJ := am H
   clear H
   go_upto_region 7 with (fail)
   go_cut [20] (fun aP wc => ∃ (kq : Nat) (aC : Bool), aP = .bool aC ∧ qAi (qAg.j1 kq (Go.bits .and .u64 (a0 / 4503599627370496) 2047) aC = some r) ∧ qAi (kq ≤ aM) ∧ qAy w wc)
   case first =>
    have H := aJ.o
    clear aJ
    by_cases c7 : (Go.bits .and .u64 (a0 / 4503599627370496) 2047) = 0
    rotate_left
    ·rw [if_neg c7] at H
     have aD : ((Go.bits .and .u64 (a0 / 4503599627370496) 2047) == 0) = false := bf c7
     have aH : ((Go.bits .and .u64 (a0 / 4503599627370496) 2047) != 0) = true := bne_iff_ne.mpr c7
     (first | rw [aD] | (simp only [qAo, i32_w]; rw [aD]) | skip)
     have H' := am H
     clear H
     go_wp2
     go_meet
     case rel => exact ⟨_, (false), (by first | rfl | (simp; done) | (simp [*]; done)), H', ⟨by have := aN.o; first | omega | exact Nat.le_refl _⟩, by repeat (first | exact qAy.refl _ | apply qAy.step)⟩
    rw [if_pos c7] at H
    have aD : ((Go.bits .and .u64 (a0 / 4503599627370496) 2047) == 0) = true := beq_iff_eq.mpr c7
    have aH : ((Go.bits .and .u64 (a0 / 4503599627370496) 2047) != 0) = false := bn c7
    clear c7
    (first | rw [aD] | (simp only [qAo, i32_w]; rw [aD]) | skip)
    have H' := am H
    clear H
    go_wp2
    go_meet
    case rel => exact ⟨_, (((IntKind.u64.wrap (a0 * 4096)) == 0)), (by first | rfl | (simp; done) | (simp [*]; done)), H', ⟨by have := aN.o; first | omega | exact Nat.le_refl _⟩, by repeat (first | exact qAy.refl _ | apply qAy.step)⟩
   case rest =>
    clear aJ
    obtain ⟨kq, aC, rfl, HA, aS, ⟨mc5, rfl⟩⟩ := hcut
    cases kq with
    | zero => exact absurd HA.o (by simp [qAg.j1])
    | succ aT =>
     have H := HA.o
     clear HA
     simp only [qAg.j1] at H
     by_cases c8 : aC = true
     ·subst c8
      replace H : (some 3) = some r := by rw [if_pos rfl] at H; exact H
      obtain rfl := Option.some.inj H
      go_wp2
      go_ret
      exact ⟨by first | rfl | (simp; done) | (simp [*]; done), by repeat (first | exact qAy.refl _ | apply qAy.step)⟩
     replace c8 := Bool.eq_false_iff.mpr c8
     subst c8
     replace H : (if (Go.bits .and .u64 (a0 / 4503599627370496) 2047) = 0 then (some 4) else (some 5)) = some r := by rw [if_neg (show ¬ (false = true) by decide)] at H; exact H
     by_cases c9 : (Go.bits .and .u64 (a0 / 4503599627370496) 2047) = 0
     rotate_left
     ·rw [if_neg c9] at H
      have aK : ((Go.bits .and .u64 (a0 / 4503599627370496) 2047) == 0) = false := bf c9
      have aL : ((Go.bits .and .u64 (a0 / 4503599627370496) 2047) != 0) = true := bne_iff_ne.mpr c9
      obtain rfl := Option.some.inj H
      go_wp2
      go_ret
      exact ⟨by first | rfl | (simp; done) | (simp [*]; done), by repeat (first | exact qAy.refl _ | apply qAy.step)⟩
     rw [if_pos c9] at H
     have aK : ((Go.bits .and .u64 (a0 / 4503599627370496) 2047) == 0) = true := beq_iff_eq.mpr c9
     have aL : ((Go.bits .and .u64 (a0 / 4503599627370496) 2047) != 0) = false := bn c9
     clear c9
     obtain rfl := Option.some.inj H
     go_wp2
     go_ret
     exact ⟨by first | rfl | (simp; done) | (simp [*]; done), by repeat (first | exact qAy.refl _ | apply qAy.step)⟩
def qAE.f (k : Nat) (a0 : Int) : Option (Bool × Int × Int) := (qAg.f k a0).bind fun aA => (if aA = 1 then (some (false, 0, 0)) else (if aA = 2 then (some (((a0 / 9223372036854775808) == 1), 0, 0)) else (if aA = 5 then (some (((a0 / 9223372036854775808) == 1), Go.bits .or .u64 (Go.bits .and .u64 a0 4503599627370495) 4503599627370496, wrap64 ((wrap64 (Go.bits .and .u64 (a0 / 4503599627370496) 2047)) - 1075))) else (some (((a0 / 9223372036854775808) == 1), Go.bits .and .u64 a0 4503599627370495, (-1074))))))
theorem qAE.calls (k : Nat) (a0 : Int) (r1 : Bool) (r2 : Int) (r3 : Int) (w : World) (h : qAE.f k a0 = some (r1, r2, r3)) :
  Calls Tryz.prog 110 #[.int .u64 a0] w fun e w' => e = .returned (.tuple #[.bool r1, .int .u64 r2, .int .i64 r3]) ∧ qAy w w' := by
 have H : ((qAg.f k a0).bind fun aA => (if aA = 1 then (some (false, 0, 0)) else (if aA = 2 then (some (((a0 / 9223372036854775808) == 1), 0, 0)) else (if aA = 5 then (some (((a0 / 9223372036854775808) == 1), Go.bits .or .u64 (Go.bits .and .u64 a0 4503599627370495) 4503599627370496, wrap64 ((wrap64 (Go.bits .and .u64 (a0 / 4503599627370496) 2047)) - 1075))) else (some (((a0 / 9223372036854775808) == 1), Go.bits .and .u64 a0 4503599627370495, (-1074))))))) = some (r1, r2, r3) := h
 clear h
 replace H := bm H
 obtain ⟨aA, aH, H⟩ := H
 replace H : (if aA = 1 then (some (false, 0, 0)) else (if aA = 2 then (some (((a0 / 9223372036854775808) == 1), 0, 0)) else (if aA = 5 then (some (((a0 / 9223372036854775808) == 1), Go.bits .or .u64 (Go.bits .and .u64 a0 4503599627370495) 4503599627370496, wrap64 ((wrap64 (Go.bits .and .u64 (a0 / 4503599627370496) 2047)) - 1075))) else (some (((a0 / 9223372036854775808) == 1), Go.bits .and .u64 a0 4503599627370495, (-1074)))))) = some (r1, r2, r3) := H
 have A2 := am aH
 clear aH
 by_cases c3 : aA = 1
 ·rw [if_pos c3] at H
  have aB : (aA == 1) = true := beq_iff_eq.mpr c3
  have aC : (aA != 1) = false := bn c3
  clear c3
  simp only [Option.some.injEq, Prod.mk.injEq] at H
  obtain ⟨rfl, rfl, rfl⟩ := H
  go_enter Tryz.func110, Tryz.ntmps110
  go_wp2_with (first | ((with_reducible refine qA7 (f := 109) rfl ?_); refine qBs (some 14) rfl rfl Tryz.func109 (by kernel_rfl) rfl #[.int .u64 a0] rfl (by (try simp only [List.map_toArray, List.map_cons, List.map_nil]); first | done | rfl | (simp only [List.length_drop, List.length_take]; rfl)) ?_; (with_reducible refine (qAg.calls k a0 aA _ A2.o).mono ?_); rintro e w' ⟨rfl, ⟨nd, rfl⟩⟩; refine ⟨_, rfl, ?_⟩))
  go_ret3
  exact ⟨by first | rfl | (simp; done) | (simp [*]; done), by repeat (first | exact qAy.refl _ | apply qAy.step)⟩
 ·rw [if_neg c3] at H
  have aB : (aA == 1) = false := bf c3
  have aC : (aA != 1) = true := bne_iff_ne.mpr c3
  by_cases c4 : aA = 2
  ·rw [if_pos c4] at H
   have aD : (aA == 2) = true := beq_iff_eq.mpr c4
   have aE : (aA != 2) = false := bn c4
   clear c4
   simp only [Option.some.injEq, Prod.mk.injEq] at H
   obtain ⟨rfl, rfl, rfl⟩ := H
   go_enter Tryz.func110, Tryz.ntmps110
   go_wp2_with (first | ((with_reducible refine qA7 (f := 109) rfl ?_); refine qBs (some 14) rfl rfl Tryz.func109 (by kernel_rfl) rfl #[.int .u64 a0] rfl (by (try simp only [List.map_toArray, List.map_cons, List.map_nil]); first | done | rfl | (simp only [List.length_drop, List.length_take]; rfl)) ?_; (with_reducible refine (qAg.calls k a0 aA _ A2.o).mono ?_); rintro e w' ⟨rfl, ⟨nd, rfl⟩⟩; refine ⟨_, rfl, ?_⟩))
   go_ret3
   exact ⟨by first | rfl | (simp; done) | (simp [*]; done), by repeat (first | exact qAy.refl _ | apply qAy.step)⟩
  ·rw [if_neg c4] at H
   have aD : (aA == 2) = false := bf c4
   have aE : (aA != 2) = true := bne_iff_ne.mpr c4
   by_cases c5 : aA = 5
   ·rw [if_pos c5] at H
    have aF : (aA == 5) = true := beq_iff_eq.mpr c5
    have aG : (aA != 5) = false := bn c5
    clear c5
    simp only [Option.some.injEq, Prod.mk.injEq] at H
    obtain ⟨rfl, rfl, rfl⟩ := H
    go_enter Tryz.func110, Tryz.ntmps110
    go_wp2_with (first | ((with_reducible refine qA7 (f := 109) rfl ?_); refine qBs (some 14) rfl rfl Tryz.func109 (by kernel_rfl) rfl #[.int .u64 a0] rfl (by (try simp only [List.map_toArray, List.map_cons, List.map_nil]); first | done | rfl | (simp only [List.length_drop, List.length_take]; rfl)) ?_; (with_reducible refine (qAg.calls k a0 aA _ A2.o).mono ?_); rintro e w' ⟨rfl, ⟨nd, rfl⟩⟩; refine ⟨_, rfl, ?_⟩))
    go_ret3
    exact ⟨by first | rfl | (simp; done) | (simp [*]; done), by repeat (first | exact qAy.refl _ | apply qAy.step)⟩
   ·rw [if_neg c5] at H
    have aF : (aA == 5) = false := bf c5
    have aG : (aA != 5) = true := bne_iff_ne.mpr c5
    simp only [Option.some.injEq, Prod.mk.injEq] at H
    obtain ⟨rfl, rfl, rfl⟩ := H
    go_enter Tryz.func110, Tryz.ntmps110
    go_wp2_with (first | ((with_reducible refine qA7 (f := 109) rfl ?_); refine qBs (some 14) rfl rfl Tryz.func109 (by kernel_rfl) rfl #[.int .u64 a0] rfl (by (try simp only [List.map_toArray, List.map_cons, List.map_nil]); first | done | rfl | (simp only [List.length_drop, List.length_take]; rfl)) ?_; (with_reducible refine (qAg.calls k a0 aA _ A2.o).mono ?_); rintro e w' ⟨rfl, ⟨nd, rfl⟩⟩; refine ⟨_, rfl, ?_⟩))
    go_ret3
    exact ⟨by first | rfl | (simp; done) | (simp [*]; done), by repeat (first | exact qAy.refl _ | apply qAy.step)⟩
def qAk.f : Nat → Int → Option (ByteArray)
 | 0, _ => none
 | k + 1, a0 => if a0 < 10 then (some (strOfNums (([(wrap64 (48 + a0)) % 256] : List Int)))) else ((qAk.f k (wrap64 (Int.tdiv a0 10))).bind fun aB => ((some (([(wrap64 (48 + (Int.tmod a0 10))) % 256] : List Int) : List Int)).bind fun aC => (if aB.size + (strOfNums aC).size ≤ 9223372036854775807 then (some (aB ++ (strOfNums aC))) else (none))))
def qAk.T3 : Bool × List (List Nat × List Nat) := (true, [([], []), ([0], [0]), ([1], [1]), ([], []), ([3], [3]), ([4], [4]), ([5], [5]), ([6], [6]), ([7], [7]), ([2, 8], [2, 8]), ([9, 2, 0, 1, 2, 3, 4, 5, 6, 7, 8, 9], [9])])
def qAk.B3 : List Nat := [0, 1, 3, 0, 8, 24, 56, 120, 248, 511, 1023]
theorem qAk.tab3 : rtab .any (opsOf Tryz.f111 3) = qAk.T3 := by kernel_rfl
theorem qAk.bits3 : qCq qAk.T3.2 qAk.B3 = true := by kernel_rfl
theorem qAk.calls (k : Nat) : ∀ (a0 : Int) (r : ByteArray) (w : World) (h : qAk.f k a0 = some r),
  Calls Tryz.prog 111 #[.int .i64 a0] w fun e w' => e = .returned (.string r) ∧ Below w.heap.size w w' := by
 induction k using Nat.strongRecOn with
 | _ k ih =>
 intro a0 r w h
 cases k with
 | zero => exact absurd h (by simp [qAk.f])
 | succ k =>
 simp only [qAk.f] at h
 have HB := am (Below.refl w.heap.size w)
 have H : (if a0 < 10 then (some (strOfNums (([(wrap64 (48 + a0)) % 256] : List Int)))) else ((qAk.f k (wrap64 (Int.tdiv a0 10))).bind fun aB => ((some (([(wrap64 (48 + (Int.tmod a0 10))) % 256] : List Int) : List Int)).bind fun aC => (if aB.size + (strOfNums aC).size ≤ 9223372036854775807 then (some (aB ++ (strOfNums aC))) else (none))))) = some r := h
 clear h
 by_cases c2 : a0 < 10
 ·rw [if_pos c2] at H
  replace c2 := d1 c2
  obtain ⟨aL, aD⟩ : ∃ y_ : List Int, y_ = (([(wrap64 (48 + a0)) % 256] : List Int)) := ⟨_, rfl⟩
  replace H : (some (strOfNums aL)) = some r := by first | (rw [aD]; with_reducible exact H) | (have H2_ := (Option.bind_some _ _).symm.trans H; rw [aD]; with_reducible exact H2_) | (have H2_ := (Option.bind_some _ _).symm.trans H; with_reducible exact H2_) | with_reducible exact H | (rw [aD]; exact H) | exact H
  have aH := am aD
  clear aD
  obtain rfl := Option.some.inj H
  go_enter Tryz.func111, Tryz.ntmps111
  go_wp2_with (first | ((with_reducible refine qAP (N := 8) rfl ?_); refine Kd.R_lit (Kd.int .u8) _ 5 ?hg (N := 8) ?hd (xs := ([(wrap64 (48 + a0)) % 256] : List Int)) (inner := [.int .u8 ((wrap64 (48 + a0)) % 256)]) (ok := fun _ => True) (okp := fun _ => True) ?hr ?hp (fun _ hk => hk) trivial (Below.refl _ _) (Nat.le_refl _) (by simp) ?_; (case hd => rfl); (case hg => rfl); (case hr => first | (go_simp; done) | (go_simp; rfl)); (case hp => exact (Reps.one (show Kd.M (Kd.int .u8) _ _ _ ((wrap64 (48 + a0)) % 256) [.int .u8 ((wrap64 (48 + a0)) % 256)] from rfl) (Reps.none _ _))); intro aR w3 aJ hb hg_ hnew_; clear hg_ hnew_; (first | rw [← aH.o] at aJ | (simp only [Int.reduceToNat] at aJ; rw [← aH.o] at aJ)); have n0_ := am (Kd.R_lower aJ (qA2 (by repeat (first | (with_reducible first | exact HB.o | apply qAb | apply qAa | apply qAd) | exact HB.o)))); have n1_ := am (qAt (by repeat (first | (with_reducible first | exact HB.o | apply qAb | apply qAa | apply qAd) | exact HB.o)) hb); clear HB; have aI := n0_; have HB := n1_; clear n0_ n1_; clear hb aJ; have hcv5 := qBl (P := Tryz.prog) Tryz.underlying53 Tryz.underlying5 Tryz.underlying9 (Kd.own_of_R aI.o)))
  go_ret
  exact ⟨by first | rfl | (simp [errW_none, errW_some] <;> rfl) | (simp [*, errW_none, errW_some] <;> rfl), by repeat (first | (with_reducible first | exact HB.o | apply qAb | apply qAa | apply qAd) | exact HB.o)⟩
 ·rw [if_neg c2] at H
  replace c2 := d0 c2
  replace H := bm H
  obtain ⟨aB, aM, H⟩ := H
  replace H : ((some (([(wrap64 (48 + (Int.tmod a0 10))) % 256] : List Int) : List Int)).bind fun aC => (if aB.size + (strOfNums aC).size ≤ 9223372036854775807 then (some (aB ++ (strOfNums aC))) else (none))) = some r := H
  have A6 := am aM
  clear aM
  obtain ⟨aC, aE⟩ : ∃ y_ : List Int, y_ = (([(wrap64 (48 + (Int.tmod a0 10))) % 256] : List Int)) := ⟨_, rfl⟩
  replace H : (if aB.size + (strOfNums aC).size ≤ 9223372036854775807 then (some (aB ++ (strOfNums aC))) else (none)) = some r := by first | (rw [aE]; with_reducible exact H) | (have H2_ := (Option.bind_some _ _).symm.trans H; rw [aE]; with_reducible exact H2_) | (have H2_ := (Option.bind_some _ _).symm.trans H; with_reducible exact H2_) | with_reducible exact H | (rw [aE]; exact H) | exact H
  have aF := am aE
  clear aE
  by_cases c7 : aB.size + (strOfNums aC).size ≤ 9223372036854775807
  ·rw [if_pos c7] at H
   have aO := eq_true c7
   have aP := d1 c7
   try have aQ : (9223372036854775807 < aB.size + (strOfNums aC).size) = False := eq_false (Nat.not_lt.2 c7)
   obtain rfl := Option.some.inj H
   go_enter Tryz.func111, Tryz.ntmps111
   try go_wp2
   have n0_ := am (qAd HB.o)
   clear HB
   have HB := n0_
   clear n0_
   refine start_ (n := 11) (S := fun w' => True) (ds := []) (mK 11 0) (by kernel_rfl) rfl rfl trivial (fun hHeld => ?_); refine qBM qAk.tab3 qAk.bits3 (fun HT_ HW_ => ?_)
   generalize w.drew = w8 at HB hHeld ⊢
   refine qAx (i := 0) (N := some 10) (v := ?_) (a' := ?_) (mK 11 1) rfl rfl (qAj HT_.o (by kernel_rfl)) (fun _ _ _ h => h) (Or.inl ⟨by rfl, ?_⟩) ?_ ?_
   rotate_left
   ·intro w'
    go_simp
    with_reducible rfl
   rotate_left
   ·simp only [Act.put, List.setIfInBounds_toArray, List.set_cons_zero, List.set_cons_succ, qAo, i32_w]
    rfl
   refine qAx (i := 1) (N := some 11) (v := ?_) (a' := ?_) (mK 11 3) rfl rfl (qAj HT_.o (by kernel_rfl)) (fun _ _ _ h => h) (Or.inl ⟨by rfl, ?_⟩) ?_ ?_
   rotate_left
   ·intro w'
    go_simp
    with_reducible rfl
   rotate_left
   ·simp only [Act.put, List.setIfInBounds_toArray, List.set_cons_zero, List.set_cons_succ, qAo, i32_w]
    rfl
   refine qAx (i := 3) (N := some 13) (v := ?_) (a' := ?_) (mK 11 11) rfl rfl (qAj HT_.o (by kernel_rfl)) (fun _ _ _ h => h) (Or.inl ⟨by rfl, ?_⟩) ?_ ?_
   rotate_left
   ·intro w'
    go_simp
    with_reducible rfl
   rotate_left
   ·simp only [Act.put, List.setIfInBounds_toArray, List.set_cons_zero, List.set_cons_succ, qAo, i32_w]
    rfl
   refine qAx (i := 4) (N := some 14) (v := ?_) (a' := ?_) (mK 11 27) rfl rfl (qAj HT_.o (by kernel_rfl)) (fun _ _ _ h => h) (Or.inl ⟨by rfl, ?_⟩) ?_ ?_
   rotate_left
   ·intro w'
    go_simp
    with_reducible rfl
   rotate_left
   ·simp only [Act.put, List.setIfInBounds_toArray, List.set_cons_zero, List.set_cons_succ, qAo, i32_w]
    rfl
   refine qAx (i := 5) (N := some 15) (v := ?_) (a' := ?_) (mK 11 59) rfl rfl (qAj HT_.o (by kernel_rfl)) (fun _ _ _ h => h) (Or.inl ⟨by rfl, ?_⟩) ?_ ?_
   rotate_left
   ·intro w'
    go_simp
    with_reducible rfl
   rotate_left
   ·simp only [Act.put, List.setIfInBounds_toArray, List.set_cons_zero, List.set_cons_succ, qAo, i32_w]
    rfl
   refine qAx (i := 6) (N := some 16) (v := ?_) (a' := ?_) (mK 11 123) rfl rfl (qAj HT_.o (by kernel_rfl)) (fun _ _ _ h => h) (Or.inl ⟨by rfl, ?_⟩) ?_ ?_
   rotate_left
   ·intro w'
    go_simp
    with_reducible rfl
   rotate_left
   ·simp only [Act.put, List.setIfInBounds_toArray, List.set_cons_zero, List.set_cons_succ, qAo, i32_w]
    rfl
   refine join_ (σ := Value) 2 (mK 11 511) (fun s_ => [(12, .string aB), (17, s_), (18, .string (strOfNums aC))]) (fun s_ w' => (Kd.R (Kd.int .u8) 5 w' w.heap.size (fun _ => True) s_ aC) ∧ (Below w.heap.size w w')) ?_ ?_
   rotate_left
   ·intro hCont
    refine two_ (i := 2) (j := 7) (Ni := some 12) (Nj := some 17) (mK 11 127) (mK 11 251) rfl rfl rfl rfl (two_of HT_.o (by kernel_rfl)) (by decide) (by decide) (fun K hK => ?_) (fun K hK => ?_)
    ·skip
     refine goes_ Tryz.func111 (by kernel_rfl) rfl #[.int .i64 (wrap64 (Int.tdiv a0 10))] (by rfl) rfl rfl (by (try simp only [List.map_toArray, List.map_cons, List.map_nil]); first | done | rfl | (simp only [List.length_drop, List.length_take]; rfl)) ?_
     with_reducible refine (ih k (by omega) (wrap64 (Int.tdiv a0 10)) aB _ A6.o).mono ?_
     rintro e w9 ⟨rfl, hb⟩
     refine ⟨_, rfl, ?_⟩
     have n0_ := am (qAt (by repeat (first | (with_reducible first | exact HB.o | apply qAb | apply qAa | apply qAd) | exact HB.o)) hb)
     clear HB
     have HB := n0_
     clear n0_
     (try clear hb)
     (try clear hb2)
     (try clear hk)
     (try clear hi)
     refine hK.o _ _ trivial (fun hHeld => ?_)
     clear hK K
     refine qCj (a' := ?_) ?_ ?_
     rotate_left
     ·show Act.put _ (some 12) _ = _
      simp only [Act.put, List.setIfInBounds_toArray, List.set_cons_zero, List.set_cons_succ, qAo, i32_w]
      rfl
     refine one_ (i := 7) (N := some 17) (mK 11 255) rfl rfl (qCL HT_.o (by kernel_rfl)) (by decide) (fun K hK => ?_)
     refine Kd.R_lit_step (Kd.int .u8) _ 5 ?hg (N := 17) ?hd (xs := ([(wrap64 (48 + (Int.tmod a0 10))) % 256] : List Int)) (inner := [.int .u8 ((wrap64 (48 + (Int.tmod a0 10))) % 256)]) (ok := fun _ => True) (okp := fun _ => True) ?hr ?hp (fun _ hk => hk) trivial (Below.refl _ _) (Nat.le_refl _) (by simp) ?_; (case hd => rfl); (case hg => rfl); (case hr => first | (go_simp; done) | (go_simp; rfl)); (case hp => exact (Reps.one (show Kd.M (Kd.int .u8) _ _ _ ((wrap64 (48 + (Int.tmod a0 10))) % 256) [.int .u8 ((wrap64 (48 + (Int.tmod a0 10))) % 256)] from rfl) (Reps.none _ _)))
     intro aG aS ho11 hb hg_ hnew_
     clear hg_ hnew_
     (first | rw [← aF.o] at ho11 | (simp only [Int.reduceToNat] at ho11; rw [← aF.o] at ho11))
     have n0_ := am (Kd.R_lower ho11 (qA2 (by repeat (first | (with_reducible first | exact HB.o | apply qAb | apply qAa | apply qAd) | exact HB.o))))
     have n1_ := am (qAt (by repeat (first | (with_reducible first | exact HB.o | apply qAb | apply qAa | apply qAd) | exact HB.o)) hb)
     clear HB
     have aA := n0_
     have HB := n1_
     clear n0_ n1_
     clear hb ho11
     refine hK.o _ _ trivial (fun hHeld => ?_)
     clear hK K
     refine qCj (a' := ?_) ?_ ?_
     rotate_left
     ·show Act.put _ (some 17) _ = _
      simp only [Act.put, List.setIfInBounds_toArray, List.set_cons_zero, List.set_cons_succ, qAo, i32_w]
      rfl
     refine one_ (i := 8) (N := some 18) (mK 11 511) rfl rfl (qCL HT_.o (by kernel_rfl)) (by decide) (fun K hK => ?_)
     have hcv12 := qBl (P := Tryz.prog) Tryz.underlying53 Tryz.underlying5 Tryz.underlying9 (Kd.own_of_R aA.o)
     try simp only [List.length_take, Int.reduceToNat] at hcv12
     refine value_ (w1 := ?_) (v := ?_) (by rfl) rfl ?_ ?_
     rotate_left 2
     ·go_simp
      constructor
      ·rfl
      ·rfl
     clear hcv12
     refine hK.o _ _ trivial (fun hHeld => ?_)
     clear hK K
     refine qCj (a' := ?_) ?_ ?_
     rotate_left
     ·show Act.put _ (some 18) _ = _
      simp only [Act.put, List.setIfInBounds_toArray, List.set_cons_zero, List.set_cons_succ, qAo, i32_w]
      rfl
     exact qCj (by simp only [qCM, Act.put, List.setIfInBounds_toArray, List.set_cons_zero, List.set_cons_succ]) (hCont (aG) _ ⟨(by (with_reducible repeat (first | apply Kd.R_alloc | apply Kd.R_drewN | apply Kd.R_drew)); exact aA.o), (by repeat (first | (with_reducible first | exact HB.o | apply qAb | apply qAa | apply qAd) | exact HB.o))⟩)
    ·skip
     refine Kd.R_lit_step (Kd.int .u8) _ 5 ?hg (N := 17) ?hd (xs := ([(wrap64 (48 + (Int.tmod a0 10))) % 256] : List Int)) (inner := [.int .u8 ((wrap64 (48 + (Int.tmod a0 10))) % 256)]) (ok := fun _ => True) (okp := fun _ => True) ?hr ?hp (fun _ hk => hk) trivial (Below.refl _ _) (Nat.le_refl _) (by simp) ?_; (case hd => rfl); (case hg => rfl); (case hr => first | (go_simp; done) | (go_simp; rfl)); (case hp => exact (Reps.one (show Kd.M (Kd.int .u8) _ _ _ ((wrap64 (48 + (Int.tmod a0 10))) % 256) [.int .u8 ((wrap64 (48 + (Int.tmod a0 10))) % 256)] from rfl) (Reps.none _ _)))
     intro aG w9 ho10 hb hg_ hnew_
     clear hg_ hnew_
     (first | rw [← aF.o] at ho10 | (simp only [Int.reduceToNat] at ho10; rw [← aF.o] at ho10))
     have n0_ := am (Kd.R_lower ho10 (qA2 (by repeat (first | (with_reducible first | exact HB.o | apply qAb | apply qAa | apply qAd) | exact HB.o))))
     have n1_ := am (qAt (by repeat (first | (with_reducible first | exact HB.o | apply qAb | apply qAa | apply qAd) | exact HB.o)) hb)
     clear HB
     have aA := n0_
     have HB := n1_
     clear n0_ n1_
     clear hb ho10
     refine hK.o _ _ trivial (fun hHeld => ?_)
     clear hK K
     refine qCj (a' := ?_) ?_ ?_
     rotate_left
     ·show Act.put _ (some 17) _ = _
      simp only [Act.put, List.setIfInBounds_toArray, List.set_cons_zero, List.set_cons_succ, qAo, i32_w]
      rfl
     refine two_ (i := 2) (j := 8) (Ni := some 12) (Nj := some 18) (mK 11 255) (mK 11 507) rfl rfl rfl rfl (two_of HT_.o (by kernel_rfl)) (by decide) (by decide) (fun K hK => ?_) (fun K hK => ?_)
     ·skip
      refine goes_ Tryz.func111 (by kernel_rfl) rfl #[.int .i64 (wrap64 (Int.tdiv a0 10))] (by rfl) rfl rfl (by (try simp only [List.map_toArray, List.map_cons, List.map_nil]); first | done | rfl | (simp only [List.length_drop, List.length_take]; rfl)) ?_
      with_reducible refine (ih k (by omega) (wrap64 (Int.tdiv a0 10)) aB _ A6.o).mono ?_
      rintro e aT ⟨rfl, hb⟩
      refine ⟨_, rfl, ?_⟩
      have n0_ := am (Kd.R_below (by (with_reducible repeat (first | apply Kd.R_alloc | apply Kd.R_drewN | apply Kd.R_drew)); exact aA.o) hb)
      have n1_ := am (qAt (by repeat (first | (with_reducible first | exact HB.o | apply qAb | apply qAa | apply qAd) | exact HB.o)) hb)
      clear aA
      clear HB
      have aA := n0_
      have HB := n1_
      clear n0_ n1_
      (try clear hb)
      (try clear hb2)
      (try clear hk)
      (try clear hi)
      refine hK.o _ _ trivial (fun hHeld => ?_)
      clear hK K
      refine qCj (a' := ?_) ?_ ?_
      rotate_left
      ·show Act.put _ (some 12) _ = _
       simp only [Act.put, List.setIfInBounds_toArray, List.set_cons_zero, List.set_cons_succ, qAo, i32_w]
       rfl
      refine one_ (i := 8) (N := some 18) (mK 11 511) rfl rfl (qCL HT_.o (by kernel_rfl)) (by decide) (fun K hK => ?_)
      have hcv12 := qBl (P := Tryz.prog) Tryz.underlying53 Tryz.underlying5 Tryz.underlying9 (Kd.own_of_R aA.o)
      try simp only [List.length_take, Int.reduceToNat] at hcv12
      refine value_ (w1 := ?_) (v := ?_) (by rfl) rfl ?_ ?_
      rotate_left 2
      ·go_simp
       constructor
       ·rfl
       ·rfl
      clear hcv12
      refine hK.o _ _ trivial (fun hHeld => ?_)
      clear hK K
      refine qCj (a' := ?_) ?_ ?_
      rotate_left
      ·show Act.put _ (some 18) _ = _
       simp only [Act.put, List.setIfInBounds_toArray, List.set_cons_zero, List.set_cons_succ, qAo, i32_w]
       rfl
      exact qCj (by simp only [qCM, Act.put, List.setIfInBounds_toArray, List.set_cons_zero, List.set_cons_succ]) (hCont (aG) _ ⟨(by (with_reducible repeat (first | apply Kd.R_alloc | apply Kd.R_drewN | apply Kd.R_drew)); exact aA.o), (by repeat (first | (with_reducible first | exact HB.o | apply qAb | apply qAa | apply qAd) | exact HB.o))⟩)
     ·skip
      have hcv11 := qBl (P := Tryz.prog) Tryz.underlying53 Tryz.underlying5 Tryz.underlying9 (Kd.own_of_R aA.o)
      try simp only [List.length_take, Int.reduceToNat] at hcv11
      refine value_ (w1 := ?_) (v := ?_) (by rfl) rfl ?_ ?_
      rotate_left 2
      ·go_simp
       constructor
       ·rfl
       ·rfl
      clear hcv11
      refine hK.o _ _ trivial (fun hHeld => ?_)
      clear hK K
      refine qCj (a' := ?_) ?_ ?_
      rotate_left
      ·show Act.put _ (some 18) _ = _
       simp only [Act.put, List.setIfInBounds_toArray, List.set_cons_zero, List.set_cons_succ, qAo, i32_w]
       rfl
      refine one_ (i := 2) (N := some 12) (mK 11 511) rfl rfl (qCL HT_.o (by kernel_rfl)) (by decide) (fun K hK => ?_)
      refine goes_ Tryz.func111 (by kernel_rfl) rfl #[.int .i64 (wrap64 (Int.tdiv a0 10))] (by rfl) rfl rfl (by (try simp only [List.map_toArray, List.map_cons, List.map_nil]); first | done | rfl | (simp only [List.length_drop, List.length_take]; rfl)) ?_
      with_reducible refine (ih k (by omega) (wrap64 (Int.tdiv a0 10)) aB _ A6.o).mono ?_
      rintro e aU ⟨rfl, hb⟩
      refine ⟨_, rfl, ?_⟩
      have n0_ := am (Kd.R_below (by (with_reducible repeat (first | apply Kd.R_alloc | apply Kd.R_drewN | apply Kd.R_drew)); exact aA.o) hb)
      have n1_ := am (qAt (by repeat (first | (with_reducible first | exact HB.o | apply qAb | apply qAa | apply qAd) | exact HB.o)) hb)
      clear aA
      clear HB
      have aA := n0_
      have HB := n1_
      clear n0_ n1_
      (try clear hb)
      (try clear hb2)
      (try clear hk)
      (try clear hi)
      refine hK.o _ _ trivial (fun hHeld => ?_)
      clear hK K
      refine qCj (a' := ?_) ?_ ?_
      rotate_left
      ·show Act.put _ (some 12) _ = _
       simp only [Act.put, List.setIfInBounds_toArray, List.set_cons_zero, List.set_cons_succ, qAo, i32_w]
       rfl
      exact qCj (by simp only [qCM, Act.put, List.setIfInBounds_toArray, List.set_cons_zero, List.set_cons_succ]) (hCont (aG) _ ⟨(by (with_reducible repeat (first | apply Kd.R_alloc | apply Kd.R_drewN | apply Kd.R_drew)); exact aA.o), (by repeat (first | (with_reducible first | exact HB.o | apply qAb | apply qAa | apply qAd) | exact HB.o))⟩)
   rintro aG aN ⟨h0_, h1_⟩
   have n0_ : qAi (Kd.R (Kd.int .u8) 5 aN w.heap.size (fun _ => True) aG aC) := ⟨h0_⟩
   have n1_ : qAi (Below w.heap.size w aN) := ⟨h1_⟩
   clear HB
   clear h0_ h1_
   have aA := n0_
   have HB := n1_
   clear n0_ n1_
   have hHeld := trivial
   refine qCj (a' := ?_) ?_ ?_
   rotate_left
   ·simp only [qCM, Act.put, List.setIfInBounds_toArray, List.set_cons_zero, List.set_cons_succ]
    rfl
   refine qAx (i := 9) (N := some 19) (v := ?_) (a' := ?_) (mK 11 1023) rfl rfl (qAj HT_.o (by kernel_rfl)) (fun _ _ _ h => h) (Or.inl ⟨by rfl, ?_⟩) ?_ ?_
   rotate_left
   ·intro w'
    go_simp
    with_reducible rfl
   rotate_left
   ·simp only [Act.put, List.setIfInBounds_toArray, List.set_cons_zero, List.set_cons_succ, qAo, i32_w]
    rfl
   refine qAx (i := 10) (N := some 2) (v := ?_) (a' := ?_) (mK 11 2047) rfl rfl (qAj HT_.o (by kernel_rfl)) (fun _ _ _ h => h) (Or.inl ⟨by rfl, ?_⟩) ?_ ?_
   rotate_left
   ·intro w'
    go_simp
    with_reducible rfl
   rotate_left
   ·simp only [Act.put, List.setIfInBounds_toArray, List.set_cons_zero, List.set_cons_succ, qAo, i32_w]
    rfl
   refine done_ (qC9 HT_.o (by kernel_rfl)) ?_
   try go_wp2
   go_ret
   exact ⟨by first | rfl | (simp [errW_none, errW_some] <;> rfl) | (simp [*, errW_none, errW_some] <;> rfl), by repeat (first | (with_reducible first | exact HB.o | apply qAb | apply qAa | apply qAd) | exact HB.o)⟩
  ·rw [if_neg c7] at H
   exact absurd H (by simp)
mutual
def qAf.j0 : Nat → Int → ByteArray → Option (ByteArray)
 | 0, _, _ => none
 | k + 1, x0, x3 => (qAg.f k x0).bind fun aB => (if aB = 1 then (some (⟨#[110, 97, 110]⟩ : ByteArray)) else (if aB = 2 then (if x3.size + 3 ≤ 9223372036854775807 then (some (x3 ++ (⟨#[105, 110, 102]⟩ : ByteArray))) else (none)) else (if aB = 3 then (if x3.size + 6 ≤ 9223372036854775807 then (some (x3 ++ (⟨#[48, 120, 48, 112, 43, 48]⟩ : ByteArray))) else (none)) else ((qAE.f k x0).bind fun aL => (qAf.l0 k x3 aL.2.1 aL.2.2)))))
def qAf.l0 : Nat → ByteArray → Int → Int → Option (ByteArray)
 | 0, _, _, _ => none
 | k + 1, x3, x5, x6 => if (x5 / 4503599627370496) = 0 then (qAf.l0 k x3 (IntKind.u64.wrap (x5 * 2)) (wrap64 (x6 - 1))) else (if x3.size + 3 ≤ 9223372036854775807 then (if (IntKind.u64.wrap (x5 * 4096)) = 0 then (qAf.j2 k (x3 ++ (⟨#[48, 120, 49]⟩ : ByteArray)) (IntKind.u64.wrap (x5 * 4096)) (wrap64 (x6 + 52))) else (if (x3 ++ (⟨#[48, 120, 49]⟩ : ByteArray)).size + 1 ≤ 9223372036854775807 then (qAf.j2 k ((x3 ++ (⟨#[48, 120, 49]⟩ : ByteArray)) ++ (⟨#[46]⟩ : ByteArray)) (IntKind.u64.wrap (x5 * 4096)) (wrap64 (x6 + 52))) else (none))) else (none))
def qAf.j2 : Nat → ByteArray → Int → Int → Option (ByteArray)
 | 0, _, _, _ => none
 | k + 1, x3, x5, x6 => qAf.l1 k x3 x5 x6
def qAf.l1 : Nat → ByteArray → Int → Int → Option (ByteArray)
 | 0, _, _, _ => none
 | k + 1, x3, x5, x6 => if x5 = 0 then (if x6 < 0 then (if x3.size + 2 ≤ 9223372036854775807 then ((qAk.f k (wrap64 (-x6))).bind fun aH => (if (x3 ++ (⟨#[112, 45]⟩ : ByteArray)).size + aH.size ≤ 9223372036854775807 then (some ((x3 ++ (⟨#[112, 45]⟩ : ByteArray)) ++ aH)) else (none))) else (none)) else (if x3.size + 2 ≤ 9223372036854775807 then ((qAk.f k x6).bind fun aI => (if (x3 ++ (⟨#[112, 43]⟩ : ByteArray)).size + aI.size ≤ 9223372036854775807 then (some ((x3 ++ (⟨#[112, 43]⟩ : ByteArray)) ++ aI)) else (none))) else (none))) else (if 0 ≤ (x5 / 1152921504606846976) then (if (x5 / 1152921504606846976) ≤ (IntKind.u64.wrap ((x5 / 1152921504606846976) + 1)) then (if (IntKind.u64.wrap ((x5 / 1152921504606846976) + 1)) ≤ 16 then (if x3.size + ((⟨#[48, 49, 50, 51, 52, 53, 54, 55, 56, 57, 97, 98, 99, 100, 101, 102]⟩ : ByteArray).extract ((x5 / 1152921504606846976) : Int).toNat ((IntKind.u64.wrap ((x5 / 1152921504606846976) + 1)) : Int).toNat).size ≤ 9223372036854775807 then (qAf.l1 k (x3 ++ ((⟨#[48, 49, 50, 51, 52, 53, 54, 55, 56, 57, 97, 98, 99, 100, 101, 102]⟩ : ByteArray).extract ((x5 / 1152921504606846976) : Int).toNat ((IntKind.u64.wrap ((x5 / 1152921504606846976) + 1)) : Int).toNat)) (IntKind.u64.wrap (x5 * 16)) x6) else (none)) else (none)) else (none)) else (none))
end
def qAf.f (k : Nat) (a0 : Int) : Option (ByteArray) := if (a0 / 9223372036854775808) = 1 then (qAf.j0 k a0 (⟨#[45]⟩ : ByteArray)) else (qAf.j0 k a0 (⟨#[]⟩ : ByteArray))
theorem qAf.calls (k : Nat) (a0 : Int) (r : ByteArray) (w : World) (h : qAf.f k a0 = some r) :
  Calls Tryz.prog 79 #[.int .u64 a0] w fun e w' => e = .returned (.string r) ∧ Below w.heap.size w w' := by
 have HB := am (Below.refl w.heap.size w)
 have H : (if (a0 / 9223372036854775808) = 1 then (qAf.j0 k a0 (⟨#[45]⟩ : ByteArray)) else (qAf.j0 k a0 (⟨#[]⟩ : ByteArray))) = some r := h
 clear h
 have bH := am H
 clear H
 go_enter Tryz.func79, Tryz.ntmps79
 go_upto_if 9 with (fail)
 go_cut [3] (fun v3 wc => ∃ (kq : Nat) (aC : ByteArray), v3 = .string aC ∧ qAi (qAf.j0 kq a0 aC = some r) ∧ qAi (kq ≤ k) ∧ qAi (Below w.heap.size w wc))
 case first =>
  have H := bH.o
  clear bH
  by_cases c3 : (a0 / 9223372036854775808) = 1
  rotate_left
  ·rw [if_neg c3] at H
   have aK : ((a0 / 9223372036854775808) == 1) = false := bf c3
   have aQ : ((a0 / 9223372036854775808) != 1) = true := bne_iff_ne.mpr c3
   (first | rw [aK] | (simp only [qAo, i32_w]; rw [aK]) | skip)
   have H' := am H
   clear H
   go_wp2
   go_meet
   case rel => exact ⟨_, ((⟨#[]⟩ : ByteArray)), (by first | rfl | (simp; done) | (simp [*]; done)), H', ⟨by first | omega | exact Nat.le_refl _⟩, ⟨by repeat (first | (with_reducible first | exact HB.o | apply qAb | apply qAa | apply qAd) | exact HB.o)⟩⟩
  rw [if_pos c3] at H
  have aK : ((a0 / 9223372036854775808) == 1) = true := beq_iff_eq.mpr c3
  have aQ : ((a0 / 9223372036854775808) != 1) = false := bn c3
  clear c3
  (first | rw [aK] | (simp only [qAo, i32_w]; rw [aK]) | skip)
  have H' := am H
  clear H
  go_wp2
  go_meet
  case rel => exact ⟨_, ((⟨#[45]⟩ : ByteArray)), (by first | rfl | (simp; done) | (simp [*]; done)), H', ⟨by first | omega | exact Nat.le_refl _⟩, ⟨by repeat (first | (with_reducible first | exact HB.o | apply qAb | apply qAa | apply qAd) | exact HB.o)⟩⟩
 case rest =>
  clear bH
  obtain ⟨kq, aC, rfl, HA, al, HB⟩ := hcut
  cases kq with
  | zero => exact absurd HA.o (by simp [qAf.j0])
  | succ aS =>
   have H := HA.o
   clear HA
   simp only [qAf.j0] at H
   replace H := bm H
   obtain ⟨aB, bJ, H⟩ := H
   replace H : (if aB = 1 then (some (⟨#[110, 97, 110]⟩ : ByteArray)) else (if aB = 2 then (if aC.size + 3 ≤ 9223372036854775807 then (some (aC ++ (⟨#[105, 110, 102]⟩ : ByteArray))) else (none)) else (if aB = 3 then (if aC.size + 6 ≤ 9223372036854775807 then (some (aC ++ (⟨#[48, 120, 48, 112, 43, 48]⟩ : ByteArray))) else (none)) else ((qAE.f aS a0).bind fun aL => (qAf.l0 aS aC aL.2.1 aL.2.2))))) = some r := H
   have A4 := am bJ
   clear bJ
   by_cases c5 : aB = 1
   ·rw [if_pos c5] at H
    have aV : (aB == 1) = true := beq_iff_eq.mpr c5
    have aW : (aB != 1) = false := bn c5
    clear c5
    obtain rfl := Option.some.inj H
    go_wp2_with (first | ((with_reducible refine qA7 (f := 109) rfl ?_); refine qBs (some 11) rfl rfl Tryz.func109 (by kernel_rfl) rfl #[.int .u64 a0] rfl (by (try simp only [List.map_toArray, List.map_cons, List.map_nil]); first | done | rfl | (simp only [List.length_drop, List.length_take]; rfl)) ?_; (with_reducible refine (qAg.calls aS a0 aB _ A4.o).mono ?_); rintro e w' ⟨rfl, ⟨nd, rfl⟩⟩; refine ⟨_, rfl, ?_⟩))
    go_ret
    exact ⟨by first | rfl | (simp [errW_none, errW_some] <;> rfl) | (simp [*, errW_none, errW_some] <;> rfl), by repeat (first | (with_reducible first | exact HB.o | apply qAb | apply qAa | apply qAd) | exact HB.o)⟩
   rw [if_neg c5] at H
   have aV : (aB == 1) = false := bf c5
   have aW : (aB != 1) = true := bne_iff_ne.mpr c5
   by_cases c6 : aB = 2
   ·rw [if_pos c6] at H
    have aX : (aB == 2) = true := beq_iff_eq.mpr c6
    have aY : (aB != 2) = false := bn c6
    clear c6
    obtain ⟨c7, H⟩ := gd H
    have ad := eq_true c7
    have ae := d1 c7
    try have af : (9223372036854775807 < aC.size + 3) = False := eq_false (Nat.not_lt.2 c7)
    obtain rfl := Option.some.inj H
    go_wp2_with (first | ((with_reducible refine qA7 (f := 109) rfl ?_); refine qBs (some 11) rfl rfl Tryz.func109 (by kernel_rfl) rfl #[.int .u64 a0] rfl (by (try simp only [List.map_toArray, List.map_cons, List.map_nil]); first | done | rfl | (simp only [List.length_drop, List.length_take]; rfl)) ?_; (with_reducible refine (qAg.calls aS a0 aB _ A4.o).mono ?_); rintro e w' ⟨rfl, ⟨nd, rfl⟩⟩; refine ⟨_, rfl, ?_⟩))
    go_ret
    exact ⟨by first | rfl | (simp [errW_none, errW_some] <;> rfl) | (simp [*, errW_none, errW_some] <;> rfl), by repeat (first | (with_reducible first | exact HB.o | apply qAb | apply qAa | apply qAd) | exact HB.o)⟩
   rw [if_neg c6] at H
   have aX : (aB == 2) = false := bf c6
   have aY : (aB != 2) = true := bne_iff_ne.mpr c6
   by_cases c8 : aB = 3
   ·rw [if_pos c8] at H
    have aZ : (aB == 3) = true := beq_iff_eq.mpr c8
    have a1 : (aB != 3) = false := bn c8
    clear c8
    obtain ⟨c9, H⟩ := gd H
    have ag := eq_true c9
    have ah := d1 c9
    try have ai : (9223372036854775807 < aC.size + 6) = False := eq_false (Nat.not_lt.2 c9)
    obtain rfl := Option.some.inj H
    go_wp2_with (first | ((with_reducible refine qA7 (f := 109) rfl ?_); refine qBs (some 11) rfl rfl Tryz.func109 (by kernel_rfl) rfl #[.int .u64 a0] rfl (by (try simp only [List.map_toArray, List.map_cons, List.map_nil]); first | done | rfl | (simp only [List.length_drop, List.length_take]; rfl)) ?_; (with_reducible refine (qAg.calls aS a0 aB _ A4.o).mono ?_); rintro e w' ⟨rfl, ⟨nd, rfl⟩⟩; refine ⟨_, rfl, ?_⟩))
    go_ret
    exact ⟨by first | rfl | (simp [errW_none, errW_some] <;> rfl) | (simp [*, errW_none, errW_some] <;> rfl), by repeat (first | (with_reducible first | exact HB.o | apply qAb | apply qAa | apply qAd) | exact HB.o)⟩
   rw [if_neg c8] at H
   have aZ : (aB == 3) = false := bf c8
   have a1 : (aB != 3) = true := bne_iff_ne.mpr c8
   replace H := bm H
   obtain ⟨⟨bI, aj, ak⟩, ar, H⟩ := H
   replace H : (qAf.l0 aS aC aj ak) = some r := H
   have b6 := am ar
   clear ar
   have H' := am H
   clear H
   go_wp2_with (first | ((with_reducible refine qA7 (f := 109) rfl ?_); refine qBs (some 11) rfl rfl Tryz.func109 (by kernel_rfl) rfl #[.int .u64 a0] rfl (by (try simp only [List.map_toArray, List.map_cons, List.map_nil]); first | done | rfl | (simp only [List.length_drop, List.length_take]; rfl)) ?_; (with_reducible refine (qAg.calls aS a0 aB _ A4.o).mono ?_); rintro e w' ⟨rfl, ⟨nd, rfl⟩⟩; refine ⟨_, rfl, ?_⟩) | ((with_reducible refine qA7 (f := 110) rfl ?_); refine qBs (some 24) rfl rfl Tryz.func110 (by kernel_rfl) rfl #[.int .u64 a0] rfl (by (try simp only [List.map_toArray, List.map_cons, List.map_nil]); first | done | rfl | (simp only [List.length_drop, List.length_take]; rfl)) ?_; (with_reducible refine (qAE.calls aS a0 bI aj ak _ b6.o).mono ?_); rintro e w' ⟨rfl, ⟨nd, rfl⟩⟩; refine ⟨_, rfl, ?_⟩))
   go_loopg [5, 6] aS (fun kq v5 v6 w' => ∃ (aE : Int) (aF : Int), v5 = .int .u64 aE ∧ v6 = .int .i64 aF ∧ qAi (qAf.l0 kq aC aE aF = some r) ∧ qAi (kq ≤ aS) ∧ qAi (Below w.heap.size w w'))
   case atStart => exact ⟨(aj), (ak), (by first | rfl | (simp; done) | (simp [*]; done)), (by first | rfl | (simp; done) | (simp [*]; done)), H', ⟨Nat.le_refl _⟩, ⟨by repeat (first | (with_reducible first | exact HB.o | apply qAb | apply qAa | apply qAd) | exact HB.o)⟩⟩
   case round =>
    clear H'
    obtain ⟨aE, aF, rfl, rfl, HA, an, HB⟩ := hrel
    cases gk with
    | zero => exact absurd HA.o (by simp [qAf.l0])
    | succ k2 =>
     have H := HA.o
     clear HA
     simp only [qAf.l0] at H
     by_cases aT : (aE / 4503599627370496) = 0
     ·rw [if_pos aT] at H
      have aN : ((aE / 4503599627370496) == 0) = true := beq_iff_eq.mpr aT
      have aO : ((aE / 4503599627370496) != 0) = false := bn aT
      clear aT
      have H' := am H
      clear H
      go_wp2
      go_roundg k2
      case measure => have := al.o; have := an.o; omega
      case rel => exact ⟨(IntKind.u64.wrap (aE * 2)), (wrap64 (aF - 1)), (by first | rfl | (simp; done) | (simp [*]; done)), (by first | rfl | (simp; done) | (simp [*]; done)), H', ⟨by have := al.o; have := an.o; omega⟩, ⟨by repeat (first | (with_reducible first | exact HB.o | apply qAb | apply qAa | apply qAd) | exact HB.o)⟩⟩
     rw [if_neg aT] at H
     have aN : ((aE / 4503599627370496) == 0) = false := bf aT
     have aO : ((aE / 4503599627370496) != 0) = true := bne_iff_ne.mpr aT
     obtain ⟨ab, H⟩ := gd H
     have a3 := eq_true ab
     have a4 := d1 ab
     try have a5 : (9223372036854775807 < aC.size + 3) = False := eq_false (Nat.not_lt.2 ab)
     have aa := am H
     clear H
     go_upto_if 42 with (fail)
     go_cut [3] (fun v3 wc => ∃ (kq : Nat) (aM : ByteArray), v3 = .string aM ∧ qAi (qAf.j2 kq aM (IntKind.u64.wrap (aE * 4096)) (wrap64 (aF + 52)) = some r) ∧ qAi (kq ≤ k2) ∧ qAi (Below w.heap.size w wc))
     case first =>
      have H := aa.o
      clear aa
      by_cases aU : (IntKind.u64.wrap (aE * 4096)) = 0
      ·rw [if_pos aU] at H
       have aG : ((IntKind.u64.wrap (aE * 4096)) == 0) = true := beq_iff_eq.mpr aU
       have aP : ((IntKind.u64.wrap (aE * 4096)) != 0) = false := bn aU
       clear aU
       (first | rw [aG] | (simp only [qAo, i32_w]; rw [aG]) | skip)
       have H' := am H
       clear H
       go_wp2
       go_meet
       case rel => exact ⟨_, (aC ++ (⟨#[48, 120, 49]⟩ : ByteArray)), (by first | rfl | (simp; done) | (simp [*]; done)), H', ⟨by have := al.o; have := an.o; first | omega | exact Nat.le_refl _⟩, ⟨by repeat (first | (with_reducible first | exact HB.o | apply qAb | apply qAa | apply qAd) | exact HB.o)⟩⟩
      rw [if_neg aU] at H
      have aG : ((IntKind.u64.wrap (aE * 4096)) == 0) = false := bf aU
      have aP : ((IntKind.u64.wrap (aE * 4096)) != 0) = true := bne_iff_ne.mpr aU
      (first | rw [aG] | (simp only [qAo, i32_w]; rw [aG]) | skip)
      obtain ⟨a6, H⟩ := gd H
      have c15s : aC.size + 3 + 1 ≤ 9223372036854775807 := by have h := a6; rw [ByteArray.size_append] at h; exact h
      have c15t : (9223372036854775807 < aC.size + 3 + 1) = False := eq_false (Nat.not_lt.2 c15s)
      have a7 := eq_true a6
      have a8 := d1 a6
      try have a9 : (9223372036854775807 < (aC ++ (⟨#[48, 120, 49]⟩ : ByteArray)).size + 1) = False := eq_false (Nat.not_lt.2 a6)
      have H' := am H
      clear H
      go_wp2
      go_meet
      case rel => exact ⟨_, ((aC ++ (⟨#[48, 120, 49]⟩ : ByteArray)) ++ (⟨#[46]⟩ : ByteArray)), (by first | rfl | (simp; done) | (simp [*]; done)), H', ⟨by have := al.o; have := an.o; first | omega | exact Nat.le_refl _⟩, ⟨by repeat (first | (with_reducible first | exact HB.o | apply qAb | apply qAa | apply qAd) | exact HB.o)⟩⟩
     case rest =>
      clear aa
      obtain ⟨kq, aM, rfl, HA, aw, HB⟩ := hcut
      cases kq with
      | zero => exact absurd HA.o (by simp [qAf.j2])
      | succ bE =>
       have H := HA.o
       clear HA
       simp only [qAf.j2] at H
       have H' := am H
       clear H
       go_wp2
       go_loopg [3, 5] bE (fun kq v3 v5 w' => ∃ (aA : ByteArray) (aJ : Int), v3 = .string aA ∧ v5 = .int .u64 aJ ∧ qAi (qAf.l1 kq aA aJ (wrap64 (aF + 52)) = some r) ∧ qAi (kq ≤ bE) ∧ qAi (Below w.heap.size w w'))
       case atStart => exact ⟨(aM), ((IntKind.u64.wrap (aE * 4096))), (by first | rfl | (simp; done) | (simp [*]; done)), (by first | rfl | (simp; done) | (simp [*]; done)), H', ⟨Nat.le_refl _⟩, ⟨by repeat (first | (with_reducible first | exact HB.o | apply qAb | apply qAa | apply qAd) | exact HB.o)⟩⟩
       case round =>
        clear H'
        obtain ⟨aA, aJ, rfl, rfl, HA, bK, HB⟩ := hrel
        cases gk with
        | zero => exact absurd HA.o (by simp [qAf.l1])
        | succ k4 =>
         have H := HA.o
         clear HA
         simp only [qAf.l1] at H
         by_cases ac : aJ = 0
         rotate_left
         ·rw [if_neg ac] at H
          have ax : (aJ == 0) = false := bf ac
          have ay : (aJ != 0) = true := bne_iff_ne.mpr ac
          obtain ⟨aD, aR⟩ : ∃ j_ : Int, (aJ / 1152921504606846976) = j_ := ⟨_, rfl⟩
          replace H : (if 0 ≤ (aD) then (if (aD) ≤ (IntKind.u64.wrap ((aD) + 1)) then (if (IntKind.u64.wrap ((aD) + 1)) ≤ 16 then (if aA.size + ((⟨#[48, 49, 50, 51, 52, 53, 54, 55, 56, 57, 97, 98, 99, 100, 101, 102]⟩ : ByteArray).extract ((aD) : Int).toNat ((IntKind.u64.wrap ((aD) + 1)) : Int).toNat).size ≤ 9223372036854775807 then (qAf.l1 k4 (aA ++ ((⟨#[48, 49, 50, 51, 52, 53, 54, 55, 56, 57, 97, 98, 99, 100, 101, 102]⟩ : ByteArray).extract ((aD) : Int).toNat ((IntKind.u64.wrap ((aD) + 1)) : Int).toNat)) (IntKind.u64.wrap (aJ * 16)) (wrap64 (aF + 52))) else (none)) else (none)) else (none)) else (none)) = some r := by first | (rw [aR] at H; exact H) | (simp only [aR] at H ⊢; exact H)
          obtain ⟨bC, H⟩ := gd H
          have bX := eq_true bC
          replace bC := d1 bC
          obtain ⟨bF, H⟩ := gd H
          have bZ := eq_true bF
          have b0 := d1 bF
          obtain ⟨bG, H⟩ := gd H
          have b1 := eq_true bG
          have b2 := d1 bG
          obtain ⟨bD, H⟩ := gd H
          have b3 := eq_true bD
          have b4 := d1 bD
          try have b5 : (9223372036854775807 < aA.size + ((⟨#[48, 49, 50, 51, 52, 53, 54, 55, 56, 57, 97, 98, 99, 100, 101, 102]⟩ : ByteArray).extract ((aD) : Int).toNat ((IntKind.u64.wrap ((aD) + 1)) : Int).toNat).size) = False := eq_false (Nat.not_lt.2 bD)
          have H' := am H
          clear H
          go_wp2
          go_roundg k4
          case measure => have := al.o; have := an.o; have := aw.o; have := bK.o; omega
          case rel => exact ⟨(aA ++ ((⟨#[48, 49, 50, 51, 52, 53, 54, 55, 56, 57, 97, 98, 99, 100, 101, 102]⟩ : ByteArray).extract ((aD) : Int).toNat ((IntKind.u64.wrap ((aD) + 1)) : Int).toNat)), (IntKind.u64.wrap (aJ * 16)), (by first | rfl | (simp; done) | (simp only [← aR] <;> (first | rfl | simp)) | (simp [*]; done)), (by first | rfl | (simp; done) | (simp [*]; done)), H', ⟨by have := al.o; have := an.o; have := aw.o; have := bK.o; omega⟩, ⟨by repeat (first | (with_reducible first | exact HB.o | apply qAb | apply qAa | apply qAd) | exact HB.o)⟩⟩
         rw [if_pos ac] at H
         have ax : (aJ == 0) = true := beq_iff_eq.mpr ac
         have ay : (aJ != 0) = false := bn ac
         clear ac
         by_cases ao : (wrap64 (aF + 52)) < 0
         rotate_left
         ·rw [if_neg ao] at H
          replace ao := d0 ao
          obtain ⟨bB, H⟩ := gd H
          have bR := eq_true bB
          have bS := d1 bB
          try have bT : (9223372036854775807 < aA.size + 2) = False := eq_false (Nat.not_lt.2 bB)
          replace H := bm H
          obtain ⟨aI, av, H⟩ := H
          replace H : (if (aA ++ (⟨#[112, 43]⟩ : ByteArray)).size + aI.size ≤ 9223372036854775807 then (some ((aA ++ (⟨#[112, 43]⟩ : ByteArray)) ++ aI)) else (none)) = some r := H
          have b8 := am av
          clear av
          obtain ⟨aq, H⟩ := gd H
          have c24s : aA.size + 2 + aI.size ≤ 9223372036854775807 := by have h := aq; rw [ByteArray.size_append] at h; exact h
          have c24t : (9223372036854775807 < aA.size + 2 + aI.size) = False := eq_false (Nat.not_lt.2 c24s)
          have bU := eq_true aq
          have bV := d1 aq
          try have bW : (9223372036854775807 < (aA ++ (⟨#[112, 43]⟩ : ByteArray)).size + aI.size) = False := eq_false (Nat.not_lt.2 aq)
          obtain rfl := Option.some.inj H
          go_wp2_with (first | ((with_reducible refine qA7 (f := 111) rfl ?_); refine qBs (some 68) rfl rfl Tryz.func111 (by kernel_rfl) rfl #[.int .i64 (wrap64 (aF + 52))] rfl (by (try simp only [List.map_toArray, List.map_cons, List.map_nil]); first | done | rfl | (simp only [List.length_drop, List.length_take]; rfl)) ?_; (with_reducible refine (qAk.calls k4 (wrap64 (aF + 52)) aI _ b8.o).mono ?_); rintro e ba ⟨rfl, hb⟩; refine ⟨_, rfl, ?_⟩; have n0_ := am (qAt (by repeat (first | (with_reducible first | exact HB.o | apply qAb | apply qAa | apply qAd) | exact HB.o)) hb); clear HB; have HB := n0_; clear n0_))
          go_ret
          exact ⟨by first | rfl | (simp [errW_none, errW_some] <;> rfl) | (simp [*, errW_none, errW_some] <;> rfl), by repeat (first | (with_reducible first | exact HB.o | apply qAb | apply qAa | apply qAd) | exact HB.o)⟩
         rw [if_pos ao] at H
         replace ao := d1 ao
         obtain ⟨bA, H⟩ := gd H
         have bL := eq_true bA
         have bM := d1 bA
         try have bN : (9223372036854775807 < aA.size + 2) = False := eq_false (Nat.not_lt.2 bA)
         replace H := bm H
         obtain ⟨aH, au, H⟩ := H
         replace H : (if (aA ++ (⟨#[112, 45]⟩ : ByteArray)).size + aH.size ≤ 9223372036854775807 then (some ((aA ++ (⟨#[112, 45]⟩ : ByteArray)) ++ aH)) else (none)) = some r := H
         have b7 := am au
         clear au
         obtain ⟨ap, H⟩ := gd H
         have c20s : aA.size + 2 + aH.size ≤ 9223372036854775807 := by have h := ap; rw [ByteArray.size_append] at h; exact h
         have c20t : (9223372036854775807 < aA.size + 2 + aH.size) = False := eq_false (Nat.not_lt.2 c20s)
         have bO := eq_true ap
         have bP := d1 ap
         try have bQ : (9223372036854775807 < (aA ++ (⟨#[112, 45]⟩ : ByteArray)).size + aH.size) = False := eq_false (Nat.not_lt.2 ap)
         obtain rfl := Option.some.inj H
         go_wp2_with (first | ((with_reducible refine qA7 (f := 111) rfl ?_); refine qBs (some 63) rfl rfl Tryz.func111 (by kernel_rfl) rfl #[.int .i64 (wrap64 (-(wrap64 (aF + 52))))] rfl (by (try simp only [List.map_toArray, List.map_cons, List.map_nil]); first | done | rfl | (simp only [List.length_drop, List.length_take]; rfl)) ?_; (with_reducible refine (qAk.calls k4 (wrap64 (-(wrap64 (aF + 52)))) aH _ b7.o).mono ?_); rintro e b9 ⟨rfl, hb⟩; refine ⟨_, rfl, ?_⟩; have n0_ := am (qAt (by repeat (first | (with_reducible first | exact HB.o | apply qAb | apply qAa | apply qAd) | exact HB.o)) hb); clear HB; have HB := n0_; clear n0_))
         go_ret
         exact ⟨by first | rfl | (simp [errW_none, errW_some] <;> rfl) | (simp [*, errW_none, errW_some] <;> rfl), by repeat (first | (with_reducible first | exact HB.o | apply qAb | apply qAa | apply qAd) | exact HB.o)⟩
end Q
end
section
namespace Q
open Go.RowKit YA YC YB
open Val
namespace Flt
theorem textL_canon {a : Int} (ha : U64 a) : qBD (qB8 a) = qBD a := by
 cases h : nanB a with
 | false => rw [qBT h]
 | true =>
  rw [qCv h]
  unfold nanB at h
  have h := of_decide_eq_true h
  rw [show qBD 9221120237041090561 = [110, 97, 110] from by decide +kernel]
  unfold qBD
  rw [if_pos h]
theorem decL_len : ∀ (j n : Nat), (decL j n).length ≤ j + 1
 | 0, n => Nat.le_refl _
 | j + 1, n => by
  unfold decL; split
  ·simp
  rw [List.length_append]; have := decL_len j (n / 10); simp; omega
theorem dec_ev : ∀ (j : Nat) (n : Nat), n < 10 ^ (j + 1) → n < 100000 → j < 100 → Ev (fun k => qAk.f k n) (strOfNums (decL j n))
 | 0, n, h, hl, hj => by
  refine Ev.step (f := fun _ => some (strOfNums [48 + (n : Int)])) (fun k => ?_) (Ev.now _)
  simp only [qAk.f]
  rw [if_pos (by simp at h; omega), qB1 (by omega) (by omega), Int.emod_eq_of_lt (by omega) (by simp at h; omega)]
 | j + 1, n, h, hl, hj => by
  by_cases c : n < 10
  ·refine Ev.step (f := fun _ => some (strOfNums (decL (j + 1) n))) (fun k => ?_) (Ev.now _)
   simp only [qAk.f]
   rw [if_pos (by omega), qB1 (by omega) (by omega), Int.emod_eq_of_lt (by omega) (by omega), decL, if_pos c]
  have ih := dec_ev j (n / 10) (by rw [Nat.pow_succ] at h; exact Nat.div_lt_of_lt_mul (by rw [Nat.mul_comm]; exact h)) (by omega) (by omega)
  have hd : wrap64 (Int.tdiv (n : Int) 10) = ((n / 10 : Nat) : Int) := by rw [Int.tdiv_eq_ediv_of_nonneg (by omega), qB1 (by omega) (by omega)]; omega
  have hm : wrap64 (48 + Int.tmod (n : Int) 10) % 256 = 48 + ((n % 10 : Nat) : Int) := by rw [Int.tmod_eq_emod_of_nonneg (by omega), qB1 (by omega) (by omega)]; omega
  have hlen : (decL j (n / 10)).length ≤ j + 1 := decL_len j _
  refine Ev.step (f := fun k => (qAk.f k ((n / 10 : Nat) : Int)).bind fun t => (some [48 + ((n % 10 : Nat) : Int)]).bind fun y => if t.size + (strOfNums y).size ≤ 9223372036854775807 then some (t ++ strOfNums y) else none) (fun k => ?_) (Ev.bind ih ?_)
  ·simp only [qAk.f]
   rw [if_neg (by omega), hd, hm]
  simp only [Option.bind_some, qAX]
  rw [if_pos (by simp; omega), decL, if_neg c, qBC]; exact Ev.now _
theorem hx_ext {d : Int} (h0 : 0 ≤ d) (h1 : d < 16) : (⟨#[48, 49, 50, 51, 52, 53, 54, 55, 56, 57, 97, 98, 99, 100, 101, 102]⟩ : ByteArray).extract d.toNat (d + 1).toNat = strOfNums [hx d] := by
 obtain ⟨n, rfl⟩ := Int.eq_ofNat_of_zero_le h0
 have : ∀ n : Nat, n < 16 → (⟨#[48, 49, 50, 51, 52, 53, 54, 55, 56, 57, 97, 98, 99, 100, 101, 102]⟩ : ByteArray).extract (n : Int).toNat ((n : Int) + 1).toNat = strOfNums [hx (n : Int)] := by decide
 exact this n (by omega)
theorem rl1_ev (e : Int) (he0 : -1100 < e) (he : e < 1100) : ∀ (k : Nat) (l : List Int) (m : Int), 0 ≤ m → m < 18446744073709551616 → (m ≠ 0 → m % 16 ^ (17 - k) = 0 ∧ 1 < k) → k ≤ 17 → l.length + k < 800 →
  Ev (fun r => qAf.l1 r (strOfNums l) m e) (strOfNums (l ++ hexs k m ++ [112, sgL e] ++ qBt (exL (abL e))))
 | k, l, m, h0, h1, h2, hk, hl => by
  by_cases hm : m = 0
  rotate_left
  ·obtain ⟨h3, h4⟩ := h2 hm
   cases k with
   | zero => omega
   | succ k =>
    have hd := hx_lt h0 h1
    have ih := rl1_ev e he0 he k (l ++ [hx (m / 1152921504606846976)]) (m * 16 % 18446744073709551616) (by omega) (by omega) (fun hn => hexs_step k m h0 h1 hm h3 hk hn) (by omega) (by simp; omega)
    rw [show hexs (k + 1) m = hx (m / 1152921504606846976) :: hexs k (m * 16 % 18446744073709551616) from by rw [hexs, if_neg hm]]
    rw [List.append_assoc l, List.singleton_append] at ih
    have hwd : IntKind.u64.wrap (m / 1152921504606846976 + 1) = m / 1152921504606846976 + 1 := by rw [w_u64]; omega
    refine Ev.step (fun r => ?_) ih
    simp only [qAf.l1, hwd, hx_ext hd.1 hd.2, w_u64]
    rw [if_neg hm, if_pos hd.1, if_pos (by omega), if_pos (by omega), if_pos (by rw [qAX, qAX]; simp; omega), qBC]
  subst hm
  rw [show hexs k 0 = [] from by cases k <;> rfl, List.append_nil]
  obtain ⟨n, hn⟩ : ∃ n : Nat, (n : Int) = abL e := ⟨(abL e).toNat, by unfold abL; split <;> omega⟩
  have hn2 : n < 1100 := by unfold abL at hn; split at hn <;> omega
  have hd := dec_ev 4 n (by omega) (by omega) (by decide)
  have hlen := decL_len 4 n
  rw [← hn, strip_ex n hn2]
  by_cases c : e < 0
  rotate_left
  ·have hw : e = n := by rw [hn]; unfold abL; rw [if_neg c]
   refine Ev.step (f := fun k => (qAk.f k n).bind fun t => if (strOfNums l ++ (⟨#[112, 43]⟩ : ByteArray)).size + t.size ≤ 9223372036854775807 then some ((strOfNums l ++ (⟨#[112, 43]⟩ : ByteArray)) ++ t) else none) (fun k => ?_) (Ev.bind hd ?_)
   ·simp only [qAf.l1, if_true]
    rw [if_neg c, if_pos (by rw [qAX]; omega), ← hw]
   rw [show (⟨#[112, 43]⟩ : ByteArray) = strOfNums [112, 43] from by decide, ← qBC, ← qBC, qAX, qAX, if_pos (by simp; omega), show sgL e = 43 from by unfold sgL; rw [if_neg c]]
   exact Ev.now _
  have hw : wrap64 (-e) = n := by rw [qB1 (by omega) (by omega), hn]; unfold abL; rw [if_pos c]
  refine Ev.step (f := fun k => (qAk.f k n).bind fun t => if (strOfNums l ++ (⟨#[112, 45]⟩ : ByteArray)).size + t.size ≤ 9223372036854775807 then some ((strOfNums l ++ (⟨#[112, 45]⟩ : ByteArray)) ++ t) else none) (fun k => ?_) (Ev.bind hd ?_)
  ·simp only [qAf.l1, if_true]
   rw [if_pos c, if_pos (by rw [qAX]; omega), hw]
  rw [show (⟨#[112, 45]⟩ : ByteArray) = strOfNums [112, 45] from by decide, ← qBC, ← qBC, qAX, qAX, if_pos (by simp; omega), show sgL e = 45 from by unfold sgL; rw [if_pos c]]
  exact Ev.now _
theorem rl0_ev (l : List Int) (hl : l.length < 500) : ∀ (k : Nat) (m e : Int), 0 < m → m < 9007199254740992 → 4503599627370496 ≤ m * 2 ^ k → -1150 + (k : Int) < e → e < 1000 →
  Ev (fun r => qAf.l0 r (strOfNums l) m e) (strOfNums (l ++ [48, 120, 49] ++ ((if (nrm k (m * 256) (e + 52)).1 * 16 % 18446744073709551616 = 0 then [] else 46 :: hexs 17 ((nrm k (m * 256) (e + 52)).1 * 16 % 18446744073709551616)) ++ [112, sgL (nrm k (m * 256) (e + 52)).2] ++ qBt (exL (abL (nrm k (m * 256) (e + 52)).2)))))
 | k, m, e, h0, h1, h2, h3, h4 => by
  by_cases c : m < 4503599627370496
  ·cases k with
   | zero => simp at h2; omega
   | succ k =>
    have ih := rl0_ev l hl k (m * 2) (e - 1) (by omega) (by omega) (by rw [Int.pow_succ] at h2; rw [Int.mul_assoc, Int.mul_comm 2]; exact h2) (by omega) (by omega)
    rw [show nrm (k + 1) (m * 256) (e + 52) = nrm k (m * 2 * 256) (e - 1 + 52) from by rw [nrm, if_pos (by omega)]; congr 1 <;> omega]
    refine Ev.step (fun r => ?_) ih
    simp only [qAf.l0]
    rw [if_pos (by omega), w_u64, Int.emod_eq_of_lt (by omega) (by omega), qB1 (by omega) (by omega)]
  rw [nrm_stop k (m * 256) (e + 52) (by omega)]
  have hF : IntKind.u64.wrap (m * 4096) = m * 256 * 16 % 18446744073709551616 := by rw [w_u64]; congr 1; omega
  have hw : wrap64 (e + 52) = e + 52 := qB1 (by omega) (by omega)
  have hs : strOfNums l ++ (⟨#[48, 120, 49]⟩ : ByteArray) = strOfNums (l ++ [48, 120, 49]) := by rw [qBC]; rfl
  obtain ⟨F, hFF⟩ : ∃ F, F = m * 256 * 16 % 18446744073709551616 := ⟨_, rfl⟩
  have hF0 : 0 ≤ F ∧ F < 18446744073709551616 := by omega
  simp only
  rw [← hFF] at hF ⊢
  by_cases z : F = 0
  ·rw [if_pos z, List.nil_append]
   have hj := rl1_ev (e + 52) (by omega) (by omega) 17 (l ++ [48, 120, 49]) F hF0.1 hF0.2 (fun h => absurd z h) (by decide) (by simp; omega)
   rw [z, show hexs 17 0 = [] from rfl, List.append_nil, List.append_assoc] at hj
   refine Ev.step (f := fun r => qAf.j2 r (strOfNums (l ++ [48, 120, 49])) F (e + 52)) (fun r => ?_) (Ev.step (fun r => ?_) hj)
   ·simp only [qAf.l0, hF, hw, hs]
    rw [if_neg (by omega), if_pos (by rw [qAX]; omega), if_pos z]
   simp only [qAf.j2]; rw [z]
  rw [if_neg z]
  have hj := rl1_ev (e + 52) (by omega) (by omega) 17 (l ++ [48, 120, 49] ++ [46]) F hF0.1 hF0.2 (fun _ => ⟨by simp, by decide⟩) (by decide) (by simp; omega)
  have he : l ++ [48, 120, 49] ++ [46] ++ hexs 17 F ++ [112, sgL (e + 52)] ++ qBt (exL (abL (e + 52))) = l ++ [48, 120, 49] ++ (46 :: hexs 17 F ++ [112, sgL (e + 52)] ++ qBt (exL (abL (e + 52)))) := by simp
  rw [he] at hj
  refine Ev.step (f := fun r => qAf.j2 r (strOfNums (l ++ [48, 120, 49] ++ [46])) F (e + 52)) (fun r => ?_) (Ev.step (fun r => ?_) hj)
  ·simp only [qAf.l0, hF, hw, hs]
   rw [if_neg (by omega), if_pos (by rw [qAX]; omega), if_neg z, if_pos (by rw [qAX]; simp; omega), qBC (l ++ [48, 120, 49])]
   rfl
  simp only [qAf.j2]
theorem class_ev (a : Int) (ha : U64 a) : Ev (fun k => qAg.f k a) (if expF a = 2047 then (if a * 4096 % 18446744073709551616 = 0 then 2 else 1) else if expF a = 0 then (if a * 4096 % 18446744073709551616 = 0 then 3 else 4) else 5) := by
 have he : bits .and .u64 (a / 4503599627370496) 2047 = expF a := and_exp a ha
 have hj : ∀ (b : Bool) (x4 : Int), Ev (fun k => qAg.j1 k (expF a) b) (if b = true then 3 else if expF a = 0 then 4 else 5) := fun b x4 => by
  refine Ev.step (f := fun _ => some (if b = true then 3 else if expF a = 0 then 4 else 5)) (fun k => ?_) (Ev.now _)
  simp only [qAg.j1]
  cases b <;> (simp only [Bool.false_eq_true, if_false, if_true]; try (split <;> rfl))
 by_cases c : expF a = 2047
 ·rw [if_pos c]
  refine Ev.congr (f := fun k => qAg.j0 k (expF a) (a * 4096 % 18446744073709551616) (a * 4096 % 18446744073709551616 != 0)) (fun k => by unfold qAg.f; rw [he, if_pos c, w_u64]) ?_
  by_cases z : a * 4096 % 18446744073709551616 = 0
  ·rw [if_pos z]
   refine Ev.step (f := fun _ => some 2) (fun k => ?_) (Ev.now _)
   simp only [qAg.j0]
   rw [if_neg (by simp [z]), if_pos c]
  rw [if_neg z]
  refine Ev.step (f := fun _ => some 1) (fun k => ?_) (Ev.now _)
  simp only [qAg.j0]
  rw [if_pos (by simpa using z)]
 rw [if_neg c]
 refine Ev.congr (f := fun k => qAg.j0 k (expF a) (a * 4096 % 18446744073709551616) false) (fun k => by unfold qAg.f; rw [he, if_neg c, w_u64]) ?_
 by_cases z : expF a = 0
 rotate_left
 ·rw [if_neg z]
  have := hj false 0
  rw [if_neg (by decide), if_neg z] at this
  refine Ev.step (fun k => ?_) this
  simp only [qAg.j0]
  rw [if_neg (by decide), if_neg c, if_neg z]
 rw [if_pos z]
 have := hj (a * 4096 % 18446744073709551616 == 0) 0
 rw [if_pos z] at this
 by_cases y : a * 4096 % 18446744073709551616 = 0
 ·rw [if_pos y]
  rw [if_pos (by simpa using y)] at this
  refine Ev.step (fun k => ?_) this
  simp only [qAg.j0]
  rw [if_neg (by decide), if_neg c, if_pos z]
 rw [if_neg y]
 rw [if_neg (by simpa using y)] at this
 refine Ev.step (fun k => ?_) this
 simp only [qAg.j0]
 rw [if_neg (by decide), if_neg c, if_pos z]
theorem rtext_ev (a : Int) (ha : U64 a) : Ev (fun k => qAf.f k a) (strOfNums (qBD a)) := by
 have ha0 := ha.1
 have ha1 := ha.2
 have he0 : 0 ≤ expF a ∧ expF a < 2048 := by unfold expF; omega
 have hef : expF a = a / 4503599627370496 % 2048 := rfl
 have hcl := class_ev a ha
 obtain ⟨sg, hsg⟩ : ∃ sg : List Int, sg = if negF a = true then [45] else [] := ⟨_, rfl⟩
 have hsl : sg.length ≤ 1 := by rw [hsg]; split <;> simp
 have hb : ∀ k, qAf.j0 (k + 1) a (strOfNums sg) = (qAg.f k a).bind fun t => (if t = 1 then (some (⟨#[110, 97, 110]⟩ : ByteArray)) else (if t = 2 then (if (strOfNums sg).size + 3 ≤ 9223372036854775807 then (some ((strOfNums sg) ++ (⟨#[105, 110, 102]⟩ : ByteArray))) else (none)) else (if t = 3 then (if (strOfNums sg).size + 6 ≤ 9223372036854775807 then (some ((strOfNums sg) ++ (⟨#[48, 120, 48, 112, 43, 48]⟩ : ByteArray))) else (none)) else ((qAE.f k a).bind fun bt890 => (qAf.l0 k (strOfNums sg) bt890.2.1 bt890.2.2))))) := fun k => rfl
 have hp : ∀ k, qAE.f k a = (qAg.f k a).bind fun t881 => (if t881 = 1 then (some (false, 0, 0)) else (if t881 = 2 then (some (((a / 9223372036854775808) == 1), 0, 0)) else (if t881 = 5 then (some (((a / 9223372036854775808) == 1), Go.bits .or .u64 (Go.bits .and .u64 a 4503599627370495) 4503599627370496, wrap64 ((wrap64 (Go.bits .and .u64 (a / 4503599627370496) 2047)) - 1075))) else (some (((a / 9223372036854775808) == 1), Go.bits .and .u64 a 4503599627370495, (-1074)))))) := fun k => rfl
 have he : bits .and .u64 (a / 4503599627370496) 2047 = expF a := and_exp a ha
 have hlow := and_low ha0 ha1
 have hor := or_52 (m := a % 4503599627370496) (by omega) (by omega)
 have fin : manF a ≠ 0 → expF a ≠ 2047 → ∀ e, e + 52 = exF a → Ev (fun k => qAf.l0 k (strOfNums sg) (manF a) e) (strOfNums (qDu a)) := fun hm hx e hee => by
  obtain ⟨o1, o2, o3, o4⟩ := nF_out ha0 hm
  have hb := qCg ha0
  have hee2 : -1023 < exF a ∧ exF a < 1050 := by unfold exF; rw [if_neg hm]; split <;> omega
  have h0 := rl0_ev sg (by omega) 64 (manF a) e (by omega) hb.2 (by omega) (by omega) (by omega)
  rw [hee] at h0
  have ht : sg ++ [48, 120, 49] ++ ((if (nF a).1 * 16 % 18446744073709551616 = 0 then [] else 46 :: hexs 17 ((nF a).1 * 16 % 18446744073709551616)) ++ [112, sgL (nF a).2] ++ qBt (exL (abL (nF a).2))) = qDu a := by
   unfold qDu qCR
   rw [← hsg, show 48 + (nF a).1 / 1152921504606846976 = 49 by omega]
   simp only [List.append_assoc]
  rw [← ht]
  exact h0
 have key : Ev (fun k => qAf.j0 k a (strOfNums sg)) (strOfNums (qBD a)) := by
  by_cases c1 : expF a = 2047
  ·rw [if_pos c1] at hcl
   by_cases z : a * 4096 % 18446744073709551616 = 0
   rotate_left
   ·rw [if_neg z] at hcl
    have ht : qBD a = [110, 97, 110] := by
     unfold qBD
     rw [if_pos (by omega)]
    rw [ht]
    refine Ev.step hb (Ev.bind hcl ?_)
    exact Ev.congr (fun k => by rw [if_pos rfl]; rfl) (Ev.now _)
   rw [if_pos z] at hcl
   have ht : qBD a = sg ++ [105, 110, 102] := by
    unfold qBD
    rw [if_neg (by omega), if_pos (by omega), hsg]
    unfold negF
    by_cases n : 9223372036854775808 ≤ a
    ·rw [decide_eq_true n, if_neg (by omega)]; rfl
    rw [decide_eq_false n, if_pos (by omega)]; rfl
   rw [ht, qBC]
   refine Ev.step hb (Ev.bind hcl ?_)
   exact Ev.congr (fun k => by rw [if_neg (show ¬ (2 : Int) = 1 by decide), if_pos rfl, if_pos (by rw [qAX]; omega)]; rfl) (Ev.now _)
  rw [if_neg c1] at hcl
  have ht : qBD a = qDu a := by
   unfold qBD
   rw [if_neg (by omega), if_neg (by omega)]
  rw [ht]
  by_cases c2 : expF a = 0
  rotate_left
  ·rw [if_neg c2] at hcl
   have hm : manF a = a % 4503599627370496 + 4503599627370496 := by unfold manF; rw [if_neg c2]
   have hmz : manF a ≠ 0 := by omega
   have hw : wrap64 (wrap64 (expF a) - 1075) = expF a - 1075 := by rw [qB1 (x := expF a) (by omega) (by omega), qB1 (by omega) (by omega)]
   refine Ev.step hb (Ev.bind hcl ?_)
   refine Ev.congr (fun k => by rw [if_neg (show ¬ (5 : Int) = 1 by decide), if_neg (show ¬ (5 : Int) = 2 by decide), if_neg (show ¬ (5 : Int) = 3 by decide)]) (Ev.bind (a := ((a / 9223372036854775808) == 1, manF a, expF a - 1075)) (Ev.congr hp (Ev.bind hcl ?_)) ?_)
   ·exact Ev.congr (fun k => by rw [if_neg (show ¬ (5 : Int) = 1 by decide), if_neg (show ¬ (5 : Int) = 2 by decide), if_pos rfl, hlow, hor, ← hm, he, hw]) (Ev.now _)
   exact fin hmz c1 (expF a - 1075) (by unfold exF; rw [if_neg hmz, if_neg c2]; omega)
  rw [if_pos c2] at hcl
  have hm : manF a = a % 4503599627370496 := by unfold manF; rw [if_pos c2]
  by_cases z : a * 4096 % 18446744073709551616 = 0
  ·rw [if_pos z] at hcl
   have hz : manF a = 0 := by omega
   have ht2 : qDu a = sg ++ [48, 120, 48, 112, 43, 48] := by
    unfold qDu qCR
    rw [nF_zero hz, hsg]
    cases negF a <;> decide
   rw [ht2, qBC]
   refine Ev.step hb (Ev.bind hcl ?_)
   exact Ev.congr (fun k => by rw [if_neg (show ¬ (3 : Int) = 1 by decide), if_neg (show ¬ (3 : Int) = 2 by decide), if_pos rfl, if_pos (by rw [qAX]; omega)]; rfl) (Ev.now _)
  rw [if_neg z] at hcl
  have hmz : manF a ≠ 0 := by omega
  refine Ev.step hb (Ev.bind hcl ?_)
  refine Ev.congr (fun k => by rw [if_neg (show ¬ (4 : Int) = 1 by decide), if_neg (show ¬ (4 : Int) = 2 by decide), if_neg (show ¬ (4 : Int) = 3 by decide)]) (Ev.bind (a := ((a / 9223372036854775808) == 1, manF a, -1074)) (Ev.congr hp (Ev.bind hcl ?_)) ?_)
  ·exact Ev.congr (fun k => by rw [if_neg (show ¬ (4 : Int) = 1 by decide), if_neg (show ¬ (4 : Int) = 2 by decide), if_neg (show ¬ (4 : Int) = 5 by decide), hlow, ← hm]) (Ev.now _)
  exact fin hmz c1 (-1074) (by unfold exF; rw [if_neg hmz, if_pos c2]; rfl)
 refine Ev.congr (fun k => ?_) key
 unfold qAf.f
 rw [hsg]
 unfold negF
 by_cases n : 9223372036854775808 ≤ a
 ·rw [if_pos (by omega), decide_eq_true n]; rfl
 rw [if_neg (by omega), decide_eq_false n]; rfl
end Flt
end Q
end
section
namespace Q
open Go.RowKit YA YC YB
attribute [local go_sem] max2_int min2_int max_two min_two max_three min_three max_four min_four
mutual
def qAh.j0 : Nat → Int → Int → ByteArray → Option (ByteArray)
 | 0, _, _, _ => none
 | k + 1, x0, x3, x4 => if x0 < 0 then (if x4.toList = ([] : List UInt8) then ((some (([(wrap64 (48 + (wrap64 (-x3)))) % 256] : List Int) : List Int)).bind fun aE => (if 1 + (strOfNums aE).size ≤ 9223372036854775807 then (some ((⟨#[45]⟩ : ByteArray) ++ (strOfNums aE))) else (none))) else ((some (([(wrap64 (48 + (wrap64 (-x3)))) % 256] : List Int) : List Int)).bind fun aF => (if x4.size + (strOfNums aF).size ≤ 9223372036854775807 then (some (x4 ++ (strOfNums aF))) else (none)))) else ((some (([(wrap64 (48 + x3)) % 256] : List Int) : List Int)).bind fun aG => (if x4.size + (strOfNums aG).size ≤ 9223372036854775807 then (some (x4 ++ (strOfNums aG))) else (none)))
def qAh.f : Nat → Int → Option (ByteArray)
 | 0, _ => none
 | k + 1, a0 => if (wrap64 (Int.tdiv a0 10)) = 0 then (qAh.j0 k a0 (Int.tmod a0 10) (⟨#[]⟩ : ByteArray)) else ((qAh.f k (wrap64 (Int.tdiv a0 10))).bind fun aH => (qAh.j0 k a0 (Int.tmod a0 10) aH))
end
theorem qAh.calls (k : Nat) : ∀ (a0 : Int) (r : ByteArray) (w : World) (h : qAh.f k a0 = some r),
  Calls Tryz.prog 53 #[.int .i64 a0] w fun e w' => e = .returned (.string r) ∧ Below w.heap.size w w' := by
 induction k using Nat.strongRecOn with
 | _ k ih =>
 intro a0 r w h
 cases k with
 | zero => exact absurd h (by simp [qAh.f])
 | succ k =>
 simp only [qAh.f] at h
 have HB := am (Below.refl w.heap.size w)
 have H : (if (wrap64 (Int.tdiv a0 10)) = 0 then (qAh.j0 k a0 (Int.tmod a0 10) (⟨#[]⟩ : ByteArray)) else ((qAh.f k (wrap64 (Int.tdiv a0 10))).bind fun aH => (qAh.j0 k a0 (Int.tmod a0 10) aH))) = some r := h
 clear h
 have aS := am H
 clear H
 go_enter Tryz.func53, Tryz.ntmps53
 go_upto_if 9 with (fail)
 go_cut [4] (fun v4 wc => ∃ (kq : Nat) (aA : ByteArray), v4 = .string aA ∧ qAi (qAh.j0 kq a0 (Int.tmod a0 10) aA = some r) ∧ qAi (kq ≤ k) ∧ qAi (Below w.heap.size w wc))
 case first =>
  have H := aS.o
  clear aS
  by_cases c3 : (wrap64 (Int.tdiv a0 10)) = 0
  ·rw [if_pos c3] at H
   have aI : ((wrap64 (Int.tdiv a0 10)) == 0) = true := beq_iff_eq.mpr c3
   have aR : ((wrap64 (Int.tdiv a0 10)) != 0) = false := bn c3
   clear c3
   (first | rw [aI] | (simp only [qAo, i32_w]; rw [aI]) | skip)
   have H' := am H
   clear H
   go_wp2
   go_meet
   case rel => exact ⟨_, ((⟨#[]⟩ : ByteArray)), (by first | rfl | (simp; done) | (simp [*]; done)), H', ⟨by first | omega | exact Nat.le_refl _⟩, ⟨by repeat (first | (with_reducible first | exact HB.o | apply qAb | apply qAa | apply qAd) | exact HB.o)⟩⟩
  rw [if_neg c3] at H
  have aI : ((wrap64 (Int.tdiv a0 10)) == 0) = false := bf c3
  have aR : ((wrap64 (Int.tdiv a0 10)) != 0) = true := bne_iff_ne.mpr c3
  (first | rw [aI] | (simp only [qAo, i32_w]; rw [aI]) | skip)
  replace H := bm H
  obtain ⟨aH, aW, H⟩ := H
  replace H : (qAh.j0 k a0 (Int.tmod a0 10) aH) = some r := H
  have A4 := am aW
  clear aW
  have H' := am H
  clear H
  go_wp2_with (first | ((with_reducible refine qA7 (f := 53) rfl ?_); refine qBs (some 12) rfl rfl Tryz.func53 (by kernel_rfl) rfl #[.int .i64 (wrap64 (Int.tdiv a0 10))] rfl (by (try simp only [List.map_toArray, List.map_cons, List.map_nil]); first | done | rfl | (simp only [List.length_drop, List.length_take]; rfl)) ?_; (with_reducible refine (ih k (by omega) (wrap64 (Int.tdiv a0 10)) aH _ A4.o).mono ?_); rintro e w5 ⟨rfl, hb⟩; refine ⟨_, rfl, ?_⟩; have n0_ := am (qAt (by repeat (first | (with_reducible first | exact HB.o | apply qAb | apply qAa | apply qAd) | exact HB.o)) hb); clear HB; have HB := n0_; clear n0_))
  go_meet
  case rel => exact ⟨_, (aH), (by first | rfl | (simp; done) | (simp [*]; done)), H', ⟨by first | omega | exact Nat.le_refl _⟩, ⟨by repeat (first | (with_reducible first | exact HB.o | apply qAb | apply qAa | apply qAd) | exact HB.o)⟩⟩
 case rest =>
  clear aS
  obtain ⟨kq, aA, rfl, HA, ab, HB⟩ := hcut
  cases kq with
  | zero => exact absurd HA.o (by simp [qAh.j0])
  | succ ac =>
   have H := HA.o
   clear HA
   simp only [qAh.j0] at H
   by_cases c6 : a0 < 0
   rotate_left
   ·rw [if_neg c6] at H
    replace c6 := d0 c6
    obtain ⟨aG, aD⟩ : ∃ y_ : List Int, y_ = (([(wrap64 (48 + (Int.tmod a0 10))) % 256] : List Int)) := ⟨_, rfl⟩
    replace H : (if aA.size + (strOfNums aG).size ≤ 9223372036854775807 then (some (aA ++ (strOfNums aG))) else (none)) = some r := by first | (rw [aD]; with_reducible exact H) | (have H2_ := (Option.bind_some _ _).symm.trans H; rw [aD]; with_reducible exact H2_) | (have H2_ := (Option.bind_some _ _).symm.trans H; with_reducible exact H2_) | with_reducible exact H | (rw [aD]; exact H) | exact H
    have aL := am aD
    clear aD
    obtain ⟨aQ, H⟩ := gd H
    have a1 := eq_true aQ
    have a3 := d1 aQ
    try have a4 : (9223372036854775807 < aA.size + (strOfNums aG).size) = False := eq_false (Nat.not_lt.2 aQ)
    obtain rfl := Option.some.inj H
    go_wp2_with (first | ((with_reducible refine qAP (N := 23) rfl ?_); refine Kd.R_lit (Kd.int .u8) _ 5 ?hg (N := 23) ?hd (xs := ([(wrap64 (48 + (Int.tmod a0 10))) % 256] : List Int)) (inner := [.int .u8 ((wrap64 (48 + (Int.tmod a0 10))) % 256)]) (ok := fun _ => True) (okp := fun _ => True) ?hr ?hp (fun _ hk => hk) trivial (Below.refl _ _) (Nat.le_refl _) (by simp) ?_; (case hd => rfl); (case hg => rfl); (case hr => first | (go_simp; done) | (go_simp; rfl)); (case hp => exact (Reps.one (show Kd.M (Kd.int .u8) _ _ _ ((wrap64 (48 + (Int.tmod a0 10))) % 256) [.int .u8 ((wrap64 (48 + (Int.tmod a0 10))) % 256)] from rfl) (Reps.none _ _))); intro aa ae ho18 hb hg_ hnew_; clear hg_ hnew_; (first | rw [← aL.o] at ho18 | (simp only [Int.reduceToNat] at ho18; rw [← aL.o] at ho18)); have n0_ := am (Kd.R_lower ho18 (qA2 (by repeat (first | (with_reducible first | exact HB.o | apply qAb | apply qAa | apply qAd) | exact HB.o)))); have n1_ := am (qAt (by repeat (first | (with_reducible first | exact HB.o | apply qAb | apply qAa | apply qAd) | exact HB.o)) hb); clear HB; have aO := n0_; have HB := n1_; clear n0_ n1_; clear hb ho18; have hcv19 := qBl (P := Tryz.prog) Tryz.underlying53 Tryz.underlying5 Tryz.underlying9 (Kd.own_of_R aO.o)))
    go_ret
    exact ⟨by first | rfl | (simp [errW_none, errW_some] <;> rfl) | (simp [*, errW_none, errW_some] <;> rfl), by repeat (first | (with_reducible first | exact HB.o | apply qAb | apply qAa | apply qAd) | exact HB.o)⟩
   rw [if_pos c6] at H
   replace c6 := d1 c6
   by_cases c7 : aA.toList = ([] : List UInt8)
   ·rw [if_pos c7] at H
    have aU : (aA.toList == ([] : List UInt8)) = true := beq_iff_eq.mpr c7
    have aV : (aA.toList != ([] : List UInt8)) = false := bn c7
    clear c7
    obtain ⟨aE, aB⟩ : ∃ y_ : List Int, y_ = (([(wrap64 (48 + (wrap64 (-(Int.tmod a0 10))))) % 256] : List Int)) := ⟨_, rfl⟩
    replace H : (if 1 + (strOfNums aE).size ≤ 9223372036854775807 then (some ((⟨#[45]⟩ : ByteArray) ++ (strOfNums aE))) else (none)) = some r := by first | (rw [aB]; with_reducible exact H) | (have H2_ := (Option.bind_some _ _).symm.trans H; rw [aB]; with_reducible exact H2_) | (have H2_ := (Option.bind_some _ _).symm.trans H; with_reducible exact H2_) | with_reducible exact H | (rw [aB]; exact H) | exact H
    have aJ := am aB
    clear aB
    obtain ⟨c8, H⟩ := gd H
    have a5 := eq_true c8
    have a6 := d1 c8
    try have a7 : (9223372036854775807 < 1 + (strOfNums aE).size) = False := eq_false (Nat.not_lt.2 c8)
    obtain rfl := Option.some.inj H
    go_wp2_with (first | ((with_reducible refine qAP (N := 23) rfl ?_); refine Kd.R_lit (Kd.int .u8) _ 5 ?hg (N := 23) ?hd (xs := ([(wrap64 (48 + (wrap64 (-(Int.tmod a0 10))))) % 256] : List Int)) (inner := [.int .u8 ((wrap64 (48 + (wrap64 (-(Int.tmod a0 10))))) % 256)]) (ok := fun _ => True) (okp := fun _ => True) ?hr ?hp (fun _ hk => hk) trivial (Below.refl _ _) (Nat.le_refl _) (by simp) ?_; (case hd => rfl); (case hg => rfl); (case hr => first | (go_simp; done) | (go_simp; rfl)); (case hp => exact (Reps.one (show Kd.M (Kd.int .u8) _ _ _ ((wrap64 (48 + (wrap64 (-(Int.tmod a0 10))))) % 256) [.int .u8 ((wrap64 (48 + (wrap64 (-(Int.tmod a0 10))))) % 256)] from rfl) (Reps.none _ _))); intro a8 w9 ho10 hb hg_ hnew_; clear hg_ hnew_; (first | rw [← aJ.o] at ho10 | (simp only [Int.reduceToNat] at ho10; rw [← aJ.o] at ho10)); have n0_ := am (Kd.R_lower ho10 (qA2 (by repeat (first | (with_reducible first | exact HB.o | apply qAb | apply qAa | apply qAd) | exact HB.o)))); have n1_ := am (qAt (by repeat (first | (with_reducible first | exact HB.o | apply qAb | apply qAa | apply qAd) | exact HB.o)) hb); clear HB; have aM := n0_; have HB := n1_; clear n0_ n1_; clear hb ho10; have hcv11 := qBl (P := Tryz.prog) Tryz.underlying53 Tryz.underlying5 Tryz.underlying9 (Kd.own_of_R aM.o)))
    go_ret
    exact ⟨by first | rfl | (simp [errW_none, errW_some] <;> rfl) | (simp [*, errW_none, errW_some] <;> rfl), by repeat (first | (with_reducible first | exact HB.o | apply qAb | apply qAa | apply qAd) | exact HB.o)⟩
   rw [if_neg c7] at H
   have aU : (aA.toList == ([] : List UInt8)) = false := bf c7
   have aV : (aA.toList != ([] : List UInt8)) = true := bne_iff_ne.mpr c7
   obtain ⟨aF, aC⟩ : ∃ y_ : List Int, y_ = (([(wrap64 (48 + (wrap64 (-(Int.tmod a0 10))))) % 256] : List Int)) := ⟨_, rfl⟩
   replace H : (if aA.size + (strOfNums aF).size ≤ 9223372036854775807 then (some (aA ++ (strOfNums aF))) else (none)) = some r := by first | (rw [aC]; with_reducible exact H) | (have H2_ := (Option.bind_some _ _).symm.trans H; rw [aC]; with_reducible exact H2_) | (have H2_ := (Option.bind_some _ _).symm.trans H; with_reducible exact H2_) | with_reducible exact H | (rw [aC]; exact H) | exact H
   have aK := am aC
   clear aC
   obtain ⟨aP, H⟩ := gd H
   have aX := eq_true aP
   have aY := d1 aP
   try have aZ : (9223372036854775807 < aA.size + (strOfNums aF).size) = False := eq_false (Nat.not_lt.2 aP)
   obtain rfl := Option.some.inj H
   go_wp2_with (first | ((with_reducible refine qAP (N := 23) rfl ?_); refine Kd.R_lit (Kd.int .u8) _ 5 ?hg (N := 23) ?hd (xs := ([(wrap64 (48 + (wrap64 (-(Int.tmod a0 10))))) % 256] : List Int)) (inner := [.int .u8 ((wrap64 (48 + (wrap64 (-(Int.tmod a0 10))))) % 256)]) (ok := fun _ => True) (okp := fun _ => True) ?hr ?hp (fun _ hk => hk) trivial (Below.refl _ _) (Nat.le_refl _) (by simp) ?_; (case hd => rfl); (case hg => rfl); (case hr => first | (go_simp; done) | (go_simp; rfl)); (case hp => exact (Reps.one (show Kd.M (Kd.int .u8) _ _ _ ((wrap64 (48 + (wrap64 (-(Int.tmod a0 10))))) % 256) [.int .u8 ((wrap64 (48 + (wrap64 (-(Int.tmod a0 10))))) % 256)] from rfl) (Reps.none _ _))); intro a9 ad ho14 hb hg_ hnew_; clear hg_ hnew_; (first | rw [← aK.o] at ho14 | (simp only [Int.reduceToNat] at ho14; rw [← aK.o] at ho14)); have n0_ := am (Kd.R_lower ho14 (qA2 (by repeat (first | (with_reducible first | exact HB.o | apply qAb | apply qAa | apply qAd) | exact HB.o)))); have n1_ := am (qAt (by repeat (first | (with_reducible first | exact HB.o | apply qAb | apply qAa | apply qAd) | exact HB.o)) hb); clear HB; have aN := n0_; have HB := n1_; clear n0_ n1_; clear hb ho14; have hcv15 := qBl (P := Tryz.prog) Tryz.underlying53 Tryz.underlying5 Tryz.underlying9 (Kd.own_of_R aN.o)))
   go_ret
   exact ⟨by first | rfl | (simp [errW_none, errW_some] <;> rfl) | (simp [*, errW_none, errW_some] <;> rfl), by repeat (first | (with_reducible first | exact HB.o | apply qAb | apply qAa | apply qAd) | exact HB.o)⟩
def qBa.f (k : Nat) (a0_0 : Int) (a0_1 : Int) : Option (ByteArray) := if a0_0 = 1 then ((qAh.f k (wrap64 (a0_1))).bind fun aE => (some aE)) else (if a0_0 = 2 then ((qAf.f k a0_1).bind fun aF => (some aF)) else (if a0_0 = 3 then (if a0_1 = 0 then (some (⟨#[102, 97, 108, 115, 101]⟩ : ByteArray)) else (some (⟨#[116, 114, 117, 101]⟩ : ByteArray))) else (some (⟨#[]⟩ : ByteArray))))
theorem qBa.calls (k : Nat) (a0_0 : Int) (a0_1 : Int) (r : ByteArray) (w : World) (h : qBa.f k a0_0 a0_1 = some r) :
  Calls Tryz.prog 52 #[.agg #[.int .i64 a0_0, .int .u64 a0_1]] w fun e w' => e = .returned (.string r) ∧ Below w.heap.size w w' := by
 have hu48 := Tryz.underlying48
 have HB := am (Below.refl w.heap.size w)
 have H : (if a0_0 = 1 then ((qAh.f k (wrap64 (a0_1))).bind fun aE => (some aE)) else (if a0_0 = 2 then ((qAf.f k a0_1).bind fun aF => (some aF)) else (if a0_0 = 3 then (if a0_1 = 0 then (some (⟨#[102, 97, 108, 115, 101]⟩ : ByteArray)) else (some (⟨#[116, 114, 117, 101]⟩ : ByteArray))) else (some (⟨#[]⟩ : ByteArray))))) = some r := h
 clear h
 by_cases c2 : a0_0 = 1
 ·rw [if_pos c2] at H
  have a5 : (a0_0 == 1) = true := beq_iff_eq.mpr c2
  have a6 : (a0_0 != 1) = false := bn c2
  clear c2
  replace H := bm H
  obtain ⟨aE, ad, H⟩ := H
  replace H : (some aE) = some r := H
  have A3 := am ad
  clear ad
  obtain rfl := Option.some.inj H
  go_enter Tryz.func52, Tryz.ntmps52
  go_wp2_with (first | ((with_reducible refine qAP (N := 1) rfl ?_); refine qBo ?hg (N := 1) ?hd (cs := #[.int .i64 a0_0, .int .u64 a0_1]) (t := 48) ?hr ?_; (case hd => rfl); (case hg => rfl); (case hr => first | (go_simp; done) | (go_simp; rfl)); intro aB hg w4 hbox hb; have n0_ := am (qAt (by repeat (first | (with_reducible first | exact HB.o | apply qAb | apply qAa | apply qAd) | exact HB.o)) hb); have n1_ := am (hbox); have n2_ := am ((by rw [hg]; exact (qA2 (by repeat (first | (with_reducible first | exact HB.o | apply qAb | apply qAa | apply qAd) | exact HB.o))) : w.heap.size ≤ aB)); have n3_ := am ((by rw [hg]; exact (qA2 (by repeat (first | (with_reducible first | exact HB.o | apply qAb | apply qAa | apply qAd) | exact HB.o))) : w.heap.size ≤ aB)); clear HB; have HB := n0_; have aA := n1_; have aD := n2_; have aC := n3_; clear n0_ n1_ n2_ n3_; clear hb hbox hg; obtain ⟨a9, aa⟩ := c2_ w4 aA.o; obtain ⟨ab, ac⟩ := z2_ aA.o) | ((with_reducible refine qA7 (f := 53) rfl ?_); refine qBs (some 10) rfl rfl Tryz.func53 (by kernel_rfl) rfl #[.int .i64 (wrap64 (a0_1))] rfl (by (try simp only [List.map_toArray, List.map_cons, List.map_nil]); first | done | rfl | (simp only [List.length_drop, List.length_take]; rfl)) ?_; (with_reducible refine (qAh.calls k (wrap64 (a0_1)) aE _ A3.o).mono ?_); rintro e w6 ⟨rfl, hb⟩; refine ⟨_, rfl, ?_⟩; have n0_ := am (qAs (g := aB) (o := .cells #[.int .i64 a0_0, .int .u64 a0_1] 48 (0, 0)) (by (with_reducible repeat (first | refine qBv ?_ _ | refine qB4 ?_ | refine blk_alloc ?_ _)); exact aA.o) hb); have n1_ := am (qAt (by repeat (first | (with_reducible first | exact HB.o | apply qAb | apply qAa | apply qAd | refine qA8 ?_ aC.o) | exact HB.o)) hb); clear aA; clear HB; have aA := n0_; have HB := n1_; clear n0_ n1_))
  go_ret
  exact ⟨by first | rfl | (simp [errW_none, errW_some] <;> rfl) | (simp [*, errW_none, errW_some] <;> rfl), by repeat (first | (with_reducible first | exact HB.o | apply qAb | apply qAa | apply qAd | refine qA8 ?_ aC.o) | exact HB.o)⟩
 ·rw [if_neg c2] at H
  have a5 : (a0_0 == 1) = false := bf c2
  have a6 : (a0_0 != 1) = true := bne_iff_ne.mpr c2
  by_cases c7 : a0_0 = 2
  ·rw [if_pos c7] at H
   have a7 : (a0_0 == 2) = true := beq_iff_eq.mpr c7
   have a8 : (a0_0 != 2) = false := bn c7
   clear c7
   replace H := bm H
   obtain ⟨aF, ae, H⟩ := H
   replace H : (some aF) = some r := H
   have A8 := am ae
   clear ae
   obtain rfl := Option.some.inj H
   go_enter Tryz.func52, Tryz.ntmps52
   go_wp2_with (first | ((with_reducible refine qAP (N := 1) rfl ?_); refine qBo ?hg (N := 1) ?hd (cs := #[.int .i64 a0_0, .int .u64 a0_1]) (t := 48) ?hr ?_; (case hd => rfl); (case hg => rfl); (case hr => first | (go_simp; done) | (go_simp; rfl)); intro aB hg w9 hbox hb; have n0_ := am (qAt (by repeat (first | (with_reducible first | exact HB.o | apply qAb | apply qAa | apply qAd) | exact HB.o)) hb); have n1_ := am (hbox); have n2_ := am ((by rw [hg]; exact (qA2 (by repeat (first | (with_reducible first | exact HB.o | apply qAb | apply qAa | apply qAd) | exact HB.o))) : w.heap.size ≤ aB)); have n3_ := am ((by rw [hg]; exact (qA2 (by repeat (first | (with_reducible first | exact HB.o | apply qAb | apply qAa | apply qAd) | exact HB.o))) : w.heap.size ≤ aB)); clear HB; have HB := n0_; have aA := n1_; have aD := n2_; have aC := n3_; clear n0_ n1_ n2_ n3_; clear hb hbox hg; obtain ⟨aM, aN⟩ := c2_ w9 aA.o; obtain ⟨aU, aV⟩ := z2_ aA.o) | ((with_reducible refine qA7 (f := 79) rfl ?_); refine qBs (some 15) rfl rfl Tryz.func79 (by kernel_rfl) rfl #[.int .u64 a0_1] rfl (by (try simp only [List.map_toArray, List.map_cons, List.map_nil]); first | done | rfl | (simp only [List.length_drop, List.length_take]; rfl)) ?_; (with_reducible refine (qAf.calls k a0_1 aF _ A8.o).mono ?_); rintro e ai ⟨rfl, hb⟩; refine ⟨_, rfl, ?_⟩; have n0_ := am (qAs (g := aB) (o := .cells #[.int .i64 a0_0, .int .u64 a0_1] 48 (0, 0)) (by (with_reducible repeat (first | refine qBv ?_ _ | refine qB4 ?_ | refine blk_alloc ?_ _)); exact aA.o) hb); have n1_ := am (qAt (by repeat (first | (with_reducible first | exact HB.o | apply qAb | apply qAa | apply qAd | refine qA8 ?_ aC.o) | exact HB.o)) hb); clear aA; clear HB; have aA := n0_; have HB := n1_; clear n0_ n1_))
   go_ret
   exact ⟨by first | rfl | (simp [errW_none, errW_some] <;> rfl) | (simp [*, errW_none, errW_some] <;> rfl), by repeat (first | (with_reducible first | exact HB.o | apply qAb | apply qAa | apply qAd | refine qA8 ?_ aC.o) | exact HB.o)⟩
  ·rw [if_neg c7] at H
   have a7 : (a0_0 == 2) = false := bf c7
   have a8 : (a0_0 != 2) = true := bne_iff_ne.mpr c7
   by_cases aG : a0_0 = 3
   ·rw [if_pos aG] at H
    have aI : (a0_0 == 3) = true := beq_iff_eq.mpr aG
    have aJ : (a0_0 != 3) = false := bn aG
    clear aG
    by_cases aH : a0_1 = 0
    ·rw [if_pos aH] at H
     have aK : (a0_1 == 0) = true := beq_iff_eq.mpr aH
     have aL : (a0_1 != 0) = false := bn aH
     clear aH
     obtain rfl := Option.some.inj H
     go_enter Tryz.func52, Tryz.ntmps52
     go_wp2_with (first | ((with_reducible refine qAP (N := 1) rfl ?_); refine qBo ?hg (N := 1) ?hd (cs := #[.int .i64 a0_0, .int .u64 a0_1]) (t := 48) ?hr ?_; (case hd => rfl); (case hg => rfl); (case hr => first | (go_simp; done) | (go_simp; rfl)); intro aB hg af hbox hb; have n0_ := am (qAt (by repeat (first | (with_reducible first | exact HB.o | apply qAb | apply qAa | apply qAd) | exact HB.o)) hb); have n1_ := am (hbox); have n2_ := am ((by rw [hg]; exact (qA2 (by repeat (first | (with_reducible first | exact HB.o | apply qAb | apply qAa | apply qAd) | exact HB.o))) : w.heap.size ≤ aB)); have n3_ := am ((by rw [hg]; exact (qA2 (by repeat (first | (with_reducible first | exact HB.o | apply qAb | apply qAa | apply qAd) | exact HB.o))) : w.heap.size ≤ aB)); clear HB; have HB := n0_; have aA := n1_; have aD := n2_; have aC := n3_; clear n0_ n1_ n2_ n3_; clear hb hbox hg; obtain ⟨aO, aP⟩ := c2_ af aA.o; obtain ⟨aW, aX⟩ := z2_ aA.o))
     go_ret
     exact ⟨by first | rfl | (simp [errW_none, errW_some] <;> rfl) | (simp [*, errW_none, errW_some] <;> rfl), by repeat (first | (with_reducible first | exact HB.o | apply qAb | apply qAa | apply qAd | refine qA8 ?_ aC.o) | exact HB.o)⟩
    ·rw [if_neg aH] at H
     have aK : (a0_1 == 0) = false := bf aH
     have aL : (a0_1 != 0) = true := bne_iff_ne.mpr aH
     obtain rfl := Option.some.inj H
     go_enter Tryz.func52, Tryz.ntmps52
     go_wp2_with (first | ((with_reducible refine qAP (N := 1) rfl ?_); refine qBo ?hg (N := 1) ?hd (cs := #[.int .i64 a0_0, .int .u64 a0_1]) (t := 48) ?hr ?_; (case hd => rfl); (case hg => rfl); (case hr => first | (go_simp; done) | (go_simp; rfl)); intro aB hg ag hbox hb; have n0_ := am (qAt (by repeat (first | (with_reducible first | exact HB.o | apply qAb | apply qAa | apply qAd) | exact HB.o)) hb); have n1_ := am (hbox); have n2_ := am ((by rw [hg]; exact (qA2 (by repeat (first | (with_reducible first | exact HB.o | apply qAb | apply qAa | apply qAd) | exact HB.o))) : w.heap.size ≤ aB)); have n3_ := am ((by rw [hg]; exact (qA2 (by repeat (first | (with_reducible first | exact HB.o | apply qAb | apply qAa | apply qAd) | exact HB.o))) : w.heap.size ≤ aB)); clear HB; have HB := n0_; have aA := n1_; have aD := n2_; have aC := n3_; clear n0_ n1_ n2_ n3_; clear hb hbox hg; obtain ⟨aQ, aR⟩ := c2_ ag aA.o; obtain ⟨aY, aZ⟩ := z2_ aA.o))
     go_ret
     exact ⟨by first | rfl | (simp [errW_none, errW_some] <;> rfl) | (simp [*, errW_none, errW_some] <;> rfl), by repeat (first | (with_reducible first | exact HB.o | apply qAb | apply qAa | apply qAd | refine qA8 ?_ aC.o) | exact HB.o)⟩
   ·rw [if_neg aG] at H
    have aI : (a0_0 == 3) = false := bf aG
    have aJ : (a0_0 != 3) = true := bne_iff_ne.mpr aG
    obtain rfl := Option.some.inj H
    go_enter Tryz.func52, Tryz.ntmps52
    go_wp2_with (first | ((with_reducible refine qAP (N := 1) rfl ?_); refine qBo ?hg (N := 1) ?hd (cs := #[.int .i64 a0_0, .int .u64 a0_1]) (t := 48) ?hr ?_; (case hd => rfl); (case hg => rfl); (case hr => first | (go_simp; done) | (go_simp; rfl)); intro aB hg ah hbox hb; have n0_ := am (qAt (by repeat (first | (with_reducible first | exact HB.o | apply qAb | apply qAa | apply qAd) | exact HB.o)) hb); have n1_ := am (hbox); have n2_ := am ((by rw [hg]; exact (qA2 (by repeat (first | (with_reducible first | exact HB.o | apply qAb | apply qAa | apply qAd) | exact HB.o))) : w.heap.size ≤ aB)); have n3_ := am ((by rw [hg]; exact (qA2 (by repeat (first | (with_reducible first | exact HB.o | apply qAb | apply qAa | apply qAd) | exact HB.o))) : w.heap.size ≤ aB)); clear HB; have HB := n0_; have aA := n1_; have aD := n2_; have aC := n3_; clear n0_ n1_ n2_ n3_; clear hb hbox hg; obtain ⟨aS, aT⟩ := c2_ ah aA.o; obtain ⟨a3, a4⟩ := z2_ aA.o))
    go_ret
    exact ⟨by first | rfl | (simp [errW_none, errW_some] <;> rfl) | (simp [*, errW_none, errW_some] <;> rfl), by repeat (first | (with_reducible first | exact HB.o | apply qAb | apply qAa | apply qAd | refine qA8 ?_ aC.o) | exact HB.o)⟩
def qAH.f (a0 : Bool) : Option (ByteArray) := if a0 = true then (some (⟨#[116, 114, 117, 101]⟩ : ByteArray)) else (some (⟨#[102, 97, 108, 115, 101]⟩ : ByteArray))
theorem qAH.calls (a0 : Bool) (r : ByteArray) (w : World) (h : qAH.f a0 = some r) :
  Calls Tryz.prog 106 #[.bool a0] w fun e w' => e = .returned (.string r) ∧ qAy w w' := by
 have H : (if a0 = true then (some (⟨#[116, 114, 117, 101]⟩ : ByteArray)) else (some (⟨#[102, 97, 108, 115, 101]⟩ : ByteArray))) = some r := h
 clear h
 by_cases c2 : a0 = true
 ·subst c2
  replace H : (some (⟨#[116, 114, 117, 101]⟩ : ByteArray)) = some r := by rw [if_pos rfl] at H; exact H
  obtain rfl := Option.some.inj H
  go_enter Tryz.func106, Tryz.ntmps106
  go_wp2
  go_ret
  exact ⟨by first | rfl | (simp; done) | (simp [*]; done), by repeat (first | exact qAy.refl _ | apply qAy.step)⟩
 ·replace c2 := Bool.eq_false_iff.mpr c2
  subst c2
  replace H : (some (⟨#[102, 97, 108, 115, 101]⟩ : ByteArray)) = some r := by rw [if_neg (show ¬ (false = true) by decide)] at H; exact H
  obtain rfl := Option.some.inj H
  go_enter Tryz.func106, Tryz.ntmps106
  go_wp2
  go_ret
  exact ⟨by first | rfl | (simp; done) | (simp [*]; done), by repeat (first | exact qAy.refl _ | apply qAy.step)⟩
def qAY.f (a0 : Bool) : Option (ByteArray) := (qAH.f a0).bind fun aA => (some aA)
theorem qAY.calls (a0 : Bool) (r : ByteArray) (w : World) (h : qAY.f a0 = some r) :
  Calls Tryz.prog 74 #[.bool a0] w fun e w' => e = .returned (.string r) ∧ qAy w w' := by
 have H : ((qAH.f a0).bind fun aA => (some aA)) = some r := h
 clear h
 replace H := bm H
 obtain ⟨aA, aB, H⟩ := H
 replace H : (some aA) = some r := H
 have A2 := am aB
 clear aB
 obtain rfl := Option.some.inj H
 go_enter Tryz.func74, Tryz.ntmps74
 go_wp2_with (first | ((with_reducible refine qA7 (f := 106) rfl ?_); refine qBs (some 4) rfl rfl Tryz.func106 (by kernel_rfl) rfl #[.bool a0] rfl (by (try simp only [List.map_toArray, List.map_cons, List.map_nil]); first | done | rfl | (simp only [List.length_drop, List.length_take]; rfl)) ?_; (with_reducible refine (qAH.calls a0 aA _ A2.o).mono ?_); rintro e w' ⟨rfl, ⟨nd, rfl⟩⟩; refine ⟨_, rfl, ?_⟩))
 go_ret
 exact ⟨by first | rfl | (simp; done) | (simp [*]; done), by repeat (first | exact qAy.refl _ | apply qAy.step)⟩
end Q
end
section
namespace Q
open Go.RowKit YA YC YB
open Val
namespace Flt
structure Tb (w : World) : Prop where
 ten : Lib.TabIs Tryz.prog w "internal/strconv.uint64pow10" .u64 Lib.pow10Tab
 sp : Lib.TabIs Tryz.prog w "strings.asciiSpace" .u8 Lib.asciiSpaceTab
theorem Tb.below {w w' : World} (h : Tb w) (hb : Below w.heap.size w w') : Tb w' :=
 ⟨Joins.tab_stays (show Tryz.prog.globalNamed "internal/strconv.uint64pow10" = some 3 by kernel_rfl) h.ten hb (Nat.le_refl _), Joins.tab_stays (show Tryz.prog.globalNamed "strings.asciiSpace" = some 0 by kernel_rfl) h.sp hb (Nat.le_refl _)⟩
def itoB (n : Int) : ByteArray := ⟨(Lib.itoa n).toArray⟩
theorem decimal_any (n : Int) (h0 : -9223372036854775808 ≤ n) (h1 : n ≤ 9223372036854775807) (w : World) (hT : Tb w) : Calls Tryz.prog 72 #[.int .i64 n] w fun e w' => e = .returned (.string (itoB n)) ∧ Below w.heap.size w w' := by
 have hF := am (Tryz.strconv_FormatInt_10 n h0 h1 w hT.ten)
 clear h0 h1 hT
 go_enter Tryz.func72, Tryz.ntmps72
 go_wp2_with (go_at_call 102; refine hF.out.mono ?_; rintro e w1 ⟨rfl, k, os, rfl⟩)
 go_ret
 exact ⟨rfl, Lib.below_grow _ _ (Nat.le_refl _) _ _⟩
def qCp (t b : Int) : ByteArray :=
 if t = 1 then itoB (wrap64 b) else if t = 2 then strOfNums (qBD b) else if t = 3 then (if b = 0 then ⟨#[102, 97, 108, 115, 101]⟩ else ⟨#[116, 114, 117, 101]⟩) else ⟨#[]⟩
theorem show_any (t b : Int) (hu : U64 b) (w : World) (hT : Tb w) : Calls Tryz.prog 47 #[.agg #[.int .i64 t, .int .u64 b]] w fun e w' => e = .returned (.string (qCp t b)) ∧ Below w.heap.size w w' := by
 have hw : -9223372036854775808 ≤ wrap64 b ∧ wrap64 b ≤ 9223372036854775807 := by unfold wrap64; omega
 have hD := am (fun W (hT : Tb W) => decimal_any (wrap64 b) hw.1 hw.2 W hT)
 have hF := am (fun W => text_any b hu W)
 rw [textL_canon hu] at hF
 have HT := am (fun o => hT.below ((Below.refl w.heap.size w).alloc (Nat.le_refl _) o))
 clear hu hT hw
 by_cases t1 : t = 1
 ·subst t1
  rw [show qCp 1 b = itoB (wrap64 b) from rfl]
  obtain ⟨x, hx⟩ : ∃ x, x = wrap64 b := ⟨_, rfl⟩
  rw [← hx] at hD ⊢
  have hxw : IntKind.i64.wrap b = x := by rw [hx]; exact qAo b
  clear hx
  go_enter Tryz.func47, Tryz.ntmps47
  go_wp2_with (go_at_call 72; refine (hD.out _ (HT.out _)).mono ?_; rintro e w1 ⟨rfl, hb⟩)
  go_ret
  exact ⟨rfl, ((Below.refl _ _).alloc (Nat.le_refl _) _).trans (hb.mono (by simp))⟩
 by_cases t2 : t = 2
 ·subst t2
  rw [show qCp 2 b = strOfNums (qBD b) from rfl]
  go_enter Tryz.func47, Tryz.ntmps47
  go_wp2_with (go_at_call 73; refine (hF.out _).mono ?_; rintro e w1 ⟨rfl, hb⟩)
  go_ret
  exact ⟨rfl, ((Below.refl _ _).alloc (Nat.le_refl _) _).trans (hb.mono (by simp))⟩
 by_cases t3 : t = 3
 rotate_left
 ·rw [show qCp t b = ⟨#[]⟩ from by unfold qCp; rw [if_neg t1, if_neg t2, if_neg t3]]
  have b1 : (t == 1) = false := beq_eq_false_iff_ne.mpr t1
  have b2 : (t == 2) = false := beq_eq_false_iff_ne.mpr t2
  have b3 : (t == 3) = false := beq_eq_false_iff_ne.mpr t3
  clear t1 t2 t3
  go_enter Tryz.func47, Tryz.ntmps47
  go_wp2
  go_ret
  exact ⟨rfl, (Below.refl _ _).alloc (Nat.le_refl _) _⟩
 subst t3
 by_cases z : b = 0
 ·subst z
  rw [show qCp 3 0 = ⟨#[102, 97, 108, 115, 101]⟩ from rfl]
  go_enter Tryz.func47, Tryz.ntmps47
  go_wp2_with (go_at_call 74; refine (qAY.calls false _ _ rfl).mono ?_; rintro e w1 ⟨rfl, ⟨nd, rfl⟩⟩)
  go_ret
  exact ⟨rfl, qAa ((Below.refl _ _).alloc (Nat.le_refl _) _) _⟩
 have zb : (b != 0) = true := bne_iff_ne.mpr z
 rw [show qCp 3 b = ⟨#[116, 114, 117, 101]⟩ from by unfold qCp; rw [if_neg (by decide), if_neg (by decide), if_pos rfl, if_neg z]]
 clear z
 go_enter Tryz.func47, Tryz.ntmps47
 go_wp2_with (go_at_call 74; refine (qAY.calls true _ _ rfl).mono ?_; rintro e w1 ⟨rfl, ⟨nd, rfl⟩⟩)
 go_ret
 exact ⟨rfl, qAa ((Below.refl _ _).alloc (Nat.le_refl _) _) _⟩
end Flt
end Q
end
end Go.Proofs.YtfddibbignedkaaGreatDoor
