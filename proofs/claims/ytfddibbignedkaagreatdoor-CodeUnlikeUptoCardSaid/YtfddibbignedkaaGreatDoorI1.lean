/- CodeInstructions, where what it reads is of bulk at most 1048576: any instruction: the program tells of it what the document tells: whether it is right, its size, its text. -/
import Derived.Test.YtfddibbignedkaaGreatDoorT1
import Derived.Test.YtfddibbignedkaaGreatDoorRows
import Derived.Lib.LaidTab
import Derived.Test.YtfddibbignedkaaGreatDoorCards
import Derived.Test.YtfddibbignedkaaGreatDoorTie
import Derived.WalkKit
import Derived.ProofKit
import Derived.OpenShut
import Derived.ShutString
import Derived.Below
import Derived.LaidMore
import Derived.Lay
import Derived.SevenTiedAt
import Derived.Stop.Joined
import Derived.MakeChecks
import Derived.JoinedCond
import Derived.Deep.DeepHandedRow
set_option maxHeartbeats 8000000
set_option maxRecDepth 100000
set_option linter.unusedVariables false
set_option linter.unusedSimpArgs false
namespace Go.Proofs.YtfddibbignedkaaGreatDoor
section
namespace Q
open Go.RowKit
namespace Flt
theorem qCf {P : Program} {w : World} {x : String × DataW Unit} {rest : List (String × DataW Unit)} {ps : List MemPlace} (h : DataW.LaidVars P w (x :: rest) ps) : ∃ q, DataW.LaidVars P w rest q := by
 obtain ⟨g', t', cs, fuel, p, q, _, _, _, _, h, _⟩ := h
 exact ⟨q, h⟩
theorem tab_vars {P : Program} {W : World} {name : String} {k : IntKind} {zs : List Int} {rest : List (String × DataW Unit)} {g : Nat} {t e : TypeId} {n : Nat} {ps : List MemPlace}
  (hg : P.globalNamed name = some g) (hty : (P.globals[g]?).map (·.type) = some t) (ht : P.underlying t = some (.array n e)) (he : P.underlying e = some (.int k)) (hce : P.cellsOf e = 1) (hct : P.cellsOf t = n)
  (h : DataW.LaidVars P W ((name, Lib.tabData k zs) :: rest) ps) : Lib.TabIs P W name k zs := by
 obtain ⟨g', t', cs, fuel, p, q, hg', ht', hvar, hd, _, _⟩ := h
 obtain rfl := Option.some.inj (hg.symm.trans hg')
 obtain rfl := Option.some.inj (hty.symm.trans ht')
 unfold Lib.TabIs
 rw [hvar, ← Lib.cells_of_tab ht he hce hct hd]
theorem tb_of {W : World} {x0 x1 x2 x4 : String × DataW Unit} {rest : List (String × DataW Unit)} (h : laidMet Tryz.prog (x0 :: x1 :: x2 :: ("internal/strconv.uint64pow10", Lib.tabData .u64 Lib.pow10Tab) :: x4 :: ("strings.asciiSpace", Lib.tabData .u8 Lib.asciiSpaceTab) :: rest) W) : Tb W := by
 obtain ⟨ps, h, _⟩ := h
 obtain ⟨_, h⟩ := qCf h
 obtain ⟨_, h⟩ := qCf h
 obtain ⟨_, h⟩ := qCf h
 have h3 := h
 obtain ⟨_, h⟩ := qCf h
 obtain ⟨_, h⟩ := qCf h
 exact ⟨tab_vars (g := 3) (t := 223) (e := 46) (n := 20) (by kernel_rfl) (by kernel_rfl) (by kernel_rfl) (by kernel_rfl) (by kernel_rfl) (by kernel_rfl) h3, tab_vars (g := 0) (t := 148) (e := 5) (n := 256) (by kernel_rfl) (by kernel_rfl) (by kernel_rfl) (by kernel_rfl) (by kernel_rfl) (by kernel_rfl) h⟩
end Flt
end Q
end
section
namespace Q
open Go.RowKit YA YB YC
def qAJ.f (a0_0 : Int) (a0_1 : Int) (a0_2 : Int) (a0_3 : Int) : Option (Bool) := if 0 ≤ a0_3 ∧ a0_3 < 18446744073709551616 then some (Ins.okI a0_0 a0_1 a0_2 a0_3) else none
theorem qAJ.calls (a0_0 : Int) (a0_1 : Int) (a0_2 : Int) (a0_3 : Int) (r : Bool) (w : World) (h : qAJ.f a0_0 a0_1 a0_2 a0_3 = some r) :
  Calls Tryz.prog 23 #[.agg #[.int .i64 a0_0, .int .i64 a0_1, .int .i64 a0_2, .int .u64 a0_3]] w fun e w' => e = .returned (.bool r) ∧ Below w.heap.size w w' := by
 unfold qAJ.f at h
 split at h
 case isFalse => cases h
 rename_i hs
 obtain rfl := Option.some.inj h
 exact RIns.rright_ins a0_0 a0_1 a0_2 a0_3 hs w
def qAF.f (a0_0 : Int) (_a0_1 : Int) (_a0_2 : Int) (_a0_3 : Int) : Option (Int) := some (Ins.sizeI a0_0)
theorem qAF.calls (a0_0 : Int) (a0_1 : Int) (a0_2 : Int) (a0_3 : Int) (r : Int) (w : World) (h : qAF.f a0_0 a0_1 a0_2 a0_3 = some r) :
  Calls Tryz.prog 25 #[.agg #[.int .i64 a0_0, .int .i64 a0_1, .int .i64 a0_2, .int .u64 a0_3]] w fun e w' => e = .returned (.int .i64 r) ∧ Below w.heap.size w w' := by
 unfold qAF.f at h
 obtain rfl := Option.some.inj h
 exact RIns.rsize_ins a0_0 a0_1 a0_2 a0_3 w
end Q
end
section
namespace Q
open Go.RowKit YA YB YC
attribute [local go_sem] max2_int min2_int max_two min_two max_three min_three max_four min_four
def foundrylaw14_CodeInstructions.f (a0_0 : Int) (a0_1 : Int) (a0_2 : Int) (a0_3 : Int) : Option (Bool) := (qAA.f a0_0 a0_1 a0_2 a0_3).bind fun aM => ((qAJ.f a0_0 a0_1 a0_2 a0_3).bind fun aK => (if (aM == aK) = true then ((qBw.f a0_0 a0_1 a0_2 a0_3).bind fun aL => ((qAF.f a0_0 a0_1 a0_2 a0_3).bind fun aJ => (if aL = aJ then ((qAu.f a0_0 a0_1 a0_2 a0_3).bind fun aG => ((qA9.f a0_0 a0_1 a0_2 a0_3).bind fun aE => (if aG.toList = aE.toList then ((qAx.f).bind fun aI => (some aI)) else (none)))) else (none)))) else (none)))
def foundrylaw14_CodeInstructions.T2 : Bool × List (List Nat × List Nat) := (true, [([], []), ([0], [0]), ([], []), ([2, 1], [2]), ([1, 3], [1, 3]), ([4, 3], [4]), ([5], [5]), ([6, 5, 5], [5, 6]), ([5], [5]), ([8, 7, 5], [5, 8]), ([7, 9, 5], [5, 7, 9]), ([5, 10], [5, 10]), ([11, 9], [11]), ([12], [12]), ([13, 12, 12], [12, 13]), ([12], [12]), ([15, 14, 12], [12, 15]), ([14, 16, 12], [12, 14, 16]), ([12, 17], [12, 17]), ([18, 16], [18]), ([19, 19], [19]), ([19, 20], [19, 20]), ([21, 20, 0, 1, 2, 3, 4, 5, 6, 7, 8, 9, 10, 11, 12, 13, 14, 15, 16, 17, 18, 19, 20, 21], [21])])
def foundrylaw14_CodeInstructions.B2 : List Nat := [0, 1, 0, 7, 15, 31, 63, 127, 63, 511, 1023, 2047, 4095, 8191, 16383, 8191, 65535, 131071, 262143, 524287, 1048575, 2097151, 4194303]
theorem foundrylaw14_CodeInstructions.tab2 : rtab .any (opsOf Tryz.f5 2) = foundrylaw14_CodeInstructions.T2 := by kernel_rfl
theorem foundrylaw14_CodeInstructions.bits2 : qCq foundrylaw14_CodeInstructions.T2.2 foundrylaw14_CodeInstructions.B2 = true := by kernel_rfl
theorem foundrylaw14_CodeInstructions.calls (a0_0 : Int) (a0_1 : Int) (a0_2 : Int) (a0_3 : Int) (r : Bool) (w : World) (h : foundrylaw14_CodeInstructions.f a0_0 a0_1 a0_2 a0_3 = some r) (hTb : Flt.Tb w) :
  Calls Tryz.prog 5 #[.agg #[.int .i64 a0_0, .int .i64 a0_1, .int .i64 a0_2, .int .u64 a0_3]] w fun e w' => e = .returned (.bool r) ∧ Below w.heap.size w w' := by
 have HTB_ := am hTb
 clear hTb
 have hu50 := Tryz.underlying50
 have hu48 := Tryz.underlying48
 have hu51 := Tryz.underlying51
 have HB := am (Below.refl w.heap.size w)
 have H : ((qAA.f a0_0 a0_1 a0_2 a0_3).bind fun aM => ((qAJ.f a0_0 a0_1 a0_2 a0_3).bind fun aK => (if (aM == aK) = true then ((qBw.f a0_0 a0_1 a0_2 a0_3).bind fun aL => ((qAF.f a0_0 a0_1 a0_2 a0_3).bind fun aJ => (if aL = aJ then ((qAu.f a0_0 a0_1 a0_2 a0_3).bind fun aG => ((qA9.f a0_0 a0_1 a0_2 a0_3).bind fun aE => (if aG.toList = aE.toList then ((qAx.f).bind fun aI => (some aI)) else (none)))) else (none)))) else (none)))) = some r := h
 clear h
 replace H := bm H
 obtain ⟨aM, af, H⟩ := H
 replace H : ((qAJ.f a0_0 a0_1 a0_2 a0_3).bind fun aK => (if (aM == aK) = true then ((qBw.f a0_0 a0_1 a0_2 a0_3).bind fun aL => ((qAF.f a0_0 a0_1 a0_2 a0_3).bind fun aJ => (if aL = aJ then ((qAu.f a0_0 a0_1 a0_2 a0_3).bind fun aG => ((qA9.f a0_0 a0_1 a0_2 a0_3).bind fun aE => (if aG.toList = aE.toList then ((qAx.f).bind fun aI => (some aI)) else (none)))) else (none)))) else (none))) = some r := H
 have A2 := am af
 clear af
 replace H := bm H
 obtain ⟨aK, ag, H⟩ := H
 replace H : (if (aM == aK) = true then ((qBw.f a0_0 a0_1 a0_2 a0_3).bind fun aL => ((qAF.f a0_0 a0_1 a0_2 a0_3).bind fun aJ => (if aL = aJ then ((qAu.f a0_0 a0_1 a0_2 a0_3).bind fun aG => ((qA9.f a0_0 a0_1 a0_2 a0_3).bind fun aE => (if aG.toList = aE.toList then ((qAx.f).bind fun aI => (some aI)) else (none)))) else (none)))) else (none)) = some r := H
 have A3 := am ag
 clear ag
 by_cases c4 : (aM == aK) = true
 ·rw [if_pos c4] at H
  have aa : (aM == aK) = true := c4
  (try (have ab : decide (aM = aK) = true := by simpa using c4))
  (try (have ac : (aM == aK) = true := by simpa using c4))
  clear c4
  replace H := bm H
  obtain ⟨aL, ah, H⟩ := H
  replace H : ((qAF.f a0_0 a0_1 a0_2 a0_3).bind fun aJ => (if aL = aJ then ((qAu.f a0_0 a0_1 a0_2 a0_3).bind fun aG => ((qA9.f a0_0 a0_1 a0_2 a0_3).bind fun aE => (if aG.toList = aE.toList then ((qAx.f).bind fun aI => (some aI)) else (none)))) else (none))) = some r := H
  have A5 := am ah
  clear ah
  replace H := bm H
  obtain ⟨aJ, ai, H⟩ := H
  replace H : (if aL = aJ then ((qAu.f a0_0 a0_1 a0_2 a0_3).bind fun aG => ((qA9.f a0_0 a0_1 a0_2 a0_3).bind fun aE => (if aG.toList = aE.toList then ((qAx.f).bind fun aI => (some aI)) else (none)))) else (none)) = some r := H
  have A6 := am ai
  clear ai
  by_cases c7 : aL = aJ
  ·rw [if_pos c7] at H
   have ad : (aL == aJ) = true := beq_iff_eq.mpr c7
   have ae : (aL != aJ) = false := bn c7
   clear c7
   replace H := bm H
   obtain ⟨aG, aj, H⟩ := H
   replace H : ((qA9.f a0_0 a0_1 a0_2 a0_3).bind fun aE => (if aG.toList = aE.toList then ((qAx.f).bind fun aI => (some aI)) else (none))) = some r := H
   have A8 := am aj
   clear aj
   replace H := bm H
   obtain ⟨aE, ak, H⟩ := H
   replace H : (if aG.toList = aE.toList then ((qAx.f).bind fun aI => (some aI)) else (none)) = some r := H
   have A9 := am ak
   clear ak
   by_cases c10 : aG.toList = aE.toList
   ·rw [if_pos c10] at H
    have aQ : (aG.toList == aE.toList) = true := beq_iff_eq.mpr c10
    have aR : (aG.toList != aE.toList) = false := bn c10
    clear c10
    replace H := bm H
    obtain ⟨aI, aP, H⟩ := H
    replace H : (some aI) = some r := H
    have aq := am aP
    clear aP
    obtain rfl := Option.some.inj H
    go_enter Tryz.func5, Tryz.ntmps5
    try go_wp2_with (first | ((with_reducible refine qAC (N := 1) rfl ?_); refine qAI ?hg (N := 1) ?hd (cs := #[.int .i64 a0_0, .int .i64 a0_1, .int .i64 a0_2, .int .u64 a0_3]) (t := 50) ?hr ?_; (case hd => rfl); (case hg => rfl); (case hr => first | (go_simp; done) | (go_simp; rfl)); intro aD hg au hbox hb; have n0_ := am (qAm (by repeat (first | (with_reducible first | exact HB.o | apply qAd | apply qAb | apply qAg) | exact HB.o)) hb); have n1_ := am (hbox); have n2_ := am ((by rw [hg]; exact (qAp (by repeat (first | (with_reducible first | exact HB.o | apply qAd | apply qAb | apply qAg) | exact HB.o))) : w.heap.size ≤ aD)); have n3_ := am ((by rw [hg]; exact (qAp (by repeat (first | (with_reducible first | exact HB.o | apply qAd | apply qAb | apply qAg) | exact HB.o))) : w.heap.size ≤ aD)); clear HB; have HB := n0_; have aA := n1_; have al := n2_; have aH := n3_; clear n0_ n1_ n2_ n3_; clear hb hbox hg; obtain ⟨aT, aU, aV, aW⟩ := c4_ au aA.o; obtain ⟨a1, a3, a4, a5⟩ := z4_ aA.o) | ((with_reducible refine qAC (N := 3) rfl ?_); refine qAI ?hg (N := 3) ?hd (cs := #[.int .i64 0, .int .i64 0, .int .i64 0, .int .u64 0]) (t := 51) ?hr ?_; (case hd => rfl); (case hg => rfl); (case hr => first | (go_simp; done) | (go_simp; rfl)); intro aC hg aS hbox hb; have n0_ := am (qAh (g := aD) (o := .cells #[.int .i64 a0_0, .int .i64 a0_1, .int .i64 a0_2, .int .u64 a0_3] 50 (0, 0)) (by (with_reducible repeat (first | refine qAa ?_ _ | refine qAc ?_ | refine blk_alloc ?_ _)); exact aA.o) hb); have n1_ := am (qAm (by repeat (first | (with_reducible first | exact HB.o | apply qAd | apply qAb | apply qAg | refine qAf ?_ aH.o) | exact HB.o)) hb); have n2_ := am (hbox); have n3_ := am ((by rw [hg]; exact (qAp (by repeat (first | (with_reducible first | exact HB.o | apply qAd | apply qAb | apply qAg | refine qAf ?_ aH.o) | exact HB.o))) : w.heap.size ≤ aC)); have n4_ := am ((by rw [hg]; exact (qAp (by repeat (first | (with_reducible first | exact HB.o | apply qAd | apply qAb | apply qAg | refine qAf ?_ aH.o) | exact HB.o))) : w.heap.size ≤ aC)); have n5_ := am ((by rw [hg]; exact Nat.ne_of_lt (qA8 (g := aD) (o := .cells #[.int .i64 a0_0, .int .i64 a0_1, .int .i64 a0_2, .int .u64 a0_3] 50 (0, 0)) (by (with_reducible repeat (first | refine qAa ?_ _ | refine qAc ?_ | refine blk_alloc ?_ _)); exact aA.o)) : aD ≠ aC)); have n6_ := am ((by rw [hg]; exact Nat.ne_of_gt (qA8 (g := aD) (o := .cells #[.int .i64 a0_0, .int .i64 a0_1, .int .i64 a0_2, .int .u64 a0_3] 50 (0, 0)) (by (with_reducible repeat (first | refine qAa ?_ _ | refine qAc ?_ | refine blk_alloc ?_ _)); exact aA.o)) : aC ≠ aD)); clear aA; clear HB; have aA := n0_; have HB := n1_; have aB := n2_; have an := n3_; have aN := n4_; have aF := n5_; have aO := n6_; clear n0_ n1_ n2_ n3_ n4_ n5_ n6_; clear hb hbox hg; have ao := aO.o; have ap := aF.o; obtain ⟨aX, aY, aZ, a0⟩ := c4_ aS aB.o; obtain ⟨a6, a7, a8, a9⟩ := z4_ aB.o))
    have n0_ : qAk (((((aS.setCell ⟨aC, 0, none⟩ (.int .i64 a0_0)).setCell ⟨aC, 1, none⟩ (.int .i64 a0_1)).setCell ⟨aC, 2, none⟩ (.int .i64 a0_2)).setCell ⟨aC, 3, none⟩ (.int .u64 a0_3)).heap[aD]? = some (.cells #[.int .i64 a0_0, .int .i64 a0_1, .int .i64 a0_2, .int .u64 a0_3] 50 (0, 0))) := ⟨by (with_reducible repeat (first | refine qAa ?_ _ | refine qAc ?_ | refine blk_alloc ?_ _)); refine qAo ?_ aF.o _; (with_reducible repeat (first | refine qAa ?_ _ | refine qAc ?_ | refine blk_alloc ?_ _)); refine qAo ?_ aF.o _; (with_reducible repeat (first | refine qAa ?_ _ | refine qAc ?_ | refine blk_alloc ?_ _)); refine qAo ?_ aF.o _; (with_reducible repeat (first | refine qAa ?_ _ | refine qAc ?_ | refine blk_alloc ?_ _)); refine qAo ?_ aF.o _; (with_reducible repeat (first | refine qAa ?_ _ | refine qAc ?_ | refine blk_alloc ?_ _)); exact aA.o⟩
    have n1_ : qAk (((((aS.setCell ⟨aC, 0, none⟩ (.int .i64 a0_0)).setCell ⟨aC, 1, none⟩ (.int .i64 a0_1)).setCell ⟨aC, 2, none⟩ (.int .i64 a0_2)).setCell ⟨aC, 3, none⟩ (.int .u64 a0_3)).heap[aC]? = some (.cells #[.int .i64 a0_0, .int .i64 a0_1, .int .i64 a0_2, .int .u64 a0_3] 51 (0, 0))) := ⟨by (with_reducible repeat (first | refine qAa ?_ _ | refine qAc ?_ | refine blk_alloc ?_ _)); refine qAv (cs := #[.int .i64 a0_0, .int .i64 a0_1, .int .i64 a0_2, .int .u64 0]) ?_ 3 _ rfl; (with_reducible repeat (first | refine qAa ?_ _ | refine qAc ?_ | refine blk_alloc ?_ _)); refine qAv (cs := #[.int .i64 a0_0, .int .i64 a0_1, .int .i64 0, .int .u64 0]) ?_ 2 _ rfl; (with_reducible repeat (first | refine qAa ?_ _ | refine qAc ?_ | refine blk_alloc ?_ _)); refine qAv (cs := #[.int .i64 a0_0, .int .i64 0, .int .i64 0, .int .u64 0]) ?_ 1 _ rfl; (with_reducible repeat (first | refine qAa ?_ _ | refine qAc ?_ | refine blk_alloc ?_ _)); refine qAv (cs := #[.int .i64 0, .int .i64 0, .int .i64 0, .int .u64 0]) ?_ 0 _ rfl; (with_reducible repeat (first | refine qAa ?_ _ | refine qAc ?_ | refine blk_alloc ?_ _)); exact aB.o⟩
    have n2_ : qAk (Below w.heap.size w ((((aS.setCell ⟨aC, 0, none⟩ (.int .i64 a0_0)).setCell ⟨aC, 1, none⟩ (.int .i64 a0_1)).setCell ⟨aC, 2, none⟩ (.int .i64 a0_2)).setCell ⟨aC, 3, none⟩ (.int .u64 a0_3))) := ⟨by repeat (first | (with_reducible first | exact HB.o | apply qAd | apply qAb | apply qAg | refine qAf ?_ aH.o | refine qAf ?_ aN.o) | exact HB.o)⟩
    (try clear aA)
    (try clear aB)
    (try clear HB)
    generalize ((((aS.setCell ⟨aC, 0, none⟩ (.int .i64 a0_0)).setCell ⟨aC, 1, none⟩ (.int .i64 a0_1)).setCell ⟨aC, 2, none⟩ (.int .i64 a0_2)).setCell ⟨aC, 3, none⟩ (.int .u64 a0_3)) = av at n0_ n1_ n2_ ⊢
    have aA := n0_
    have aB := n1_
    have HB := n2_
    clear n0_ n1_ n2_
    have n0_ := am (qAc aA.o)
    have n1_ := am (qAc aB.o)
    have n2_ := am (qAg HB.o)
    clear aA
    clear aB
    clear HB
    have aA := n0_
    have aB := n1_
    have HB := n2_
    clear n0_ n1_ n2_
    refine start_ (n := 23) (S := fun w' => w'.cell? ⟨aC, 0, none⟩ = some (.int .i64 a0_0) ∧ w'.cell? ⟨aC, 1, none⟩ = some (.int .i64 a0_1) ∧ w'.cell? ⟨aC, 2, none⟩ = some (.int .i64 a0_2) ∧ w'.cell? ⟨aC, 3, none⟩ = some (.int .u64 a0_3) ∧ w'.cell? ⟨aD, 0, none⟩ = some (.int .i64 a0_0) ∧ w'.cell? ⟨aD, 1, none⟩ = some (.int .i64 a0_1) ∧ w'.cell? ⟨aD, 2, none⟩ = some (.int .i64 a0_2) ∧ w'.cell? ⟨aD, 3, none⟩ = some (.int .u64 a0_3)) (ds := []) (mK 23 0) (by kernel_rfl) rfl rfl ⟨(qAe aB.o 0).trans rfl, (qAe aB.o 1).trans rfl, (qAe aB.o 2).trans rfl, (qAe aB.o 3).trans rfl, (qAe aA.o 0).trans rfl, (qAe aA.o 1).trans rfl, (qAe aA.o 2).trans rfl, (qAe aA.o 3).trans rfl⟩ (fun hHeld => ?_); refine qDz foundrylaw14_CodeInstructions.tab2 foundrylaw14_CodeInstructions.bits2 (fun HT_ HW_ => ?_)
    generalize av.drew = aw at aA aB HB hHeld ⊢
    refine take_ (i := 0) (N := some 11) (v := ?_) (a' := ?_) (mK 23 1) rfl rfl (qBG HT_.o HW_.o (by kernel_rfl)) (fun _ _ _ h => h) (Or.inl ⟨by rfl, ?_⟩) hHeld ?_ ?_
    rotate_left
    ·rintro w' ⟨s0, s1, s2, s3, s4, s5, s6, s7⟩
     go_simp
     with_reducible rfl
    rotate_left
    ·simp only [Act.put, List.setIfInBounds_toArray, List.set_cons_zero, List.set_cons_succ, qAD, i32_w]
     rfl
    refine take_ (i := 2) (N := some 13) (v := ?_) (a' := ?_) (mK 23 5) rfl rfl (qBG HT_.o HW_.o (by kernel_rfl)) (fun _ _ _ h => h) (Or.inl ⟨by rfl, ?_⟩) hHeld ?_ ?_
    rotate_left
    ·rintro w' ⟨s0, s1, s2, s3, s4, s5, s6, s7⟩
     go_simp
     with_reducible rfl
    rotate_left
    ·simp only [Act.put, List.setIfInBounds_toArray, List.set_cons_zero, List.set_cons_succ, qAD, i32_w]
     rfl
    refine one_ (i := 1) (N := some 12) (mK 23 7) rfl rfl (qBE HT_.o (by kernel_rfl)) (by decide) (fun K hK => ?_)
    refine qCA Tryz.func18 (by kernel_rfl) rfl #[.agg #[.int .i64 a0_0, .int .i64 a0_1, .int .i64 a0_2, .int .u64 a0_3]] (by rfl) rfl rfl (by (try simp only [List.map_toArray, List.map_cons, List.map_nil]); first | done | rfl | (simp only [List.length_drop, List.length_take]; rfl)) ?_
    with_reducible refine (qAA.calls a0_0 a0_1 a0_2 a0_3 aM _ A2.o).mono ?_
    rintro e ax ⟨rfl, hb⟩
    refine ⟨_, rfl, ?_⟩
    have n0_ := am (qAh (g := aD) (o := .cells #[.int .i64 a0_0, .int .i64 a0_1, .int .i64 a0_2, .int .u64 a0_3] 50 (0, 0)) (by (with_reducible repeat (first | refine qAa ?_ _ | refine qAc ?_ | refine blk_alloc ?_ _)); exact aA.o) hb)
    have n1_ := am (qAh (g := aC) (o := .cells #[.int .i64 a0_0, .int .i64 a0_1, .int .i64 a0_2, .int .u64 a0_3] 51 (0, 0)) (by (with_reducible repeat (first | refine qAa ?_ _ | refine qAc ?_ | refine blk_alloc ?_ _)); exact aB.o) hb)
    have n2_ := am (qAm (by repeat (first | (with_reducible first | exact HB.o | apply qAd | apply qAb | apply qAg | refine qAf ?_ aH.o | refine qAf ?_ aN.o) | exact HB.o)) hb)
    clear aA
    clear aB
    clear HB
    have aA := n0_
    have aB := n1_
    have HB := n2_
    clear n0_ n1_ n2_
    (try clear hb)
    (try clear hb2)
    (try clear hk)
    (try clear hi)
    refine hK.o _ _ ⟨(qAe aB.o 0).trans rfl, (qAe aB.o 1).trans rfl, (qAe aB.o 2).trans rfl, (qAe aB.o 3).trans rfl, (qAe aA.o 0).trans rfl, (qAe aA.o 1).trans rfl, (qAe aA.o 2).trans rfl, (qAe aA.o 3).trans rfl⟩ (fun hHeld => ?_)
    clear hK K
    refine qB6 (a' := ?_) ?_ ?_
    rotate_left
    ·show Act.put _ (some 12) _ = _
     simp only [Act.put, List.setIfInBounds_toArray, List.set_cons_zero, List.set_cons_succ, qAD, i32_w]
     rfl
    refine one_ (i := 3) (N := some 14) (mK 23 15) rfl rfl (qBE HT_.o (by kernel_rfl)) (by decide) (fun K hK => ?_)
    refine qCA Tryz.func23 (by kernel_rfl) rfl #[.agg #[.int .i64 a0_0, .int .i64 a0_1, .int .i64 a0_2, .int .u64 a0_3]] (by rfl) rfl rfl (by (try simp only [List.map_toArray, List.map_cons, List.map_nil]); first | done | rfl | (simp only [List.length_drop, List.length_take]; rfl)) ?_
    with_reducible refine (qAJ.calls a0_0 a0_1 a0_2 a0_3 aK _ A3.o).mono ?_
    rintro e ay ⟨rfl, hb⟩
    refine ⟨_, rfl, ?_⟩
    have n0_ := am (qAh (g := aD) (o := .cells #[.int .i64 a0_0, .int .i64 a0_1, .int .i64 a0_2, .int .u64 a0_3] 50 (0, 0)) (by (with_reducible repeat (first | refine qAa ?_ _ | refine qAc ?_ | refine blk_alloc ?_ _)); exact aA.o) hb)
    have n1_ := am (qAh (g := aC) (o := .cells #[.int .i64 a0_0, .int .i64 a0_1, .int .i64 a0_2, .int .u64 a0_3] 51 (0, 0)) (by (with_reducible repeat (first | refine qAa ?_ _ | refine qAc ?_ | refine blk_alloc ?_ _)); exact aB.o) hb)
    have n2_ := am (qAm (by repeat (first | (with_reducible first | exact HB.o | apply qAd | apply qAb | apply qAg | refine qAf ?_ aH.o | refine qAf ?_ aN.o) | exact HB.o)) hb)
    clear aA
    clear aB
    clear HB
    have aA := n0_
    have aB := n1_
    have HB := n2_
    clear n0_ n1_ n2_
    (try clear hb)
    (try clear hb2)
    (try clear hk)
    (try clear hi)
    refine hK.o _ _ ⟨(qAe aB.o 0).trans rfl, (qAe aB.o 1).trans rfl, (qAe aB.o 2).trans rfl, (qAe aB.o 3).trans rfl, (qAe aA.o 0).trans rfl, (qAe aA.o 1).trans rfl, (qAe aA.o 2).trans rfl, (qAe aA.o 3).trans rfl⟩ (fun hHeld => ?_)
    clear hK K
    refine qB6 (a' := ?_) ?_ ?_
    rotate_left
    ·show Act.put _ (some 14) _ = _
     simp only [Act.put, List.setIfInBounds_toArray, List.set_cons_zero, List.set_cons_succ, qAD, i32_w]
     rfl
    refine qBx (i := 4) (N := some 15) (v := ?_) (a' := ?_) (mK 23 31) rfl rfl (qBd HT_.o (by kernel_rfl)) (fun _ _ _ h => h) (Or.inl ⟨by rfl, ?_⟩) ?_ ?_
    rotate_left
    ·intro w'
     go_simp
     with_reducible rfl
    rotate_left
    ·simp only [Act.put, List.setIfInBounds_toArray, List.set_cons_zero, List.set_cons_succ, qAD, i32_w]
     rfl
    refine qBx (i := 5) (N := some 16) (v := ?_) (a' := ?_) (mK 23 63) rfl rfl (qBd HT_.o (by kernel_rfl)) (fun _ _ _ h => h) (Or.inl ⟨by rfl, ?_⟩) ?_ ?_
    rotate_left
    ·intro w'
     go_simp
     with_reducible rfl
    rotate_left
    ·simp only [Act.put, List.setIfInBounds_toArray, List.set_cons_zero, List.set_cons_succ, qAD, i32_w]
     rfl
    refine take_ (i := 6) (N := some 17) (v := ?_) (a' := ?_) (mK 23 127) rfl rfl (qBG HT_.o HW_.o (by kernel_rfl)) (fun _ _ _ h => h) (Or.inl ⟨by rfl, ?_⟩) hHeld ?_ ?_
    rotate_left
    ·rintro w' ⟨s0, s1, s2, s3, s4, s5, s6, s7⟩
     go_simp
     with_reducible rfl
    rotate_left
    ·simp only [Act.put, List.setIfInBounds_toArray, List.set_cons_zero, List.set_cons_succ, qAD, i32_w]
     rfl
    refine take_ (i := 8) (N := some 19) (v := ?_) (a' := ?_) (mK 23 383) rfl rfl (qBG HT_.o HW_.o (by kernel_rfl)) (fun _ _ _ h => h) (Or.inl ⟨by rfl, ?_⟩) hHeld ?_ ?_
    rotate_left
    ·rintro w' ⟨s0, s1, s2, s3, s4, s5, s6, s7⟩
     go_simp
     with_reducible rfl
    rotate_left
    ·simp only [Act.put, List.setIfInBounds_toArray, List.set_cons_zero, List.set_cons_succ, qAD, i32_w]
     rfl
    refine one_ (i := 7) (N := some 18) (mK 23 511) rfl rfl (qBE HT_.o (by kernel_rfl)) (by decide) (fun K hK => ?_)
    refine qCA Tryz.func24 (by kernel_rfl) rfl #[.agg #[.int .i64 a0_0, .int .i64 a0_1, .int .i64 a0_2, .int .u64 a0_3]] (by rfl) rfl rfl (by (try simp only [List.map_toArray, List.map_cons, List.map_nil]); first | done | rfl | (simp only [List.length_drop, List.length_take]; rfl)) ?_
    with_reducible refine (qBw.calls a0_0 a0_1 a0_2 a0_3 aL _ A5.o).mono ?_
    rintro e az ⟨rfl, hb⟩
    refine ⟨_, rfl, ?_⟩
    have n0_ := am (qAh (g := aD) (o := .cells #[.int .i64 a0_0, .int .i64 a0_1, .int .i64 a0_2, .int .u64 a0_3] 50 (0, 0)) (by (with_reducible repeat (first | refine qAa ?_ _ | refine qAc ?_ | refine blk_alloc ?_ _)); exact aA.o) hb)
    have n1_ := am (qAh (g := aC) (o := .cells #[.int .i64 a0_0, .int .i64 a0_1, .int .i64 a0_2, .int .u64 a0_3] 51 (0, 0)) (by (with_reducible repeat (first | refine qAa ?_ _ | refine qAc ?_ | refine blk_alloc ?_ _)); exact aB.o) hb)
    have n2_ := am (qAm (by repeat (first | (with_reducible first | exact HB.o | apply qAd | apply qAb | apply qAg | refine qAf ?_ aH.o | refine qAf ?_ aN.o) | exact HB.o)) hb)
    clear aA
    clear aB
    clear HB
    have aA := n0_
    have aB := n1_
    have HB := n2_
    clear n0_ n1_ n2_
    (try clear hb)
    (try clear hb2)
    (try clear hk)
    (try clear hi)
    refine hK.o _ _ ⟨(qAe aB.o 0).trans rfl, (qAe aB.o 1).trans rfl, (qAe aB.o 2).trans rfl, (qAe aB.o 3).trans rfl, (qAe aA.o 0).trans rfl, (qAe aA.o 1).trans rfl, (qAe aA.o 2).trans rfl, (qAe aA.o 3).trans rfl⟩ (fun hHeld => ?_)
    clear hK K
    refine qB6 (a' := ?_) ?_ ?_
    rotate_left
    ·show Act.put _ (some 18) _ = _
     simp only [Act.put, List.setIfInBounds_toArray, List.set_cons_zero, List.set_cons_succ, qAD, i32_w]
     rfl
    refine one_ (i := 9) (N := some 20) (mK 23 1023) rfl rfl (qBE HT_.o (by kernel_rfl)) (by decide) (fun K hK => ?_)
    refine qCA Tryz.func25 (by kernel_rfl) rfl #[.agg #[.int .i64 a0_0, .int .i64 a0_1, .int .i64 a0_2, .int .u64 a0_3]] (by rfl) rfl rfl (by (try simp only [List.map_toArray, List.map_cons, List.map_nil]); first | done | rfl | (simp only [List.length_drop, List.length_take]; rfl)) ?_
    with_reducible refine (qAF.calls a0_0 a0_1 a0_2 a0_3 aJ _ A6.o).mono ?_
    rintro e bA ⟨rfl, hb⟩
    refine ⟨_, rfl, ?_⟩
    have n0_ := am (qAh (g := aD) (o := .cells #[.int .i64 a0_0, .int .i64 a0_1, .int .i64 a0_2, .int .u64 a0_3] 50 (0, 0)) (by (with_reducible repeat (first | refine qAa ?_ _ | refine qAc ?_ | refine blk_alloc ?_ _)); exact aA.o) hb)
    have n1_ := am (qAh (g := aC) (o := .cells #[.int .i64 a0_0, .int .i64 a0_1, .int .i64 a0_2, .int .u64 a0_3] 51 (0, 0)) (by (with_reducible repeat (first | refine qAa ?_ _ | refine qAc ?_ | refine blk_alloc ?_ _)); exact aB.o) hb)
    have n2_ := am (qAm (by repeat (first | (with_reducible first | exact HB.o | apply qAd | apply qAb | apply qAg | refine qAf ?_ aH.o | refine qAf ?_ aN.o) | exact HB.o)) hb)
    clear aA
    clear aB
    clear HB
    have aA := n0_
    have aB := n1_
    have HB := n2_
    clear n0_ n1_ n2_
    (try clear hb)
    (try clear hb2)
    (try clear hk)
    (try clear hi)
    refine hK.o _ _ ⟨(qAe aB.o 0).trans rfl, (qAe aB.o 1).trans rfl, (qAe aB.o 2).trans rfl, (qAe aB.o 3).trans rfl, (qAe aA.o 0).trans rfl, (qAe aA.o 1).trans rfl, (qAe aA.o 2).trans rfl, (qAe aA.o 3).trans rfl⟩ (fun hHeld => ?_)
    clear hK K
    refine qB6 (a' := ?_) ?_ ?_
    rotate_left
    ·show Act.put _ (some 20) _ = _
     simp only [Act.put, List.setIfInBounds_toArray, List.set_cons_zero, List.set_cons_succ, qAD, i32_w]
     rfl
    refine qBx (i := 10) (N := some 21) (v := ?_) (a' := ?_) (mK 23 2047) rfl rfl (qBd HT_.o (by kernel_rfl)) (fun _ _ _ h => h) (Or.inl ⟨by rfl, ?_⟩) ?_ ?_
    rotate_left
    ·intro w'
     go_simp
     with_reducible rfl
    rotate_left
    ·simp only [Act.put, List.setIfInBounds_toArray, List.set_cons_zero, List.set_cons_succ, qAD, i32_w]
     rfl
    refine qBx (i := 11) (N := some 22) (v := ?_) (a' := ?_) (mK 23 4095) rfl rfl (qBd HT_.o (by kernel_rfl)) (fun _ _ _ h => h) (Or.inl ⟨by rfl, ?_⟩) ?_ ?_
    rotate_left
    ·intro w'
     go_simp
     with_reducible rfl
    rotate_left
    ·simp only [Act.put, List.setIfInBounds_toArray, List.set_cons_zero, List.set_cons_succ, qAD, i32_w]
     rfl
    refine qBx (i := 12) (N := some 23) (v := ?_) (a' := ?_) (mK 23 8191) rfl rfl (qBd HT_.o (by kernel_rfl)) (fun _ _ _ h => h) (Or.inl ⟨by rfl, ?_⟩) ?_ ?_
    rotate_left
    ·intro w'
     go_simp
     with_reducible rfl
    rotate_left
    ·simp only [Act.put, List.setIfInBounds_toArray, List.set_cons_zero, List.set_cons_succ, qAD, i32_w]
     rfl
    refine take_ (i := 13) (N := some 24) (v := ?_) (a' := ?_) (mK 23 16383) rfl rfl (qBG HT_.o HW_.o (by kernel_rfl)) (fun _ _ _ h => h) (Or.inl ⟨by rfl, ?_⟩) hHeld ?_ ?_
    rotate_left
    ·rintro w' ⟨s0, s1, s2, s3, s4, s5, s6, s7⟩
     go_simp
     with_reducible rfl
    rotate_left
    ·simp only [Act.put, List.setIfInBounds_toArray, List.set_cons_zero, List.set_cons_succ, qAD, i32_w]
     rfl
    refine take_ (i := 15) (N := some 26) (v := ?_) (a' := ?_) (mK 23 49151) rfl rfl (qBG HT_.o HW_.o (by kernel_rfl)) (fun _ _ _ h => h) (Or.inl ⟨by rfl, ?_⟩) hHeld ?_ ?_
    rotate_left
    ·rintro w' ⟨s0, s1, s2, s3, s4, s5, s6, s7⟩
     go_simp
     with_reducible rfl
    rotate_left
    ·simp only [Act.put, List.setIfInBounds_toArray, List.set_cons_zero, List.set_cons_succ, qAD, i32_w]
     rfl
    refine one_ (i := 14) (N := some 25) (mK 23 65535) rfl rfl (qBE HT_.o (by kernel_rfl)) (by decide) (fun K hK => ?_)
    refine qCA Tryz.func20 (by kernel_rfl) rfl #[.agg #[.int .i64 a0_0, .int .i64 a0_1, .int .i64 a0_2, .int .u64 a0_3]] (by rfl) rfl rfl (by (try simp only [List.map_toArray, List.map_cons, List.map_nil]); first | done | rfl | (simp only [List.length_drop, List.length_take]; rfl)) ?_
    with_reducible refine (qAu.calls a0_0 a0_1 a0_2 a0_3 aG _ A8.o (HTB_.o.below HB.o)).mono ?_
    rintro e bB ⟨rfl, hb⟩
    refine ⟨_, rfl, ?_⟩
    have n0_ := am (qAh (g := aD) (o := .cells #[.int .i64 a0_0, .int .i64 a0_1, .int .i64 a0_2, .int .u64 a0_3] 50 (0, 0)) (by (with_reducible repeat (first | refine qAa ?_ _ | refine qAc ?_ | refine blk_alloc ?_ _)); exact aA.o) hb)
    have n1_ := am (qAh (g := aC) (o := .cells #[.int .i64 a0_0, .int .i64 a0_1, .int .i64 a0_2, .int .u64 a0_3] 51 (0, 0)) (by (with_reducible repeat (first | refine qAa ?_ _ | refine qAc ?_ | refine blk_alloc ?_ _)); exact aB.o) hb)
    have n2_ := am (qAm (by repeat (first | (with_reducible first | exact HB.o | apply qAd | apply qAb | apply qAg | refine qAf ?_ aH.o | refine qAf ?_ aN.o) | exact HB.o)) hb)
    clear aA
    clear aB
    clear HB
    have aA := n0_
    have aB := n1_
    have HB := n2_
    clear n0_ n1_ n2_
    (try clear hb)
    (try clear hb2)
    (try clear hk)
    (try clear hi)
    refine hK.o _ _ ⟨(qAe aB.o 0).trans rfl, (qAe aB.o 1).trans rfl, (qAe aB.o 2).trans rfl, (qAe aB.o 3).trans rfl, (qAe aA.o 0).trans rfl, (qAe aA.o 1).trans rfl, (qAe aA.o 2).trans rfl, (qAe aA.o 3).trans rfl⟩ (fun hHeld => ?_)
    clear hK K
    refine qB6 (a' := ?_) ?_ ?_
    rotate_left
    ·show Act.put _ (some 25) _ = _
     simp only [Act.put, List.setIfInBounds_toArray, List.set_cons_zero, List.set_cons_succ, qAD, i32_w]
     rfl
    refine one_ (i := 16) (N := some 27) (mK 23 131071) rfl rfl (qBE HT_.o (by kernel_rfl)) (by decide) (fun K hK => ?_)
    refine qCA Tryz.func26 (by kernel_rfl) rfl #[.agg #[.int .i64 a0_0, .int .i64 a0_1, .int .i64 a0_2, .int .u64 a0_3]] (by rfl) rfl rfl (by (try simp only [List.map_toArray, List.map_cons, List.map_nil]); first | done | rfl | (simp only [List.length_drop, List.length_take]; rfl)) ?_
    with_reducible refine (qA9.calls a0_0 a0_1 a0_2 a0_3 aE _ A9.o).mono ?_
    rintro e bC ⟨rfl, hb⟩
    refine ⟨_, rfl, ?_⟩
    have n0_ := am (qAh (g := aD) (o := .cells #[.int .i64 a0_0, .int .i64 a0_1, .int .i64 a0_2, .int .u64 a0_3] 50 (0, 0)) (by (with_reducible repeat (first | refine qAa ?_ _ | refine qAc ?_ | refine blk_alloc ?_ _)); exact aA.o) hb)
    have n1_ := am (qAh (g := aC) (o := .cells #[.int .i64 a0_0, .int .i64 a0_1, .int .i64 a0_2, .int .u64 a0_3] 51 (0, 0)) (by (with_reducible repeat (first | refine qAa ?_ _ | refine qAc ?_ | refine blk_alloc ?_ _)); exact aB.o) hb)
    have n2_ := am (qAm (by repeat (first | (with_reducible first | exact HB.o | apply qAd | apply qAb | apply qAg | refine qAf ?_ aH.o | refine qAf ?_ aN.o) | exact HB.o)) hb)
    clear aA
    clear aB
    clear HB
    have aA := n0_
    have aB := n1_
    have HB := n2_
    clear n0_ n1_ n2_
    (try clear hb)
    (try clear hb2)
    (try clear hk)
    (try clear hi)
    refine hK.o _ _ ⟨(qAe aB.o 0).trans rfl, (qAe aB.o 1).trans rfl, (qAe aB.o 2).trans rfl, (qAe aB.o 3).trans rfl, (qAe aA.o 0).trans rfl, (qAe aA.o 1).trans rfl, (qAe aA.o 2).trans rfl, (qAe aA.o 3).trans rfl⟩ (fun hHeld => ?_)
    clear hK K
    refine qB6 (a' := ?_) ?_ ?_
    rotate_left
    ·show Act.put _ (some 27) _ = _
     simp only [Act.put, List.setIfInBounds_toArray, List.set_cons_zero, List.set_cons_succ, qAD, i32_w]
     rfl
    refine qBx (i := 17) (N := some 28) (v := ?_) (a' := ?_) (mK 23 262143) rfl rfl (qBd HT_.o (by kernel_rfl)) (fun _ _ _ h => h) (Or.inl ⟨by rfl, ?_⟩) ?_ ?_
    rotate_left
    ·intro w'
     go_simp
     with_reducible rfl
    rotate_left
    ·simp only [Act.put, List.setIfInBounds_toArray, List.set_cons_zero, List.set_cons_succ, qAD, i32_w]
     rfl
    refine qBx (i := 18) (N := some 29) (v := ?_) (a' := ?_) (mK 23 524287) rfl rfl (qBd HT_.o (by kernel_rfl)) (fun _ _ _ h => h) (Or.inl ⟨by rfl, ?_⟩) ?_ ?_
    rotate_left
    ·intro w'
     go_simp
     with_reducible rfl
    rotate_left
    ·simp only [Act.put, List.setIfInBounds_toArray, List.set_cons_zero, List.set_cons_succ, qAD, i32_w]
     rfl
    refine qBx (i := 19) (N := some 30) (v := ?_) (a' := ?_) (mK 23 1048575) rfl rfl (qBd HT_.o (by kernel_rfl)) (fun _ _ _ h => h) (Or.inl ⟨by rfl, ?_⟩) ?_ ?_
    rotate_left
    ·intro w'
     go_simp
     with_reducible rfl
    rotate_left
    ·simp only [Act.put, List.setIfInBounds_toArray, List.set_cons_zero, List.set_cons_succ, qAD, i32_w]
     rfl
    refine one_ (i := 20) (N := some 31) (mK 23 2097151) rfl rfl (qBE HT_.o (by kernel_rfl)) (by decide) (fun K hK => ?_)
    refine qCA Tryz.func17 (by kernel_rfl) rfl #[] (by rfl) rfl rfl (by (try simp only [List.map_toArray, List.map_cons, List.map_nil]); first | done | rfl | (simp only [List.length_drop, List.length_take]; rfl)) ?_
    with_reducible refine (qAx.calls  aI _ aq.o).mono ?_
    rintro e bD ⟨rfl, hb⟩
    refine ⟨_, rfl, ?_⟩
    have n0_ := am (qAh (g := aD) (o := .cells #[.int .i64 a0_0, .int .i64 a0_1, .int .i64 a0_2, .int .u64 a0_3] 50 (0, 0)) (by (with_reducible repeat (first | refine qAa ?_ _ | refine qAc ?_ | refine blk_alloc ?_ _)); exact aA.o) hb)
    have n1_ := am (qAh (g := aC) (o := .cells #[.int .i64 a0_0, .int .i64 a0_1, .int .i64 a0_2, .int .u64 a0_3] 51 (0, 0)) (by (with_reducible repeat (first | refine qAa ?_ _ | refine qAc ?_ | refine blk_alloc ?_ _)); exact aB.o) hb)
    have n2_ := am (qAm (by repeat (first | (with_reducible first | exact HB.o | apply qAd | apply qAb | apply qAg | refine qAf ?_ aH.o | refine qAf ?_ aN.o) | exact HB.o)) hb)
    clear aA
    clear aB
    clear HB
    have aA := n0_
    have aB := n1_
    have HB := n2_
    clear n0_ n1_ n2_
    (try clear hb)
    (try clear hb2)
    (try clear hk)
    (try clear hi)
    refine hK.o _ _ ⟨(qAe aB.o 0).trans rfl, (qAe aB.o 1).trans rfl, (qAe aB.o 2).trans rfl, (qAe aB.o 3).trans rfl, (qAe aA.o 0).trans rfl, (qAe aA.o 1).trans rfl, (qAe aA.o 2).trans rfl, (qAe aA.o 3).trans rfl⟩ (fun hHeld => ?_)
    clear hK K
    refine qB6 (a' := ?_) ?_ ?_
    rotate_left
    ·show Act.put _ (some 31) _ = _
     simp only [Act.put, List.setIfInBounds_toArray, List.set_cons_zero, List.set_cons_succ, qAD, i32_w]
     rfl
    refine qBx (i := 21) (N := some 32) (v := ?_) (a' := ?_) (mK 23 4194303) rfl rfl (qBd HT_.o (by kernel_rfl)) (fun _ _ _ h => h) (Or.inl ⟨by rfl, ?_⟩) ?_ ?_
    rotate_left
    ·intro w'
     go_simp
     with_reducible rfl
    rotate_left
    ·simp only [Act.put, List.setIfInBounds_toArray, List.set_cons_zero, List.set_cons_succ, qAD, i32_w]
     rfl
    refine qBx (i := 22) (N := some 2) (v := ?_) (a' := ?_) (mK 23 8388607) rfl rfl (qBd HT_.o (by kernel_rfl)) (fun _ _ _ h => h) (Or.inl ⟨by rfl, ?_⟩) ?_ ?_
    rotate_left
    ·intro w'
     go_simp
     with_reducible rfl
    rotate_left
    ·simp only [Act.put, List.setIfInBounds_toArray, List.set_cons_zero, List.set_cons_succ, qAD, i32_w]
     rfl
    refine done_ (done_of HT_.o (by kernel_rfl)) ?_
    try go_wp2
    go_ret
    exact ⟨by first | rfl | (simp [errW_none, errW_some] <;> rfl) | (simp [*, errW_none, errW_some] <;> rfl), by repeat (first | (with_reducible first | exact HB.o | apply qAd | apply qAb | apply qAg | refine qAf ?_ aH.o | refine qAf ?_ aN.o) | exact HB.o)⟩
   ·rw [if_neg c10] at H
    have aQ : (aG.toList == aE.toList) = false := bf c10
    have aR : (aG.toList != aE.toList) = true := bne_iff_ne.mpr c10
    exact absurd H (by simp)
  ·rw [if_neg c7] at H
   have ad : (aL == aJ) = false := bf c7
   have ae : (aL != aJ) = true := bne_iff_ne.mpr c7
   exact absurd H (by simp)
 ·rw [if_neg c4] at H
  have aa : (aM == aK) = false := by simpa using c4
  (try (have ab : decide (aM = aK) = false := by simpa using c4))
  (try (have ac : (aM == aK) = false := by simpa using c4))
  (try (have ar : ¬ (aM = aK) := by simpa using c4))
  clear c4
  exact absurd H (by simp)
end Q
end
section
namespace Q
open Go.RowKit YA YB YC
open Val Ins
namespace C14
theorem instr_ev (c0 c1 c2 c3 : Int) (hi : qBk 1048576 ⟨c0, c1, ⟨c2, c3⟩⟩) : Ev (fun _ => foundrylaw14_CodeInstructions.f c0 c1 c2 c3) true := by
 have hc : 0 ≤ c3 ∧ c3 < 18446744073709551616 := qCK hi.2.2.2
 have h : foundrylaw14_CodeInstructions.f c0 c1 c2 c3 = some true := by
  unfold foundrylaw14_CodeInstructions.f qAA.f qAJ.f qBw.f qAF.f qAu.f qA9.f
  simp only [if_pos hc, Option.bind_some, live_eq, beq_self_eq_true, if_true]
 rw [h]
 exact Ev.now _
end C14
end Q
end
section
namespace codeInstructions
open Go.ChangeShapes Go.WideShapes Go.ChangeAt Go.RowKit
theorem own : ownKnob Tryz.prog.godebug = none := by kernel_rfl
theorem laidOut : laidOutB Tryz.prog = true := by kernel_rfl
theorem contract (H : Type) (enc : TypeId × Value → H) (W : World) (base : Nat) (args : Array Value) (ds gs : List (DataW H)) (before : List MemPlace)
  (hval0 : ∀ (j : Nat) t v, Tryz.f5.params[j]? = some t → args[j]? = some v → Value.okWide Tryz.prog W .any base t v)
  (hW : DataW.Whole enc Tryz.prog Tryz.f5.params.toList Rows.codeInstructionsSpec.vars false W args.toList ds gs before) (hk0 : decide (Rows.uptoBulkAll (ds ++ gs) ≤ 1048576) = true) (hL : laidMet Tryz.prog Rows.codeInstructionsUptoRow.laid W) :
  Calls Tryz.prog 5 args W fun e W' => ∃ v, e = .returned v ∧ Rows.codeInstructionsSpec.post enc Tryz.prog Tryz.f5 false true false false W args v W' := by
 have hval : ∀ (j : Nat) t v, Tryz.f5.params[j]? = some t → args[j]? = some v → Value.okWide Tryz.prog W .any base t v := hval0
 have hW' := hW
 obtain ⟨p, q, hA0, hV, rfl, hfz, hnd⟩ := hW
 have hA : DataW.TrodAll enc Tryz.prog W 0 (fun _ => true) true Tryz.f5.params.toList args.toList ds p := hA0
 rw [Tryz.params5] at hA hval
 obtain ⟨v0, vs0, d0, ds0, p0, q0, hargs, rfl, rfl, h0, r0⟩ := trodAll_cons hA
 obtain ⟨rfl, rfl, rfl⟩ := trodAll_nil r0
 obtain rfl : args = #[v0] := by cases args; simp_all
 obtain ⟨rfl, rfl⟩ := trodVars_none hV
 have hk := of_decide_eq_true hk0
 simp only [List.append_nil, Rows.uptoBulkAll] at hk
 have k0 := h0
 have lt0 : ∀ x ∈ p0, x.block < W.heap.size := by obtain ⟨m, hm⟩ := k0; exact DataW.trod_lt m _ _ _ hm
 obtain ⟨cs0, rfl, hsz0⟩ := okWide_struct Tryz.underlying50 (hval 0 50 v0 rfl rfl)
 obtain ⟨fuel0, hf0⟩ := h0
 obtain ⟨x0, hK0, hG0⟩ := Q.opens_foundryref14_Ins W 1048576 H enc 0 (fun _ => true) true fuel0 _ _ hf0 (by show Rows.uptoBulk d0 ≤ _; omega)
 have he0 := Q.k50_open hK0
 obtain rfl : cs0 = #[.int .i64 x0.f0, .int .i64 x0.f1, .int .i64 x0.f2.f0, .int .u64 x0.f2.f1] := Array.ext' he0
 clear hf0 hK0
 obtain ⟨k, hkk⟩ := (Q.C14.instr_ev (x0.f0) (x0.f1) (x0.f2.f0) (x0.f2.f1) hG0).rounds
 clear hA0 hval0
 refine (Q.foundrylaw14_CodeInstructions.calls (x0.f0) (x0.f1) (x0.f2.f0) (x0.f2.f1) true W  hkk (Q.Flt.tb_of hL)).mono fun e W' ⟨he', bel⟩ => ?_
 subst he'
 exact ⟨_, rfl, _, _, _, [], _, [], hW', trodAll_mk1 (shut_bool Tryz.underlying4 _), (trodAll_cons_mk (Below.trod laidOut (by kernel_rfl) (of_decide_eq_true (by kernel_rfl)) k0 bel lt0) trodAll_mk0), rfl, bel.frame _, fun h => by cases h⟩
theorem qCF {H : Type} {enc : TypeId × Value → H} {C : Checked} {os : Os} {f : FuncId} {fn : Func} {s : OpenSpec} {conds : List PathCond} {apart : Bool} {laid : List (String × DataW Unit)} (modest : Bool) (w0 : World) (args : Array Value) (hos : w0.os = os)
  (hsh : (w0.forCall (fun _ _ => 0) ⟨#[], args, []⟩).Shaped C.prog)
  (hok : Input.okWideB C.prog (w0.forCall (fun _ _ => 0) ⟨#[], args, []⟩) f ⟨#[], args, []⟩ = true)
  (hrow : s.preRow enc C.prog fn conds apart laid (w0.forCall (fun _ _ => 0) ⟨#[], args, []⟩).memory args) :
  ∃ (w : World) (tape : Tape) (i : Input), w.os = os ∧ (w.forCall tape i).Shaped C.prog ∧ i.vars = [] ∧ Input.okWide C.prog (w.forCall tape i) .any w.heap.size f i ∧
   s.preRow enc C.prog fn conds apart laid (w.forCall tape i).memory i.args ∧ ({ modest := modest } : Assume).holds C.prog (lone (Frame.enter C.prog f i.args .normal) [] (w.forCall tape i)) :=
 ⟨w0, fun _ _ => 0, ⟨#[], args, []⟩, hos, hsh, (Input.okWide_of_okWideB (base := 0) hok).1, (Input.okWide_of_okWideB hok).2, hrow, by
   simp only [Assume.holds]
   exact ⟨by simp, by simp, fun _ => Modest.zero, by simp, by simp⟩⟩
theorem laid_met (os : Os) : laidMet Tryz.prog Rows.codeInstructionsUptoRow.laid (((World.laidAll Tryz.prog os Rows.codeInstructionsUptoRow.laid)).forCall (fun _ _ => 0) ⟨#[], #[.agg #[.int .i64 0, .int .i64 0, .int .i64 0, .int .u64 0]], []⟩).memory := laidMet_laidAll _ (by kernel_rfl) (by kernel_rfl)
theorem reads (os : Os) {H : Type} (enc : TypeId × Value → H) : ∃ places, DataW.whole enc Tryz.prog ((World.laidAll Tryz.prog os Rows.codeInstructionsUptoRow.laid).forCall (fun _ _ => 0) ⟨#[], #[.agg #[.int .i64 0, .int .i64 0, .int .i64 0, .int .u64 0]], []⟩).memory Tryz.f5.params.toList Rows.codeInstructionsSpec.vars false (#[.agg #[.int .i64 0, .int .i64 0, .int .i64 0, .int .u64 0]] : Array Value).toList 8 = some ([.agg [.lit (.int .i64 0), .lit (.int .i64 0), .agg [.lit (.int .i64 0), .lit (.int .u64 0)]]], [], places) :=
 ⟨[], by kernel_rfl⟩
theorem lifted (os : Os) (started : os.Started) (H : Type) (enc : TypeId × Value → H) (F : Stop.Interp) :
  ReturnsInHanded {} Tryz.checked os 5 .any ((Rows.OpenSpec.upto Rows.codeInstructionsSpec).preRow enc Tryz.prog Tryz.f5 Rows.codeInstructionsUptoRow.domain false Rows.codeInstructionsUptoRow.laid) (((Rows.OpenSpec.upto Rows.codeInstructionsSpec).at F).post enc Tryz.prog Tryz.f5 false true false false) := by
 obtain ⟨places, hx⟩ := reads os enc
 refine returnsInHanded_of_row (C := Tryz.checked) (s := Rows.OpenSpec.upto Rows.codeInstructionsSpec) own started (by kernel_rfl) Tryz.func5
  (qCF (enc := enc) (C := Tryz.checked) false (World.laidAll Tryz.prog os Rows.codeInstructionsUptoRow.laid) #[.agg #[.int .i64 0, .int .i64 0, .int .i64 0, .int .u64 0]] (World.laidAll_os _ _ _) (World.shaped_of_ZipB (by kernel_rfl) (by kernel_rfl)) (by kernel_rfl)
    (OpenSpec.preRow_of_cond (s := Rows.OpenSpec.upto Rows.codeInstructionsSpec) 8 hx (by kernel_rfl) (fun k hk => by cases hk; kernel_rfl) (by kernel_rfl) (laid_met os))) ?_
 intro W base args ds gs before hval hW _ hcond _ hL _ _
 exact contract H enc W base args ds gs before hval hW (hcond _ rfl) hL
theorem saidUpto : Rows.CodeInstructionsUptoSaid :=
 OpenClaim.holds_of_cond 5 Tryz.f5 rfl rfl rfl rfl rfl rfl rfl ⟨rfl, rfl, rfl, rfl, rfl⟩ rfl rfl rfl rfl rfl (by kernel_rfl) Tryz.func5 (by kernel_rfl)
  (of_decide_eq_true (by kernel_rfl)) (by unfold Func.isWrapper; first | (rw [if_pos (by decide +kernel)]; kernel_rfl) | (rw [if_neg (by decide +kernel)]; exact ⟨rfl, rfl⟩))
  (fun os started H enc _ F => by rw [OpenClaim.pre_eq_preRow]; exact lifted os started H enc F)
theorem plain (f : FuncId) (fn : Func) (hf : Tryz.pinned.checked.prog.funcNamed "foundry/foundrylaw14.CodeInstructions" = some f) (hfn : Tryz.pinned.checked.prog.funcs[f]? = some fn) :
  false = Tryz.pinned.checked.prog.looks [] ∧ ∀ (j : Nat) t, fn.params[j]? = some t → Tryz.pinned.checked.prog.wantsStandIn t = false := by
 obtain rfl : f = 5 := Option.some.inj ((show Tryz.prog.funcNamed "foundry/foundrylaw14.CodeInstructions" = some 5 by kernel_rfl).symm.trans hf) |>.symm
 obtain rfl : fn = Tryz.f5 := (Option.some.inj (Tryz.func5.symm.trans hfn)).symm
 refine ⟨by kernel_rfl, fun j t ht => ?_⟩
 rw [Tryz.params5] at ht
 have hm : t = 50 := by simpa using Array.mem_of_getElem? ht
 rcases hm with rfl
 ·exact (show Tryz.prog.wantsStandIn 50 = false by kernel_rfl)
theorem card : Rows.CodeInstructionsUptoCardSaid :=
 Claim7.holds_tied_plain_at .later [] _ _ _ _ saidUpto (fun _ h => by cases h) (by kernel_rfl) (fun _ h => by cases h) codeInstructionsUpto_row_tie rfl ⟨rfl, rfl⟩ (by kernel_rfl) rfl plain (by kernel_rfl)
end codeInstructions

theorem codeInstructions_card : Rows.CodeInstructionsUptoCardSaid := codeInstructions.card
end
end Go.Proofs.YtfddibbignedkaaGreatDoor
