/- CodeBack, where what it reads is of bulk at most 1048576: instructions there and back, as many bytes as the sizes together; bytes that are read are written again as they were. -/
import Derived.Test.YtfddibbignedkaaGreatDoorD1
import Derived.Test.YtfddibbignedkaaGreatDoorCards
import Derived.Test.YtfddibbignedkaaGreatDoorTie
import Derived.WalkKit
import Derived.ProofKit
import Derived.OpenShut
import Derived.ShutString
import Derived.Below
import Derived.LaidMore
import Derived.Lay
import Derived.SevenTiedAt
import Derived.Stop.Joined
import Derived.MakeChecks
import Derived.JoinedCond
import Derived.Deep.DeepHandedRow
set_option maxHeartbeats 8000000
set_option maxRecDepth 100000
set_option linter.unusedVariables false
set_option linter.unusedSimpArgs false
namespace Go.Proofs.YtfddibbignedkaaGreatDoor
section
namespace Q
open Go.RowKit YA YC YB
def qDJ.f (a0_0 : Int) (a0_1 : Int) (a0_2 : Int) (a0_3 : Int) : Option (Bool) := if 0 ≤ a0_3 ∧ a0_3 < 18446744073709551616 then some (Ins.okI a0_0 a0_1 a0_2 a0_3) else none
theorem qDJ.calls (a0_0 : Int) (a0_1 : Int) (a0_2 : Int) (a0_3 : Int) (r : Bool) (w : World) (h : qDJ.f a0_0 a0_1 a0_2 a0_3 = some r) :
  Calls Tryz.prog 18 #[.agg #[.int .i64 a0_0, .int .i64 a0_1, .int .i64 a0_2, .int .u64 a0_3]] w fun e w' => e = .returned (.bool r) ∧ Below w.heap.size w w' := by
 unfold qDJ.f at h
 split at h
 case isFalse => cases h
 rename_i hs
 obtain rfl := Option.some.inj h
 exact Ins.right_ins a0_0 a0_1 a0_2 a0_3 hs w
def qCG.f (a0_0 : Int) (_a0_1 : Int) (_a0_2 : Int) (_a0_3 : Int) : Option (Int) := some (Ins.sizeI a0_0)
theorem qCG.calls (a0_0 : Int) (a0_1 : Int) (a0_2 : Int) (a0_3 : Int) (r : Int) (w : World) (h : qCG.f a0_0 a0_1 a0_2 a0_3 = some r) :
  Calls Tryz.prog 24 #[.agg #[.int .i64 a0_0, .int .i64 a0_1, .int .i64 a0_2, .int .u64 a0_3]] w fun e w' => e = .returned (.int .i64 r) ∧ Below w.heap.size w w' := by
 unfold qCG.f at h
 obtain rfl := Option.some.inj h
 exact Ins.size_ins a0_0 a0_1 a0_2 a0_3 w
end Q
end
section
namespace Q
open Go.RowKit YA YC YB
attribute [local go_sem] max2_int min2_int max_two min_two max_three min_three max_four min_four
def foundrylaw14_CodeBack.l0 : Nat → List (S50) → List Int → List (S51) → List Int → Int → Int → Option (Bool)
 | 0, _, _, _, _, _, _ => none
 | k + 1, x0, x1, x5, x6, x8, x9 => if x9 < (x5.length : Int) then (if 0 ≤ x9 then ((qCG.f ((qA0 x5 x9).f0) ((qA0 x5 x9).f1) ((qA0 x5 x9).f2.f0) ((qA0 x5 x9).f2.f1)).bind fun a3 => (foundrylaw14_CodeBack.l0 k x0 x1 x5 x6 (wrap64 (x8 + a3)) (wrap64 (x9 + 1)))) else (none)) else ((qAB.f x6).bind fun aa => (if aa.2 = 0 then ((qAl.f k aa.1 x0).bind fun aV => (if aV = true then (if x8 = (x6.length : Int) then ((qAB.f x1).bind fun aH => (if aH.2 = 0 then ((qAC.f aH.1).bind fun aK => (if aK.2 = 0 then ((qAu.f aK.1 x1).bind fun aO => (some aO)) else (none))) else (some ((aH.1.length : Int) == 0)))) else (none)) else (none))) else (none)))
def foundrylaw14_CodeBack.f (k : Nat) (l0 : List (S50)) (l1 : List Int) : Option (Bool) := (qAz.f).bind fun aU => (if aU = true then ((qAy.f k l0).bind fun aB => ((qAC.f aB).bind fun aF => (if aF.2 = 0 then (foundrylaw14_CodeBack.l0 k l0 l1 aB aF.1 0 0) else (if (aF.1.length : Int) = 0 then ((qAB.f l1).bind fun aD => (if aD.2 = 0 then ((qAC.f aD.1).bind fun aE => (if aE.2 = 0 then ((qAu.f aE.1 l1).bind fun aM => (some aM)) else (none))) else (some ((aD.1.length : Int) == 0)))) else (none))))) else (none))
theorem foundrylaw14_CodeBack.calls (k : Nat) (A0 : Option Addr) (c0 : Nat) (l0 : List (S50)) (A1 : Option Addr) (c1 : Nat) (l1 : List Int) (r : Bool) (w : World) (hr0 : Kd.C k50 w A0 l0.length l0) (hc0 : l0.length ≤ c0) (hr1 : Kd.C (Kd.int .u8) w A1 l1.length l1) (hc1 : l1.length ≤ c1) (h : foundrylaw14_CodeBack.f k l0 l1 = some r) :
  Calls Tryz.prog 12 #[.slice A0 l0.length c0, .slice A1 l1.length c1] w fun e w' => e = .returned (.bool r) ∧ Below w.heap.size w w' := by
 have ay := am hr0
 have ax := am hc0
 clear hr0 hc0
 have ai := am hr1
 have ah := am hc1
 clear hr1 hc1
 have HB := am (Below.refl w.heap.size w)
 have H : ((qAz.f).bind fun aU => (if aU = true then ((qAy.f k l0).bind fun aB => ((qAC.f aB).bind fun aF => (if aF.2 = 0 then (foundrylaw14_CodeBack.l0 k l0 l1 aB aF.1 0 0) else (if (aF.1.length : Int) = 0 then ((qAB.f l1).bind fun aD => (if aD.2 = 0 then ((qAC.f aD.1).bind fun aE => (if aE.2 = 0 then ((qAu.f aE.1 l1).bind fun aM => (some aM)) else (none))) else (some ((aD.1.length : Int) == 0)))) else (none))))) else (none))) = some r := h
 clear h
 replace H := bm H
 obtain ⟨aU, bz, H⟩ := H
 replace H : (if aU = true then ((qAy.f k l0).bind fun aB => ((qAC.f aB).bind fun aF => (if aF.2 = 0 then (foundrylaw14_CodeBack.l0 k l0 l1 aB aF.1 0 0) else (if (aF.1.length : Int) = 0 then ((qAB.f l1).bind fun aD => (if aD.2 = 0 then ((qAC.f aD.1).bind fun aE => (if aE.2 = 0 then ((qAu.f aE.1 l1).bind fun aM => (some aM)) else (none))) else (some ((aD.1.length : Int) == 0)))) else (none))))) else (none)) = some r := H
 have A3 := am bz
 clear bz
 by_cases c4 : aU = true
 ·subst c4
  replace H : ((qAy.f k l0).bind fun aB => ((qAC.f aB).bind fun aF => (if aF.2 = 0 then (foundrylaw14_CodeBack.l0 k l0 l1 aB aF.1 0 0) else (if (aF.1.length : Int) = 0 then ((qAB.f l1).bind fun aD => (if aD.2 = 0 then ((qAC.f aD.1).bind fun aE => (if aE.2 = 0 then ((qAu.f aE.1 l1).bind fun aM => (some aM)) else (none))) else (some ((aD.1.length : Int) == 0)))) else (none))))) = some r := by rw [if_pos rfl] at H; exact H
  replace H := bm H
  obtain ⟨aB, cB, H⟩ := H
  replace H : ((qAC.f aB).bind fun aF => (if aF.2 = 0 then (foundrylaw14_CodeBack.l0 k l0 l1 aB aF.1 0 0) else (if (aF.1.length : Int) = 0 then ((qAB.f l1).bind fun aD => (if aD.2 = 0 then ((qAC.f aD.1).bind fun aE => (if aE.2 = 0 then ((qAu.f aE.1 l1).bind fun aM => (some aM)) else (none))) else (some ((aD.1.length : Int) == 0)))) else (none)))) = some r := H
  have A5 := am cB
  clear cB
  replace H := bm H
  obtain ⟨⟨aL, aS⟩, cC, H⟩ := H
  replace H : (if aS = 0 then (foundrylaw14_CodeBack.l0 k l0 l1 aB aL 0 0) else (if (aL.length : Int) = 0 then ((qAB.f l1).bind fun aD => (if aD.2 = 0 then ((qAC.f aD.1).bind fun aE => (if aE.2 = 0 then ((qAu.f aE.1 l1).bind fun aM => (some aM)) else (none))) else (some ((aD.1.length : Int) == 0)))) else (none))) = some r := H
  have A6 := am cC
  clear cC
  by_cases c7 : aS = 0
  ·rw [if_pos c7] at H
   have bE : (aS == 0) = true := beq_iff_eq.mpr c7
   have bF : (aS != 0) = false := bn c7
   clear c7
   have H' := am H
   clear H
   go_enter Tryz.func12, Tryz.ntmps12
   go_wp2_with (first | ((with_reducible refine qA7 (f := 17) rfl ?_); refine qBG (some 14) rfl rfl Tryz.func17 (by kernel_rfl) rfl #[] rfl (by (try simp only [List.map_toArray, List.map_nil]); (done)) ?_; (with_reducible refine (qAz.calls  true _ A3.o).mono ?_); rintro e w8 ⟨rfl, hb⟩; refine ⟨_, rfl, ?_⟩; have n0_ := am (qAq (by repeat ((with_reducible (exact HB.o)))) hb); clear HB; have HB := n0_; clear n0_; (skip); (skip); (skip)) | ((with_reducible refine qA7 (f := 32) rfl ?_); refine gL 17 Tryz.func32 #[.slice A0 l0.length c0] ?_; (with_reducible refine (qAy.calls k _ _ l0 aB _ ?side1 ?side2 A5.o).mono ?_); (case side1 => repeat ((exact (Kd.C_below ay.o HB.o)))); (case side2 => exact ax.o); rintro e w9 ⟨ag, rfl, aN, hb⟩; refine ⟨_, rfl, ?_⟩; have n0_ := am (Kd.R_lower aN (qAm (by repeat ((with_reducible (exact HB.o)))))); have n1_ := am (qAq (by repeat ((with_reducible (exact HB.o)))) hb); clear HB; have aA := n0_; have HB := n1_; clear n0_ n1_; (skip); (skip); (skip); obtain ⟨aw, bG, b9⟩ := Kd.R_slice aA.o; subst b9) | ((with_reducible refine qA7 (f := 19) rfl ?_); refine gL 20 Tryz.func19 #[.slice aw aB.length bG] ?_; (with_reducible refine (qAC.calls _ _ aB aL aS _ ?side1 ?side2 A6.o).mono ?_); (case side1 => repeat ((exact (Kd.R_reads' aA.o).2.2))); (case side2 => exact (Kd.R_reads' aA.o).2.1); rintro e ci ⟨af, rfl, aN, hb⟩; refine ⟨_, rfl, ?_⟩; have n0_ := am (Kd.R_below (by (with_reducible repeat (fail)); exact aA.o) hb); have n1_ := am (Kd.R_lower aN (qAm (by repeat ((with_reducible (exact HB.o)))))); have n2_ := am (qAq (by repeat ((with_reducible (exact HB.o)))) hb); clear aA; clear HB; have aA := n0_; have aI := n1_; have HB := n2_; clear n0_ n1_ n2_; (skip); (skip); (skip)))
   go_loopg [8, 9] k (fun kq v8 v9 w' => ∃ (aT : Int) (aP : Int), v8 = .int .i64 aT ∧ v9 = .int .i64 aP ∧ qAd (foundrylaw14_CodeBack.l0 kq l0 l1 aB aL aT aP = some r) ∧ qAd (kq ≤ k) ∧ qAd (Kd.R k51 51 w' w.heap.size (fun _ => True) (.slice aw aB.length bG) aB) ∧ qAd (Kd.R (Kd.int .u8) 5 w' w.heap.size (fun _ => True) af aL) ∧ qAd (Below w.heap.size w w'))
   case atStart => exact ⟨(0), (0), (by (rfl)), (by (rfl)), H', ⟨Nat.le_refl _⟩, ⟨by (with_reducible repeat (fail)); exact aA.o⟩, ⟨by (with_reducible repeat (fail)); exact aI.o⟩, ⟨by repeat ((with_reducible (exact HB.o)))⟩⟩
   case round =>
    clear H'
    skip
    skip
    skip
    skip
    skip
    obtain ⟨aT, aP, rfl, rfl, HA, cD, aJ, aG, HB⟩ := hrel
    cases gk with
    | zero => exact absurd HA.o (by simp [foundrylaw14_CodeBack.l0])
    | succ k1 =>
     have H := HA.o
     clear HA
     simp only [foundrylaw14_CodeBack.l0] at H
     by_cases aj : aP < (aB.length : Int)
     ·rw [if_pos aj] at H
      replace aj := d1 aj
      obtain ⟨bP, H⟩ := gd H
      replace bP := d1 bP
      replace H := bm H
      obtain ⟨a3, ak, H⟩ := H
      replace H : (foundrylaw14_CodeBack.l0 k1 l0 l1 aB aL (wrap64 (aT + a3)) (wrap64 (aP + 1))) = some r := H
      have cM := am ak
      clear ak
      have H' := am H
      clear H
      have ab : 0 ≤ (aP : Int) := of_decide_eq_true (by (with_reducible assumption))
      have ac : aP < (aB.length : Int) := of_decide_eq_true (by (with_reducible assumption))
      obtain ⟨b2, bH, bI, bJ, bK, bL⟩ := qBM (Kd.R_reads' aJ.o).2.2 aP ab ac
      cases bH
      replace ab := eq_true ab
      replace ac := eq_true ac
      go_wp2_with (((with_reducible refine qA7 (f := 24) rfl ?_); refine gL 36 Tryz.func24 #[.agg #[.int .i64 ((qA0 aB aP).f0), .int .i64 ((qA0 aB aP).f1), .int .i64 ((qA0 aB aP).f2.f0), .int .u64 ((qA0 aB aP).f2.f1)]] ?_; (with_reducible refine (qCG.calls ((qA0 aB aP).f0) ((qA0 aB aP).f1) ((qA0 aB aP).f2.f0) ((qA0 aB aP).f2.f1) a3 _ cM.o).mono ?_); rintro e cj ⟨rfl, hb⟩; refine ⟨_, rfl, ?_⟩; have n0_ := am (Kd.R_below (by (with_reducible repeat (fail)); exact aJ.o) hb); have n1_ := am (Kd.R_below (by (with_reducible repeat (fail)); exact aG.o) hb); have n2_ := am (qAq (by repeat ((with_reducible (exact HB.o)))) hb); clear aJ; clear aG; clear HB; have aJ := n0_; have aG := n1_; have HB := n2_; clear n0_ n1_ n2_; (skip); (skip); (skip)))
      go_roundg k1
      case measure => have := cD.o; omega
      case rel => exact ⟨(wrap64 (aT + a3)), (wrap64 (aP + 1)), (by (rfl)), (by (rfl)), H', ⟨by have := cD.o; omega⟩, ⟨by (with_reducible repeat (fail)); exact aJ.o⟩, ⟨by (with_reducible repeat (fail)); exact aG.o⟩, ⟨by repeat ((with_reducible (exact HB.o)))⟩⟩
     rw [if_neg aj] at H
     replace aj := d0 aj
     replace H := bm H
     obtain ⟨⟨a4, a5⟩, al, H⟩ := H
     replace H : (if a5 = 0 then ((qAl.f k1 a4 l0).bind fun aV => (if aV = true then (if aT = (aL.length : Int) then ((qAB.f l1).bind fun aH => (if aH.2 = 0 then ((qAC.f aH.1).bind fun aK => (if aK.2 = 0 then ((qAu.f aK.1 l1).bind fun aO => (some aO)) else (none))) else (some ((aH.1.length : Int) == 0)))) else (none)) else (none))) else (none)) = some r := H
     have bs := am al
     clear al
     obtain ⟨bQ, H⟩ := gd H
     have cF : (a5 != 0) = false := bn bQ
     clear bQ
     replace H := bm H
     obtain ⟨aV, an, H⟩ := H
     replace H : (if aV = true then (if aT = (aL.length : Int) then ((qAB.f l1).bind fun aH => (if aH.2 = 0 then ((qAC.f aH.1).bind fun aK => (if aK.2 = 0 then ((qAu.f aK.1 l1).bind fun aO => (some aO)) else (none))) else (some ((aH.1.length : Int) == 0)))) else (none)) else (none)) = some r := H
     have bu := am an
     clear an
     by_cases bR : aV = true
     rotate_left
     ·replace bR := Bool.eq_false_iff.mpr bR
      subst bR
      replace H : (none) = some r := by rw [if_neg (show ¬ (false = true) by decide)] at H; exact H
      exact absurd H (by simp)
     subst bR
     replace H : (if aT = (aL.length : Int) then ((qAB.f l1).bind fun aH => (if aH.2 = 0 then ((qAC.f aH.1).bind fun aK => (if aK.2 = 0 then ((qAu.f aK.1 l1).bind fun aO => (some aO)) else (none))) else (some ((aH.1.length : Int) == 0)))) else (none)) = some r := by rw [if_pos rfl] at H; exact H
     obtain ⟨bS, H⟩ := gd H
     have cG : (aT != (aL.length : Int)) = false := bn bS
     clear bS
     replace H := bm H
     obtain ⟨⟨aW, aX⟩, ao, H⟩ := H
     replace H : (if aX = 0 then ((qAC.f aW).bind fun aK => (if aK.2 = 0 then ((qAu.f aK.1 l1).bind fun aO => (some aO)) else (none))) else (some ((aW.length : Int) == 0))) = some r := H
     have bw := am ao
     clear ao
     by_cases bA : aX = 0
     rotate_left
     ·rw [if_neg bA] at H
      have bB : (aX != 0) = true := bne_iff_ne.mpr bA
      obtain rfl := Option.some.inj H
      obtain ⟨bY, b5, bg⟩ := Kd.R_slice aG.o
      subst bg
      go_wp2_with (first | ((with_reducible refine qA7 (f := 39) rfl ?_); refine gL 40 Tryz.func39 #[.slice bY aL.length b5] ?_; (with_reducible refine (qAB.calls _ _ aL a4 a5 _ ?side1 ?side2 bs.o).mono ?_); (case side1 => repeat ((exact (Kd.R_reads' aG.o).2.2))); (case side2 => exact (Kd.R_reads' aG.o).2.1); rintro e co ⟨bM, rfl, aN, hb⟩; refine ⟨_, rfl, ?_⟩; have n0_ := am (Kd.R_elder' (by (with_reducible repeat (fail)); exact aJ.o) (Kd.R_base aN) hb); have n1_ := am (Kd.R_below (by (with_reducible repeat (fail)); exact aG.o) hb); have n2_ := am (Kd.R_lower (Kd.R_new' aN (Kd.R_lt (by (with_reducible repeat (fail)); exact aJ.o))) (qAm (by repeat ((with_reducible (exact HB.o)))))); have n3_ := am (qAq (by repeat ((with_reducible (exact HB.o)))) hb); clear aJ; clear aG; clear HB; have aJ := n0_; have aG := n1_; have aC := n2_; have HB := n3_; clear n0_ n1_ n2_ n3_; (skip); (skip); (skip); obtain ⟨cT, cc, bh⟩ := Kd.R_slice aC.o; subst bh) | (go_at_call 35; (with_reducible refine (qAl.calls k1 _ _ a4 _ _ l0 true _ ?side1 ?side2 ?side3 ?side4 bu.o).mono ?_); (case side1 => repeat ((exact (Kd.R_reads' aC.o).2.2))); (case side2 => exact (Kd.R_reads' aC.o).2.1); (case side3 => repeat ((exact (Kd.C_below ay.o HB.o)))); (case side4 => exact ax.o); rintro e cp ⟨rfl, hb⟩; have n0_ := am (Kd.R_below (by (with_reducible repeat (fail)); exact aJ.o) hb); have n1_ := am (Kd.R_below (by (with_reducible repeat (fail)); exact aG.o) hb); have n2_ := am (Kd.R_below (by (with_reducible repeat (fail)); exact aC.o) hb); have n3_ := am (qAq (by repeat ((with_reducible (exact HB.o)))) hb); clear aJ; clear aG; clear aC; clear HB; have aJ := n0_; have aG := n1_; have aC := n2_; have HB := n3_; clear n0_ n1_ n2_ n3_; (skip); (skip); (skip)) | ((with_reducible refine qA7 (f := 39) rfl ?_); refine gL 62 Tryz.func39 #[.slice A1 l1.length c1] ?_; (with_reducible refine (qAB.calls _ _ l1 aW aX _ ?side1 ?side2 bw.o).mono ?_); (case side1 => repeat ((exact (Kd.C_below ai.o HB.o)))); (case side2 => exact ah.o); rintro e cq ⟨bN, rfl, aN, hb⟩; refine ⟨_, rfl, ?_⟩; have n0_ := am (Kd.R_elder' (by (with_reducible repeat (fail)); exact aJ.o) (Kd.R_base aN) hb); have n1_ := am (Kd.R_below (by (with_reducible repeat (fail)); exact aG.o) hb); have n2_ := am (Kd.R_elder' (by (with_reducible repeat (fail)); exact aC.o) (Kd.R_base aN) hb); have n3_ := am (Kd.R_lower (Kd.R_new' (Kd.R_new' aN (Kd.R_lt (by (with_reducible repeat (fail)); exact aJ.o))) (Kd.R_lt (by (with_reducible repeat (fail)); exact aC.o))) (qAm (by repeat ((with_reducible (exact HB.o)))))); have n4_ := am (qAq (by repeat ((with_reducible (exact HB.o)))) hb); clear aJ; clear aG; clear aC; clear HB; have aJ := n0_; have aC := n2_; have aQ := n3_; have HB := n4_; clear n0_ n1_ n2_ n3_ n4_; (skip); (skip); (skip); obtain ⟨cU, cd, bi⟩ := Kd.R_slice aQ.o; subst bi))
      go_ret
      exact ⟨by (rfl), by repeat ((with_reducible (exact HB.o)))⟩
     rw [if_pos bA] at H
     have bB : (aX != 0) = false := bn bA
     clear bA
     replace H := bm H
     obtain ⟨⟨ad, a8⟩, ap, H⟩ := H
     replace H : (if a8 = 0 then ((qAu.f ad l1).bind fun aO => (some aO)) else (none)) = some r := H
     have cN := am ap
     clear ap
     obtain ⟨bT, H⟩ := gd H
     have cH : (a8 == 0) = true := beq_iff_eq.mpr bT
     clear bT
     replace H := bm H
     obtain ⟨aO, aq, H⟩ := H
     replace H : (some aO) = some r := H
     have cO := am aq
     clear aq
     obtain rfl := Option.some.inj H
     obtain ⟨bW, b3, ba⟩ := Kd.R_slice aG.o
     subst ba
     go_wp2_with (first | ((with_reducible refine qA7 (f := 39) rfl ?_); refine gL 40 Tryz.func39 #[.slice bW aL.length b3] ?_; (with_reducible refine (qAB.calls _ _ aL a4 a5 _ ?side1 ?side2 bs.o).mono ?_); (case side1 => repeat ((exact (Kd.R_reads' aG.o).2.2))); (case side2 => exact (Kd.R_reads' aG.o).2.1); rintro e ck ⟨bM, rfl, aN, hb⟩; refine ⟨_, rfl, ?_⟩; have n0_ := am (Kd.R_elder' (by (with_reducible repeat (fail)); exact aJ.o) (Kd.R_base aN) hb); have n1_ := am (Kd.R_below (by (with_reducible repeat (fail)); exact aG.o) hb); have n2_ := am (Kd.R_lower (Kd.R_new' aN (Kd.R_lt (by (with_reducible repeat (fail)); exact aJ.o))) (qAm (by repeat ((with_reducible (exact HB.o)))))); have n3_ := am (qAq (by repeat ((with_reducible (exact HB.o)))) hb); clear aJ; clear aG; clear HB; have aJ := n0_; have aG := n1_; have aC := n2_; have HB := n3_; clear n0_ n1_ n2_ n3_; (skip); (skip); (skip); obtain ⟨cR, cZ, bb⟩ := Kd.R_slice aC.o; subst bb) | (go_at_call 35; (with_reducible refine (qAl.calls k1 _ _ a4 _ _ l0 true _ ?side1 ?side2 ?side3 ?side4 bu.o).mono ?_); (case side1 => repeat ((exact (Kd.R_reads' aC.o).2.2))); (case side2 => exact (Kd.R_reads' aC.o).2.1); (case side3 => repeat ((exact (Kd.C_below ay.o HB.o)))); (case side4 => exact ax.o); rintro e cl ⟨rfl, hb⟩; have n0_ := am (Kd.R_below (by (with_reducible repeat (fail)); exact aJ.o) hb); have n1_ := am (Kd.R_below (by (with_reducible repeat (fail)); exact aG.o) hb); have n2_ := am (Kd.R_below (by (with_reducible repeat (fail)); exact aC.o) hb); have n3_ := am (qAq (by repeat ((with_reducible (exact HB.o)))) hb); clear aJ; clear aG; clear aC; clear HB; have aJ := n0_; have aG := n1_; have aC := n2_; have HB := n3_; clear n0_ n1_ n2_ n3_; (skip); (skip); (skip)) | ((with_reducible refine qA7 (f := 39) rfl ?_); refine gL 62 Tryz.func39 #[.slice A1 l1.length c1] ?_; (with_reducible refine (qAB.calls _ _ l1 aW aX _ ?side1 ?side2 bw.o).mono ?_); (case side1 => repeat ((exact (Kd.C_below ai.o HB.o)))); (case side2 => exact ah.o); rintro e cm ⟨bN, rfl, aN, hb⟩; refine ⟨_, rfl, ?_⟩; have n0_ := am (Kd.R_elder' (by (with_reducible repeat (fail)); exact aJ.o) (Kd.R_base aN) hb); have n1_ := am (Kd.R_below (by (with_reducible repeat (fail)); exact aG.o) hb); have n2_ := am (Kd.R_elder' (by (with_reducible repeat (fail)); exact aC.o) (Kd.R_base aN) hb); have n3_ := am (Kd.R_lower (Kd.R_new' (Kd.R_new' aN (Kd.R_lt (by (with_reducible repeat (fail)); exact aJ.o))) (Kd.R_lt (by (with_reducible repeat (fail)); exact aC.o))) (qAm (by repeat ((with_reducible (exact HB.o)))))); have n4_ := am (qAq (by repeat ((with_reducible (exact HB.o)))) hb); clear aJ; clear aG; clear aC; clear HB; have aJ := n0_; have aG := n1_; have aC := n2_; have aQ := n3_; have HB := n4_; clear n0_ n1_ n2_ n3_ n4_; (skip); (skip); (skip); obtain ⟨bX, b4, bc⟩ := Kd.R_slice aQ.o; subst bc) | ((with_reducible refine qA7 (f := 19) rfl ?_); refine gL 72 Tryz.func19 #[.slice bX aW.length b4] ?_; (with_reducible refine (qAC.calls _ _ aW ad a8 _ ?side1 ?side2 cN.o).mono ?_); (case side1 => repeat ((exact (Kd.R_reads' aQ.o).2.2))); (case side2 => exact (Kd.R_reads' aQ.o).2.1); rintro e cn ⟨cK, rfl, aN, hb⟩; refine ⟨_, rfl, ?_⟩; have n0_ := am (Kd.R_below (by (with_reducible repeat (fail)); exact aJ.o) hb); have n1_ := am (Kd.R_elder' (by (with_reducible repeat (fail)); exact aG.o) (Kd.R_base aN) hb); have n2_ := am (Kd.R_below (by (with_reducible repeat (fail)); exact aC.o) hb); have n3_ := am (Kd.R_below (by (with_reducible repeat (fail)); exact aQ.o) hb); have n4_ := am (Kd.R_lower (Kd.R_new' aN (Kd.R_lt (by (with_reducible repeat (fail)); exact aG.o))) (qAm (by repeat ((with_reducible (exact HB.o)))))); have n5_ := am (qAq (by repeat ((with_reducible (exact HB.o)))) hb); clear aJ; clear aG; clear aC; clear aQ; clear HB; have aG := n1_; have a6 := n4_; have HB := n5_; clear n0_ n1_ n2_ n3_ n4_ n5_; (skip); (skip); (skip); obtain ⟨cS, ca, bd⟩ := Kd.R_slice a6.o; subst bd) | (go_at_call 22; (with_reducible refine (qAu.calls _ _ ad _ _ l1 aO _ ?side1 ?side2 ?side3 ?side4 cO.o).mono ?_); (case side1 => repeat ((exact (Kd.R_reads' a6.o).2.2))); (case side2 => exact (Kd.R_reads' a6.o).2.1); (case side3 => repeat ((exact (Kd.C_below ai.o HB.o)))); (case side4 => exact ah.o); rintro e w' ⟨rfl, ⟨nd, rfl⟩⟩))
     go_ret
     exact ⟨by (rfl), by repeat ((with_reducible first | exact HB.o | apply qAe))⟩
  ·rw [if_neg c7] at H
   have bE : (aS == 0) = false := bf c7
   have bF : (aS != 0) = true := bne_iff_ne.mpr c7
   by_cases bU : (aL.length : Int) = 0
   ·rw [if_pos bU] at H
    have cI : ((aL.length : Int) != 0) = false := bn bU
    clear bU
    replace H := bm H
    obtain ⟨⟨aY, aZ⟩, ar, H⟩ := H
    replace H : (if aZ = 0 then ((qAC.f aY).bind fun aE => (if aE.2 = 0 then ((qAu.f aE.1 l1).bind fun aM => (some aM)) else (none))) else (some ((aY.length : Int) == 0))) = some r := H
    have cA := am ar
    clear ar
    by_cases bC : aZ = 0
    ·rw [if_pos bC] at H
     have bD : (aZ != 0) = false := bn bC
     clear bC
     replace H := bm H
     obtain ⟨⟨ae, a9⟩, au, H⟩ := H
     replace H : (if a9 = 0 then ((qAu.f ae l1).bind fun aM => (some aM)) else (none)) = some r := H
     have cP := am au
     clear au
     by_cases bV : a9 = 0
     ·rw [if_pos bV] at H
      have cJ : (a9 == 0) = true := beq_iff_eq.mpr bV
      clear bV
      replace H := bm H
      obtain ⟨aM, av, H⟩ := H
      replace H : (some aM) = some r := H
      have cQ := am av
      clear av
      obtain rfl := Option.some.inj H
      go_enter Tryz.func12, Tryz.ntmps12
      go_wp2_with (first | ((with_reducible refine qA7 (f := 17) rfl ?_); refine qBG (some 14) rfl rfl Tryz.func17 (by kernel_rfl) rfl #[] rfl (by (try simp only [List.map_toArray, List.map_nil]); (done)) ?_; (with_reducible refine (qAz.calls  true _ A3.o).mono ?_); rintro e cr ⟨rfl, hb⟩; refine ⟨_, rfl, ?_⟩; have n0_ := am (qAq (by repeat ((with_reducible (exact HB.o)))) hb); clear HB; have HB := n0_; clear n0_; (skip); (skip); (skip)) | ((with_reducible refine qA7 (f := 32) rfl ?_); refine gL 17 Tryz.func32 #[.slice A0 l0.length c0] ?_; (with_reducible refine (qAy.calls k _ _ l0 aB _ ?side1 ?side2 A5.o).mono ?_); (case side1 => repeat ((exact (Kd.C_below ay.o HB.o)))); (case side2 => exact ax.o); rintro e cs ⟨ag, rfl, aN, hb⟩; refine ⟨_, rfl, ?_⟩; have n0_ := am (Kd.R_lower aN (qAm (by repeat ((with_reducible (exact HB.o)))))); have n1_ := am (qAq (by repeat ((with_reducible (exact HB.o)))) hb); clear HB; have aA := n0_; have HB := n1_; clear n0_ n1_; (skip); (skip); (skip); obtain ⟨bZ, b6, bj⟩ := Kd.R_slice aA.o; subst bj) | ((with_reducible refine qA7 (f := 19) rfl ?_); refine gL 20 Tryz.func19 #[.slice bZ aB.length b6] ?_; (with_reducible refine (qAC.calls _ _ aB aL aS _ ?side1 ?side2 A6.o).mono ?_); (case side1 => repeat ((exact (Kd.R_reads' aA.o).2.2))); (case side2 => exact (Kd.R_reads' aA.o).2.1); rintro e ct ⟨af, rfl, aN, hb⟩; refine ⟨_, rfl, ?_⟩; have n0_ := am (Kd.R_below (by (with_reducible repeat (fail)); exact aA.o) hb); have n1_ := am (Kd.R_lower aN (qAm (by repeat ((with_reducible (exact HB.o)))))); have n2_ := am (qAq (by repeat ((with_reducible (exact HB.o)))) hb); clear aA; clear HB; have aA := n0_; have aI := n1_; have HB := n2_; clear n0_ n1_ n2_; (skip); (skip); (skip); obtain ⟨cV, ce, bk⟩ := Kd.R_slice aI.o; subst bk) | ((with_reducible refine qA7 (f := 39) rfl ?_); refine gL 62 Tryz.func39 #[.slice A1 l1.length c1] ?_; (with_reducible refine (qAB.calls _ _ l1 aY aZ _ ?side1 ?side2 cA.o).mono ?_); (case side1 => repeat ((exact (Kd.C_below ai.o HB.o)))); (case side2 => exact ah.o); rintro e cu ⟨bO, rfl, aN, hb⟩; refine ⟨_, rfl, ?_⟩; have n0_ := am (Kd.R_elder' (by (with_reducible repeat (fail)); exact aA.o) (Kd.R_base aN) hb); have n1_ := am (Kd.R_below (by (with_reducible repeat (fail)); exact aI.o) hb); have n2_ := am (Kd.R_lower (Kd.R_new' aN (Kd.R_lt (by (with_reducible repeat (fail)); exact aA.o))) (qAm (by repeat ((with_reducible (exact HB.o)))))); have n3_ := am (qAq (by repeat ((with_reducible (exact HB.o)))) hb); clear aA; clear aI; clear HB; have aA := n0_; have aI := n1_; have aR := n2_; have HB := n3_; clear n0_ n1_ n2_ n3_; (skip); (skip); (skip); obtain ⟨b0, b7, bl⟩ := Kd.R_slice aR.o; subst bl) | ((with_reducible refine qA7 (f := 19) rfl ?_); refine gL 72 Tryz.func19 #[.slice b0 aY.length b7] ?_; (with_reducible refine (qAC.calls _ _ aY ae a9 _ ?side1 ?side2 cP.o).mono ?_); (case side1 => repeat ((exact (Kd.R_reads' aR.o).2.2))); (case side2 => exact (Kd.R_reads' aR.o).2.1); rintro e cv ⟨cL, rfl, aN, hb⟩; refine ⟨_, rfl, ?_⟩; have n0_ := am (Kd.R_below (by (with_reducible repeat (fail)); exact aA.o) hb); have n1_ := am (Kd.R_elder' (by (with_reducible repeat (fail)); exact aI.o) (Kd.R_base aN) hb); have n2_ := am (Kd.R_below (by (with_reducible repeat (fail)); exact aR.o) hb); have n3_ := am (Kd.R_lower (Kd.R_new' aN (Kd.R_lt (by (with_reducible repeat (fail)); exact aI.o))) (qAm (by repeat ((with_reducible (exact HB.o)))))); have n4_ := am (qAq (by repeat ((with_reducible (exact HB.o)))) hb); clear aA; clear aI; clear aR; clear HB; have aI := n1_; have a7 := n3_; have HB := n4_; clear n0_ n1_ n2_ n3_ n4_; (skip); (skip); (skip); obtain ⟨cW, cf, bo⟩ := Kd.R_slice a7.o; subst bo) | (go_at_call 22; (with_reducible refine (qAu.calls _ _ ae _ _ l1 aM _ ?side1 ?side2 ?side3 ?side4 cQ.o).mono ?_); (case side1 => repeat ((exact (Kd.R_reads' a7.o).2.2))); (case side2 => exact (Kd.R_reads' a7.o).2.1); (case side3 => repeat ((exact (Kd.C_below ai.o HB.o)))); (case side4 => exact ah.o); rintro e w' ⟨rfl, ⟨nd, rfl⟩⟩))
      go_ret
      exact ⟨by (rfl), by repeat ((with_reducible first | exact HB.o | apply qAe))⟩
     ·rw [if_neg bV] at H
      exact absurd H (by simp)
    ·rw [if_neg bC] at H
     have bD : (aZ != 0) = true := bne_iff_ne.mpr bC
     obtain rfl := Option.some.inj H
     go_enter Tryz.func12, Tryz.ntmps12
     go_wp2_with (first | ((with_reducible refine qA7 (f := 17) rfl ?_); refine qBG (some 14) rfl rfl Tryz.func17 (by kernel_rfl) rfl #[] rfl (by (try simp only [List.map_toArray, List.map_nil]); (done)) ?_; (with_reducible refine (qAz.calls  true _ A3.o).mono ?_); rintro e cw ⟨rfl, hb⟩; refine ⟨_, rfl, ?_⟩; have n0_ := am (qAq (by repeat ((with_reducible (exact HB.o)))) hb); clear HB; have HB := n0_; clear n0_; (skip); (skip); (skip)) | ((with_reducible refine qA7 (f := 32) rfl ?_); refine gL 17 Tryz.func32 #[.slice A0 l0.length c0] ?_; (with_reducible refine (qAy.calls k _ _ l0 aB _ ?side1 ?side2 A5.o).mono ?_); (case side1 => repeat ((exact (Kd.C_below ay.o HB.o)))); (case side2 => exact ax.o); rintro e cx ⟨ag, rfl, aN, hb⟩; refine ⟨_, rfl, ?_⟩; have n0_ := am (Kd.R_lower aN (qAm (by repeat ((with_reducible (exact HB.o)))))); have n1_ := am (qAq (by repeat ((with_reducible (exact HB.o)))) hb); clear HB; have aA := n0_; have HB := n1_; clear n0_ n1_; (skip); (skip); (skip); obtain ⟨b1, b8, bp⟩ := Kd.R_slice aA.o; subst bp) | ((with_reducible refine qA7 (f := 19) rfl ?_); refine gL 20 Tryz.func19 #[.slice b1 aB.length b8] ?_; (with_reducible refine (qAC.calls _ _ aB aL aS _ ?side1 ?side2 A6.o).mono ?_); (case side1 => repeat ((exact (Kd.R_reads' aA.o).2.2))); (case side2 => exact (Kd.R_reads' aA.o).2.1); rintro e cy ⟨af, rfl, aN, hb⟩; refine ⟨_, rfl, ?_⟩; have n0_ := am (Kd.R_below (by (with_reducible repeat (fail)); exact aA.o) hb); have n1_ := am (Kd.R_lower aN (qAm (by repeat ((with_reducible (exact HB.o)))))); have n2_ := am (qAq (by repeat ((with_reducible (exact HB.o)))) hb); clear aA; clear HB; have aA := n0_; have aI := n1_; have HB := n2_; clear n0_ n1_ n2_; (skip); (skip); (skip); obtain ⟨cX, cg, bq⟩ := Kd.R_slice aI.o; subst bq) | ((with_reducible refine qA7 (f := 39) rfl ?_); refine gL 62 Tryz.func39 #[.slice A1 l1.length c1] ?_; (with_reducible refine (qAB.calls _ _ l1 aY aZ _ ?side1 ?side2 cA.o).mono ?_); (case side1 => repeat ((exact (Kd.C_below ai.o HB.o)))); (case side2 => exact ah.o); rintro e cz ⟨bO, rfl, aN, hb⟩; refine ⟨_, rfl, ?_⟩; have n0_ := am (Kd.R_elder' (by (with_reducible repeat (fail)); exact aA.o) (Kd.R_base aN) hb); have n1_ := am (Kd.R_below (by (with_reducible repeat (fail)); exact aI.o) hb); have n2_ := am (Kd.R_lower (Kd.R_new' aN (Kd.R_lt (by (with_reducible repeat (fail)); exact aA.o))) (qAm (by repeat ((with_reducible (exact HB.o)))))); have n3_ := am (qAq (by repeat ((with_reducible (exact HB.o)))) hb); clear aA; clear aI; clear HB; have aA := n0_; have aR := n2_; have HB := n3_; clear n0_ n1_ n2_ n3_; (skip); (skip); (skip); obtain ⟨cY, ch, br⟩ := Kd.R_slice aR.o; subst br))
     go_ret
     exact ⟨by (rfl), by repeat ((with_reducible (exact HB.o)))⟩
   ·rw [if_neg bU] at H
    exact absurd H (by simp)
 ·replace c4 := Bool.eq_false_iff.mpr c4
  subst c4
  replace H : (none) = some r := by rw [if_neg (show ¬ (false = true) by decide)] at H; exact H
  exact absurd H (by simp)
end Q
end
section
namespace Q
open Go.RowKit YA YC YB
open Val Ins DecLaw Enc Wr
namespace C14
theorem u8_wfB {n : Int} (h : (Lit.int .u8 n).wf = true) : 0 ≤ n ∧ n < 256 := by
 simp [Lit.wf, IntKind.min, IntKind.max, IntKind.bits, IntKind.signed] at h
 omega
theorem dec_cases (b : List Int) (hb : qBT b) : (∃ m, qAB.f b = some (m.map toS, 0) ∧ DecOk b m) ∨ ∃ e, e ≠ 0 ∧ qAB.f b = some ([], e) := by
 have hD : qAB.f b = some ((decL (b.length + 1) [] b).1.map toS, (decL (b.length + 1) [] b).2) := by
  unfold qAB.f
  rw [if_pos]
  exact List.all_eq_true.2 fun x hx => by simpa using hb x hx
 rcases qEv b (b.length + 1) [] b (by omega) (by simp) (by simp) (by simp [encB]) with ⟨m, hm, ho⟩ | ⟨hm, _⟩ | ⟨hm, _⟩
 ·exact .inl ⟨m, by rw [hD, hm], ho⟩
 ·exact .inr ⟨51, by decide, by rw [hD, hm]; rfl⟩
 exact .inr ⟨3, by decide, by rw [hD, hm]; rfl⟩
theorem dec_of {b : List Int} {m : List InsD} (hb : qBT b) (h : DecOk b m) : qAB.f b = some (m.map toS, 0) := by
 have hD : qAB.f b = some ((decL (b.length + 1) [] b).1.map toS, (decL (b.length + 1) [] b).2) := by
  unfold qAB.f
  rw [if_pos]
  exact List.all_eq_true.2 fun x hx => by simpa using hb x hx
 rcases qEv b (b.length + 1) [] b (by omega) (by simp) (by simp) (by simp [encB]) with ⟨m', hm, ho⟩ | ⟨_, hbad⟩ | ⟨_, hbig⟩
 ·obtain rfl := ok_ok h ho
  rw [hD, hm]
 ·exact (ok_bad h hbad).elim
 exact (ok_big h hbig).elim
theorem toD_toS (m : List InsD) : (m.map toS).map toD = m := by
 rw [List.map_map]
 exact List.map_id m
theorem toS_toD (l : List S51) : (l.map toD).map toS = l := by
 rw [List.map_map]
 exact List.map_id l
theorem enc_of {b : List Int} {m : List InsD} (h : DecOk b m) : qAC.f (m.map toS) = some (b, 0) := by
 obtain ⟨h1, h2, h3⟩ := h
 unfold qAC.f encS
 rw [if_pos (List.all_eq_true.2 fun x hx => ?_), if_neg (by rw [List.length_map]; omega), if_pos (List.all_eq_true.2 fun x hx => ?_), toD_toS, ← h3]
 ·obtain ⟨y, hy, rfl⟩ := List.mem_map.1 hx
  exact (h1 y hy).1
 obtain ⟨y, hy, rfl⟩ := List.mem_map.1 hx
 exact decide_eq_true (h1 y hy).2
theorem part2 (b : List Int) (hb : qBT b) : ((qAB.f b).bind fun bt => (if bt.2 = 0 then ((qAC.f bt.1).bind fun bt2 => (if bt2.2 = 0 then ((qAu.f bt2.1 b).bind fun t => (some t)) else (none))) else (some ((bt.1.length : Int) == 0)))) = some true := by
 rcases dec_cases b hb with ⟨m, hm, ho⟩ | ⟨e, he, hm⟩
 ·rw [hm, Option.bind_some, if_pos rfl, enc_of ho, Option.bind_some, if_pos rfl]
  unfold qAu.f
  rw [Option.bind_some, beq_self_eq_true]
 rw [hm, Option.bind_some, if_neg he]
 rfl
theorem ins_b (x : InsD) : qBT (insB x) := fun y hy => by
 unfold insB at hy
 rcases List.mem_cons.1 hy with h | h
 ·rw [h]; omega
 split at h
 ·rcases List.mem_cons.1 h with h | h
  ·rw [h]; omega
  exact be_bytes _ _ y h
 exact be_bytes _ _ y h
theorem enc_b (l : List InsD) : qBT (encB l) := fun y hy => by
 unfold encB at hy
 obtain ⟨x, _, hx⟩ := List.mem_flatMap.1 hy
 exact ins_b x y hx
theorem back_ev (l : List S50) (b : List Int) (hg : l.length ≤ 1048576 ∧ ∀ x ∈ l, qBW 1048576 x) (hh : b.length ≤ 1048576 ∧ ∀ x ∈ b, (Lit.int .u8 x).wf = true) : Ev (fun k => foundrylaw14_CodeBack.f k l b) true := by
 obtain ⟨hl, hx⟩ := hg
 have hb : qBT b := fun x hm => u8_wfB (hh.2 x hm)
 have hu : ∀ x ∈ l, 0 ≤ x.f2.f1 ∧ x.f2.f1 < 18446744073709551616 := fun x hm => u64_bounds (hx x hm).2.2.2
 have hE : qAC.f (l.map ofI) = some (encS (l.map ofI)) := by
  unfold qAC.f
  rw [if_pos (List.all_eq_true.2 fun x hm => ?_)]
  obtain ⟨y, hy, rfl⟩ := List.mem_map.1 hm
  exact decide_eq_true (hu y hy)
 have p2 := part2 b hb
 unfold foundrylaw14_CodeBack.f
 simp only [live_eq, Option.bind_some, if_true]
 refine Ev.bind (mine_ev l hl) ?_
 simp only [hE, Option.bind_some]
 by_cases h4 : 4096 < l.length
 ·have e : encS (l.map ofI) = ([], 3) := by unfold encS; rw [if_pos (by rw [List.length_map]; exact h4)]
  simp only [e, show ¬ ((3 : Int) = 0) from by decide, if_false, List.length_nil, Int.natCast_zero, if_true, p2]
  exact Ev.now _
 by_cases hok : (l.map ofI).all okS = true
 rotate_left
 ·have e : encS (l.map ofI) = ([], 51) := by unfold encS; rw [if_neg (by rw [List.length_map]; exact h4), if_neg hok]
  simp only [e, show ¬ ((51 : Int) = 0) from by decide, if_false, List.length_nil, Int.natCast_zero, if_true, p2]
  exact Ev.now _
 have e : encS (l.map ofI) = (encB ((l.map ofI).map toD), 0) := by unfold encS; rw [if_neg (by rw [List.length_map]; exact h4), if_pos hok]
 simp only [e, if_true]
 have hD : DecOk (encB ((l.map ofI).map toD)) ((l.map ofI).map toD) := by
  refine ⟨fun x hm => ?_, by rw [List.length_map, List.length_map]; omega, rfl⟩
  obtain ⟨y, hy, rfl⟩ := List.mem_map.1 hm
  refine ⟨List.all_eq_true.1 hok y hy, ?_⟩
  obtain ⟨z, hz, rfl⟩ := List.mem_map.1 hy
  exact hu z hz
 have hdec := dec_of (enc_b _) hD
 rw [toS_toD] at hdec
 have hlen := encB_len ((l.map ofI).map toD)
 rw [List.length_map, List.length_map] at hlen
 generalize hB : encB ((l.map ofI).map toD) = B at hdec hlen
 have hin : ∀ x ∈ l.map ofI, ((insB (toD x)).length : Int) = sizeI x.f0 := fun x hm => qEj (List.all_eq_true.1 hok x hm)
 have loop : ∀ (d : Nat) (i : Int) (n : Int), 0 ≤ i → (l.length : Int) - i = d → n + ((encB (((l.map ofI).drop i.toNat).map toD)).length : Int) = B.length → 0 ≤ n → Ev (fun k => foundrylaw14_CodeBack.l0 k l b (l.map ofI) B n i) true := by
  intro d
  induction d with
  | zero =>
   intro i n h0 hd hn hn0
   rw [List.drop_eq_nil_of_le (by rw [List.length_map]; omega)] at hn
   have hn : n = B.length := by simpa [encB] using hn
   refine Ev.step (f := fun k => (qAl.f k (l.map ofI) l).bind fun t => if t = true then (if n = (B.length : Int) then some true else none) else none) (fun k => ?_) (Ev.bind (same_ev l (by omega)) ?_)
   ·simp only [foundrylaw14_CodeBack.l0, hdec, Option.bind_some, if_true, p2]
    rw [if_neg (by rw [List.length_map]; omega)]
   simp only [hn, if_true]
   exact Ev.now _
  | succ d ih =>
   intro i n h0 hd hn hn0
   have hi : i < ((l.map ofI).length : Int) := by rw [List.length_map]; omega
   have hc := qCA (l.map ofI) z51 i h0 hi
   have hm := getD_mem (l.map ofI) z51 i h0 hi
   rw [hc, List.map_cons, show ∀ x ys, encB (x :: ys) = insB x ++ encB ys from fun _ _ => rfl, List.length_append] at hn
   have hs := hin _ hm
   change ((insB (toD (qA0 (l.map ofI) i))).length : Int) = sizeI (qA0 (l.map ofI) i).f0 at hs
   change n + (((insB (toD (qA0 (l.map ofI) i))).length + (encB (((l.map ofI).drop (i + 1).toNat).map toD)).length : Nat) : Int) = B.length at hn
   refine Ev.step (f := fun k => foundrylaw14_CodeBack.l0 k l b (l.map ofI) B (n + sizeI (qA0 (l.map ofI) i).f0) (i + 1)) (fun k => ?_) (ih (i + 1) _ (by omega) (by omega) (by rw [← hs]; omega) (by rw [← hs]; omega))
   simp only [foundrylaw14_CodeBack.l0, qCG.f, Option.bind_some]
   rw [if_pos hi, if_pos h0, qDc (n := l.length) h0 (by omega) (by omega)]
   rw [show wrap64 (n + sizeI (qA0 (l.map ofI) i).f0) = n + sizeI (qA0 (l.map ofI) i).f0 from by rw [← hs]; unfold wrap64; omega]
 exact loop l.length 0 0 (by omega) (by omega) (by rw [← hB]; simp) (by omega)
end C14
end Q
end
section
namespace codeBack
open Go.ChangeShapes Go.WideShapes Go.ChangeAt Go.RowKit
theorem own : ownKnob Tryz.prog.godebug = none := by kernel_rfl
theorem laidOut : laidOutB Tryz.prog = true := by kernel_rfl
theorem contract (H : Type) (enc : TypeId × Value → H) (W : World) (base : Nat) (args : Array Value) (ds gs : List (DataW H)) (before : List MemPlace)
  (hval0 : ∀ (j : Nat) t v, Tryz.f12.params[j]? = some t → args[j]? = some v → Value.okWide Tryz.prog W .any base t v)
  (hW : DataW.Whole enc Tryz.prog Tryz.f12.params.toList Rows.codeBackSpec.vars false W args.toList ds gs before) (hk0 : decide (Rows.uptoBulkAll (ds ++ gs) ≤ 1048576) = true) :
  Calls Tryz.prog 12 args W fun e W' => ∃ v, e = .returned v ∧ Rows.codeBackSpec.post enc Tryz.prog Tryz.f12 false true false false W args v W' := by
 have hval : ∀ (j : Nat) t v, Tryz.f12.params[j]? = some t → args[j]? = some v → Value.okWide Tryz.prog W .any base t v := hval0
 have hW' := hW
 obtain ⟨p, q, hA0, hV, rfl, hfz, hnd⟩ := hW
 have hA : DataW.TrodAll enc Tryz.prog W 0 (fun _ => true) true Tryz.f12.params.toList args.toList ds p := hA0
 rw [Tryz.params12] at hA hval
 obtain ⟨v0, vs0, d0, ds0, p0, q0, hargs, rfl, rfl, h0, r0⟩ := trodAll_cons hA
 obtain ⟨v1, vs1, d1, ds1, p1, q1, rfl, rfl, rfl, h1, r1⟩ := trodAll_cons r0
 obtain ⟨rfl, rfl, rfl⟩ := trodAll_nil r1
 obtain rfl : args = #[v0, v1] := by cases args; simp_all
 obtain ⟨rfl, rfl⟩ := trodVars_none hV
 have hk := of_decide_eq_true hk0
 simp only [List.append_nil, Rows.uptoBulkAll] at hk
 have k0 := h0
 have lt0 : ∀ x ∈ p0, x.block < W.heap.size := by obtain ⟨m, hm⟩ := k0; exact DataW.trod_lt m _ _ _ hm
 obtain ⟨sa0, sl0, sc0, rfl⟩ := okWide_slice Tryz.underlying25 (hval 0 25 v0 rfl rfl)
 obtain ⟨fuel0, hf0⟩ := h0
 obtain ⟨x0, hK0, hG0⟩ := (Q.opens_slice Tryz.underlying25 (by kernel_rfl) (Q.opens_foundryref14_Ins W 1048576)) H enc 0 (fun _ => true) true fuel0 _ _ hf0 (by show Rows.uptoBulk d0 ≤ _; omega)
 obtain ⟨A0, c0, he0, l0, g0⟩ := hK0
 have he0 : [Value.slice sa0 sl0 sc0] = [Value.slice A0 x0.length c0] := he0
 injection he0 with he0 _
 simp only [Value.slice.injEq] at he0
 obtain ⟨rfl, rfl, rfl⟩ := he0
 clear hf0
 have k1 := h1
 have lt1 : ∀ x ∈ p1, x.block < W.heap.size := by obtain ⟨m, hm⟩ := k1; exact DataW.trod_lt m _ _ _ hm
 obtain ⟨sa1, sl1, sc1, rfl⟩ := okWide_slice Tryz.underlying53 (hval 1 53 v1 rfl rfl)
 obtain ⟨fuel1, hf1⟩ := h1
 obtain ⟨x1, hK1, hG1⟩ := (Q.opens_slice Tryz.underlying53 (by kernel_rfl) (Q.opens_int (w := W) (N := 1048576) (k := .u8) (by kernel_rfl))) H enc 0 (fun _ => true) true fuel1 _ _ hf1 (by show Rows.uptoBulk d1 ≤ _; omega)
 obtain ⟨A1, c1, he1, l1, g1⟩ := hK1
 have he1 : [Value.slice sa1 sl1 sc1] = [Value.slice A1 x1.length c1] := he1
 injection he1 with he1 _
 simp only [Value.slice.injEq] at he1
 obtain ⟨rfl, rfl, rfl⟩ := he1
 clear hf1
 obtain ⟨k, hkk⟩ := (Q.C14.back_ev x0 x1 hG0 hG1).rounds
 clear hA0 hval0
 refine (Q.foundrylaw14_CodeBack.calls k sa0 sc0 x0 sa1 sc1 x1 true W g0 l0 g1 l1 hkk).mono fun e W' ⟨he', bel⟩ => ?_
 subst he'
 exact ⟨_, rfl, _, _, _, [], _, [], hW', trodAll_mk1 (shut_bool Tryz.underlying4 _), (trodAll_cons_mk (Below.trod laidOut (by kernel_rfl) (of_decide_eq_true (by kernel_rfl)) k0 bel lt0) (trodAll_cons_mk (Below.trod laidOut (by kernel_rfl) (of_decide_eq_true (by kernel_rfl)) k1 bel lt1) trodAll_mk0)), rfl, bel.frame _, fun h => by cases h⟩
theorem row_shaped {H : Type} {enc : TypeId × Value → H} {C : Checked} {os : Os} {f : FuncId} {fn : Func} {s : OpenSpec} {conds : List PathCond} {apart : Bool} {laid : List (String × DataW Unit)} (modest : Bool) (w0 : World) (args : Array Value) (hos : w0.os = os)
  (hsh : (w0.forCall (fun _ _ => 0) ⟨#[], args, []⟩).Shaped C.prog)
  (hok : Input.okWideB C.prog (w0.forCall (fun _ _ => 0) ⟨#[], args, []⟩) f ⟨#[], args, []⟩ = true)
  (hrow : s.preRow enc C.prog fn conds apart laid (w0.forCall (fun _ _ => 0) ⟨#[], args, []⟩).memory args) :
  ∃ (w : World) (tape : Tape) (i : Input), w.os = os ∧ (w.forCall tape i).Shaped C.prog ∧ i.vars = [] ∧ Input.okWide C.prog (w.forCall tape i) .any w.heap.size f i ∧
   s.preRow enc C.prog fn conds apart laid (w.forCall tape i).memory i.args ∧ ({ modest := modest } : Assume).holds C.prog (lone (Frame.enter C.prog f i.args .normal) [] (w.forCall tape i)) :=
 ⟨w0, fun _ _ => 0, ⟨#[], args, []⟩, hos, hsh, (Input.okWide_of_okWideB (base := 0) hok).1, (Input.okWide_of_okWideB hok).2, hrow, by
   simp only [Assume.holds]
   exact ⟨by simp, by simp, fun _ => Modest.zero, by simp, by simp⟩⟩
theorem laid_met (os : Os) : laidMet Tryz.prog Rows.codeBackUptoRow.laid (((World.laidAll Tryz.prog os Rows.codeBackUptoRow.laid)).forCall (fun _ _ => 0) ⟨#[], #[.slice none 0 0, .slice none 0 0], []⟩).memory := laidMet_laidAll _ (by kernel_rfl) (by kernel_rfl)
theorem reads (os : Os) {H : Type} (enc : TypeId × Value → H) : ∃ places, DataW.whole enc Tryz.prog ((World.laidAll Tryz.prog os Rows.codeBackUptoRow.laid).forCall (fun _ _ => 0) ⟨#[], #[.slice none 0 0, .slice none 0 0], []⟩).memory Tryz.f12.params.toList Rows.codeBackSpec.vars false (#[.slice none 0 0, .slice none 0 0] : Array Value).toList 8 = some ([.nil, .nil], [], places) :=
 ⟨[], by kernel_rfl⟩
theorem lifted (os : Os) (started : os.Started) (H : Type) (enc : TypeId × Value → H) (F : Stop.Interp) :
  ReturnsInHanded {} Tryz.checked os 12 .any ((Rows.OpenSpec.upto Rows.codeBackSpec).preRow enc Tryz.prog Tryz.f12 Rows.codeBackUptoRow.domain false Rows.codeBackUptoRow.laid) (((Rows.OpenSpec.upto Rows.codeBackSpec).at F).post enc Tryz.prog Tryz.f12 false true false false) := by
 obtain ⟨places, hx⟩ := reads os enc
 refine returnsInHanded_of_row (C := Tryz.checked) (s := Rows.OpenSpec.upto Rows.codeBackSpec) own started (by kernel_rfl) Tryz.func12
  (row_shaped (enc := enc) (C := Tryz.checked) false (World.laidAll Tryz.prog os Rows.codeBackUptoRow.laid) #[.slice none 0 0, .slice none 0 0] (World.laidAll_os _ _ _) (World.shaped_of_ZipB (by kernel_rfl) (by kernel_rfl)) (by kernel_rfl)
    (OpenSpec.preRow_of_cond (s := Rows.OpenSpec.upto Rows.codeBackSpec) 8 hx (by kernel_rfl) (fun k hk => by cases hk; kernel_rfl) (by kernel_rfl) (laid_met os))) ?_
 intro W base args ds gs before hval hW _ hcond _ hL _ _
 exact contract H enc W base args ds gs before hval hW (hcond _ rfl)
theorem saidUpto : Rows.CodeBackUptoSaid :=
 OpenClaim.holds_of_cond 12 Tryz.f12 rfl rfl rfl rfl rfl rfl rfl ⟨rfl, rfl, rfl, rfl, rfl⟩ rfl rfl rfl rfl rfl (by kernel_rfl) Tryz.func12 (by kernel_rfl)
  (of_decide_eq_true (by kernel_rfl)) (by unfold Func.isWrapper; first | (rw [if_pos (by decide +kernel)]; kernel_rfl) | (rw [if_neg (by decide +kernel)]; exact ⟨rfl, rfl⟩))
  (fun os started H enc _ F => by rw [OpenClaim.pre_eq_preRow]; exact lifted os started H enc F)
theorem plain (f : FuncId) (fn : Func) (hf : Tryz.pinned.checked.prog.funcNamed "foundry/foundrylaw14.CodeBack" = some f) (hfn : Tryz.pinned.checked.prog.funcs[f]? = some fn) :
  false = Tryz.pinned.checked.prog.looks [] ∧ ∀ (j : Nat) t, fn.params[j]? = some t → Tryz.pinned.checked.prog.wantsStandIn t = false := by
 obtain rfl : f = 12 := Option.some.inj ((show Tryz.prog.funcNamed "foundry/foundrylaw14.CodeBack" = some 12 by kernel_rfl).symm.trans hf) |>.symm
 obtain rfl : fn = Tryz.f12 := (Option.some.inj (Tryz.func12.symm.trans hfn)).symm
 refine ⟨by kernel_rfl, fun j t ht => ?_⟩
 rw [Tryz.params12] at ht
 have hm : t = 25 ∨ t = 53 := by simpa using Array.mem_of_getElem? ht
 rcases hm with rfl | rfl
 ·exact (show Tryz.prog.wantsStandIn 25 = false by kernel_rfl)
 ·exact (show Tryz.prog.wantsStandIn 53 = false by kernel_rfl)
theorem card : Rows.CodeBackUptoCardSaid :=
 Claim7.holds_tied_plain_at .later [] _ _ _ _ saidUpto (fun _ h => by cases h) (by kernel_rfl) (fun _ h => by cases h) codeBackUpto_row_tie rfl ⟨rfl, rfl⟩ (by kernel_rfl) rfl plain (by kernel_rfl)
end codeBack

theorem codeBack_card : Rows.CodeBackUptoCardSaid := codeBack.card
end
end Go.Proofs.YtfddibbignedkaaGreatDoor
