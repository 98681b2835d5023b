/- ImageBack, where what it reads is of bulk at most 1048576: an image of any kind: what is packed is read again as it was and packed again as it was; what is not packed is not right, or too big. Part 4 of 6. -/
import Derived.Test.YtfjpnjbinbhcfaaJ3
import Derived.Deep.QuietTactic
import Derived.BigQuiet
import Derived.Deep.LoopGhost
import Derived.ChangeKeysEq
set_option maxHeartbeats 8000000
set_option maxRecDepth 100000
set_option linter.unusedVariables false
set_option linter.unusedSimpArgs false
namespace Go.Proofs.Ytfjpnjbinbhcfaa
section
namespace Q
open Go.RowKit YA YC YB
attribute [local go_sem] qAS min2_int qBa min_two max_three min_three max_four min_four
def qBI.f (k : Nat) (a0_0 : ByteArray) (l0_1 : List Int) (a0_2 : Int) (l0_3 : List Int) (l0_4 : List (S115)) (a1_0 : ByteArray) (l1_1 : List Int) (a1_2 : Int) (l1_3 : List Int) (l1_4 : List (S115)) : Option (Bool) := if a0_0.toList = a1_0.toList then (if a0_2 = a1_2 then ((qAl.f k l0_1 l1_1).bind fun aS => (if aS = true then ((qAl.f k l0_3 l1_3).bind fun aL => (if aL = true then ((qAH.f k l0_4 l1_4).bind fun aK => (some aK)) else (some false))) else (some false))) else (some false)) else (some false)
theorem qBI.calls (k : Nat) (a0_0 : ByteArray) (aD : Option Addr) (aG : Nat) (l0_1 : List Int) (a0_2 : Int) (aE : Option Addr) (aH : Nat) (l0_3 : List Int) (aF : Option Addr) (aI : Nat) (l0_4 : List (S115)) (a1_0 : ByteArray) (aM : Option Addr) (aP : Nat) (l1_1 : List Int) (a1_2 : Int) (aN : Option Addr) (aQ : Nat) (l1_3 : List Int) (aO : Option Addr) (aR : Nat) (l1_4 : List (S115)) (r : Bool) (w : World) (hr0_1 : Kd.C (Kd.int .i64) w aD l0_1.length l0_1) (hc0_1 : l0_1.length ≤ aG) (hr0_3 : Kd.C (Kd.int .i64) w aE l0_3.length l0_3) (hc0_3 : l0_3.length ≤ aH) (hr0_4 : Kd.C k115 w aF l0_4.length l0_4) (hc0_4 : l0_4.length ≤ aI) (hr1_1 : Kd.C (Kd.int .i64) w aM l1_1.length l1_1) (hc1_1 : l1_1.length ≤ aP) (hr1_3 : Kd.C (Kd.int .i64) w aN l1_3.length l1_3) (hc1_3 : l1_3.length ≤ aQ) (hr1_4 : Kd.C k115 w aO l1_4.length l1_4) (hc1_4 : l1_4.length ≤ aR) (h : qBI.f k a0_0 l0_1 a0_2 l0_3 l0_4 a1_0 l1_1 a1_2 l1_3 l1_4 = some r) :
  Calls Try.prog 46 #[.agg #[.string a0_0, .slice aD l0_1.length aG, .int .i64 a0_2, .slice aE l0_3.length aH, .slice aF l0_4.length aI], .agg #[.string a1_0, .slice aM l1_1.length aP, .int .i64 a1_2, .slice aN l1_3.length aQ, .slice aO l1_4.length aR]] w fun e w' => e = .returned (.bool r) ∧ Below w.heap.size w w' := by
 have aV := am hr0_1
 have aT := am hc0_1
 clear hr0_1 hc0_1
 have aZ := am hr0_3
 have aX := am hc0_3
 clear hr0_3 hc0_3
 have ad := am hr0_4
 have ab := am hc0_4
 clear hr0_4 hc0_4
 have aW := am hr1_1
 have aU := am hc1_1
 clear hr1_1 hc1_1
 have aa := am hr1_3
 have aY := am hc1_3
 clear hr1_3 hc1_3
 have ae := am hr1_4
 have ac := am hc1_4
 clear hr1_4 hc1_4
 have HB := am (Below.refl w.heap.size w)
 have H : (if a0_0.toList = a1_0.toList then (if a0_2 = a1_2 then ((qAl.f k l0_1 l1_1).bind fun aS => (if aS = true then ((qAl.f k l0_3 l1_3).bind fun aL => (if aL = true then ((qAH.f k l0_4 l1_4).bind fun aK => (some aK)) else (some false))) else (some false))) else (some false)) else (some false)) = some r := h
 clear h
 by_cases c3 : a0_0.toList = a1_0.toList
 ·rw [if_pos c3] at H
  have bR : (a0_0.toList == a1_0.toList) = true := beq_iff_eq.mpr c3
  have b1 : (a0_0.toList != a1_0.toList) = false := bn c3
  clear c3
  by_cases c4 : a0_2 = a1_2
  ·rw [if_pos c4] at H
   have bS : (a0_2 == a1_2) = true := beq_iff_eq.mpr c4
   clear c4
   replace H := bm H
   obtain ⟨aS, bT, H⟩ := H
   replace H : (if aS = true then ((qAl.f k l0_3 l1_3).bind fun aL => (if aL = true then ((qAH.f k l0_4 l1_4).bind fun aK => (some aK)) else (some false))) else (some false)) = some r := H
   have A5 := am bT
   clear bT
   by_cases c6 : aS = true
   ·subst c6
    replace H : ((qAl.f k l0_3 l1_3).bind fun aL => (if aL = true then ((qAH.f k l0_4 l1_4).bind fun aK => (some aK)) else (some false))) = some r := by rw [if_pos rfl] at H; exact H
    replace H := bm H
    obtain ⟨aL, bU, H⟩ := H
    replace H : (if aL = true then ((qAH.f k l0_4 l1_4).bind fun aK => (some aK)) else (some false)) = some r := H
    have A7 := am bU
    clear bU
    by_cases c8 : aL = true
    ·subst c8
     replace H : ((qAH.f k l0_4 l1_4).bind fun aK => (some aK)) = some r := by rw [if_pos rfl] at H; exact H
     replace H := bm H
     obtain ⟨aK, bV, H⟩ := H
     replace H : (some aK) = some r := H
     have A9 := am bV
     clear bV
     obtain rfl := Option.some.inj H
     go_enter Try.func46, Try.ntmps46
     go_wp2_with (first | ((with_reducible refine qAC (N := 2) rfl ?_); refine bx 2 #[.string a0_0, .slice aD l0_1.length aG, .int .i64 a0_2, .slice aE l0_3.length aH, .slice aF l0_4.length aI] 80 ?_; intro aA hg b2 hbox hb; have n0_ := am (qAk (by repeat ((with_reducible (exact HB.o)))) hb); have n1_ := am (hbox); have n2_ := am ((by rw [hg]; exact (qAf (by repeat ((with_reducible (exact HB.o))))) : w.heap.size ≤ aA)); have n3_ := am ((by rw [hg]; exact (qAf (by repeat ((with_reducible (exact HB.o))))) : w.heap.size ≤ aA)); clear HB; have HB := n0_; have aB := n1_; clear n0_ n1_ n2_ n3_; clear hb hbox hg) | ((with_reducible refine qAC (N := 3) rfl ?_); refine bx 3 #[.string a1_0, .slice aM l1_1.length aP, .int .i64 a1_2, .slice aN l1_3.length aQ, .slice aO l1_4.length aR] 80 ?_; intro aC hg bW hbox hb; have n0_ := am (qAe (g := aA) (o := .cells #[.string a0_0, .slice aD l0_1.length aG, .int .i64 a0_2, .slice aE l0_3.length aH, .slice aF l0_4.length aI] 80 (0, 0)) (by (with_reducible repeat (fail)); exact aB.o) hb); have n1_ := am (qAk (by repeat ((with_reducible (exact HB.o)))) hb); have n2_ := am (hbox); have n3_ := am ((by rw [hg]; exact (qAf (by repeat ((with_reducible (exact HB.o))))) : w.heap.size ≤ aC)); have n4_ := am ((by rw [hg]; exact (qAf (by repeat ((with_reducible (exact HB.o))))) : w.heap.size ≤ aC)); have n5_ := am ((by rw [hg]; exact Nat.ne_of_lt (qAt (g := aA) (o := .cells #[.string a0_0, .slice aD l0_1.length aG, .int .i64 a0_2, .slice aE l0_3.length aH, .slice aF l0_4.length aI] 80 (0, 0)) (by (with_reducible repeat (fail)); exact aB.o)) : aA ≠ aC)); have n6_ := am ((by rw [hg]; exact Nat.ne_of_gt (qAt (g := aA) (o := .cells #[.string a0_0, .slice aD l0_1.length aG, .int .i64 a0_2, .slice aE l0_3.length aH, .slice aF l0_4.length aI] 80 (0, 0)) (by (with_reducible repeat (fail)); exact aB.o)) : aC ≠ aA)); clear aB; clear HB; have aB := n0_; have HB := n1_; have aJ := n2_; clear n0_ n1_ n2_ n3_ n4_ n5_ n6_; clear hb hbox hg; obtain ⟨af, ag, ah, ai, aj⟩ := c5_ bW aB.o; obtain ⟨ak, al, an, ao, ap⟩ := c5_ bW aJ.o; have bM := qAg aJ.o 4) | (go_at_call 47; (with_reducible refine (qAl.calls k _ _ l0_1 _ _ l1_1 true _ ?side1 ?side2 ?side3 ?side4 A5.o).mono ?_); (case side1 => repeat ((exact (Kd.C_below aV.o HB.o)))); (case side2 => exact aT.o); (case side3 => repeat ((exact (Kd.C_below aW.o HB.o)))); (case side4 => exact aU.o); rintro e w' ⟨rfl, ⟨nd, rfl⟩⟩) | (go_at_call 47; (with_reducible refine (qAl.calls k _ _ l0_3 _ _ l1_3 true _ ?side1 ?side2 ?side3 ?side4 A7.o).mono ?_); (case side1 => repeat ((exact (Kd.C_below aZ.o (by repeat ((with_reducible first | exact HB.o | apply qAp))))))); (case side2 => exact aX.o); (case side3 => repeat ((exact (Kd.C_below aa.o (by repeat ((with_reducible first | exact HB.o | apply qAp))))))); (case side4 => exact aY.o); rintro e w' ⟨rfl, ⟨nd, rfl⟩⟩) | (go_at_call 48; (with_reducible refine (qAH.calls k _ _ l0_4 _ _ l1_4 aK _ ?side1 ?side2 ?side3 ?side4 A9.o).mono ?_); (case side1 => repeat ((exact (Kd.C_below ad.o (by repeat ((with_reducible first | exact HB.o | apply qAp))))))); (case side2 => exact ab.o); (case side3 => repeat ((exact (Kd.C_below ae.o (by repeat ((with_reducible first | exact HB.o | apply qAp))))))); (case side4 => exact ac.o); rintro e w' ⟨rfl, ⟨nd, rfl⟩⟩))
     go_ret
     exact ⟨by (rfl), by repeat ((with_reducible first | exact HB.o | apply qAp))⟩
    ·replace c8 := Bool.eq_false_iff.mpr c8
     subst c8
     replace H : (some false) = some r := by rw [if_neg (show ¬ (false = true) by decide)] at H; exact H
     obtain rfl := Option.some.inj H
     go_enter Try.func46, Try.ntmps46
     go_wp2_with (first | ((with_reducible refine qAC (N := 2) rfl ?_); refine bx 2 #[.string a0_0, .slice aD l0_1.length aG, .int .i64 a0_2, .slice aE l0_3.length aH, .slice aF l0_4.length aI] 80 ?_; intro aA hg b3 hbox hb; have n0_ := am (qAk (by repeat ((with_reducible (exact HB.o)))) hb); have n1_ := am (hbox); have n2_ := am ((by rw [hg]; exact (qAf (by repeat ((with_reducible (exact HB.o))))) : w.heap.size ≤ aA)); have n3_ := am ((by rw [hg]; exact (qAf (by repeat ((with_reducible (exact HB.o))))) : w.heap.size ≤ aA)); clear HB; have HB := n0_; have aB := n1_; clear n0_ n1_ n2_ n3_; clear hb hbox hg) | ((with_reducible refine qAC (N := 3) rfl ?_); refine bx 3 #[.string a1_0, .slice aM l1_1.length aP, .int .i64 a1_2, .slice aN l1_3.length aQ, .slice aO l1_4.length aR] 80 ?_; intro aC hg bX hbox hb; have n0_ := am (qAe (g := aA) (o := .cells #[.string a0_0, .slice aD l0_1.length aG, .int .i64 a0_2, .slice aE l0_3.length aH, .slice aF l0_4.length aI] 80 (0, 0)) (by (with_reducible repeat (fail)); exact aB.o) hb); have n1_ := am (qAk (by repeat ((with_reducible (exact HB.o)))) hb); have n2_ := am (hbox); have n3_ := am ((by rw [hg]; exact (qAf (by repeat ((with_reducible (exact HB.o))))) : w.heap.size ≤ aC)); have n4_ := am ((by rw [hg]; exact (qAf (by repeat ((with_reducible (exact HB.o))))) : w.heap.size ≤ aC)); have n5_ := am ((by rw [hg]; exact Nat.ne_of_lt (qAt (g := aA) (o := .cells #[.string a0_0, .slice aD l0_1.length aG, .int .i64 a0_2, .slice aE l0_3.length aH, .slice aF l0_4.length aI] 80 (0, 0)) (by (with_reducible repeat (fail)); exact aB.o)) : aA ≠ aC)); have n6_ := am ((by rw [hg]; exact Nat.ne_of_gt (qAt (g := aA) (o := .cells #[.string a0_0, .slice aD l0_1.length aG, .int .i64 a0_2, .slice aE l0_3.length aH, .slice aF l0_4.length aI] 80 (0, 0)) (by (with_reducible repeat (fail)); exact aB.o)) : aC ≠ aA)); clear aB; clear HB; have aB := n0_; have HB := n1_; have aJ := n2_; clear n0_ n1_ n2_ n3_ n4_ n5_ n6_; clear hb hbox hg; obtain ⟨aq, ar, au, av⟩ := c4_ bX aB.o; obtain ⟨aw, ax, ay, az⟩ := c4_ bX aJ.o; have bN := qAg aJ.o 4) | (go_at_call 47; (with_reducible refine (qAl.calls k _ _ l0_1 _ _ l1_1 true _ ?side1 ?side2 ?side3 ?side4 A5.o).mono ?_); (case side1 => repeat ((exact (Kd.C_below aV.o HB.o)))); (case side2 => exact aT.o); (case side3 => repeat ((exact (Kd.C_below aW.o HB.o)))); (case side4 => exact aU.o); rintro e w' ⟨rfl, ⟨nd, rfl⟩⟩) | (go_at_call 47; (with_reducible refine (qAl.calls k _ _ l0_3 _ _ l1_3 false _ ?side1 ?side2 ?side3 ?side4 A7.o).mono ?_); (case side1 => repeat ((exact (Kd.C_below aZ.o (by repeat ((with_reducible first | exact HB.o | apply qAp))))))); (case side2 => exact aX.o); (case side3 => repeat ((exact (Kd.C_below aa.o (by repeat ((with_reducible first | exact HB.o | apply qAp))))))); (case side4 => exact aY.o); rintro e w' ⟨rfl, ⟨nd, rfl⟩⟩))
     go_ret
     exact ⟨by (rfl), by repeat ((with_reducible first | exact HB.o | apply qAp))⟩
   ·replace c6 := Bool.eq_false_iff.mpr c6
    subst c6
    replace H : (some false) = some r := by rw [if_neg (show ¬ (false = true) by decide)] at H; exact H
    obtain rfl := Option.some.inj H
    go_enter Try.func46, Try.ntmps46
    go_wp2_with (first | ((with_reducible refine qAC (N := 2) rfl ?_); refine bx 2 #[.string a0_0, .slice aD l0_1.length aG, .int .i64 a0_2, .slice aE l0_3.length aH, .slice aF l0_4.length aI] 80 ?_; intro aA hg b4 hbox hb; have n0_ := am (qAk (by repeat ((with_reducible (exact HB.o)))) hb); have n1_ := am (hbox); have n2_ := am ((by rw [hg]; exact (qAf (by repeat ((with_reducible (exact HB.o))))) : w.heap.size ≤ aA)); have n3_ := am ((by rw [hg]; exact (qAf (by repeat ((with_reducible (exact HB.o))))) : w.heap.size ≤ aA)); clear HB; have HB := n0_; have aB := n1_; clear n0_ n1_ n2_ n3_; clear hb hbox hg) | ((with_reducible refine qAC (N := 3) rfl ?_); refine bx 3 #[.string a1_0, .slice aM l1_1.length aP, .int .i64 a1_2, .slice aN l1_3.length aQ, .slice aO l1_4.length aR] 80 ?_; intro aC hg bY hbox hb; have n0_ := am (qAe (g := aA) (o := .cells #[.string a0_0, .slice aD l0_1.length aG, .int .i64 a0_2, .slice aE l0_3.length aH, .slice aF l0_4.length aI] 80 (0, 0)) (by (with_reducible repeat (fail)); exact aB.o) hb); have n1_ := am (qAk (by repeat ((with_reducible (exact HB.o)))) hb); have n2_ := am (hbox); have n3_ := am ((by rw [hg]; exact (qAf (by repeat ((with_reducible (exact HB.o))))) : w.heap.size ≤ aC)); have n4_ := am ((by rw [hg]; exact (qAf (by repeat ((with_reducible (exact HB.o))))) : w.heap.size ≤ aC)); have n5_ := am ((by rw [hg]; exact Nat.ne_of_lt (qAt (g := aA) (o := .cells #[.string a0_0, .slice aD l0_1.length aG, .int .i64 a0_2, .slice aE l0_3.length aH, .slice aF l0_4.length aI] 80 (0, 0)) (by (with_reducible repeat (fail)); exact aB.o)) : aA ≠ aC)); have n6_ := am ((by rw [hg]; exact Nat.ne_of_gt (qAt (g := aA) (o := .cells #[.string a0_0, .slice aD l0_1.length aG, .int .i64 a0_2, .slice aE l0_3.length aH, .slice aF l0_4.length aI] 80 (0, 0)) (by (with_reducible repeat (fail)); exact aB.o)) : aC ≠ aA)); clear aB; clear HB; have aB := n0_; have HB := n1_; have aJ := n2_; clear n0_ n1_ n2_ n3_ n4_ n5_ n6_; clear hb hbox hg; obtain ⟨bA, bB, bC⟩ := c3_ bY aB.o; obtain ⟨bD, bE, bF⟩ := c3_ bY aJ.o; have bO := qAg aJ.o 4) | (go_at_call 47; (with_reducible refine (qAl.calls k _ _ l0_1 _ _ l1_1 false _ ?side1 ?side2 ?side3 ?side4 A5.o).mono ?_); (case side1 => repeat ((exact (Kd.C_below aV.o HB.o)))); (case side2 => exact aT.o); (case side3 => repeat ((exact (Kd.C_below aW.o HB.o)))); (case side4 => exact aU.o); rintro e w' ⟨rfl, ⟨nd, rfl⟩⟩))
    go_ret
    exact ⟨by (rfl), by repeat ((with_reducible first | exact HB.o | apply qAp))⟩
  ·rw [if_neg c4] at H
   have bS : (a0_2 == a1_2) = false := bf c4
   obtain rfl := Option.some.inj H
   go_enter Try.func46, Try.ntmps46
   go_wp2_with (first | ((with_reducible refine qAC (N := 2) rfl ?_); refine bx 2 #[.string a0_0, .slice aD l0_1.length aG, .int .i64 a0_2, .slice aE l0_3.length aH, .slice aF l0_4.length aI] 80 ?_; intro aA hg b5 hbox hb; have n0_ := am (qAk (by repeat ((with_reducible (exact HB.o)))) hb); have n1_ := am (hbox); have n2_ := am ((by rw [hg]; exact (qAf (by repeat ((with_reducible (exact HB.o))))) : w.heap.size ≤ aA)); have n3_ := am ((by rw [hg]; exact (qAf (by repeat ((with_reducible (exact HB.o))))) : w.heap.size ≤ aA)); clear HB; have HB := n0_; have aB := n1_; clear n0_ n1_ n2_ n3_; clear hb hbox hg) | ((with_reducible refine qAC (N := 3) rfl ?_); refine bx 3 #[.string a1_0, .slice aM l1_1.length aP, .int .i64 a1_2, .slice aN l1_3.length aQ, .slice aO l1_4.length aR] 80 ?_; intro aC hg bZ hbox hb; have n0_ := am (qAe (g := aA) (o := .cells #[.string a0_0, .slice aD l0_1.length aG, .int .i64 a0_2, .slice aE l0_3.length aH, .slice aF l0_4.length aI] 80 (0, 0)) (by (with_reducible repeat (fail)); exact aB.o) hb); have n1_ := am (qAk (by repeat ((with_reducible (exact HB.o)))) hb); have n2_ := am (hbox); have n3_ := am ((by rw [hg]; exact (qAf (by repeat ((with_reducible (exact HB.o))))) : w.heap.size ≤ aC)); have n4_ := am ((by rw [hg]; exact (qAf (by repeat ((with_reducible (exact HB.o))))) : w.heap.size ≤ aC)); have n5_ := am ((by rw [hg]; exact Nat.ne_of_lt (qAt (g := aA) (o := .cells #[.string a0_0, .slice aD l0_1.length aG, .int .i64 a0_2, .slice aE l0_3.length aH, .slice aF l0_4.length aI] 80 (0, 0)) (by (with_reducible repeat (fail)); exact aB.o)) : aA ≠ aC)); have n6_ := am ((by rw [hg]; exact Nat.ne_of_gt (qAt (g := aA) (o := .cells #[.string a0_0, .slice aD l0_1.length aG, .int .i64 a0_2, .slice aE l0_3.length aH, .slice aF l0_4.length aI] 80 (0, 0)) (by (with_reducible repeat (fail)); exact aB.o)) : aC ≠ aA)); clear aB; clear HB; have aB := n0_; have HB := n1_; have aJ := n2_; clear n0_ n1_ n2_ n3_ n4_ n5_ n6_; clear hb hbox hg; obtain ⟨bG, -, bH⟩ := c3_ bZ aB.o; obtain ⟨bI, -, bJ⟩ := c3_ bZ aJ.o; have bP := qAg aJ.o 4))
   go_ret
   exact ⟨by (rfl), by repeat ((with_reducible (exact HB.o)))⟩
 ·rw [if_neg c3] at H
  have bR : (a0_0.toList == a1_0.toList) = false := bf c3
  obtain rfl := Option.some.inj H
  go_enter Try.func46, Try.ntmps46
  go_wp2_with (first | ((with_reducible refine qAC (N := 2) rfl ?_); refine bx 2 #[.string a0_0, .slice aD l0_1.length aG, .int .i64 a0_2, .slice aE l0_3.length aH, .slice aF l0_4.length aI] 80 ?_; intro aA hg b6 hbox hb; have n0_ := am (qAk (by repeat ((with_reducible (exact HB.o)))) hb); have n1_ := am (hbox); have n2_ := am ((by rw [hg]; exact (qAf (by repeat ((with_reducible (exact HB.o))))) : w.heap.size ≤ aA)); have n3_ := am ((by rw [hg]; exact (qAf (by repeat ((with_reducible (exact HB.o))))) : w.heap.size ≤ aA)); clear HB; have HB := n0_; have aB := n1_; clear n0_ n1_ n2_ n3_; clear hb hbox hg) | ((with_reducible refine qAC (N := 3) rfl ?_); refine bx 3 #[.string a1_0, .slice aM l1_1.length aP, .int .i64 a1_2, .slice aN l1_3.length aQ, .slice aO l1_4.length aR] 80 ?_; intro aC hg b0 hbox hb; have n0_ := am (qAe (g := aA) (o := .cells #[.string a0_0, .slice aD l0_1.length aG, .int .i64 a0_2, .slice aE l0_3.length aH, .slice aF l0_4.length aI] 80 (0, 0)) (by (with_reducible repeat (fail)); exact aB.o) hb); have n1_ := am (qAk (by repeat ((with_reducible (exact HB.o)))) hb); have n2_ := am (hbox); have n3_ := am ((by rw [hg]; exact (qAf (by repeat ((with_reducible (exact HB.o))))) : w.heap.size ≤ aC)); have n4_ := am ((by rw [hg]; exact (qAf (by repeat ((with_reducible (exact HB.o))))) : w.heap.size ≤ aC)); have n5_ := am ((by rw [hg]; exact Nat.ne_of_lt (qAt (g := aA) (o := .cells #[.string a0_0, .slice aD l0_1.length aG, .int .i64 a0_2, .slice aE l0_3.length aH, .slice aF l0_4.length aI] 80 (0, 0)) (by (with_reducible repeat (fail)); exact aB.o)) : aA ≠ aC)); have n6_ := am ((by rw [hg]; exact Nat.ne_of_gt (qAt (g := aA) (o := .cells #[.string a0_0, .slice aD l0_1.length aG, .int .i64 a0_2, .slice aE l0_3.length aH, .slice aF l0_4.length aI] 80 (0, 0)) (by (with_reducible repeat (fail)); exact aB.o)) : aC ≠ aA)); clear aB; clear HB; have aB := n0_; have HB := n1_; have aJ := n2_; clear n0_ n1_ n2_ n3_ n4_ n5_ n6_; clear hb hbox hg; have bK := c1_ b0 aB.o; have bL := c1_ b0 aJ.o; have bQ := qAg aJ.o 4))
  go_ret
  exact ⟨by (rfl), by repeat ((with_reducible (exact HB.o)))⟩
end Q
end
section
namespace Q
open Go.RowKit YA YC YB
open Val Ins
noncomputable def eqB {α : Type} (a b : α) : Bool := @decide (a = b) (Classical.propDecidable _)
theorem qBj {α : Type} {a b : α} : eqB a b = true ↔ a = b := by
 unfold eqB
 exact @decide_eq_true_iff (a = b) (Classical.propDecidable _)
theorem qBP {α : Type} {a b : α} {r : Bool} (h : r = true ↔ a = b) : eqB a b = r := by
 cases r with
 | true => exact qBj.2 (h.1 rfl)
 | false =>
  cases e : eqB a b with
  | false => rfl
  | true => exact (h.2 (qBj.1 e)).symm
theorem eq_list {α : Type} (d : α) (ne : α → α → Bool) (hne : ∀ x y, ne x y = true ↔ x ≠ y) (G : Nat → Option Bool) (F : Nat → Int → Option Bool) (a b : List α) (hl : a.length ≤ 4611686018427387904)
  (hG : ∀ k, G k = if (a.length : Int) = (b.length : Int) then F k 0 else some false)
  (hF : ∀ k i, F (k + 1) i = if i < (a.length : Int) then (if 0 ≤ i then (if i < (a.length : Int) then (if i < (b.length : Int) then (if ne (a.getD i.toNat d) (b.getD i.toNat d) = true then some false else F k (wrap64 (i + 1))) else none) else none) else none) else some true) : Ev G (eqB a b) := by
 by_cases hab : a.length = b.length
 ·have loop : ∀ (n j : Nat), j + n = a.length → ∃ r, Ev (fun k => F k (j : Int)) r ∧ (r = true ↔ a.drop j = b.drop j) := by
   intro n
   induction n with
   | zero =>
    intro j hj
    refine ⟨true, Ev.step (f := fun _ => some true) (fun k => ?_) (Ev.now _), ?_⟩
    ·rw [hF, if_neg (by omega)]
    rw [List.drop_eq_nil_of_le (by omega), List.drop_eq_nil_of_le (by omega)]; simp
   | succ n ih =>
    intro j hj
    have hc := qB9 a d (j : Int) (by omega) (by omega)
    have hd := qB9 b d (j : Int) (by omega) (by omega)
    rw [Int.toNat_natCast, show ((j : Int) + 1).toNat = j + 1 from by omega] at hc hd
    cases hx : ne (a.getD j d) (b.getD j d) with
    | true =>
     refine ⟨false, Ev.step (f := fun _ => some false) (fun k => ?_) (Ev.now _), ?_⟩
     ·rw [hF, if_pos (by omega), if_pos (by omega), if_pos (by omega), if_pos (by omega), Int.toNat_natCast, if_pos hx]
     have h1 := (hne _ _).1 hx
     rw [hc, hd]
     constructor
     ·intro h; cases h
     intro h; injection h with h _; exact absurd h h1
    | false =>
     obtain ⟨r, hr, hq⟩ := ih (j + 1) (by omega)
     have he : a.getD j d = b.getD j d := by
      rcases Classical.em (a.getD j d = b.getD j d) with h | h
      ·exact h
      rw [(hne _ _).2 h] at hx; cases hx
     refine ⟨r, Ev.step (fun k => ?_) hr, ?_⟩
     ·rw [hF, if_pos (by omega), if_pos (by omega), if_pos (by omega), if_pos (by omega), Int.toNat_natCast, if_neg (by rw [hx]; decide), show wrap64 ((j : Int) + 1) = ((j + 1 : Nat) : Int) from by unfold wrap64; omega]
     rw [hq, hc, hd, he]
     constructor
     ·intro h; rw [h]
     intro h; injection h
  obtain ⟨r, hr, hq⟩ := loop a.length 0 (by omega)
  rw [List.drop_zero, List.drop_zero] at hq
  rw [qBP hq]
  refine Ev.congr (fun k => ?_) hr
  rw [hG, if_pos (by omega)]; rfl
 ·rw [qBP (r := false) ⟨nofun, fun h => absurd (by rw [h]) hab⟩]
  refine Ev.congr (f := fun _ => some false) (fun k => ?_) (Ev.now _)
  rw [hG, if_neg (by omega)]
theorem toList_iff {s t : ByteArray} : s.toList = t.toList ↔ s = t := by
 rw [Lib.toList_data, Lib.toList_data]
 constructor
 ·intro h
  cases s; cases t
  congr 1
  exact Array.ext' h
 intro h; rw [h]
theorem eqins_ev (a b : List S115) (hl : a.length ≤ 4611686018427387904) : Ev (fun k => qAH.f k a b) (eqB a b) := by
 refine eq_list z115 (fun x y => (!(x.f0 == y.f0) || (!(x.f1 == y.f1) || (!(x.f2.f0 == y.f2.f0) || !(x.f2.f1 == y.f2.f1))))) (fun x y => ?_) _ (fun k i => qAH.l0 k a b (a.length : Int) i) a b hl (fun k => rfl) (fun k i => rfl)
 by_cases e : x = y
 ·subst e; simp
 refine ⟨fun _ => e, fun _ => ?_⟩
 rcases Bool.eq_false_or_eq_true (!(x.f0 == y.f0) || (!(x.f1 == y.f1) || (!(x.f2.f0 == y.f2.f0) || !(x.f2.f1 == y.f2.f1)))) with h | h
 ·exact h
 refine absurd ?_ e
 simp only [Bool.or_eq_false_iff, Bool.not_eq_false', beq_iff_eq] at h
 obtain ⟨x0, x1, x2, x3⟩ := x
 obtain ⟨y0, y1, y2, y3⟩ := y
 obtain ⟨h0, h1, h2, h3⟩ := h
 simp only at h0 h1 h2 h3
 subst h0; subst h1; subst h2; subst h3; rfl
theorem qCt (a b : List Int) (hl : a.length ≤ 4611686018427387904) : Ev (fun k => qAl.f k a b) (eqB a b) := by
 refine eq_list 0 (fun x y => !(x == y)) (fun x y => by simp) _ (fun k i => qAl.l0 k a b (a.length : Int) i) a b hl (fun k => rfl) (fun k i => ?_)
 have hc : ∀ X : Option Bool, (if rd a i = rd b i then X else some false) = (if (!(rd a i == rd b i)) = true then some false else X) := fun X => by
  by_cases e : rd a i = rd b i <;> simp [e]
 simp only [qAl.l0, hc]
 rfl
def fnSmall (x : S80) : Prop := x.f1.f0.f0.length ≤ 4611686018427387904 ∧ x.f1.f1.length ≤ 4611686018427387904 ∧ x.f1.f2.length ≤ 4611686018427387904
theorem eqfn_ev (x y : S80) (h : fnSmall x) : Ev (fun k => qBI.f k x.f0 x.f1.f0.f0 x.f1.f0.f1 x.f1.f1 x.f1.f2 y.f0 y.f1.f0.f0 y.f1.f0.f1 y.f1.f1 y.f1.f2) (eqB x y) := by
 obtain ⟨h0, h1, h2⟩ := h
 have no : ∀ {p : Prop}, (x = y → p) → ¬ p → eqB x y = false := fun hp hn => qBP ⟨nofun, fun h => absurd (hp h) hn⟩
 unfold qBI.f
 by_cases e0 : x.f0 = y.f0
 rotate_left
 ·rw [no (fun h => by rw [h]) e0]
  have e0' : ¬ x.f0.toList = y.f0.toList := fun h => e0 (toList_iff.1 h)
  simp only [e0', if_false]
  exact Ev.now _
 have e0' := toList_iff.2 e0
 simp only [e0', if_true]
 by_cases e1 : x.f1.f0.f1 = y.f1.f0.f1
 rotate_left
 ·rw [no (fun h => by rw [h]) e1]
  simp only [e1, if_false]
  exact Ev.now _
 simp only [e1, if_true]
 refine Ev.bind (qCt _ _ h0) ?_
 by_cases e2 : x.f1.f0.f0 = y.f1.f0.f0
 rotate_left
 ·rw [no (fun h => by rw [h]) e2]
  simp only [show eqB x.f1.f0.f0 y.f1.f0.f0 = false from qBP ⟨nofun, fun h => absurd h e2⟩]
  exact Ev.now _
 simp only [qBj.2 e2, if_true]
 refine Ev.bind (qCt _ _ h1) ?_
 by_cases e3 : x.f1.f1 = y.f1.f1
 rotate_left
 ·rw [no (fun h => by rw [h]) e3]
  simp only [show eqB x.f1.f1 y.f1.f1 = false from qBP ⟨nofun, fun h => absurd h e3⟩]
  exact Ev.now _
 simp only [qBj.2 e3, if_true]
 have e4 : eqB x y = eqB x.f1.f2 y.f1.f2 := qBP ⟨fun h => by
   have h4 := qBj.1 h
   obtain ⟨x0, ⟨⟨x1, x2⟩, x3, x4⟩⟩ := x
   obtain ⟨y0, ⟨⟨y1, y2⟩, y3, y4⟩⟩ := y
   simp only at e0 e1 e2 e3 h4
   subst e0; subst e1; subst e2; subst e3; subst h4; rfl, fun h => qBj.2 (by rw [h])⟩
 rw [e4]
 exact Ev.bind (eqins_ev _ _ h2) (Ev.now _)
theorem eq_take {α : Type} (a b : List α) (hl : a.length = b.length) (h : ∀ (j : Nat) x y, a[j]? = some x → b[j]? = some y → x = y) : a = b := by
 refine List.ext_getElem hl fun j h1 h2 => ?_
 exact h j _ _ (List.getElem?_eq_getElem h1) (List.getElem?_eq_getElem h2)
theorem eqfns_any (A1 A2 : Option Addr) (c1 c2 : Nat) (l1 l2 : List S80) (w : World) (hr1 : Kd.C k80 w A1 l1.length l1) (hr2 : Kd.C k80 w A2 l2.length l2) (hl : l1.length ≤ 4611686018427387904) (hs : ∀ x ∈ l1, fnSmall x) :
  Calls Try.prog 45 #[.slice A1 l1.length c1, .slice A2 l2.length c2, .func (.func 46) #[] #[]] w fun e w' => e = .returned (.bool (eqB l1 l2)) ∧ Below w.heap.size w w' := by
 obtain ⟨n1, hn1⟩ : ∃ n, n = l1.length := ⟨_, rfl⟩
 obtain ⟨n2, hn2⟩ : ∃ n, n = l2.length := ⟨_, rfl⟩
 rw [← hn1] at hr1 hl ⊢
 rw [← hn2] at hr2 ⊢
 have HR1 := am hr1
 have HR2 := am hr2
 have HN1 := am hn1
 have HN2 := am hn2
 have HS := am hs
 clear hr1 hr2 hn1 hn2 hs
 by_cases hne : n1 = n2
 case neg =>
  have hq : ((n1 : Int) != (n2 : Int)) = true := bne_iff_ne.mpr (by omega)
  have hq2 : (n1 == n2) = false := beq_eq_false_iff_ne.mpr hne
  have HF : qAb (eqB l1 l2 = false) := ⟨qBP ⟨nofun, fun h => absurd (by rw [HN1.out, HN2.out, h]) hne⟩⟩
  go_enter Try.func45, Try.ntmps45
  go_wp2
  go_ret
  exact ⟨by rw [HF.out]; rfl, Below.refl _ _⟩
 subst hne
 have hq : ((n1 : Int) != (n1 : Int)) = false := bne_eq_false_iff_eq.mpr rfl
 go_enter Try.func45, Try.ntmps45
 go_wp2
 go_loopg [7, 8, 9, 17] n1 (fun gg _ _ _ s17 wr => ∃ kk : Nat, kk ≤ n1 ∧ n1 - kk ≤ gg ∧ s17 = .int .i64 kk ∧ qAb (∀ (j : Nat) x y, j < kk → l1[j]? = some x → l2[j]? = some y → x = y) ∧ qAb (Below w.heap.size w wr))
 case atStart => exact ⟨0, Nat.zero_le _, by omega, rfl, ⟨fun j x y hj => absurd hj (Nat.not_lt_zero _)⟩, ⟨Below.refl _ _⟩⟩
 case round =>
  obtain ⟨kk, hkk, hg, rfl, HA, HB⟩ := hrel
  by_cases hlt : kk < n1
  rotate_left
  ·have hltz : ¬ (kk : Int) < (n1 : Int) := by omega
   have : kk = n1 := by omega
   subst this
   go_wp2
   go_ret
   refine ⟨?_, HB.out⟩
   rw [qBj.2 (eq_take l1 l2 (by rw [← HN1.out, ← HN2.out]) fun j x y hx hy => HA.out j x y (by rw [HN1.out]; exact (List.getElem?_eq_some_iff.1 hx).1) hx hy)]
   rfl
  have hltz : (kk : Int) < (n1 : Int) := by omega
  have h0 : (0 : Int) ≤ (kk : Int) := by omega
  obtain ⟨ad, D1, d1, D3, d3, D4, d4, ea, hx0, hx1, hx2, hx3, hx4, xl1, xC1, xl3, xC3, xl4, xC4⟩ := at_T80 HR1.out (kk : Int) h0 hltz
  subst ea
  obtain ⟨bd, E1, e1, E3, e3, E4, e4, eb, hy0, hy1, hy2, hy3, hy4, yl1, yC1, yl3, yC3, yl4, yC4⟩ := at_T80 HR2.out (kk : Int) h0 hltz
  subst eb
  rw [Int.toNat_natCast] at hx0 hx1 hx2 hx3 hx4 hy0 hy1 hy2 hy3 hy4
  replace hx0 := cb HB hx0
  replace hx1 := cb HB hx1
  replace hx2 := cb HB hx2
  replace hx3 := cb HB hx3
  replace hx4 := cb HB hx4
  replace hy0 := cb HB hy0
  replace hy1 := cb HB hy1
  replace hy2 := cb HB hy2
  replace hy3 := cb HB hy3
  replace hy4 := cb HB hy4
  obtain ⟨x, hx⟩ : ∃ x, x = rd_T80 l1 (kk : Int) := ⟨_, rfl⟩
  obtain ⟨y, hy⟩ : ∃ x, x = rd_T80 l2 (kk : Int) := ⟨_, rfl⟩
  rw [← hx] at hx0 hx1 hx2 hx3 hx4 xl1 xC1 xl3 xC3 xl4 xC4
  rw [← hy] at hy0 hy1 hy2 hy3 hy4 yl1 yC1 yl3 yC3 yl4 yC4
  have hgx : l1[kk]? = some x := by rw [hx]; exact qBE l1 z80 kk (by have := HN1.out; omega)
  have HX := am hgx
  have HY : qAb (l2[kk]? = some y) := ⟨by rw [hy]; exact qBE l2 z80 kk (by have := HN2.out; omega)⟩
  obtain ⟨kf, hkf⟩ := (eqfn_ev x y (HS.out x (List.mem_of_getElem? hgx))).rounds
  have HC : qAb (∀ W, Below w.heap.size w W → Calls Try.prog 46 #[.agg #[.string x.f0, .slice D1 x.f1.f0.f0.length d1, .int .i64 x.f1.f0.f1, .slice D3 x.f1.f1.length d3, .slice D4 x.f1.f2.length d4], .agg #[.string y.f0, .slice E1 y.f1.f0.f0.length e1, .int .i64 y.f1.f0.f1, .slice E3 y.f1.f1.length e3, .slice E4 y.f1.f2.length e4]] W fun e w' => e = .returned (.bool (eqB x y)) ∧ Below W.heap.size W w') :=
   ⟨fun W hW => qBI.calls kf x.f0 D1 d1 x.f1.f0.f0 x.f1.f0.f1 D3 d3 x.f1.f1 D4 d4 x.f1.f2 y.f0 E1 e1 y.f1.f0.f0 y.f1.f0.f1 E3 e3 y.f1.f1 E4 e4 y.f1.f2 _ W (Kd.C_below xC1 hW) xl1 (Kd.C_below xC3 hW) xl3 (Kd.C_below xC4 hW) xl4 (Kd.C_below yC1 hW) yl1 (Kd.C_below yC3 hW) yl3 (Kd.C_below yC4 hW) yl4 hkf⟩
  clear hx hy xl1 xC1 xl3 xC3 xl4 xC4 yl1 yC1 yl3 yC3 yl4 yC4 hkf hgx
  have hbl : (bd.add (kk * 5)).block < wr.heap.size := World.block_lt_of_cell? wr _ hy0
  obtain ⟨xa, hxa⟩ : ∃ q, q = x.f1.f0.f0.length := ⟨_, rfl⟩
  obtain ⟨xb, hxb⟩ : ∃ q, q = x.f1.f1.length := ⟨_, rfl⟩
  obtain ⟨xc, hxc⟩ : ∃ q, q = x.f1.f2.length := ⟨_, rfl⟩
  obtain ⟨ya, hya⟩ : ∃ q, q = y.f1.f0.f0.length := ⟨_, rfl⟩
  obtain ⟨yb, hyb⟩ : ∃ q, q = y.f1.f1.length := ⟨_, rfl⟩
  obtain ⟨yc, hyc⟩ : ∃ q, q = y.f1.f2.length := ⟨_, rfl⟩
  rw [← hxa, ← hxb, ← hxc, ← hya, ← hyb, ← hyc] at HC
  rw [← hxa] at hx1
  rw [← hxb] at hx3
  rw [← hxc] at hx4
  rw [← hya] at hy1
  rw [← hyb] at hy3
  rw [← hyc] at hy4
  obtain ⟨xs, hxs⟩ : ∃ q, q = x.f0 := ⟨_, rfl⟩
  obtain ⟨ys, hys⟩ : ∃ q, q = y.f0 := ⟨_, rfl⟩
  obtain ⟨xr, hxr⟩ : ∃ q, q = x.f1.f0.f1 := ⟨_, rfl⟩
  obtain ⟨yr, hyr⟩ : ∃ q, q = y.f1.f0.f1 := ⟨_, rfl⟩
  rw [← hxs, ← hxr, ← hys, ← hyr] at HC
  rw [← hxs] at hx0
  rw [← hxr] at hx2
  rw [← hys] at hy0
  rw [← hyr] at hy2
  clear hxa hxb hxc hya hyb hyc hxs hys hxr hyr
  obtain ⟨b, hb⟩ : ∃ b, b = eqB x y := ⟨_, rfl⟩
  rw [← hb] at HC
  have HQ := am hb
  clear hb
  cases b with
  | false =>
   go_wp2_with (go_at_call 46; refine (HC.out _ (qAJ HB.out HB.out.size (((Below.refl wr.heap.size wr).alloc (Nat.le_refl _) _).alloc (by simp) _))).mono ?_; rintro e w1 ⟨rfl, hw⟩; have HB2 := am (qAJ HB.out HB.out.size ((((Below.refl wr.heap.size wr).alloc (Nat.le_refl _) _).alloc (by simp) _).trans (hw.mono (by simp; omega)))); clear hw)
   go_ret
   refine ⟨?_, HB2.out⟩
   rw [qBP (r := false) ⟨nofun, fun h => by
     have h1 := HX.out
     rw [h, HY.out] at h1
     have h2 := qBj.2 (Option.some.inj h1).symm
     rw [← HQ.out] at h2; cases h2⟩]; rfl
  | true =>
   go_wp2_with (go_at_call 46; refine (HC.out _ (qAJ HB.out HB.out.size (((Below.refl wr.heap.size wr).alloc (Nat.le_refl _) _).alloc (by simp) _))).mono ?_; rintro e w1 ⟨rfl, hw⟩; have HB2 := am (qAJ HB.out HB.out.size ((((Below.refl wr.heap.size wr).alloc (Nat.le_refl _) _).alloc (by simp) _).trans (hw.mono (by simp; omega)))); clear hw)
   go_roundg (n1 - (kk + 1))
   case measure => omega
   case rel =>
    refine ⟨kk + 1, by omega, by omega, by go_num, ⟨fun j u v hj hu hv => ?_⟩, HB2⟩
    by_cases e : j = kk
    rotate_left
    ·exact HA.out j u v (by omega) hu hv
    subst e
    rw [HX.out] at hu; rw [HY.out] at hv
    injection hu with hu; injection hv with hv; subst hu; subst hv
    exact qBj.1 HQ.out.symm
end Q
end
section
namespace Q
open Go.RowKit YA YC YB
theorem eqints_any (A1 A2 : Option Addr) (c1 c2 : Nat) (l1 l2 : List Int) (w : World) (h1 : Kd.C (Kd.int .i64) w A1 l1.length l1) (h2 : Kd.C (Kd.int .i64) w A2 l2.length l2) (hc1 : l1.length ≤ c1) (hc2 : l2.length ≤ c2) (hl : l1.length ≤ 4611686018427387904) :
  Calls Try.prog 47 #[.slice A1 l1.length c1, .slice A2 l2.length c2] w fun e w' => e = .returned (.bool (l1 == l2)) ∧ Below w.heap.size w w' := by
 obtain ⟨k, hk⟩ := (qCt l1 l2 hl).rounds
 rw [qBP (r := l1 == l2) (by simp)] at hk
 refine (qAl.calls k A1 c1 l1 A2 c2 l2 _ w h1 hc1 h2 hc2 hk).mono ?_
 rintro e w' ⟨rfl, hd⟩
 exact ⟨rfl, hd.below⟩
def tryB (x y : S204) : Bool := x.f0 == y.f0 && x.f1 == y.f1
theorem tryB_iff (x y : S204) : tryB x y = true ↔ x = y := by
 obtain ⟨a, b⟩ := x
 obtain ⟨c, d⟩ := y
 simp [tryB]
theorem sameTry_any (n1 n2 : Int) (A1 A2 : Option Addr) (c1 c2 : Nat) (l1 l2 : List Int) (w : World) (h1 : Kd.C (Kd.int .i64) w A1 l1.length l1) (h2 : Kd.C (Kd.int .i64) w A2 l2.length l2) (hc1 : l1.length ≤ c1) (hc2 : l2.length ≤ c2) (hl : l1.length ≤ 4611686018427387904) :
  Calls Try.prog 135 #[.agg #[.int .i64 n1, .slice A1 l1.length c1], .agg #[.int .i64 n2, .slice A2 l2.length c2]] w fun e w' => e = .returned (.bool (n1 == n2 && l1 == l2)) ∧ Below w.heap.size w w' := by
 have HE : qAb (∀ W, Below w.heap.size w W → Calls Try.prog 47 #[.slice A1 l1.length c1, .slice A2 l2.length c2] W fun e w' => e = .returned (.bool (l1 == l2)) ∧ Below W.heap.size W w') :=
  ⟨fun W hW => eqints_any A1 A2 c1 c2 l1 l2 W (Kd.C_below h1 hW) (Kd.C_below h2 hW) hc1 hc2 hl⟩
 obtain ⟨k1, hk1⟩ : ∃ k, k = l1.length := ⟨_, rfl⟩
 obtain ⟨k2, hk2⟩ : ∃ k, k = l2.length := ⟨_, rfl⟩
 obtain ⟨b, hb⟩ : ∃ b, b = (l1 == l2) := ⟨_, rfl⟩
 rw [← hk1, ← hk2, ← hb] at HE
 rw [← hk1, ← hk2, ← hb]
 clear h1 h2 hc1 hc2 hl hk1 hk2 hb
 go_enter Try.func135, Try.ntmps135
 go_wp2_with (go_at_call 47; refine (HE.out _ (((Below.refl _ _).alloc (Nat.le_refl _) _).alloc (by simp) _)).mono ?_; rintro e w1 ⟨rfl, hw⟩; have HB := am ((((Below.refl w.heap.size w).alloc (Nat.le_refl _) _).alloc (by simp) _).trans (hw.mono (by simp; omega))); clear hw)
 ·have e1 : (n1 == n2) = true := by simp_all
  rw [e1]
  go_ret
  exact ⟨by simp, HB.out⟩
 ·rename_i hne
  have e1 : (n1 == n2) = false := beq_eq_false_iff_ne.mpr hne
  rw [e1]
  go_ret
  exact ⟨rfl, ((Below.refl w.heap.size w).alloc (Nat.le_refl _) _).alloc (by simp) _⟩
def qBT : List S204 → List S204 → Bool
 | [], [] => true
 | x :: xs, y :: ys => tryB x y && qBT xs ys
 | _, _ => false
theorem qCT : ∀ a b : List S204, qBT a b = true ↔ a = b
 | [], [] => by simp [qBT]
 | [], _ :: _ => by simp [qBT]
 | _ :: _, [] => by simp [qBT]
 | x :: xs, y :: ys => by simp [qBT, tryB_iff, qCT xs ys]
theorem triesB_of {a b : List S204} {r : Bool} (h : r = true ↔ a = b) : qBT a b = r := by
 cases r with
 | true => exact (qCT a b).2 (h.1 rfl)
 | false =>
  cases e : qBT a b with
  | false => rfl
  | true => exact (h.2 ((qCT a b).1 e)).symm
theorem eqtries_any (A1 A2 : Option Addr) (c1 c2 : Nat) (l1 l2 : List S204) (w : World) (hr1 : Kd.C k204 w A1 l1.length l1) (hr2 : Kd.C k204 w A2 l2.length l2) (hl : l1.length ≤ 4611686018427387904) (hs : ∀ x ∈ l1, x.f1.length ≤ 4611686018427387904) :
  Calls Try.prog 134 #[.slice A1 l1.length c1, .slice A2 l2.length c2, .func (.func 135) #[] #[]] w fun e w' => e = .returned (.bool (qBT l1 l2)) ∧ Below w.heap.size w w' := by
 obtain ⟨n1, hn1⟩ : ∃ n, n = l1.length := ⟨_, rfl⟩
 obtain ⟨n2, hn2⟩ : ∃ n, n = l2.length := ⟨_, rfl⟩
 rw [← hn1] at hr1 hl ⊢
 rw [← hn2] at hr2 ⊢
 have HR1 := am hr1
 have HR2 := am hr2
 have HN1 := am hn1
 have HN2 := am hn2
 have HS := am hs
 clear hr1 hr2 hn1 hn2 hs
 by_cases hne : n1 = n2
 case neg =>
  have hq : ((n1 : Int) != (n2 : Int)) = true := bne_iff_ne.mpr (by omega)
  have hq2 : (n1 == n2) = false := beq_eq_false_iff_ne.mpr hne
  have HF : qAb (qBT l1 l2 = false) := ⟨triesB_of ⟨nofun, fun h => absurd (by rw [HN1.out, HN2.out, h]) hne⟩⟩
  go_enter Try.func134, Try.ntmps134
  go_wp2
  go_ret
  exact ⟨by rw [HF.out]; rfl, Below.refl _ _⟩
 subst hne
 have hq : ((n1 : Int) != (n1 : Int)) = false := bne_eq_false_iff_eq.mpr rfl
 go_enter Try.func134, Try.ntmps134
 go_wp2
 go_loopg [7, 8, 9, 17] n1 (fun gg _ _ _ s17 wr => ∃ kk : Nat, kk ≤ n1 ∧ n1 - kk ≤ gg ∧ s17 = .int .i64 kk ∧ qAb (∀ (j : Nat) x y, j < kk → l1[j]? = some x → l2[j]? = some y → x = y) ∧ qAb (Below w.heap.size w wr))
 case atStart => exact ⟨0, Nat.zero_le _, by omega, rfl, ⟨fun j x y hj => absurd hj (Nat.not_lt_zero _)⟩, ⟨Below.refl _ _⟩⟩
 case round =>
  obtain ⟨kk, hkk, hg, rfl, HA, HB⟩ := hrel
  by_cases hlt : kk < n1
  rotate_left
  ·have hltz : ¬ (kk : Int) < (n1 : Int) := by omega
   have : kk = n1 := by omega
   subst this
   go_wp2
   go_ret
   refine ⟨?_, HB.out⟩
   rw [(qCT l1 l2).2 (eq_take l1 l2 (by rw [← HN1.out, ← HN2.out]) fun j x y hx hy => HA.out j x y (by rw [HN1.out]; exact (List.getElem?_eq_some_iff.1 hx).1) hx hy)]
   rfl
  have hltz : (kk : Int) < (n1 : Int) := by omega
  have h0 : (0 : Int) ≤ (kk : Int) := by omega
  obtain ⟨ad, D1, d1, ea, hx0, hx1, xl1, xC1⟩ := at_T204 HR1.out (kk : Int) h0 hltz
  subst ea
  obtain ⟨bd, E1, e1, eb, hy0, hy1, yl1, yC1⟩ := at_T204 HR2.out (kk : Int) h0 hltz
  subst eb
  rw [Int.toNat_natCast] at hx0 hx1 hy0 hy1
  replace hx0 := cb HB hx0
  replace hx1 := cb HB hx1
  replace hy0 := cb HB hy0
  replace hy1 := cb HB hy1
  obtain ⟨x, hx⟩ : ∃ x, x = qCZ l1 (kk : Int) := ⟨_, rfl⟩
  obtain ⟨y, hy⟩ : ∃ x, x = qCZ l2 (kk : Int) := ⟨_, rfl⟩
  rw [← hx] at hx0 hx1 xl1 xC1
  rw [← hy] at hy0 hy1 yl1 yC1
  have hgx : l1[kk]? = some x := by rw [hx]; exact qBE l1 z204 kk (by have := HN1.out; omega)
  have HX := am hgx
  have HY : qAb (l2[kk]? = some y) := ⟨by rw [hy]; exact qBE l2 z204 kk (by have := HN2.out; omega)⟩
  have HC : qAb (∀ W, Below w.heap.size w W → Calls Try.prog 135 #[.agg #[.int .i64 x.f0, .slice D1 x.f1.length d1], .agg #[.int .i64 y.f0, .slice E1 y.f1.length e1]] W fun e w' => e = .returned (.bool (tryB x y)) ∧ Below W.heap.size W w') :=
   ⟨fun W hW => sameTry_any x.f0 y.f0 D1 E1 d1 e1 x.f1 y.f1 W (Kd.C_below xC1 hW) (Kd.C_below yC1 hW) xl1 yl1 (HS.out x (List.mem_of_getElem? hgx))⟩
  clear hx hy xl1 xC1 yl1 yC1 hgx
  have hbl : (bd.add (kk * 2)).block < wr.heap.size := World.block_lt_of_cell? wr _ hy0
  obtain ⟨xa, hxa⟩ : ∃ q, q = x.f1.length := ⟨_, rfl⟩
  obtain ⟨ya, hya⟩ : ∃ q, q = y.f1.length := ⟨_, rfl⟩
  rw [← hxa, ← hya] at HC
  rw [← hxa] at hx1
  rw [← hya] at hy1
  obtain ⟨xs, hxs⟩ : ∃ q, q = x.f0 := ⟨_, rfl⟩
  obtain ⟨ys, hys⟩ : ∃ q, q = y.f0 := ⟨_, rfl⟩
  rw [← hxs, ← hys] at HC
  rw [← hxs] at hx0
  rw [← hys] at hy0
  clear hxa hya hxs hys
  obtain ⟨b, hb⟩ : ∃ b, b = tryB x y := ⟨_, rfl⟩
  rw [← hb] at HC
  have HQ := am hb
  clear hb
  cases b with
  | false =>
   go_wp2_with (go_at_call 135; refine (HC.out _ (qAJ HB.out HB.out.size (((Below.refl wr.heap.size wr).alloc (Nat.le_refl _) _).alloc (by simp) _))).mono ?_; rintro e w1 ⟨rfl, hw⟩; have HB2 := am (qAJ HB.out HB.out.size ((((Below.refl wr.heap.size wr).alloc (Nat.le_refl _) _).alloc (by simp) _).trans (hw.mono (by simp; omega)))); clear hw)
   go_ret
   refine ⟨?_, HB2.out⟩
   rw [triesB_of (r := false) ⟨nofun, fun h => by
     have h1 := HX.out
     rw [h, HY.out] at h1
     have h2 := (tryB_iff x y).2 (Option.some.inj h1).symm
     rw [← HQ.out] at h2; cases h2⟩]; rfl
  | true =>
   go_wp2_with (go_at_call 135; refine (HC.out _ (qAJ HB.out HB.out.size (((Below.refl wr.heap.size wr).alloc (Nat.le_refl _) _).alloc (by simp) _))).mono ?_; rintro e w1 ⟨rfl, hw⟩; have HB2 := am (qAJ HB.out HB.out.size ((((Below.refl wr.heap.size wr).alloc (Nat.le_refl _) _).alloc (by simp) _).trans (hw.mono (by simp; omega)))); clear hw)
   go_roundg (n1 - (kk + 1))
   case measure => omega
   case rel =>
    refine ⟨kk + 1, by omega, by omega, by go_num, ⟨fun j u v hj hu hv => ?_⟩, HB2⟩
    by_cases e : j = kk
    rotate_left
    ·exact HA.out j u v (by omega) hu hv
    subst e
    rw [HX.out] at hu; rw [HY.out] at hv
    injection hu with hu; injection hv with hv; subst hu; subst hv
    exact (tryB_iff x y).1 HQ.out.symm
theorem same_any (m1 m2 : Bool) (A1 A2 B1 B2 : Option Addr) (c1 c2 d1 d2 : Nat) (s1 s2 : List Int) (t1 t2 : List S204) (w : World) (h1 : Kd.C (Kd.int .i64) w A1 s1.length s1) (h2 : Kd.C (Kd.int .i64) w A2 s2.length s2) (g1 : Kd.C k204 w B1 t1.length t1) (g2 : Kd.C k204 w B2 t2.length t2) (hc1 : s1.length ≤ c1) (hc2 : s2.length ≤ c2)
  (hl : s1.length ≤ 4611686018427387904) (hm : t1.length ≤ 4611686018427387904) (hs : ∀ x ∈ t1, x.f1.length ≤ 4611686018427387904) :
  Calls Try.prog 130 #[.agg #[.bool m1, .slice A1 s1.length c1, .slice B1 t1.length d1], .agg #[.bool m2, .slice A2 s2.length c2, .slice B2 t2.length d2]] w fun e w' => e = .returned (.bool (s1 == s2 && qBT t1 t2)) ∧ Below w.heap.size w w' := by
 have HE : qAb (∀ W, Below w.heap.size w W → Calls Try.prog 47 #[.slice A1 s1.length c1, .slice A2 s2.length c2] W fun e w' => e = .returned (.bool (s1 == s2)) ∧ Below W.heap.size W w') :=
  ⟨fun W hW => eqints_any A1 A2 c1 c2 s1 s2 W (Kd.C_below h1 hW) (Kd.C_below h2 hW) hc1 hc2 hl⟩
 have HF : qAb (∀ W, Below w.heap.size w W → Calls Try.prog 134 #[.slice B1 t1.length d1, .slice B2 t2.length d2, .func (.func 135) #[] #[]] W fun e w' => e = .returned (.bool (qBT t1 t2)) ∧ Below W.heap.size W w') :=
  ⟨fun W hW => eqtries_any B1 B2 d1 d2 t1 t2 W (Kd.C_below g1 hW) (Kd.C_below g2 hW) hm hs⟩
 obtain ⟨k1, hk1⟩ : ∃ k, k = s1.length := ⟨_, rfl⟩
 obtain ⟨k2, hk2⟩ : ∃ k, k = s2.length := ⟨_, rfl⟩
 obtain ⟨k3, hk3⟩ : ∃ k, k = t1.length := ⟨_, rfl⟩
 obtain ⟨k4, hk4⟩ : ∃ k, k = t2.length := ⟨_, rfl⟩
 obtain ⟨a, ha⟩ : ∃ b, b = (s1 == s2) := ⟨_, rfl⟩
 obtain ⟨b, hb⟩ : ∃ b, b = qBT t1 t2 := ⟨_, rfl⟩
 rw [← hk1, ← hk2, ← ha] at HE
 rw [← hk3, ← hk4, ← hb] at HF
 rw [← hk1, ← hk2, ← hk3, ← hk4, ← ha, ← hb]
 clear h1 h2 g1 g2 hc1 hc2 hl hm hs hk1 hk2 hk3 hk4 ha hb
 obtain ⟨WB, hWB⟩ : ∃ WB, WB = (w.alloc (.cells #[.bool m1, .slice A1 k1 c1, .slice B1 k3 d1] 192)).alloc (.cells #[.bool m2, .slice A2 k2 c2, .slice B2 k4 d2] 192) := ⟨_, rfl⟩
 have hBB : Below w.heap.size w WB := hWB ▸ ((Below.refl _ _).alloc (Nat.le_refl _) _).alloc (by simp) _
 have b0 : WB.heap[w.heap.size]? = some (.cells #[.bool m1, .slice A1 k1 c1, .slice B1 k3 d1] 192 (0, 0)) := by rw [hWB]; exact qAe (qAU w _) (qAi (Below.refl _ _) _)
 have b1 : WB.heap[w.heap.size + 1]? = some (.cells #[.bool m2, .slice A2 k2 c2, .slice B2 k4 d2] 192 (0, 0)) := by rw [hWB]; simpa using qAU (w.alloc (.cells #[.bool m1, .slice A1 k1 c1, .slice B1 k3 d1] 192)) _
 have HWB := am hWB
 have HBB := am hBB
 clear hWB hBB
 go_enter Try.func130, Try.ntmps130
 go_wp2_with (first
   | (go_at_call 47; rw [← HWB.out]; refine (HE.out _ HBB.out).mono ?_; rintro e w1 ⟨rfl, hw⟩; have f2 := (qAa (qAe b0 hw) 2).trans rfl; have g2 := (qAa (qAe b1 hw) 2).trans rfl; have HB1 := am (qAJ HBB.out HBB.out.size hw); clear hw)
   | (go_at_call 134; refine (HF.out _ HB1.out).mono ?_; rintro e w2 ⟨rfl, hw⟩; have HB2 := am (qAJ HB1.out HB1.out.size hw); clear hw))
 ·rename_i h
  subst h
  go_ret
  exact ⟨by simp, HB2.out⟩
 ·rename_i h
  have h' : a = false := by simpa using h
  subst h'
  go_ret
  exact ⟨rfl, HB1.out⟩
theorem way_F {W : World} {okF : Nat → Prop} {A : Option Addr} {n : Nat} {ws : List S201} (hF : Kd.F k201 W okF A n ws) (i : Int) (h0 : 0 ≤ i) (h1 : i < n) :
  ∃ ad D1 d1 D2 d2, A = some ad ∧ W.cell? (ad.add (i.toNat * 4)) = some (.int .i64 (qBD ws i).f0) ∧ W.cell? ⟨(ad.add (i.toNat * 4)).block, (ad.add (i.toNat * 4)).off + 1, none⟩ = some (.bool (qBD ws i).f1.f0) ∧ W.cell? ⟨(ad.add (i.toNat * 4)).block, (ad.add (i.toNat * 4)).off + 2, none⟩ = some (.slice D1 (qBD ws i).f1.f1.length d1) ∧ W.cell? ⟨(ad.add (i.toNat * 4)).block, (ad.add (i.toNat * 4)).off + 3, none⟩ = some (.slice D2 (qBD ws i).f1.f2.length d2) ∧ (qBD ws i).f1.f1.length ≤ d1 ∧ Kd.F (Kd.int .i64) W okF D1 (qBD ws i).f1.f1.length (qBD ws i).f1.f1 ∧ Kd.F k204 W okF D2 (qBD ws i).f1.f2.length (qBD ws i).f1.f2 ∧ okF ad.block := by
 obtain ⟨ad, c, rfl, hcl, hK, hcc0, hok⟩ := Kd.F_get hF z201 i h0 h1
 have hcc : ∀ j u, c[j]? = some u → W.cell? (ad.add (i.toNat * 4 + j)) = some u := hcc0
 obtain ⟨D1, d1, D2, d2, hcs, hd, _, _, _⟩ := qEl (Kd.FK_now hK)
 subst hcs
 refine ⟨ad, D1, d1, D2, d2, rfl, hcc 0 _ rfl, by rw [← qAM _ _ 1 (by omega)]; exact hcc 1 _ rfl, by rw [← qAM _ _ 2 (by omega)]; exact hcc 2 _ rfl, by rw [← qAM _ _ 3 (by omega)]; exact hcc 3 _ rfl, hd, fun W' hW => ?_, fun W' hW => ?_, hok (by decide)⟩
 ·obtain ⟨D1', d1', D2', d2', hcs', _, hC', _, _⟩ := qEl (hK W' hW)
  simp only [List.cons.injEq, Value.slice.injEq] at hcs'
  rw [hcs'.2.2.1.1]
  exact hC'
 ·obtain ⟨D1', d1', D2', d2', hcs', _, _, _, hC'⟩ := qEl (hK W' hW)
  simp only [List.cons.injEq, Value.slice.injEq] at hcs'
  rw [hcs'.2.2.2.1.1]
  exact hC'
theorem shape_N {W : World} {ok : Nat → Prop} {O n cap : Nat} {out : List S192} (h : Kd.N k192 192 W 0 ok (.slice (some ⟨O, 0, none⟩) n cap) out) (i : Int) (h0 : 0 ≤ i) (h1 : i < n) :
  ∃ D1 d1 D2 d2, W.cell? ⟨O, i.toNat * 3, none⟩ = some (.bool (qAN out i).f0) ∧ W.cell? ⟨O, i.toNat * 3 + 1, none⟩ = some (.slice D1 (qAN out i).f1.length d1) ∧ W.cell? ⟨O, i.toNat * 3 + 2, none⟩ = some (.slice D2 (qAN out i).f2.length d2) ∧ (qAN out i).f1.length ≤ d1 ∧ Kd.F (Kd.int .i64) W (fun k => ok k ∧ k ≠ O) D1 (qAN out i).f1.length (qAN out i).f1 ∧ Kd.F k204 W (fun k => ok k ∧ k ≠ O) D2 (qAN out i).f2.length (qAN out i).f2 ∧ ∀ j, W.frozen? ⟨O, i.toNat * 3 + j, none⟩ = false := by
 obtain ⟨c, hcl, hK, hcc0, hfr⟩ := Kd.N_elem h z192 i h0 h1
 have hcc : ∀ j u, c[j]? = some u → W.cell? ⟨O, i.toNat * 3 + j, none⟩ = some u := hcc0
 obtain ⟨D1, d1, D2, d2, hcs, hd, _, _, _⟩ := qCu (Kd.FK_now hK)
 subst hcs
 refine ⟨D1, d1, D2, d2, hcc 0 _ rfl, hcc 1 _ rfl, hcc 2 _ rfl, hd, fun W' hW => ?_, fun W' hW => ?_, hfr⟩
 ·obtain ⟨D1', d1', D2', d2', hcs', _, hC', _, _⟩ := qCu (hK W' hW)
  simp only [List.cons.injEq, Value.slice.injEq] at hcs'
  rw [hcs'.2.1.1]
  exact hC'
 ·obtain ⟨D1', d1', D2', d2', hcs', _, _, _, hC'⟩ := qCu (hK W' hW)
  simp only [List.cons.injEq, Value.slice.injEq] at hcs'
  rw [hcs'.2.2.1.1]
  exact hC'
theorem FK_shape {W : World} {m : Bool} {v1 v2 : Value} {st : List Int} {tr : List S204} {b1 b3 : Nat} {ok1 ok3 okp : Nat → Prop} (g1 : Kd.N (Kd.int .i64) 3 W b1 ok1 v1 st) (h1 : ∀ q, ok1 q → okp q) (g3 : Kd.N k204 204 W b3 ok3 v2 tr) (h3 : ∀ q, ok3 q → okp q) :
  Kd.FK k192 W okp ⟨m, st, tr⟩ [.bool m, v1, v2] := by
 obtain ⟨A1, c1, rfl⟩ := Kd.N_slice g1
 obtain ⟨A2, c2, rfl⟩ := Kd.N_slice g3
 intro W' hW
 exact k192_mk W' ⟨m, st, tr⟩ (Kd.N_reads' g1).2.1 (Kd.F_mono (Kd.N_F g1) h1 W' hW) (Kd.N_reads' g3).2.1 (Kd.F_mono (Kd.N_F g3) h3 W' hW)
theorem N_lay {W : World} {ok okp : Nat → Prop} {O n cap : Nat} {out : List S192} (h : Kd.N k192 192 W 0 ok (.slice (some ⟨O, 0, none⟩) n cap) out) (i : Int) (h0 : 0 ≤ i) (h1 : i < n) {y0 y1 y2 : Value} (c0 : W.cell? ⟨O, i.toNat * 3, none⟩ = some y0) (c1 : W.cell? ⟨O, i.toNat * 3 + 1, none⟩ = some y1) (c2 : W.cell? ⟨O, i.toNat * 3 + 2, none⟩ = some y2)
  {m : Bool} {v1 v2 : Value} {st : List Int} {tr : List S204} (hM : ∀ b : Bool, Kd.FK k192 W okp ⟨b, st, tr⟩ [.bool b, v1, v2]) (hokp : ∀ k, okp k → ok k ∧ k ≠ O) :
  Kd.N k192 192 ((((W.setCell ⟨O, i.toNat * 3, none⟩ (.bool m)).setCell ⟨O, i.toNat * 3 + 1, none⟩ v1).setCell ⟨O, i.toNat * 3 + 2, none⟩ v2).setCell ⟨O, i.toNat * 3, none⟩ (.bool true)) 0 ok (.slice (some ⟨O, 0, none⟩) n cap) (out.set i.toNat ⟨true, st, tr⟩) := by
 have hc : ∀ (j : Nat) u, [y0, y1, y2][j]? = some u → W.cell? ⟨O, i.toNat * 3 + j, none⟩ = some u := fun j u hj => by
  rcases j with _ | _ | _ | j
  ·injection hj with hj; subst hj; exact c0
  ·injection hj with hj; subst hj; exact c1
  ·injection hj with hj; subst hj; exact c2
  cases hj
 obtain ⟨hN1, hg1⟩ := Kd.N_seg h i h0 h1 (c := [y0, y1, y2]) (seg := [.bool m, v1, v2]) (j := 0) rfl hc (show (3 : Nat) ≤ 3 from Nat.le_refl 3) (hM m) hokp
 have e1 : W.setCells O (i.toNat * 3 + 0) [.bool m, v1, v2] = (((W.setCell ⟨O, i.toNat * 3, none⟩ (.bool m)).setCell ⟨O, i.toNat * 3 + 1, none⟩ v1).setCell ⟨O, i.toNat * 3 + 2, none⟩ v2) := rfl
 change Kd.N k192 192 (W.setCells O (i.toNat * 3 + 0) [.bool m, v1, v2]) _ _ _ _ at hN1
 change W.grownBy (W.setCells O (i.toNat * 3 + 0) [.bool m, v1, v2]) _ at hg1
 rw [e1] at hN1 hg1
 obtain ⟨W1, hW1⟩ : ∃ W1, W1 = (((W.setCell ⟨O, i.toNat * 3, none⟩ (.bool m)).setCell ⟨O, i.toNat * 3 + 1, none⟩ v1).setCell ⟨O, i.toNat * 3 + 2, none⟩ v2) := ⟨_, rfl⟩
 have d0 : W1.cell? ⟨O, i.toNat * 3, none⟩ = some (.bool m) := by
  rw [hW1, World.cell?_setCell_other _ _ _ _ (by simp), World.cell?_setCell_other _ _ _ _ (by simp)]
  exact World.cell?_setCell_same _ _ _ c0
 have d1 : W1.cell? ⟨O, i.toNat * 3 + 1, none⟩ = some v1 := by
  rw [hW1, World.cell?_setCell_other _ _ _ _ (by simp)]
  exact World.cell?_setCell_same _ _ _ ((World.cell?_setCell_other _ _ _ _ (by simp)).trans c1)
 have d2 : W1.cell? ⟨O, i.toNat * 3 + 2, none⟩ = some v2 := by
  rw [hW1]
  exact World.cell?_setCell_same _ _ _ ((World.cell?_setCell_other _ _ _ _ (by simp)).trans ((World.cell?_setCell_other _ _ _ _ (by simp)).trans c2))
 rw [← hW1] at hN1 hg1 ⊢
 have hd : ∀ (j : Nat) u, [.bool m, v1, v2][j]? = some u → W1.cell? ⟨O, i.toNat * 3 + j, none⟩ = some u := fun j u hj => by
  rcases j with _ | _ | _ | j
  ·injection hj with hj; subst hj; exact d0
  ·injection hj with hj; subst hj; exact d1
  ·injection hj with hj; subst hj; exact d2
  cases hj
 obtain ⟨hN2, _⟩ := Kd.N_seg hN1 i h0 h1 (c := [.bool m, v1, v2]) (seg := [.bool true]) (j := 0) rfl hd (show (1 : Nat) ≤ 3 by decide) (okp := okp) (x' := ⟨true, st, tr⟩) (Kd.FK_step (hM true) (fun k hk hlt => hg1.block k hlt (fun e => (hokp k hk).2 (by injection e)))) hokp
 rw [List.set_set] at hN2
 exact hN2
theorem qDJ {W w5 : World} {m : Nat} (h : Below (W.drewN m).heap.size (W.drewN m) w5) : Below W.heap.size W w5 := (qAp (Below.refl _ W) m).trans (h.mono (qAp (Below.refl 0 W) m).size)
def qCV : List S192 → List S201 → Int × List S192
 | out, [] => (0, out)
 | out, w :: ws => if (qAN out w.f0).f0 = true then (if ((qAN out w.f0).f1 == w.f1.f1 && qBT (qAN out w.f0).f2 w.f1.f2) = true then qCV out ws else (22, out)) else qCV (out.set w.f0.toNat ⟨true, w.f1.f1, w.f1.f2⟩) ws
theorem qEf (out : List S192) (w : S201) (ws : List S201) : qCV out (w :: ws) = if (qAN out w.f0).f0 = true then (if ((qAN out w.f0).f1 == w.f1.f1 && qBT (qAN out w.f0).f2 w.f1.f2) = true then qCV out ws else (22, out)) else qCV (out.set w.f0.toNat ⟨true, w.f1.f1, w.f1.f2⟩) ws := rfl
def qCF (out : List S192) (ws : List S201) : Int × List S192 :=
 if (ws.any fun w => decide ((out.length : Int) ≤ w.f0)) = true then (51, out)
 else if (ws.any fun w => decide (512 < w.f1.f1.length) || decide (32 < w.f1.f2.length)) = true then (3, out)
 else qCV out ws
theorem noteS_far {out : List S192} {ws : List S201} {j : Nat} {x : S201} (hx : ws[j]? = some x) (h : (out.length : Int) ≤ x.f0) : qCF out ws = (51, out) := by
 unfold qCF
 rw [if_pos]
 rw [List.any_eq_true]
 exact ⟨x, List.mem_of_getElem? hx, by simpa using h⟩
theorem noteS_big {out : List S192} {ws : List S201} {j : Nat} {x : S201} (hn : ∀ (j : Nat) x, ws[j]? = some x → x.f0 < (out.length : Int)) (hx : ws[j]? = some x) (h : (decide (512 < x.f1.f1.length) || decide (32 < x.f1.f2.length)) = true) : qCF out ws = (3, out) := by
 unfold qCF
 rw [if_neg, if_pos]
 ·rw [List.any_eq_true]
  exact ⟨x, List.mem_of_getElem? hx, h⟩
 rw [List.any_eq_true]
 rintro ⟨y, hy, hb⟩
 obtain ⟨i, hi⟩ := List.getElem?_of_mem hy
 have := hn i y hi
 simp at hb
 omega
theorem noteS_go {out : List S192} {ws : List S201} (hn : ∀ (j : Nat) x, ws[j]? = some x → x.f0 < (out.length : Int)) (hb : ∀ (j : Nat) x, ws[j]? = some x → (decide (512 < x.f1.f1.length) || decide (32 < x.f1.f2.length)) = false) : qCF out ws = qCV out ws := by
 unfold qCF
 rw [if_neg, if_neg]
 ·rw [List.any_eq_true]
  rintro ⟨y, hy, h⟩
  obtain ⟨i, hi⟩ := List.getElem?_of_mem hy
  rw [hb i y hi] at h
  cases h
 rw [List.any_eq_true]
 rintro ⟨y, hy, h⟩
 obtain ⟨i, hi⟩ := List.getElem?_of_mem hy
 have := hn i y hi
 simp at h
 omega
theorem note_any {W : World} (O N cap : Nat) (out : List S192) {okO okW : Nat → Prop} (HN : Kd.N k192 192 W 0 okO (.slice (some ⟨O, 0, none⟩) N cap) out) (A : Option Addr) (n c : Nat) (ws : List S201) (HF : Kd.F k201 W okW A n ws) (hoff : ¬ okW O) (hto : ∀ w ∈ ws, 0 ≤ w.f0) (hn : n ≤ 2000000) (hN : N ≤ 2000000)
  (hsz : ∀ x ∈ out, x.f1.length ≤ 2000000 ∧ x.f2.length ≤ 2000000 ∧ ∀ y ∈ x.f2, y.f1.length ≤ 2000000) (hws : ∀ w ∈ ws, ∀ y ∈ w.f1.f2, y.f1.length ≤ 2000000) :
  Calls Try.prog 120 #[.slice (some ⟨O, 0, none⟩) N cap, .slice A n c] W fun e w' => e = .returned (.int .i64 (qCF out ws).1) ∧ Kd.N k192 192 w' 0 (fun q => (okO q ∨ okW q) ∨ W.heap.size ≤ q) (.slice (some ⟨O, 0, none⟩) N cap) (qCF out ws).2 ∧ Fr W w' (fun q => q = O) := by
 have hNl : N = out.length := (Kd.N_reads' HN).1
 have hnl : ws.length = n := Kd.F_len HF
 have HH := am HN
 have HW := am HF
 have HNl := am hNl
 have Hnl := am hnl
 have HTO := am hto
 have HSZ := am hsz
 have HWS := am hws
 have HOFF := am hoff
 have hOl : O < W.heap.size := Kd.N_lt HN O (by simp [Value.ownBlock])
 clear HN HF hNl hnl hto hsz hws hoff
 go_enter Try.func120, Try.ntmps120
 go_wp2
 go_loopg [6, 13] n (fun gg _ s13 wr => ∃ kk : Nat, kk ≤ n ∧ n - kk ≤ gg ∧ s13 = .int .i64 kk ∧ qAb (∀ (j : Nat) x, j < kk → ws[j]? = some x → x.f0 < (N : Int)) ∧ qAb (Below W.heap.size W wr))
 case atStart => exact ⟨0, Nat.zero_le _, by omega, rfl, ⟨fun j x hj => absurd hj (Nat.not_lt_zero _)⟩, ⟨Below.refl _ _⟩⟩
 case round =>
  obtain ⟨kk, hkk, hg, rfl, HA, HB⟩ := hrel
  by_cases hlt : kk < n
  ·have hltz : (kk : Int) < (n : Int) := by omega
   have h0 : (0 : Int) ≤ (kk : Int) := by omega
   obtain ⟨ad, D1, d1, D2, d2, ea, k0, k1, k2, k3, _, _, _, _⟩ := way_F HW.out (kk : Int) h0 hltz
   subst ea
   rw [Int.toNat_natCast] at k0 k1 k2 k3
   have hx : ws[kk]? = some (qBD ws (kk : Int)) := qBE ws z201 kk (by have := Hnl.out; omega)
   obtain ⟨x, hxe⟩ : ∃ x, x = qBD ws (kk : Int) := ⟨_, rfl⟩
   rw [← hxe] at k0 k1 k2 k3 hx
   obtain ⟨tt, hto⟩ : ∃ q, q = x.f0 := ⟨_, rfl⟩
   obtain ⟨mm, hmm⟩ : ∃ q, q = x.f1.f0 := ⟨_, rfl⟩
   obtain ⟨l1, hl1⟩ : ∃ q, q = x.f1.f1.length := ⟨_, rfl⟩
   obtain ⟨l2, hl2⟩ : ∃ q, q = x.f1.f2.length := ⟨_, rfl⟩
   rw [← hto] at k0
   rw [← hmm] at k1
   rw [← hl1] at k2
   rw [← hl2] at k3
   replace k0 := (HB.out.cell (World.block_lt_of_cell? W _ k0)).trans k0
   replace k1 := (HB.out.cell (World.block_lt_of_cell? W _ k1)).trans k1
   replace k2 := (HB.out.cell (World.block_lt_of_cell? W _ k2)).trans k2
   replace k3 := (HB.out.cell (World.block_lt_of_cell? W _ k3)).trans k3
   have HX := am hx
   have HT := am hto
   clear hx hxe hto hmm hl1 hl2
   by_cases hb : (N : Int) ≤ tt
   ·go_wp2
    go_ret
    rw [noteS_far HX.out (by rw [← HNl.out, ← HT.out]; exact hb)]
    refine ⟨rfl, Kd.N_mono (Kd.N_below HH.out (HB.out.alloc HB.out.size _)) (fun q hq => .inl (.inl hq)), Fr.of_below (HB.out.alloc HB.out.size _)⟩
   go_wp2
   go_roundg (n - (kk + 1))
   case measure => omega
   case rel =>
    refine ⟨kk + 1, by omega, by omega, by go_num, ⟨fun j u hj hu => ?_⟩, ⟨HB.out.alloc HB.out.size _⟩⟩
    by_cases e : j = kk
    rotate_left
    ·exact HA.out j u (by omega) hu
    subst e
    rw [HX.out] at hu
    injection hu with hu; subst hu
    rw [← HT.out]; omega
  have e0 : n = kk := by omega
  subst e0
  have HA1 : qAb (∀ (j : Nat) x, ws[j]? = some x → x.f0 < (N : Int)) := ⟨fun j x hx => HA.out j x (by have := (List.getElem?_eq_some_iff.1 hx).1; have := Hnl.out; omega) hx⟩
  have hnot : ¬ (n : Int) < (n : Int) := by omega
  obtain ⟨wA, hwA⟩ : ∃ wA, wA = wr := ⟨_, rfl⟩
  rw [← hwA]
  rw [← hwA] at HB
  have HBA := HB
  clear hwA HA HB hg hlt hkk
  go_wp2
  clear hnot
  go_loopg [8, 25] n (fun gg _ s25 wr => ∃ kk : Nat, kk ≤ n ∧ n - kk ≤ gg ∧ s25 = .int .i64 kk ∧ qAb (∀ (j : Nat) x, j < kk → ws[j]? = some x → (decide (512 < x.f1.f1.length) || decide (32 < x.f1.f2.length)) = false) ∧ qAb (Below W.heap.size W wr))
  case atStart => exact ⟨0, Nat.zero_le _, by omega, rfl, ⟨fun j x hj => absurd hj (Nat.not_lt_zero _)⟩, HBA⟩
  case round =>
   obtain ⟨kk, hkk, hg, rfl, HA, HB⟩ := hrel
   by_cases hlt : kk < n
   ·have hltz : (kk : Int) < (n : Int) := by omega
    have h0 : (0 : Int) ≤ (kk : Int) := by omega
    obtain ⟨ad, D1, d1, D2, d2, ea, k0, k1, k2, k3, _, _, _, _⟩ := way_F HW.out (kk : Int) h0 hltz
    subst ea
    rw [Int.toNat_natCast] at k0 k1 k2 k3
    have hx : ws[kk]? = some (qBD ws (kk : Int)) := qBE ws z201 kk (by have := Hnl.out; omega)
    obtain ⟨x, hxe⟩ : ∃ x, x = qBD ws (kk : Int) := ⟨_, rfl⟩
    rw [← hxe] at k0 k1 k2 k3 hx
    obtain ⟨tt, hto⟩ : ∃ q, q = x.f0 := ⟨_, rfl⟩
    obtain ⟨mm, hmm⟩ : ∃ q, q = x.f1.f0 := ⟨_, rfl⟩
    obtain ⟨l1, hl1⟩ : ∃ q, q = x.f1.f1.length := ⟨_, rfl⟩
    obtain ⟨l2, hl2⟩ : ∃ q, q = x.f1.f2.length := ⟨_, rfl⟩
    rw [← hto] at k0
    rw [← hmm] at k1
    rw [← hl1] at k2
    rw [← hl2] at k3
    replace k0 := (HB.out.cell (World.block_lt_of_cell? W _ k0)).trans k0
    replace k1 := (HB.out.cell (World.block_lt_of_cell? W _ k1)).trans k1
    replace k2 := (HB.out.cell (World.block_lt_of_cell? W _ k2)).trans k2
    replace k3 := (HB.out.cell (World.block_lt_of_cell? W _ k3)).trans k3
    have HX := am hx
    have HT1 := am hl1
    have HT2 := am hl2
    clear hx hxe hto hmm hl1 hl2
    by_cases hb1 : 512 < l1
    ·have hz1 : (512 : Int) < (l1 : Int) := by omega
     go_wp2
     go_ret
     rw [noteS_big (by rw [← HNl.out]; exact HA1.out) HX.out (by rw [← HT1.out, ← HT2.out]; simp [hb1])]
     refine ⟨rfl, Kd.N_mono (Kd.N_below HH.out (HB.out.alloc HB.out.size _)) (fun q hq => .inl (.inl hq)), Fr.of_below (HB.out.alloc HB.out.size _)⟩
    have hz1 : ¬ (512 : Int) < (l1 : Int) := by omega
    by_cases hb2 : 32 < l2
    ·have hz2 : (32 : Int) < (l2 : Int) := by omega
     go_wp2
     go_ret
     rw [noteS_big (by rw [← HNl.out]; exact HA1.out) HX.out (by rw [← HT1.out, ← HT2.out]; simp [hb2])]
     refine ⟨rfl, Kd.N_mono (Kd.N_below HH.out (HB.out.alloc HB.out.size _)) (fun q hq => .inl (.inl hq)), Fr.of_below (HB.out.alloc HB.out.size _)⟩
    have hz2 : ¬ (32 : Int) < (l2 : Int) := by omega
    go_wp2
    go_roundg (n - (kk + 1))
    case measure => omega
    case rel =>
     refine ⟨kk + 1, by omega, by omega, by go_num, ⟨fun j u hj hu => ?_⟩, ⟨HB.out.alloc HB.out.size _⟩⟩
     by_cases e : j = kk
     rotate_left
     ·exact HA.out j u (by omega) hu
     subst e
     rw [HX.out] at hu
     injection hu with hu; subst hu
     rw [← HT1.out, ← HT2.out]; simp [hb1, hb2]
   have e0 : n = kk := by omega
   subst e0
   have HA2 : qAb (∀ (j : Nat) x, ws[j]? = some x → (decide (512 < x.f1.f1.length) || decide (32 < x.f1.f2.length)) = false) := ⟨fun j x hx => HA.out j x (by have := (List.getElem?_eq_some_iff.1 hx).1; have := Hnl.out; omega) hx⟩
   have hnot : ¬ (n : Int) < (n : Int) := by omega
   obtain ⟨wB, hwB⟩ : ∃ wB, wB = wr := ⟨_, rfl⟩
   rw [← hwB]
   rw [← hwB] at HB
   have HBB := HB
   clear hwB HA HB hg hlt hkk
   go_wp2
   clear hnot
   have hba : qAb (∀ (a : Addr) (i : Nat), (a.add i).block = a.block) := ⟨fun a i => by unfold Addr.add; split <;> rfl⟩
   go_loopg [10, 44] n (fun gg _ s44 wr => ∃ (kk : Nat) (okk : List S192), kk ≤ n ∧ n - kk ≤ gg ∧ s44 = .int .i64 kk ∧ qAb (qCV okk (ws.drop kk) = qCV out ws) ∧ qAb (∀ x ∈ okk, x.f1.length ≤ 2000000 ∧ x.f2.length ≤ 2000000 ∧ ∀ y ∈ x.f2, y.f1.length ≤ 2000000) ∧ qAb (Kd.N k192 192 wr 0 (fun q => (okO q ∨ okW q) ∨ W.heap.size ≤ q) (.slice (some ⟨O, 0, none⟩) N cap) okk) ∧ qAb (Fr W wr (fun q => q = O)))
   case atStart => exact ⟨0, out, Nat.zero_le _, by omega, rfl, ⟨rfl⟩, HSZ, ⟨Kd.N_mono (Kd.N_below HH.out HBB.out) (fun q hq => .inl (.inl hq))⟩, ⟨Fr.of_below HBB.out⟩⟩
   case round =>
    obtain ⟨kk, okk, hkk, hg, rfl, HG, HSK, HNK, HFR⟩ := hrel
    by_cases hlt : kk < n
    rotate_left
    ·have e0 : n = kk := by omega
     subst e0
     have hnot : ¬ (n : Int) < (n : Int) := by omega
     go_wp2
     go_ret
     have hg0 := HG.out
     rw [List.drop_of_length_le (by have := Hnl.out; omega)] at hg0
     rw [noteS_go (by rw [← HNl.out]; exact HA1.out) HA2.out, ← hg0]
     exact ⟨rfl, HNK.out, HFR.out⟩
    have hltz : (kk : Int) < (n : Int) := by omega
    have h0 : (0 : Int) ≤ (kk : Int) := by omega
    obtain ⟨ad, D1, d1, D2, d2, ea, k0, k1, k2, k3, cl, F1, F2, okad⟩ := way_F HW.out (kk : Int) h0 hltz
    subst ea
    rw [Int.toNat_natCast] at k0 k1 k2 k3
    have hx : ws[kk]? = some (qBD ws (kk : Int)) := qBE ws z201 kk (by have := Hnl.out; omega)
    obtain ⟨x, hxe⟩ : ∃ x, x = qBD ws (kk : Int) := ⟨_, rfl⟩
    rw [← hxe] at k0 k1 k2 k3 hx cl F1 F2
    have hnO : ∀ i, (ad.add i).block ≠ O := fun i e => HOFF.out (by rw [hba.out] at e; exact e ▸ okad)
    replace k0 := HFR.out.cell k0 (hnO _)
    replace k1 := HFR.out.cell k1 (hnO _)
    replace k2 := HFR.out.cell k2 (hnO _)
    replace k3 := HFR.out.cell k3 (hnO _)
    replace F1 := Kd.F_bound (Kd.F_kept F1 HFR.out.2 (fun q hq e => HOFF.out (e ▸ hq)))
    replace F2 := Kd.F_bound (Kd.F_kept F2 HFR.out.2 (fun q hq e => HOFF.out (e ▸ hq)))
    have hto0 := HTO.out x (List.mem_of_getElem? hx)
    have hto1 := HA1.out kk x hx
    have hdr : ws.drop kk = x :: ws.drop (kk + 1) := by
     rw [List.drop_eq_getElem_cons (by have := Hnl.out; omega)]
     rw [List.getElem?_eq_getElem (by have := Hnl.out; omega)] at hx
     injection hx with hx
     rw [hx]
    have hgo := HG.out
    rw [hdr, qEf] at hgo
    obtain ⟨E1, e1, E2, e2, y0, y1, y2, ycl, Y1, Y2, yfr⟩ := shape_N HNK.out x.f0 hto0 hto1
    have hml : okk.length = N := (Kd.N_reads' HNK.out).1.symm
    have hym : qAN okk x.f0 ∈ okk := by
     unfold qAN
     rw [List.getD_eq_getElem?_getD, List.getElem?_eq_getElem (by omega)]
     exact List.getElem_mem _
    have hysz := HSK.out _ hym
    obtain ⟨y, hye⟩ : ∃ y, y = qAN okk x.f0 := ⟨_, rfl⟩
    rw [← hye] at y0 y1 y2 ycl Y1 Y2 hysz hgo
    have hxb := HA2.out kk x hx
    have hxw := HWS.out x (List.mem_of_getElem? hx)
    have hc2 : qAb (∀ W', Below wr.heap.size wr W' → Calls Try.prog 130 #[.agg #[.bool y.f0, .slice E1 y.f1.length e1, .slice E2 y.f2.length e2], .agg #[.bool x.f1.f0, .slice D1 x.f1.f1.length d1, .slice D2 x.f1.f2.length d2]] W' fun e w' => e = .returned (.bool (y.f1 == x.f1.f1 && qBT y.f2 x.f1.f2)) ∧ Below W'.heap.size W' w') :=
     ⟨fun W' hW => same_any _ _ E1 D1 E2 D2 e1 d1 e2 d2 _ _ _ _ W' (Kd.F_now (Kd.F_below Y1 hW)) (Kd.F_now (Kd.F_below F1 hW)) (Kd.F_now (Kd.F_below Y2 hW)) (Kd.F_now (Kd.F_below F2 hW)) ycl cl (by omega) (by omega) (fun z hz => by have := hysz.2.2 z hz; omega)⟩
    simp only [Bool.or_eq_false_iff, decide_eq_false_iff_not] at hxb
    have hc3 : qAb (∀ W', Below wr.heap.size wr W' → Calls Try.prog 119 #[.agg #[.bool x.f1.f0, .slice D1 x.f1.f1.length d1, .slice D2 x.f1.f2.length d2]] W' (qDU x.f1.f0 x.f1.f1 x.f1.f2 (fun q => okW q ∧ q < wr.heap.size) W')) :=
     ⟨fun W' hW => qD0 _ D1 d1 _ D2 _ d2 _ _ _ W' (Kd.F_below F1 hW) (Kd.F_below F2 hW) (by omega) (by omega) cl⟩
    have HX := am hx
    have HXB := am hxb
    have HXW := am hxw
    have HGO := am hgo
    have HYS := am hysz
    have HML := am hml
    clear hnO hx hdr F1 F2 Y1 Y2 cl ycl hym hysz hxb hxw hgo hml hye hxe
    obtain ⟨bq, hbq⟩ : ∃ q, q = (y.f1 == x.f1.f1 && qBT y.f2 x.f1.f2) := ⟨_, rfl⟩
    rw [← hbq] at HGO hc2
    obtain ⟨tt, htt⟩ : ∃ q, q = x.f0 := ⟨_, rfl⟩
    obtain ⟨mm, hmm⟩ : ∃ q, q = x.f1.f0 := ⟨_, rfl⟩
    obtain ⟨l1, hl1⟩ : ∃ q, q = x.f1.f1.length := ⟨_, rfl⟩
    obtain ⟨l2, hl2⟩ : ∃ q, q = x.f1.f2.length := ⟨_, rfl⟩
    obtain ⟨ym, hym⟩ : ∃ q, q = y.f0 := ⟨_, rfl⟩
    obtain ⟨m1, hm1⟩ : ∃ q, q = y.f1.length := ⟨_, rfl⟩
    obtain ⟨m2, hm2⟩ : ∃ q, q = y.f2.length := ⟨_, rfl⟩
    rw [← htt] at k0 y0 y1 y2 yfr hto0 hto1 HGO
    rw [← hmm] at k1 hc2 hc3
    rw [← hl1] at k2 hc2 hc3
    rw [← hl2] at k3 hc2 hc3
    rw [← hym] at y0 hc2 HGO
    rw [← hm1] at y1 hc2
    rw [← hm2] at y2 hc2
    clear hbq htt hmm hl1 hl2 hym hm1 hm2
    have o0 := qA4 (.cells #[.int .i64 tt, .bool mm, .slice D1 l1 d1, .slice D2 l2 d2] 201) y0
    have o1 := qA4 (.cells #[.int .i64 tt, .bool mm, .slice D1 l1 d1, .slice D2 l2 d2] 201) y1
    have o2 := qA4 (.cells #[.int .i64 tt, .bool mm, .slice D1 l1 d1, .slice D2 l2 d2] 201) y2
    have w0 := (qAa (qAU wr (.cells #[.int .i64 tt, .bool mm, .slice D1 l1 d1, .slice D2 l2 d2] 201)) 0).trans rfl
    have w1 := (qAa (qAU wr (.cells #[.int .i64 tt, .bool mm, .slice D1 l1 d1, .slice D2 l2 d2] 201)) 1).trans rfl
    have w2 := (qAa (qAU wr (.cells #[.int .i64 tt, .bool mm, .slice D1 l1 d1, .slice D2 l2 d2] 201)) 2).trans rfl
    have w3 := (qAa (qAU wr (.cells #[.int .i64 tt, .bool mm, .slice D1 l1 d1, .slice D2 l2 d2] 201)) 3).trans rfl
    have HDN : qAb (∀ m, wr.heap.size + 1 ≤ ((wr.alloc (.cells #[.int .i64 tt, .bool mm, .slice D1 l1 d1, .slice D2 l2 d2] 201)).drewN m).heap.size) := ⟨fun m => Nat.le_trans (by simp) (qAp (Below.refl 0 (wr.alloc (.cells #[.int .i64 tt, .bool mm, .slice D1 l1 d1, .slice D2 l2 d2] 201))) m).size⟩
    have hOr : O < wr.heap.size := World.block_lt_of_cell? wr _ y0
    have hnOr : wr.heap.size ≠ O := Nat.ne_of_gt hOr
    cases ym with
    | true =>
     go_wp2_with fail
     go_region_held3 (fun W' => W'.cell? ⟨O, tt.toNat * 3, none⟩ = some (.bool true) ∧ W'.cell? ⟨O, tt.toNat * 3 + 1, none⟩ = some (.slice E1 m1 e1) ∧ W'.cell? ⟨O, tt.toNat * 3 + 2, none⟩ = some (.slice E2 m2 e2) ∧ W'.cell? ⟨wr.heap.size, 0, none⟩ = some (.int .i64 tt) ∧ W'.cell? ⟨wr.heap.size, 1, none⟩ = some (.bool mm) ∧ W'.cell? ⟨wr.heap.size, 2, none⟩ = some (.slice D1 l1 d1) ∧ W'.cell? ⟨wr.heap.size, 3, none⟩ = some (.slice D2 l2 d2))
      (first | exact ⟨o0, o1, o2, w0, w1, w2, w3⟩ | exact ⟨x0, x1, x2, x3, x4, x5, x6⟩)
      (first
        | (go_at_call 130;
           refine (hc2.out _ (qAw (qAi (Below.refl _ _) (.cells #[.int .i64 tt, .bool mm, .slice D1 l1 d1, .slice D2 l2 d2] 201)))).mono ?_;
           rintro e w5 ⟨rfl, hb5⟩;
           have x0 := (hb5.cell (World.block_lt_of_cell? _ _ o0)).trans o0;
           have x1 := (hb5.cell (World.block_lt_of_cell? _ _ o1)).trans o1;
           have x2 := (hb5.cell (World.block_lt_of_cell? _ _ o2)).trans o2;
           have x3 := (hb5.cell (World.block_lt_of_cell? _ _ w0)).trans w0;
           have x4 := (hb5.cell (World.block_lt_of_cell? _ _ w1)).trans w1;
           have x5 := (hb5.cell (World.block_lt_of_cell? _ _ w2)).trans w2;
           have x6 := (hb5.cell (World.block_lt_of_cell? _ _ w3)).trans w3;
           have HB5 : qAb (Below wr.heap.size wr w5) := ⟨(qAw (qAi (Below.refl _ _) (.cells #[.int .i64 tt, .bool mm, .slice D1 l1 d1, .slice D2 l2 d2] 201))).trans (hb5.mono (Nat.le_of_lt (by { show wr.heap.size < (wr.alloc (.cells #[.int .i64 tt, .bool mm, .slice D1 l1 d1, .slice D2 l2 d2] 201)).heap.size; simp })))⟩;
           clear hb5))
     cases bq with
     | true =>
      go_wp2_with fail
      go_roundg (n - (kk + 1))
      case measure => omega
      case rel =>
       exact ⟨kk + 1, okk, by omega, by omega, by go_num, ⟨by have h := HGO.out; simpa using h⟩, HSK, ⟨Kd.N_below HNK.out HB5.out⟩, ⟨HFR.out.then_ (S1 := fun _ => False) (Fr.of_below HB5.out) (fun q hq => hq.elim)⟩⟩
     | false =>
      go_wp2_with fail
      go_ret
      have hg0 := HGO.out
      simp only [if_true, Bool.false_eq_true, if_false] at hg0
      rw [noteS_go (by rw [← HNl.out]; exact HA1.out) HA2.out, ← hg0]
      exact ⟨rfl, Kd.N_below HNK.out HB5.out, HFR.out.then_ (S1 := fun _ => False) (Fr.of_below HB5.out) (fun q hq => hq.elim)⟩
    | false =>
     go_wp2_with fail
     go_quiet (fail)
     go_wp2_with fail
     go_region_held3 (fun W' => W'.cell? ⟨wr.heap.size, 0, none⟩ = some (.int .i64 tt) ∧ W'.cell? ⟨wr.heap.size, 1, none⟩ = some (.bool mm) ∧ W'.cell? ⟨wr.heap.size, 2, none⟩ = some (.slice D1 l1 d1) ∧ W'.cell? ⟨wr.heap.size, 3, none⟩ = some (.slice D2 l2 d2))
      (first | exact ⟨w0, w1, w2, w3⟩ | exact ⟨x3, x4, x5, x6⟩ | exact ⟨qA0 (qA0 (qA0 x3 _ _ hnOr) _ _ hnOr) _ _ hnOr, qA0 (qA0 (qA0 x4 _ _ hnOr) _ _ hnOr) _ _ hnOr, qA0 (qA0 (qA0 x5 _ _ hnOr) _ _ hnOr) _ _ hnOr, qA0 (qA0 (qA0 x6 _ _ hnOr) _ _ hnOr) _ _ hnOr⟩)
      (first
        | (go_at_call 119;
           refine (hc3.out _ (qAp (qAi (Below.refl _ _) (.cells #[.int .i64 tt, .bool mm, .slice D1 l1 d1, .slice D2 l2 d2] 201)) _)).mono ?_;
           rintro e w5 ⟨v1, v2, rfl, hR5, hN5, hb50⟩;
           have hb5 : Below (wr.alloc (.cells #[.int .i64 tt, .bool mm, .slice D1 l1 d1, .slice D2 l2 d2] 201)).heap.size (wr.alloc (.cells #[.int .i64 tt, .bool mm, .slice D1 l1 d1, .slice D2 l2 d2] 201)) w5 := qDJ hb50;
           have x0 := (hb5.cell (World.block_lt_of_cell? _ _ o0)).trans o0;
           have x1 := (hb5.cell (World.block_lt_of_cell? _ _ o1)).trans o1;
           have x2 := (hb5.cell (World.block_lt_of_cell? _ _ o2)).trans o2;
           have x3 := (hb5.cell (World.block_lt_of_cell? _ _ w0)).trans w0;
           have x4 := (hb5.cell (World.block_lt_of_cell? _ _ w1)).trans w1;
           have x5 := (hb5.cell (World.block_lt_of_cell? _ _ w2)).trans w2;
           have x6 := (hb5.cell (World.block_lt_of_cell? _ _ w3)).trans w3;
           have HB5 : qAb (Below wr.heap.size wr w5) := ⟨(qAi (Below.refl _ _) (.cells #[.int .i64 tt, .bool mm, .slice D1 l1 d1, .slice D2 l2 d2] 201)).trans (hb5.mono (Nat.le_of_lt (by { show wr.heap.size < (wr.alloc (.cells #[.int .i64 tt, .bool mm, .slice D1 l1 d1, .slice D2 l2 d2] 201)).heap.size; simp })))⟩;
           have z0 : w5.frozen? ⟨O, tt.toNat * 3, none⟩ = false := (HB5.out.frozen (p := ⟨O, tt.toNat * 3, none⟩) hOr).trans (yfr 0);
           have z1 : w5.frozen? ⟨O, tt.toNat * 3 + 1, none⟩ = false := (HB5.out.frozen (p := ⟨O, tt.toNat * 3 + 1, none⟩) hOr).trans (yfr 1);
           have z2 : w5.frozen? ⟨O, tt.toNat * 3 + 2, none⟩ = false := (HB5.out.frozen (p := ⟨O, tt.toNat * 3 + 2, none⟩) hOr).trans (yfr 2);
           have HR5 := am hR5;
           have HN5 := am hN5;
           obtain ⟨V1, q1, rfl⟩ := Kd.R_slice hR5;
           obtain ⟨V2, q2, rfl⟩ := Kd.N_slice hN5;
           clear hb5 hb50 hR5 hN5))
     have hsz5 : W.heap.size ≤ wr.heap.size := HFR.out.size
     have hokp : ∀ q, (((okO q ∨ okW q) ∨ W.heap.size ≤ q) ∧ q ≠ O) → ((okO q ∨ okW q) ∨ W.heap.size ≤ q) ∧ q ≠ O := fun q hq => hq
     have hFKS : ∀ b : Bool, Kd.FK k192 w5 (fun q => ((okO q ∨ okW q) ∨ W.heap.size ≤ q) ∧ q ≠ O) ⟨b, x.f1.f1, x.f1.f2⟩ [.bool b, .slice V1 x.f1.f1.length q1, .slice V2 x.f1.f2.length q2] := fun b =>
      FK_shape (Kd.R_N (Kd.R_bound HR5.out)) (fun q hq => by have h1 := hq.2.1; have h2 := HDN.out (nq + 1); exact ⟨.inr (by omega), by omega⟩) HN5.out (fun q hq => by
        rcases hq.1 with h | h
        · exact ⟨.inl (.inr h.1), fun e => HOFF.out (e ▸ h.1)⟩
        · have h2 := HDN.out (nq + 1); exact ⟨.inr (by omega), by omega⟩)
     have HLAY := am (N_lay (m := mm) (Kd.N_below HNK.out HB5.out) tt hto0 hto1 x0 x1 x2 hFKS hokp)
     have HFS := am (Fr.set (Fr.set (Fr.set (Fr.set (HFR.out.then_ (S1 := fun _ => False) (Fr.of_below HB5.out) (fun q hq => hq.elim)) (p := ⟨O, tt.toNat * 3, none⟩) (.inl rfl) (.bool mm)) (p := ⟨O, tt.toNat * 3 + 1, none⟩) (.inl rfl) (.slice V1 x.f1.f1.length q1)) (p := ⟨O, tt.toNat * 3 + 2, none⟩) (.inl rfl) (.slice V2 x.f1.f2.length q2)) (p := ⟨O, tt.toNat * 3, none⟩) (.inl rfl) (.bool true))
     have s0 : (((w5.setCell ⟨O, tt.toNat * 3, none⟩ (.bool mm)).setCell ⟨O, tt.toNat * 3 + 1, none⟩ (.slice V1 x.f1.f1.length q1)).setCell ⟨O, tt.toNat * 3 + 2, none⟩ (.slice V2 x.f1.f2.length q2)).cell? ⟨O, tt.toNat * 3, none⟩ = some (.bool mm) := by
      rw [World.cell?_setCell_other _ _ _ _ (by simp), World.cell?_setCell_other _ _ _ _ (by simp)]
      exact World.cell?_setCell_same _ _ _ x0
     have s3 : (((w5.setCell ⟨O, tt.toNat * 3, none⟩ (.bool mm)).setCell ⟨O, tt.toNat * 3 + 1, none⟩ (.slice V1 x.f1.f1.length q1)).setCell ⟨O, tt.toNat * 3 + 2, none⟩ (.slice V2 x.f1.f2.length q2)).cell? ⟨wr.heap.size, 0, none⟩ = some (.int .i64 tt) := qA0 (qA0 (qA0 x3 _ _ hnOr) _ _ hnOr) _ _ hnOr
     have sf : (((w5.setCell ⟨O, tt.toNat * 3, none⟩ (.bool mm)).setCell ⟨O, tt.toNat * 3 + 1, none⟩ (.slice V1 x.f1.f1.length q1)).setCell ⟨O, tt.toNat * 3 + 2, none⟩ (.slice V2 x.f1.f2.length q2)).frozen? ⟨O, tt.toNat * 3, none⟩ = false := by
      rw [World.frozen?_setCell, World.frozen?_setCell, World.frozen?_setCell]
      exact z0
     obtain ⟨wS, hwS⟩ : ∃ wS, wS = ((w5.setCell ⟨O, tt.toNat * 3, none⟩ (.bool mm)).setCell ⟨O, tt.toNat * 3 + 1, none⟩ (.slice V1 x.f1.f1.length q1)).setCell ⟨O, tt.toNat * 3 + 2, none⟩ (.slice V2 x.f1.f2.length q2) := ⟨_, rfl⟩
     rw [← hwS] at s0 s3 sf HLAY HFS ⊢
     clear hwS hFKS hokp x0 x1 x2 x3 x4 x5 x6 z0 z1 z2 o0 o1 o2 w0 w1 w2 w3 hsz5
     go_wp2_with fail
     go_roundg (n - (kk + 1))
     case measure => omega
     case rel =>
      refine ⟨kk + 1, okk.set tt.toNat ⟨true, x.f1.f1, x.f1.f2⟩, by omega, by omega, by go_num, ⟨by have h := HGO.out; simpa using h⟩, ⟨fun z hz => ?_⟩, HLAY, HFS⟩
      rcases List.mem_or_eq_of_mem_set hz with h | h
      ·exact HSK.out z h
      subst h
      have h1 := HXB.out
      exact ⟨by show x.f1.f1.length ≤ 2000000; omega, by show x.f1.f2.length ≤ 2000000; omega, HXW.out⟩
theorem qEc (t : Int) (w : World) : Calls Try.prog 125 #[.int .i64 t] w fun e w' => e = .returned (.bool (okT t)) ∧ w' = w := by
 by_cases h1 : 1 ≤ t
 rotate_left
 ·rw [okT_false (by omega)]
  go_enter Try.func125, Try.ntmps125
  go_wp2
  go_ret
  exact ⟨rfl, rfl⟩
 by_cases h2 : t ≤ 3
 ·rw [okT_true h1 h2]
  go_enter Try.func125, Try.ntmps125
  go_wp2
  go_ret
  exact ⟨rfl, rfl⟩
 rw [okT_false (by omega)]
 go_enter Try.func125, Try.ntmps125
 go_wp2
 go_ret
 exact ⟨rfl, rfl⟩
def resT (t : Int) : Bool := t == 0 || okT t
theorem qEb (t : Int) (w : World) : Calls Try.prog 123 #[.int .i64 t] w fun e w' => e = .returned (.bool (resT t)) ∧ w' = w := by
 cases h : (t == 0)
 ·rw [show resT t = okT t by simp [resT, h]]
  go_enter Try.func123, Try.ntmps123
  go_wp2_with (go_at_call 125; refine (qEc t _).mono ?_; rintro e w1 ⟨rfl, rfl⟩)
  go_ret
  exact ⟨rfl, rfl⟩
 rw [show resT t = true by simp [resT, h]]
 go_enter Try.func123, Try.ntmps123
 go_wp2
 go_ret
 exact ⟨rfl, rfl⟩
theorem unvaluedS_any (t : Int) (w : World) : Calls Try.prog 124 #[.int .i64 t] w fun e w' => e = .returned (.bool (!okT t)) ∧ w' = w := by
 go_enter Try.func124, Try.ntmps124
 go_wp2_with (go_at_call 125; refine (qEc t _).mono ?_; rintro e w1 ⟨rfl, rfl⟩)
 go_ret
 exact ⟨rfl, rfl⟩
theorem idx_intsS (A : Option Addr) (c : Nat) (l : List Int) (w : World) (hr : Kd.C (Kd.int .i64) w A l.length l) (hl : l.length ≤ 4611686018427387904) :
  Calls Try.prog 111 #[.slice A l.length c, .func (.func 124) #[] #[]] w (IdxPost (l.any fun t => !okT t) w) := by
 obtain ⟨n, hn⟩ : ∃ n, n = l.length := ⟨_, rfl⟩
 rw [← hn]
 have HR := am hr
 have HN := am hn
 rw [← hn] at hl
 clear hr hn
 go_enter Try.func111, Try.ntmps111
 go_wp2
 go_loopg [5, 8] n (fun gg _ s8 wr => ∃ kk : Nat, kk ≤ n ∧ n - kk ≤ gg ∧ s8 = .int .i64 kk ∧ qAb (∀ j x, j < kk → l[j]? = some x → (!okT x) = false) ∧ wr = w)
 case atStart => exact ⟨0, Nat.zero_le _, by omega, rfl, ⟨fun j x hj => absurd hj (Nat.not_lt_zero _)⟩, rfl⟩
 case round =>
  obtain ⟨kk, hkk, hg, rfl, HA, rfl⟩ := hrel
  by_cases hlt : kk < n
  rotate_left
  ·have hltz : ¬ (kk : Int) < (n : Int) := by omega
   have : kk = n := by omega
   subst this
   go_wp2
   go_ret
   refine ⟨-1, rfl, ?_, Below.refl _ _⟩
   rw [any_miss _ l fun j x hj => HA.out j x (by rw [HN.out]; exact (List.getElem?_eq_some_iff.1 hj).1) hj]
   simp
  have hltz : (kk : Int) < (n : Int) := by omega
  have h0 : (0 : Int) ≤ (kk : Int) := by omega
  obtain ⟨ad, ea, hx⟩ := Kd.at_int HR.out (kk : Int) h0 (by have := HN.out; omega)
  subst ea
  rw [Int.toNat_natCast] at hx
  have hc := unvaluedS_any (rd l (kk : Int))
  obtain ⟨x, hx0⟩ : ∃ x, x = rd l (kk : Int) := ⟨_, rfl⟩
  rw [← hx0] at hx hc
  have HX : qAb (l[kk]? = some x) := ⟨by rw [hx0]; exact qBE l 0 kk (by have := HN.out; omega)⟩
  have HC := am hc
  clear hx0 hc
  cases hq : okT x with
  | false =>
   have HQ := am hq
   clear hq
   go_wp2_with (go_at_call 124; refine (HC.out _).mono ?_; rintro e w1 ⟨rfl, rfl⟩; rw [HQ.out])
   go_ret
   exact ⟨kk, rfl, ⟨fun _ => any_hit _ l kk x HX.out (by rw [HQ.out]; rfl), fun _ => h0⟩, Below.refl _ _⟩
  | true =>
   have HQ := am hq
   clear hq
   go_wp2_with (go_at_call 124; refine (HC.out _).mono ?_; rintro e w1 ⟨rfl, rfl⟩; rw [HQ.out])
   go_roundg (n - (kk + 1))
   case measure => omega
   case rel =>
    refine ⟨kk + 1, by omega, by omega, by go_num, ⟨fun j y hj hy => ?_⟩, rfl⟩
    by_cases e : j = kk
    rotate_left
    ·exact HA.out j y (by omega) hy
    subst e
    rw [HX.out] at hy; injection hy with hy; subst hy; rw [HQ.out]; rfl
theorem has_intsS (A : Option Addr) (c : Nat) (l : List Int) (w : World) (hr : Kd.C (Kd.int .i64) w A l.length l) (hl : l.length ≤ 4611686018427387904) :
  Calls Try.prog 86 #[.slice A l.length c, .func (.func 124) #[] #[]] w fun e w' => e = .returned (.bool (l.any fun t => !okT t)) ∧ Below w.heap.size w w' := by
 have HI := am (idx_intsS A c l w hr hl)
 obtain ⟨b, hb⟩ : ∃ b, b = l.any fun t => !okT t := ⟨_, rfl⟩
 rw [← hb] at HI ⊢
 clear hb hr hl
 go_enter Try.func86, Try.ntmps86
 go_wp2_with (go_at_call 111; refine (HI.out).mono ?_; rintro e w1 ⟨i, rfl, hi, hw⟩; have HB := am hw; have HQ := am hi; clear hi hw)
 go_ret
 refine ⟨?_, HB.out⟩
 have := HQ.out
 congr 2
 cases b <;> simp_all
def qCx (ps : List Int) (res : Int) (ls : List Int) (n3 : Nat) (fs : List S74) (vs : List Int) : Int :=
 if 8 < ps.length ∨ 64 < ls.length ∨ 4096 < n3 then 3
 else if n3 = 0 ∨ ls.length < ps.length ∨ ps ≠ ls.take ps.length ∨ resT res = false then 51
 else if (fs.any fun s => !resT s.f1) = true then 51
 else if ((ls ++ vs ++ fs.flatMap S74.f0).any fun t => !okT t) = true then 51
 else 0
theorem eqints_q (A1 A2 : Option Addr) (c1 c2 : Nat) (l1 l2 : List Int) (w : World) (h1 : Kd.C (Kd.int .i64) w A1 l1.length l1) (h2 : Kd.C (Kd.int .i64) w A2 l2.length l2) (hc1 : l1.length ≤ c1) (hc2 : l2.length ≤ c2) (hl : l1.length ≤ 4611686018427387904) :
  Calls Try.prog 47 #[.slice A1 l1.length c1, .slice A2 l2.length c2] w fun e w' => e = .returned (.bool (l1 == l2)) ∧ ∃ m, w' = w.drewN m := by
 obtain ⟨k, hk⟩ := (qCt l1 l2 hl).rounds
 rw [qBP (r := l1 == l2) (by simp)] at hk
 refine (qAl.calls k A1 c1 l1 A2 c2 l2 _ w h1 hc1 h2 hc2 hk).mono ?_
 rintro e w' ⟨rfl, hd⟩
 exact ⟨rfl, hd.out⟩
theorem flat_len : ∀ (l : List S74), (∀ x ∈ l, x.f0.length ≤ 2000000) → (l.flatMap S74.f0).length ≤ l.length * 2000000
 | [], _ => by simp
 | x :: l, h => by
  have h1 := flat_len l (fun y hy => h y (List.mem_cons_of_mem _ hy))
  have h2 := h x (List.mem_cons_self ..)
  rw [List.flatMap_cons, List.length_append, List.length_cons]
  omega
theorem sound_any {W : World} (A1 A2 A3 A4 A5 : Option Addr) (c1 c2 n3 c3 c4 c5 : Nat) (res : Int) {ps ls vs : List Int} {fs : List S74} {okF : Nat → Prop} (hP : Kd.F (Kd.int .i64) W okF A1 ps.length ps) (hL : Kd.F (Kd.int .i64) W okF A2 ls.length ls) (hF : Kd.F k74 W okF A4 fs.length fs) (hV : Kd.F (Kd.int .i64) W okF A5 vs.length vs) (hc1 : ps.length ≤ c1) (hc2 : ls.length ≤ c2)
  (hp1 : ps.length ≤ 2000000) (hl1 : ls.length ≤ 2000000) (hv1 : vs.length ≤ 2000000) (hf1 : fs.length ≤ 2000000) (hn3 : n3 ≤ 2000000) (hfs : ∀ x ∈ fs, x.f0.length ≤ 2000000) :
  Calls Try.prog 117 #[.agg #[.slice A1 ps.length c1, .int .i64 res, .slice A2 ls.length c2, .slice A3 n3 c3], .agg #[.slice A4 fs.length c4, .slice A5 vs.length c5]] W fun e w' => e = .returned (.int .i64 (qCx ps res ls n3 fs vs)) ∧ Below W.heap.size W w' := by
 obtain ⟨W0, hW0⟩ : ∃ W0, W0 = (W.alloc (.cells #[.slice A1 ps.length c1, .int .i64 res, .slice A2 ls.length c2, .slice A3 n3 c3] 77)).alloc (.cells #[.slice A4 fs.length c4, .slice A5 vs.length c5] 135) := ⟨_, rfl⟩
 have hB0 : Below W.heap.size W W0 := hW0 ▸ ((Below.refl _ _).alloc (Nat.le_refl _) _).alloc (by simp) _
 have hEQ : ∀ m, ps.length ≤ ls.length → Calls Try.prog 47 #[.slice A1 ps.length c1, .slice A2 ps.length c2] (W0.drewN m) fun e w' => e = .returned (.bool (ps == ls.take ps.length)) ∧ ∃ k, w' = (W0.drewN m).drewN k := fun m hle => by
  have h2 := Kd.C_take (Kd.F_now (Kd.F_drewN (Kd.F_below hL hB0) m)) hle
  have h3 : (ls.take ps.length).length = ps.length := by rw [List.length_take]; omega
  have h4 := eqints_q A1 A2 c1 c2 ps (ls.take ps.length) (W0.drewN m) (Kd.F_now (Kd.F_drewN (Kd.F_below hP hB0) m)) h2 hc1 (by omega) (by omega)
  rw [h3] at h4
  exact h4
 have hCL : ∀ W', Below W.heap.size W W' → Calls Try.prog 105 #[.slice A2 ls.length c2] W' fun e w' => ∃ v, e = .returned v ∧ Kd.R (Kd.int .i64) 3 w' W'.heap.size (fun _ => True) v ls ∧ Below W'.heap.size W' w' := fun W' hW' => qCs A2 c2 ls W' (Kd.F_now (Kd.F_below hL hW')) hl1
 have HF := am hF
 have HV := am hV
 have HB0 := am hB0
 have HFS := am hfs
 obtain ⟨be, hbe⟩ : ∃ be, be = (ps == ls.take ps.length) := ⟨_, rfl⟩
 obtain ⟨br, hbr⟩ : ∃ br, br = resT res := ⟨_, rfl⟩
 have HS : qAb (qCx ps res ls n3 fs vs = if 8 < ps.length ∨ 64 < ls.length ∨ 4096 < n3 then 3
     else if n3 = 0 ∨ ls.length < ps.length ∨ be = false ∨ br = false then 51
     else if (fs.any fun s => !resT s.f1) = true then 51
     else if ((ls ++ vs ++ fs.flatMap S74.f0).any fun t => !okT t) = true then 51 else 0) := ⟨by
   rw [hbe, hbr]
   unfold qCx
   simp⟩
 have hRES := qEb res
 rw [← hbe] at hEQ
 rw [← hbr] at hRES
 obtain ⟨rr, hrr⟩ : ∃ rr, rr = qCx ps res ls n3 fs vs := ⟨_, rfl⟩
 rw [← hrr] at HS ⊢
 obtain ⟨p1, hpp⟩ : ∃ q, q = ps.length := ⟨_, rfl⟩
 obtain ⟨l1, hll⟩ : ∃ q, q = ls.length := ⟨_, rfl⟩
 obtain ⟨f1, hff⟩ : ∃ q, q = fs.length := ⟨_, rfl⟩
 obtain ⟨v1, hvv⟩ : ∃ q, q = vs.length := ⟨_, rfl⟩
 rw [← hpp, ← hll] at HS hEQ
 rw [← hll] at hCL
 rw [← hpp] at hW0 hp1 hc1 ⊢
 rw [← hll] at hW0 hl1 hc2 ⊢
 rw [← hff] at hW0 hf1 ⊢
 rw [← hvv] at hW0 hv1 ⊢
 have HEQ := am hEQ
 have HCL := am hCL
 have HRES := am hRES
 have HW0 := am hW0
 have HPP := am hpp
 have HLL := am hll
 have HFF := am hff
 have HVV := am hvv
 clear hP hL hF hV hB0 hfs hbe hbr hEQ hCL hRES hrr hW0 hpp hll hff hvv hc1
 by_cases hA : 8 < p1 ∨ 64 < l1 ∨ 4096 < n3
 ·rw [show rr = 3 by rw [HS.out, if_pos hA]]
  have hBB : Below W.heap.size W W0 := HB0.out
  rw [HW0.out] at hBB
  have HBB := am hBB
  clear hBB
  by_cases hA1 : 8 < p1
  ·have hz1 : (8 : Int) < (p1 : Int) := by omega
   clear hA
   go_enter Try.func117, Try.ntmps117
   go_wp2
   go_ret
   exact ⟨rfl, HBB.out⟩
  ·have hz1 : ¬ (8 : Int) < (p1 : Int) := by omega
   by_cases hA2 : 64 < l1
   ·have hz2 : (64 : Int) < (l1 : Int) := by omega
    clear hA
    go_enter Try.func117, Try.ntmps117
    go_wp2
    go_ret
    exact ⟨rfl, HBB.out⟩
   ·have hz2 : ¬ (64 : Int) < (l1 : Int) := by omega
    have hz3 : (4096 : Int) < (n3 : Int) := by omega
    clear hA
    go_enter Try.func117, Try.ntmps117
    go_wp2
    go_ret
    exact ⟨rfl, HBB.out⟩
 have hA1 : ¬ 8 < p1 := fun h => hA (.inl h)
 have hA2 : ¬ 64 < l1 := fun h => hA (.inr (.inl h))
 have hA3 : ¬ 4096 < n3 := fun h => hA (.inr (.inr h))
 have hz1 : ¬ (8 : Int) < (p1 : Int) := by omega
 have hz2 : ¬ (64 : Int) < (l1 : Int) := by omega
 have hz3 : ¬ (4096 : Int) < (n3 : Int) := by omega
 have hrA := HS.out
 rw [if_neg hA] at hrA
 have HRA := am hrA
 clear hrA HS hA hA1 hA2 hA3
 have b0 : W0.heap[W.heap.size]? = some (.cells #[.slice A1 p1 c1, .int .i64 res, .slice A2 l1 c2, .slice A3 n3 c3] 77 (0, 0)) := by rw [HW0.out]; exact qAe (qAU W _) (qAi (Below.refl _ _) _)
 have b1 : W0.heap[W.heap.size + 1]? = some (.cells #[.slice A4 f1 c4, .slice A5 v1 c5] 135 (0, 0)) := by rw [HW0.out]; simpa using qAU (W.alloc (.cells #[.slice A1 p1 c1, .int .i64 res, .slice A2 l1 c2, .slice A3 n3 c3] 77)) _
 have e0 := (qAa b0 0).trans rfl
 have e1 := (qAa b0 1).trans rfl
 have e2 := (qAa b0 2).trans rfl
 have e3 := (qAa b0 3).trans rfl
 have g0 := (qAa b1 0).trans rfl
 have g1 := (qAa b1 1).trans rfl
 go_enter Try.func117, Try.ntmps117
 go_wp2_with fail
 rw [← HW0.out]
 by_cases hB1 : n3 = 0
 ·have hr0 : qAb (rr = 51) := ⟨by rw [HRA.out, if_pos (.inl hB1)]⟩
  have hq1 : ((n3 : Int) == 0) = true := by simp [hB1]
  go_quiet (fail)
  go_wp2_with fail
  go_ret
  exact ⟨by rw [hr0.out]; rfl, qAp HB0.out _⟩
 have hq1 : ((n3 : Int) == 0) = false := beq_eq_false_iff_ne.mpr (by omega)
 by_cases hB2 : l1 < p1
 ·have hr0 : qAb (rr = 51) := ⟨by rw [HRA.out, if_pos (.inr (.inl hB2))]⟩
  have hq2 : decide ((l1 : Int) < (p1 : Int)) = true := by simp; omega
  go_quiet (fail)
  go_wp2_with fail
  go_ret
  exact ⟨by rw [hr0.out]; rfl, qAp HB0.out _⟩
 have hq2 : decide ((l1 : Int) < (p1 : Int)) = false := by simp; omega
 have hle : p1 ≤ l1 := by omega
 have hq3 : (p1 : Int) ≤ (c2 : Int) := by omega
 cases be with
 | false =>
  have hr0 : qAb (rr = 51) := ⟨by rw [HRA.out, if_pos (.inr (.inr (.inl rfl)))]⟩
  go_quiet ((go_at_call 47; exact Calls.quiet_of (HEQ.out _ hle)))
  go_wp2_with fail
  go_ret
  exact ⟨by rw [hr0.out]; rfl, qAp HB0.out _⟩
 | true =>
  cases br with
  | false =>
   have hr0 : qAb (rr = 51) := ⟨by rw [HRA.out, if_pos (.inr (.inr (.inr rfl)))]⟩
   go_quiet (first | (go_at_call 47; exact Calls.quiet_of (HEQ.out _ hle)) | (go_at_call 123; exact Calls.quiet_of_same (HRES.out _)))
   go_wp2_with fail
   go_ret
   exact ⟨by rw [hr0.out]; rfl, qAp HB0.out _⟩
  | true =>
   have hrB := HRA.out
   rw [if_neg (by rintro (h | h | h | h); exact hB1 h; exact hB2 h; cases h; cases h)] at hrB
   have HRBB := am hrB
   clear hrB HRA
   go_quiet (first | (go_at_call 47; exact Calls.quiet_of (HEQ.out _ hle)) | (go_at_call 123; exact Calls.quiet_of_same (HRES.out _)))
   go_wp2_with fail
   generalize hW1 : World.drewN W0 _ = w1
   have hb01 : Below W0.heap.size W0 w1 := hW1 ▸ qAp (Below.refl _ _) _
   have HB1 : qAb (Below W.heap.size W w1) := ⟨hW1 ▸ qAp HB0.out _⟩
   have d0 := qAe b0 hb01
   have d1 := qAe b1 hb01
   have k2 := (qAa d0 2).trans rfl
   have k5 := (qAa d1 1).trans rfl
   clear hW1 hb01 b0 b1 e0 e1 e2 e3 g0 g1 hq1 hq2 hq3 hz1 hz2 hz3
   have hHS : qAb (∀ v : Value, (∀ k, v.ownBlock = some k → W.heap.size ≤ k) → ∀ k, k < W.heap.size → True ∧ some k ≠ v.ownBlock) := ⟨fun v hv k hk => ⟨trivial, fun e => by have := hv k e.symm; omega⟩⟩
   go_region_held3 (fun W' => W'.cell? ⟨W.heap.size, 2, none⟩ = some (.slice A2 l1 c2) ∧ W'.cell? ⟨W.heap.size + 1, 1, none⟩ = some (.slice A5 v1 c5))
    (first | exact ⟨k2, k5⟩ | exact ⟨x2, x5⟩ | exact ⟨y2, y5⟩)
    (first
      | (go_at_call 105;
         refine (HCL.out _ (qAw HB1.out)).mono ?_;
         rintro e w2 ⟨v, rfl, hR, hb⟩;
         have x2 := (hb.cell (World.block_lt_of_cell? _ _ k2)).trans k2;
         have x5 := (hb.cell (World.block_lt_of_cell? _ _ k5)).trans k5;
         have hb12 : Below w1.heap.size w1 w2 := (qAw (Below.refl _ _)).trans hb;
         have HB2 : qAb (Below W.heap.size W w2) := ⟨HB1.out.trans (hb12.mono HB1.out.size)⟩;
         have HO2 := am (Kd.N_lower (Kd.R_N hR) (show W.heap.size ≤ w1.drew.heap.size from HB1.out.size));
         have d0' := qAe d0 hb12;
         have d1' := qAe d1 hb12;
         obtain ⟨D1, q1, rfl⟩ := Kd.R_slice hR;
         have HBS := am (Kd.R_base hR);
         clear hR hb hb12)
      | (refine Kd.N_append_rows_step (Kd.int .i64) (w0 := W) W.heap.size rfl _ _ 72 3 _ 8 rfl Try.underlying72 qCy rfl (by decide) (by decide) (.slice D1 ls.length q1) ls vs A5 v1 c5 (fun _ => True) (fun q => q < W.heap.size) (by { rw [← HLL.out]; rfl }) rfl HO2.out (by { rw [HVV.out]; exact Kd.F_mono (Kd.F_below (Kd.F_bound HV.out) HB2.out) (fun q hq => hq.2) }) (fun k hk => hHS.out _ (Kd.N_base HO2.out) k hk) (fun _ _ => trivial) HB2.out HB2.out.size (by { rw [← HLL.out]; omega }) ?_;
         intro v3 w3 hN3 hB3 hg3 _;
         have hneA : ∀ (k : Nat), k < w1.drew.heap.size → some k ≠ (Value.slice D1 ls.length q1).ownBlock := fun k hk e => by { have := HBS.out k e.symm; omega };
         have y2 := hg3.cell x2 (hneA _ (World.block_lt_of_cell? _ _ k2));
         have y5 := hg3.cell x5 (hneA _ (World.block_lt_of_cell? _ _ k5));
         have d1'' := (hg3.block _ (qAt d1') (hneA _ (qAt d1))).trans d1';
         have HB3 := am hB3;
         have HO3 := am hN3;
         clear hN3 hB3 hg3))
   have y4 := (qAa d1'' 0).trans rfl
   go_wp2_with fail
   clear y4 y2 y5 k2 k5 d0 d1 d1'' x2 x5
   go_loopg [6, 8, 68] f1 (fun gg s6 _ s68 wr => ∃ (kk : Nat) (v' : Value), kk ≤ f1 ∧ f1 - kk ≤ gg ∧ v' = s6 ∧ s68 = .int .i64 kk ∧ qAb (Kd.N (Kd.int .i64) 3 wr W.heap.size (fun _ => True) v' (ls ++ vs ++ (fs.take kk).flatMap S74.f0)) ∧ qAb (Below W.heap.size W wr) ∧ qAb (∀ (j : Nat) x, j < kk → fs[j]? = some x → (!resT x.f1) = false))
   case atStart => exact ⟨0, v3, Nat.zero_le _, by omega, rfl, rfl, ⟨by simpa using HO3.out⟩, HB3, ⟨fun j x hj => absurd hj (Nat.not_lt_zero _)⟩⟩
   case round =>
    obtain ⟨kk, v', hkk, hg, rfl, rfl, HO, HB, HA⟩ := hrel
    by_cases hlt : kk < f1
    rotate_left
    ·have e0 : f1 = kk := by omega
     subst e0
     have hnot : ¬ (f1 : Int) < (f1 : Int) := by omega
     have hnoany : (fs.any fun s => !resT s.f1) = false := any_miss _ fs (fun j x hx => HA.out j x (by have := (List.getElem?_eq_some_iff.1 hx).1; have := HFF.out; omega) hx)
     have hLL : ls ++ vs ++ (fs.take f1).flatMap S74.f0 = ls ++ vs ++ fs.flatMap S74.f0 := by
      rw [List.take_of_length_le (by have := HFF.out; omega)]
     have hO := HO.out
     rw [hLL] at hO
     have hrC := HRBB.out
     rw [if_neg (by rw [hnoany]; simp)] at hrC
     obtain ⟨L, hLe⟩ : ∃ L, L = ls ++ vs ++ fs.flatMap S74.f0 := ⟨_, rfl⟩
     have hLn : L.length ≤ 4611686018427387904 := by
      have h1 := flat_len fs HFS.out
      have h4 := HLL.out
      have h5 := HVV.out
      have h6 := HFF.out
      rw [hLe]
      simp only [List.length_append]
      omega
     rw [← hLe] at hO hrC
     obtain ⟨V, cv, rfl⟩ := Kd.N_slice hO
     have HHI := am (has_intsS V cv L wr (Kd.N_reads' hO).2.2 hLn)
     obtain ⟨bb, hbb⟩ : ∃ bb, bb = L.any fun t => !okT t := ⟨_, rfl⟩
     rw [← hbb] at HHI hrC
     obtain ⟨ln, hln⟩ : ∃ ln, ln = L.length := ⟨_, rfl⟩
     rw [← hln] at HHI ⊢
     have HRC := am hrC
     clear hrC hbb hO HO hLL hnoany hLe hLn hln
     cases bb with
     | true =>
      go_wp2_with (go_at_call 86; refine HHI.out.mono ?_; rintro e w6 ⟨rfl, hb6⟩; have HB6 : qAb (Below W.heap.size W w6) := ⟨HB.out.trans (hb6.mono HB.out.size)⟩; clear hb6)
      go_ret
      exact ⟨by rw [HRC.out]; rfl, HB6.out⟩
     | false =>
      go_wp2_with (go_at_call 86; refine HHI.out.mono ?_; rintro e w6 ⟨rfl, hb6⟩; have HB6 : qAb (Below W.heap.size W w6) := ⟨HB.out.trans (hb6.mono HB.out.size)⟩; clear hb6)
      go_ret
      exact ⟨by rw [HRC.out]; rfl, HB6.out⟩
    have hltz : (kk : Int) < (f1 : Int) := by omega
    have h0 : (0 : Int) ≤ (kk : Int) := by omega
    obtain ⟨ad, D, d, ea, k0, k1, _, FD, _⟩ := sig_F HF.out (kk : Int) h0 (by rw [← HFF.out]; exact hltz)
    subst ea
    rw [Int.toNat_natCast] at k0 k1
    have hx : fs[kk]? = some (qBz fs (kk : Int)) := qBE fs z74 kk (by have := HFF.out; omega)
    obtain ⟨x, hxe⟩ : ∃ x, x = qBz fs (kk : Int) := ⟨_, rfl⟩
    rw [← hxe] at k0 k1 FD hx
    have hr1 := qEb x.f1
    have hta : (fs.take (kk + 1)).flatMap S74.f0 = (fs.take kk).flatMap S74.f0 ++ x.f0 := by
     rw [List.take_add_one, hx]; simp
    have hln : ((ls ++ vs ++ (fs.take kk).flatMap S74.f0).length + x.f0.length) * 8 ≤ 140737488355328 := by
     have h1 := flat_len (fs.take kk) (fun y hy => HFS.out y (List.mem_of_mem_take hy))
     have h2 := HFS.out x (List.mem_of_getElem? hx)
     have h3 : (fs.take kk).length ≤ 2000000 := by rw [List.length_take]; omega
     have h4 := HLL.out
     have h5 := HVV.out
     simp only [List.length_append]
     omega
    obtain ⟨m0, hm0⟩ : ∃ q, q = x.f0.length := ⟨_, rfl⟩
    obtain ⟨rt, hrt⟩ : ∃ q, q = x.f1 := ⟨_, rfl⟩
    obtain ⟨rb, hrb⟩ : ∃ q, q = resT x.f1 := ⟨_, rfl⟩
    rw [← hrb] at hr1
    rw [← hrt] at k1 hr1
    rw [← hm0] at k0 FD hln
    replace k0 := (HB.out.cell (World.block_lt_of_cell? W _ k0)).trans k0
    replace k1 := (HB.out.cell (World.block_lt_of_cell? W _ k1)).trans k1
    have HX := am hx
    have HR1 := am hr1
    have HTA := am hta
    have HLN := am hln
    have HFD := am (Kd.F_below (Kd.F_bound FD) (HB.out.alloc HB.out.size (.cells #[.slice D m0 d, .int .i64 rt] 74)))
    have HRB := am hrb
    have w1' := (qAa (qAU wr (.cells #[.slice D m0 d, .int .i64 rt] 74)) 1).trans rfl
    have HNE : qAb (some wr.heap.size ≠ v'.ownBlock) := ⟨fun e => Nat.lt_irrefl _ (Kd.N_lt HO.out _ e.symm)⟩
    clear hx hxe hr1 hta hln hm0 hrt hrb FD
    have hx1 := HX.out
    cases rb with
    | false =>
     have hr0 : qAb (rr = 51) := ⟨by rw [HRBB.out, if_pos (any_hit _ fs kk x HX.out (by rw [← HRB.out]; rfl))]⟩
     clear hx1
     go_wp2_with (first
       | (at_builtin; refine Kd.N_append_rows (Kd.int .i64) (w0 := W) W.heap.size rfl _ _ 72 3 _ 8 rfl Try.underlying72 qCy rfl (by decide) (by decide) v' (ls ++ vs ++ (fs.take kk).flatMap S74.f0) x.f0 D m0 d (fun _ => True) (fun q => q < W.heap.size) rfl rfl (Kd.N_alloc HO.out _) (Kd.F_mono HFD.out (fun q hq => hq.2)) (fun k hk => hHS.out _ (Kd.N_base HO.out) k hk) (fun _ _ => trivial) (HB.out.alloc HB.out.size _) (Nat.le_trans HB.out.size (by simp)) HLN.out ?_; intro v5 w5 hN5 hB5 hg5 _; have x1 := hg5.cell w1' HNE.out; have HO5 := am hN5; have HB5 := am hB5; clear hN5 hB5 hg5)
       | (go_at_call 123; refine (HR1.out _).mono ?_; rintro e w6 ⟨rfl, rfl⟩))
     go_ret
     exact ⟨by rw [hr0.out]; rfl, HB5.out⟩
    | true =>
     clear hx1
     go_wp2_with (first
       | (at_builtin; refine Kd.N_append_rows (Kd.int .i64) (w0 := W) W.heap.size rfl _ _ 72 3 _ 8 rfl Try.underlying72 qCy rfl (by decide) (by decide) v' (ls ++ vs ++ (fs.take kk).flatMap S74.f0) x.f0 D m0 d (fun _ => True) (fun q => q < W.heap.size) rfl rfl (Kd.N_alloc HO.out _) (Kd.F_mono HFD.out (fun q hq => hq.2)) (fun k hk => hHS.out _ (Kd.N_base HO.out) k hk) (fun _ _ => trivial) (HB.out.alloc HB.out.size _) (Nat.le_trans HB.out.size (by simp)) HLN.out ?_; intro v5 w5 hN5 hB5 hg5 _; have x1 := hg5.cell w1' HNE.out; have HO5 := am hN5; have HB5 := am hB5; clear hN5 hB5 hg5)
       | (go_at_call 123; refine (HR1.out _).mono ?_; rintro e w6 ⟨rfl, rfl⟩))
     go_roundg (f1 - (kk + 1))
     case measure => omega
     case rel =>
      refine ⟨kk + 1, v5, by omega, by omega, rfl, by go_num, ⟨by rw [HTA.out, ← List.append_assoc]; exact HO5.out⟩, HB5, ⟨fun j u hj hu => ?_⟩⟩
      by_cases e : j = kk
      rotate_left
      ·exact HA.out j u (by omega) hu
      subst e
      rw [HX.out] at hu
      injection hu with hu; subst hu
      rw [← HRB.out]; rfl
end Q
end
section
namespace Q
open Go.RowKit YA YC YB
open Val Ins
def badS : Nat → List S115 → Option Nat
 | _, [] => none
 | k, x :: l => if okS x = true then badS (k + 1) l else some k
theorem qDY (k : Nat) (x : S115) (l : List S115) : badS k (x :: l) = if okS x = true then badS (k + 1) l else some k := rfl
def qD7 : Nat → List S192 → List Bool → Option Nat
 | k, x :: xs, d :: ds => if (x.f0 && !d) = true then some k else qD7 (k + 1) xs ds
 | _, _, _ => none
theorem nextS_cons (k : Nat) (x : S192) (xs : List S192) (d : Bool) (ds : List Bool) : qD7 k (x :: xs) (d :: ds) = if (x.f0 && !d) = true then some k else qD7 (k + 1) xs ds := rfl
def loopS (ls vs : List Int) (fs : List S74) (res : Int) (code : List S115) : Nat → List S192 → List Bool → Option (List S192) × Int × Int
 | 0, _, _ => (none, 0, 0)
 | g + 1, out, dn =>
  match qD7 0 out dn with
  | none => (some out, 0, 0)
  | some i =>
   if (qBt ls vs fs res (qAr code i) i true (qAN out i).f1 (qAN out i).f2).1 = true then
    (if (qCF out (qBt ls vs fs res (qAr code i) i true (qAN out i).f1 (qAN out i).f2).2).1 = 0 then loopS ls vs fs res code g (qCF out (qBt ls vs fs res (qAr code i) i true (qAN out i).f1 (qAN out i).f2).2).2 (dn.set i true)
     else (none, i, (qCF out (qBt ls vs fs res (qAr code i) i true (qAN out i).f1 (qAN out i).f2).2).1))
   else (none, i, 51)
def initS (n : Nat) : List S192 := (List.replicate n z192).set 0 ⟨true, [], []⟩
def qB2 (ps : List Int) (res : Int) (ls : List Int) (code : List S115) (fs : List S74) (vs : List Int) : Option (List S192) × Int × Int :=
 if qCx ps res ls code.length fs vs = 0 then
  (match badS 0 code with
   | some i => (none, i, 51)
   | none => loopS ls vs fs res code (code.length + 1) (initS code.length) (List.replicate code.length false))
 else (none, 0, qCx ps res ls code.length fs vs)
def ShOk (x : S192) : Prop := x.f1.length ≤ 512 ∧ x.f2.length ≤ 32 ∧ ∀ y ∈ x.f2, y.f1.length ≤ 512
theorem afterS_to {ls vs : List Int} {fs : List S74} {res : Int} {x : S115} {at_ : Int} {m : Bool} {st : List Int} {tr : List S204} (h0 : 0 ≤ at_) (h1 : 0 ≤ x.f1) : ∀ w ∈ (qBt ls vs fs res x at_ m st tr).2, 0 ≤ w.f0 := by
 intro w hw
 unfold qBt at hw
 split at hw
 ·simp at hw; subst hw; exact h1
 split at hw
 ·simp at hw; rcases hw with rfl | rfl
  ·show 0 ≤ at_ + 1; omega
  exact h1
 split at hw
 ·simp at hw
 split at hw
 ·simp at hw
 split at hw
 ·simp at hw; rcases hw with rfl | rfl
  ·show 0 ≤ at_ + 1; omega
  exact h1
 split at hw
 ·simp at hw; subst hw; show 0 ≤ at_ + 1; omega
 simp at hw; subst hw; show 0 ≤ at_ + 1; omega
theorem afterS_len {ls vs : List Int} {fs : List S74} {res : Int} {x : S115} {at_ : Int} {m : Bool} {st : List Int} {tr : List S204} : (qBt ls vs fs res x at_ m st tr).2.length ≤ 2 := by
 unfold qBt
 repeat' split
 all_goals simp
theorem afterS_inner {ls vs : List Int} {fs : List S74} {res : Int} {x : S115} {at_ : Int} {m : Bool} {st : List Int} {tr : List S204} (h0 : st.length ≤ 512) (h1 : ∀ y ∈ tr, y.f1.length ≤ 512) : ∀ w ∈ (qBt ls vs fs res x at_ m st tr).2, ∀ y ∈ w.f1.f2, y.f1.length ≤ 512 := by
 intro w hw
 unfold qBt at hw
 split at hw
 ·simp at hw; subst hw; exact h1
 split at hw
 ·simp at hw; rcases hw with rfl | rfl <;> exact h1
 split at hw
 ·simp at hw
 split at hw
 ·simp at hw
 split at hw
 ·simp at hw; rcases hw with rfl | rfl
  ·intro y hy
   rcases List.mem_append.1 hy with h | h
   ·exact h1 y h
   simp at h; subst h; exact h0
  exact h1
 split at hw
 ·simp at hw; subst hw; exact fun y hy => h1 y ((List.dropLast_sublist _).subset hy)
 simp at hw; subst hw; exact h1
theorem qEg : ∀ (ws : List S201) (out : List S192), (∀ x ∈ out, ShOk x) → (∀ w ∈ ws, ShOk w.f1) → ∀ x ∈ (qCV out ws).2, ShOk x
 | [], out, h, _ => h
 | w :: ws, out, h, hw => by
  rw [qEf]
  have hws : ∀ v ∈ ws, ShOk v.f1 := fun v hv => hw v (List.mem_cons_of_mem _ hv)
  split
  ·split
   ·exact qEg ws out h hws
   exact h
  refine qEg ws _ (fun x hx => ?_) hws
  rcases List.mem_or_eq_of_mem_set hx with hx | hx
  ·exact h x hx
  subst hx; exact hw w (List.mem_cons_self ..)
theorem noteS_ok {ws : List S201} {out : List S192} (h : ∀ x ∈ out, ShOk x) (hw : ∀ w ∈ ws, ∀ y ∈ w.f1.f2, y.f1.length ≤ 512) : ∀ x ∈ (qCF out ws).2, ShOk x := by
 unfold qCF
 split
 ·exact h
 split
 ·exact h
 rename_i h1 h2
 refine qEg ws out h (fun w hm => ?_)
 have h3 : ¬ (decide (512 < w.f1.f1.length) || decide (32 < w.f1.f2.length)) = true := fun e => h2 (List.any_eq_true.2 ⟨w, hm, e⟩)
 simp only [Bool.or_eq_true, decide_eq_true_eq] at h3
 exact ⟨by omega, by omega, hw w hm⟩
def qEw (dn : List Bool) : Nat := (dn.filter (fun b => !b)).length
theorem undone_set : ∀ (dn : List Bool) (i : Nat), dn[i]? = some false → qEw (dn.set i true) + 1 = qEw dn
 | [], i, h => by simp at h
 | d :: ds, 0, h => by
  simp at h; subst h
  simp [qEw]
 | d :: ds, i + 1, h => by
  have h' := undone_set ds i (by simpa using h)
  cases d <;> simp [qEw] at h' ⊢ <;> omega
theorem undone_rep (n : Nat) : qEw (List.replicate n false) = n := by simp [qEw]
theorem vinfo_shape : (Try.prog.info? 192).map (fun i => (i.zero, i.size, i.bytes)) = some (some (.agg #[.bool false, .slice none 0 0, .slice none 0 0]), 3, 56) := by kernel_rfl
theorem vinfo_bool : (Try.prog.info? 4).map (fun i => (i.zero, i.size, i.bytes)) = some (some (.bool false), 1, 1) := by kernel_rfl
theorem FK_zero (W : World) : Kd.FK k192 W (fun _ => False) z192 [.bool false, .slice none 0 0, .slice none 0 0] := fun W' _ =>
 k192_mk W' z192 (Nat.zero_le 0) (Kd.C_nil _ W') (Nat.zero_le 0) (Kd.C_nil _ W')
theorem N_met {W : World} {ok : Nat → Prop} {O n cap : Nat} {out : List S192} (h : Kd.N k192 192 W 0 ok (.slice (some ⟨O, 0, none⟩) n cap) out) (i : Int) (h0 : 0 ≤ i) (h1 : i < n) :
  Kd.N k192 192 (W.setCell ⟨O, i.toNat * 3, none⟩ (.bool true)) 0 ok (.slice (some ⟨O, 0, none⟩) n cap) (out.set i.toNat ⟨true, (qAN out i).f1, (qAN out i).f2⟩) := by
 obtain ⟨c, hcl, hK, hcc, _⟩ := Kd.N_elem h z192 i h0 h1
 obtain ⟨D1, d1, D2, d2, hcs, hd1, _, hd2, _⟩ := qCu (Kd.FK_now hK)
 subst hcs
 refine (Kd.N_seg h i h0 h1 (seg := [.bool true]) (j := 0) (okp := fun k => ok k ∧ k ≠ O) (x' := ⟨true, (qAN out i).f1, (qAN out i).f2⟩) hcl hcc (show (1 : Nat) ≤ 3 by decide) (fun W' hW => ?_) (fun k hk => hk)).1
 obtain ⟨D1', d1', D2', d2', hcs', e1, hC1, e2, hC2⟩ := qCu (hK W' hW)
 simp only [List.cons.injEq, Value.slice.injEq] at hcs'
 obtain ⟨_, ⟨g1, _, g2⟩, ⟨g3, _, g4⟩, _⟩ := hcs'
 subst g1 g2 g3 g4
 exact k192_mk W' ⟨true, (qAN out i).f1, (qAN out i).f2⟩ e1 hC1 e2 hC2
def BoxS (b : Nat) (fv pv : Array Value) (w : World) : Prop := w.heap[b]? = some (.cells fv 77 (0, 0)) ∧ w.heap[b + 1]? = some (.cells pv 135 (0, 0))
theorem BoxS.below {b : Nat} {fv pv : Array Value} {w w' : World} (h : BoxS b fv pv w) (hb : Below w.heap.size w w') : BoxS b fv pv w' := ⟨qAe h.1 hb, qAe h.2 hb⟩
theorem BoxS.fr {b : Nat} {fv pv : Array Value} {w w' : World} {S : Nat → Prop} (h : BoxS b fv pv w) (hf : Fr w w' S) (h0 : ¬ S b) (h1 : ¬ S (b + 1)) : BoxS b fv pv w' := ⟨hf.blk h.1 h0, hf.blk h.2 h1⟩
theorem BoxS.lt {b : Nat} {fv pv : Array Value} {w : World} (h : BoxS b fv pv w) : b + 1 < w.heap.size := qAt h.2
theorem okS_op {x : S115} (h : okS x = true) : 1 ≤ x.f0 ∧ x.f0 ≤ 17 ∧ 0 ≤ x.f1 := by
 unfold okS okI at h
 split at h
 ·cases h
 rename_i h1
 split at h
 ·simp only [Bool.and_eq_true, beq_iff_eq] at h
  omega
 split at h
 ·cases h
 rename_i h2
 have h3 := Decidable.not_not.1 h2
 omega
theorem loopS_at {ls vs : List Int} {fs : List S74} {res : Int} {code : List S115} {g : Nat} {out : List S192} {dn : List Bool} {i : Nat} {aok : Bool} {aw : List S201} (h : qD7 0 out dn = some i) (ha : qBt ls vs fs res (qAr code i) i true (qAN out i).f1 (qAN out i).f2 = (aok, aw)) :
  loopS ls vs fs res code (g + 1) out dn = if aok = true then (if (qCF out aw).1 = 0 then loopS ls vs fs res code g (qCF out aw).2 (dn.set i true) else (none, i, (qCF out aw).1)) else (none, i, 51) := by
 conv => lhs; unfold loopS
 rw [h]
 simp only [ha]
theorem soundS_zero {ps : List Int} {res : Int} {ls : List Int} {n3 : Nat} {fs : List S74} {vs : List Int} (h : 0 = qCx ps res ls n3 fs vs) : 0 < n3 ∧ n3 ≤ 4096 := by
 unfold qCx at h
 split at h
 ·cases h
 split at h
 ·cases h
 rename_i h1 h2
 constructor
 ·have : n3 ≠ 0 := fun e => h2 (.inl e)
  omega
 have : ¬ 4096 < n3 := fun e => h1 (.inr (.inr e))
 omega
def ShPost (R : Option (List S192) × Int × Int) (W : World) (e : Ending) (w' : World) : Prop :=
 ∃ v, e = .returned (.tuple #[v, .int .i64 R.2.1, .int .i64 R.2.2]) ∧ (∀ out, R.1 = some out → Kd.N k192 192 w' 0 (fun q => W.heap.size ≤ q) v out) ∧ (R.1 = none → v = .slice none 0 0) ∧ Below W.heap.size W w'
theorem shapes_any {W : World} (A1 A2 A3 A4 A5 : Option Addr) (c1 c2 c3 c4 c5 : Nat) (res : Int) {ps ls vs : List Int} {fs : List S74} {code : List S115} {okF : Nat → Prop} (hP : Kd.F (Kd.int .i64) W okF A1 ps.length ps) (hL : Kd.F (Kd.int .i64) W okF A2 ls.length ls) (hC : Kd.F k115 W okF A3 code.length code) (hF : Kd.F k74 W okF A4 fs.length fs) (hV : Kd.F (Kd.int .i64) W okF A5 vs.length vs) (hc1 : ps.length ≤ c1) (hc2 : ls.length ≤ c2)
  (hp1 : ps.length ≤ 2000000) (hl1 : ls.length ≤ 2000000) (hv1 : vs.length ≤ 2000000) (hf1 : fs.length ≤ 2000000) (hn3 : code.length ≤ 2000000) (hfs : ∀ x ∈ fs, x.f0.length ≤ 2000000) (hu : ∀ x ∈ code, u64S x = true) :
  Calls Try.prog 106 #[.agg #[.slice A1 ps.length c1, .int .i64 res, .slice A2 ls.length c2, .slice A3 code.length c3], .agg #[.slice A4 fs.length c4, .slice A5 vs.length c5]] W (ShPost (qB2 ps res ls code fs vs) W) := by
 obtain ⟨RR, hRR⟩ : ∃ RR, RR = qB2 ps res ls code fs vs := ⟨_, rfl⟩
 rw [← hRR]
 unfold qB2 at hRR
 have hsd := fun W' (hW' : Below W.heap.size W W') => sound_any (W := W') A1 A2 A3 A4 A5 c1 c2 code.length c3 c4 c5 res (Kd.F_below hP hW') (Kd.F_below hL hW') (Kd.F_below hF hW') (Kd.F_below hV hW') hc1 hc2 hp1 hl1 hv1 hf1 hn3 hfs
 obtain ⟨se, hse⟩ : ∃ se, se = qCx ps res ls code.length fs vs := ⟨_, rfl⟩
 rw [← hse] at hsd hRR
 obtain ⟨n, hn⟩ : ∃ q, q = code.length := ⟨_, rfl⟩
 obtain ⟨p1, hpp⟩ : ∃ q, q = ps.length := ⟨_, rfl⟩
 rw [← hn] at hsd hC hn3 hse
 rw [← hpp] at hsd
 have HL := am (Kd.F_bound hL)
 have HC := am (Kd.F_bound hC)
 have HF := am (Kd.F_bound hF)
 have HV := am (Kd.F_bound hV)
 have HFS := am hfs
 have HU := am hu
 have HN := am hn
 have HSE := am hse
 have HSD := am hsd
 have HR := am hRR
 rw [← hn, ← hpp]
 have HBB := am (((Below.refl W.heap.size W).alloc (Nat.le_refl _) (.cells #[.slice A1 p1 c1, .int .i64 res, .slice A2 ls.length c2, .slice A3 n c3] 77)).alloc (by simp) (.cells #[.slice A4 fs.length c4, .slice A5 vs.length c5] 135))
 clear hP hL hC hF hV hfs hu hse hsd hRR hc1 hc2 hpp hn
 obtain ⟨W0, hW0⟩ : ∃ W0, W0 = (W.alloc (.cells #[.slice A1 p1 c1, .int .i64 res, .slice A2 ls.length c2, .slice A3 n c3] 77)).alloc (.cells #[.slice A4 fs.length c4, .slice A5 vs.length c5] 135) := ⟨_, rfl⟩
 have b0 : W0.heap[W.heap.size]? = some (.cells #[.slice A1 p1 c1, .int .i64 res, .slice A2 ls.length c2, .slice A3 n c3] 77 (0, 0)) := by rw [hW0]; exact qAe (qAU W _) (qAi (Below.refl _ _) _)
 have b1 : W0.heap[W.heap.size + 1]? = some (.cells #[.slice A4 fs.length c4, .slice A5 vs.length c5] 135 (0, 0)) := by rw [hW0]; simpa using qAU (W.alloc (.cells #[.slice A1 p1 c1, .int .i64 res, .slice A2 ls.length c2, .slice A3 n c3] 77)) _
 have HW0 := am hW0
 have HB0 : qAb (Below W.heap.size W W0) := ⟨hW0 ▸ HBB.out⟩
 clear hW0
 obtain ⟨l1, hll⟩ : ∃ q, q = ls.length := ⟨_, rfl⟩
 obtain ⟨f1, hff⟩ : ∃ q, q = fs.length := ⟨_, rfl⟩
 obtain ⟨v1, hvv⟩ : ∃ q, q = vs.length := ⟨_, rfl⟩
 rw [← hll] at HW0 b0 hl1 HSD HBB ⊢
 rw [← hff] at HW0 b1 hf1 HSD HBB ⊢
 rw [← hvv] at HW0 b1 hv1 HSD HBB ⊢
 have HLL := am hll
 have HFF := am hff
 have HVV := am hvv
 clear hll hff hvv
 by_cases hse0 : se = 0
 case neg =>
  have hq : (se != 0) = true := bne_iff_ne.mpr hse0
  have HRE : qAb (RR = (none, 0, se)) := ⟨by rw [HR.out, if_neg hse0]⟩
  rw [HRE.out]
  go_enter Try.func106, Try.ntmps106
  go_wp2
  go_step3
  go_wp2_with (go_at_call 117; refine (HSD.out _ HBB.out).mono ?_; rintro e w1 ⟨rfl, hb1⟩; have HB1 : qAb (Below W.heap.size W w1) := ⟨HBB.out.trans (hb1.mono HBB.out.size)⟩; clear hb1)
  try rw [Exit.noGoto_ret]
  refine bodyPost_ret (results_tmp3 rfl _ _ _) rfl ?_
  refine ⟨_, rfl, ?_, ?_, HB1.out⟩
  ·intro out h; cases h
  intro _; rfl
 subst hse0
 go_enter Try.func106, Try.ntmps106
 go_wp2
 go_step3
 go_wp2_with (go_at_call 117; rw [← HW0.out]; refine (HSD.out _ HB0.out).mono ?_; rintro e w1 ⟨rfl, hb1⟩; have d0 := qAe b0 hb1; have d1 := qAe b1 hb1; have k3 := (qAa d0 3).trans rfl; have HB1 : qAb (Below W.heap.size W w1) := ⟨HB0.out.trans (hb1.mono HB0.out.size)⟩; clear hb1)
 have hrA := HR.out
 rw [if_pos (by trivial)] at hrA
 have HRA := am hrA
 clear hrA HR
 have HX1 : qAb (BoxS W.heap.size #[.slice A1 p1 c1, .int .i64 res, .slice A2 l1 c2, .slice A3 n c3] #[.slice A4 f1 c4, .slice A5 v1 c5] w1) := ⟨⟨d0, d1⟩⟩
 clear k3 d0 d1 b0 b1
 go_loopg [8, 9, 25] n (fun gg _ _ s25 wr => ∃ kk : Nat, kk ≤ n ∧ n - kk ≤ gg ∧ s25 = .int .i64 kk ∧ qAb (badS kk (code.drop kk) = badS 0 code) ∧ qAb (∀ (j : Nat) x, j < kk → code[j]? = some x → okS x = true) ∧ qAb (Below W.heap.size W wr) ∧ qAb (BoxS W.heap.size #[.slice A1 p1 c1, .int .i64 res, .slice A2 l1 c2, .slice A3 n c3] #[.slice A4 f1 c4, .slice A5 v1 c5] wr))
 case atStart => exact ⟨0, Nat.zero_le _, by omega, rfl, ⟨rfl⟩, ⟨fun j x hj => absurd hj (Nat.not_lt_zero _)⟩, HB1, HX1⟩
 case round =>
  obtain ⟨kk, hkk, hg, rfl, HBD, HA, HB, HX⟩ := hrel
  by_cases hlt : kk < n
  ·have hltz : (kk : Int) < (n : Int) := by omega
   have h0 : (0 : Int) ≤ (kk : Int) := by omega
   obtain ⟨ad, ea, k0, k1, k2, k3⟩ := qBC (Kd.F_now HC.out) (kk : Int) h0 hltz
   subst ea
   rw [Int.toNat_natCast] at k0 k1 k2 k3
   have hx : code[kk]? = some (qAr code (kk : Int)) := qBE code z115 kk (by have := HN.out; omega)
   obtain ⟨x, hxe⟩ : ∃ x, x = qAr code (kk : Int) := ⟨_, rfl⟩
   rw [← hxe] at k0 k1 k2 k3 hx
   have hdr : code.drop kk = x :: code.drop (kk + 1) := by
    rw [List.drop_eq_getElem_cons (by have := HN.out; omega)]
    rw [List.getElem?_eq_getElem (by have := HN.out; omega)] at hx
    injection hx with hx
    rw [hx]
   have hbd := HBD.out
   rw [hdr] at hbd
   have hri := qCL x.f0 x.f1 x.f2.f0 x.f2.f1 (u64S_U (HU.out x (List.mem_of_getElem? hx)))
   unfold insV at hri
   replace k0 := (HB.out.cell (World.block_lt_of_cell? W _ k0)).trans k0
   replace k1 := (HB.out.cell (World.block_lt_of_cell? W _ k1)).trans k1
   replace k2 := (HB.out.cell (World.block_lt_of_cell? W _ k2)).trans k2
   replace k3 := (HB.out.cell (World.block_lt_of_cell? W _ k3)).trans k3
   obtain ⟨rb, hrb⟩ : ∃ q, q = okI x.f0 x.f1 x.f2.f0 x.f2.f1 := ⟨_, rfl⟩
   have hrb2 : okS x = rb := hrb.symm
   rw [← hrb] at hri
   obtain ⟨q0, hq0⟩ : ∃ q, q = x.f0 := ⟨_, rfl⟩
   obtain ⟨q1, hq1⟩ : ∃ q, q = x.f1 := ⟨_, rfl⟩
   obtain ⟨q2, hq2⟩ : ∃ q, q = x.f2.f0 := ⟨_, rfl⟩
   obtain ⟨q3, hq3⟩ : ∃ q, q = x.f2.f1 := ⟨_, rfl⟩
   rw [← hq0] at k0 hri
   rw [← hq1] at k1 hri
   rw [← hq2] at k2 hri
   rw [← hq3] at k3 hri
   have HRI := am hri
   have HXX := am hx
   have HRB := am hrb2
   have HBD2 := am hbd
   clear hx hxe hdr hbd hri hrb hrb2 hq0 hq1 hq2 hq3
   cases rb with
   | false =>
    have HRE : qAb (RR = (none, (kk : Int), 51)) := ⟨by
      have h2 : badS 0 code = some kk := by
        have := HBD2.out
        rw [qDY, if_neg (by rw [HRB.out]; simp)] at this
        exact this.symm
      rw [HRA.out, h2]⟩
    rw [HRE.out]
    go_wp2_with (go_at_call 91; refine (HRI.out _).mono ?_; rintro e w2 ⟨rfl, hb2⟩; have HB2 : qAb (Below W.heap.size W w2) := ⟨(HB.out.alloc HB.out.size _).trans (hb2.mono (Nat.le_trans HB.out.size (by simp)))⟩; clear hb2)
    try rw [Exit.noGoto_ret]
    refine bodyPost_ret (results_tmp3 rfl _ _ _) rfl ?_
    refine ⟨_, rfl, ?_, ?_, HB2.out⟩
    ·intro out h; cases h
    intro _; rfl
   | true =>
    go_wp2_with (go_at_call 91; refine (HRI.out _).mono ?_; rintro e w2 ⟨rfl, hb2⟩; have HB2 : qAb (Below wr.heap.size wr w2) := ⟨(qAi (Below.refl _ _) _).trans (hb2.mono (by simp))⟩; clear hb2)
    go_roundg (n - (kk + 1))
    case measure => omega
    case rel =>
     refine ⟨kk + 1, by omega, by omega, by go_num, ⟨?_⟩, ⟨fun j u hj hu => ?_⟩, ⟨HB.out.trans (HB2.out.mono HB.out.size)⟩, ⟨HX.out.below HB2.out⟩⟩
     ·have := HBD2.out
      rw [qDY, if_pos HRB.out] at this
      exact this
     by_cases e : j = kk
     rotate_left
     ·exact HA.out j u (by omega) hu
     subst e
     rw [HXX.out] at hu
     injection hu with hu; subst hu
     exact HRB.out
  have e0 : n = kk := by omega
  subst e0
  have hnot : ¬ (n : Int) < (n : Int) := by omega
  have HALL : qAb (∀ (j : Nat) x, code[j]? = some x → okS x = true) := ⟨fun j x hx => HA.out j x (by have := (List.getElem?_eq_some_iff.1 hx).1; have := HN.out; omega) hx⟩
  have HRL : qAb (RR = loopS ls vs fs res code (n + 1) (initS n) (List.replicate n false)) := ⟨by
    have h1 := HBD.out
    rw [List.drop_of_length_le (by have := HN.out; omega)] at h1
    rw [HRA.out, ← h1, ← HN.out]
    rfl⟩
  obtain ⟨wA, hwA⟩ : ∃ wA, wA = wr := ⟨_, rfl⟩
  rw [← hwA] at HB HX ⊢
  have hnp := soundS_zero HSE.out
  clear hwA HBD HA HRA hg hkk HB1 HX1
  have k3 := (qAa HX.out.1 3).trans rfl
  go_wp2_with (first
    | (at_make; refine Kd.N_make k192 (w0 := wA) 0 192 rfl (N' := 38) rfl 176 _ _ rfl (n : Int) rfl rfl Try.underlying176 _ 56 vinfo_shape rfl (by decide) (by decide) z192 (ok := fun q => W.heap.size ≤ q) (FK_zero _) (fun _ h => h.elim) HB.out.size (by omega) (by omega) (Below.refl _ _) (Nat.zero_le _) ?_; intro vO w2 hNO _ hg2 hvO; rw [Int.toNat_natCast] at hNO; obtain ⟨O, capO, rfl, _, hO2, _⟩ := Kd.N_form hNO (by simpa using hnp.1); rw [List.length_replicate] at hNO; have hb2 : Below wA.heap.size wA w2 := (Below.refl _ _).grown hg2 (Nat.le_refl _) (by simp); have HX2 := am (HX.out.below hb2); have k3' := (qAa HX2.out.1 3).trans rfl; have HB2 : qAb (Below W.heap.size W w2) := ⟨HB.out.trans (hb2.mono HB.out.size)⟩; have HO1 : qAb (wA.heap.size ≤ O) := ⟨by (obtain ⟨b, hb, hl⟩ := hvO; simp [Value.ownBlock] at hb; omega)⟩; have HNO := am hNO; clear hNO hg2 hvO hb2)
    | (at_make; refine Kd.R_make Kd.bool (w0 := w2) w2.heap.size 4 rfl (N := 42) rfl 189 _ _ rfl (n : Int) rfl rfl Try.underlying189 _ 1 vinfo_bool rfl (by decide) (by decide) false (ok := fun q => w2.heap.size ≤ q) (okp := fun _ => False) rfl (fun _ h => h.elim) (Nat.le_refl _) (by omega) (by omega) (Below.refl _ _) (Nat.le_refl _) ?_; intro vD w3 hRD _ hg3 _; rw [Int.toNat_natCast] at hRD; obtain ⟨D, capD, rfl, hD1, hD2, _⟩ := Kd.R_form hRD (by simpa using hnp.1); rw [List.length_replicate] at hRD; have hb3 : Below w2.heap.size w2 w3 := (Below.refl _ _).grown hg3 (Nat.le_refl _) (by simp); have HX3 := am (HX2.out.below hb3); have HB3 : qAb (Below W.heap.size W w3) := ⟨HB2.out.trans (hb3.mono HB2.out.size)⟩; have hN3 := Kd.N_mono (Kd.N_below (Kd.N_bound HNO.out) hb3) (fun q hq => show W.heap.size ≤ q ∧ q ≠ D from ⟨hq.1, fun e => by (have := hq.2; omega)⟩); obtain ⟨_, _, _, _, s0, _, _, _, _, _, sf⟩ := shape_N hN3 0 (Int.le_refl 0) (by omega); have s0' : w3.cell? ⟨O, 0, none⟩ = some (.bool (qAN (List.replicate n z192) 0).f0) := s0; have s0f : w3.frozen? ⟨O, 0, none⟩ = false := sf 0; have HN4 := am (N_met hN3 0 (Int.le_refl 0) (by omega)); clear s0; have HRD := am hRD; have HN3 := am hN3; have hOD : O ≠ D := (by omega); clear hRD hg3 hb3 hN3 sf))
  have hrz : qAN (List.replicate n z192) 0 = z192 := by
   unfold qAN
   rw [List.getD_eq_getElem?_getD]
   have : (List.replicate n z192)[(0 : Int).toNat]? = some z192 := by
    show (List.replicate n z192)[0]? = _
    rw [List.getElem?_replicate, if_pos hnp.1]
   rw [this]; rfl
  have hn4 := HN4.out
  rw [hrz] at hn4
  have HN5 : qAb (Kd.N k192 192 (w3.setCell ⟨O, 0, none⟩ (.bool true)) 0 (fun q => W.heap.size ≤ q ∧ q ≠ D) (.slice (some ⟨O, 0, none⟩) n capO) (initS n)) := ⟨hn4⟩
  have hOl : O < w3.heap.size := World.block_lt_of_cell? _ _ s0'
  have HB5 : qAb (Below W.heap.size W (w3.setCell ⟨O, 0, none⟩ (.bool true))) := ⟨HB3.out.setCell (show W.heap.size ≤ O from Nat.le_trans HB.out.size HO1.out) _⟩
  have hXO : W.heap.size + 1 < O := Nat.lt_of_lt_of_le HX.out.lt HO1.out
  have HX5 : qAb (BoxS W.heap.size #[.slice A1 p1 c1, .int .i64 res, .slice A2 l1 c2, .slice A3 n c3] #[.slice A4 f1 c4, .slice A5 v1 c5] (w3.setCell ⟨O, 0, none⟩ (.bool true))) := ⟨⟨(Below.heap_setCell _ _ _ _ (show W.heap.size ≠ O by omega)).trans HX3.out.1, (Below.heap_setCell _ _ _ _ (show W.heap.size + 1 ≠ O by omega)).trans HX3.out.2⟩⟩
  have HRD5 : qAb (Kd.R Kd.bool 4 (w3.setCell ⟨O, 0, none⟩ (.bool true)) 0 (fun q => q = D) (.slice (some ⟨D, 0, none⟩) n capD) (List.replicate n false)) := ⟨Kd.R_far (p := ⟨O, 0, none⟩) (Kd.R_mono (Kd.R_tight rfl (Kd.R_lower HRD.out (Nat.zero_le _))) (fun k hk => by simpa [Value.ownBlock] using hk)) (fun k hk => by rw [hk]; exact hOD.symm) _⟩
  have hOW : W.heap.size ≤ O := Nat.le_trans HB.out.size HO1.out
  have hDW : O < D := by omega
  obtain ⟨w5, hw5⟩ : ∃ w5, w5 = w3.setCell ⟨O, 0, none⟩ (.bool true) := ⟨_, rfl⟩
  rw [← hw5] at HN5 HB5 HX5 HRD5 ⊢
  clear hw5 hrz hn4 HN4 HN3 HRD HX3 HB3 HX2 HB2 HNO k3 k3' s0' s0f hOl hD1 hD2 HX HB hO2
  go_step3
  go_wp2_with fail
  have HST : qAb (loopS ls vs fs res code (n + 1) (initS n) (List.replicate n false) = RR) := ⟨HRL.out.symm⟩
  have HOK0 : qAb (∀ x ∈ initS n, ShOk x) := ⟨fun x hx => by
    unfold initS at hx
    rcases List.mem_or_eq_of_mem_set hx with h | h
    · rw [List.mem_replicate] at h
      rw [h.2]
      exact ⟨Nat.zero_le _, Nat.zero_le _, fun y hy => by cases hy⟩
    · rw [h]
      exact ⟨Nat.zero_le _, Nat.zero_le _, fun y hy => by cases hy⟩⟩
  go_loopg [12, 13, 14, 15] (n + 1) (fun gg _ _ _ _ wr => ∃ (okk : List S192) (dnk : List Bool), qEw dnk < gg ∧ qAb (loopS ls vs fs res code gg okk dnk = RR) ∧ qAb (∀ x ∈ okk, ShOk x) ∧ qAb (Kd.N k192 192 wr 0 (fun q => W.heap.size ≤ q ∧ q ≠ D) (.slice (some ⟨O, 0, none⟩) n capO) okk) ∧ qAb (Kd.R Kd.bool 4 wr 0 (fun q => q = D) (.slice (some ⟨D, 0, none⟩) n capD) dnk) ∧ qAb (Below W.heap.size W wr) ∧ qAb (BoxS W.heap.size #[.slice A1 p1 c1, .int .i64 res, .slice A2 l1 c2, .slice A3 n c3] #[.slice A4 f1 c4, .slice A5 v1 c5] wr))
  case atStart => exact ⟨initS n, List.replicate n false, by rw [undone_rep]; omega, HST, HOK0, HN5, HRD5, HB5, HX5⟩
  case round =>
   obtain ⟨okk, dnk, hgu, HL1, HOK, HNO, HRD, HB, HX⟩ := hrel
   obtain ⟨g, rfl⟩ : ∃ g, gk = g + 1 := ⟨gk - 1, by omega⟩
   obtain ⟨wo, hwo⟩ : ∃ wo, wo = wr := ⟨_, rfl⟩
   rw [← hwo] at HNO HRD HB HX ⊢
   clear hwo HN5 HRD5 HB5 HX5 HST HOK0
   have hol : okk.length = n := (Kd.N_reads' HNO.out).1.symm
   have hdl : dnk.length = n := (Kd.R_reads' HRD.out).1.symm
   have HOL := am hol
   have HDL := am hdl
   clear hol hdl
   go_wp2_with fail
   go_loopg [12, 48] n (fun gg _ s48 wy => ∃ kk : Nat, kk ≤ n ∧ n - kk ≤ gg ∧ s48 = .int .i64 kk ∧ qAb (qD7 kk (okk.drop kk) (dnk.drop kk) = qD7 0 okk dnk) ∧ wo = wy)
   case atStart => exact ⟨0, Nat.zero_le _, by omega, rfl, ⟨rfl⟩, rfl⟩
   case round =>
    obtain ⟨kk, hkk, hg, rfl, HNX, rfl⟩ := hrel
    by_cases hlt : kk < n
    rotate_left
    ·have e0 : n = kk := by omega
     subst e0
     have hnot : ¬ (n : Int) < (n : Int) := by omega
     have HRE : qAb (RR = (some okk, 0, 0)) := ⟨by
       have h1 := HNX.out
       rw [List.drop_of_length_le (by have := HOL.out; omega)] at h1
       have h2 : qD7 0 okk dnk = none := by rw [← h1]; rfl
       rw [← HL1.out]
       unfold loopS
       rw [h2]⟩
     go_wp2_with fail
     try rw [Exit.noGoto_ret]
     refine bodyPost_ret (results_tmp3 rfl _ _ _) rfl ?_
     rw [HRE.out]
     refine ⟨_, rfl, ?_, ?_, HB.out⟩
     ·intro out h
      injection h with h
      subst h
      exact Kd.N_mono HNO.out (fun q hq => hq.1)
     intro h; cases h
    have hltz : (kk : Int) < (n : Int) := by omega
    have h0 : (0 : Int) ≤ (kk : Int) := by omega
    obtain ⟨E1, e1, E2, e2, y0, y1, y2, ycl, Y1, Y2, yfr⟩ := shape_N HNO.out (kk : Int) h0 hltz
    obtain ⟨x0, x0f⟩ := Kd.R_celln (α := Bool) false HRD.out (kk : Int) h0 hltz
    rw [Int.toNat_natCast] at y0 y1 y2 x0 x0f yfr
    have hox : okk[kk]? = some (qAN okk (kk : Int)) := qBE okk z192 kk (by have := HOL.out; omega)
    have hdx : dnk[kk]? = some (rdOf false dnk (kk : Int)) := qBE dnk false kk (by have := HDL.out; omega)
    obtain ⟨x, hxe⟩ : ∃ x, x = qAN okk (kk : Int) := ⟨_, rfl⟩
    obtain ⟨d, hde⟩ : ∃ d, d = rdOf false dnk (kk : Int) := ⟨_, rfl⟩
    have hxr := hxe
    rw [← hxe] at y0 y1 y2 ycl Y1 Y2 hox
    rw [← hde] at x0 hdx
    have hnx := HNX.out
    rw [List.drop_eq_getElem_cons (show kk < okk.length by have := HOL.out; omega), List.drop_eq_getElem_cons (show kk < dnk.length by have := HDL.out; omega), nextS_cons] at hnx
    rw [List.getElem?_eq_getElem (by have := HOL.out; omega)] at hox
    rw [List.getElem?_eq_getElem (by have := HDL.out; omega)] at hdx
    injection hox with hox
    injection hdx with hdx
    rw [hox, hdx] at hnx
    have HXR := am hxr
    have HDX : qAb (dnk[kk]? = some d) := ⟨by rw [List.getElem?_eq_getElem (by have := HDL.out; omega), hdx]⟩
    have HXM : qAb (x ∈ okk) := ⟨by rw [← hox]; exact List.getElem_mem _⟩
    have x0' : wo.cell? ⟨D, kk, none⟩ = some (.bool d) := x0
    clear x0 hox hdx hxe hde hxr
    obtain ⟨xm, hxm⟩ : ∃ q, q = x.f0 := ⟨_, rfl⟩
    rw [← hxm] at y0 hnx
    have HXMM := am hxm
    clear hxm
    cases xm with
    | false =>
     have HN2 : qAb (qD7 (kk + 1) (okk.drop (kk + 1)) (dnk.drop (kk + 1)) = qD7 0 okk dnk) := ⟨by simpa using hnx⟩
     clear hnx
     go_wp2_with fail
     go_roundg (n - (kk + 1))
     case measure => omega
     case rel => exact ⟨kk + 1, by omega, by omega, by go_num, HN2, rfl⟩
    | true =>
     cases d with
     | true =>
      have HN2 : qAb (qD7 (kk + 1) (okk.drop (kk + 1)) (dnk.drop (kk + 1)) = qD7 0 okk dnk) := ⟨by simpa using hnx⟩
      clear hnx
      go_wp2_with fail
      go_roundg (n - (kk + 1))
      case measure => omega
      case rel => exact ⟨kk + 1, by omega, by omega, by go_num, HN2, rfl⟩
     | false =>
      have HN2 : qAb (qD7 0 okk dnk = some kk) := ⟨by simpa using hnx.symm⟩
      clear hnx
      go_wp2_with fail
      have hwD : (wo.setCell ⟨D, kk, none⟩ (.bool true)) = (wo.setCell ⟨D, kk, none⟩ (.bool true)) := rfl
      have hDn : O ≠ D := Nat.ne_of_lt hDW
      have hszD : ((wo.setCell ⟨D, kk, none⟩ (.bool true))).heap.size = wo.heap.size := by simp [World.setCell]
      have HND := am (Kd.N_bound (Kd.N_far (p := ⟨D, kk, none⟩) HNO.out (fun k hk => hk.2) (.bool true)))
      have hRD2 := (Kd.R_putg (α := Bool) HRD.out (kk : Int) true).1
      rw [Int.toNat_natCast] at hRD2
      have HRDD := am (show Kd.R Kd.bool 4 (wo.setCell ⟨D, kk, none⟩ (.bool true)) 0 (fun q => q = D) (.slice (some ⟨D, 0, none⟩) n capD) (dnk.set kk true) from hRD2)
      have hWD : W.heap.size ≤ D := Nat.le_trans hOW (Nat.le_of_lt hDW)
      have HBD : qAb (Below W.heap.size W (wo.setCell ⟨D, kk, none⟩ (.bool true))) := ⟨HB.out.setCell (show W.heap.size ≤ D from hWD) _⟩
      have hXD : W.heap.size + 1 < D := Nat.lt_trans hXO hDW
      have HXD : qAb (BoxS W.heap.size #[.slice A1 p1 c1, .int .i64 res, .slice A2 l1 c2, .slice A3 n c3] #[.slice A4 f1 c4, .slice A5 v1 c5] (wo.setCell ⟨D, kk, none⟩ (.bool true))) := ⟨⟨(Below.heap_setCell _ _ _ _ (show W.heap.size ≠ D by omega)).trans HX.out.1, (Below.heap_setCell _ _ _ _ (show W.heap.size + 1 ≠ D by omega)).trans HX.out.2⟩⟩
      have t0 := (qAa HXD.out.1 0).trans rfl
      have t1 := (qAa HXD.out.1 1).trans rfl
      have t2 := (qAa HXD.out.1 2).trans rfl
      have t3 := (qAa HXD.out.1 3).trans rfl
      have t4 := (qAa HXD.out.2 0).trans rfl
      have t5 := (qAa HXD.out.2 1).trans rfl
      have t6 := qA0 y0 ⟨D, kk, none⟩ (.bool true) hDn
      have t7 := qA0 y1 ⟨D, kk, none⟩ (.bool true) hDn
      have t8 := qA0 y2 ⟨D, kk, none⟩ (.bool true) hDn
      have Z1 := Kd.F_bound (Kd.F_far (p := ⟨D, kk, none⟩) Y1 (fun k hk => hk.1.2) (.bool true))
      have Z2 := Kd.F_bound (Kd.F_far (p := ⟨D, kk, none⟩) Y2 (fun k hk => hk.1.2) (.bool true))
      have hsh := HOK.out x HXM.out
      have HCP : qAb (∀ W', Below ((wo.setCell ⟨D, kk, none⟩ (.bool true))).heap.size (wo.setCell ⟨D, kk, none⟩ (.bool true)) W' → Calls Try.prog 119 #[.agg #[.bool true, .slice E1 x.f1.length e1, .slice E2 x.f2.length e2]] W' (qDU true x.f1 x.f2 (fun q => ((W.heap.size ≤ q ∧ q ≠ D) ∧ q ≠ O) ∧ q < ((wo.setCell ⟨D, kk, none⟩ (.bool true))).heap.size) W')) :=
       ⟨fun W' hW' => qD0 true E1 e1 x.f1 E2 x.f2.length e2 x.f2 _ _ W' (Kd.F_below Z1 hW') (Kd.F_below Z2 hW') (by have := hsh.1; omega) (by have := hsh.2.1; omega) ycl⟩
      have hxi := okS_op (HALL.out kk (qAr code (kk : Int)) (qBE code z115 kk (by have := HN.out; omega)))
      obtain ⟨aok, aw, hAF⟩ : ∃ aok aw, qBt ls vs fs res (qAr code (kk : Int)) (kk : Int) true x.f1 x.f2 = (aok, aw) := ⟨_, _, rfl⟩
      have hAFT := fun (w6 : World) (hB6 : Below W.heap.size W w6) (S okT : Nat → Prop) (u1 u2 : Value) (g1 : Kd.N (Kd.int .i64) 3 w6 0 S u1 x.f1) (g2 : ∀ k, u2.ownBlock = some k → S k) (g3 : Kd.N k204 204 w6 0 (fun q => (S q ∨ okT q) ∧ some q ≠ u1.ownBlock) u2 x.f2) (hoff : ∀ q, okF q ∧ q < W.heap.size → ¬ S q) =>
       after_any (W := w6) (kk : Int) A1 A2 A3 A4 A5 p1 c1 c2 n c3 c4 c5 res code (Kd.F_now (Kd.F_below HC.out hB6)) h0 hltz hxi.1 hxi.2.1 (m := true) g1 g2 g3 (by have := hsh.1; omega) (by have := hsh.2.1; omega) (Kd.F_below HL.out hB6) (Kd.F_below HV.out hB6) (Kd.F_below HF.out hB6) hoff HFS.out hxi.2.2 (by omega)
      rw [hAF] at hAFT
      have hins := afterS_inner (ls := ls) (vs := vs) (fs := fs) (res := res) (x := qAr code (kk : Int)) (at_ := (kk : Int)) (m := true) hsh.1 hsh.2.2
      have hlen := afterS_len (ls := ls) (vs := vs) (fs := fs) (res := res) (x := qAr code (kk : Int)) (at_ := (kk : Int)) (m := true) (st := x.f1) (tr := x.f2)
      have hato := afterS_to (ls := ls) (vs := vs) (fs := fs) (res := res) (m := true) (st := x.f1) (tr := x.f2) h0 hxi.2.2
      rw [hAF] at hins hlen hato
      have hlp := loopS_at (ls := ls) (vs := vs) (fs := fs) (res := res) (code := code) (g := g) (aok := aok) (aw := aw) HN2.out (by rw [← HXR.out]; exact hAF)
      rw [HL1.out] at hlp
      have HLP := am hlp
      have HINS := am hins
      have HLEN := am hlen
      have HATO := am hato
      have HAFT := am hAFT
      have HSH := am hsh
      clear hlp hins hlen hato hAFT hsh hAF hxi Z1 Z2 Y1 Y2 y0 y1 y2 yfr ycl hwD hRD2 x0' x0f
      rw [← HLL.out, ← HFF.out, ← HVV.out] at HAFT
      obtain ⟨m1, hm1⟩ : ∃ q, q = x.f1.length := ⟨_, rfl⟩
      obtain ⟨m2, hm2⟩ : ∃ q, q = x.f2.length := ⟨_, rfl⟩
      rw [← hm1] at t7 HCP
      rw [← hm2] at t8 HCP
      clear hm1 hm2
      obtain ⟨wD, hwD⟩ : ∃ wD, wD = (wo.setCell ⟨D, kk, none⟩ (.bool true)) := ⟨_, rfl⟩
      rw [← hwD] at hszD HND HRDD HBD HXD t0 t1 t2 t3 t4 t5 t6 t7 t8 HCP ⊢
      clear hwD HNO HRD HX HB HNX
      go_region_held3 (fun W' => W'.cell? ⟨W.heap.size, 0, none⟩ = some (.slice A1 p1 c1) ∧ W'.cell? ⟨W.heap.size, 1, none⟩ = some (.int .i64 res) ∧ W'.cell? ⟨W.heap.size, 2, none⟩ = some (.slice A2 l1 c2) ∧ W'.cell? ⟨W.heap.size, 3, none⟩ = some (.slice A3 n c3) ∧ W'.cell? ⟨W.heap.size + 1, 0, none⟩ = some (.slice A4 f1 c4) ∧ W'.cell? ⟨W.heap.size + 1, 1, none⟩ = some (.slice A5 v1 c5) ∧ W'.cell? ⟨O, kk * 3, none⟩ = some (.bool true) ∧ W'.cell? ⟨O, kk * 3 + 1, none⟩ = some (.slice E1 m1 e1) ∧ W'.cell? ⟨O, kk * 3 + 2, none⟩ = some (.slice E2 m2 e2))
       (first | exact ⟨t0, t1, t2, t3, t4, t5, t6, t7, t8⟩ | exact ⟨x0, x1, x2, x3, x4, x5, x6, x7, x8⟩ | exact ⟨y0, y1, y2, y3, y4, y5, y6, y7, y8⟩)
       (first
         | (go_at_call 119;
            refine (HCP.out _ (qAw (Below.refl _ _))).mono ?_;
            rintro e w6 ⟨u1, u2, rfl, hR6, hN6, hb6⟩;
            have x0 := (hb6.cell (World.block_lt_of_cell? _ _ t0)).trans t0;
            have x1 := (hb6.cell (World.block_lt_of_cell? _ _ t1)).trans t1;
            have x2 := (hb6.cell (World.block_lt_of_cell? _ _ t2)).trans t2;
            have x3 := (hb6.cell (World.block_lt_of_cell? _ _ t3)).trans t3;
            have x4 := (hb6.cell (World.block_lt_of_cell? _ _ t4)).trans t4;
            have x5 := (hb6.cell (World.block_lt_of_cell? _ _ t5)).trans t5;
            have x6 := (hb6.cell (World.block_lt_of_cell? _ _ t6)).trans t6;
            have x7 := (hb6.cell (World.block_lt_of_cell? _ _ t7)).trans t7;
            have x8 := (hb6.cell (World.block_lt_of_cell? _ _ t8)).trans t8;
            obtain ⟨V1, q1, rfl⟩ := Kd.R_slice hR6;
            obtain ⟨V2, q2, rfl⟩ := Kd.N_slice hN6;
            have HR6 := am hR6;
            have HN6 := am hN6;
            have HB6 : qAb (Below wD.heap.size wD w6) := ⟨(qAw (Below.refl _ _)).trans hb6⟩;
            clear hR6 hN6 hb6)
         | (go_at_call 118;
            refine (HAFT.out w6 (HBD.out.trans (HB6.out.mono HBD.out.size)) (fun q => wD.heap.size ≤ q) (fun q => ((W.heap.size ≤ q ∧ q ≠ D) ∧ q ≠ O) ∧ q < wD.heap.size) _ _ (Kd.N_mono (Kd.N_lower (Kd.R_N (Kd.R_bound HR6.out)) (Nat.zero_le _)) (fun q hq => hq.2.1)) (Kd.N_base HN6.out) (Kd.N_mono (Kd.N_lower HN6.out (Nat.zero_le _)) (fun q hq => ⟨hq.1.symm, hq.2⟩)) (fun q hq h => by { have := HBD.out.size; omega })).mono ?_;
            rintro e w7 ⟨A9, n9, c9, rfl, hF9, hFr7⟩;
            have y0 := hFr7.cell x0 (fun h => Nat.not_lt.2 h (World.block_lt_of_cell? _ _ t0));
            have y1 := hFr7.cell x1 (fun h => Nat.not_lt.2 h (World.block_lt_of_cell? _ _ t1));
            have y2 := hFr7.cell x2 (fun h => Nat.not_lt.2 h (World.block_lt_of_cell? _ _ t2));
            have y3 := hFr7.cell x3 (fun h => Nat.not_lt.2 h (World.block_lt_of_cell? _ _ t3));
            have y4 := hFr7.cell x4 (fun h => Nat.not_lt.2 h (World.block_lt_of_cell? _ _ t4));
            have y5 := hFr7.cell x5 (fun h => Nat.not_lt.2 h (World.block_lt_of_cell? _ _ t5));
            have y6 := hFr7.cell x6 (fun h => Nat.not_lt.2 h (World.block_lt_of_cell? _ _ t6));
            have y7 := hFr7.cell x7 (fun h => Nat.not_lt.2 h (World.block_lt_of_cell? _ _ t7));
            have y8 := hFr7.cell x8 (fun h => Nat.not_lt.2 h (World.block_lt_of_cell? _ _ t8));
            have HF9 := am hF9;
            have HFr7 := am hFr7;
            clear hF9 hFr7))
      have HNO7 := am (Kd.N_kept (Kd.N_below HND.out HB6.out) HFr7.out.2 (fun k hk h => by have := hk.2; omega))
      have HRD7 := am (Kd.R_step (Kd.R_below HRDD.out HB6.out) (fun k hk hlt => HFr7.out.2.2 k hlt (fun h => by have h2 := Kd.R_lt HRDD.out D (by simp [Value.ownBlock]); omega)))
      have HB7 : qAb (Below W.heap.size W w7) := ⟨(HBD.out.trans (HB6.out.mono HBD.out.size)).trans (Fr.below HFr7.out (fun q hq => Nat.le_trans HBD.out.size hq) (Nat.le_trans HBD.out.size HB6.out.size))⟩
      have HX7 : qAb (BoxS W.heap.size #[.slice A1 p1 c1, .int .i64 res, .slice A2 l1 c2, .slice A3 n c3] #[.slice A4 f1 c4, .slice A5 v1 c5] w7) := ⟨(HXD.out.below HB6.out).fr HFr7.out (fun h => by have := HXD.out.lt; omega) (fun h => by have := HXD.out.lt; omega)⟩
      clear t0 t1 t2 t3 t4 t5 t6 t7 t8 x0 x1 x2 x3 x4 x5 x6 x7 x8 y0 y1 y2 y3 y4 y5 y6 y7 y8
      have hw7 : wD.heap.size ≤ w7.heap.size := Nat.le_trans HB6.out.size HFr7.out.size
      cases aok with
      | false =>
       have HRE : qAb (RR = (none, (kk : Int), 51)) := ⟨by rw [HLP.out]; simp⟩
       go_wp2_with fail
       try rw [Exit.noGoto_ret]
       refine bodyPost_ret (results_tmp3 rfl _ _ _) rfl ?_
       rw [HRE.out]
       refine ⟨_, rfl, ?_, ?_, HB7.out⟩
       ·intro out h; cases h
       intro _; rfl
      | true =>
       have hF9 := HF9.out rfl
       have h9 : n9 = aw.length := (Kd.F_len hF9).symm
       have HNT := am (note_any (W := w7) O n capO okk HNO7.out A9 n9 c9 aw (Kd.F_bound hF9) (by
         rintro ⟨(h | h) | h, h2⟩
         · have := Kd.N_lt HND.out O (by simp [Value.ownBlock]); omega
         · exact h.1.2 rfl
         · have := Kd.N_lt HND.out O (by simp [Value.ownBlock]); have := HB6.out.size; omega) HATO.out (by have h10 : aw.length ≤ 2 := HLEN.out; omega) (by omega) (fun z hz => ⟨by have := (HOK.out z hz).1; omega, by have := (HOK.out z hz).2.1; omega, fun u hu => by have := (HOK.out z hz).2.2 u hu; omega⟩) (fun w hw u hu => by have := HINS.out w hw u hu; omega))
       have hok2 := noteS_ok (out := okk) HOK.out HINS.out
       obtain ⟨en, on, hen⟩ : ∃ en on, qCF okk aw = (en, on) := ⟨_, _, rfl⟩
       rw [hen] at HNT hok2
       have hlp := HLP.out
       rw [if_pos rfl, hen] at hlp
       have HLP2 := am hlp
       have HOK2 := am hok2
       clear hlp hok2 hF9 h9 hen
       by_cases he0 : en = 0
       rotate_left
       ·have hq : (en != 0) = true := bne_iff_ne.mpr he0
        have HRE : qAb (RR = (none, (kk : Int), en)) := ⟨by rw [HLP2.out, if_neg he0]⟩
        go_wp2_with (go_at_call 120; refine HNT.out.mono ?_; rintro e w8 ⟨rfl, hN8, hF8⟩; have HF8 := am hF8; clear hN8 hF8)
        try rw [Exit.noGoto_ret]
        refine bodyPost_ret (results_tmp3 rfl _ _ _) rfl ?_
        rw [HRE.out]
        refine ⟨_, rfl, ?_, ?_, ?_⟩
        ·intro out h; cases h
        ·intro _; rfl
        exact HB7.out.trans (Fr.below HF8.out (fun q hq => by rw [hq]; exact hOW) HB7.out.size)
       subst he0
       have HLP3 : qAb (loopS ls vs fs res code g on (dnk.set kk true) = RR) := ⟨by have h := HLP2.out; rw [if_pos (by trivial)] at h; exact h.symm⟩
       have hDl : D < wD.heap.size := Kd.R_lt HRDD.out D (by simp [Value.ownBlock])
       have hun := undone_set dnk kk HDX.out
       go_wp2_with (go_at_call 120; refine HNT.out.mono ?_; rintro e w8 ⟨rfl, hN8, hF8⟩; have HN8 := am hN8; have HF8 := am hF8; clear hN8 hF8)
       go_roundg g
       case measure => omega
       case rel =>
        have hW6 := HB6.out.size
        refine ⟨on, dnk.set kk true, by omega, HLP3, HOK2, ⟨Kd.N_mono HN8.out (fun q hq => ?_)⟩, ⟨Kd.R_step HRD7.out (fun k hk hlt => HF8.out.2.2 k hlt (fun h => hDn (by rw [← h, hk])))⟩, ⟨HB7.out.trans (Fr.below HF8.out (fun q hq => by rw [hq]; exact hOW) HB7.out.size)⟩, ⟨HX7.out.fr HF8.out (by omega) (by omega)⟩⟩
        rcases hq with (h | ⟨(h | h) | h, _⟩) | h
        ·exact h.1
        ·exact ⟨by omega, by omega⟩
        ·exact h.1.1
        ·exact ⟨by omega, by omega⟩
        exact ⟨by omega, by omega⟩
theorem verify_any {W : World} (A1 A2 A3 A4 A5 : Option Addr) (c1 c2 c3 c4 c5 : Nat) (res : Int) {ps ls vs : List Int} {fs : List S74} {code : List S115} {okF : Nat → Prop} (hP : Kd.F (Kd.int .i64) W okF A1 ps.length ps) (hL : Kd.F (Kd.int .i64) W okF A2 ls.length ls) (hC : Kd.F k115 W okF A3 code.length code) (hF : Kd.F k74 W okF A4 fs.length fs) (hV : Kd.F (Kd.int .i64) W okF A5 vs.length vs) (hc1 : ps.length ≤ c1) (hc2 : ls.length ≤ c2)
  (hp1 : ps.length ≤ 2000000) (hl1 : ls.length ≤ 2000000) (hv1 : vs.length ≤ 2000000) (hf1 : fs.length ≤ 2000000) (hn3 : code.length ≤ 2000000) (hfs : ∀ x ∈ fs, x.f0.length ≤ 2000000) (hu : ∀ x ∈ code, u64S x = true) :
  Calls Try.prog 62 #[.agg #[.slice A1 ps.length c1, .int .i64 res, .slice A2 ls.length c2, .slice A3 code.length c3], .agg #[.slice A4 fs.length c4, .slice A5 vs.length c5]] W fun e w' => e = .returned (.tuple #[.int .i64 (qB2 ps res ls code fs vs).2.1, .int .i64 (qB2 ps res ls code fs vs).2.2]) ∧ Below W.heap.size W w' := by
 have hBB : Below W.heap.size W ((W.alloc (.cells #[.slice A1 ps.length c1, .int .i64 res, .slice A2 ls.length c2, .slice A3 code.length c3] 77)).alloc (.cells #[.slice A4 fs.length c4, .slice A5 vs.length c5] 135)) := ((Below.refl _ _).alloc (Nat.le_refl _) _).alloc (by simp) _
 have hs := fun W' (hW' : Below W.heap.size W W') => shapes_any (W := W') A1 A2 A3 A4 A5 c1 c2 c3 c4 c5 res (Kd.F_below hP hW') (Kd.F_below hL hW') (Kd.F_below hC hW') (Kd.F_below hF hW') (Kd.F_below hV hW') hc1 hc2 hp1 hl1 hv1 hf1 hn3 hfs hu
 obtain ⟨RR, hRR⟩ : ∃ RR, RR = qB2 ps res ls code fs vs := ⟨_, rfl⟩
 rw [← hRR] at hs ⊢
 obtain ⟨q1, hq1⟩ : ∃ q, q = ps.length := ⟨_, rfl⟩
 obtain ⟨q2, hq2⟩ : ∃ q, q = ls.length := ⟨_, rfl⟩
 obtain ⟨q3, hq3⟩ : ∃ q, q = code.length := ⟨_, rfl⟩
 obtain ⟨q4, hq4⟩ : ∃ q, q = fs.length := ⟨_, rfl⟩
 obtain ⟨q5, hq5⟩ : ∃ q, q = vs.length := ⟨_, rfl⟩
 rw [← hq1, ← hq2, ← hq3, ← hq4, ← hq5] at hs hBB ⊢
 have HS := am hs
 have HBB := am hBB
 clear hP hL hC hF hV hc1 hc2 hp1 hl1 hv1 hf1 hn3 hfs hu hRR hs hBB hq1 hq2 hq3 hq4 hq5
 go_enter Try.func62, Try.ntmps62
 go_wp2_with (go_at_call 106; refine (HS.out _ HBB.out).mono ?_; rintro e w1 ⟨v, rfl, _, _, hb⟩; have HB1 : qAb (Below W.heap.size W w1) := ⟨HBB.out.trans (hb.mono HBB.out.size)⟩; clear hb)
 go_ret2
 exact ⟨rfl, HB1.out⟩
theorem unrightV_any (ty b : Int) (hb : U64 b) (w : World) : Calls Try.prog 60 #[.agg #[.int .i64 ty, .int .u64 b]] w fun e w' => e = .returned (.bool (!okV ty b)) ∧ Below w.heap.size w w' := by
 have HR := am (fun W => Val.right_any ty b hb W)
 clear hb
 go_enter Try.func60, Try.ntmps60
 go_wp2_with (go_at_call 40; refine (HR.out _).mono ?_; rintro e w1 ⟨rfl, hw⟩; have HB := am hw; clear hw)
 go_ret
 exact ⟨rfl, ((Below.refl _ _).alloc (Nat.le_refl _) _).trans (HB.out.mono (by simp))⟩
def okVS (x : S69) : Bool := okV x.f0 x.f1
def u64V (x : S69) : Bool := decide (0 ≤ x.f1 ∧ x.f1 < 18446744073709551616)
theorem u64V_U {x : S69} (h : u64V x = true) : U64 x.f1 := by
 have h := of_decide_eq_true (p := 0 ≤ x.f1 ∧ x.f1 < 18446744073709551616) h
 exact ⟨h.1, by omega⟩
theorem idx_vals (A : Option Addr) (c : Nat) (l : List S69) (w : World) (hr : Kd.C k69 w A l.length l) (hl : l.length ≤ 4611686018427387904) (hu : ∀ x ∈ l, u64V x = true) :
  Calls Try.prog 104 #[.slice A l.length c, .func (.func 60) #[] #[]] w (IdxPost (l.any fun x => !okVS x) w) := by
 obtain ⟨n, hn⟩ : ∃ n, n = l.length := ⟨_, rfl⟩
 rw [← hn]
 have HR := am hr
 have HN := am hn
 have HU := am hu
 rw [← hn] at hl
 clear hr hn hu
 go_enter Try.func104, Try.ntmps104
 go_wp2
 go_loopg [5, 8] n (fun gg _ s8 wr => ∃ kk : Nat, kk ≤ n ∧ n - kk ≤ gg ∧ s8 = .int .i64 kk ∧ qAb (∀ (j : Nat) x, j < kk → l[j]? = some x → (!okVS x) = false) ∧ qAb (Below w.heap.size w wr))
 case atStart => exact ⟨0, Nat.zero_le _, by omega, rfl, ⟨fun j x hj => absurd hj (Nat.not_lt_zero _)⟩, ⟨Below.refl _ _⟩⟩
 case round =>
  obtain ⟨kk, hkk, hg, rfl, HA, HB⟩ := hrel
  by_cases hlt : kk < n
  rotate_left
  ·have hltz : ¬ (kk : Int) < (n : Int) := by omega
   have : kk = n := by omega
   subst this
   go_wp2
   go_ret
   refine ⟨-1, rfl, ?_, HB.out⟩
   rw [any_miss _ l fun j x hj => HA.out j x (by rw [HN.out]; exact (List.getElem?_eq_some_iff.1 hj).1) hj]
   simp
  have hltz : (kk : Int) < (n : Int) := by omega
  have h0 : (0 : Int) ≤ (kk : Int) := by omega
  obtain ⟨ad, ea, hx0, hx1⟩ := qDX HR.out (kk : Int) h0 (by have := HN.out; omega)
  subst ea
  rw [Int.toNat_natCast] at hx0 hx1
  replace hx0 := cb HB hx0
  replace hx1 := cb HB hx1
  obtain ⟨x, hx⟩ : ∃ x, x = qBm l (kk : Int) := ⟨_, rfl⟩
  rw [← hx] at hx0 hx1
  have HX : qAb (l[kk]? = some x) := ⟨by rw [hx]; exact qBE l z69 kk (by have := HN.out; omega)⟩
  clear hx
  obtain ⟨ty, bb⟩ := x
  dsimp only at hx0 hx1
  have HC := am (fun W => unrightV_any ty bb (u64V_U (HU.out _ (List.mem_of_getElem? HX.out))) W)
  cases hq : okV ty bb with
  | false =>
   have HQ := am hq
   clear hq
   go_wp2_with (go_at_call 60; refine (HC.out _).mono ?_; rintro e w1 ⟨rfl, hw⟩; rw [HQ.out]; have HB1 := am (qAJ HB.out HB.out.size hw); clear hw)
   go_ret
   exact ⟨kk, rfl, ⟨fun _ => any_hit _ l kk _ HX.out (by unfold okVS; dsimp only; rw [HQ.out]; rfl), fun _ => h0⟩, HB1.out⟩
  | true =>
   have HQ := am hq
   clear hq
   go_wp2_with (go_at_call 60; refine (HC.out _).mono ?_; rintro e w1 ⟨rfl, hw⟩; rw [HQ.out]; have HB1 := am (qAJ HB.out HB.out.size hw); clear hw)
   go_roundg (n - (kk + 1))
   case measure => omega
   case rel =>
    refine ⟨kk + 1, by omega, by omega, by go_num, ⟨fun j y hj hy => ?_⟩, HB1⟩
    by_cases e : j = kk
    rotate_left
    ·exact HA.out j y (by omega) hy
    subst e
    rw [HX.out] at hy; injection hy with hy; subst hy; unfold okVS; dsimp only; rw [HQ.out]; rfl
theorem has_vals (A : Option Addr) (c : Nat) (l : List S69) (w : World) (hr : Kd.C k69 w A l.length l) (hl : l.length ≤ 4611686018427387904) (hu : ∀ x ∈ l, u64V x = true) :
  Calls Try.prog 59 #[.slice A l.length c, .func (.func 60) #[] #[]] w fun e w' => e = .returned (.bool (l.any fun x => !okVS x)) ∧ Below w.heap.size w w' := by
 have HI := am (idx_vals A c l w hr hl hu)
 obtain ⟨b, hb⟩ : ∃ b, b = l.any fun x => !okVS x := ⟨_, rfl⟩
 rw [← hb] at HI ⊢
 clear hb hr hl hu
 go_enter Try.func59, Try.ntmps59
 go_wp2_with (go_at_call 104; refine (HI.out).mono ?_; rintro e w1 ⟨i, rfl, hi, hw⟩; have HB := am hw; have HQ := am hi; clear hi hw)
 go_ret
 refine ⟨?_, HB.out⟩
 have := HQ.out
 congr 2
 cases b <;> simp_all
end Q
end
section
namespace Q
open Go.RowKit YA YC YB
attribute [local go_sem] qAS min2_int qBa min_two max_three min_three max_four min_four
mutual
def qA2.l0 : Nat → List (S77) → Int → Int → List (S69) → List (S77) → Int → List (S74) → Option ((List (S74)) × List Int)
 | 0, _, _, _, _, _, _, _ => none
 | k + 1, x9, dB, bj, ar, bU, bV, aa => if bj < dB then (if 0 ≤ bj then (if bj < (x9.length : Int) then ((qBc.f ((qAz x9 bj).f0.f0)).bind fun aq => (if aa.length < 4398046511104 then (qA2.l0 k x9 dB (wrap64 (bj + 1)) ar bU bV (aa ++ [(⟨aq, (qAz x9 bj).f0.f1⟩ : S74)])) else (none))) else (none)) else (none)) else (qA2.l1 k ar (ar.length : Int) 0 aa ([] : List Int))
def qA2.l1 : Nat → List (S69) → Int → Int → List (S74) → List Int → Option ((List (S74)) × List Int)
 | 0, _, _, _, _, _ => none
 | k + 1, cp, dC, cF, aa, au => if cF < dC then (if 0 ≤ cF then (if cF < (cp.length : Int) then (if au.length < 17592186044416 then (qA2.l1 k cp dC (wrap64 (cF + 1)) aa (au ++ [(qBm cp cF).f0])) else (none)) else (none)) else (none)) else (some (aa, au))
end
def qA2.f (k : Nat) (l0_0 : List (S69)) (l0_1 : List (S77)) (a0_2 : Int) : Option ((List (S74)) × List Int) := qA2.l0 k l0_1 (l0_1.length : Int) 0 l0_0 l0_1 a0_2 ([] : List (S74))
def qA2.T5 : Bool × List (List Nat × List Nat) := (true, [([], []), ([0], [0]), ([], []), ([2], [2]), ([3], [3]), ([4], [4]), ([], []), ([6], [6]), ([7], [7]), ([5, 8], [5, 8]), ([9], [9]), ([1, 10, 5], [1, 10]), ([0, 1, 2, 3, 4, 5, 6, 7, 8, 9, 10, 11], []), ([12, 11, 11, 0, 1, 2, 3, 4, 5, 6, 7, 8, 9, 10, 11], [11, 12])])
def qA2.B5 : List Nat := [0, 1, 0, 4, 12, 28, 0, 64, 192, 508, 1020, 2047, 4095, 8191]
theorem qA2.tab5 : rtab .any (opsOf Try.f61 5) = qA2.T5 := by kernel_rfl
theorem qA2.bits5 : qCl qA2.T5.2 qA2.B5 = true := by kernel_rfl
theorem qA2.calls (k : Nat) (ab : Option Addr) (a5 : Nat) (l0_0 : List (S69)) (ag : Option Addr) (a6 : Nat) (l0_1 : List (S77)) (a0_2 : Int) (r1 : List (S74)) (r2 : List Int) (w : World) (hr0_0 : Kd.C k69 w ab l0_0.length l0_0) (hc0_0 : l0_0.length ≤ a5) (hr0_1 : Kd.C k77 w ag l0_1.length l0_1) (hc0_1 : l0_1.length ≤ a6) (h : qA2.f k l0_0 l0_1 a0_2 = some (r1, r2)) :
  Calls Try.prog 61 #[.agg #[.slice ab l0_0.length a5, .slice ag l0_1.length a6, .int .i64 a0_2]] w fun e w' => ∃ v0_ v1_ : Value, e = .returned (.agg #[v0_, v1_]) ∧ Kd.S k74 74 w' w.heap.size (fun k_ => some k_ ≠ (v1_ : Value).ownBlock) v0_ r1 ∧ Kd.R (Kd.int .i64) 3 w' w.heap.size (fun _ => True) v1_ r2 ∧ Below w.heap.size w w' := by
 have br := am hr0_0
 clear hr0_0 hc0_0
 have bs := am hr0_1
 clear hr0_1 hc0_1
 have HB := am (Below.refl w.heap.size w)
 have H : (qA2.l0 k l0_1 (l0_1.length : Int) 0 l0_0 l0_1 a0_2 ([] : List (S74))) = some (r1, r2) := h
 clear h
 have H' := am H
 clear H
 go_enter Try.func61, Try.ntmps61
 go_wp2_with (first | ((with_reducible refine qAC (N := 1) rfl ?_); refine bx 1 #[.slice ab l0_0.length a5, .slice ag l0_1.length a6, .int .i64 a0_2] 47 ?_; intro aW hg w2 hbox hb; have n_ := a2 (qAk (by repeat ((exact HB.o))) hb) (am (hbox)); clear HB; obtain ⟨HB, aE⟩ := n_; clear hb hbox hg) | ((with_reducible refine qAC (N := 2) rfl ?_); refine bx 2 #[.slice none 0 0, .slice none 0 0] 135 ?_; intro aN hg w3 hbox hb; have n_ := a2 (qAe (g := aW) (o := .cells #[.slice ab l0_0.length a5, .slice ag l0_1.length a6, .int .i64 a0_2] 47 (0, 0)) (by exact aE.o) hb) (a2 (qAk (by repeat ((exact HB.o))) hb) (a2 (hbox) (am ((by rw [hg]; exact (qAf (by repeat ((exact HB.o)))) : w.heap.size ≤ aN))))); clear aE HB; obtain ⟨aE, HB, aH, bp⟩ := n_; clear hb hbox hg) | ((with_reducible refine qAC (N := 3) rfl ?_); refine bx 3 #[.slice none 0 0, .slice none 0 0] 135 ?_; intro aR hg w4 hbox hb; have n_ := a2 (qAe (g := aW) (o := .cells #[.slice ab l0_0.length a5, .slice ag l0_1.length a6, .int .i64 a0_2] 47 (0, 0)) (by exact aE.o) hb) (a2 (qAe (g := aN) (o := .cells #[.slice none 0 0, .slice none 0 0] 135 (0, 0)) (by exact aH.o) hb) (a2 (qAk (by repeat ((exact HB.o))) hb) (a2 (hbox) (a2 ((by rw [hg]; exact (qAf (by repeat ((exact HB.o)))) : w.heap.size ≤ aR)) (a2 ((by rw [hg]; exact Nat.ne_of_lt (qAt (g := aW) (o := .cells #[.slice ab l0_0.length a5, .slice ag l0_1.length a6, .int .i64 a0_2] 47 (0, 0)) (by exact aE.o)) : aW ≠ aR)) (a2 ((by rw [hg]; exact Nat.ne_of_gt (qAt (g := aW) (o := .cells #[.slice ab l0_0.length a5, .slice ag l0_1.length a6, .int .i64 a0_2] 47 (0, 0)) (by exact aE.o)) : aR ≠ aW)) (a2 ((by rw [hg]; exact Nat.ne_of_lt (qAt (g := aN) (o := .cells #[.slice none 0 0, .slice none 0 0] 135 (0, 0)) (by exact aH.o)) : aN ≠ aR)) (am ((by rw [hg]; exact Nat.ne_of_gt (qAt (g := aN) (o := .cells #[.slice none 0 0, .slice none 0 0] 135 (0, 0)) (by exact aH.o)) : aR ≠ aN)))))))))); clear aE aH HB; obtain ⟨aE, aH, HB, aD, bX, ac, bA, ad, bB⟩ := n_; clear hb hbox hg; obtain ⟨b6, b7, b8⟩ := c3_ w4 aE.o; obtain ⟨b9, ba, bb⟩ := z3_ aE.o))
 go_loopg [11] k (fun kq dF w' => ∃ (aA : Int) (aI : List (S74)) (aJ : Value), dF = .int .i64 aA ∧ qAb (qA2.l0 kq l0_1 (l0_1.length : Int) aA l0_0 l0_1 a0_2 aI = some (r1, r2)) ∧ qAb (kq ≤ k) ∧ qAb (Kd.S k74 74 w' w.heap.size (fun _ => True) aJ aI) ∧ qAb (w'.heap[aW]? = some (.cells #[(.slice ab l0_0.length a5), (.slice ag l0_1.length a6), .int .i64 a0_2] 47 (0, 0))) ∧ qAb (w'.heap[aN]? = some (.cells #[(.slice none 0 0), (.slice none 0 0)] 135 (0, 0))) ∧ qAb (w'.heap[aR]? = some (.cells #[aJ, (.slice none 0 0)] 135 (0, 0))) ∧ qAb (Below w.heap.size w w'))
 case atStart => exact ⟨(0), (([] : List (S74))), (.slice none 0 0), (by (rfl)), H', ⟨Nat.le_refl _⟩, ⟨by (exact Kd.S_nil _ _ _ _ _)⟩, ⟨by exact aE.o⟩, ⟨by exact aH.o⟩, ⟨by exact aD.o⟩, ⟨by repeat ((exact HB.o))⟩⟩
 case round =>
  clear H'
  obtain ⟨aA, aI, aJ, rfl, HA, cG, aC, aE, aH, aD, HB⟩ := hrel
  cases gk with
  | zero => exact absurd HA.o (by simp [qA2.l0])
  | succ k1 =>
   have H := HA.o
   clear HA
   simp only [qA2.l0] at H
   by_cases c8 : aA < (l0_1.length : Int)
   rotate_left
   ·rw [if_neg c8] at H
    replace c8 := d0 c8
    have H' := am H
    clear H
    obtain ⟨bK, bL, bM⟩ := c3_ wr aE.o
    obtain ⟨bN, bO, bP⟩ := z3_ aE.o
    go_wp2
    go_loopg [32] k1 (fun kq dG w' => ∃ (aT : Int) (aQ : List Int) (a4 : Value), dG = .int .i64 aT ∧ qAb (qA2.l1 kq l0_0 (l0_0.length : Int) aT aI aQ = some (r1, r2)) ∧ qAb (kq ≤ k1) ∧ qAb (Kd.S k74 74 w' w.heap.size (fun k_ => some k_ ≠ (a4 : Value).ownBlock) aJ aI) ∧ qAb (Kd.R (Kd.int .i64) 3 w' w.heap.size (fun _ => True) a4 aQ) ∧ qAb (w'.heap[aW]? = some (.cells #[(.slice ab l0_0.length a5), (.slice ag l0_1.length a6), .int .i64 a0_2] 47 (0, 0))) ∧ qAb (w'.heap[aN]? = some (.cells #[(.slice none 0 0), (.slice none 0 0)] 135 (0, 0))) ∧ qAb (w'.heap[aR]? = some (.cells #[aJ, a4] 135 (0, 0))) ∧ qAb (Below w.heap.size w w'))
    case atStart => exact ⟨(0), (([] : List Int)), (.slice none 0 0), (by (rfl)), H', ⟨Nat.le_refl _⟩, ⟨by exact Kd.S_mono aC.o (fun _ hk => (by simp [Value.ownBlock]))⟩, ⟨by (exact Kd.R_nil _ _ _ _ _)⟩, ⟨by exact aE.o⟩, ⟨by exact aH.o⟩, ⟨by exact aD.o⟩, ⟨by repeat ((exact HB.o))⟩⟩
    case round =>
     clear H'
     obtain ⟨aT, aQ, a4, rfl, HA, cq, aC, aM, aE, aH, aD, HB⟩ := hrel
     cases gk with
     | zero => exact absurd HA.o (by simp [qA2.l1])
     | succ k2 =>
      have H := HA.o
      clear HA
      simp only [qA2.l1] at H
      by_cases bi : aT < (l0_0.length : Int)
      rotate_left
      ·rw [if_neg bi] at H
       replace bi := d0 bi
       simp only [Option.some.injEq, Prod.mk.injEq] at H
       obtain ⟨rfl, rfl⟩ := H
       obtain ⟨cU, cV⟩ := c2_ wr aD.o
       obtain ⟨bG, bJ, cm⟩ := Kd.S_slice aC.o
       subst cm
       obtain ⟨cW, cX⟩ := c2_ wr aH.o
       obtain ⟨cf, cg⟩ := z2_ aH.o
       obtain ⟨b3, b5, cn⟩ := Kd.R_slice aM.o
       subst cn
       go_wp2
       refine bodyPost_ret (results_cell_row rfl _ _ aN 135 #[.slice bG aI.length bJ, .slice b3 aQ.length b5] (0, 0) _ rfl (by refine qAx (cs := #[.slice bG aI.length bJ, .slice none 0 0]) ?_ 1 _ rfl; refine qAx (cs := #[.slice none 0 0, .slice none 0 0]) ?_ 0 _ rfl; exact aH.o) Try.underlying135 rfl (by kernel_rfl)) rfl ?_
       exact ⟨_, _, by (rfl), by exact Kd.S_mono (Kd.S_far (p := ⟨aN, 1, none⟩) (Kd.S_far (p := ⟨aN, 0, none⟩) (Kd.S_types aC.o aH.o (by decide)) (fun _ hk => hk.2) (.slice bG aI.length bJ)) (fun _ hk => hk.2) (.slice b3 aQ.length b5)) (fun _ hk => hk.1), by exact Kd.R_mono (Kd.R_far (p := ⟨aN, 1, none⟩) (Kd.R_far (p := ⟨aN, 0, none⟩) (Kd.R_types aM.o aH.o (by decide)) (fun _ hk => hk.2) (.slice bG aI.length bJ)) (fun _ hk => hk.2) (.slice b3 aQ.length b5)) (fun _ hk => trivial), by repeat ((with_reducible first | exact HB.o | refine qAs ?_ bp.o))⟩
      rw [if_pos bi] at H
      replace bi := d1 bi
      obtain ⟨cI, H⟩ := gd H
      replace cI := d1 cI
      obtain ⟨cJ, H⟩ := gd H
      replace cJ := d1 cJ
      obtain ⟨cK, H⟩ := gd H
      have bw := am cK
      clear cK
      obtain ⟨bF, bE⟩ : ∃ y_ : List Int, y_ = (aQ ++ [(qBm l0_0 aT).f0]) := ⟨_, rfl⟩
      replace H : (qA2.l1 k2 l0_0 (l0_0.length : Int) (wrap64 (aT + 1)) aI bF) = some (r1, r2) := by (rw [bE]; with_reducible exact H)
      have cA := am bE
      clear bE
      have H' := am H
      clear H
      have bd : 0 ≤ (aT : Int) := of_decide_eq_true (by (with_reducible assumption))
      have bh : aT < (l0_0.length : Int) := of_decide_eq_true (by (with_reducible assumption))
      obtain ⟨bC, ci, ao, ap⟩ := qDX br.o aT bd bh
      cases ci
      replace ao := (HB.o.cell (World.block_lt_of_cell? w _ ao)).trans ao
      replace ap := (HB.o.cell (World.block_lt_of_cell? w _ ap)).trans ap
      replace bd := eq_true bd
      replace bh := eq_true bh
      go_wp2_with (first | ((with_reducible refine qAC (N := 7) rfl ?_); refine bx 7 #[.int .i64 0, .int .u64 0] 69 ?_; intro af hg dA hbox hb; have n_ := a2 (Kd.S_below (by exact aC.o) hb) (a2 (Kd.R_below (by exact aM.o) hb) (a2 (qAe (g := aW) (o := .cells #[.slice (some bC) l0_0.length a5, .slice ag l0_1.length a6, .int .i64 a0_2] 47 (0, 0)) (by exact aE.o) hb) (a2 (qAe (g := aN) (o := .cells #[.slice none 0 0, .slice none 0 0] 135 (0, 0)) (by exact aH.o) hb) (a2 (qAe (g := aR) (o := .cells #[aJ, a4] 135 (0, 0)) (by exact aD.o) hb) (a2 (qAk (by repeat ((exact HB.o))) hb) (a2 (hbox) (a2 ((by rw [hg]; exact (qAf (by repeat ((exact HB.o)))) : w.heap.size ≤ af)) (a2 ((by rw [hg]; exact Nat.ne_of_lt (qAt (g := aW) (o := .cells #[.slice (some bC) l0_0.length a5, .slice ag l0_1.length a6, .int .i64 a0_2] 47 (0, 0)) (by exact aE.o)) : aW ≠ af)) (a2 ((by rw [hg]; exact Nat.ne_of_lt (qAt (g := aN) (o := .cells #[.slice none 0 0, .slice none 0 0] 135 (0, 0)) (by exact aH.o)) : aN ≠ af)) (am ((by rw [hg]; exact Nat.ne_of_lt (qAt (g := aR) (o := .cells #[aJ, a4] 135 (0, 0)) (by exact aD.o)) : aR ≠ af)))))))))))); clear aC aM aE aH aD HB; obtain ⟨aC, aM, aE, aH, aD, HB, av, bY, ah, ai, ae⟩ := n_; clear hb hbox hg; have cx := ae.o; obtain ⟨cQ, cR⟩ := c2_ dA av.o; obtain ⟨ca, cc⟩ := z2_ av.o; have cv := bA.o; have cy := ac.o; have cw := bB.o; have cz := ad.o; obtain ⟨-, cS⟩ := c2_ dA aD.o; have cd := qAg aD.o 1) | ((with_reducible refine qCf (b := .append) (xs := #[.tmp 37, .tmp 40]) rfl ?_); at_builtin; refine Kd.R_append (Kd.int .i64) (w0 := w) w.heap.size rfl (.tmp 37) (.tmp 40) 72 3 (.int .i64 0) 8 rfl Try.underlying72 info3 rfl (by decide) (by omega) a4 aQ ((qBm l0_0 aT).f0) [.int .i64 ((qBm l0_0 aT).f0)] (fun _ => True) (fun _ => False) rfl (by (go_simp; done)) ?aP (fun _ hk => hk.elim) ?aF ?aO ?aB ?aS ?aL ?_; (case aP => exact rfl); (case aB => exact (by repeat ((with_reducible first | exact HB.o | refine qAs ?_ bY.o)))); (case aF => exact (fun _ _ => trivial)); (case aO => exact (by exact Kd.R_mono (Kd.R_far (p := ⟨af, 1, none⟩) (Kd.R_far (p := ⟨af, 0, none⟩) (Kd.R_types aM.o av.o (by decide)) (fun _ hk => hk.2) (.int .i64 ((qBm l0_0 aT).f0))) (fun _ hk => hk.2) (.int .u64 ((qBm l0_0 aT).f1))) (fun _ hk => trivial))); (case aS => exact (qAf (by repeat ((with_reducible first | exact HB.o | refine qAs ?_ bY.o))))); (case aL => have := bw.o; omega); intro dJ dL ho hb hg cL; rw [← cA.o] at ho; have n_ := a2 (Kd.S_after (ok := (fun _ => True)) (by exact Kd.S_mono (Kd.S_far (p := ⟨af, 1, none⟩) (Kd.S_far (p := ⟨af, 0, none⟩) (Kd.S_types aC.o av.o (by decide)) (fun _ hk => hk.2) (.int .i64 ((qBm l0_0 aT).f0))) (fun _ hk => hk.2) (.int .u64 ((qBm l0_0 aT).f1))) (fun _ hk => ⟨trivial, hk.1⟩)) hg cL) (a2 (qA6 (g := aW) (o := .cells #[.slice (some bC) l0_0.length a5, .slice ag l0_1.length a6, .int .i64 a0_2] 47 (0, 0)) (by refine qAu ?_ ah.o _; refine qAu ?_ ah.o _; exact aE.o) hg (Kd.R_ne aM.o aE.o (by decide))) (a2 (qA6 (g := aN) (o := .cells #[.slice none 0 0, .slice none 0 0] 135 (0, 0)) (by refine qAu ?_ ai.o _; refine qAu ?_ ai.o _; exact aH.o) hg (Kd.R_ne aM.o aH.o (by decide))) (a2 (qA6 (g := aR) (o := .cells #[aJ, a4] 135 (0, 0)) (by refine qAu ?_ ae.o _; refine qAu ?_ ae.o _; exact aD.o) hg (Kd.R_ne aM.o aD.o (by decide))) (a2 (hb) (am (ho)))))); clear aC aE aH aD av HB aM; obtain ⟨aC, aE, aH, aD, HB, b0⟩ := n_; clear ho hb hg cL; obtain ⟨b2, b4, cl⟩ := Kd.R_slice b0.o; subst cl; obtain ⟨-, cT⟩ := c2_ dL aD.o; have ce := qAg aD.o 1))
      go_roundg k2
      case measure => have := cG.o; have := cq.o; omega
      case rel => exact ⟨(wrap64 (aT + 1)), (bF), (.slice b2 bF.length b4), (by (rfl)), H', ⟨by have := cG.o; have := cq.o; omega⟩, ⟨by exact Kd.S_mono (Kd.S_far (p := ⟨aR, 1, none⟩) (Kd.S_types aC.o aD.o (by decide)) (fun _ hk => hk.2) (.slice b2 bF.length b4)) (fun _ hk => hk.1.2)⟩, ⟨by exact Kd.R_mono (Kd.R_far (p := ⟨aR, 1, none⟩) (Kd.R_types b0.o aD.o (by decide)) (fun _ hk => hk.2) (.slice b2 bF.length b4)) (fun _ hk => trivial)⟩, ⟨by refine qAu ?_ ac.o _; exact aE.o⟩, ⟨by refine qAu ?_ ad.o _; exact aH.o⟩, ⟨by refine qAx (cs := #[aJ, a4]) ?_ 1 _ rfl; exact aD.o⟩, ⟨by repeat ((with_reducible first | exact HB.o | refine qAs ?_ bX.o))⟩⟩
   rw [if_pos c8] at H
   replace c8 := d1 c8
   obtain ⟨c9, H⟩ := gd H
   replace c9 := d1 c9
   obtain ⟨c10, H⟩ := gd H
   replace c10 := d1 c10
   replace H := bm H
   obtain ⟨aq, bk, H⟩ := H
   replace H : (if aI.length < 4398046511104 then (qA2.l0 k1 l0_1 (l0_1.length : Int) (wrap64 (aA + 1)) l0_0 l0_1 a0_2 (aI ++ [(⟨aq, (qAz l0_1 aA).f0.f1⟩ : S74)])) else (none)) = some (r1, r2) := H
   have dD := am bk
   clear bk
   obtain ⟨cH, H⟩ := gd H
   have bu := am cH
   clear cH
   obtain ⟨bW, bD⟩ : ∃ y_ : List (S74), y_ = (aI ++ [(⟨aq, (qAz l0_1 aA).f0.f1⟩ : S74)]) := ⟨_, rfl⟩
   replace H : (qA2.l0 k1 l0_1 (l0_1.length : Int) (wrap64 (aA + 1)) l0_0 l0_1 a0_2 bW) = some (r1, r2) := by (rw [bD]; with_reducible exact H)
   have bz := am bD
   clear bD
   have H' := am H
   clear H
   have bc : 0 ≤ (aA : Int) := of_decide_eq_true (by (with_reducible assumption))
   have bg : aA < (l0_1.length : Int) := of_decide_eq_true (by (with_reducible assumption))
   obtain ⟨aw, aU, aV, aX, aY, aZ, a3, ch, aj, ak, al, an, az, ay, bS, bQ, bT, bR⟩ := at_T77 bs.o aA bc bg
   cases ch
   replace aj := (HB.o.cell (World.block_lt_of_cell? w _ aj)).trans aj
   replace ak := (HB.o.cell (World.block_lt_of_cell? w _ ak)).trans ak
   replace al := (HB.o.cell (World.block_lt_of_cell? w _ al)).trans al
   replace an := (HB.o.cell (World.block_lt_of_cell? w _ an)).trans an
   have bI := am ay
   have bH := am az
   clear ay az bQ bS bR bT
   replace bc := eq_true bc
   replace bg := eq_true bg
   try go_wp2_with (((with_reducible refine qAC (N := 5) rfl ?_); refine bx 5 #[.slice none 0 0, .int .i64 0, .slice none 0 0, .slice none 0 0] 77 ?_; intro aG hg b1 hbox hb; have n_ := a2 (Kd.S_below (by exact aC.o) hb) (a2 (qAe (g := aW) (o := .cells #[.slice ab l0_0.length a5, .slice (some aw) l0_1.length a6, .int .i64 a0_2] 47 (0, 0)) (by exact aE.o) hb) (a2 (qAe (g := aN) (o := .cells #[.slice none 0 0, .slice none 0 0] 135 (0, 0)) (by exact aH.o) hb) (a2 (qAe (g := aR) (o := .cells #[aJ, .slice none 0 0] 135 (0, 0)) (by exact aD.o) hb) (a2 (qAk (by repeat ((exact HB.o))) hb) (a2 (hbox) (a2 ((by rw [hg]; exact (qAf (by repeat ((exact HB.o)))) : w.heap.size ≤ aG)) (a2 ((by rw [hg]; exact Nat.ne_of_lt (qAt (g := aW) (o := .cells #[.slice ab l0_0.length a5, .slice (some aw) l0_1.length a6, .int .i64 a0_2] 47 (0, 0)) (by exact aE.o)) : aW ≠ aG)) (a2 ((by rw [hg]; exact Nat.ne_of_lt (qAt (g := aN) (o := .cells #[.slice none 0 0, .slice none 0 0] 135 (0, 0)) (by exact aH.o)) : aN ≠ aG)) (am ((by rw [hg]; exact Nat.ne_of_lt (qAt (g := aR) (o := .cells #[aJ, .slice none 0 0] 135 (0, 0)) (by exact aD.o)) : aR ≠ aG))))))))))); clear aC aE aH aD HB; obtain ⟨aC, aE, aH, aD, HB, aK, bq, a7, a8, a9⟩ := n_; clear hb hbox hg; obtain ⟨cM, cN, cO, cP⟩ := c4_ b1 aK.o; obtain ⟨cY, cZ, c0, c1⟩ := z4_ aK.o))
   have n0_ : qAb (Kd.S k74 74 ((((b1.setCell ⟨aG, 0, none⟩ (.slice aU ((qAz l0_1 aA).f0.f0).length aV)).setCell ⟨aG, 1, none⟩ (.int .i64 ((qAz l0_1 aA).f0.f1))).setCell ⟨aG, 2, none⟩ (.slice aX ((qAz l0_1 aA).f1).length aY)).setCell ⟨aG, 3, none⟩ (.slice aZ ((qAz l0_1 aA).f2).length a3)) w.heap.size (fun _ => True) aJ aI) := ⟨by exact Kd.S_mono (Kd.S_far (p := ⟨aG, 3, none⟩) (Kd.S_far (p := ⟨aG, 2, none⟩) (Kd.S_far (p := ⟨aG, 1, none⟩) (Kd.S_far (p := ⟨aG, 0, none⟩) (Kd.S_types aC.o aK.o (by decide)) (fun _ hk => hk.2) (.slice aU ((qAz l0_1 aA).f0.f0).length aV)) (fun _ hk => hk.2) (.int .i64 ((qAz l0_1 aA).f0.f1))) (fun _ hk => hk.2) (.slice aX ((qAz l0_1 aA).f1).length aY)) (fun _ hk => hk.2) (.slice aZ ((qAz l0_1 aA).f2).length a3)) (fun _ hk => trivial)⟩
   have n1_ : qAb (((((b1.setCell ⟨aG, 0, none⟩ (.slice aU ((qAz l0_1 aA).f0.f0).length aV)).setCell ⟨aG, 1, none⟩ (.int .i64 ((qAz l0_1 aA).f0.f1))).setCell ⟨aG, 2, none⟩ (.slice aX ((qAz l0_1 aA).f1).length aY)).setCell ⟨aG, 3, none⟩ (.slice aZ ((qAz l0_1 aA).f2).length a3)).heap[aW]? = some (.cells #[.slice ab l0_0.length a5, .slice (some aw) l0_1.length a6, .int .i64 a0_2] 47 (0, 0))) := ⟨by refine qAu ?_ a7.o _; refine qAu ?_ a7.o _; refine qAu ?_ a7.o _; refine qAu ?_ a7.o _; exact aE.o⟩
   have n2_ : qAb (((((b1.setCell ⟨aG, 0, none⟩ (.slice aU ((qAz l0_1 aA).f0.f0).length aV)).setCell ⟨aG, 1, none⟩ (.int .i64 ((qAz l0_1 aA).f0.f1))).setCell ⟨aG, 2, none⟩ (.slice aX ((qAz l0_1 aA).f1).length aY)).setCell ⟨aG, 3, none⟩ (.slice aZ ((qAz l0_1 aA).f2).length a3)).heap[aN]? = some (.cells #[.slice none 0 0, .slice none 0 0] 135 (0, 0))) := ⟨by refine qAu ?_ a8.o _; refine qAu ?_ a8.o _; refine qAu ?_ a8.o _; refine qAu ?_ a8.o _; exact aH.o⟩
   have n3_ : qAb (((((b1.setCell ⟨aG, 0, none⟩ (.slice aU ((qAz l0_1 aA).f0.f0).length aV)).setCell ⟨aG, 1, none⟩ (.int .i64 ((qAz l0_1 aA).f0.f1))).setCell ⟨aG, 2, none⟩ (.slice aX ((qAz l0_1 aA).f1).length aY)).setCell ⟨aG, 3, none⟩ (.slice aZ ((qAz l0_1 aA).f2).length a3)).heap[aR]? = some (.cells #[aJ, .slice none 0 0] 135 (0, 0))) := ⟨by refine qAu ?_ a9.o _; refine qAu ?_ a9.o _; refine qAu ?_ a9.o _; refine qAu ?_ a9.o _; exact aD.o⟩
   have n4_ : qAb (((((b1.setCell ⟨aG, 0, none⟩ (.slice aU ((qAz l0_1 aA).f0.f0).length aV)).setCell ⟨aG, 1, none⟩ (.int .i64 ((qAz l0_1 aA).f0.f1))).setCell ⟨aG, 2, none⟩ (.slice aX ((qAz l0_1 aA).f1).length aY)).setCell ⟨aG, 3, none⟩ (.slice aZ ((qAz l0_1 aA).f2).length a3)).heap[aG]? = some (.cells #[.slice aU ((qAz l0_1 aA).f0.f0).length aV, .int .i64 ((qAz l0_1 aA).f0.f1), .slice aX ((qAz l0_1 aA).f1).length aY, .slice aZ ((qAz l0_1 aA).f2).length a3] 77 (0, 0))) := ⟨by refine qAx (cs := #[.slice aU ((qAz l0_1 aA).f0.f0).length aV, .int .i64 ((qAz l0_1 aA).f0.f1), .slice aX ((qAz l0_1 aA).f1).length aY, .slice none 0 0]) ?_ 3 _ rfl; refine qAx (cs := #[.slice aU ((qAz l0_1 aA).f0.f0).length aV, .int .i64 ((qAz l0_1 aA).f0.f1), .slice none 0 0, .slice none 0 0]) ?_ 2 _ rfl; refine qAx (cs := #[.slice aU ((qAz l0_1 aA).f0.f0).length aV, .int .i64 0, .slice none 0 0, .slice none 0 0]) ?_ 1 _ rfl; refine qAx (cs := #[.slice none 0 0, .int .i64 0, .slice none 0 0, .slice none 0 0]) ?_ 0 _ rfl; exact aK.o⟩
   have n5_ : qAb (Below w.heap.size w ((((b1.setCell ⟨aG, 0, none⟩ (.slice aU ((qAz l0_1 aA).f0.f0).length aV)).setCell ⟨aG, 1, none⟩ (.int .i64 ((qAz l0_1 aA).f0.f1))).setCell ⟨aG, 2, none⟩ (.slice aX ((qAz l0_1 aA).f1).length aY)).setCell ⟨aG, 3, none⟩ (.slice aZ ((qAz l0_1 aA).f2).length a3))) := ⟨by repeat ((with_reducible first | exact HB.o | refine qAs ?_ bq.o))⟩
   (try clear aC)
   (try clear aE)
   (try clear aH)
   (try clear aD)
   (try clear aK)
   (try clear HB)
   generalize ((((b1.setCell ⟨aG, 0, none⟩ (.slice aU ((qAz l0_1 aA).f0.f0).length aV)).setCell ⟨aG, 1, none⟩ (.int .i64 ((qAz l0_1 aA).f0.f1))).setCell ⟨aG, 2, none⟩ (.slice aX ((qAz l0_1 aA).f1).length aY)).setCell ⟨aG, 3, none⟩ (.slice aZ ((qAz l0_1 aA).f2).length a3)) = dK at n0_ n1_ n2_ n3_ n4_ n5_ ⊢
   have aC := n0_
   have aE := n1_
   have aH := n2_
   have aD := n3_
   have aK := n4_
   have HB := n5_
   clear n0_ n1_ n2_ n3_ n4_ n5_
   have n_ := a2 (Kd.S_drew aC.o) (a2 (qBg aE.o) (a2 (qBg aH.o) (a2 (qBg aD.o) (a2 (qBg aK.o) (am (qAL HB.o))))))
   clear aC aE aH aD aK HB
   obtain ⟨aC, aE, aH, aD, aK, HB⟩ := n_
   refine start_ (n := 14) (S := fun w' => w'.cell? ⟨aR, 0, none⟩ = some (aJ) ∧ w'.cell? ⟨aR, 1, none⟩ = some (.slice none 0 0) ∧ w'.cell? ⟨aG, 0, none⟩ = some (.slice aU ((qAz l0_1 aA).f0.f0).length aV) ∧ w'.cell? ⟨aG, 1, none⟩ = some (.int .i64 ((qAz l0_1 aA).f0.f1)) ∧ w'.cell? ⟨aG, 2, none⟩ = some (.slice aX ((qAz l0_1 aA).f1).length aY) ∧ w'.cell? ⟨aG, 3, none⟩ = some (.slice aZ ((qAz l0_1 aA).f2).length a3)) (ds := [13]) (mK 14 0) (by kernel_rfl) rfl rfl ⟨(qAa aD.o 0).trans rfl, (qAa aD.o 1).trans rfl, (qAa aK.o 0).trans rfl, (qAa aK.o 1).trans rfl, (qAa aK.o 2).trans rfl, (qAa aK.o 3).trans rfl⟩ (fun hHeld => ?_); refine qCz qA2.tab5 qA2.bits5 (fun HT_ HW_ => ?_)
   generalize dK.drew = dM at aC aE aH aD aK HB hHeld ⊢
   refine pu 0 15 (mK 14 1) (qAR HT_.o (by kernel_rfl)) ?_
   refine pu 2 17 (mK 14 5) (qAR HT_.o (by kernel_rfl)) ?_
   refine pu 3 18 (mK 14 13) (qAR HT_.o (by kernel_rfl)) ?_
   refine pu 6 21 (mK 14 77) (qAR HT_.o (by kernel_rfl)) ?_
   refine pu 7 22 (mK 14 205) (qAR HT_.o (by kernel_rfl)) ?_
   refine tk 1 16 (mK 14 207) (qBk HT_.o HW_.o (by kernel_rfl)) hHeld ?_
   refine tk 4 19 (mK 14 223) (qBk HT_.o HW_.o (by kernel_rfl)) hHeld ?_
   refine tk 8 23 (mK 14 479) (qBk HT_.o HW_.o (by kernel_rfl)) hHeld ?_
   refine one_ (i := 5) (N := some 20) (mK 14 511) rfl rfl (qBv HT_.o (by kernel_rfl)) (by decide) (fun K hK => ?_)
   refine goes_ Try.func105 (by kernel_rfl) rfl #[.slice aU ((qAz l0_1 aA).f0.f0).length aV] (by rfl) rfl rfl (by (try simp only [List.map_toArray, List.map_cons, List.map_nil]); (rfl)) ?_
   with_reducible refine (qBc.calls _ _ ((qAz l0_1 aA).f0.f0) aq _ ?side1 ?side2 dD.o).mono ?_
   (case side1 => repeat ((exact (Kd.C_below bI.o HB.o))))
   (case side2 => exact bH.o)
   rintro e dN ⟨dH, rfl, co, hb⟩
   refine ⟨_, rfl, ?_⟩
   have n_ := a2 (Kd.S_elder' (by exact aC.o) (Kd.R_base co) hb) (a2 (Kd.R_lower co (qAf (by repeat ((exact HB.o))))) (a2 (qAe (g := aW) (o := .cells #[.slice ab l0_0.length a5, .slice (some aw) l0_1.length a6, .int .i64 a0_2] 47 (0, 0)) (by exact aE.o) hb) (a2 (qAe (g := aN) (o := .cells #[.slice none 0 0, .slice none 0 0] 135 (0, 0)) (by exact aH.o) hb) (a2 (qAe (g := aR) (o := .cells #[aJ, .slice none 0 0] 135 (0, 0)) (by exact aD.o) hb) (a2 (qAe (g := aG) (o := .cells #[.slice aU ((qAz l0_1 aA).f0.f0).length aV, .int .i64 ((qAz l0_1 aA).f0.f1), .slice aX ((qAz l0_1 aA).f1).length aY, .slice aZ ((qAz l0_1 aA).f2).length a3] 77 (0, 0)) (by exact aK.o) hb) (am (qAk (by repeat ((exact HB.o))) hb)))))))
   clear aC aE aH aD aK HB
   obtain ⟨aC, ax, aE, aH, aD, aK, HB⟩ := n_
   (try clear hb)
   (skip)
   (skip)
   (skip)
   (try clear co)
   obtain ⟨bl, cD, cj⟩ := Kd.R_slice ax.o
   ((subst cj))
   refine hK.o _ _ ⟨(qAa aD.o 0).trans rfl, (qAa aD.o 1).trans rfl, (qAa aK.o 0).trans rfl, (qAa aK.o 1).trans rfl, (qAa aK.o 2).trans rfl, (qAa aK.o 3).trans rfl⟩ (fun hHeld => ?_)
   clear hK K
   refine nm ?_
   refine pu 9 24 (mK 14 1023) (qAR HT_.o (by kernel_rfl)) ?_
   refine one_ (i := 10) (N := some 25) (mK 14 2047) rfl rfl (qBv HT_.o (by kernel_rfl)) (by decide) (fun K hK => ?_)
   refine value_ (w1 := ?_) (v := ?_) (by rfl) rfl ?_ ?_
   rotate_left 2
   ·go_simp
    constructor
    ·rfl
    rfl
   refine hK.o _ _ ⟨(qAa (qAG aD.o _) 0).trans rfl, (qAa (qAG aD.o _) 1).trans rfl, (qAa (qAG aK.o _) 0).trans rfl, (qAa (qAG aK.o _) 1).trans rfl, (qAa (qAG aK.o _) 2).trans rfl, (qAa (qAG aK.o _) 3).trans rfl⟩ (fun hHeld => ?_)
   clear hK K
   refine nm ?_
   refine one_ (i := 11) (N := some 26) (mK 14 4095) rfl rfl (qBv HT_.o (by kernel_rfl)) (by decide) (fun K hK => ?_)
   refine Kd.S_append_step k74 (w0 := w) w.heap.size (by rfl) (.tmp 16) (.tmp 25) 133 74 (.agg #[(.slice none 0 0), (.int .i64 0)]) 32 rfl Try.underlying133 info74 rfl (by decide) (by omega) aJ aI (⟨aq, (qAz l0_1 aA).f0.f1⟩ : S74) [.slice bl aq.length cD, .int .i64 ((qAz l0_1 aA).f0.f1)] (fun _ => True) (fun k_ => some k_ = (.slice bl aq.length cD : Value).ownBlock) rfl rfl ?aP (fun k_ hk_ => ((Kd.R_mono (ok' := fun k_ => ((fun _ => True)) k_ ∧ some k_ ≠ (aJ : Value).ownBlock) (Kd.R_apart' (ax.o) (Kd.S_typed aC.o) (by decide)) (fun k_ hk => ⟨trivial, hk.2⟩))).1 k_ hk_.symm) ?aF ?aO ?aB ?aS ?aL ?_
   (case aP => exact k74_mkM _ _ _ (⟨aq, (qAz l0_1 aA).f0.f1⟩ : S74) (Kd.R_mono (Kd.R_tight rfl (Kd.R_mono (ok' := fun k_ => ((fun _ => True)) k_ ∧ some k_ ≠ (aJ : Value).ownBlock) (Kd.R_apart' (ax.o) (Kd.S_typed aC.o) (by decide)) (fun k_ hk => ⟨trivial, hk.2⟩))) (fun _ h_ => h_)))
   (case aB => exact (by repeat ((exact HB.o))))
   (case aF => exact (fun _ _ => trivial))
   (case aO => exact (by exact Kd.S_mono aC.o (fun k_ hk => ⟨trivial, fun e_ => hk.2 e_⟩)))
   (case aS => exact (qAf (by repeat ((exact HB.o)))))
   (case aL => have := bu.o; omega)
   intro dI dO ho hb hg cL
   rw [← bz.o] at ho
   have n_ := a2 (qA6 (g := aW) (o := .cells #[.slice ab l0_0.length a5, .slice (some aw) l0_1.length a6, .int .i64 a0_2] 47 (0, 0)) (by exact aE.o) hg (Kd.S_ne aC.o aE.o (by decide))) (a2 (qA6 (g := aN) (o := .cells #[.slice none 0 0, .slice none 0 0] 135 (0, 0)) (by exact aH.o) hg (Kd.S_ne aC.o aH.o (by decide))) (a2 (qA6 (g := aR) (o := .cells #[aJ, .slice none 0 0] 135 (0, 0)) (by exact aD.o) hg (Kd.S_ne aC.o aD.o (by decide))) (a2 (qA6 (g := aG) (o := .cells #[.slice aU ((qAz l0_1 aA).f0.f0).length aV, .int .i64 ((qAz l0_1 aA).f0.f1), .slice aX ((qAz l0_1 aA).f1).length aY, .slice aZ ((qAz l0_1 aA).f2).length a3] 77 (0, 0)) (by exact aK.o) hg (Kd.S_ne aC.o aK.o (by decide))) (a2 (hb) (am (ho))))))
   clear aE aH aD aK HB aC ax
   obtain ⟨aE, aH, aD, aK, HB, bZ⟩ := n_
   clear ho hb hg cL
   obtain ⟨bo, cE, ck⟩ := Kd.S_slice bZ.o
   ((subst ck))
   refine hK.o _ _ ⟨(qAa aD.o 0).trans rfl, (qAa aD.o 1).trans rfl, (qAa aK.o 0).trans rfl, (qAa aK.o 1).trans rfl, (qAa aK.o 2).trans rfl, (qAa aK.o 3).trans rfl⟩ (fun hHeld => ?_)
   clear hK K
   refine nm ?_
   refine pu 12 27 (mK 14 8191) (qAR HT_.o (by kernel_rfl)) ?_
   refine last_ (i := 13) (N := none) (mK 14 16383) rfl rfl (qBv HT_.o (by kernel_rfl)) (by decide) (fun K hK => ?_)
   have hfs24 := qAg aD.o 0
   refine skip_ (w1 := ?_) (by rfl) rfl ?_ ?_
   rotate_left
   ·go_simp
    rfl
   refine hK.o _ _ ?_
   clear hK K
   refine done_ (qD1 HT_.o (by kernel_rfl)) ?_
   try go_wp2
   go_roundg k1
   case measure => have := cG.o; omega
   case rel => exact ⟨(wrap64 (aA + 1)), (bW), (.slice bo bW.length cE), (by (rfl)), H', ⟨by have := cG.o; omega⟩, ⟨by exact Kd.S_mono (Kd.S_far (p := ⟨aR, 0, none⟩) (Kd.S_types bZ.o aD.o (by decide)) (fun _ hk => hk.2) (.slice bo bW.length cE)) (fun _ hk => trivial)⟩, ⟨by refine qAu ?_ ac.o _; exact aE.o⟩, ⟨by refine qAu ?_ ad.o _; exact aH.o⟩, ⟨by refine qAx (cs := #[aJ, .slice none 0 0]) ?_ 0 _ rfl; exact aD.o⟩, ⟨by repeat ((with_reducible first | exact HB.o | refine qAs ?_ bX.o))⟩⟩
end Q
end
section
namespace Q
open Go.RowKit YA YC YB
open Val Ins
theorem heapFn : Kd.Heap k77 := by
 refine Kd.heap_iso _ (Kd.heap_pair (Kd.heap_iso _ (Kd.heap_pair (Kd.heap_slice _ (Kd.heap_int _)) (Kd.heap_int _))) (Kd.heap_pair (Kd.heap_slice _ (Kd.heap_int _)) (Kd.heap_slice _ ?_)))
 exact Kd.heap_iso _ (Kd.heap_pair (Kd.heap_int _) (Kd.heap_pair (Kd.heap_int _) (Kd.heap_iso _ (Kd.heap_pair (Kd.heap_int _) (Kd.heap_int _)))))
theorem fn_F {W : World} {okF : Nat → Prop} {A : Option Addr} {n : Nat} {fs : List S77} (hF : Kd.F k77 W okF A n fs) (i : Int) (h0 : 0 ≤ i) (h1 : i < n) :
  ∃ ad D1 d1 D2 d2 D3 d3, A = some ad ∧ W.cell? (ad.add (i.toNat * 4)) = some (.slice D1 (qAz fs i).f0.f0.length d1) ∧ W.cell? ⟨(ad.add (i.toNat * 4)).block, (ad.add (i.toNat * 4)).off + 1, none⟩ = some (.int .i64 (qAz fs i).f0.f1) ∧ W.cell? ⟨(ad.add (i.toNat * 4)).block, (ad.add (i.toNat * 4)).off + 2, none⟩ = some (.slice D2 (qAz fs i).f1.length d2) ∧ W.cell? ⟨(ad.add (i.toNat * 4)).block, (ad.add (i.toNat * 4)).off + 3, none⟩ = some (.slice D3 (qAz fs i).f2.length d3) ∧ (qAz fs i).f0.f0.length ≤ d1 ∧ (qAz fs i).f1.length ≤ d2 ∧ Kd.F (Kd.int .i64) W okF D1 (qAz fs i).f0.f0.length (qAz fs i).f0.f0 ∧ Kd.F (Kd.int .i64) W okF D2 (qAz fs i).f1.length (qAz fs i).f1 ∧ Kd.F k115 W okF D3 (qAz fs i).f2.length (qAz fs i).f2 := by
 obtain ⟨ad, c, rfl, hcl, hK, hcc0, hok⟩ := Kd.F_get hF z77 i h0 h1
 have hcc : ∀ j u, c[j]? = some u → W.cell? (ad.add (i.toNat * 4 + j)) = some u := hcc0
 obtain ⟨D1, d1, D2, d2, D3, d3, hcs, hd1, _, hd2, _, _, _⟩ := qDT (Kd.FK_now hK)
 subst hcs
 refine ⟨ad, D1, d1, D2, d2, D3, d3, rfl, hcc 0 _ rfl, by rw [← qAM _ _ 1 (by omega)]; exact hcc 1 _ rfl, by rw [← qAM _ _ 2 (by omega)]; exact hcc 2 _ rfl, by rw [← qAM _ _ 3 (by omega)]; exact hcc 3 _ rfl, hd1, hd2, fun W' hW => ?_, fun W' hW => ?_, fun W' hW => ?_⟩
 all_goals
  obtain ⟨D1', d1', D2', d2', D3', d3', hcs', _, hC1, _, hC2, _, hC3⟩ := qDT (hK W' hW)
  simp only [List.cons.injEq, Value.slice.injEq] at hcs'
 ·rw [hcs'.1.1]; exact hC1
 ·rw [hcs'.2.2.1.1]; exact hC2
 ·rw [hcs'.2.2.2.1.1]; exact hC3
def qDi (fs : List S74) (vs : List Int) : List S77 → Int
 | [] => 0
 | f :: l => if (qB2 f.f0.f0 f.f0.f1 f.f1 f.f2 fs vs).2.2 = 0 then qDi fs vs l else (qB2 f.f0.f0 f.f0.f1 f.f1 f.f2 fs vs).2.2
theorem qEd (fs : List S74) (vs : List Int) (f : S77) (l : List S77) : qDi fs vs (f :: l) = if (qB2 f.f0.f0 f.f0.f1 f.f1 f.f2 fs vs).2.2 = 0 then qDi fs vs l else (qB2 f.f0.f0 f.f0.f1 f.f1 f.f2 fs vs).2.2 := rfl
def qAV (vars : List S69) (fns : List S77) (main : Int) : Int :=
 if 2048 < vars.length ∨ 2048 < fns.length then 3
 else if (vars.any fun x => !okVS x) = true ∨ main < 0 ∨ (fns.length : Int) ≤ main then 53
 else if 0 < (qAz fns main).f0.f0.length ∨ (qAz fns main).f0.f1 ≠ 1 then 53
 else qDi (fns.map S77.f0) (vars.map S69.f0) fns
def fnSz (f : S77) : Bool := decide (f.f0.f0.length ≤ 2000000) && decide (f.f1.length ≤ 2000000) && decide (f.f2.length ≤ 2000000) && f.f2.all u64S
theorem qD2 {f : S77} (h : fnSz f = true) : f.f0.f0.length ≤ 2000000 ∧ f.f1.length ≤ 2000000 ∧ f.f2.length ≤ 2000000 ∧ ∀ x ∈ f.f2, u64S x = true := by
 unfold fnSz at h
 simp only [Bool.and_eq_true, decide_eq_true_eq, List.all_eq_true] at h
 exact ⟨h.1.1.1, h.1.1.2, h.1.2, h.2⟩
theorem frame_l1 (vars : List S69) (hv : vars.length ≤ 2000000) (fs : List S74) : ∀ (m j : Nat) (acc : List Int), vars.length - j = m → j ≤ vars.length → acc.length = j → ∃ k, qA2.l1 k vars (vars.length : Int) (j : Int) fs acc = some (fs, acc ++ (vars.drop j).map S69.f0)
 | 0, j, acc, hm, hj, ha => by
  refine ⟨1, ?_⟩
  have e : j = vars.length := by omega
  subst e
  unfold qA2.l1
  rw [if_neg (by omega), List.drop_of_length_le (Nat.le_refl _)]
  simp
 | m + 1, j, acc, hm, hj, ha => by
  obtain ⟨k, hk⟩ := frame_l1 vars hv fs m (j + 1) (acc ++ [(qBm vars (j : Int)).f0]) (by omega) (by omega) (by simp [ha])
  refine ⟨k + 1, ?_⟩
  unfold qA2.l1
  have hw : wrap64 ((j : Int) + 1) = ((j + 1 : Nat) : Int) := by
   unfold wrap64
   omega
  rw [if_pos (by omega), if_pos (by omega), if_pos (by omega), if_pos (by omega), hw, hk]
  have hd : vars.drop j = qBm vars (j : Int) :: vars.drop (j + 1) := by
   rw [List.drop_eq_getElem_cons (by omega)]
   congr 1
   unfold qBm
   rw [List.getD_eq_getElem?_getD, Int.toNat_natCast, List.getElem?_eq_getElem (by omega)]
   rfl
  rw [hd]
  simp
theorem frame_l0 (vars : List S69) (hv : vars.length ≤ 2000000) (fns : List S77) (hn : fns.length ≤ 2000000) (hs : ∀ f ∈ fns, f.f0.f0.length ≤ 2000000) (main : Int) : ∀ (m j : Nat) (acc : List S74), fns.length - j = m → j ≤ fns.length → acc.length = j → ∃ k, qA2.l0 k fns (fns.length : Int) (j : Int) vars fns main acc = some (acc ++ (fns.drop j).map S77.f0, vars.map S69.f0)
 | 0, j, acc, hm, hj, ha => by
  have e : j = fns.length := by omega
  subst e
  obtain ⟨k, hk⟩ := frame_l1 vars hv acc vars.length 0 [] (by simp) (Nat.zero_le _) rfl
  refine ⟨k + 1, ?_⟩
  unfold qA2.l0
  rw [if_neg (by omega), List.drop_of_length_le (Nat.le_refl _)]
  simpa using hk
 | m + 1, j, acc, hm, hj, ha => by
  have hd : fns.drop j = qAz fns (j : Int) :: fns.drop (j + 1) := by
   rw [List.drop_eq_getElem_cons (by omega)]
   congr 1
   unfold qAz
   rw [List.getD_eq_getElem?_getD, Int.toNat_natCast, List.getElem?_eq_getElem (by omega)]
   rfl
  have hmem : qAz fns (j : Int) ∈ fns := List.mem_of_mem_drop (hd ▸ List.mem_cons_self .. : qAz fns (j : Int) ∈ fns.drop j)
  obtain ⟨k, hk⟩ := frame_l0 vars hv fns hn hs main m (j + 1) (acc ++ [⟨(qAz fns (j : Int)).f0.f0, (qAz fns (j : Int)).f0.f1⟩]) (by omega) (by omega) (by simp [ha])
  refine ⟨k + 1, ?_⟩
  unfold qA2.l0
  have hw : wrap64 ((j : Int) + 1) = ((j + 1 : Nat) : Int) := by
   unfold wrap64
   omega
  rw [if_pos (by omega), if_pos (by omega), if_pos (by omega)]
  rw [show qBc.f (qAz fns (j : Int)).f0.f0 = some (qAz fns (j : Int)).f0.f0 from if_pos (hs _ hmem), Option.bind_some, if_pos (by omega), hw, hk, hd]
  simp
theorem frame_ev (vars : List S69) (hv : vars.length ≤ 2000000) (fns : List S77) (hn : fns.length ≤ 2000000) (hs : ∀ f ∈ fns, f.f0.f0.length ≤ 2000000) (main : Int) : ∃ k, qA2.f k vars fns main = some (fns.map S77.f0, vars.map S69.f0) := by
 obtain ⟨k, hk⟩ := frame_l0 vars hv fns hn hs main fns.length 0 [] (by simp) (Nat.zero_le _) rfl
 exact ⟨k, by simpa [qA2.f] using hk⟩
theorem imgRight_any {W : World} (A0 A1 : Option Addr) (c0 c1 : Nat) (vars : List S69) (fns : List S77) (main : Int) (hr0 : Kd.C k69 W A0 vars.length vars) (hr1 : Kd.C k77 W A1 fns.length fns) (hc0 : vars.length ≤ c0) (hc1 : fns.length ≤ c1) (hu : ∀ x ∈ vars, u64V x = true) (hf : ∀ f ∈ fns, fnSz f = true) (hv0 : vars.length ≤ 4611686018427387904) (hv1 : fns.length ≤ 4611686018427387904) :
  Calls Try.prog 17 #[.agg #[.slice A0 vars.length c0, .slice A1 fns.length c1, .int .i64 main]] W fun e w' => e = .returned (.int .i64 (qAV vars fns main)) ∧ Below W.heap.size W w' := by
 have hF := Kd.C_F heapFn hr1
 obtain ⟨W0, hW0⟩ : ∃ W0, W0 = W.alloc (.cells #[.slice A0 vars.length c0, .slice A1 fns.length c1, .int .i64 main] 47) := ⟨_, rfl⟩
 have hB0 : Below W.heap.size W W0 := hW0 ▸ qAi (Below.refl _ _) _
 have b0 : W0.heap[W.heap.size]? = some (.cells #[.slice A0 vars.length c0, .slice A1 fns.length c1, .int .i64 main] 47 (0, 0)) := by rw [hW0]; exact qAU W _
 have hHV := fun W' (hW' : Below W.heap.size W W') => has_vals A0 c0 vars W' (Kd.C_below hr0 hW') hv0 hu
 have hFR : ∀ W', Below W.heap.size W W' → vars.length ≤ 2000000 → fns.length ≤ 2000000 → Calls Try.prog 61 #[.agg #[.slice A0 vars.length c0, .slice A1 fns.length c1, .int .i64 main]] W' fun e w' => ∃ v0_ v1_ : Value, e = .returned (.agg #[v0_, v1_]) ∧ Kd.S k74 74 w' W'.heap.size (fun k_ => some k_ ≠ (v1_ : Value).ownBlock) v0_ (fns.map S77.f0) ∧ Kd.R (Kd.int .i64) 3 w' W'.heap.size (fun _ => True) v1_ (vars.map S69.f0) ∧ Below W'.heap.size W' w' := fun W' hW' h0 h1 => by
  obtain ⟨k, hk⟩ := frame_ev vars h0 fns h1 (fun f hm => (qD2 (hf f hm)).1) main
  exact qA2.calls k A0 c0 vars A1 c1 fns main _ _ W' (Kd.C_below hr0 hW') hc0 (Kd.C_below hr1 hW') hc1 hk
 obtain ⟨rr, hrr⟩ : ∃ rr, rr = qAV vars fns main := ⟨_, rfl⟩
 rw [← hrr]
 unfold qAV at hrr
 obtain ⟨ba, hba⟩ : ∃ q, q = (vars.any fun x => !okVS x) := ⟨_, rfl⟩
 rw [← hba] at hHV hrr
 obtain ⟨n0, hn0⟩ : ∃ q, q = vars.length := ⟨_, rfl⟩
 obtain ⟨n1, hn1⟩ : ∃ q, q = fns.length := ⟨_, rfl⟩
 rw [← hn0] at hHV
 rw [← hn0, ← hn1] at hW0 b0 hFR hrr ⊢
 have HW0 := am hW0
 have HB0 := am hB0
 have HHV := am hHV
 have HFR := am hFR
 rw [← hn1] at hF
 have HF := am hF
 have HS := am hrr
 have HN0 := am hn0
 have HN1 := am hn1
 have HSZ := am hf
 have e0 := (qAa b0 0).trans rfl
 have e1 := (qAa b0 1).trans rfl
 have e2 := (qAa b0 2).trans rfl
 clear hr0 hr1 hc0 hc1 hu hf hv0 hv1 hF hW0 hB0 hHV hFR hrr hba hn0 hn1
 by_cases hA : 2048 < n0 ∨ 2048 < n1
 ·have HR : qAb (rr = 3) := ⟨by rw [HS.out, if_pos hA]⟩
  have HBB : qAb (Below W.heap.size W (W.alloc (.cells #[.slice A0 n0 c0, .slice A1 n1 c1, .int .i64 main] 47))) := ⟨qAi (Below.refl _ _) _⟩
  by_cases hA1 : 2048 < n0
  ·have hz1 : (2048 : Int) < (n0 : Int) := by omega
   clear hA
   go_enter Try.func17, Try.ntmps17
   go_wp2
   go_ret
   exact ⟨by rw [HR.out]; rfl, HBB.out⟩
  ·have hz1 : ¬ (2048 : Int) < (n0 : Int) := by omega
   have hz2 : (2048 : Int) < (n1 : Int) := by omega
   clear hA
   go_enter Try.func17, Try.ntmps17
   go_wp2
   go_ret
   exact ⟨by rw [HR.out]; rfl, HBB.out⟩
 have hz1 : ¬ (2048 : Int) < (n0 : Int) := by omega
 have hz2 : ¬ (2048 : Int) < (n1 : Int) := by omega
 have hl0 : n0 ≤ 2048 := by omega
 have hl1 : n1 ≤ 2048 := by omega
 have hrA := HS.out
 rw [if_neg hA] at hrA
 have HRA := am hrA
 clear hrA HS hA
 have HBB : qAb (Below W.heap.size W (W.alloc (.cells #[.slice A0 n0 c0, .slice A1 n1 c1, .int .i64 main] 47))) := ⟨qAi (Below.refl _ _) _⟩
 have HB1' : qAb ((W.alloc (.cells #[.slice A0 n0 c0, .slice A1 n1 c1, .int .i64 main] 47)).heap[W.heap.size]? = some (.cells #[.slice A0 n0 c0, .slice A1 n1 c1, .int .i64 main] 47 (0, 0))) := ⟨qAU W _⟩
 clear e0 e1 e2 b0
 by_cases hB : ba = true ∨ main < 0 ∨ (n1 : Int) ≤ main
 ·have HR : qAb (rr = 53) := ⟨by rw [HRA.out, if_pos hB]⟩
  cases ba with
  | true =>
   clear hB
   go_enter Try.func17, Try.ntmps17
   go_wp2_with (go_at_call 59; refine (HHV.out _ HBB.out).mono ?_; rintro e w1 ⟨rfl, hb1⟩; have HB1 : qAb (Below W.heap.size W w1) := ⟨HBB.out.trans (hb1.mono HBB.out.size)⟩; clear hb1)
   go_ret
   exact ⟨by rw [HR.out]; rfl, HB1.out⟩
  | false =>
   by_cases hm0 : main < 0
   ·clear hB
    go_enter Try.func17, Try.ntmps17
    go_wp2_with (go_at_call 59; refine (HHV.out _ HBB.out).mono ?_; rintro e w1 ⟨rfl, hb1⟩; have HB1 : qAb (Below W.heap.size W w1) := ⟨HBB.out.trans (hb1.mono HBB.out.size)⟩; have d0 := qAe HB1'.out hb1; have x1 := (qAa d0 1).trans rfl; have x2 := (qAa d0 2).trans rfl; clear hb1)
    go_ret
    exact ⟨by rw [HR.out]; rfl, HB1.out⟩
   have hm1 : (n1 : Int) ≤ main := by rcases hB with h | h | h; cases h; exact absurd h hm0; exact h
   clear hB
   go_enter Try.func17, Try.ntmps17
   go_wp2_with (go_at_call 59; refine (HHV.out _ HBB.out).mono ?_; rintro e w1 ⟨rfl, hb1⟩; have HB1 : qAb (Below W.heap.size W w1) := ⟨HBB.out.trans (hb1.mono HBB.out.size)⟩; have d0 := qAe HB1'.out hb1; have x1 := (qAa d0 1).trans rfl; have x2 := (qAa d0 2).trans rfl; clear hb1)
   go_ret
   exact ⟨by rw [HR.out]; rfl, HB1.out⟩
 have hm0 : ¬ main < 0 := fun h => hB (.inr (.inl h))
 have hm1 : ¬ (n1 : Int) ≤ main := fun h => hB (.inr (.inr h))
 have hb0 : ba = false := by cases ba; rfl; exact absurd (.inl rfl) hB
 have hrB := HRA.out
 rw [if_neg hB] at hrB
 have HRB := am hrB
 subst hb0
 clear hrB HRA hB
 obtain ⟨ad, D1, d1, D2, d2, D3, d3, ea, k0, k1, k2, k3, _⟩ := fn_F HF.out main (by omega) (by omega)
 subst ea
 obtain ⟨mf, hmf⟩ : ∃ mf, mf = qAz fns main := ⟨_, rfl⟩
 rw [← hmf] at k0 k1 k2 k3 HRB
 obtain ⟨mp, hmp⟩ : ∃ q, q = mf.f0.f0.length := ⟨_, rfl⟩
 obtain ⟨mr, hmr⟩ : ∃ q, q = mf.f0.f1 := ⟨_, rfl⟩
 rw [← hmp] at k0 HRB
 rw [← hmr] at k1 HRB
 clear hmp hmr hmf k2 k3
 have hl : (ad.add (main.toNat * 4)).block < W.heap.size := World.block_lt_of_cell? _ _ k0
 by_cases hC1 : 0 < mp
 ·have HR : qAb (rr = 53) := ⟨by rw [HRB.out, if_pos (.inl hC1)]⟩
  have hz3 : (0 : Int) < (mp : Int) := by omega
  go_enter Try.func17, Try.ntmps17
  go_wp2_with (go_at_call 59; refine (HHV.out _ HBB.out).mono ?_; rintro e w1 ⟨rfl, hb1⟩; have HB1 : qAb (Below W.heap.size W w1) := ⟨HBB.out.trans (hb1.mono HBB.out.size)⟩; have d0 := qAe HB1'.out hb1; have hlt0 := qAt d0; have x0 := (qAa d0 0).trans rfl; have x1 := (qAa d0 1).trans rfl; have x2 := (qAa d0 2).trans rfl; have g0 := (HB1.out.cell (World.block_lt_of_cell? _ _ k0)).trans k0; have g1 := (HB1.out.cell (World.block_lt_of_cell? _ _ k1)).trans k1; clear hb1)
  go_ret
  exact ⟨by rw [HR.out]; rfl, HB1.out.alloc HB1.out.size _⟩
 by_cases hC2 : mr ≠ 1
 ·have HR : qAb (rr = 53) := ⟨by rw [HRB.out, if_pos (.inr hC2)]⟩
  have hz3 : ¬ (0 : Int) < (mp : Int) := by omega
  have hz4 : (mr != 1) = true := bne_iff_ne.mpr hC2
  go_enter Try.func17, Try.ntmps17
  go_wp2_with (go_at_call 59; refine (HHV.out _ HBB.out).mono ?_; rintro e w1 ⟨rfl, hb1⟩; have HB1 : qAb (Below W.heap.size W w1) := ⟨HBB.out.trans (hb1.mono HBB.out.size)⟩; have d0 := qAe HB1'.out hb1; have hlt0 := qAt d0; have x0 := (qAa d0 0).trans rfl; have x1 := (qAa d0 1).trans rfl; have x2 := (qAa d0 2).trans rfl; have g0 := (HB1.out.cell (World.block_lt_of_cell? _ _ k0)).trans k0; have g1 := (HB1.out.cell (World.block_lt_of_cell? _ _ k1)).trans k1; clear hb1)
  go_ret
  exact ⟨by rw [HR.out]; rfl, HB1.out.alloc HB1.out.size _⟩
 have hz3 : ¬ (0 : Int) < (mp : Int) := by omega
 have hm1' : mr = 1 := Decidable.not_not.1 hC2
 have hz4 : (mr != 1) = false := by rw [hm1']; rfl
 have hrC := HRB.out
 rw [if_neg (by rintro (h | h); exact hC1 h; exact hC2 h)] at hrC
 have HRC := am hrC
 clear hrC HRB hC1 hC2 hm1'
 go_enter Try.func17, Try.ntmps17
 go_wp2_with (first | (go_at_call 59; refine (HHV.out _ HBB.out).mono ?_; rintro e w1 ⟨rfl, hb1⟩; have HB1 : qAb (Below W.heap.size W w1) := ⟨HBB.out.trans (hb1.mono HBB.out.size)⟩; have d0 := qAe HB1'.out hb1; have hlt0 := qAt d0; have x0 := (qAa d0 0).trans rfl; have x1 := (qAa d0 1).trans rfl; have x2 := (qAa d0 2).trans rfl; have g0 := (HB1.out.cell (World.block_lt_of_cell? _ _ k0)).trans k0; have g1 := (HB1.out.cell (World.block_lt_of_cell? _ _ k1)).trans k1; clear hb1) | (go_at_call 61; refine (HFR.out _ (HB1.out.alloc HB1.out.size _) (by omega) (by omega)).mono ?_; rintro e w2 ⟨u0, u1, rfl, hS2, hR2, hb2⟩; have HB2 : qAb (Below W.heap.size W w2) := ⟨(HB1.out.alloc HB1.out.size _).trans (hb2.mono (Nat.le_trans HB1.out.size (by simp)))⟩; have d2 := qAe (qAe d0 (qAi (Below.refl _ _) _)) hb2; have hlt2 := qAt d2; have z1 := (qAa d2 1).trans rfl; obtain ⟨V0, q0, rfl⟩ := Kd.R_slice (Kd.S_R hS2); obtain ⟨V1, q1, rfl⟩ := Kd.R_slice hR2; simp only [List.length_map, ← HN0.out, ← HN1.out] at hS2; simp only [List.length_map, ← HN0.out] at hR2; simp only [List.length_map, ← HN0.out, ← HN1.out]; have HS2 := am hS2; have HR2 := am hR2; clear hS2 hR2 hb2))
 have HFS := am (Kd.F_bound (Kd.S_F HS2.out))
 have HFV := am (Kd.F_bound (Kd.R_F HR2.out))
 obtain ⟨w3, hw3⟩ : ∃ w3, w3 = w2.alloc (.cells #[.slice V0 n1 q0, .slice V1 n0 q1] 135) := ⟨_, rfl⟩
 have d3 : w3.heap[w2.heap.size]? = some (.cells #[.slice V0 n1 q0, .slice V1 n0 q1] 135 (0, 0)) := by rw [hw3]; exact qAU w2 _
 have HB23 : qAb (Below w2.heap.size w2 w3) := ⟨hw3 ▸ qAi (Below.refl _ _) _⟩
 have HB3 : qAb (Below W.heap.size W w3) := ⟨HB2.out.trans (HB23.out.mono HB2.out.size)⟩
 have hlt3 : w2.heap.size < w3.heap.size := qAt d3
 rw [← hw3]
 have HD3 := am d3
 clear hw3 d3 x0 x1 x2 g0 g1 z1 d0 d2 k0 k1
 have hFSl : (fns.map S77.f0).length = n1 := by rw [List.length_map, HN1.out]
 have hFVl : (vars.map S69.f0).length = n0 := by rw [List.length_map, HN0.out]
 have HFSl := am hFSl
 have HFVl := am hFVl
 clear hFSl hFVl
 go_loopg [6, 7, 8, 56] n1 (fun gg _ _ _ s56 wr => ∃ kk : Nat, kk ≤ n1 ∧ n1 - kk ≤ gg ∧ s56 = .int .i64 kk ∧ qAb (qDi (fns.map S77.f0) (vars.map S69.f0) (fns.drop kk) = qDi (fns.map S77.f0) (vars.map S69.f0) fns) ∧ qAb (Below w3.heap.size w3 wr))
 case atStart => exact ⟨0, Nat.zero_le _, by omega, rfl, ⟨rfl⟩, ⟨Below.refl _ _⟩⟩
 case round =>
  obtain ⟨kk, hkk, hg, rfl, HE, HB⟩ := hrel
  have HBW : qAb (Below W.heap.size W wr) := ⟨HB3.out.trans (HB.out.mono HB3.out.size)⟩
  by_cases hlt : kk < n1
  rotate_left
  ·have e0 : n1 = kk := by omega
   subst e0
   have hnot : ¬ (n1 : Int) < (n1 : Int) := by omega
   have HR : qAb (rr = 0) := ⟨by
     have h := HE.out
     rw [List.drop_of_length_le (by have := HN1.out; omega)] at h
     rw [HRC.out, ← h]
     rfl⟩
   go_wp2_with fail
   go_ret
   exact ⟨by rw [HR.out]; rfl, HBW.out⟩
  have hltz : (kk : Int) < (n1 : Int) := by omega
  have h0 : (0 : Int) ≤ (kk : Int) := by omega
  obtain ⟨ad2, D1, d1, D2, d2, D3, d3, ea, k0, k1, k2, k3, hd1, hd2, F1, F2, F3⟩ := fn_F HF.out (kk : Int) h0 hltz
  injection ea with ea
  subst ea
  rw [Int.toNat_natCast] at k0 k1 k2 k3
  have hx : fns[kk]? = some (qAz fns (kk : Int)) := qBE fns z77 kk (by have := HN1.out; omega)
  obtain ⟨x, hxe⟩ : ∃ x, x = qAz fns (kk : Int) := ⟨_, rfl⟩
  rw [← hxe] at k0 k1 k2 k3 hx hd1 hd2 F1 F2 F3
  have hdr : fns.drop kk = x :: fns.drop (kk + 1) := by
   rw [List.drop_eq_getElem_cons (by have := HN1.out; omega)]
   rw [List.getElem?_eq_getElem (by have := HN1.out; omega)] at hx
   injection hx with hx
   rw [hx]
  have hee := HE.out
  rw [hdr, qEd] at hee
  have hxm : x ∈ fns := List.mem_of_getElem? hx
  have hsz := qD2 (HSZ.out x hxm)
  have hVER : ∀ W', Below wr.heap.size wr W' → Calls Try.prog 62 #[.agg #[.slice D1 x.f0.f0.length d1, .int .i64 x.f0.f1, .slice D2 x.f1.length d2, .slice D3 x.f2.length d3], .agg #[.slice V0 (fns.map S77.f0).length q0, .slice V1 (vars.map S69.f0).length q1]] W' fun e w' => e = .returned (.tuple #[.int .i64 (qB2 x.f0.f0 x.f0.f1 x.f1 x.f2 (fns.map S77.f0) (vars.map S69.f0)).2.1, .int .i64 (qB2 x.f0.f0 x.f0.f1 x.f1 x.f2 (fns.map S77.f0) (vars.map S69.f0)).2.2]) ∧ Below W'.heap.size W' w' := fun W' hW' =>
   have hBW : Below W.heap.size W W' := HBW.out.trans (hW'.mono HBW.out.size)
   have hB2 : Below w2.heap.size w2 W' := (HB23.out.trans (HB.out.mono HB23.out.size)).trans (hW'.mono (Nat.le_trans HB23.out.size HB.out.size))
   verify_any (W := W') D1 D2 D3 V0 V1 d1 d2 d3 q0 q1 x.f0.f1 (okF := fun _ => True) (Kd.F_mono (Kd.F_below F1 hBW) (fun _ _ => trivial)) (Kd.F_mono (Kd.F_below F2 hBW) (fun _ _ => trivial)) (Kd.F_mono (Kd.F_below F3 hBW) (fun _ _ => trivial)) (Kd.F_mono (Kd.F_below (by rw [HFSl.out]; exact HFS.out) hB2) (fun _ _ => trivial)) (Kd.F_mono (Kd.F_below (by rw [HFVl.out]; exact HFV.out) hB2) (fun _ _ => trivial)) hd1 hd2 hsz.1 hsz.2.1 (by rw [HFVl.out]; omega) (by rw [HFSl.out]; omega) hsz.2.2.1 (fun s hs => by
     obtain ⟨f, hf, rfl⟩ := List.mem_map.1 hs
     exact (qD2 (HSZ.out f hf)).1) hsz.2.2.2
  obtain ⟨er, her⟩ : ∃ er, er = (qB2 x.f0.f0 x.f0.f1 x.f1 x.f2 (fns.map S77.f0) (vars.map S69.f0)).2.2 := ⟨_, rfl⟩
  obtain ⟨ea, hea⟩ : ∃ er, er = (qB2 x.f0.f0 x.f0.f1 x.f1 x.f2 (fns.map S77.f0) (vars.map S69.f0)).2.1 := ⟨_, rfl⟩
  rw [← her] at hee
  rw [← her, ← hea, HFSl.out, HFVl.out] at hVER
  replace k0 := (HBW.out.cell (World.block_lt_of_cell? W _ k0)).trans k0
  replace k1 := (HBW.out.cell (World.block_lt_of_cell? W _ k1)).trans k1
  replace k2 := (HBW.out.cell (World.block_lt_of_cell? W _ k2)).trans k2
  replace k3 := (HBW.out.cell (World.block_lt_of_cell? W _ k3)).trans k3
  obtain ⟨m1, hm1⟩ : ∃ q, q = x.f0.f0.length := ⟨_, rfl⟩
  obtain ⟨m2, hm2⟩ : ∃ q, q = x.f0.f1 := ⟨_, rfl⟩
  obtain ⟨m3, hm3⟩ : ∃ q, q = x.f1.length := ⟨_, rfl⟩
  obtain ⟨m4, hm4⟩ : ∃ q, q = x.f2.length := ⟨_, rfl⟩
  rw [← hm1, ← hm2, ← hm3, ← hm4] at hVER
  rw [← hm1] at k0
  rw [← hm2] at k1
  rw [← hm3] at k2
  rw [← hm4] at k3
  have hdw := qAe HD3.out HB.out
  have v0 := (qAa hdw 0).trans rfl
  have v1 := (qAa hdw 1).trans rfl
  have hltw := qAt hdw
  have HVER := am hVER
  have HEE := am hee
  clear hx hxe hdr hee hxm hsz hVER her hea hm1 hm2 hm3 hm4 F1 F2 F3 hd1 hd2 hdw
  by_cases he0 : er = 0
  rotate_left
  ·have hq : (er != 0) = true := bne_iff_ne.mpr he0
   have HR : qAb (rr = er) := ⟨by have h := HEE.out; rw [if_neg he0] at h; rw [HRC.out, ← h]⟩
   go_wp2_with (go_at_call 62; refine (HVER.out _ (qAi (Below.refl _ _) _)).mono ?_; rintro e w5 ⟨rfl, hb5⟩; have HB5 : qAb (Below wr.heap.size wr w5) := ⟨(qAi (Below.refl _ _) _).trans (hb5.mono (by simp))⟩; clear hb5)
   go_ret
   exact ⟨by rw [HR.out]; rfl, HBW.out.trans (HB5.out.mono HBW.out.size)⟩
  subst he0
  have HE2 : qAb (qDi (fns.map S77.f0) (vars.map S69.f0) (fns.drop (kk + 1)) = qDi (fns.map S77.f0) (vars.map S69.f0) fns) := ⟨by have h := HEE.out; rw [if_pos (by trivial)] at h; exact h⟩
  go_wp2_with (go_at_call 62; refine (HVER.out _ (qAi (Below.refl _ _) _)).mono ?_; rintro e w5 ⟨rfl, hb5⟩; have HB5 : qAb (Below wr.heap.size wr w5) := ⟨(qAi (Below.refl _ _) _).trans (hb5.mono (by simp))⟩; clear hb5)
  go_roundg (n1 - (kk + 1))
  case measure => omega
  case rel => exact ⟨kk + 1, by omega, by omega, by go_num, HE2, ⟨HB.out.trans (HB5.out.mono HB.out.size)⟩⟩
def qA9.f (l0_0 : List S69) (l0_1 : List S77) (a0_2 : Int) : Option Int :=
 if (l0_0.all u64V && l0_1.all fnSz && decide (l0_0.length ≤ 4611686018427387904) && decide (l0_1.length ≤ 4611686018427387904)) = true then some (qAV l0_0 l0_1 a0_2) else none
theorem qA9.calls (A0_0 : Option Addr) (c0_0 : Nat) (l0_0 : List (S69)) (A0_1 : Option Addr) (c0_1 : Nat) (l0_1 : List (S77)) (a0_2 : Int) (r : Int) (w : World) (hr0_0 : Kd.C k69 w A0_0 l0_0.length l0_0) (hc0_0 : l0_0.length ≤ c0_0) (hr0_1 : Kd.C k77 w A0_1 l0_1.length l0_1) (hc0_1 : l0_1.length ≤ c0_1) (h : qA9.f l0_0 l0_1 a0_2 = some r) :
  Calls Try.prog 17 #[.agg #[.slice A0_0 l0_0.length c0_0, .slice A0_1 l0_1.length c0_1, .int .i64 a0_2]] w fun e w' => e = .returned (.int .i64 r) ∧ Below w.heap.size w w' := by
 unfold qA9.f at h
 split at h
 ·rename_i hs
  injection h with h
  subst h
  simp only [Bool.and_eq_true, decide_eq_true_eq, List.all_eq_true] at hs
  exact imgRight_any A0_0 A0_1 c0_0 c0_1 l0_0 l0_1 a0_2 hr0_0 hr0_1 hc0_0 hc0_1 hs.1.1.1 hs.1.1.2 hs.1.2 hs.2
 ·cases h
end Q
end
section
namespace Q
open Go.RowKit YA YC YB
open Val Ins Wr Enc Wr2
theorem kindsW_any (p : Nat) (A : Option Addr) (c : Nat) (l : List Int) (v : Value) (bs : List Int) (wd w : World) (hk : WK wd p w v bs) (hr : Kd.C (Kd.int .i64) wd A l.length l) (h0 : l.length ≤ 2000000) (hl : bs.length ≤ 300000000) :
  Calls Try.prog 56 #[.pointer (some ⟨p, 0, none⟩), .slice A l.length c] w (qC6 p (bs ++ [(l.length : Int) % 256] ++ byB l) w v) := by
 obtain ⟨n0, hn0⟩ : ∃ n, n = l.length := ⟨_, rfl⟩
 rw [← hn0] at hr h0 ⊢
 have HK := am hk
 have HR0 := am hr
 have HN0 := am hn0
 have HL := am hl
 clear hk hr hn0 hl
 go_enter Try.func56, Try.ntmps56
 go_wp2_with fail
 refine (qB6 p _ v bs w HK.out.st (by have := HL.out; omega)).mono ?_
 rintro e w1 ⟨v1, rfl, hst, hs⟩
 have HK1 := am (HK.out.step hst hs)
 have HS1 := am hs
 clear hst hs
 go_wp2_with fail
 go_loopg [5, 13] n0 (fun gg _ s21 wr => ∃ (kk : Nat) (v' : Value), kk ≤ n0 ∧ n0 - kk ≤ gg ∧ s21 = .int .i64 kk ∧ qAb (WK wd p wr v' (bs ++ [(n0 : Int) % 256] ++ byB (l.take kk))) ∧ qAb (qBx p w v wr v'))
 case atStart => exact ⟨0, v1, Nat.zero_le _, by omega, rfl, ⟨by rw [List.take_zero]; show WK wd p w1 v1 (bs ++ [(n0 : Int) % 256] ++ []); rw [List.append_nil, ← u8w]; exact HK1.out⟩, HS1⟩
 case round =>
  clear HK1 HS1
  obtain ⟨kk, v', hkk, hg, rfl, HK, HS⟩ := hrel
  by_cases hlt : kk < n0
  rotate_left
  ·have hltz : ¬ (kk : Int) < (n0 : Int) := by omega
   rw [show l.take kk = l from List.take_of_length_le (by have := HN0.out; omega)] at HK
   go_wp2_with fail
   go_end0
   exact ⟨v', rfl, by have h := HK.out.st; rwa [List.append_assoc] at h, HS.out⟩
  have hltz : (kk : Int) < (n0 : Int) := by omega
  have h0' : (0 : Int) ≤ (kk : Int) := by omega
  obtain ⟨ad, ea, hx⟩ := Kd.at_int HR0.out (kk : Int) h0' hltz
  subst ea
  rw [Int.toNat_natCast] at hx
  replace hx := (HK.out.below.cell (World.block_lt_of_cell? wd _ hx)).trans hx
  obtain ⟨x, hx0⟩ : ∃ x, x = rd l (kk : Int) := ⟨_, rfl⟩
  rw [← hx0] at hx
  have HX : qAb (l[kk]? = some x) := ⟨by rw [hx0]; exact qBE l 0 kk (by have := HN0.out; omega)⟩
  have HLB : qAb ((bs ++ [(n0 : Int) % 256] ++ byB (l.take kk)).length ≤ 1000000000) := ⟨by have := HL.out; have := HN0.out; simp [byB]; omega⟩
  clear hx0
  go_wp2_with fail
  refine (qB6 p _ v' _ wr HK.out.st HLB.out).mono ?_
  rintro e w2 ⟨v2, rfl, hst, hs⟩
  have HK2 : qAb (WK wd p w2 v2 (bs ++ [(n0 : Int) % 256] ++ byB (l.take (kk + 1)))) := ⟨by
    rw [byB_take l kk x HX.out, ← List.append_assoc, ← u8w]; exact HK.out.step hst hs⟩
  have HS2 := am (HS.out.trans hs)
  clear hst hs
  go_wp2
  go_roundg (n0 - (kk + 1))
  case measure => omega
  case rel => exact ⟨kk + 1, v2, by omega, by omega, by go_num, HK2, HS2⟩
def markV : Value := .agg #[.int .u8 102, .int .u8 105, .int .u8 109, .int .u8 103]
theorem begin_any (w : World) : Calls Try.prog 49 #[] w fun e w' => e = .returned markV ∧ Below w.heap.size w w' := by
 go_enter Try.func49, Try.ntmps49
 go_wp2
 refine bodyPost_ret (results_cell_row rfl _ _ w.heap.size 118 #[.int .u8 102, .int .u8 105, .int .u8 109, .int .u8 103] (0, 0) _ rfl (qAU w _) Try.underlying118 rfl (by kernel_rfl)) rfl ?_
 exact ⟨rfl, qAi (Below.refl _ _) _⟩
end Q
end
section
namespace Q
open Go.RowKit YA YC YB
attribute [local go_sem] qAS min2_int qBa min_two max_three min_three max_four min_four
def qAE.l0 : Nat → Int → List Int → Int → Int → Option (Int)
 | 0, _, _, _, _ => none
 | k + 1, x3, x6, x7, x8 => if x8 < x7 then (if 0 ≤ x8 then (if x8 < (x6.length : Int) then (qAE.l0 k (((Go.bits .xor .u32 x3 ((rd x6 x8) % 4294967296)) * 16777619) % 4294967296) x6 x7 (wrap64 (x8 + 1))) else (none)) else (none)) else (some x3)
def qAE.f (k : Nat) (l0 : List Int) : Option (Int) := qAE.l0 k 2166136261 l0 (l0.length : Int) 0
theorem qAE.mono_l : ∀ k, (∀ y0 y1 y2 y3, LeO (qAE.l0 k y0 y1 y2 y3) (qAE.l0 (k + 1) y0 y1 y2 y3))
 | 0 => fun _ _ _ _ r h => by simp [qAE.l0] at h
 | k + 1 => by
  have ih0 := qAE.mono_l k
  intro y0 y1 y2 y3
  unfold qAE.l0
  repeat' first
  | (with_reducible exact ih0 _ _ _ _)
  | (with_reducible exact LeO.refl _)
  | (with_reducible exact LeO.none _)
  | (with_reducible refine LeO.ite ?_ ?_)
  | (with_reducible refine LeO.bind ?_ (fun _ => ?_))
  | exact ih0 _ _ _ _
  | exact LeO.none _
  | refine LeO.ite ?_ ?_
  | refine LeO.bind ?_ (fun _ => ?_)
theorem qAE.mono : ∀ a0 k, LeO (qAE.f k a0) (qAE.f (k + 1) a0) := by
 intro a0 k
 have ih0 := qAE.mono_l k
 unfold qAE.f
 repeat' first
   | (with_reducible exact ih0 _ _ _ _)
   | (with_reducible exact LeO.refl _)
   | (with_reducible exact LeO.none _)
   | (with_reducible refine LeO.ite ?_ ?_)
   | (with_reducible refine LeO.bind ?_ (fun _ => ?_))
   | exact ih0 _ _ _ _
   | exact LeO.none _
   | refine LeO.ite ?_ ?_
   | refine LeO.bind ?_ (fun _ => ?_)
theorem qAE.calls (k : Nat) (A0 : Option Addr) (c0 : Nat) (l0 : List Int) (r : Int) (w : World) (hr0 : Kd.C (Kd.int .u8) w A0 l0.length l0) (hc0 : l0.length ≤ c0) (h : qAE.f k l0 = some r) :
  Calls Try.prog 53 #[.slice A0 l0.length c0] w fun e w' => e = .returned (.int .u32 r) ∧ qAB w w' := by
 have aJ := am hr0
 have aM := am hc0
 clear hr0 hc0
 have H : (qAE.l0 k 2166136261 l0 (l0.length : Int) 0) = some r := h
 clear h
 have H' := am H
 clear H
 go_enter Try.func53, Try.ntmps53
 go_wp2
 go_loopg [3, 8] k (fun kq v3 v8 w' => ∃ (aB : Int) (aA : Int), v3 = .int .u32 aB ∧ v8 = .int .i64 aA ∧ qAb (qAE.l0 kq aB l0 (l0.length : Int) aA = some r) ∧ qAb (kq ≤ k) ∧ qAB w w')
 case atStart => exact ⟨(2166136261), (0), (by first | rfl | (simp; done) | (simp [*]; done)), (by first | rfl | (simp; done) | (simp [*]; done)), H', ⟨Nat.le_refl _⟩, by repeat (first | exact qAB.refl _ | apply qAB.step)⟩
 case round =>
  clear H'
  obtain ⟨aB, aA, rfl, rfl, HA, aH, ⟨m1, rfl⟩⟩ := hrel
  cases gk with
  | zero => exact absurd HA.o (by simp [qAE.l0])
  | succ k1 =>
   have H := HA.o
   clear HA
   simp only [qAE.l0] at H
   by_cases c2 : aA < (l0.length : Int)
   rotate_left
   ·rw [if_neg c2] at H
    replace c2 := d0 c2
    obtain rfl := Option.some.inj H
    go_wp2
    go_ret
    exact ⟨by first | rfl | (simp; done) | (simp [*]; done), by repeat (first | exact qAB.refl _ | apply qAB.step)⟩
   rw [if_pos c2] at H
   replace c2 := d1 c2
   obtain ⟨c3, H⟩ := gd H
   replace c3 := d1 c3
   obtain ⟨c4, H⟩ := gd H
   replace c4 := d1 c4
   have H' := am H
   clear H
   have aC : 0 ≤ (aA : Int) := of_decide_eq_true (by first | (with_reducible assumption) | assumption)
   have aD : aA < (l0.length : Int) := of_decide_eq_true (by first | (with_reducible assumption) | assumption)
   obtain ⟨aI, aG, aE⟩ := Kd.at_int aJ.o aA aC aD
   cases aG
   replace aC := eq_true aC
   replace aD := eq_true aD
   go_wp2
   go_roundg k1
   case measure => have := aH.o; omega
   case rel => exact ⟨(((Go.bits .xor .u32 aB ((rd l0 aA) % 4294967296)) * 16777619) % 4294967296), (wrap64 (aA + 1)), (by first | rfl | (simp; done) | (simp [*]; done)), (by first | rfl | (simp; done) | (simp [*]; done)), H', ⟨by have := aH.o; omega⟩, by repeat (first | exact qAB.refl _ | apply qAB.step)⟩
end Q
end
section
namespace Q
open Go.RowKit YA YC YB
open Val Ins Wr Enc Wr2
def qDC (h c : Int) : Int := ((Go.bits .xor .u32 h (c % 4294967296)) * 16777619) % 4294967296
def sumS (l : List Int) : Int := l.foldl qDC 2166136261
theorem sum_range : ∀ (l : List Int) (h : Int), 0 ≤ h → h < 4294967296 → 0 ≤ l.foldl qDC h ∧ l.foldl qDC h < 4294967296
 | [], h, h0, h1 => ⟨h0, h1⟩
 | c :: l, h, _, _ => sum_range l (qDC h c) (Int.emod_nonneg _ (by decide)) (Int.emod_lt_of_pos _ (by decide))
theorem sumS_range (l : List Int) : 0 ≤ sumS l ∧ sumS l < 4294967296 := sum_range l _ (by decide) (by decide)
theorem sum_l0 (l : List Int) (hl : l.length ≤ 4611686018427387904) : ∀ (m j : Nat) (h : Int), l.length - j = m → j ≤ l.length → ∃ k, qAE.l0 k h l (l.length : Int) (j : Int) = some ((l.drop j).foldl qDC h)
 | 0, j, h, hm, hj => by
  refine ⟨1, ?_⟩
  have e : j = l.length := by omega
  subst e
  unfold qAE.l0
  rw [if_neg (by omega), List.drop_of_length_le (Nat.le_refl _)]
  rfl
 | m + 1, j, h, hm, hj => by
  obtain ⟨k, hk⟩ := sum_l0 l hl m (j + 1) (qDC h (rd l (j : Int))) (by omega) (by omega)
  refine ⟨k + 1, ?_⟩
  unfold qAE.l0
  have hw : wrap64 ((j : Int) + 1) = ((j + 1 : Nat) : Int) := by
   unfold wrap64
   omega
  rw [if_pos (by omega), if_pos (by omega), if_pos (by omega), hw]
  have hd : l.drop j = rd l (j : Int) :: l.drop (j + 1) := by
   rw [List.drop_eq_getElem_cons (by omega)]
   congr 1
   unfold rd
   rw [List.getD_eq_getElem?_getD, Int.toNat_natCast, List.getElem?_eq_getElem (by omega)]
   rfl
  rw [hd]
  exact hk
theorem sum_ev (l : List Int) (hl : l.length ≤ 4611686018427387904) : ∃ k, qAE.f k l = some (sumS l) := by
 obtain ⟨k, hk⟩ := sum_l0 l hl l.length 0 2166136261 (by simp) (Nat.zero_le _)
 exact ⟨k, by simpa [qAE.f, sumS] using hk⟩
theorem badS_none : ∀ (k : Nat) (l : List S115), badS k l = none → ∀ x ∈ l, okS x = true
 | k, [], h => fun x hx => by cases hx
 | k, y :: l, h => by
  rw [qDY] at h
  split at h
  ·rename_i hy
   intro x hx
   rcases List.mem_cons.1 hx with rfl | hx
   ·exact hy
   exact badS_none (k + 1) l h x hx
  cases h
theorem qCN {ps : List Int} {res : Int} {ls : List Int} {code : List S115} {fs : List S74} {vs : List Int} (h : (qB2 ps res ls code fs vs).2.2 = 0) : ps.length ≤ 8 ∧ ls.length ≤ 64 ∧ code.length ≤ 4096 ∧ (∀ x ∈ code, okS x = true) ∧ qCx ps res ls code.length fs vs = 0 := by
 unfold qB2 at h
 split at h
 ·rename_i hs
  split at h
  ·cases h
  rename_i hb
  refine ⟨?_, ?_, ?_, badS_none 0 code hb, hs⟩
  all_goals
   unfold qCx at hs
   split at hs
   ·cases hs
   ·rename_i h1
    omega
 rename_i hs
 exact absurd h hs
theorem qEe (fs : List S74) (vs : List Int) : ∀ (l : List S77), qDi fs vs l = 0 → ∀ f ∈ l, (qB2 f.f0.f0 f.f0.f1 f.f1 f.f2 fs vs).2.2 = 0
 | [], _ => fun f hf => by cases hf
 | g :: l, h => by
  rw [qEd] at h
  split at h
  ·rename_i hg
   intro f hf
   rcases List.mem_cons.1 hf with rfl | hf
   ·exact hg
   exact qEe fs vs l h f hf
  rename_i hg
  exact absurd h hg
structure ImgR (vars : List S69) (fns : List S77) (main : Int) : Prop where
 v : vars.length ≤ 2048
 f : fns.length ≤ 2048
 m0 : 0 ≤ main
 m1 : main < fns.length
 ok : ∀ x ∈ vars, okVS x = true
 mp : (qAz fns main).f0.f0.length = 0
 mr : (qAz fns main).f0.f1 = 1
 s : ∀ f ∈ fns, (qB2 f.f0.f0 f.f0.f1 f.f1 f.f2 (fns.map S77.f0) (vars.map S69.f0)).2.2 = 0
theorem ImgR.of {vars : List S69} {fns : List S77} {main : Int} (h : qAV vars fns main = 0) : ImgR vars fns main := by
 unfold qAV at h
 split at h
 ·cases h
 rename_i h1
 split at h
 ·cases h
 rename_i h2
 split at h
 ·cases h
 rename_i h3
 refine ⟨by omega, by omega, by omega, by omega, fun x hx => ?_, by omega, ?_, qEe _ _ fns h⟩
 ·have h4 : ¬ (vars.any fun x => !okVS x) = true := fun e => h2 (.inl e)
  rw [List.any_eq_true] at h4
  cases hq : okVS x
  ·exact absurd ⟨x, hx, by rw [hq]; rfl⟩ h4
  rfl
 exact Decidable.not_not.1 (fun e => h3 (.inr e))
def valB (x : S69) : List Int := [x.f0 % 256] ++ be x.f1 8 8
def fnBI (f : S77) : List Int := [(f.f0.f0.length : Int) % 256] ++ byB f.f0.f0 ++ [f.f0.f1 % 256] ++ [(f.f1.length : Int) % 256] ++ byB f.f1 ++ rawB (encB (f.f2.map toD))
def qDy (vars : List S69) (fns : List S77) (main : Int) : List Int :=
 [102, 105, 109, 103] ++ be vars.length 4 4 ++ vars.flatMap valB ++ be fns.length 4 4 ++ fns.flatMap fnBI ++ be main 4 4
def qC9 (vars : List S69) (fns : List S77) (main : Int) : List Int := qDy vars fns main ++ be (sumS (qDy vars fns main)) 4 4
def qAA.f (l0_0 : List (S69)) (l0_1 : List (S77)) (a0_2 : Int) : Option (List Int × Int) :=
 if (l0_0.all u64V && l0_1.all fnSz && decide (l0_0.length ≤ 4611686018427387904) && decide (l0_1.length ≤ 4611686018427387904)) = true then
  (if qAV l0_0 l0_1 a0_2 = 0 then (if 65536 < (qC9 l0_0 l0_1 a0_2).length then some ([], 3) else some (qC9 l0_0 l0_1 a0_2, 0)) else some ([], qAV l0_0 l0_1 a0_2))
 else none
theorem valB_len (x : S69) : (valB x).length = 9 := by simp [valB, qAD]
theorem fnBI_len (f : S77) (h0 : f.f0.f0.length ≤ 8) (h1 : f.f1.length ≤ 64) (h2 : f.f2.length ≤ 4096) : (fnBI f).length ≤ 41100 := by
 have h := encB_len (f.f2.map toD)
 rw [List.length_map] at h
 unfold fnBI rawB
 simp [byB, qAD]
 omega
theorem qDj {α : Type} (g : α → List Int) (l : List α) (m : Nat) (h : ∀ y ∈ l, (g y).length ≤ m) : (l.flatMap g).length ≤ l.length * m := by
 induction l with
 | nil => simp
 | cons x l ih =>
  have h1 := ih (fun y hy => h y (List.mem_cons_of_mem _ hy))
  have h2 := h x (List.mem_cons_self ..)
  rw [List.flatMap_cons, List.length_append, List.length_cons, Nat.succ_mul]
  omega
theorem flatB_take {α : Type} (g : α → List Int) (l : List α) (k : Nat) (x : α) (h : l[k]? = some x) : (l.take (k + 1)).flatMap g = (l.take k).flatMap g ++ g x := by
 rw [List.take_add_one, h]
 simp
end Q
end
section
namespace Q
open Go.RowKit YA YC YB
open Val Ins Wr Enc Wr2 Clone
theorem mark_0 (w : World) : (Instr.index 118 markV (.int .i64 0)).run Try.prog w = .ok (.int .u8 102) w := by kernel_rfl
theorem mark_1 (w : World) : (Instr.index 118 markV (.int .i64 1)).run Try.prog w = .ok (.int .u8 105) w := by kernel_rfl
theorem mark_2 (w : World) : (Instr.index 118 markV (.int .i64 2)).run Try.prog w = .ok (.int .u8 109) w := by kernel_rfl
theorem mark_3 (w : World) : (Instr.index 118 markV (.int .i64 3)).run Try.prog w = .ok (.int .u8 103) w := by kernel_rfl
theorem qAA.calls (A0_0 : Option Addr) (c0_0 : Nat) (l0_0 : List (S69)) (A0_1 : Option Addr) (c0_1 : Nat) (l0_1 : List (S77)) (a0_2 : Int) (r1 : List Int) (r2 : Int) (w : World) (hr0_0 : Kd.C k69 w A0_0 l0_0.length l0_0) (hc0_0 : l0_0.length ≤ c0_0) (hr0_1 : Kd.C k77 w A0_1 l0_1.length l0_1) (hc0_1 : l0_1.length ≤ c0_1) (h : qAA.f l0_0 l0_1 a0_2 = some (r1, r2)) :
  Calls Try.prog 16 #[.agg #[.slice A0_0 l0_0.length c0_0, .slice A0_1 l0_1.length c0_1, .int .i64 a0_2]] w fun e w' => ∃ v0_ : Value, e = .returned (.tuple #[v0_, .int .i64 r2]) ∧ Kd.R (Kd.int .u8) 5 w' w.heap.size (fun _ => True) v0_ r1 ∧ Below w.heap.size w w' := by
 unfold qAA.f at h
 split at h
 case isFalse => cases h
 rename_i hg
 have hR : qA9.f l0_0 l0_1 a0_2 = some (qAV l0_0 l0_1 a0_2) := if_pos hg
 simp only [Bool.and_eq_true, decide_eq_true_eq, List.all_eq_true] at hg
 obtain ⟨n0, hn0⟩ : ∃ n, n = l0_0.length := ⟨_, rfl⟩
 obtain ⟨n1, hn1⟩ : ∃ n, n = l0_1.length := ⟨_, rfl⟩
 obtain ⟨WA, hWA⟩ : ∃ WA, WA = w.alloc (.cells #[.slice A0_0 n0 c0_0, .slice A0_1 n1 c0_1, .int .i64 a0_2] 47) := ⟨_, rfl⟩
 have hBA : Below w.heap.size w WA := hWA ▸ (Below.refl _ _).alloc (Nat.le_refl _) _
 have hgA : w.heap.size < WA.heap.size := by rw [hWA]; simp
 have bA : WA.heap[w.heap.size]? = some (.cells #[.slice A0_0 n0 c0_0, .slice A0_1 n1 c0_1, .int .i64 a0_2] 47 (0, 0)) := by rw [hWA]; exact qAU w _
 have HBX : qAb (∀ W, Below WA.heap.size WA W → W.cell? ⟨w.heap.size, 0, none⟩ = some (.slice A0_0 n0 c0_0) ∧ W.cell? ⟨w.heap.size, 1, none⟩ = some (.slice A0_1 n1 c0_1) ∧ W.cell? ⟨w.heap.size, 2, none⟩ = some (.int .i64 a0_2)) := ⟨fun W hW => by
   have d := qAe bA hW
   exact ⟨(qAa d 0).trans rfl, (qAa d 1).trans rfl, (qAa d 2).trans rfl⟩⟩
 have HRT : qAb (Calls Try.prog 17 #[.agg #[.slice A0_0 n0 c0_0, .slice A0_1 n1 c0_1, .int .i64 a0_2]] WA fun e w' => e = .returned (.int .i64 (qAV l0_0 l0_1 a0_2)) ∧ Below WA.heap.size WA w') :=
  ⟨by rw [hn0, hn1]; exact qA9.calls A0_0 c0_0 l0_0 A0_1 c0_1 l0_1 a0_2 _ WA (Kd.C_below hr0_0 hBA) hc0_0 (Kd.C_below hr0_1 hBA) hc0_1 hR⟩
 have HBA := am hBA
 have HC0 : qAb (Kd.C k69 WA A0_0 n0 l0_0) := ⟨hn0 ▸ Kd.C_below hr0_0 hBA⟩
 have HF1 : qAb (Kd.F k77 WA (fun k => k < WA.heap.size) A0_1 n1 l0_1) := ⟨hn1 ▸ Kd.C_F heapFn (Kd.C_below hr0_1 hBA)⟩
 rw [← hn0, ← hn1]
 have HN0 := am hn0
 have HN1 := am hn1
 have HG := am hg
 obtain ⟨er, her⟩ : ∃ z, z = qAV l0_0 l0_1 a0_2 := ⟨_, rfl⟩
 rw [← her] at HRT h
 have HER := am her
 have HWA := am hWA
 clear hr0_0 hr0_1 hc0_0 hc0_1 hR hBA bA hn0 hn1 hg her hWA
 by_cases hz : er = 0
 case neg =>
  rw [if_neg hz] at h
  have h := Option.some.inj h
  obtain ⟨rfl, rfl⟩ : [] = r1 ∧ er = r2 := ⟨congrArg Prod.fst h, congrArg Prod.snd h⟩
  have hz' : (er != 0) = true := bne_iff_ne.mpr hz
  clear h hz
  go_enter Try.func16, Try.ntmps16
  go_wp2_with fail
  rw [← HWA.out]
  go_wp2_with fail
  refine HRT.out.mono ?_
  rintro e w1 ⟨rfl, hb⟩
  have HB1 := am hb
  clear hb
  go_wp2
  go_ret2
  exact ⟨_, rfl, Kd.R_nil _ _ _ _ _, qAJ HBA.out HBA.out.size HB1.out⟩
 rw [if_pos hz] at h
 have HRO := am (ImgR.of (vars := l0_0) (fns := l0_1) (main := a0_2) (HER.out.symm.trans hz))
 have HH := am h
 subst hz
 clear h
 have hm0 := HRO.out.m0
 have hm1 := HRO.out.m1
 have hl0 : n0 ≤ 2048 := by have := HRO.out.v; have := HN0.out; omega
 have hl1 : n1 ≤ 2048 := by have := HRO.out.f; have := HN1.out; omega
 have hmx : a0_2 < 2048 := by have := HRO.out.f; omega
 clear hm1
 go_enter Try.func16, Try.ntmps16
 go_wp2_with fail
 rw [← HWA.out]
 go_wp2_with fail
 refine HRT.out.mono ?_
 rintro e w1 ⟨rfl, hb⟩
 have HB1 := am hb
 clear hb
 go_wp2_with fail
 refine (begin_any _).mono ?_
 rintro e w2 ⟨rfl, hb2⟩
 have hB2 : Below (w1.alloc (.cells #[.slice none 0 0] 86)).heap.size (w1.alloc (.cells #[.slice none 0 0] 86)) w2 := hb2
 have hp2 := qAe (qAU w1 (.cells #[.slice none 0 0] 86)) hB2
 have HKF : qAb (WK WA w1.heap.size w2 (.slice none 0 0) []) := ⟨⟨⟨(qAa hp2 0).trans rfl, qAg hp2 0, World.ownsRow_nil _ _ _ _, fun k hk => by cases hk⟩, (HB1.out.alloc HB1.out.size _).trans (hB2.mono (Nat.le_trans HB1.out.size (by simp))), HB1.out.size, fun k hk => by cases hk⟩⟩
 clear hb2 hB2 hp2 HRT
 go_wp2_with fail
 go_loopg [7, 24] 4 (fun gg _ s24 wr => ∃ (kk : Nat) (v' : Value), kk ≤ 4 ∧ 4 - kk ≤ gg ∧ s24 = .int .i64 kk ∧ qAb (WK WA w1.heap.size wr v' (([102, 105, 109, 103] : List Int).take kk)))
 case atStart => exact ⟨0, .slice none 0 0, by omega, by omega, rfl, HKF⟩
 case round =>
  obtain ⟨kk, v', hkk, hg, rfl, HK⟩ := hrel
  have hcase : kk = 0 ∨ kk = 1 ∨ kk = 2 ∨ kk = 3 ∨ kk = 4 := by omega
  rcases hcase with rfl | rfl | rfl | rfl | rfl
  ·have hix := mark_0 wr
   go_wp2_with fail
   refine (qB6 w1.heap.size 102 v' _ wr HK.out.st (by simp)).mono ?_
   rintro e w3 ⟨v3, rfl, hst, hs⟩
   have HK2 : qAb (WK WA w1.heap.size w3 v3 (([102, 105, 109, 103] : List Int).take 1)) := ⟨HK.out.step hst hs⟩
   clear hst hs
   go_wp2
   go_roundg (4 - 1)
   case measure => omega
   case rel => exact ⟨1, v3, by omega, by omega, rfl, HK2⟩
  ·have hix := mark_1 wr
   go_wp2_with fail
   refine (qB6 w1.heap.size 105 v' _ wr HK.out.st (by simp)).mono ?_
   rintro e w3 ⟨v3, rfl, hst, hs⟩
   have HK2 : qAb (WK WA w1.heap.size w3 v3 (([102, 105, 109, 103] : List Int).take 2)) := ⟨HK.out.step hst hs⟩
   clear hst hs
   go_wp2
   go_roundg (4 - 2)
   case measure => omega
   case rel => exact ⟨2, v3, by omega, by omega, rfl, HK2⟩
  ·have hix := mark_2 wr
   go_wp2_with fail
   refine (qB6 w1.heap.size 109 v' _ wr HK.out.st (by simp)).mono ?_
   rintro e w3 ⟨v3, rfl, hst, hs⟩
   have HK2 : qAb (WK WA w1.heap.size w3 v3 (([102, 105, 109, 103] : List Int).take 3)) := ⟨HK.out.step hst hs⟩
   clear hst hs
   go_wp2
   go_roundg (4 - 3)
   case measure => omega
   case rel => exact ⟨3, v3, by omega, by omega, rfl, HK2⟩
  ·have hix := mark_3 wr
   go_wp2_with fail
   refine (qB6 w1.heap.size 103 v' _ wr HK.out.st (by simp)).mono ?_
   rintro e w3 ⟨v3, rfl, hst, hs⟩
   have HK2 : qAb (WK WA w1.heap.size w3 v3 (([102, 105, 109, 103] : List Int).take 4)) := ⟨HK.out.step hst hs⟩
   clear hst hs
   go_wp2
   go_roundg (4 - 4)
   case measure => omega
   case rel => exact ⟨4, v3, by omega, by omega, rfl, HK2⟩
  have HK4 : qAb (WK WA w1.heap.size wr v' [102, 105, 109, 103]) := ⟨HK.out⟩
  clear HK HKF hg hkk
  obtain ⟨q0, q1, q2⟩ := HBX.out wr HK4.out.below
  go_wp2_with fail
  refine (qEk w1.heap.size (n0 : Int) v' _ wr HK4.out.st (by omega) (by omega) (by simp)).mono ?_
  rintro e w5 ⟨v5, rfl, hst, hs⟩
  have HK5 := am (HK4.out.step hst hs)
  clear hst hs q0 q1 q2 HK4
  obtain ⟨b5, hb5⟩ : ∃ b : List Int, b = [102, 105, 109, 103] ++ be n0 4 4 := ⟨_, rfl⟩
  rw [← hb5] at HK5
  have HB5 := am hb5
  have HL5 : qAb (b5.length = 8) := ⟨by rw [hb5]; simp [qAD]⟩
  clear hb5
  obtain ⟨q0, q1, q2⟩ := HBX.out w5 HK5.out.below
  go_wp2_with fail
  clear q0 q1 q2
  go_loopg [9, 39] n0 (fun gg _ s39 wr => ∃ (kk : Nat) (v' : Value), kk ≤ n0 ∧ n0 - kk ≤ gg ∧ s39 = .int .i64 kk ∧ qAb (WK WA w1.heap.size wr v' (b5 ++ (l0_0.take kk).flatMap valB)))
  case atStart => exact ⟨0, v5, by omega, by omega, rfl, ⟨by simpa using HK5.out⟩⟩
  case round =>
   clear HK5
   obtain ⟨kk, v', hkk, hg, rfl, HK⟩ := hrel
   by_cases hlt : kk < n0
   ·have hltz : (kk : Int) < (n0 : Int) := by omega
    have h0' : (0 : Int) ≤ (kk : Int) := by omega
    obtain ⟨ad, ea, hx0, hx1⟩ := qDX HC0.out (kk : Int) h0' hltz
    subst ea
    rw [Int.toNat_natCast] at hx0 hx1
    replace hx0 := (HK.out.below.cell (World.block_lt_of_cell? WA _ hx0)).trans hx0
    replace hx1 := (HK.out.below.cell (World.block_lt_of_cell? WA _ hx1)).trans hx1
    obtain ⟨x, hxe⟩ : ∃ x, x = qBm l0_0 (kk : Int) := ⟨_, rfl⟩
    rw [← hxe] at hx0 hx1
    have hxg : l0_0[kk]? = some x := by rw [hxe]; exact qBE l0_0 z69 kk (by have := HN0.out; omega)
    have HX := am hxg
    have HU := am (u64V_U (HG.out.1.1.1 x (List.mem_of_getElem? hxg)))
    obtain ⟨x0, hx0e⟩ : ∃ q, q = x.f0 := ⟨_, rfl⟩
    obtain ⟨x1, hx1e⟩ : ∃ q, q = x.f1 := ⟨_, rfl⟩
    rw [← hx0e] at hx0
    rw [← hx1e] at hx1 HU
    have HVB : qAb (valB x = [x0 % 256] ++ be x1 8 8) := ⟨by rw [hx0e, hx1e]; rfl⟩
    have HLB : qAb ((b5 ++ (l0_0.take kk).flatMap valB).length ≤ 20000) := ⟨by
      have h1 := qDj valB (l0_0.take kk) 9 (fun y _ => Nat.le_of_eq (valB_len y))
      have h2 := HL5.out
      rw [List.length_take] at h1
      rw [List.length_append]
      omega⟩
    clear hxe hxg hx0e hx1e
    have HKA : qAb (WK WA w1.heap.size (wr.alloc (.cells #[.int .i64 x0, .int .u64 x1] 69)) v' (b5 ++ (l0_0.take kk).flatMap valB)) := ⟨HK.out.below' (qAi (Below.refl _ _) _)⟩
    have z1 := (qAa (qAU wr (.cells #[.int .i64 x0, .int .u64 x1] 69)) 1).trans rfl
    have hplt := HK.out.plt
    have hvlt := HK.out.vlt
    have hne1 : wr.heap.size ≠ w1.heap.size := by omega
    have hne2 : some wr.heap.size ≠ v'.ownBlock := fun e => by have := hvlt _ e.symm; omega
    go_wp2_with fail
    refine (qB6 w1.heap.size _ v' _ _ HKA.out.st (by have := HLB.out; omega)).mono ?_
    rintro e w6 ⟨v6, rfl, hst, hs⟩
    have y1 := (HKA.out.cell hs (a := ⟨wr.heap.size, 1, none⟩) (by simp) hne1 hne2).trans z1
    have HK6 := am (HKA.out.step hst hs)
    clear hst hs hplt hvlt hne1 hne2 z1 hx0 hx1
    go_wp2_with fail
    refine (long_any w1.heap.size x1 v6 _ w6 HK6.out.st HU.out.1 (by have := HU.out.2; omega) (by have := HLB.out; rw [List.length_append]; simp only [List.length_cons, List.length_nil]; omega)).mono ?_
    rintro e w7 ⟨v7, rfl, hst, hs⟩
    have HK7 : qAb (WK WA w1.heap.size w7 v7 (b5 ++ (l0_0.take (kk + 1)).flatMap valB)) := ⟨by
      rw [flatB_take valB l0_0 kk x HX.out, HVB.out, ← List.append_assoc, ← List.append_assoc, ← u8w]
      exact HK6.out.step hst hs⟩
    clear hst hs y1
    go_wp2
    go_roundg (n0 - (kk + 1))
    case measure => omega
    case rel => exact ⟨kk + 1, v7, by omega, by omega, by go_num, HK7⟩
   have hltz : ¬ (kk : Int) < (n0 : Int) := by omega
   rw [show l0_0.take kk = l0_0 from List.take_of_length_le (by have := HN0.out; omega)] at HK
   obtain ⟨q0, q1, q2⟩ := HBX.out wr HK.out.below
   have HLB : qAb ((b5 ++ l0_0.flatMap valB).length ≤ 20000) := ⟨by
     have h1 := qDj valB l0_0 9 (fun y _ => Nat.le_of_eq (valB_len y))
     have h2 := HL5.out
     have h3 := HN0.out
     rw [List.length_append]
     omega⟩
   clear hlt hg hkk
   go_wp2_with fail
   refine (qEk w1.heap.size (n1 : Int) v' _ wr HK.out.st (by omega) (by omega) (by have := HLB.out; omega)).mono ?_
   rintro e w8 ⟨v8, rfl, hst, hs⟩
   have HK8 := am (HK.out.step hst hs)
   clear hst hs q0 q1 q2 HK
   obtain ⟨b8, hb8⟩ : ∃ b : List Int, b = b5 ++ l0_0.flatMap valB ++ be n1 4 4 := ⟨_, rfl⟩
   rw [← hb8] at HK8
   have HB8 := am hb8
   have HL8 : qAb (b8.length ≤ 20004) := ⟨by have := HLB.out; rw [hb8, List.length_append, qAD]; omega⟩
   clear hb8
   obtain ⟨q0, q1, q2⟩ := HBX.out w8 HK8.out.below
   go_wp2_with fail
   clear q0 q1 q2
   have HFL : qAb (∀ f ∈ l0_1, (fnBI f).length ≤ 41100) := ⟨fun f hf => by
     obtain ⟨g1, g2, g3, _⟩ := qCN (HRO.out.s f hf)
     exact fnBI_len f g1 g2 g3⟩
   go_loopg [11, 12, 13, 61] n1 (fun gg _ _ _ s61 wr => ∃ (kk : Nat) (v' : Value), kk ≤ n1 ∧ n1 - kk ≤ gg ∧ s61 = .int .i64 kk ∧ qAb (WK WA w1.heap.size wr v' (b8 ++ (l0_1.take kk).flatMap fnBI)))
   case atStart => exact ⟨0, v8, by omega, by omega, rfl, ⟨by simpa using HK8.out⟩⟩
   case round =>
    clear HK8 hltz
    obtain ⟨kk, v', hkk, hg, rfl, HK⟩ := hrel
    by_cases hlt : kk < n1
    ·have hltz : (kk : Int) < (n1 : Int) := by omega
     have h0' : (0 : Int) ≤ (kk : Int) := by omega
     obtain ⟨ad, D1, d1, D2, d2, D3, d3, ea, hx0, hx1, hx2, hx3, _, _, F1, F2, F3⟩ := fn_F HF1.out (kk : Int) h0' hltz
     subst ea
     rw [Int.toNat_natCast] at hx0 hx1 hx2 hx3
     replace hx0 := (HK.out.below.cell (World.block_lt_of_cell? WA _ hx0)).trans hx0
     replace hx1 := (HK.out.below.cell (World.block_lt_of_cell? WA _ hx1)).trans hx1
     replace hx2 := (HK.out.below.cell (World.block_lt_of_cell? WA _ hx2)).trans hx2
     replace hx3 := (HK.out.below.cell (World.block_lt_of_cell? WA _ hx3)).trans hx3
     obtain ⟨x, hxe⟩ : ∃ x, x = qAz l0_1 (kk : Int) := ⟨_, rfl⟩
     rw [← hxe] at hx0 hx1 hx2 hx3 F1 F2 F3
     have hxg : l0_1[kk]? = some x := by rw [hxe]; exact qBE l0_1 z77 kk (by have := HN1.out; omega)
     have hxm := List.mem_of_getElem? hxg
     obtain ⟨g1, g2, g3, g4, _⟩ := qCN (HRO.out.s x hxm)
     have g5 := (qD2 (HG.out.1.1.2 x hxm)).2.2.2
     have HX := am hxg
     have HLB : qAb ((b8 ++ (l0_1.take kk).flatMap fnBI).length ≤ 90000000) := ⟨by
       have h1 := qDj fnBI (l0_1.take kk) 41100 (fun y hy => HFL.out y (List.mem_of_mem_take hy))
       have h2 := HL8.out
       rw [List.length_take] at h1
       rw [List.length_append]
       omega⟩
     have HK1' := fun (v : Value) (bs : List Int) (w : World) (hk : WK WA w1.heap.size w v bs) (hl : bs.length ≤ 300000000) => kindsW_any w1.heap.size D1 d1 x.f0.f0 v bs WA w hk (Kd.F_now F1) (by omega) hl
     have HK2' := fun (v : Value) (bs : List Int) (w : World) (hk : WK WA w1.heap.size w v bs) (hl : bs.length ≤ 300000000) => kindsW_any w1.heap.size D2 d2 x.f1 v bs WA w hk (Kd.F_now F2) (by omega) hl
     have hE := fun (W' : World) (hW' : Below WA.heap.size WA W') => enc_ok D3 d3 x.f2 W' (Kd.C_below (Kd.F_now F3) hW') g3 (List.all_eq_true.2 g4) (List.all_eq_true.2 g5)
     have HFB : qAb (fnBI x = [(x.f0.f0.length : Int) % 256] ++ byB x.f0.f0 ++ [x.f0.f1 % 256] ++ [(x.f1.length : Int) % 256] ++ byB x.f1 ++ rawB (encB (x.f2.map toD))) := ⟨rfl⟩
     have HEL : qAb ((encB (x.f2.map toD)).length ≤ 40960) := ⟨by have := encB_len (x.f2.map toD); rw [List.length_map] at this; omega⟩
     have HP1 : qAb ((byB x.f0.f0).length ≤ 8) := ⟨by simpa [byB] using g1⟩
     have HP2 : qAb ((byB x.f1).length ≤ 64) := ⟨by simpa [byB] using g2⟩
     obtain ⟨m1, hm1⟩ : ∃ q, q = x.f0.f0.length := ⟨_, rfl⟩
     obtain ⟨m2, hm2⟩ : ∃ q, q = x.f0.f1 := ⟨_, rfl⟩
     obtain ⟨m3, hm3⟩ : ∃ q, q = x.f1.length := ⟨_, rfl⟩
     obtain ⟨m4, hm4⟩ : ∃ q, q = x.f2.length := ⟨_, rfl⟩
     rw [← hm1] at hx0 HK1' HFB
     rw [← hm2] at hx1 HFB
     rw [← hm3] at hx2 HK2' HFB
     rw [← hm4] at hx3 hE
     have HK1' := am HK1'
     have HK2' := am HK2'
     have HE := am hE
     clear hxe hxg hxm g1 g2 g3 g4 g5 hE hm1 hm2 hm3 hm4 F1 F2 F3
     have HKA : qAb (WK WA w1.heap.size (wr.alloc (.cells #[.slice D1 m1 d1, .int .i64 m2, .slice D2 m3 d2, .slice D3 m4 d3] 77)) v' (b8 ++ (l0_1.take kk).flatMap fnBI)) := ⟨HK.out.below' (qAi (Below.refl _ _) _)⟩
     have hplt := HK.out.plt
     have hvlt := HK.out.vlt
     have hne1 : wr.heap.size ≠ w1.heap.size := by omega
     have hne2 : some wr.heap.size ≠ v'.ownBlock := fun e => by have := hvlt _ e.symm; omega
     obtain ⟨wF, hwF⟩ : ∃ wF, wF = wr.alloc (.cells #[.slice D1 m1 d1, .int .i64 m2, .slice D2 m3 d2, .slice D3 m4 d3] 77) := ⟨_, rfl⟩
     have bF : wF.heap[wr.heap.size]? = some (.cells #[.slice D1 m1 d1, .int .i64 m2, .slice D2 m3 d2, .slice D3 m4 d3] 77 (0, 0)) := by rw [hwF]; exact qAU wr _
     have HBF : qAb (∀ W' v2, qBx w1.heap.size wF v' W' v2 → W'.cell? ⟨wr.heap.size, 0, none⟩ = some (.slice D1 m1 d1) ∧ W'.cell? ⟨wr.heap.size, 1, none⟩ = some (.int .i64 m2) ∧ W'.cell? ⟨wr.heap.size, 2, none⟩ = some (.slice D2 m3 d2) ∧ W'.cell? ⟨wr.heap.size, 3, none⟩ = some (.slice D3 m4 d3)) := ⟨fun W' v2 hs => by
       have g : ∀ i, W'.cell? ⟨wr.heap.size, i, none⟩ = wF.cell? ⟨wr.heap.size, i, none⟩ := fun i => hs.cell (a := ⟨wr.heap.size, i, none⟩) (qAt bF) hne1 hne2
       exact ⟨(g 0).trans ((qAa bF 0).trans rfl), (g 1).trans ((qAa bF 1).trans rfl), (g 2).trans ((qAa bF 2).trans rfl), (g 3).trans ((qAa bF 3).trans rfl)⟩⟩
     rw [← hwF] at HKA
     have HWF := am hwF
     clear hplt hvlt hne1 hne2 bF hwF
     go_wp2_with fail
     rw [← HWF.out]
     refine (HK1'.out v' _ wF HKA.out (by have := HLB.out; omega)).mono ?_
     rintro e w6 ⟨v6, rfl, hst, hs⟩
     have HK6 := am (HKA.out.step hst hs)
     have HS6 := am hs
     clear hst hs hx0 hx1 hx2 hx3
     obtain ⟨q0, q1, q2, q3⟩ := HBF.out w6 v6 HS6.out
     go_wp2_with fail
     refine (qB6 w1.heap.size _ v6 _ w6 HK6.out.st (by have := HLB.out; have := HP1.out; simp only [List.length_append, List.length_cons, List.length_nil] at *; omega)).mono ?_
     rintro e w7 ⟨v7, rfl, hst, hs⟩
     have HK7 := am (HK6.out.step hst hs)
     have HS7 := am (HS6.out.trans hs)
     clear hst hs q0 q1 q2 q3 HK6 HS6
     obtain ⟨q0, q1, q2, q3⟩ := HBF.out w7 v7 HS7.out
     go_wp2_with fail
     refine (HK2'.out v7 _ w7 HK7.out (by have := HLB.out; have := HP1.out; simp only [List.length_append, List.length_cons, List.length_nil] at *; omega)).mono ?_
     rintro e w8 ⟨v8', rfl, hst, hs⟩
     have HK8 := am (HK7.out.step hst hs)
     have HS8 := am (HS7.out.trans hs)
     clear hst hs q0 q1 q2 q3 HK7 HS7
     obtain ⟨q0, q1, q2, q3⟩ := HBF.out w8 v8' HS8.out
     go_wp2_with fail
     refine (HE.out w8 HK8.out.below).mono ?_
     rintro e w9 ⟨hb, rr, rfl, ho⟩
     have HK9 := am (HK8.out.below' hb)
     have HO := am ho
     have HPL := am HK8.out.plt
     have HVL := am HK8.out.vlt
     clear hb ho q0 q1 q2 q3 HK8 HS8
     go_wp2_with fail
     refine (raw_out w1.heap.size w8.heap.size rr _ v8' _ w9 HK9.out.st HO.out HPL.out HVL.out (by have := HLB.out; have := HP1.out; have := HP2.out; simp only [List.length_append, List.length_cons, List.length_nil] at *; omega) (by have := HEL.out; omega)).mono ?_
     rintro e w10 ⟨v10, rfl, hst, hs⟩
     have HK10 : qAb (WK WA w1.heap.size w10 v10 (b8 ++ (l0_1.take (kk + 1)).flatMap fnBI)) := ⟨by
       have e : b8 ++ (l0_1.take (kk + 1)).flatMap fnBI = b8 ++ (l0_1.take kk).flatMap fnBI ++ [(m1 : Int) % 256] ++ byB x.f0.f0 ++ [m2 % 256] ++ [(m3 : Int) % 256] ++ byB x.f1 ++ rawB (encB (x.f2.map toD)) := by
         rw [flatB_take fnBI l0_1 kk x HX.out, HFB.out]
         simp only [List.append_assoc]
       rw [e, ← u8w m2]
       exact HK9.out.step hst hs⟩
     clear hst hs
     go_wp2
     go_roundg (n1 - (kk + 1))
     case measure => omega
     case rel => exact ⟨kk + 1, v10, by omega, by omega, by go_num, HK10⟩
    have hltz : ¬ (kk : Int) < (n1 : Int) := by omega
    rw [show l0_1.take kk = l0_1 from List.take_of_length_le (by have := HN1.out; omega)] at HK
    obtain ⟨q0, q1, q2⟩ := HBX.out wr HK.out.below
    have HLB : qAb ((b8 ++ l0_1.flatMap fnBI).length ≤ 90000000) := ⟨by
      have h1 := qDj fnBI l0_1 41100 HFL.out
      have h2 := HL8.out
      have h3 := HN1.out
      rw [List.length_append]
      omega⟩
    clear hlt hg hkk
    go_wp2_with fail
    refine (qEk w1.heap.size a0_2 v' _ wr HK.out.st hm0 (by omega) (by have := HLB.out; omega)).mono ?_
    rintro e w9 ⟨v9, rfl, hst, hs⟩
    have HK9 : qAb (WK WA w1.heap.size w9 v9 (qDy l0_0 l0_1 a0_2)) := ⟨by
      have e : qDy l0_0 l0_1 a0_2 = b8 ++ l0_1.flatMap fnBI ++ be a0_2 4 4 := by
        rw [HB8.out, HB5.out, HN0.out, HN1.out]; rfl
      rw [e]; exact HK.out.step hst hs⟩
    have HBL : qAb ((qDy l0_0 l0_1 a0_2).length ≤ 90000004) := ⟨by
      have e : qDy l0_0 l0_1 a0_2 = b8 ++ l0_1.flatMap fnBI ++ be a0_2 4 4 := by
        rw [HB8.out, HB5.out, HN0.out, HN1.out]; rfl
      have := HLB.out
      rw [e, List.length_append, qAD]; omega⟩
    clear hst hs q0 q1 q2 HK
    go_wp2_with fail
    obtain ⟨bd, hbd⟩ : ∃ bd, bd = qDy l0_0 l0_1 a0_2 := ⟨_, rfl⟩
    have HPK : qAb (qC9 l0_0 l0_1 a0_2 = bd ++ be (sumS bd) 4 4) := ⟨by rw [hbd]; rfl⟩
    rw [← hbd] at HK9 HBL
    clear hbd
    refine (bytes_any w1.heap.size v9 _ w9 HK9.out.st (by have := HBL.out; omega)).mono ?_
    rintro e w10 ⟨bx, rfl, hown, hb⟩
    have hRX : Kd.R (Kd.int .u8) 5 w10 w9.heap.size (fun _ => True) bx bd := Kd.R_of_own hown (fun _ _ => trivial)
    obtain ⟨XA, xc, rfl⟩ := Kd.R_slice hRX
    obtain ⟨ks, hks⟩ := sum_ev bd (by have := HBL.out; omega)
    have hSM := qAE.calls ks XA xc bd (sumS bd) w10 (Kd.R_reads' hRX).2.2 (Kd.R_reads' hRX).2.1 hks
    have hsr := sumS_range bd
    obtain ⟨sv, hsv⟩ : ∃ sv, sv = sumS bd := ⟨_, rfl⟩
    rw [← hsv] at hSM hsr HPK
    have HSM := am hSM
    have HK10 := am (HK9.out.below' hb)
    have HSR := am hsr
    clear hown hb hRX hks hSM hsv HK9 hsr
    go_wp2_with fail
    refine HSM.out.mono ?_
    rintro e w11 ⟨rfl, hd⟩
    have HK11 := am (HK10.out.below' hd.below)
    clear hd HK10 HSM
    have hs0 := HSR.out.1
    have hs1 := HSR.out.2
    go_wp2_with fail
    go_loopg [15, 97] 4 (fun gg _ s97 wr => ∃ (kk : Nat) (v' : Value), kk ≤ 4 ∧ 4 - kk ≤ gg ∧ s97 = .int .i64 kk ∧ qAb (WK WA w1.heap.size wr v' (bd ++ be sv 4 kk)))
    case atStart => exact ⟨0, v9, by omega, by omega, rfl, ⟨by show WK WA w1.heap.size w11 v9 (bd ++ []); rw [List.append_nil]; exact HK11.out⟩⟩
    case round =>
     clear HK11
     obtain ⟨kk, v', hkk, hg, rfl, HK⟩ := hrel
     have hcase : kk = 0 ∨ kk = 1 ∨ kk = 2 ∨ kk = 3 ∨ kk = 4 := by omega
     rcases hcase with rfl | rfl | rfl | rfl | rfl
     ·go_wp2_with fail
      refine (qB6 w1.heap.size (sv / 16777216) v' _ wr HK.out.st (by have := HBL.out; simp only [List.length_append, qAD]; omega)).mono ?_
      rintro e w12 ⟨v12, rfl, hst, hs⟩
      have HK2 : qAb (WK WA w1.heap.size w12 v12 (bd ++ be sv 4 1)) := ⟨by
        have e : be sv 4 1 = be sv 4 0 ++ [sv / 16777216] := by
          rw [qDZ, show sv / 2 ^ (8 * (4 - 1 - 0)) % 256 = sv / 16777216 by rw [show (2 : Int) ^ (8 * (4 - 1 - 0)) = 16777216 from rfl] <;> omega]
        rw [e, ← List.append_assoc]
        exact HK.out.step hst hs⟩
      clear hst hs
      go_wp2
      go_roundg (4 - 1)
      case measure => omega
      case rel => exact ⟨1, v12, by omega, by omega, rfl, HK2⟩
     ·go_wp2_with fail
      refine (qB6 w1.heap.size (sv / 65536 % 256) v' _ wr HK.out.st (by have := HBL.out; simp only [List.length_append, qAD]; omega)).mono ?_
      rintro e w12 ⟨v12, rfl, hst, hs⟩
      have HK2 : qAb (WK WA w1.heap.size w12 v12 (bd ++ be sv 4 2)) := ⟨by
        have e : be sv 4 2 = be sv 4 1 ++ [sv / 65536 % 256] := by
          rw [qDZ, show sv / 2 ^ (8 * (4 - 1 - 1)) % 256 = sv / 65536 % 256 by rw [show (2 : Int) ^ (8 * (4 - 1 - 1)) = 65536 from rfl] <;> omega]
        rw [e, ← List.append_assoc]
        exact HK.out.step hst hs⟩
      clear hst hs
      go_wp2
      go_roundg (4 - 2)
      case measure => omega
      case rel => exact ⟨2, v12, by omega, by omega, rfl, HK2⟩
     ·go_wp2_with fail
      refine (qB6 w1.heap.size (sv / 256 % 256) v' _ wr HK.out.st (by have := HBL.out; simp only [List.length_append, qAD]; omega)).mono ?_
      rintro e w12 ⟨v12, rfl, hst, hs⟩
      have HK2 : qAb (WK WA w1.heap.size w12 v12 (bd ++ be sv 4 3)) := ⟨by
        have e : be sv 4 3 = be sv 4 2 ++ [sv / 256 % 256] := by
          rw [qDZ, show sv / 2 ^ (8 * (4 - 1 - 2)) % 256 = sv / 256 % 256 by rw [show (2 : Int) ^ (8 * (4 - 1 - 2)) = 256 from rfl] <;> omega]
        rw [e, ← List.append_assoc]
        exact HK.out.step hst hs⟩
      clear hst hs
      go_wp2
      go_roundg (4 - 3)
      case measure => omega
      case rel => exact ⟨3, v12, by omega, by omega, rfl, HK2⟩
     ·go_wp2_with fail
      refine (qB6 w1.heap.size (sv % 256) v' _ wr HK.out.st (by have := HBL.out; simp only [List.length_append, qAD]; omega)).mono ?_
      rintro e w12 ⟨v12, rfl, hst, hs⟩
      have HK2 : qAb (WK WA w1.heap.size w12 v12 (bd ++ be sv 4 4)) := ⟨by
        have e : be sv 4 4 = be sv 4 3 ++ [sv % 256] := by
          rw [qDZ, show sv / 2 ^ (8 * (4 - 1 - 3)) % 256 = sv % 256 by rw [show (2 : Int) ^ (8 * (4 - 1 - 3)) = 1 from rfl] <;> omega]
        rw [e, ← List.append_assoc]
        exact HK.out.step hst hs⟩
      clear hst hs
      go_wp2
      go_roundg (4 - 4)
      case measure => omega
      case rel => exact ⟨4, v12, by omega, by omega, rfl, HK2⟩
     have HP : qAb (WK WA w1.heap.size wr v' (qC9 l0_0 l0_1 a0_2)) := ⟨by rw [HPK.out]; exact HK.out⟩
     have HPL : qAb ((qC9 l0_0 l0_1 a0_2).length ≤ 90000008) := ⟨by have := HBL.out; rw [HPK.out, List.length_append, qAD]; omega⟩
     clear HK hg hkk
     obtain ⟨pb, hpb⟩ : ∃ pb, pb = qC9 l0_0 l0_1 a0_2 := ⟨_, rfl⟩
     rw [← hpb] at HP HPL HH
     clear hpb
     go_wp2_with fail
     refine (len_any w1.heap.size v' _ wr HP.out.st).mono ?_
     rintro e w13 ⟨rfl, rfl⟩
     by_cases hbig : 65536 < pb.length
     ·have hbig' : decide (65536 < (pb.length : Int)) = true := decide_eq_true (by omega)
      have H2 := HH.out
      rw [if_pos hbig] at H2
      have H2 := Option.some.inj H2
      obtain ⟨rfl, rfl⟩ : [] = r1 ∧ 3 = r2 := ⟨congrArg Prod.fst H2, congrArg Prod.snd H2⟩
      clear H2 HH
      go_wp2
      go_ret2
      exact ⟨_, rfl, Kd.R_nil _ _ _ _ _, qAJ HBA.out HBA.out.size HP.out.below⟩
     have hbig' : decide (65536 < (pb.length : Int)) = false := decide_eq_false (by omega)
     have H2 := HH.out
     rw [if_neg hbig] at H2
     have H2 := Option.some.inj H2
     obtain ⟨rfl, rfl⟩ : pb = r1 ∧ 0 = r2 := ⟨congrArg Prod.fst H2, congrArg Prod.snd H2⟩
     clear H2 HH
     go_wp2_with fail
     refine (bytes_any w1.heap.size v' _ wr HP.out.st (by have := HPL.out; omega)).mono ?_
     rintro e w14 ⟨x, rfl, hown, hb⟩
     have HOW := am hown
     have HB14 := am hb
     clear hown hb
     go_wp2
     go_ret2
     exact ⟨x, rfl, Kd.R_lower (Kd.R_of_own HOW.out (fun _ _ => trivial)) (Nat.le_trans HBA.out.size HP.out.below.size), qAJ HBA.out HBA.out.size (qAJ HP.out.below HP.out.below.size HB14.out)⟩
end Q
end
section
namespace Q
open Go.RowKit YA YC YB
attribute [local go_sem] qAS min2_int qBa min_two max_three min_three max_four min_four
def qAj.l0 : Nat → List Int → List Int → Int → Int → Option (Bool)
 | 0, _, _, _, _ => none
 | k + 1, x0, x1, aV, aJ => if aJ < aV then (if 0 ≤ aJ then (if aJ < (x0.length : Int) then (if aJ < (x1.length : Int) then (if (rd x0 aJ) = (rd x1 aJ) then (qAj.l0 k x0 x1 aV (wrap64 (aJ + 1))) else (some false)) else (none)) else (none)) else (none)) else (some true)
def qAj.f (k : Nat) (l0 : List Int) (l1 : List Int) : Option (Bool) := if (l0.length : Int) = (l1.length : Int) then (qAj.l0 k l0 l1 (l0.length : Int) 0) else (some false)
theorem qAj.mono_l : ∀ k, (∀ y0 y1 y2 y3, LeO (qAj.l0 k y0 y1 y2 y3) (qAj.l0 (k + 1) y0 y1 y2 y3))
 | 0 => fun _ _ _ _ r h => by simp [qAj.l0] at h
 | k + 1 => by
  have ih0 := qAj.mono_l k
  intro y0 y1 y2 y3
  unfold qAj.l0
  repeat' first
  | (with_reducible exact ih0 _ _ _ _)
  | (with_reducible exact LeO.refl _)
  | (with_reducible exact LeO.none _)
  | (with_reducible refine LeO.ite ?_ ?_)
  | (with_reducible refine LeO.bind ?_ (fun _ => ?_))
  | exact ih0 _ _ _ _
  | exact LeO.none _
  | refine LeO.ite ?_ ?_
  | refine LeO.bind ?_ (fun _ => ?_)
theorem qAj.mono : ∀ a0 a1 k, LeO (qAj.f k a0 a1) (qAj.f (k + 1) a0 a1) := by
 intro a0 a1 k
 have ih0 := qAj.mono_l k
 unfold qAj.f
 repeat' first
   | (with_reducible exact ih0 _ _ _ _)
   | (with_reducible exact LeO.refl _)
   | (with_reducible exact LeO.none _)
   | (with_reducible refine LeO.ite ?_ ?_)
   | (with_reducible refine LeO.bind ?_ (fun _ => ?_))
   | exact ih0 _ _ _ _
   | exact LeO.none _
   | refine LeO.ite ?_ ?_
   | refine LeO.bind ?_ (fun _ => ?_)
theorem qAj.calls (k : Nat) (A0 : Option Addr) (c0 : Nat) (l0 : List Int) (A1 : Option Addr) (c1 : Nat) (l1 : List Int) (r : Bool) (w : World) (hr0 : Kd.C (Kd.int .u8) w A0 l0.length l0) (hc0 : l0.length ≤ c0) (hr1 : Kd.C (Kd.int .u8) w A1 l1.length l1) (hc1 : l1.length ≤ c1) (h : qAj.f k l0 l1 = some r) :
  Calls Try.prog 29 #[.slice A0 l0.length c0, .slice A1 l1.length c1] w fun e w' => e = .returned (.bool r) ∧ qAB w w' := by
 have aT := am hr0
 have a3 := am hc0
 clear hr0 hc0
 have aU := am hr1
 have a4 := am hc1
 clear hr1 hc1
 have H : (if (l0.length : Int) = (l1.length : Int) then (qAj.l0 k l0 l1 (l0.length : Int) 0) else (some false)) = some r := h
 clear h
 by_cases c3 : (l0.length : Int) = (l1.length : Int)
 ·rw [if_pos c3] at H
  have aM : ((l0.length : Int) == (l1.length : Int)) = true := beq_iff_eq.mpr c3
  have aN : ((l0.length : Int) != (l1.length : Int)) = false := bn c3
  have aO : (l0.length == l1.length) = true := by first | simpa using c3 | (simp at c3 ⊢; omega)
  clear c3
  have H' := am H
  clear H
  go_enter Try.func29, Try.ntmps29
  go_wp2
  repeat (go_quiet (fail); try go_wp2)
  go_loopg [13] k (fun kq aZ w' => ∃ (aA : Int), aZ = .int .i64 aA ∧ qAb (qAj.l0 kq l0 l1 (l0.length : Int) aA = some r) ∧ qAb (kq ≤ k) ∧ qAB w w')
  case atStart => exact ⟨(0), (by first | rfl | (simp; done) | (simp [*]; done)), H', ⟨Nat.le_refl _⟩, by repeat (first | exact qAB.refl _ | apply qAB.step)⟩
  case round =>
   clear H'
   obtain ⟨aA, rfl, HA, aS, ⟨m1, rfl⟩⟩ := hrel
   cases gk with
   | zero => exact absurd HA.o (by simp [qAj.l0])
   | succ k1 =>
    have H := HA.o
    clear HA
    simp only [qAj.l0] at H
    by_cases c4 : aA < (l0.length : Int)
    rotate_left
    ·rw [if_neg c4] at H
     replace c4 := d0 c4
     obtain rfl := Option.some.inj H
     go_wp2
     repeat (go_quiet (fail); try go_wp2)
     go_ret
     exact ⟨by first | rfl | (simp; done) | (simp [*]; done), by repeat (first | exact qAB.refl _ | apply qAB.step)⟩
    rw [if_pos c4] at H
    replace c4 := d1 c4
    obtain ⟨c5, H⟩ := gd H
    replace c5 := d1 c5
    obtain ⟨c6, H⟩ := gd H
    replace c6 := d1 c6
    obtain ⟨c7, H⟩ := gd H
    replace c7 := d1 c7
    by_cases c8 : (rd l0 aA) = (rd l1 aA)
    rotate_left
    ·rw [if_neg c8] at H
     have aQ : ((rd l0 aA) == (rd l1 aA)) = false := bf c8
     have aR : ((rd l0 aA) != (rd l1 aA)) = true := bne_iff_ne.mpr c8
     obtain rfl := Option.some.inj H
     have aB : 0 ≤ (aA : Int) := of_decide_eq_true (by first | (with_reducible assumption) | assumption)
     have aD : aA < (l0.length : Int) := of_decide_eq_true (by first | (with_reducible assumption) | assumption)
     obtain ⟨aK, aH, aF⟩ := Kd.at_int aT.o aA aB aD
     cases aH
     replace aB := eq_true aB
     replace aD := eq_true aD
     have aC : 0 ≤ (aA : Int) := of_decide_eq_true (by first | (with_reducible assumption) | assumption)
     have aE : aA < (l1.length : Int) := of_decide_eq_true (by first | (with_reducible assumption) | assumption)
     obtain ⟨aL, aI, aG⟩ := Kd.at_int aU.o aA aC aE
     cases aI
     replace aC := eq_true aC
     replace aE := eq_true aE
     go_wp2
     repeat (go_quiet (fail); try go_wp2)
     go_ret
     exact ⟨by first | rfl | (simp; done) | (simp [*]; done), by repeat (first | exact qAB.refl _ | apply qAB.step)⟩
    rw [if_pos c8] at H
    have aQ : ((rd l0 aA) == (rd l1 aA)) = true := beq_iff_eq.mpr c8
    have aR : ((rd l0 aA) != (rd l1 aA)) = false := bn c8
    clear c8
    have H' := am H
    clear H
    have aB : 0 ≤ (aA : Int) := of_decide_eq_true (by first | (with_reducible assumption) | assumption)
    have aD : aA < (l0.length : Int) := of_decide_eq_true (by first | (with_reducible assumption) | assumption)
    obtain ⟨aK, aH, aF⟩ := Kd.at_int aT.o aA aB aD
    cases aH
    replace aB := eq_true aB
    replace aD := eq_true aD
    have aC : 0 ≤ (aA : Int) := of_decide_eq_true (by first | (with_reducible assumption) | assumption)
    have aE : aA < (l1.length : Int) := of_decide_eq_true (by first | (with_reducible assumption) | assumption)
    obtain ⟨aL, aI, aG⟩ := Kd.at_int aU.o aA aC aE
    cases aI
    replace aC := eq_true aC
    replace aE := eq_true aE
    go_wp2
    repeat (go_quiet (fail); try go_wp2)
    go_roundg k1
    case measure => have := aS.o; omega
    case rel => exact ⟨(wrap64 (aA + 1)), (by first | rfl | (simp; done) | (simp [*]; done)), H', ⟨by have := aS.o; omega⟩, by repeat (first | exact qAB.refl _ | apply qAB.step)⟩
 ·rw [if_neg c3] at H
  have aM : ((l0.length : Int) == (l1.length : Int)) = false := bf c3
  have aN : ((l0.length : Int) != (l1.length : Int)) = true := bne_iff_ne.mpr c3
  have aO : (l0.length == l1.length) = false := by first | simpa using c3 | (simp at c3 ⊢; omega)
  obtain rfl := Option.some.inj H
  go_enter Try.func29, Try.ntmps29
  go_wp2
  repeat (go_quiet (fail); try go_wp2)
  go_ret
  exact ⟨by first | rfl | (simp; done) | (simp [*]; done), by repeat (first | exact qAB.refl _ | apply qAB.step)⟩
def qBl.f  : Option (Int × Int × Int × Int) := some (102, 105, 109, 103)
theorem qBl.calls  (r1 : Int) (r2 : Int) (r3 : Int) (r4 : Int) (w : World) (h : qBl.f  = some (r1, r2, r3, r4)) :
  Calls Try.prog 49 #[] w fun e w' => e = .returned (.agg #[.int .u8 r1, .int .u8 r2, .int .u8 r3, .int .u8 r4]) ∧ Below w.heap.size w w' := by
 have hu118 := Try.underlying118
 have HB := am (Below.refl w.heap.size w)
 have H : (some (102, 105, 109, 103)) = some (r1, r2, r3, r4) := h
 clear h
 simp only [Option.some.injEq, Prod.mk.injEq] at H
 obtain ⟨rfl, rfl, rfl, rfl⟩ := H
 go_enter Try.func49, Try.ntmps49
 go_wp2_with (first | ((with_reducible refine qAC (N := 0) rfl ?_); refine box_event ?hg (N := 0) ?hd (cs := #[.int .u8 0, .int .u8 0, .int .u8 0, .int .u8 0]) (t := 118) ?hr ?_; (case hd => rfl); (case hg => rfl); (case hr => first | (go_simp; done) | (go_simp; rfl)); intro aB hg w1 hbox hb; have n0_ := am (qAk (by repeat (first | (with_reducible first | exact HB.o | apply qAi | apply qAp | apply qAL) | exact HB.o)) hb); have n1_ := am (hbox); have n2_ := am ((by rw [hg]; exact (qAf (by repeat (first | (with_reducible first | exact HB.o | apply qAi | apply qAp | apply qAL) | exact HB.o))) : w.heap.size ≤ aB)); have n3_ := am ((by rw [hg]; exact (qAf (by repeat (first | (with_reducible first | exact HB.o | apply qAi | apply qAp | apply qAL) | exact HB.o))) : w.heap.size ≤ aB)); clear HB; have HB := n0_; have aA := n1_; have aL := n2_; have aC := n3_; clear n0_ n1_ n2_ n3_; clear hb hbox hg; obtain ⟨aD, aE, aF, aG⟩ := c4_ w1 aA.o; obtain ⟨aH, aI, aJ, aK⟩ := z4_ aA.o))
 refine bodyPost_ret (results_cell_row rfl _ _ aB 118 #[.int .u8 102, .int .u8 105, .int .u8 109, .int .u8 103] (0, 0) _ rfl (by (with_reducible repeat (first | refine qBG ?_ _ | refine qBg ?_ | refine qAG ?_ _)); refine qAx (cs := #[.int .u8 102, .int .u8 105, .int .u8 109, .int .u8 0]) ?_ 3 _ rfl; (with_reducible repeat (first | refine qBG ?_ _ | refine qBg ?_ | refine qAG ?_ _)); refine qAx (cs := #[.int .u8 102, .int .u8 105, .int .u8 0, .int .u8 0]) ?_ 2 _ rfl; (with_reducible repeat (first | refine qBG ?_ _ | refine qBg ?_ | refine qAG ?_ _)); refine qAx (cs := #[.int .u8 102, .int .u8 0, .int .u8 0, .int .u8 0]) ?_ 1 _ rfl; (with_reducible repeat (first | refine qBG ?_ _ | refine qBg ?_ | refine qAG ?_ _)); refine qAx (cs := #[.int .u8 0, .int .u8 0, .int .u8 0, .int .u8 0]) ?_ 0 _ rfl; (with_reducible repeat (first | refine qBG ?_ _ | refine qBg ?_ | refine qAG ?_ _)); exact aA.o) Try.underlying118 rfl (by kernel_rfl)) rfl ?_
 exact ⟨by first | rfl | (simp [errW_none, errW_some] <;> rfl) | (simp [*, errW_none, errW_some] <;> rfl), by repeat (first | (with_reducible first | exact HB.o | apply qAi | apply qAp | apply qAL | refine qAs ?_ aC.o) | exact HB.o)⟩
def qA3.l0 : Nat → List Int → Int → Int → List Int → Int → Int → Option (List Int × Int × Int)
 | 0, _, _, _, _, _, _ => none
 | k + 1, x3, x6, x7, aR, aT, aU => if x7 < x6 then ((qAo.f aR aT aU).bind fun aK => (if x3.length < 17592186044416 then (qA3.l0 k (x3 ++ [wrap64 (aK.1)]) x6 (wrap64 (x7 + 1)) aR aK.2.1 aK.2.2) else (none))) else (some (x3, aT, aU))
def qA3.f (k : Nat) (s0_0 : List Int) (s0_1 : Int) (s0_2 : Int) : Option (List Int × Int × Int) := (qAo.f s0_0 s0_1 s0_2).bind fun aD => (qA3.l0 k ([] : List Int) (wrap64 (aD.1)) 0 s0_0 aD.2.1 aD.2.2)
theorem qA3.mono_l : ∀ k, (∀ y0 y1 y2 y3 y4 y5, LeO (qA3.l0 k y0 y1 y2 y3 y4 y5) (qA3.l0 (k + 1) y0 y1 y2 y3 y4 y5))
 | 0 => fun _ _ _ _ _ _ r h => by simp [qA3.l0] at h
 | k + 1 => by
  have ih0 := qA3.mono_l k
  intro y0 y1 y2 y3 y4 y5
  unfold qA3.l0
  repeat' first
  | (with_reducible exact ih0 _ _ _ _ _ _)
  | (with_reducible exact LeO.refl _)
  | (with_reducible exact LeO.none _)
  | (with_reducible refine LeO.ite ?_ ?_)
  | (with_reducible refine LeO.bind ?_ (fun _ => ?_))
  | exact ih0 _ _ _ _ _ _
  | exact LeO.none _
  | refine LeO.ite ?_ ?_
  | refine LeO.bind ?_ (fun _ => ?_)
theorem qA3.mono : ∀ a0 a1 a2 k, LeO (qA3.f k a0 a1 a2) (qA3.f (k + 1) a0 a1 a2) := by
 intro a0 a1 a2 k
 have ih0 := qA3.mono_l k
 unfold qA3.f
 repeat' first
   | (with_reducible exact ih0 _ _ _ _ _ _)
   | (with_reducible exact LeO.refl _)
   | (with_reducible exact LeO.none _)
   | (with_reducible refine LeO.ite ?_ ?_)
   | (with_reducible refine LeO.bind ?_ (fun _ => ?_))
   | exact ih0 _ _ _ _ _ _
   | exact LeO.none _
   | refine LeO.ite ?_ ?_
   | refine LeO.bind ?_ (fun _ => ?_)
theorem qA3.calls (k : Nat) (g : Nat) (s0_0 : List Int) (s0_1 : Int) (s0_2 : Int) (r1 : List Int) (r2 : Int) (r3 : Int) (w0 w : World) (hI : qAd w0 w g s0_0 s0_1 s0_2) (hB : Below w0.heap.size w0 w) (h : qA3.f k s0_0 s0_1 s0_2 = some (r1, r2, r3)) :
  Calls Try.prog 50 #[.pointer (some ⟨g, 0, none⟩)] w fun e w' => ∃ v0_ : Value, e = .returned (v0_) ∧ Kd.R (Kd.int .i64) 3 w' w.heap.size (fun _ => True) v0_ r1 ∧ qAd w0 w' g s0_0 r2 r3 ∧ Below w0.heap.size w0 w' ∧ qAh w w' g none := by
 have aC := am hI
 have HK := am (qAh.refl w g none)
 have HL := am hB.size
 clear hI
 have aa := am hB.size
 have HB := am hB
 clear hB
 have H : ((qAo.f s0_0 s0_1 s0_2).bind fun aD => (qA3.l0 k ([] : List Int) (wrap64 (aD.1)) 0 s0_0 aD.2.1 aD.2.2)) = some (r1, r2, r3) := h
 clear h
 replace H := bm H
 obtain ⟨⟨aI, aV, aW⟩, a5, H⟩ := H
 replace H : (qA3.l0 k ([] : List Int) (wrap64 (aI)) 0 s0_0 aV aW) = some (r1, r2, r3) := H
 have A2 := am a5
 clear a5
 have H' := am H
 clear H
 go_enter Try.func50, Try.ntmps50
 go_wp2_with (first | ((with_reducible refine qAy (f := 20) rfl ?_); refine goesL_ (some 5) rfl rfl Try.func20 (by kernel_rfl) rfl #[.pointer (some ⟨g, 0, none⟩)] rfl (by (try simp only [List.map_toArray, List.map_cons, List.map_nil]); first | done | rfl | (simp only [List.length_drop, List.length_take]; rfl)) ?_; (with_reducible refine (qAo.calls g s0_0 s0_1 s0_2 aI aV aW w0 _ ?side1 ?side2 A2.o).mono ?_); (case side1 => repeat (first | (with_reducible first | exact aC.o | apply qAd.alloc | apply qAd.drewN | apply qAd.drew | apply qAd.set_1 | apply qAd.set_2) | exact aC.o)); (case side2 => repeat (first | (with_reducible first | exact HB.o | apply qAi | apply qAp | apply qAL | refine qAs ?_ (qAd.ge aC.o)) | exact HB.o)); rintro e w3 ⟨rfl, hi, hb, hk⟩; refine ⟨_, rfl, ?_⟩; have n0_ := am (qAh.trans (by repeat (first | (with_reducible first | exact HK.o | apply qAh.set_ | apply qB0 | apply qBy | apply qAT) | exact HK.o)) hk (.inl rfl)); have n1_ := am (hb); have n2_ := am (hi); clear HK; clear HB; clear aC; have HK := n0_; have HB := n1_; have aC := n2_; clear n0_ n1_ n2_))
 go_loopg [3, 7] k (fun kq v3 v7 w' => ∃ (aJ : List Int) (aE : Int) (aA : Int) (aB : Int), v7 = .int .i64 aE ∧ qAb (qA3.l0 kq aJ (wrap64 (aI)) aE s0_0 aA aB = some (r1, r2, r3)) ∧ qAb (kq ≤ k) ∧ qAb (Kd.R (Kd.int .i64) 3 w' w.heap.size (fun _ => True) v3 aJ) ∧ qAb (qAd w0 w' g s0_0 aA aB) ∧ qAb (qAh w w' g none) ∧ qAb (Below w0.heap.size w0 w'))
 case atStart => exact ⟨(([] : List Int)), (0), (aV), (aW), (by first | rfl | (simp; done) | (simp [*]; done)), H', ⟨Nat.le_refl _⟩, ⟨by first | exact Kd.R_nil _ _ _ _ _ | exact Kd.N_nil _ _ _ _ _ | exact Kd.V_nil _ _ _ _ _ | exact Kd.Q_nil _ _ _ _ _ | exact Kd.S_nil _ _ _ _ _⟩, ⟨by repeat (first | (with_reducible first | exact aC.o | apply qAd.alloc | apply qAd.drewN | apply qAd.drew | apply qAd.set_1 | apply qAd.set_2) | exact aC.o)⟩, ⟨by repeat (first | (with_reducible first | exact HK.o | apply qAh.set_ | apply qB0 | apply qBy | apply qAT) | exact HK.o)⟩, ⟨by repeat (first | (with_reducible first | exact HB.o | apply qAi | apply qAp | apply qAL | refine qAs ?_ (qAd.ge aC.o)) | exact HB.o)⟩⟩
 case round =>
  clear H'
  obtain ⟨aJ, aE, aA, aB, rfl, HA, a7, aG, aC, HK, HB⟩ := hrel
  cases gk with
  | zero => exact absurd HA.o (by simp [qA3.l0])
  | succ k1 =>
   have H := HA.o
   clear HA
   simp only [qA3.l0] at H
   by_cases c4 : aE < (wrap64 (aI))
   rotate_left
   ·rw [if_neg c4] at H
    replace c4 := d0 c4
    simp only [Option.some.injEq, Prod.mk.injEq] at H
    obtain ⟨rfl, rfl, rfl⟩ := H
    go_wp2
    go_ret
    exact ⟨_, by first | rfl | (simp [errW_none, errW_some] <;> rfl) | (simp [*, errW_none, errW_some] <;> rfl), by (with_reducible repeat (first | apply Kd.R_alloc | apply Kd.R_drewN | apply Kd.R_drew)); exact aG.o, by repeat (first | (with_reducible first | exact aC.o | apply qAd.alloc | apply qAd.drewN | apply qAd.drew | apply qAd.set_1 | apply qAd.set_2) | exact aC.o), by repeat (first | (with_reducible first | exact HB.o | apply qAi | apply qAp | apply qAL | refine qAs ?_ (qAd.ge aC.o)) | exact HB.o), by repeat (first | (with_reducible first | exact HK.o | apply qAh.set_ | apply qB0 | apply qBy | apply qAT) | exact HK.o)⟩
   rw [if_pos c4] at H
   replace c4 := d1 c4
   replace H := bm H
   obtain ⟨⟨aM, aN, aQ⟩, a6, H⟩ := H
   replace H : (if aJ.length < 17592186044416 then (qA3.l0 k1 (aJ ++ [wrap64 (aM)]) (wrap64 (aI)) (wrap64 (aE + 1)) s0_0 aN aQ) else (none)) = some (r1, r2, r3) := H
   have A5 := am a6
   clear a6
   obtain ⟨c6, H⟩ := gd H
   have a3 := am c6
   clear c6
   obtain ⟨aZ, aH⟩ : ∃ y_ : List Int, y_ = (aJ ++ [wrap64 (aM)]) := ⟨_, rfl⟩
   replace H : (qA3.l0 k1 aZ (wrap64 (aI)) (wrap64 (aE + 1)) s0_0 aN aQ) = some (r1, r2, r3) := by first | (rw [aH]; with_reducible exact H) | (have H2_ := (Option.bind_some _ _).symm.trans H; rw [aH]; with_reducible exact H2_) | (have H2_ := (Option.bind_some _ _).symm.trans H; with_reducible exact H2_) | with_reducible exact H | (rw [aH]; exact H) | exact H
   have aY := am aH
   clear aH
   have H' := am H
   clear H
   go_wp2_with (first | ((with_reducible refine qAy (f := 20) rfl ?_); refine goesL_ (some 11) rfl rfl Try.func20 (by kernel_rfl) rfl #[.pointer (some ⟨g, 0, none⟩)] rfl (by (try simp only [List.map_toArray, List.map_cons, List.map_nil]); first | done | rfl | (simp only [List.length_drop, List.length_take]; rfl)) ?_; (with_reducible refine (qAo.calls g s0_0 aA aB aM aN aQ w0 _ ?side1 ?side2 A5.o).mono ?_); (case side1 => repeat (first | (with_reducible first | exact aC.o | apply qAd.alloc | apply qAd.drewN | apply qAd.drew | apply qAd.set_1 | apply qAd.set_2) | exact aC.o)); (case side2 => repeat (first | (with_reducible first | exact HB.o | apply qAi | apply qAp | apply qAL | refine qAs ?_ (qAd.ge aC.o)) | exact HB.o)); rintro e w7 ⟨rfl, hi, hb, hk⟩; refine ⟨_, rfl, ?_⟩; have n0_ := am (Kd.R_kp (qAd.apart (show qAd w0 _ g s0_0 aA aB from by repeat (first | (with_reducible first | exact aC.o | apply qAd.alloc | apply qAd.drewN | apply qAd.drew | apply qAd.set_1 | apply qAd.set_2) | exact aC.o)) (by (with_reducible repeat (first | apply Kd.R_alloc | apply Kd.R_drewN | apply Kd.R_drew)); exact aG.o) (by decide)) hk); have n1_ := am (qAh.trans (by repeat (first | (with_reducible first | exact HK.o | apply qAh.set_ | apply qB0 | apply qBy | apply qAT) | exact HK.o)) hk (.inl rfl)); have n2_ := am (hb); have n3_ := am (hi); clear aG; clear HK; clear HB; clear aC; have aG := n0_; have HK := n1_; have HB := n2_; have aC := n3_; clear n0_ n1_ n2_ n3_) | ((with_reducible refine qCf (b := .append) (xs := #[.tmp 9, .tmp 13]) rfl ?_); at_builtin; refine Kd.R_append (Kd.int .i64) w.heap.size rfl (.tmp 9) (.tmp 13) 72 3 (.int .i64 0) 8 rfl Try.underlying72 info3 rfl (by decide) (by omega) u3 aJ (wrap64 (aM)) [.int .i64 (wrap64 (aM))] (fun _ => True) (fun _ => False) rfl rfl ?aP (fun _ hk => hk.elim) ?aF ?aO (Below.refl _ _) ?aS ?aL ?_; (case aP => exact rfl); (case aF => exact (fun _ _ => trivial)); (case aO => exact (by (with_reducible repeat (first | apply Kd.R_alloc | apply Kd.R_drewN | apply Kd.R_drew)); exact aG.o)); (case aS => exact (keep_size (w := w) (g := g) (row := none) (by repeat (first | (with_reducible first | exact HK.o | apply qAh.set_ | apply qB0 | apply qBy | apply qAT) | exact HK.o)))); (case aL => have := a3.o; omega); intro a9 w8 ho hb hg a8; rw [← aY.o] at ho; have n0_ := am (qAd.grownR (show qAd w0 _ g s0_0 aN aQ from by repeat (first | (with_reducible first | exact aC.o | apply qAd.alloc | apply qAd.drewN | apply qAd.drew | apply qAd.set_1 | apply qAd.set_2) | exact aC.o)) hg aC.o aG.o (by decide) (fun b_ t_ h_ => by (with_reducible repeat (first | apply TyB.alloc | apply TyB.drewN | apply TyB.drew | apply TyB.set)); exact h_)); have n1_ := am (below_weaken (by repeat (first | (with_reducible first | exact HB.o | apply qAi | apply qAp | apply qAL | refine qAs ?_ (qAd.ge aC.o)) | exact HB.o)) HL.o hb); have n2_ := am (qAh.trans (by repeat (first | (with_reducible first | exact HK.o | apply qAh.set_ | apply qB0 | apply qBy | apply qAT) | exact HK.o)) (qAh.of_grown hg g) (Kd.R_base2 aG.o)); have n3_ := am (ho); clear aC; clear HB; clear HK; clear aG; have aC := n0_; have HB := n1_; have HK := n2_; have aX := n3_; clear n0_ n1_ n2_ n3_; clear ho hb hg a8))
   go_roundg k1
   case measure => have := a7.o; omega
   case rel => exact ⟨(aZ), (wrap64 (aE + 1)), (aN), (aQ), (by first | rfl | (simp; done) | (simp [*]; done)), H', ⟨by have := a7.o; omega⟩, ⟨by (with_reducible repeat (first | apply Kd.R_alloc | apply Kd.R_drewN | apply Kd.R_drew)); exact aX.o⟩, ⟨by repeat (first | (with_reducible first | exact aC.o | apply qAd.alloc | apply qAd.drewN | apply qAd.drew | apply qAd.set_1 | apply qAd.set_2) | exact aC.o)⟩, ⟨by repeat (first | (with_reducible first | exact HK.o | apply qAh.set_ | apply qB0 | apply qBy | apply qAT) | exact HK.o)⟩, ⟨by repeat (first | (with_reducible first | exact HB.o | apply qAi | apply qAp | apply qAL | refine qAs ?_ (qAd.ge aC.o)) | exact HB.o)⟩⟩
theorem eqA118 (d : Nat) (w : World) (x0 y0 : Int) (x1 y1 : Int) (x2 y2 : Int) (x3 y3 : Int) :
  (Op.equalIn (d + 2) 118 (.agg #[.int .u8 x0, .int .u8 x1, .int .u8 x2, .int .u8 x3]) (.agg #[.int .u8 y0, .int .u8 y1, .int .u8 y2, .int .u8 y3])).run Try.prog w = .ok (x0 == y0 && (x1 == y1 && (x2 == y2 && (x3 == y3)))) w := by
 have hi : (Try.prog.info? 5).map (fun i => (i.zero, i.size, i.bytes)) = some (some (.int .u8 0), 1, 1) := by kernel_rfl
 obtain ⟨i0, hi0, hx⟩ := Option.map_eq_some_iff.1 hi
 have hc : Try.prog.cellsOf 5 = 1 := by kernel_rfl
 rw [run_equalIn_array w (d + 1) _ _ Try.underlying118 hi0, hc]
 simp only [show List.range 4 = [0, 1, 2, 3] from rfl, Op.eqItems, Sem.run_bind]
 go_simp
 by_cases h0 : x0 = y0 <;> by_cases h1 : x1 = y1 <;> by_cases h2 : x2 = y2 <;> by_cases h3 : x3 = y3 <;> simp [h0, h1, h2, h3]
end Q
end
end Go.Proofs.Ytfjpnjbinbhcfaa
