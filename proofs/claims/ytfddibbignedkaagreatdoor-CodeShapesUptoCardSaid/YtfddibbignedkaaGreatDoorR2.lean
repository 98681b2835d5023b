/- What CodeShapes rests on: the words, the contracts of code.Shape and of the document's Shape. -/
import Derived.Test.YtfddibbignedkaaGreatDoorR1
import Derived.Deep.RegionHeld3
import Derived.Deep.Cut
set_option maxHeartbeats 8000000
set_option maxRecDepth 100000
set_option linter.unusedVariables false
set_option linter.unusedSimpArgs false
namespace Go.Proofs.YtfddibbignedkaaGreatDoor
section
namespace Q
open Go.RowKit YA YB YC
attribute [local go_sem] max2_int min2_int max_two min_two max_three min_three max_four min_four
mutual
def qAd.j0 : Nat → Bool → List Int → List (S200) → List Int → List (S200) → Option (Bool)
 | 0, _, _, _, _, _ => none
 | k + 1, bp, a6, aJ, a7, aK => if bp = true then (some false) else (qAd.l0 k 0 a6 aJ a7 aK)
def qAd.l0 : Nat → Int → List Int → List (S200) → List Int → List (S200) → Option (Bool)
 | 0, _, _, _, _, _ => none
 | k + 1, x5, a6, aJ, a7, aK => if x5 < (aJ.length : Int) then (if 0 ≤ x5 then (if x5 < (aK.length : Int) then (if ((qBc aJ x5).f0) = ((qBc aK x5).f0) then ((qAh.f k ((qBc aJ x5).f1) ((qBc aK x5).f1)).bind fun bA => (if bA = true then (qAd.l0 k (wrap64 (x5 + 1)) a6 aJ a7 aK) else (some false))) else (some false)) else (none)) else (none)) else (some true)
end
def qAd.f (k : Nat) (l0_0 : List Int) (l0_1 : List (S200)) (l1_0 : List Int) (l1_1 : List (S200)) : Option (Bool) := (qAh.f k l0_0 l1_0).bind fun ah => (if ah = true then (qAd.j0 k ((l0_1.length : Int) != (l1_1.length : Int)) l0_0 l0_1 l1_0 l1_1) else (qAd.j0 k true l0_0 l0_1 l1_0 l1_1))
theorem qAd.calls (k : Nat) (a8 : Option Addr) (ac : Nat) (l0_0 : List Int) (a9 : Option Addr) (ad : Nat) (l0_1 : List (S200)) (ai : Option Addr) (ap : Nat) (l1_0 : List Int) (aj : Option Addr) (aq : Nat) (l1_1 : List (S200)) (r : Bool) (w : World) (hr0_0 : Kd.C (Kd.int .i64) w a8 l0_0.length l0_0) (hc0_0 : l0_0.length ≤ ac) (hr0_1 : Kd.C k200 w a9 l0_1.length l0_1) (hc0_1 : l0_1.length ≤ ad) (hr1_0 : Kd.C (Kd.int .i64) w ai l1_0.length l1_0) (hc1_0 : l1_0.length ≤ ap) (hr1_1 : Kd.C k200 w aj l1_1.length l1_1) (hc1_1 : l1_1.length ≤ aq) (h : qAd.f k l0_0 l0_1 l1_0 l1_1 = some r) :
  Calls Tryz.prog 100 #[.agg #[.slice a8 l0_0.length ac, .slice a9 l0_1.length ad], .agg #[.slice ai l1_0.length ap, .slice aj l1_1.length aq]] w fun e w' => e = .returned (.bool r) ∧ Below w.heap.size w w' := by
 have bD := am hr0_0
 have bB := am hc0_0
 clear hr0_0 hc0_0
 have aa := am hr0_1
 clear hr0_1 hc0_1
 have bE := am hr1_0
 have bC := am hc1_0
 clear hr1_0 hc1_0
 have ab := am hr1_1
 clear hr1_1 hc1_1
 have HB := am (Below.refl w.heap.size w)
 have H : ((qAh.f k l0_0 l1_0).bind fun ah => (if ah = true then (qAd.j0 k ((l0_1.length : Int) != (l1_1.length : Int)) l0_0 l0_1 l1_0 l1_1) else (qAd.j0 k true l0_0 l0_1 l1_0 l1_1))) = some r := h
 clear h
 have b9 := am H
 clear H
 go_enter Tryz.func100, Tryz.ntmps100
 go_upto_region 1 with (first | ((with_reducible refine qAS (N := 2) rfl ?_); (try (refine qBu (by rfl) ?_; dsimp only)); refine bx 2 #[.slice a8 l0_0.length ac, .slice a9 l0_1.length ad] 117 ?_; intro aL hg w4 hbox hb; have n0_ := am (qAu (by exact HB.o) hb); have n1_ := am (hbox); have n2_ := am ((by rw [hg]; exact (qAm (by exact HB.o)) : w.heap.size ≤ aL)); have n3_ := am ((by rw [hg]; exact (qAm (by exact HB.o)) : w.heap.size ≤ aL)); clear HB; have HB := n0_; have aF := n1_; clear n0_ n1_ n2_ n3_; clear hb hbox hg) | ((with_reducible refine qAS (N := 3) rfl ?_); (try (refine qBu (by rfl) ?_; dsimp only)); refine bx 3 #[.slice ai l1_0.length ap, .slice aj l1_1.length aq] 117 ?_; intro aX hg w5 hbox hb; have n0_ := am (qAe (g := aL) (o := .cells #[.slice a8 l0_0.length ac, .slice a9 l0_1.length ad] 117 (0, 0)) (by exact aF.o) hb); have n1_ := am (qAu (by exact HB.o) hb); have n2_ := am (hbox); have n3_ := am ((by rw [hg]; exact (qAm (by exact HB.o)) : w.heap.size ≤ aX)); have n4_ := am ((by rw [hg]; exact (qAm (by exact HB.o)) : w.heap.size ≤ aX)); have n5_ := am ((by rw [hg]; exact Nat.ne_of_lt (qAQ (g := aL) (o := .cells #[.slice a8 l0_0.length ac, .slice a9 l0_1.length ad] 117 (0, 0)) (by exact aF.o)) : aL ≠ aX)); have n6_ := am ((by rw [hg]; exact Nat.ne_of_gt (qAQ (g := aL) (o := .cells #[.slice a8 l0_0.length ac, .slice a9 l0_1.length ad] 117 (0, 0)) (by exact aF.o)) : aX ≠ aL)); clear aF; clear HB; have aF := n0_; have HB := n1_; have aI := n2_; clear n0_ n1_ n2_ n3_ n4_ n5_ n6_; clear hb hbox hg))
 repeat (go_quiet (fail); go_upto_region 1 with (fail))
 (skip)
 go_cut [20] (fun bo wc => ∃ (kq : Nat) (ag : Bool), bo = .bool ag ∧ qAc (qAd.j0 kq ag l0_0 l0_1 l1_0 l1_1 = some r) ∧ qAc (kq ≤ k) ∧ qAc (wc.heap[aL]? = some (.cells #[(.slice a8 l0_0.length ac), (.slice a9 l0_1.length ad)] 117 (0, 0))) ∧ qAc (wc.heap[aX]? = some (.cells #[(.slice ai l1_0.length ap), (.slice aj l1_1.length aq)] 117 (0, 0))) ∧ qAc (Below w.heap.size w wc))
 case first =>
  have H := b9.o
  clear b9
  replace H := bm H
  obtain ⟨ah, bg, H⟩ := H
  replace H : (if ah = true then (qAd.j0 k ((l0_1.length : Int) != (l1_1.length : Int)) l0_0 l0_1 l1_0 l1_1) else (qAd.j0 k true l0_0 l0_1 l1_0 l1_1)) = some r := H
  have A6 := am bg
  clear bg
  by_cases c7 : ah = true
  rotate_left
  ·replace c7 := Bool.eq_false_iff.mpr c7
   subst c7
   replace H : (qAd.j0 k true l0_0 l0_1 l1_0 l1_1) = some r := by rw [if_neg (show ¬ (false = true) by decide)] at H; exact H
   have H' := am H
   clear H
   have b0 := c1_ w5 aF.o
   have b1 := c1_ w5 aI.o
   go_wp2_with ((go_at_call 29; (with_reducible refine (qAh.calls k _ _ l0_0 _ _ l1_0 false _ ?side1 ?side2 ?side3 ?side4 A6.o).mono ?_); (case side1 => repeat ((exact (Kd.C_below bD.o HB.o)))); (case side2 => exact bB.o); (case side3 => repeat ((exact (Kd.C_below bE.o HB.o)))); (case side4 => exact bC.o); rintro e w' ⟨rfl, ⟨nd, rfl⟩⟩; (skip)))
   repeat (go_quiet (fail); skip)
   go_meet
   case rel => exact ⟨_, (true), (by (rfl)), H', ⟨by (omega)⟩, ⟨by (with_reducible repeat ((refine qB8 ?_ _))); exact aF.o⟩, ⟨by (with_reducible repeat ((refine qB8 ?_ _))); exact aI.o⟩, ⟨by repeat ((with_reducible first | exact HB.o | apply qAg))⟩⟩
  subst c7
  replace H : (qAd.j0 k ((l0_1.length : Int) != (l1_1.length : Int)) l0_0 l0_1 l1_0 l1_1) = some r := by rw [if_pos rfl] at H; exact H
  have H' := am H
  clear H
  obtain ⟨ba, bb⟩ := c2_ w5 aF.o
  obtain ⟨bY, bZ⟩ := c2_ w5 aI.o
  go_wp2_with ((go_at_call 29; (with_reducible refine (qAh.calls k _ _ l0_0 _ _ l1_0 true _ ?side1 ?side2 ?side3 ?side4 A6.o).mono ?_); (case side1 => repeat ((exact (Kd.C_below bD.o HB.o)))); (case side2 => exact bB.o); (case side3 => repeat ((exact (Kd.C_below bE.o HB.o)))); (case side4 => exact bC.o); rintro e w' ⟨rfl, ⟨nd, rfl⟩⟩; (skip)))
  repeat (go_quiet (fail); skip)
  go_meet
  case rel => exact ⟨_, (((l0_1.length : Int) != (l1_1.length : Int))), (by (rfl)), H', ⟨by (omega)⟩, ⟨by (with_reducible repeat ((refine qB8 ?_ _))); exact aF.o⟩, ⟨by (with_reducible repeat ((refine qB8 ?_ _))); exact aI.o⟩, ⟨by repeat ((with_reducible first | exact HB.o | apply qAg))⟩⟩
 case rest =>
  clear b9
  skip
  skip
  skip
  skip
  skip
  skip
  skip
  skip
  skip
  skip
  skip
  skip
  skip
  skip
  skip
  skip
  skip
  skip
  skip
  skip
  skip
  skip
  obtain ⟨kq, ag, rfl, HA, bh, aF, aI, HB⟩ := hcut
  cases kq with
  | zero => exact absurd HA.o (by simp [qAd.j0])
  | succ bc =>
   have H := HA.o
   clear HA
   simp only [qAd.j0] at H
   by_cases bU : ag = true
   ·subst bU
    replace H : (some false) = some r := by rw [if_pos rfl] at H; exact H
    obtain rfl := Option.some.inj H
    go_wp2
    repeat (go_quiet (fail); skip)
    go_ret
    exact ⟨by (rfl), by exact HB.o⟩
   replace bU := Bool.eq_false_iff.mpr bU
   subst bU
   replace H : (qAd.l0 bc 0 l0_0 l0_1 l1_0 l1_1) = some r := by rw [if_neg (show ¬ (false = true) by decide)] at H; exact H
   have H' := am H
   clear H
   go_wp2
   repeat (go_quiet (fail); skip)
   go_loopg [5] bc (fun kq v5 w' => ∃ (aA : Int), v5 = .int .i64 aA ∧ qAc (qAd.l0 kq aA l0_0 l0_1 l1_0 l1_1 = some r) ∧ qAc (kq ≤ bc) ∧ qAc (w'.heap[aL]? = some (.cells #[(.slice a8 l0_0.length ac), (.slice a9 l0_1.length ad)] 117 (0, 0))) ∧ qAc (w'.heap[aX]? = some (.cells #[(.slice ai l1_0.length ap), (.slice aj l1_1.length aq)] 117 (0, 0))) ∧ qAc (Below w.heap.size w w'))
   case atStart => exact ⟨(0), (by (rfl)), H', ⟨Nat.le_refl _⟩, ⟨by exact aF.o⟩, ⟨by exact aI.o⟩, ⟨by exact HB.o⟩⟩
   case round =>
    clear H'
    skip
    skip
    skip
    skip
    skip
    skip
    skip
    skip
    skip
    skip
    skip
    skip
    skip
    skip
    skip
    skip
    skip
    skip
    skip
    skip
    skip
    skip
    skip
    skip
    obtain ⟨aA, rfl, HA, bi, aF, aI, HB⟩ := hrel
    cases gk with
    | zero => exact absurd HA.o (by simp [qAd.l0])
    | succ k2 =>
     have H := HA.o
     clear HA
     simp only [qAd.l0] at H
     by_cases bP : aA < (l0_1.length : Int)
     rotate_left
     ·rw [if_neg bP] at H
      replace bP := d0 bP
      obtain rfl := Option.some.inj H
      obtain ⟨-, b8⟩ := c2_ wr aF.o
      go_wp2
      repeat (go_quiet (fail); skip)
      go_ret
      exact ⟨by (rfl), by exact HB.o⟩
     rw [if_pos bP] at H
     replace bP := d1 bP
     obtain ⟨bV, H⟩ := gd H
     replace bV := d1 bV
     obtain ⟨bW, H⟩ := gd H
     replace bW := d1 bW
     by_cases bS : ((qBc l0_1 aA).f0) = ((qBc l1_1 aA).f0)
     rotate_left
     ·rw [if_neg bS] at H
      have bT : (((qBc l0_1 aA).f0) != ((qBc l1_1 aA).f0)) = true := bne_iff_ne.mpr bS
      obtain rfl := Option.some.inj H
      obtain ⟨-, b6⟩ := c2_ wr aF.o
      have aU : 0 ≤ (aA : Int) := of_decide_eq_true (by (with_reducible assumption))
      have aV : aA < (l0_1.length : Int) := of_decide_eq_true (by (with_reducible assumption))
      obtain ⟨ae, ak, ar, av, aB, aD, aQ, aM⟩ := qCl aa.o aA aU aV
      cases av
      replace aB := (HB.o.cell (World.block_lt_of_cell? w _ aB)).trans aB
      clear aM aQ
      replace aU := eq_true aU
      replace aV := eq_true aV
      obtain ⟨-, b7⟩ := c2_ wr aI.o
      have ax : 0 ≤ (aA : Int) := of_decide_eq_true (by (with_reducible assumption))
      have aW : aA < (l1_1.length : Int) := of_decide_eq_true (by (with_reducible assumption))
      obtain ⟨af, al, au, aw, aC, aE, aR, aN⟩ := qCl ab.o aA ax aW
      cases aw
      replace aC := (HB.o.cell (World.block_lt_of_cell? w _ aC)).trans aC
      clear aN aR
      replace aW := eq_true aW
      go_wp2
      repeat (go_quiet (fail); try go_wp2)
      go_ret
      exact ⟨by (rfl), by repeat ((with_reducible first | exact HB.o | apply qAg))⟩
     rw [if_pos bS] at H
     have bT : (((qBc l0_1 aA).f0) != ((qBc l1_1 aA).f0)) = false := bn bS
     clear bS
     replace H := bm H
     obtain ⟨bA, bQ, H⟩ := H
     replace H : (if bA = true then (qAd.l0 k2 (wrap64 (aA + 1)) l0_0 l0_1 l1_0 l1_1) else (some false)) = some r := H
     have bd := am bQ
     clear bQ
     by_cases bX : bA = true
     rotate_left
     ·replace bX := Bool.eq_false_iff.mpr bX
      subst bX
      replace H : (some false) = some r := by rw [if_neg (show ¬ (false = true) by decide)] at H; exact H
      obtain rfl := Option.some.inj H
      obtain ⟨-, b4⟩ := c2_ wr aF.o
      have aU : 0 ≤ (aA : Int) := of_decide_eq_true (by (with_reducible assumption))
      have aV : aA < (l0_1.length : Int) := of_decide_eq_true (by (with_reducible assumption))
      obtain ⟨ae, ak, ar, av, aB, aD, aQ, aM⟩ := qCl aa.o aA aU aV
      cases av
      replace aB := (HB.o.cell (World.block_lt_of_cell? w _ aB)).trans aB
      replace aD := (HB.o.cell (World.block_lt_of_cell? w _ aD)).trans aD
      clear aM aQ
      replace aU := eq_true aU
      replace aV := eq_true aV
      obtain ⟨-, b5⟩ := c2_ wr aI.o
      have ax : 0 ≤ (aA : Int) := of_decide_eq_true (by (with_reducible assumption))
      have aW : aA < (l1_1.length : Int) := of_decide_eq_true (by (with_reducible assumption))
      obtain ⟨af, al, au, aw, aC, aE, aR, aN⟩ := qCl ab.o aA ax aW
      cases aw
      replace aC := (HB.o.cell (World.block_lt_of_cell? w _ aC)).trans aC
      replace aE := (HB.o.cell (World.block_lt_of_cell? w _ aE)).trans aE
      clear aN aR
      replace aW := eq_true aW
      have bL : 0 ≤ (aA : Int) := of_decide_eq_true (by (with_reducible assumption))
      have bN : aA < (l0_1.length : Int) := of_decide_eq_true (by (with_reducible assumption))
      obtain ⟨an, bF, bH, bJ, ay, aG, aS, aO⟩ := qCl aa.o aA bL bN
      obtain rfl : ae = an := (by injection bJ)
      replace aG := (HB.o.cell (World.block_lt_of_cell? w _ aG)).trans aG
      have a4 := am aO
      have aY := am aS
      clear aO aS
      have ea_ := Option.some.inj (aD.symm.trans aG)
      injection ea_ with ea_ en_ ec_
      subst ea_
      subst ec_
      clear en_
      have bM : 0 ≤ (aA : Int) := of_decide_eq_true (by (with_reducible assumption))
      have bO : aA < (l1_1.length : Int) := of_decide_eq_true (by (with_reducible assumption))
      obtain ⟨ao, bG, bI, bK, az, aH, aT, aP⟩ := qCl ab.o aA bM bO
      obtain rfl : af = ao := (by injection bK)
      replace aH := (HB.o.cell (World.block_lt_of_cell? w _ aH)).trans aH
      have a5 := am aP
      have aZ := am aT
      clear aP aT
      have ea_ := Option.some.inj (aE.symm.trans aH)
      injection ea_ with ea_ en_ ec_
      subst ea_
      subst ec_
      clear en_
      go_wp2_with (fail)
      repeat (go_quiet ((go_at_call 29; (with_reducible refine (qAh.calls k2 _ _ ((qBc l0_1 aA).f1) _ _ ((qBc l1_1 aA).f1) false _ ?side1 ?side2 ?side3 ?side4 bd.o).mono ?_); (case side1 => repeat (first | exact (Kd.C_below a4.o HB.o) | (with_reducible refine Kd.C_drewN ?_ _))); (case side2 => exact aY.o); (case side3 => repeat (first | exact (Kd.C_below a5.o HB.o) | (with_reducible refine Kd.C_drewN ?_ _))); (case side4 => exact aZ.o); rintro e w' ⟨rfl, ⟨nd, rfl⟩⟩; (try (exact ⟨rfl, _, World.drewN_drewN _ _ _⟩)))); try go_wp2_with (fail))
      go_ret
      exact ⟨by (rfl), by repeat ((with_reducible first | exact HB.o | apply qAg))⟩
     subst bX
     replace H : (qAd.l0 k2 (wrap64 (aA + 1)) l0_0 l0_1 l1_0 l1_1) = some r := by rw [if_pos rfl] at H; exact H
     have H' := am H
     clear H
     obtain ⟨-, b2⟩ := c2_ wr aF.o
     have aU : 0 ≤ (aA : Int) := of_decide_eq_true (by (with_reducible assumption))
     have aV : aA < (l0_1.length : Int) := of_decide_eq_true (by (with_reducible assumption))
     obtain ⟨ae, ak, ar, av, aB, aD, aQ, aM⟩ := qCl aa.o aA aU aV
     cases av
     replace aB := (HB.o.cell (World.block_lt_of_cell? w _ aB)).trans aB
     replace aD := (HB.o.cell (World.block_lt_of_cell? w _ aD)).trans aD
     clear aM aQ
     replace aU := eq_true aU
     replace aV := eq_true aV
     obtain ⟨-, b3⟩ := c2_ wr aI.o
     have ax : 0 ≤ (aA : Int) := of_decide_eq_true (by (with_reducible assumption))
     have aW : aA < (l1_1.length : Int) := of_decide_eq_true (by (with_reducible assumption))
     obtain ⟨af, al, au, aw, aC, aE, aR, aN⟩ := qCl ab.o aA ax aW
     cases aw
     replace aC := (HB.o.cell (World.block_lt_of_cell? w _ aC)).trans aC
     replace aE := (HB.o.cell (World.block_lt_of_cell? w _ aE)).trans aE
     clear aN aR
     replace aW := eq_true aW
     have bL : 0 ≤ (aA : Int) := of_decide_eq_true (by (with_reducible assumption))
     have bN : aA < (l0_1.length : Int) := of_decide_eq_true (by (with_reducible assumption))
     obtain ⟨an, bF, bH, bJ, ay, aG, aS, aO⟩ := qCl aa.o aA bL bN
     obtain rfl : ae = an := (by injection bJ)
     replace aG := (HB.o.cell (World.block_lt_of_cell? w _ aG)).trans aG
     have a4 := am aO
     have aY := am aS
     clear aO aS
     have ea_ := Option.some.inj (aD.symm.trans aG)
     injection ea_ with ea_ en_ ec_
     subst ea_
     subst ec_
     clear en_
     have bM : 0 ≤ (aA : Int) := of_decide_eq_true (by (with_reducible assumption))
     have bO : aA < (l1_1.length : Int) := of_decide_eq_true (by (with_reducible assumption))
     obtain ⟨ao, bG, bI, bK, az, aH, aT, aP⟩ := qCl ab.o aA bM bO
     obtain rfl : af = ao := (by injection bK)
     replace aH := (HB.o.cell (World.block_lt_of_cell? w _ aH)).trans aH
     have a5 := am aP
     have aZ := am aT
     clear aP aT
     have ea_ := Option.some.inj (aE.symm.trans aH)
     injection ea_ with ea_ en_ ec_
     subst ea_
     subst ec_
     clear en_
     go_wp2_with (fail)
     repeat (go_quiet ((go_at_call 29; (with_reducible refine (qAh.calls k2 _ _ ((qBc l0_1 aA).f1) _ _ ((qBc l1_1 aA).f1) true _ ?side1 ?side2 ?side3 ?side4 bd.o).mono ?_); (case side1 => repeat (first | exact (Kd.C_below a4.o HB.o) | (with_reducible refine Kd.C_drewN ?_ _))); (case side2 => exact aY.o); (case side3 => repeat (first | exact (Kd.C_below a5.o HB.o) | (with_reducible refine Kd.C_drewN ?_ _))); (case side4 => exact aZ.o); rintro e w' ⟨rfl, ⟨nd, rfl⟩⟩; (try (exact ⟨rfl, _, World.drewN_drewN _ _ _⟩)))); try go_wp2_with (fail))
     go_roundg k2
     case measure => have := bh.o; have := bi.o; omega
     case rel => exact ⟨(wrap64 (aA + 1)), (by (rfl)), H', ⟨by have := bh.o; have := bi.o; omega⟩, ⟨by (with_reducible repeat ((refine qB8 ?_ _))); exact aF.o⟩, ⟨by (with_reducible repeat ((refine qB8 ?_ _))); exact aI.o⟩, ⟨by repeat ((with_reducible first | exact HB.o | apply qAg))⟩⟩
def qBt.f (l0_0 : List Int) (l0_1 : List (S200)) : Option (Bool) := if (l0_0.length : Int) > 512 then (some true) else (some (decide ((l0_1.length : Int) > 32)))
theorem qBt.calls (aD : Option Addr) (aF : Nat) (l0_0 : List Int) (aE : Option Addr) (aG : Nat) (l0_1 : List (S200)) (r : Bool) (w : World) (hr0_0 : Kd.C (Kd.int .i64) w aD l0_0.length l0_0) (hc0_0 : l0_0.length ≤ aF) (hr0_1 : Kd.C k200 w aE l0_1.length l0_1) (hc0_1 : l0_1.length ≤ aG) (h : qBt.f l0_0 l0_1 = some r) :
  Calls Tryz.prog 68 #[.agg #[.slice aD l0_0.length aF, .slice aE l0_1.length aG]] w fun e w' => e = .returned (.bool r) ∧ Below w.heap.size w w' := by
 have hu117 := Tryz.underlying117
 have aU := am hr0_0
 have aS := am hc0_0
 clear hr0_0 hc0_0
 have aV := am hr0_1
 have aT := am hc0_1
 clear hr0_1 hc0_1
 have HB := am (Below.refl w.heap.size w)
 have H : (if (l0_0.length : Int) > 512 then (some true) else (some (decide ((l0_1.length : Int) > 32)))) = some r := h
 clear h
 by_cases c2 : (l0_0.length : Int) > 512
 ·rw [if_pos c2] at H
  have aI := d1 c2
  have aJ : decide (512 < l0_0.length) = true := decide_eq_true (by omega)
  clear c2
  obtain rfl := Option.some.inj H
  go_enter Tryz.func68, Tryz.ntmps68
  go_wp2_with (first | ((with_reducible refine qAS (N := 1) rfl ?_); (try (refine qBu (by rfl) ?_; dsimp only)); refine qCp ?hg (N := 1) ?hd (cs := #[.slice aD l0_0.length aF, .slice aE l0_1.length aG]) (t := 117) ?hr ?_; (case hd => rfl); (case hg => rfl); (case hr => first | (go_simp; done) | (go_simp; rfl)); intro aB hg w3 hbox hb; have n0_ := am (qAu (by repeat (first | (with_reducible first | exact HB.o | apply qAi | apply qAg | apply qAz) | exact HB.o)) hb); have n1_ := am (hbox); have n2_ := am ((by rw [hg]; exact (qAm (by repeat (first | (with_reducible first | exact HB.o | apply qAi | apply qAg | apply qAz) | exact HB.o))) : w.heap.size ≤ aB)); have n3_ := am ((by rw [hg]; exact (qAm (by repeat (first | (with_reducible first | exact HB.o | apply qAi | apply qAg | apply qAz) | exact HB.o))) : w.heap.size ≤ aB)); clear HB; have HB := n0_; have aA := n1_; have aH := n2_; have aC := n3_; clear n0_ n1_ n2_ n3_; clear hb hbox hg; obtain ⟨aK, aL⟩ := c2_ w3 aA.o; obtain ⟨aO, aP⟩ := z2_ aA.o))
  go_ret
  exact ⟨by first | rfl | (simp [errW_none, errW_some] <;> rfl) | (simp [*, errW_none, errW_some] <;> rfl), by repeat (first | (with_reducible first | exact HB.o | apply qAi | apply qAg | apply qAz | refine qAf ?_ aC.o) | exact HB.o)⟩
 ·rw [if_neg c2] at H
  have aI := d0 c2
  have aJ : decide (512 < l0_0.length) = false := decide_eq_false (by omega)
  clear c2
  obtain rfl := Option.some.inj H
  go_enter Tryz.func68, Tryz.ntmps68
  go_wp2_with (first | ((with_reducible refine qAS (N := 1) rfl ?_); (try (refine qBu (by rfl) ?_; dsimp only)); refine qCp ?hg (N := 1) ?hd (cs := #[.slice aD l0_0.length aF, .slice aE l0_1.length aG]) (t := 117) ?hr ?_; (case hd => rfl); (case hg => rfl); (case hr => first | (go_simp; done) | (go_simp; rfl)); intro aB hg w5 hbox hb; have n0_ := am (qAu (by repeat (first | (with_reducible first | exact HB.o | apply qAi | apply qAg | apply qAz) | exact HB.o)) hb); have n1_ := am (hbox); have n2_ := am ((by rw [hg]; exact (qAm (by repeat (first | (with_reducible first | exact HB.o | apply qAi | apply qAg | apply qAz) | exact HB.o))) : w.heap.size ≤ aB)); have n3_ := am ((by rw [hg]; exact (qAm (by repeat (first | (with_reducible first | exact HB.o | apply qAi | apply qAg | apply qAz) | exact HB.o))) : w.heap.size ≤ aB)); clear HB; have HB := n0_; have aA := n1_; have aH := n2_; have aC := n3_; clear n0_ n1_ n2_ n3_; clear hb hbox hg; obtain ⟨aM, aN⟩ := c2_ w5 aA.o; obtain ⟨aQ, aR⟩ := z2_ aA.o))
  go_ret
  exact ⟨by first | rfl | (simp [errW_none, errW_some] <;> rfl) | (simp [*, errW_none, errW_some] <;> rfl), by repeat (first | (with_reducible first | exact HB.o | apply qAi | apply qAg | apply qAz | refine qAf ?_ aC.o) | exact HB.o)⟩
end Q
end
section
namespace Q
open Go.RowKit YA YB YC
namespace RV
def qCA (x : S117) : Prop := x.f0.length ≤ 2000000 ∧ x.f1.length ≤ 2000000 ∧ ∀ y ∈ x.f1, y.f1.length ≤ 2000000
theorem tries_ev (st : List Int) (tr : List S200) (st' : List Int) (tr' : List S200) (hl : tr.length = tr'.length) (hb : tr.length ≤ 2000000) (hs : ∀ y ∈ tr, y.f1.length ≤ 2000000) :
  ∀ (m j : Nat), j + m = tr.length → ∃ r, Ev (fun k => qAd.l0 k (j : Int) st tr st' tr') r ∧ (r = true ↔ tr.drop j = tr'.drop j) := by
 intro m
 induction m with
 | zero =>
  intro j hj
  refine ⟨true, Ev.step (f := fun _ => some true) (fun k => ?_) (Ev.now _), ?_⟩
  ·simp only [qAd.l0]
   rw [if_neg (by omega)]
  rw [List.drop_eq_nil_of_le (by omega), List.drop_eq_nil_of_le (by omega)]; simp
 | succ m ih =>
  intro j hj
  obtain ⟨r, hr, hq⟩ := ih (j + 1) (by omega)
  have hw : wrap64 ((j : Int) + 1) = ((j + 1 : Nat) : Int) := by unfold wrap64; omega
  have hd := qBM tr z200 (j : Int) (by omega) (by omega)
  have hd' := qBM tr' z200 (j : Int) (by omega) (by omega)
  have e0 : ((j : Int) + 1).toNat = j + 1 := by omega
  rw [Int.toNat_natCast, e0] at hd hd'
  have hmem : tr.getD j z200 ∈ tr := by rw [List.getD_eq_getElem?_getD, List.getElem?_eq_getElem (by omega)]; exact List.getElem_mem _
  have hx : qBc tr (j : Int) = tr.getD j z200 := by unfold qBc; rw [Int.toNat_natCast]
  have hx' : qBc tr' (j : Int) = tr'.getD j z200 := by unfold qBc; rw [Int.toNat_natCast]
  rw [hd, hd']
  obtain ⟨x, hxx⟩ := eX (tr.getD j z200)
  obtain ⟨y, hyy⟩ := eX (tr'.getD j z200)
  rw [← hxx] at hmem hx ⊢
  rw [← hyy] at hx' ⊢
  by_cases h1 : x.f0 = y.f0
  rotate_left
  ·refine ⟨false, Ev.step (f := fun _ => some false) (fun k => ?_) (Ev.now _), ?_⟩
   ·simp only [qAd.l0]
    rw [if_pos (by omega), if_pos (by omega), if_pos (by omega), hx, hx', if_neg h1]
   constructor
   ·intro h; cases h
   intro h; injection h with h _; exact absurd (by rw [h]) h1
  by_cases h2 : x.f1 = y.f1
  rotate_left
  ·refine ⟨false, Ev.step (f := fun k => (qAh.f k x.f1 y.f1).bind fun t => if t = true then qAd.l0 k ((j + 1 : Nat) : Int) st tr st' tr' else some false) (fun k => ?_) (Ev.bind (ints_ev _ _ (by have := hs x hmem; omega)) ?_), ?_⟩
   ·simp only [qAd.l0]
    rw [if_pos (by omega), if_pos (by omega), if_pos (by omega), hx, hx', if_pos h1, hw]
   ·simp only [show (x.f1 == y.f1) = false from by simp [h2]]
    exact Ev.now _
   constructor
   ·intro h; cases h
   intro h; injection h with h _; exact absurd (by rw [h]) h2
  have hxy : x = y := by cases x; cases y; simp only at h1 h2; rw [h1, h2]
  refine ⟨r, Ev.step (f := fun k => (qAh.f k x.f1 y.f1).bind fun t => if t = true then qAd.l0 k ((j + 1 : Nat) : Int) st tr st' tr' else some false) (fun k => ?_) (Ev.bind (ints_ev _ _ (by have := hs x hmem; omega)) ?_), ?_⟩
  ·simp only [qAd.l0]
   rw [if_pos (by omega), if_pos (by omega), if_pos (by omega), hx, hx', if_pos h1, hw]
  ·simp only [show (x.f1 == y.f1) = true from by simp [h2], if_true]
   exact hr
  rw [hq, hxy]
  constructor
  ·intro h; rw [h]
  intro h; injection h
theorem same_ev (a b : S117) (h : qCA a) : Ev (fun k => qAd.f k a.f0 a.f1 b.f0 b.f1) (eqB a b) := by
 obtain ⟨h0, h1, h2⟩ := h
 have no : ∀ {p : Prop}, (a = b → p) → ¬ p → eqB a b = false := fun hp hn => qD1 ⟨nofun, fun h => absurd (hp h) hn⟩
 unfold qAd.f
 refine Ev.bind (ints_ev _ _ (by omega)) ?_
 by_cases e0 : a.f0 = b.f0
 rotate_left
 ·rw [no (fun h => by rw [h]) e0]
  simp only [show (a.f0 == b.f0) = false from by simp [e0]]
  refine Ev.step (f := fun _ => some false) (fun k => ?_) (Ev.now _)
  simp [qAd.j0]
 simp only [show (a.f0 == b.f0) = true from by simp [e0], if_true]
 by_cases e1 : a.f1.length = b.f1.length
 rotate_left
 ·rw [no (fun h => by rw [h]) e1]
  refine Ev.step (f := fun _ => some false) (fun k => ?_) (Ev.now _)
  simp only [qAd.j0]
  rw [if_pos (by simp; omega)]
 obtain ⟨r, hr, hq⟩ := tries_ev a.f0 a.f1 b.f0 b.f1 e1 h1 h2 a.f1.length 0 (by omega)
 have : eqB a b = r := qD1 ⟨fun h => by
   have h3 := hq.1 h
   simp only [List.drop_zero] at h3
   cases a; cases b; simp only at e0 h3; rw [e0, h3], fun h => hq.2 (by rw [h])⟩
 rw [this]
 refine Ev.step (fun k => ?_) hr
 simp only [qAd.j0]
 rw [show ((a.f1.length : Int) != (b.f1.length : Int)) = false from by simp [e1], if_neg (by decide)]; rfl
theorem same_any (A1 A2 A3 A4 : Option Addr) (c1 c2 c3 c4 : Nat) (a b : S117) (W : World) (h : qCA a) (h1 : Kd.C (Kd.int .i64) W A1 a.f0.length a.f0) (l1 : a.f0.length ≤ c1) (h2 : Kd.C k200 W A2 a.f1.length a.f1) (l2 : a.f1.length ≤ c2) (h3 : Kd.C (Kd.int .i64) W A3 b.f0.length b.f0) (l3 : b.f0.length ≤ c3) (h4 : Kd.C k200 W A4 b.f1.length b.f1) (l4 : b.f1.length ≤ c4) :
  Calls Tryz.prog 100 #[.agg #[.slice A1 a.f0.length c1, .slice A2 a.f1.length c2], .agg #[.slice A3 b.f0.length c3, .slice A4 b.f1.length c4]] W fun e w' => e = .returned (.bool (eqB a b)) ∧ Below W.heap.size W w' := by
 obtain ⟨k, hk⟩ := (same_ev a b h).rounds
 exact qAd.calls k A1 c1 a.f0 A2 c2 a.f1 A3 c3 b.f0 A4 c4 b.f1 _ W h1 l1 h2 l2 h3 l3 h4 l4 hk
def qCf (x : S117) : Bool := decide (512 < x.f0.length) || decide (32 < x.f1.length)
theorem over_any (A1 A2 : Option Addr) (c1 c2 : Nat) (a : S117) (W : World) (h1 : Kd.C (Kd.int .i64) W A1 a.f0.length a.f0) (l1 : a.f0.length ≤ c1) (h2 : Kd.C k200 W A2 a.f1.length a.f1) (l2 : a.f1.length ≤ c2) :
  Calls Tryz.prog 68 #[.agg #[.slice A1 a.f0.length c1, .slice A2 a.f1.length c2]] W fun e w' => e = .returned (.bool (qCf a)) ∧ Below W.heap.size W w' := by
 refine qBt.calls A1 c1 a.f0 A2 c2 a.f1 _ W h1 l1 h2 l2 ?_
 unfold qBt.f qCf
 by_cases h : 512 < a.f0.length
 ·rw [if_pos (by omega), decide_eq_true h]; rfl
 ·rw [if_neg (by omega), decide_eq_false h, Bool.false_or]
  congr 1
  by_cases h' : 32 < a.f1.length
  ·rw [decide_eq_true h', decide_eq_true (by omega)]
  ·rw [decide_eq_false h', decide_eq_false (by omega)]
theorem qDA {W : World} {ok : Nat → Prop} {O n cap : Nat} {out : List S117} (h : Kd.N k117 117 W 0 ok (.slice (some ⟨O, 0, none⟩) n cap) out) (i : Int) (h0 : 0 ≤ i) (h1 : i < n) :
  ∃ D1 d1 D2 d2, W.cell? ⟨O, i.toNat * 2, none⟩ = some (.slice D1 (qA6 out i).f0.length d1) ∧ W.cell? ⟨O, i.toNat * 2 + 1, none⟩ = some (.slice D2 (qA6 out i).f1.length d2) ∧ (qA6 out i).f0.length ≤ d1 ∧ (qA6 out i).f1.length ≤ d2 ∧ Kd.F (Kd.int .i64) W (fun k => ok k ∧ k ≠ O) D1 (qA6 out i).f0.length (qA6 out i).f0 ∧ Kd.F k200 W (fun k => ok k ∧ k ≠ O) D2 (qA6 out i).f1.length (qA6 out i).f1 ∧ ∀ j, W.frozen? ⟨O, i.toNat * 2 + j, none⟩ = false := by
 obtain ⟨c, hcl, hK, hcc0, hfr⟩ := Kd.N_elem h z117 i h0 h1
 have hcc : ∀ j u, c[j]? = some u → W.cell? ⟨O, i.toNat * 2 + j, none⟩ = some u := hcc0
 obtain ⟨D1, d1, D2, d2, hcs, l1, g1, l2, g2⟩ := k117_openF hK
 subst hcs
 exact ⟨D1, d1, D2, d2, hcc 0 _ rfl, hcc 1 _ rfl, l1, l2, g1, g2, hfr⟩
theorem rlay {W : World} {ok okp : Nat → Prop} {O n cap : Nat} {out : List S117} (h : Kd.N k117 117 W 0 ok (.slice (some ⟨O, 0, none⟩) n cap) out) (i : Int) (h0 : 0 ≤ i) (h1 : i < n) {v1 v2 : Value} {x : S117} (hM : Kd.FK k117 W okp x [v1, v2]) (hokp : ∀ k, okp k → ok k ∧ k ≠ O) :
  Kd.N k117 117 ((W.setCell ⟨O, i.toNat * 2, none⟩ v1).setCell ⟨O, i.toNat * 2 + 1, none⟩ v2) 0 ok (.slice (some ⟨O, 0, none⟩) n cap) (out.set i.toNat x) := by
 obtain ⟨c, hcl, hK, hcc0, hfr⟩ := Kd.N_elem h z117 i h0 h1
 obtain ⟨D1, d1, D2, d2, hcs, l1, g1, l2, g2⟩ := k117_openF hK
 subst hcs
 exact (Kd.N_seg h i h0 h1 (seg := [v1, v2]) (j := 0) (okp := okp) (x' := x) hcl hcc0 (show (2 : Nat) ≤ 2 by decide) hM hokp).1
end RV
namespace RV
noncomputable def qAB (met : List Bool) (shs : List S117) (i : Int) (x : S117) : Bool × List Bool × List S117 :=
 if rdOf false met i = true then (eqB (qA6 shs i) x, met, shs) else (true, met.set i.toNat true, shs.set i.toNat x)
def NoPost (W : World) (M S n cM cS : Nat) (ok : Nat → Prop) (R : Bool × List Bool × List S117) (e : Ending) (w' : World) : Prop :=
 e = .returned (.bool R.1) ∧ Kd.R Kd.bool 4 w' 0 (fun q => q = M) (.slice (some ⟨M, 0, none⟩) n cM) R.2.1 ∧ Kd.N k117 117 w' 0 ok (.slice (some ⟨S, 0, none⟩) n cS) R.2.2 ∧ Fr W w' (fun q => q = M ∨ q = S)
theorem qDN {W : World} {M S n cM cS : Nat} {ok okp : Nat → Prop} {met : List Bool} {shs : List S117} (hM : Kd.R Kd.bool 4 W 0 (fun q => q = M) (.slice (some ⟨M, 0, none⟩) n cM) met) (hS : Kd.N k117 117 W 0 ok (.slice (some ⟨S, 0, none⟩) n cS) shs) (i : Int) (h0 : 0 ≤ i) (h1 : i < n) (x : S117) (A1 A2 : Option Addr) (c1 c2 : Nat)
  (hF1 : Kd.F (Kd.int .i64) W okp A1 x.f0.length x.f0) (hc1 : x.f0.length ≤ c1) (hF2 : Kd.F k200 W okp A2 x.f1.length x.f1) (hc2 : x.f1.length ≤ c2) (hokp : ∀ q, okp q → ok q ∧ q ≠ S ∧ q ≠ M) (hMS : M ≠ S) (hokM : ∀ q, ok q → q ≠ M) (hsm : ∀ y ∈ shs, qCA y) (hMl : M < W.heap.size) (hSl : S < W.heap.size) :
  Calls Tryz.prog 69 #[.slice (some ⟨M, 0, none⟩) n cM, .slice (some ⟨S, 0, none⟩) n cS, .int .i64 i, .agg #[.slice A1 x.f0.length c1, .slice A2 x.f1.length c2]] W (NoPost W M S n cM cS ok (qAB met shs i x)) := by
 obtain ⟨D1, d1, D2, d2, y0, y1, l1, l2, Y1, Y2, yfr⟩ := qDA hS i h0 h1
 obtain ⟨x0, x0f⟩ := Kd.R_celln (α := Bool) false hM i h0 h1
 have hlen : shs.length = n := (Kd.N_reads' hS).1.symm
 have hmem : qA6 shs i ∈ shs := by
  unfold qA6
  rw [List.getD_eq_getElem?_getD, List.getElem?_eq_getElem (by omega)]; exact List.getElem_mem _
 have hsy := hsm _ hmem
 obtain ⟨y, hy⟩ := eX (qA6 shs i)
 obtain ⟨b, hb⟩ := eX (rdOf false met i)
 have hR : qAB met shs i x = if b = true then (eqB y x, met, shs) else (true, met.set i.toNat true, shs.set i.toNat x) := by rw [hb, hy]; rfl
 obtain ⟨R, hRR⟩ := eX (qAB met shs i x)
 rw [← hRR] at hR ⊢
 rw [← hy] at y0 y1 l1 l2 Y1 Y2 hsy
 rw [← hb] at x0
 obtain ⟨p1, hp1⟩ := eX x.f0.length
 obtain ⟨p2, hp2⟩ := eX x.f1.length
 obtain ⟨z1, hz1⟩ := eX y.f0.length
 obtain ⟨z2, hz2⟩ := eX y.f1.length
 have HSM : qAc (∀ W1, Below W.heap.size W W1 → Calls Tryz.prog 100 #[.agg #[.slice D1 z1 d1, .slice D2 z2 d2], .agg #[.slice A1 p1 c1, .slice A2 p2 c2]] W1 fun e w' => e = .returned (.bool (eqB y x)) ∧ Below W1.heap.size W1 w') := ⟨fun W1 hb1 => by
   rw [hz1, hz2, hp1, hp2]
   exact same_any D1 D2 A1 A2 d1 d2 c1 c2 y x W1 hsy (Kd.F_now (Kd.F_below Y1 hb1)) l1 (Kd.F_now (Kd.F_below Y2 hb1)) l2 (Kd.F_now (Kd.F_below hF1 hb1)) hc1 (Kd.F_now (Kd.F_below hF2 hb1)) hc2⟩
 rw [← hz1] at y0
 rw [← hz2] at y1
 obtain ⟨WB, hWB⟩ := eX (W.alloc (.cells #[.slice A1 p1 c1, .slice A2 p2 c2] 117))
 have hBB : Below W.heap.size W WB := hWB ▸ (Below.refl _ _).alloc (nl _) _
 have bX : WB.heap[W.heap.size]? = some (.cells #[.slice A1 p1 c1, .slice A2 p2 c2] 117 (0, 0)) := by rw [hWB]; exact qAG W _
 have u0 := (hBB.cell (p := ⟨S, i.toNat * 2, none⟩) hSl).trans y0
 have u1 := (hBB.cell (p := ⟨S, i.toNat * 2 + 1, none⟩) hSl).trans y1
 have v0 := (hBB.cell (p := ⟨M, i.toNat, none⟩) hMl).trans x0
 have HMB := am (Kd.R_below hM hBB)
 have HSB := am (Kd.N_below hS hBB)
 have F1 := am (Kd.F_below hF1 hBB)
 have F2 := am (Kd.F_below hF2 hBB)
 have HBB := am hBB
 have HP1 := am hp1
 have HP2 := am hp2
 have HC1 := am hc1
 have HC2 := am hc2
 have HRR := am hR
 have HOK := am hokp
 have HOM := am hokM
 have w0 := (qAa bX 0).trans rfl
 have w1 := (qAa bX 1).trans rfl
 have vf : WB.frozen? ⟨M, i.toNat, none⟩ = false := (Kd.R_celln (α := Bool) false HMB.out i h0 h1).2
 have uf0 : WB.frozen? ⟨S, i.toNat * 2, none⟩ = false := (qDA HSB.out i h0 h1).choose_spec.choose_spec.choose_spec.choose_spec.2.2.2.2.2.2 0
 have uf1 : WB.frozen? ⟨S, i.toNat * 2 + 1, none⟩ = false := (qDA HSB.out i h0 h1).choose_spec.choose_spec.choose_spec.choose_spec.2.2.2.2.2.2 1
 rw [← hp1, ← hp2]
 clear hM hS hF1 hF2 hc1 hc2 hokp hokM hsm Y1 Y2 l1 l2 yfr x0f y0 y1 x0 hlen hmem hsy hp1 hp2 hz1 hz2 hR hRR hy hb hBB
 have HMS := am hMS
 cases b with
 | true =>
  have e := HRR.out
  rw [if_pos rfl] at e
  rw [e]
  obtain ⟨eb, heb⟩ := eX (eqB y x)
  have HEB : qAc ((eb, met, shs) = (eqB y x, met, shs)) := ⟨by rw [heb]⟩
  rw [← heb] at HSM ⊢
  clear HRR e heb
  go_enter Tryz.func69, Tryz.ntmps69
  go_upto_region 1 with fail
  rw [← hWB]
  clear hWB
  go_wp2_with fail
  go_region_held3 (fun W' => W'.cell? ⟨S, i.toNat * 2, none⟩ = some (.slice D1 z1 d1) ∧ W'.cell? ⟨S, i.toNat * 2 + 1, none⟩ = some (.slice D2 z2 d2) ∧ W'.cell? ⟨W.heap.size, 0, none⟩ = some (.slice A1 p1 c1) ∧ W'.cell? ⟨W.heap.size, 1, none⟩ = some (.slice A2 p2 c2))
   (first | exact ⟨u0, u1, w0, w1⟩)
   (first
     | (go_at_call 100; (with_reducible refine (HSM.out _ HBB.out.drew).mono ?_); rintro e w2 ⟨rfl, hb2⟩; have hbb := (Below.refl WB.heap.size WB).drew.trans hb2; replace u0 := (hbb.cell (bl u0)).trans u0; replace u1 := (hbb.cell (bl u1)).trans u1; replace w0 := (hbb.cell (bl w0)).trans w0; replace w1 := (hbb.cell (bl w1)).trans w1; have HB2 := am hbb; clear hbb hb2))
  go_wp2
  go_ret
  exact ⟨rfl, Kd.R_below HMB.out HB2.out, Kd.N_below HSB.out HB2.out, Fr.of_below (HBB.out.trans (HB2.out.mono HBB.out.size))⟩
 | false =>
  have e := HRR.out
  rw [if_neg (by decide)] at e
  rw [e]
  clear HRR e HSM
  go_enter Tryz.func69, Tryz.ntmps69
  go_upto_region 1 with fail
  rw [← hWB]
  clear hWB
  go_wp2
  go_ret
  refine ⟨rfl, ?_, ?_, ?_⟩
  ·exact Kd.R_far (p := ⟨S, i.toNat * 2 + 1, none⟩) (Kd.R_far (p := ⟨S, i.toNat * 2, none⟩) (Kd.R_putg (α := Bool) HMB.out i true).1 (fun k hk => by rw [hk]; exact HMS.out) _) (fun k hk => by rw [hk]; exact HMS.out) _
  ·have g1 := Kd.F_far (p := ⟨M, i.toNat, none⟩) F1.out (fun k hk => (HOK.out k hk).2.2) (.bool true)
   have g2 := Kd.F_far (p := ⟨M, i.toNat, none⟩) F2.out (fun k hk => (HOK.out k hk).2.2) (.bool true)
   have l1 := HC1.out
   have l2 := HC2.out
   rw [HP1.out, HP2.out]
   exact rlay (Kd.N_far (p := ⟨M, i.toNat, none⟩) HSB.out (fun k hk => HOM.out k hk) (.bool true)) i h0 h1 (k117_mkF _ _ x l1 g1 l2 g2) (fun k hk => ⟨(HOK.out k hk).1, (HOK.out k hk).2.1⟩)
  exact Fr.set (Fr.set (Fr.set (Fr.of_below HBB.out) (.inl (.inl rfl)) _) (.inl (.inr rfl)) _) (.inl (.inr rfl)) _
end RV
end Q
end
section
namespace Q
open Go.RowKit YA YB YC
open Val Ins
namespace RV
abbrev FoundT : Type := Option (List Bool × List S117) × Int × Int
def qCx : Nat → List Bool → List Bool → Option Nat
 | k, m :: ms, d :: ds => if (m && !d) = true then some k else qCx (k + 1) ms ds
 | _, _, _ => none
theorem nextR_cons (k : Nat) (m : Bool) (ms : List Bool) (d : Bool) (ds : List Bool) : qCx k (m :: ms) (d :: ds) = if (m && !d) = true then some k else qCx (k + 1) ms ds := rfl
theorem nextR_some : ∀ (k : Nat) (ms ds : List Bool) (i : Nat), qCx k ms ds = some i → k ≤ i ∧ ms[i - k]? = some true ∧ ds[i - k]? = some false
 | k, [], ds, i, h => by simp [qCx] at h
 | k, m :: ms, [], i, h => by simp [qCx] at h
 | k, m :: ms, d :: ds, i, h => by
  unfold qCx at h
  split at h
  ·rename_i hb
   injection h with h
   subst h
   simp at hb
   exact ⟨nl _, by simp [hb.1], by simp [hb.2]⟩
  obtain ⟨h1, h2, h3⟩ := nextR_some (k + 1) ms ds i h
  refine ⟨by omega, ?_, ?_⟩
  ·rw [show i - k = (i - (k + 1)) + 1 by omega]; simpa using h2
  rw [show i - k = (i - (k + 1)) + 1 by omega]; simpa using h3
noncomputable def qB3 (n : Nat) (i : Nat) (N : Int) (x : S138) (met : List Bool) (shs : List S117) : Int × List Bool × List S117 :=
 if x.f0 = false ∨ (x.f1 = true ∧ (n : Int) ≤ i + 1) ∨ (x.f2 = true ∧ (n : Int) ≤ N) then (51, met, shs)
 else if (x.f1 = true ∧ qCf x.f3 = true) ∨ (x.f2 = true ∧ qCf x.f4 = true) then (3, met, shs)
 else
  let a := if x.f1 = true then qAB met shs ((i : Int) + 1) x.f3 else (true, met, shs)
  if a.1 = false then (22, met, shs)
  else
   let b := if x.f2 = true then qAB a.2.1 a.2.2 N x.f4 else (true, a.2.1, a.2.2)
   if b.1 = false then (22, met, shs) else (0, b.2.1, b.2.2)
section
variable {n i : Nat} {N : Int} {x : S138} {met : List Bool} {shs : List S117}
theorem qDb (h : x.f0 = false ∨ (x.f1 = true ∧ (n : Int) ≤ i + 1) ∨ (x.f2 = true ∧ (n : Int) ≤ N)) : qB3 n i N x met shs = (51, met, shs) := by unfold qB3; rw [if_pos h]
theorem roundR_3 (h : ¬ (x.f0 = false ∨ (x.f1 = true ∧ (n : Int) ≤ i + 1) ∨ (x.f2 = true ∧ (n : Int) ≤ N))) (h2 : (x.f1 = true ∧ qCf x.f3 = true) ∨ (x.f2 = true ∧ qCf x.f4 = true)) : qB3 n i N x met shs = (3, met, shs) := by unfold qB3; rw [if_neg h, if_pos h2]
noncomputable def qCh (i : Nat) (N : Int) (f1 f2 : Bool) (a b : S117) (met : List Bool) (shs : List S117) : Int × List Bool × List S117 :=
 if (if f1 = true then qAB met shs ((i : Int) + 1) a else (true, met, shs)).1 = false then (22, met, shs)
 else if (if f2 = true then qAB (if f1 = true then qAB met shs ((i : Int) + 1) a else (true, met, shs)).2.1 (if f1 = true then qAB met shs ((i : Int) + 1) a else (true, met, shs)).2.2 N b else (true, (if f1 = true then qAB met shs ((i : Int) + 1) a else (true, met, shs)).2.1, (if f1 = true then qAB met shs ((i : Int) + 1) a else (true, met, shs)).2.2)).1 = false then (22, met, shs)
 else (0, (if f2 = true then qAB (if f1 = true then qAB met shs ((i : Int) + 1) a else (true, met, shs)).2.1 (if f1 = true then qAB met shs ((i : Int) + 1) a else (true, met, shs)).2.2 N b else (true, (if f1 = true then qAB met shs ((i : Int) + 1) a else (true, met, shs)).2.1, (if f1 = true then qAB met shs ((i : Int) + 1) a else (true, met, shs)).2.2)).2)
theorem qDU (h : ¬ (x.f0 = false ∨ (x.f1 = true ∧ (n : Int) ≤ i + 1) ∨ (x.f2 = true ∧ (n : Int) ≤ N))) (h2 : ¬ ((x.f1 = true ∧ qCf x.f3 = true) ∨ (x.f2 = true ∧ qCf x.f4 = true))) : qB3 n i N x met shs = qCh i N x.f1 x.f2 x.f3 x.f4 met shs := by
 unfold qB3
 rw [if_neg h, if_neg h2]
 rfl
theorem qDO {a b : S117} : qCh i N false false a b met shs = (0, met, shs) := rfl
theorem qCX {a b : S117} : qCh i N true false a b met shs = if (qAB met shs ((i : Int) + 1) a).1 = false then (22, met, shs) else (0, (qAB met shs ((i : Int) + 1) a).2) := by
 unfold qCh
 simp
theorem qCW {a b : S117} : qCh i N false true a b met shs = if (qAB met shs N b).1 = false then (22, met, shs) else (0, (qAB met shs N b).2) := by
 unfold qCh
 simp
theorem qC8 {a b : S117} : qCh i N true true a b met shs = if (qAB met shs ((i : Int) + 1) a).1 = false then (22, met, shs) else if (qAB (qAB met shs ((i : Int) + 1) a).2.1 (qAB met shs ((i : Int) + 1) a).2.2 N b).1 = false then (22, met, shs) else (0, (qAB (qAB met shs ((i : Int) + 1) a).2.1 (qAB met shs ((i : Int) + 1) a).2.2 N b).2) := by
 unfold qCh
 simp
end
noncomputable def qCK (ls vs : List Int) (fs : List S24) (res : Int) (code : List S50) : Nat → List Bool → List Bool → List S117 → FoundT
 | 0, _, _, _ => (none, 0, 0)
 | g + 1, met, dn, shs =>
  match qCx 0 met dn with
  | none => (some (met, shs), 0, 0)
  | some i =>
   let r := qB3 code.length i (qA7 code i).f1 (qA8 ls vs fs res (qA7 code i).f0 (qA7 code i).f1 (qA7 code i).f2.f0 (qA6 shs i).f0 (qA6 shs i).f1) met shs
   if r.1 = 0 then qCK ls vs fs res code g r.2.1 (dn.set i true) r.2.2 else (none, i, r.1)
def FoPost (R : FoundT) (W : World) (e : Ending) (w' : World) : Prop :=
 ∃ v1 v2, e = .returned (.tuple #[v1, v2, .int .i64 R.2.1, .int .i64 R.2.2]) ∧ (∀ m s, R.1 = some (m, s) → Kd.R Kd.bool 4 w' 0 (fun _ => True) v1 m ∧ Kd.N k117 117 w' 0 (fun _ => True) v2 s) ∧ Below W.heap.size W w'
def TrOk (R : S138) : Prop := (∀ y ∈ R.f3.f1, y.f1.length ≤ 2000000) ∧ (∀ y ∈ R.f4.f1, y.f1.length ≤ 2000000)
theorem TrOk.ite {c : Prop} [Decidable c] {a b : S138} (h : TrOk a) (k : TrOk b) : TrOk (if c then a else b) := by split <;> assumption
theorem stepR_tries {ls vs : List Int} {fs : List S24} {res op n ty : Int} {st : List Int} {tr : List S200} (h0 : st.length ≤ 2000000) (h : ∀ y ∈ tr, y.f1.length ≤ 2000000) : TrOk (qA8 ls vs fs res op n ty st tr) := by
 have hd : ∀ y ∈ tr.dropLast, y.f1.length ≤ 2000000 := fun y hy => h y ((List.dropLast_sublist _).subset hy)
 have ha : ∀ y ∈ tr ++ [(⟨n, st⟩ : S200)], y.f1.length ≤ 2000000 := fun y hy => by
  rcases List.mem_append.1 hy with h' | h'
  ·exact h y h'
  rw [List.mem_singleton.1 h']; exact h0
 have hn : ∀ y ∈ ([] : List S200), y.f1.length ≤ 2000000 := fun y hy => by cases hy
 unfold qA8
 repeat' (first | exact (⟨h, hn⟩ : TrOk ⟨_, _, _, ⟨_, tr⟩, ⟨_, []⟩⟩) | exact (⟨hn, hn⟩ : TrOk ⟨_, _, _, ⟨_, []⟩, ⟨_, []⟩⟩) | exact (⟨hd, hn⟩ : TrOk ⟨_, _, _, ⟨_, tr.dropLast⟩, ⟨_, []⟩⟩) | exact (⟨ha, h⟩ : TrOk ⟨_, _, _, ⟨_, tr ++ [⟨n, st⟩]⟩, ⟨_, tr⟩⟩) | exact (⟨hn, h⟩ : TrOk ⟨_, _, _, ⟨_, []⟩, ⟨_, tr⟩⟩) | exact (⟨h, h⟩ : TrOk ⟨_, _, _, ⟨_, tr⟩, ⟨_, tr⟩⟩) | apply TrOk.ite)
def FB (b : Nat) (fv pv : Array Value) (w : World) : Prop := w.heap[b]? = some (.cells fv 27 (0, 0)) ∧ w.heap[b + 1]? = some (.cells pv 30 (0, 0))
theorem FB.below {b : Nat} {fv pv : Array Value} {w w' : World} (h : FB b fv pv w) (hb : Below w.heap.size w w') : FB b fv pv w' := ⟨qAe h.1 hb, qAe h.2 hb⟩
theorem FB.fr {b : Nat} {fv pv : Array Value} {w w' : World} {S : Nat → Prop} (h : FB b fv pv w) (hf : Fr w w' S) (h0 : ¬ S b) (h1 : ¬ S (b + 1)) : FB b fv pv w' := ⟨hf.blk h.1 h0, hf.blk h.2 h1⟩
theorem FB.lt {b : Nat} {fv pv : Array Value} {w : World} (h : FB b fv pv w) : b + 1 < w.heap.size := qAQ h.2
structure FoSt (W : World) (M D S n cM cD cS : Nat) (fv pv : Array Value) (met dn : List Bool) (shs : List S117) (w : World) : Prop where
 m : Kd.R Kd.bool 4 w 0 (fun q => q = M) (.slice (some ⟨M, 0, none⟩) n cM) met
 d : Kd.R Kd.bool 4 w 0 (fun q => q = D) (.slice (some ⟨D, 0, none⟩) n cD) dn
 s : Kd.N k117 117 w 0 (fun q => q ≠ M ∧ q ≠ D) (.slice (some ⟨S, 0, none⟩) n cS) shs
 b : Below W.heap.size W w
 t : S < w.heap.size
 x : FB W.heap.size fv pv w
theorem FoSt.below {W : World} {M D S n cM cD cS : Nat} {fv pv : Array Value} {met dn : List Bool} {shs : List S117} {w w' : World} (h : FoSt W M D S n cM cD cS fv pv met dn shs w) (hb : Below w.heap.size w w') : FoSt W M D S n cM cD cS fv pv met dn shs w' :=
 ⟨Kd.R_below h.m hb, Kd.R_below h.d hb, Kd.N_below h.s hb, h.b.trans (hb.mono h.b.size), Nat.lt_of_lt_of_le h.t hb.size, h.x.below hb⟩
structure XB (M D S : Nat) (R : S138) (gX : Nat) (D3 D4 D5 D6 : Option Addr) (d3 d4 d5 d6 : Nat) (w : World) : Prop where
 h : w.heap[gX]? = some (.cells #[.bool R.f0, .bool R.f1, .bool R.f2, .slice D3 R.f3.f0.length d3, .slice D4 R.f3.f1.length d4, .slice D5 R.f4.f0.length d5, .slice D6 R.f4.f1.length d6] 138 (0, 0))
 g3 : Kd.F (Kd.int .i64) w (fun q => q ≠ M ∧ q ≠ D ∧ q ≠ S) D3 R.f3.f0.length R.f3.f0
 g4 : Kd.F k200 w (fun q => q ≠ M ∧ q ≠ D ∧ q ≠ S) D4 R.f3.f1.length R.f3.f1
 g5 : Kd.F (Kd.int .i64) w (fun q => q ≠ M ∧ q ≠ D ∧ q ≠ S) D5 R.f4.f0.length R.f4.f0
 g6 : Kd.F k200 w (fun q => q ≠ M ∧ q ≠ D ∧ q ≠ S) D6 R.f4.f1.length R.f4.f1
 l3 : R.f3.f0.length ≤ d3
 l4 : R.f3.f1.length ≤ d4
 l5 : R.f4.f0.length ≤ d5
 l6 : R.f4.f1.length ≤ d6
 n : gX ≠ M ∧ gX ≠ D ∧ gX ≠ S
theorem XB.below {M D S : Nat} {R : S138} {gX : Nat} {D3 D4 D5 D6 : Option Addr} {d3 d4 d5 d6 : Nat} {w w' : World} (h : XB M D S R gX D3 D4 D5 D6 d3 d4 d5 d6 w) (hb : Below w.heap.size w w') : XB M D S R gX D3 D4 D5 D6 d3 d4 d5 d6 w' :=
 ⟨qAe h.h hb, Kd.F_below h.g3 hb, Kd.F_below h.g4 hb, Kd.F_below h.g5 hb, Kd.F_below h.g6 hb, h.l3, h.l4, h.l5, h.l6, h.n⟩
theorem XB.fr {M D S : Nat} {R : S138} {gX : Nat} {D3 D4 D5 D6 : Option Addr} {d3 d4 d5 d6 : Nat} {w w' : World} (h : XB M D S R gX D3 D4 D5 D6 d3 d4 d5 d6 w) (hf : Fr w w' (fun q => q = M ∨ q = S)) : XB M D S R gX D3 D4 D5 D6 d3 d4 d5 d6 w' := by
 have hq : ∀ {α : Type} {d : Kd α} {A : Option Addr} {n : Nat} {xs : List α}, Kd.F d w (fun q => q ≠ M ∧ q ≠ D ∧ q ≠ S) A n xs → Kd.F d w' (fun q => q ≠ M ∧ q ≠ D ∧ q ≠ S) A n xs := fun g => Kd.F_kept g hf.2 (fun k hk e => by rcases e with e | e; exact hk.1 e; exact hk.2.2 e)
 exact ⟨hf.blk h.h (fun e => by rcases e with e | e; exact h.n.1 e; exact h.n.2.2 e), hq h.g3, hq h.g4, hq h.g5, hq h.g6, h.l3, h.l4, h.l5, h.l6, h.n⟩
theorem FoSt.noted {W : World} {M D S n cM cD cS : Nat} {fv pv : Array Value} {met dn : List Bool} {shs : List S117} {w w' : World} {R : Bool × List Bool × List S117} {e : Ending} (h : FoSt W M D S n cM cD cS fv pv met dn shs w) (hp : NoPost w M S n cM cS (fun q => q ≠ M ∧ q ≠ D) R e w') (hWM : W.heap.size + 1 < M) (hMD : M < D) (hDS : D < S) :
  e = .returned (.bool R.1) ∧ FoSt W M D S n cM cD cS fv pv R.2.1 dn R.2.2 w' ∧ Fr w w' (fun q => q = M ∨ q = S) := by
 obtain ⟨he, hm, hs, hf⟩ := hp
 have hb : Below W.heap.size w w' := Fr.below hf (fun q hq => by rcases hq with h | h <;> omega) h.b.size
 exact ⟨he, ⟨hm, Kd.R_kept h.d hf.2 (fun k hk e => by rcases e with e | e <;> omega), hs, h.b.trans hb, Nat.lt_of_lt_of_le h.t hf.size, h.x.fr hf (fun e => by rcases e with e | e <;> omega) (fun e => by rcases e with e | e <;> omega)⟩, hf⟩
theorem qCQ {met : List Bool} {shs : List S117} {i : Int} {x : S117} (h : ∀ y ∈ shs, qCA y) (hx : qCA x) : ∀ y ∈ (qAB met shs i x).2.2, qCA y := by
 unfold qAB
 split
 ·exact h
 intro y hy
 rcases List.mem_or_eq_of_mem_set hy with hy | hy
 ·exact h y hy
 rw [hy]; exact hx
end RV
end Q
end
end Go.Proofs.YtfddibbignedkaaGreatDoor
