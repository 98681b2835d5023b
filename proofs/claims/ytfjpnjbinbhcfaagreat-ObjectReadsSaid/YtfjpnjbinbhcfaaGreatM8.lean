/- What the document's object.Unpack and the program's tell of any bytes is the same: Rows.ObjectReadsSaid. Part 8 of 11. -/
import Derived.Test.YtfjpnjbinbhcfaaGreatM7
import Derived.Deep.RegionHeld3
import Derived.Deep.AppendLies
set_option maxHeartbeats 8000000
set_option maxRecDepth 100000
set_option linter.unusedVariables false
set_option linter.unusedSimpArgs false
namespace Go.Proofs.YtfjpnjbinbhcfaaGreat
section
namespace Q
open Go.RowKit PA PC PB
attribute [local go_sem] qBe min2_int qBq min_two max_three min_three max_four min_four
mutual
def qAh.j0 : Nat → Bool → List Int → Int → List Int → List (S172) → Option (Bool)
 | 0, _, _, _, _, _ => none
 | k + 1, cG, aE, aG, aF, aC => if cG = true then (some false) else (qAh.l0 k 0 aE aG aF aC)
def qAh.l0 : Nat → Int → List Int → Int → List Int → List (S172) → Option (Bool)
 | 0, _, _, _, _, _ => none
 | k + 1, x3, aE, aG, aF, aC => if x3 < (aE.length : Int) then (if 0 ≤ x3 then ((qAW.f (rd aE x3)).bind fun ao => (if ao = true then (qAh.l0 k (wrap64 (x3 + 1)) aE aG aF aC) else (some false))) else (none)) else (qAh.l1 k 0 aE aG aF aC)
def qAh.l1 : Nat → Int → List Int → Int → List Int → List (S172) → Option (Bool)
 | 0, _, _, _, _, _ => none
 | k + 1, x4, aE, aG, aF, aC => if x4 < (aF.length : Int) then (if 0 ≤ x4 then ((qAW.f (rd aF x4)).bind fun ap => (if ap = true then (qAh.l1 k (wrap64 (x4 + 1)) aE aG aF aC) else (some false))) else (none)) else (qAh.l2 k 0 aE aG aF aC)
def qAh.l2 : Nat → Int → List Int → Int → List Int → List (S172) → Option (Bool)
 | 0, _, _, _, _, _ => none
 | k + 1, x5, aE, aG, aF, aC => if x5 < (aC.length : Int) then (if 0 ≤ x5 then ((qBa.f ((qAQ aC x5).f0) ((qAQ aC x5).f1) ((qAQ aC x5).f2.f0) ((qAQ aC x5).f2.f1)).bind fun aq => (if aq = true then (qAh.l2 k (wrap64 (x5 + 1)) aE aG aF aC) else (some false))) else (none)) else (some true)
end
def qAh.f (k : Nat) (l0_0 : List Int) (a0_1 : Int) (l0_2 : List Int) (l0_3 : List (S172)) : Option (Bool) := if (l0_0.length : Int) > 8 then (qAh.j0 k true l0_0 a0_1 l0_2 l0_3) else (if (l0_2.length : Int) > 64 then (qAh.j0 k true l0_0 a0_1 l0_2 l0_3) else (if (l0_3.length : Int) > 4096 then (qAh.j0 k true l0_0 a0_1 l0_2 l0_3) else ((qAW.f a0_1).bind fun a6 => (if a6 = true then (qAh.j0 k false l0_0 a0_1 l0_2 l0_3) else (qAh.j0 k (a0_1 != 0) l0_0 a0_1 l0_2 l0_3)))))
theorem qAh.calls (k : Nat) (aP : Option Addr) (aQ : Nat) (l0_0 : List Int) (a0_1 : Int) (aR : Option Addr) (aT : Nat) (l0_2 : List Int) (aS : Option Addr) (aU : Nat) (l0_3 : List (S172)) (r : Bool) (w : World) (hr0_0 : Kd.C (Kd.int .i64) w aP l0_0.length l0_0) (hc0_0 : l0_0.length ≤ aQ) (hr0_2 : Kd.C (Kd.int .i64) w aR l0_2.length l0_2) (hc0_2 : l0_2.length ≤ aT) (hr0_3 : Kd.C k172 w aS l0_3.length l0_3) (hc0_3 : l0_3.length ≤ aU) (h : qAh.f k l0_0 a0_1 l0_2 l0_3 = some r) :
  Calls Tryz.prog 38 #[.agg #[.slice aP l0_0.length aQ, .int .i64 a0_1, .slice aR l0_2.length aT, .slice aS l0_3.length aU]] w fun e w' => e = .returned (.bool r) ∧ Below w.heap.size w w' := by
 have ar := am hr0_0
 clear hr0_0 hc0_0
 have au := am hr0_2
 clear hr0_2 hc0_2
 have av := am hr0_3
 clear hr0_3 hc0_3
 have HB := am (Below.refl w.heap.size w)
 have H : (if (l0_0.length : Int) > 8 then (qAh.j0 k true l0_0 a0_1 l0_2 l0_3) else (if (l0_2.length : Int) > 64 then (qAh.j0 k true l0_0 a0_1 l0_2 l0_3) else (if (l0_3.length : Int) > 4096 then (qAh.j0 k true l0_0 a0_1 l0_2 l0_3) else ((qAW.f a0_1).bind fun a6 => (if a6 = true then (qAh.j0 k false l0_0 a0_1 l0_2 l0_3) else (qAh.j0 k (a0_1 != 0) l0_0 a0_1 l0_2 l0_3)))))) = some r := h
 clear h
 have bc := am H
 clear H
 go_enter Tryz.func38, Tryz.ntmps38
 go_upto_region 1 with ((with_reducible refine qAO (N := 1) rfl ?_); (try (refine qBJ (by rfl) ?_; dsimp only)); refine bx 1 #[.slice aP l0_0.length aQ, .int .i64 a0_1, .slice aR l0_2.length aT, .slice aS l0_3.length aU] 98 ?_; intro aB hg w3 hbox hb; have n_ := a2 (qAp HB.o hb) (am (hbox)); clear HB; obtain ⟨HB, aA⟩ := n_; clear hb hbox hg)
 (skip)
 go_cut [35] (fun cF wc => ∃ (kq : Nat) (a5 : Bool), cF = .bool a5 ∧ qAe (qAh.j0 kq a5 l0_0 a0_1 l0_2 l0_3 = some r) ∧ qAe (kq ≤ k) ∧ qAe (wc.heap[aB]? = some (.cells #[(.slice aP l0_0.length aQ), .int .i64 a0_1, (.slice aR l0_2.length aT), (.slice aS l0_3.length aU)] 98 (0, 0))) ∧ qAe (Below w.heap.size w wc))
 case first =>
  have H := bc.o
  clear bc
  by_cases c4 : (l0_0.length : Int) > 8
  ·rw [if_pos c4] at H
   have bd := d1 c4
   clear c4
   (skip)
   have H' := am H
   clear H
   have bi : w3.cell? ⟨aB, 0, none⟩ = some (.slice aP l0_0.length aQ) := (qAa aA.o 0).trans rfl
   go_wp2
   go_meet
   case rel => exact ⟨_, (true), (by rfl), H', ⟨by omega⟩, ⟨by exact aA.o⟩, ⟨by exact HB.o⟩⟩
  rw [if_neg c4] at H
  have bd := d0 c4
  have cD : decide (8 < l0_0.length) = false := decide_eq_false (by omega)
  clear c4
  (skip)
  by_cases c6 : (l0_2.length : Int) > 64
  ·rw [if_pos c6] at H
   have bg := d1 c6
   clear c6
   have H' := am H
   clear H
   have bj : w3.cell? ⟨aB, 0, none⟩ = some (.slice aP l0_0.length aQ) := (qAa aA.o 0).trans rfl
   have bk : w3.cell? ⟨aB, 2, none⟩ = some (.slice aR l0_2.length aT) := (qAa aA.o 2).trans rfl
   go_wp2
   go_meet
   case rel => exact ⟨_, (true), (by rfl), H', ⟨by omega⟩, ⟨by exact aA.o⟩, ⟨by exact HB.o⟩⟩
  rw [if_neg c6] at H
  have bg := d0 c6
  have cE : decide (64 < l0_2.length) = false := decide_eq_false (by omega)
  clear c6
  by_cases c8 : (l0_3.length : Int) > 4096
  ·rw [if_pos c8] at H
   replace c8 := d1 c8
   have H' := am H
   clear H
   have bl : w3.cell? ⟨aB, 0, none⟩ = some (.slice aP l0_0.length aQ) := (qAa aA.o 0).trans rfl
   have bo : w3.cell? ⟨aB, 2, none⟩ = some (.slice aR l0_2.length aT) := (qAa aA.o 2).trans rfl
   have bp : w3.cell? ⟨aB, 3, none⟩ = some (.slice aS l0_3.length aU) := (qAa aA.o 3).trans rfl
   go_wp2
   go_meet
   case rel => exact ⟨_, (true), (by rfl), H', ⟨by omega⟩, ⟨by exact aA.o⟩, ⟨by exact HB.o⟩⟩
  rw [if_neg c8] at H
  replace c8 := d0 c8
  replace H := bm H
  obtain ⟨a6, bG, H⟩ := H
  replace H : (if a6 = true then (qAh.j0 k false l0_0 a0_1 l0_2 l0_3) else (qAh.j0 k (a0_1 != 0) l0_0 a0_1 l0_2 l0_3)) = some r := H
  have br := am bG
  clear bG
  by_cases bP : a6 = true
  ·subst bP
   replace H : (qAh.j0 k false l0_0 a0_1 l0_2 l0_3) = some r := by rw [if_pos rfl] at H; exact H
   have H' := am H
   clear H
   have bX : w3.cell? ⟨aB, 0, none⟩ = some (.slice aP l0_0.length aQ) := (qAa aA.o 0).trans rfl
   have bY : w3.cell? ⟨aB, 1, none⟩ = some (.int .i64 a0_1) := (qAa aA.o 1).trans rfl
   have bZ : w3.cell? ⟨aB, 2, none⟩ = some (.slice aR l0_2.length aT) := (qAa aA.o 2).trans rfl
   have b0 : w3.cell? ⟨aB, 3, none⟩ = some (.slice aS l0_3.length aU) := (qAa aA.o 3).trans rfl
   go_wp2_with (go_at_call 110; (with_reducible refine (qAW.calls a0_1 true _ br.o).mono ?_); rintro e w' ⟨rfl, ⟨nd, rfl⟩⟩)
   go_meet
   case rel => exact ⟨_, (false), (by rfl), H', ⟨by omega⟩, ⟨by (with_reducible repeat (refine qBs ?_ _)); exact aA.o⟩, ⟨by repeat (with_reducible first | exact HB.o | apply qAw)⟩⟩
  replace bP := Bool.eq_false_iff.mpr bP
  subst bP
  replace H : (qAh.j0 k (a0_1 != 0) l0_0 a0_1 l0_2 l0_3) = some r := by rw [if_neg (show ¬ (false = true) by decide)] at H; exact H
  have H' := am H
  clear H
  have b1 : w3.cell? ⟨aB, 0, none⟩ = some (.slice aP l0_0.length aQ) := (qAa aA.o 0).trans rfl
  have b2 : w3.cell? ⟨aB, 1, none⟩ = some (.int .i64 a0_1) := (qAa aA.o 1).trans rfl
  have b3 : w3.cell? ⟨aB, 2, none⟩ = some (.slice aR l0_2.length aT) := (qAa aA.o 2).trans rfl
  have b4 : w3.cell? ⟨aB, 3, none⟩ = some (.slice aS l0_3.length aU) := (qAa aA.o 3).trans rfl
  go_wp2_with (go_at_call 110; (with_reducible refine (qAW.calls a0_1 false _ br.o).mono ?_); rintro e w' ⟨rfl, ⟨nd, rfl⟩⟩)
  go_meet
  case rel => exact ⟨_, (a0_1 != 0), (by rfl), H', ⟨by omega⟩, ⟨by (with_reducible repeat (refine qBs ?_ _)); exact aA.o⟩, ⟨by repeat (with_reducible first | exact HB.o | apply qAw)⟩⟩
 case rest =>
  clear bc
  obtain ⟨kq, a5, rfl, HA, bB, aA, HB⟩ := hcut
  cases kq with
  | zero => exact absurd HA.o (by simp [qAh.j0])
  | succ bq =>
   have H := HA.o
   clear HA
   simp only [qAh.j0] at H
   by_cases bQ : a5 = true
   ·subst bQ
    replace H : (some false) = some r := by rw [if_pos rfl] at H; exact H
    obtain rfl := Option.some.inj H
    go_wp2
    go_ret
    exact ⟨by rfl, by exact HB.o⟩
   replace bQ := Bool.eq_false_iff.mpr bQ
   subst bQ
   replace H : (qAh.l0 bq 0 l0_0 a0_1 l0_2 l0_3) = some r := by rw [if_neg (show ¬ (false = true) by decide)] at H; exact H
   have H' := am H
   clear H
   go_wp2
   go_loopg [3] bq (fun kq v3 w' => ∃ (aH : Int), v3 = .int .i64 aH ∧ qAe (qAh.l0 kq aH l0_0 a0_1 l0_2 l0_3 = some r) ∧ qAe (kq ≤ bq) ∧ qAe (w'.heap[aB]? = some (.cells #[(.slice aP l0_0.length aQ), .int .i64 a0_1, (.slice aR l0_2.length aT), (.slice aS l0_3.length aU)] 98 (0, 0))) ∧ qAe (Below w.heap.size w w'))
   case atStart => exact ⟨(0), (by rfl), H', ⟨Nat.le_refl _⟩, ⟨by exact aA.o⟩, ⟨by exact HB.o⟩⟩
   case round =>
    clear H'
    obtain ⟨aH, rfl, HA, bC, aA, HB⟩ := hrel
    cases gk with
    | zero => exact absurd HA.o (by simp [qAh.l0])
    | succ k2 =>
     have H := HA.o
     clear HA
     simp only [qAh.l0] at H
     by_cases bD : aH < (l0_0.length : Int)
     ·rw [if_pos bD] at H
      replace bD := d1 bD
      obtain ⟨bR, H⟩ := gd H
      replace bR := d1 bR
      replace H := bm H
      obtain ⟨ao, bH, H⟩ := H
      replace H : (if ao = true then (qAh.l0 k2 (wrap64 (aH + 1)) l0_0 a0_1 l0_2 l0_3) else (some false)) = some r := H
      have bs := am bH
      clear bH
      by_cases bS : ao = true
      rotate_left
      ·replace bS := Bool.eq_false_iff.mpr bS
       subst bS
       replace H : (some false) = some r := by rw [if_neg (show ¬ (false = true) by decide)] at H; exact H
       obtain rfl := Option.some.inj H
       have b6 : wr.cell? ⟨aB, 0, none⟩ = some (.slice aP l0_0.length aQ) := (qAa aA.o 0).trans rfl
       have aV : 0 ≤ aH := od (by assumption)
       have aY : aH < (l0_0.length : Int) := od (by assumption)
       obtain ⟨bK, ay, aJ⟩ := Kd.at_int ar.o aH aV aY
       cases ay
       replace aJ := (HB.o.cell (World.block_lt_of_cell? w _ aJ)).trans aJ
       replace aV := eq_true aV
       replace aY := eq_true aY
       go_wp2_with ((with_reducible refine qAk (f := 110) rfl ?_); refine gL 50 Tryz.func110 #[.int .i64 (rd l0_0 aH)] ?_; (with_reducible refine (qAW.calls (rd l0_0 aH) false _ bs.o).mono ?_); rintro e w' ⟨rfl, ⟨nd, rfl⟩⟩; refine ⟨_, rfl, ?_⟩)
       go_ret
       exact ⟨by rfl, by repeat (with_reducible first | exact HB.o | apply qAw)⟩
      subst bS
      replace H : (qAh.l0 k2 (wrap64 (aH + 1)) l0_0 a0_1 l0_2 l0_3) = some r := by rw [if_pos rfl] at H; exact H
      have H' := am H
      clear H
      have b5 : wr.cell? ⟨aB, 0, none⟩ = some (.slice aP l0_0.length aQ) := (qAa aA.o 0).trans rfl
      have aV : 0 ≤ aH := od (by assumption)
      have aY : aH < (l0_0.length : Int) := od (by assumption)
      obtain ⟨bK, ay, aJ⟩ := Kd.at_int ar.o aH aV aY
      cases ay
      replace aJ := (HB.o.cell (World.block_lt_of_cell? w _ aJ)).trans aJ
      replace aV := eq_true aV
      replace aY := eq_true aY
      go_wp2_with ((with_reducible refine qAk (f := 110) rfl ?_); refine gL 50 Tryz.func110 #[.int .i64 (rd l0_0 aH)] ?_; (with_reducible refine (qAW.calls (rd l0_0 aH) true _ bs.o).mono ?_); rintro e w' ⟨rfl, ⟨nd, rfl⟩⟩; refine ⟨_, rfl, ?_⟩)
      go_roundg k2
      case measure => have := bB.o; have := bC.o; omega
      case rel => exact ⟨(wrap64 (aH + 1)), (by rfl), H', ⟨by have := bB.o; have := bC.o; omega⟩, ⟨by (with_reducible repeat (refine qBs ?_ _)); exact aA.o⟩, ⟨by repeat (with_reducible first | exact HB.o | apply qAw)⟩⟩
     rw [if_neg bD] at H
     replace bD := d0 bD
     have H' := am H
     clear H
     have a7 : wr.cell? ⟨aB, 0, none⟩ = some (.slice aP l0_0.length aQ) := (qAa aA.o 0).trans rfl
     have a8 : wr.cell? ⟨aB, 1, none⟩ = some (.int .i64 a0_1) := (qAa aA.o 1).trans rfl
     have a9 : wr.cell? ⟨aB, 2, none⟩ = some (.slice aR l0_2.length aT) := (qAa aA.o 2).trans rfl
     have aa : wr.cell? ⟨aB, 3, none⟩ = some (.slice aS l0_3.length aU) := (qAa aA.o 3).trans rfl
     have af := qAb aA.o 0
     have ag := qAb aA.o 1
     have ah := qAb aA.o 2
     have ai := qAb aA.o 3
     go_wp2
     go_loopg [4] k2 (fun kq v4 w' => ∃ (aI : Int), v4 = .int .i64 aI ∧ qAe (qAh.l1 kq aI l0_0 a0_1 l0_2 l0_3 = some r) ∧ qAe (kq ≤ k2) ∧ qAe (w'.heap[aB]? = some (.cells #[(.slice aP l0_0.length aQ), .int .i64 a0_1, (.slice aR l0_2.length aT), (.slice aS l0_3.length aU)] 98 (0, 0))) ∧ qAe (Below w.heap.size w w'))
     case atStart => exact ⟨(0), (by rfl), H', ⟨Nat.le_refl _⟩, ⟨by exact aA.o⟩, ⟨by exact HB.o⟩⟩
     case round =>
      clear H'
      obtain ⟨aI, rfl, HA, bO, aA, HB⟩ := hrel
      cases gk with
      | zero => exact absurd HA.o (by simp [qAh.l1])
      | succ k3 =>
       have H := HA.o
       clear HA
       simp only [qAh.l1] at H
       by_cases bE : aI < (l0_2.length : Int)
       ·rw [if_pos bE] at H
        replace bE := d1 bE
        obtain ⟨bT, H⟩ := gd H
        replace bT := d1 bT
        replace H := bm H
        obtain ⟨ap, bI, H⟩ := H
        replace H : (if ap = true then (qAh.l1 k3 (wrap64 (aI + 1)) l0_0 a0_1 l0_2 l0_3) else (some false)) = some r := H
        have bu := am bI
        clear bI
        by_cases bU : ap = true
        rotate_left
        ·replace bU := Bool.eq_false_iff.mpr bU
         subst bU
         replace H : (some false) = some r := by rw [if_neg (show ¬ (false = true) by decide)] at H; exact H
         obtain rfl := Option.some.inj H
         have b8 : wr.cell? ⟨aB, 2, none⟩ = some (.slice aR l0_2.length aT) := (qAa aA.o 2).trans rfl
         have aW : 0 ≤ aI := od (by assumption)
         have aZ : aI < (l0_2.length : Int) := od (by assumption)
         obtain ⟨bL, az, aK⟩ := Kd.at_int au.o aI aW aZ
         cases az
         replace aK := (HB.o.cell (World.block_lt_of_cell? w _ aK)).trans aK
         replace aW := eq_true aW
         replace aZ := eq_true aZ
         go_wp2_with ((with_reducible refine qAk (f := 110) rfl ?_); refine gL 64 Tryz.func110 #[.int .i64 (rd l0_2 aI)] ?_; (with_reducible refine (qAW.calls (rd l0_2 aI) false _ bu.o).mono ?_); rintro e w' ⟨rfl, ⟨nd, rfl⟩⟩; refine ⟨_, rfl, ?_⟩)
         go_ret
         exact ⟨by rfl, by repeat (with_reducible first | exact HB.o | apply qAw)⟩
        subst bU
        replace H : (qAh.l1 k3 (wrap64 (aI + 1)) l0_0 a0_1 l0_2 l0_3) = some r := by rw [if_pos rfl] at H; exact H
        have H' := am H
        clear H
        have b7 : wr.cell? ⟨aB, 2, none⟩ = some (.slice aR l0_2.length aT) := (qAa aA.o 2).trans rfl
        have aW : 0 ≤ aI := od (by assumption)
        have aZ : aI < (l0_2.length : Int) := od (by assumption)
        obtain ⟨bL, az, aK⟩ := Kd.at_int au.o aI aW aZ
        cases az
        replace aK := (HB.o.cell (World.block_lt_of_cell? w _ aK)).trans aK
        replace aW := eq_true aW
        replace aZ := eq_true aZ
        go_wp2_with ((with_reducible refine qAk (f := 110) rfl ?_); refine gL 64 Tryz.func110 #[.int .i64 (rd l0_2 aI)] ?_; (with_reducible refine (qAW.calls (rd l0_2 aI) true _ bu.o).mono ?_); rintro e w' ⟨rfl, ⟨nd, rfl⟩⟩; refine ⟨_, rfl, ?_⟩)
        go_roundg k3
        case measure => have := bB.o; have := bC.o; have := bO.o; omega
        case rel => exact ⟨(wrap64 (aI + 1)), (by rfl), H', ⟨by have := bB.o; have := bC.o; have := bO.o; omega⟩, ⟨by (with_reducible repeat (refine qBs ?_ _)); exact aA.o⟩, ⟨by repeat (with_reducible first | exact HB.o | apply qAw)⟩⟩
       rw [if_neg bE] at H
       replace bE := d0 bE
       have H' := am H
       clear H
       have ab : wr.cell? ⟨aB, 0, none⟩ = some (.slice aP l0_0.length aQ) := (qAa aA.o 0).trans rfl
       have ac : wr.cell? ⟨aB, 1, none⟩ = some (.int .i64 a0_1) := (qAa aA.o 1).trans rfl
       have ad : wr.cell? ⟨aB, 2, none⟩ = some (.slice aR l0_2.length aT) := (qAa aA.o 2).trans rfl
       have ae : wr.cell? ⟨aB, 3, none⟩ = some (.slice aS l0_3.length aU) := (qAa aA.o 3).trans rfl
       have aj := qAb aA.o 0
       have ak := qAb aA.o 1
       have al := qAb aA.o 2
       have an := qAb aA.o 3
       go_wp2
       go_loopg [5] k3 (fun kq v5 w' => ∃ (aD : Int), v5 = .int .i64 aD ∧ qAe (qAh.l2 kq aD l0_0 a0_1 l0_2 l0_3 = some r) ∧ qAe (kq ≤ k3) ∧ qAe (w'.heap[aB]? = some (.cells #[(.slice aP l0_0.length aQ), .int .i64 a0_1, (.slice aR l0_2.length aT), (.slice aS l0_3.length aU)] 98 (0, 0))) ∧ qAe (Below w.heap.size w w'))
       case atStart => exact ⟨(0), (by rfl), H', ⟨Nat.le_refl _⟩, ⟨by exact aA.o⟩, ⟨by exact HB.o⟩⟩
       case round =>
        clear H'
        obtain ⟨aD, rfl, HA, bz, aA, HB⟩ := hrel
        cases gk with
        | zero => exact absurd HA.o (by simp [qAh.l2])
        | succ k4 =>
         have H := HA.o
         clear HA
         simp only [qAh.l2] at H
         by_cases bF : aD < (l0_3.length : Int)
         rotate_left
         ·rw [if_neg bF] at H
          replace bF := d0 bF
          obtain rfl := Option.some.inj H
          have bb : wr.cell? ⟨aB, 3, none⟩ = some (.slice aS l0_3.length aU) := (qAa aA.o 3).trans rfl
          go_wp2
          go_ret
          exact ⟨by rfl, by exact HB.o⟩
         rw [if_pos bF] at H
         replace bF := d1 bF
         obtain ⟨bV, H⟩ := gd H
         replace bV := d1 bV
         replace H := bm H
         obtain ⟨aq, bJ, H⟩ := H
         replace H : (if aq = true then (qAh.l2 k4 (wrap64 (aD + 1)) l0_0 a0_1 l0_2 l0_3) else (some false)) = some r := H
         have bw := am bJ
         clear bJ
         by_cases bW : aq = true
         rotate_left
         ·replace bW := Bool.eq_false_iff.mpr bW
          subst bW
          replace H : (some false) = some r := by rw [if_neg (show ¬ (false = true) by decide)] at H; exact H
          obtain rfl := Option.some.inj H
          have ba : wr.cell? ⟨aB, 3, none⟩ = some (.slice aS l0_3.length aU) := (qAa aA.o 3).trans rfl
          have aX : 0 ≤ aD := od (by assumption)
          have a4 : aD < (l0_3.length : Int) := od (by assumption)
          obtain ⟨bM, bA, aL, aM, aN, aO⟩ := qCj av.o aD aX a4
          cases bA
          replace aL := (HB.o.cell (World.block_lt_of_cell? w _ aL)).trans aL
          replace aM := (HB.o.cell (World.block_lt_of_cell? w _ aM)).trans aM
          replace aN := (HB.o.cell (World.block_lt_of_cell? w _ aN)).trans aN
          replace aO := (HB.o.cell (World.block_lt_of_cell? w _ aO)).trans aO
          replace aX := eq_true aX
          replace a4 := eq_true a4
          go_wp2_with ((with_reducible refine qAk (f := 111) rfl ?_); refine gL 78 Tryz.func111 #[.agg #[.int .i64 ((qAQ l0_3 aD).f0), .int .i64 ((qAQ l0_3 aD).f1), .int .i64 ((qAQ l0_3 aD).f2.f0), .int .u64 ((qAQ l0_3 aD).f2.f1)]] ?_; (with_reducible refine (qBa.calls ((qAQ l0_3 aD).f0) ((qAQ l0_3 aD).f1) ((qAQ l0_3 aD).f2.f0) ((qAQ l0_3 aD).f2.f1) false _ bw.o).mono ?_); rintro e cI ⟨rfl, hb⟩; refine ⟨_, rfl, ?_⟩; have n_ := am (qAp HB.o hb); clear aA HB; have HB := n_; clear n_; (skip))
          go_ret
          exact ⟨by rfl, by exact HB.o⟩
         subst bW
         replace H : (qAh.l2 k4 (wrap64 (aD + 1)) l0_0 a0_1 l0_2 l0_3) = some r := by rw [if_pos rfl] at H; exact H
         have H' := am H
         clear H
         have b9 : wr.cell? ⟨aB, 3, none⟩ = some (.slice aS l0_3.length aU) := (qAa aA.o 3).trans rfl
         have aX : 0 ≤ aD := od (by assumption)
         have a4 : aD < (l0_3.length : Int) := od (by assumption)
         obtain ⟨bM, bA, aL, aM, aN, aO⟩ := qCj av.o aD aX a4
         cases bA
         replace aL := (HB.o.cell (World.block_lt_of_cell? w _ aL)).trans aL
         replace aM := (HB.o.cell (World.block_lt_of_cell? w _ aM)).trans aM
         replace aN := (HB.o.cell (World.block_lt_of_cell? w _ aN)).trans aN
         replace aO := (HB.o.cell (World.block_lt_of_cell? w _ aO)).trans aO
         replace aX := eq_true aX
         replace a4 := eq_true a4
         go_wp2_with ((with_reducible refine qAk (f := 111) rfl ?_); refine gL 78 Tryz.func111 #[.agg #[.int .i64 ((qAQ l0_3 aD).f0), .int .i64 ((qAQ l0_3 aD).f1), .int .i64 ((qAQ l0_3 aD).f2.f0), .int .u64 ((qAQ l0_3 aD).f2.f1)]] ?_; (with_reducible refine (qBa.calls ((qAQ l0_3 aD).f0) ((qAQ l0_3 aD).f1) ((qAQ l0_3 aD).f2.f0) ((qAQ l0_3 aD).f2.f1) true _ bw.o).mono ?_); rintro e cH ⟨rfl, hb⟩; refine ⟨_, rfl, ?_⟩; have n_ := a2 (qA4 aA.o hb) (am (qAp HB.o hb)); clear aA HB; obtain ⟨aA, HB⟩ := n_; (skip))
         go_roundg k4
         case measure => have := bB.o; have := bC.o; have := bO.o; have := bz.o; omega
         case rel => exact ⟨(wrap64 (aD + 1)), (by rfl), H', ⟨by have := bB.o; have := bC.o; have := bO.o; have := bz.o; omega⟩, ⟨by exact aA.o⟩, ⟨by exact HB.o⟩⟩
def qAS.l0 : Nat → List ByteArray → ByteArray → Int → Option (Int × Bool)
 | 0, _, _, _ => none
 | k + 1, x0, x1, x6 => if x6 < (x0.length : Int) then (if 0 ≤ x6 then (if (rdOf ByteArray.empty x0 x6).toList = x1.toList then (some (x6, true)) else (qAS.l0 k x0 x1 (wrap64 (x6 + 1)))) else (none)) else (some (0, false))
def qAS.f (k : Nat) (l0 : List ByteArray) (a1 : ByteArray) : Option (Int × Bool) := qAS.l0 k l0 a1 0
theorem qAS.calls (k : Nat) (A0 : Option Addr) (c0 : Nat) (l0 : List ByteArray) (a1 : ByteArray) (r1 : Int) (r2 : Bool) (w : World) (hr0 : Kd.C Kd.string w A0 l0.length l0) (hc0 : l0.length ≤ c0) (h : qAS.f k l0 a1 = some (r1, r2)) :
  Calls Tryz.prog 112 #[.slice A0 l0.length c0, .string a1] w fun e w' => e = .returned (.tuple #[.int .i64 r1, .bool r2]) ∧ qAZ w w' := by
 have aJ := am hr0
 clear hr0 hc0
 have H : (qAS.l0 k l0 a1 0) = some (r1, r2) := h
 clear h
 have H' := am H
 clear H
 go_enter Tryz.func112, Tryz.ntmps112
 go_wp2
 go_loopg [6] k (fun kq v6 w' => ∃ (aA : Int), v6 = .int .i64 aA ∧ qAe (qAS.l0 kq l0 a1 aA = some (r1, r2)) ∧ qAe (kq ≤ k) ∧ qAZ w w')
 case atStart => exact ⟨(0), (by rfl), H', ⟨Nat.le_refl _⟩, by exact qAZ.refl _⟩
 case round =>
  clear H'
  obtain ⟨aA, rfl, HA, aI, ⟨m1, rfl⟩⟩ := hrel
  cases gk with
  | zero => exact absurd HA.o (by simp [qAS.l0])
  | succ k1 =>
   have H := HA.o
   clear HA
   simp only [qAS.l0] at H
   by_cases c3 : aA < (l0.length : Int)
   rotate_left
   ·rw [if_neg c3] at H
    replace c3 := d0 c3
    simp only [Option.some.injEq, Prod.mk.injEq] at H
    obtain ⟨rfl, rfl⟩ := H
    go_wp2
    go_ret2
    exact ⟨by rfl, by repeat (first | exact qAZ.refl _ | apply qAZ.step)⟩
   rw [if_pos c3] at H
   replace c3 := d1 c3
   obtain ⟨c4, H⟩ := gd H
   replace c4 := d1 c4
   by_cases c5 : (rdOf ByteArray.empty l0 aA).toList = a1.toList
   ·rw [if_pos c5] at H
    have aH : ((rdOf ByteArray.empty l0 aA).toList == a1.toList) = true := beq_iff_eq.mpr c5
    clear c5
    simp only [Option.some.injEq, Prod.mk.injEq] at H
    obtain ⟨rfl, rfl⟩ := H
    have aB : 0 ≤ aA := od (by assumption)
    have aC : aA < (l0.length : Int) := od (by assumption)
    obtain ⟨aF, aE, aD⟩ := Kd.at_string aJ.o aA aB aC
    cases aE
    replace aB := eq_true aB
    replace aC := eq_true aC
    go_wp2
    go_ret2
    exact ⟨by rfl, by repeat (first | exact qAZ.refl _ | apply qAZ.step)⟩
   rw [if_neg c5] at H
   have aH : ((rdOf ByteArray.empty l0 aA).toList == a1.toList) = false := bf c5
   have H' := am H
   clear H
   have aB : 0 ≤ aA := od (by assumption)
   have aC : aA < (l0.length : Int) := od (by assumption)
   obtain ⟨aF, aE, aD⟩ := Kd.at_string aJ.o aA aB aC
   cases aE
   replace aB := eq_true aB
   replace aC := eq_true aC
   go_wp2
   go_roundg k1
   case measure => have := aI.o; omega
   case rel => exact ⟨(wrap64 (aA + 1)), (by rfl), H', ⟨by have := aI.o; omega⟩, by repeat (first | exact qAZ.refl _ | apply qAZ.step)⟩
def qB7.f (k : Nat) (l0 : List ByteArray) (a1 : ByteArray) : Option (Bool) := (qAS.f k l0 a1).bind fun aA => (some aA.2)
theorem qB7.calls (k : Nat) (A0 : Option Addr) (c0 : Nat) (l0 : List ByteArray) (a1 : ByteArray) (r : Bool) (w : World) (hr0 : Kd.C Kd.string w A0 l0.length l0) (hc0 : l0.length ≤ c0) (h : qB7.f k l0 a1 = some r) :
  Calls Tryz.prog 39 #[.slice A0 l0.length c0, .string a1] w fun e w' => e = .returned (.bool r) ∧ qAZ w w' := by
 have aF := am hr0
 have aE := am hc0
 clear hr0 hc0
 have H : ((qAS.f k l0 a1).bind fun aA => (some aA.2)) = some r := h
 clear h
 replace H := bm H
 obtain ⟨⟨aC, aB⟩, aD, H⟩ := H
 replace H : (some aB) = some r := H
 have A3 := am aD
 clear aD
 obtain rfl := Option.some.inj H
 go_enter Tryz.func39, Tryz.ntmps39
 go_wp2_with ((with_reducible refine qAk (f := 112) rfl ?_); refine gL 10 Tryz.func112 #[.slice A0 l0.length c0, .string a1] ?_; (with_reducible refine (qAS.calls k _ _ l0 a1 aC aB _ ?side1 ?side2 A3.o).mono ?_); (case side1 => exact aF.o); (case side2 => exact aE.o); rintro e w' ⟨rfl, ⟨nd, rfl⟩⟩; refine ⟨_, rfl, ?_⟩)
 go_ret
 exact ⟨by rfl, by repeat (first | exact qAZ.refl _ | apply qAZ.step)⟩
def qAG.j0 : Nat → Int → Bool → Option (Int)
 | 0, _, _ => none
 | k + 1, x4, x5 => if x5 = true then (some 1) else (if x4 = 10 then (some 2) else (some 0))
def qAG.f (k : Nat) (a0_0 : Int) (a0_1 : Int) (a0_2 : Int) (a0_3 : Int) : Option (Int) := if a0_0 = 4 then (qAG.j0 k a0_0 (a0_0 == 4)) else (qAG.j0 k a0_0 (a0_0 == 5))
theorem qAG.calls (k : Nat) (a0_0 : Int) (a0_1 : Int) (a0_2 : Int) (a0_3 : Int) (r : Int) (w : World) (h : qAG.f k a0_0 a0_1 a0_2 a0_3 = some r) :
  Calls Tryz.prog 113 #[.agg #[.int .i64 a0_0, .int .i64 a0_1, .int .i64 a0_2, .int .u64 a0_3]] w fun e w' => e = .returned (.int .i64 r) ∧ Below w.heap.size w w' := by
 have HB := am (Below.refl w.heap.size w)
 have H : (if a0_0 = 4 then (qAG.j0 k a0_0 (a0_0 == 4)) else (qAG.j0 k a0_0 (a0_0 == 5))) = some r := h
 clear h
 have aM := am H
 clear H
 go_enter Tryz.func113, Tryz.ntmps113
 go_upto_if 5 with ((with_reducible refine qAO (N := 1) rfl ?_); refine bx 1 #[.int .i64 a0_0, .int .i64 a0_1, .int .i64 a0_2, .int .u64 a0_3] 172 ?_; intro aB hg w3 hbox hb; have n_ := a2 (qAp HB.o hb) (am (hbox)); clear HB; obtain ⟨HB, aA⟩ := n_; clear hb hbox hg; have aE : w3.cell? ⟨aB, 0, none⟩ = some (.int .i64 a0_0) := (qAa aA.o 0).trans rfl; have aF : w3.cell? ⟨aB, 1, none⟩ = some (.int .i64 a0_1) := (qAa aA.o 1).trans rfl; have aG : w3.cell? ⟨aB, 2, none⟩ = some (.int .i64 a0_2) := (qAa aA.o 2).trans rfl; have aH : w3.cell? ⟨aB, 3, none⟩ = some (.int .u64 a0_3) := (qAa aA.o 3).trans rfl; have aI := qAb aA.o 0; have aJ := qAb aA.o 1; have aK := qAb aA.o 2; have aL := qAb aA.o 3)
 (skip)
 go_cut [5] (fun v5 wc => ∃ (kq : Nat) (aC : Bool), v5 = .bool aC ∧ qAe (qAG.j0 kq a0_0 aC = some r) ∧ qAe (kq ≤ k) ∧ qAe (wc.heap[aB]? = some (.cells #[.int .i64 a0_0, .int .i64 a0_1, .int .i64 a0_2, .int .u64 a0_3] 172 (0, 0))) ∧ qAe (Below w.heap.size w wc))
 case first =>
  have H := aM.o
  clear aM
  by_cases c5 : a0_0 = 4
  rotate_left
  ·rw [if_neg c5] at H
   have aD : (a0_0 == 4) = false := bf c5
   (rw [aD])
   have H' := am H
   clear H
   go_wp2
   go_meet
   case rel => exact ⟨_, (a0_0 == 5), (by rfl), H', ⟨by omega⟩, ⟨by exact aA.o⟩, ⟨by exact HB.o⟩⟩
  rw [if_pos c5] at H
  have aD : (a0_0 == 4) = true := beq_iff_eq.mpr c5
  clear c5
  (rw [aD])
  have H' := am H
  clear H
  go_wp2
  go_meet
  case rel => exact ⟨_, (a0_0 == 4), (by (simp [*]; done)), H', ⟨by omega⟩, ⟨by exact aA.o⟩, ⟨by exact HB.o⟩⟩
 case rest =>
  clear aM
  obtain ⟨kq, aC, rfl, HA, aO, aA, HB⟩ := hcut
  cases kq with
  | zero => exact absurd HA.o (by simp [qAG.j0])
  | succ aP =>
   have H := HA.o
   clear HA
   simp only [qAG.j0] at H
   by_cases c6 : aC = true
   ·subst c6
    replace H : (some 1) = some r := by rw [if_pos rfl] at H; exact H
    obtain rfl := Option.some.inj H
    go_wp2
    go_ret
    exact ⟨by rfl, by exact HB.o⟩
   replace c6 := Bool.eq_false_iff.mpr c6
   subst c6
   replace H : (if a0_0 = 10 then (some 2) else (some 0)) = some r := by rw [if_neg (show ¬ (false = true) by decide)] at H; exact H
   by_cases c7 : a0_0 = 10
   ·rw [if_pos c7] at H
    have aN : (a0_0 == 10) = true := beq_iff_eq.mpr c7
    clear c7
    obtain rfl := Option.some.inj H
    go_wp2
    go_ret
    exact ⟨by rfl, by exact HB.o⟩
   rw [if_neg c7] at H
   have aN : (a0_0 == 10) = false := bf c7
   obtain rfl := Option.some.inj H
   go_wp2
   go_ret
   exact ⟨by rfl, by exact HB.o⟩
mutual
def qAo.l0 : Nat → Int → Int → ByteArray → List (S95) → List (S100) → List (S103) → Option (Bool)
 | 0, _, _, _, _, _, _ => none
 | k + 1, x3, x4, aS, aT, aM, aL => if x4 < (aM.length : Int) then (if 0 ≤ x4 then (qAo.l1 k x3 x4 ((qAM aM x4).f1.f2) 0 aS aT aM aL) else (none)) else (some (x3 == (aL.length : Int)))
def qAo.l1 : Nat → Int → Int → List (S172) → Int → ByteArray → List (S95) → List (S100) → List (S103) → Option (Bool)
 | 0, _, _, _, _, _, _, _, _ => none
 | k + 1, x3, x4, x5, x6, aS, aT, aM, aL => if x6 < (x5.length : Int) then (if 0 ≤ x6 then ((qAG.f k ((qAQ x5 x6).f0) ((qAQ x5 x6).f1) ((qAQ x5 x6).f2.f0) ((qAQ x5 x6).f2.f1)).bind fun aW => (if aW = 0 then (qAo.l1 k x3 x4 x5 (wrap64 (x6 + 1)) aS aT aM aL) else (if ((qAQ x5 x6).f1) = 0 then (qAo.j2 k x3 x4 x5 x6 aW (x3 == (aL.length : Int)) aS aT aM aL) else (qAo.j2 k x3 x4 x5 x6 aW true aS aT aM aL)))) else (none)) else (qAo.l0 k x3 (wrap64 (x4 + 1)) aS aT aM aL)
def qAo.j2 : Nat → Int → Int → List (S172) → Int → Int → Bool → ByteArray → List (S95) → List (S100) → List (S103) → Option (Bool)
 | 0, _, _, _, _, _, _, _, _, _, _ => none
 | k + 1, x3, x4, x5, x6, x7, cx, aS, aT, aM, aL => if cx = true then (some false) else (if 0 ≤ x3 then (if x3 < (aL.length : Int) then (if ((qAE aL x3).f0) = x4 then (if ((qAE aL x3).f1) = x6 then (if ((qAE aL x3).f2) = x7 then (qAo.l1 k (wrap64 (x3 + 1)) x4 x5 (wrap64 (x6 + 1)) aS aT aM aL) else (some false)) else (some false)) else (some false)) else (none)) else (none))
end
def qAo.f (k : Nat) (a0_0 : ByteArray) (l0_1 : List (S95)) (l0_2 : List (S100)) (l0_3 : List (S103)) : Option (Bool) := qAo.l0 k 0 0 a0_0 l0_1 l0_2 l0_3
theorem qAo.calls (k : Nat) (a0_0 : ByteArray) (ag : Option Addr) (ah : Nat) (l0_1 : List (S95)) (al : Option Addr) (ad : Nat) (l0_2 : List (S100)) (aZ : Option Addr) (a4 : Nat) (l0_3 : List (S103)) (r : Bool) (w : World) (hr0_1 : Kd.C k95 w ag l0_1.length l0_1) (hc0_1 : l0_1.length ≤ ah) (hr0_2 : Kd.C k100 w al l0_2.length l0_2) (hc0_2 : l0_2.length ≤ ad) (hr0_3 : Kd.C k103 w aZ l0_3.length l0_3) (hc0_3 : l0_3.length ≤ a4) (h : qAo.f k a0_0 l0_1 l0_2 l0_3 = some r) :
  Calls Tryz.prog 40 #[.agg #[.string a0_0, .slice ag l0_1.length ah, .slice al l0_2.length ad, .slice aZ l0_3.length a4]] w fun e w' => e = .returned (.bool r) ∧ Below w.heap.size w w' := by
 clear hr0_1 hc0_1
 have bW := am hr0_2
 clear hr0_2 hc0_2
 have aj := am hr0_3
 clear hr0_3 hc0_3
 have HB := am (Below.refl w.heap.size w)
 have H : (qAo.l0 k 0 0 a0_0 l0_1 l0_2 l0_3) = some r := h
 clear h
 have H' := am H
 clear H
 go_enter Tryz.func40, Tryz.ntmps40
 go_wp2_with ((with_reducible refine qAO (N := 1) rfl ?_); (try (refine qBJ (by rfl) ?_; dsimp only)); refine bx 1 #[.string a0_0, .slice ag l0_1.length ah, .slice al l0_2.length ad, .slice aZ l0_3.length a4] 26 ?_; intro aN hg w2 hbox hb; have n_ := a2 (qAp HB.o hb) (am (hbox)); clear HB; obtain ⟨HB, aB⟩ := n_; clear hb hbox hg)
 go_loopg [3, 4] k (fun kq v3 v4 w' => ∃ (bC : Int) (aC : Int), v3 = .int .i64 bC ∧ v4 = .int .i64 aC ∧ qAe (qAo.l0 kq bC aC a0_0 l0_1 l0_2 l0_3 = some r) ∧ qAe (kq ≤ k) ∧ qAe (w'.heap[aN]? = some (.cells #[.string a0_0, (.slice ag l0_1.length ah), (.slice al l0_2.length ad), (.slice aZ l0_3.length a4)] 26 (0, 0))) ∧ qAe (Below w.heap.size w w'))
 case atStart => exact ⟨(0), (0), (by rfl), (by rfl), H', ⟨Nat.le_refl _⟩, ⟨by exact aB.o⟩, ⟨by exact HB.o⟩⟩
 case round =>
  clear H'
  obtain ⟨bC, aC, rfl, rfl, HA, bD, aB, HB⟩ := hrel
  cases gk with
  | zero => exact absurd HA.o (by simp [qAo.l0])
  | succ k1 =>
   have H := HA.o
   clear HA
   simp only [qAo.l0] at H
   by_cases c3 : aC < (l0_2.length : Int)
   rotate_left
   ·rw [if_neg c3] at H
    replace c3 := d0 c3
    obtain rfl := Option.some.inj H
    have cL : wr.cell? ⟨aN, 2, none⟩ = some (.slice al l0_2.length ad) := (qAa aB.o 2).trans rfl
    have cM : wr.cell? ⟨aN, 3, none⟩ = some (.slice aZ l0_3.length a4) := (qAa aB.o 3).trans rfl
    go_wp2
    go_ret
    exact ⟨by rfl, by exact HB.o⟩
   rw [if_pos c3] at H
   replace c3 := d1 c3
   obtain ⟨c4, H⟩ := gd H
   replace c4 := d1 c4
   have H' := am H
   clear H
   have bJ : wr.cell? ⟨aN, 0, none⟩ = some (.string a0_0) := (qAa aB.o 0).trans rfl
   have bK : wr.cell? ⟨aN, 1, none⟩ = some (.slice ag l0_1.length ah) := (qAa aB.o 1).trans rfl
   have bL : wr.cell? ⟨aN, 2, none⟩ = some (.slice al l0_2.length ad) := (qAa aB.o 2).trans rfl
   have bM : wr.cell? ⟨aN, 3, none⟩ = some (.slice aZ l0_3.length a4) := (qAa aB.o 3).trans rfl
   have bN := qAb aB.o 0
   have bO := qAb aB.o 1
   have bP := qAb aB.o 2
   have bQ := qAb aB.o 3
   have bA : 0 ≤ aC := od (by assumption)
   have bB : aC < (l0_2.length : Int) := od (by assumption)
   obtain ⟨bF, cg, cj, ch, ck, ci, cl, cp, a6, a7, a8, a9, aa, au, aq, av, ar, aw, ak⟩ := qEz bW.o aC bA bB
   cases cp
   replace a6 := (HB.o.cell (World.block_lt_of_cell? w _ a6)).trans a6
   replace a7 := (HB.o.cell (World.block_lt_of_cell? w _ a7)).trans a7
   replace a8 := (HB.o.cell (World.block_lt_of_cell? w _ a8)).trans a8
   replace a9 := (HB.o.cell (World.block_lt_of_cell? w _ a9)).trans a9
   replace aa := (HB.o.cell (World.block_lt_of_cell? w _ aa)).trans aa
   clear aq au ar av
   have a5 := am ak
   clear ak aw
   replace bA := eq_true bA
   replace bB := eq_true bB
   go_wp2
   go_loopg [3, 6] k1 (fun kq v3 v6 w' => ∃ (aE : Int) (aD : Int), v3 = .int .i64 aE ∧ v6 = .int .i64 aD ∧ qAe (qAo.l1 kq aE aC ((qAM l0_2 aC).f1.f2) aD a0_0 l0_1 l0_2 l0_3 = some r) ∧ qAe (kq ≤ k1) ∧ qAe (w'.heap[aN]? = some (.cells #[.string a0_0, (.slice ag l0_1.length ah), (.slice (some bF) l0_2.length ad), (.slice aZ l0_3.length a4)] 26 (0, 0))) ∧ qAe (Below w.heap.size w w'))
   case atStart => exact ⟨(bC), (0), (by rfl), (by rfl), H', ⟨Nat.le_refl _⟩, ⟨by exact aB.o⟩, ⟨by exact HB.o⟩⟩
   case round =>
    clear H'
    obtain ⟨aE, aD, rfl, rfl, HA, bE, aB, HB⟩ := hrel
    cases gk with
    | zero => exact absurd HA.o (by simp [qAo.l1])
    | succ k2 =>
     have H := HA.o
     clear HA
     simp only [qAo.l1] at H
     by_cases c6 : aD < (((qAM l0_2 aC).f1.f2).length : Int)
     rotate_left
     ·rw [if_neg c6] at H
      replace c6 := d0 c6
      have H' := am H
      clear H
      go_wp2
      go_roundg k2
      case measure => have := bD.o; have := bE.o; omega
      case rel => exact ⟨(aE), (wrap64 (aC + 1)), (by rfl), (by rfl), H', ⟨by have := bD.o; have := bE.o; omega⟩, ⟨by exact aB.o⟩, ⟨by exact HB.o⟩⟩
     rw [if_pos c6] at H
     replace c6 := d1 c6
     obtain ⟨c7, H⟩ := gd H
     replace c7 := d1 c7
     replace H := bm H
     obtain ⟨aW, cq, H⟩ := H
     replace H : (if aW = 0 then (qAo.l1 k2 aE aC ((qAM l0_2 aC).f1.f2) (wrap64 (aD + 1)) a0_0 l0_1 l0_2 l0_3) else (if ((qAQ ((qAM l0_2 aC).f1.f2) aD).f1) = 0 then (qAo.j2 k2 aE aC ((qAM l0_2 aC).f1.f2) aD aW (aE == (l0_3.length : Int)) a0_0 l0_1 l0_2 l0_3) else (qAo.j2 k2 aE aC ((qAM l0_2 aC).f1.f2) aD aW true a0_0 l0_1 l0_2 l0_3))) = some r := H
     have A8 := am cq
     clear cq
     by_cases c9 : aW = 0
     ·rw [if_pos c9] at H
      have b5 : (aW == 0) = true := beq_iff_eq.mpr c9
      clear c9
      have H' := am H
      clear H
      have ae : 0 ≤ aD := od (by assumption)
      have af : aD < (((qAM l0_2 aC).f1.f2).length : Int) := od (by assumption)
      obtain ⟨an, bH, aO, aP, aQ, aR⟩ := qCj a5.o aD ae af
      cases bH
      replace aO := (HB.o.cell (World.block_lt_of_cell? w _ aO)).trans aO
      replace aP := (HB.o.cell (World.block_lt_of_cell? w _ aP)).trans aP
      replace aQ := (HB.o.cell (World.block_lt_of_cell? w _ aQ)).trans aQ
      replace aR := (HB.o.cell (World.block_lt_of_cell? w _ aR)).trans aR
      replace ae := eq_true ae
      replace af := eq_true af
      go_wp2_with ((with_reducible refine qAk (f := 113) rfl ?_); refine gL 33 Tryz.func113 #[.agg #[.int .i64 ((qAQ ((qAM l0_2 aC).f1.f2) aD).f0), .int .i64 ((qAQ ((qAM l0_2 aC).f1.f2) aD).f1), .int .i64 ((qAQ ((qAM l0_2 aC).f1.f2) aD).f2.f0), .int .u64 ((qAQ ((qAM l0_2 aC).f1.f2) aD).f2.f1)]] ?_; (with_reducible refine (qAG.calls k2 ((qAQ ((qAM l0_2 aC).f1.f2) aD).f0) ((qAQ ((qAM l0_2 aC).f1.f2) aD).f1) ((qAQ ((qAM l0_2 aC).f1.f2) aD).f2.f0) ((qAQ ((qAM l0_2 aC).f1.f2) aD).f2.f1) aW _ A8.o).mono ?_); rintro e cy ⟨rfl, hb⟩; refine ⟨_, rfl, ?_⟩; have n_ := a2 (qA4 aB.o hb) (am (qAp HB.o hb)); clear aB HB; obtain ⟨aB, HB⟩ := n_; (skip))
      go_roundg k2
      case measure => have := bD.o; have := bE.o; omega
      case rel => exact ⟨(aE), (wrap64 (aD + 1)), (by rfl), (by rfl), H', ⟨by have := bD.o; have := bE.o; omega⟩, ⟨by exact aB.o⟩, ⟨by exact HB.o⟩⟩
     rw [if_neg c9] at H
     have b5 : (aW == 0) = false := bf c9
     have co : (aW != 0) = true := bne_iff_ne.mpr c9
     have bG := am H
     clear H
     have ae : 0 ≤ aD := od (by assumption)
     have af : aD < (((qAM l0_2 aC).f1.f2).length : Int) := od (by assumption)
     obtain ⟨an, bH, aO, aP, aQ, aR⟩ := qCj a5.o aD ae af
     cases bH
     replace aO := (HB.o.cell (World.block_lt_of_cell? w _ aO)).trans aO
     replace aP := (HB.o.cell (World.block_lt_of_cell? w _ aP)).trans aP
     replace aQ := (HB.o.cell (World.block_lt_of_cell? w _ aQ)).trans aQ
     replace aR := (HB.o.cell (World.block_lt_of_cell? w _ aR)).trans aR
     replace ae := eq_true ae
     replace af := eq_true af
     go_upto_region 11 with ((with_reducible refine qAk (f := 113) rfl ?_); refine gL 33 Tryz.func113 #[.agg #[.int .i64 ((qAQ ((qAM l0_2 aC).f1.f2) aD).f0), .int .i64 ((qAQ ((qAM l0_2 aC).f1.f2) aD).f1), .int .i64 ((qAQ ((qAM l0_2 aC).f1.f2) aD).f2.f0), .int .u64 ((qAQ ((qAM l0_2 aC).f1.f2) aD).f2.f1)]] ?_; (with_reducible refine (qAG.calls k2 ((qAQ ((qAM l0_2 aC).f1.f2) aD).f0) ((qAQ ((qAM l0_2 aC).f1.f2) aD).f1) ((qAQ ((qAM l0_2 aC).f1.f2) aD).f2.f0) ((qAQ ((qAM l0_2 aC).f1.f2) aD).f2.f1) aW _ A8.o).mono ?_); rintro e cw ⟨rfl, hb⟩; refine ⟨_, rfl, ?_⟩; have n_ := a2 (qA4 aB.o hb) (am (qAp HB.o hb)); clear aB HB; obtain ⟨aB, HB⟩ := n_; (skip))
     (skip)
     go_cut [48] (fun cv wc => ∃ (kq : Nat) (ac : Bool), cv = .bool ac ∧ qAe (qAo.j2 kq aE aC ((qAM l0_2 aC).f1.f2) aD aW ac a0_0 l0_1 l0_2 l0_3 = some r) ∧ qAe (kq ≤ k2) ∧ qAe (wc.heap[aN]? = some (.cells #[.string a0_0, (.slice ag l0_1.length ah), (.slice (some bF) l0_2.length ad), (.slice aZ l0_3.length a4)] 26 (0, 0))) ∧ qAe (Below w.heap.size w wc))
     case first =>
      have H := bG.o
      clear bG
      by_cases bX : ((qAQ ((qAM l0_2 aC).f1.f2) aD).f1) = 0
      rotate_left
      ·rw [if_neg bX] at H
       have bY : (((qAQ ((qAM l0_2 aC).f1.f2) aD).f1) != 0) = true := bne_iff_ne.mpr bX
       (skip)
       have H' := am H
       clear H
       have bR : 0 ≤ aD := od (by assumption)
       have bS : aD < (((qAM l0_2 aC).f1.f2).length : Int) := od (by assumption)
       obtain ⟨ao, bI, ax, aV, ay, az⟩ := qCj a5.o aD bR bS
       obtain rfl : an = ao := (by injection bI)
       replace aV := (HB.o.cell (World.block_lt_of_cell? w _ aV)).trans aV
       go_wp2
       go_meet
       case rel => exact ⟨_, (true), (by rfl), H', ⟨by have := bD.o; have := bE.o; (omega)⟩, ⟨by exact aB.o⟩, ⟨by exact HB.o⟩⟩
      rw [if_pos bX] at H
      have bY : (((qAQ ((qAM l0_2 aC).f1.f2) aD).f1) != 0) = false := bn bX
      clear bX
      (skip)
      have H' := am H
      clear H
      have bR : 0 ≤ aD := od (by assumption)
      have bS : aD < (((qAM l0_2 aC).f1.f2).length : Int) := od (by assumption)
      obtain ⟨ao, bI, ax, aV, ay, az⟩ := qCj a5.o aD bR bS
      obtain rfl : an = ao := (by injection bI)
      replace aV := (HB.o.cell (World.block_lt_of_cell? w _ aV)).trans aV
      have bg : cw.cell? ⟨aN, 3, none⟩ = some (.slice aZ l0_3.length a4) := (qAa aB.o 3).trans rfl
      go_wp2
      go_meet
      case rel => exact ⟨_, (aE == (l0_3.length : Int)), (by rfl), H', ⟨by have := bD.o; have := bE.o; (omega)⟩, ⟨by exact aB.o⟩, ⟨by exact HB.o⟩⟩
     case rest =>
      clear bG
      obtain ⟨kq, ac, rfl, HA, bV, aB, HB⟩ := hcut
      cases kq with
      | zero => exact absurd HA.o (by simp [qAo.j2])
      | succ b6 =>
       have H := HA.o
       clear HA
       simp only [qAo.j2] at H
       by_cases bb : ac = true
       ·subst bb
        replace H : (some false) = some r := by rw [if_pos rfl] at H; exact H
        obtain rfl := Option.some.inj H
        go_wp2
        go_ret
        exact ⟨by rfl, by exact HB.o⟩
       replace bb := Bool.eq_false_iff.mpr bb
       subst bb
       replace H : (if 0 ≤ aE then (if aE < (l0_3.length : Int) then (if ((qAE l0_3 aE).f0) = aC then (if ((qAE l0_3 aE).f1) = aD then (if ((qAE l0_3 aE).f2) = aW then (qAo.l1 b6 (wrap64 (aE + 1)) aC ((qAM l0_2 aC).f1.f2) (wrap64 (aD + 1)) a0_0 l0_1 l0_2 l0_3) else (some false)) else (some false)) else (some false)) else (none)) else (none)) = some r := by rw [if_neg (show ¬ (false = true) by decide)] at H; exact H
       obtain ⟨bc, H⟩ := gd H
       replace bc := d1 bc
       obtain ⟨bd, H⟩ := gd H
       replace bd := d1 bd
       by_cases bT : ((qAE l0_3 aE).f0) = aC
       rotate_left
       ·rw [if_neg bT] at H
        have bZ : (((qAE l0_3 aE).f0) != aC) = true := bne_iff_ne.mpr bT
        obtain rfl := Option.some.inj H
        have cF : wc.cell? ⟨aN, 3, none⟩ = some (.slice aZ l0_3.length a4) := (qAa aB.o 3).trans rfl
        have aX : 0 ≤ aE := od (by assumption)
        have aY : aE < (l0_3.length : Int) := od (by assumption)
        obtain ⟨ap, ai, aG, aH, aI, aJ, aK⟩ := qCJ aj.o aE aX aY
        cases ai
        replace aG := (HB.o.cell (World.block_lt_of_cell? w _ aG)).trans aG
        replace aH := (HB.o.cell (World.block_lt_of_cell? w _ aH)).trans aH
        replace aI := (HB.o.cell (World.block_lt_of_cell? w _ aI)).trans aI
        replace aJ := (HB.o.cell (World.block_lt_of_cell? w _ aJ)).trans aJ
        replace aK := (HB.o.cell (World.block_lt_of_cell? w _ aK)).trans aK
        replace aX := eq_true aX
        replace aY := eq_true aY
        go_wp2_with ((with_reducible refine qAO (N := 8) rfl ?_); (try (refine qBJ (by rfl) ?_; dsimp only)); refine bx 8 #[.int .i64 0, .int .i64 0, .int .i64 0, .string ⟨#[]⟩, .string ⟨#[]⟩] 103 ?_; intro aF hg ba hbox hb; have n_ := a2 (qAp HB.o hb) (a2 (hbox) (am (by rw [hg]; exact (qA5 HB.o) : w.heap.size ≤ aF))); clear aB HB; obtain ⟨HB, aA, ab⟩ := n_; clear hb hbox hg; have cG : ba.cell? ⟨aF, 0, none⟩ = some (.int .i64 0) := (qAa aA.o 0).trans rfl; have cH : ba.cell? ⟨aF, 1, none⟩ = some (.int .i64 0) := (qAa aA.o 1).trans rfl; have cI : ba.cell? ⟨aF, 2, none⟩ = some (.int .i64 0) := (qAa aA.o 2).trans rfl; have cJ : ba.cell? ⟨aF, 3, none⟩ = some (.string ⟨#[]⟩) := (qAa aA.o 3).trans rfl; have cK : ba.cell? ⟨aF, 4, none⟩ = some (.string ⟨#[]⟩) := (qAa aA.o 4).trans rfl; have ca := qAb aA.o 0; have cc := qAb aA.o 1; have cd := qAb aA.o 2; have ce := qAb aA.o 3; have cf := qAb aA.o 4)
        go_ret
        exact ⟨by rfl, by repeat (with_reducible first | exact HB.o | refine qAs ?_ ab.o)⟩
       rw [if_pos bT] at H
       have ct : (((qAE l0_3 aE).f0) == aC) = true := beq_iff_eq.mpr bT
       have bZ : (((qAE l0_3 aE).f0) != aC) = false := bn bT
       clear bT
       by_cases bU : ((qAE l0_3 aE).f1) = aD
       rotate_left
       ·rw [if_neg bU] at H
        have b0 : (((qAE l0_3 aE).f1) != aD) = true := bne_iff_ne.mpr bU
        obtain rfl := Option.some.inj H
        have bz : wc.cell? ⟨aN, 3, none⟩ = some (.slice aZ l0_3.length a4) := (qAa aB.o 3).trans rfl
        have aX : 0 ≤ aE := od (by assumption)
        have aY : aE < (l0_3.length : Int) := od (by assumption)
        obtain ⟨ap, ai, aG, aH, aI, aJ, aK⟩ := qCJ aj.o aE aX aY
        cases ai
        replace aG := (HB.o.cell (World.block_lt_of_cell? w _ aG)).trans aG
        replace aH := (HB.o.cell (World.block_lt_of_cell? w _ aH)).trans aH
        replace aI := (HB.o.cell (World.block_lt_of_cell? w _ aI)).trans aI
        replace aJ := (HB.o.cell (World.block_lt_of_cell? w _ aJ)).trans aJ
        replace aK := (HB.o.cell (World.block_lt_of_cell? w _ aK)).trans aK
        replace aX := eq_true aX
        replace aY := eq_true aY
        go_wp2_with ((with_reducible refine qAO (N := 8) rfl ?_); (try (refine qBJ (by rfl) ?_; dsimp only)); refine bx 8 #[.int .i64 0, .int .i64 0, .int .i64 0, .string ⟨#[]⟩, .string ⟨#[]⟩] 103 ?_; intro aF hg b9 hbox hb; have n_ := a2 (qAp HB.o hb) (a2 (hbox) (am (by rw [hg]; exact (qA5 HB.o) : w.heap.size ≤ aF))); clear aB HB; obtain ⟨HB, aA, ab⟩ := n_; clear hb hbox hg; have cA : b9.cell? ⟨aF, 0, none⟩ = some (.int .i64 0) := (qAa aA.o 0).trans rfl; have cB : b9.cell? ⟨aF, 1, none⟩ = some (.int .i64 0) := (qAa aA.o 1).trans rfl; have cC : b9.cell? ⟨aF, 2, none⟩ = some (.int .i64 0) := (qAa aA.o 2).trans rfl; have cD : b9.cell? ⟨aF, 3, none⟩ = some (.string ⟨#[]⟩) := (qAa aA.o 3).trans rfl; have cE : b9.cell? ⟨aF, 4, none⟩ = some (.string ⟨#[]⟩) := (qAa aA.o 4).trans rfl; have cX := qAb aA.o 0; have cY := qAb aA.o 1; have cZ := qAb aA.o 2; have c0 := qAb aA.o 3; have c1 := qAb aA.o 4)
        go_ret
        exact ⟨by rfl, by repeat (with_reducible first | exact HB.o | refine qAs ?_ ab.o)⟩
       rw [if_pos bU] at H
       have cu : (((qAE l0_3 aE).f1) == aD) = true := beq_iff_eq.mpr bU
       have b0 : (((qAE l0_3 aE).f1) != aD) = false := bn bU
       clear bU
       by_cases b1 : ((qAE l0_3 aE).f2) = aW
       rotate_left
       ·rw [if_neg b1] at H
        have b2 : (((qAE l0_3 aE).f2) != aW) = true := bne_iff_ne.mpr b1
        obtain rfl := Option.some.inj H
        have bp : wc.cell? ⟨aN, 3, none⟩ = some (.slice aZ l0_3.length a4) := (qAa aB.o 3).trans rfl
        have aX : 0 ≤ aE := od (by assumption)
        have aY : aE < (l0_3.length : Int) := od (by assumption)
        obtain ⟨ap, ai, aG, aH, aI, aJ, aK⟩ := qCJ aj.o aE aX aY
        cases ai
        replace aG := (HB.o.cell (World.block_lt_of_cell? w _ aG)).trans aG
        replace aH := (HB.o.cell (World.block_lt_of_cell? w _ aH)).trans aH
        replace aI := (HB.o.cell (World.block_lt_of_cell? w _ aI)).trans aI
        replace aJ := (HB.o.cell (World.block_lt_of_cell? w _ aJ)).trans aJ
        replace aK := (HB.o.cell (World.block_lt_of_cell? w _ aK)).trans aK
        replace aX := eq_true aX
        replace aY := eq_true aY
        go_wp2_with ((with_reducible refine qAO (N := 8) rfl ?_); (try (refine qBJ (by rfl) ?_; dsimp only)); refine bx 8 #[.int .i64 0, .int .i64 0, .int .i64 0, .string ⟨#[]⟩, .string ⟨#[]⟩] 103 ?_; intro aF hg b8 hbox hb; have n_ := a2 (qAp HB.o hb) (a2 (hbox) (am (by rw [hg]; exact (qA5 HB.o) : w.heap.size ≤ aF))); clear aB HB; obtain ⟨HB, aA, ab⟩ := n_; clear hb hbox hg; have bq : b8.cell? ⟨aF, 0, none⟩ = some (.int .i64 0) := (qAa aA.o 0).trans rfl; have br : b8.cell? ⟨aF, 1, none⟩ = some (.int .i64 0) := (qAa aA.o 1).trans rfl; have bs : b8.cell? ⟨aF, 2, none⟩ = some (.int .i64 0) := (qAa aA.o 2).trans rfl; have bu : b8.cell? ⟨aF, 3, none⟩ = some (.string ⟨#[]⟩) := (qAa aA.o 3).trans rfl; have bw : b8.cell? ⟨aF, 4, none⟩ = some (.string ⟨#[]⟩) := (qAa aA.o 4).trans rfl; have cS := qAb aA.o 0; have cT := qAb aA.o 1; have cU := qAb aA.o 2; have cV := qAb aA.o 3; have cW := qAb aA.o 4)
        go_ret
        exact ⟨by rfl, by repeat (with_reducible first | exact HB.o | refine qAs ?_ ab.o)⟩
       rw [if_pos b1] at H
       have b2 : (((qAE l0_3 aE).f2) != aW) = false := bn b1
       clear b1
       have H' := am H
       clear H
       have bh : wc.cell? ⟨aN, 3, none⟩ = some (.slice aZ l0_3.length a4) := (qAa aB.o 3).trans rfl
       have aX : 0 ≤ aE := od (by assumption)
       have aY : aE < (l0_3.length : Int) := od (by assumption)
       obtain ⟨ap, ai, aG, aH, aI, aJ, aK⟩ := qCJ aj.o aE aX aY
       cases ai
       replace aG := (HB.o.cell (World.block_lt_of_cell? w _ aG)).trans aG
       replace aH := (HB.o.cell (World.block_lt_of_cell? w _ aH)).trans aH
       replace aI := (HB.o.cell (World.block_lt_of_cell? w _ aI)).trans aI
       replace aJ := (HB.o.cell (World.block_lt_of_cell? w _ aJ)).trans aJ
       replace aK := (HB.o.cell (World.block_lt_of_cell? w _ aK)).trans aK
       replace aX := eq_true aX
       replace aY := eq_true aY
       go_wp2_with ((with_reducible refine qAO (N := 8) rfl ?_); (try (refine qBJ (by rfl) ?_; dsimp only)); refine bx 8 #[.int .i64 0, .int .i64 0, .int .i64 0, .string ⟨#[]⟩, .string ⟨#[]⟩] 103 ?_; intro aF hg b7 hbox hb; have n_ := a2 (qA4 aB.o hb) (a2 (qAp HB.o hb) (a2 (hbox) (a2 (by rw [hg]; exact (qA5 HB.o) : w.heap.size ≤ aF) (am (by rw [hg]; exact Nat.ne_of_lt (qBo aB.o) : aN ≠ aF))))); clear aB HB; obtain ⟨aB, HB, aA, ab, aU⟩ := n_; clear hb hbox hg; have bi : b7.cell? ⟨aF, 0, none⟩ = some (.int .i64 0) := (qAa aA.o 0).trans rfl; have bj : b7.cell? ⟨aF, 1, none⟩ = some (.int .i64 0) := (qAa aA.o 1).trans rfl; have bk : b7.cell? ⟨aF, 2, none⟩ = some (.int .i64 0) := (qAa aA.o 2).trans rfl; have bl : b7.cell? ⟨aF, 3, none⟩ = some (.string ⟨#[]⟩) := (qAa aA.o 3).trans rfl; have bo : b7.cell? ⟨aF, 4, none⟩ = some (.string ⟨#[]⟩) := (qAa aA.o 4).trans rfl; have cN := qAb aA.o 0; have cO := qAb aA.o 1; have cP := qAb aA.o 2; have cQ := qAb aA.o 3; have cR := qAb aA.o 4)
       go_roundg b6
       case measure => have := bD.o; have := bE.o; have := bV.o; omega
       case rel => exact ⟨(wrap64 (aE + 1)), (wrap64 (aD + 1)), (by rfl), (by rfl), H', ⟨by have := bD.o; have := bE.o; have := bV.o; omega⟩, ⟨by refine qAz ?_ aU.o _; refine qAz ?_ aU.o _; refine qAz ?_ aU.o _; refine qAz ?_ aU.o _; refine qAz ?_ aU.o _; exact aB.o⟩, ⟨by repeat (with_reducible first | exact HB.o | refine qAs ?_ ab.o)⟩⟩
mutual
def qA2.l0 : Nat → Int → ByteArray → List (S95) → List (S100) → List (S103) → Int → Int → Int → ByteArray → ByteArray → Option (Bool)
 | 0, _, _, _, _, _, _, _, _, _, _ => none
 | k + 1, x5, aV, aI, aJ, aW, aX, aY, aZ, a9, aK => if x5 < (aI.length : Int) then (if 0 ≤ x5 then (if ((qCo aI x5).f0).toList = aK.toList then (some true) else (qA2.l0 k (wrap64 (x5 + 1)) aV aI aJ aW aX aY aZ a9 aK)) else (none)) else (some false)
def qA2.l1 : Nat → Int → ByteArray → List (S95) → List (S100) → List (S103) → Int → Int → Int → ByteArray → ByteArray → Option (Bool)
 | 0, _, _, _, _, _, _, _, _, _, _ => none
 | k + 1, x6, aV, aI, aJ, aW, aX, aY, aZ, a9, aK => if x6 < (aJ.length : Int) then (if 0 ≤ x6 then (if ((qAM aJ x6).f0).toList = aK.toList then (some true) else (qA2.l1 k (wrap64 (x6 + 1)) aV aI aJ aW aX aY aZ a9 aK)) else (none)) else (some false)
end
def qA2.f (k : Nat) (a0_0 : ByteArray) (l0_1 : List (S95)) (l0_2 : List (S100)) (l0_3 : List (S103)) (a1_0 : Int) (a1_1 : Int) (a1_2 : Int) (a1_3 : ByteArray) (a1_4 : ByteArray) : Option (Bool) := if a1_2 = 1 then (qA2.l0 k 0 a0_0 l0_1 l0_2 l0_3 a1_0 a1_1 a1_2 a1_3 a1_4) else (qA2.l1 k 0 a0_0 l0_1 l0_2 l0_3 a1_0 a1_1 a1_2 a1_3 a1_4)
theorem qA2.calls (k : Nat) (a0_0 : ByteArray) (aL : Option Addr) (aN : Nat) (l0_1 : List (S95)) (aM : Option Addr) (aO : Nat) (l0_2 : List (S100)) (ae : Option Addr) (af : Nat) (l0_3 : List (S103)) (a1_0 : Int) (a1_1 : Int) (a1_2 : Int) (a1_3 : ByteArray) (a1_4 : ByteArray) (r : Bool) (w : World) (hr0_1 : Kd.C k95 w aL l0_1.length l0_1) (hc0_1 : l0_1.length ≤ aN) (hr0_2 : Kd.C k100 w aM l0_2.length l0_2) (hc0_2 : l0_2.length ≤ aO) (hr0_3 : Kd.C k103 w ae l0_3.length l0_3) (hc0_3 : l0_3.length ≤ af) (h : qA2.f k a0_0 l0_1 l0_2 l0_3 a1_0 a1_1 a1_2 a1_3 a1_4 = some r) :
  Calls Tryz.prog 41 #[.agg #[.string a0_0, .slice aL l0_1.length aN, .slice aM l0_2.length aO, .slice ae l0_3.length af], .agg #[.int .i64 a1_0, .int .i64 a1_1, .int .i64 a1_2, .string a1_3, .string a1_4]] w fun e w' => e = .returned (.bool r) ∧ Below w.heap.size w w' := by
 have az := am hr0_1
 clear hr0_1 hc0_1
 have bA := am hr0_2
 clear hr0_2 hc0_2 hr0_3 hc0_3
 have HB := am (Below.refl w.heap.size w)
 have H : (if a1_2 = 1 then (qA2.l0 k 0 a0_0 l0_1 l0_2 l0_3 a1_0 a1_1 a1_2 a1_3 a1_4) else (qA2.l1 k 0 a0_0 l0_1 l0_2 l0_3 a1_0 a1_1 a1_2 a1_3 a1_4)) = some r := h
 clear h
 by_cases c3 : a1_2 = 1
 ·rw [if_pos c3] at H
  have bH : (a1_2 == 1) = true := beq_iff_eq.mpr c3
  have bI : (a1_2 != 1) = false := bn c3
  clear c3
  have H' := am H
  clear H
  go_enter Tryz.func41, Tryz.ntmps41
  go_wp2_with (first | ((with_reducible refine qAO (N := 2) rfl ?_); refine bx 2 #[.string a0_0, .slice aL l0_1.length aN, .slice aM l0_2.length aO, .slice ae l0_3.length af] 26 ?_; intro aH hg w4 hbox hb; have n_ := a2 (qAp HB.o hb) (am (hbox)); clear HB; obtain ⟨HB, aB⟩ := n_; clear hb hbox hg) | ((with_reducible refine qAO (N := 3) rfl ?_); refine bx 3 #[.int .i64 a1_0, .int .i64 a1_1, .int .i64 a1_2, .string a1_3, .string a1_4] 103 ?_; intro aC hg w5 hbox hb; have n_ := a2 (qA4 aB.o hb) (a2 (qAp HB.o hb) (am (hbox))); clear aB HB; obtain ⟨aB, HB, aA⟩ := n_; clear hb hbox hg; have bL : w5.cell? ⟨aC, 0, none⟩ = some (.int .i64 a1_0) := (qAa aA.o 0).trans rfl; have bM : w5.cell? ⟨aC, 1, none⟩ = some (.int .i64 a1_1) := (qAa aA.o 1).trans rfl; have bN : w5.cell? ⟨aC, 2, none⟩ = some (.int .i64 a1_2) := (qAa aA.o 2).trans rfl; have bO : w5.cell? ⟨aC, 3, none⟩ = some (.string a1_3) := (qAa aA.o 3).trans rfl; have bP : w5.cell? ⟨aC, 4, none⟩ = some (.string a1_4) := (qAa aA.o 4).trans rfl; have bQ := qAb aA.o 0; have bR := qAb aA.o 1; have bS := qAb aA.o 2; have bT := qAb aA.o 3; have bU := qAb aA.o 4))
  repeat (go_quiet (fail))
  go_loopg [5] k (fun kq v5 w' => ∃ (aF : Int), v5 = .int .i64 aF ∧ qAe (qA2.l0 kq aF a0_0 l0_1 l0_2 l0_3 a1_0 a1_1 a1_2 a1_3 a1_4 = some r) ∧ qAe (kq ≤ k) ∧ qAe (w'.heap[aH]? = some (.cells #[.string a0_0, (.slice aL l0_1.length aN), (.slice aM l0_2.length aO), (.slice ae l0_3.length af)] 26 (0, 0))) ∧ qAe (w'.heap[aC]? = some (.cells #[.int .i64 a1_0, .int .i64 a1_1, .int .i64 a1_2, .string a1_3, .string a1_4] 103 (0, 0))) ∧ qAe (Below w.heap.size w w'))
  case atStart => exact ⟨(0), (by rfl), H', ⟨Nat.le_refl _⟩, ⟨by exact aB.o⟩, ⟨by exact aA.o⟩, ⟨by exact HB.o⟩⟩
  case round =>
   clear H'
   obtain ⟨aF, rfl, HA, bW, aB, aA, HB⟩ := hrel
   cases gk with
   | zero => exact absurd HA.o (by simp [qA2.l0])
   | succ k1 =>
    have H := HA.o
    clear HA
    simp only [qA2.l0] at H
    by_cases c8 : aF < (l0_1.length : Int)
    rotate_left
    ·rw [if_neg c8] at H
     replace c8 := d0 c8
     obtain rfl := Option.some.inj H
     have b9 : wr.cell? ⟨aH, 1, none⟩ = some (.slice aL l0_1.length aN) := (qAa aB.o 1).trans rfl
     go_wp2
     repeat (go_quiet (fail))
     go_ret
     exact ⟨by rfl, by exact HB.o⟩
    rw [if_pos c8] at H
    replace c8 := d1 c8
    obtain ⟨c9, H⟩ := gd H
    replace c9 := d1 c9
    by_cases c10 : ((qCo l0_1 aF).f0).toList = a1_4.toList
    ·rw [if_pos c10] at H
     have bZ : (((qCo l0_1 aF).f0).toList == a1_4.toList) = true := beq_iff_eq.mpr c10
     clear c10
     obtain rfl := Option.some.inj H
     have b5 : wr.cell? ⟨aH, 1, none⟩ = some (.slice aL l0_1.length aN) := (qAa aB.o 1).trans rfl
     have aa : 0 ≤ aF := od (by assumption)
     have ac : aF < (l0_1.length : Int) := od (by assumption)
     obtain ⟨bX, bJ, aD, ar, au⟩ := at_T95 az.o aF aa ac
     cases bJ
     replace aD := (HB.o.cell (World.block_lt_of_cell? w _ aD)).trans aD
     replace aa := eq_true aa
     replace ac := eq_true ac
     have b6 : wr.cell? ⟨aC, 4, none⟩ = some (.string a1_4) := (qAa aA.o 4).trans rfl
     go_wp2
     repeat (go_quiet (fail); try go_wp2)
     go_ret
     exact ⟨by rfl, by repeat (with_reducible first | exact HB.o | apply qAw)⟩
    rw [if_neg c10] at H
    have bZ : (((qCo l0_1 aF).f0).toList == a1_4.toList) = false := bf c10
    have H' := am H
    clear H
    have b7 : wr.cell? ⟨aH, 1, none⟩ = some (.slice aL l0_1.length aN) := (qAa aB.o 1).trans rfl
    have aa : 0 ≤ aF := od (by assumption)
    have ac : aF < (l0_1.length : Int) := od (by assumption)
    obtain ⟨bX, bJ, aD, ar, au⟩ := at_T95 az.o aF aa ac
    cases bJ
    replace aD := (HB.o.cell (World.block_lt_of_cell? w _ aD)).trans aD
    replace aa := eq_true aa
    replace ac := eq_true ac
    have b8 : wr.cell? ⟨aC, 4, none⟩ = some (.string a1_4) := (qAa aA.o 4).trans rfl
    go_wp2
    repeat (go_quiet (fail); try go_wp2)
    go_roundg k1
    case measure => have := bW.o; omega
    case rel => exact ⟨(wrap64 (aF + 1)), (by rfl), H', ⟨by have := bW.o; omega⟩, ⟨by (with_reducible repeat (refine qBs ?_ _)); exact aB.o⟩, ⟨by (with_reducible repeat (refine qBs ?_ _)); exact aA.o⟩, ⟨by repeat (with_reducible first | exact HB.o | apply qAw)⟩⟩
 ·rw [if_neg c3] at H
  have bH : (a1_2 == 1) = false := bf c3
  have bI : (a1_2 != 1) = true := bne_iff_ne.mpr c3
  have H' := am H
  clear H
  go_enter Tryz.func41, Tryz.ntmps41
  go_wp2_with (first | ((with_reducible refine qAO (N := 2) rfl ?_); refine bx 2 #[.string a0_0, .slice aL l0_1.length aN, .slice aM l0_2.length aO, .slice ae l0_3.length af] 26 ?_; intro aH hg bk hbox hb; have n_ := a2 (qAp HB.o hb) (am (hbox)); clear HB; obtain ⟨HB, aB⟩ := n_; clear hb hbox hg) | ((with_reducible refine qAO (N := 3) rfl ?_); refine bx 3 #[.int .i64 a1_0, .int .i64 a1_1, .int .i64 a1_2, .string a1_3, .string a1_4] 103 ?_; intro aC hg b3 hbox hb; have n_ := a2 (qA4 aB.o hb) (a2 (qAp HB.o hb) (am (hbox))); clear aB HB; obtain ⟨aB, HB, aA⟩ := n_; clear hb hbox hg; have ag : b3.cell? ⟨aC, 0, none⟩ = some (.int .i64 a1_0) := (qAa aA.o 0).trans rfl; have ah : b3.cell? ⟨aC, 1, none⟩ = some (.int .i64 a1_1) := (qAa aA.o 1).trans rfl; have ai : b3.cell? ⟨aC, 2, none⟩ = some (.int .i64 a1_2) := (qAa aA.o 2).trans rfl; have aj : b3.cell? ⟨aC, 3, none⟩ = some (.string a1_3) := (qAa aA.o 3).trans rfl; have ak : b3.cell? ⟨aC, 4, none⟩ = some (.string a1_4) := (qAa aA.o 4).trans rfl; have al := qAb aA.o 0; have an := qAb aA.o 1; have ao := qAb aA.o 2; have ap := qAb aA.o 3; have aq := qAb aA.o 4))
  repeat (go_quiet (fail))
  go_loopg [6] k (fun kq v6 w' => ∃ (aG : Int), v6 = .int .i64 aG ∧ qAe (qA2.l1 kq aG a0_0 l0_1 l0_2 l0_3 a1_0 a1_1 a1_2 a1_3 a1_4 = some r) ∧ qAe (kq ≤ k) ∧ qAe (w'.heap[aH]? = some (.cells #[.string a0_0, (.slice aL l0_1.length aN), (.slice aM l0_2.length aO), (.slice ae l0_3.length af)] 26 (0, 0))) ∧ qAe (w'.heap[aC]? = some (.cells #[.int .i64 a1_0, .int .i64 a1_1, .int .i64 a1_2, .string a1_3, .string a1_4] 103 (0, 0))) ∧ qAe (Below w.heap.size w w'))
  case atStart => exact ⟨(0), (by rfl), H', ⟨Nat.le_refl _⟩, ⟨by exact aB.o⟩, ⟨by exact aA.o⟩, ⟨by exact HB.o⟩⟩
  case round =>
   clear H'
   obtain ⟨aG, rfl, HA, bW, aB, aA, HB⟩ := hrel
   cases gk with
   | zero => exact absurd HA.o (by simp [qA2.l1])
   | succ k1 =>
    have H := HA.o
    clear HA
    simp only [qA2.l1] at H
    by_cases bV : aG < (l0_2.length : Int)
    rotate_left
    ·rw [if_neg bV] at H
     replace bV := d0 bV
     obtain rfl := Option.some.inj H
     have bg : wr.cell? ⟨aH, 2, none⟩ = some (.slice aM l0_2.length aO) := (qAa aB.o 2).trans rfl
     go_wp2
     repeat (go_quiet (fail))
     go_ret
     exact ⟨by rfl, by exact HB.o⟩
    rw [if_pos bV] at H
    replace bV := d1 bV
    obtain ⟨b4, H⟩ := gd H
    replace b4 := d1 b4
    by_cases b1 : ((qAM l0_2 aG).f0).toList = a1_4.toList
    ·rw [if_pos b1] at H
     have b2 : (((qAM l0_2 aG).f0).toList == a1_4.toList) = true := beq_iff_eq.mpr b1
     clear b1
     obtain rfl := Option.some.inj H
     have ba : wr.cell? ⟨aH, 2, none⟩ = some (.slice aM l0_2.length aO) := (qAa aB.o 2).trans rfl
     have ab : 0 ≤ aG := od (by assumption)
     have ad : aG < (l0_2.length : Int) := od (by assumption)
     obtain ⟨bY, bB, bE, bC, bF, bD, bG, bK, aE, av, aw, ax, ay, aS, aP, aT, aQ, aU, aR⟩ := qEz bA.o aG ab ad
     cases bK
     replace aE := (HB.o.cell (World.block_lt_of_cell? w _ aE)).trans aE
     clear aP aS aQ aT aR aU
     replace ab := eq_true ab
     replace ad := eq_true ad
     have bb : wr.cell? ⟨aC, 4, none⟩ = some (.string a1_4) := (qAa aA.o 4).trans rfl
     go_wp2
     repeat (go_quiet (fail); try go_wp2)
     go_ret
     exact ⟨by rfl, by repeat (with_reducible first | exact HB.o | apply qAw)⟩
    rw [if_neg b1] at H
    have b2 : (((qAM l0_2 aG).f0).toList == a1_4.toList) = false := bf b1
    have H' := am H
    clear H
    have bc : wr.cell? ⟨aH, 2, none⟩ = some (.slice aM l0_2.length aO) := (qAa aB.o 2).trans rfl
    have ab : 0 ≤ aG := od (by assumption)
    have ad : aG < (l0_2.length : Int) := od (by assumption)
    obtain ⟨bY, bB, bE, bC, bF, bD, bG, bK, aE, av, aw, ax, ay, aS, aP, aT, aQ, aU, aR⟩ := qEz bA.o aG ab ad
    cases bK
    replace aE := (HB.o.cell (World.block_lt_of_cell? w _ aE)).trans aE
    clear aP aS aQ aT aR aU
    replace ab := eq_true ab
    replace ad := eq_true ad
    have bd : wr.cell? ⟨aC, 4, none⟩ = some (.string a1_4) := (qAa aA.o 4).trans rfl
    go_wp2
    repeat (go_quiet (fail); try go_wp2)
    go_roundg k1
    case measure => have := bW.o; omega
    case rel => exact ⟨(wrap64 (aG + 1)), (by rfl), H', ⟨by have := bW.o; omega⟩, ⟨by (with_reducible repeat (refine qBs ?_ _)); exact aB.o⟩, ⟨by (with_reducible repeat (refine qBs ?_ _)); exact aA.o⟩, ⟨by repeat (with_reducible first | exact HB.o | apply qAw)⟩⟩
mutual
def qAi.l0 : Nat → List ByteArray → Int → ByteArray → List (S95) → List (S100) → List (S103) → Option (Int)
 | 0, _, _, _, _, _, _ => none
 | k + 1, x4, x5, aZ, aG, aM, aK => if x5 < (wrap64 ((aG.length : Int) + (aM.length : Int))) then (if x5 < (aG.length : Int) then (if 0 ≤ x5 then ((qBH.f ((qCo aG x5).f1.f0) ((qCo aG x5).f1.f1)).bind fun b4 => (qAi.j1 k x4 x5 ((qCo aG x5).f0) b4 aZ aG aM aK)) else (none)) else (if 0 ≤ (wrap64 (x5 - (aG.length : Int))) then (if (wrap64 (x5 - (aG.length : Int))) < (aM.length : Int) then ((qAh.f k ((qAM aM (wrap64 (x5 - (aG.length : Int)))).f1.f0.f0) ((qAM aM (wrap64 (x5 - (aG.length : Int)))).f1.f0.f1) ((qAM aM (wrap64 (x5 - (aG.length : Int)))).f1.f1) ((qAM aM (wrap64 (x5 - (aG.length : Int)))).f1.f2)).bind fun bO => (qAi.j1 k x4 x5 ((qAM aM (wrap64 (x5 - (aG.length : Int)))).f0) bO aZ aG aM aK)) else (none)) else (none))) else ((qAo.f k aZ aG aM aK).bind fun ce => (if ce = true then (qAi.l1 k 0 aZ aG aM aK) else (some 52)))
def qAi.j1 : Nat → List ByteArray → Int → ByteArray → Bool → ByteArray → List (S95) → List (S100) → List (S103) → Option (Int)
 | 0, _, _, _, _, _, _, _, _ => none
 | k + 1, x4, x5, x6, x7, aZ, aG, aM, aK => (qAD.f x6).bind fun aq => (if aq = 0 then ((qB7.f k x4 x6).bind fun bZ => (if bZ = true then (some 20) else (if x7 = true then (if x4.length < 8796093022208 then (qAi.l0 k (x4 ++ [x6]) (wrap64 (x5 + 1)) aZ aG aM aK) else (none)) else (some 52)))) else (some aq))
def qAi.l1 : Nat → Int → ByteArray → List (S95) → List (S100) → List (S103) → Option (Int)
 | 0, _, _, _, _, _ => none
 | k + 1, x8, aZ, aG, aM, aK => if x8 < (aK.length : Int) then (if 0 ≤ x8 then ((qAD.f ((qAE aK x8).f3)).bind fun ar => (if ar = 0 then ((qAD.f ((qAE aK x8).f4)).bind fun ap => (if ap = 0 then (qAi.l1 k (wrap64 (x8 + 1)) aZ aG aM aK) else (some ap))) else (some ar))) else (none)) else (qAi.l2 k 0 aZ aG aM aK)
def qAi.l2 : Nat → Int → ByteArray → List (S95) → List (S100) → List (S103) → Option (Int)
 | 0, _, _, _, _, _ => none
 | k + 1, b5, aZ, aG, aM, aK => if b5 < (aK.length : Int) then (if 0 ≤ b5 then (if ((qAE aK b5).f3).toList = aZ.toList then ((qA2.f k aZ aG aM aK ((qAE aK b5).f0) ((qAE aK b5).f1) ((qAE aK b5).f2) ((qAE aK b5).f3) ((qAE aK b5).f4)).bind fun cf => (if cf = true then (qAi.l2 k (wrap64 (b5 + 1)) aZ aG aM aK) else (some 52))) else (if ((qAE aK b5).f2) = 1 then (some 52) else (qAi.l2 k (wrap64 (b5 + 1)) aZ aG aM aK))) else (none)) else (some 0)
end
def qAi.f (k : Nat) (a0_0 : ByteArray) (l0_1 : List (S95)) (l0_2 : List (S100)) (l0_3 : List (S103)) : Option (Int) := (qAD.f a0_0).bind fun ao => (if ao = 0 then (if (wrap64 ((l0_1.length : Int) + (l0_2.length : Int))) > 64 then (some 3) else (qAi.l0 k ([] : List ByteArray) 0 a0_0 l0_1 l0_2 l0_3)) else (some ao))
theorem qAi.calls (k : Nat) (a0_0 : ByteArray) (af : Option Addr) (ah : Nat) (l0_1 : List (S95)) (ag : Option Addr) (ai : Nat) (l0_2 : List (S100)) (ae : Option Addr) (a6 : Nat) (l0_3 : List (S103)) (r : Int) (w : World) (hr0_1 : Kd.C k95 w af l0_1.length l0_1) (hc0_1 : l0_1.length ≤ ah) (hr0_2 : Kd.C k100 w ag l0_2.length l0_2) (hc0_2 : l0_2.length ≤ ai) (hr0_3 : Kd.C k103 w ae l0_3.length l0_3) (hc0_3 : l0_3.length ≤ a6) (h : qAi.f k a0_0 l0_1 l0_2 l0_3 = some r) :
  Calls Tryz.prog 11 #[.agg #[.string a0_0, .slice af l0_1.length ah, .slice ag l0_2.length ai, .slice ae l0_3.length a6]] w fun e w' => e = .returned (.int .i64 r) ∧ Below w.heap.size w w' := by
 have bE := am hr0_1
 have bP := am hc0_1
 clear hr0_1 hc0_1
 have bF := am hr0_2
 have bQ := am hc0_2
 clear hr0_2 hc0_2
 have ak := am hr0_3
 have bR := am hc0_3
 clear hr0_3 hc0_3
 have HB := am (Below.refl w.heap.size w)
 have H : ((qAD.f a0_0).bind fun ao => (if ao = 0 then (if (wrap64 ((l0_1.length : Int) + (l0_2.length : Int))) > 64 then (some 3) else (qAi.l0 k ([] : List ByteArray) 0 a0_0 l0_1 l0_2 l0_3)) else (some ao))) = some r := h
 clear h
 replace H := bm H
 obtain ⟨ao, gO, H⟩ := H
 replace H : (if ao = 0 then (if (wrap64 ((l0_1.length : Int) + (l0_2.length : Int))) > 64 then (some 3) else (qAi.l0 k ([] : List ByteArray) 0 a0_0 l0_1 l0_2 l0_3)) else (some ao)) = some r := H
 have A2 := am gO
 clear gO
 by_cases c3 : ao = 0
 ·rw [if_pos c3] at H
  have fs : (ao == 0) = true := beq_iff_eq.mpr c3
  have dY : (ao != 0) = false := bn c3
  clear c3
  by_cases c4 : (wrap64 ((l0_1.length : Int) + (l0_2.length : Int))) > 64
  ·rw [if_pos c4] at H
   replace c4 := d1 c4
   obtain rfl := Option.some.inj H
   go_enter Tryz.func11, Tryz.ntmps11
   go_wp2_with (first | ((with_reducible refine qAO (N := 1) rfl ?_); refine bx 1 #[.string a0_0, .slice af l0_1.length ah, .slice ag l0_2.length ai, .slice ae l0_3.length a6] 26 ?_; intro aC hg w5 hbox hb; have n_ := a2 (qAp HB.o hb) (am (hbox)); clear HB; obtain ⟨HB, aA⟩ := n_; clear hb hbox hg; have gC : w5.cell? ⟨aC, 0, none⟩ = some (.string a0_0) := (qAa aA.o 0).trans rfl; have gF := qAb aA.o 3) | ((with_reducible refine qAk (f := 36) rfl ?_); refine gL 14 Tryz.func36 #[.string a0_0] ?_; (with_reducible refine (qAD.calls a0_0 ao _ A2.o).mono ?_); rintro e w7 ⟨rfl, hb⟩; refine ⟨_, rfl, ?_⟩; have n_ := a2 (qA4 aA.o hb) (am (qAp HB.o hb)); clear aA HB; obtain ⟨aA, HB⟩ := n_; have gD : w7.cell? ⟨aC, 1, none⟩ = some (.slice af l0_1.length ah) := (qAa aA.o 1).trans rfl; have gE : w7.cell? ⟨aC, 2, none⟩ = some (.slice ag l0_2.length ai) := (qAa aA.o 2).trans rfl; have gG := qAb aA.o 3))
   go_ret
   exact ⟨by rfl, by exact HB.o⟩
  ·rw [if_neg c4] at H
   replace c4 := d0 c4
   have H' := am H
   clear H
   go_enter Tryz.func11, Tryz.ntmps11
   go_wp2_with (first | ((with_reducible refine qAO (N := 1) rfl ?_); refine bx 1 #[.string a0_0, .slice af l0_1.length ah, .slice ag l0_2.length ai, .slice ae l0_3.length a6] 26 ?_; intro aC hg w9 hbox hb; have n_ := a2 (qAp HB.o hb) (am (hbox)); clear HB; obtain ⟨HB, aA⟩ := n_; clear hb hbox hg; have bd : w9.cell? ⟨aC, 0, none⟩ = some (.string a0_0) := (qAa aA.o 0).trans rfl; have bg : w9.cell? ⟨aC, 1, none⟩ = some (.slice af l0_1.length ah) := (qAa aA.o 1).trans rfl; have bh : w9.cell? ⟨aC, 2, none⟩ = some (.slice ag l0_2.length ai) := (qAa aA.o 2).trans rfl; have bi : w9.cell? ⟨aC, 3, none⟩ = some (.slice ae l0_3.length a6) := (qAa aA.o 3).trans rfl; have cF := qAb aA.o 0; have cG := qAb aA.o 1; have cH := qAb aA.o 2; have cI := qAb aA.o 3) | ((with_reducible refine qAk (f := 36) rfl ?_); refine gL 14 Tryz.func36 #[.string a0_0] ?_; (with_reducible refine (qAD.calls a0_0 ao _ A2.o).mono ?_); rintro e fh ⟨rfl, hb⟩; refine ⟨_, rfl, ?_⟩; have n_ := a2 (qA4 aA.o hb) (am (qAp HB.o hb)); clear aA HB; obtain ⟨aA, HB⟩ := n_; have bj : fh.cell? ⟨aC, 0, none⟩ = some (.string a0_0) := (qAa aA.o 0).trans rfl; have bk : fh.cell? ⟨aC, 1, none⟩ = some (.slice af l0_1.length ah) := (qAa aA.o 1).trans rfl; have bl : fh.cell? ⟨aC, 2, none⟩ = some (.slice ag l0_2.length ai) := (qAa aA.o 2).trans rfl; have bo : fh.cell? ⟨aC, 3, none⟩ = some (.slice ae l0_3.length a6) := (qAa aA.o 3).trans rfl; have cJ := qAb aA.o 0; have cK := qAb aA.o 1; have cL := qAb aA.o 2; have cM := qAb aA.o 3))
   go_loopg [4, 5] k (fun kq v4 v5 w' => ∃ (ad : List ByteArray) (a4 : Int), v5 = .int .i64 a4 ∧ qAe (qAi.l0 kq ad a4 a0_0 l0_1 l0_2 l0_3 = some r) ∧ qAe (kq ≤ k) ∧ qAe (Kd.R Kd.string 9 w' w.heap.size (fun _ => True) v4 ad) ∧ qAe (w'.heap[aC]? = some (.cells #[.string a0_0, (.slice af l0_1.length ah), (.slice ag l0_2.length ai), (.slice ae l0_3.length a6)] 26 (0, 0))) ∧ qAe (Below w.heap.size w w'))
   case atStart => exact ⟨([] : List ByteArray), (0), (by rfl), H', ⟨Nat.le_refl _⟩, ⟨by (exact Kd.R_nil _ _ _ _ _)⟩, ⟨by exact aA.o⟩, ⟨by exact HB.o⟩⟩
   case round =>
    clear H'
    obtain ⟨ad, a4, rfl, HA, b6, a5, aA, HB⟩ := hrel
    cases gk with
    | zero => exact absurd HA.o (by simp [qAi.l0])
    | succ k1 =>
     have H := HA.o
     clear HA
     simp only [qAi.l0] at H
     by_cases cx : a4 < (wrap64 ((l0_1.length : Int) + (l0_2.length : Int)))
     ·rw [if_pos cx] at H
      replace cx := d1 cx
      have cn := am H
      clear H
      have bp : wr.cell? ⟨aC, 0, none⟩ = some (.string a0_0) := (qAa aA.o 0).trans rfl
      have bq : wr.cell? ⟨aC, 1, none⟩ = some (.slice af l0_1.length ah) := (qAa aA.o 1).trans rfl
      have br : wr.cell? ⟨aC, 2, none⟩ = some (.slice ag l0_2.length ai) := (qAa aA.o 2).trans rfl
      have bs : wr.cell? ⟨aC, 3, none⟩ = some (.slice ae l0_3.length a6) := (qAa aA.o 3).trans rfl
      have cN := qAb aA.o 0
      have cO := qAb aA.o 1
      have cP := qAb aA.o 2
      have cQ := qAb aA.o 3
      go_upto_if 41 with (fail)
      go_cut [6, 7] (fun v6 v7 wc => ∃ (kq : Nat) (aY : ByteArray) (bC : Bool), v6 = .string aY ∧ v7 = .bool bC ∧ qAe (qAi.j1 kq ad a4 aY bC a0_0 l0_1 l0_2 l0_3 = some r) ∧ qAe (kq ≤ k1) ∧ qAe (Kd.R Kd.string 9 wc w.heap.size (fun _ => True) u4 ad) ∧ qAe (wc.heap[aC]? = some (.cells #[.string a0_0, (.slice af l0_1.length ah), (.slice ag l0_2.length ai), (.slice ae l0_3.length a6)] 26 (0, 0))) ∧ qAe (Below w.heap.size w wc))
      case first =>
       have H := cn.o
       clear cn
       by_cases cy : a4 < (l0_1.length : Int)
       ·rw [if_pos cy] at H
        replace cy := d1 cy
        (rw [cy])
        obtain ⟨dm, H⟩ := gd H
        replace dm := d1 dm
        replace H := bm H
        obtain ⟨b4, dF, H⟩ := H
        replace H : (qAi.j1 k1 ad a4 ((qCo l0_1 a4).f0) b4 a0_0 l0_1 l0_2 l0_3) = some r := H
        have g3 := am dF
        clear dF
        have H' := am H
        clear H
        have dx : wr.cell? ⟨aC, 1, none⟩ = some (.slice af l0_1.length ah) := (qAa aA.o 1).trans rfl
        have cr : 0 ≤ a4 := od (by assumption)
        have cu : a4 < (l0_1.length : Int) := od (by assumption)
        obtain ⟨dS, fv, bH, bI, bJ⟩ := at_T95 bE.o a4 cr cu
        cases fv
        replace bH := (HB.o.cell (World.block_lt_of_cell? w _ bH)).trans bH
        replace bI := (HB.o.cell (World.block_lt_of_cell? w _ bI)).trans bI
        replace bJ := (HB.o.cell (World.block_lt_of_cell? w _ bJ)).trans bJ
        replace cr := eq_true cr
        replace cu := eq_true cu
        have gI : 0 ≤ a4 := od (by assumption)
        have gK : a4 < (l0_1.length : Int) := od (by assumption)
        obtain ⟨dT, fw, fc, fd, fe⟩ := at_T95 bE.o a4 gI gK
        obtain rfl : dS = dT := (by injection fw)
        go_wp2_with ((with_reducible refine qAk (f := 37) rfl ?_); refine gL 54 Tryz.func37 #[.agg #[.int .i64 ((qCo l0_1 a4).f1.f0), .int .u64 ((qCo l0_1 a4).f1.f1)]] ?_; (with_reducible refine (qBH.calls ((qCo l0_1 a4).f1.f0) ((qCo l0_1 a4).f1.f1) b4 _ g3.o).mono ?_); rintro e gc ⟨rfl, hb⟩; refine ⟨_, rfl, ?_⟩; have n_ := a2 (Kd.R_below a5.o hb) (a2 (qA4 aA.o hb) (am (qAp HB.o hb))); clear a5 aA HB; obtain ⟨a5, aA, HB⟩ := n_; (skip))
        go_meet
        case rel => exact ⟨_, ((qCo l0_1 a4).f0), (b4), (by rfl), (by rfl), H', ⟨by have := b6.o; (omega)⟩, ⟨by exact a5.o⟩, ⟨by exact aA.o⟩, ⟨by exact HB.o⟩⟩
       rw [if_neg cy] at H
       replace cy := d0 cy
       (rw [cy])
       obtain ⟨ac, cj⟩ : ∃ j_ : Int, (wrap64 (a4 - (l0_1.length : Int))) = j_ := ⟨_, rfl⟩
       replace H : (if 0 ≤ (ac) then (if (ac) < (l0_2.length : Int) then ((qAh.f k1 ((qAM l0_2 (ac)).f1.f0.f0) ((qAM l0_2 (ac)).f1.f0.f1) ((qAM l0_2 (ac)).f1.f1) ((qAM l0_2 (ac)).f1.f2)).bind fun bO => (qAi.j1 k1 ad a4 ((qAM l0_2 (ac)).f0) bO a0_0 l0_1 l0_2 l0_3)) else (none)) else (none)) = some r := by (rw [cj] at H; exact H)
       have gH : (IntKind.i64.wrap (a4 - (l0_1.length : Int))) = ac := (i64_w _).trans cj
       obtain ⟨dn, H⟩ := gd H
       replace dn := d1 dn
       obtain ⟨dp, H⟩ := gd H
       replace dp := d1 dp
       replace H := bm H
       obtain ⟨bO, dG, H⟩ := H
       replace H : (qAi.j1 k1 ad a4 ((qAM l0_2 (ac)).f0) bO a0_0 l0_1 l0_2 l0_3) = some r := H
       have g4 := am dG
       clear dG
       have H' := am H
       clear H
       have dy : wr.cell? ⟨aC, 2, none⟩ = some (.slice ag l0_2.length ai) := (qAa aA.o 2).trans rfl
       have ct : 0 ≤ ac := od (by assumption)
       have cv : (ac) < (l0_2.length : Int) := od (by assumption)
       obtain ⟨dU, ck, co, cl, cp, cm, cq, fx, bK, au, bL, av, aw, ca, cZ, cc, c0, cd, c1⟩ := qEz bF.o (ac) ct cv
       cases fx
       replace bK := (HB.o.cell (World.block_lt_of_cell? w _ bK)).trans bK
       replace au := (HB.o.cell (World.block_lt_of_cell? w _ au)).trans au
       replace bL := (HB.o.cell (World.block_lt_of_cell? w _ bL)).trans bL
       replace av := (HB.o.cell (World.block_lt_of_cell? w _ av)).trans av
       replace aw := (HB.o.cell (World.block_lt_of_cell? w _ aw)).trans aw
       clear cZ ca c0 cc c1 cd
       replace ct := eq_true ct
       replace cv := eq_true cv
       have gJ : 0 ≤ ac := od (by assumption)
       have gM : (ac) < (l0_2.length : Int) := od (by assumption)
       obtain ⟨dV, fj, fp, fk, fq, fl, fr, fy, ff, ax, fg, ay, az, bW, bT, bX, bU, bY, bV⟩ := qEz bF.o (ac) gJ gM
       obtain rfl : dU = dV := (by injection fy)
       replace ax := (HB.o.cell (World.block_lt_of_cell? w _ ax)).trans ax
       replace ay := (HB.o.cell (World.block_lt_of_cell? w _ ay)).trans ay
       replace az := (HB.o.cell (World.block_lt_of_cell? w _ az)).trans az
       have ba := am bT
       have b7 := am bW
       clear bT bW
       have bb := am bU
       have b8 := am bX
       clear bU bX
       have bc := am bV
       have b9 := am bY
       clear bV bY
       have ea_ := Option.some.inj (au.symm.trans ax)
       injection ea_ with ea_ en_ ec_
       subst ea_
       subst ec_
       clear en_
       have ea_ := Option.some.inj (av.symm.trans ay)
       injection ea_ with ea_ en_ ec_
       subst ea_
       subst ec_
       clear en_
       have ea_ := Option.some.inj (aw.symm.trans az)
       injection ea_ with ea_ en_ ec_
       subst ea_
       subst ec_
       clear en_
       go_wp2_with ((with_reducible refine qAk (f := 38) rfl ?_); refine gL 75 Tryz.func38 #[.agg #[.slice ck ((qAM l0_2 (ac)).f1.f0.f0).length co, .int .i64 ((qAM l0_2 (ac)).f1.f0.f1), .slice cl ((qAM l0_2 (ac)).f1.f1).length cp, .slice cm ((qAM l0_2 (ac)).f1.f2).length cq]] ?_; (with_reducible refine (qAh.calls k1 _ _ ((qAM l0_2 (ac)).f1.f0.f0) ((qAM l0_2 (ac)).f1.f0.f1) _ _ ((qAM l0_2 (ac)).f1.f1) _ _ ((qAM l0_2 (ac)).f1.f2) bO _ ?side1 ?side2 ?side3 ?side4 ?side5 ?side6 g4.o).mono ?_); (case side1 => exact (Kd.C_below ba.o HB.o)); (case side2 => exact b7.o); (case side3 => exact (Kd.C_below bb.o HB.o)); (case side4 => exact b8.o); (case side5 => exact (Kd.C_below bc.o HB.o)); (case side6 => exact b9.o); rintro e gf ⟨rfl, hb⟩; refine ⟨_, rfl, ?_⟩; have n_ := a2 (Kd.R_below a5.o hb) (a2 (qA4 aA.o hb) (am (qAp HB.o hb))); clear a5 aA HB; obtain ⟨a5, aA, HB⟩ := n_; (skip))
       go_meet
       case rel => exact ⟨_, ((qAM l0_2 (ac)).f0), (bO), (by rfl), (by rfl), H', ⟨by have := b6.o; (omega)⟩, ⟨by exact a5.o⟩, ⟨by exact aA.o⟩, ⟨by exact HB.o⟩⟩
      case rest =>
       clear cn
       obtain ⟨kq, aY, bC, rfl, rfl, HA, dO, a5, aA, HB⟩ := hcut
       cases kq with
       | zero => exact absurd HA.o (by simp [qAi.j1])
       | succ bD =>
        have H := HA.o
        clear HA
        simp only [qAi.j1] at H
        replace H := bm H
        obtain ⟨aq, dH, H⟩ := H
        replace H : (if aq = 0 then ((qB7.f bD ad aY).bind fun bZ => (if bZ = true then (some 20) else (if bC = true then (if ad.length < 8796093022208 then (qAi.l0 bD (ad ++ [aY]) (wrap64 (a4 + 1)) a0_0 l0_1 l0_2 l0_3) else (none)) else (some 52)))) else (some aq)) = some r := H
        have dk := am dH
        clear dH
        by_cases dW : aq = 0
        rotate_left
        ·rw [if_neg dW] at H
         have dX : (aq != 0) = true := bne_iff_ne.mpr dW
         obtain rfl := Option.some.inj H
         go_wp2_with ((with_reducible refine qAk (f := 36) rfl ?_); refine gL 77 Tryz.func36 #[.string aY] ?_; (with_reducible refine (qAD.calls aY aq _ dk.o).mono ?_); rintro e gl ⟨rfl, hb⟩; refine ⟨_, rfl, ?_⟩; have n_ := am (qAp HB.o hb); clear a5 aA HB; have HB := n_; clear n_; (skip))
         go_ret
         exact ⟨by rfl, by exact HB.o⟩
        rw [if_pos dW] at H
        have dX : (aq != 0) = false := bn dW
        clear dW
        replace H := bm H
        obtain ⟨bZ, dI, H⟩ := H
        replace H : (if bZ = true then (some 20) else (if bC = true then (if ad.length < 8796093022208 then (qAi.l0 bD (ad ++ [aY]) (wrap64 (a4 + 1)) a0_0 l0_1 l0_2 l0_3) else (none)) else (some 52))) = some r := H
        have fi := am dI
        clear dI
        by_cases dq : bZ = true
        ·subst dq
         replace H : (some 20) = some r := by rw [if_pos rfl] at H; exact H
         obtain rfl := Option.some.inj H
         go_wp2_with (first | ((with_reducible refine qAk (f := 36) rfl ?_); refine gL 77 Tryz.func36 #[.string aY] ?_; (with_reducible refine (qAD.calls aY aq _ dk.o).mono ?_); rintro e gg ⟨rfl, hb⟩; refine ⟨_, rfl, ?_⟩; have n_ := a2 (Kd.R_below a5.o hb) (am (qAp HB.o hb)); clear a5 aA HB; obtain ⟨a5, HB⟩ := n_; obtain ⟨fn, ft, fz⟩ := Kd.R_slice a5.o; subst fz) | ((with_reducible refine qAk (f := 39) rfl ?_); refine gL 85 Tryz.func39 #[.slice fn ad.length ft, .string aY] ?_; (with_reducible refine (qB7.calls bD _ _ ad aY true _ ?side1 ?side2 fi.o).mono ?_); (case side1 => exact (Kd.R_reads' a5.o).2.2); (case side2 => exact (Kd.R_reads' a5.o).2.1); rintro e w' ⟨rfl, ⟨nd, rfl⟩⟩; refine ⟨_, rfl, ?_⟩))
         go_ret
         exact ⟨by rfl, by repeat (with_reducible first | exact HB.o | apply qAw)⟩
        replace dq := Bool.eq_false_iff.mpr dq
        subst dq
        replace H : (if bC = true then (if ad.length < 8796093022208 then (qAi.l0 bD (ad ++ [aY]) (wrap64 (a4 + 1)) a0_0 l0_1 l0_2 l0_3) else (none)) else (some 52)) = some r := by rw [if_neg (show ¬ (false = true) by decide)] at H; exact H
        by_cases dr : bC = true
        rotate_left
        ·replace dr := Bool.eq_false_iff.mpr dr
         subst dr
         replace H : (some 52) = some r := by rw [if_neg (show ¬ (false = true) by decide)] at H; exact H
         obtain rfl := Option.some.inj H
         go_wp2_with (first | ((with_reducible refine qAk (f := 36) rfl ?_); refine gL 77 Tryz.func36 #[.string aY] ?_; (with_reducible refine (qAD.calls aY aq _ dk.o).mono ?_); rintro e gj ⟨rfl, hb⟩; refine ⟨_, rfl, ?_⟩; have n_ := a2 (Kd.R_below a5.o hb) (am (qAp HB.o hb)); clear a5 aA HB; obtain ⟨a5, HB⟩ := n_; obtain ⟨fo, fu, gB⟩ := Kd.R_slice a5.o; subst gB) | ((with_reducible refine qAk (f := 39) rfl ?_); refine gL 85 Tryz.func39 #[.slice fo ad.length fu, .string aY] ?_; (with_reducible refine (qB7.calls bD _ _ ad aY false _ ?side1 ?side2 fi.o).mono ?_); (case side1 => exact (Kd.R_reads' a5.o).2.2); (case side2 => exact (Kd.R_reads' a5.o).2.1); rintro e w' ⟨rfl, ⟨nd, rfl⟩⟩; refine ⟨_, rfl, ?_⟩))
         go_ret
         exact ⟨by rfl, by repeat (with_reducible first | exact HB.o | apply qAw)⟩
        subst dr
        replace H : (if ad.length < 8796093022208 then (qAi.l0 bD (ad ++ [aY]) (wrap64 (a4 + 1)) a0_0 l0_1 l0_2 l0_3) else (none)) = some r := by rw [if_pos rfl] at H; exact H
        obtain ⟨ds, H⟩ := gd H
        have dQ := am ds
        clear ds
        obtain ⟨dj, b3⟩ : ∃ y_ : List ByteArray, y_ = (ad ++ [aY]) := ⟨_, rfl⟩
        replace H : (qAi.l0 bD dj (wrap64 (a4 + 1)) a0_0 l0_1 l0_2 l0_3) = some r := by (rw [b3]; with_reducible exact H)
        have dR := am b3
        clear b3
        have H' := am H
        clear H
        go_wp2_with (first | ((with_reducible refine qAk (f := 36) rfl ?_); refine gL 77 Tryz.func36 #[.string aY] ?_; (with_reducible refine (qAD.calls aY aq _ dk.o).mono ?_); rintro e gh ⟨rfl, hb⟩; refine ⟨_, rfl, ?_⟩; have n_ := a2 (Kd.R_below a5.o hb) (a2 (qA4 aA.o hb) (am (qAp HB.o hb))); clear a5 aA HB; obtain ⟨a5, aA, HB⟩ := n_; obtain ⟨dN, d9, gA⟩ := Kd.R_slice a5.o; subst gA) | ((with_reducible refine qAk (f := 39) rfl ?_); refine gL 85 Tryz.func39 #[.slice dN ad.length d9, .string aY] ?_; (with_reducible refine (qB7.calls bD _ _ ad aY false _ ?side1 ?side2 fi.o).mono ?_); (case side1 => exact (Kd.R_reads' a5.o).2.2); (case side2 => exact (Kd.R_reads' a5.o).2.1); rintro e w' ⟨rfl, ⟨nd, rfl⟩⟩; refine ⟨_, rfl, ?_⟩) | ((with_reducible refine qBG (b := .append) (xs := #[.tmp 89, .tmp 91]) rfl ?_); at_builtin; refine Kd.R_append Kd.string (w0 := w) w.heap.size rfl (.tmp 89) (.tmp 91) 80 9 (.string ⟨#[]⟩) 16 rfl Tryz.underlying80 info9 rfl (by decide) (by omega) (.slice dN ad.length d9) ad aY [.string aY] (fun _ => True) (fun _ => False) rfl rfl ?aP (fun _ hk => hk.elim) ?aF ?aO ?aB ?aS ?aL ?_; (case aP => exact rfl); (case aB => exact (by repeat (with_reducible first | exact HB.o | apply qAw))); (case aF => exact (fun _ _ => trivial)); (case aO => exact (by (with_reducible repeat (apply Kd.R_drewN)); exact a5.o)); (case aS => exact (qA5 (by repeat (with_reducible first | exact HB.o | apply qAw)))); (case aL => have := dQ.o; omega); intro g7 gi ho hb hg g5; rw [← dR.o] at ho; have n_ := a2 (qBr (g := aC) (o := .cells #[.string a0_0, .slice af l0_1.length ah, .slice ag l0_2.length ai, .slice ae l0_3.length a6] 26 (0, 0)) (by (with_reducible repeat (refine qBs ?_ _)); exact aA.o) hg (Kd.R_ne a5.o aA.o (by decide))) (a2 (hb) (am (ho))); clear aA HB a5; obtain ⟨aA, HB, dP⟩ := n_; clear ho hb hg g5))
        go_roundg bD
        case measure => have := b6.o; have := dO.o; omega
        case rel => exact ⟨(dj), (wrap64 (a4 + 1)), (by rfl), H', ⟨by have := b6.o; have := dO.o; omega⟩, ⟨by exact dP.o⟩, ⟨by exact aA.o⟩, ⟨by exact HB.o⟩⟩
     rw [if_neg cx] at H
     replace cx := d0 cx
     replace H := bm H
     obtain ⟨ce, dJ, H⟩ := H
     replace H : (if ce = true then (qAi.l1 k1 0 a0_0 l0_1 l0_2 l0_3) else (some 52)) = some r := H
     have gP := am dJ
     clear dJ
     by_cases dt : ce = true
     rotate_left
     ·replace dt := Bool.eq_false_iff.mpr dt
      subst dt
      replace H : (some 52) = some r := by rw [if_neg (show ¬ (false = true) by decide)] at H; exact H
      obtain rfl := Option.some.inj H
      have da : wr.cell? ⟨aC, 0, none⟩ = some (.string a0_0) := (qAa aA.o 0).trans rfl
      have db : wr.cell? ⟨aC, 1, none⟩ = some (.slice af l0_1.length ah) := (qAa aA.o 1).trans rfl
      have dc : wr.cell? ⟨aC, 2, none⟩ = some (.slice ag l0_2.length ai) := (qAa aA.o 2).trans rfl
      have dd : wr.cell? ⟨aC, 3, none⟩ = some (.slice ae l0_3.length a6) := (qAa aA.o 3).trans rfl
      go_wp2_with ((with_reducible refine qAk (f := 40) rfl ?_); refine gL 94 Tryz.func40 #[.agg #[.string a0_0, .slice af l0_1.length ah, .slice ag l0_2.length ai, .slice ae l0_3.length a6]] ?_; (with_reducible refine (qAo.calls k1 a0_0 _ _ l0_1 _ _ l0_2 _ _ l0_3 false _ ?side1 ?side2 ?side3 ?side4 ?side5 ?side6 gP.o).mono ?_); (case side1 => exact (Kd.C_below bE.o HB.o)); (case side2 => exact bP.o); (case side3 => exact (Kd.C_below bF.o HB.o)); (case side4 => exact bQ.o); (case side5 => exact (Kd.C_below ak.o HB.o)); (case side6 => exact bR.o); rintro e g8 ⟨rfl, hb⟩; refine ⟨_, rfl, ?_⟩; have n_ := am (qAp HB.o hb); clear a5 aA HB; have HB := n_; clear n_; (skip))
      go_ret
      exact ⟨by rfl, by exact HB.o⟩
     subst dt
     replace H : (qAi.l1 k1 0 a0_0 l0_1 l0_2 l0_3) = some r := by rw [if_pos rfl] at H; exact H
     have H' := am H
     clear H
     have bu : wr.cell? ⟨aC, 0, none⟩ = some (.string a0_0) := (qAa aA.o 0).trans rfl
     have bw : wr.cell? ⟨aC, 1, none⟩ = some (.slice af l0_1.length ah) := (qAa aA.o 1).trans rfl
     have bz : wr.cell? ⟨aC, 2, none⟩ = some (.slice ag l0_2.length ai) := (qAa aA.o 2).trans rfl
     have cA : wr.cell? ⟨aC, 3, none⟩ = some (.slice ae l0_3.length a6) := (qAa aA.o 3).trans rfl
     have cR := qAb aA.o 0
     have cS := qAb aA.o 1
     have cT := qAb aA.o 2
     have cU := qAb aA.o 3
     go_wp2_with ((with_reducible refine qAk (f := 40) rfl ?_); refine gL 94 Tryz.func40 #[.agg #[.string a0_0, .slice af l0_1.length ah, .slice ag l0_2.length ai, .slice ae l0_3.length a6]] ?_; (with_reducible refine (qAo.calls k1 a0_0 _ _ l0_1 _ _ l0_2 _ _ l0_3 true _ ?side1 ?side2 ?side3 ?side4 ?side5 ?side6 gP.o).mono ?_); (case side1 => exact (Kd.C_below bE.o HB.o)); (case side2 => exact bP.o); (case side3 => exact (Kd.C_below bF.o HB.o)); (case side4 => exact bQ.o); (case side5 => exact (Kd.C_below ak.o HB.o)); (case side6 => exact bR.o); rintro e gm ⟨rfl, hb⟩; refine ⟨_, rfl, ?_⟩; have n_ := a2 (qA4 aA.o hb) (am (qAp HB.o hb)); clear a5 aA HB; obtain ⟨aA, HB⟩ := n_; (skip))
     go_loopg [8] k1 (fun kq v8 w' => ∃ (aH : Int), v8 = .int .i64 aH ∧ qAe (qAi.l1 kq aH a0_0 l0_1 l0_2 l0_3 = some r) ∧ qAe (kq ≤ k1) ∧ qAe (w'.heap[aC]? = some (.cells #[.string a0_0, (.slice af l0_1.length ah), (.slice ag l0_2.length ai), (.slice ae l0_3.length a6)] 26 (0, 0))) ∧ qAe (Below w.heap.size w w'))
     case atStart => exact ⟨(0), (by rfl), H', ⟨Nat.le_refl _⟩, ⟨by exact aA.o⟩, ⟨by exact HB.o⟩⟩
     case round =>
      clear H'
      obtain ⟨aH, rfl, HA, cw, aA, HB⟩ := hrel
      cases gk with
      | zero => exact absurd HA.o (by simp [qAi.l1])
      | succ k2 =>
       have H := HA.o
       clear HA
       simp only [qAi.l1] at H
       by_cases cz : aH < (l0_3.length : Int)
       ·rw [if_pos cz] at H
        replace cz := d1 cz
        obtain ⟨du, H⟩ := gd H
        replace du := d1 du
        replace H := bm H
        obtain ⟨ar, dK, H⟩ := H
        replace H : (if ar = 0 then ((qAD.f ((qAE l0_3 aH).f4)).bind fun ap => (if ap = 0 then (qAi.l1 k2 (wrap64 (aH + 1)) a0_0 l0_1 l0_2 l0_3) else (some ap))) else (some ar)) = some r := H
        have fm := am dK
        clear dK
        by_cases dA : ar = 0
        rotate_left
        ·rw [if_neg dA] at H
         have dZ : (ar == 0) = false := bf dA
         have gW : (ar != 0) = true := bne_iff_ne.mpr dA
         obtain rfl := Option.some.inj H
         have eN : wr.cell? ⟨aC, 3, none⟩ = some (.slice ae l0_3.length a6) := (qAa aA.o 3).trans rfl
         have bA : 0 ≤ aH := od (by assumption)
         have bB : aH < (l0_3.length : Int) := od (by assumption)
         obtain ⟨bS, b2, a7, a8, a9, aa, ab⟩ := qCJ ak.o aH bA bB
         cases b2
         replace a7 := (HB.o.cell (World.block_lt_of_cell? w _ a7)).trans a7
         replace a8 := (HB.o.cell (World.block_lt_of_cell? w _ a8)).trans a8
         replace a9 := (HB.o.cell (World.block_lt_of_cell? w _ a9)).trans a9
         replace aa := (HB.o.cell (World.block_lt_of_cell? w _ aa)).trans aa
         replace ab := (HB.o.cell (World.block_lt_of_cell? w _ ab)).trans ab
         replace bA := eq_true bA
         replace bB := eq_true bB
         go_wp2_with (first | ((with_reducible refine qAO (N := 9) rfl ?_); refine bx 9 #[.int .i64 0, .int .i64 0, .int .i64 0, .string ⟨#[]⟩, .string ⟨#[]⟩] 103 ?_; intro aR hg di hbox hb; have n_ := a2 (qA4 aA.o hb) (a2 (qAp HB.o hb) (a2 (hbox) (a2 (by rw [hg]; exact (qA5 HB.o) : w.heap.size ≤ aR) (am (by rw [hg]; exact Nat.ne_of_lt (qBo aA.o) : aC ≠ aR))))); clear aA HB; obtain ⟨aA, HB, aD, bM, aQ⟩ := n_; clear hb hbox hg; have eO : di.cell? ⟨aR, 0, none⟩ = some (.int .i64 0) := (qAa aD.o 0).trans rfl; have eP : di.cell? ⟨aR, 1, none⟩ = some (.int .i64 0) := (qAa aD.o 1).trans rfl; have eQ : di.cell? ⟨aR, 2, none⟩ = some (.int .i64 0) := (qAa aD.o 2).trans rfl; have eR : di.cell? ⟨aR, 3, none⟩ = some (.string ⟨#[]⟩) := (qAa aD.o 3).trans rfl; have eS : di.cell? ⟨aR, 4, none⟩ = some (.string ⟨#[]⟩) := (qAa aD.o 4).trans rfl; have fE := qAb aD.o 0; have fF := qAb aD.o 1; have fG := qAb aD.o 2; have fH := qAb aD.o 3; have fI := qAb aD.o 4) | ((with_reducible refine qAk (f := 36) rfl ?_); refine gL 110 Tryz.func36 #[.string ((qAE l0_3 aH).f3)] ?_; (with_reducible refine (qAD.calls ((qAE l0_3 aH).f3) ar _ fm.o).mono ?_); rintro e gp ⟨rfl, hb⟩; refine ⟨_, rfl, ?_⟩; have n_ := am (qAp (by repeat (with_reducible first | exact HB.o | refine qAs ?_ bM.o)) hb); clear aA aD HB; have HB := n_; clear n_; (skip)))
         go_ret
         exact ⟨by rfl, by exact HB.o⟩
        rw [if_pos dA] at H
        have dZ : (ar == 0) = true := beq_iff_eq.mpr dA
        clear dA
        replace H := bm H
        obtain ⟨ap, dL, H⟩ := H
        replace H : (if ap = 0 then (qAi.l1 k2 (wrap64 (aH + 1)) a0_0 l0_1 l0_2 l0_3) else (some ap)) = some r := H
        have gQ := am dL
        clear dL
        by_cases d3 : ap = 0
        rotate_left
        ·rw [if_neg d3] at H
         have d4 : (ap != 0) = true := bne_iff_ne.mpr d3
         obtain rfl := Option.some.inj H
         have eG : wr.cell? ⟨aC, 3, none⟩ = some (.slice ae l0_3.length a6) := (qAa aA.o 3).trans rfl
         have bA : 0 ≤ aH := od (by assumption)
         have bB : aH < (l0_3.length : Int) := od (by assumption)
         obtain ⟨bS, b2, a7, a8, a9, aa, ab⟩ := qCJ ak.o aH bA bB
         cases b2
         replace a7 := (HB.o.cell (World.block_lt_of_cell? w _ a7)).trans a7
         replace a8 := (HB.o.cell (World.block_lt_of_cell? w _ a8)).trans a8
         replace a9 := (HB.o.cell (World.block_lt_of_cell? w _ a9)).trans a9
         replace aa := (HB.o.cell (World.block_lt_of_cell? w _ aa)).trans aa
         replace ab := (HB.o.cell (World.block_lt_of_cell? w _ ab)).trans ab
         replace bA := eq_true bA
         replace bB := eq_true bB
         go_wp2_with (first | ((with_reducible refine qAO (N := 9) rfl ?_); refine bx 9 #[.int .i64 0, .int .i64 0, .int .i64 0, .string ⟨#[]⟩, .string ⟨#[]⟩] 103 ?_; intro aR hg dh hbox hb; have n_ := a2 (qA4 aA.o hb) (a2 (qAp HB.o hb) (a2 (hbox) (a2 (by rw [hg]; exact (qA5 HB.o) : w.heap.size ≤ aR) (am (by rw [hg]; exact Nat.ne_of_lt (qBo aA.o) : aC ≠ aR))))); clear aA HB; obtain ⟨aA, HB, aD, bM, aQ⟩ := n_; clear hb hbox hg; have eH : dh.cell? ⟨aR, 0, none⟩ = some (.int .i64 0) := (qAa aD.o 0).trans rfl; have eI : dh.cell? ⟨aR, 1, none⟩ = some (.int .i64 0) := (qAa aD.o 1).trans rfl; have eJ : dh.cell? ⟨aR, 2, none⟩ = some (.int .i64 0) := (qAa aD.o 2).trans rfl; have eK : dh.cell? ⟨aR, 3, none⟩ = some (.string ⟨#[]⟩) := (qAa aD.o 3).trans rfl; have eL : dh.cell? ⟨aR, 4, none⟩ = some (.string ⟨#[]⟩) := (qAa aD.o 4).trans rfl; have ey := qAb aD.o 0; have ez := qAb aD.o 1; have fA := qAb aD.o 2; have fB := qAb aD.o 3; have fC := qAb aD.o 4) | ((with_reducible refine qAk (f := 36) rfl ?_); refine gL 110 Tryz.func36 #[.string ((qAE l0_3 aH).f3)] ?_; (with_reducible refine (qAD.calls ((qAE l0_3 aH).f3) ar _ fm.o).mono ?_); rintro e gb ⟨rfl, hb⟩; refine ⟨_, rfl, ?_⟩; have n_ := a2 (qA4 (g := aC) (o := .cells #[.string a0_0, .slice af l0_1.length ah, .slice ag l0_2.length ai, .slice (some bS) l0_3.length a6] 26 (0, 0)) (by refine qAz ?_ aQ.o _; refine qAz ?_ aQ.o _; refine qAz ?_ aQ.o _; refine qAz ?_ aQ.o _; refine qAz ?_ aQ.o _; exact aA.o) hb) (a2 (qA4 (g := aR) (o := .cells #[.int .i64 ((qAE l0_3 aH).f0), .int .i64 ((qAE l0_3 aH).f1), .int .i64 ((qAE l0_3 aH).f2), .string ((qAE l0_3 aH).f3), .string ((qAE l0_3 aH).f4)] 103 (0, 0)) (by refine qAx (cs := #[.int .i64 ((qAE l0_3 aH).f0), .int .i64 ((qAE l0_3 aH).f1), .int .i64 ((qAE l0_3 aH).f2), .string ((qAE l0_3 aH).f3), .string ⟨#[]⟩]) ?_ 4 _ rfl; refine qAx (cs := #[.int .i64 ((qAE l0_3 aH).f0), .int .i64 ((qAE l0_3 aH).f1), .int .i64 ((qAE l0_3 aH).f2), .string ⟨#[]⟩, .string ⟨#[]⟩]) ?_ 3 _ rfl; refine qAx (cs := #[.int .i64 ((qAE l0_3 aH).f0), .int .i64 ((qAE l0_3 aH).f1), .int .i64 0, .string ⟨#[]⟩, .string ⟨#[]⟩]) ?_ 2 _ rfl; refine qAx (cs := #[.int .i64 ((qAE l0_3 aH).f0), .int .i64 0, .int .i64 0, .string ⟨#[]⟩, .string ⟨#[]⟩]) ?_ 1 _ rfl; refine qAx (cs := #[.int .i64 0, .int .i64 0, .int .i64 0, .string ⟨#[]⟩, .string ⟨#[]⟩]) ?_ 0 _ rfl; exact aD.o) hb) (am (qAp (by repeat (with_reducible first | exact HB.o | refine qAs ?_ bM.o)) hb))); clear aA aD HB; obtain ⟨aA, aD, HB⟩ := n_; have eM : gb.cell? ⟨aR, 4, none⟩ = some (.string ((qAE l0_3 aH).f4)) := (qAa aD.o 4).trans rfl; have fD := qAb aD.o 4) | ((with_reducible refine qAk (f := 36) rfl ?_); refine gL 115 Tryz.func36 #[.string ((qAE l0_3 aH).f4)] ?_; (with_reducible refine (qAD.calls ((qAE l0_3 aH).f4) ap _ gQ.o).mono ?_); rintro e go ⟨rfl, hb⟩; refine ⟨_, rfl, ?_⟩; have n_ := am (qAp HB.o hb); clear aA aD HB; have HB := n_; clear n_; (skip)))
         go_ret
         exact ⟨by rfl, by exact HB.o⟩
        rw [if_pos d3] at H
        have d4 : (ap != 0) = false := bn d3
        clear d3
        have H' := am H
        clear H
        have dz : wr.cell? ⟨aC, 3, none⟩ = some (.slice ae l0_3.length a6) := (qAa aA.o 3).trans rfl
        have bA : 0 ≤ aH := od (by assumption)
        have bB : aH < (l0_3.length : Int) := od (by assumption)
        obtain ⟨bS, b2, a7, a8, a9, aa, ab⟩ := qCJ ak.o aH bA bB
        cases b2
        replace a7 := (HB.o.cell (World.block_lt_of_cell? w _ a7)).trans a7
        replace a8 := (HB.o.cell (World.block_lt_of_cell? w _ a8)).trans a8
        replace a9 := (HB.o.cell (World.block_lt_of_cell? w _ a9)).trans a9
        replace aa := (HB.o.cell (World.block_lt_of_cell? w _ aa)).trans aa
        replace ab := (HB.o.cell (World.block_lt_of_cell? w _ ab)).trans ab
        replace bA := eq_true bA
        replace bB := eq_true bB
        go_wp2_with (first | ((with_reducible refine qAO (N := 9) rfl ?_); refine bx 9 #[.int .i64 0, .int .i64 0, .int .i64 0, .string ⟨#[]⟩, .string ⟨#[]⟩] 103 ?_; intro aR hg dg hbox hb; have n_ := a2 (qA4 aA.o hb) (a2 (qAp HB.o hb) (a2 (hbox) (a2 (by rw [hg]; exact (qA5 HB.o) : w.heap.size ≤ aR) (am (by rw [hg]; exact Nat.ne_of_lt (qBo aA.o) : aC ≠ aR))))); clear aA HB; obtain ⟨aA, HB, aD, bM, aQ⟩ := n_; clear hb hbox hg; have eA : dg.cell? ⟨aR, 0, none⟩ = some (.int .i64 0) := (qAa aD.o 0).trans rfl; have eB : dg.cell? ⟨aR, 1, none⟩ = some (.int .i64 0) := (qAa aD.o 1).trans rfl; have eC : dg.cell? ⟨aR, 2, none⟩ = some (.int .i64 0) := (qAa aD.o 2).trans rfl; have eD : dg.cell? ⟨aR, 3, none⟩ = some (.string ⟨#[]⟩) := (qAa aD.o 3).trans rfl; have eE : dg.cell? ⟨aR, 4, none⟩ = some (.string ⟨#[]⟩) := (qAa aD.o 4).trans rfl; have es := qAb aD.o 0; have et := qAb aD.o 1; have eu := qAb aD.o 2; have ev := qAb aD.o 3; have ew := qAb aD.o 4) | ((with_reducible refine qAk (f := 36) rfl ?_); refine gL 110 Tryz.func36 #[.string ((qAE l0_3 aH).f3)] ?_; (with_reducible refine (qAD.calls ((qAE l0_3 aH).f3) ar _ fm.o).mono ?_); rintro e ga ⟨rfl, hb⟩; refine ⟨_, rfl, ?_⟩; have n_ := a2 (qA4 (g := aC) (o := .cells #[.string a0_0, .slice af l0_1.length ah, .slice ag l0_2.length ai, .slice (some bS) l0_3.length a6] 26 (0, 0)) (by refine qAz ?_ aQ.o _; refine qAz ?_ aQ.o _; refine qAz ?_ aQ.o _; refine qAz ?_ aQ.o _; refine qAz ?_ aQ.o _; exact aA.o) hb) (a2 (qA4 (g := aR) (o := .cells #[.int .i64 ((qAE l0_3 aH).f0), .int .i64 ((qAE l0_3 aH).f1), .int .i64 ((qAE l0_3 aH).f2), .string ((qAE l0_3 aH).f3), .string ((qAE l0_3 aH).f4)] 103 (0, 0)) (by refine qAx (cs := #[.int .i64 ((qAE l0_3 aH).f0), .int .i64 ((qAE l0_3 aH).f1), .int .i64 ((qAE l0_3 aH).f2), .string ((qAE l0_3 aH).f3), .string ⟨#[]⟩]) ?_ 4 _ rfl; refine qAx (cs := #[.int .i64 ((qAE l0_3 aH).f0), .int .i64 ((qAE l0_3 aH).f1), .int .i64 ((qAE l0_3 aH).f2), .string ⟨#[]⟩, .string ⟨#[]⟩]) ?_ 3 _ rfl; refine qAx (cs := #[.int .i64 ((qAE l0_3 aH).f0), .int .i64 ((qAE l0_3 aH).f1), .int .i64 0, .string ⟨#[]⟩, .string ⟨#[]⟩]) ?_ 2 _ rfl; refine qAx (cs := #[.int .i64 ((qAE l0_3 aH).f0), .int .i64 0, .int .i64 0, .string ⟨#[]⟩, .string ⟨#[]⟩]) ?_ 1 _ rfl; refine qAx (cs := #[.int .i64 0, .int .i64 0, .int .i64 0, .string ⟨#[]⟩, .string ⟨#[]⟩]) ?_ 0 _ rfl; exact aD.o) hb) (am (qAp (by repeat (with_reducible first | exact HB.o | refine qAs ?_ bM.o)) hb))); clear aA aD HB; obtain ⟨aA, aD, HB⟩ := n_; have eF : ga.cell? ⟨aR, 4, none⟩ = some (.string ((qAE l0_3 aH).f4)) := (qAa aD.o 4).trans rfl; have ex := qAb aD.o 4) | ((with_reducible refine qAk (f := 36) rfl ?_); refine gL 115 Tryz.func36 #[.string ((qAE l0_3 aH).f4)] ?_; (with_reducible refine (qAD.calls ((qAE l0_3 aH).f4) ap _ gQ.o).mono ?_); rintro e gn ⟨rfl, hb⟩; refine ⟨_, rfl, ?_⟩; have n_ := a2 (qA4 aA.o hb) (am (qAp HB.o hb)); clear aA aD HB; obtain ⟨aA, HB⟩ := n_; (skip)))
        go_roundg k2
        case measure => have := b6.o; have := cw.o; omega
        case rel => exact ⟨(wrap64 (aH + 1)), (by rfl), H', ⟨by have := b6.o; have := cw.o; omega⟩, ⟨by exact aA.o⟩, ⟨by exact HB.o⟩⟩
       rw [if_neg cz] at H
       replace cz := d0 cz
       have H' := am H
       clear H
       have cB : wr.cell? ⟨aC, 0, none⟩ = some (.string a0_0) := (qAa aA.o 0).trans rfl
       have cC : wr.cell? ⟨aC, 1, none⟩ = some (.slice af l0_1.length ah) := (qAa aA.o 1).trans rfl
       have cD : wr.cell? ⟨aC, 2, none⟩ = some (.slice ag l0_2.length ai) := (qAa aA.o 2).trans rfl
       have cE : wr.cell? ⟨aC, 3, none⟩ = some (.slice ae l0_3.length a6) := (qAa aA.o 3).trans rfl
       have cV := qAb aA.o 0
       have cW := qAb aA.o 1
       have cX := qAb aA.o 2
       have cY := qAb aA.o 3
       go_wp2
       go_loopg [10] k2 (fun kq g6 w' => ∃ (aJ : Int), g6 = .int .i64 aJ ∧ qAe (qAi.l2 kq aJ a0_0 l0_1 l0_2 l0_3 = some r) ∧ qAe (kq ≤ k2) ∧ qAe (w'.heap[aC]? = some (.cells #[.string a0_0, (.slice af l0_1.length ah), (.slice ag l0_2.length ai), (.slice ae l0_3.length a6)] 26 (0, 0))) ∧ qAe (Below w.heap.size w w'))
       case atStart => exact ⟨(0), (by rfl), H', ⟨Nat.le_refl _⟩, ⟨by exact aA.o⟩, ⟨by exact HB.o⟩⟩
       case round =>
        clear H'
        obtain ⟨aJ, rfl, HA, dl, aA, HB⟩ := hrel
        cases gk with
        | zero => exact absurd HA.o (by simp [qAi.l2])
        | succ k3 =>
         have H := HA.o
         clear HA
         simp only [qAi.l2] at H
         by_cases dB : aJ < (l0_3.length : Int)
         rotate_left
         ·rw [if_neg dB] at H
          replace dB := d0 dB
          obtain rfl := Option.some.inj H
          have er : wr.cell? ⟨aC, 3, none⟩ = some (.slice ae l0_3.length a6) := (qAa aA.o 3).trans rfl
          go_wp2
          go_ret
          exact ⟨by rfl, by exact HB.o⟩
         rw [if_pos dB] at H
         replace dB := d1 dB
         obtain ⟨dv, H⟩ := gd H
         replace dv := d1 dv
         by_cases dC : ((qAE l0_3 aJ).f3).toList = a0_0.toList
         rotate_left
         ·rw [if_neg dC] at H
          have d6 : (((qAE l0_3 aJ).f3).toList == a0_0.toList) = false := bf dC
          have gY : (((qAE l0_3 aJ).f3).toList != a0_0.toList) = true := bne_iff_ne.mpr dC
          by_cases d7 : ((qAE l0_3 aJ).f2) = 1
          ·rw [if_pos d7] at H
           have d8 : (((qAE l0_3 aJ).f2) == 1) = true := beq_iff_eq.mpr d7
           clear d7
           obtain rfl := Option.some.inj H
           have ed : wr.cell? ⟨aC, 3, none⟩ = some (.slice ae l0_3.length a6) := (qAa aA.o 3).trans rfl
           have al : 0 ≤ aJ := od (by assumption)
           have an : aJ < (l0_3.length : Int) := od (by assumption)
           obtain ⟨bG, bN, aT, aU, aV, aW, aX⟩ := qCJ ak.o aJ al an
           cases bN
           replace aT := (HB.o.cell (World.block_lt_of_cell? w _ aT)).trans aT
           replace aU := (HB.o.cell (World.block_lt_of_cell? w _ aU)).trans aU
           replace aV := (HB.o.cell (World.block_lt_of_cell? w _ aV)).trans aV
           replace aW := (HB.o.cell (World.block_lt_of_cell? w _ aW)).trans aW
           replace aX := (HB.o.cell (World.block_lt_of_cell? w _ aX)).trans aX
           replace al := eq_true al
           replace an := eq_true an
           go_wp2_with ((with_reducible refine qAO (N := 11) rfl ?_); refine bx 11 #[.int .i64 0, .int .i64 0, .int .i64 0, .string ⟨#[]⟩, .string ⟨#[]⟩] 103 ?_; intro aN hg dD hbox hb; have n_ := a2 (qA4 aA.o hb) (a2 (qAp HB.o hb) (a2 (hbox) (a2 (by rw [hg]; exact (qA5 HB.o) : w.heap.size ≤ aN) (am (by rw [hg]; exact Nat.ne_of_lt (qBo aA.o) : aC ≠ aN))))); clear aA HB; obtain ⟨aA, HB, aE, aj, aI⟩ := n_; clear hb hbox hg; have g1 := aI.o; have ee : dD.cell? ⟨aN, 0, none⟩ = some (.int .i64 0) := (qAa aE.o 0).trans rfl; have ef : dD.cell? ⟨aN, 1, none⟩ = some (.int .i64 0) := (qAa aE.o 1).trans rfl; have eg : dD.cell? ⟨aN, 2, none⟩ = some (.int .i64 0) := (qAa aE.o 2).trans rfl; have eh : dD.cell? ⟨aN, 3, none⟩ = some (.string ⟨#[]⟩) := (qAa aE.o 3).trans rfl; have ei : dD.cell? ⟨aN, 4, none⟩ = some (.string ⟨#[]⟩) := (qAa aE.o 4).trans rfl; have fV := qAb aE.o 0; have fW := qAb aE.o 1; have fX := qAb aE.o 2; have fY := qAb aE.o 3; have fZ := qAb aE.o 4; have ej : dD.cell? ⟨aC, 0, none⟩ = some (.string a0_0) := (qAa aA.o 0).trans rfl; have f5 := qAb aA.o 3)
           go_ret
           exact ⟨by rfl, by repeat (with_reducible first | exact HB.o | refine qAs ?_ aj.o)⟩
          rw [if_neg d7] at H
          have d8 : (((qAE l0_3 aJ).f2) == 1) = false := bf d7
          have H' := am H
          clear H
          have ek : wr.cell? ⟨aC, 3, none⟩ = some (.slice ae l0_3.length a6) := (qAa aA.o 3).trans rfl
          have al : 0 ≤ aJ := od (by assumption)
          have an : aJ < (l0_3.length : Int) := od (by assumption)
          obtain ⟨bG, bN, aT, aU, aV, aW, aX⟩ := qCJ ak.o aJ al an
          cases bN
          replace aT := (HB.o.cell (World.block_lt_of_cell? w _ aT)).trans aT
          replace aU := (HB.o.cell (World.block_lt_of_cell? w _ aU)).trans aU
          replace aV := (HB.o.cell (World.block_lt_of_cell? w _ aV)).trans aV
          replace aW := (HB.o.cell (World.block_lt_of_cell? w _ aW)).trans aW
          replace aX := (HB.o.cell (World.block_lt_of_cell? w _ aX)).trans aX
          replace al := eq_true al
          replace an := eq_true an
          go_wp2_with ((with_reducible refine qAO (N := 11) rfl ?_); refine bx 11 #[.int .i64 0, .int .i64 0, .int .i64 0, .string ⟨#[]⟩, .string ⟨#[]⟩] 103 ?_; intro aN hg dE hbox hb; have n_ := a2 (qA4 aA.o hb) (a2 (qAp HB.o hb) (a2 (hbox) (a2 (by rw [hg]; exact (qA5 HB.o) : w.heap.size ≤ aN) (am (by rw [hg]; exact Nat.ne_of_lt (qBo aA.o) : aC ≠ aN))))); clear aA HB; obtain ⟨aA, HB, aE, aj, aI⟩ := n_; clear hb hbox hg; have g2 := aI.o; have el : dE.cell? ⟨aN, 0, none⟩ = some (.int .i64 0) := (qAa aE.o 0).trans rfl; have em : dE.cell? ⟨aN, 1, none⟩ = some (.int .i64 0) := (qAa aE.o 1).trans rfl; have en : dE.cell? ⟨aN, 2, none⟩ = some (.int .i64 0) := (qAa aE.o 2).trans rfl; have eo : dE.cell? ⟨aN, 3, none⟩ = some (.string ⟨#[]⟩) := (qAa aE.o 3).trans rfl; have ep : dE.cell? ⟨aN, 4, none⟩ = some (.string ⟨#[]⟩) := (qAa aE.o 4).trans rfl; have f6 := qAb aE.o 0; have f7 := qAb aE.o 1; have f8 := qAb aE.o 2; have f9 := qAb aE.o 3; have fa := qAb aE.o 4; have eq : dE.cell? ⟨aC, 0, none⟩ = some (.string a0_0) := (qAa aA.o 0).trans rfl; have fb := qAb aA.o 3)
          go_roundg k3
          case measure => have := b6.o; have := cw.o; have := dl.o; omega
          case rel => exact ⟨(wrap64 (aJ + 1)), (by rfl), H', ⟨by have := b6.o; have := cw.o; have := dl.o; omega⟩, ⟨by refine qAz ?_ aI.o _; refine qAz ?_ aI.o _; refine qAz ?_ aI.o _; refine qAz ?_ aI.o _; refine qAz ?_ aI.o _; exact aA.o⟩, ⟨by repeat (with_reducible first | exact HB.o | refine qAs ?_ aj.o)⟩⟩
         rw [if_pos dC] at H
         have d6 : (((qAE l0_3 aJ).f3).toList == a0_0.toList) = true := beq_iff_eq.mpr dC
         clear dC
         replace H := bm H
         obtain ⟨cf, dM, H⟩ := H
         replace H : (if cf = true then (qAi.l2 k3 (wrap64 (aJ + 1)) a0_0 l0_1 l0_2 l0_3) else (some 52)) = some r := H
         have gR := am dM
         clear dM
         by_cases dw : cf = true
         rotate_left
         ·replace dw := Bool.eq_false_iff.mpr dw
          subst dw
          replace H : (some 52) = some r := by rw [if_neg (show ¬ (false = true) by decide)] at H; exact H
          obtain rfl := Option.some.inj H
          have e3 : wr.cell? ⟨aC, 3, none⟩ = some (.slice ae l0_3.length a6) := (qAa aA.o 3).trans rfl
          have al : 0 ≤ aJ := od (by assumption)
          have an : aJ < (l0_3.length : Int) := od (by assumption)
          obtain ⟨bG, bN, aT, aU, aV, aW, aX⟩ := qCJ ak.o aJ al an
          cases bN
          replace aT := (HB.o.cell (World.block_lt_of_cell? w _ aT)).trans aT
          replace aU := (HB.o.cell (World.block_lt_of_cell? w _ aU)).trans aU
          replace aV := (HB.o.cell (World.block_lt_of_cell? w _ aV)).trans aV
          replace aW := (HB.o.cell (World.block_lt_of_cell? w _ aW)).trans aW
          replace aX := (HB.o.cell (World.block_lt_of_cell? w _ aX)).trans aX
          replace al := eq_true al
          replace an := eq_true an
          go_wp2_with (first | ((with_reducible refine qAO (N := 11) rfl ?_); refine bx 11 #[.int .i64 0, .int .i64 0, .int .i64 0, .string ⟨#[]⟩, .string ⟨#[]⟩] 103 ?_; intro aN hg ch hbox hb; have n_ := a2 (qA4 aA.o hb) (a2 (qAp HB.o hb) (a2 (hbox) (a2 (by rw [hg]; exact (qA5 HB.o) : w.heap.size ≤ aN) (am (by rw [hg]; exact Nat.ne_of_lt (qBo aA.o) : aC ≠ aN))))); clear aA HB; obtain ⟨aA, HB, aE, aj, aI⟩ := n_; clear hb hbox hg; have g0 := aI.o; have e4 : ch.cell? ⟨aN, 0, none⟩ = some (.int .i64 0) := (qAa aE.o 0).trans rfl; have e5 : ch.cell? ⟨aN, 1, none⟩ = some (.int .i64 0) := (qAa aE.o 1).trans rfl; have e6 : ch.cell? ⟨aN, 2, none⟩ = some (.int .i64 0) := (qAa aE.o 2).trans rfl; have e7 : ch.cell? ⟨aN, 3, none⟩ = some (.string ⟨#[]⟩) := (qAa aE.o 3).trans rfl; have e8 : ch.cell? ⟨aN, 4, none⟩ = some (.string ⟨#[]⟩) := (qAa aE.o 4).trans rfl; have fP := qAb aE.o 0; have fQ := qAb aE.o 1; have fR := qAb aE.o 2; have fS := qAb aE.o 3; have fT := qAb aE.o 4; have e9 : ch.cell? ⟨aC, 0, none⟩ = some (.string a0_0) := (qAa aA.o 0).trans rfl; have ea : ch.cell? ⟨aC, 1, none⟩ = some (.slice af l0_1.length ah) := (qAa aA.o 1).trans rfl; have eb : ch.cell? ⟨aC, 2, none⟩ = some (.slice ag l0_2.length ai) := (qAa aA.o 2).trans rfl; have ec : ch.cell? ⟨aC, 3, none⟩ = some (.slice (some bG) l0_3.length a6) := (qAa aA.o 3).trans rfl; have fU := qAb aA.o 3) | (go_at_call 41; (with_reducible refine (qA2.calls k3 a0_0 _ _ l0_1 _ _ l0_2 _ _ l0_3 ((qAE l0_3 aJ).f0) ((qAE l0_3 aJ).f1) ((qAE l0_3 aJ).f2) ((qAE l0_3 aJ).f3) ((qAE l0_3 aJ).f4) false _ ?side1 ?side2 ?side3 ?side4 ?side5 ?side6 gR.o).mono ?_); (case side1 => exact Kd.C_below bE.o (by repeat (with_reducible first | exact HB.o | refine qAs ?_ aj.o))); (case side2 => exact bP.o); (case side3 => exact Kd.C_below bF.o (by repeat (with_reducible first | exact HB.o | refine qAs ?_ aj.o))); (case side4 => exact bQ.o); (case side5 => exact Kd.C_below ak.o (by repeat (with_reducible first | exact HB.o | refine qAs ?_ aj.o))); (case side6 => exact bR.o); rintro e gr ⟨rfl, hb⟩; have n_ := am (qAp (by repeat (with_reducible first | exact HB.o | refine qAs ?_ aj.o)) hb); clear aA aE HB; have HB := n_; clear n_; (skip)))
          go_ret
          exact ⟨by rfl, by exact HB.o⟩
         subst dw
         replace H : (qAi.l2 k3 (wrap64 (aJ + 1)) a0_0 l0_1 l0_2 l0_3) = some r := by rw [if_pos rfl] at H; exact H
         have H' := am H
         clear H
         have eT : wr.cell? ⟨aC, 3, none⟩ = some (.slice ae l0_3.length a6) := (qAa aA.o 3).trans rfl
         have al : 0 ≤ aJ := od (by assumption)
         have an : aJ < (l0_3.length : Int) := od (by assumption)
         obtain ⟨bG, bN, aT, aU, aV, aW, aX⟩ := qCJ ak.o aJ al an
         cases bN
         replace aT := (HB.o.cell (World.block_lt_of_cell? w _ aT)).trans aT
         replace aU := (HB.o.cell (World.block_lt_of_cell? w _ aU)).trans aU
         replace aV := (HB.o.cell (World.block_lt_of_cell? w _ aV)).trans aV
         replace aW := (HB.o.cell (World.block_lt_of_cell? w _ aW)).trans aW
         replace aX := (HB.o.cell (World.block_lt_of_cell? w _ aX)).trans aX
         replace al := eq_true al
         replace an := eq_true an
         go_wp2_with (first | ((with_reducible refine qAO (N := 11) rfl ?_); refine bx 11 #[.int .i64 0, .int .i64 0, .int .i64 0, .string ⟨#[]⟩, .string ⟨#[]⟩] 103 ?_; intro aN hg cg hbox hb; have n_ := a2 (qA4 aA.o hb) (a2 (qAp HB.o hb) (a2 (hbox) (a2 (by rw [hg]; exact (qA5 HB.o) : w.heap.size ≤ aN) (am (by rw [hg]; exact Nat.ne_of_lt (qBo aA.o) : aC ≠ aN))))); clear aA HB; obtain ⟨aA, HB, aE, aj, aI⟩ := n_; clear hb hbox hg; have gZ := aI.o; have eU : cg.cell? ⟨aN, 0, none⟩ = some (.int .i64 0) := (qAa aE.o 0).trans rfl; have eV : cg.cell? ⟨aN, 1, none⟩ = some (.int .i64 0) := (qAa aE.o 1).trans rfl; have eW : cg.cell? ⟨aN, 2, none⟩ = some (.int .i64 0) := (qAa aE.o 2).trans rfl; have eX : cg.cell? ⟨aN, 3, none⟩ = some (.string ⟨#[]⟩) := (qAa aE.o 3).trans rfl; have eY : cg.cell? ⟨aN, 4, none⟩ = some (.string ⟨#[]⟩) := (qAa aE.o 4).trans rfl; have fJ := qAb aE.o 0; have fK := qAb aE.o 1; have fL := qAb aE.o 2; have fM := qAb aE.o 3; have fN := qAb aE.o 4; have eZ : cg.cell? ⟨aC, 0, none⟩ = some (.string a0_0) := (qAa aA.o 0).trans rfl; have e0 : cg.cell? ⟨aC, 1, none⟩ = some (.slice af l0_1.length ah) := (qAa aA.o 1).trans rfl; have e1 : cg.cell? ⟨aC, 2, none⟩ = some (.slice ag l0_2.length ai) := (qAa aA.o 2).trans rfl; have e2 : cg.cell? ⟨aC, 3, none⟩ = some (.slice (some bG) l0_3.length a6) := (qAa aA.o 3).trans rfl; have fO := qAb aA.o 3) | (go_at_call 41; (with_reducible refine (qA2.calls k3 a0_0 _ _ l0_1 _ _ l0_2 _ _ l0_3 ((qAE l0_3 aJ).f0) ((qAE l0_3 aJ).f1) ((qAE l0_3 aJ).f2) ((qAE l0_3 aJ).f3) ((qAE l0_3 aJ).f4) true _ ?side1 ?side2 ?side3 ?side4 ?side5 ?side6 gR.o).mono ?_); (case side1 => exact Kd.C_below bE.o (by repeat (with_reducible first | exact HB.o | refine qAs ?_ aj.o))); (case side2 => exact bP.o); (case side3 => exact Kd.C_below bF.o (by repeat (with_reducible first | exact HB.o | refine qAs ?_ aj.o))); (case side4 => exact bQ.o); (case side5 => exact Kd.C_below ak.o (by repeat (with_reducible first | exact HB.o | refine qAs ?_ aj.o))); (case side6 => exact bR.o); rintro e gq ⟨rfl, hb⟩; have n_ := a2 (qA4 (g := aC) (o := .cells #[.string a0_0, .slice af l0_1.length ah, .slice ag l0_2.length ai, .slice (some bG) l0_3.length a6] 26 (0, 0)) (by refine qAz ?_ aI.o _; refine qAz ?_ aI.o _; refine qAz ?_ aI.o _; refine qAz ?_ aI.o _; refine qAz ?_ aI.o _; exact aA.o) hb) (am (qAp (by repeat (with_reducible first | exact HB.o | refine qAs ?_ aj.o)) hb)); clear aA aE HB; obtain ⟨aA, HB⟩ := n_; (skip)))
         go_roundg k3
         case measure => have := b6.o; have := cw.o; have := dl.o; omega
         case rel => exact ⟨(wrap64 (aJ + 1)), (by rfl), H', ⟨by have := b6.o; have := cw.o; have := dl.o; omega⟩, ⟨by exact aA.o⟩, ⟨by exact HB.o⟩⟩
 ·rw [if_neg c3] at H
  have dY : (ao != 0) = true := bne_iff_ne.mpr c3
  obtain rfl := Option.some.inj H
  go_enter Tryz.func11, Tryz.ntmps11
  go_wp2_with (first | ((with_reducible refine qAO (N := 1) rfl ?_); refine bx 1 #[.string a0_0, .slice af l0_1.length ah, .slice ag l0_2.length ai, .slice ae l0_3.length a6] 26 ?_; intro aC hg gN hbox hb; have n_ := a2 (qAp HB.o hb) (am (hbox)); clear HB; obtain ⟨HB, aA⟩ := n_; clear hb hbox hg; have de : gN.cell? ⟨aC, 0, none⟩ = some (.string a0_0) := (qAa aA.o 0).trans rfl; have df := qAb aA.o 3) | ((with_reducible refine qAk (f := 36) rfl ?_); refine gL 14 Tryz.func36 #[.string a0_0] ?_; (with_reducible refine (qAD.calls a0_0 ao _ A2.o).mono ?_); rintro e g9 ⟨rfl, hb⟩; refine ⟨_, rfl, ?_⟩; have n_ := am (qAp HB.o hb); clear aA HB; have HB := n_; clear n_; (skip)))
  go_ret
  exact ⟨by rfl, by exact HB.o⟩
def qBE.f (l0 : List Int) : Option (List Int × Int × Int) := some (l0, 0, 0)
theorem qBE.calls (A0 : Option Addr) (c0 : Nat) (l0 : List Int) (r1 : List Int) (r2 : Int) (r3 : Int) (w0 w : World) (hB : Below w0.heap.size w0 w) (hr0 : Kd.C (Kd.int .u8) w0 A0 l0.length l0) (hc0 : l0.length ≤ c0) (h : qBE.f l0 = some (r1, r2, r3)) :
  Calls Tryz.prog 66 #[.slice A0 l0.length c0] w fun e w' => ∃ g_ : Nat, e = .returned (.pointer (some ⟨g_, 0, none⟩)) ∧ qAv w0 w' g_ r1 r2 r3 ∧ Below w0.heap.size w0 w' ∧ Below w.heap.size w w' := by
 have aE := am hr0
 have aD := am hc0
 clear hr0 hc0
 have HBW := am (Below.refl w.heap.size w)
 have aF := am hB.size
 have HB := am hB
 clear hB
 have H : (some (l0, 0, 0)) = some (r1, r2, r3) := h
 clear h
 simp only [Option.some.injEq, Prod.mk.injEq] at H
 obtain ⟨rfl, rfl, rfl⟩ := H
 go_enter Tryz.func66, Tryz.ntmps66
 go_wp2_with ((with_reducible refine qAO (N := 5) rfl ?_); refine bx 5 #[.slice A0 l0.length c0, .int .i64 0, .int .i64 0] 136 ?_; intro aA hg w2 hbox hb; have n_ := a2 (qAp HBW.o hb) (a2 (qAp HB.o hb) (a2 (hbox) (am (Nat.le_trans aF.o (by rw [hg]; exact (qA5 HBW.o) : w.heap.size ≤ aA) : w0.heap.size ≤ aA)))); clear HBW HB; obtain ⟨HBW, HB, aB, aC⟩ := n_; clear hb hbox hg)
 go_ret
 exact ⟨_, rfl, (show qAv w0 _ aA l0 0 0 from ⟨_, _, by exact aB.o, ⟨aC.o, aD.o⟩, aE.o⟩), by exact HB.o, by exact HBW.o⟩
def qAl.f (s0_0 : List Int) (s0_1 : Int) (s0_2 : Int) (a1 : Int) : Option (Int × Int) := if s0_2 = 0 then (some (s0_1, a1)) else (some (s0_1, s0_2))
theorem qAl.calls (g : Nat) (s0_0 : List Int) (s0_1 : Int) (s0_2 : Int) (a1 : Int) (r1 : Int) (r2 : Int) (w0 w : World) (hI : qAv w0 w g s0_0 s0_1 s0_2) (hB : Below w0.heap.size w0 w) (h : qAl.f s0_0 s0_1 s0_2 a1 = some (r1, r2)) :
  Calls Tryz.prog 134 #[.pointer (some ⟨g, 0, none⟩), .int .i64 a1] w fun e w' => e = .returned (.tuple #[]) ∧ qAv w0 w' g s0_0 r1 r2 ∧ Below w0.heap.size w0 w' ∧ qAg w w' g none := by
 have aA := am hI
 have HK := am (qAg.refl w g none)
 clear hI
 have HB := am hB
 clear hB
 have H : (if s0_2 = 0 then (some (s0_1, a1)) else (some (s0_1, s0_2))) = some (r1, r2) := h
 clear h
 by_cases c3 : s0_2 = 0
 ·rw [if_pos c3] at H
  have aB : (s0_2 == 0) = true := beq_iff_eq.mpr c3
  clear c3
  simp only [Option.some.injEq, Prod.mk.injEq] at H
  obtain ⟨rfl, rfl⟩ := H
  obtain ⟨ASz4_0, cSz4_0, HGz4, hgz4, HSz4_0⟩ := aA.o
  have aC := qB4 HGz4
  have aE := qAb HGz4 2
  clear HGz4 hgz4
  go_enter Tryz.func134, Tryz.ntmps134
  go_wp2
  (go_end0)
  exact ⟨by rfl, by repeat (with_reducible first | exact aA.o | apply qAv.set_2), by repeat (with_reducible first | exact HB.o | refine qAs ?_ (qAv.ge aA.o)), by repeat (with_reducible first | exact HK.o | apply qAg.set_)⟩
 ·rw [if_neg c3] at H
  have aB : (s0_2 == 0) = false := bf c3
  simp only [Option.some.injEq, Prod.mk.injEq] at H
  obtain ⟨rfl, rfl⟩ := H
  obtain ⟨ASz5_0, cSz5_0, HGz5, hgz5, HSz5_0⟩ := aA.o
  have aD := qB4 HGz5
  clear HGz5 hgz5
  go_enter Tryz.func134, Tryz.ntmps134
  go_wp2
  (go_end0)
  exact ⟨by rfl, by exact aA.o, by exact HB.o, by exact HK.o⟩
def qAr.l0 : Nat → Int → Int → Int → List Int → Int → Int → Option (Int × Int × Int)
 | 0, _, _, _, _, _, _ => none
 | k + 1, x1, x5, x6, aG, aD, aJ => if x6 < x1 then (if 0 ≤ (wrap64 (aD + x6)) then (if (wrap64 (aD + x6)) < (aG.length : Int) then (qAr.l0 k x1 (Go.bits .or .u64 (IntKind.u64.wrap (x5 * 256)) (IntKind.u64.wrap (rd aG (wrap64 (aD + x6))))) (wrap64 (x6 + 1)) aG aD aJ) else (none)) else (none)) else (some (x5, wrap64 (aD + x1), aJ))
def qAr.f (k : Nat) (s0_0 : List Int) (s0_1 : Int) (s0_2 : Int) (a1 : Int) : Option (Int × Int × Int) := if s0_2 = 0 then (if (wrap64 ((s0_0.length : Int) - s0_1)) < a1 then ((qAl.f s0_0 s0_1 s0_2 40).bind fun aC => (some (0, aC.1, aC.2))) else (qAr.l0 k a1 0 0 s0_0 s0_1 s0_2)) else (some (0, s0_1, s0_2))
theorem qAr.calls (k : Nat) (g : Nat) (s0_0 : List Int) (s0_1 : Int) (s0_2 : Int) (a1 : Int) (r1 : Int) (r2 : Int) (r3 : Int) (w0 w : World) (hI : qAv w0 w g s0_0 s0_1 s0_2) (hB : Below w0.heap.size w0 w) (h : qAr.f k s0_0 s0_1 s0_2 a1 = some (r1, r2, r3)) :
  Calls Tryz.prog 133 #[.pointer (some ⟨g, 0, none⟩), .int .i64 a1] w fun e w' => e = .returned (.int .u64 r1) ∧ qAv w0 w' g s0_0 r2 r3 ∧ Below w0.heap.size w0 w' ∧ qAg w w' g none := by
 have aE := am hI
 have HK := am (qAg.refl w g none)
 clear hI
 have HB := am hB
 clear hB
 have H : (if s0_2 = 0 then (if (wrap64 ((s0_0.length : Int) - s0_1)) < a1 then ((qAl.f s0_0 s0_1 s0_2 40).bind fun aC => (some (0, aC.1, aC.2))) else (qAr.l0 k a1 0 0 s0_0 s0_1 s0_2)) else (some (0, s0_1, s0_2))) = some (r1, r2, r3) := h
 clear h
 by_cases c3 : s0_2 = 0
 ·rw [if_pos c3] at H
  have a6 : (s0_2 == 0) = true := beq_iff_eq.mpr c3
  have aR : (s0_2 != 0) = false := bn c3
  clear c3
  by_cases c4 : (wrap64 ((s0_0.length : Int) - s0_1)) < a1
  ·rw [if_pos c4] at H
   replace c4 := d1 c4
   replace H := bm H
   obtain ⟨⟨aT, aU⟩, ad, H⟩ := H
   replace H : (some (0, aT, aU)) = some (r1, r2, r3) := H
   have A5 := am ad
   clear ad
   simp only [Option.some.injEq, Prod.mk.injEq] at H
   obtain ⟨rfl, rfl, rfl⟩ := H
   obtain ⟨ASz6_0, cSz6_0, HGz6, hgz6, HSz6_0⟩ := aE.o
   have a9 := qCn HGz6
   have aa := qCe HGz6
   have ab := qB4 HGz6
   clear HGz6 hgz6
   go_enter Tryz.func133, Tryz.ntmps133
   go_wp2_with (fail)
   repeat (go_quiet (fail); try go_wp2_with (go_at_call 134; (with_reducible refine (qAl.calls g s0_0 s0_1 s0_2 40 aT aU w0 _ ?side1 ?side2 A5.o).mono ?_); (case side1 => repeat (with_reducible first | exact aE.o | apply qAv.drewN)); (case side2 => repeat (with_reducible first | exact HB.o | apply qAw)); rintro e w7 ⟨rfl, hi, hb, hk⟩; have n_ := a2 (qAg.trans (by repeat (with_reducible first | exact HK.o | apply qBK)) hk (.inl rfl)) (a2 (hb) (am (hi))); clear HK HB aE; obtain ⟨HK, HB, aE⟩ := n_))
   go_ret
   exact ⟨by rfl, by exact aE.o, by exact HB.o, by exact HK.o⟩
  ·rw [if_neg c4] at H
   replace c4 := d0 c4
   have H' := am H
   clear H
   obtain ⟨ASz8_0, cSz8_0, HGz8, hgz8, HSz8_0⟩ := aE.o
   have aK := qCn HGz8
   have aL := qCe HGz8
   have aM := qB4 HGz8
   have aN := qAb HGz8 1
   have aO := qAb HGz8 2
   clear HGz8 hgz8
   go_enter Tryz.func133, Tryz.ntmps133
   go_wp2
   repeat (go_quiet (fail); try go_wp2)
   go_loopg [5, 6] k (fun kq v5 v6 w' => ∃ (aH : Int) (aB : Int), v5 = .int .u64 aH ∧ v6 = .int .i64 aB ∧ qAe (qAr.l0 kq a1 aH aB s0_0 s0_1 s0_2 = some (r1, r2, r3)) ∧ qAe (kq ≤ k) ∧ qAe (qAv w0 w' g s0_0 s0_1 s0_2) ∧ qAe (qAg w w' g none) ∧ qAe (Below w0.heap.size w0 w'))
   case atStart => exact ⟨(0), (0), (by rfl), (by rfl), H', ⟨Nat.le_refl _⟩, ⟨by repeat (with_reducible first | exact aE.o | apply qAv.drewN)⟩, ⟨by repeat (with_reducible first | exact HK.o | apply qBK)⟩, ⟨by repeat (with_reducible first | exact HB.o | apply qAw)⟩⟩
   case round =>
    clear H'
    obtain ⟨aH, aB, rfl, rfl, HA, ae, aE, HK, HB⟩ := hrel
    cases gk with
    | zero => exact absurd HA.o (by simp [qAr.l0])
    | succ k1 =>
     have H := HA.o
     clear HA
     simp only [qAr.l0] at H
     by_cases c9 : aB < a1
     rotate_left
     ·rw [if_neg c9] at H
      replace c9 := d0 c9
      simp only [Option.some.injEq, Prod.mk.injEq] at H
      obtain ⟨rfl, rfl, rfl⟩ := H
      obtain ⟨ASz14_0, cSz14_0, HGz14, hgz14, HSz14_0⟩ := aE.o
      have aZ := qCe HGz14
      have a5 := qAb HGz14 1
      clear HGz14 hgz14
      go_wp2
      repeat (go_quiet (fail))
      go_ret
      exact ⟨by rfl, by repeat (with_reducible first | exact aE.o | apply qAv.set_1), by repeat (with_reducible first | exact HB.o | refine qAs ?_ (qAv.ge aE.o)), by repeat (with_reducible first | exact HK.o | apply qAg.set_)⟩
     rw [if_pos c9] at H
     replace c9 := d1 c9
     obtain ⟨aA, aI⟩ : ∃ j_ : Int, (wrap64 (s0_1 + aB)) = j_ := ⟨_, rfl⟩
     replace H : (if 0 ≤ (aA) then (if (aA) < (s0_0.length : Int) then (qAr.l0 k1 a1 (Go.bits .or .u64 (IntKind.u64.wrap (aH * 256)) (IntKind.u64.wrap (rd s0_0 (aA)))) (wrap64 (aB + 1)) s0_0 s0_1 s0_2) else (none)) else (none)) = some (r1, r2, r3) := by (rw [aI] at H; exact H)
     have ac : (IntKind.i64.wrap (s0_1 + aB)) = aA := (i64_w _).trans aI
     obtain ⟨aV, H⟩ := gd H
     replace aV := d1 aV
     obtain ⟨aW, H⟩ := gd H
     replace aW := d1 aW
     have H' := am H
     clear H
     obtain ⟨ASz13_0, cSz13_0, HGz13, hgz13, HSz13_0⟩ := aE.o
     have aX := qCn HGz13
     have aY := qCe HGz13
     clear HGz13 hgz13
     have aP : 0 ≤ aA := od (by assumption)
     have aQ : (aA) < (s0_0.length : Int) := od (by assumption)
     obtain ⟨af, a8, aF⟩ := Kd.at_int HSz13_0 (aA) aP aQ
     cases a8
     replace aF := qEp HB.o aF
     replace aP := eq_true aP
     replace aQ := eq_true aQ
     go_wp2
     repeat (go_quiet (fail); try go_wp2)
     go_roundg k1
     case measure => have := ae.o; omega
     case rel => exact ⟨(Go.bits .or .u64 (IntKind.u64.wrap (aH * 256)) (IntKind.u64.wrap (rd s0_0 (aA)))), (wrap64 (aB + 1)), (by rfl), (by rfl), H', ⟨by have := ae.o; omega⟩, ⟨by repeat (with_reducible first | exact aE.o | apply qAv.drewN)⟩, ⟨by repeat (with_reducible first | exact HK.o | apply qBK)⟩, ⟨by repeat (with_reducible first | exact HB.o | apply qAw)⟩⟩
 ·rw [if_neg c3] at H
  have aR : (s0_2 != 0) = true := bne_iff_ne.mpr c3
  simp only [Option.some.injEq, Prod.mk.injEq] at H
  obtain ⟨rfl, rfl, rfl⟩ := H
  obtain ⟨ASz15_0, cSz15_0, HGz15, hgz15, HSz15_0⟩ := aE.o
  have a4 := qB4 HGz15
  clear HGz15 hgz15
  go_enter Tryz.func133, Tryz.ntmps133
  go_wp2
  repeat (go_quiet (fail))
  go_ret
  exact ⟨by rfl, by exact aE.o, by exact HB.o, by exact HK.o⟩
def qA1.f (k : Nat) (s0_0 : List Int) (s0_1 : Int) (s0_2 : Int) : Option (Int × Int × Int) := (qAr.f k s0_0 s0_1 s0_2 4).bind fun aA => (if aA.1 > 2147483647 then ((qAl.f s0_0 aA.2.1 aA.2.2 42).bind fun aB => (some (0, aB.1, aB.2))) else (some (wrap64 (aA.1), aA.2.1, aA.2.2)))
theorem qA1.calls (k : Nat) (g : Nat) (s0_0 : List Int) (s0_1 : Int) (s0_2 : Int) (r1 : Int) (r2 : Int) (r3 : Int) (w0 w : World) (hI : qAv w0 w g s0_0 s0_1 s0_2) (hB : Below w0.heap.size w0 w) (h : qA1.f k s0_0 s0_1 s0_2 = some (r1, r2, r3)) :
  Calls Tryz.prog 68 #[.pointer (some ⟨g, 0, none⟩)] w fun e w' => e = .returned (.int .i64 r1) ∧ qAv w0 w' g s0_0 r2 r3 ∧ Below w0.heap.size w0 w' ∧ qAg w w' g none := by
 have aD := am hI
 have HK := am (qAg.refl w g none)
 clear hI
 have HB := am hB
 clear hB
 have H : ((qAr.f k s0_0 s0_1 s0_2 4).bind fun aA => (if aA.1 > 2147483647 then ((qAl.f s0_0 aA.2.1 aA.2.2 42).bind fun aB => (some (0, aB.1, aB.2))) else (some (wrap64 (aA.1), aA.2.1, aA.2.2)))) = some (r1, r2, r3) := h
 clear h
 replace H := bm H
 obtain ⟨⟨aC, aE, aF⟩, aJ, H⟩ := H
 replace H : (if aC > 2147483647 then ((qAl.f s0_0 aE aF 42).bind fun aB => (some (0, aB.1, aB.2))) else (some (wrap64 (aC), aE, aF))) = some (r1, r2, r3) := H
 have A2 := am aJ
 clear aJ
 by_cases c3 : aC > 2147483647
 ·rw [if_pos c3] at H
  replace c3 := d1 c3
  replace H := bm H
  obtain ⟨⟨aG, aH⟩, aK, H⟩ := H
  replace H : (some (0, aG, aH)) = some (r1, r2, r3) := H
  have A4 := am aK
  clear aK
  simp only [Option.some.injEq, Prod.mk.injEq] at H
  obtain ⟨rfl, rfl, rfl⟩ := H
  go_enter Tryz.func68, Tryz.ntmps68
  go_wp2_with (first | ((with_reducible refine qAk (f := 133) rfl ?_); refine gL 5 Tryz.func133 #[.pointer (some ⟨g, 0, none⟩), .int .i64 4] ?_; (with_reducible refine (qAr.calls k g s0_0 s0_1 s0_2 4 aC aE aF w0 _ ?side1 ?side2 A2.o).mono ?_); (case side1 => exact aD.o); (case side2 => exact HB.o); rintro e w5 ⟨rfl, hi, hb, hk⟩; refine ⟨_, rfl, ?_⟩; have n_ := a2 (qAg.trans HK.o hk (.inl rfl)) (a2 (hb) (am (hi))); clear HK HB aD; obtain ⟨HK, HB, aD⟩ := n_) | ((with_reducible refine qAk (f := 134) rfl ?_); refine gL 9 Tryz.func134 #[.pointer (some ⟨g, 0, none⟩), .int .i64 42] ?_; (with_reducible refine (qAl.calls g s0_0 aE aF 42 aG aH w0 _ ?side1 ?side2 A4.o).mono ?_); (case side1 => exact aD.o); (case side2 => exact HB.o); rintro e w6 ⟨rfl, hi, hb, hk⟩; refine ⟨_, rfl, ?_⟩; have n_ := a2 (qAg.trans HK.o hk (.inl rfl)) (a2 (hb) (am (hi))); clear HK HB aD; obtain ⟨HK, HB, aD⟩ := n_))
  go_ret
  exact ⟨by rfl, by exact aD.o, by exact HB.o, by exact HK.o⟩
 ·rw [if_neg c3] at H
  replace c3 := d0 c3
  simp only [Option.some.injEq, Prod.mk.injEq] at H
  obtain ⟨rfl, rfl, rfl⟩ := H
  go_enter Tryz.func68, Tryz.ntmps68
  go_wp2_with ((with_reducible refine qAk (f := 133) rfl ?_); refine gL 5 Tryz.func133 #[.pointer (some ⟨g, 0, none⟩), .int .i64 4] ?_; (with_reducible refine (qAr.calls k g s0_0 s0_1 s0_2 4 aC aE aF w0 _ ?side1 ?side2 A2.o).mono ?_); (case side1 => exact aD.o); (case side2 => exact HB.o); rintro e w7 ⟨rfl, hi, hb, hk⟩; refine ⟨_, rfl, ?_⟩; have n_ := a2 (qAg.trans HK.o hk (.inl rfl)) (a2 (hb) (am (hi))); clear HK HB aD; obtain ⟨HK, HB, aD⟩ := n_)
  go_ret
  exact ⟨by rfl, by exact aD.o, by exact HB.o, by exact HK.o⟩
def qAJ.f (k : Nat) (s0_0 : List Int) (s0_1 : Int) (s0_2 : Int) (a1 : Int) : Option (Int × Int × Int) := (qA1.f k s0_0 s0_1 s0_2).bind fun aA => (if aA.1 > a1 then (if aA.1 > 0 then ((qAl.f s0_0 aA.2.1 aA.2.2 3).bind fun aC => (some (0, aC.1, aC.2))) else (some (aA.1, aA.2.1, aA.2.2))) else (some (aA.1, aA.2.1, aA.2.2)))
theorem qAJ.calls (k : Nat) (g : Nat) (s0_0 : List Int) (s0_1 : Int) (s0_2 : Int) (a1 : Int) (r1 : Int) (r2 : Int) (r3 : Int) (w0 w : World) (hI : qAv w0 w g s0_0 s0_1 s0_2) (hB : Below w0.heap.size w0 w) (h : qAJ.f k s0_0 s0_1 s0_2 a1 = some (r1, r2, r3)) :
  Calls Tryz.prog 157 #[.pointer (some ⟨g, 0, none⟩), .int .i64 a1] w fun e w' => e = .returned (.int .i64 r1) ∧ qAv w0 w' g s0_0 r2 r3 ∧ Below w0.heap.size w0 w' ∧ qAg w w' g none := by
 have aD := am hI
 have HK := am (qAg.refl w g none)
 clear hI
 have HB := am hB
 clear hB
 have H : ((qA1.f k s0_0 s0_1 s0_2).bind fun aA => (if aA.1 > a1 then (if aA.1 > 0 then ((qAl.f s0_0 aA.2.1 aA.2.2 3).bind fun aC => (some (0, aC.1, aC.2))) else (some (aA.1, aA.2.1, aA.2.2))) else (some (aA.1, aA.2.1, aA.2.2)))) = some (r1, r2, r3) := h
 clear h
 replace H := bm H
 obtain ⟨⟨aB, aE, aF⟩, aK, H⟩ := H
 replace H : (if aB > a1 then (if aB > 0 then ((qAl.f s0_0 aE aF 3).bind fun aC => (some (0, aC.1, aC.2))) else (some (aB, aE, aF))) else (some (aB, aE, aF))) = some (r1, r2, r3) := H
 have A3 := am aK
 clear aK
 by_cases c4 : aB > a1
 ·rw [if_pos c4] at H
  replace c4 := d1 c4
  by_cases c5 : aB > 0
  ·rw [if_pos c5] at H
   replace c5 := d1 c5
   replace H := bm H
   obtain ⟨⟨aG, aH⟩, aL, H⟩ := H
   replace H : (some (0, aG, aH)) = some (r1, r2, r3) := H
   have A6 := am aL
   clear aL
   simp only [Option.some.injEq, Prod.mk.injEq] at H
   obtain ⟨rfl, rfl, rfl⟩ := H
   go_enter Tryz.func157, Tryz.ntmps157
   go_wp2_with (first | ((with_reducible refine qAk (f := 68) rfl ?_); refine gL 7 Tryz.func68 #[.pointer (some ⟨g, 0, none⟩)] ?_; (with_reducible refine (qA1.calls k g s0_0 s0_1 s0_2 aB aE aF w0 _ ?side1 ?side2 A3.o).mono ?_); (case side1 => exact aD.o); (case side2 => exact HB.o); rintro e w7 ⟨rfl, hi, hb, hk⟩; refine ⟨_, rfl, ?_⟩; have n_ := a2 (qAg.trans HK.o hk (.inl rfl)) (a2 (hb) (am (hi))); clear HK HB aD; obtain ⟨HK, HB, aD⟩ := n_) | ((with_reducible refine qAk (f := 134) rfl ?_); refine gL 16 Tryz.func134 #[.pointer (some ⟨g, 0, none⟩), .int .i64 3] ?_; (with_reducible refine (qAl.calls g s0_0 aE aF 3 aG aH w0 _ ?side1 ?side2 A6.o).mono ?_); (case side1 => exact aD.o); (case side2 => exact HB.o); rintro e w8 ⟨rfl, hi, hb, hk⟩; refine ⟨_, rfl, ?_⟩; have n_ := a2 (qAg.trans HK.o hk (.inl rfl)) (a2 (hb) (am (hi))); clear HK HB aD; obtain ⟨HK, HB, aD⟩ := n_))
   go_ret
   exact ⟨by rfl, by exact aD.o, by exact HB.o, by exact HK.o⟩
  ·rw [if_neg c5] at H
   replace c5 := d0 c5
   simp only [Option.some.injEq, Prod.mk.injEq] at H
   obtain ⟨rfl, rfl, rfl⟩ := H
   go_enter Tryz.func157, Tryz.ntmps157
   go_wp2_with ((with_reducible refine qAk (f := 68) rfl ?_); refine gL 7 Tryz.func68 #[.pointer (some ⟨g, 0, none⟩)] ?_; (with_reducible refine (qA1.calls k g s0_0 s0_1 s0_2 aB aE aF w0 _ ?side1 ?side2 A3.o).mono ?_); (case side1 => exact aD.o); (case side2 => exact HB.o); rintro e w9 ⟨rfl, hi, hb, hk⟩; refine ⟨_, rfl, ?_⟩; have n_ := a2 (qAg.trans HK.o hk (.inl rfl)) (a2 (hb) (am (hi))); clear HK HB aD; obtain ⟨HK, HB, aD⟩ := n_)
   go_ret
   exact ⟨by rfl, by exact aD.o, by exact HB.o, by exact HK.o⟩
 ·rw [if_neg c4] at H
  replace c4 := d0 c4
  simp only [Option.some.injEq, Prod.mk.injEq] at H
  obtain ⟨rfl, rfl, rfl⟩ := H
  go_enter Tryz.func157, Tryz.ntmps157
  go_wp2_with ((with_reducible refine qAk (f := 68) rfl ?_); refine gL 7 Tryz.func68 #[.pointer (some ⟨g, 0, none⟩)] ?_; (with_reducible refine (qA1.calls k g s0_0 s0_1 s0_2 aB aE aF w0 _ ?side1 ?side2 A3.o).mono ?_); (case side1 => exact aD.o); (case side2 => exact HB.o); rintro e aM ⟨rfl, hi, hb, hk⟩; refine ⟨_, rfl, ?_⟩; have n_ := a2 (qAg.trans HK.o hk (.inl rfl)) (a2 (hb) (am (hi))); clear HK HB aD; obtain ⟨HK, HB, aD⟩ := n_)
  go_ret
  exact ⟨by rfl, by exact aD.o, by exact HB.o, by exact HK.o⟩
end Q
end
section
namespace Q
open Go.RowKit PA PC PB
def qAF.f (k : Nat) (s0_0 : List Int) (s0_1 : Int) (s0_2 : Int) (a1 : Int) : Option (List Int × Int × Int) :=
 (qAJ.f k s0_0 s0_1 s0_2 a1).bind fun b =>
  if b.2.2 ≠ 0 then some ([], b.2.1, b.2.2)
  else if 0 ≤ b.2.1 ∧ b.2.1 ≤ s0_0.length ∧ 0 ≤ b.1 ∧ b.1 ≤ 2147483647 then
   (if s0_0.length - b.2.1 < b.1 then some ([], b.2.1, 40) else some ((s0_0.drop b.2.1.toNat).take b.1.toNat, b.2.1 + b.1, 0))
  else none
theorem raw03_stuck (k : Nat) (g : Nat) (s0_0 : List Int) (s0_1 : Int) (s0_2 : Int) (a1 n p e : Int) (w0 w : World) (hI : qAv w0 w g s0_0 s0_1 s0_2) (hB : Below w0.heap.size w0 w) (h : qAJ.f k s0_0 s0_1 s0_2 a1 = some (n, p, e)) (he : e ≠ 0) :
  Calls Tryz.prog 132 #[.pointer (some ⟨g, 0, none⟩), .int .i64 a1] w fun e' w' => e' = .returned (.slice none 0 0) ∧ qAv w0 w' g s0_0 p e ∧ Below w0.heap.size w0 w' ∧ qAg w w' g none := by
 have HM := am (qAJ.calls k g s0_0 s0_1 s0_2 a1 n p e w0 w hI hB h)
 have he' : (e != 0) = true := bne_iff_ne.mpr he
 clear hI hB h he
 go_enter Tryz.func132, Tryz.ntmps132
 go_wp2_with (go_at_call 157; refine HM.out.mono ?_; rintro e' w1 ⟨rfl, hi, hb, hk⟩; have HI := am hi; have HB := am hb; have HK := am hk; obtain ⟨A0, c0, hg, _, _⟩ := hi; have g2 := qB4 hg; clear hb hk hg)
 go_ret
 exact ⟨rfl, HI.out, HB.out, HK.out⟩
theorem raw03_ends (k : Nat) (g : Nat) (s0_0 : List Int) (s0_1 : Int) (s0_2 : Int) (a1 n p : Int) (w0 w : World) (hI : qAv w0 w g s0_0 s0_1 s0_2) (hB : Below w0.heap.size w0 w) (h : qAJ.f k s0_0 s0_1 s0_2 a1 = some (n, p, 0)) (hp : 0 ≤ p) (hp2 : p ≤ s0_0.length) (hlt : s0_0.length - p < n) :
  Calls Tryz.prog 132 #[.pointer (some ⟨g, 0, none⟩), .int .i64 a1] w fun e' w' => e' = .returned (.slice none 0 0) ∧ qAv w0 w' g s0_0 p 40 ∧ Below w0.heap.size w0 w' ∧ qAg w w' g none := by
 have HM := am (qAJ.calls k g s0_0 s0_1 s0_2 a1 n p 0 w0 w hI hB h)
 obtain ⟨_, _, _, _, hlen⟩ := hI
 have hl := hlen.2.1
 obtain ⟨m, hm⟩ : ∃ m, m = s0_0.length := ⟨_, rfl⟩
 rw [← hm] at hl hp2 hlt
 have HMM := am hm
 clear hB h hlen hm
 go_enter Tryz.func132, Tryz.ntmps132
 go_wp2_with (go_at_call 157; refine HM.out.mono ?_; rintro e' w1 ⟨rfl, hi, hb, hk⟩; have HI := am hi; have HB := am hb; have HK := am hk; obtain ⟨A0, c0, hg, _, _⟩ := hi; have g0 := qCn hg; have g1 := qCe hg; have g2 := qB4 hg; rw [← HMM.out] at g0; clear hb hk hg)
 go_quiet (fail)
 go_wp2_with (go_at_call 134; refine (qAl.calls g s0_0 p 0 40 p 40 w0 _ (HI.out.drewN nq) (qAw HB.out nq) rfl).mono ?_; rintro e' w2 ⟨rfl, hi, hb, hk⟩; have HI2 := am hi; have HB2 := am hb; have HK2 := am (qAg.trans (qBK HK.out nq) hk (.inl rfl)); clear hi hb hk)
 go_ret
 exact ⟨rfl, HI2.out, HB2.out, HK2.out⟩
theorem qCH {P : Program} {w : World} {ops : Array Oper} {o : Oper} {a : Act} {K : Act → World → Prop} {Q : Exit → Act → World → Prop} {E : Prop} (hgd : o.guard = none) (s x : Operand) (t : TypeId)
  (ho : o.op = .call { callee := .builtin .append, args := #[s, x], argTypes := #[t, t] })
  (base : Nat) (e : TypeId) (i : TypeInfo) (size : Nat) (ht : P.underlying t = some (.slice e)) (hi : P.info? e = some i)
  (v : Value) (n : Nat) (xs : List Value) (hs : a.eval s = v) (hown : w.ownsRow base e size v n xs) (A : Option Addr) (c : Nat) (hx : a.eval x = .slice A 0 c)
  (h : K (a.put o.dst v) w) :
  if Region.wanted o (yielded ops a.tmps) = true then Oper.wp P o a w K Q else E := by
 have hw : Region.wanted o (yielded ops a.tmps) = true := by simp [Region.wanted, hgd]
 rw [if_pos hw]
 have hrun := Base.run_append_zero (P := P) (w := w) base t o.type e i size ht hi v n xs hown A c
 unfold Oper.wp
 simp [execOp, ho, resolve, invoke, builtin, hs, hx, hrun, Result.andThen]
 exact h
theorem raw03_ok (k : Nat) (g : Nat) (s0_0 : List Int) (s0_1 : Int) (s0_2 : Int) (a1 p : Int) (n : Nat) (w0 w : World) (hI : qAv w0 w g s0_0 s0_1 s0_2) (hB : Below w0.heap.size w0 w) (h : qAJ.f k s0_0 s0_1 s0_2 a1 = some ((n : Int), p, 0)) (hp : 0 ≤ p) (hle : p + n ≤ s0_0.length) (hn : n ≤ 2147483647) (hn0 : 0 < n) :
  Calls Tryz.prog 132 #[.pointer (some ⟨g, 0, none⟩), .int .i64 a1] w fun e' w' => ∃ v, e' = .returned v ∧ Kd.R (Kd.int .u8) 5 w' w.heap.size (fun _ => True) v ((s0_0.drop p.toNat).take n) ∧ qAv w0 w' g s0_0 (p + n) 0 ∧ Below w0.heap.size w0 w' ∧ qAg w w' g none := by
 have HM := am (qAJ.calls k g s0_0 s0_1 s0_2 a1 n p 0 w0 w hI hB h)
 obtain ⟨_, _, _, _, hlen⟩ := hI
 have hl := hlen.2.1
 obtain ⟨m, hm⟩ : ∃ m, m = s0_0.length := ⟨_, rfl⟩
 obtain ⟨q, hq⟩ : ∃ q : Nat, p = (q : Int) := ⟨p.toNat, by omega⟩
 subst hq
 rw [← hm] at hl hle
 have hle' : q + n ≤ m := by omega
 have HMM := am hm
 clear hB h hlen hm hle hp
 go_enter Tryz.func132, Tryz.ntmps132
 go_wp2_with (go_at_call 157; refine HM.out.mono ?_; rintro e' w1 ⟨rfl, hi, hb, hk⟩; have HI := am hi; have HB := am hb; have HK := am hk; obtain ⟨A0, c0, hg, hgc, hC⟩ := hi; have hcm := hgc.2; rw [← HMM.out] at hcm; have HC := am hC; have g0 := qCn hg; have g1 := qCe hg; have g2 := qB4 hg; rw [← HMM.out] at g0; clear hb hk hg hC hgc)
 go_quiet (fail)
 go_wp2_with fail
 obtain ⟨i0, hi, hz0, hz1, hz2⟩ := info_parts info5
 have hlq : ((s0_0.take (q + n)).drop q).length = n := by rw [List.length_drop, List.length_take, ← HMM.out]; omega
 have hlx : (s0_0.take (q + n)).drop q = (s0_0.drop q).take n := by rw [List.drop_take, Nat.add_sub_cancel_left]
 obtain ⟨A', hcut, hA, hcc⟩ := qEI (P := Tryz.prog) (Value.int .u8) 0 38 5 .i64 .i64 Tryz.underlying38 hi hz1 A0 c0 s0_0 (q : Int) ((q : Int) + n) (by omega) (by omega) (by rw [← HMM.out]; omega) (by rw [← HMM.out]; omega)
 rw [show ((q : Int) + (n : Int)).toNat = q + n by omega, show ((q : Int)).toNat = q by omega, hlq, ← HMM.out] at hcut
 have hA2 := hA w0 (Kd.reads_of_C HC.out)
 rw [show ((q : Int) + (n : Int)).toNat = q + n by omega, show ((q : Int)).toNat = q by omega, hlq, hlx] at hA2
 obtain ⟨ad, rfl, hcell⟩ : ∃ ad, A' = some ad ∧ ∀ j u, (encs (Value.int .u8) ((s0_0.drop q).take n))[j]? = some u → w0.cell? (ad.add j) = some u := by
  obtain ⟨ad, had, hc⟩ := hA2.2.2 hn0
  refine ⟨ad, had, fun j u hu => ?_⟩
  have hj : j < n := by have := (List.getElem?_eq_some_iff.1 hu).1; rw [qC3, hA2.1] at this; exact this
  rw [hc j hj]
  have h3 := (List.getElem?_eq_some_iff.1 hu).2
  have hjl : j < ((s0_0.drop q).take n).length := by rw [hA2.1]; exact hj
  rw [← h3, List.getD_eq_getElem?_getD, List.getElem?_eq_getElem hjl]
  simp [encs]
 have HNW := am hcell
 clear hcell hA hA2 hcc hlq hlx
 have hxs : (encs (Value.int .u8) ((s0_0.drop q).take n)).length = n * 1 := by rw [qC3, List.length_take, List.length_drop, ← HMM.out]; omega
 have HXS := am hxs
 clear hxs
 have hs1 : IntKind.i64.wrap ((q : Int) + (n : Int)) = (q : Int) + n := by simp [IntKind.wrap, IntKind.bits, IntKind.signed]; omega
 have HB2 : qAe (Below w1.heap.size w1 (((w1.drewN nq).drew).alloc (.cells #[] 5))) := ⟨qAI (qAX (qAw (Below.refl _ _) nq)) _⟩
 have HOWN : qAe ((((w1.drewN nq).drew).alloc (.cells #[] 5)).ownsRow w1.heap.size 5 1 (.slice (some ⟨w1.heap.size, 0, none⟩) 0 0) 0 []) := ⟨World.ownsRow_made ((w1.drewN nq).drew) #[] 0 (Nat.le_refl _) (by unfold maxLen; omega) rfl⟩
 have HNW2 : qAe (∀ j u, (encs (Value.int .u8) ((s0_0.drop q).take n))[j]? = some u → (((w1.drewN nq).drew).alloc (.cells #[] 5)).cell? (ad.add j) = some u) := ⟨fun j u hu => by
   have h1 := HNW.out j u hu
   have h2 := (HB.out.cell (World.block_lt_of_cell? w0 _ h1)).trans h1
   exact (HB2.out.cell (World.block_lt_of_cell? w1 _ h2)).trans h2⟩
 have HONE : qAe (∀ u ∈ encs (Value.int .u8) ((s0_0.drop q).take n), u.oneCell' = true) := ⟨fun u hu => by obtain ⟨y, _, rfl⟩ := List.mem_map.1 hu; rfl⟩
 have HNE : qAe (some g ≠ (Value.slice (some ⟨w1.heap.size, 0, none⟩) 0 0).ownBlock) := ⟨by have := World.block_lt_of_cell? w1 _ g0; simp [Value.ownBlock]; simp at this; omega⟩
 go_region_held3 (fun W => W.cell? ⟨g, 0, none⟩ = some (.slice A0 m c0) ∧ W.cell? ⟨g, 1, none⟩ = some (.int .i64 (q : Int)))
  (first | go_keep | exact ⟨g0, g1⟩ | exact ⟨f0, f1⟩)
  (first
    | (refine step_append_lies _ rfl _ _ 38 rfl w1.heap.size 5 i0 (.int .u8 0) 1 1 Tryz.underlying38 hi hz0 hz1 hz2 rfl (by decide) _ _ _ (by first | rfl | simp [Act.eval]) HOWN.out ad n (c0 - q) (encs (Value.int .u8) ((s0_0.drop q).take n)) (by first | rfl | simp [Act.eval]) HXS.out HNW2.out HONE.out hn0 (by unfold maxLen; omega) (by omega) (by simp) _ rfl ?_; intro g3 cap3 w3 hown3 hgrow3 hgg3 hlt3;
       have f0 : w3.cell? ⟨g, 0, none⟩ = some (.slice A0 m c0) := hgrow3.cell ((HB2.out.cell (p := ⟨g, 0, none⟩) (World.block_lt_of_cell? w1 _ g0)).trans g0) HNE.out;
       have f1 : w3.cell? ⟨g, 1, none⟩ = some (.int .i64 (q : Int)) := hgrow3.cell ((HB2.out.cell (p := ⟨g, 1, none⟩) (World.block_lt_of_cell? w1 _ g1)).trans g1) HNE.out;
       have HR3 := am hown3; have HG3 := am hgrow3; clear hown3 hgrow3 hgg3))
 have hI3 := (((HI.out.drewN nq).drew).alloc (.cells #[] 5)).grown HG3.out HNE.out
 have HI3 := am hI3
 obtain ⟨A4, c4, hb4, _, _⟩ := hI3
 have z1 := qAb hb4 1
 have hR : Kd.R (Kd.int .u8) 5 w3 w1.heap.size (fun _ => True) (.slice (some ⟨g3, 0, none⟩) n cap3) ((s0_0.drop q).take n) := Kd.R_of_own (by
   have hl : ((s0_0.drop q).take n).length = n := by rw [List.length_take, List.length_drop, ← HMM.out]; omega
   rw [hl]; simpa using HR3.out) (fun _ _ => trivial)
 have HRR := am (Kd.R_set (Kd.R_lower hR HK.out.1) hb4 (by decide) 1 (.int .i64 ((q : Int) + n)))
 have HB5 := am (qAs (g := g) (j := 1) (v := .int .i64 ((q : Int) + n)) ((qAI (qAX (qAw HB.out nq)) (.cells #[] 5)).grown HG3.out (by simp; exact Nat.le_succ_of_le HB.out.size) (fun k hk => by simp [Value.ownBlock] at hk; subst hk; exact HB.out.size)) HI.out.ge)
 have HK5 := am (qAg.set_ (qAg.trans (qBB (qCu (qBK HK.out nq)) (.cells #[] 5)) (qAg.of_grown HG3.out g) (.inr ⟨w1.heap.size, rfl, HK.out.1⟩)) 1 (.int .i64 ((q : Int) + n)))
 clear hb4 hR hi hz0 hz1 hz2 hcut g0 g1 g2
 go_wp2
 go_ret
 exact ⟨_, rfl, HRR.out, HI3.out.set_1 _, HB5.out, HK5.out⟩
theorem raw03_zero (k : Nat) (g : Nat) (s0_0 : List Int) (s0_1 : Int) (s0_2 : Int) (a1 p : Int) (w0 w : World) (hI : qAv w0 w g s0_0 s0_1 s0_2) (hB : Below w0.heap.size w0 w) (h : qAJ.f k s0_0 s0_1 s0_2 a1 = some (0, p, 0)) (hp : 0 ≤ p) (hle : p ≤ s0_0.length) :
  Calls Tryz.prog 132 #[.pointer (some ⟨g, 0, none⟩), .int .i64 a1] w fun e' w' => ∃ v, e' = .returned v ∧ Kd.R (Kd.int .u8) 5 w' w.heap.size (fun _ => True) v [] ∧ qAv w0 w' g s0_0 p 0 ∧ Below w0.heap.size w0 w' ∧ qAg w w' g none := by
 have HM := am (qAJ.calls k g s0_0 s0_1 s0_2 a1 0 p 0 w0 w hI hB h)
 obtain ⟨_, _, _, _, hlen⟩ := hI
 have hl := hlen.2.1
 obtain ⟨m, hm⟩ : ∃ m, m = s0_0.length := ⟨_, rfl⟩
 obtain ⟨q, hq⟩ : ∃ q : Nat, p = (q : Int) := ⟨p.toNat, by omega⟩
 subst hq
 rw [← hm] at hl hle
 have hle' : q ≤ m := by omega
 have HMM := am hm
 clear hB h hlen hm hle hp
 go_enter Tryz.func132, Tryz.ntmps132
 go_wp2_with (go_at_call 157; refine HM.out.mono ?_; rintro e' w1 ⟨rfl, hi, hb, hk⟩; have HI := am hi; have HB := am hb; have HK := am hk; obtain ⟨A0, c0, hg, hgc, hC⟩ := hi; have hcm := hgc.2; rw [← HMM.out] at hcm; have g0 := qCn hg; have g1 := qCe hg; have g2 := qB4 hg; rw [← HMM.out] at g0; clear hb hk hg hC hgc)
 go_quiet (fail)
 go_wp2_with fail
 obtain ⟨i0, hi, hz0, hz1, hz2⟩ := info_parts info5
 obtain ⟨A', hcut, _, _⟩ := qEI (P := Tryz.prog) (Value.int .u8) 0 38 5 .i64 .i64 Tryz.underlying38 hi hz1 A0 c0 s0_0 (q : Int) (q : Int) (by omega) (by omega) (by rw [← HMM.out]; omega) (by rw [← HMM.out]; omega)
 have hlz : ((s0_0.take q).drop q).length = 0 := by rw [List.length_drop, List.length_take]; omega
 rw [show ((q : Int)).toNat = q by omega, hlz, ← HMM.out] at hcut
 clear hlz
 have hs1 : IntKind.i64.wrap ((q : Int) + 0) = (q : Int) := by simp [IntKind.wrap, IntKind.bits, IntKind.signed]; omega
 have hs2 : IntKind.i64.wrap (q : Int) = (q : Int) := by simp [IntKind.wrap, IntKind.bits, IntKind.signed]; omega
 have HOWN : qAe ((((w1.drewN nq).drew).alloc (.cells #[] 5)).ownsRow w1.heap.size 5 1 (.slice (some ⟨w1.heap.size, 0, none⟩) 0 0) 0 []) := ⟨World.ownsRow_made ((w1.drewN nq).drew) #[] 0 (Nat.le_refl _) (by unfold maxLen; omega) rfl⟩
 go_region_held3 (fun W => W.cell? ⟨g, 0, none⟩ = some (.slice A0 m c0) ∧ W.cell? ⟨g, 1, none⟩ = some (.int .i64 (q : Int)))
  (first | go_keep | exact ⟨g0, g1⟩ | exact ⟨f0, f1⟩)
  (first
    | (refine qCH rfl _ _ 38 rfl w1.heap.size 5 i0 1 Tryz.underlying38 hi _ _ _ (by first | rfl | simp [Act.eval]) HOWN.out A' (c0 - q) (by first | rfl | simp [Act.eval]) ?_))
 have hI3 := ((HI.out.drewN nq).drew).alloc (.cells #[] 5)
 have HI3 := am hI3
 obtain ⟨A4, c4, hb4, _, _⟩ := hI3
 have z1 := qAb hb4 1
 have z2 : (((w1.drewN (nq + 1))).alloc (.cells #[] 5)).frozen? ⟨g, 1, none⟩ = false := z1
 have hR : Kd.R (Kd.int .u8) 5 (((w1.drewN nq).drew).alloc (.cells #[] 5)) w1.heap.size (fun _ => True) (.slice (some ⟨w1.heap.size, 0, none⟩) 0 0) [] := Kd.R_of_own HOWN.out (fun _ _ => trivial)
 have HRR := am (Kd.R_set (Kd.R_lower hR HK.out.1) hb4 (by decide) 1 (.int .i64 (q : Int)))
 have HB5 := am (qAs (g := g) (j := 1) (v := .int .i64 (q : Int)) (qAI (qAX (qAw HB.out nq)) (.cells #[] 5)) HI.out.ge)
 have HK5 := am (qAg.set_ (qBB (qCu (qBK HK.out nq)) (.cells #[] 5)) 1 (.int .i64 (q : Int)))
 clear hb4 hR hi hz0 hz1 hz2 hcut g0 g1 g2
 go_wp2
 go_ret
 exact ⟨_, rfl, HRR.out, HI3.out.set_1 _, HB5.out, HK5.out⟩
theorem qAF.calls (k : Nat) (g : Nat) (s0_0 : List Int) (s0_1 : Int) (s0_2 : Int) (a1 : Int) (r1 : List Int) (r2 : Int) (r3 : Int) (w0 w : World) (hI : qAv w0 w g s0_0 s0_1 s0_2) (hB : Below w0.heap.size w0 w) (h : qAF.f k s0_0 s0_1 s0_2 a1 = some (r1, r2, r3)) :
  Calls Tryz.prog 132 #[.pointer (some ⟨g, 0, none⟩), .int .i64 a1] w fun e w' => ∃ v0_ : Value, e = .returned (v0_) ∧ Kd.R (Kd.int .u8) 5 w' w.heap.size (fun _ => True) v0_ r1 ∧ qAv w0 w' g s0_0 r2 r3 ∧ Below w0.heap.size w0 w' ∧ qAg w w' g none := by
 unfold qAF.f at h
 obtain ⟨⟨n, p, e⟩, hm, h⟩ := Option.bind_eq_some_iff.mp h
 dsimp only at h
 split at h
 ·rename_i he
  simp only [Option.some.injEq, Prod.mk.injEq] at h
  obtain ⟨rfl, rfl, rfl⟩ := h
  exact (raw03_stuck k g s0_0 s0_1 s0_2 a1 n _ _ w0 w hI hB hm he).mono fun e' w' ⟨h1, h2⟩ => ⟨_, h1, Kd.R_nil _ _ _ _ _, h2⟩
 ·rename_i he
  simp only [Decidable.not_not] at he
  subst he
  split at h
  case isFalse => cases h
  rename_i hc
  obtain ⟨h1, h2, h3, h4⟩ := hc
  split at h
  ·rename_i hlt
   simp only [Option.some.injEq, Prod.mk.injEq] at h
   obtain ⟨rfl, rfl, rfl⟩ := h
   exact (raw03_ends k g s0_0 s0_1 s0_2 a1 n _ w0 w hI hB hm h1 h2 hlt).mono fun e' w' ⟨h1, h2⟩ => ⟨_, h1, Kd.R_nil _ _ _ _ _, h2⟩
  ·rename_i hlt
   simp only [Option.some.injEq, Prod.mk.injEq] at h
   obtain ⟨rfl, rfl, rfl⟩ := h
   rcases Int.lt_or_le 0 n with hp | hp
   ·obtain ⟨m, rfl⟩ := Int.eq_ofNat_of_zero_le h3
    exact raw03_ok k g s0_0 s0_1 s0_2 a1 p m w0 w hI hB hm h1 (by omega) (by omega) (by omega)
   ·obtain rfl : n = 0 := by omega
    have := raw03_zero k g s0_0 s0_1 s0_2 a1 p w0 w hI hB hm h1 h2
    simpa using this
end Q
end
end Go.Proofs.YtfjpnjbinbhcfaaGreat
