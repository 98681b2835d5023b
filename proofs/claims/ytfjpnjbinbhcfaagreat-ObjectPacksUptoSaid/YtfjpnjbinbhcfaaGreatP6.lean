/- object.Pack and the document's Pack of any object, where what is read is of bulk at most 1048576: the same bytes and the same error. Part 6 of 8. -/
import Derived.Test.YtfjpnjbinbhcfaaGreatP5
import Derived.StillTailTactics
import Derived.Deep.RegionHeld3
import Derived.Test.YtfjpnjbinbhcfaaGreatRows
import Derived.ChangeArms
import Derived.ChangeSame
import Derived.Deep.Slices
set_option maxHeartbeats 8000000
set_option maxRecDepth 100000
set_option linter.unusedVariables false
set_option linter.unusedSimpArgs false
namespace Go.Proofs.YtfjpnjbinbhcfaaGreat
section
namespace Q
open Go.RowKit PA PC PB
attribute [local go_sem] qAX min2_int qBi min_two max_three min_three max_four min_four
mutual
def qAd.l0 : Nat → List ByteArray → Int → ByteArray → List (S95) → List (S100) → List (S103) → Option (Int)
 | 0, _, _, _, _, _, _ => none
 | k + 1, x4, x5, aU, aC, aI, aG => if x5 < (wrap64 ((aC.length : Int) + (aI.length : Int))) then (if x5 < (aC.length : Int) then (if 0 ≤ x5 then ((qBD.f ((qBq aC x5).f1.f0) ((qBq aC x5).f1.f1)).bind fun b4 => (qAd.j1 k x4 x5 ((qBq aC x5).f0) b4 aU aC aI aG)) else (none)) else (if 0 ≤ (wrap64 (x5 - (aC.length : Int))) then (if (wrap64 (x5 - (aC.length : Int))) < (aI.length : Int) then ((qAc.f k ((qAz aI (wrap64 (x5 - (aC.length : Int)))).f1.f0.f0) ((qAz aI (wrap64 (x5 - (aC.length : Int)))).f1.f0.f1) ((qAz aI (wrap64 (x5 - (aC.length : Int)))).f1.f1) ((qAz aI (wrap64 (x5 - (aC.length : Int)))).f1.f2)).bind fun bN => (qAd.j1 k x4 x5 ((qAz aI (wrap64 (x5 - (aC.length : Int)))).f0) bN aU aC aI aG)) else (none)) else (none))) else ((qAp.f k aU aC aI aG).bind fun ce => (if ce = true then (qAd.l1 k 0 aU aC aI aG) else (some 52)))
def qAd.j1 : Nat → List ByteArray → Int → ByteArray → Bool → ByteArray → List (S95) → List (S100) → List (S103) → Option (Int)
 | 0, _, _, _, _, _, _, _, _ => none
 | k + 1, x4, x5, x6, x7, aU, aC, aI, aG => (qAG.f x6).bind fun aq => (if aq = 0 then ((qB4.f k x4 x6).bind fun bZ => (if bZ = true then (some 20) else (if x7 = true then (if x4.length < 8796093022208 then (qAd.l0 k (x4 ++ [x6]) (wrap64 (x5 + 1)) aU aC aI aG) else (none)) else (some 52)))) else (some aq))
def qAd.l1 : Nat → Int → ByteArray → List (S95) → List (S100) → List (S103) → Option (Int)
 | 0, _, _, _, _, _ => none
 | k + 1, x8, aU, aC, aI, aG => if x8 < (aG.length : Int) then (if 0 ≤ x8 then ((qAG.f ((qAj aG x8).f3)).bind fun ar => (if ar = 0 then ((qAG.f ((qAj aG x8).f4)).bind fun ao => (if ao = 0 then (qAd.l1 k (wrap64 (x8 + 1)) aU aC aI aG) else (some ao))) else (some ar))) else (none)) else (qAd.l2 k 0 aU aC aI aG)
def qAd.l2 : Nat → Int → ByteArray → List (S95) → List (S100) → List (S103) → Option (Int)
 | 0, _, _, _, _, _ => none
 | k + 1, b5, aU, aC, aI, aG => if b5 < (aG.length : Int) then (if 0 ≤ b5 then (if ((qAj aG b5).f3).toList = aU.toList then ((qA0.f k aU aC aI aG ((qAj aG b5).f0) ((qAj aG b5).f1) ((qAj aG b5).f2) ((qAj aG b5).f3) ((qAj aG b5).f4)).bind fun cf => (if cf = true then (qAd.l2 k (wrap64 (b5 + 1)) aU aC aI aG) else (some 52))) else (if ((qAj aG b5).f2) = 1 then (some 52) else (qAd.l2 k (wrap64 (b5 + 1)) aU aC aI aG))) else (none)) else (some 0)
end
def qAd.f (k : Nat) (a0_0 : ByteArray) (l0_1 : List (S95)) (l0_2 : List (S100)) (l0_3 : List (S103)) : Option (Int) := (qAG.f a0_0).bind fun an => (if an = 0 then (if (wrap64 ((l0_1.length : Int) + (l0_2.length : Int))) > 64 then (some 3) else (qAd.l0 k ([] : List ByteArray) 0 a0_0 l0_1 l0_2 l0_3)) else (some an))
theorem qAd.calls (k : Nat) (a0_0 : ByteArray) (af : Option Addr) (ah : Nat) (l0_1 : List (S95)) (ag : Option Addr) (ai : Nat) (l0_2 : List (S100)) (ap : Option Addr) (aj : Nat) (l0_3 : List (S103)) (r : Int) (w : World) (hr0_1 : Kd.C k95 w af l0_1.length l0_1) (hc0_1 : l0_1.length ≤ ah) (hr0_2 : Kd.C k100 w ag l0_2.length l0_2) (hc0_2 : l0_2.length ≤ ai) (hr0_3 : Kd.C k103 w ap l0_3.length l0_3) (hc0_3 : l0_3.length ≤ aj) (h : qAd.f k a0_0 l0_1 l0_2 l0_3 = some r) :
  Calls Tryz.prog 11 #[.agg #[.string a0_0, .slice af l0_1.length ah, .slice ag l0_2.length ai, .slice ap l0_3.length aj]] w fun e w' => e = .returned (.int .i64 r) ∧ Below w.heap.size w w' := by
 have bE := am hr0_1
 have bO := am hc0_1
 clear hr0_1 hc0_1
 have bF := am hr0_2
 have bP := am hc0_2
 clear hr0_2 hc0_2
 have ac := am hr0_3
 have bQ := am hc0_3
 clear hr0_3 hc0_3
 have HB := am (Below.refl w.heap.size w)
 have H : ((qAG.f a0_0).bind fun an => (if an = 0 then (if (wrap64 ((l0_1.length : Int) + (l0_2.length : Int))) > 64 then (some 3) else (qAd.l0 k ([] : List ByteArray) 0 a0_0 l0_1 l0_2 l0_3)) else (some an))) = some r := h
 clear h
 replace H := bm H
 obtain ⟨an, gF, H⟩ := H
 replace H : (if an = 0 then (if (wrap64 ((l0_1.length : Int) + (l0_2.length : Int))) > 64 then (some 3) else (qAd.l0 k ([] : List ByteArray) 0 a0_0 l0_1 l0_2 l0_3)) else (some an)) = some r := H
 have A2 := am gF
 clear gF
 by_cases c3 : an = 0
 ·rw [if_pos c3] at H
  have fk : (an == 0) = true := beq_iff_eq.mpr c3
  have dU : (an != 0) = false := bn c3
  clear c3
  by_cases c4 : (wrap64 ((l0_1.length : Int) + (l0_2.length : Int))) > 64
  ·rw [if_pos c4] at H
   replace c4 := d1 c4
   obtain rfl := Option.some.inj H
   go_enter Tryz.func11, Tryz.ntmps11
   go_wp2_with (first | ((with_reducible refine qAK (N := 1) rfl ?_); refine bx 1 #[.string a0_0, .slice af l0_1.length ah, .slice ag l0_2.length ai, .slice ap l0_3.length aj] 26 ?_; intro a9 hg w5 hbox hb; have n_ := a2 (qAe HB.o hb) (am (hbox)); clear HB; obtain ⟨HB, aA⟩ := n_; clear hb hbox hg; have fu := c1_ w5 aA.o; have fx := qAx aA.o 3) | ((with_reducible refine qAi (f := 36) rfl ?_); refine gL 14 Tryz.func36 #[.string a0_0] ?_; (with_reducible refine (qAG.calls a0_0 an _ A2.o).mono ?_); rintro e w7 ⟨rfl, hb⟩; refine ⟨_, rfl, ?_⟩; have n_ := a2 (qAk aA.o hb) (am (qAe HB.o hb)); clear aA HB; obtain ⟨aA, HB⟩ := n_; obtain ⟨-, fv, fw⟩ := c3_ w7 aA.o; have fy := qAx aA.o 3))
   go_ret
   exact ⟨by rfl, by exact HB.o⟩
  ·rw [if_neg c4] at H
   replace c4 := d0 c4
   have H' := am H
   clear H
   go_enter Tryz.func11, Tryz.ntmps11
   go_wp2_with (first | ((with_reducible refine qAK (N := 1) rfl ?_); refine bx 1 #[.string a0_0, .slice af l0_1.length ah, .slice ag l0_2.length ai, .slice ap l0_3.length aj] 26 ?_; intro a9 hg w9 hbox hb; have n_ := a2 (qAe HB.o hb) (am (hbox)); clear HB; obtain ⟨HB, aA⟩ := n_; clear hb hbox hg; obtain ⟨bd, bg, bh, bi⟩ := c4_ w9 aA.o; obtain ⟨cF, cG, cH, cI⟩ := z4_ aA.o) | ((with_reducible refine qAi (f := 36) rfl ?_); refine gL 14 Tryz.func36 #[.string a0_0] ?_; (with_reducible refine (qAG.calls a0_0 an _ A2.o).mono ?_); rintro e g6 ⟨rfl, hb⟩; refine ⟨_, rfl, ?_⟩; have n_ := a2 (qAk aA.o hb) (am (qAe HB.o hb)); clear aA HB; obtain ⟨aA, HB⟩ := n_; obtain ⟨bj, bk, bl, bo⟩ := c4_ g6 aA.o; obtain ⟨cJ, cK, cL, cM⟩ := z4_ aA.o))
   go_loopg [4, 5] k (fun kq v4 v5 w' => ∃ (a8 : List ByteArray) (aV : Int), v5 = .int .i64 aV ∧ qAa (qAd.l0 kq a8 aV a0_0 l0_1 l0_2 l0_3 = some r) ∧ qAa (kq ≤ k) ∧ qAa (Kd.R Kd.string 9 w' w.heap.size (fun _ => True) v4 a8) ∧ qAa (w'.heap[a9]? = some (.cells #[.string a0_0, (.slice af l0_1.length ah), (.slice ag l0_2.length ai), (.slice ap l0_3.length aj)] 26 (0, 0))) ∧ qAa (Below w.heap.size w w'))
   case atStart => exact ⟨([] : List ByteArray), (0), (by rfl), H', ⟨Nat.le_refl _⟩, ⟨by (exact Kd.R_nil _ _ _ _ _)⟩, ⟨by exact aA.o⟩, ⟨by exact HB.o⟩⟩
   case round =>
    clear H'
    obtain ⟨a8, aV, rfl, HA, b6, aW, aA, HB⟩ := hrel
    cases gk with
    | zero => exact absurd HA.o (by simp [qAd.l0])
    | succ k1 =>
     have H := HA.o
     clear HA
     simp only [qAd.l0] at H
     by_cases cv : aV < (wrap64 ((l0_1.length : Int) + (l0_2.length : Int)))
     ·rw [if_pos cv] at H
      replace cv := d1 cv
      have cl := am H
      clear H
      obtain ⟨bp, bq, br, bs⟩ := c4_ wr aA.o
      obtain ⟨cN, cO, cP, cQ⟩ := z4_ aA.o
      go_upto_if 41 with (fail)
      go_cut [6, 7] (fun v6 v7 wc => ∃ (kq : Nat) (aT : ByteArray) (bC : Bool), v6 = .string aT ∧ v7 = .bool bC ∧ qAa (qAd.j1 kq a8 aV aT bC a0_0 l0_1 l0_2 l0_3 = some r) ∧ qAa (kq ≤ k1) ∧ qAa (Kd.R Kd.string 9 wc w.heap.size (fun _ => True) u4 a8) ∧ qAa (wc.heap[a9]? = some (.cells #[.string a0_0, (.slice af l0_1.length ah), (.slice ag l0_2.length ai), (.slice ap l0_3.length aj)] 26 (0, 0))) ∧ qAa (Below w.heap.size w wc))
      case first =>
       have H := cl.o
       clear cl
       by_cases cw : aV < (l0_1.length : Int)
       ·rw [if_pos cw] at H
        replace cw := d1 cw
        (rw [cw])
        obtain ⟨df, H⟩ := gd H
        replace df := d1 df
        replace H := bm H
        obtain ⟨b4, dB, H⟩ := H
        replace H : (qAd.j1 k1 a8 aV ((qBq l0_1 aV).f0) b4 a0_0 l0_1 l0_2 l0_3) = some r := H
        have gZ := am dB
        clear dB
        have H' := am H
        clear H
        obtain ⟨-, dq⟩ := c2_ wr aA.o
        have cp : 0 ≤ aV := od (by assumption)
        have cr : aV < (l0_1.length : Int) := od (by assumption)
        obtain ⟨dO, fn, bG, bH, bI⟩ := qDN bE.o aV cp cr
        cases fn
        replace bG := (HB.o.cell (World.block_lt_of_cell? w _ bG)).trans bG
        replace bH := (HB.o.cell (World.block_lt_of_cell? w _ bH)).trans bH
        replace bI := (HB.o.cell (World.block_lt_of_cell? w _ bI)).trans bI
        replace cp := eq_true cp
        replace cr := eq_true cr
        have gA : 0 ≤ aV := od (by assumption)
        have gC : aV < (l0_1.length : Int) := od (by assumption)
        obtain ⟨dP, fo, f5, f6, f7⟩ := qDN bE.o aV gA gC
        obtain rfl : dO = dP := (by injection fo)
        go_wp2_with ((with_reducible refine qAi (f := 37) rfl ?_); refine gL 54 Tryz.func37 #[.agg #[.int .i64 ((qBq l0_1 aV).f1.f0), .int .u64 ((qBq l0_1 aV).f1.f1)]] ?_; (with_reducible refine (qBD.calls ((qBq l0_1 aV).f1.f0) ((qBq l0_1 aV).f1.f1) b4 _ gZ.o).mono ?_); rintro e gc ⟨rfl, hb⟩; refine ⟨_, rfl, ?_⟩; have n_ := a2 (Kd.R_below aW.o hb) (a2 (qAk aA.o hb) (am (qAe HB.o hb))); clear aW aA HB; obtain ⟨aW, aA, HB⟩ := n_; (skip))
        go_meet
        case rel => exact ⟨_, ((qBq l0_1 aV).f0), (b4), (by rfl), (by rfl), H', ⟨by have := b6.o; (omega)⟩, ⟨by exact aW.o⟩, ⟨by exact aA.o⟩, ⟨by exact HB.o⟩⟩
       rw [if_neg cw] at H
       replace cw := d0 cw
       (rw [cw])
       obtain ⟨a7, ch⟩ : ∃ j_ : Int, (wrap64 (aV - (l0_1.length : Int))) = j_ := ⟨_, rfl⟩
       replace H : (if 0 ≤ (a7) then (if (a7) < (l0_2.length : Int) then ((qAc.f k1 ((qAz l0_2 (a7)).f1.f0.f0) ((qAz l0_2 (a7)).f1.f0.f1) ((qAz l0_2 (a7)).f1.f1) ((qAz l0_2 (a7)).f1.f2)).bind fun bN => (qAd.j1 k1 a8 aV ((qAz l0_2 (a7)).f0) bN a0_0 l0_1 l0_2 l0_3)) else (none)) else (none)) = some r := by (rw [ch] at H; exact H)
       have fz : (IntKind.i64.wrap (aV - (l0_1.length : Int))) = a7 := (i64_w _).trans ch
       obtain ⟨dg, H⟩ := gd H
       replace dg := d1 dg
       obtain ⟨dh, H⟩ := gd H
       replace dh := d1 dh
       replace H := bm H
       obtain ⟨bN, dC, H⟩ := H
       replace H : (qAd.j1 k1 a8 aV ((qAz l0_2 (a7)).f0) bN a0_0 l0_1 l0_2 l0_3) = some r := H
       have g0 := am dC
       clear dC
       have H' := am H
       clear H
       obtain ⟨-, -, dr⟩ := c3_ wr aA.o
       have cq : 0 ≤ a7 := od (by assumption)
       have ct : (a7) < (l0_2.length : Int) := od (by assumption)
       obtain ⟨dQ, ci, cm, cj, cn, ck, co, fp, bJ, au, bK, av, aw, ca, cZ, cc, c0, cd, c1⟩ := qCV bF.o (a7) cq ct
       cases fp
       replace bJ := (HB.o.cell (World.block_lt_of_cell? w _ bJ)).trans bJ
       replace au := (HB.o.cell (World.block_lt_of_cell? w _ au)).trans au
       replace bK := (HB.o.cell (World.block_lt_of_cell? w _ bK)).trans bK
       replace av := (HB.o.cell (World.block_lt_of_cell? w _ av)).trans av
       replace aw := (HB.o.cell (World.block_lt_of_cell? w _ aw)).trans aw
       clear cZ ca c0 cc c1 cd
       replace cq := eq_true cq
       replace ct := eq_true ct
       have gB : 0 ≤ a7 := od (by assumption)
       have gD : (a7) < (l0_2.length : Int) := od (by assumption)
       obtain ⟨dR, fb, fh, fc, fi, fd, fj, fq, f8, ax, f9, ay, az, bW, bT, bX, bU, bY, bV⟩ := qCV bF.o (a7) gB gD
       obtain rfl : dQ = dR := (by injection fq)
       replace ax := (HB.o.cell (World.block_lt_of_cell? w _ ax)).trans ax
       replace ay := (HB.o.cell (World.block_lt_of_cell? w _ ay)).trans ay
       replace az := (HB.o.cell (World.block_lt_of_cell? w _ az)).trans az
       have ba := am bT
       have b7 := am bW
       clear bT bW
       have bb := am bU
       have b8 := am bX
       clear bU bX
       have bc := am bV
       have b9 := am bY
       clear bV bY
       have ea_ := Option.some.inj (au.symm.trans ax)
       injection ea_ with ea_ en_ ec_
       subst ea_
       subst ec_
       clear en_
       have ea_ := Option.some.inj (av.symm.trans ay)
       injection ea_ with ea_ en_ ec_
       subst ea_
       subst ec_
       clear en_
       have ea_ := Option.some.inj (aw.symm.trans az)
       injection ea_ with ea_ en_ ec_
       subst ea_
       subst ec_
       clear en_
       go_wp2_with ((with_reducible refine qAi (f := 38) rfl ?_); refine gL 75 Tryz.func38 #[.agg #[.slice ci ((qAz l0_2 (a7)).f1.f0.f0).length cm, .int .i64 ((qAz l0_2 (a7)).f1.f0.f1), .slice cj ((qAz l0_2 (a7)).f1.f1).length cn, .slice ck ((qAz l0_2 (a7)).f1.f2).length co]] ?_; (with_reducible refine (qAc.calls k1 _ _ ((qAz l0_2 (a7)).f1.f0.f0) ((qAz l0_2 (a7)).f1.f0.f1) _ _ ((qAz l0_2 (a7)).f1.f1) _ _ ((qAz l0_2 (a7)).f1.f2) bN _ ?side1 ?side2 ?side3 ?side4 ?side5 ?side6 g0.o).mono ?_); (case side1 => exact (Kd.C_below ba.o HB.o)); (case side2 => exact b7.o); (case side3 => exact (Kd.C_below bb.o HB.o)); (case side4 => exact b8.o); (case side5 => exact (Kd.C_below bc.o HB.o)); (case side6 => exact b9.o); rintro e gf ⟨rfl, hb⟩; refine ⟨_, rfl, ?_⟩; have n_ := a2 (Kd.R_below aW.o hb) (a2 (qAk aA.o hb) (am (qAe HB.o hb))); clear aW aA HB; obtain ⟨aW, aA, HB⟩ := n_; (skip))
       go_meet
       case rel => exact ⟨_, ((qAz l0_2 (a7)).f0), (bN), (by rfl), (by rfl), H', ⟨by have := b6.o; (omega)⟩, ⟨by exact aW.o⟩, ⟨by exact aA.o⟩, ⟨by exact HB.o⟩⟩
      case rest =>
       clear cl
       obtain ⟨kq, aT, bC, rfl, rfl, HA, dK, aW, aA, HB⟩ := hcut
       cases kq with
       | zero => exact absurd HA.o (by simp [qAd.j1])
       | succ bD =>
        have H := HA.o
        clear HA
        simp only [qAd.j1] at H
        replace H := bm H
        obtain ⟨aq, dD, H⟩ := H
        replace H : (if aq = 0 then ((qB4.f bD a8 aT).bind fun bZ => (if bZ = true then (some 20) else (if bC = true then (if a8.length < 8796093022208 then (qAd.l0 bD (a8 ++ [aT]) (wrap64 (aV + 1)) a0_0 l0_1 l0_2 l0_3) else (none)) else (some 52)))) else (some aq)) = some r := H
        have dd := am dD
        clear dD
        by_cases dS : aq = 0
        rotate_left
        ·rw [if_neg dS] at H
         have dT : (aq != 0) = true := bne_iff_ne.mpr dS
         obtain rfl := Option.some.inj H
         go_wp2_with ((with_reducible refine qAi (f := 36) rfl ?_); refine gL 77 Tryz.func36 #[.string aT] ?_; (with_reducible refine (qAG.calls aT aq _ dd.o).mono ?_); rintro e gl ⟨rfl, hb⟩; refine ⟨_, rfl, ?_⟩; have n_ := am (qAe HB.o hb); clear aW aA HB; have HB := n_; clear n_; (skip))
         go_ret
         exact ⟨by rfl, by exact HB.o⟩
        rw [if_pos dS] at H
        have dT : (aq != 0) = false := bn dS
        clear dS
        replace H := bm H
        obtain ⟨bZ, dE, H⟩ := H
        replace H : (if bZ = true then (some 20) else (if bC = true then (if a8.length < 8796093022208 then (qAd.l0 bD (a8 ++ [aT]) (wrap64 (aV + 1)) a0_0 l0_1 l0_2 l0_3) else (none)) else (some 52))) = some r := H
        have fa := am dE
        clear dE
        by_cases di : bZ = true
        ·subst di
         replace H : (some 20) = some r := by rw [if_pos rfl] at H; exact H
         obtain rfl := Option.some.inj H
         go_wp2_with (first | ((with_reducible refine qAi (f := 36) rfl ?_); refine gL 77 Tryz.func36 #[.string aT] ?_; (with_reducible refine (qAG.calls aT aq _ dd.o).mono ?_); rintro e gg ⟨rfl, hb⟩; refine ⟨_, rfl, ?_⟩; have n_ := a2 (Kd.R_below aW.o hb) (am (qAe HB.o hb)); clear aW aA HB; obtain ⟨aW, HB⟩ := n_; obtain ⟨ff, fl, fr⟩ := Kd.R_slice aW.o; subst fr) | ((with_reducible refine qAi (f := 39) rfl ?_); refine gL 85 Tryz.func39 #[.slice ff a8.length fl, .string aT] ?_; (with_reducible refine (qB4.calls bD _ _ a8 aT true _ ?side1 ?side2 fa.o).mono ?_); (case side1 => exact (Kd.R_reads' aW.o).2.2); (case side2 => exact (Kd.R_reads' aW.o).2.1); rintro e w' ⟨rfl, ⟨nd, rfl⟩⟩; refine ⟨_, rfl, ?_⟩))
         go_ret
         exact ⟨by rfl, by repeat (with_reducible first | exact HB.o | apply qAl)⟩
        replace di := Bool.eq_false_iff.mpr di
        subst di
        replace H : (if bC = true then (if a8.length < 8796093022208 then (qAd.l0 bD (a8 ++ [aT]) (wrap64 (aV + 1)) a0_0 l0_1 l0_2 l0_3) else (none)) else (some 52)) = some r := by rw [if_neg (show ¬ (false = true) by decide)] at H; exact H
        by_cases dj : bC = true
        rotate_left
        ·replace dj := Bool.eq_false_iff.mpr dj
         subst dj
         replace H : (some 52) = some r := by rw [if_neg (show ¬ (false = true) by decide)] at H; exact H
         obtain rfl := Option.some.inj H
         go_wp2_with (first | ((with_reducible refine qAi (f := 36) rfl ?_); refine gL 77 Tryz.func36 #[.string aT] ?_; (with_reducible refine (qAG.calls aT aq _ dd.o).mono ?_); rintro e gj ⟨rfl, hb⟩; refine ⟨_, rfl, ?_⟩; have n_ := a2 (Kd.R_below aW.o hb) (am (qAe HB.o hb)); clear aW aA HB; obtain ⟨aW, HB⟩ := n_; obtain ⟨fg, fm, ft⟩ := Kd.R_slice aW.o; subst ft) | ((with_reducible refine qAi (f := 39) rfl ?_); refine gL 85 Tryz.func39 #[.slice fg a8.length fm, .string aT] ?_; (with_reducible refine (qB4.calls bD _ _ a8 aT false _ ?side1 ?side2 fa.o).mono ?_); (case side1 => exact (Kd.R_reads' aW.o).2.2); (case side2 => exact (Kd.R_reads' aW.o).2.1); rintro e w' ⟨rfl, ⟨nd, rfl⟩⟩; refine ⟨_, rfl, ?_⟩))
         go_ret
         exact ⟨by rfl, by repeat (with_reducible first | exact HB.o | apply qAl)⟩
        subst dj
        replace H : (if a8.length < 8796093022208 then (qAd.l0 bD (a8 ++ [aT]) (wrap64 (aV + 1)) a0_0 l0_1 l0_2 l0_3) else (none)) = some r := by rw [if_pos rfl] at H; exact H
        obtain ⟨dk, H⟩ := gd H
        have dM := am dk
        clear dk
        obtain ⟨dc, b3⟩ : ∃ y_ : List ByteArray, y_ = (a8 ++ [aT]) := ⟨_, rfl⟩
        replace H : (qAd.l0 bD dc (wrap64 (aV + 1)) a0_0 l0_1 l0_2 l0_3) = some r := by (rw [b3]; with_reducible exact H)
        have dN := am b3
        clear b3
        have H' := am H
        clear H
        go_wp2_with (first | ((with_reducible refine qAi (f := 36) rfl ?_); refine gL 77 Tryz.func36 #[.string aT] ?_; (with_reducible refine (qAG.calls aT aq _ dd.o).mono ?_); rintro e gh ⟨rfl, hb⟩; refine ⟨_, rfl, ?_⟩; have n_ := a2 (Kd.R_below aW.o hb) (a2 (qAk aA.o hb) (am (qAe HB.o hb))); clear aW aA HB; obtain ⟨aW, aA, HB⟩ := n_; obtain ⟨dJ, d5, fs⟩ := Kd.R_slice aW.o; subst fs) | ((with_reducible refine qAi (f := 39) rfl ?_); refine gL 85 Tryz.func39 #[.slice dJ a8.length d5, .string aT] ?_; (with_reducible refine (qB4.calls bD _ _ a8 aT false _ ?side1 ?side2 fa.o).mono ?_); (case side1 => exact (Kd.R_reads' aW.o).2.2); (case side2 => exact (Kd.R_reads' aW.o).2.1); rintro e w' ⟨rfl, ⟨nd, rfl⟩⟩; refine ⟨_, rfl, ?_⟩) | ((with_reducible refine qAP (b := .append) (xs := #[.tmp 89, .tmp 91]) rfl ?_); at_builtin; refine Kd.R_append Kd.string (w0 := w) w.heap.size rfl (.tmp 89) (.tmp 91) 80 9 (.string ⟨#[]⟩) 16 rfl Tryz.underlying80 info9 rfl (by decide) (by omega) (.slice dJ a8.length d5) a8 aT [.string aT] (fun _ => True) (fun _ => False) rfl rfl ?aP (fun _ hk => hk.elim) ?aF ?aO ?aB ?aS ?aL ?_; (case aP => exact rfl); (case aB => exact (by repeat (with_reducible first | exact HB.o | apply qAl))); (case aF => exact (fun _ _ => trivial)); (case aO => exact (by (with_reducible repeat (apply Kd.R_drewN)); exact aW.o)); (case aS => exact (qAf (by repeat (with_reducible first | exact HB.o | apply qAl)))); (case aL => have := dM.o; omega); intro g3 gi ho hb hg g1; rw [← dN.o] at ho; have n_ := a2 (qAI (g := a9) (o := .cells #[.string a0_0, .slice af l0_1.length ah, .slice ag l0_2.length ai, .slice ap l0_3.length aj] 26 (0, 0)) (by (with_reducible repeat (refine qBr ?_ _)); exact aA.o) hg (Kd.R_ne aW.o aA.o (by decide))) (a2 (hb) (am (ho))); clear aA HB aW; obtain ⟨aA, HB, dL⟩ := n_; clear ho hb hg g1))
        go_roundg bD
        case measure => have := b6.o; have := dK.o; omega
        case rel => exact ⟨(dc), (wrap64 (aV + 1)), (by rfl), H', ⟨by have := b6.o; have := dK.o; omega⟩, ⟨by exact dL.o⟩, ⟨by exact aA.o⟩, ⟨by exact HB.o⟩⟩
     rw [if_neg cv] at H
     replace cv := d0 cv
     replace H := bm H
     obtain ⟨ce, dF, H⟩ := H
     replace H : (if ce = true then (qAd.l1 k1 0 a0_0 l0_1 l0_2 l0_3) else (some 52)) = some r := H
     have gG := am dF
     clear dF
     by_cases dl : ce = true
     rotate_left
     ·replace dl := Bool.eq_false_iff.mpr dl
      subst dl
      replace H : (some 52) = some r := by rw [if_neg (show ¬ (false = true) by decide)] at H; exact H
      obtain rfl := Option.some.inj H
      obtain ⟨d6, d7, d8, d9⟩ := c4_ wr aA.o
      go_wp2_with ((with_reducible refine qAi (f := 40) rfl ?_); refine gL 94 Tryz.func40 #[.agg #[.string a0_0, .slice af l0_1.length ah, .slice ag l0_2.length ai, .slice ap l0_3.length aj]] ?_; (with_reducible refine (qAp.calls k1 a0_0 _ _ l0_1 _ _ l0_2 _ _ l0_3 false _ ?side1 ?side2 ?side3 ?side4 ?side5 ?side6 gG.o).mono ?_); (case side1 => exact (Kd.C_below bE.o HB.o)); (case side2 => exact bO.o); (case side3 => exact (Kd.C_below bF.o HB.o)); (case side4 => exact bP.o); (case side5 => exact (Kd.C_below ac.o HB.o)); (case side6 => exact bQ.o); rintro e g4 ⟨rfl, hb⟩; refine ⟨_, rfl, ?_⟩; have n_ := am (qAe HB.o hb); clear aW aA HB; have HB := n_; clear n_; (skip))
      go_ret
      exact ⟨by rfl, by exact HB.o⟩
     subst dl
     replace H : (qAd.l1 k1 0 a0_0 l0_1 l0_2 l0_3) = some r := by rw [if_pos rfl] at H; exact H
     have H' := am H
     clear H
     obtain ⟨bu, bw, bz, cA⟩ := c4_ wr aA.o
     obtain ⟨cR, cS, cT, cU⟩ := z4_ aA.o
     go_wp2_with ((with_reducible refine qAi (f := 40) rfl ?_); refine gL 94 Tryz.func40 #[.agg #[.string a0_0, .slice af l0_1.length ah, .slice ag l0_2.length ai, .slice ap l0_3.length aj]] ?_; (with_reducible refine (qAp.calls k1 a0_0 _ _ l0_1 _ _ l0_2 _ _ l0_3 true _ ?side1 ?side2 ?side3 ?side4 ?side5 ?side6 gG.o).mono ?_); (case side1 => exact (Kd.C_below bE.o HB.o)); (case side2 => exact bO.o); (case side3 => exact (Kd.C_below bF.o HB.o)); (case side4 => exact bP.o); (case side5 => exact (Kd.C_below ac.o HB.o)); (case side6 => exact bQ.o); rintro e gm ⟨rfl, hb⟩; refine ⟨_, rfl, ?_⟩; have n_ := a2 (qAk aA.o hb) (am (qAe HB.o hb)); clear aW aA HB; obtain ⟨aA, HB⟩ := n_; (skip))
     go_loopg [8] k1 (fun kq v8 w' => ∃ (aH : Int), v8 = .int .i64 aH ∧ qAa (qAd.l1 kq aH a0_0 l0_1 l0_2 l0_3 = some r) ∧ qAa (kq ≤ k1) ∧ qAa (w'.heap[a9]? = some (.cells #[.string a0_0, (.slice af l0_1.length ah), (.slice ag l0_2.length ai), (.slice ap l0_3.length aj)] 26 (0, 0))) ∧ qAa (Below w.heap.size w w'))
     case atStart => exact ⟨(0), (by rfl), H', ⟨Nat.le_refl _⟩, ⟨by exact aA.o⟩, ⟨by exact HB.o⟩⟩
     case round =>
      clear H'
      obtain ⟨aH, rfl, HA, cu, aA, HB⟩ := hrel
      cases gk with
      | zero => exact absurd HA.o (by simp [qAd.l1])
      | succ k2 =>
       have H := HA.o
       clear HA
       simp only [qAd.l1] at H
       by_cases cx : aH < (l0_3.length : Int)
       ·rw [if_pos cx] at H
        replace cx := d1 cx
        obtain ⟨dm, H⟩ := gd H
        replace dm := d1 dm
        replace H := bm H
        obtain ⟨ar, dG, H⟩ := H
        replace H : (if ar = 0 then ((qAG.f ((qAj l0_3 aH).f4)).bind fun ao => (if ao = 0 then (qAd.l1 k2 (wrap64 (aH + 1)) a0_0 l0_1 l0_2 l0_3) else (some ao))) else (some ar)) = some r := H
        have fe := am dG
        clear dG
        by_cases cy : ar = 0
        rotate_left
        ·rw [if_neg cy] at H
         have dV : (ar == 0) = false := bf cy
         have gO : (ar != 0) = true := bne_iff_ne.mpr cy
         obtain rfl := Option.some.inj H
         obtain ⟨-, -, -, eG⟩ := c4_ wr aA.o
         have bA : 0 ≤ aH := od (by assumption)
         have bB : aH < (l0_3.length : Int) := od (by assumption)
         obtain ⟨bR, b2, aY, aZ, a4, a5, a6⟩ := qCl ac.o aH bA bB
         cases b2
         replace aY := (HB.o.cell (World.block_lt_of_cell? w _ aY)).trans aY
         replace aZ := (HB.o.cell (World.block_lt_of_cell? w _ aZ)).trans aZ
         replace a4 := (HB.o.cell (World.block_lt_of_cell? w _ a4)).trans a4
         replace a5 := (HB.o.cell (World.block_lt_of_cell? w _ a5)).trans a5
         replace a6 := (HB.o.cell (World.block_lt_of_cell? w _ a6)).trans a6
         replace bA := eq_true bA
         replace bB := eq_true bB
         go_wp2_with (first | ((with_reducible refine qAK (N := 9) rfl ?_); refine bx 9 #[.int .i64 0, .int .i64 0, .int .i64 0, .string ⟨#[]⟩, .string ⟨#[]⟩] 103 ?_; intro ae hg gb hbox hb; have n_ := a2 (qAk aA.o hb) (a2 (qAe HB.o hb) (a2 (hbox) (a2 (by rw [hg]; exact (qAf HB.o) : w.heap.size ≤ ae) (am (by rw [hg]; exact Nat.ne_of_lt (qBd aA.o) : a9 ≠ ae))))); clear aA HB; obtain ⟨aA, HB, aX, bL, aJ⟩ := n_; clear hb hbox hg; obtain ⟨eH, eI, eJ, eK, eL⟩ := c5_ gb aX.o; obtain ⟨ex, ey, ez, fA, fB⟩ := z5_ aX.o) | ((with_reducible refine qAi (f := 36) rfl ?_); refine gL 110 Tryz.func36 #[.string ((qAj l0_3 aH).f3)] ?_; (with_reducible refine (qAG.calls ((qAj l0_3 aH).f3) ar _ fe.o).mono ?_); rintro e gp ⟨rfl, hb⟩; refine ⟨_, rfl, ?_⟩; have n_ := am (qAe (by repeat (with_reducible first | exact HB.o | refine qA1 ?_ bL.o)) hb); clear aA aX HB; have HB := n_; clear n_; (skip)))
         go_ret
         exact ⟨by rfl, by exact HB.o⟩
        rw [if_pos cy] at H
        have dV : (ar == 0) = true := beq_iff_eq.mpr cy
        clear cy
        replace H := bm H
        obtain ⟨ao, dH, H⟩ := H
        replace H : (if ao = 0 then (qAd.l1 k2 (wrap64 (aH + 1)) a0_0 l0_1 l0_2 l0_3) else (some ao)) = some r := H
        have gH := am dH
        clear dH
        by_cases dX : ao = 0
        rotate_left
        ·rw [if_neg dX] at H
         have dY : (ao != 0) = true := bne_iff_ne.mpr dX
         obtain rfl := Option.some.inj H
         obtain ⟨-, -, -, dz⟩ := c4_ wr aA.o
         have bA : 0 ≤ aH := od (by assumption)
         have bB : aH < (l0_3.length : Int) := od (by assumption)
         obtain ⟨bR, b2, aY, aZ, a4, a5, a6⟩ := qCl ac.o aH bA bB
         cases b2
         replace aY := (HB.o.cell (World.block_lt_of_cell? w _ aY)).trans aY
         replace aZ := (HB.o.cell (World.block_lt_of_cell? w _ aZ)).trans aZ
         replace a4 := (HB.o.cell (World.block_lt_of_cell? w _ a4)).trans a4
         replace a5 := (HB.o.cell (World.block_lt_of_cell? w _ a5)).trans a5
         replace a6 := (HB.o.cell (World.block_lt_of_cell? w _ a6)).trans a6
         replace bA := eq_true bA
         replace bB := eq_true bB
         go_wp2_with (first | ((with_reducible refine qAK (N := 9) rfl ?_); refine bx 9 #[.int .i64 0, .int .i64 0, .int .i64 0, .string ⟨#[]⟩, .string ⟨#[]⟩] 103 ?_; intro ae hg g9 hbox hb; have n_ := a2 (qAk aA.o hb) (a2 (qAe HB.o hb) (a2 (hbox) (a2 (by rw [hg]; exact (qAf HB.o) : w.heap.size ≤ ae) (am (by rw [hg]; exact Nat.ne_of_lt (qBd aA.o) : a9 ≠ ae))))); clear aA HB; obtain ⟨aA, HB, aX, bL, aJ⟩ := n_; clear hb hbox hg; obtain ⟨eA, eB, eC, eD, eE⟩ := c5_ g9 aX.o; obtain ⟨er, es, et, eu, ev⟩ := z5_ aX.o) | ((with_reducible refine qAi (f := 36) rfl ?_); refine gL 110 Tryz.func36 #[.string ((qAj l0_3 aH).f3)] ?_; (with_reducible refine (qAG.calls ((qAj l0_3 aH).f3) ar _ fe.o).mono ?_); rintro e ga ⟨rfl, hb⟩; refine ⟨_, rfl, ?_⟩; have n_ := a2 (qAk (g := a9) (o := .cells #[.string a0_0, .slice af l0_1.length ah, .slice ag l0_2.length ai, .slice (some bR) l0_3.length aj] 26 (0, 0)) (by refine qA2 ?_ aJ.o _; refine qA2 ?_ aJ.o _; refine qA2 ?_ aJ.o _; refine qA2 ?_ aJ.o _; refine qA2 ?_ aJ.o _; exact aA.o) hb) (a2 (qAk (g := ae) (o := .cells #[.int .i64 ((qAj l0_3 aH).f0), .int .i64 ((qAj l0_3 aH).f1), .int .i64 ((qAj l0_3 aH).f2), .string ((qAj l0_3 aH).f3), .string ((qAj l0_3 aH).f4)] 103 (0, 0)) (by refine qA5 (cs := #[.int .i64 ((qAj l0_3 aH).f0), .int .i64 ((qAj l0_3 aH).f1), .int .i64 ((qAj l0_3 aH).f2), .string ((qAj l0_3 aH).f3), .string ⟨#[]⟩]) ?_ 4 _ rfl; refine qA5 (cs := #[.int .i64 ((qAj l0_3 aH).f0), .int .i64 ((qAj l0_3 aH).f1), .int .i64 ((qAj l0_3 aH).f2), .string ⟨#[]⟩, .string ⟨#[]⟩]) ?_ 3 _ rfl; refine qA5 (cs := #[.int .i64 ((qAj l0_3 aH).f0), .int .i64 ((qAj l0_3 aH).f1), .int .i64 0, .string ⟨#[]⟩, .string ⟨#[]⟩]) ?_ 2 _ rfl; refine qA5 (cs := #[.int .i64 ((qAj l0_3 aH).f0), .int .i64 0, .int .i64 0, .string ⟨#[]⟩, .string ⟨#[]⟩]) ?_ 1 _ rfl; refine qA5 (cs := #[.int .i64 0, .int .i64 0, .int .i64 0, .string ⟨#[]⟩, .string ⟨#[]⟩]) ?_ 0 _ rfl; exact aX.o) hb) (am (qAe (by repeat (with_reducible first | exact HB.o | refine qA1 ?_ bL.o)) hb))); clear aA aX HB; obtain ⟨aA, aX, HB⟩ := n_; obtain ⟨-, -, -, -, eF⟩ := c5_ ga aX.o; have ew := qAx aX.o 4) | ((with_reducible refine qAi (f := 36) rfl ?_); refine gL 115 Tryz.func36 #[.string ((qAj l0_3 aH).f4)] ?_; (with_reducible refine (qAG.calls ((qAj l0_3 aH).f4) ao _ gH.o).mono ?_); rintro e go ⟨rfl, hb⟩; refine ⟨_, rfl, ?_⟩; have n_ := am (qAe HB.o hb); clear aA aX HB; have HB := n_; clear n_; (skip)))
         go_ret
         exact ⟨by rfl, by exact HB.o⟩
        rw [if_pos dX] at H
        have dY : (ao != 0) = false := bn dX
        clear dX
        have H' := am H
        clear H
        obtain ⟨-, -, -, ds⟩ := c4_ wr aA.o
        have bA : 0 ≤ aH := od (by assumption)
        have bB : aH < (l0_3.length : Int) := od (by assumption)
        obtain ⟨bR, b2, aY, aZ, a4, a5, a6⟩ := qCl ac.o aH bA bB
        cases b2
        replace aY := (HB.o.cell (World.block_lt_of_cell? w _ aY)).trans aY
        replace aZ := (HB.o.cell (World.block_lt_of_cell? w _ aZ)).trans aZ
        replace a4 := (HB.o.cell (World.block_lt_of_cell? w _ a4)).trans a4
        replace a5 := (HB.o.cell (World.block_lt_of_cell? w _ a5)).trans a5
        replace a6 := (HB.o.cell (World.block_lt_of_cell? w _ a6)).trans a6
        replace bA := eq_true bA
        replace bB := eq_true bB
        go_wp2_with (first | ((with_reducible refine qAK (N := 9) rfl ?_); refine bx 9 #[.int .i64 0, .int .i64 0, .int .i64 0, .string ⟨#[]⟩, .string ⟨#[]⟩] 103 ?_; intro ae hg g7 hbox hb; have n_ := a2 (qAk aA.o hb) (a2 (qAe HB.o hb) (a2 (hbox) (a2 (by rw [hg]; exact (qAf HB.o) : w.heap.size ≤ ae) (am (by rw [hg]; exact Nat.ne_of_lt (qBd aA.o) : a9 ≠ ae))))); clear aA HB; obtain ⟨aA, HB, aX, bL, aJ⟩ := n_; clear hb hbox hg; obtain ⟨dt, du, dv, dw, dx⟩ := c5_ g7 aX.o; obtain ⟨el, em, en, eo, ep⟩ := z5_ aX.o) | ((with_reducible refine qAi (f := 36) rfl ?_); refine gL 110 Tryz.func36 #[.string ((qAj l0_3 aH).f3)] ?_; (with_reducible refine (qAG.calls ((qAj l0_3 aH).f3) ar _ fe.o).mono ?_); rintro e g8 ⟨rfl, hb⟩; refine ⟨_, rfl, ?_⟩; have n_ := a2 (qAk (g := a9) (o := .cells #[.string a0_0, .slice af l0_1.length ah, .slice ag l0_2.length ai, .slice (some bR) l0_3.length aj] 26 (0, 0)) (by refine qA2 ?_ aJ.o _; refine qA2 ?_ aJ.o _; refine qA2 ?_ aJ.o _; refine qA2 ?_ aJ.o _; refine qA2 ?_ aJ.o _; exact aA.o) hb) (a2 (qAk (g := ae) (o := .cells #[.int .i64 ((qAj l0_3 aH).f0), .int .i64 ((qAj l0_3 aH).f1), .int .i64 ((qAj l0_3 aH).f2), .string ((qAj l0_3 aH).f3), .string ((qAj l0_3 aH).f4)] 103 (0, 0)) (by refine qA5 (cs := #[.int .i64 ((qAj l0_3 aH).f0), .int .i64 ((qAj l0_3 aH).f1), .int .i64 ((qAj l0_3 aH).f2), .string ((qAj l0_3 aH).f3), .string ⟨#[]⟩]) ?_ 4 _ rfl; refine qA5 (cs := #[.int .i64 ((qAj l0_3 aH).f0), .int .i64 ((qAj l0_3 aH).f1), .int .i64 ((qAj l0_3 aH).f2), .string ⟨#[]⟩, .string ⟨#[]⟩]) ?_ 3 _ rfl; refine qA5 (cs := #[.int .i64 ((qAj l0_3 aH).f0), .int .i64 ((qAj l0_3 aH).f1), .int .i64 0, .string ⟨#[]⟩, .string ⟨#[]⟩]) ?_ 2 _ rfl; refine qA5 (cs := #[.int .i64 ((qAj l0_3 aH).f0), .int .i64 0, .int .i64 0, .string ⟨#[]⟩, .string ⟨#[]⟩]) ?_ 1 _ rfl; refine qA5 (cs := #[.int .i64 0, .int .i64 0, .int .i64 0, .string ⟨#[]⟩, .string ⟨#[]⟩]) ?_ 0 _ rfl; exact aX.o) hb) (am (qAe (by repeat (with_reducible first | exact HB.o | refine qA1 ?_ bL.o)) hb))); clear aA aX HB; obtain ⟨aA, aX, HB⟩ := n_; obtain ⟨-, -, -, -, dy⟩ := c5_ g8 aX.o; have eq := qAx aX.o 4) | ((with_reducible refine qAi (f := 36) rfl ?_); refine gL 115 Tryz.func36 #[.string ((qAj l0_3 aH).f4)] ?_; (with_reducible refine (qAG.calls ((qAj l0_3 aH).f4) ao _ gH.o).mono ?_); rintro e gn ⟨rfl, hb⟩; refine ⟨_, rfl, ?_⟩; have n_ := a2 (qAk aA.o hb) (am (qAe HB.o hb)); clear aA aX HB; obtain ⟨aA, HB⟩ := n_; (skip)))
        go_roundg k2
        case measure => have := b6.o; have := cu.o; omega
        case rel => exact ⟨(wrap64 (aH + 1)), (by rfl), H', ⟨by have := b6.o; have := cu.o; omega⟩, ⟨by exact aA.o⟩, ⟨by exact HB.o⟩⟩
       rw [if_neg cx] at H
       replace cx := d0 cx
       have H' := am H
       clear H
       obtain ⟨cB, cC, cD, cE⟩ := c4_ wr aA.o
       obtain ⟨cV, cW, cX, cY⟩ := z4_ aA.o
       go_wp2
       go_loopg [10] k2 (fun kq g2 w' => ∃ (aE : Int), g2 = .int .i64 aE ∧ qAa (qAd.l2 kq aE a0_0 l0_1 l0_2 l0_3 = some r) ∧ qAa (kq ≤ k2) ∧ qAa (w'.heap[a9]? = some (.cells #[.string a0_0, (.slice af l0_1.length ah), (.slice ag l0_2.length ai), (.slice ap l0_3.length aj)] 26 (0, 0))) ∧ qAa (Below w.heap.size w w'))
       case atStart => exact ⟨(0), (by rfl), H', ⟨Nat.le_refl _⟩, ⟨by exact aA.o⟩, ⟨by exact HB.o⟩⟩
       case round =>
        clear H'
        obtain ⟨aE, rfl, HA, de, aA, HB⟩ := hrel
        cases gk with
        | zero => exact absurd HA.o (by simp [qAd.l2])
        | succ k3 =>
         have H := HA.o
         clear HA
         simp only [qAd.l2] at H
         by_cases cz : aE < (l0_3.length : Int)
         rotate_left
         ·rw [if_neg cz] at H
          replace cz := d0 cz
          obtain rfl := Option.some.inj H
          obtain ⟨-, -, -, ek⟩ := c4_ wr aA.o
          go_wp2
          go_ret
          exact ⟨by rfl, by exact HB.o⟩
         rw [if_pos cz] at H
         replace cz := d1 cz
         obtain ⟨dn, H⟩ := gd H
         replace dn := d1 dn
         by_cases dA : ((qAj l0_3 aE).f3).toList = a0_0.toList
         rotate_left
         ·rw [if_neg dA] at H
          have d2 : (((qAj l0_3 aE).f3).toList == a0_0.toList) = false := bf dA
          have gQ : (((qAj l0_3 aE).f3).toList != a0_0.toList) = true := bne_iff_ne.mpr dA
          by_cases d3 : ((qAj l0_3 aE).f2) = 1
          ·rw [if_pos d3] at H
           have d4 : (((qAj l0_3 aE).f2) == 1) = true := beq_iff_eq.mpr d3
           clear d3
           obtain rfl := Option.some.inj H
           obtain ⟨-, -, -, e6⟩ := c4_ wr aA.o
           have ak : 0 ≤ aE := od (by assumption)
           have al : aE < (l0_3.length : Int) := od (by assumption)
           obtain ⟨bS, bM, aK, aM, aN, aQ, aR⟩ := qCl ac.o aE ak al
           cases bM
           replace aK := (HB.o.cell (World.block_lt_of_cell? w _ aK)).trans aK
           replace aM := (HB.o.cell (World.block_lt_of_cell? w _ aM)).trans aM
           replace aN := (HB.o.cell (World.block_lt_of_cell? w _ aN)).trans aN
           replace aQ := (HB.o.cell (World.block_lt_of_cell? w _ aQ)).trans aQ
           replace aR := (HB.o.cell (World.block_lt_of_cell? w _ aR)).trans aR
           replace ak := eq_true ak
           replace al := eq_true al
           go_wp2_with ((with_reducible refine qAK (N := 11) rfl ?_); refine bx 11 #[.int .i64 0, .int .i64 0, .int .i64 0, .string ⟨#[]⟩, .string ⟨#[]⟩] 103 ?_; intro ad hg gX hbox hb; have n_ := a2 (qAk aA.o hb) (a2 (qAe HB.o hb) (a2 (hbox) (a2 (by rw [hg]; exact (qAf HB.o) : w.heap.size ≤ ad) (am (by rw [hg]; exact Nat.ne_of_lt (qBd aA.o) : a9 ≠ ad))))); clear aA HB; obtain ⟨aA, HB, aa, ab, aD⟩ := n_; clear hb hbox hg; have gT := aD.o; obtain ⟨e7, e8, e9, ea, eb⟩ := c5_ gX aa.o; obtain ⟨fO, fP, fQ, fR, fS⟩ := z5_ aa.o; have ec := c1_ gX aA.o; have fT := qAx aA.o 3)
           go_ret
           exact ⟨by rfl, by repeat (with_reducible first | exact HB.o | refine qA1 ?_ ab.o)⟩
          rw [if_neg d3] at H
          have d4 : (((qAj l0_3 aE).f2) == 1) = false := bf d3
          have H' := am H
          clear H
          obtain ⟨-, -, -, ed⟩ := c4_ wr aA.o
          have ak : 0 ≤ aE := od (by assumption)
          have al : aE < (l0_3.length : Int) := od (by assumption)
          obtain ⟨bS, bM, aK, aM, aN, aQ, aR⟩ := qCl ac.o aE ak al
          cases bM
          replace aK := (HB.o.cell (World.block_lt_of_cell? w _ aK)).trans aK
          replace aM := (HB.o.cell (World.block_lt_of_cell? w _ aM)).trans aM
          replace aN := (HB.o.cell (World.block_lt_of_cell? w _ aN)).trans aN
          replace aQ := (HB.o.cell (World.block_lt_of_cell? w _ aQ)).trans aQ
          replace aR := (HB.o.cell (World.block_lt_of_cell? w _ aR)).trans aR
          replace ak := eq_true ak
          replace al := eq_true al
          go_wp2_with ((with_reducible refine qAK (N := 11) rfl ?_); refine bx 11 #[.int .i64 0, .int .i64 0, .int .i64 0, .string ⟨#[]⟩, .string ⟨#[]⟩] 103 ?_; intro ad hg gY hbox hb; have n_ := a2 (qAk aA.o hb) (a2 (qAe HB.o hb) (a2 (hbox) (a2 (by rw [hg]; exact (qAf HB.o) : w.heap.size ≤ ad) (am (by rw [hg]; exact Nat.ne_of_lt (qBd aA.o) : a9 ≠ ad))))); clear aA HB; obtain ⟨aA, HB, aa, ab, aD⟩ := n_; clear hb hbox hg; have gU := aD.o; obtain ⟨ee, ef, eg, eh, ei⟩ := c5_ gY aa.o; obtain ⟨fU, fV, fW, fX, fY⟩ := z5_ aa.o; have ej := c1_ gY aA.o; have fZ := qAx aA.o 3)
          go_roundg k3
          case measure => have := b6.o; have := cu.o; have := de.o; omega
          case rel => exact ⟨(wrap64 (aE + 1)), (by rfl), H', ⟨by have := b6.o; have := cu.o; have := de.o; omega⟩, ⟨by refine qA2 ?_ aD.o _; refine qA2 ?_ aD.o _; refine qA2 ?_ aD.o _; refine qA2 ?_ aD.o _; refine qA2 ?_ aD.o _; exact aA.o⟩, ⟨by repeat (with_reducible first | exact HB.o | refine qA1 ?_ ab.o)⟩⟩
         rw [if_pos dA] at H
         have d2 : (((qAj l0_3 aE).f3).toList == a0_0.toList) = true := beq_iff_eq.mpr dA
         clear dA
         replace H := bm H
         obtain ⟨cf, dI, H⟩ := H
         replace H : (if cf = true then (qAd.l2 k3 (wrap64 (aE + 1)) a0_0 l0_1 l0_2 l0_3) else (some 52)) = some r := H
         have gI := am dI
         clear dI
         by_cases dp : cf = true
         rotate_left
         ·replace dp := Bool.eq_false_iff.mpr dp
          subst dp
          replace H : (some 52) = some r := by rw [if_neg (show ¬ (false = true) by decide)] at H; exact H
          obtain rfl := Option.some.inj H
          obtain ⟨-, -, -, eW⟩ := c4_ wr aA.o
          have ak : 0 ≤ aE := od (by assumption)
          have al : aE < (l0_3.length : Int) := od (by assumption)
          obtain ⟨bS, bM, aK, aM, aN, aQ, aR⟩ := qCl ac.o aE ak al
          cases bM
          replace aK := (HB.o.cell (World.block_lt_of_cell? w _ aK)).trans aK
          replace aM := (HB.o.cell (World.block_lt_of_cell? w _ aM)).trans aM
          replace aN := (HB.o.cell (World.block_lt_of_cell? w _ aN)).trans aN
          replace aQ := (HB.o.cell (World.block_lt_of_cell? w _ aQ)).trans aQ
          replace aR := (HB.o.cell (World.block_lt_of_cell? w _ aR)).trans aR
          replace ak := eq_true ak
          replace al := eq_true al
          go_wp2_with (first | ((with_reducible refine qAK (N := 11) rfl ?_); refine bx 11 #[.int .i64 0, .int .i64 0, .int .i64 0, .string ⟨#[]⟩, .string ⟨#[]⟩] 103 ?_; intro ad hg gW hbox hb; have n_ := a2 (qAk aA.o hb) (a2 (qAe HB.o hb) (a2 (hbox) (a2 (by rw [hg]; exact (qAf HB.o) : w.heap.size ≤ ad) (am (by rw [hg]; exact Nat.ne_of_lt (qBd aA.o) : a9 ≠ ad))))); clear aA HB; obtain ⟨aA, HB, aa, ab, aD⟩ := n_; clear hb hbox hg; have gS := aD.o; obtain ⟨eX, eY, eZ, e0, e1⟩ := c5_ gW aa.o; obtain ⟨fI, fJ, fK, fL, fM⟩ := z5_ aa.o; obtain ⟨e2, e3, e4, e5⟩ := c4_ gW aA.o; have fN := qAx aA.o 3) | (go_at_call 41; (with_reducible refine (qA0.calls k3 a0_0 _ _ l0_1 _ _ l0_2 _ _ l0_3 ((qAj l0_3 aE).f0) ((qAj l0_3 aE).f1) ((qAj l0_3 aE).f2) ((qAj l0_3 aE).f3) ((qAj l0_3 aE).f4) false _ ?side1 ?side2 ?side3 ?side4 ?side5 ?side6 gI.o).mono ?_); (case side1 => exact Kd.C_below bE.o (by repeat (with_reducible first | exact HB.o | refine qA1 ?_ ab.o))); (case side2 => exact bO.o); (case side3 => exact Kd.C_below bF.o (by repeat (with_reducible first | exact HB.o | refine qA1 ?_ ab.o))); (case side4 => exact bP.o); (case side5 => exact Kd.C_below ac.o (by repeat (with_reducible first | exact HB.o | refine qA1 ?_ ab.o))); (case side6 => exact bQ.o); rintro e gr ⟨rfl, hb⟩; have n_ := am (qAe (by repeat (with_reducible first | exact HB.o | refine qA1 ?_ ab.o)) hb); clear aA aa HB; have HB := n_; clear n_; (skip)))
          go_ret
          exact ⟨by rfl, by exact HB.o⟩
         subst dp
         replace H : (qAd.l2 k3 (wrap64 (aE + 1)) a0_0 l0_1 l0_2 l0_3) = some r := by rw [if_pos rfl] at H; exact H
         have H' := am H
         clear H
         obtain ⟨-, -, -, eM⟩ := c4_ wr aA.o
         have ak : 0 ≤ aE := od (by assumption)
         have al : aE < (l0_3.length : Int) := od (by assumption)
         obtain ⟨bS, bM, aK, aM, aN, aQ, aR⟩ := qCl ac.o aE ak al
         cases bM
         replace aK := (HB.o.cell (World.block_lt_of_cell? w _ aK)).trans aK
         replace aM := (HB.o.cell (World.block_lt_of_cell? w _ aM)).trans aM
         replace aN := (HB.o.cell (World.block_lt_of_cell? w _ aN)).trans aN
         replace aQ := (HB.o.cell (World.block_lt_of_cell? w _ aQ)).trans aQ
         replace aR := (HB.o.cell (World.block_lt_of_cell? w _ aR)).trans aR
         replace ak := eq_true ak
         replace al := eq_true al
         go_wp2_with (first | ((with_reducible refine qAK (N := 11) rfl ?_); refine bx 11 #[.int .i64 0, .int .i64 0, .int .i64 0, .string ⟨#[]⟩, .string ⟨#[]⟩] 103 ?_; intro ad hg gV hbox hb; have n_ := a2 (qAk aA.o hb) (a2 (qAe HB.o hb) (a2 (hbox) (a2 (by rw [hg]; exact (qAf HB.o) : w.heap.size ≤ ad) (am (by rw [hg]; exact Nat.ne_of_lt (qBd aA.o) : a9 ≠ ad))))); clear aA HB; obtain ⟨aA, HB, aa, ab, aD⟩ := n_; clear hb hbox hg; have gR := aD.o; obtain ⟨eN, eO, eP, eQ, eR⟩ := c5_ gV aa.o; obtain ⟨fC, fD, fE, fF, fG⟩ := z5_ aa.o; obtain ⟨eS, eT, eU, eV⟩ := c4_ gV aA.o; have fH := qAx aA.o 3) | (go_at_call 41; (with_reducible refine (qA0.calls k3 a0_0 _ _ l0_1 _ _ l0_2 _ _ l0_3 ((qAj l0_3 aE).f0) ((qAj l0_3 aE).f1) ((qAj l0_3 aE).f2) ((qAj l0_3 aE).f3) ((qAj l0_3 aE).f4) true _ ?side1 ?side2 ?side3 ?side4 ?side5 ?side6 gI.o).mono ?_); (case side1 => exact Kd.C_below bE.o (by repeat (with_reducible first | exact HB.o | refine qA1 ?_ ab.o))); (case side2 => exact bO.o); (case side3 => exact Kd.C_below bF.o (by repeat (with_reducible first | exact HB.o | refine qA1 ?_ ab.o))); (case side4 => exact bP.o); (case side5 => exact Kd.C_below ac.o (by repeat (with_reducible first | exact HB.o | refine qA1 ?_ ab.o))); (case side6 => exact bQ.o); rintro e gq ⟨rfl, hb⟩; have n_ := a2 (qAk (g := a9) (o := .cells #[.string a0_0, .slice af l0_1.length ah, .slice ag l0_2.length ai, .slice (some bS) l0_3.length aj] 26 (0, 0)) (by refine qA2 ?_ aD.o _; refine qA2 ?_ aD.o _; refine qA2 ?_ aD.o _; refine qA2 ?_ aD.o _; refine qA2 ?_ aD.o _; exact aA.o) hb) (am (qAe (by repeat (with_reducible first | exact HB.o | refine qA1 ?_ ab.o)) hb)); clear aA aa HB; obtain ⟨aA, HB⟩ := n_; (skip)))
         go_roundg k3
         case measure => have := b6.o; have := cu.o; have := de.o; omega
         case rel => exact ⟨(wrap64 (aE + 1)), (by rfl), H', ⟨by have := b6.o; have := cu.o; have := de.o; omega⟩, ⟨by exact aA.o⟩, ⟨by exact HB.o⟩⟩
 ·rw [if_neg c3] at H
  have dU : (an != 0) = true := bne_iff_ne.mpr c3
  obtain rfl := Option.some.inj H
  go_enter Tryz.func11, Tryz.ntmps11
  go_wp2_with (first | ((with_reducible refine qAK (N := 1) rfl ?_); refine bx 1 #[.string a0_0, .slice af l0_1.length ah, .slice ag l0_2.length ai, .slice ap l0_3.length aj] 26 ?_; intro a9 hg gE hbox hb; have n_ := a2 (qAe HB.o hb) (am (hbox)); clear HB; obtain ⟨HB, aA⟩ := n_; clear hb hbox hg; have da := c1_ gE aA.o; have db := qAx aA.o 3) | ((with_reducible refine qAi (f := 36) rfl ?_); refine gL 14 Tryz.func36 #[.string a0_0] ?_; (with_reducible refine (qAG.calls a0_0 an _ A2.o).mono ?_); rintro e g5 ⟨rfl, hb⟩; refine ⟨_, rfl, ?_⟩; have n_ := am (qAe HB.o hb); clear aA HB; have HB := n_; clear n_; (skip)))
  go_ret
  exact ⟨by rfl, by exact HB.o⟩
end Q
end
section
namespace Q
open Go.RowKit PA PC PB
open DecLaw
def toRI (x : S144) : S172 := ⟨x.f0, x.f1, x.f2⟩
def toRV (x : S85) : S95 := ⟨x.f0, x.f1⟩
def toRN (x : S92) : S100 := ⟨x.f0, ⟨⟨x.f1.f0.f0, x.f1.f0.f1⟩, x.f1.f1, x.f1.f2.map toRI⟩⟩
def toRR (x : S104) : S103 := ⟨x.f0, x.f1, x.f2, x.f3, x.f4⟩
end Q
end
section
namespace Q
open Go.RowKit PA PC PB
open Val Ins
theorem find_ev (l : List ByteArray) (s : ByteArray) (hl : l.length ≤ 4611686018427387904) : ∀ (d : Nat) (i : Int), 0 ≤ i → (l.length : Int) - i = d →
  ∃ r, Ev (fun k => qAZ.l0 k l s i) (r, hasB (l.drop i.toNat) s) := by
 intro d
 induction d with
 | zero =>
  intro i h0 hd
  refine ⟨0, Ev.step (f := fun _ => some (0, false)) (fun k => ?_) (by rw [List.drop_eq_nil_of_le (by omega)]; exact Ev.now _)⟩
  simp only [qAZ.l0]; rw [if_neg (by omega)]
 | succ d ih =>
  intro i h0 hd
  have hc := qAV l ByteArray.empty i h0 (by omega)
  rw [hc]
  have hr : rdOf ByteArray.empty l i = l.getD i.toNat ByteArray.empty := rfl
  rw [← hr]
  by_cases he : (rdOf ByteArray.empty l i).toList = s.toList
  ·refine ⟨i, Ev.step (f := fun _ => some (i, true)) (fun k => ?_) (by
     have : hasB (rdOf ByteArray.empty l i :: l.drop (i + 1).toNat) s = true := by unfold hasB; rw [List.any_cons, beq_iff_eq.mpr he.symm, Bool.true_or]
     rw [this]; exact Ev.now _)⟩
   simp only [qAZ.l0]; rw [if_pos (by omega), if_pos h0, if_pos he]
  obtain ⟨r, hrec⟩ := ih (i + 1) (by omega) (by omega)
  refine ⟨r, Ev.step (f := fun k => qAZ.l0 k l s (i + 1)) (fun k => ?_) (by
    have : hasB (rdOf ByteArray.empty l i :: l.drop (i + 1).toNat) s = hasB (l.drop (i + 1).toNat) s := by unfold hasB; rw [List.any_cons, beq_eq_false_iff_ne.mpr (fun e => he e.symm), Bool.false_or]
    rw [this]; exact hrec)⟩
  simp only [qAZ.l0]; rw [if_pos (by omega), if_pos h0, if_neg he, qB1 (n := l.length) h0 (by omega) hl]
theorem has_ev (l : List ByteArray) (s : ByteArray) (hl : l.length ≤ 4611686018427387904) : Ev (fun k => qB4.f k l s) (hasB l s) := by
 obtain ⟨r, h⟩ := find_ev l s hl l.length 0 (by omega) (by omega)
 exact Ev.congr (f := fun k => (qAZ.l0 k l s 0).bind fun b => some b.2) (fun k => rfl) (Ev.bind h (Ev.now _))
theorem qDj (t : Int) : qBf.f t = some (okT t) := by
 unfold qBf.f
 by_cases h1 : t = 1
 ·subst h1; rfl
 by_cases h2 : t = 2
 ·subst h2; rfl
 rw [if_neg h1, if_neg h2]
 by_cases h3 : t = 3
 ·subst h3; rfl
 rw [qD9 (by omega), beq_eq_false_iff_ne.mpr h3]
theorem qCR {α β : Type} (f : α → β) (l : List α) (d : α) (e : β) (i : Int) (h0 : 0 ≤ i) (h : i < l.length) : (l.map f).getD i.toNat e = f (l.getD i.toNat d) := by
 rw [List.getD_eq_getElem?_getD, List.getD_eq_getElem?_getD, List.getElem?_map, List.getElem?_eq_getElem (by omega)]; rfl
section
variable (l0 : List Int) (a1 : Int) (l2 : List Int) (l3 : List S144)
theorem sh2_ev (h3 : l3.length ≤ 4611686018427387904) (hu : l3.all u64S = true) : ∀ (d : Nat) (i : Int), 0 ≤ i → (l3.length : Int) - i = d → Ev (fun k => qAc.l2 k i l0 a1 l2 (l3.map toRI)) ((l3.drop i.toNat).all okS) := by
 intro d
 induction d with
 | zero =>
  intro i g0 hd
  rw [List.drop_eq_nil_of_le (by omega)]
  refine Ev.step (f := fun _ => some true) (fun k => ?_) (Ev.now _)
  simp only [qAc.l2]; rw [if_neg (by rw [List.length_map]; omega)]
 | succ d ih =>
  intro i g0 hd
  rw [qAV l3 z144 i g0 (by omega), List.all_cons]
  have hx : qAv (l3.map toRI) i = toRI (l3.getD i.toNat z144) := qCR toRI l3 _ _ i g0 (by omega)
  have hm := qCc l3 z144 i g0 (by omega)
  have hux := u64S_U (List.all_eq_true.1 hu _ hm)
  generalize l3.getD i.toNat z144 = x at hx hux hm
  have hr : qBh.f x.f0 x.f1 x.f2.f0 x.f2.f1 = some (okS x) := if_pos hux
  have hw := qB1 (n := l3.length) g0 (by omega) h3
  cases hq : okS x with
  | false =>
   rw [Bool.false_and]
   refine Ev.step (f := fun _ => some false) (fun k => ?_) (Ev.now _)
   simp only [qAc.l2, hx]
   rw [if_pos (by rw [List.length_map]; omega), if_pos g0]
   show (qBh.f x.f0 x.f1 x.f2.f0 x.f2.f1).bind _ = _
   rw [hr, hq, Option.bind_some]; rfl
  | true =>
   rw [Bool.true_and]
   refine Ev.step (fun k => ?_) (ih (i + 1) (by omega) (by omega))
   simp only [qAc.l2, hx]
   rw [if_pos (by rw [List.length_map]; omega), if_pos g0]
   show (qBh.f x.f0 x.f1 x.f2.f0 x.f2.f1).bind _ = _
   rw [hr, hq, Option.bind_some, hw]; rfl
theorem sh1_ev (h2 : l2.length ≤ 4611686018427387904) (h3 : l3.length ≤ 4611686018427387904) (hu : l3.all u64S = true) : ∀ (d : Nat) (i : Int), 0 ≤ i → (l2.length : Int) - i = d → Ev (fun k => qAc.l1 k i l0 a1 l2 (l3.map toRI)) ((l2.drop i.toNat).all okT && l3.all okS) := by
 intro d
 induction d with
 | zero =>
  intro i g0 hd
  rw [List.drop_eq_nil_of_le (by omega)]
  refine Ev.step (fun k => ?_) (sh2_ev l0 a1 l2 l3 h3 hu l3.length 0 (by omega) (by omega))
  simp only [qAc.l1]; rw [if_neg (by omega)]
 | succ d ih =>
  intro i g0 hd
  rw [qAV l2 0 i g0 (by omega), List.all_cons, Bool.and_assoc]
  have hx : rd l2 i = l2.getD i.toNat 0 := rfl
  rw [← hx]
  have hw := qB1 (n := l2.length) g0 (by omega) h2
  cases hq : okT (rd l2 i) with
  | false =>
   rw [Bool.false_and]
   refine Ev.step (f := fun _ => some false) (fun k => ?_) (Ev.now _)
   simp only [qAc.l1]
   rw [if_pos (by omega), if_pos g0, qDj, hq, Option.bind_some]; rfl
  | true =>
   rw [Bool.true_and]
   refine Ev.step (fun k => ?_) (ih (i + 1) (by omega) (by omega))
   simp only [qAc.l1]
   rw [if_pos (by omega), if_pos g0, qDj, hq, Option.bind_some, hw]; rfl
theorem sh0_ev (h0 : l0.length ≤ 4611686018427387904) (h2 : l2.length ≤ 4611686018427387904) (h3 : l3.length ≤ 4611686018427387904) (hu : l3.all u64S = true) : ∀ (d : Nat) (i : Int), 0 ≤ i → (l0.length : Int) - i = d → Ev (fun k => qAc.l0 k i l0 a1 l2 (l3.map toRI)) ((l0.drop i.toNat).all okT && (l2.all okT && l3.all okS)) := by
 intro d
 induction d with
 | zero =>
  intro i g0 hd
  rw [List.drop_eq_nil_of_le (by omega)]
  refine Ev.step (fun k => ?_) (sh1_ev l0 a1 l2 l3 h2 h3 hu l2.length 0 (by omega) (by omega))
  simp only [qAc.l0]; rw [if_neg (by omega)]
 | succ d ih =>
  intro i g0 hd
  rw [qAV l0 0 i g0 (by omega), List.all_cons, Bool.and_assoc]
  have hx : rd l0 i = l0.getD i.toNat 0 := rfl
  rw [← hx]
  have hw := qB1 (n := l0.length) g0 (by omega) h0
  cases hq : okT (rd l0 i) with
  | false =>
   rw [Bool.false_and]
   refine Ev.step (f := fun _ => some false) (fun k => ?_) (Ev.now _)
   simp only [qAc.l0]
   rw [if_pos (by omega), if_pos g0, qDj, hq, Option.bind_some]; rfl
  | true =>
   rw [Bool.true_and]
   refine Ev.step (fun k => ?_) (ih (i + 1) (by omega) (by omega))
   simp only [qAc.l0]
   rw [if_pos (by omega), if_pos g0, qDj, hq, Option.bind_some, hw]; rfl
theorem sh_no : Ev (fun k => qAc.j0 k true l0 a1 l2 (l3.map toRI)) false :=
 Ev.step (f := fun _ => some false) (fun k => by simp only [qAc.j0, if_true]) (Ev.now _)
theorem shaped_ev (h0 : l0.length ≤ 4611686018427387904) (h2 : l2.length ≤ 4611686018427387904) (h3 : l3.length ≤ 4611686018427387904) (hu : l3.all u64S = true) : Ev (fun k => qAc.f k l0 a1 l2 (l3.map toRI)) (okFn l0 a1 l2 l3) := by
 have hyes : Ev (fun k => qAc.j0 k false l0 a1 l2 (l3.map toRI)) (l0.all okT && (l2.all okT && l3.all okS)) :=
  Ev.step (fun k => by simp only [qAc.j0]; rw [if_neg (by decide)]) (sh0_ev l0 a1 l2 l3 h0 h2 h3 hu l0.length 0 (by omega) (by omega))
 have hno := sh_no l0 a1 l2 l3
 unfold okFn
 by_cases c0 : l0.length ≤ 8
 rotate_left
 ·rw [decide_eq_false c0]
  simp only [Bool.false_and]
  exact Ev.congr (fun k => by unfold qAc.f; rw [if_pos (by omega)]) hno
 by_cases c2 : l2.length ≤ 64
 rotate_left
 ·rw [decide_eq_false c2]
  simp only [Bool.and_false, Bool.false_and]
  exact Ev.congr (fun k => by unfold qAc.f; rw [if_neg (by omega), if_pos (by omega)]) hno
 by_cases c3 : l3.length ≤ 4096
 rotate_left
 ·rw [decide_eq_false c3]
  simp only [Bool.and_false, Bool.false_and]
  exact Ev.congr (fun k => by unfold qAc.f; rw [if_neg (by omega), if_neg (by omega), if_pos (by rw [List.length_map]; omega)]) hno
 rw [decide_eq_true c0, decide_eq_true c2, decide_eq_true c3]
 cases ha : okT a1 with
 | true =>
  refine Ev.congr (f := fun k => qAc.j0 k false l0 a1 l2 (l3.map toRI)) (fun k => ?_) ?_
  ·unfold qAc.f
   rw [if_neg (by omega), if_neg (by omega), if_neg (by rw [List.length_map]; omega), qDj, ha, Option.bind_some]; rfl
  have e : (true && l0.all okT && (a1 == 0 || true) && true && l2.all okT && true && l3.all okS) = (l0.all okT && (l2.all okT && l3.all okS)) := by simp [Bool.and_assoc]
  rw [e]; exact hyes
 | false =>
  have hun : ∀ k, qAc.f k l0 a1 l2 (l3.map toRI) = qAc.j0 k (a1 != 0) l0 a1 l2 (l3.map toRI) := fun k => by
   unfold qAc.f
   rw [if_neg (by omega), if_neg (by omega), if_neg (by rw [List.length_map]; omega), qDj, ha, Option.bind_some]; rfl
  refine Ev.congr hun ?_
  by_cases hz : a1 = 0
  rotate_left
  ·rw [beq_eq_false_iff_ne.mpr hz, bne_iff_ne.mpr hz]
   have e : (true && l0.all okT && (false || false) && true && l2.all okT && true && l3.all okS) = false := by simp
   rw [e]; exact hno
  rw [beq_iff_eq.mpr hz, bne_eq_false_iff_eq.mpr hz]
  have e : (true && l0.all okT && (true || false) && true && l2.all okT && true && l3.all okS) = (l0.all okT && (l2.all okT && l3.all okS)) := by simp [Bool.and_assoc]
  rw [e]; exact hyes
end
def qCI (x : S144) : Int := if x.f0 = 4 ∨ x.f0 = 5 then 1 else if x.f0 = 10 then 2 else 0
theorem open_ev (x : S144) (a b c : Int) : Ev (fun k => qAJ.f k x.f0 a b c) (qCI x) := by
 unfold qCI
 by_cases h4 : x.f0 = 4
 ·rw [if_pos (.inl h4)]
  refine Ev.congr (f := fun k => qAJ.j0 k x.f0 true) (fun k => ?_) (Ev.step (f := fun _ => some 1) (fun k => by simp only [qAJ.j0, if_true]) (Ev.now _))
  unfold qAJ.f; rw [if_pos h4, beq_iff_eq.mpr h4]
 by_cases h5 : x.f0 = 5
 ·rw [if_pos (.inr h5)]
  refine Ev.congr (f := fun k => qAJ.j0 k x.f0 true) (fun k => ?_) (Ev.step (f := fun _ => some 1) (fun k => by simp only [qAJ.j0, if_true]) (Ev.now _))
  unfold qAJ.f; rw [if_neg h4, beq_iff_eq.mpr h5]
 rw [if_neg (by omega)]
 have hun : ∀ k, qAJ.f k x.f0 a b c = qAJ.j0 k x.f0 false := fun k => by
  unfold qAJ.f; rw [if_neg h4, beq_eq_false_iff_ne.mpr h5]
 by_cases h10 : x.f0 = 10
 ·rw [if_pos h10]
  exact Ev.congr hun (Ev.step (f := fun _ => some 2) (fun k => by simp only [qAJ.j0]; rw [if_neg (by decide), if_pos h10]) (Ev.now _))
 rw [if_neg h10]
 exact Ev.congr hun (Ev.step (f := fun _ => some 0) (fun k => by simp only [qAJ.j0]; rw [if_neg (by decide), if_neg h10]) (Ev.now _))
def qC8 (f : Int) : Int → List S144 → List S104 → Option (List S104)
 | _, [], rs => some rs
 | i, x :: xs, rs => if qCI x = 0 then qC8 f (i + 1) xs rs else if x.f1 ≠ 0 then none else match rs with
  | [] => none
  | r :: rs => if r.f0 = f ∧ r.f1 = i ∧ r.f2 = qCI x then qC8 f (i + 1) xs rs else none
def qDq : Int → List S92 → List S104 → Bool
 | _, [], rs => rs.isEmpty
 | f, x :: xs, rs => match qC8 f 0 x.f1.f2 rs with
  | none => false
  | some rs => qDq (f + 1) xs rs
def zOk (x : S144) : Bool := qCI x == 0 || x.f1 == 0
theorem placeOf_eq (f i : Int) (x : S144) : qCx f i x = if qCI x = 0 then [] else [⟨f, i, qCI x, ⟨#[]⟩, ⟨#[]⟩⟩] := by
 unfold qCx qCI
 by_cases h : x.f0 = 4 ∨ x.f0 = 5
 ·rw [if_pos h, if_pos h, if_neg (by decide)]
 rw [if_neg h, if_neg h]
 by_cases h2 : x.f0 = 10
 ·rw [if_pos h2, if_pos h2, if_neg (by decide)]
 rw [if_neg h2, if_neg h2, if_pos rfl]
theorem qDD (f : Int) : ∀ (l : List S144) (i : Int) (rs rest : List S104), (qBP rs (qDv f i l ++ rest) && l.all zOk) = match qC8 f i l rs with
  | none => false
  | some rs' => qBP rs' rest
 | [], i, rs, rest => by simp [qDv, qC8]
 | x :: xs, i, rs, rest => by
  simp only [qDv, qC8, List.all_cons]
  rw [placeOf_eq]
  by_cases h0 : qCI x = 0
  ·rw [if_pos h0, if_pos h0, List.nil_append]
   have hz : zOk x = true := by unfold zOk; rw [beq_iff_eq.mpr h0]; rfl
   rw [hz, Bool.true_and]
   exact qDD f xs (i + 1) rs rest
  rw [if_neg h0, if_neg h0]
  by_cases h1 : x.f1 = 0
  rotate_left
  ·rw [if_pos h1]
   have hz : zOk x = false := by unfold zOk; rw [beq_eq_false_iff_ne.mpr h0, beq_eq_false_iff_ne.mpr h1]; rfl
   rw [hz, Bool.false_and, Bool.and_false]
  rw [if_neg (fun hh => hh h1)]
  have hz : zOk x = true := by unfold zOk; rw [beq_iff_eq.mpr h1, Bool.or_true]
  rw [hz, Bool.true_and]
  cases rs with
  | nil => rfl
  | cons r rs =>
   simp only [List.cons_append, List.nil_append, qBP, Bool.and_assoc]
   by_cases hb : r.f0 = f ∧ r.f1 = i ∧ r.f2 = qCI x
   ·rw [if_pos hb]
    have hbb : qFh r ⟨f, i, qCI x, ⟨#[]⟩, ⟨#[]⟩⟩ = true := by unfold qFh; simp [hb.1, hb.2.1, hb.2.2]
    rw [hbb, Bool.true_and]
    exact qDD f xs (i + 1) rs rest
   rw [if_neg hb]
   have hbb : qFh r ⟨f, i, qCI x, ⟨#[]⟩, ⟨#[]⟩⟩ = false := by
    cases h : qFh r ⟨f, i, qCI x, ⟨#[]⟩, ⟨#[]⟩⟩ with
    | false => rfl
    | true => exact absurd (bareB_eq h) hb
   rw [hbb, Bool.false_and]
theorem qEI : ∀ (l : List S92) (f : Int) (rs : List S104), qDq f l rs = (qBP rs (fnsP f l) && l.all fun x => x.f1.f2.all zOk)
 | [], f, rs => by cases rs <;> simp [qDq, fnsP, qBP]
 | x :: xs, f, rs => by
  simp only [qDq, fnsP, List.all_cons]
  have h := qDD f x.f1.f2 0 rs (fnsP (f + 1) xs)
  cases hz : qC8 f 0 x.f1.f2 rs with
  | none =>
   rw [hz] at h
   rw [← Bool.and_assoc, h]; rfl
  | some rs' =>
   rw [hz] at h
   rw [← Bool.and_assoc, h]
   exact qEI xs (f + 1) rs'
theorem codeP_any (fns : List S92) (f : Int) (c : List S144) (hc : (qAt fns f).f1.f2 = c) : ∀ (d : Nat) (i : Nat), c.length - i = d → i ≤ c.length → ((qDv f (i : Int) (c.drop i)).any fun p => qC4 fns p != 0) = !(c.drop i).all zOk := by
 intro d
 induction d with
 | zero => intro i hd hi; rw [List.drop_eq_nil_of_le (by omega)]; rfl
 | succ d ih =>
  intro i hd hi
  have hlt : i < c.length := by omega
  rw [List.drop_eq_getElem_cons hlt]
  simp only [qDv, List.any_append, List.all_cons, Bool.not_and]
  have := ih (i + 1) (by omega) (by omega)
  rw [show ((i + 1 : Nat) : Int) = (i : Int) + 1 from rfl] at this
  rw [this, placeOf_eq]
  congr 1
  by_cases h0 : qCI c[i] = 0
  ·rw [if_pos h0]
   unfold zOk; rw [beq_iff_eq.mpr h0]; rfl
  rw [if_neg h0]
  have hn : qC4 fns ⟨f, (i : Int), qCI c[i], ⟨#[]⟩, ⟨#[]⟩⟩ = c[i].f1 := by
   unfold qC4
   simp only
   rw [hc]
   unfold qAL
   rw [Int.toNat_natCast, List.getD_eq_getElem?_getD, List.getElem?_eq_getElem hlt]; rfl
  simp only [List.any_cons, List.any_nil, Bool.or_false, hn]
  unfold zOk; rw [beq_eq_false_iff_ne.mpr h0, Bool.false_or]; rfl
theorem fnsP_any (fns : List S92) : ∀ (d : Nat) (f : Nat), fns.length - f = d → f ≤ fns.length → ((fnsP (f : Int) (fns.drop f)).any fun p => qC4 fns p != 0) = !(fns.drop f).all fun x => x.f1.f2.all zOk := by
 intro d
 induction d with
 | zero => intro f hd hf; rw [List.drop_eq_nil_of_le (by omega)]; rfl
 | succ d ih =>
  intro f hd hf
  have hlt : f < fns.length := by omega
  rw [List.drop_eq_getElem_cons hlt]
  simp only [fnsP, List.any_append, List.all_cons, Bool.not_and]
  have := ih (f + 1) (by omega) (by omega)
  rw [show ((f + 1 : Nat) : Int) = (f : Int) + 1 from rfl] at this
  rw [this]
  congr 1
  have hrd : (qAt fns (f : Int)).f1.f2 = fns[f].f1.f2 := by
   unfold qAt
   rw [Int.toNat_natCast, List.getD_eq_getElem?_getD, List.getElem?_eq_getElem hlt]; rfl
  have := codeP_any fns f fns[f].f1.f2 hrd _ 0 rfl (Nat.zero_le _)
  simpa using this
theorem places_any (fns : List S92) : ((qB7 fns).any fun p => qC4 fns p != 0) = !fns.all fun x => x.f1.f2.all zOk := by
 have := fnsP_any fns fns.length 0 rfl (Nat.zero_le _)
 simpa [qB7] using this
section
variable (m : ByteArray) (V : List S95) (fns : List S92) (rels : List S104)
theorem pl1_ev (hl : rels.length ≤ 4611686018427387904) (f : Int) (c : List S144) (hc : c.length ≤ 4611686018427387904) (R : Bool)
  (hrest : ∀ n : Int, 0 ≤ n → n ≤ rels.length → qC8 f 0 c rels = qC8 f 0 c rels → ∀ rs, rs = rels.drop n.toNat → Ev (fun k => qAp.l0 k n (wrap64 (f + 1)) m V (fns.map toRN) (rels.map toRR)) (qDq (f + 1) (fns.drop (f + 1).toNat) rs)) :
  ∀ (d : Nat) (i n : Int), 0 ≤ i → (c.length : Int) - i = d → 0 ≤ n → n ≤ rels.length →
  Ev (fun k => qAp.l1 k n f (c.map toRI) i m V (fns.map toRN) (rels.map toRR)) (match qC8 f i (c.drop i.toNat) (rels.drop n.toNat) with
    | none => false
    | some rs => qDq (f + 1) (fns.drop (f + 1).toNat) rs) := by
 intro d
 induction d with
 | zero =>
  intro i n h0 hd hn hn2
  rw [List.drop_eq_nil_of_le (by omega)]
  simp only [qC8]
  refine Ev.step (fun k => ?_) (hrest n hn hn2 rfl _ rfl)
  simp only [qAp.l1]; rw [if_neg (by rw [List.length_map]; omega)]
 | succ d ih =>
  intro i n h0 hd hn hn2
  have hw := qB1 (n := c.length) h0 (by omega) hc
  rw [qAV c z144 i h0 (by omega)]
  have hx : qAv (c.map toRI) i = toRI (c.getD i.toNat z144) := qCR toRI c _ _ i h0 (by omega)
  generalize c.getD i.toNat z144 = x at hx
  have ho := open_ev x x.f1 x.f2.f0 x.f2.f1
  simp only [qC8]
  have hun : ∀ k, qAp.l1 (k + 1) n f (c.map toRI) i m V (fns.map toRN) (rels.map toRR) = (qAJ.f k x.f0 x.f1 x.f2.f0 x.f2.f1).bind fun t => (if t = 0 then (qAp.l1 k n f (c.map toRI) (i + 1) m V (fns.map toRN) (rels.map toRR)) else (if x.f1 = 0 then (qAp.j2 k n f (c.map toRI) i t (n == (rels.length : Int)) m V (fns.map toRN) (rels.map toRR)) else (qAp.j2 k n f (c.map toRI) i t true m V (fns.map toRN) (rels.map toRR)))) := fun k => by
   simp only [qAp.l1, hx, toRI]
   rw [if_pos (by rw [List.length_map]; omega), if_pos h0, hw]
   simp only [List.length_map]
  have hno : ∀ t, Ev (fun k => qAp.j2 k n f (c.map toRI) i t true m V (fns.map toRN) (rels.map toRR)) false := fun t =>
   Ev.step (f := fun _ => some false) (fun k => by simp only [qAp.j2, if_true]) (Ev.now _)
  by_cases hk : qCI x = 0
  ·rw [if_pos hk]
   refine Ev.step hun (Ev.bind ho ?_)
   simp only [hk, if_true]
   exact ih (i + 1) n (by omega) (by omega) hn hn2
  rw [if_neg hk]
  by_cases hf1 : x.f1 = 0
  rotate_left
  ·rw [if_pos hf1]
   refine Ev.step hun (Ev.bind ho ?_)
   simp only [if_neg hk, if_neg hf1]
   exact hno _
  rw [if_neg (fun hh => hh hf1)]
  refine Ev.step hun (Ev.bind ho ?_)
  simp only [if_neg hk, if_pos hf1]
  by_cases hlen : n = rels.length
  ·rw [List.drop_eq_nil_of_le (by omega), beq_iff_eq.mpr hlen]
   exact hno _
  rw [beq_eq_false_iff_ne.mpr hlen]
  rw [qAV rels z104 n hn (by omega)]
  have hr : qAj (rels.map toRR) n = toRR (rels.getD n.toNat z104) := qCR toRR rels _ _ n hn (by omega)
  generalize rels.getD n.toNat z104 = r at hr
  have hwn := qB1 (n := rels.length) hn (by omega) hl
  have hun2 : ∀ k, qAp.j2 (k + 1) n f (c.map toRI) i (qCI x) false m V (fns.map toRN) (rels.map toRR) = (if r.f0 = f then (if r.f1 = i then (if r.f2 = qCI x then qAp.l1 k (n + 1) f (c.map toRI) (i + 1) m V (fns.map toRN) (rels.map toRR) else some false) else some false) else some false) := fun k => by
   simp only [qAp.j2, hr, toRR]
   rw [if_neg (by decide), if_pos hn, if_pos (by rw [List.length_map]; omega), hw, hwn]
  by_cases b0 : r.f0 = f
  rotate_left
  ·simp only [if_neg (show ¬ (r.f0 = f ∧ r.f1 = i ∧ r.f2 = qCI x) from fun hh => b0 hh.1)]
   refine Ev.step (f := fun _ => some false) (fun k => (hun2 k).trans ?_) (Ev.now _)
   rw [if_neg b0]
  by_cases b1 : r.f1 = i
  rotate_left
  ·simp only [if_neg (show ¬ (r.f0 = f ∧ r.f1 = i ∧ r.f2 = qCI x) from fun hh => b1 hh.2.1)]
   refine Ev.step (f := fun _ => some false) (fun k => (hun2 k).trans ?_) (Ev.now _)
   rw [if_pos b0, if_neg b1]
  by_cases b2 : r.f2 = qCI x
  rotate_left
  ·simp only [if_neg (show ¬ (r.f0 = f ∧ r.f1 = i ∧ r.f2 = qCI x) from fun hh => b2 hh.2.2)]
   refine Ev.step (f := fun _ => some false) (fun k => (hun2 k).trans ?_) (Ev.now _)
   rw [if_pos b0, if_pos b1, if_neg b2]
  simp only [if_pos (show r.f0 = f ∧ r.f1 = i ∧ r.f2 = qCI x from ⟨b0, b1, b2⟩)]
  refine Ev.step (fun k => (hun2 k).trans ?_) (ih (i + 1) (n + 1) (by omega) (by omega) (by omega) (by omega))
  rw [if_pos b0, if_pos b1, if_pos b2]
theorem pl0_ev (hl : rels.length ≤ 4611686018427387904) (hfl : fns.length ≤ 2305843009213693952) (hf : ∀ x ∈ fns, x.f1.f2.length ≤ 4611686018427387904) : ∀ (d : Nat) (f n : Int), 0 ≤ f → (fns.length : Int) - f = d → 0 ≤ n → n ≤ rels.length →
  Ev (fun k => qAp.l0 k n f m V (fns.map toRN) (rels.map toRR)) (qDq f (fns.drop f.toNat) (rels.drop n.toNat)) := by
 intro d
 induction d with
 | zero =>
  intro f n h0 hd hn hn2
  rw [List.drop_eq_nil_of_le (by omega)]
  simp only [qDq]
  refine Ev.step (f := fun _ => some (n == (rels.length : Int))) (fun k => ?_) (by
    have e : (rels.drop n.toNat).isEmpty = (n == (rels.length : Int)) := by
      by_cases h : n = rels.length
      · rw [List.drop_eq_nil_of_le (by omega), beq_iff_eq.mpr h]; rfl
      rw [beq_eq_false_iff_ne.mpr h, qAV rels z104 n hn (by omega)]; rfl
    rw [e]; exact Ev.now _)
  simp only [qAp.l0, List.length_map]; rw [if_neg (by omega)]
 | succ d ih =>
  intro f n h0 hd hn hn2
  have hw := qB1 (n := fns.length) h0 (by omega) (by omega)
  rw [qAV fns z92 f h0 (by omega)]
  have hx : qAz (fns.map toRN) f = toRN (fns.getD f.toNat z92) := qCR toRN fns _ _ f h0 (by omega)
  have hm := qCc fns z92 f h0 (by omega)
  have hlx := hf _ hm
  generalize fns.getD f.toNat z92 = x at hx hm hlx
  simp only [qDq]
  have h1 := pl1_ev m V fns rels hl f x.f1.f2 hlx true (fun n hn hn2 _ rs hrs => by
    rw [hw, hrs]
    exact ih (f + 1) n (by omega) (by omega) hn hn2) x.f1.f2.length 0 n (by omega) (by omega) hn hn2
  refine Ev.step (fun k => ?_) h1
  simp only [qAp.l0, hx, toRN]
  rw [if_pos (by rw [List.length_map]; omega), if_pos h0]
theorem placed_ev (hl : rels.length ≤ 4611686018427387904) (hfl : fns.length ≤ 2305843009213693952) (hf : ∀ x ∈ fns, x.f1.f2.length ≤ 4611686018427387904) : Ev (fun k => qAp.f k m V (fns.map toRN) (rels.map toRR)) (qBP rels (qB7 fns) && !((qB7 fns).any fun p => qC4 fns p != 0)) := by
 have h := pl0_ev m V fns rels hl hfl hf fns.length 0 0 (by omega) (by omega) (by omega) (by omega)
 rw [qEI] at h
 rw [places_any, Bool.not_not]
 exact h
end
section
variable (m : ByteArray) (vars : List S85) (fns : List S92) (rels : List S104)
theorem hasB_map {α : Type} (f : α → ByteArray) (x : α) (xs : List α) (s : ByteArray) : hasB ((x :: xs).map f) s = (s.toList == (f x).toList || hasB (xs.map f) s) := by
 unfold hasB; rw [List.map_cons, List.any_cons]
theorem defv_ev (hl : vars.length ≤ 4611686018427387904) (a b c : Int) (e s : ByteArray) : ∀ (d : Nat) (i : Int), 0 ≤ i → (vars.length : Int) - i = d →
  Ev (fun k => qA0.l0 k i m (vars.map toRV) (fns.map toRN) (rels.map toRR) a b c e s) (hasB ((vars.drop i.toNat).map (·.f0)) s) := by
 intro d
 induction d with
 | zero =>
  intro i h0 hd
  rw [List.drop_eq_nil_of_le (by omega)]
  refine Ev.step (f := fun _ => some false) (fun k => ?_) (Ev.now _)
  simp only [qA0.l0]; rw [if_neg (by rw [List.length_map]; omega)]
 | succ d ih =>
  intro i h0 hd
  have hw := qB1 (n := vars.length) h0 (by omega) hl
  rw [qAV vars z85 i h0 (by omega), hasB_map]
  have hx : qBq (vars.map toRV) i = toRV (vars.getD i.toNat z85) := qCR toRV vars _ _ i h0 (by omega)
  generalize vars.getD i.toNat z85 = x at hx
  by_cases he : x.f0.toList = s.toList
  ·rw [beq_iff_eq.mpr he.symm, Bool.true_or]
   refine Ev.step (f := fun _ => some true) (fun k => ?_) (Ev.now _)
   simp only [qA0.l0, hx, toRV]
   rw [if_pos (by rw [List.length_map]; omega), if_pos h0, if_pos he]
  rw [beq_eq_false_iff_ne.mpr (fun h => he h.symm), Bool.false_or]
  refine Ev.step (fun k => ?_) (ih (i + 1) (by omega) (by omega))
  simp only [qA0.l0, hx, toRV]
  rw [if_pos (by rw [List.length_map]; omega), if_pos h0, if_neg he, hw]
theorem deff_ev (hl : fns.length ≤ 4611686018427387904) (a b c : Int) (e s : ByteArray) : ∀ (d : Nat) (i : Int), 0 ≤ i → (fns.length : Int) - i = d →
  Ev (fun k => qA0.l1 k i m (vars.map toRV) (fns.map toRN) (rels.map toRR) a b c e s) (hasB ((fns.drop i.toNat).map (·.f0)) s) := by
 intro d
 induction d with
 | zero =>
  intro i h0 hd
  rw [List.drop_eq_nil_of_le (by omega)]
  refine Ev.step (f := fun _ => some false) (fun k => ?_) (Ev.now _)
  simp only [qA0.l1]; rw [if_neg (by rw [List.length_map]; omega)]
 | succ d ih =>
  intro i h0 hd
  have hw := qB1 (n := fns.length) h0 (by omega) hl
  rw [qAV fns z92 i h0 (by omega), hasB_map]
  have hx : qAz (fns.map toRN) i = toRN (fns.getD i.toNat z92) := qCR toRN fns _ _ i h0 (by omega)
  generalize fns.getD i.toNat z92 = x at hx
  by_cases he : x.f0.toList = s.toList
  ·rw [beq_iff_eq.mpr he.symm, Bool.true_or]
   refine Ev.step (f := fun _ => some true) (fun k => ?_) (Ev.now _)
   simp only [qA0.l1, hx, toRN]
   rw [if_pos (by rw [List.length_map]; omega), if_pos h0, if_pos he]
  rw [beq_eq_false_iff_ne.mpr (fun h => he h.symm), Bool.false_or]
  refine Ev.step (fun k => ?_) (ih (i + 1) (by omega) (by omega))
  simp only [qA0.l1, hx, toRN]
  rw [if_pos (by rw [List.length_map]; omega), if_pos h0, if_neg he, hw]
theorem def_ev (hv : vars.length ≤ 4611686018427387904) (hf : fns.length ≤ 4611686018427387904) (a b c : Int) (e s : ByteArray) :
  Ev (fun k => qA0.f k m (vars.map toRV) (fns.map toRN) (rels.map toRR) a b c e s) (if c = 1 then hasB (vars.map (·.f0)) s else hasB (fns.map (·.f0)) s) := by
 by_cases h : c = 1
 ·rw [if_pos h]
  exact Ev.congr (fun k => by unfold qA0.f; rw [if_pos h]) (defv_ev m vars fns rels hv a b c e s vars.length 0 (by omega) (by omega))
 ·rw [if_neg h]
  exact Ev.congr (fun k => by unfold qA0.f; rw [if_neg h]) (deff_ev m vars fns rels hf a b c e s fns.length 0 (by omega) (by omega))
theorem r2_ev (hr : rels.length ≤ 4611686018427387904) (hv : vars.length ≤ 4611686018427387904) (hf : fns.length ≤ 4611686018427387904) (hk : ∀ r ∈ rels, r.f2 = 1 ∨ r.f2 = 2) : ∀ (d : Nat) (i : Int), 0 ≤ i → (rels.length : Int) - i = d →
  Ev (fun k => qAd.l2 k i m (vars.map toRV) (fns.map toRN) (rels.map toRR)) (if (rels.drop i.toNat).any (qC5 m (vars.map (·.f0)) (fns.map (·.f0))) = true then 52 else 0) := by
 intro d
 induction d with
 | zero =>
  intro i h0 hd
  rw [List.drop_eq_nil_of_le (by omega)]
  refine Ev.step (f := fun _ => some 0) (fun k => ?_) (Ev.now _)
  simp only [qAd.l2]; rw [if_neg (by rw [List.length_map]; omega)]
 | succ d ih =>
  intro i h0 hd
  have hw := qB1 (n := rels.length) h0 (by omega) hr
  rw [qAV rels z104 i h0 (by omega), List.any_cons]
  have hx : qAj (rels.map toRR) i = toRR (rels.getD i.toNat z104) := qCR toRR rels _ _ i h0 (by omega)
  have hkx := hk _ (qCc rels z104 i h0 (by omega))
  generalize rels.getD i.toNat z104 = x at hx hkx
  have hdef := def_ev m vars fns rels hv hf x.f0 x.f1 x.f2 x.f3 x.f4
  have hrec := ih (i + 1) (by omega) (by omega)
  by_cases ho : x.f3.toList = m.toList
  rotate_left
  ·have hrb : qC5 m (vars.map (·.f0)) (fns.map (·.f0)) x = decide (x.f2 = 1) := by unfold qC5; rw [if_neg ho]
   rw [hrb]
   by_cases h1 : x.f2 = 1
   rotate_left
   ·rw [decide_eq_false h1, Bool.false_or]
    refine Ev.step (fun k => ?_) hrec
    simp only [qAd.l2, hx, toRR]
    rw [if_pos (by rw [List.length_map]; omega), if_pos h0, if_neg ho, if_neg h1, hw]
   rw [decide_eq_true h1, Bool.true_or, if_pos rfl]
   refine Ev.step (f := fun _ => some 52) (fun k => ?_) (Ev.now _)
   simp only [qAd.l2, hx, toRR]
   rw [if_pos (by rw [List.length_map]; omega), if_pos h0, if_neg ho, if_pos h1]
  have hrb : qC5 m (vars.map (·.f0)) (fns.map (·.f0)) x = !(if x.f2 = 1 then hasB (vars.map (·.f0)) x.f4 else hasB (fns.map (·.f0)) x.f4) := by
   unfold qC5
   rw [if_pos ho]
   by_cases h1 : x.f2 = 1
   ·rw [if_pos h1, if_pos h1]
   rw [if_neg h1, if_neg h1, if_pos (by omega)]
  rw [hrb]
  refine Ev.step (f := fun k => (qA0.f k m (vars.map toRV) (fns.map toRN) (rels.map toRR) x.f0 x.f1 x.f2 x.f3 x.f4).bind fun t => (if t = true then qAd.l2 k (i + 1) m (vars.map toRV) (fns.map toRN) (rels.map toRR) else some 52)) (fun k => ?_) (Ev.bind hdef ?_)
  ·simp only [qAd.l2, hx, toRR]
   rw [if_pos (by rw [List.length_map]; omega), if_pos h0, if_pos ho, hw]
  cases (if x.f2 = 1 then hasB (vars.map (·.f0)) x.f4 else hasB (fns.map (·.f0)) x.f4) with
  | false => simp; exact Ev.now _
  | true => simpa using hrec
theorem relNames_s (x : S104) (xs : List S104) (h : Names.nameE x.f3 = 0) (h2 : Names.nameE x.f4 = 0) : qB3 (x :: xs) = qB3 xs := by
 rw [qB3, if_neg (fun q => q h), if_neg (fun q => q h2)]
theorem relNames_a (x : S104) (xs : List S104) (h : Names.nameE x.f3 ≠ 0) : qB3 (x :: xs) = Names.nameE x.f3 := by
 rw [qB3, if_pos h]
theorem relNames_b (x : S104) (xs : List S104) (h : Names.nameE x.f3 = 0) (h2 : Names.nameE x.f4 ≠ 0) : qB3 (x :: xs) = Names.nameE x.f4 := by
 rw [qB3, if_neg (fun q => q h), if_pos h2]
theorem varsE_s (a : List ByteArray) (x : S85) (xs : List S85) (h : qBy x.f0 a = 0) (h2 : okV x.f1.f0 x.f1.f1 = true) : qDt a (x :: xs) = qDt (a ++ [x.f0]) xs := by
 rw [qDt, if_neg (fun q => q h), if_neg (by rw [h2]; decide)]
theorem varsE_a (a : List ByteArray) (x : S85) (xs : List S85) (h : qBy x.f0 a ≠ 0) : qDt a (x :: xs) = qBy x.f0 a := by
 rw [qDt, if_pos h]
theorem varsE_b (a : List ByteArray) (x : S85) (xs : List S85) (h : qBy x.f0 a = 0) (h2 : okV x.f1.f0 x.f1.f1 = false) : qDt a (x :: xs) = 52 := by
 rw [qDt, if_neg (fun q => q h), if_pos h2]
theorem fnsE_s (a : List ByteArray) (x : S92) (xs : List S92) (h : qBy x.f0 a = 0) (h2 : fnOk x = true) : fnsE a (x :: xs) = fnsE (a ++ [x.f0]) xs := by
 rw [fnsE, if_neg (fun q => q h), if_neg (by rw [h2]; decide)]
theorem fnsE_a (a : List ByteArray) (x : S92) (xs : List S92) (h : qBy x.f0 a ≠ 0) : fnsE a (x :: xs) = qBy x.f0 a := by
 rw [fnsE, if_pos h]
theorem fnsE_b (a : List ByteArray) (x : S92) (xs : List S92) (h : qBy x.f0 a = 0) (h2 : fnOk x = false) : fnsE a (x :: xs) = 52 := by
 rw [fnsE, if_neg (fun q => q h), if_pos h2]
theorem r1_ev (hr : rels.length ≤ 4611686018427387904) (hs : ∀ r ∈ rels, qEr r.f3 ∧ qEr r.f4) (hv : vars.length ≤ 4611686018427387904) (hf : fns.length ≤ 4611686018427387904) (hk : ∀ r ∈ rels, r.f2 = 1 ∨ r.f2 = 2) : ∀ (d : Nat) (i : Int), 0 ≤ i → (rels.length : Int) - i = d →
  Ev (fun k => qAd.l1 k i m (vars.map toRV) (fns.map toRN) (rels.map toRR)) (if qB3 (rels.drop i.toNat) ≠ 0 then qB3 (rels.drop i.toNat) else if rels.any (qC5 m (vars.map (·.f0)) (fns.map (·.f0))) = true then 52 else 0) := by
 intro d
 induction d with
 | zero =>
  intro i h0 hd
  rw [List.drop_eq_nil_of_le (by omega)]
  refine Ev.step (fun k => ?_) (r2_ev m vars fns rels hr hv hf hk rels.length 0 (by omega) (by omega))
  simp only [qAd.l1]; rw [if_neg (by rw [List.length_map]; omega)]
 | succ d ih =>
  intro i h0 hd
  have hw := qB1 (n := rels.length) h0 (by omega) hr
  rw [qAV rels z104 i h0 (by omega)]
  have hx : qAj (rels.map toRR) i = toRR (rels.getD i.toNat z104) := qCR toRR rels _ _ i h0 (by omega)
  have hsx := hs _ (qCc rels z104 i h0 (by omega))
  generalize rels.getD i.toNat z104 = x at hx hsx
  have hn3 : qAG.f x.f3 = some (Names.nameE x.f3) := if_pos hsx.1
  have hn4 : qAG.f x.f4 = some (Names.nameE x.f4) := if_pos hsx.2
  have hun : ∀ k, qAd.l1 (k + 1) i m (vars.map toRV) (fns.map toRN) (rels.map toRR) = (if Names.nameE x.f3 = 0 then (if Names.nameE x.f4 = 0 then qAd.l1 k (i + 1) m (vars.map toRV) (fns.map toRN) (rels.map toRR) else some (Names.nameE x.f4)) else some (Names.nameE x.f3)) := fun k => by
   simp only [qAd.l1, hx, toRR]
   rw [if_pos (by rw [List.length_map]; omega), if_pos h0, hn3, Option.bind_some, hn4, Option.bind_some, hw]
  by_cases h3 : Names.nameE x.f3 = 0
  rotate_left
  ·rw [relNames_a _ _ h3, if_pos h3]
   refine Ev.step (f := fun _ => some (Names.nameE x.f3)) (fun k => (hun k).trans ?_) (Ev.now _)
   rw [if_neg h3]
  by_cases h4 : Names.nameE x.f4 = 0
  ·rw [relNames_s _ _ h3 h4]
   refine Ev.step (fun k => (hun k).trans ?_) (ih (i + 1) (by omega) (by omega))
   rw [if_pos h3, if_pos h4]
  rw [relNames_b _ _ h3 h4, if_pos h4]
  refine Ev.step (f := fun _ => some (Names.nameE x.f4)) (fun k => (hun k).trans ?_) (Ev.now _)
  rw [if_pos h3, if_neg h4]
theorem kinds_of (h : qBP rels (qB7 fns) = true) : ∀ r ∈ rels, r.f2 = 1 ∨ r.f2 = 2 := by
 intro r hr
 obtain ⟨y, hy, hb⟩ := qE0 _ _ h r hr
 have h2 := (bareB_eq hb).2.2
 have : ∀ (l : List S144) (f i : Int) (p : S104), p ∈ qDv f i l → p.f2 = 1 ∨ p.f2 = 2 := by
  intro l
  induction l with
  | nil => intro f i p hp; simp [qDv] at hp
  | cons x xs ih =>
   intro f i p hp
   simp only [qDv, List.mem_append] at hp
   rcases hp with hp | hp
   ·unfold qCx at hp
    (repeat' split at hp) <;> simp at hp <;> subst hp <;> simp
   exact ih f (i + 1) p hp
 have : ∀ (l : List S92) (f : Int) (p : S104), p ∈ fnsP f l → p.f2 = 1 ∨ p.f2 = 2 := by
  intro l
  induction l with
  | nil => intro f p hp; simp [fnsP] at hp
  | cons x xs ih =>
   intro f p hp
   simp only [fnsP, List.mem_append] at hp
   rcases hp with hp | hp
   ·exact this _ _ _ _ hp
   exact ih (f + 1) p hp
 rw [h2]; exact this fns 0 y hy
theorem rend_ev (hg : qDl m vars fns rels) (ahead : List ByteArray) : Ev (fun k => (qAp.f k m (vars.map toRV) (fns.map toRN) (rels.map toRR)).bind fun t => (if t = true then qAd.l1 k 0 m (vars.map toRV) (fns.map toRN) (rels.map toRR) else some 52)) (qDf m fns rels (vars.map (·.f0)) (fns.map (·.f0))) := by
 have h1 := hg.vl
 have h2 := hg.fl
 refine Ev.bind (placed_ev m (vars.map toRV) fns rels hg.rl hg.fl (fun x hx => (hg.f x hx).2.2.2.1)) ?_
 unfold qDf
 cases he : qBP rels (qB7 fns) with
 | false => rw [if_pos rfl]; simp; exact Ev.now _
 | true =>
  rw [if_neg (by decide)]
  cases ha : (qB7 fns).any fun p => qC4 fns p != 0 with
  | true => rw [if_pos rfl]; simp; exact Ev.now _
  | false =>
   rw [if_neg (by decide)]
   simp only [Bool.not_false, Bool.and_true, if_true]
   exact r1_ev m vars fns rels hg.rl hg.r (by omega) (by omega) (kinds_of fns rels he) rels.length 0 (by omega) (by omega)
theorem j1_un (ahead : List ByteArray) (hal : ahead.length ≤ 64) (i : Int) (s : ByteArray) (hs : qEr s) (b : Bool) (R : Int)
  (h : qBy s ahead = 0 → b = true → Ev (fun k => qAd.l0 k (ahead ++ [s]) (wrap64 (i + 1)) m (vars.map toRV) (fns.map toRN) (rels.map toRR)) R)
  (h0 : qBy s ahead ≠ 0 → R = qBy s ahead) (h1 : qBy s ahead = 0 → b = false → R = 52) :
  Ev (fun k => qAd.j1 k ahead i s b m (vars.map toRV) (fns.map toRN) (rels.map toRR)) R := by
 have hn : qAG.f s = some (Names.nameE s) := if_pos hs
 have hh := has_ev ahead s (by omega)
 unfold qBy at h h0 h1
 by_cases hz : Names.nameE s = 0
 ·rw [if_neg (fun q => q hz)] at h h0 h1
  refine Ev.step (f := fun k => (qB4.f k ahead s).bind fun t => (if t = true then some 20 else (if b = true then (if ahead.length < 8796093022208 then qAd.l0 k (ahead ++ [s]) (wrap64 (i + 1)) m (vars.map toRV) (fns.map toRN) (rels.map toRR) else none) else some 52))) (fun k => ?_) (Ev.bind hh ?_)
  ·simp only [qAd.j1]
   rw [hn, Option.bind_some, if_pos hz]
  ·cases hb : hasB ahead s with
   | true =>
    rw [hb] at h0
    rw [h0 (by simp)]
    simp; exact Ev.now _
   | false =>
    rw [hb] at h h1
    cases b with
    | true =>
     have := h (by simp) rfl
     simpa [show ahead.length < 8796093022208 from by omega] using this
    | false =>
     rw [h1 (by simp) rfl]
     simp; exact Ev.now _
 ·rw [if_pos hz] at h0
  rw [h0 hz]
  refine Ev.step (f := fun _ => some (Names.nameE s)) (fun k => ?_) (Ev.now _)
  simp only [qAd.j1]
  rw [hn, Option.bind_some, if_neg hz]
theorem rf_ev (hg : qDl m vars fns rels) (hc : vars.length + fns.length ≤ 64) : ∀ (d : Nat) (j : Nat) (ahead : List ByteArray), fns.length - j = d → j ≤ fns.length → ahead.length = vars.length + j →
  Ev (fun k => qAd.l0 k ahead ((vars.length + j : Nat) : Int) m (vars.map toRV) (fns.map toRN) (rels.map toRR)) (if fnsE ahead (fns.drop j) ≠ 0 then fnsE ahead (fns.drop j) else qDf m fns rels (vars.map (·.f0)) (fns.map (·.f0))) := by
 have hsum : wrap64 (((vars.map toRV).length : Int) + ((fns.map toRN).length : Int)) = (vars.length : Int) + (fns.length : Int) := by rw [List.length_map, List.length_map]; exact qFb hg.vl hg.fl
 intro d
 induction d with
 | zero =>
  intro j ahead hd hj hal
  rw [List.drop_eq_nil_of_le (by omega)]
  simp only [fnsE, ne_eq, not_true_eq_false, if_false]
  refine Ev.step (fun k => ?_) (rend_ev m vars fns rels hg ahead)
  simp only [qAd.l0]
  rw [hsum, if_neg (by omega)]
 | succ d ih =>
  intro j ahead hd hj hal
  have hlt : j < fns.length := by omega
  rw [List.drop_eq_getElem_cons hlt]
  have hx : qAz (fns.map toRN) (j : Int) = toRN fns[j] := by
   have := qCR toRN fns z92 z100 (j : Int) (by omega) (by omega)
   unfold qAz
   rw [this, Int.toNat_natCast, List.getD_eq_getElem?_getD, List.getElem?_eq_getElem hlt]; rfl
  obtain ⟨g1, g2, g3, g4, g5⟩ := hg.f fns[j] (List.getElem_mem hlt)
  generalize hxx : fns[j] = x at hx g1 g2 g3 g4 g5
  have hsh := shaped_ev x.f1.f0.f0 x.f1.f0.f1 x.f1.f1 x.f1.f2 g2 g3 g4 g5
  have hwi : wrap64 (((vars.length + j : Nat) : Int) - ((vars.map toRV).length : Int)) = (j : Int) := by rw [List.length_map]; unfold wrap64; omega
  refine Ev.step (f := fun k => (qAc.f k x.f1.f0.f0 x.f1.f0.f1 x.f1.f1 (x.f1.f2.map toRI)).bind fun t => qAd.j1 k ahead ((vars.length + j : Nat) : Int) x.f0 t m (vars.map toRV) (fns.map toRN) (rels.map toRR)) (fun k => ?_) (Ev.bind hsh ?_)
  ·simp only [qAd.l0]
   rw [hsum, if_pos (by omega), if_neg (by rw [List.length_map]; omega), hwi, if_pos (by omega), if_pos (by rw [List.length_map]; omega), hx]
   rfl
  refine j1_un m vars fns rels ahead (by omega) _ x.f0 g1 _ _ (fun hz hb => ?_) (fun hz => ?_) (fun hz hb => ?_)
  ·have hb' : fnOk x = true := hb
   have hrec := ih (j + 1) (ahead ++ [x.f0]) (by omega) (by omega) (by simp [hal]; omega)
   have hw : wrap64 (((vars.length + j : Nat) : Int) + 1) = ((vars.length + (j + 1) : Nat) : Int) := by unfold wrap64; omega
   rw [hw]
   rw [fnsE_s _ _ _ hz hb']
   exact hrec
  ·rw [fnsE_a _ _ _ hz, if_pos hz]
  have hb' : fnOk x = false := hb
  rw [fnsE_b _ _ _ hz hb']; rfl
theorem rv_ev (hg : qDl m vars fns rels) (hc : vars.length + fns.length ≤ 64) : ∀ (d : Nat) (j : Nat) (ahead : List ByteArray), vars.length - j = d → j ≤ vars.length → ahead = (vars.take j).map (·.f0) →
  Ev (fun k => qAd.l0 k ahead (j : Int) m (vars.map toRV) (fns.map toRN) (rels.map toRR)) (if qDt ahead (vars.drop j) ≠ 0 then qDt ahead (vars.drop j) else if fnsE (vars.map (·.f0)) fns ≠ 0 then fnsE (vars.map (·.f0)) fns else qDf m fns rels (vars.map (·.f0)) (fns.map (·.f0))) := by
 have hsum : wrap64 (((vars.map toRV).length : Int) + ((fns.map toRN).length : Int)) = (vars.length : Int) + (fns.length : Int) := by rw [List.length_map, List.length_map]; exact qFb hg.vl hg.fl
 intro d
 induction d with
 | zero =>
  intro j ahead hd hj ha
  obtain rfl : j = vars.length := by omega
  rw [List.drop_eq_nil_of_le (Nat.le_refl _)]
  rw [List.take_of_length_le (Nat.le_refl _)] at ha
  simp only [qDt, ne_eq, not_true_eq_false, if_false]
  have h := rf_ev m vars fns rels hg hc fns.length 0 ahead (by omega) (by omega) (by rw [ha]; simp)
  rw [ha] at h ⊢
  exact h
 | succ d ih =>
  intro j ahead hd hj ha
  have hlt : j < vars.length := by omega
  rw [List.drop_eq_getElem_cons hlt]
  have hx : qBq (vars.map toRV) (j : Int) = toRV vars[j] := by
   have := qCR toRV vars z85 z95 (j : Int) (by omega) (by omega)
   unfold qBq
   rw [this, Int.toNat_natCast, List.getD_eq_getElem?_getD, List.getElem?_eq_getElem hlt]; rfl
  obtain ⟨g1, g2, g3⟩ := hg.v vars[j] (List.getElem_mem hlt)
  have htk : (vars.take (j + 1)).map (·.f0) = ahead ++ [vars[j].f0] := by rw [List.take_succ_eq_append_getElem hlt, List.map_append, ha]; rfl
  generalize hxx : vars[j] = x at hx g1 g2 g3 htk
  have hrt : qBD.f x.f1.f0 x.f1.f1 = some (okV x.f1.f0 x.f1.f1) := if_pos ⟨g2, g3⟩
  have hal : ahead.length ≤ 64 := by rw [ha]; simp; omega
  refine Ev.step (f := fun k => qAd.j1 k ahead (j : Int) x.f0 (okV x.f1.f0 x.f1.f1) m (vars.map toRV) (fns.map toRN) (rels.map toRR)) (fun k => ?_) ?_
  ·simp only [qAd.l0]
   rw [hsum, if_pos (by omega), if_pos (by rw [List.length_map]; omega), if_pos (by omega), hx]
   simp only [toRV]
   rw [hrt, Option.bind_some]
  refine j1_un m vars fns rels ahead hal _ x.f0 g1 _ _ (fun hz hb => ?_) (fun hz => ?_) (fun hz hb => ?_)
  ·have hrec := ih (j + 1) (ahead ++ [x.f0]) (by omega) (by omega) htk.symm
   have hw : wrap64 ((j : Int) + 1) = ((j + 1 : Nat) : Int) := by unfold wrap64; omega
   rw [hw]
   rw [varsE_s _ _ _ hz hb]
   exact hrec
  ·rw [varsE_a _ _ _ hz, if_pos hz]
  rw [varsE_b _ _ _ hz hb]; rfl
theorem rright_ev (hg : qDl m vars fns rels) : Ev (fun k => qAd.f k m (vars.map toRV) (fns.map toRN) (rels.map toRR)) (qBR m vars fns rels) := by
 have hn : qAG.f m = some (Names.nameE m) := if_pos hg.m
 have hsum : wrap64 (((vars.map toRV).length : Int) + ((fns.map toRN).length : Int)) = (vars.length : Int) + (fns.length : Int) := by rw [List.length_map, List.length_map]; exact qFb hg.vl hg.fl
 have hunf : ∀ k, qAd.f k m (vars.map toRV) (fns.map toRN) (rels.map toRR) = (if Names.nameE m = 0 then (if (vars.length : Int) + (fns.length : Int) > 64 then some 3 else qAd.l0 k [] 0 m (vars.map toRV) (fns.map toRN) (rels.map toRR)) else some (Names.nameE m)) := fun k => by
  unfold qAd.f
  rw [hn, hsum, Option.bind_some]
 refine Ev.congr hunf ?_
 unfold qBR
 by_cases h : Names.nameE m = 0
 rotate_left
 ·rw [if_pos h]
  simp only [if_neg h]
  exact Ev.now _
 rw [if_neg (fun hh => hh h)]
 simp only [if_pos h]
 by_cases hc : 64 < vars.length + fns.length
 ·rw [if_pos hc]
  have hc' : (vars.length : Int) + (fns.length : Int) > 64 := by omega
  simp only [if_pos hc']
  exact Ev.now _
 rw [if_neg hc]
 have hc' : ¬ (vars.length : Int) + (fns.length : Int) > 64 := by omega
 simp only [if_neg hc']
 exact rv_ev m vars fns rels hg (by omega) vars.length 0 [] (by omega) (by omega) (by simp)
end
end Q
end
section
namespace Q
open Go.RowKit PA PC PB
attribute [local go_sem] qAX min2_int qBi min_two max_three min_three max_four min_four
def qEF.f (k : Nat)  : Option (Bool) := (qBg.f (⟨#[109]⟩ : ByteArray) ([(⟨(⟨#[118]⟩ : ByteArray), (⟨1, 1⟩ : S83)⟩ : S85)] : List (S85)) ([] : List (S92)) ([] : List (S104))).bind fun aD => ((qAb.f k aD.1).bind fun aB => (if aD.2 = 0 then (if aB.2.2.2.2 = 0 then (if (aD.1.length : Int) = 35 then (if 4 ≤ (aD.1.length : Int) then (if (strOfNums (aD.1.take 4)).toList = ([102, 111, 98, 106] : List UInt8) then (if aB.1.toList = ([109] : List UInt8) then (if (aB.2.1.length : Int) = 1 then (if 0 < (aB.2.1.length : Int) then (some (((qBk aB.2.1 0).f1.f1) == 1)) else (none)) else (some false)) else (some false)) else (some false)) else (none)) else (some false)) else (some false)) else (some false)))
theorem qEF.calls (k : Nat)  (r : Bool) (w : World) (h : qEF.f k  = some r) (hr : r = true) :
  Calls Tryz.prog 12 #[] w fun e w' => e = .returned (.bool r) ∧ Below w.heap.size w w' := by
 have HB := am (Below.refl w.heap.size w)
 have H : ((qBg.f (⟨#[109]⟩ : ByteArray) ([(⟨(⟨#[118]⟩ : ByteArray), (⟨1, 1⟩ : S83)⟩ : S85)] : List (S85)) ([] : List (S92)) ([] : List (S104))).bind fun aD => ((qAb.f k aD.1).bind fun aB => (if aD.2 = 0 then (if aB.2.2.2.2 = 0 then (if (aD.1.length : Int) = 35 then (if 4 ≤ (aD.1.length : Int) then (if (strOfNums (aD.1.take 4)).toList = ([102, 111, 98, 106] : List UInt8) then (if aB.1.toList = ([109] : List UInt8) then (if (aB.2.1.length : Int) = 1 then (if 0 < (aB.2.1.length : Int) then (some (((qBk aB.2.1 0).f1.f1) == 1)) else (none)) else (some false)) else (some false)) else (some false)) else (none)) else (some false)) else (some false)) else (some false)))) = some r := h
 clear h
 obtain ⟨aM, a7⟩ : ∃ y_ : List (S85), y_ = ([(⟨(⟨#[118]⟩ : ByteArray), (⟨1, 1⟩ : S83)⟩ : S85)] : List (S85)) := ⟨_, rfl⟩
 replace H : ((qBg.f (⟨#[109]⟩ : ByteArray) aM ([] : List (S92)) ([] : List (S104))).bind fun aD => ((qAb.f k aD.1).bind fun aB => (if aD.2 = 0 then (if aB.2.2.2.2 = 0 then (if (aD.1.length : Int) = 35 then (if 4 ≤ (aD.1.length : Int) then (if (strOfNums (aD.1.take 4)).toList = ([102, 111, 98, 106] : List UInt8) then (if aB.1.toList = ([109] : List UInt8) then (if (aB.2.1.length : Int) = 1 then (if 0 < (aB.2.1.length : Int) then (some (((qBk aB.2.1 0).f1.f1) == 1)) else (none)) else (some false)) else (some false)) else (some false)) else (none)) else (some false)) else (some false)) else (some false)))) = some r := by (rw [a7]; with_reducible exact H)
 have aj := am a7
 clear a7
 replace H := bm H
 obtain ⟨⟨aG, a4⟩, bN, H⟩ := H
 replace H : ((qAb.f k aG).bind fun aB => (if a4 = 0 then (if aB.2.2.2.2 = 0 then (if (aG.length : Int) = 35 then (if 4 ≤ (aG.length : Int) then (if (strOfNums (aG.take 4)).toList = ([102, 111, 98, 106] : List UInt8) then (if aB.1.toList = ([109] : List UInt8) then (if (aB.2.1.length : Int) = 1 then (if 0 < (aB.2.1.length : Int) then (some (((qBk aB.2.1 0).f1.f1) == 1)) else (none)) else (some false)) else (some false)) else (some false)) else (none)) else (some false)) else (some false)) else (some false))) = some r := H
 have A1 := am bN
 clear bN
 replace H := bm H
 obtain ⟨⟨aL, aE, aQ, aS, a9⟩, bO, H⟩ := H
 replace H : (if a4 = 0 then (if a9 = 0 then (if (aG.length : Int) = 35 then (if 4 ≤ (aG.length : Int) then (if (strOfNums (aG.take 4)).toList = ([102, 111, 98, 106] : List UInt8) then (if aL.toList = ([109] : List UInt8) then (if (aE.length : Int) = 1 then (if 0 < (aE.length : Int) then (some (((qBk aE 0).f1.f1) == 1)) else (none)) else (some false)) else (some false)) else (some false)) else (none)) else (some false)) else (some false)) else (some false)) = some r := H
 have A2 := am bO
 clear bO
 by_cases c3 : a4 = 0
 ·rw [if_pos c3] at H
  have bU : (a4 == 0) = true := beq_iff_eq.mpr c3
  have bV : (a4 != 0) = false := bn c3
  clear c3
  by_cases c4 : a9 = 0
  ·rw [if_pos c4] at H
   have bW : (a9 == 0) = true := beq_iff_eq.mpr c4
   have bX : (a9 != 0) = false := bn c4
   clear c4
   by_cases c5 : (aG.length : Int) = 35
   ·rw [if_pos c5] at H
    have bY : ((aG.length : Int) == 35) = true := beq_iff_eq.mpr c5
    have bZ : ((aG.length : Int) != 35) = false := bn c5
    clear c5
    by_cases c6 : 4 ≤ (aG.length : Int)
    ·rw [if_pos c6] at H
     replace c6 := d1 c6
     obtain ⟨aa, a8⟩ : ∃ y_ : List Int, y_ = (aG.take 4) := ⟨_, rfl⟩
     replace H : (if (strOfNums aa).toList = ([102, 111, 98, 106] : List UInt8) then (if aL.toList = ([109] : List UInt8) then (if (aE.length : Int) = 1 then (if 0 < (aE.length : Int) then (some (((qBk aE 0).f1.f1) == 1)) else (none)) else (some false)) else (some false)) else (some false)) = some r := by (rw [a8]; with_reducible exact H)
     have ad := am a8
     clear a8
     by_cases c7 : (strOfNums aa).toList = ([102, 111, 98, 106] : List UInt8)
     ·rw [if_pos c7] at H
      have b1 : ((strOfNums aa).toList == ([102, 111, 98, 106] : List UInt8)) = true := beq_iff_eq.mpr c7
      have b2 : ((strOfNums aa).toList != ([102, 111, 98, 106] : List UInt8)) = false := bn c7
      clear c7
      by_cases c8 : aL.toList = ([109] : List UInt8)
      ·rw [if_pos c8] at H
       have b3 : (aL.toList == ([109] : List UInt8)) = true := beq_iff_eq.mpr c8
       have b4 : (aL.toList != ([109] : List UInt8)) = false := bn c8
       clear c8
       by_cases c9 : (aE.length : Int) = 1
       ·rw [if_pos c9] at H
        have b5 : ((aE.length : Int) == 1) = true := beq_iff_eq.mpr c9
        have b6 : ((aE.length : Int) != 1) = false := bn c9
        clear c9
        by_cases c10 : 0 < (aE.length : Int)
        ·rw [if_pos c10] at H
         replace c10 := d1 c10
         obtain rfl := Option.some.inj H
         go_enter Tryz.func12, Tryz.ntmps12
         go_wp2_with (first | ((with_reducible refine qAK (N := 8) rfl ?_); (try (refine qBO (by rfl) ?_; dsimp only)); refine Kd.R_lit k85 _ 85 ?hg (N := 8) ?hd (xs := ([(⟨(⟨#[118]⟩ : ByteArray), (⟨1, 1⟩ : S83)⟩ : S85)] : List (S85))) (inner := [.string (⟨#[118]⟩ : ByteArray), .int .i64 1, .int .u64 1]) (ok := fun _ => True) (okp := fun _ => True) ?hr ?hp (fun _ hk => hk) trivial (Below.refl _ _) (Nat.le_refl _) (by simp) ?_; (case hd => rfl); (case hg => rfl); (case hr => (go_simp; done)); (case hp => exact (Reps.c3 (show Kd.M k85 _ _ _ (⟨(⟨#[118]⟩ : ByteArray), (⟨1, 1⟩ : S83)⟩ : S85) [.string (⟨#[118]⟩ : ByteArray), .int .i64 1, .int .u64 1] from (k85_mkM _ _ _ (⟨(⟨#[118]⟩ : ByteArray), (⟨1, 1⟩ : S83)⟩ : S85) )) (Reps.none _ _))); intro b8 bg ho12 hb hg_ hnew_; clear hg_ hnew_; (rw [← aj.o] at ho12); have n_ := a2 (Kd.R_lower ho12 (qAf HB.o)) (am (qAe HB.o hb)); clear HB; obtain ⟨aC, HB⟩ := n_; clear hb ho12; obtain ⟨aV, aR, bH⟩ := Kd.R_slice aC.o; subst bH) | ((with_reducible refine qAK (N := 1) rfl ?_); (try (refine qBO (by rfl) ?_; dsimp only)); refine bx 1 #[.string ⟨#[]⟩, .slice none 0 0, .slice none 0 0, .slice none 0 0] 33 ?_; intro aI hg bd hbox hb; have n_ := a2 (Kd.R_below aC.o hb) (a2 (qAe HB.o hb) (a2 (hbox) (am (by rw [hg]; exact (qAf HB.o) : w.heap.size ≤ aI)))); clear aC HB; obtain ⟨aC, HB, aF, ac⟩ := n_; clear hb hbox hg; obtain ⟨al, an, ao, ap⟩ := c4_ bd aF.o; obtain ⟨ay, az, bA, bB⟩ := z4_ aF.o) | ((with_reducible refine qAi (f := 13) rfl ?_); refine gL 12 Tryz.func13 #[.agg #[.string (⟨#[109]⟩ : ByteArray), .slice aV aM.length aR, .slice none 0 0, .slice none 0 0]] ?_; (refine (qBg.calls (⟨#[109]⟩ : ByteArray) _ _ aM _ _ ([] : List (S92)) _ _ ([] : List (S104)) aG a4 _ ?side1 ?side2 ?side3 ?side4 ?side5 ?side6 A1.o).mono ?_); (case side1 => refine (Kd.R_reads' (e := 85) (base := w.heap.size) (ok := fun k_ => True) (n := aM.length) (c := aR) ?_).2.2; exact (by exact (Kd.R_mono (Kd.R_far (p := ⟨aI, 3, none⟩) (Kd.R_far (p := ⟨aI, 2, none⟩) (Kd.R_far (p := ⟨aI, 1, none⟩) (Kd.R_far (p := ⟨aI, 0, none⟩) (Kd.R_types aC.o aF.o (by decide)) (fun _ hk => hk.2) (.string (⟨#[109]⟩ : ByteArray))) (fun _ hk => hk.2) (.slice aV aM.length aR)) (fun _ hk => hk.2) (.slice none 0 0)) (fun _ hk => hk.2) (.slice none 0 0)) (fun _ h_ => h_.1)))); (case side2 => exact (Kd.R_reads' aC.o).2.1); (case side3 => exact Kd.C_nil _ _); (case side4 => exact Nat.le_refl _); (case side5 => exact Kd.C_nil _ _); (case side6 => exact Nat.le_refl _); rintro e bh ⟨b9, rfl, ag, hb⟩; refine ⟨_, rfl, ?_⟩; have n_ := a2 (Kd.R_below (by exact (Kd.R_mono (Kd.R_far (p := ⟨aI, 3, none⟩) (Kd.R_far (p := ⟨aI, 2, none⟩) (Kd.R_far (p := ⟨aI, 1, none⟩) (Kd.R_far (p := ⟨aI, 0, none⟩) (Kd.R_types aC.o aF.o (by decide)) (fun _ hk => hk.2) (.string (⟨#[109]⟩ : ByteArray))) (fun _ hk => hk.2) (.slice aV aM.length aR)) (fun _ hk => hk.2) (.slice none 0 0)) (fun _ hk => hk.2) (.slice none 0 0)) (fun _ h_ => h_.1))) hb) (a2 (Kd.R_lower ag (qAf (by repeat (with_reducible first | exact HB.o | refine qA1 ?_ ac.o)))) (a2 (qAk (g := aI) (o := .cells #[.string (⟨#[109]⟩ : ByteArray), .slice aV aM.length aR, .slice none 0 0, .slice none 0 0] 33 (0, 0)) (by refine qA5 (cs := #[.string (⟨#[109]⟩ : ByteArray), .slice aV aM.length aR, .slice none 0 0, .slice none 0 0]) ?_ 3 _ rfl; refine qA5 (cs := #[.string (⟨#[109]⟩ : ByteArray), .slice aV aM.length aR, .slice none 0 0, .slice none 0 0]) ?_ 2 _ rfl; refine qA5 (cs := #[.string (⟨#[109]⟩ : ByteArray), .slice none 0 0, .slice none 0 0, .slice none 0 0]) ?_ 1 _ rfl; refine qA5 (cs := #[.string ⟨#[]⟩, .slice none 0 0, .slice none 0 0, .slice none 0 0]) ?_ 0 _ rfl; exact aF.o) hb) (am (qAe (by repeat (with_reducible first | exact HB.o | refine qA1 ?_ ac.o)) hb)))); clear aC aF HB; obtain ⟨aC, aH, aF, HB⟩ := n_; obtain ⟨a5, a6, bI⟩ := Kd.R_slice aH.o; subst bI) | ((with_reducible refine qAi (f := 16) rfl ?_); refine gL 17 Tryz.func16 #[.slice a5 aG.length a6] ?_; (with_reducible refine (qAb.calls k _ _ aG aL aE aQ aS a9 _ ?side1 ?side2 A2.o).mono ?_); (case side1 => exact (Kd.R_reads' aH.o).2.2); (case side2 => exact (Kd.R_reads' aH.o).2.1); rintro e bi ⟨ba, bb, bc, rfl, ag, bR, bS, hb⟩; refine ⟨_, rfl, ?_⟩; have n_ := a2 (Kd.R_elder' aC.o (Kd.R_base ag) hb) (a2 (Kd.R_below aH.o hb) (a2 (Kd.R_lower (Kd.R_new' ag (Kd.R_lt aC.o)) (qAf HB.o)) (a2 (Kd.S_lower bR (qAf HB.o)) (a2 (Kd.R_lower bS (qAf HB.o)) (a2 (qAk aF.o hb) (am (qAe HB.o hb))))))); clear aC aH aF HB; obtain ⟨aC, aH, aN, aT, aU, aF, HB⟩ := n_) | ((with_reducible refine qAK (N := 4) rfl ?_); (try (refine qBO (by rfl) ?_; dsimp only)); refine bx 4 #[.string ⟨#[]⟩, .slice none 0 0, .slice none 0 0, .slice none 0 0] 33 ?_; intro aA hg bT hbox hb; have n_ := a2 (Kd.R_below aC.o hb) (a2 (Kd.R_below aH.o hb) (a2 (Kd.R_below aN.o hb) (a2 (Kd.S_below aT.o hb) (a2 (Kd.R_below aU.o hb) (a2 (qAk aF.o hb) (a2 (qAe HB.o hb) (a2 (hbox) (a2 (by rw [hg]; exact (qAf HB.o) : w.heap.size ≤ aA) (am (by rw [hg]; exact Nat.ne_of_lt (qBd aF.o) : aI ≠ aA)))))))))); clear aC aH aN aT aU aF HB; obtain ⟨aC, aH, aN, aT, aU, aF, HB, aJ, ah, aK⟩ := n_; clear hb hbox hg; obtain ⟨aq, ar, au, av⟩ := c4_ bT aJ.o; obtain ⟨bC, bD, bE, bF⟩ := z4_ aJ.o; obtain ⟨aO, aP, bJ⟩ := Kd.R_slice aN.o; subst bJ; obtain ⟨aW, aX, bK⟩ := Kd.S_slice aT.o; subst bK; obtain ⟨a1, a3, bL⟩ := Kd.R_slice aU.o; subst bL) | ((with_reducible refine gate_store (t := 33) (p := 4) rfl ?_); refine store_event (t := 33) (p := 4) (v := ?vo_w25) (w1 := ((((bT.setCell ⟨aA, 0, none⟩ (.string aL)).setCell ⟨aA, 1, none⟩ (.slice aO aE.length aP)).setCell ⟨aA, 2, none⟩ (.slice aW aQ.length aX)).setCell ⟨aA, 3, none⟩ (.slice a1 aS.length a3))) ?hg ?ho ?hn ?hr ?_; (case ho => rfl); (case hg => rfl); (case hn => rfl); (case hr => (go_simp; done)); intro ab hw; have n0_ : qAa (Kd.R k85 85 ab w.heap.size (fun k_ => some k_ ≠ (.slice aO aE.length aP : Value).ownBlock) (.slice aV aM.length aR) aM) := ⟨(by rw [hw]; exact (by exact Kd.R_mono (Kd.R_far (p := ⟨aA, 3, none⟩) (Kd.R_far (p := ⟨aA, 2, none⟩) (Kd.R_far (p := ⟨aA, 1, none⟩) (Kd.R_far (p := ⟨aA, 0, none⟩) (Kd.R_types aC.o aJ.o (by decide)) (fun _ hk => hk.2) (.string aL)) (fun _ hk => hk.2) (.slice aO aE.length aP)) (fun _ hk => hk.2) (.slice aW aQ.length aX)) (fun _ hk => hk.2) (.slice a1 aS.length a3)) (fun _ hk => hk.1.2)))⟩; have n1_ : qAa (Kd.R (Kd.int .u8) 5 ab w.heap.size (fun _ => True) (.slice a5 aG.length a6) aG) := ⟨(by rw [hw]; exact (by exact Kd.R_mono (Kd.R_far (p := ⟨aA, 3, none⟩) (Kd.R_far (p := ⟨aA, 2, none⟩) (Kd.R_far (p := ⟨aA, 1, none⟩) (Kd.R_far (p := ⟨aA, 0, none⟩) (Kd.R_types aH.o aJ.o (by decide)) (fun _ hk => hk.2) (.string aL)) (fun _ hk => hk.2) (.slice aO aE.length aP)) (fun _ hk => hk.2) (.slice aW aQ.length aX)) (fun _ hk => hk.2) (.slice a1 aS.length a3)) (fun _ hk => trivial)))⟩; have n2_ : qAa (Kd.R k85 85 ab w.heap.size (fun k_ => some k_ ≠ (.slice aV aM.length aR : Value).ownBlock) (.slice aO aE.length aP) aE) := ⟨(by rw [hw]; exact (by exact Kd.R_mono (Kd.R_far (p := ⟨aA, 3, none⟩) (Kd.R_far (p := ⟨aA, 2, none⟩) (Kd.R_far (p := ⟨aA, 1, none⟩) (Kd.R_far (p := ⟨aA, 0, none⟩) (Kd.R_types aN.o aJ.o (by decide)) (fun _ hk => hk.2) (.string aL)) (fun _ hk => hk.2) (.slice aO aE.length aP)) (fun _ hk => hk.2) (.slice aW aQ.length aX)) (fun _ hk => hk.2) (.slice a1 aS.length a3)) (fun _ hk => hk.1.2)))⟩; have n3_ : qAa (Kd.S k92 92 ab w.heap.size (fun _ => True) (.slice aW aQ.length aX) aQ) := ⟨(by rw [hw]; exact (by exact Kd.S_mono (Kd.S_far (p := ⟨aA, 3, none⟩) (Kd.S_far (p := ⟨aA, 2, none⟩) (Kd.S_far (p := ⟨aA, 1, none⟩) (Kd.S_far (p := ⟨aA, 0, none⟩) (Kd.S_types aT.o aJ.o (by decide)) (fun _ hk => hk.2) (.string aL)) (fun _ hk => hk.2) (.slice aO aE.length aP)) (fun _ hk => hk.2) (.slice aW aQ.length aX)) (fun _ hk => hk.2) (.slice a1 aS.length a3)) (fun _ hk => trivial)))⟩; have n4_ : qAa (Kd.R k104 104 ab w.heap.size (fun _ => True) (.slice a1 aS.length a3) aS) := ⟨(by rw [hw]; exact (by exact Kd.R_mono (Kd.R_far (p := ⟨aA, 3, none⟩) (Kd.R_far (p := ⟨aA, 2, none⟩) (Kd.R_far (p := ⟨aA, 1, none⟩) (Kd.R_far (p := ⟨aA, 0, none⟩) (Kd.R_types aU.o aJ.o (by decide)) (fun _ hk => hk.2) (.string aL)) (fun _ hk => hk.2) (.slice aO aE.length aP)) (fun _ hk => hk.2) (.slice aW aQ.length aX)) (fun _ hk => hk.2) (.slice a1 aS.length a3)) (fun _ hk => trivial)))⟩; have n5_ : qAa (ab.heap[aI]? = some (.cells #[.string (⟨#[109]⟩ : ByteArray), .slice aV aM.length aR, .slice none 0 0, .slice none 0 0] 33 (0, 0))) := ⟨(by rw [hw]; exact (by refine qA2 ?_ aK.o _; refine qA2 ?_ aK.o _; refine qA2 ?_ aK.o _; refine qA2 ?_ aK.o _; exact aF.o))⟩; have n6_ : qAa (ab.heap[aA]? = some (.cells #[.string aL, .slice aO aE.length aP, .slice aW aQ.length aX, .slice a1 aS.length a3] 33 (0, 0))) := ⟨(by rw [hw]; exact (by refine qA5 (cs := #[.string aL, .slice aO aE.length aP, .slice aW aQ.length aX, .slice none 0 0]) ?_ 3 _ rfl; refine qA5 (cs := #[.string aL, .slice aO aE.length aP, .slice none 0 0, .slice none 0 0]) ?_ 2 _ rfl; refine qA5 (cs := #[.string aL, .slice none 0 0, .slice none 0 0, .slice none 0 0]) ?_ 1 _ rfl; refine qA5 (cs := #[.string ⟨#[]⟩, .slice none 0 0, .slice none 0 0, .slice none 0 0]) ?_ 0 _ rfl; exact aJ.o))⟩; have n7_ : qAa (Below w.heap.size w ab) := ⟨(by rw [hw]; exact (by repeat (with_reducible first | exact HB.o | refine qA1 ?_ ah.o)))⟩; clear hw; clear aC; clear aH; clear aN; clear aT; clear aU; clear aF; clear aJ; clear HB; have aC := n0_; have aH := n1_; have aN := n2_; have aJ := n6_; have HB := n7_; clear n0_ n1_ n2_ n3_ n4_ n5_ n6_ n7_; have b7 : (4 : Int) ≤ ((aG.length : Int) : Int) := od (by assumption); obtain ⟨i026, ae, _, hsz26, _⟩ := info_parts qCi; have hroom26 : aG.length ≤ a6 := (Kd.R_reads' aH.o).2.1; have hC26 : Kd.C (Kd.int .u8) _ a5 aG.length aG := (Kd.R_reads' aH.o).2.2; have hcut26 := cut_to (P := Tryz.prog) 38 5 .i64 Tryz.underlying38 ae a5 aG.length a6 4 (by omega) b7 hroom26; have hr26 := Kd.C_take (m := 4) hC26 (by omega); have ak : aa.length = (4 : Int).toNat := (by rw [ad.o, List.length_take]; omega); rw [← ad.o] at hr26; rw [← ak] at hcut26; have ai := am hr26; clear hr26 hC26 hroom26 ae hsz26; clear ak; have hcv27 := Kd.C_string (P := Tryz.prog) (A := a5) (c := a6) Tryz.underlying38 Tryz.underlying5 Tryz.underlying9 (by repeat (with_reducible exact ai.o)); obtain ⟨aw, ax⟩ := c2_ ab aJ.o; have bM : 0 ≤ (0 : Int) := (by omega); have af : 0 < (aE.length : Int) := od (by assumption); obtain ⟨bP, bG, aY, aZ, a0⟩ := at_T85 (Kd.R_reads' aN.o).2.2 0 bM af; cases bG; have qi309 : (0 < aE.length) = True := eq_true (by omega); (try rw [show (0 : Int).toNat = 0 from rfl] at aY); (try rw [show 0 * 3 = 0 from rfl] at aY); (try rw [Addr.add_zero'] at aY); (try rw [show (0 : Int).toNat = 0 from rfl] at aZ); (try rw [show 0 * 3 = 0 from rfl] at aZ); (try rw [Addr.add_zero'] at aZ); (try rw [show (0 : Int).toNat = 0 from rfl] at a0); (try rw [show 0 * 3 = 0 from rfl] at a0); (try rw [Addr.add_zero'] at a0); replace af := eq_true af))
         go_ret
         exact ⟨by rfl, by exact HB.o⟩
        ·rw [if_neg c10] at H
         exact absurd H (by simp)
       ·rw [if_neg c9] at H
        subst hr
        exact absurd H (by simp)
      ·rw [if_neg c8] at H
       subst hr
       exact absurd H (by simp)
     ·rw [if_neg c7] at H
      subst hr
      exact absurd H (by simp)
    ·rw [if_neg c6] at H
     exact absurd H (by simp)
   ·rw [if_neg c5] at H
    subst hr
    exact absurd H (by simp)
  ·rw [if_neg c4] at H
   subst hr
   exact absurd H (by simp)
 ·rw [if_neg c3] at H
  subst hr
  exact absurd H (by simp)
def qBj.f (k : Nat) : Option Bool := if qEF.f k = some true then some true else none
theorem qBj.calls (k : Nat) (r : Bool) (w : World) (h : qBj.f k = some r) :
  Calls Tryz.prog 12 #[] w fun e w' => e = .returned (.bool r) ∧ Below w.heap.size w w' := by
 unfold qBj.f at h
 split at h
 ·rename_i h0
  obtain rfl := Option.some.inj h
  exact qEF.calls k _ w h0 rfl
 ·cases h
end Q
end
section
namespace Q
open Go.RowKit PA PC PB
open Val Ins DecLaw Wr Enc
theorem qE2 (l : List Int) (hl : l.length ≤ 4611686018427387904) : Ev (fun k => qAy.f k l l) true := by
 have hloop : ∀ (d : Nat) (i : Int), 0 ≤ i → (l.length : Int) - i = d → Ev (fun k => qAy.l0 k l l (l.length : Int) i) true := by
  intro d
  induction d with
  | zero =>
   intro i h0 hd
   refine Ev.step (f := fun _ => some true) (fun k => ?_) (Ev.now _)
   simp only [qAy.l0]
   rw [if_neg (by omega)]
  | succ d ih =>
   intro i h0 hd
   refine Ev.step (fun k => ?_) (ih (i + 1) (by omega) (by omega))
   simp only [qAy.l0]
   rw [if_pos (by omega), if_pos h0, if_pos (by omega), if_pos (by omega), if_pos trivial, qB1 (n := l.length) h0 (by omega) hl]
 refine Ev.congr (fun k => ?_) (hloop l.length 0 (by omega) (by omega))
 unfold qAy.f
 rw [if_pos rfl]
theorem tailP_ev (m : ByteArray) (vs : List S85) (fs : List S92) (rs : List S104) (hg : qDl m vs fs rs) (hl : ¬ 16384 < (qCo m vs fs rs).length) : Ev (qEV (qCo m vs fs rs) (m, vs, fs, rs)) (if qBR m vs fs rs = 0 then (m, vs, fs, rs, 0) else errP) := by
 have hp : qBg.f m vs fs rs = (if qBR m vs fs rs ≠ 0 then some ([], qBR m vs fs rs) else if 16384 < (qCo m vs fs rs).length then some ([], 3) else some (qCo m vs fs rs, 0)) := if_pos hg
 by_cases h : qBR m vs fs rs = 0
 rotate_left
 ·rw [if_pos h] at hp
  rw [if_neg h]
  refine Ev.congr (f := fun _ => some errP) (fun k => ?_) (Ev.now _)
  unfold qEV
  rw [hp, Option.bind_some, if_neg h]
 rw [if_neg (fun q => q h), if_neg hl] at hp
 rw [if_pos h]
 refine Ev.congr (f := fun k => (qAy.f k (qCo m vs fs rs) (qCo m vs fs rs)).bind fun t => (if t = true then some (m, vs, fs, rs, 0) else some errP)) (fun k => ?_) (Ev.bind (qE2 _ (by omega)) ?_)
 ·unfold qEV
  rw [hp, Option.bind_some, if_pos rfl]
 simp only [if_true]; exact Ev.now _
def qCZ : List Int := [102, 111, 98, 106, 0, 0, 0, 1, 109, 0, 0, 0, 1, 0, 0, 0, 1, 118, 1, 0, 0, 0, 0, 0, 0, 0, 1, 0, 0, 0, 0, 0, 0, 0, 0]
def qC1 : ByteArray := ⟨#[109]⟩
def qC2 : List S85 := [⟨⟨#[118]⟩, ⟨1, 1⟩⟩]
theorem qDa : qDl qC1 qC2 [] [] := by decide
theorem qCd : qCo qC1 qC2 [] [] = qCZ := by
 unfold qCo qC1 qC2 qBu varB qBu
 simp only [Lib.toList_data]
 rfl
theorem qCF : qBR qC1 qC2 [] [] = 0 := by kernel_rfl
theorem qCG : wholeC qCZ = some (qC1, qC2, [], []) := by kernel_rfl
theorem qFe : Ev (fun k => qEF.f k) true := by
 have hp : qBg.f qC1 qC2 [] [] = some (qCZ, 0) := by
  unfold qBg.f
  rw [if_pos qDa, if_neg (fun q => q qCF), qCd, if_neg (by decide)]
 have ht := tailP_ev qC1 qC2 [] [] qDa (by rw [qCd]; decide)
 rw [if_pos qCF, qCd] at ht
 have hu := unpack_ev qCZ (by unfold qBJ qCZ; decide) _ (by decide) ⟨fun o ho => by rw [qCG] at ho; obtain rfl := Option.some.inj ho; exact ht, fun hn => by rw [qCG] at hn; cases hn⟩
 unfold qEF.f
 rw [show qBg.f (⟨#[109]⟩ : ByteArray) ([(⟨(⟨#[118]⟩ : ByteArray), (⟨1, 1⟩ : S83)⟩ : S85)]) [] [] = some (qCZ, 0) from hp]
 simp only [Option.bind_some]
 refine Ev.bind hu ?_
 refine Ev.congr (fun k => ?_) (Ev.now _)
 unfold qC1 qC2
 simp only [Lib.toList_data, strOfNums]
 rfl
theorem alive_ev : Ev (fun k => qBj.f k) true := by
 obtain ⟨K, hK⟩ := qFe
 exact ⟨K, fun k hk => if_pos (hK k hk)⟩
end Q
end
section
namespace Q
open Go.RowKit PA PC PB
attribute [local go_sem high] eqA83
theorem qD2 {B : Nat} {a w : World} (h : Below B a w) (q : Nat) : Below B a (w.drewN q) := ⟨h.os, h.tape, h.output, h.size, h.block⟩
def qE8 (x : S85) (y : S95) : Bool := x.f0.toList == y.f0.toList && (x.f1.f0 == y.f1.f0 && x.f1.f1 == y.f1.f1)
def qEU (x : S92) (y : S100) : Bool := x.f0.toList == y.f0.toList && likeF x.f1 y.f1
def qCj (x : S104) (y : S103) : Bool := x.f0 == y.f0 && (x.f1 == y.f1 && (x.f2 == y.f2 && (x.f3.toList == y.f3.toList && x.f4.toList == y.f4.toList)))
def likeO (a0 : ByteArray) (a1 : List S85) (a2 : List S92) (a3 : List S104) (b0 : ByteArray) (b1 : List S95) (b2 : List S100) (b3 : List S103) : Bool :=
 a0.toList == b0.toList && (all2 qE8 a1 b1 && (all2 qEU a2 b2 && all2 qCj a3 b3))
def okLens (x : S92) : Bool := decide (x.f1.f0.f0.length ≤ 4611686018427387904 ∧ x.f1.f1.length ≤ 4611686018427387904 ∧ x.f1.f2.length ≤ 4611686018427387904)
def qBs.f (a0_0 : ByteArray) (l0_1 : List (S85)) (l0_2 : List (S92)) (l0_3 : List (S104)) (a1_0 : ByteArray) (l1_1 : List (S95)) (l1_2 : List (S100)) (l1_3 : List (S103)) : Option (Bool) :=
 if l0_1.length ≤ 4611686018427387904 ∧ l0_2.length ≤ 4611686018427387904 ∧ l0_3.length ≤ 4611686018427387904 ∧ l0_2.all okLens = true then some (likeO a0_0 l0_1 l0_2 l0_3 a1_0 l1_1 l1_2 l1_3) else none
theorem qBs.calls (a0_0 : ByteArray) (A0_1 : Option Addr) (c0_1 : Nat) (l0_1 : List (S85)) (A0_2 : Option Addr) (c0_2 : Nat) (l0_2 : List (S92)) (A0_3 : Option Addr) (c0_3 : Nat) (l0_3 : List (S104)) (a1_0 : ByteArray) (A1_1 : Option Addr) (c1_1 : Nat) (l1_1 : List (S95)) (A1_2 : Option Addr) (c1_2 : Nat) (l1_2 : List (S100)) (A1_3 : Option Addr) (c1_3 : Nat) (l1_3 : List (S103)) (r : Bool) (w : World) (hr0_1 : Kd.C k85 w A0_1 l0_1.length l0_1) (hc0_1 : l0_1.length ≤ c0_1) (hr0_2 : Kd.C k92 w A0_2 l0_2.length l0_2) (hc0_2 : l0_2.length ≤ c0_2) (hr0_3 : Kd.C k104 w A0_3 l0_3.length l0_3) (hc0_3 : l0_3.length ≤ c0_3) (hr1_1 : Kd.C k95 w A1_1 l1_1.length l1_1) (hc1_1 : l1_1.length ≤ c1_1) (hr1_2 : Kd.C k100 w A1_2 l1_2.length l1_2) (hc1_2 : l1_2.length ≤ c1_2) (hr1_3 : Kd.C k103 w A1_3 l1_3.length l1_3) (hc1_3 : l1_3.length ≤ c1_3) (h : qBs.f a0_0 l0_1 l0_2 l0_3 a1_0 l1_1 l1_2 l1_3 = some r) :
  Calls Tryz.prog 15 #[.agg #[.string a0_0, .slice A0_1 l0_1.length c0_1, .slice A0_2 l0_2.length c0_2, .slice A0_3 l0_3.length c0_3], .agg #[.string a1_0, .slice A1_1 l1_1.length c1_1, .slice A1_2 l1_2.length c1_2, .slice A1_3 l1_3.length c1_3]] w fun e w' => e = .returned (.bool r) ∧ Below w.heap.size w w' := by
 unfold qBs.f at h
 split at h
 case isFalse => cases h
 rename_i hs
 obtain ⟨hL1, hL2, hL3, hLF⟩ := hs
 replace h := Option.some.inj h
 have HF : qAa (∀ (A0 : Option Addr) (c0 : Nat) (A2 : Option Addr) (c2 : Nat) (A3 : Option Addr) (c3 : Nat) (x : S90) (B0 : Option Addr) (d0 : Nat) (B2 : Option Addr) (d2 : Nat) (B3 : Option Addr) (d3 : Nat) (y : S98) (W : World), x.f0.f0.length ≤ 4611686018427387904 ∧ x.f1.length ≤ 4611686018427387904 ∧ x.f2.length ≤ 4611686018427387904 →
     Kd.C (Kd.int .i64) W A0 x.f0.f0.length x.f0.f0 ∧ x.f0.f0.length ≤ c0 ∧ Kd.C (Kd.int .i64) W A2 x.f1.length x.f1 ∧ x.f1.length ≤ c2 ∧ Kd.C k144 W A3 x.f2.length x.f2 ∧ x.f2.length ≤ c3 →
     Kd.C (Kd.int .i64) W B0 y.f0.f0.length y.f0.f0 ∧ y.f0.f0.length ≤ d0 ∧ Kd.C (Kd.int .i64) W B2 y.f1.length y.f1 ∧ y.f1.length ≤ d2 ∧ Kd.C k172 W B3 y.f2.length y.f2 ∧ y.f2.length ≤ d3 →
     Calls Tryz.prog 54 #[.agg #[.slice A0 x.f0.f0.length c0, .int .i64 x.f0.f1, .slice A2 x.f1.length c2, .slice A3 x.f2.length c3], .agg #[.slice B0 y.f0.f0.length d0, .int .i64 y.f0.f1, .slice B2 y.f1.length d2, .slice B3 y.f2.length d3]] W fun e w' => e = .returned (.bool (likeF x y)) ∧ Below W.heap.size W w') := ⟨by
   intro A0 c0 A2 c2 A3 c3 x B0 d0 B2 d2 B3 d3 y W hl ⟨g0, e0, g2, e2, g3, e3⟩ ⟨u0, v0, u2, v2, u3, v3⟩
   obtain ⟨k, hk⟩ := (likeFn_ev x.f0.f0 x.f0.f1 x.f1 x.f2 y.f0.f0 y.f0.f1 y.f1 y.f2 hl.1 hl.2.1 hl.2.2).rounds
   exact qAo.calls k A0 c0 _ _ A2 c2 _ A3 c3 _ B0 d0 _ _ B2 d2 _ B3 d3 _ _ W g0 e0 g2 e2 g3 e3 u0 v0 u2 v2 u3 v3 hk⟩
 obtain ⟨n1, hn1⟩ : ∃ n, n = l0_1.length := ⟨_, rfl⟩
 obtain ⟨n2, hn2⟩ : ∃ n, n = l0_2.length := ⟨_, rfl⟩
 obtain ⟨n3, hn3⟩ : ∃ n, n = l0_3.length := ⟨_, rfl⟩
 obtain ⟨m1, hm1⟩ : ∃ n, n = l1_1.length := ⟨_, rfl⟩
 obtain ⟨m2, hm2⟩ : ∃ n, n = l1_2.length := ⟨_, rfl⟩
 obtain ⟨m3, hm3⟩ : ∃ n, n = l1_3.length := ⟨_, rfl⟩
 rw [← hn1] at hr0_1 hL1 ⊢
 rw [← hn2] at hr0_2 hL2 ⊢
 rw [← hn3] at hr0_3 hL3 ⊢
 rw [← hm1] at hr1_1 ⊢
 rw [← hm2] at hr1_2 ⊢
 rw [← hm3] at hr1_3 ⊢
 obtain ⟨WA, hWA⟩ : ∃ WA, WA = (w.alloc (.cells #[.string a0_0, .slice A0_1 n1 c0_1, .slice A0_2 n2 c0_2, .slice A0_3 n3 c0_3] 33)).alloc (.cells #[.string a1_0, .slice A1_1 m1 c1_1, .slice A1_2 m2 c1_2, .slice A1_3 m3 c1_3] 26) := ⟨_, rfl⟩
 have hBA : Below w.heap.size w WA := hWA ▸ ((Below.refl _ _).alloc (Nat.le_refl _) _).alloc (by simp) _
 have hgA : w.heap.size + 1 < WA.heap.size := by rw [hWA]; simp
 have hb0 : WA.heap[w.heap.size]? = some (.cells #[.string a0_0, .slice A0_1 n1 c0_1, .slice A0_2 n2 c0_2, .slice A0_3 n3 c0_3] 33 (0, 0)) := by rw [hWA]; exact qAW (heap_alloc_new w _) _
 have hb1 : WA.heap[w.heap.size + 1]? = some (.cells #[.string a1_0, .slice A1_1 m1 c1_1, .slice A1_2 m2 c1_2, .slice A1_3 m3 c1_3] 26 (0, 0)) := by rw [hWA]; simpa using heap_alloc_new (w.alloc (.cells #[.string a0_0, .slice A0_1 n1 c0_1, .slice A0_2 n2 c0_2, .slice A0_3 n3 c0_3] 33)) (.cells #[.string a1_0, .slice A1_1 m1 c1_1, .slice A1_2 m2 c1_2, .slice A1_3 m3 c1_3] 26)
 have HX : qAa (∀ W, Below WA.heap.size WA W → W.cell? ⟨w.heap.size, 0, none⟩ = some (.string a0_0) ∧ W.cell? ⟨w.heap.size, 1, none⟩ = some (.slice A0_1 n1 c0_1) ∧ W.cell? ⟨w.heap.size, 2, none⟩ = some (.slice A0_2 n2 c0_2) ∧ W.cell? ⟨w.heap.size, 3, none⟩ = some (.slice A0_3 n3 c0_3) ∧
     W.cell? ⟨w.heap.size + 1, 0, none⟩ = some (.string a1_0) ∧ W.cell? ⟨w.heap.size + 1, 1, none⟩ = some (.slice A1_1 m1 c1_1) ∧ W.cell? ⟨w.heap.size + 1, 2, none⟩ = some (.slice A1_2 m2 c1_2) ∧ W.cell? ⟨w.heap.size + 1, 3, none⟩ = some (.slice A1_3 m3 c1_3)) := ⟨fun W hW => by
   have g0 : ∀ i, W.cell? ⟨w.heap.size, i, none⟩ = _ := fun i => (hW.cell (p := ⟨w.heap.size, i, none⟩) (Nat.lt_of_succ_lt hgA)).trans (qAn hb0 i)
   have g1 : ∀ i, W.cell? ⟨w.heap.size + 1, i, none⟩ = _ := fun i => (hW.cell (p := ⟨w.heap.size + 1, i, none⟩) hgA).trans (qAn hb1 i)
   exact ⟨g0 0, g0 1, g0 2, g0 3, g1 0, g1 1, g1 2, g1 3⟩⟩
 have HWA := am hWA
 have HBA := am hBA
 have HR1 := am (Kd.C_below hr0_1 hBA)
 have HR2 := am (Kd.C_below hr0_2 hBA)
 have HR3 := am (Kd.C_below hr0_3 hBA)
 have HS1 := am (Kd.C_below hr1_1 hBA)
 have HS2 := am (Kd.C_below hr1_2 hBA)
 have HS3 := am (Kd.C_below hr1_3 hBA)
 have HN1 := am hn1
 have HN2 := am hn2
 have HN3 := am hn3
 have HM1 := am hm1
 have HM2 := am hm2
 have HM3 := am hm3
 have HLF := am hLF
 have HH := am h
 clear hr0_1 hr0_2 hr0_3 hr1_1 hr1_2 hr1_3 hc0_1 hc0_2 hc0_3 hc1_1 hc1_2 hc1_3 hb0 hb1 hBA hWA hn1 hn2 hn3 hm1 hm2 hm3 hLF h
 unfold likeO at HH
 by_cases cM : a0_0.toList = a1_0.toList
 case neg =>
  have cM2 : (a0_0.toList == a1_0.toList) = false := beq_eq_false_iff_ne.mpr cM
  have HC := am cM2
  clear cM
  go_enter Tryz.func15, Tryz.ntmps15
  go_wp2_with fail
  go_ret
  exact ⟨by rw [← HH.out, HC.out]; rfl, HWA.out ▸ HBA.out⟩
 have cM2 : (a0_0.toList == a1_0.toList) = true := beq_iff_eq.mpr cM
 have HCM := am cM2
 clear cM
 by_cases c1 : n1 = m1
 case neg =>
  have c1' : ((n1 : Int) != (m1 : Int)) = true := bne_iff_ne.mpr (by omega)
  have HC := am (qFf qE8 l0_1 l1_1 (by rw [← HN1.out, ← HM1.out]; exact c1))
  clear c1
  go_enter Tryz.func15, Tryz.ntmps15
  go_wp2_with fail
  go_ret
  exact ⟨by rw [← HH.out, HC.out]; simp, HWA.out ▸ HBA.out⟩
 have c1' : ((n1 : Int) != (m1 : Int)) = false := bne_eq_false_iff_eq.mpr (by omega)
 have HCN1 := am c1
 clear c1
 by_cases c2 : n2 = m2
 case neg =>
  have c2' : ((n2 : Int) != (m2 : Int)) = true := bne_iff_ne.mpr (by omega)
  have HC := am (qFf qEU l0_2 l1_2 (by rw [← HN2.out, ← HM2.out]; exact c2))
  clear c2
  go_enter Tryz.func15, Tryz.ntmps15
  go_wp2_with fail
  go_ret
  exact ⟨by rw [← HH.out, HC.out]; simp, HWA.out ▸ HBA.out⟩
 have c2' : ((n2 : Int) != (m2 : Int)) = false := bne_eq_false_iff_eq.mpr (by omega)
 have HCN2 := am c2
 clear c2
 by_cases c3 : n3 = m3
 case neg =>
  have c3' : ((n3 : Int) != (m3 : Int)) = true := bne_iff_ne.mpr (by omega)
  have HC := am (qFf qCj l0_3 l1_3 (by rw [← HN3.out, ← HM3.out]; exact c3))
  clear c3
  go_enter Tryz.func15, Tryz.ntmps15
  go_wp2_with fail
  go_ret
  exact ⟨by rw [← HH.out, HC.out]; simp, HWA.out ▸ HBA.out⟩
 have c3' : ((n3 : Int) != (m3 : Int)) = false := bne_eq_false_iff_eq.mpr (by omega)
 have HCN3 := am c3
 clear c3
 go_enter Tryz.func15, Tryz.ntmps15
 go_wp2_with fail
 rw [← HWA.out]
 go_loopg [5] n1 (fun gg s5 wr => ∃ kk : Nat, kk ≤ n1 ∧ n1 - kk ≤ gg ∧ s5 = .int .i64 kk ∧ qAa (∀ (j : Nat) x y, j < kk → l0_1[j]? = some x → l1_1[j]? = some y → qE8 x y = true) ∧ qAa (Below WA.heap.size WA wr))
 case atStart => exact ⟨0, Nat.zero_le _, by omega, rfl, ⟨fun j x y hj => absurd hj (Nat.not_lt_zero _)⟩, ⟨Below.refl _ _⟩⟩
 case round =>
  obtain ⟨kk, hkk, hg, rfl, HA, HB⟩ := hrel
  obtain ⟨q0, q1, q2, q3, p0, p1, p2, p3⟩ := HX.out wr HB.out
  by_cases hlt : kk < n1
  ·have hltz : (kk : Int) < (n1 : Int) := by omega
   have hltm : (kk : Int) < (m1 : Int) := by have := HCN1.out; omega
   have h0' : (0 : Int) ≤ (kk : Int) := by omega
   obtain ⟨hxd, ehx, hx0, hx1, hx2⟩ := at_T85 HR1.out (kk : Int) h0' hltz
   subst ehx
   rw [Int.toNat_natCast] at hx0 hx1 hx2
   replace hx0 := (HB.out.cell (World.block_lt_of_cell? WA _ hx0)).trans hx0
   replace hx1 := (HB.out.cell (World.block_lt_of_cell? WA _ hx1)).trans hx1
   replace hx2 := (HB.out.cell (World.block_lt_of_cell? WA _ hx2)).trans hx2
   have hblhx : (hxd.add (kk * 3)).block < wr.heap.size := World.block_lt_of_cell? wr _ hx0
   obtain ⟨hyd, ehy, hy0, hy1, hy2⟩ := qDN HS1.out (kk : Int) h0' hltm
   subst ehy
   rw [Int.toNat_natCast] at hy0 hy1 hy2
   replace hy0 := (HB.out.cell (World.block_lt_of_cell? WA _ hy0)).trans hy0
   replace hy1 := (HB.out.cell (World.block_lt_of_cell? WA _ hy1)).trans hy1
   replace hy2 := (HB.out.cell (World.block_lt_of_cell? WA _ hy2)).trans hy2
   have hblhy : (hyd.add (kk * 3)).block < wr.heap.size := World.block_lt_of_cell? wr _ hy0
   obtain ⟨x1, hdef_x1⟩ : ∃ z, z = qBk l0_1 (kk : Int) := ⟨_, rfl⟩
   rw [← hdef_x1] at hx0 hx1 hx2
   have HX1 : qAa (l0_1[kk]? = some x1) := ⟨by rw [hdef_x1]; exact qCv l0_1 z85 kk (by have := HN1.out; omega)⟩
   clear hdef_x1
   obtain ⟨y1, hdef_y1⟩ : ∃ z, z = qBq l1_1 (kk : Int) := ⟨_, rfl⟩
   rw [← hdef_y1] at hy0 hy1 hy2
   have HY1 : qAa (l1_1[kk]? = some y1) := ⟨by rw [hdef_y1]; exact qCv l1_1 z95 kk (by have := HM1.out; omega)⟩
   clear hdef_y1
   by_cases cn : x1.f0.toList = y1.f0.toList
   rotate_left
   ·have cna : (x1.f0.toList == y1.f0.toList) = false := beq_eq_false_iff_ne.mpr cn
    have Hcn := am cna
    clear cn
    go_wp2
    repeat (go_quiet (fail); try go_wp2)
    go_ret
    refine ⟨?_, qAw HBA.out HBA.out.size (qAw HB.out HB.out.size (qD2 (Below.refl _ _) _))⟩
    rw [← HH.out, qB9 qE8 l0_1 l1_1 kk _ _ HX1.out HY1.out (by unfold qE8; rw [Hcn.out]; rfl)]; simp
   have cna : (x1.f0.toList == y1.f0.toList) = true := beq_iff_eq.mpr cn
   have Hcn := am cna
   clear cn
   by_cases ct : x1.f1.f0 = y1.f1.f0
   rotate_left
   ·have cta : (x1.f1.f0 == y1.f1.f0) = false := beq_eq_false_iff_ne.mpr ct
    have Hct := am cta
    clear ct
    go_wp2
    repeat (go_quiet (fail); try go_wp2)
    go_ret
    refine ⟨?_, qAw HBA.out HBA.out.size (qAw HB.out HB.out.size (qD2 (Below.refl _ _) _))⟩
    rw [← HH.out, qB9 qE8 l0_1 l1_1 kk _ _ HX1.out HY1.out (by unfold qE8; rw [Hcn.out, Hct.out]; rfl)]; simp
   have cta : (x1.f1.f0 == y1.f1.f0) = true := beq_iff_eq.mpr ct
   have Hct := am cta
   clear ct
   by_cases cb : x1.f1.f1 = y1.f1.f1
   rotate_left
   ·have cba : (x1.f1.f1 == y1.f1.f1) = false := beq_eq_false_iff_ne.mpr cb
    have Hcb := am cba
    clear cb
    go_wp2
    repeat (go_quiet (fail); try go_wp2)
    go_ret
    refine ⟨?_, qAw HBA.out HBA.out.size (qAw HB.out HB.out.size (qD2 (Below.refl _ _) _))⟩
    rw [← HH.out, qB9 qE8 l0_1 l1_1 kk _ _ HX1.out HY1.out (by unfold qE8; rw [Hcn.out, Hct.out, Hcb.out]; rfl)]; simp
   have cba : (x1.f1.f1 == y1.f1.f1) = true := beq_iff_eq.mpr cb
   have Hcb := am cba
   clear cb
   go_wp2
   repeat (go_quiet (fail); try go_wp2)
   go_roundg (n1 - (kk + 1))
   case measure => omega
   case rel =>
    refine ⟨kk + 1, by omega, by omega, by go_num, ⟨fun j u v hj hu hv => ?_⟩, ⟨qAw HB.out HB.out.size (qD2 (Below.refl _ _) _)⟩⟩
    by_cases e : j = kk
    rotate_left
    ·exact HA.out j u v (by omega) hu hv
    subst e; rw [HX1.out] at hu; rw [HY1.out] at hv; injection hu with hu; injection hv with hv; subst hu; subst hv; exact (by unfold qE8; rw [Hcn.out, Hct.out, Hcb.out]; rfl)
  have hltz : ¬ (kk : Int) < (n1 : Int) := by omega
  have hkn : kk = n1 := by omega
  have HV1 : qAa (all2 qE8 l0_1 l1_1 = true) := ⟨qDY _ _ _ (by rw [← HN1.out, ← HM1.out]; exact HCN1.out) fun j x y hx hy => HA.out j x y (by rw [hkn, HN1.out]; exact (List.getElem?_eq_some_iff.1 hx).1) hx hy⟩
  replace HH : qAa ((a0_0.toList == a1_0.toList && (all2 qEU l0_2 l1_2 && all2 qCj l0_3 l1_3)) = r) := ⟨by rw [← HH.out, HV1.out]; rfl⟩
  go_wp2_with fail
  clear hkn
  go_loopg [6] n2 (fun gg s6 wr => ∃ kk : Nat, kk ≤ n2 ∧ n2 - kk ≤ gg ∧ s6 = .int .i64 kk ∧ qAa (∀ (j : Nat) x y, j < kk → l0_2[j]? = some x → l1_2[j]? = some y → qEU x y = true) ∧ qAa (Below WA.heap.size WA wr))
  case atStart => exact ⟨0, Nat.zero_le _, by omega, rfl, ⟨fun j x y hj => absurd hj (Nat.not_lt_zero _)⟩, HB⟩
  case round =>
   clear HA HB q0 q1 q2 q3 p0 p1 p2 p3 hlt hkk hg
   obtain ⟨kk, hkk, hg, rfl, HA, HB⟩ := hrel
   obtain ⟨q0, q1, q2, q3, p0, p1, p2, p3⟩ := HX.out wr HB.out
   by_cases hlt : kk < n2
   ·have hltz : (kk : Int) < (n2 : Int) := by omega
    have hltm : (kk : Int) < (m2 : Int) := by have := HCN2.out; omega
    have h0' : (0 : Int) ≤ (kk : Int) := by omega
    obtain ⟨hxd, F1, d1, F3, d3, F4, d4, ehx, hx0, hx1, hx2, hx3, hx4, hl1, hC1, hl3, hC3, hl4, hC4⟩ := qFg HR2.out (kk : Int) h0' hltz
    subst ehx
    rw [Int.toNat_natCast] at hx0 hx1 hx2 hx3 hx4
    replace hx0 := (HB.out.cell (World.block_lt_of_cell? WA _ hx0)).trans hx0
    replace hx1 := (HB.out.cell (World.block_lt_of_cell? WA _ hx1)).trans hx1
    replace hx2 := (HB.out.cell (World.block_lt_of_cell? WA _ hx2)).trans hx2
    replace hx3 := (HB.out.cell (World.block_lt_of_cell? WA _ hx3)).trans hx3
    replace hx4 := (HB.out.cell (World.block_lt_of_cell? WA _ hx4)).trans hx4
    have hblhx : (hxd.add (kk * 5)).block < wr.heap.size := World.block_lt_of_cell? wr _ hx0
    obtain ⟨hyd, G1, e1, G3, e3, G4, e4, ehy, hy0, hy1, hy2, hy3, hy4, kl1, kC1, kl3, kC3, kl4, kC4⟩ := qCV HS2.out (kk : Int) h0' hltm
    subst ehy
    rw [Int.toNat_natCast] at hy0 hy1 hy2 hy3 hy4
    replace hy0 := (HB.out.cell (World.block_lt_of_cell? WA _ hy0)).trans hy0
    replace hy1 := (HB.out.cell (World.block_lt_of_cell? WA _ hy1)).trans hy1
    replace hy2 := (HB.out.cell (World.block_lt_of_cell? WA _ hy2)).trans hy2
    replace hy3 := (HB.out.cell (World.block_lt_of_cell? WA _ hy3)).trans hy3
    replace hy4 := (HB.out.cell (World.block_lt_of_cell? WA _ hy4)).trans hy4
    have hblhy : (hyd.add (kk * 5)).block < wr.heap.size := World.block_lt_of_cell? wr _ hy0
    obtain ⟨x1, hdef_x1⟩ : ∃ z, z = qAt l0_2 (kk : Int) := ⟨_, rfl⟩
    rw [← hdef_x1] at hx0 hx1 hx2 hx3 hx4 hl1 hC1 hl3 hC3 hl4 hC4
    have HX1 : qAa (l0_2[kk]? = some x1) := ⟨by rw [hdef_x1]; exact qCv l0_2 z92 kk (by have := HN2.out; omega)⟩
    clear hdef_x1
    obtain ⟨y1, hdef_y1⟩ : ∃ z, z = qAz l1_2 (kk : Int) := ⟨_, rfl⟩
    rw [← hdef_y1] at hy0 hy1 hy2 hy3 hy4 kl1 kC1 kl3 kC3 kl4 kC4
    have HY1 : qAa (l1_2[kk]? = some y1) := ⟨by rw [hdef_y1]; exact qCv l1_2 z100 kk (by have := HM2.out; omega)⟩
    clear hdef_y1
    have HFX : qAa (∀ W, Below WA.heap.size WA W → Calls Tryz.prog 54 #[.agg #[.slice F1 x1.f1.f0.f0.length d1, .int .i64 x1.f1.f0.f1, .slice F3 x1.f1.f1.length d3, .slice F4 x1.f1.f2.length d4], .agg #[.slice G1 y1.f1.f0.f0.length e1, .int .i64 y1.f1.f0.f1, .slice G3 y1.f1.f1.length e3, .slice G4 y1.f1.f2.length e4]] W fun e w' => e = .returned (.bool (likeF x1.f1 y1.f1)) ∧ Below W.heap.size W w') := ⟨fun W hW => HF.out F1 d1 F3 d3 F4 d4 x1.f1 G1 e1 G3 e3 G4 e4 y1.f1 W (by have := List.all_eq_true.1 HLF.out x1 (List.mem_of_getElem? HX1.out); unfold okLens at this; simpa using this) ⟨Kd.C_below hC1 hW, hl1, Kd.C_below hC3 hW, hl3, Kd.C_below hC4 hW, hl4⟩ ⟨Kd.C_below kC1 hW, kl1, Kd.C_below kC3 hW, kl3, Kd.C_below kC4 hW, kl4⟩⟩
    clear hl1 hC1 hl3 hC3 hl4 hC4 kl1 kC1 kl3 kC3 kl4 kC4
    by_cases cn : x1.f0.toList = y1.f0.toList
    rotate_left
    ·have cna : (x1.f0.toList == y1.f0.toList) = false := beq_eq_false_iff_ne.mpr cn
     have Hcn := am cna
     clear cn
     go_wp2
     repeat (go_quiet (fail); try go_wp2)
     go_ret
     refine ⟨?_, qAw HBA.out HBA.out.size (qAw HB.out HB.out.size (qD2 (Below.refl _ _) _))⟩
     rw [← HH.out, qB9 qEU l0_2 l1_2 kk _ _ HX1.out HY1.out (by unfold qEU; rw [Hcn.out]; rfl)]; simp
    have cna : (x1.f0.toList == y1.f0.toList) = true := beq_iff_eq.mpr cn
    have Hcn := am cna
    clear cn
    obtain ⟨b, hb⟩ : ∃ b, b = likeF x1.f1 y1.f1 := ⟨_, rfl⟩
    rw [← hb] at HFX
    have HQ := am hb
    clear hb
    go_wp2
    go_region_held3 (fun W => W.cell? ⟨w.heap.size, 2, none⟩ = some (.slice (some hxd) n2 c0_2) ∧ W.cell? ⟨w.heap.size + 1, 2, none⟩ = some (.slice (some hyd) m2 c1_2) ∧ W.cell? (hxd.add (kk * 5)) = some (.string x1.f0) ∧ W.cell? ⟨(hxd.add (kk * 5)).block, (hxd.add (kk * 5)).off + 1, none⟩ = some (.slice F1 x1.f1.f0.f0.length d1) ∧ W.cell? ⟨(hxd.add (kk * 5)).block, (hxd.add (kk * 5)).off + 2, none⟩ = some (.int .i64 x1.f1.f0.f1) ∧ W.cell? ⟨(hxd.add (kk * 5)).block, (hxd.add (kk * 5)).off + 3, none⟩ = some (.slice F3 x1.f1.f1.length d3) ∧ W.cell? ⟨(hxd.add (kk * 5)).block, (hxd.add (kk * 5)).off + 4, none⟩ = some (.slice F4 x1.f1.f2.length d4) ∧ W.cell? (hyd.add (kk * 5)) = some (.string y1.f0) ∧ W.cell? ⟨(hyd.add (kk * 5)).block, (hyd.add (kk * 5)).off + 1, none⟩ = some (.slice G1 y1.f1.f0.f0.length e1) ∧ W.cell? ⟨(hyd.add (kk * 5)).block, (hyd.add (kk * 5)).off + 2, none⟩ = some (.int .i64 y1.f1.f0.f1) ∧ W.cell? ⟨(hyd.add (kk * 5)).block, (hyd.add (kk * 5)).off + 3, none⟩ = some (.slice G3 y1.f1.f1.length e3) ∧ W.cell? ⟨(hyd.add (kk * 5)).block, (hyd.add (kk * 5)).off + 4, none⟩ = some (.slice G4 y1.f1.f2.length e4))
     (first | go_keep | exact ⟨(hb9.cell (World.block_lt_of_cell? _ _ q2)).trans q2, (hb9.cell (World.block_lt_of_cell? _ _ p2)).trans p2, (hb9.cell (World.block_lt_of_cell? _ _ hx0)).trans hx0, (hb9.cell (World.block_lt_of_cell? _ _ hx1)).trans hx1, (hb9.cell (World.block_lt_of_cell? _ _ hx2)).trans hx2, (hb9.cell (World.block_lt_of_cell? _ _ hx3)).trans hx3, (hb9.cell (World.block_lt_of_cell? _ _ hx4)).trans hx4, (hb9.cell (World.block_lt_of_cell? _ _ hy0)).trans hy0, (hb9.cell (World.block_lt_of_cell? _ _ hy1)).trans hy1, (hb9.cell (World.block_lt_of_cell? _ _ hy2)).trans hy2, (hb9.cell (World.block_lt_of_cell? _ _ hy3)).trans hy3, (hb9.cell (World.block_lt_of_cell? _ _ hy4)).trans hy4⟩)
     ((go_at_call 54; refine (HFX.out _ (qAM HB.out)).mono ?_; rintro e w9 ⟨rfl, hb9⟩))
    have HB9 := am (qAw HB.out HB.out.size (qAw (qAM (Below.refl _ _)) (Nat.le_refl _) hb9))
    clear hb9
    cases b with
    | false =>
     go_wp2
     go_ret
     refine ⟨?_, qAw HBA.out HBA.out.size HB9.out⟩
     rw [← HH.out, qB9 qEU l0_2 l1_2 kk _ _ HX1.out HY1.out (by unfold qEU; rw [← HQ.out]; simp)]; simp
    | true =>
     go_wp2
     go_roundg (n2 - (kk + 1))
     case measure => omega
     case rel =>
      refine ⟨kk + 1, by omega, by omega, by go_num, ⟨fun j u v hj hu hv => ?_⟩, ⟨HB9.out⟩⟩
      by_cases e : j = kk
      rotate_left
      ·exact HA.out j u v (by omega) hu hv
      subst e; rw [HX1.out] at hu; rw [HY1.out] at hv; injection hu with hu; injection hv with hv; subst hu; subst hv; exact (by unfold qEU; rw [Hcn.out, ← HQ.out]; rfl)
   have hltz : ¬ (kk : Int) < (n2 : Int) := by omega
   have hkn : kk = n2 := by omega
   have HV2 : qAa (all2 qEU l0_2 l1_2 = true) := ⟨qDY _ _ _ (by rw [← HN2.out, ← HM2.out]; exact HCN2.out) fun j x y hx hy => HA.out j x y (by rw [hkn, HN2.out]; exact (List.getElem?_eq_some_iff.1 hx).1) hx hy⟩
   replace HH : qAa ((a0_0.toList == a1_0.toList && all2 qCj l0_3 l1_3) = r) := ⟨by rw [← HH.out, HV2.out]; rfl⟩
   go_wp2_with fail
   clear hkn
   go_loopg [7, 8, 9] n3 (fun gg s7 _ _ wr => ∃ kk : Nat, kk ≤ n3 ∧ n3 - kk ≤ gg ∧ s7 = .int .i64 kk ∧ qAa (∀ (j : Nat) x y, j < kk → l0_3[j]? = some x → l1_3[j]? = some y → qCj x y = true) ∧ qAa (Below WA.heap.size WA wr))
   case atStart => exact ⟨0, Nat.zero_le _, by omega, rfl, ⟨fun j x y hj => absurd hj (Nat.not_lt_zero _)⟩, HB⟩
   case round =>
    clear HA HB q0 q1 q2 q3 p0 p1 p2 p3 hlt hkk hg
    obtain ⟨kk, hkk, hg, rfl, HA, HB⟩ := hrel
    obtain ⟨q0, q1, q2, q3, p0, p1, p2, p3⟩ := HX.out wr HB.out
    by_cases hlt : kk < n3
    rotate_left
    ·have hltz : ¬ (kk : Int) < (n3 : Int) := by omega
     have hkn : kk = n3 := by omega
     have HV3 : qAa (all2 qCj l0_3 l1_3 = true) := ⟨qDY _ _ _ (by rw [← HN3.out, ← HM3.out]; exact HCN3.out) fun j x y hx hy => HA.out j x y (by rw [hkn, HN3.out]; exact (List.getElem?_eq_some_iff.1 hx).1) hx hy⟩
     go_wp2
     go_ret
     exact ⟨by rw [← HH.out, HV3.out, HCM.out]; rfl, qAw HBA.out HBA.out.size HB.out⟩
    have hltz : (kk : Int) < (n3 : Int) := by omega
    have hltm : (kk : Int) < (m3 : Int) := by have := HCN3.out; omega
    have h0' : (0 : Int) ≤ (kk : Int) := by omega
    obtain ⟨hxd, ehx, hx0, hx1, hx2, hx3, hx4⟩ := qDQ HR3.out (kk : Int) h0' hltz
    subst ehx
    rw [Int.toNat_natCast] at hx0 hx1 hx2 hx3 hx4
    replace hx0 := (HB.out.cell (World.block_lt_of_cell? WA _ hx0)).trans hx0
    replace hx1 := (HB.out.cell (World.block_lt_of_cell? WA _ hx1)).trans hx1
    replace hx2 := (HB.out.cell (World.block_lt_of_cell? WA _ hx2)).trans hx2
    replace hx3 := (HB.out.cell (World.block_lt_of_cell? WA _ hx3)).trans hx3
    replace hx4 := (HB.out.cell (World.block_lt_of_cell? WA _ hx4)).trans hx4
    have hblhx : (hxd.add (kk * 5)).block < wr.heap.size := World.block_lt_of_cell? wr _ hx0
    obtain ⟨hyd, ehy, hy0, hy1, hy2, hy3, hy4⟩ := qCl HS3.out (kk : Int) h0' hltm
    subst ehy
    rw [Int.toNat_natCast] at hy0 hy1 hy2 hy3 hy4
    replace hy0 := (HB.out.cell (World.block_lt_of_cell? WA _ hy0)).trans hy0
    replace hy1 := (HB.out.cell (World.block_lt_of_cell? WA _ hy1)).trans hy1
    replace hy2 := (HB.out.cell (World.block_lt_of_cell? WA _ hy2)).trans hy2
    replace hy3 := (HB.out.cell (World.block_lt_of_cell? WA _ hy3)).trans hy3
    replace hy4 := (HB.out.cell (World.block_lt_of_cell? WA _ hy4)).trans hy4
    have hblhy : (hyd.add (kk * 5)).block < wr.heap.size := World.block_lt_of_cell? wr _ hy0
    obtain ⟨x1, hdef_x1⟩ : ∃ z, z = qC9 l0_3 (kk : Int) := ⟨_, rfl⟩
    rw [← hdef_x1] at hx0 hx1 hx2 hx3 hx4
    have HX1 : qAa (l0_3[kk]? = some x1) := ⟨by rw [hdef_x1]; exact qCv l0_3 z104 kk (by have := HN3.out; omega)⟩
    clear hdef_x1
    obtain ⟨y1, hdef_y1⟩ : ∃ z, z = qAj l1_3 (kk : Int) := ⟨_, rfl⟩
    rw [← hdef_y1] at hy0 hy1 hy2 hy3 hy4
    have HY1 : qAa (l1_3[kk]? = some y1) := ⟨by rw [hdef_y1]; exact qCv l1_3 z103 kk (by have := HM3.out; omega)⟩
    clear hdef_y1
    go_wp2
    go_region_held3 (fun W => W.cell? ⟨w.heap.size, 3, none⟩ = some (.slice (some hxd) n3 c0_3) ∧ W.cell? ⟨w.heap.size + 1, 3, none⟩ = some (.slice (some hyd) m3 c1_3) ∧ W.cell? (hxd.add (kk * 5)) = some (.int .i64 x1.f0) ∧ W.cell? ⟨(hxd.add (kk * 5)).block, (hxd.add (kk * 5)).off + 1, none⟩ = some (.int .i64 x1.f1) ∧ W.cell? ⟨(hxd.add (kk * 5)).block, (hxd.add (kk * 5)).off + 2, none⟩ = some (.int .i64 x1.f2) ∧ W.cell? ⟨(hxd.add (kk * 5)).block, (hxd.add (kk * 5)).off + 3, none⟩ = some (.string x1.f3) ∧ W.cell? ⟨(hxd.add (kk * 5)).block, (hxd.add (kk * 5)).off + 4, none⟩ = some (.string x1.f4) ∧ W.cell? (hyd.add (kk * 5)) = some (.int .i64 y1.f0) ∧ W.cell? ⟨(hyd.add (kk * 5)).block, (hyd.add (kk * 5)).off + 1, none⟩ = some (.int .i64 y1.f1) ∧ W.cell? ⟨(hyd.add (kk * 5)).block, (hyd.add (kk * 5)).off + 2, none⟩ = some (.int .i64 y1.f2) ∧ W.cell? ⟨(hyd.add (kk * 5)).block, (hyd.add (kk * 5)).off + 3, none⟩ = some (.string y1.f3) ∧ W.cell? ⟨(hyd.add (kk * 5)).block, (hyd.add (kk * 5)).off + 4, none⟩ = some (.string y1.f4))
     ((go_keep))
     (fail)
    all_goals clear q0 q1 q2 q3 p0 p1 p2 p3 hx0 hx1 hx2 hx3 hx4 hy0 hy1 hy2 hy3 hy4
    ·
     by_cases c0 : x1.f0 = y1.f0
     ·have c0a : (x1.f0 == y1.f0) = true := beq_iff_eq.mpr c0
      have c0b : (x1.f0 != y1.f0) = false := bne_eq_false_iff_eq.mpr c0
      have Hc0 := am c0a
      clear c0
      by_cases ce : x1.f1 = y1.f1
      ·have cea : (x1.f1 == y1.f1) = true := beq_iff_eq.mpr ce
       have ceb : (x1.f1 != y1.f1) = false := bne_eq_false_iff_eq.mpr ce
       have Hce := am cea
       clear ce
       by_cases cf : x1.f2 = y1.f2
       ·have cfa : (x1.f2 == y1.f2) = true := beq_iff_eq.mpr cf
        have cfb : (x1.f2 != y1.f2) = false := bne_eq_false_iff_eq.mpr cf
        have Hcf := am cfa
        clear cf
        by_cases cg : x1.f3.toList = y1.f3.toList
        ·have cga : (x1.f3.toList == y1.f3.toList) = true := beq_iff_eq.mpr cg
         have Hcg := am cga
         clear cg
         by_cases ch : x1.f4.toList = y1.f4.toList
         ·have cha : (x1.f4.toList == y1.f4.toList) = true := beq_iff_eq.mpr ch
          have Hch := am cha
          clear ch
          go_wp2
          go_roundg (n3 - (kk + 1))
          case measure => omega
          case rel =>
           refine ⟨kk + 1, by omega, by omega, by go_num, ⟨fun j u v hj hu hv => ?_⟩, ⟨qAw HB.out HB.out.size (qAM (((Below.refl _ _).alloc (Nat.le_refl _) _).alloc (by simp) _))⟩⟩
           by_cases e : j = kk
           rotate_left
           ·exact HA.out j u v (by omega) hu hv
           subst e; rw [HX1.out] at hu; rw [HY1.out] at hv; injection hu with hu; injection hv with hv; subst hu; subst hv; exact (by unfold qCj; rw [Hc0.out, Hce.out, Hcf.out, Hcg.out, Hch.out]; rfl)
         ·have cha : (x1.f4.toList == y1.f4.toList) = false := beq_eq_false_iff_ne.mpr ch
          have Hch := am cha
          clear ch
          go_wp2
          go_ret
          refine ⟨?_, qAw HBA.out HBA.out.size (qAw HB.out HB.out.size (qAM (((Below.refl _ _).alloc (Nat.le_refl _) _).alloc (by simp) _)))⟩
          rw [← HH.out, qB9 qCj l0_3 l1_3 kk _ _ HX1.out HY1.out (by unfold qCj; rw [Hc0.out, Hce.out, Hcf.out, Hcg.out, Hch.out]; simp)]; simp
        ·have cga : (x1.f3.toList == y1.f3.toList) = false := beq_eq_false_iff_ne.mpr cg
         have Hcg := am cga
         clear cg
         go_wp2
         go_ret
         refine ⟨?_, qAw HBA.out HBA.out.size (qAw HB.out HB.out.size (qAM (((Below.refl _ _).alloc (Nat.le_refl _) _).alloc (by simp) _)))⟩
         rw [← HH.out, qB9 qCj l0_3 l1_3 kk _ _ HX1.out HY1.out (by unfold qCj; rw [Hc0.out, Hce.out, Hcf.out, Hcg.out]; simp)]; simp
       ·have cfa : (x1.f2 == y1.f2) = false := beq_eq_false_iff_ne.mpr cf
        have cfb : (x1.f2 != y1.f2) = true := bne_iff_ne.mpr cf
        have Hcf := am cfa
        clear cf
        go_wp2
        go_ret
        refine ⟨?_, qAw HBA.out HBA.out.size (qAw HB.out HB.out.size (qAM (((Below.refl _ _).alloc (Nat.le_refl _) _).alloc (by simp) _)))⟩
        rw [← HH.out, qB9 qCj l0_3 l1_3 kk _ _ HX1.out HY1.out (by unfold qCj; rw [Hc0.out, Hce.out, Hcf.out]; simp)]; simp
      ·have cea : (x1.f1 == y1.f1) = false := beq_eq_false_iff_ne.mpr ce
       have ceb : (x1.f1 != y1.f1) = true := bne_iff_ne.mpr ce
       have Hce := am cea
       clear ce
       go_wp2
       go_ret
       refine ⟨?_, qAw HBA.out HBA.out.size (qAw HB.out HB.out.size (qAM (((Below.refl _ _).alloc (Nat.le_refl _) _).alloc (by simp) _)))⟩
       rw [← HH.out, qB9 qCj l0_3 l1_3 kk _ _ HX1.out HY1.out (by unfold qCj; rw [Hc0.out, Hce.out]; simp)]; simp
     ·have c0a : (x1.f0 == y1.f0) = false := beq_eq_false_iff_ne.mpr c0
      have c0b : (x1.f0 != y1.f0) = true := bne_iff_ne.mpr c0
      have Hc0 := am c0a
      clear c0
      go_wp2
      go_ret
      refine ⟨?_, qAw HBA.out HBA.out.size (qAw HB.out HB.out.size (qAM (((Below.refl _ _).alloc (Nat.le_refl _) _).alloc (by simp) _)))⟩
      rw [← HH.out, qB9 qCj l0_3 l1_3 kk _ _ HX1.out HY1.out (by unfold qCj; rw [Hc0.out]; simp)]; simp
    ·
     by_cases c0 : x1.f0 = y1.f0
     ·have c0a : (x1.f0 == y1.f0) = true := beq_iff_eq.mpr c0
      have c0b : (x1.f0 != y1.f0) = false := bne_eq_false_iff_eq.mpr c0
      have Hc0 := am c0a
      clear c0
      by_cases ce : x1.f1 = y1.f1
      ·have cea : (x1.f1 == y1.f1) = true := beq_iff_eq.mpr ce
       have ceb : (x1.f1 != y1.f1) = false := bne_eq_false_iff_eq.mpr ce
       have Hce := am cea
       clear ce
       by_cases cf : x1.f2 = y1.f2
       ·have cfa : (x1.f2 == y1.f2) = true := beq_iff_eq.mpr cf
        have cfb : (x1.f2 != y1.f2) = false := bne_eq_false_iff_eq.mpr cf
        have Hcf := am cfa
        clear cf
        by_cases cg : x1.f3.toList = y1.f3.toList
        ·have cga : (x1.f3.toList == y1.f3.toList) = true := beq_iff_eq.mpr cg
         have Hcg := am cga
         clear cg
         by_cases ch : x1.f4.toList = y1.f4.toList
         ·have cha : (x1.f4.toList == y1.f4.toList) = true := beq_iff_eq.mpr ch
          have Hch := am cha
          clear ch
          go_wp2
          go_roundg (n3 - (kk + 1))
          case measure => omega
          case rel =>
           refine ⟨kk + 1, by omega, by omega, by go_num, ⟨fun j u v hj hu hv => ?_⟩, ⟨qAw HB.out HB.out.size (qAM (((Below.refl _ _).alloc (Nat.le_refl _) _).alloc (by simp) _))⟩⟩
           by_cases e : j = kk
           rotate_left
           ·exact HA.out j u v (by omega) hu hv
           subst e; rw [HX1.out] at hu; rw [HY1.out] at hv; injection hu with hu; injection hv with hv; subst hu; subst hv; exact (by unfold qCj; rw [Hc0.out, Hce.out, Hcf.out, Hcg.out, Hch.out]; rfl)
         ·have cha : (x1.f4.toList == y1.f4.toList) = false := beq_eq_false_iff_ne.mpr ch
          have Hch := am cha
          clear ch
          go_wp2
          go_ret
          refine ⟨?_, qAw HBA.out HBA.out.size (qAw HB.out HB.out.size (qAM (((Below.refl _ _).alloc (Nat.le_refl _) _).alloc (by simp) _)))⟩
          rw [← HH.out, qB9 qCj l0_3 l1_3 kk _ _ HX1.out HY1.out (by unfold qCj; rw [Hc0.out, Hce.out, Hcf.out, Hcg.out, Hch.out]; simp)]; simp
        ·have cga : (x1.f3.toList == y1.f3.toList) = false := beq_eq_false_iff_ne.mpr cg
         have Hcg := am cga
         clear cg
         go_wp2
         go_ret
         refine ⟨?_, qAw HBA.out HBA.out.size (qAw HB.out HB.out.size (qAM (((Below.refl _ _).alloc (Nat.le_refl _) _).alloc (by simp) _)))⟩
         rw [← HH.out, qB9 qCj l0_3 l1_3 kk _ _ HX1.out HY1.out (by unfold qCj; rw [Hc0.out, Hce.out, Hcf.out, Hcg.out]; simp)]; simp
       ·have cfa : (x1.f2 == y1.f2) = false := beq_eq_false_iff_ne.mpr cf
        have cfb : (x1.f2 != y1.f2) = true := bne_iff_ne.mpr cf
        have Hcf := am cfa
        clear cf
        go_wp2
        go_ret
        refine ⟨?_, qAw HBA.out HBA.out.size (qAw HB.out HB.out.size (qAM (((Below.refl _ _).alloc (Nat.le_refl _) _).alloc (by simp) _)))⟩
        rw [← HH.out, qB9 qCj l0_3 l1_3 kk _ _ HX1.out HY1.out (by unfold qCj; rw [Hc0.out, Hce.out, Hcf.out]; simp)]; simp
      ·have cea : (x1.f1 == y1.f1) = false := beq_eq_false_iff_ne.mpr ce
       have ceb : (x1.f1 != y1.f1) = true := bne_iff_ne.mpr ce
       have Hce := am cea
       clear ce
       go_wp2
       go_ret
       refine ⟨?_, qAw HBA.out HBA.out.size (qAw HB.out HB.out.size (qAM (((Below.refl _ _).alloc (Nat.le_refl _) _).alloc (by simp) _)))⟩
       rw [← HH.out, qB9 qCj l0_3 l1_3 kk _ _ HX1.out HY1.out (by unfold qCj; rw [Hc0.out, Hce.out]; simp)]; simp
     ·have c0a : (x1.f0 == y1.f0) = false := beq_eq_false_iff_ne.mpr c0
      have c0b : (x1.f0 != y1.f0) = true := bne_iff_ne.mpr c0
      have Hc0 := am c0a
      clear c0
      go_wp2
      go_ret
      refine ⟨?_, qAw HBA.out HBA.out.size (qAw HB.out HB.out.size (qAM (((Below.refl _ _).alloc (Nat.le_refl _) _).alloc (by simp) _)))⟩
      rw [← HH.out, qB9 qCj l0_3 l1_3 kk _ _ HX1.out HY1.out (by unfold qCj; rw [Hc0.out]; simp)]; simp
end Q
end
section
namespace Q
open Go.RowKit PA PC PB
attribute [local go_sem] qAX min2_int qBi min_two max_three min_three max_four min_four
end Q
end
section
namespace Q
open Go.RowKit PA PC PB
open Val Ins DecLaw Wr Enc
theorem qDI {α β : Type} (p : α → β → Bool) (f : α → β) (h : ∀ x, p x (f x) = true) : ∀ (l : List α), all2 p l (l.map f) = true
 | [] => rfl
 | x :: xs => by simp only [List.map_cons, all2, Bool.and_eq_true]; exact ⟨h x, qDI p f h xs⟩
theorem all2_same {α : Type} (p : α → α → Bool) (h : ∀ x, p x x = true) (l : List α) : all2 p l l = true := by
 have := qDI p id h l
 simpa using this
theorem like_same (m : ByteArray) (vs : List S85) (fs : List S92) (rs : List S104) (hg : qDl m vs fs rs) : qBs.f m vs fs rs m (vs.map toRV) (fs.map toRN) (rs.map toRR) = some true := by
 have h1 := hg.vl
 have h2 := hg.fl
 unfold qBs.f
 rw [if_pos ⟨by omega, by omega, hg.rl, by
   rw [List.all_eq_true]
   intro x hx
   obtain ⟨_, a, b, c, _⟩ := hg.f x hx
   exact decide_eq_true ⟨a, b, c⟩⟩]
 unfold likeO
 rw [qDI qE8 toRV (fun x => by simp [qE8, toRV]), qDI qCj toRR (fun x => by simp [qCj, toRR]), qDI qEU toRN (fun x => by
   have e := all2_same eqI (fun y => by simp [eqI])
   simp only [qEU, toRN, likeF, e, qDI qE7 toRI (fun y => by simp [qE7, toRI])]; simp)]
 simp
end Q
end
section
namespace Q
open Go.ChangeShapes Go.WideShapes Go.RowKit Go.Deep PA PC PB
theorem one_bulk {H : Type} (d : DataW H) : 1 ≤ Rows.uptoBulk d := by
 cases d with
 | lit l => cases l <;> simp [Rows.uptoBulk]
 | nil => simp [Rows.uptoBulk]
 | ptr d => simp [Rows.uptoBulk]
 | slice elems spare => simp [Rows.uptoBulk]
 | agg parts => simp [Rows.uptoBulk]
 | iface t d => simp [Rows.uptoBulk]
 | map entries => simp [Rows.uptoBulk]
 | held h => simp [Rows.uptoBulk]
theorem part_bulk {H : Type} {d : DataW H} {l : List (DataW H)} (h : d ∈ l) : Rows.uptoBulk d ≤ Rows.uptoBulkAll l := by
 induction l with
 | nil => cases h
 | cons x r ih =>
  simp only [Rows.uptoBulkAll]
  cases List.mem_cons.1 h with
  | inl e => subst e; omega
  | inr e => have := ih e; omega
theorem length_bulk {H : Type} (l : List (DataW H)) : l.length ≤ Rows.uptoBulkAll l := by
 induction l with
 | nil => simp
 | cons x r ih => have := one_bulk x; simp only [Rows.uptoBulkAll, List.length_cons]; omega
def qBV {α : Type} (P : Program) (w : World) (N : Nat) (t : TypeId) (d : Kd α) (G : α → Prop) : Prop :=
 ∀ (H : Type) (enc : TypeId × Value → H) (base : Nat) (spare : Nat → Bool) (held : Bool) (fuel : Nat) (cs : List Value) (x : DataW H × List MemPlace),
  DataW.trod enc P w base spare held fuel t cs = some x → Rows.uptoBulk x.1 ≤ N → ∃ a, d.K w a cs ∧ G a
theorem qBZ {P : Program} {w : World} {N : Nat} {t : TypeId} {k : IntKind} (ht : P.underlying t = some (.int k)) : qBV P w N t (Kd.int k) (fun n => (Lit.int k n).wf = true) := by
 intro H enc base spare held fuel cs x h hb
 obtain ⟨n, rfl, _, hw⟩ := DataW.trod_int ht h
 exact ⟨n, rfl, hw⟩
theorem qC3 {P : Program} {w : World} {N : Nat} {t : TypeId} (ht : P.underlying t = some .string) : qBV P w N t Kd.string (fun s => s.size ≤ N) := by
 intro H enc base spare held fuel cs x h hb
 obtain ⟨s, rfl, rfl, hs⟩ := DataW.trod_string ht h
 refine ⟨s, rfl, ?_⟩
 have e : s.data.toList.length = s.size := by rw [Array.length_toList]; rfl
 simp only [Rows.uptoBulk, e] at hb
 omega
theorem list_of {α : Type} {p : Nat → α → Prop} : ∀ (n : Nat), (∀ i, i < n → ∃ a, p i a) → ∃ l : List α, l.length = n ∧ ∀ i a, l[i]? = some a → p i a
 | 0, _ => ⟨[], rfl, fun i a h => by simp at h⟩
 | n + 1, h => by
  obtain ⟨l, hl, hp⟩ := list_of n fun i hi => h i (by omega)
  obtain ⟨a, ha⟩ := h n (by omega)
  refine ⟨l ++ [a], by simp [hl], fun i b hb => ?_⟩
  by_cases hi : i < l.length
  ·rw [List.getElem?_append_left hi] at hb; exact hp i b hb
  rw [List.getElem?_append_right (by omega)] at hb
  have : i - l.length = 0 := by
   cases hk : i - l.length with
   | zero => rfl
   | succ k => rw [hk] at hb; simp at hb
  rw [this] at hb
  obtain rfl : a = b := by simpa using hb
  have : i = n := by omega
  subst this; exact ha
theorem qCw {α : Type} {P : Program} {w : World} {N : Nat} {t e : TypeId} {d : Kd α} {G : α → Prop} (ht : P.underlying t = some (.slice e)) (hsz : d.sz = P.cellsOf e) (he : qBV P w N e d G) : qBV P w N t (Kd.slice e d) (fun l => l.length ≤ N ∧ ∀ x ∈ l, G x) := by
 intro H enc base spare held fuel cs x h hb
 rcases open_slice ht h with ⟨rfl, rfl⟩ | ⟨a, len, cap, m, n, D, Pl, rfl, _, hl, hm, hmm, rfl, hx⟩
 ·exact ⟨[], ⟨none, 0, rfl, Nat.le_refl _, Kd.C_nil d w⟩, by simp, fun _ h => by cases h⟩
 have hlm : len ≤ m := by rw [hmm]; split <;> omega
 simp only [Rows.uptoBulk] at hb
 have hlen := length_bulk ((List.range len).map D)
 rw [List.length_map, List.length_range] at hlen
 obtain ⟨l, hll, hp⟩ := list_of (p := fun i a' => (∃ c, c.length = d.sz ∧ d.K w a' c ∧ ∀ j u, c[j]? = some u → w.cell? (a.add (i * d.sz + j)) = some u) ∧ G a') len (fun i hi => by
   obtain ⟨cs', h1, h2⟩ := hx i (by omega)
   have hbi : Rows.uptoBulk (D i) ≤ N := by
     have := part_bulk (d := D i) (l := (List.range len).map D) (List.mem_map.2 ⟨i, List.mem_range.2 hi, rfl⟩)
     omega
   obtain ⟨a', hk, hg⟩ := he _ _ _ _ _ _ _ _ h2 hbi
   obtain ⟨_, hcl, hcell⟩ := World.cells?_some h1
   refine ⟨a', ⟨cs', d.K_len hk, hk, fun j u hu => ?_⟩, hg⟩
   have hj : j < cs'.length := (List.getElem?_eq_some_iff.1 hu).1
   have := hcell j (by omega)
   rw [Go.Deep.add_add] at this
   rw [hsz, this, hu])
 have hmax : maxLen ≤ 9223372036854775807 := by decide
 refine ⟨l, ⟨some a, cap, by rw [hll], by omega, ⟨rfl, by omega, fun _ => ⟨a, rfl, fun j p hj => (hp j p hj).1⟩⟩⟩, by omega, fun x hx => ?_⟩
 obtain ⟨i, hi⟩ := List.getElem?_of_mem hx
 exact (hp i x hi).2
theorem list_2 {α : Type} : ∀ {l : List α}, l.length = 2 → ∃ a0 a1, l = [a0, a1]
 | [a0, a1], _ => ⟨a0, a1, rfl⟩
theorem list_3 {α : Type} : ∀ {l : List α}, l.length = 3 → ∃ a0 a1 a2, l = [a0, a1, a2]
 | [a0, a1, a2], _ => ⟨a0, a1, a2, rfl⟩
theorem list_4 {α : Type} : ∀ {l : List α}, l.length = 4 → ∃ a0 a1 a2 a3, l = [a0, a1, a2, a3]
 | [a0, a1, a2, a3], _ => ⟨a0, a1, a2, a3, rfl⟩
theorem list_5 {α : Type} : ∀ {l : List α}, l.length = 5 → ∃ a0 a1 a2 a3 a4, l = [a0, a1, a2, a3, a4]
 | [a0, a1, a2, a3, a4], _ => ⟨a0, a1, a2, a3, a4, rfl⟩
def qDP (N : Nat) (x : S83) : Prop := (Lit.int .i64 x.f0).wf = true ∧ (Lit.int .u64 x.f1).wf = true
theorem qDA (w : World) (N : Nat) : qBV Tryz.prog w N 83 k83 (qDP N) := by
 intro H enc base spare held fuel cs x h hb
 obtain ⟨xs, n, _, rfl, hl, hlen, hf⟩ := DataW.trod_struct Tryz.underlying83 h
 have hl' : cs.length = 2 := hl.trans (by kernel_rfl)
 obtain ⟨c0, c1, rfl⟩ : ∃ c0 c1, cs = [c0, c1] := list_2 hl'
 obtain ⟨y0, y1, rfl⟩ : ∃ y0 y1, xs = [y0, y1] := list_2 hlen
 simp only [Rows.uptoBulk, Rows.uptoBulkAll, List.map_cons, List.map_nil] at hb
 have h0 := hf 0 _ rfl
 obtain ⟨a0, k0, g0⟩ := (qBZ (by kernel_rfl) : qBV Tryz.prog w N _ (Kd.int .i64) _) _ _ _ _ _ _ _ y0 h0 (by omega)
 have h1 := hf 1 _ rfl
 obtain ⟨a1, k1, g1⟩ := (qBZ (by kernel_rfl) : qBV Tryz.prog w N _ (Kd.int .u64) _) _ _ _ _ _ _ _ y1 h1 (by omega)
 exact ⟨⟨a0, a1⟩, ⟨_, _, by kernel_rfl, k0, k1⟩, ⟨g0, g1⟩⟩
def qCM (N : Nat) (x : S172) : Prop := (Lit.int .i64 x.f0).wf = true ∧ (Lit.int .i64 x.f1).wf = true ∧ qDP N x.f2
theorem qDx (w : World) (N : Nat) : qBV Tryz.prog w N 172 k172 (qCM N) := by
 intro H enc base spare held fuel cs x h hb
 obtain ⟨xs, n, _, rfl, hl, hlen, hf⟩ := DataW.trod_struct Tryz.underlying172 h
 have hl' : cs.length = 4 := hl.trans (by kernel_rfl)
 obtain ⟨c0, c1, c2, c3, rfl⟩ : ∃ c0 c1 c2 c3, cs = [c0, c1, c2, c3] := list_4 hl'
 obtain ⟨y0, y1, y2, rfl⟩ : ∃ y0 y1 y2, xs = [y0, y1, y2] := list_3 hlen
 simp only [Rows.uptoBulk, Rows.uptoBulkAll, List.map_cons, List.map_nil] at hb
 have h0 := hf 0 _ rfl
 obtain ⟨a0, k0, g0⟩ := (qBZ (by kernel_rfl) : qBV Tryz.prog w N _ (Kd.int .i64) _) _ _ _ _ _ _ _ y0 h0 (by omega)
 have h1 := hf 1 _ rfl
 obtain ⟨a1, k1, g1⟩ := (qBZ (by kernel_rfl) : qBV Tryz.prog w N _ (Kd.int .i64) _) _ _ _ _ _ _ _ y1 h1 (by omega)
 have h2 := hf 2 _ rfl
 obtain ⟨a2, k2, g2⟩ := (qDA w N : qBV Tryz.prog w N _ (k83) _) _ _ _ _ _ _ _ y2 h2 (by omega)
 exact ⟨⟨a0, a1, a2⟩, ⟨_, _, by kernel_rfl, k0, ⟨_, _, rfl, k1, k2⟩⟩, ⟨g0, g1, g2⟩⟩
def qCN (N : Nat) (x : S70) : Prop := (x.f0.length ≤ N ∧ ∀ y ∈ x.f0, (Lit.int .i64 y).wf = true) ∧ (Lit.int .i64 x.f1).wf = true
theorem qDy (w : World) (N : Nat) : qBV Tryz.prog w N 70 k70 (qCN N) := by
 intro H enc base spare held fuel cs x h hb
 obtain ⟨xs, n, _, rfl, hl, hlen, hf⟩ := DataW.trod_struct Tryz.underlying70 h
 have hl' : cs.length = 2 := hl.trans (by kernel_rfl)
 obtain ⟨c0, c1, rfl⟩ : ∃ c0 c1, cs = [c0, c1] := list_2 hl'
 obtain ⟨y0, y1, rfl⟩ : ∃ y0 y1, xs = [y0, y1] := list_2 hlen
 simp only [Rows.uptoBulk, Rows.uptoBulkAll, List.map_cons, List.map_nil] at hb
 have h0 := hf 0 _ rfl
 obtain ⟨a0, k0, g0⟩ := (qCw (by kernel_rfl) (by kernel_rfl) (qBZ (by kernel_rfl)) : qBV Tryz.prog w N _ (_) _) _ _ _ _ _ _ _ y0 h0 (by omega)
 have h1 := hf 1 _ rfl
 obtain ⟨a1, k1, g1⟩ := (qBZ (by kernel_rfl) : qBV Tryz.prog w N _ (Kd.int .i64) _) _ _ _ _ _ _ _ y1 h1 (by omega)
 exact ⟨⟨a0, a1⟩, ⟨_, _, by kernel_rfl, k0, k1⟩, ⟨g0, g1⟩⟩
def qCW (N : Nat) (x : S98) : Prop := qCN N x.f0 ∧ (x.f1.length ≤ N ∧ ∀ y ∈ x.f1, (Lit.int .i64 y).wf = true) ∧ (x.f2.length ≤ N ∧ ∀ y ∈ x.f2, qCM N y)
theorem qDB (w : World) (N : Nat) : qBV Tryz.prog w N 98 k98 (qCW N) := by
 intro H enc base spare held fuel cs x h hb
 obtain ⟨xs, n, _, rfl, hl, hlen, hf⟩ := DataW.trod_struct Tryz.underlying98 h
 have hl' : cs.length = 4 := hl.trans (by kernel_rfl)
 obtain ⟨c0, c1, c2, c3, rfl⟩ : ∃ c0 c1 c2 c3, cs = [c0, c1, c2, c3] := list_4 hl'
 obtain ⟨y0, y1, y2, rfl⟩ : ∃ y0 y1 y2, xs = [y0, y1, y2] := list_3 hlen
 simp only [Rows.uptoBulk, Rows.uptoBulkAll, List.map_cons, List.map_nil] at hb
 have h0 := hf 0 _ rfl
 obtain ⟨a0, k0, g0⟩ := (qDy w N : qBV Tryz.prog w N _ (k70) _) _ _ _ _ _ _ _ y0 h0 (by omega)
 have h1 := hf 1 _ rfl
 obtain ⟨a1, k1, g1⟩ := (qCw (by kernel_rfl) (by kernel_rfl) (qBZ (by kernel_rfl)) : qBV Tryz.prog w N _ (_) _) _ _ _ _ _ _ _ y1 h1 (by omega)
 have h2 := hf 2 _ rfl
 obtain ⟨a2, k2, g2⟩ := (qCw (by kernel_rfl) (by kernel_rfl) (qDx w N) : qBV Tryz.prog w N _ (_) _) _ _ _ _ _ _ _ y2 h2 (by omega)
 exact ⟨⟨a0, a1, a2⟩, ⟨_, _, by kernel_rfl, k0, ⟨_, _, rfl, k1, k2⟩⟩, ⟨g0, g1, g2⟩⟩
def qCO (N : Nat) (x : S95) : Prop := x.f0.size ≤ N ∧ qDP N x.f1
theorem qDz (w : World) (N : Nat) : qBV Tryz.prog w N 95 k95 (qCO N) := by
 intro H enc base spare held fuel cs x h hb
 obtain ⟨xs, n, _, rfl, hl, hlen, hf⟩ := DataW.trod_struct Tryz.underlying95 h
 have hl' : cs.length = 3 := hl.trans (by kernel_rfl)
 obtain ⟨c0, c1, c2, rfl⟩ : ∃ c0 c1 c2, cs = [c0, c1, c2] := list_3 hl'
 obtain ⟨y0, y1, rfl⟩ : ∃ y0 y1, xs = [y0, y1] := list_2 hlen
 simp only [Rows.uptoBulk, Rows.uptoBulkAll, List.map_cons, List.map_nil] at hb
 have h0 := hf 0 _ rfl
 obtain ⟨a0, k0, g0⟩ := (qC3 (by kernel_rfl) : qBV Tryz.prog w N _ (Kd.string) _) _ _ _ _ _ _ _ y0 h0 (by omega)
 have h1 := hf 1 _ rfl
 obtain ⟨a1, k1, g1⟩ := (qDA w N : qBV Tryz.prog w N _ (k83) _) _ _ _ _ _ _ _ y1 h1 (by omega)
 exact ⟨⟨a0, a1⟩, ⟨_, _, by kernel_rfl, k0, k1⟩, ⟨g0, g1⟩⟩
def qCX (N : Nat) (x : S100) : Prop := x.f0.size ≤ N ∧ qCW N x.f1
theorem qDC (w : World) (N : Nat) : qBV Tryz.prog w N 100 k100 (qCX N) := by
 intro H enc base spare held fuel cs x h hb
 obtain ⟨xs, n, _, rfl, hl, hlen, hf⟩ := DataW.trod_struct Tryz.underlying100 h
 have hl' : cs.length = 5 := hl.trans (by kernel_rfl)
 obtain ⟨c0, c1, c2, c3, c4, rfl⟩ : ∃ c0 c1 c2 c3 c4, cs = [c0, c1, c2, c3, c4] := list_5 hl'
 obtain ⟨y0, y1, rfl⟩ : ∃ y0 y1, xs = [y0, y1] := list_2 hlen
 simp only [Rows.uptoBulk, Rows.uptoBulkAll, List.map_cons, List.map_nil] at hb
 have h0 := hf 0 _ rfl
 obtain ⟨a0, k0, g0⟩ := (qC3 (by kernel_rfl) : qBV Tryz.prog w N _ (Kd.string) _) _ _ _ _ _ _ _ y0 h0 (by omega)
 have h1 := hf 1 _ rfl
 obtain ⟨a1, k1, g1⟩ := (qDB w N : qBV Tryz.prog w N _ (k98) _) _ _ _ _ _ _ _ y1 h1 (by omega)
 exact ⟨⟨a0, a1⟩, ⟨_, _, by kernel_rfl, k0, k1⟩, ⟨g0, g1⟩⟩
def qCA (N : Nat) (x : S103) : Prop := (Lit.int .i64 x.f0).wf = true ∧ (Lit.int .i64 x.f1).wf = true ∧ (Lit.int .i64 x.f2).wf = true ∧ x.f3.size ≤ N ∧ x.f4.size ≤ N
theorem qDe (w : World) (N : Nat) : qBV Tryz.prog w N 103 k103 (qCA N) := by
 intro H enc base spare held fuel cs x h hb
 obtain ⟨xs, n, _, rfl, hl, hlen, hf⟩ := DataW.trod_struct Tryz.underlying103 h
 have hl' : cs.length = 5 := hl.trans (by kernel_rfl)
 obtain ⟨c0, c1, c2, c3, c4, rfl⟩ : ∃ c0 c1 c2 c3 c4, cs = [c0, c1, c2, c3, c4] := list_5 hl'
 obtain ⟨y0, y1, y2, y3, y4, rfl⟩ : ∃ y0 y1 y2 y3 y4, xs = [y0, y1, y2, y3, y4] := list_5 hlen
 simp only [Rows.uptoBulk, Rows.uptoBulkAll, List.map_cons, List.map_nil] at hb
 have h0 := hf 0 _ rfl
 obtain ⟨a0, k0, g0⟩ := (qBZ (by kernel_rfl) : qBV Tryz.prog w N _ (Kd.int .i64) _) _ _ _ _ _ _ _ y0 h0 (by omega)
 have h1 := hf 1 _ rfl
 obtain ⟨a1, k1, g1⟩ := (qBZ (by kernel_rfl) : qBV Tryz.prog w N _ (Kd.int .i64) _) _ _ _ _ _ _ _ y1 h1 (by omega)
 have h2 := hf 2 _ rfl
 obtain ⟨a2, k2, g2⟩ := (qBZ (by kernel_rfl) : qBV Tryz.prog w N _ (Kd.int .i64) _) _ _ _ _ _ _ _ y2 h2 (by omega)
 have h3 := hf 3 _ rfl
 obtain ⟨a3, k3, g3⟩ := (qC3 (by kernel_rfl) : qBV Tryz.prog w N _ (Kd.string) _) _ _ _ _ _ _ _ y3 h3 (by omega)
 have h4 := hf 4 _ rfl
 obtain ⟨a4, k4, g4⟩ := (qC3 (by kernel_rfl) : qBV Tryz.prog w N _ (Kd.string) _) _ _ _ _ _ _ _ y4 h4 (by omega)
 exact ⟨⟨a0, a1, a2, a3, a4⟩, ⟨_, _, by kernel_rfl, k0, ⟨_, _, rfl, k1, ⟨_, _, rfl, k2, ⟨_, _, rfl, k3, k4⟩⟩⟩⟩, ⟨g0, g1, g2, g3, g4⟩⟩
def qBT (N : Nat) (x : S26) : Prop := x.f0.size ≤ N ∧ (x.f1.length ≤ N ∧ ∀ y ∈ x.f1, qCO N y) ∧ (x.f2.length ≤ N ∧ ∀ y ∈ x.f2, qCX N y) ∧ (x.f3.length ≤ N ∧ ∀ y ∈ x.f3, qCA N y)
theorem opens_foundryref15_Object (w : World) (N : Nat) : qBV Tryz.prog w N 26 k26 (qBT N) := by
 intro H enc base spare held fuel cs x h hb
 obtain ⟨xs, n, _, rfl, hl, hlen, hf⟩ := DataW.trod_struct Tryz.underlying26 h
 have hl' : cs.length = 4 := hl.trans (by kernel_rfl)
 obtain ⟨c0, c1, c2, c3, rfl⟩ : ∃ c0 c1 c2 c3, cs = [c0, c1, c2, c3] := list_4 hl'
 obtain ⟨y0, y1, y2, y3, rfl⟩ : ∃ y0 y1 y2 y3, xs = [y0, y1, y2, y3] := list_4 hlen
 simp only [Rows.uptoBulk, Rows.uptoBulkAll, List.map_cons, List.map_nil] at hb
 have h0 := hf 0 _ rfl
 obtain ⟨a0, k0, g0⟩ := (qC3 (by kernel_rfl) : qBV Tryz.prog w N _ (Kd.string) _) _ _ _ _ _ _ _ y0 h0 (by omega)
 have h1 := hf 1 _ rfl
 obtain ⟨a1, k1, g1⟩ := (qCw (by kernel_rfl) (by kernel_rfl) (qDz w N) : qBV Tryz.prog w N _ (_) _) _ _ _ _ _ _ _ y1 h1 (by omega)
 have h2 := hf 2 _ rfl
 obtain ⟨a2, k2, g2⟩ := (qCw (by kernel_rfl) (by kernel_rfl) (qDC w N) : qBV Tryz.prog w N _ (_) _) _ _ _ _ _ _ _ y2 h2 (by omega)
 have h3 := hf 3 _ rfl
 obtain ⟨a3, k3, g3⟩ := (qCw (by kernel_rfl) (by kernel_rfl) (qDe w N) : qBV Tryz.prog w N _ (_) _) _ _ _ _ _ _ _ y3 h3 (by omega)
 exact ⟨⟨a0, a1, a2, a3⟩, ⟨_, _, by kernel_rfl, k0, ⟨_, _, rfl, k1, ⟨_, _, rfl, k2, k3⟩⟩⟩, ⟨g0, g1, g2, g3⟩⟩
end Q
end
end Go.Proofs.YtfjpnjbinbhcfaaGreat
