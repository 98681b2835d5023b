/- The program's object.Right of any object and the document's tell the same, where what is read is of bulk at most 1048576: Rows.ObjectRightsUptoSaid. Part 8 of 10. -/
import Derived.Test.YtfjpnjbinbhcfaaGreatT7
import Derived.StillTailTactics
import Derived.Deep.RegionHeld3
import Derived.Test.YtfjpnjbinbhcfaaGreatRows
import Derived.ChangeArms
import Derived.ChangeSame
import Derived.Deep.Slices
set_option maxHeartbeats 8000000
set_option maxRecDepth 100000
set_option linter.unusedVariables false
set_option linter.unusedSimpArgs false
namespace Go.Proofs.YtfjpnjbinbhcfaaGreat
section
namespace Q
open Go.RowKit PA PC PB
attribute [local go_sem] qAU min2_int qBd min_two max_three min_three max_four min_four
mutual
def qAm.l0 : Nat → List ByteArray → Int → ByteArray → List (S95) → List (S100) → List (S103) → Option (Int)
 | 0, _, _, _, _, _, _ => none
 | k + 1, x4, x5, aZ, aG, aM, aK => if x5 < (wrap64 ((aG.length : Int) + (aM.length : Int))) then (if x5 < (aG.length : Int) then (if 0 ≤ x5 then ((qB1.f ((qBu aG x5).f1.f0) ((qBu aG x5).f1.f1)).bind fun b4 => (qAm.j1 k x4 x5 ((qBu aG x5).f0) b4 aZ aG aM aK)) else (none)) else (if 0 ≤ (wrap64 (x5 - (aG.length : Int))) then (if (wrap64 (x5 - (aG.length : Int))) < (aM.length : Int) then ((qAl.f k ((qA3 aM (wrap64 (x5 - (aG.length : Int)))).f1.f0.f0) ((qA3 aM (wrap64 (x5 - (aG.length : Int)))).f1.f0.f1) ((qA3 aM (wrap64 (x5 - (aG.length : Int)))).f1.f1) ((qA3 aM (wrap64 (x5 - (aG.length : Int)))).f1.f2)).bind fun bO => (qAm.j1 k x4 x5 ((qA3 aM (wrap64 (x5 - (aG.length : Int)))).f0) bO aZ aG aM aK)) else (none)) else (none))) else ((qAq.f k aZ aG aM aK).bind fun ce => (if ce = true then (qAm.l1 k 0 aZ aG aM aK) else (some 52)))
def qAm.j1 : Nat → List ByteArray → Int → ByteArray → Bool → ByteArray → List (S95) → List (S100) → List (S103) → Option (Int)
 | 0, _, _, _, _, _, _, _, _ => none
 | k + 1, x4, x5, x6, x7, aZ, aG, aM, aK => (qAA.f x6).bind fun aq => (if aq = 0 then ((qBs.f k x4 x6).bind fun bZ => (if bZ = true then (some 20) else (if x7 = true then (if x4.length < 8796093022208 then (qAm.l0 k (x4 ++ [x6]) (wrap64 (x5 + 1)) aZ aG aM aK) else (none)) else (some 52)))) else (some aq))
def qAm.l1 : Nat → Int → ByteArray → List (S95) → List (S100) → List (S103) → Option (Int)
 | 0, _, _, _, _, _ => none
 | k + 1, x8, aZ, aG, aM, aK => if x8 < (aK.length : Int) then (if 0 ≤ x8 then ((qAA.f ((qAw aK x8).f3)).bind fun ar => (if ar = 0 then ((qAA.f ((qAw aK x8).f4)).bind fun ap => (if ap = 0 then (qAm.l1 k (wrap64 (x8 + 1)) aZ aG aM aK) else (some ap))) else (some ar))) else (none)) else (qAm.l2 k 0 aZ aG aM aK)
def qAm.l2 : Nat → Int → ByteArray → List (S95) → List (S100) → List (S103) → Option (Int)
 | 0, _, _, _, _, _ => none
 | k + 1, b5, aZ, aG, aM, aK => if b5 < (aK.length : Int) then (if 0 ≤ b5 then (if ((qAw aK b5).f3).toList = aZ.toList then ((qAz.f k aZ aG aM aK ((qAw aK b5).f0) ((qAw aK b5).f1) ((qAw aK b5).f2) ((qAw aK b5).f3) ((qAw aK b5).f4)).bind fun cf => (if cf = true then (qAm.l2 k (wrap64 (b5 + 1)) aZ aG aM aK) else (some 52))) else (if ((qAw aK b5).f2) = 1 then (some 52) else (qAm.l2 k (wrap64 (b5 + 1)) aZ aG aM aK))) else (none)) else (some 0)
end
def qAm.f (k : Nat) (a0_0 : ByteArray) (l0_1 : List (S95)) (l0_2 : List (S100)) (l0_3 : List (S103)) : Option (Int) := (qAA.f a0_0).bind fun ao => (if ao = 0 then (if (wrap64 ((l0_1.length : Int) + (l0_2.length : Int))) > 64 then (some 3) else (qAm.l0 k ([] : List ByteArray) 0 a0_0 l0_1 l0_2 l0_3)) else (some ao))
theorem qAm.calls (k : Nat) (a0_0 : ByteArray) (af : Option Addr) (ah : Nat) (l0_1 : List (S95)) (ag : Option Addr) (ai : Nat) (l0_2 : List (S100)) (ae : Option Addr) (a6 : Nat) (l0_3 : List (S103)) (r : Int) (w : World) (hr0_1 : Kd.C k95 w af l0_1.length l0_1) (hc0_1 : l0_1.length ≤ ah) (hr0_2 : Kd.C k100 w ag l0_2.length l0_2) (hc0_2 : l0_2.length ≤ ai) (hr0_3 : Kd.C k103 w ae l0_3.length l0_3) (hc0_3 : l0_3.length ≤ a6) (h : qAm.f k a0_0 l0_1 l0_2 l0_3 = some r) :
  Calls Tryz.prog 11 #[.agg #[.string a0_0, .slice af l0_1.length ah, .slice ag l0_2.length ai, .slice ae l0_3.length a6]] w fun e w' => e = .returned (.int .i64 r) ∧ Below w.heap.size w w' := by
 have bE := am hr0_1
 have bP := am hc0_1
 clear hr0_1 hc0_1
 have bF := am hr0_2
 have bQ := am hc0_2
 clear hr0_2 hc0_2
 have ak := am hr0_3
 have bR := am hc0_3
 clear hr0_3 hc0_3
 have HB := am (Below.refl w.heap.size w)
 have H : ((qAA.f a0_0).bind fun ao => (if ao = 0 then (if (wrap64 ((l0_1.length : Int) + (l0_2.length : Int))) > 64 then (some 3) else (qAm.l0 k ([] : List ByteArray) 0 a0_0 l0_1 l0_2 l0_3)) else (some ao))) = some r := h
 clear h
 replace H := bm H
 obtain ⟨ao, gO, H⟩ := H
 replace H : (if ao = 0 then (if (wrap64 ((l0_1.length : Int) + (l0_2.length : Int))) > 64 then (some 3) else (qAm.l0 k ([] : List ByteArray) 0 a0_0 l0_1 l0_2 l0_3)) else (some ao)) = some r := H
 have A2 := am gO
 clear gO
 by_cases c3 : ao = 0
 ·rw [if_pos c3] at H
  have fs : (ao == 0) = true := beq_iff_eq.mpr c3
  have dY : (ao != 0) = false := bn c3
  clear c3
  by_cases c4 : (wrap64 ((l0_1.length : Int) + (l0_2.length : Int))) > 64
  ·rw [if_pos c4] at H
   replace c4 := d1 c4
   obtain rfl := Option.some.inj H
   go_enter Tryz.func11, Tryz.ntmps11
   go_wp2_with (first | ((with_reducible refine qAI (N := 1) rfl ?_); refine bx 1 #[.string a0_0, .slice af l0_1.length ah, .slice ag l0_2.length ai, .slice ae l0_3.length a6] 26 ?_; intro aC hg w5 hbox hb; have n_ := a2 (qAp HB.o hb) (am (hbox)); clear HB; obtain ⟨HB, aA⟩ := n_; clear hb hbox hg; have gC : w5.cell? ⟨aC, 0, none⟩ = some (.string a0_0) := (qAa aA.o 0).trans rfl; have gF := qAc aA.o 3) | ((with_reducible refine qAv (f := 36) rfl ?_); refine gL 14 Tryz.func36 #[.string a0_0] ?_; (with_reducible refine (qAA.calls a0_0 ao _ A2.o).mono ?_); rintro e w7 ⟨rfl, hb⟩; refine ⟨_, rfl, ?_⟩; have n_ := a2 (qAt aA.o hb) (am (qAp HB.o hb)); clear aA HB; obtain ⟨aA, HB⟩ := n_; have gD : w7.cell? ⟨aC, 1, none⟩ = some (.slice af l0_1.length ah) := (qAa aA.o 1).trans rfl; have gE : w7.cell? ⟨aC, 2, none⟩ = some (.slice ag l0_2.length ai) := (qAa aA.o 2).trans rfl; have gG := qAc aA.o 3))
   go_ret
   exact ⟨by rfl, by exact HB.o⟩
  ·rw [if_neg c4] at H
   replace c4 := d0 c4
   have H' := am H
   clear H
   go_enter Tryz.func11, Tryz.ntmps11
   go_wp2_with (first | ((with_reducible refine qAI (N := 1) rfl ?_); refine bx 1 #[.string a0_0, .slice af l0_1.length ah, .slice ag l0_2.length ai, .slice ae l0_3.length a6] 26 ?_; intro aC hg w9 hbox hb; have n_ := a2 (qAp HB.o hb) (am (hbox)); clear HB; obtain ⟨HB, aA⟩ := n_; clear hb hbox hg; have bd : w9.cell? ⟨aC, 0, none⟩ = some (.string a0_0) := (qAa aA.o 0).trans rfl; have bg : w9.cell? ⟨aC, 1, none⟩ = some (.slice af l0_1.length ah) := (qAa aA.o 1).trans rfl; have bh : w9.cell? ⟨aC, 2, none⟩ = some (.slice ag l0_2.length ai) := (qAa aA.o 2).trans rfl; have bi : w9.cell? ⟨aC, 3, none⟩ = some (.slice ae l0_3.length a6) := (qAa aA.o 3).trans rfl; have cF := qAc aA.o 0; have cG := qAc aA.o 1; have cH := qAc aA.o 2; have cI := qAc aA.o 3) | ((with_reducible refine qAv (f := 36) rfl ?_); refine gL 14 Tryz.func36 #[.string a0_0] ?_; (with_reducible refine (qAA.calls a0_0 ao _ A2.o).mono ?_); rintro e fh ⟨rfl, hb⟩; refine ⟨_, rfl, ?_⟩; have n_ := a2 (qAt aA.o hb) (am (qAp HB.o hb)); clear aA HB; obtain ⟨aA, HB⟩ := n_; have bj : fh.cell? ⟨aC, 0, none⟩ = some (.string a0_0) := (qAa aA.o 0).trans rfl; have bk : fh.cell? ⟨aC, 1, none⟩ = some (.slice af l0_1.length ah) := (qAa aA.o 1).trans rfl; have bl : fh.cell? ⟨aC, 2, none⟩ = some (.slice ag l0_2.length ai) := (qAa aA.o 2).trans rfl; have bo : fh.cell? ⟨aC, 3, none⟩ = some (.slice ae l0_3.length a6) := (qAa aA.o 3).trans rfl; have cJ := qAc aA.o 0; have cK := qAc aA.o 1; have cL := qAc aA.o 2; have cM := qAc aA.o 3))
   go_loopg [4, 5] k (fun kq v4 v5 w' => ∃ (ad : List ByteArray) (a4 : Int), v5 = .int .i64 a4 ∧ qAj (qAm.l0 kq ad a4 a0_0 l0_1 l0_2 l0_3 = some r) ∧ qAj (kq ≤ k) ∧ qAj (Kd.R Kd.string 9 w' w.heap.size (fun _ => True) v4 ad) ∧ qAj (w'.heap[aC]? = some (.cells #[.string a0_0, (.slice af l0_1.length ah), (.slice ag l0_2.length ai), (.slice ae l0_3.length a6)] 26 (0, 0))) ∧ qAj (Below w.heap.size w w'))
   case atStart => exact ⟨([] : List ByteArray), (0), (by rfl), H', ⟨Nat.le_refl _⟩, ⟨by (exact Kd.R_nil _ _ _ _ _)⟩, ⟨by exact aA.o⟩, ⟨by exact HB.o⟩⟩
   case round =>
    clear H'
    obtain ⟨ad, a4, rfl, HA, b6, a5, aA, HB⟩ := hrel
    cases gk with
    | zero => exact absurd HA.o (by simp [qAm.l0])
    | succ k1 =>
     have H := HA.o
     clear HA
     simp only [qAm.l0] at H
     by_cases cx : a4 < (wrap64 ((l0_1.length : Int) + (l0_2.length : Int)))
     ·rw [if_pos cx] at H
      replace cx := d1 cx
      have cn := am H
      clear H
      have bp : wr.cell? ⟨aC, 0, none⟩ = some (.string a0_0) := (qAa aA.o 0).trans rfl
      have bq : wr.cell? ⟨aC, 1, none⟩ = some (.slice af l0_1.length ah) := (qAa aA.o 1).trans rfl
      have br : wr.cell? ⟨aC, 2, none⟩ = some (.slice ag l0_2.length ai) := (qAa aA.o 2).trans rfl
      have bs : wr.cell? ⟨aC, 3, none⟩ = some (.slice ae l0_3.length a6) := (qAa aA.o 3).trans rfl
      have cN := qAc aA.o 0
      have cO := qAc aA.o 1
      have cP := qAc aA.o 2
      have cQ := qAc aA.o 3
      go_upto_if 41 with (fail)
      go_cut [6, 7] (fun v6 v7 wc => ∃ (kq : Nat) (aY : ByteArray) (bC : Bool), v6 = .string aY ∧ v7 = .bool bC ∧ qAj (qAm.j1 kq ad a4 aY bC a0_0 l0_1 l0_2 l0_3 = some r) ∧ qAj (kq ≤ k1) ∧ qAj (Kd.R Kd.string 9 wc w.heap.size (fun _ => True) u4 ad) ∧ qAj (wc.heap[aC]? = some (.cells #[.string a0_0, (.slice af l0_1.length ah), (.slice ag l0_2.length ai), (.slice ae l0_3.length a6)] 26 (0, 0))) ∧ qAj (Below w.heap.size w wc))
      case first =>
       have H := cn.o
       clear cn
       by_cases cy : a4 < (l0_1.length : Int)
       ·rw [if_pos cy] at H
        replace cy := d1 cy
        (rw [cy])
        obtain ⟨dm, H⟩ := gd H
        replace dm := d1 dm
        replace H := bm H
        obtain ⟨b4, dF, H⟩ := H
        replace H : (qAm.j1 k1 ad a4 ((qBu l0_1 a4).f0) b4 a0_0 l0_1 l0_2 l0_3) = some r := H
        have g3 := am dF
        clear dF
        have H' := am H
        clear H
        have dx : wr.cell? ⟨aC, 1, none⟩ = some (.slice af l0_1.length ah) := (qAa aA.o 1).trans rfl
        have cr : 0 ≤ a4 := od (by assumption)
        have cu : a4 < (l0_1.length : Int) := od (by assumption)
        obtain ⟨dS, fv, bH, bI, bJ⟩ := at_T95 bE.o a4 cr cu
        cases fv
        replace bH := (HB.o.cell (World.block_lt_of_cell? w _ bH)).trans bH
        replace bI := (HB.o.cell (World.block_lt_of_cell? w _ bI)).trans bI
        replace bJ := (HB.o.cell (World.block_lt_of_cell? w _ bJ)).trans bJ
        replace cr := eq_true cr
        replace cu := eq_true cu
        have gI : 0 ≤ a4 := od (by assumption)
        have gK : a4 < (l0_1.length : Int) := od (by assumption)
        obtain ⟨dT, fw, fc, fd, fe⟩ := at_T95 bE.o a4 gI gK
        obtain rfl : dS = dT := (by injection fw)
        go_wp2_with ((with_reducible refine qAv (f := 37) rfl ?_); refine gL 54 Tryz.func37 #[.agg #[.int .i64 ((qBu l0_1 a4).f1.f0), .int .u64 ((qBu l0_1 a4).f1.f1)]] ?_; (with_reducible refine (qB1.calls ((qBu l0_1 a4).f1.f0) ((qBu l0_1 a4).f1.f1) b4 _ g3.o).mono ?_); rintro e gc ⟨rfl, hb⟩; refine ⟨_, rfl, ?_⟩; have n_ := a2 (Kd.R_below a5.o hb) (a2 (qAt aA.o hb) (am (qAp HB.o hb))); clear a5 aA HB; obtain ⟨a5, aA, HB⟩ := n_; (skip))
        go_meet
        case rel => exact ⟨_, ((qBu l0_1 a4).f0), (b4), (by rfl), (by rfl), H', ⟨by have := b6.o; (omega)⟩, ⟨by exact a5.o⟩, ⟨by exact aA.o⟩, ⟨by exact HB.o⟩⟩
       rw [if_neg cy] at H
       replace cy := d0 cy
       (rw [cy])
       obtain ⟨ac, cj⟩ : ∃ j_ : Int, (wrap64 (a4 - (l0_1.length : Int))) = j_ := ⟨_, rfl⟩
       replace H : (if 0 ≤ (ac) then (if (ac) < (l0_2.length : Int) then ((qAl.f k1 ((qA3 l0_2 (ac)).f1.f0.f0) ((qA3 l0_2 (ac)).f1.f0.f1) ((qA3 l0_2 (ac)).f1.f1) ((qA3 l0_2 (ac)).f1.f2)).bind fun bO => (qAm.j1 k1 ad a4 ((qA3 l0_2 (ac)).f0) bO a0_0 l0_1 l0_2 l0_3)) else (none)) else (none)) = some r := by (rw [cj] at H; exact H)
       have gH : (IntKind.i64.wrap (a4 - (l0_1.length : Int))) = ac := (qAR _).trans cj
       obtain ⟨dn, H⟩ := gd H
       replace dn := d1 dn
       obtain ⟨dp, H⟩ := gd H
       replace dp := d1 dp
       replace H := bm H
       obtain ⟨bO, dG, H⟩ := H
       replace H : (qAm.j1 k1 ad a4 ((qA3 l0_2 (ac)).f0) bO a0_0 l0_1 l0_2 l0_3) = some r := H
       have g4 := am dG
       clear dG
       have H' := am H
       clear H
       have dy : wr.cell? ⟨aC, 2, none⟩ = some (.slice ag l0_2.length ai) := (qAa aA.o 2).trans rfl
       have ct : 0 ≤ ac := od (by assumption)
       have cv : (ac) < (l0_2.length : Int) := od (by assumption)
       obtain ⟨dU, ck, co, cl, cp, cm, cq, fx, bK, au, bL, av, aw, ca, cZ, cc, c0, cd, c1⟩ := qD2 bF.o (ac) ct cv
       cases fx
       replace bK := (HB.o.cell (World.block_lt_of_cell? w _ bK)).trans bK
       replace au := (HB.o.cell (World.block_lt_of_cell? w _ au)).trans au
       replace bL := (HB.o.cell (World.block_lt_of_cell? w _ bL)).trans bL
       replace av := (HB.o.cell (World.block_lt_of_cell? w _ av)).trans av
       replace aw := (HB.o.cell (World.block_lt_of_cell? w _ aw)).trans aw
       clear cZ ca c0 cc c1 cd
       replace ct := eq_true ct
       replace cv := eq_true cv
       have gJ : 0 ≤ ac := od (by assumption)
       have gM : (ac) < (l0_2.length : Int) := od (by assumption)
       obtain ⟨dV, fj, fp, fk, fq, fl, fr, fy, ff, ax, fg, ay, az, bW, bT, bX, bU, bY, bV⟩ := qD2 bF.o (ac) gJ gM
       obtain rfl : dU = dV := (by injection fy)
       replace ax := (HB.o.cell (World.block_lt_of_cell? w _ ax)).trans ax
       replace ay := (HB.o.cell (World.block_lt_of_cell? w _ ay)).trans ay
       replace az := (HB.o.cell (World.block_lt_of_cell? w _ az)).trans az
       have ba := am bT
       have b7 := am bW
       clear bT bW
       have bb := am bU
       have b8 := am bX
       clear bU bX
       have bc := am bV
       have b9 := am bY
       clear bV bY
       have ea_ := Option.some.inj (au.symm.trans ax)
       injection ea_ with ea_ en_ ec_
       subst ea_
       subst ec_
       clear en_
       have ea_ := Option.some.inj (av.symm.trans ay)
       injection ea_ with ea_ en_ ec_
       subst ea_
       subst ec_
       clear en_
       have ea_ := Option.some.inj (aw.symm.trans az)
       injection ea_ with ea_ en_ ec_
       subst ea_
       subst ec_
       clear en_
       go_wp2_with ((with_reducible refine qAv (f := 38) rfl ?_); refine gL 75 Tryz.func38 #[.agg #[.slice ck ((qA3 l0_2 (ac)).f1.f0.f0).length co, .int .i64 ((qA3 l0_2 (ac)).f1.f0.f1), .slice cl ((qA3 l0_2 (ac)).f1.f1).length cp, .slice cm ((qA3 l0_2 (ac)).f1.f2).length cq]] ?_; (with_reducible refine (qAl.calls k1 _ _ ((qA3 l0_2 (ac)).f1.f0.f0) ((qA3 l0_2 (ac)).f1.f0.f1) _ _ ((qA3 l0_2 (ac)).f1.f1) _ _ ((qA3 l0_2 (ac)).f1.f2) bO _ ?side1 ?side2 ?side3 ?side4 ?side5 ?side6 g4.o).mono ?_); (case side1 => exact (Kd.C_below ba.o HB.o)); (case side2 => exact b7.o); (case side3 => exact (Kd.C_below bb.o HB.o)); (case side4 => exact b8.o); (case side5 => exact (Kd.C_below bc.o HB.o)); (case side6 => exact b9.o); rintro e gf ⟨rfl, hb⟩; refine ⟨_, rfl, ?_⟩; have n_ := a2 (Kd.R_below a5.o hb) (a2 (qAt aA.o hb) (am (qAp HB.o hb))); clear a5 aA HB; obtain ⟨a5, aA, HB⟩ := n_; (skip))
       go_meet
       case rel => exact ⟨_, ((qA3 l0_2 (ac)).f0), (bO), (by rfl), (by rfl), H', ⟨by have := b6.o; (omega)⟩, ⟨by exact a5.o⟩, ⟨by exact aA.o⟩, ⟨by exact HB.o⟩⟩
      case rest =>
       clear cn
       obtain ⟨kq, aY, bC, rfl, rfl, HA, dO, a5, aA, HB⟩ := hcut
       cases kq with
       | zero => exact absurd HA.o (by simp [qAm.j1])
       | succ bD =>
        have H := HA.o
        clear HA
        simp only [qAm.j1] at H
        replace H := bm H
        obtain ⟨aq, dH, H⟩ := H
        replace H : (if aq = 0 then ((qBs.f bD ad aY).bind fun bZ => (if bZ = true then (some 20) else (if bC = true then (if ad.length < 8796093022208 then (qAm.l0 bD (ad ++ [aY]) (wrap64 (a4 + 1)) a0_0 l0_1 l0_2 l0_3) else (none)) else (some 52)))) else (some aq)) = some r := H
        have dk := am dH
        clear dH
        by_cases dW : aq = 0
        rotate_left
        ·rw [if_neg dW] at H
         have dX : (aq != 0) = true := bne_iff_ne.mpr dW
         obtain rfl := Option.some.inj H
         go_wp2_with ((with_reducible refine qAv (f := 36) rfl ?_); refine gL 77 Tryz.func36 #[.string aY] ?_; (with_reducible refine (qAA.calls aY aq _ dk.o).mono ?_); rintro e gl ⟨rfl, hb⟩; refine ⟨_, rfl, ?_⟩; have n_ := am (qAp HB.o hb); clear a5 aA HB; have HB := n_; clear n_; (skip))
         go_ret
         exact ⟨by rfl, by exact HB.o⟩
        rw [if_pos dW] at H
        have dX : (aq != 0) = false := bn dW
        clear dW
        replace H := bm H
        obtain ⟨bZ, dI, H⟩ := H
        replace H : (if bZ = true then (some 20) else (if bC = true then (if ad.length < 8796093022208 then (qAm.l0 bD (ad ++ [aY]) (wrap64 (a4 + 1)) a0_0 l0_1 l0_2 l0_3) else (none)) else (some 52))) = some r := H
        have fi := am dI
        clear dI
        by_cases dq : bZ = true
        ·subst dq
         replace H : (some 20) = some r := by rw [if_pos rfl] at H; exact H
         obtain rfl := Option.some.inj H
         go_wp2_with (first | ((with_reducible refine qAv (f := 36) rfl ?_); refine gL 77 Tryz.func36 #[.string aY] ?_; (with_reducible refine (qAA.calls aY aq _ dk.o).mono ?_); rintro e gg ⟨rfl, hb⟩; refine ⟨_, rfl, ?_⟩; have n_ := a2 (Kd.R_below a5.o hb) (am (qAp HB.o hb)); clear a5 aA HB; obtain ⟨a5, HB⟩ := n_; obtain ⟨fn, ft, fz⟩ := Kd.R_slice a5.o; subst fz) | ((with_reducible refine qAv (f := 39) rfl ?_); refine gL 85 Tryz.func39 #[.slice fn ad.length ft, .string aY] ?_; (with_reducible refine (qBs.calls bD _ _ ad aY true _ ?side1 ?side2 fi.o).mono ?_); (case side1 => exact (Kd.R_reads' a5.o).2.2); (case side2 => exact (Kd.R_reads' a5.o).2.1); rintro e w' ⟨rfl, ⟨nd, rfl⟩⟩; refine ⟨_, rfl, ?_⟩))
         go_ret
         exact ⟨by rfl, by repeat (with_reducible first | exact HB.o | apply qAd)⟩
        replace dq := Bool.eq_false_iff.mpr dq
        subst dq
        replace H : (if bC = true then (if ad.length < 8796093022208 then (qAm.l0 bD (ad ++ [aY]) (wrap64 (a4 + 1)) a0_0 l0_1 l0_2 l0_3) else (none)) else (some 52)) = some r := by rw [if_neg (show ¬ (false = true) by decide)] at H; exact H
        by_cases dr : bC = true
        rotate_left
        ·replace dr := Bool.eq_false_iff.mpr dr
         subst dr
         replace H : (some 52) = some r := by rw [if_neg (show ¬ (false = true) by decide)] at H; exact H
         obtain rfl := Option.some.inj H
         go_wp2_with (first | ((with_reducible refine qAv (f := 36) rfl ?_); refine gL 77 Tryz.func36 #[.string aY] ?_; (with_reducible refine (qAA.calls aY aq _ dk.o).mono ?_); rintro e gj ⟨rfl, hb⟩; refine ⟨_, rfl, ?_⟩; have n_ := a2 (Kd.R_below a5.o hb) (am (qAp HB.o hb)); clear a5 aA HB; obtain ⟨a5, HB⟩ := n_; obtain ⟨fo, fu, gB⟩ := Kd.R_slice a5.o; subst gB) | ((with_reducible refine qAv (f := 39) rfl ?_); refine gL 85 Tryz.func39 #[.slice fo ad.length fu, .string aY] ?_; (with_reducible refine (qBs.calls bD _ _ ad aY false _ ?side1 ?side2 fi.o).mono ?_); (case side1 => exact (Kd.R_reads' a5.o).2.2); (case side2 => exact (Kd.R_reads' a5.o).2.1); rintro e w' ⟨rfl, ⟨nd, rfl⟩⟩; refine ⟨_, rfl, ?_⟩))
         go_ret
         exact ⟨by rfl, by repeat (with_reducible first | exact HB.o | apply qAd)⟩
        subst dr
        replace H : (if ad.length < 8796093022208 then (qAm.l0 bD (ad ++ [aY]) (wrap64 (a4 + 1)) a0_0 l0_1 l0_2 l0_3) else (none)) = some r := by rw [if_pos rfl] at H; exact H
        obtain ⟨ds, H⟩ := gd H
        have dQ := am ds
        clear ds
        obtain ⟨dj, b3⟩ : ∃ y_ : List ByteArray, y_ = (ad ++ [aY]) := ⟨_, rfl⟩
        replace H : (qAm.l0 bD dj (wrap64 (a4 + 1)) a0_0 l0_1 l0_2 l0_3) = some r := by (rw [b3]; with_reducible exact H)
        have dR := am b3
        clear b3
        have H' := am H
        clear H
        go_wp2_with (first | ((with_reducible refine qAv (f := 36) rfl ?_); refine gL 77 Tryz.func36 #[.string aY] ?_; (with_reducible refine (qAA.calls aY aq _ dk.o).mono ?_); rintro e gh ⟨rfl, hb⟩; refine ⟨_, rfl, ?_⟩; have n_ := a2 (Kd.R_below a5.o hb) (a2 (qAt aA.o hb) (am (qAp HB.o hb))); clear a5 aA HB; obtain ⟨a5, aA, HB⟩ := n_; obtain ⟨dN, d9, gA⟩ := Kd.R_slice a5.o; subst gA) | ((with_reducible refine qAv (f := 39) rfl ?_); refine gL 85 Tryz.func39 #[.slice dN ad.length d9, .string aY] ?_; (with_reducible refine (qBs.calls bD _ _ ad aY false _ ?side1 ?side2 fi.o).mono ?_); (case side1 => exact (Kd.R_reads' a5.o).2.2); (case side2 => exact (Kd.R_reads' a5.o).2.1); rintro e w' ⟨rfl, ⟨nd, rfl⟩⟩; refine ⟨_, rfl, ?_⟩) | ((with_reducible refine qBE (b := .append) (xs := #[.tmp 89, .tmp 91]) rfl ?_); at_builtin; refine Kd.R_append Kd.string (w0 := w) w.heap.size rfl (.tmp 89) (.tmp 91) 80 9 (.string ⟨#[]⟩) 16 rfl Tryz.underlying80 info9 rfl (by decide) (by omega) (.slice dN ad.length d9) ad aY [.string aY] (fun _ => True) (fun _ => False) rfl rfl ?aP (fun _ hk => hk.elim) ?aF ?aO ?aB ?aS ?aL ?_; (case aP => exact rfl); (case aB => exact (by repeat (with_reducible first | exact HB.o | apply qAd))); (case aF => exact (fun _ _ => trivial)); (case aO => exact (by (with_reducible repeat (apply Kd.R_drewN)); exact a5.o)); (case aS => exact (qAs (by repeat (with_reducible first | exact HB.o | apply qAd)))); (case aL => have := dQ.o; omega); intro g7 gi ho hb hg g5; rw [← dR.o] at ho; have n_ := a2 (qAP (g := aC) (o := .cells #[.string a0_0, .slice af l0_1.length ah, .slice ag l0_2.length ai, .slice ae l0_3.length a6] 26 (0, 0)) (by (with_reducible repeat (refine qAf ?_ _)); exact aA.o) hg (Kd.R_ne a5.o aA.o (by decide))) (a2 (hb) (am (ho))); clear aA HB a5; obtain ⟨aA, HB, dP⟩ := n_; clear ho hb hg g5))
        go_roundg bD
        case measure => have := b6.o; have := dO.o; omega
        case rel => exact ⟨(dj), (wrap64 (a4 + 1)), (by rfl), H', ⟨by have := b6.o; have := dO.o; omega⟩, ⟨by exact dP.o⟩, ⟨by exact aA.o⟩, ⟨by exact HB.o⟩⟩
     rw [if_neg cx] at H
     replace cx := d0 cx
     replace H := bm H
     obtain ⟨ce, dJ, H⟩ := H
     replace H : (if ce = true then (qAm.l1 k1 0 a0_0 l0_1 l0_2 l0_3) else (some 52)) = some r := H
     have gP := am dJ
     clear dJ
     by_cases dt : ce = true
     rotate_left
     ·replace dt := Bool.eq_false_iff.mpr dt
      subst dt
      replace H : (some 52) = some r := by rw [if_neg (show ¬ (false = true) by decide)] at H; exact H
      obtain rfl := Option.some.inj H
      have da : wr.cell? ⟨aC, 0, none⟩ = some (.string a0_0) := (qAa aA.o 0).trans rfl
      have db : wr.cell? ⟨aC, 1, none⟩ = some (.slice af l0_1.length ah) := (qAa aA.o 1).trans rfl
      have dc : wr.cell? ⟨aC, 2, none⟩ = some (.slice ag l0_2.length ai) := (qAa aA.o 2).trans rfl
      have dd : wr.cell? ⟨aC, 3, none⟩ = some (.slice ae l0_3.length a6) := (qAa aA.o 3).trans rfl
      go_wp2_with ((with_reducible refine qAv (f := 40) rfl ?_); refine gL 94 Tryz.func40 #[.agg #[.string a0_0, .slice af l0_1.length ah, .slice ag l0_2.length ai, .slice ae l0_3.length a6]] ?_; (with_reducible refine (qAq.calls k1 a0_0 _ _ l0_1 _ _ l0_2 _ _ l0_3 false _ ?side1 ?side2 ?side3 ?side4 ?side5 ?side6 gP.o).mono ?_); (case side1 => exact (Kd.C_below bE.o HB.o)); (case side2 => exact bP.o); (case side3 => exact (Kd.C_below bF.o HB.o)); (case side4 => exact bQ.o); (case side5 => exact (Kd.C_below ak.o HB.o)); (case side6 => exact bR.o); rintro e g8 ⟨rfl, hb⟩; refine ⟨_, rfl, ?_⟩; have n_ := am (qAp HB.o hb); clear a5 aA HB; have HB := n_; clear n_; (skip))
      go_ret
      exact ⟨by rfl, by exact HB.o⟩
     subst dt
     replace H : (qAm.l1 k1 0 a0_0 l0_1 l0_2 l0_3) = some r := by rw [if_pos rfl] at H; exact H
     have H' := am H
     clear H
     have bu : wr.cell? ⟨aC, 0, none⟩ = some (.string a0_0) := (qAa aA.o 0).trans rfl
     have bw : wr.cell? ⟨aC, 1, none⟩ = some (.slice af l0_1.length ah) := (qAa aA.o 1).trans rfl
     have bz : wr.cell? ⟨aC, 2, none⟩ = some (.slice ag l0_2.length ai) := (qAa aA.o 2).trans rfl
     have cA : wr.cell? ⟨aC, 3, none⟩ = some (.slice ae l0_3.length a6) := (qAa aA.o 3).trans rfl
     have cR := qAc aA.o 0
     have cS := qAc aA.o 1
     have cT := qAc aA.o 2
     have cU := qAc aA.o 3
     go_wp2_with ((with_reducible refine qAv (f := 40) rfl ?_); refine gL 94 Tryz.func40 #[.agg #[.string a0_0, .slice af l0_1.length ah, .slice ag l0_2.length ai, .slice ae l0_3.length a6]] ?_; (with_reducible refine (qAq.calls k1 a0_0 _ _ l0_1 _ _ l0_2 _ _ l0_3 true _ ?side1 ?side2 ?side3 ?side4 ?side5 ?side6 gP.o).mono ?_); (case side1 => exact (Kd.C_below bE.o HB.o)); (case side2 => exact bP.o); (case side3 => exact (Kd.C_below bF.o HB.o)); (case side4 => exact bQ.o); (case side5 => exact (Kd.C_below ak.o HB.o)); (case side6 => exact bR.o); rintro e gm ⟨rfl, hb⟩; refine ⟨_, rfl, ?_⟩; have n_ := a2 (qAt aA.o hb) (am (qAp HB.o hb)); clear a5 aA HB; obtain ⟨aA, HB⟩ := n_; (skip))
     go_loopg [8] k1 (fun kq v8 w' => ∃ (aH : Int), v8 = .int .i64 aH ∧ qAj (qAm.l1 kq aH a0_0 l0_1 l0_2 l0_3 = some r) ∧ qAj (kq ≤ k1) ∧ qAj (w'.heap[aC]? = some (.cells #[.string a0_0, (.slice af l0_1.length ah), (.slice ag l0_2.length ai), (.slice ae l0_3.length a6)] 26 (0, 0))) ∧ qAj (Below w.heap.size w w'))
     case atStart => exact ⟨(0), (by rfl), H', ⟨Nat.le_refl _⟩, ⟨by exact aA.o⟩, ⟨by exact HB.o⟩⟩
     case round =>
      clear H'
      obtain ⟨aH, rfl, HA, cw, aA, HB⟩ := hrel
      cases gk with
      | zero => exact absurd HA.o (by simp [qAm.l1])
      | succ k2 =>
       have H := HA.o
       clear HA
       simp only [qAm.l1] at H
       by_cases cz : aH < (l0_3.length : Int)
       ·rw [if_pos cz] at H
        replace cz := d1 cz
        obtain ⟨du, H⟩ := gd H
        replace du := d1 du
        replace H := bm H
        obtain ⟨ar, dK, H⟩ := H
        replace H : (if ar = 0 then ((qAA.f ((qAw l0_3 aH).f4)).bind fun ap => (if ap = 0 then (qAm.l1 k2 (wrap64 (aH + 1)) a0_0 l0_1 l0_2 l0_3) else (some ap))) else (some ar)) = some r := H
        have fm := am dK
        clear dK
        by_cases dA : ar = 0
        rotate_left
        ·rw [if_neg dA] at H
         have dZ : (ar == 0) = false := bf dA
         have gW : (ar != 0) = true := bne_iff_ne.mpr dA
         obtain rfl := Option.some.inj H
         have eN : wr.cell? ⟨aC, 3, none⟩ = some (.slice ae l0_3.length a6) := (qAa aA.o 3).trans rfl
         have bA : 0 ≤ aH := od (by assumption)
         have bB : aH < (l0_3.length : Int) := od (by assumption)
         obtain ⟨bS, b2, a7, a8, a9, aa, ab⟩ := qCl ak.o aH bA bB
         cases b2
         replace a7 := (HB.o.cell (World.block_lt_of_cell? w _ a7)).trans a7
         replace a8 := (HB.o.cell (World.block_lt_of_cell? w _ a8)).trans a8
         replace a9 := (HB.o.cell (World.block_lt_of_cell? w _ a9)).trans a9
         replace aa := (HB.o.cell (World.block_lt_of_cell? w _ aa)).trans aa
         replace ab := (HB.o.cell (World.block_lt_of_cell? w _ ab)).trans ab
         replace bA := eq_true bA
         replace bB := eq_true bB
         go_wp2_with (first | ((with_reducible refine qAI (N := 9) rfl ?_); refine bx 9 #[.int .i64 0, .int .i64 0, .int .i64 0, .string ⟨#[]⟩, .string ⟨#[]⟩] 103 ?_; intro aR hg di hbox hb; have n_ := a2 (qAt aA.o hb) (a2 (qAp HB.o hb) (a2 (hbox) (a2 (by rw [hg]; exact (qAs HB.o) : w.heap.size ≤ aR) (am (by rw [hg]; exact Nat.ne_of_lt (qAM aA.o) : aC ≠ aR))))); clear aA HB; obtain ⟨aA, HB, aD, bM, aQ⟩ := n_; clear hb hbox hg; have eO : di.cell? ⟨aR, 0, none⟩ = some (.int .i64 0) := (qAa aD.o 0).trans rfl; have eP : di.cell? ⟨aR, 1, none⟩ = some (.int .i64 0) := (qAa aD.o 1).trans rfl; have eQ : di.cell? ⟨aR, 2, none⟩ = some (.int .i64 0) := (qAa aD.o 2).trans rfl; have eR : di.cell? ⟨aR, 3, none⟩ = some (.string ⟨#[]⟩) := (qAa aD.o 3).trans rfl; have eS : di.cell? ⟨aR, 4, none⟩ = some (.string ⟨#[]⟩) := (qAa aD.o 4).trans rfl; have fE := qAc aD.o 0; have fF := qAc aD.o 1; have fG := qAc aD.o 2; have fH := qAc aD.o 3; have fI := qAc aD.o 4) | ((with_reducible refine qAv (f := 36) rfl ?_); refine gL 110 Tryz.func36 #[.string ((qAw l0_3 aH).f3)] ?_; (with_reducible refine (qAA.calls ((qAw l0_3 aH).f3) ar _ fm.o).mono ?_); rintro e gp ⟨rfl, hb⟩; refine ⟨_, rfl, ?_⟩; have n_ := am (qAp (by repeat (with_reducible first | exact HB.o | refine qAb ?_ bM.o)) hb); clear aA aD HB; have HB := n_; clear n_; (skip)))
         go_ret
         exact ⟨by rfl, by exact HB.o⟩
        rw [if_pos dA] at H
        have dZ : (ar == 0) = true := beq_iff_eq.mpr dA
        clear dA
        replace H := bm H
        obtain ⟨ap, dL, H⟩ := H
        replace H : (if ap = 0 then (qAm.l1 k2 (wrap64 (aH + 1)) a0_0 l0_1 l0_2 l0_3) else (some ap)) = some r := H
        have gQ := am dL
        clear dL
        by_cases d3 : ap = 0
        rotate_left
        ·rw [if_neg d3] at H
         have d4 : (ap != 0) = true := bne_iff_ne.mpr d3
         obtain rfl := Option.some.inj H
         have eG : wr.cell? ⟨aC, 3, none⟩ = some (.slice ae l0_3.length a6) := (qAa aA.o 3).trans rfl
         have bA : 0 ≤ aH := od (by assumption)
         have bB : aH < (l0_3.length : Int) := od (by assumption)
         obtain ⟨bS, b2, a7, a8, a9, aa, ab⟩ := qCl ak.o aH bA bB
         cases b2
         replace a7 := (HB.o.cell (World.block_lt_of_cell? w _ a7)).trans a7
         replace a8 := (HB.o.cell (World.block_lt_of_cell? w _ a8)).trans a8
         replace a9 := (HB.o.cell (World.block_lt_of_cell? w _ a9)).trans a9
         replace aa := (HB.o.cell (World.block_lt_of_cell? w _ aa)).trans aa
         replace ab := (HB.o.cell (World.block_lt_of_cell? w _ ab)).trans ab
         replace bA := eq_true bA
         replace bB := eq_true bB
         go_wp2_with (first | ((with_reducible refine qAI (N := 9) rfl ?_); refine bx 9 #[.int .i64 0, .int .i64 0, .int .i64 0, .string ⟨#[]⟩, .string ⟨#[]⟩] 103 ?_; intro aR hg dh hbox hb; have n_ := a2 (qAt aA.o hb) (a2 (qAp HB.o hb) (a2 (hbox) (a2 (by rw [hg]; exact (qAs HB.o) : w.heap.size ≤ aR) (am (by rw [hg]; exact Nat.ne_of_lt (qAM aA.o) : aC ≠ aR))))); clear aA HB; obtain ⟨aA, HB, aD, bM, aQ⟩ := n_; clear hb hbox hg; have eH : dh.cell? ⟨aR, 0, none⟩ = some (.int .i64 0) := (qAa aD.o 0).trans rfl; have eI : dh.cell? ⟨aR, 1, none⟩ = some (.int .i64 0) := (qAa aD.o 1).trans rfl; have eJ : dh.cell? ⟨aR, 2, none⟩ = some (.int .i64 0) := (qAa aD.o 2).trans rfl; have eK : dh.cell? ⟨aR, 3, none⟩ = some (.string ⟨#[]⟩) := (qAa aD.o 3).trans rfl; have eL : dh.cell? ⟨aR, 4, none⟩ = some (.string ⟨#[]⟩) := (qAa aD.o 4).trans rfl; have ey := qAc aD.o 0; have ez := qAc aD.o 1; have fA := qAc aD.o 2; have fB := qAc aD.o 3; have fC := qAc aD.o 4) | ((with_reducible refine qAv (f := 36) rfl ?_); refine gL 110 Tryz.func36 #[.string ((qAw l0_3 aH).f3)] ?_; (with_reducible refine (qAA.calls ((qAw l0_3 aH).f3) ar _ fm.o).mono ?_); rintro e gb ⟨rfl, hb⟩; refine ⟨_, rfl, ?_⟩; have n_ := a2 (qAt (g := aC) (o := .cells #[.string a0_0, .slice af l0_1.length ah, .slice ag l0_2.length ai, .slice (some bS) l0_3.length a6] 26 (0, 0)) (by refine qA1 ?_ aQ.o _; refine qA1 ?_ aQ.o _; refine qA1 ?_ aQ.o _; refine qA1 ?_ aQ.o _; refine qA1 ?_ aQ.o _; exact aA.o) hb) (a2 (qAt (g := aR) (o := .cells #[.int .i64 ((qAw l0_3 aH).f0), .int .i64 ((qAw l0_3 aH).f1), .int .i64 ((qAw l0_3 aH).f2), .string ((qAw l0_3 aH).f3), .string ((qAw l0_3 aH).f4)] 103 (0, 0)) (by refine qA6 (cs := #[.int .i64 ((qAw l0_3 aH).f0), .int .i64 ((qAw l0_3 aH).f1), .int .i64 ((qAw l0_3 aH).f2), .string ((qAw l0_3 aH).f3), .string ⟨#[]⟩]) ?_ 4 _ rfl; refine qA6 (cs := #[.int .i64 ((qAw l0_3 aH).f0), .int .i64 ((qAw l0_3 aH).f1), .int .i64 ((qAw l0_3 aH).f2), .string ⟨#[]⟩, .string ⟨#[]⟩]) ?_ 3 _ rfl; refine qA6 (cs := #[.int .i64 ((qAw l0_3 aH).f0), .int .i64 ((qAw l0_3 aH).f1), .int .i64 0, .string ⟨#[]⟩, .string ⟨#[]⟩]) ?_ 2 _ rfl; refine qA6 (cs := #[.int .i64 ((qAw l0_3 aH).f0), .int .i64 0, .int .i64 0, .string ⟨#[]⟩, .string ⟨#[]⟩]) ?_ 1 _ rfl; refine qA6 (cs := #[.int .i64 0, .int .i64 0, .int .i64 0, .string ⟨#[]⟩, .string ⟨#[]⟩]) ?_ 0 _ rfl; exact aD.o) hb) (am (qAp (by repeat (with_reducible first | exact HB.o | refine qAb ?_ bM.o)) hb))); clear aA aD HB; obtain ⟨aA, aD, HB⟩ := n_; have eM : gb.cell? ⟨aR, 4, none⟩ = some (.string ((qAw l0_3 aH).f4)) := (qAa aD.o 4).trans rfl; have fD := qAc aD.o 4) | ((with_reducible refine qAv (f := 36) rfl ?_); refine gL 115 Tryz.func36 #[.string ((qAw l0_3 aH).f4)] ?_; (with_reducible refine (qAA.calls ((qAw l0_3 aH).f4) ap _ gQ.o).mono ?_); rintro e go ⟨rfl, hb⟩; refine ⟨_, rfl, ?_⟩; have n_ := am (qAp HB.o hb); clear aA aD HB; have HB := n_; clear n_; (skip)))
         go_ret
         exact ⟨by rfl, by exact HB.o⟩
        rw [if_pos d3] at H
        have d4 : (ap != 0) = false := bn d3
        clear d3
        have H' := am H
        clear H
        have dz : wr.cell? ⟨aC, 3, none⟩ = some (.slice ae l0_3.length a6) := (qAa aA.o 3).trans rfl
        have bA : 0 ≤ aH := od (by assumption)
        have bB : aH < (l0_3.length : Int) := od (by assumption)
        obtain ⟨bS, b2, a7, a8, a9, aa, ab⟩ := qCl ak.o aH bA bB
        cases b2
        replace a7 := (HB.o.cell (World.block_lt_of_cell? w _ a7)).trans a7
        replace a8 := (HB.o.cell (World.block_lt_of_cell? w _ a8)).trans a8
        replace a9 := (HB.o.cell (World.block_lt_of_cell? w _ a9)).trans a9
        replace aa := (HB.o.cell (World.block_lt_of_cell? w _ aa)).trans aa
        replace ab := (HB.o.cell (World.block_lt_of_cell? w _ ab)).trans ab
        replace bA := eq_true bA
        replace bB := eq_true bB
        go_wp2_with (first | ((with_reducible refine qAI (N := 9) rfl ?_); refine bx 9 #[.int .i64 0, .int .i64 0, .int .i64 0, .string ⟨#[]⟩, .string ⟨#[]⟩] 103 ?_; intro aR hg dg hbox hb; have n_ := a2 (qAt aA.o hb) (a2 (qAp HB.o hb) (a2 (hbox) (a2 (by rw [hg]; exact (qAs HB.o) : w.heap.size ≤ aR) (am (by rw [hg]; exact Nat.ne_of_lt (qAM aA.o) : aC ≠ aR))))); clear aA HB; obtain ⟨aA, HB, aD, bM, aQ⟩ := n_; clear hb hbox hg; have eA : dg.cell? ⟨aR, 0, none⟩ = some (.int .i64 0) := (qAa aD.o 0).trans rfl; have eB : dg.cell? ⟨aR, 1, none⟩ = some (.int .i64 0) := (qAa aD.o 1).trans rfl; have eC : dg.cell? ⟨aR, 2, none⟩ = some (.int .i64 0) := (qAa aD.o 2).trans rfl; have eD : dg.cell? ⟨aR, 3, none⟩ = some (.string ⟨#[]⟩) := (qAa aD.o 3).trans rfl; have eE : dg.cell? ⟨aR, 4, none⟩ = some (.string ⟨#[]⟩) := (qAa aD.o 4).trans rfl; have es := qAc aD.o 0; have et := qAc aD.o 1; have eu := qAc aD.o 2; have ev := qAc aD.o 3; have ew := qAc aD.o 4) | ((with_reducible refine qAv (f := 36) rfl ?_); refine gL 110 Tryz.func36 #[.string ((qAw l0_3 aH).f3)] ?_; (with_reducible refine (qAA.calls ((qAw l0_3 aH).f3) ar _ fm.o).mono ?_); rintro e ga ⟨rfl, hb⟩; refine ⟨_, rfl, ?_⟩; have n_ := a2 (qAt (g := aC) (o := .cells #[.string a0_0, .slice af l0_1.length ah, .slice ag l0_2.length ai, .slice (some bS) l0_3.length a6] 26 (0, 0)) (by refine qA1 ?_ aQ.o _; refine qA1 ?_ aQ.o _; refine qA1 ?_ aQ.o _; refine qA1 ?_ aQ.o _; refine qA1 ?_ aQ.o _; exact aA.o) hb) (a2 (qAt (g := aR) (o := .cells #[.int .i64 ((qAw l0_3 aH).f0), .int .i64 ((qAw l0_3 aH).f1), .int .i64 ((qAw l0_3 aH).f2), .string ((qAw l0_3 aH).f3), .string ((qAw l0_3 aH).f4)] 103 (0, 0)) (by refine qA6 (cs := #[.int .i64 ((qAw l0_3 aH).f0), .int .i64 ((qAw l0_3 aH).f1), .int .i64 ((qAw l0_3 aH).f2), .string ((qAw l0_3 aH).f3), .string ⟨#[]⟩]) ?_ 4 _ rfl; refine qA6 (cs := #[.int .i64 ((qAw l0_3 aH).f0), .int .i64 ((qAw l0_3 aH).f1), .int .i64 ((qAw l0_3 aH).f2), .string ⟨#[]⟩, .string ⟨#[]⟩]) ?_ 3 _ rfl; refine qA6 (cs := #[.int .i64 ((qAw l0_3 aH).f0), .int .i64 ((qAw l0_3 aH).f1), .int .i64 0, .string ⟨#[]⟩, .string ⟨#[]⟩]) ?_ 2 _ rfl; refine qA6 (cs := #[.int .i64 ((qAw l0_3 aH).f0), .int .i64 0, .int .i64 0, .string ⟨#[]⟩, .string ⟨#[]⟩]) ?_ 1 _ rfl; refine qA6 (cs := #[.int .i64 0, .int .i64 0, .int .i64 0, .string ⟨#[]⟩, .string ⟨#[]⟩]) ?_ 0 _ rfl; exact aD.o) hb) (am (qAp (by repeat (with_reducible first | exact HB.o | refine qAb ?_ bM.o)) hb))); clear aA aD HB; obtain ⟨aA, aD, HB⟩ := n_; have eF : ga.cell? ⟨aR, 4, none⟩ = some (.string ((qAw l0_3 aH).f4)) := (qAa aD.o 4).trans rfl; have ex := qAc aD.o 4) | ((with_reducible refine qAv (f := 36) rfl ?_); refine gL 115 Tryz.func36 #[.string ((qAw l0_3 aH).f4)] ?_; (with_reducible refine (qAA.calls ((qAw l0_3 aH).f4) ap _ gQ.o).mono ?_); rintro e gn ⟨rfl, hb⟩; refine ⟨_, rfl, ?_⟩; have n_ := a2 (qAt aA.o hb) (am (qAp HB.o hb)); clear aA aD HB; obtain ⟨aA, HB⟩ := n_; (skip)))
        go_roundg k2
        case measure => have := b6.o; have := cw.o; omega
        case rel => exact ⟨(wrap64 (aH + 1)), (by rfl), H', ⟨by have := b6.o; have := cw.o; omega⟩, ⟨by exact aA.o⟩, ⟨by exact HB.o⟩⟩
       rw [if_neg cz] at H
       replace cz := d0 cz
       have H' := am H
       clear H
       have cB : wr.cell? ⟨aC, 0, none⟩ = some (.string a0_0) := (qAa aA.o 0).trans rfl
       have cC : wr.cell? ⟨aC, 1, none⟩ = some (.slice af l0_1.length ah) := (qAa aA.o 1).trans rfl
       have cD : wr.cell? ⟨aC, 2, none⟩ = some (.slice ag l0_2.length ai) := (qAa aA.o 2).trans rfl
       have cE : wr.cell? ⟨aC, 3, none⟩ = some (.slice ae l0_3.length a6) := (qAa aA.o 3).trans rfl
       have cV := qAc aA.o 0
       have cW := qAc aA.o 1
       have cX := qAc aA.o 2
       have cY := qAc aA.o 3
       go_wp2
       go_loopg [10] k2 (fun kq g6 w' => ∃ (aJ : Int), g6 = .int .i64 aJ ∧ qAj (qAm.l2 kq aJ a0_0 l0_1 l0_2 l0_3 = some r) ∧ qAj (kq ≤ k2) ∧ qAj (w'.heap[aC]? = some (.cells #[.string a0_0, (.slice af l0_1.length ah), (.slice ag l0_2.length ai), (.slice ae l0_3.length a6)] 26 (0, 0))) ∧ qAj (Below w.heap.size w w'))
       case atStart => exact ⟨(0), (by rfl), H', ⟨Nat.le_refl _⟩, ⟨by exact aA.o⟩, ⟨by exact HB.o⟩⟩
       case round =>
        clear H'
        obtain ⟨aJ, rfl, HA, dl, aA, HB⟩ := hrel
        cases gk with
        | zero => exact absurd HA.o (by simp [qAm.l2])
        | succ k3 =>
         have H := HA.o
         clear HA
         simp only [qAm.l2] at H
         by_cases dB : aJ < (l0_3.length : Int)
         rotate_left
         ·rw [if_neg dB] at H
          replace dB := d0 dB
          obtain rfl := Option.some.inj H
          have er : wr.cell? ⟨aC, 3, none⟩ = some (.slice ae l0_3.length a6) := (qAa aA.o 3).trans rfl
          go_wp2
          go_ret
          exact ⟨by rfl, by exact HB.o⟩
         rw [if_pos dB] at H
         replace dB := d1 dB
         obtain ⟨dv, H⟩ := gd H
         replace dv := d1 dv
         by_cases dC : ((qAw l0_3 aJ).f3).toList = a0_0.toList
         rotate_left
         ·rw [if_neg dC] at H
          have d6 : (((qAw l0_3 aJ).f3).toList == a0_0.toList) = false := bf dC
          have gY : (((qAw l0_3 aJ).f3).toList != a0_0.toList) = true := bne_iff_ne.mpr dC
          by_cases d7 : ((qAw l0_3 aJ).f2) = 1
          ·rw [if_pos d7] at H
           have d8 : (((qAw l0_3 aJ).f2) == 1) = true := beq_iff_eq.mpr d7
           clear d7
           obtain rfl := Option.some.inj H
           have ed : wr.cell? ⟨aC, 3, none⟩ = some (.slice ae l0_3.length a6) := (qAa aA.o 3).trans rfl
           have al : 0 ≤ aJ := od (by assumption)
           have an : aJ < (l0_3.length : Int) := od (by assumption)
           obtain ⟨bG, bN, aT, aU, aV, aW, aX⟩ := qCl ak.o aJ al an
           cases bN
           replace aT := (HB.o.cell (World.block_lt_of_cell? w _ aT)).trans aT
           replace aU := (HB.o.cell (World.block_lt_of_cell? w _ aU)).trans aU
           replace aV := (HB.o.cell (World.block_lt_of_cell? w _ aV)).trans aV
           replace aW := (HB.o.cell (World.block_lt_of_cell? w _ aW)).trans aW
           replace aX := (HB.o.cell (World.block_lt_of_cell? w _ aX)).trans aX
           replace al := eq_true al
           replace an := eq_true an
           go_wp2_with ((with_reducible refine qAI (N := 11) rfl ?_); refine bx 11 #[.int .i64 0, .int .i64 0, .int .i64 0, .string ⟨#[]⟩, .string ⟨#[]⟩] 103 ?_; intro aN hg dD hbox hb; have n_ := a2 (qAt aA.o hb) (a2 (qAp HB.o hb) (a2 (hbox) (a2 (by rw [hg]; exact (qAs HB.o) : w.heap.size ≤ aN) (am (by rw [hg]; exact Nat.ne_of_lt (qAM aA.o) : aC ≠ aN))))); clear aA HB; obtain ⟨aA, HB, aE, aj, aI⟩ := n_; clear hb hbox hg; have g1 := aI.o; have ee : dD.cell? ⟨aN, 0, none⟩ = some (.int .i64 0) := (qAa aE.o 0).trans rfl; have ef : dD.cell? ⟨aN, 1, none⟩ = some (.int .i64 0) := (qAa aE.o 1).trans rfl; have eg : dD.cell? ⟨aN, 2, none⟩ = some (.int .i64 0) := (qAa aE.o 2).trans rfl; have eh : dD.cell? ⟨aN, 3, none⟩ = some (.string ⟨#[]⟩) := (qAa aE.o 3).trans rfl; have ei : dD.cell? ⟨aN, 4, none⟩ = some (.string ⟨#[]⟩) := (qAa aE.o 4).trans rfl; have fV := qAc aE.o 0; have fW := qAc aE.o 1; have fX := qAc aE.o 2; have fY := qAc aE.o 3; have fZ := qAc aE.o 4; have ej : dD.cell? ⟨aC, 0, none⟩ = some (.string a0_0) := (qAa aA.o 0).trans rfl; have f5 := qAc aA.o 3)
           go_ret
           exact ⟨by rfl, by repeat (with_reducible first | exact HB.o | refine qAb ?_ aj.o)⟩
          rw [if_neg d7] at H
          have d8 : (((qAw l0_3 aJ).f2) == 1) = false := bf d7
          have H' := am H
          clear H
          have ek : wr.cell? ⟨aC, 3, none⟩ = some (.slice ae l0_3.length a6) := (qAa aA.o 3).trans rfl
          have al : 0 ≤ aJ := od (by assumption)
          have an : aJ < (l0_3.length : Int) := od (by assumption)
          obtain ⟨bG, bN, aT, aU, aV, aW, aX⟩ := qCl ak.o aJ al an
          cases bN
          replace aT := (HB.o.cell (World.block_lt_of_cell? w _ aT)).trans aT
          replace aU := (HB.o.cell (World.block_lt_of_cell? w _ aU)).trans aU
          replace aV := (HB.o.cell (World.block_lt_of_cell? w _ aV)).trans aV
          replace aW := (HB.o.cell (World.block_lt_of_cell? w _ aW)).trans aW
          replace aX := (HB.o.cell (World.block_lt_of_cell? w _ aX)).trans aX
          replace al := eq_true al
          replace an := eq_true an
          go_wp2_with ((with_reducible refine qAI (N := 11) rfl ?_); refine bx 11 #[.int .i64 0, .int .i64 0, .int .i64 0, .string ⟨#[]⟩, .string ⟨#[]⟩] 103 ?_; intro aN hg dE hbox hb; have n_ := a2 (qAt aA.o hb) (a2 (qAp HB.o hb) (a2 (hbox) (a2 (by rw [hg]; exact (qAs HB.o) : w.heap.size ≤ aN) (am (by rw [hg]; exact Nat.ne_of_lt (qAM aA.o) : aC ≠ aN))))); clear aA HB; obtain ⟨aA, HB, aE, aj, aI⟩ := n_; clear hb hbox hg; have g2 := aI.o; have el : dE.cell? ⟨aN, 0, none⟩ = some (.int .i64 0) := (qAa aE.o 0).trans rfl; have em : dE.cell? ⟨aN, 1, none⟩ = some (.int .i64 0) := (qAa aE.o 1).trans rfl; have en : dE.cell? ⟨aN, 2, none⟩ = some (.int .i64 0) := (qAa aE.o 2).trans rfl; have eo : dE.cell? ⟨aN, 3, none⟩ = some (.string ⟨#[]⟩) := (qAa aE.o 3).trans rfl; have ep : dE.cell? ⟨aN, 4, none⟩ = some (.string ⟨#[]⟩) := (qAa aE.o 4).trans rfl; have f6 := qAc aE.o 0; have f7 := qAc aE.o 1; have f8 := qAc aE.o 2; have f9 := qAc aE.o 3; have fa := qAc aE.o 4; have eq : dE.cell? ⟨aC, 0, none⟩ = some (.string a0_0) := (qAa aA.o 0).trans rfl; have fb := qAc aA.o 3)
          go_roundg k3
          case measure => have := b6.o; have := cw.o; have := dl.o; omega
          case rel => exact ⟨(wrap64 (aJ + 1)), (by rfl), H', ⟨by have := b6.o; have := cw.o; have := dl.o; omega⟩, ⟨by refine qA1 ?_ aI.o _; refine qA1 ?_ aI.o _; refine qA1 ?_ aI.o _; refine qA1 ?_ aI.o _; refine qA1 ?_ aI.o _; exact aA.o⟩, ⟨by repeat (with_reducible first | exact HB.o | refine qAb ?_ aj.o)⟩⟩
         rw [if_pos dC] at H
         have d6 : (((qAw l0_3 aJ).f3).toList == a0_0.toList) = true := beq_iff_eq.mpr dC
         clear dC
         replace H := bm H
         obtain ⟨cf, dM, H⟩ := H
         replace H : (if cf = true then (qAm.l2 k3 (wrap64 (aJ + 1)) a0_0 l0_1 l0_2 l0_3) else (some 52)) = some r := H
         have gR := am dM
         clear dM
         by_cases dw : cf = true
         rotate_left
         ·replace dw := Bool.eq_false_iff.mpr dw
          subst dw
          replace H : (some 52) = some r := by rw [if_neg (show ¬ (false = true) by decide)] at H; exact H
          obtain rfl := Option.some.inj H
          have e3 : wr.cell? ⟨aC, 3, none⟩ = some (.slice ae l0_3.length a6) := (qAa aA.o 3).trans rfl
          have al : 0 ≤ aJ := od (by assumption)
          have an : aJ < (l0_3.length : Int) := od (by assumption)
          obtain ⟨bG, bN, aT, aU, aV, aW, aX⟩ := qCl ak.o aJ al an
          cases bN
          replace aT := (HB.o.cell (World.block_lt_of_cell? w _ aT)).trans aT
          replace aU := (HB.o.cell (World.block_lt_of_cell? w _ aU)).trans aU
          replace aV := (HB.o.cell (World.block_lt_of_cell? w _ aV)).trans aV
          replace aW := (HB.o.cell (World.block_lt_of_cell? w _ aW)).trans aW
          replace aX := (HB.o.cell (World.block_lt_of_cell? w _ aX)).trans aX
          replace al := eq_true al
          replace an := eq_true an
          go_wp2_with (first | ((with_reducible refine qAI (N := 11) rfl ?_); refine bx 11 #[.int .i64 0, .int .i64 0, .int .i64 0, .string ⟨#[]⟩, .string ⟨#[]⟩] 103 ?_; intro aN hg ch hbox hb; have n_ := a2 (qAt aA.o hb) (a2 (qAp HB.o hb) (a2 (hbox) (a2 (by rw [hg]; exact (qAs HB.o) : w.heap.size ≤ aN) (am (by rw [hg]; exact Nat.ne_of_lt (qAM aA.o) : aC ≠ aN))))); clear aA HB; obtain ⟨aA, HB, aE, aj, aI⟩ := n_; clear hb hbox hg; have g0 := aI.o; have e4 : ch.cell? ⟨aN, 0, none⟩ = some (.int .i64 0) := (qAa aE.o 0).trans rfl; have e5 : ch.cell? ⟨aN, 1, none⟩ = some (.int .i64 0) := (qAa aE.o 1).trans rfl; have e6 : ch.cell? ⟨aN, 2, none⟩ = some (.int .i64 0) := (qAa aE.o 2).trans rfl; have e7 : ch.cell? ⟨aN, 3, none⟩ = some (.string ⟨#[]⟩) := (qAa aE.o 3).trans rfl; have e8 : ch.cell? ⟨aN, 4, none⟩ = some (.string ⟨#[]⟩) := (qAa aE.o 4).trans rfl; have fP := qAc aE.o 0; have fQ := qAc aE.o 1; have fR := qAc aE.o 2; have fS := qAc aE.o 3; have fT := qAc aE.o 4; have e9 : ch.cell? ⟨aC, 0, none⟩ = some (.string a0_0) := (qAa aA.o 0).trans rfl; have ea : ch.cell? ⟨aC, 1, none⟩ = some (.slice af l0_1.length ah) := (qAa aA.o 1).trans rfl; have eb : ch.cell? ⟨aC, 2, none⟩ = some (.slice ag l0_2.length ai) := (qAa aA.o 2).trans rfl; have ec : ch.cell? ⟨aC, 3, none⟩ = some (.slice (some bG) l0_3.length a6) := (qAa aA.o 3).trans rfl; have fU := qAc aA.o 3) | (go_at_call 41; (with_reducible refine (qAz.calls k3 a0_0 _ _ l0_1 _ _ l0_2 _ _ l0_3 ((qAw l0_3 aJ).f0) ((qAw l0_3 aJ).f1) ((qAw l0_3 aJ).f2) ((qAw l0_3 aJ).f3) ((qAw l0_3 aJ).f4) false _ ?side1 ?side2 ?side3 ?side4 ?side5 ?side6 gR.o).mono ?_); (case side1 => exact Kd.C_below bE.o (by repeat (with_reducible first | exact HB.o | refine qAb ?_ aj.o))); (case side2 => exact bP.o); (case side3 => exact Kd.C_below bF.o (by repeat (with_reducible first | exact HB.o | refine qAb ?_ aj.o))); (case side4 => exact bQ.o); (case side5 => exact Kd.C_below ak.o (by repeat (with_reducible first | exact HB.o | refine qAb ?_ aj.o))); (case side6 => exact bR.o); rintro e gr ⟨rfl, hb⟩; have n_ := am (qAp (by repeat (with_reducible first | exact HB.o | refine qAb ?_ aj.o)) hb); clear aA aE HB; have HB := n_; clear n_; (skip)))
          go_ret
          exact ⟨by rfl, by exact HB.o⟩
         subst dw
         replace H : (qAm.l2 k3 (wrap64 (aJ + 1)) a0_0 l0_1 l0_2 l0_3) = some r := by rw [if_pos rfl] at H; exact H
         have H' := am H
         clear H
         have eT : wr.cell? ⟨aC, 3, none⟩ = some (.slice ae l0_3.length a6) := (qAa aA.o 3).trans rfl
         have al : 0 ≤ aJ := od (by assumption)
         have an : aJ < (l0_3.length : Int) := od (by assumption)
         obtain ⟨bG, bN, aT, aU, aV, aW, aX⟩ := qCl ak.o aJ al an
         cases bN
         replace aT := (HB.o.cell (World.block_lt_of_cell? w _ aT)).trans aT
         replace aU := (HB.o.cell (World.block_lt_of_cell? w _ aU)).trans aU
         replace aV := (HB.o.cell (World.block_lt_of_cell? w _ aV)).trans aV
         replace aW := (HB.o.cell (World.block_lt_of_cell? w _ aW)).trans aW
         replace aX := (HB.o.cell (World.block_lt_of_cell? w _ aX)).trans aX
         replace al := eq_true al
         replace an := eq_true an
         go_wp2_with (first | ((with_reducible refine qAI (N := 11) rfl ?_); refine bx 11 #[.int .i64 0, .int .i64 0, .int .i64 0, .string ⟨#[]⟩, .string ⟨#[]⟩] 103 ?_; intro aN hg cg hbox hb; have n_ := a2 (qAt aA.o hb) (a2 (qAp HB.o hb) (a2 (hbox) (a2 (by rw [hg]; exact (qAs HB.o) : w.heap.size ≤ aN) (am (by rw [hg]; exact Nat.ne_of_lt (qAM aA.o) : aC ≠ aN))))); clear aA HB; obtain ⟨aA, HB, aE, aj, aI⟩ := n_; clear hb hbox hg; have gZ := aI.o; have eU : cg.cell? ⟨aN, 0, none⟩ = some (.int .i64 0) := (qAa aE.o 0).trans rfl; have eV : cg.cell? ⟨aN, 1, none⟩ = some (.int .i64 0) := (qAa aE.o 1).trans rfl; have eW : cg.cell? ⟨aN, 2, none⟩ = some (.int .i64 0) := (qAa aE.o 2).trans rfl; have eX : cg.cell? ⟨aN, 3, none⟩ = some (.string ⟨#[]⟩) := (qAa aE.o 3).trans rfl; have eY : cg.cell? ⟨aN, 4, none⟩ = some (.string ⟨#[]⟩) := (qAa aE.o 4).trans rfl; have fJ := qAc aE.o 0; have fK := qAc aE.o 1; have fL := qAc aE.o 2; have fM := qAc aE.o 3; have fN := qAc aE.o 4; have eZ : cg.cell? ⟨aC, 0, none⟩ = some (.string a0_0) := (qAa aA.o 0).trans rfl; have e0 : cg.cell? ⟨aC, 1, none⟩ = some (.slice af l0_1.length ah) := (qAa aA.o 1).trans rfl; have e1 : cg.cell? ⟨aC, 2, none⟩ = some (.slice ag l0_2.length ai) := (qAa aA.o 2).trans rfl; have e2 : cg.cell? ⟨aC, 3, none⟩ = some (.slice (some bG) l0_3.length a6) := (qAa aA.o 3).trans rfl; have fO := qAc aA.o 3) | (go_at_call 41; (with_reducible refine (qAz.calls k3 a0_0 _ _ l0_1 _ _ l0_2 _ _ l0_3 ((qAw l0_3 aJ).f0) ((qAw l0_3 aJ).f1) ((qAw l0_3 aJ).f2) ((qAw l0_3 aJ).f3) ((qAw l0_3 aJ).f4) true _ ?side1 ?side2 ?side3 ?side4 ?side5 ?side6 gR.o).mono ?_); (case side1 => exact Kd.C_below bE.o (by repeat (with_reducible first | exact HB.o | refine qAb ?_ aj.o))); (case side2 => exact bP.o); (case side3 => exact Kd.C_below bF.o (by repeat (with_reducible first | exact HB.o | refine qAb ?_ aj.o))); (case side4 => exact bQ.o); (case side5 => exact Kd.C_below ak.o (by repeat (with_reducible first | exact HB.o | refine qAb ?_ aj.o))); (case side6 => exact bR.o); rintro e gq ⟨rfl, hb⟩; have n_ := a2 (qAt (g := aC) (o := .cells #[.string a0_0, .slice af l0_1.length ah, .slice ag l0_2.length ai, .slice (some bG) l0_3.length a6] 26 (0, 0)) (by refine qA1 ?_ aI.o _; refine qA1 ?_ aI.o _; refine qA1 ?_ aI.o _; refine qA1 ?_ aI.o _; refine qA1 ?_ aI.o _; exact aA.o) hb) (am (qAp (by repeat (with_reducible first | exact HB.o | refine qAb ?_ aj.o)) hb)); clear aA aE HB; obtain ⟨aA, HB⟩ := n_; (skip)))
         go_roundg k3
         case measure => have := b6.o; have := cw.o; have := dl.o; omega
         case rel => exact ⟨(wrap64 (aJ + 1)), (by rfl), H', ⟨by have := b6.o; have := cw.o; have := dl.o; omega⟩, ⟨by exact aA.o⟩, ⟨by exact HB.o⟩⟩
 ·rw [if_neg c3] at H
  have dY : (ao != 0) = true := bne_iff_ne.mpr c3
  obtain rfl := Option.some.inj H
  go_enter Tryz.func11, Tryz.ntmps11
  go_wp2_with (first | ((with_reducible refine qAI (N := 1) rfl ?_); refine bx 1 #[.string a0_0, .slice af l0_1.length ah, .slice ag l0_2.length ai, .slice ae l0_3.length a6] 26 ?_; intro aC hg gN hbox hb; have n_ := a2 (qAp HB.o hb) (am (hbox)); clear HB; obtain ⟨HB, aA⟩ := n_; clear hb hbox hg; have de : gN.cell? ⟨aC, 0, none⟩ = some (.string a0_0) := (qAa aA.o 0).trans rfl; have df := qAc aA.o 3) | ((with_reducible refine qAv (f := 36) rfl ?_); refine gL 14 Tryz.func36 #[.string a0_0] ?_; (with_reducible refine (qAA.calls a0_0 ao _ A2.o).mono ?_); rintro e g9 ⟨rfl, hb⟩; refine ⟨_, rfl, ?_⟩; have n_ := am (qAp HB.o hb); clear aA HB; have HB := n_; clear n_; (skip)))
  go_ret
  exact ⟨by rfl, by exact HB.o⟩
end Q
end
section
namespace Q
open Go.RowKit PA PC PB
open DecLaw
def toRI (x : S144) : S172 := ⟨x.f0, x.f1, x.f2⟩
def toRV (x : S85) : S95 := ⟨x.f0, x.f1⟩
def toRN (x : S92) : S100 := ⟨x.f0, ⟨⟨x.f1.f0.f0, x.f1.f0.f1⟩, x.f1.f1, x.f1.f2.map toRI⟩⟩
def toRR (x : S104) : S103 := ⟨x.f0, x.f1, x.f2, x.f3, x.f4⟩
end Q
end
section
namespace Q
open Go.RowKit PA PC PB
open Val Ins
theorem find_ev (l : List ByteArray) (s : ByteArray) (hl : l.length ≤ 4611686018427387904) : ∀ (d : Nat) (i : Int), 0 ≤ i → (l.length : Int) - i = d →
  ∃ r, Ev (fun k => qAL.l0 k l s i) (r, hasB (l.drop i.toNat) s) := by
 intro d
 induction d with
 | zero =>
  intro i h0 hd
  refine ⟨0, Ev.step (f := fun _ => some (0, false)) (fun k => ?_) (by rw [List.drop_eq_nil_of_le (by omega)]; exact Ev.now _)⟩
  simp only [qAL.l0]; rw [if_neg (by omega)]
 | succ d ih =>
  intro i h0 hd
  have hc := qAS l ByteArray.empty i h0 (by omega)
  rw [hc]
  have hr : rdOf ByteArray.empty l i = l.getD i.toNat ByteArray.empty := rfl
  rw [← hr]
  by_cases he : (rdOf ByteArray.empty l i).toList = s.toList
  ·refine ⟨i, Ev.step (f := fun _ => some (i, true)) (fun k => ?_) (by
     have : hasB (rdOf ByteArray.empty l i :: l.drop (i + 1).toNat) s = true := by unfold hasB; rw [List.any_cons, beq_iff_eq.mpr he.symm, Bool.true_or]
     rw [this]; exact Ev.now _)⟩
   simp only [qAL.l0]; rw [if_pos (by omega), if_pos h0, if_pos he]
  obtain ⟨r, hrec⟩ := ih (i + 1) (by omega) (by omega)
  refine ⟨r, Ev.step (f := fun k => qAL.l0 k l s (i + 1)) (fun k => ?_) (by
    have : hasB (rdOf ByteArray.empty l i :: l.drop (i + 1).toNat) s = hasB (l.drop (i + 1).toNat) s := by unfold hasB; rw [List.any_cons, beq_eq_false_iff_ne.mpr (fun e => he e.symm), Bool.false_or]
    rw [this]; exact hrec)⟩
  simp only [qAL.l0]; rw [if_pos (by omega), if_pos h0, if_neg he, qBr (n := l.length) h0 (by omega) hl]
theorem has_ev (l : List ByteArray) (s : ByteArray) (hl : l.length ≤ 4611686018427387904) : Ev (fun k => qBs.f k l s) (hasB l s) := by
 obtain ⟨r, h⟩ := find_ev l s hl l.length 0 (by omega) (by omega)
 exact Ev.congr (f := fun k => (qAL.l0 k l s 0).bind fun b => some b.2) (fun k => rfl) (Ev.bind h (Ev.now _))
theorem qCK (t : Int) : qAT.f t = some (okT t) := by
 unfold qAT.f
 by_cases h1 : t = 1
 ·subst h1; rfl
 by_cases h2 : t = 2
 ·subst h2; rfl
 rw [if_neg h1, if_neg h2]
 by_cases h3 : t = 3
 ·subst h3; rfl
 rw [qDh (by omega), beq_eq_false_iff_ne.mpr h3]
theorem qDx {α β : Type} (f : α → β) (l : List α) (d : α) (e : β) (i : Int) (h0 : 0 ≤ i) (h : i < l.length) : (l.map f).getD i.toNat e = f (l.getD i.toNat d) := by
 rw [List.getD_eq_getElem?_getD, List.getD_eq_getElem?_getD, List.getElem?_map, List.getElem?_eq_getElem (by omega)]; rfl
section
variable (l0 : List Int) (a1 : Int) (l2 : List Int) (l3 : List S144)
theorem sh2_ev (h3 : l3.length ≤ 4611686018427387904) (hu : l3.all u64S = true) : ∀ (d : Nat) (i : Int), 0 ≤ i → (l3.length : Int) - i = d → Ev (fun k => qAl.l2 k i l0 a1 l2 (l3.map toRI)) ((l3.drop i.toNat).all okS) := by
 intro d
 induction d with
 | zero =>
  intro i g0 hd
  rw [List.drop_eq_nil_of_le (by omega)]
  refine Ev.step (f := fun _ => some true) (fun k => ?_) (Ev.now _)
  simp only [qAl.l2]; rw [if_neg (by rw [List.length_map]; omega)]
 | succ d ih =>
  intro i g0 hd
  rw [qAS l3 z144 i g0 (by omega), List.all_cons]
  have hx : qAC (l3.map toRI) i = toRI (l3.getD i.toNat z144) := qDx toRI l3 _ _ i g0 (by omega)
  have hm := qC3 l3 z144 i g0 (by omega)
  have hux := u64S_U (List.all_eq_true.1 hu _ hm)
  generalize l3.getD i.toNat z144 = x at hx hux hm
  have hr : qBj.f x.f0 x.f1 x.f2.f0 x.f2.f1 = some (okS x) := if_pos hux
  have hw := qBr (n := l3.length) g0 (by omega) h3
  cases hq : okS x with
  | false =>
   rw [Bool.false_and]
   refine Ev.step (f := fun _ => some false) (fun k => ?_) (Ev.now _)
   simp only [qAl.l2, hx]
   rw [if_pos (by rw [List.length_map]; omega), if_pos g0]
   show (qBj.f x.f0 x.f1 x.f2.f0 x.f2.f1).bind _ = _
   rw [hr, hq, Option.bind_some]; rfl
  | true =>
   rw [Bool.true_and]
   refine Ev.step (fun k => ?_) (ih (i + 1) (by omega) (by omega))
   simp only [qAl.l2, hx]
   rw [if_pos (by rw [List.length_map]; omega), if_pos g0]
   show (qBj.f x.f0 x.f1 x.f2.f0 x.f2.f1).bind _ = _
   rw [hr, hq, Option.bind_some, hw]; rfl
theorem sh1_ev (h2 : l2.length ≤ 4611686018427387904) (h3 : l3.length ≤ 4611686018427387904) (hu : l3.all u64S = true) : ∀ (d : Nat) (i : Int), 0 ≤ i → (l2.length : Int) - i = d → Ev (fun k => qAl.l1 k i l0 a1 l2 (l3.map toRI)) ((l2.drop i.toNat).all okT && l3.all okS) := by
 intro d
 induction d with
 | zero =>
  intro i g0 hd
  rw [List.drop_eq_nil_of_le (by omega)]
  refine Ev.step (fun k => ?_) (sh2_ev l0 a1 l2 l3 h3 hu l3.length 0 (by omega) (by omega))
  simp only [qAl.l1]; rw [if_neg (by omega)]
 | succ d ih =>
  intro i g0 hd
  rw [qAS l2 0 i g0 (by omega), List.all_cons, Bool.and_assoc]
  have hx : rd l2 i = l2.getD i.toNat 0 := rfl
  rw [← hx]
  have hw := qBr (n := l2.length) g0 (by omega) h2
  cases hq : okT (rd l2 i) with
  | false =>
   rw [Bool.false_and]
   refine Ev.step (f := fun _ => some false) (fun k => ?_) (Ev.now _)
   simp only [qAl.l1]
   rw [if_pos (by omega), if_pos g0, qCK, hq, Option.bind_some]; rfl
  | true =>
   rw [Bool.true_and]
   refine Ev.step (fun k => ?_) (ih (i + 1) (by omega) (by omega))
   simp only [qAl.l1]
   rw [if_pos (by omega), if_pos g0, qCK, hq, Option.bind_some, hw]; rfl
theorem sh0_ev (h0 : l0.length ≤ 4611686018427387904) (h2 : l2.length ≤ 4611686018427387904) (h3 : l3.length ≤ 4611686018427387904) (hu : l3.all u64S = true) : ∀ (d : Nat) (i : Int), 0 ≤ i → (l0.length : Int) - i = d → Ev (fun k => qAl.l0 k i l0 a1 l2 (l3.map toRI)) ((l0.drop i.toNat).all okT && (l2.all okT && l3.all okS)) := by
 intro d
 induction d with
 | zero =>
  intro i g0 hd
  rw [List.drop_eq_nil_of_le (by omega)]
  refine Ev.step (fun k => ?_) (sh1_ev l0 a1 l2 l3 h2 h3 hu l2.length 0 (by omega) (by omega))
  simp only [qAl.l0]; rw [if_neg (by omega)]
 | succ d ih =>
  intro i g0 hd
  rw [qAS l0 0 i g0 (by omega), List.all_cons, Bool.and_assoc]
  have hx : rd l0 i = l0.getD i.toNat 0 := rfl
  rw [← hx]
  have hw := qBr (n := l0.length) g0 (by omega) h0
  cases hq : okT (rd l0 i) with
  | false =>
   rw [Bool.false_and]
   refine Ev.step (f := fun _ => some false) (fun k => ?_) (Ev.now _)
   simp only [qAl.l0]
   rw [if_pos (by omega), if_pos g0, qCK, hq, Option.bind_some]; rfl
  | true =>
   rw [Bool.true_and]
   refine Ev.step (fun k => ?_) (ih (i + 1) (by omega) (by omega))
   simp only [qAl.l0]
   rw [if_pos (by omega), if_pos g0, qCK, hq, Option.bind_some, hw]; rfl
theorem sh_no : Ev (fun k => qAl.j0 k true l0 a1 l2 (l3.map toRI)) false :=
 Ev.step (f := fun _ => some false) (fun k => by simp only [qAl.j0, if_true]) (Ev.now _)
theorem shaped_ev (h0 : l0.length ≤ 4611686018427387904) (h2 : l2.length ≤ 4611686018427387904) (h3 : l3.length ≤ 4611686018427387904) (hu : l3.all u64S = true) : Ev (fun k => qAl.f k l0 a1 l2 (l3.map toRI)) (okFn l0 a1 l2 l3) := by
 have hyes : Ev (fun k => qAl.j0 k false l0 a1 l2 (l3.map toRI)) (l0.all okT && (l2.all okT && l3.all okS)) :=
  Ev.step (fun k => by simp only [qAl.j0]; rw [if_neg (by decide)]) (sh0_ev l0 a1 l2 l3 h0 h2 h3 hu l0.length 0 (by omega) (by omega))
 have hno := sh_no l0 a1 l2 l3
 unfold okFn
 by_cases c0 : l0.length ≤ 8
 rotate_left
 ·rw [decide_eq_false c0]
  simp only [Bool.false_and]
  exact Ev.congr (fun k => by unfold qAl.f; rw [if_pos (by omega)]) hno
 by_cases c2 : l2.length ≤ 64
 rotate_left
 ·rw [decide_eq_false c2]
  simp only [Bool.and_false, Bool.false_and]
  exact Ev.congr (fun k => by unfold qAl.f; rw [if_neg (by omega), if_pos (by omega)]) hno
 by_cases c3 : l3.length ≤ 4096
 rotate_left
 ·rw [decide_eq_false c3]
  simp only [Bool.and_false, Bool.false_and]
  exact Ev.congr (fun k => by unfold qAl.f; rw [if_neg (by omega), if_neg (by omega), if_pos (by rw [List.length_map]; omega)]) hno
 rw [decide_eq_true c0, decide_eq_true c2, decide_eq_true c3]
 cases ha : okT a1 with
 | true =>
  refine Ev.congr (f := fun k => qAl.j0 k false l0 a1 l2 (l3.map toRI)) (fun k => ?_) ?_
  ·unfold qAl.f
   rw [if_neg (by omega), if_neg (by omega), if_neg (by rw [List.length_map]; omega), qCK, ha, Option.bind_some]; rfl
  have e : (true && l0.all okT && (a1 == 0 || true) && true && l2.all okT && true && l3.all okS) = (l0.all okT && (l2.all okT && l3.all okS)) := by simp [Bool.and_assoc]
  rw [e]; exact hyes
 | false =>
  have hun : ∀ k, qAl.f k l0 a1 l2 (l3.map toRI) = qAl.j0 k (a1 != 0) l0 a1 l2 (l3.map toRI) := fun k => by
   unfold qAl.f
   rw [if_neg (by omega), if_neg (by omega), if_neg (by rw [List.length_map]; omega), qCK, ha, Option.bind_some]; rfl
  refine Ev.congr hun ?_
  by_cases hz : a1 = 0
  rotate_left
  ·rw [beq_eq_false_iff_ne.mpr hz, bne_iff_ne.mpr hz]
   have e : (true && l0.all okT && (false || false) && true && l2.all okT && true && l3.all okS) = false := by simp
   rw [e]; exact hno
  rw [beq_iff_eq.mpr hz, bne_eq_false_iff_eq.mpr hz]
  have e : (true && l0.all okT && (true || false) && true && l2.all okT && true && l3.all okS) = (l0.all okT && (l2.all okT && l3.all okS)) := by simp [Bool.and_assoc]
  rw [e]; exact hyes
end
def qCt (x : S144) : Int := if x.f0 = 4 ∨ x.f0 = 5 then 1 else if x.f0 = 10 then 2 else 0
theorem open_ev (x : S144) (a b c : Int) : Ev (fun k => qAB.f k x.f0 a b c) (qCt x) := by
 unfold qCt
 by_cases h4 : x.f0 = 4
 ·rw [if_pos (.inl h4)]
  refine Ev.congr (f := fun k => qAB.j0 k x.f0 true) (fun k => ?_) (Ev.step (f := fun _ => some 1) (fun k => by simp only [qAB.j0, if_true]) (Ev.now _))
  unfold qAB.f; rw [if_pos h4, beq_iff_eq.mpr h4]
 by_cases h5 : x.f0 = 5
 ·rw [if_pos (.inr h5)]
  refine Ev.congr (f := fun k => qAB.j0 k x.f0 true) (fun k => ?_) (Ev.step (f := fun _ => some 1) (fun k => by simp only [qAB.j0, if_true]) (Ev.now _))
  unfold qAB.f; rw [if_neg h4, beq_iff_eq.mpr h5]
 rw [if_neg (by omega)]
 have hun : ∀ k, qAB.f k x.f0 a b c = qAB.j0 k x.f0 false := fun k => by
  unfold qAB.f; rw [if_neg h4, beq_eq_false_iff_ne.mpr h5]
 by_cases h10 : x.f0 = 10
 ·rw [if_pos h10]
  exact Ev.congr hun (Ev.step (f := fun _ => some 2) (fun k => by simp only [qAB.j0]; rw [if_neg (by decide), if_pos h10]) (Ev.now _))
 rw [if_neg h10]
 exact Ev.congr hun (Ev.step (f := fun _ => some 0) (fun k => by simp only [qAB.j0]; rw [if_neg (by decide), if_neg h10]) (Ev.now _))
def qCm (f : Int) : Int → List S144 → List S104 → Option (List S104)
 | _, [], rs => some rs
 | i, x :: xs, rs => if qCt x = 0 then qCm f (i + 1) xs rs else if x.f1 ≠ 0 then none else match rs with
  | [] => none
  | r :: rs => if r.f0 = f ∧ r.f1 = i ∧ r.f2 = qCt x then qCm f (i + 1) xs rs else none
def qCQ : Int → List S92 → List S104 → Bool
 | _, [], rs => rs.isEmpty
 | f, x :: xs, rs => match qCm f 0 x.f1.f2 rs with
  | none => false
  | some rs => qCQ (f + 1) xs rs
def zOk (x : S144) : Bool := qCt x == 0 || x.f1 == 0
theorem placeOf_eq (f i : Int) (x : S144) : qCc f i x = if qCt x = 0 then [] else [⟨f, i, qCt x, ⟨#[]⟩, ⟨#[]⟩⟩] := by
 unfold qCc qCt
 by_cases h : x.f0 = 4 ∨ x.f0 = 5
 ·rw [if_pos h, if_pos h, if_neg (by decide)]
 rw [if_neg h, if_neg h]
 by_cases h2 : x.f0 = 10
 ·rw [if_pos h2, if_pos h2, if_neg (by decide)]
 rw [if_neg h2, if_neg h2, if_pos rfl]
theorem qDm (f : Int) : ∀ (l : List S144) (i : Int) (rs rest : List S104), (qB8 rs (qCW f i l ++ rest) && l.all zOk) = match qCm f i l rs with
  | none => false
  | some rs' => qB8 rs' rest
 | [], i, rs, rest => by simp [qCW, qCm]
 | x :: xs, i, rs, rest => by
  simp only [qCW, qCm, List.all_cons]
  rw [placeOf_eq]
  by_cases h0 : qCt x = 0
  ·rw [if_pos h0, if_pos h0, List.nil_append]
   have hz : zOk x = true := by unfold zOk; rw [beq_iff_eq.mpr h0]; rfl
   rw [hz, Bool.true_and]
   exact qDm f xs (i + 1) rs rest
  rw [if_neg h0, if_neg h0]
  by_cases h1 : x.f1 = 0
  rotate_left
  ·rw [if_pos h1]
   have hz : zOk x = false := by unfold zOk; rw [beq_eq_false_iff_ne.mpr h0, beq_eq_false_iff_ne.mpr h1]; rfl
   rw [hz, Bool.false_and, Bool.and_false]
  rw [if_neg (fun hh => hh h1)]
  have hz : zOk x = true := by unfold zOk; rw [beq_iff_eq.mpr h1, Bool.or_true]
  rw [hz, Bool.true_and]
  cases rs with
  | nil => rfl
  | cons r rs =>
   simp only [List.cons_append, List.nil_append, qB8, Bool.and_assoc]
   by_cases hb : r.f0 = f ∧ r.f1 = i ∧ r.f2 = qCt x
   ·rw [if_pos hb]
    have hbb : qE9 r ⟨f, i, qCt x, ⟨#[]⟩, ⟨#[]⟩⟩ = true := by unfold qE9; simp [hb.1, hb.2.1, hb.2.2]
    rw [hbb, Bool.true_and]
    exact qDm f xs (i + 1) rs rest
   rw [if_neg hb]
   have hbb : qE9 r ⟨f, i, qCt x, ⟨#[]⟩, ⟨#[]⟩⟩ = false := by
    cases h : qE9 r ⟨f, i, qCt x, ⟨#[]⟩, ⟨#[]⟩⟩ with
    | false => rfl
    | true => exact absurd (bareB_eq h) hb
   rw [hbb, Bool.false_and]
theorem qEn : ∀ (l : List S92) (f : Int) (rs : List S104), qCQ f l rs = (qB8 rs (fnsP f l) && l.all fun x => x.f1.f2.all zOk)
 | [], f, rs => by cases rs <;> simp [qCQ, fnsP, qB8]
 | x :: xs, f, rs => by
  simp only [qCQ, fnsP, List.all_cons]
  have h := qDm f x.f1.f2 0 rs (fnsP (f + 1) xs)
  cases hz : qCm f 0 x.f1.f2 rs with
  | none =>
   rw [hz] at h
   rw [← Bool.and_assoc, h]; rfl
  | some rs' =>
   rw [hz] at h
   rw [← Bool.and_assoc, h]
   exact qEn xs (f + 1) rs'
theorem codeP_any (fns : List S92) (f : Int) (c : List S144) (hc : (qAx fns f).f1.f2 = c) : ∀ (d : Nat) (i : Nat), c.length - i = d → i ≤ c.length → ((qCW f (i : Int) (c.drop i)).any fun p => qCi fns p != 0) = !(c.drop i).all zOk := by
 intro d
 induction d with
 | zero => intro i hd hi; rw [List.drop_eq_nil_of_le (by omega)]; rfl
 | succ d ih =>
  intro i hd hi
  have hlt : i < c.length := by omega
  rw [List.drop_eq_getElem_cons hlt]
  simp only [qCW, List.any_append, List.all_cons, Bool.not_and]
  have := ih (i + 1) (by omega) (by omega)
  rw [show ((i + 1 : Nat) : Int) = (i : Int) + 1 from rfl] at this
  rw [this, placeOf_eq]
  congr 1
  by_cases h0 : qCt c[i] = 0
  ·rw [if_pos h0]
   unfold zOk; rw [beq_iff_eq.mpr h0]; rfl
  rw [if_neg h0]
  have hn : qCi fns ⟨f, (i : Int), qCt c[i], ⟨#[]⟩, ⟨#[]⟩⟩ = c[i].f1 := by
   unfold qCi
   simp only
   rw [hc]
   unfold qAH
   rw [Int.toNat_natCast, List.getD_eq_getElem?_getD, List.getElem?_eq_getElem hlt]; rfl
  simp only [List.any_cons, List.any_nil, Bool.or_false, hn]
  unfold zOk; rw [beq_eq_false_iff_ne.mpr h0, Bool.false_or]; rfl
theorem fnsP_any (fns : List S92) : ∀ (d : Nat) (f : Nat), fns.length - f = d → f ≤ fns.length → ((fnsP (f : Int) (fns.drop f)).any fun p => qCi fns p != 0) = !(fns.drop f).all fun x => x.f1.f2.all zOk := by
 intro d
 induction d with
 | zero => intro f hd hf; rw [List.drop_eq_nil_of_le (by omega)]; rfl
 | succ d ih =>
  intro f hd hf
  have hlt : f < fns.length := by omega
  rw [List.drop_eq_getElem_cons hlt]
  simp only [fnsP, List.any_append, List.all_cons, Bool.not_and]
  have := ih (f + 1) (by omega) (by omega)
  rw [show ((f + 1 : Nat) : Int) = (f : Int) + 1 from rfl] at this
  rw [this]
  congr 1
  have hrd : (qAx fns (f : Int)).f1.f2 = fns[f].f1.f2 := by
   unfold qAx
   rw [Int.toNat_natCast, List.getD_eq_getElem?_getD, List.getElem?_eq_getElem hlt]; rfl
  have := codeP_any fns f fns[f].f1.f2 hrd _ 0 rfl (Nat.zero_le _)
  simpa using this
theorem places_any (fns : List S92) : ((qBw fns).any fun p => qCi fns p != 0) = !fns.all fun x => x.f1.f2.all zOk := by
 have := fnsP_any fns fns.length 0 rfl (Nat.zero_le _)
 simpa [qBw] using this
section
variable (m : ByteArray) (V : List S95) (fns : List S92) (rels : List S104)
theorem pl1_ev (hl : rels.length ≤ 4611686018427387904) (f : Int) (c : List S144) (hc : c.length ≤ 4611686018427387904) (R : Bool)
  (hrest : ∀ n : Int, 0 ≤ n → n ≤ rels.length → qCm f 0 c rels = qCm f 0 c rels → ∀ rs, rs = rels.drop n.toNat → Ev (fun k => qAq.l0 k n (wrap64 (f + 1)) m V (fns.map toRN) (rels.map toRR)) (qCQ (f + 1) (fns.drop (f + 1).toNat) rs)) :
  ∀ (d : Nat) (i n : Int), 0 ≤ i → (c.length : Int) - i = d → 0 ≤ n → n ≤ rels.length →
  Ev (fun k => qAq.l1 k n f (c.map toRI) i m V (fns.map toRN) (rels.map toRR)) (match qCm f i (c.drop i.toNat) (rels.drop n.toNat) with
    | none => false
    | some rs => qCQ (f + 1) (fns.drop (f + 1).toNat) rs) := by
 intro d
 induction d with
 | zero =>
  intro i n h0 hd hn hn2
  rw [List.drop_eq_nil_of_le (by omega)]
  simp only [qCm]
  refine Ev.step (fun k => ?_) (hrest n hn hn2 rfl _ rfl)
  simp only [qAq.l1]; rw [if_neg (by rw [List.length_map]; omega)]
 | succ d ih =>
  intro i n h0 hd hn hn2
  have hw := qBr (n := c.length) h0 (by omega) hc
  rw [qAS c z144 i h0 (by omega)]
  have hx : qAC (c.map toRI) i = toRI (c.getD i.toNat z144) := qDx toRI c _ _ i h0 (by omega)
  generalize c.getD i.toNat z144 = x at hx
  have ho := open_ev x x.f1 x.f2.f0 x.f2.f1
  simp only [qCm]
  have hun : ∀ k, qAq.l1 (k + 1) n f (c.map toRI) i m V (fns.map toRN) (rels.map toRR) = (qAB.f k x.f0 x.f1 x.f2.f0 x.f2.f1).bind fun t => (if t = 0 then (qAq.l1 k n f (c.map toRI) (i + 1) m V (fns.map toRN) (rels.map toRR)) else (if x.f1 = 0 then (qAq.j2 k n f (c.map toRI) i t (n == (rels.length : Int)) m V (fns.map toRN) (rels.map toRR)) else (qAq.j2 k n f (c.map toRI) i t true m V (fns.map toRN) (rels.map toRR)))) := fun k => by
   simp only [qAq.l1, hx, toRI]
   rw [if_pos (by rw [List.length_map]; omega), if_pos h0, hw]
   simp only [List.length_map]
  have hno : ∀ t, Ev (fun k => qAq.j2 k n f (c.map toRI) i t true m V (fns.map toRN) (rels.map toRR)) false := fun t =>
   Ev.step (f := fun _ => some false) (fun k => by simp only [qAq.j2, if_true]) (Ev.now _)
  by_cases hk : qCt x = 0
  ·rw [if_pos hk]
   refine Ev.step hun (Ev.bind ho ?_)
   simp only [hk, if_true]
   exact ih (i + 1) n (by omega) (by omega) hn hn2
  rw [if_neg hk]
  by_cases hf1 : x.f1 = 0
  rotate_left
  ·rw [if_pos hf1]
   refine Ev.step hun (Ev.bind ho ?_)
   simp only [if_neg hk, if_neg hf1]
   exact hno _
  rw [if_neg (fun hh => hh hf1)]
  refine Ev.step hun (Ev.bind ho ?_)
  simp only [if_neg hk, if_pos hf1]
  by_cases hlen : n = rels.length
  ·rw [List.drop_eq_nil_of_le (by omega), beq_iff_eq.mpr hlen]
   exact hno _
  rw [beq_eq_false_iff_ne.mpr hlen]
  rw [qAS rels z104 n hn (by omega)]
  have hr : qAw (rels.map toRR) n = toRR (rels.getD n.toNat z104) := qDx toRR rels _ _ n hn (by omega)
  generalize rels.getD n.toNat z104 = r at hr
  have hwn := qBr (n := rels.length) hn (by omega) hl
  have hun2 : ∀ k, qAq.j2 (k + 1) n f (c.map toRI) i (qCt x) false m V (fns.map toRN) (rels.map toRR) = (if r.f0 = f then (if r.f1 = i then (if r.f2 = qCt x then qAq.l1 k (n + 1) f (c.map toRI) (i + 1) m V (fns.map toRN) (rels.map toRR) else some false) else some false) else some false) := fun k => by
   simp only [qAq.j2, hr, toRR]
   rw [if_neg (by decide), if_pos hn, if_pos (by rw [List.length_map]; omega), hw, hwn]
  by_cases b0 : r.f0 = f
  rotate_left
  ·simp only [if_neg (show ¬ (r.f0 = f ∧ r.f1 = i ∧ r.f2 = qCt x) from fun hh => b0 hh.1)]
   refine Ev.step (f := fun _ => some false) (fun k => (hun2 k).trans ?_) (Ev.now _)
   rw [if_neg b0]
  by_cases b1 : r.f1 = i
  rotate_left
  ·simp only [if_neg (show ¬ (r.f0 = f ∧ r.f1 = i ∧ r.f2 = qCt x) from fun hh => b1 hh.2.1)]
   refine Ev.step (f := fun _ => some false) (fun k => (hun2 k).trans ?_) (Ev.now _)
   rw [if_pos b0, if_neg b1]
  by_cases b2 : r.f2 = qCt x
  rotate_left
  ·simp only [if_neg (show ¬ (r.f0 = f ∧ r.f1 = i ∧ r.f2 = qCt x) from fun hh => b2 hh.2.2)]
   refine Ev.step (f := fun _ => some false) (fun k => (hun2 k).trans ?_) (Ev.now _)
   rw [if_pos b0, if_pos b1, if_neg b2]
  simp only [if_pos (show r.f0 = f ∧ r.f1 = i ∧ r.f2 = qCt x from ⟨b0, b1, b2⟩)]
  refine Ev.step (fun k => (hun2 k).trans ?_) (ih (i + 1) (n + 1) (by omega) (by omega) (by omega) (by omega))
  rw [if_pos b0, if_pos b1, if_pos b2]
theorem pl0_ev (hl : rels.length ≤ 4611686018427387904) (hfl : fns.length ≤ 2305843009213693952) (hf : ∀ x ∈ fns, x.f1.f2.length ≤ 4611686018427387904) : ∀ (d : Nat) (f n : Int), 0 ≤ f → (fns.length : Int) - f = d → 0 ≤ n → n ≤ rels.length →
  Ev (fun k => qAq.l0 k n f m V (fns.map toRN) (rels.map toRR)) (qCQ f (fns.drop f.toNat) (rels.drop n.toNat)) := by
 intro d
 induction d with
 | zero =>
  intro f n h0 hd hn hn2
  rw [List.drop_eq_nil_of_le (by omega)]
  simp only [qCQ]
  refine Ev.step (f := fun _ => some (n == (rels.length : Int))) (fun k => ?_) (by
    have e : (rels.drop n.toNat).isEmpty = (n == (rels.length : Int)) := by
      by_cases h : n = rels.length
      · rw [List.drop_eq_nil_of_le (by omega), beq_iff_eq.mpr h]; rfl
      rw [beq_eq_false_iff_ne.mpr h, qAS rels z104 n hn (by omega)]; rfl
    rw [e]; exact Ev.now _)
  simp only [qAq.l0, List.length_map]; rw [if_neg (by omega)]
 | succ d ih =>
  intro f n h0 hd hn hn2
  have hw := qBr (n := fns.length) h0 (by omega) (by omega)
  rw [qAS fns z92 f h0 (by omega)]
  have hx : qA3 (fns.map toRN) f = toRN (fns.getD f.toNat z92) := qDx toRN fns _ _ f h0 (by omega)
  have hm := qC3 fns z92 f h0 (by omega)
  have hlx := hf _ hm
  generalize fns.getD f.toNat z92 = x at hx hm hlx
  simp only [qCQ]
  have h1 := pl1_ev m V fns rels hl f x.f1.f2 hlx true (fun n hn hn2 _ rs hrs => by
    rw [hw, hrs]
    exact ih (f + 1) n (by omega) (by omega) hn hn2) x.f1.f2.length 0 n (by omega) (by omega) hn hn2
  refine Ev.step (fun k => ?_) h1
  simp only [qAq.l0, hx, toRN]
  rw [if_pos (by rw [List.length_map]; omega), if_pos h0]
theorem placed_ev (hl : rels.length ≤ 4611686018427387904) (hfl : fns.length ≤ 2305843009213693952) (hf : ∀ x ∈ fns, x.f1.f2.length ≤ 4611686018427387904) : Ev (fun k => qAq.f k m V (fns.map toRN) (rels.map toRR)) (qB8 rels (qBw fns) && !((qBw fns).any fun p => qCi fns p != 0)) := by
 have h := pl0_ev m V fns rels hl hfl hf fns.length 0 0 (by omega) (by omega) (by omega) (by omega)
 rw [qEn] at h
 rw [places_any, Bool.not_not]
 exact h
end
section
variable (m : ByteArray) (vars : List S85) (fns : List S92) (rels : List S104)
theorem hasB_map {α : Type} (f : α → ByteArray) (x : α) (xs : List α) (s : ByteArray) : hasB ((x :: xs).map f) s = (s.toList == (f x).toList || hasB (xs.map f) s) := by
 unfold hasB; rw [List.map_cons, List.any_cons]
theorem defv_ev (hl : vars.length ≤ 4611686018427387904) (a b c : Int) (e s : ByteArray) : ∀ (d : Nat) (i : Int), 0 ≤ i → (vars.length : Int) - i = d →
  Ev (fun k => qAz.l0 k i m (vars.map toRV) (fns.map toRN) (rels.map toRR) a b c e s) (hasB ((vars.drop i.toNat).map (·.f0)) s) := by
 intro d
 induction d with
 | zero =>
  intro i h0 hd
  rw [List.drop_eq_nil_of_le (by omega)]
  refine Ev.step (f := fun _ => some false) (fun k => ?_) (Ev.now _)
  simp only [qAz.l0]; rw [if_neg (by rw [List.length_map]; omega)]
 | succ d ih =>
  intro i h0 hd
  have hw := qBr (n := vars.length) h0 (by omega) hl
  rw [qAS vars z85 i h0 (by omega), hasB_map]
  have hx : qBu (vars.map toRV) i = toRV (vars.getD i.toNat z85) := qDx toRV vars _ _ i h0 (by omega)
  generalize vars.getD i.toNat z85 = x at hx
  by_cases he : x.f0.toList = s.toList
  ·rw [beq_iff_eq.mpr he.symm, Bool.true_or]
   refine Ev.step (f := fun _ => some true) (fun k => ?_) (Ev.now _)
   simp only [qAz.l0, hx, toRV]
   rw [if_pos (by rw [List.length_map]; omega), if_pos h0, if_pos he]
  rw [beq_eq_false_iff_ne.mpr (fun h => he h.symm), Bool.false_or]
  refine Ev.step (fun k => ?_) (ih (i + 1) (by omega) (by omega))
  simp only [qAz.l0, hx, toRV]
  rw [if_pos (by rw [List.length_map]; omega), if_pos h0, if_neg he, hw]
theorem deff_ev (hl : fns.length ≤ 4611686018427387904) (a b c : Int) (e s : ByteArray) : ∀ (d : Nat) (i : Int), 0 ≤ i → (fns.length : Int) - i = d →
  Ev (fun k => qAz.l1 k i m (vars.map toRV) (fns.map toRN) (rels.map toRR) a b c e s) (hasB ((fns.drop i.toNat).map (·.f0)) s) := by
 intro d
 induction d with
 | zero =>
  intro i h0 hd
  rw [List.drop_eq_nil_of_le (by omega)]
  refine Ev.step (f := fun _ => some false) (fun k => ?_) (Ev.now _)
  simp only [qAz.l1]; rw [if_neg (by rw [List.length_map]; omega)]
 | succ d ih =>
  intro i h0 hd
  have hw := qBr (n := fns.length) h0 (by omega) hl
  rw [qAS fns z92 i h0 (by omega), hasB_map]
  have hx : qA3 (fns.map toRN) i = toRN (fns.getD i.toNat z92) := qDx toRN fns _ _ i h0 (by omega)
  generalize fns.getD i.toNat z92 = x at hx
  by_cases he : x.f0.toList = s.toList
  ·rw [beq_iff_eq.mpr he.symm, Bool.true_or]
   refine Ev.step (f := fun _ => some true) (fun k => ?_) (Ev.now _)
   simp only [qAz.l1, hx, toRN]
   rw [if_pos (by rw [List.length_map]; omega), if_pos h0, if_pos he]
  rw [beq_eq_false_iff_ne.mpr (fun h => he h.symm), Bool.false_or]
  refine Ev.step (fun k => ?_) (ih (i + 1) (by omega) (by omega))
  simp only [qAz.l1, hx, toRN]
  rw [if_pos (by rw [List.length_map]; omega), if_pos h0, if_neg he, hw]
theorem def_ev (hv : vars.length ≤ 4611686018427387904) (hf : fns.length ≤ 4611686018427387904) (a b c : Int) (e s : ByteArray) :
  Ev (fun k => qAz.f k m (vars.map toRV) (fns.map toRN) (rels.map toRR) a b c e s) (if c = 1 then hasB (vars.map (·.f0)) s else hasB (fns.map (·.f0)) s) := by
 by_cases h : c = 1
 ·rw [if_pos h]
  exact Ev.congr (fun k => by unfold qAz.f; rw [if_pos h]) (defv_ev m vars fns rels hv a b c e s vars.length 0 (by omega) (by omega))
 ·rw [if_neg h]
  exact Ev.congr (fun k => by unfold qAz.f; rw [if_neg h]) (deff_ev m vars fns rels hf a b c e s fns.length 0 (by omega) (by omega))
theorem r2_ev (hr : rels.length ≤ 4611686018427387904) (hv : vars.length ≤ 4611686018427387904) (hf : fns.length ≤ 4611686018427387904) (hk : ∀ r ∈ rels, r.f2 = 1 ∨ r.f2 = 2) : ∀ (d : Nat) (i : Int), 0 ≤ i → (rels.length : Int) - i = d →
  Ev (fun k => qAm.l2 k i m (vars.map toRV) (fns.map toRN) (rels.map toRR)) (if (rels.drop i.toNat).any (qCj m (vars.map (·.f0)) (fns.map (·.f0))) = true then 52 else 0) := by
 intro d
 induction d with
 | zero =>
  intro i h0 hd
  rw [List.drop_eq_nil_of_le (by omega)]
  refine Ev.step (f := fun _ => some 0) (fun k => ?_) (Ev.now _)
  simp only [qAm.l2]; rw [if_neg (by rw [List.length_map]; omega)]
 | succ d ih =>
  intro i h0 hd
  have hw := qBr (n := rels.length) h0 (by omega) hr
  rw [qAS rels z104 i h0 (by omega), List.any_cons]
  have hx : qAw (rels.map toRR) i = toRR (rels.getD i.toNat z104) := qDx toRR rels _ _ i h0 (by omega)
  have hkx := hk _ (qC3 rels z104 i h0 (by omega))
  generalize rels.getD i.toNat z104 = x at hx hkx
  have hdef := def_ev m vars fns rels hv hf x.f0 x.f1 x.f2 x.f3 x.f4
  have hrec := ih (i + 1) (by omega) (by omega)
  by_cases ho : x.f3.toList = m.toList
  rotate_left
  ·have hrb : qCj m (vars.map (·.f0)) (fns.map (·.f0)) x = decide (x.f2 = 1) := by unfold qCj; rw [if_neg ho]
   rw [hrb]
   by_cases h1 : x.f2 = 1
   rotate_left
   ·rw [decide_eq_false h1, Bool.false_or]
    refine Ev.step (fun k => ?_) hrec
    simp only [qAm.l2, hx, toRR]
    rw [if_pos (by rw [List.length_map]; omega), if_pos h0, if_neg ho, if_neg h1, hw]
   rw [decide_eq_true h1, Bool.true_or, if_pos rfl]
   refine Ev.step (f := fun _ => some 52) (fun k => ?_) (Ev.now _)
   simp only [qAm.l2, hx, toRR]
   rw [if_pos (by rw [List.length_map]; omega), if_pos h0, if_neg ho, if_pos h1]
  have hrb : qCj m (vars.map (·.f0)) (fns.map (·.f0)) x = !(if x.f2 = 1 then hasB (vars.map (·.f0)) x.f4 else hasB (fns.map (·.f0)) x.f4) := by
   unfold qCj
   rw [if_pos ho]
   by_cases h1 : x.f2 = 1
   ·rw [if_pos h1, if_pos h1]
   rw [if_neg h1, if_neg h1, if_pos (by omega)]
  rw [hrb]
  refine Ev.step (f := fun k => (qAz.f k m (vars.map toRV) (fns.map toRN) (rels.map toRR) x.f0 x.f1 x.f2 x.f3 x.f4).bind fun t => (if t = true then qAm.l2 k (i + 1) m (vars.map toRV) (fns.map toRN) (rels.map toRR) else some 52)) (fun k => ?_) (Ev.bind hdef ?_)
  ·simp only [qAm.l2, hx, toRR]
   rw [if_pos (by rw [List.length_map]; omega), if_pos h0, if_pos ho, hw]
  cases (if x.f2 = 1 then hasB (vars.map (·.f0)) x.f4 else hasB (fns.map (·.f0)) x.f4) with
  | false => simp; exact Ev.now _
  | true => simpa using hrec
theorem relNames_s (x : S104) (xs : List S104) (h : Names.nameE x.f3 = 0) (h2 : Names.nameE x.f4 = 0) : qBp (x :: xs) = qBp xs := by
 rw [qBp, if_neg (fun q => q h), if_neg (fun q => q h2)]
theorem relNames_a (x : S104) (xs : List S104) (h : Names.nameE x.f3 ≠ 0) : qBp (x :: xs) = Names.nameE x.f3 := by
 rw [qBp, if_pos h]
theorem relNames_b (x : S104) (xs : List S104) (h : Names.nameE x.f3 = 0) (h2 : Names.nameE x.f4 ≠ 0) : qBp (x :: xs) = Names.nameE x.f4 := by
 rw [qBp, if_neg (fun q => q h), if_pos h2]
theorem varsE_s (a : List ByteArray) (x : S85) (xs : List S85) (h : qBl x.f0 a = 0) (h2 : okV x.f1.f0 x.f1.f1 = true) : qCT a (x :: xs) = qCT (a ++ [x.f0]) xs := by
 rw [qCT, if_neg (fun q => q h), if_neg (by rw [h2]; decide)]
theorem varsE_a (a : List ByteArray) (x : S85) (xs : List S85) (h : qBl x.f0 a ≠ 0) : qCT a (x :: xs) = qBl x.f0 a := by
 rw [qCT, if_pos h]
theorem varsE_b (a : List ByteArray) (x : S85) (xs : List S85) (h : qBl x.f0 a = 0) (h2 : okV x.f1.f0 x.f1.f1 = false) : qCT a (x :: xs) = 52 := by
 rw [qCT, if_neg (fun q => q h), if_pos h2]
theorem fnsE_s (a : List ByteArray) (x : S92) (xs : List S92) (h : qBl x.f0 a = 0) (h2 : fnOk x = true) : fnsE a (x :: xs) = fnsE (a ++ [x.f0]) xs := by
 rw [fnsE, if_neg (fun q => q h), if_neg (by rw [h2]; decide)]
theorem fnsE_a (a : List ByteArray) (x : S92) (xs : List S92) (h : qBl x.f0 a ≠ 0) : fnsE a (x :: xs) = qBl x.f0 a := by
 rw [fnsE, if_pos h]
theorem fnsE_b (a : List ByteArray) (x : S92) (xs : List S92) (h : qBl x.f0 a = 0) (h2 : fnOk x = false) : fnsE a (x :: xs) = 52 := by
 rw [fnsE, if_neg (fun q => q h), if_pos h2]
theorem r1_ev (hr : rels.length ≤ 4611686018427387904) (hs : ∀ r ∈ rels, qDO r.f3 ∧ qDO r.f4) (hv : vars.length ≤ 4611686018427387904) (hf : fns.length ≤ 4611686018427387904) (hk : ∀ r ∈ rels, r.f2 = 1 ∨ r.f2 = 2) : ∀ (d : Nat) (i : Int), 0 ≤ i → (rels.length : Int) - i = d →
  Ev (fun k => qAm.l1 k i m (vars.map toRV) (fns.map toRN) (rels.map toRR)) (if qBp (rels.drop i.toNat) ≠ 0 then qBp (rels.drop i.toNat) else if rels.any (qCj m (vars.map (·.f0)) (fns.map (·.f0))) = true then 52 else 0) := by
 intro d
 induction d with
 | zero =>
  intro i h0 hd
  rw [List.drop_eq_nil_of_le (by omega)]
  refine Ev.step (fun k => ?_) (r2_ev m vars fns rels hr hv hf hk rels.length 0 (by omega) (by omega))
  simp only [qAm.l1]; rw [if_neg (by rw [List.length_map]; omega)]
 | succ d ih =>
  intro i h0 hd
  have hw := qBr (n := rels.length) h0 (by omega) hr
  rw [qAS rels z104 i h0 (by omega)]
  have hx : qAw (rels.map toRR) i = toRR (rels.getD i.toNat z104) := qDx toRR rels _ _ i h0 (by omega)
  have hsx := hs _ (qC3 rels z104 i h0 (by omega))
  generalize rels.getD i.toNat z104 = x at hx hsx
  have hn3 : qAA.f x.f3 = some (Names.nameE x.f3) := if_pos hsx.1
  have hn4 : qAA.f x.f4 = some (Names.nameE x.f4) := if_pos hsx.2
  have hun : ∀ k, qAm.l1 (k + 1) i m (vars.map toRV) (fns.map toRN) (rels.map toRR) = (if Names.nameE x.f3 = 0 then (if Names.nameE x.f4 = 0 then qAm.l1 k (i + 1) m (vars.map toRV) (fns.map toRN) (rels.map toRR) else some (Names.nameE x.f4)) else some (Names.nameE x.f3)) := fun k => by
   simp only [qAm.l1, hx, toRR]
   rw [if_pos (by rw [List.length_map]; omega), if_pos h0, hn3, Option.bind_some, hn4, Option.bind_some, hw]
  by_cases h3 : Names.nameE x.f3 = 0
  rotate_left
  ·rw [relNames_a _ _ h3, if_pos h3]
   refine Ev.step (f := fun _ => some (Names.nameE x.f3)) (fun k => (hun k).trans ?_) (Ev.now _)
   rw [if_neg h3]
  by_cases h4 : Names.nameE x.f4 = 0
  ·rw [relNames_s _ _ h3 h4]
   refine Ev.step (fun k => (hun k).trans ?_) (ih (i + 1) (by omega) (by omega))
   rw [if_pos h3, if_pos h4]
  rw [relNames_b _ _ h3 h4, if_pos h4]
  refine Ev.step (f := fun _ => some (Names.nameE x.f4)) (fun k => (hun k).trans ?_) (Ev.now _)
  rw [if_pos h3, if_neg h4]
theorem kinds_of (h : qB8 rels (qBw fns) = true) : ∀ r ∈ rels, r.f2 = 1 ∨ r.f2 = 2 := by
 intro r hr
 obtain ⟨y, hy, hb⟩ := qDX _ _ h r hr
 have h2 := (bareB_eq hb).2.2
 have : ∀ (l : List S144) (f i : Int) (p : S104), p ∈ qCW f i l → p.f2 = 1 ∨ p.f2 = 2 := by
  intro l
  induction l with
  | nil => intro f i p hp; simp [qCW] at hp
  | cons x xs ih =>
   intro f i p hp
   simp only [qCW, List.mem_append] at hp
   rcases hp with hp | hp
   ·unfold qCc at hp
    (repeat' split at hp) <;> simp at hp <;> subst hp <;> simp
   exact ih f (i + 1) p hp
 have : ∀ (l : List S92) (f : Int) (p : S104), p ∈ fnsP f l → p.f2 = 1 ∨ p.f2 = 2 := by
  intro l
  induction l with
  | nil => intro f p hp; simp [fnsP] at hp
  | cons x xs ih =>
   intro f p hp
   simp only [fnsP, List.mem_append] at hp
   rcases hp with hp | hp
   ·exact this _ _ _ _ hp
   exact ih (f + 1) p hp
 rw [h2]; exact this fns 0 y hy
theorem rend_ev (hg : qEr m vars fns rels) (ahead : List ByteArray) : Ev (fun k => (qAq.f k m (vars.map toRV) (fns.map toRN) (rels.map toRR)).bind fun t => (if t = true then qAm.l1 k 0 m (vars.map toRV) (fns.map toRN) (rels.map toRR) else some 52)) (qCG m fns rels (vars.map (·.f0)) (fns.map (·.f0))) := by
 have h1 := hg.vl
 have h2 := hg.fl
 refine Ev.bind (placed_ev m (vars.map toRV) fns rels hg.rl hg.fl (fun x hx => (hg.f x hx).2.2.2.1)) ?_
 unfold qCG
 cases he : qB8 rels (qBw fns) with
 | false => rw [if_pos rfl]; simp; exact Ev.now _
 | true =>
  rw [if_neg (by decide)]
  cases ha : (qBw fns).any fun p => qCi fns p != 0 with
  | true => rw [if_pos rfl]; simp; exact Ev.now _
  | false =>
   rw [if_neg (by decide)]
   simp only [Bool.not_false, Bool.and_true, if_true]
   exact r1_ev m vars fns rels hg.rl hg.r (by omega) (by omega) (kinds_of fns rels he) rels.length 0 (by omega) (by omega)
theorem j1_un (ahead : List ByteArray) (hal : ahead.length ≤ 64) (i : Int) (s : ByteArray) (hs : qDO s) (b : Bool) (R : Int)
  (h : qBl s ahead = 0 → b = true → Ev (fun k => qAm.l0 k (ahead ++ [s]) (wrap64 (i + 1)) m (vars.map toRV) (fns.map toRN) (rels.map toRR)) R)
  (h0 : qBl s ahead ≠ 0 → R = qBl s ahead) (h1 : qBl s ahead = 0 → b = false → R = 52) :
  Ev (fun k => qAm.j1 k ahead i s b m (vars.map toRV) (fns.map toRN) (rels.map toRR)) R := by
 have hn : qAA.f s = some (Names.nameE s) := if_pos hs
 have hh := has_ev ahead s (by omega)
 unfold qBl at h h0 h1
 by_cases hz : Names.nameE s = 0
 ·rw [if_neg (fun q => q hz)] at h h0 h1
  refine Ev.step (f := fun k => (qBs.f k ahead s).bind fun t => (if t = true then some 20 else (if b = true then (if ahead.length < 8796093022208 then qAm.l0 k (ahead ++ [s]) (wrap64 (i + 1)) m (vars.map toRV) (fns.map toRN) (rels.map toRR) else none) else some 52))) (fun k => ?_) (Ev.bind hh ?_)
  ·simp only [qAm.j1]
   rw [hn, Option.bind_some, if_pos hz]
  ·cases hb : hasB ahead s with
   | true =>
    rw [hb] at h0
    rw [h0 (by simp)]
    simp; exact Ev.now _
   | false =>
    rw [hb] at h h1
    cases b with
    | true =>
     have := h (by simp) rfl
     simpa [show ahead.length < 8796093022208 from by omega] using this
    | false =>
     rw [h1 (by simp) rfl]
     simp; exact Ev.now _
 ·rw [if_pos hz] at h0
  rw [h0 hz]
  refine Ev.step (f := fun _ => some (Names.nameE s)) (fun k => ?_) (Ev.now _)
  simp only [qAm.j1]
  rw [hn, Option.bind_some, if_neg hz]
theorem rf_ev (hg : qEr m vars fns rels) (hc : vars.length + fns.length ≤ 64) : ∀ (d : Nat) (j : Nat) (ahead : List ByteArray), fns.length - j = d → j ≤ fns.length → ahead.length = vars.length + j →
  Ev (fun k => qAm.l0 k ahead ((vars.length + j : Nat) : Int) m (vars.map toRV) (fns.map toRN) (rels.map toRR)) (if fnsE ahead (fns.drop j) ≠ 0 then fnsE ahead (fns.drop j) else qCG m fns rels (vars.map (·.f0)) (fns.map (·.f0))) := by
 have hsum : wrap64 (((vars.map toRV).length : Int) + ((fns.map toRN).length : Int)) = (vars.length : Int) + (fns.length : Int) := by rw [List.length_map, List.length_map]; exact qE3 hg.vl hg.fl
 intro d
 induction d with
 | zero =>
  intro j ahead hd hj hal
  rw [List.drop_eq_nil_of_le (by omega)]
  simp only [fnsE, ne_eq, not_true_eq_false, if_false]
  refine Ev.step (fun k => ?_) (rend_ev m vars fns rels hg ahead)
  simp only [qAm.l0]
  rw [hsum, if_neg (by omega)]
 | succ d ih =>
  intro j ahead hd hj hal
  have hlt : j < fns.length := by omega
  rw [List.drop_eq_getElem_cons hlt]
  have hx : qA3 (fns.map toRN) (j : Int) = toRN fns[j] := by
   have := qDx toRN fns z92 z100 (j : Int) (by omega) (by omega)
   unfold qA3
   rw [this, Int.toNat_natCast, List.getD_eq_getElem?_getD, List.getElem?_eq_getElem hlt]; rfl
  obtain ⟨g1, g2, g3, g4, g5⟩ := hg.f fns[j] (List.getElem_mem hlt)
  generalize hxx : fns[j] = x at hx g1 g2 g3 g4 g5
  have hsh := shaped_ev x.f1.f0.f0 x.f1.f0.f1 x.f1.f1 x.f1.f2 g2 g3 g4 g5
  have hwi : wrap64 (((vars.length + j : Nat) : Int) - ((vars.map toRV).length : Int)) = (j : Int) := by rw [List.length_map]; unfold wrap64; omega
  refine Ev.step (f := fun k => (qAl.f k x.f1.f0.f0 x.f1.f0.f1 x.f1.f1 (x.f1.f2.map toRI)).bind fun t => qAm.j1 k ahead ((vars.length + j : Nat) : Int) x.f0 t m (vars.map toRV) (fns.map toRN) (rels.map toRR)) (fun k => ?_) (Ev.bind hsh ?_)
  ·simp only [qAm.l0]
   rw [hsum, if_pos (by omega), if_neg (by rw [List.length_map]; omega), hwi, if_pos (by omega), if_pos (by rw [List.length_map]; omega), hx]
   rfl
  refine j1_un m vars fns rels ahead (by omega) _ x.f0 g1 _ _ (fun hz hb => ?_) (fun hz => ?_) (fun hz hb => ?_)
  ·have hb' : fnOk x = true := hb
   have hrec := ih (j + 1) (ahead ++ [x.f0]) (by omega) (by omega) (by simp [hal]; omega)
   have hw : wrap64 (((vars.length + j : Nat) : Int) + 1) = ((vars.length + (j + 1) : Nat) : Int) := by unfold wrap64; omega
   rw [hw]
   rw [fnsE_s _ _ _ hz hb']
   exact hrec
  ·rw [fnsE_a _ _ _ hz, if_pos hz]
  have hb' : fnOk x = false := hb
  rw [fnsE_b _ _ _ hz hb']; rfl
theorem rv_ev (hg : qEr m vars fns rels) (hc : vars.length + fns.length ≤ 64) : ∀ (d : Nat) (j : Nat) (ahead : List ByteArray), vars.length - j = d → j ≤ vars.length → ahead = (vars.take j).map (·.f0) →
  Ev (fun k => qAm.l0 k ahead (j : Int) m (vars.map toRV) (fns.map toRN) (rels.map toRR)) (if qCT ahead (vars.drop j) ≠ 0 then qCT ahead (vars.drop j) else if fnsE (vars.map (·.f0)) fns ≠ 0 then fnsE (vars.map (·.f0)) fns else qCG m fns rels (vars.map (·.f0)) (fns.map (·.f0))) := by
 have hsum : wrap64 (((vars.map toRV).length : Int) + ((fns.map toRN).length : Int)) = (vars.length : Int) + (fns.length : Int) := by rw [List.length_map, List.length_map]; exact qE3 hg.vl hg.fl
 intro d
 induction d with
 | zero =>
  intro j ahead hd hj ha
  obtain rfl : j = vars.length := by omega
  rw [List.drop_eq_nil_of_le (Nat.le_refl _)]
  rw [List.take_of_length_le (Nat.le_refl _)] at ha
  simp only [qCT, ne_eq, not_true_eq_false, if_false]
  have h := rf_ev m vars fns rels hg hc fns.length 0 ahead (by omega) (by omega) (by rw [ha]; simp)
  rw [ha] at h ⊢
  exact h
 | succ d ih =>
  intro j ahead hd hj ha
  have hlt : j < vars.length := by omega
  rw [List.drop_eq_getElem_cons hlt]
  have hx : qBu (vars.map toRV) (j : Int) = toRV vars[j] := by
   have := qDx toRV vars z85 z95 (j : Int) (by omega) (by omega)
   unfold qBu
   rw [this, Int.toNat_natCast, List.getD_eq_getElem?_getD, List.getElem?_eq_getElem hlt]; rfl
  obtain ⟨g1, g2, g3⟩ := hg.v vars[j] (List.getElem_mem hlt)
  have htk : (vars.take (j + 1)).map (·.f0) = ahead ++ [vars[j].f0] := by rw [List.take_succ_eq_append_getElem hlt, List.map_append, ha]; rfl
  generalize hxx : vars[j] = x at hx g1 g2 g3 htk
  have hrt : qB1.f x.f1.f0 x.f1.f1 = some (okV x.f1.f0 x.f1.f1) := if_pos ⟨g2, g3⟩
  have hal : ahead.length ≤ 64 := by rw [ha]; simp; omega
  refine Ev.step (f := fun k => qAm.j1 k ahead (j : Int) x.f0 (okV x.f1.f0 x.f1.f1) m (vars.map toRV) (fns.map toRN) (rels.map toRR)) (fun k => ?_) ?_
  ·simp only [qAm.l0]
   rw [hsum, if_pos (by omega), if_pos (by rw [List.length_map]; omega), if_pos (by omega), hx]
   simp only [toRV]
   rw [hrt, Option.bind_some]
  refine j1_un m vars fns rels ahead hal _ x.f0 g1 _ _ (fun hz hb => ?_) (fun hz => ?_) (fun hz hb => ?_)
  ·have hrec := ih (j + 1) (ahead ++ [x.f0]) (by omega) (by omega) htk.symm
   have hw : wrap64 ((j : Int) + 1) = ((j + 1 : Nat) : Int) := by unfold wrap64; omega
   rw [hw]
   rw [varsE_s _ _ _ hz hb]
   exact hrec
  ·rw [varsE_a _ _ _ hz, if_pos hz]
  rw [varsE_b _ _ _ hz hb]; rfl
theorem rright_ev (hg : qEr m vars fns rels) : Ev (fun k => qAm.f k m (vars.map toRV) (fns.map toRN) (rels.map toRR)) (qCw m vars fns rels) := by
 have hn : qAA.f m = some (Names.nameE m) := if_pos hg.m
 have hsum : wrap64 (((vars.map toRV).length : Int) + ((fns.map toRN).length : Int)) = (vars.length : Int) + (fns.length : Int) := by rw [List.length_map, List.length_map]; exact qE3 hg.vl hg.fl
 have hunf : ∀ k, qAm.f k m (vars.map toRV) (fns.map toRN) (rels.map toRR) = (if Names.nameE m = 0 then (if (vars.length : Int) + (fns.length : Int) > 64 then some 3 else qAm.l0 k [] 0 m (vars.map toRV) (fns.map toRN) (rels.map toRR)) else some (Names.nameE m)) := fun k => by
  unfold qAm.f
  rw [hn, hsum, Option.bind_some]
 refine Ev.congr hunf ?_
 unfold qCw
 by_cases h : Names.nameE m = 0
 rotate_left
 ·rw [if_pos h]
  simp only [if_neg h]
  exact Ev.now _
 rw [if_neg (fun hh => hh h)]
 simp only [if_pos h]
 by_cases hc : 64 < vars.length + fns.length
 ·rw [if_pos hc]
  have hc' : (vars.length : Int) + (fns.length : Int) > 64 := by omega
  simp only [if_pos hc']
  exact Ev.now _
 rw [if_neg hc]
 have hc' : ¬ (vars.length : Int) + (fns.length : Int) > 64 := by omega
 simp only [if_neg hc']
 exact rv_ev m vars fns rels hg (by omega) vars.length 0 [] (by omega) (by omega) (by simp)
end
end Q
end
section
namespace Q
open Go.RowKit PA PC PB
attribute [local go_sem high] eqA83
end Q
end
section
namespace Q
open Go.RowKit PA PC PB
attribute [local go_sem] qAU min2_int qBd min_two max_three min_three max_four min_four
def alive0.f (k : Nat)  : Option (Bool) := (qBh.f (⟨#[109]⟩ : ByteArray) ([(⟨(⟨#[118]⟩ : ByteArray), (⟨1, 1⟩ : S83)⟩ : S85)] : List (S85)) ([] : List (S92)) ([] : List (S104))).bind fun aG => ((qAg.f k aG.1).bind fun aB => (if aG.2 = 0 then (if aB.2.2.2.2 = 0 then (if (aG.1.length : Int) = 35 then (if 4 ≤ (aG.1.length : Int) then (if (strOfNums (aG.1.take 4)).toList = ([102, 111, 98, 106] : List UInt8) then (if aB.1.toList = ([109] : List UInt8) then (if (aB.2.1.length : Int) = 1 then (if 0 < (aB.2.1.length : Int) then (some (((qAV aB.2.1 0).f1.f1) == 1)) else (none)) else (some false)) else (some false)) else (some false)) else (none)) else (some false)) else (some false)) else (some false)))
theorem alive0.calls (k : Nat)  (r : Bool) (w : World) (h : alive0.f k  = some r) (hr : r = true) :
  Calls Tryz.prog 12 #[] w fun e w' => e = .returned (.bool r) ∧ Below w.heap.size w w' := by
 have HB := am (Below.refl w.heap.size w)
 have H : ((qBh.f (⟨#[109]⟩ : ByteArray) ([(⟨(⟨#[118]⟩ : ByteArray), (⟨1, 1⟩ : S83)⟩ : S85)] : List (S85)) ([] : List (S92)) ([] : List (S104))).bind fun aG => ((qAg.f k aG.1).bind fun aB => (if aG.2 = 0 then (if aB.2.2.2.2 = 0 then (if (aG.1.length : Int) = 35 then (if 4 ≤ (aG.1.length : Int) then (if (strOfNums (aG.1.take 4)).toList = ([102, 111, 98, 106] : List UInt8) then (if aB.1.toList = ([109] : List UInt8) then (if (aB.2.1.length : Int) = 1 then (if 0 < (aB.2.1.length : Int) then (some (((qAV aB.2.1 0).f1.f1) == 1)) else (none)) else (some false)) else (some false)) else (some false)) else (none)) else (some false)) else (some false)) else (some false)))) = some r := h
 clear h
 obtain ⟨aM, a7⟩ : ∃ y_ : List (S85), y_ = ([(⟨(⟨#[118]⟩ : ByteArray), (⟨1, 1⟩ : S83)⟩ : S85)] : List (S85)) := ⟨_, rfl⟩
 replace H : ((qBh.f (⟨#[109]⟩ : ByteArray) aM ([] : List (S92)) ([] : List (S104))).bind fun aG => ((qAg.f k aG.1).bind fun aB => (if aG.2 = 0 then (if aB.2.2.2.2 = 0 then (if (aG.1.length : Int) = 35 then (if 4 ≤ (aG.1.length : Int) then (if (strOfNums (aG.1.take 4)).toList = ([102, 111, 98, 106] : List UInt8) then (if aB.1.toList = ([109] : List UInt8) then (if (aB.2.1.length : Int) = 1 then (if 0 < (aB.2.1.length : Int) then (some (((qAV aB.2.1 0).f1.f1) == 1)) else (none)) else (some false)) else (some false)) else (some false)) else (none)) else (some false)) else (some false)) else (some false)))) = some r := by (rw [a7]; with_reducible exact H)
 have aj := am a7
 clear a7
 replace H := bm H
 obtain ⟨⟨aI, a4⟩, bP, H⟩ := H
 replace H : ((qAg.f k aI).bind fun aB => (if a4 = 0 then (if aB.2.2.2.2 = 0 then (if (aI.length : Int) = 35 then (if 4 ≤ (aI.length : Int) then (if (strOfNums (aI.take 4)).toList = ([102, 111, 98, 106] : List UInt8) then (if aB.1.toList = ([109] : List UInt8) then (if (aB.2.1.length : Int) = 1 then (if 0 < (aB.2.1.length : Int) then (some (((qAV aB.2.1 0).f1.f1) == 1)) else (none)) else (some false)) else (some false)) else (some false)) else (none)) else (some false)) else (some false)) else (some false))) = some r := H
 have A1 := am bP
 clear bP
 replace H := bm H
 obtain ⟨⟨aK, aF, aQ, aS, a9⟩, bQ, H⟩ := H
 replace H : (if a4 = 0 then (if a9 = 0 then (if (aI.length : Int) = 35 then (if 4 ≤ (aI.length : Int) then (if (strOfNums (aI.take 4)).toList = ([102, 111, 98, 106] : List UInt8) then (if aK.toList = ([109] : List UInt8) then (if (aF.length : Int) = 1 then (if 0 < (aF.length : Int) then (some (((qAV aF 0).f1.f1) == 1)) else (none)) else (some false)) else (some false)) else (some false)) else (none)) else (some false)) else (some false)) else (some false)) = some r := H
 have A2 := am bQ
 clear bQ
 by_cases c3 : a4 = 0
 ·rw [if_pos c3] at H
  have bV : (a4 == 0) = true := beq_iff_eq.mpr c3
  have bW : (a4 != 0) = false := bn c3
  clear c3
  by_cases c4 : a9 = 0
  ·rw [if_pos c4] at H
   have bX : (a9 == 0) = true := beq_iff_eq.mpr c4
   have bY : (a9 != 0) = false := bn c4
   clear c4
   by_cases c5 : (aI.length : Int) = 35
   ·rw [if_pos c5] at H
    have bZ : ((aI.length : Int) == 35) = true := beq_iff_eq.mpr c5
    have b0 : ((aI.length : Int) != 35) = false := bn c5
    clear c5
    by_cases c6 : 4 ≤ (aI.length : Int)
    ·rw [if_pos c6] at H
     replace c6 := d1 c6
     obtain ⟨aa, a8⟩ : ∃ y_ : List Int, y_ = (aI.take 4) := ⟨_, rfl⟩
     replace H : (if (strOfNums aa).toList = ([102, 111, 98, 106] : List UInt8) then (if aK.toList = ([109] : List UInt8) then (if (aF.length : Int) = 1 then (if 0 < (aF.length : Int) then (some (((qAV aF 0).f1.f1) == 1)) else (none)) else (some false)) else (some false)) else (some false)) = some r := by (rw [a8]; with_reducible exact H)
     have ad := am a8
     clear a8
     by_cases c7 : (strOfNums aa).toList = ([102, 111, 98, 106] : List UInt8)
     ·rw [if_pos c7] at H
      have b2 : ((strOfNums aa).toList == ([102, 111, 98, 106] : List UInt8)) = true := beq_iff_eq.mpr c7
      have b3 : ((strOfNums aa).toList != ([102, 111, 98, 106] : List UInt8)) = false := bn c7
      clear c7
      by_cases c8 : aK.toList = ([109] : List UInt8)
      ·rw [if_pos c8] at H
       have b4 : (aK.toList == ([109] : List UInt8)) = true := beq_iff_eq.mpr c8
       have b5 : (aK.toList != ([109] : List UInt8)) = false := bn c8
       clear c8
       by_cases c9 : (aF.length : Int) = 1
       ·rw [if_pos c9] at H
        have b6 : ((aF.length : Int) == 1) = true := beq_iff_eq.mpr c9
        have b7 : ((aF.length : Int) != 1) = false := bn c9
        clear c9
        by_cases c10 : 0 < (aF.length : Int)
        ·rw [if_pos c10] at H
         replace c10 := d1 c10
         obtain rfl := Option.some.inj H
         go_enter Tryz.func12, Tryz.ntmps12
         go_wp2_with (first | ((with_reducible refine qAI (N := 8) rfl ?_); (try (refine qBI (by rfl) ?_; dsimp only)); refine Kd.R_lit k85 _ 85 ?hg (N := 8) ?hd (xs := ([(⟨(⟨#[118]⟩ : ByteArray), (⟨1, 1⟩ : S83)⟩ : S85)] : List (S85))) (inner := [.string (⟨#[118]⟩ : ByteArray), .int .i64 1, .int .u64 1]) (ok := fun _ => True) (okp := fun _ => True) ?hr ?hp (fun _ hk => hk) trivial (Below.refl _ _) (Nat.le_refl _) (by simp) ?_; (case hd => rfl); (case hg => rfl); (case hr => (go_simp; done)); (case hp => exact (Reps.c3 (show Kd.M k85 _ _ _ (⟨(⟨#[118]⟩ : ByteArray), (⟨1, 1⟩ : S83)⟩ : S85) [.string (⟨#[118]⟩ : ByteArray), .int .i64 1, .int .u64 1] from (k85_mkM _ _ _ (⟨(⟨#[118]⟩ : ByteArray), (⟨1, 1⟩ : S83)⟩ : S85) )) (Reps.none _ _))); intro b9 bg ho12 hb hg_ hnew_; clear hg_ hnew_; (rw [← aj.o] at ho12); have n_ := a2 (Kd.R_lower ho12 (qAs HB.o)) (am (qAp HB.o hb)); clear HB; obtain ⟨aD, HB⟩ := n_; clear hb ho12; obtain ⟨aV, aR, bJ⟩ := Kd.R_slice aD.o; subst bJ) | ((with_reducible refine qAI (N := 1) rfl ?_); (try (refine qBI (by rfl) ?_; dsimp only)); refine bx 1 #[.string ⟨#[]⟩, .slice none 0 0, .slice none 0 0, .slice none 0 0] 33 ?_; intro aH hg bH hbox hb; have n_ := a2 (Kd.R_below aD.o hb) (a2 (qAp HB.o hb) (a2 (hbox) (am (by rw [hg]; exact (qAs HB.o) : w.heap.size ≤ aH)))); clear aD HB; obtain ⟨aD, HB, aC, ac⟩ := n_; clear hb hbox hg; have an : bH.cell? ⟨aH, 0, none⟩ = some (.string ⟨#[]⟩) := (qAa aC.o 0).trans rfl; have ao : bH.cell? ⟨aH, 1, none⟩ = some (.slice none 0 0) := (qAa aC.o 1).trans rfl; have ap : bH.cell? ⟨aH, 2, none⟩ = some (.slice none 0 0) := (qAa aC.o 2).trans rfl; have aq : bH.cell? ⟨aH, 3, none⟩ = some (.slice none 0 0) := (qAa aC.o 3).trans rfl; have az := qAc aC.o 0; have bA := qAc aC.o 1; have bB := qAc aC.o 2; have bC := qAc aC.o 3) | ((with_reducible refine qAv (f := 13) rfl ?_); refine gL 12 Tryz.func13 #[.agg #[.string (⟨#[109]⟩ : ByteArray), .slice aV aM.length aR, .slice none 0 0, .slice none 0 0]] ?_; (refine (qBh.calls (⟨#[109]⟩ : ByteArray) _ _ aM _ _ ([] : List (S92)) _ _ ([] : List (S104)) aI a4 _ ?side1 ?side2 ?side3 ?side4 ?side5 ?side6 A1.o).mono ?_); (case side1 => refine (Kd.R_reads' (e := 85) (base := w.heap.size) (ok := fun k_ => True) (n := aM.length) (c := aR) ?_).2.2; exact (by exact (Kd.R_mono (Kd.R_far (p := ⟨aH, 3, none⟩) (Kd.R_far (p := ⟨aH, 2, none⟩) (Kd.R_far (p := ⟨aH, 1, none⟩) (Kd.R_far (p := ⟨aH, 0, none⟩) (Kd.R_types aD.o aC.o (by decide)) (fun _ hk => hk.2) (.string (⟨#[109]⟩ : ByteArray))) (fun _ hk => hk.2) (.slice aV aM.length aR)) (fun _ hk => hk.2) (.slice none 0 0)) (fun _ hk => hk.2) (.slice none 0 0)) (fun _ h_ => h_.1)))); (case side2 => exact (Kd.R_reads' aD.o).2.1); (case side3 => exact Kd.C_nil _ _); (case side4 => exact Nat.le_refl _); (case side5 => exact Kd.C_nil _ _); (case side6 => exact Nat.le_refl _); rintro e bh ⟨ba, rfl, ag, hb⟩; refine ⟨_, rfl, ?_⟩; have n_ := a2 (Kd.R_below (by exact (Kd.R_mono (Kd.R_far (p := ⟨aH, 3, none⟩) (Kd.R_far (p := ⟨aH, 2, none⟩) (Kd.R_far (p := ⟨aH, 1, none⟩) (Kd.R_far (p := ⟨aH, 0, none⟩) (Kd.R_types aD.o aC.o (by decide)) (fun _ hk => hk.2) (.string (⟨#[109]⟩ : ByteArray))) (fun _ hk => hk.2) (.slice aV aM.length aR)) (fun _ hk => hk.2) (.slice none 0 0)) (fun _ hk => hk.2) (.slice none 0 0)) (fun _ h_ => h_.1))) hb) (a2 (Kd.R_lower ag (qAs (by repeat (with_reducible first | exact HB.o | refine qAb ?_ ac.o)))) (a2 (qAt (g := aH) (o := .cells #[.string (⟨#[109]⟩ : ByteArray), .slice aV aM.length aR, .slice none 0 0, .slice none 0 0] 33 (0, 0)) (by refine qA6 (cs := #[.string (⟨#[109]⟩ : ByteArray), .slice aV aM.length aR, .slice none 0 0, .slice none 0 0]) ?_ 3 _ rfl; refine qA6 (cs := #[.string (⟨#[109]⟩ : ByteArray), .slice aV aM.length aR, .slice none 0 0, .slice none 0 0]) ?_ 2 _ rfl; refine qA6 (cs := #[.string (⟨#[109]⟩ : ByteArray), .slice none 0 0, .slice none 0 0, .slice none 0 0]) ?_ 1 _ rfl; refine qA6 (cs := #[.string ⟨#[]⟩, .slice none 0 0, .slice none 0 0, .slice none 0 0]) ?_ 0 _ rfl; exact aC.o) hb) (am (qAp (by repeat (with_reducible first | exact HB.o | refine qAb ?_ ac.o)) hb)))); clear aD aC HB; obtain ⟨aD, aJ, aC, HB⟩ := n_; obtain ⟨a5, a6, bK⟩ := Kd.R_slice aJ.o; subst bK) | ((with_reducible refine qAv (f := 16) rfl ?_); refine gL 17 Tryz.func16 #[.slice a5 aI.length a6] ?_; (with_reducible refine (qAg.calls k _ _ aI aK aF aQ aS a9 _ ?side1 ?side2 A2.o).mono ?_); (case side1 => exact (Kd.R_reads' aJ.o).2.2); (case side2 => exact (Kd.R_reads' aJ.o).2.1); rintro e bi ⟨bb, bc, bd, rfl, ag, bT, bU, hb⟩; refine ⟨_, rfl, ?_⟩; have n_ := a2 (Kd.R_elder' aD.o (Kd.R_base ag) hb) (a2 (Kd.R_below aJ.o hb) (a2 (Kd.R_lower (Kd.R_new' ag (Kd.R_lt aD.o)) (qAs HB.o)) (a2 (Kd.S_lower bT (qAs HB.o)) (a2 (Kd.R_lower bU (qAs HB.o)) (a2 (qAt aC.o hb) (am (qAp HB.o hb))))))); clear aD aJ aC HB; obtain ⟨aD, aJ, aN, aT, aU, aC, HB⟩ := n_) | ((with_reducible refine qAI (N := 4) rfl ?_); (try (refine qBI (by rfl) ?_; dsimp only)); refine bx 4 #[.string ⟨#[]⟩, .slice none 0 0, .slice none 0 0, .slice none 0 0] 33 ?_; intro aA hg al hbox hb; have n_ := a2 (Kd.R_below aD.o hb) (a2 (Kd.R_below aJ.o hb) (a2 (Kd.R_below aN.o hb) (a2 (Kd.S_below aT.o hb) (a2 (Kd.R_below aU.o hb) (a2 (qAt aC.o hb) (a2 (qAp HB.o hb) (a2 (hbox) (a2 (by rw [hg]; exact (qAs HB.o) : w.heap.size ≤ aA) (am (by rw [hg]; exact Nat.ne_of_lt (qAM aC.o) : aH ≠ aA)))))))))); clear aD aJ aN aT aU aC HB; obtain ⟨aD, aJ, aN, aT, aU, aC, HB, aE, ah, aL⟩ := n_; clear hb hbox hg; have ar : al.cell? ⟨aA, 0, none⟩ = some (.string ⟨#[]⟩) := (qAa aE.o 0).trans rfl; have au : al.cell? ⟨aA, 1, none⟩ = some (.slice none 0 0) := (qAa aE.o 1).trans rfl; have av : al.cell? ⟨aA, 2, none⟩ = some (.slice none 0 0) := (qAa aE.o 2).trans rfl; have aw : al.cell? ⟨aA, 3, none⟩ = some (.slice none 0 0) := (qAa aE.o 3).trans rfl; have bD := qAc aE.o 0; have bE := qAc aE.o 1; have bF := qAc aE.o 2; have bG := qAc aE.o 3; obtain ⟨aO, aP, bL⟩ := Kd.R_slice aN.o; subst bL; obtain ⟨aW, aX, bM⟩ := Kd.S_slice aT.o; subst bM; obtain ⟨a1, a3, bN⟩ := Kd.R_slice aU.o; subst bN) | ((with_reducible refine gate_store (t := 33) (p := 4) rfl ?_); refine store_event (t := 33) (p := 4) (v := ?vo_w25) (w1 := ((((al.setCell ⟨aA, 0, none⟩ (.string aK)).setCell ⟨aA, 1, none⟩ (.slice aO aF.length aP)).setCell ⟨aA, 2, none⟩ (.slice aW aQ.length aX)).setCell ⟨aA, 3, none⟩ (.slice a1 aS.length a3))) ?hg ?ho ?hn ?hr ?_; (case ho => rfl); (case hg => rfl); (case hn => rfl); (case hr => (go_simp; done)); intro ab hw; have n0_ : qAj (Kd.R k85 85 ab w.heap.size (fun k_ => some k_ ≠ (.slice aO aF.length aP : Value).ownBlock) (.slice aV aM.length aR) aM) := ⟨(by rw [hw]; exact (by exact Kd.R_mono (Kd.R_far (p := ⟨aA, 3, none⟩) (Kd.R_far (p := ⟨aA, 2, none⟩) (Kd.R_far (p := ⟨aA, 1, none⟩) (Kd.R_far (p := ⟨aA, 0, none⟩) (Kd.R_types aD.o aE.o (by decide)) (fun _ hk => hk.2) (.string aK)) (fun _ hk => hk.2) (.slice aO aF.length aP)) (fun _ hk => hk.2) (.slice aW aQ.length aX)) (fun _ hk => hk.2) (.slice a1 aS.length a3)) (fun _ hk => hk.1.2)))⟩; have n1_ : qAj (Kd.R (Kd.int .u8) 5 ab w.heap.size (fun _ => True) (.slice a5 aI.length a6) aI) := ⟨(by rw [hw]; exact (by exact Kd.R_mono (Kd.R_far (p := ⟨aA, 3, none⟩) (Kd.R_far (p := ⟨aA, 2, none⟩) (Kd.R_far (p := ⟨aA, 1, none⟩) (Kd.R_far (p := ⟨aA, 0, none⟩) (Kd.R_types aJ.o aE.o (by decide)) (fun _ hk => hk.2) (.string aK)) (fun _ hk => hk.2) (.slice aO aF.length aP)) (fun _ hk => hk.2) (.slice aW aQ.length aX)) (fun _ hk => hk.2) (.slice a1 aS.length a3)) (fun _ hk => trivial)))⟩; have n2_ : qAj (Kd.R k85 85 ab w.heap.size (fun k_ => some k_ ≠ (.slice aV aM.length aR : Value).ownBlock) (.slice aO aF.length aP) aF) := ⟨(by rw [hw]; exact (by exact Kd.R_mono (Kd.R_far (p := ⟨aA, 3, none⟩) (Kd.R_far (p := ⟨aA, 2, none⟩) (Kd.R_far (p := ⟨aA, 1, none⟩) (Kd.R_far (p := ⟨aA, 0, none⟩) (Kd.R_types aN.o aE.o (by decide)) (fun _ hk => hk.2) (.string aK)) (fun _ hk => hk.2) (.slice aO aF.length aP)) (fun _ hk => hk.2) (.slice aW aQ.length aX)) (fun _ hk => hk.2) (.slice a1 aS.length a3)) (fun _ hk => hk.1.2)))⟩; have n3_ : qAj (Kd.S k92 92 ab w.heap.size (fun _ => True) (.slice aW aQ.length aX) aQ) := ⟨(by rw [hw]; exact (by exact Kd.S_mono (Kd.S_far (p := ⟨aA, 3, none⟩) (Kd.S_far (p := ⟨aA, 2, none⟩) (Kd.S_far (p := ⟨aA, 1, none⟩) (Kd.S_far (p := ⟨aA, 0, none⟩) (Kd.S_types aT.o aE.o (by decide)) (fun _ hk => hk.2) (.string aK)) (fun _ hk => hk.2) (.slice aO aF.length aP)) (fun _ hk => hk.2) (.slice aW aQ.length aX)) (fun _ hk => hk.2) (.slice a1 aS.length a3)) (fun _ hk => trivial)))⟩; have n4_ : qAj (Kd.R k104 104 ab w.heap.size (fun _ => True) (.slice a1 aS.length a3) aS) := ⟨(by rw [hw]; exact (by exact Kd.R_mono (Kd.R_far (p := ⟨aA, 3, none⟩) (Kd.R_far (p := ⟨aA, 2, none⟩) (Kd.R_far (p := ⟨aA, 1, none⟩) (Kd.R_far (p := ⟨aA, 0, none⟩) (Kd.R_types aU.o aE.o (by decide)) (fun _ hk => hk.2) (.string aK)) (fun _ hk => hk.2) (.slice aO aF.length aP)) (fun _ hk => hk.2) (.slice aW aQ.length aX)) (fun _ hk => hk.2) (.slice a1 aS.length a3)) (fun _ hk => trivial)))⟩; have n5_ : qAj (ab.heap[aH]? = some (.cells #[.string (⟨#[109]⟩ : ByteArray), .slice aV aM.length aR, .slice none 0 0, .slice none 0 0] 33 (0, 0))) := ⟨(by rw [hw]; exact (by refine qA1 ?_ aL.o _; refine qA1 ?_ aL.o _; refine qA1 ?_ aL.o _; refine qA1 ?_ aL.o _; exact aC.o))⟩; have n6_ : qAj (ab.heap[aA]? = some (.cells #[.string aK, .slice aO aF.length aP, .slice aW aQ.length aX, .slice a1 aS.length a3] 33 (0, 0))) := ⟨(by rw [hw]; exact (by refine qA6 (cs := #[.string aK, .slice aO aF.length aP, .slice aW aQ.length aX, .slice none 0 0]) ?_ 3 _ rfl; refine qA6 (cs := #[.string aK, .slice aO aF.length aP, .slice none 0 0, .slice none 0 0]) ?_ 2 _ rfl; refine qA6 (cs := #[.string aK, .slice none 0 0, .slice none 0 0, .slice none 0 0]) ?_ 1 _ rfl; refine qA6 (cs := #[.string ⟨#[]⟩, .slice none 0 0, .slice none 0 0, .slice none 0 0]) ?_ 0 _ rfl; exact aE.o))⟩; have n7_ : qAj (Below w.heap.size w ab) := ⟨(by rw [hw]; exact (by repeat (with_reducible first | exact HB.o | refine qAb ?_ ah.o)))⟩; clear hw; clear aD; clear aJ; clear aN; clear aT; clear aU; clear aC; clear aE; clear HB; have aD := n0_; have aJ := n1_; have aN := n2_; have aE := n6_; have HB := n7_; clear n0_ n1_ n2_ n3_ n4_ n5_ n6_ n7_; have b8 : (4 : Int) ≤ ((aI.length : Int) : Int) := od (by assumption); obtain ⟨i026, ae, _, hsz26, _⟩ := info_parts info5; have hroom26 : aI.length ≤ a6 := (Kd.R_reads' aJ.o).2.1; have hC26 : Kd.C (Kd.int .u8) _ a5 aI.length aI := (Kd.R_reads' aJ.o).2.2; have hcut26 := cut_to (P := Tryz.prog) 38 5 .i64 Tryz.underlying38 ae a5 aI.length a6 4 (by omega) b8 hroom26; have hr26 := Kd.C_take (m := 4) hC26 (by omega); have ak : aa.length = (4 : Int).toNat := (by rw [ad.o, List.length_take]; omega); rw [← ad.o] at hr26; rw [← ak] at hcut26; have ai := am hr26; clear hr26 hC26 hroom26 ae hsz26; clear ak; have hcv27 := Kd.C_string (P := Tryz.prog) (A := a5) (c := a6) Tryz.underlying38 Tryz.underlying5 Tryz.underlying9 (by repeat (with_reducible exact ai.o)); have ax : ab.cell? ⟨aA, 0, none⟩ = some (.string aK) := (qAa aE.o 0).trans rfl; have ay : ab.cell? ⟨aA, 1, none⟩ = some (.slice aO aF.length aP) := (qAa aE.o 1).trans rfl; have bO : 0 ≤ (0 : Int) := (by omega); have af : 0 < (aF.length : Int) := od (by assumption); obtain ⟨bR, bI, aY, aZ, a0⟩ := at_T85 (Kd.R_reads' aN.o).2.2 0 bO af; cases bI; have qi309 : (0 < aF.length) = True := eq_true (by omega); (try rw [show (0 : Int).toNat = 0 from rfl] at aY); (try rw [show 0 * 3 = 0 from rfl] at aY); (try rw [Addr.add_zero'] at aY); (try rw [show (0 : Int).toNat = 0 from rfl] at aZ); (try rw [show 0 * 3 = 0 from rfl] at aZ); (try rw [Addr.add_zero'] at aZ); (try rw [show (0 : Int).toNat = 0 from rfl] at a0); (try rw [show 0 * 3 = 0 from rfl] at a0); (try rw [Addr.add_zero'] at a0); replace af := eq_true af))
         go_ret
         exact ⟨by rfl, by exact HB.o⟩
        ·rw [if_neg c10] at H
         exact absurd H (by simp)
       ·rw [if_neg c9] at H
        subst hr
        exact absurd H (by simp)
      ·rw [if_neg c8] at H
       subst hr
       exact absurd H (by simp)
     ·rw [if_neg c7] at H
      subst hr
      exact absurd H (by simp)
    ·rw [if_neg c6] at H
     exact absurd H (by simp)
   ·rw [if_neg c5] at H
    subst hr
    exact absurd H (by simp)
  ·rw [if_neg c4] at H
   subst hr
   exact absurd H (by simp)
 ·rw [if_neg c3] at H
  subst hr
  exact absurd H (by simp)
def qBe.f (k : Nat) : Option Bool := if alive0.f k = some true then some true else none
theorem qBe.calls (k : Nat) (r : Bool) (w : World) (h : qBe.f k = some r) :
  Calls Tryz.prog 12 #[] w fun e w' => e = .returned (.bool r) ∧ Below w.heap.size w w' := by
 unfold qBe.f at h
 split at h
 ·rename_i h0
  obtain rfl := Option.some.inj h
  exact alive0.calls k _ w h0 rfl
 ·cases h
end Q
end
section
namespace Q
open Go.RowKit PA PC PB
open Val Ins DecLaw Wr Enc
theorem equal_self (l : List Int) (hl : l.length ≤ 4611686018427387904) : Ev (fun k => qA4.f k l l) true := by
 have hloop : ∀ (d : Nat) (i : Int), 0 ≤ i → (l.length : Int) - i = d → Ev (fun k => qA4.l0 k l l (l.length : Int) i) true := by
  intro d
  induction d with
  | zero =>
   intro i h0 hd
   refine Ev.step (f := fun _ => some true) (fun k => ?_) (Ev.now _)
   simp only [qA4.l0]
   rw [if_neg (by omega)]
  | succ d ih =>
   intro i h0 hd
   refine Ev.step (fun k => ?_) (ih (i + 1) (by omega) (by omega))
   simp only [qA4.l0]
   rw [if_pos (by omega), if_pos h0, if_pos (by omega), if_pos (by omega), if_pos trivial, qBr (n := l.length) h0 (by omega) hl]
 refine Ev.congr (fun k => ?_) (hloop l.length 0 (by omega) (by omega))
 unfold qA4.f
 rw [if_pos rfl]
theorem tailP_ev (m : ByteArray) (vs : List S85) (fs : List S92) (rs : List S104) (hg : qEr m vs fs rs) (hl : ¬ 16384 < (qDl m vs fs rs).length) : Ev (tailP (qDl m vs fs rs) (m, vs, fs, rs)) (if qCw m vs fs rs = 0 then (m, vs, fs, rs, 0) else errP) := by
 have hp : qBh.f m vs fs rs = (if qCw m vs fs rs ≠ 0 then some ([], qCw m vs fs rs) else if 16384 < (qDl m vs fs rs).length then some ([], 3) else some (qDl m vs fs rs, 0)) := if_pos hg
 by_cases h : qCw m vs fs rs = 0
 rotate_left
 ·rw [if_pos h] at hp
  rw [if_neg h]
  refine Ev.congr (f := fun _ => some errP) (fun k => ?_) (Ev.now _)
  unfold tailP
  rw [hp, Option.bind_some, if_neg h]
 rw [if_neg (fun q => q h), if_neg hl] at hp
 rw [if_pos h]
 refine Ev.congr (f := fun k => (qA4.f k (qDl m vs fs rs) (qDl m vs fs rs)).bind fun t => (if t = true then some (m, vs, fs, rs, 0) else some errP)) (fun k => ?_) (Ev.bind (equal_self _ (by omega)) ?_)
 ·unfold tailP
  rw [hp, Option.bind_some, if_pos rfl]
 simp only [if_true]; exact Ev.now _
def aliveB : List Int := [102, 111, 98, 106, 0, 0, 0, 1, 109, 0, 0, 0, 1, 0, 0, 0, 1, 118, 1, 0, 0, 0, 0, 0, 0, 0, 1, 0, 0, 0, 0, 0, 0, 0, 0]
def qEj : ByteArray := ⟨#[109]⟩
def qEk : List S85 := [⟨⟨#[118]⟩, ⟨1, 1⟩⟩]
theorem alive_good : qEr qEj qEk [] [] := by decide
theorem qD1 : qDl qEj qEk [] [] = aliveB := by
 unfold qDl qEj qEk qCg varB qCg
 simp only []
 rfl
theorem qE7 : qCw qEj qEk [] [] = 0 := by kernel_rfl
theorem qE8 : wholeC aliveB = some (qEj, qEk, [], []) := by kernel_rfl
theorem alive0_ev : Ev (fun k => alive0.f k) true := by
 have hp : qBh.f qEj qEk [] [] = some (aliveB, 0) := by
  unfold qBh.f
  rw [if_pos alive_good, if_neg (fun q => q qE7), qD1, if_neg (by decide)]
 have ht := tailP_ev qEj qEk [] [] alive_good (by rw [qD1]; decide)
 rw [if_pos qE7, qD1] at ht
 have hu := unpack_ev aliveB (by unfold qB6 aliveB; decide) _ (by decide) ⟨fun o ho => by rw [qE8] at ho; obtain rfl := Option.some.inj ho; exact ht, fun hn => by rw [qE8] at hn; cases hn⟩
 unfold alive0.f
 rw [show qBh.f (⟨#[109]⟩ : ByteArray) ([(⟨(⟨#[118]⟩ : ByteArray), (⟨1, 1⟩ : S83)⟩ : S85)]) [] [] = some (aliveB, 0) from hp]
 simp only [Option.bind_some]
 refine Ev.bind hu ?_
 refine Ev.congr (fun k => ?_) (Ev.now _)
 unfold qEj qEk
 simp only [Lib.toList_data, strOfNums]
 rfl
theorem alive_ev : Ev (fun k => qBe.f k) true := by
 obtain ⟨K, hK⟩ := alive0_ev
 exact ⟨K, fun k hk => if_pos (hK k hk)⟩
end Q
end
section
namespace Q
open Go.ChangeShapes Go.WideShapes Go.RowKit Go.Deep PA PC PB
theorem one_bulk {H : Type} (d : DataW H) : 1 ≤ Rows.uptoBulk d := by
 cases d with
 | lit l => cases l <;> simp [Rows.uptoBulk]
 | nil => simp [Rows.uptoBulk]
 | ptr d => simp [Rows.uptoBulk]
 | slice elems spare => simp [Rows.uptoBulk]
 | agg parts => simp [Rows.uptoBulk]
 | iface t d => simp [Rows.uptoBulk]
 | map entries => simp [Rows.uptoBulk]
 | held h => simp [Rows.uptoBulk]
theorem part_bulk {H : Type} {d : DataW H} {l : List (DataW H)} (h : d ∈ l) : Rows.uptoBulk d ≤ Rows.uptoBulkAll l := by
 induction l with
 | nil => cases h
 | cons x r ih =>
  simp only [Rows.uptoBulkAll]
  cases List.mem_cons.1 h with
  | inl e => subst e; omega
  | inr e => have := ih e; omega
theorem length_bulk {H : Type} (l : List (DataW H)) : l.length ≤ Rows.uptoBulkAll l := by
 induction l with
 | nil => simp
 | cons x r ih => have := one_bulk x; simp only [Rows.uptoBulkAll, List.length_cons]; omega
def qBD {α : Type} (P : Program) (w : World) (N : Nat) (t : TypeId) (d : Kd α) (G : α → Prop) : Prop :=
 ∀ (H : Type) (enc : TypeId × Value → H) (base : Nat) (spare : Nat → Bool) (held : Bool) (fuel : Nat) (cs : List Value) (x : DataW H × List MemPlace),
  DataW.trod enc P w base spare held fuel t cs = some x → Rows.uptoBulk x.1 ≤ N → ∃ a, d.K w a cs ∧ G a
theorem qBK {P : Program} {w : World} {N : Nat} {t : TypeId} {k : IntKind} (ht : P.underlying t = some (.int k)) : qBD P w N t (Kd.int k) (fun n => (Lit.int k n).wf = true) := by
 intro H enc base spare held fuel cs x h hb
 obtain ⟨n, rfl, _, hw⟩ := DataW.trod_int ht h
 exact ⟨n, rfl, hw⟩
theorem qCh {P : Program} {w : World} {N : Nat} {t : TypeId} (ht : P.underlying t = some .string) : qBD P w N t Kd.string (fun s => s.size ≤ N) := by
 intro H enc base spare held fuel cs x h hb
 obtain ⟨s, rfl, rfl, hs⟩ := DataW.trod_string ht h
 refine ⟨s, rfl, ?_⟩
 have e : s.data.toList.length = s.size := by rw [Array.length_toList]; rfl
 simp only [Rows.uptoBulk, e] at hb
 omega
theorem list_of {α : Type} {p : Nat → α → Prop} : ∀ (n : Nat), (∀ i, i < n → ∃ a, p i a) → ∃ l : List α, l.length = n ∧ ∀ i a, l[i]? = some a → p i a
 | 0, _ => ⟨[], rfl, fun i a h => by simp at h⟩
 | n + 1, h => by
  obtain ⟨l, hl, hp⟩ := list_of n fun i hi => h i (by omega)
  obtain ⟨a, ha⟩ := h n (by omega)
  refine ⟨l ++ [a], by simp [hl], fun i b hb => ?_⟩
  by_cases hi : i < l.length
  ·rw [List.getElem?_append_left hi] at hb; exact hp i b hb
  rw [List.getElem?_append_right (by omega)] at hb
  have : i - l.length = 0 := by
   cases hk : i - l.length with
   | zero => rfl
   | succ k => rw [hk] at hb; simp at hb
  rw [this] at hb
  obtain rfl : a = b := by simpa using hb
  have : i = n := by omega
  subst this; exact ha
theorem qCb {α : Type} {P : Program} {w : World} {N : Nat} {t e : TypeId} {d : Kd α} {G : α → Prop} (ht : P.underlying t = some (.slice e)) (hsz : d.sz = P.cellsOf e) (he : qBD P w N e d G) : qBD P w N t (Kd.slice e d) (fun l => l.length ≤ N ∧ ∀ x ∈ l, G x) := by
 intro H enc base spare held fuel cs x h hb
 rcases open_slice ht h with ⟨rfl, rfl⟩ | ⟨a, len, cap, m, n, D, Pl, rfl, _, hl, hm, hmm, rfl, hx⟩
 ·exact ⟨[], ⟨none, 0, rfl, Nat.le_refl _, Kd.C_nil d w⟩, by simp, fun _ h => by cases h⟩
 have hlm : len ≤ m := by rw [hmm]; split <;> omega
 simp only [Rows.uptoBulk] at hb
 have hlen := length_bulk ((List.range len).map D)
 rw [List.length_map, List.length_range] at hlen
 obtain ⟨l, hll, hp⟩ := list_of (p := fun i a' => (∃ c, c.length = d.sz ∧ d.K w a' c ∧ ∀ j u, c[j]? = some u → w.cell? (a.add (i * d.sz + j)) = some u) ∧ G a') len (fun i hi => by
   obtain ⟨cs', h1, h2⟩ := hx i (by omega)
   have hbi : Rows.uptoBulk (D i) ≤ N := by
     have := part_bulk (d := D i) (l := (List.range len).map D) (List.mem_map.2 ⟨i, List.mem_range.2 hi, rfl⟩)
     omega
   obtain ⟨a', hk, hg⟩ := he _ _ _ _ _ _ _ _ h2 hbi
   obtain ⟨_, hcl, hcell⟩ := World.cells?_some h1
   refine ⟨a', ⟨cs', d.K_len hk, hk, fun j u hu => ?_⟩, hg⟩
   have hj : j < cs'.length := (List.getElem?_eq_some_iff.1 hu).1
   have := hcell j (by omega)
   rw [Go.Deep.add_add] at this
   rw [hsz, this, hu])
 have hmax : maxLen ≤ 9223372036854775807 := by decide
 refine ⟨l, ⟨some a, cap, by rw [hll], by omega, ⟨rfl, by omega, fun _ => ⟨a, rfl, fun j p hj => (hp j p hj).1⟩⟩⟩, by omega, fun x hx => ?_⟩
 obtain ⟨i, hi⟩ := List.getElem?_of_mem hx
 exact (hp i x hi).2
theorem list_2 {α : Type} : ∀ {l : List α}, l.length = 2 → ∃ a0 a1, l = [a0, a1]
 | [a0, a1], _ => ⟨a0, a1, rfl⟩
theorem list_3 {α : Type} : ∀ {l : List α}, l.length = 3 → ∃ a0 a1 a2, l = [a0, a1, a2]
 | [a0, a1, a2], _ => ⟨a0, a1, a2, rfl⟩
theorem list_4 {α : Type} : ∀ {l : List α}, l.length = 4 → ∃ a0 a1 a2 a3, l = [a0, a1, a2, a3]
 | [a0, a1, a2, a3], _ => ⟨a0, a1, a2, a3, rfl⟩
theorem list_5 {α : Type} : ∀ {l : List α}, l.length = 5 → ∃ a0 a1 a2 a3 a4, l = [a0, a1, a2, a3, a4]
 | [a0, a1, a2, a3, a4], _ => ⟨a0, a1, a2, a3, a4, rfl⟩
def qD0 (N : Nat) (x : S83) : Prop := (Lit.int .i64 x.f0).wf = true ∧ (Lit.int .u64 x.f1).wf = true
theorem qDi (w : World) (N : Nat) : qBD Tryz.prog w N 83 k83 (qD0 N) := by
 intro H enc base spare held fuel cs x h hb
 obtain ⟨xs, n, _, rfl, hl, hlen, hf⟩ := DataW.trod_struct Tryz.underlying83 h
 have hl' : cs.length = 2 := hl.trans (by kernel_rfl)
 obtain ⟨c0, c1, rfl⟩ : ∃ c0 c1, cs = [c0, c1] := list_2 hl'
 obtain ⟨y0, y1, rfl⟩ : ∃ y0 y1, xs = [y0, y1] := list_2 hlen
 simp only [Rows.uptoBulk, Rows.uptoBulkAll, List.map_cons, List.map_nil] at hb
 have h0 := hf 0 _ rfl
 obtain ⟨a0, k0, g0⟩ := (qBK (by kernel_rfl) : qBD Tryz.prog w N _ (Kd.int .i64) _) _ _ _ _ _ _ _ y0 h0 (by omega)
 have h1 := hf 1 _ rfl
 obtain ⟨a1, k1, g1⟩ := (qBK (by kernel_rfl) : qBD Tryz.prog w N _ (Kd.int .u64) _) _ _ _ _ _ _ _ y1 h1 (by omega)
 exact ⟨⟨a0, a1⟩, ⟨_, _, by kernel_rfl, k0, k1⟩, ⟨g0, g1⟩⟩
def qCz (N : Nat) (x : S172) : Prop := (Lit.int .i64 x.f0).wf = true ∧ (Lit.int .i64 x.f1).wf = true ∧ qD0 N x.f2
theorem qCX (w : World) (N : Nat) : qBD Tryz.prog w N 172 k172 (qCz N) := by
 intro H enc base spare held fuel cs x h hb
 obtain ⟨xs, n, _, rfl, hl, hlen, hf⟩ := DataW.trod_struct Tryz.underlying172 h
 have hl' : cs.length = 4 := hl.trans (by kernel_rfl)
 obtain ⟨c0, c1, c2, c3, rfl⟩ : ∃ c0 c1 c2 c3, cs = [c0, c1, c2, c3] := list_4 hl'
 obtain ⟨y0, y1, y2, rfl⟩ : ∃ y0 y1 y2, xs = [y0, y1, y2] := list_3 hlen
 simp only [Rows.uptoBulk, Rows.uptoBulkAll, List.map_cons, List.map_nil] at hb
 have h0 := hf 0 _ rfl
 obtain ⟨a0, k0, g0⟩ := (qBK (by kernel_rfl) : qBD Tryz.prog w N _ (Kd.int .i64) _) _ _ _ _ _ _ _ y0 h0 (by omega)
 have h1 := hf 1 _ rfl
 obtain ⟨a1, k1, g1⟩ := (qBK (by kernel_rfl) : qBD Tryz.prog w N _ (Kd.int .i64) _) _ _ _ _ _ _ _ y1 h1 (by omega)
 have h2 := hf 2 _ rfl
 obtain ⟨a2, k2, g2⟩ := (qDi w N : qBD Tryz.prog w N _ (k83) _) _ _ _ _ _ _ _ y2 h2 (by omega)
 exact ⟨⟨a0, a1, a2⟩, ⟨_, _, by kernel_rfl, k0, ⟨_, _, rfl, k1, k2⟩⟩, ⟨g0, g1, g2⟩⟩
def qC0 (N : Nat) (x : S70) : Prop := (x.f0.length ≤ N ∧ ∀ y ∈ x.f0, (Lit.int .i64 y).wf = true) ∧ (Lit.int .i64 x.f1).wf = true
theorem qCY (w : World) (N : Nat) : qBD Tryz.prog w N 70 k70 (qC0 N) := by
 intro H enc base spare held fuel cs x h hb
 obtain ⟨xs, n, _, rfl, hl, hlen, hf⟩ := DataW.trod_struct Tryz.underlying70 h
 have hl' : cs.length = 2 := hl.trans (by kernel_rfl)
 obtain ⟨c0, c1, rfl⟩ : ∃ c0 c1, cs = [c0, c1] := list_2 hl'
 obtain ⟨y0, y1, rfl⟩ : ∃ y0 y1, xs = [y0, y1] := list_2 hlen
 simp only [Rows.uptoBulk, Rows.uptoBulkAll, List.map_cons, List.map_nil] at hb
 have h0 := hf 0 _ rfl
 obtain ⟨a0, k0, g0⟩ := (qCb (by kernel_rfl) (by kernel_rfl) (qBK (by kernel_rfl)) : qBD Tryz.prog w N _ (_) _) _ _ _ _ _ _ _ y0 h0 (by omega)
 have h1 := hf 1 _ rfl
 obtain ⟨a1, k1, g1⟩ := (qBK (by kernel_rfl) : qBD Tryz.prog w N _ (Kd.int .i64) _) _ _ _ _ _ _ _ y1 h1 (by omega)
 exact ⟨⟨a0, a1⟩, ⟨_, _, by kernel_rfl, k0, k1⟩, ⟨g0, g1⟩⟩
def qC9 (N : Nat) (x : S98) : Prop := qC0 N x.f0 ∧ (x.f1.length ≤ N ∧ ∀ y ∈ x.f1, (Lit.int .i64 y).wf = true) ∧ (x.f2.length ≤ N ∧ ∀ y ∈ x.f2, qCz N y)
theorem qDj (w : World) (N : Nat) : qBD Tryz.prog w N 98 k98 (qC9 N) := by
 intro H enc base spare held fuel cs x h hb
 obtain ⟨xs, n, _, rfl, hl, hlen, hf⟩ := DataW.trod_struct Tryz.underlying98 h
 have hl' : cs.length = 4 := hl.trans (by kernel_rfl)
 obtain ⟨c0, c1, c2, c3, rfl⟩ : ∃ c0 c1 c2 c3, cs = [c0, c1, c2, c3] := list_4 hl'
 obtain ⟨y0, y1, y2, rfl⟩ : ∃ y0 y1 y2, xs = [y0, y1, y2] := list_3 hlen
 simp only [Rows.uptoBulk, Rows.uptoBulkAll, List.map_cons, List.map_nil] at hb
 have h0 := hf 0 _ rfl
 obtain ⟨a0, k0, g0⟩ := (qCY w N : qBD Tryz.prog w N _ (k70) _) _ _ _ _ _ _ _ y0 h0 (by omega)
 have h1 := hf 1 _ rfl
 obtain ⟨a1, k1, g1⟩ := (qCb (by kernel_rfl) (by kernel_rfl) (qBK (by kernel_rfl)) : qBD Tryz.prog w N _ (_) _) _ _ _ _ _ _ _ y1 h1 (by omega)
 have h2 := hf 2 _ rfl
 obtain ⟨a2, k2, g2⟩ := (qCb (by kernel_rfl) (by kernel_rfl) (qCX w N) : qBD Tryz.prog w N _ (_) _) _ _ _ _ _ _ _ y2 h2 (by omega)
 exact ⟨⟨a0, a1, a2⟩, ⟨_, _, by kernel_rfl, k0, ⟨_, _, rfl, k1, k2⟩⟩, ⟨g0, g1, g2⟩⟩
def qC1 (N : Nat) (x : S95) : Prop := x.f0.size ≤ N ∧ qD0 N x.f1
theorem qCZ (w : World) (N : Nat) : qBD Tryz.prog w N 95 k95 (qC1 N) := by
 intro H enc base spare held fuel cs x h hb
 obtain ⟨xs, n, _, rfl, hl, hlen, hf⟩ := DataW.trod_struct Tryz.underlying95 h
 have hl' : cs.length = 3 := hl.trans (by kernel_rfl)
 obtain ⟨c0, c1, c2, rfl⟩ : ∃ c0 c1 c2, cs = [c0, c1, c2] := list_3 hl'
 obtain ⟨y0, y1, rfl⟩ : ∃ y0 y1, xs = [y0, y1] := list_2 hlen
 simp only [Rows.uptoBulk, Rows.uptoBulkAll, List.map_cons, List.map_nil] at hb
 have h0 := hf 0 _ rfl
 obtain ⟨a0, k0, g0⟩ := (qCh (by kernel_rfl) : qBD Tryz.prog w N _ (Kd.string) _) _ _ _ _ _ _ _ y0 h0 (by omega)
 have h1 := hf 1 _ rfl
 obtain ⟨a1, k1, g1⟩ := (qDi w N : qBD Tryz.prog w N _ (k83) _) _ _ _ _ _ _ _ y1 h1 (by omega)
 exact ⟨⟨a0, a1⟩, ⟨_, _, by kernel_rfl, k0, k1⟩, ⟨g0, g1⟩⟩
def qCA (N : Nat) (x : S100) : Prop := x.f0.size ≤ N ∧ qC9 N x.f1
theorem qDk (w : World) (N : Nat) : qBD Tryz.prog w N 100 k100 (qCA N) := by
 intro H enc base spare held fuel cs x h hb
 obtain ⟨xs, n, _, rfl, hl, hlen, hf⟩ := DataW.trod_struct Tryz.underlying100 h
 have hl' : cs.length = 5 := hl.trans (by kernel_rfl)
 obtain ⟨c0, c1, c2, c3, c4, rfl⟩ : ∃ c0 c1 c2 c3 c4, cs = [c0, c1, c2, c3, c4] := list_5 hl'
 obtain ⟨y0, y1, rfl⟩ : ∃ y0 y1, xs = [y0, y1] := list_2 hlen
 simp only [Rows.uptoBulk, Rows.uptoBulkAll, List.map_cons, List.map_nil] at hb
 have h0 := hf 0 _ rfl
 obtain ⟨a0, k0, g0⟩ := (qCh (by kernel_rfl) : qBD Tryz.prog w N _ (Kd.string) _) _ _ _ _ _ _ _ y0 h0 (by omega)
 have h1 := hf 1 _ rfl
 obtain ⟨a1, k1, g1⟩ := (qDj w N : qBD Tryz.prog w N _ (k98) _) _ _ _ _ _ _ _ y1 h1 (by omega)
 exact ⟨⟨a0, a1⟩, ⟨_, _, by kernel_rfl, k0, k1⟩, ⟨g0, g1⟩⟩
def qCn (N : Nat) (x : S103) : Prop := (Lit.int .i64 x.f0).wf = true ∧ (Lit.int .i64 x.f1).wf = true ∧ (Lit.int .i64 x.f2).wf = true ∧ x.f3.size ≤ N ∧ x.f4.size ≤ N
theorem qCF (w : World) (N : Nat) : qBD Tryz.prog w N 103 k103 (qCn N) := by
 intro H enc base spare held fuel cs x h hb
 obtain ⟨xs, n, _, rfl, hl, hlen, hf⟩ := DataW.trod_struct Tryz.underlying103 h
 have hl' : cs.length = 5 := hl.trans (by kernel_rfl)
 obtain ⟨c0, c1, c2, c3, c4, rfl⟩ : ∃ c0 c1 c2 c3 c4, cs = [c0, c1, c2, c3, c4] := list_5 hl'
 obtain ⟨y0, y1, y2, y3, y4, rfl⟩ : ∃ y0 y1 y2 y3 y4, xs = [y0, y1, y2, y3, y4] := list_5 hlen
 simp only [Rows.uptoBulk, Rows.uptoBulkAll, List.map_cons, List.map_nil] at hb
 have h0 := hf 0 _ rfl
 obtain ⟨a0, k0, g0⟩ := (qBK (by kernel_rfl) : qBD Tryz.prog w N _ (Kd.int .i64) _) _ _ _ _ _ _ _ y0 h0 (by omega)
 have h1 := hf 1 _ rfl
 obtain ⟨a1, k1, g1⟩ := (qBK (by kernel_rfl) : qBD Tryz.prog w N _ (Kd.int .i64) _) _ _ _ _ _ _ _ y1 h1 (by omega)
 have h2 := hf 2 _ rfl
 obtain ⟨a2, k2, g2⟩ := (qBK (by kernel_rfl) : qBD Tryz.prog w N _ (Kd.int .i64) _) _ _ _ _ _ _ _ y2 h2 (by omega)
 have h3 := hf 3 _ rfl
 obtain ⟨a3, k3, g3⟩ := (qCh (by kernel_rfl) : qBD Tryz.prog w N _ (Kd.string) _) _ _ _ _ _ _ _ y3 h3 (by omega)
 have h4 := hf 4 _ rfl
 obtain ⟨a4, k4, g4⟩ := (qCh (by kernel_rfl) : qBD Tryz.prog w N _ (Kd.string) _) _ _ _ _ _ _ _ y4 h4 (by omega)
 exact ⟨⟨a0, a1, a2, a3, a4⟩, ⟨_, _, by kernel_rfl, k0, ⟨_, _, rfl, k1, ⟨_, _, rfl, k2, ⟨_, _, rfl, k3, k4⟩⟩⟩⟩, ⟨g0, g1, g2, g3, g4⟩⟩
def qBB (N : Nat) (x : S26) : Prop := x.f0.size ≤ N ∧ (x.f1.length ≤ N ∧ ∀ y ∈ x.f1, qC1 N y) ∧ (x.f2.length ≤ N ∧ ∀ y ∈ x.f2, qCA N y) ∧ (x.f3.length ≤ N ∧ ∀ y ∈ x.f3, qCn N y)
theorem opens_foundryref15_Object (w : World) (N : Nat) : qBD Tryz.prog w N 26 k26 (qBB N) := by
 intro H enc base spare held fuel cs x h hb
 obtain ⟨xs, n, _, rfl, hl, hlen, hf⟩ := DataW.trod_struct Tryz.underlying26 h
 have hl' : cs.length = 4 := hl.trans (by kernel_rfl)
 obtain ⟨c0, c1, c2, c3, rfl⟩ : ∃ c0 c1 c2 c3, cs = [c0, c1, c2, c3] := list_4 hl'
 obtain ⟨y0, y1, y2, y3, rfl⟩ : ∃ y0 y1 y2 y3, xs = [y0, y1, y2, y3] := list_4 hlen
 simp only [Rows.uptoBulk, Rows.uptoBulkAll, List.map_cons, List.map_nil] at hb
 have h0 := hf 0 _ rfl
 obtain ⟨a0, k0, g0⟩ := (qCh (by kernel_rfl) : qBD Tryz.prog w N _ (Kd.string) _) _ _ _ _ _ _ _ y0 h0 (by omega)
 have h1 := hf 1 _ rfl
 obtain ⟨a1, k1, g1⟩ := (qCb (by kernel_rfl) (by kernel_rfl) (qCZ w N) : qBD Tryz.prog w N _ (_) _) _ _ _ _ _ _ _ y1 h1 (by omega)
 have h2 := hf 2 _ rfl
 obtain ⟨a2, k2, g2⟩ := (qCb (by kernel_rfl) (by kernel_rfl) (qDk w N) : qBD Tryz.prog w N _ (_) _) _ _ _ _ _ _ _ y2 h2 (by omega)
 have h3 := hf 3 _ rfl
 obtain ⟨a3, k3, g3⟩ := (qCb (by kernel_rfl) (by kernel_rfl) (qCF w N) : qBD Tryz.prog w N _ (_) _) _ _ _ _ _ _ _ y3 h3 (by omega)
 exact ⟨⟨a0, a1, a2, a3⟩, ⟨_, _, by kernel_rfl, k0, ⟨_, _, rfl, k1, ⟨_, _, rfl, k2, k3⟩⟩⟩, ⟨g0, g1, g2, g3⟩⟩
end Q
end
end Go.Proofs.YtfjpnjbinbhcfaaGreat
