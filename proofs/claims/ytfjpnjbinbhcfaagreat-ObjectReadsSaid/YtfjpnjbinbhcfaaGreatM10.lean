/- What the document's object.Unpack and the program's tell of any bytes is the same: Rows.ObjectReadsSaid. Part 10 of 11. -/
import Derived.Test.YtfjpnjbinbhcfaaGreatM9
set_option maxHeartbeats 8000000
set_option maxRecDepth 100000
set_option linter.unusedVariables false
set_option linter.unusedSimpArgs false
namespace Go.Proofs.YtfjpnjbinbhcfaaGreat
section
namespace Q
open Go.RowKit PA PC PB
attribute [local go_sem] qBe min2_int qBq min_two max_three min_three max_four min_four
mutual
def qAc.j0 : Nat → List Int → Bool → Option (ByteArray × (List (S95)) × (List (S100)) × (List (S103)) × Int)
 | 0, _, _ => none
 | k + 1, x0, hc => if hc = true then (some ((⟨#[]⟩ : ByteArray), ([] : List (S95)), ([] : List (S100)), ([] : List (S103)), 52)) else (if 4 ≤ (x0.length : Int) then ((qBE.f (x0.drop 4)).bind fun bN => ((qAq.f k bN.1 bN.2.1 bN.2.2 32).bind fun bO => ((qA1.f k bN.1 bO.2.1 bO.2.2).bind fun aw => (qAc.l0 k aw.1 0 bN.1 aw.2.1 aw.2.2 bO.1 ([] : List (S95)))))) else (none))
def qAc.l0 : Nat → Int → Int → List Int → Int → Int → ByteArray → List (S95) → Option (ByteArray × (List (S95)) × (List (S100)) × (List (S103)) × Int)
 | 0, _, _, _, _, _, _, _ => none
 | k + 1, x6, x7, aW, a9, a4, a7, a6 => if x7 < x6 then (qAc.j2 k x6 x7 (a4 == 0) aW a9 a4 a7 a6) else (qAc.j2 k x6 x7 false aW a9 a4 a7 a6)
def qAc.j2 : Nat → Int → Int → Bool → List Int → Int → Int → ByteArray → List (S95) → Option (ByteArray × (List (S95)) × (List (S100)) × (List (S103)) × Int)
 | 0, _, _, _, _, _, _, _, _ => none
 | k + 1, x6, x7, hd, aW, a9, a4, a7, a6 => if hd = true then ((qAq.f k aW a9 a4 32).bind fun bg => ((qAt.f k aW bg.2.1 bg.2.2).bind fun bP => ((qAV.f k aW bP.2.1 bP.2.2).bind fun ax => (if a6.length < 4398046511104 then (qAc.l0 k x6 (wrap64 (x7 + 1)) aW ax.2.1 ax.2.2 a7 (a6 ++ [(⟨bg.1, (⟨wrap64 (bP.1), ax.1⟩ : S83)⟩ : S95)])) else (none))))) else ((qA1.f k aW a9 a4).bind fun bh => (qAc.l1 k bh.1 0 aW bh.2.1 bh.2.2 a7 a6 ([] : List (S100))))
def qAc.l1 : Nat → Int → Int → List Int → Int → Int → ByteArray → List (S95) → List (S100) → Option (ByteArray × (List (S95)) × (List (S100)) × (List (S103)) × Int)
 | 0, _, _, _, _, _, _, _, _ => none
 | k + 1, x6, x9, aW, a9, a4, a7, a6, al => if x9 < x6 then (qAc.j4 k x6 x9 (a4 == 0) aW a9 a4 a7 a6 al) else (qAc.j4 k x6 x9 false aW a9 a4 a7 a6 al)
def qAc.j4 : Nat → Int → Int → Bool → List Int → Int → Int → ByteArray → List (S95) → List (S100) → Option (ByteArray × (List (S95)) × (List (S100)) × (List (S103)) × Int)
 | 0, _, _, _, _, _, _, _, _, _ => none
 | k + 1, x6, x9, he, aW, a9, a4, a7, a6, al => if he = true then ((qAq.f k aW a9 a4 32).bind fun bi => ((qAj.f k aW bi.2.1 bi.2.2).bind fun ap => (if al.length < 1466015503701 then (qAc.l1 k x6 (wrap64 (x9 + 1)) aW ap.2.2.2.2.1 ap.2.2.2.2.2 a7 a6 (al ++ [(⟨bi.1, (⟨(⟨ap.1, ap.2.1⟩ : S70), ap.2.2.1, ap.2.2.2.1⟩ : S98)⟩ : S100)])) else (none)))) else ((qA1.f k aW a9 a4).bind fun bj => (qAc.l2 k bj.1 0 aW bj.2.1 bj.2.2 a7 a6 al ([] : List (S103))))
def qAc.l2 : Nat → Int → Int → List Int → Int → Int → ByteArray → List (S95) → List (S100) → List (S103) → Option (ByteArray × (List (S95)) × (List (S100)) × (List (S103)) × Int)
 | 0, _, _, _, _, _, _, _, _, _ => none
 | k + 1, x6, fM, aW, a9, a4, a7, a6, al, bL => if fM < x6 then (qAc.j6 k x6 fM (a4 == 0) aW a9 a4 a7 a6 al bL) else (qAc.j6 k x6 fM false aW a9 a4 a7 a6 al bL)
def qAc.j6 : Nat → Int → Int → Bool → List Int → Int → Int → ByteArray → List (S95) → List (S100) → List (S103) → Option (ByteArray × (List (S95)) × (List (S100)) × (List (S103)) × Int)
 | 0, _, _, _, _, _, _, _, _, _, _ => none
 | k + 1, x6, fM, gv, aW, a9, a4, a7, a6, al, bL => if gv = true then ((qAK.f k aW a9 a4).bind fun bk => ((qAK.f k aW bk.2.1 bk.2.2).bind fun bQ => ((qAt.f k aW bQ.2.1 bQ.2.2).bind fun ay => ((qAq.f k aW ay.2.1 ay.2.2 32).bind fun aq => ((qAq.f k aW aq.2.1 aq.2.2 32).bind fun af => (if bL.length < 2513169434916 then (qAc.l2 k x6 (wrap64 (fM + 1)) aW af.2.1 af.2.2 a7 a6 al (bL ++ [(⟨bk.1, bQ.1, wrap64 (ay.1), aq.1, af.1⟩ : S103)])) else (none))))))) else ((qAY.f aW a9 a4).bind fun cY => (if cY.1 = 0 then ((qAi.f k a7 a6 al bL).bind fun b7 => (if b7 = 0 then (some (a7, a6, al, bL, 0)) else (some ((⟨#[]⟩ : ByteArray), ([] : List (S95)), ([] : List (S100)), ([] : List (S103)), 52)))) else (some ((⟨#[]⟩ : ByteArray), ([] : List (S95)), ([] : List (S100)), ([] : List (S103)), 52))))
end
def qAc.f (k : Nat) (l0 : List Int) : Option (ByteArray × (List (S95)) × (List (S100)) × (List (S103)) × Int) := if (l0.length : Int) > 16384 then (some ((⟨#[]⟩ : ByteArray), ([] : List (S95)), ([] : List (S100)), ([] : List (S103)), 3)) else (if (l0.length : Int) < 4 then (qAc.j0 k l0 true) else (if 4 ≤ (l0.length : Int) then (qAc.j0 k l0 ((strOfNums (l0.take 4)).toList != ([102, 111, 98, 106] : List UInt8))) else (none)))
theorem qAc.calls (k : Nat) (A0 : Option Addr) (c0 : Nat) (l0 : List Int) (r1 : ByteArray) (r2 : List (S95)) (r3 : List (S100)) (r4 : List (S103)) (r5 : Int) (w : World) (hr0 : Kd.C (Kd.int .u8) w A0 l0.length l0) (hc0 : l0.length ≤ c0) (h : qAc.f k l0 = some (r1, r2, r3, r4, r5)) :
  Calls Tryz.prog 17 #[.slice A0 l0.length c0] w fun e w' => ∃ v1_ v2_ v3_ : Value, e = .returned (.tuple #[.agg #[.string r1, v1_, v2_, v3_], .int .i64 r5]) ∧ Kd.R k95 95 w' w.heap.size (fun _ => True) v1_ r2 ∧ Kd.S k100 100 w' w.heap.size (fun _ => True) v2_ r3 ∧ Kd.R k103 103 w' w.heap.size (fun _ => True) v3_ r4 ∧ Below w.heap.size w w' := by
 have hA := am hr0
 have gz := am hc0
 clear hr0 hc0
 have HB := am (Below.refl w.heap.size w)
 have H : (if (l0.length : Int) > 16384 then (some ((⟨#[]⟩ : ByteArray), ([] : List (S95)), ([] : List (S100)), ([] : List (S103)), 3)) else (if (l0.length : Int) < 4 then (qAc.j0 k l0 true) else (if 4 ≤ (l0.length : Int) then (qAc.j0 k l0 ((strOfNums (l0.take 4)).toList != ([102, 111, 98, 106] : List UInt8))) else (none)))) = some (r1, r2, r3, r4, r5) := h
 clear h
 by_cases c2 : (l0.length : Int) > 16384
 ·rw [if_pos c2] at H
  have eM := d1 c2
  clear c2
  simp only [Option.some.injEq, Prod.mk.injEq] at H
  obtain ⟨rfl, rfl, rfl, rfl, rfl⟩ := H
  go_enter Tryz.func17, Tryz.ntmps17
  go_wp2_with ((with_reducible refine qAO (N := 2) rfl ?_); refine bx 2 #[.string ⟨#[]⟩, .slice none 0 0, .slice none 0 0, .slice none 0 0] 26 ?_; intro aQ hg w3 hbox hb; have n_ := a2 (qAp HB.o hb) (a2 (hbox) (am (by rw [hg]; exact (qA5 HB.o) : w.heap.size ≤ aQ))); clear HB; obtain ⟨HB, aD, br⟩ := n_; clear hb hbox hg; have gg : w3.cell? ⟨aQ, 0, none⟩ = some (.string ⟨#[]⟩) := (qAa aD.o 0).trans rfl; have gh : w3.cell? ⟨aQ, 1, none⟩ = some (.slice none 0 0) := (qAa aD.o 1).trans rfl; have gi : w3.cell? ⟨aQ, 2, none⟩ = some (.slice none 0 0) := (qAa aD.o 2).trans rfl; have gj : w3.cell? ⟨aQ, 3, none⟩ = some (.slice none 0 0) := (qAa aD.o 3).trans rfl; have gl := qAb aD.o 0; have gm := qAb aD.o 1; have gn := qAb aD.o 2; have go := qAb aD.o 3)
  refine bodyPost_ret (qBW rfl _ _ aQ 26 #[.string ⟨#[]⟩, .slice none 0 0, .slice none 0 0, .slice none 0 0] (0, 0) _ rfl (by refine qAx (cs := #[.string ⟨#[]⟩, .slice none 0 0, .slice none 0 0, .slice none 0 0]) ?_ 3 _ rfl; refine qAx (cs := #[.string ⟨#[]⟩, .slice none 0 0, .slice none 0 0, .slice none 0 0]) ?_ 2 _ rfl; refine qAx (cs := #[.string ⟨#[]⟩, .slice none 0 0, .slice none 0 0, .slice none 0 0]) ?_ 1 _ rfl; refine qAx (cs := #[.string ⟨#[]⟩, .slice none 0 0, .slice none 0 0, .slice none 0 0]) ?_ 0 _ rfl; exact aD.o) Tryz.underlying26 rfl (by kernel_rfl)) rfl ?_
  exact ⟨_, _, _, by rfl, by (exact Kd.R_nil _ _ _ _ _), by (exact Kd.S_nil _ _ _ _ _), by (exact Kd.R_nil _ _ _ _ _), by repeat (with_reducible first | exact HB.o | refine qAs ?_ br.o)⟩
 ·rw [if_neg c2] at H
  have eM := d0 c2
  have g7 : decide (16384 < l0.length) = false := decide_eq_false (by omega)
  clear c2
  have g6 := am H
  clear H
  go_enter Tryz.func17, Tryz.ntmps17
  go_upto_region 3 with ((with_reducible refine qAO (N := 2) rfl ?_); refine bx 2 #[.string ⟨#[]⟩, .slice none 0 0, .slice none 0 0, .slice none 0 0] 26 ?_; intro aQ hg w6 hbox hb; have n_ := a2 (qAp HB.o hb) (a2 (hbox) (am (by rw [hg]; exact (qA5 HB.o) : w.heap.size ≤ aQ))); clear HB; obtain ⟨HB, aD, br⟩ := n_; clear hb hbox hg)
  (skip)
  go_cut [25] (fun hX wc => ∃ (kq : Nat) (cN : Bool), hX = .bool cN ∧ qAe (qAc.j0 kq l0 cN = some (r1, r2, r3, r4, r5)) ∧ qAe (kq ≤ k) ∧ qAe (wc.heap[aQ]? = some (.cells #[.string ⟨#[]⟩, (.slice none 0 0), (.slice none 0 0), (.slice none 0 0)] 26 (0, 0))) ∧ qAe (Below w.heap.size w wc))
  case first =>
   have H := g6.o
   clear g6
   by_cases c7 : (l0.length : Int) < 4
   ·rw [if_pos c7] at H
    have g8 := d1 c7
    clear c7
    (skip)
    have H' := am H
    clear H
    go_wp2
    go_meet
    case rel => exact ⟨_, (true), (by rfl), H', ⟨by omega⟩, ⟨by exact aD.o⟩, ⟨by exact HB.o⟩⟩
   rw [if_neg c7] at H
   have g8 := d0 c7
   have hU : decide (l0.length < 4) = false := decide_eq_false (by omega)
   clear c7
   (skip)
   obtain ⟨c8, H⟩ := gd H
   replace c8 := d1 c8
   have H' := am H
   clear H
   obtain ⟨i09, fI, _, hsz9, _⟩ := info_parts info5
   obtain ⟨hcut9, hA9, hC9⟩ := print_take_of (P := Tryz.prog) (Value.int .u8) 0 38 5 .i64 Tryz.underlying38 fI hsz9 A0 c0 l0 4 (by omega) (od (by assumption)) gz.o
   have eA := am (Kd.C_of_reads (h1 := fun _ => rfl) (hA9 _ (Kd.reads_of_C hA.o)))
   clear hA9 hC9 fI hsz9
   have hcv10 := Kd.C_string (P := Tryz.prog) (A := A0) (c := c0) Tryz.underlying38 Tryz.underlying5 Tryz.underlying9 (Kd.C_below eA.o HB.o)
   try simp only [List.length_take, Int.reduceToNat] at hcv10
   go_wp2
   go_meet
   case rel => exact ⟨_, ((strOfNums (l0.take 4)).toList != ([102, 111, 98, 106] : List UInt8)), (by rfl), H', ⟨by omega⟩, ⟨by exact aD.o⟩, ⟨by exact HB.o⟩⟩
  case rest =>
   clear g6
   obtain ⟨kq, cN, rfl, HA, cW, aD, HB⟩ := hcut
   cases kq with
   | zero => exact absurd HA.o (by simp [qAc.j0])
   | succ cQ =>
    have H := HA.o
    clear HA
    simp only [qAc.j0] at H
    by_cases fO : cN = true
    ·subst fO
     replace H : (some ((⟨#[]⟩ : ByteArray), ([] : List (S95)), ([] : List (S100)), ([] : List (S103)), 52)) = some (r1, r2, r3, r4, r5) := by rw [if_pos rfl] at H; exact H
     simp only [Option.some.injEq, Prod.mk.injEq] at H
     obtain ⟨rfl, rfl, rfl, rfl, rfl⟩ := H
     have fV : wc.cell? ⟨aQ, 0, none⟩ = some (.string ⟨#[]⟩) := (qAa aD.o 0).trans rfl
     have fW : wc.cell? ⟨aQ, 1, none⟩ = some (.slice none 0 0) := (qAa aD.o 1).trans rfl
     have fX : wc.cell? ⟨aQ, 2, none⟩ = some (.slice none 0 0) := (qAa aD.o 2).trans rfl
     have fY : wc.cell? ⟨aQ, 3, none⟩ = some (.slice none 0 0) := (qAa aD.o 3).trans rfl
     have fx := qAb aD.o 0
     have fy := qAb aD.o 1
     have fz := qAb aD.o 2
     have gA := qAb aD.o 3
     go_wp2
     refine bodyPost_ret (qBW rfl _ _ aQ 26 #[.string ⟨#[]⟩, .slice none 0 0, .slice none 0 0, .slice none 0 0] (0, 0) _ rfl (by refine qAx (cs := #[.string ⟨#[]⟩, .slice none 0 0, .slice none 0 0, .slice none 0 0]) ?_ 3 _ rfl; refine qAx (cs := #[.string ⟨#[]⟩, .slice none 0 0, .slice none 0 0, .slice none 0 0]) ?_ 2 _ rfl; refine qAx (cs := #[.string ⟨#[]⟩, .slice none 0 0, .slice none 0 0, .slice none 0 0]) ?_ 1 _ rfl; refine qAx (cs := #[.string ⟨#[]⟩, .slice none 0 0, .slice none 0 0, .slice none 0 0]) ?_ 0 _ rfl; exact aD.o) Tryz.underlying26 rfl (by kernel_rfl)) rfl ?_
     exact ⟨_, _, _, by rfl, by (exact Kd.R_nil _ _ _ _ _), by (exact Kd.S_nil _ _ _ _ _), by (exact Kd.R_nil _ _ _ _ _), by repeat (with_reducible first | exact HB.o | refine qAs ?_ br.o)⟩
    replace fO := Bool.eq_false_iff.mpr fO
    subst fO
    replace H : (if 4 ≤ (l0.length : Int) then ((qBE.f (l0.drop 4)).bind fun bN => ((qAq.f cQ bN.1 bN.2.1 bN.2.2 32).bind fun bO => ((qA1.f cQ bN.1 bO.2.1 bO.2.2).bind fun aw => (qAc.l0 cQ aw.1 0 bN.1 aw.2.1 aw.2.2 bO.1 ([] : List (S95)))))) else (none)) = some (r1, r2, r3, r4, r5) := by rw [if_neg (show ¬ (false = true) by decide)] at H; exact H
    obtain ⟨eI, H⟩ := gd H
    have eJ := eq_true eI
    replace eI := d1 eI
    replace H := bm H
    obtain ⟨⟨aN, dU, dV⟩, dh, H⟩ := H
    replace H : ((qAq.f cQ aN dU dV 32).bind fun bO => ((qA1.f cQ aN bO.2.1 bO.2.2).bind fun aw => (qAc.l0 cQ aw.1 0 aN aw.2.1 aw.2.2 bO.1 ([] : List (S95))))) = some (r1, r2, r3, r4, r5) := H
    have hE := am dh
    clear dh
    replace H := bm H
    obtain ⟨⟨aX, dW, dX⟩, di, H⟩ := H
    replace H : ((qA1.f cQ aN dW dX).bind fun aw => (qAc.l0 cQ aw.1 0 aN aw.2.1 aw.2.2 aX ([] : List (S95)))) = some (r1, r2, r3, r4, r5) := H
    have hF := am di
    clear di
    replace H := bm H
    obtain ⟨⟨b4, dY, dZ⟩, dj, H⟩ := H
    replace H : (qAc.l0 cQ b4 0 aN dY dZ aX ([] : List (S95))) = some (r1, r2, r3, r4, r5) := H
    have hG := am dj
    clear dj
    have H' := am H
    clear H
    obtain ⟨i017, dL, _, hsz17, _⟩ := info_parts info5
    obtain ⟨hH, hcut17, hA17, hC17⟩ := print_drop_of (P := Tryz.prog) (Value.int .u8) 0 38 5 .i64 Tryz.underlying38 dL hsz17 A0 c0 l0 4 (by omega) (od (by assumption)) gz.o
    have eB := am (Kd.C_of_reads (h1 := fun _ => rfl) (hA17 _ (Kd.reads_of_C hA.o)))
    have dy := am hC17
    clear hA17 hC17 dL hsz17
    go_wp2_with (first | ((with_reducible refine qAk (f := 66) rfl ?_); refine goesL_ (some 29) rfl rfl Tryz.func66 (by kernel_rfl) rfl #[.slice hH (l0.drop 4).length (c0 - 4)] rfl (by (try simp only [List.map_toArray, List.map_cons, List.map_nil]); (rw [show (l0.drop 4).length = (l0.length - 4) from List.length_drop] <;> rfl)) ?_; (with_reducible refine (qBE.calls _ _ (l0.drop 4) aN dU dV w _ ?side1 ?side2 ?side3 hE.o).mono ?_); (case side1 => exact HB.o); (case side2 => exact eB.o); (case side3 => exact dy.o); rintro e hf ⟨a1, rfl, hi, hb, hb2⟩; refine ⟨_, rfl, ?_⟩; have n_ := a2 (qA4 aD.o hb2) (a2 (hb) (a2 (hi) (am (Ne.symm (qAv.ne_blk hi (qA4 aD.o hb2) (by decide)))))); clear aD HB; obtain ⟨aD, HB, aE, aZ⟩ := n_) | ((with_reducible refine qAk (f := 67) rfl ?_); refine gL 31 Tryz.func67 #[.pointer (some ⟨a1, 0, none⟩), .int .i64 32] ?_; (with_reducible refine (qAq.calls cQ a1 aN dU dV 32 aX dW dX w _ ?side1 ?side2 hF.o).mono ?_); (case side1 => exact aE.o); (case side2 => exact HB.o); rintro e hh ⟨rfl, hi, hb, hk⟩; refine ⟨_, rfl, ?_⟩; have n_ := a2 (qAg.blk hk aD.o aZ.o (by simp)) (a2 (hb) (am (hi))); clear aD HB aE; obtain ⟨aD, HB, aE⟩ := n_) | ((with_reducible refine qAO (N := 5) rfl ?_); refine bx 5 #[.string ⟨#[]⟩, .slice none 0 0, .slice none 0 0, .slice none 0 0] 26 ?_; intro aT hg g4 hbox hb; have n_ := a2 (qA4 aD.o hb) (a2 (qAv.below aE.o hb) (a2 (qAp HB.o hb) (a2 (hbox) (a2 (by rw [hg]; exact (qA5 HB.o) : w.heap.size ≤ aT) (a2 (by rw [hg]; exact Nat.ne_of_lt (qBo aD.o) : aQ ≠ aT) (a2 (by rw [hg]; exact Nat.ne_of_lt (qAv.lt aE.o) : a1 ≠ aT) (am (by rw [hg]; exact Nat.ne_of_gt (qAv.lt aE.o) : aT ≠ a1)))))))); clear aD aE HB; obtain ⟨aD, aE, HB, aG, cJ, ar, bU, a3⟩ := n_; clear hb hbox hg; have cn : g4.cell? ⟨aT, 0, none⟩ = some (.string ⟨#[]⟩) := (qAa aG.o 0).trans rfl; have co : g4.cell? ⟨aT, 1, none⟩ = some (.slice none 0 0) := (qAa aG.o 1).trans rfl; have cp : g4.cell? ⟨aT, 2, none⟩ = some (.slice none 0 0) := (qAa aG.o 2).trans rfl; have cq : g4.cell? ⟨aT, 3, none⟩ = some (.slice none 0 0) := (qAa aG.o 3).trans rfl; have cr := qAb aG.o 0; have ct := qAb aG.o 1; have cu := qAb aG.o 2; have cv := qAb aG.o 3) | ((with_reducible refine qAk (f := 68) rfl ?_); refine gL 34 Tryz.func68 #[.pointer (some ⟨a1, 0, none⟩)] ?_; (with_reducible refine (qA1.calls cQ a1 aN dW dX b4 dY dZ w _ ?side1 ?side2 hG.o).mono ?_); (case side1 => repeat (with_reducible first | exact aE.o | refine qAv.far ?_ bU.o _)); (case side2 => repeat (with_reducible first | exact HB.o | refine qAs ?_ cJ.o)); rintro e hj ⟨rfl, hi, hb, hk⟩; refine ⟨_, rfl, ?_⟩; have n_ := a2 (qAg.blk hk (g' := aQ) (o := .cells #[.string ⟨#[]⟩, .slice none 0 0, .slice none 0 0, .slice none 0 0] 26 (0, 0)) (by refine qAz ?_ ar.o _; refine qAz ?_ ar.o _; refine qAz ?_ ar.o _; refine qAz ?_ ar.o _; exact aD.o) aZ.o (by simp)) (a2 (qAg.blk hk (g' := aT) (o := .cells #[.string aX, .slice none 0 0, .slice none 0 0, .slice none 0 0] 26 (0, 0)) (by refine qAx (cs := #[.string aX, .slice none 0 0, .slice none 0 0, .slice none 0 0]) ?_ 3 _ rfl; refine qAx (cs := #[.string aX, .slice none 0 0, .slice none 0 0, .slice none 0 0]) ?_ 2 _ rfl; refine qAx (cs := #[.string aX, .slice none 0 0, .slice none 0 0, .slice none 0 0]) ?_ 1 _ rfl; refine qAx (cs := #[.string ⟨#[]⟩, .slice none 0 0, .slice none 0 0, .slice none 0 0]) ?_ 0 _ rfl; exact aG.o) a3.o (by simp)) (a2 (hb) (am (hi)))); clear aD aG HB aE; obtain ⟨aD, aG, HB, aE⟩ := n_))
    go_loopg [7] cQ (fun kq v7 w' => ∃ (b3 : Int) (aj : Int) (ac : Int) (aH : List (S95)) (aR : Value), v7 = .int .i64 b3 ∧ qAe (qAc.l0 kq b4 b3 aN aj ac aX aH = some (r1, r2, r3, r4, r5)) ∧ qAe (kq ≤ cQ) ∧ qAe (Kd.R k95 95 w' w.heap.size (fun _ => True) aR aH) ∧ qAe (w'.heap[aQ]? = some (.cells #[.string ⟨#[]⟩, (.slice none 0 0), (.slice none 0 0), (.slice none 0 0)] 26 (0, 0))) ∧ qAe (w'.heap[aT]? = some (.cells #[.string aX, aR, (.slice none 0 0), (.slice none 0 0)] 26 (0, 0))) ∧ qAe (qAv w w' a1 aN aj ac) ∧ qAe (Below w.heap.size w w'))
    case atStart => exact ⟨(0), (dY), (dZ), ([] : List (S95)), (.slice none 0 0), (by rfl), H', ⟨Nat.le_refl _⟩, ⟨by (exact Kd.R_nil _ _ _ _ _)⟩, ⟨by exact aD.o⟩, ⟨by exact aG.o⟩, ⟨by exact aE.o⟩, ⟨by exact HB.o⟩⟩
    case round =>
     clear H'
     obtain ⟨b3, aj, ac, aH, aR, rfl, HA, cX, aA, aD, aG, aE, HB⟩ := hrel
     cases gk with
     | zero => exact absurd HA.o (by simp [qAc.l0])
     | succ k2 =>
      have H := HA.o
      clear HA
      simp only [qAc.l0] at H
      have dO := am H
      clear H
      go_upto_region 9 with (fail)
      go_cut [44] (fun hY wc => ∃ (kq : Nat) (bz : Bool), hY = .bool bz ∧ qAe (qAc.j2 kq b4 b3 bz aN aj ac aX aH = some (r1, r2, r3, r4, r5)) ∧ qAe (kq ≤ k2) ∧ qAe (Kd.R k95 95 wc w.heap.size (fun _ => True) aR aH) ∧ qAe (wc.heap[aQ]? = some (.cells #[.string ⟨#[]⟩, (.slice none 0 0), (.slice none 0 0), (.slice none 0 0)] 26 (0, 0))) ∧ qAe (wc.heap[aT]? = some (.cells #[.string aX, aR, (.slice none 0 0), (.slice none 0 0)] 26 (0, 0))) ∧ qAe (qAv w wc a1 aN aj ac) ∧ qAe (Below w.heap.size w wc))
      case first =>
       have H := dO.o
       clear dO
       by_cases dc : b3 < b4
       rotate_left
       ·rw [if_neg dc] at H
        replace dc := d0 dc
        (skip)
        have H' := am H
        clear H
        go_wp2
        go_meet
        case rel => exact ⟨_, (false), (by rfl), H', ⟨by have := cW.o; have := cX.o; (omega)⟩, ⟨by exact aA.o⟩, ⟨by exact aD.o⟩, ⟨by exact aG.o⟩, ⟨by exact aE.o⟩, ⟨by exact HB.o⟩⟩
       rw [if_pos dc] at H
       replace dc := d1 dc
       (skip)
       have H' := am H
       clear H
       obtain ⟨ASz27_0, cSz27_0, HGz27, hgz27, HSz27_0⟩ := aE.o
       have fZ := qB4 HGz27
       clear HGz27 hgz27
       go_wp2
       go_meet
       case rel => exact ⟨_, (ac == 0), (by rfl), H', ⟨by have := cW.o; have := cX.o; (omega)⟩, ⟨by exact aA.o⟩, ⟨by exact aD.o⟩, ⟨by exact aG.o⟩, ⟨by exact aE.o⟩, ⟨by exact HB.o⟩⟩
      case rest =>
       clear dO
       obtain ⟨kq, bz, rfl, HA, bp, aA, aD, aG, aE, HB⟩ := hcut
       cases kq with
       | zero => exact absurd HA.o (by simp [qAc.j2])
       | succ bC =>
        have H := HA.o
        clear HA
        simp only [qAc.j2] at H
        by_cases fP : bz = true
        ·subst fP
         replace H : ((qAq.f bC aN aj ac 32).bind fun bg => ((qAt.f bC aN bg.2.1 bg.2.2).bind fun bP => ((qAV.f bC aN bP.2.1 bP.2.2).bind fun ax => (if aH.length < 4398046511104 then (qAc.l0 bC b4 (wrap64 (b3 + 1)) aN ax.2.1 ax.2.2 aX (aH ++ [(⟨bg.1, (⟨wrap64 (bP.1), ax.1⟩ : S83)⟩ : S95)])) else (none))))) = some (r1, r2, r3, r4, r5) := by rw [if_pos rfl] at H; exact H
         replace H := bm H
         obtain ⟨⟨bS, cw, cx⟩, dk, H⟩ := H
         replace H : ((qAt.f bC aN cw cx).bind fun bP => ((qAV.f bC aN bP.2.1 bP.2.2).bind fun ax => (if aH.length < 4398046511104 then (qAc.l0 bC b4 (wrap64 (b3 + 1)) aN ax.2.1 ax.2.2 aX (aH ++ [(⟨bS, (⟨wrap64 (bP.1), ax.1⟩ : S83)⟩ : S95)])) else (none)))) = some (r1, r2, r3, r4, r5) := H
         have hI := am dk
         clear dk
         replace H := bm H
         obtain ⟨⟨b5, cy, cz⟩, dl, H⟩ := H
         replace H : ((qAV.f bC aN cy cz).bind fun ax => (if aH.length < 4398046511104 then (qAc.l0 bC b4 (wrap64 (b3 + 1)) aN ax.2.1 ax.2.2 aX (aH ++ [(⟨bS, (⟨wrap64 (b5), ax.1⟩ : S83)⟩ : S95)])) else (none))) = some (r1, r2, r3, r4, r5) := H
         have hJ := am dl
         clear dl
         replace H := bm H
         obtain ⟨⟨cE, ce, cf⟩, dm, H⟩ := H
         replace H : (if aH.length < 4398046511104 then (qAc.l0 bC b4 (wrap64 (b3 + 1)) aN ce cf aX (aH ++ [(⟨bS, (⟨wrap64 (b5), cE⟩ : S83)⟩ : S95)])) else (none)) = some (r1, r2, r3, r4, r5) := H
         have hK := am dm
         clear dm
         obtain ⟨fQ, H⟩ := gd H
         have eC := am fQ
         clear fQ
         obtain ⟨dE, ca⟩ : ∃ y_ : List (S95), y_ = (aH ++ [(⟨bS, (⟨wrap64 (b5), cE⟩ : S83)⟩ : S95)]) := ⟨_, rfl⟩
         replace H : (qAc.l0 bC b4 (wrap64 (b3 + 1)) aN ce cf aX dE) = some (r1, r2, r3, r4, r5) := by (rw [ca]; with_reducible exact H)
         have eF := am ca
         clear ca
         have H' := am H
         clear H
         go_wp2_with (first | ((with_reducible refine qAk (f := 67) rfl ?_); refine gL 48 Tryz.func67 #[.pointer (some ⟨a1, 0, none⟩), .int .i64 32] ?_; (with_reducible refine (qAq.calls bC a1 aN aj ac 32 bS cw cx w _ ?side1 ?side2 hI.o).mono ?_); (case side1 => exact aE.o); (case side2 => exact HB.o); rintro e hl ⟨rfl, hi, hb, hk⟩; refine ⟨_, rfl, ?_⟩; have n_ := a2 (Kd.R_kp (qAv.apart aE.o aA.o (by decide)) hk) (a2 (qAg.blk hk aD.o aZ.o (by simp)) (a2 (qAg.blk hk aG.o a3.o (by simp)) (a2 (hb) (am (hi))))); clear aA aD aG HB aE; obtain ⟨aA, aD, aG, HB, aE⟩ := n_) | ((with_reducible refine qAO (N := 8) rfl ?_); refine bx 8 #[.string ⟨#[]⟩, .int .i64 0, .int .u64 0] 95 ?_; intro ab hg gu hbox hb; have n_ := a2 (Kd.R_below (Kd.R_elderB aA.o ab (Nat.le_of_eq hg.symm)) hb) (a2 (qA4 aD.o hb) (a2 (qA4 aG.o hb) (a2 (qAv.below aE.o hb) (a2 (qAp HB.o hb) (a2 (hbox) (a2 (by rw [hg]; exact (qA5 HB.o) : w.heap.size ≤ ab) (a2 (by rw [hg]; exact Nat.ne_of_lt (qBo aD.o) : aQ ≠ ab) (a2 (by rw [hg]; exact Nat.ne_of_lt (qBo aG.o) : aT ≠ ab) (a2 (by rw [hg]; exact Nat.ne_of_lt (qAv.lt aE.o) : a1 ≠ ab) (am (by rw [hg]; exact Nat.ne_of_gt (qAv.lt aE.o) : ab ≠ a1))))))))))); clear aA aD aG aE HB; obtain ⟨aA, aD, aG, aE, HB, an, cK, bG, bI, bH, bs⟩ := n_; clear hb hbox hg; have f0 : gu.cell? ⟨ab, 0, none⟩ = some (.string ⟨#[]⟩) := (qAa an.o 0).trans rfl; have f1 : gu.cell? ⟨ab, 1, none⟩ = some (.int .i64 0) := (qAa an.o 1).trans rfl; have f2 : gu.cell? ⟨ab, 2, none⟩ = some (.int .u64 0) := (qAa an.o 2).trans rfl; have gB := qAb an.o 0; have gC := qAb an.o 1; have gD := qAb an.o 2) | ((with_reducible refine qAk (f := 69) rfl ?_); refine gL 51 Tryz.func69 #[.pointer (some ⟨a1, 0, none⟩)] ?_; (with_reducible refine (qAt.calls bC a1 aN cw cx b5 cy cz w _ ?side1 ?side2 hJ.o).mono ?_); (case side1 => repeat (with_reducible first | exact aE.o | refine qAv.far ?_ bH.o _)); (case side2 => repeat (with_reducible first | exact HB.o | refine qAs ?_ cK.o)); rintro e h7 ⟨rfl, hi, hb, hk⟩; refine ⟨_, rfl, ?_⟩; have n_ := a2 (Kd.R_kp (qAv.apart (show qAv w _ a1 aN cw cx from by repeat (with_reducible first | exact aE.o | refine qAv.far ?_ bH.o _)) (by exact (Kd.R_mono (Kd.R_far (p := ⟨ab, 2, none⟩) (Kd.R_far (p := ⟨ab, 1, none⟩) (Kd.R_far (p := ⟨ab, 0, none⟩) (Kd.R_mono aA.o (fun k_ hk => (⟨hk, hk.2⟩ : _ ∧ k_ ≠ ab))) (fun _ hk => hk.2) (.string bS)) (fun _ hk => hk.2) (.int .i64 0)) (fun _ hk => hk.2) (.int .u64 0)) (fun _ h_ => h_.1))) (by decide)) hk) (a2 (qAg.blk hk (g' := aQ) (o := .cells #[.string ⟨#[]⟩, .slice none 0 0, .slice none 0 0, .slice none 0 0] 26 (0, 0)) (by refine qAz ?_ bG.o _; refine qAz ?_ bG.o _; refine qAz ?_ bG.o _; exact aD.o) aZ.o (by simp)) (a2 (qAg.blk hk (g' := aT) (o := .cells #[.string aX, aR, .slice none 0 0, .slice none 0 0] 26 (0, 0)) (by refine qAz ?_ bI.o _; refine qAz ?_ bI.o _; refine qAz ?_ bI.o _; exact aG.o) a3.o (by simp)) (a2 (qAg.blk hk (g' := ab) (o := .cells #[.string bS, .int .i64 0, .int .u64 0] 95 (0, 0)) (by refine qAx (cs := #[.string bS, .int .i64 0, .int .u64 0]) ?_ 2 _ rfl; refine qAx (cs := #[.string bS, .int .i64 0, .int .u64 0]) ?_ 1 _ rfl; refine qAx (cs := #[.string ⟨#[]⟩, .int .i64 0, .int .u64 0]) ?_ 0 _ rfl; exact an.o) bs.o (by simp)) (a2 (hb) (am (hi)))))); clear aA aD aG an HB aE; obtain ⟨aA, aD, aG, an, HB, aE⟩ := n_; have f3 : h7.cell? ⟨ab, 1, none⟩ = some (.int .i64 0) := (qAa an.o 1).trans rfl; have gE := qAb an.o 1; have gF := qAb an.o 2) | ((with_reducible refine qAk (f := 70) rfl ?_); refine gL 56 Tryz.func70 #[.pointer (some ⟨a1, 0, none⟩)] ?_; (with_reducible refine (qAV.calls bC a1 aN cy cz cE ce cf w _ ?side1 ?side2 hK.o).mono ?_); (case side1 => repeat (with_reducible first | exact aE.o | refine qAv.far ?_ bH.o _)); (case side2 => repeat (with_reducible first | exact HB.o | refine qAs ?_ cK.o)); rintro e g5 ⟨rfl, hi, hb, hk⟩; refine ⟨_, rfl, ?_⟩; have n_ := a2 (Kd.R_kp (qAv.apart (show qAv w _ a1 aN cy cz from by repeat (with_reducible first | exact aE.o | refine qAv.far ?_ bH.o _)) (by exact (Kd.R_mono (Kd.R_far (p := ⟨ab, 1, none⟩) (Kd.R_mono aA.o (fun k_ hk => (⟨hk, hk.2⟩ : _ ∧ k_ ≠ ab))) (fun _ hk => hk.2) (.int .i64 (wrap64 (b5)))) (fun _ h_ => h_.1))) (by decide)) hk) (a2 (qAg.blk hk (g' := aQ) (o := .cells #[.string ⟨#[]⟩, .slice none 0 0, .slice none 0 0, .slice none 0 0] 26 (0, 0)) (by refine qAz ?_ bG.o _; exact aD.o) aZ.o (by simp)) (a2 (qAg.blk hk (g' := aT) (o := .cells #[.string aX, aR, .slice none 0 0, .slice none 0 0] 26 (0, 0)) (by refine qAz ?_ bI.o _; exact aG.o) a3.o (by simp)) (a2 (qAg.blk hk (g' := ab) (o := .cells #[.string bS, .int .i64 (wrap64 (b5)), .int .u64 0] 95 (0, 0)) (by refine qAx (cs := #[.string bS, .int .i64 0, .int .u64 0]) ?_ 1 _ rfl; exact an.o) bs.o (by simp)) (a2 (hb) (am (hi)))))); clear aA aD aG an HB aE; obtain ⟨aA, aD, aG, an, HB, aE⟩ := n_; have f4 : g5.cell? ⟨ab, 0, none⟩ = some (.string bS) := (qAa an.o 0).trans rfl; have f5 : g5.cell? ⟨ab, 1, none⟩ = some (.int .i64 (wrap64 (b5))) := (qAa an.o 1).trans rfl; have f6 : g5.cell? ⟨ab, 2, none⟩ = some (.int .u64 0) := (qAa an.o 2).trans rfl; have gG := qAb an.o 2; have f7 : g5.cell? ⟨aT, 1, none⟩ = some (aR) := (qAa aG.o 1).trans rfl; have gH := qAb aG.o 3) | ((with_reducible refine qBG (b := .append) (xs := #[.tmp 60, .tmp 62]) rfl ?_); at_builtin; refine Kd.R_append k95 (w0 := w) w.heap.size rfl (.tmp 60) (.tmp 62) 22 95 (.agg #[(.string ⟨#[]⟩), (.int .i64 0), (.int .u64 0)]) 32 rfl Tryz.underlying22 info95 rfl (by decide) (by omega) aR aH (⟨bS, (⟨wrap64 (b5), cE⟩ : S83)⟩ : S95) [.string bS, .int .i64 (wrap64 (b5)), .int .u64 cE] (fun k_ => k_ ≠ ab) (fun _ => False) rfl (by (go_simp; done)) ?aP (fun _ hk => hk.elim) ?aF ?aO ?aB ?aS ?aL ?_; (case aP => exact k95_mkM _ _ _ (⟨bS, (⟨wrap64 (b5), cE⟩ : S83)⟩ : S95)); (case aB => exact (by repeat (with_reducible first | exact HB.o | refine qAs ?_ cK.o))); (case aF => exact (fun k_ hk => Kd.freshB (g := ab) (o := .cells #[.string bS, .int .i64 (wrap64 (b5)), .int .u64 cE] 95 (0, 0)) (by refine qAx (cs := #[.string bS, .int .i64 (wrap64 (b5)), .int .u64 0]) ?_ 2 _ rfl; exact an.o) k_ hk)); (case aO => exact (by exact Kd.R_mono (Kd.R_far (p := ⟨ab, 2, none⟩) (Kd.R_mono aA.o (fun k_ hk => (⟨hk, hk.2⟩ : _ ∧ k_ ≠ ab))) (fun _ hk => hk.2) (.int .u64 cE)) (fun _ hk => hk.1.2))); (case aS => exact (qA5 (by repeat (with_reducible first | exact HB.o | refine qAs ?_ cK.o)))); (case aL => have := eC.o; omega); intro hZ h8 ho hb hg eX; rw [← eF.o] at ho; have n_ := a2 (qBr (g := aQ) (o := .cells #[.string ⟨#[]⟩, .slice none 0 0, .slice none 0 0, .slice none 0 0] 26 (0, 0)) (by refine qAz ?_ bG.o _; exact aD.o) hg (Kd.R_ne aA.o aD.o (by decide))) (a2 (qBr (g := aT) (o := .cells #[.string aX, aR, .slice none 0 0, .slice none 0 0] 26 (0, 0)) (by refine qAz ?_ bI.o _; exact aG.o) hg (Kd.R_ne aA.o aG.o (by decide))) (a2 (qAv.grown (show qAv w _ a1 aN ce cf from by repeat (with_reducible first | exact aE.o | refine qAv.far ?_ bH.o _)) hg (qAv.own_ne aE.o aA.o (by decide))) (a2 (hb) (am (ho))))); clear aD aG aE an HB aA; obtain ⟨aD, aG, aE, HB, dI⟩ := n_; clear ho hb hg eX; obtain ⟨dx, eP, g9⟩ := Kd.R_slice dI.o; subst g9; have f8 : h8.cell? ⟨aT, 1, none⟩ = some (aR) := (qAa aG.o 1).trans rfl; have gI := qAb aG.o 1; have gJ := qAb aG.o 3))
         go_roundg bC
         case measure => have := cW.o; have := cX.o; have := bp.o; omega
         case rel => exact ⟨(wrap64 (b3 + 1)), (ce), (cf), (dE), (.slice dx dE.length eP), (by rfl), H', ⟨by have := cW.o; have := cX.o; have := bp.o; omega⟩, ⟨by exact Kd.R_mono (Kd.R_far (p := ⟨aT, 1, none⟩) (Kd.R_types dI.o aG.o (by decide)) (fun _ hk => hk.2) (.slice dx dE.length eP)) (fun _ hk => trivial)⟩, ⟨by refine qAz ?_ ar.o _; exact aD.o⟩, ⟨by refine qAx (cs := #[.string aX, aR, .slice none 0 0, .slice none 0 0]) ?_ 1 _ rfl; exact aG.o⟩, ⟨by repeat (with_reducible first | exact aE.o | refine qAv.far ?_ bU.o _)⟩, ⟨by repeat (with_reducible first | exact HB.o | refine qAs ?_ cJ.o)⟩⟩
        replace fP := Bool.eq_false_iff.mpr fP
        subst fP
        replace H : ((qA1.f bC aN aj ac).bind fun bh => (qAc.l1 bC bh.1 0 aN bh.2.1 bh.2.2 aX aH ([] : List (S100)))) = some (r1, r2, r3, r4, r5) := by rw [if_neg (show ¬ (false = true) by decide)] at H; exact H
        replace H := bm H
        obtain ⟨⟨bo, d2, d3⟩, dn, H⟩ := H
        replace H : (qAc.l1 bC bo 0 aN d2 d3 aX aH ([] : List (S100))) = some (r1, r2, r3, r4, r5) := H
        have hL := am dn
        clear dn
        have H' := am H
        clear H
        go_wp2_with ((with_reducible refine qAk (f := 68) rfl ?_); refine gL 66 Tryz.func68 #[.pointer (some ⟨a1, 0, none⟩)] ?_; (with_reducible refine (qA1.calls bC a1 aN aj ac bo d2 d3 w _ ?side1 ?side2 hL.o).mono ?_); (case side1 => exact aE.o); (case side2 => exact HB.o); rintro e hm ⟨rfl, hi, hb, hk⟩; refine ⟨_, rfl, ?_⟩; have n_ := a2 (Kd.R_kp (qAv.apart aE.o aA.o (by decide)) hk) (a2 (qAg.blk hk aD.o aZ.o (by simp)) (a2 (qAg.blk hk aG.o a3.o (by simp)) (a2 (hb) (am (hi))))); clear aA aD aG HB aE; obtain ⟨aA, aD, aG, HB, aE⟩ := n_)
        go_loopg [9] bC (fun kq v9 w' => ∃ (b8 : Int) (ak : Int) (ad : Int) (aJ : List (S100)) (aV : Value), v9 = .int .i64 b8 ∧ qAe (qAc.l1 kq bo b8 aN ak ad aX aH aJ = some (r1, r2, r3, r4, r5)) ∧ qAe (kq ≤ bC) ∧ qAe (Kd.R k95 95 w' w.heap.size (fun _ => True) aR aH) ∧ qAe (Kd.S k100 100 w' w.heap.size (fun _ => True) aV aJ) ∧ qAe (w'.heap[aQ]? = some (.cells #[.string ⟨#[]⟩, (.slice none 0 0), (.slice none 0 0), (.slice none 0 0)] 26 (0, 0))) ∧ qAe (w'.heap[aT]? = some (.cells #[.string aX, aR, aV, (.slice none 0 0)] 26 (0, 0))) ∧ qAe (qAv w w' a1 aN ak ad) ∧ qAe (Below w.heap.size w w'))
        case atStart => exact ⟨(0), (d2), (d3), ([] : List (S100)), (.slice none 0 0), (by rfl), H', ⟨Nat.le_refl _⟩, ⟨by exact aA.o⟩, ⟨by (exact Kd.S_nil _ _ _ _ _)⟩, ⟨by exact aD.o⟩, ⟨by exact aG.o⟩, ⟨by exact aE.o⟩, ⟨by exact HB.o⟩⟩
        case round =>
         clear H'
         obtain ⟨b8, ak, ad, aJ, aV, rfl, HA, dH, aA, aC, aD, aG, aE, HB⟩ := hrel
         cases gk with
         | zero => exact absurd HA.o (by simp [qAc.l1])
         | succ k4 =>
          have H := HA.o
          clear HA
          simp only [qAc.l1] at H
          have dP := am H
          clear H
          go_upto_region 17 with (fail)
          go_cut [76] (fun h6 wc => ∃ (kq : Nat) (cA : Bool), h6 = .bool cA ∧ qAe (qAc.j4 kq bo b8 cA aN ak ad aX aH aJ = some (r1, r2, r3, r4, r5)) ∧ qAe (kq ≤ k4) ∧ qAe (Kd.R k95 95 wc w.heap.size (fun _ => True) aR aH) ∧ qAe (Kd.S k100 100 wc w.heap.size (fun _ => True) aV aJ) ∧ qAe (wc.heap[aQ]? = some (.cells #[.string ⟨#[]⟩, (.slice none 0 0), (.slice none 0 0), (.slice none 0 0)] 26 (0, 0))) ∧ qAe (wc.heap[aT]? = some (.cells #[.string aX, aR, aV, (.slice none 0 0)] 26 (0, 0))) ∧ qAe (qAv w wc a1 aN ak ad) ∧ qAe (Below w.heap.size w wc))
          case first =>
           have H := dP.o
           clear dP
           by_cases dd : b8 < bo
           rotate_left
           ·rw [if_neg dd] at H
            replace dd := d0 dd
            (skip)
            have H' := am H
            clear H
            go_wp2
            go_meet
            case rel => exact ⟨_, (false), (by rfl), H', ⟨by have := cW.o; have := cX.o; have := bp.o; have := dH.o; (omega)⟩, ⟨by exact aA.o⟩, ⟨by exact aC.o⟩, ⟨by exact aD.o⟩, ⟨by exact aG.o⟩, ⟨by exact aE.o⟩, ⟨by exact HB.o⟩⟩
           rw [if_pos dd] at H
           replace dd := d1 dd
           (skip)
           have H' := am H
           clear H
           obtain ⟨ASz53_0, cSz53_0, HGz53, hgz53, HSz53_0⟩ := aE.o
           have f9 := qB4 HGz53
           clear HGz53 hgz53
           go_wp2
           go_meet
           case rel => exact ⟨_, (ad == 0), (by rfl), H', ⟨by have := cW.o; have := cX.o; have := bp.o; have := dH.o; (omega)⟩, ⟨by exact aA.o⟩, ⟨by exact aC.o⟩, ⟨by exact aD.o⟩, ⟨by exact aG.o⟩, ⟨by exact aE.o⟩, ⟨by exact HB.o⟩⟩
          case rest =>
           clear dP
           obtain ⟨kq, cA, rfl, HA, cO, aA, aC, aD, aG, aE, HB⟩ := hcut
           cases kq with
           | zero => exact absurd HA.o (by simp [qAc.j4])
           | succ bW =>
            have H := HA.o
            clear HA
            simp only [qAc.j4] at H
            by_cases fR : cA = true
            ·subst fR
             replace H : ((qAq.f bW aN ak ad 32).bind fun bi => ((qAj.f bW aN bi.2.1 bi.2.2).bind fun ap => (if aJ.length < 1466015503701 then (qAc.l1 bW bo (wrap64 (b8 + 1)) aN ap.2.2.2.2.1 ap.2.2.2.2.2 aX aH (aJ ++ [(⟨bi.1, (⟨(⟨ap.1, ap.2.1⟩ : S70), ap.2.2.1, ap.2.2.2.1⟩ : S98)⟩ : S100)])) else (none)))) = some (r1, r2, r3, r4, r5) := by rw [if_pos rfl] at H; exact H
             replace H := bm H
             obtain ⟨⟨bD, cg, ch⟩, dp, H⟩ := H
             replace H : ((qAj.f bW aN cg ch).bind fun ap => (if aJ.length < 1466015503701 then (qAc.l1 bW bo (wrap64 (b8 + 1)) aN ap.2.2.2.2.1 ap.2.2.2.2.2 aX aH (aJ ++ [(⟨bD, (⟨(⟨ap.1, ap.2.1⟩ : S70), ap.2.2.1, ap.2.2.2.1⟩ : S98)⟩ : S100)])) else (none))) = some (r1, r2, r3, r4, r5) := H
             have hM := am dp
             clear dp
             replace H := bm H
             obtain ⟨⟨az, bT, bE, bJ, ci, cj⟩, dq, H⟩ := H
             replace H : (if aJ.length < 1466015503701 then (qAc.l1 bW bo (wrap64 (b8 + 1)) aN ci cj aX aH (aJ ++ [(⟨bD, (⟨(⟨az, bT⟩ : S70), bE, bJ⟩ : S98)⟩ : S100)])) else (none)) = some (r1, r2, r3, r4, r5) := H
             have hN := am dq
             clear dq
             obtain ⟨fS, H⟩ := gd H
             have eD := am fS
             clear fS
             obtain ⟨cm, cc⟩ : ∃ y_ : List (S100), y_ = (aJ ++ [(⟨bD, (⟨(⟨az, bT⟩ : S70), bE, bJ⟩ : S98)⟩ : S100)]) := ⟨_, rfl⟩
             replace H : (qAc.l1 bW bo (wrap64 (b8 + 1)) aN ci cj aX aH cm) = some (r1, r2, r3, r4, r5) := by (rw [cc]; with_reducible exact H)
             have eG := am cc
             clear cc
             have H' := am H
             clear H
             go_wp2_with (first | ((with_reducible refine qAk (f := 67) rfl ?_); refine gL 80 Tryz.func67 #[.pointer (some ⟨a1, 0, none⟩), .int .i64 32] ?_; (with_reducible refine (qAq.calls bW a1 aN ak ad 32 bD cg ch w _ ?side1 ?side2 hM.o).mono ?_); (case side1 => exact aE.o); (case side2 => exact HB.o); rintro e hp ⟨rfl, hi, hb, hk⟩; refine ⟨_, rfl, ?_⟩; have n_ := a2 (Kd.R_kp (qAv.apart aE.o aA.o (by decide)) hk) (a2 (Kd.S_mono (Kd.S_keep (qAv.apartS aE.o aC.o (by decide)) hk (fun _ h => h.2)) (fun _ h => h.1)) (a2 (qAg.blk hk aD.o aZ.o (by simp)) (a2 (qAg.blk hk aG.o a3.o (by simp)) (a2 (hb) (am (hi)))))); clear aA aC aD aG HB aE; obtain ⟨aA, aC, aD, aG, HB, aE⟩ := n_) | ((with_reducible refine qAO (N := 10) rfl ?_); refine bx 10 #[.string ⟨#[]⟩, .slice none 0 0, .int .i64 0, .slice none 0 0, .slice none 0 0] 100 ?_; intro aM hg fJ hbox hb; have n_ := a2 (Kd.R_below aA.o hb) (a2 (Kd.S_below (Kd.S_elderB aC.o aM (Nat.le_of_eq hg.symm)) hb) (a2 (qA4 aD.o hb) (a2 (qA4 aG.o hb) (a2 (qAv.below aE.o hb) (a2 (qAp HB.o hb) (a2 (hbox) (a2 (by rw [hg]; exact (qA5 HB.o) : w.heap.size ≤ aM) (a2 (by rw [hg]; exact Nat.ne_of_lt (qBo aD.o) : aQ ≠ aM) (a2 (by rw [hg]; exact Nat.ne_of_lt (qBo aG.o) : aT ≠ aM) (a2 (by rw [hg]; exact Nat.ne_of_lt (qAv.lt aE.o) : a1 ≠ aM) (am (by rw [hg]; exact Nat.ne_of_gt (qAv.lt aE.o) : aM ≠ a1)))))))))))); clear aA aC aD aG aE HB; obtain ⟨aA, aC, aD, aG, aE, HB, aY, cC, ag, ai, bV, cP⟩ := n_; clear hb hbox hg; have fa : fJ.cell? ⟨aM, 0, none⟩ = some (.string ⟨#[]⟩) := (qAa aY.o 0).trans rfl; have fb : fJ.cell? ⟨aM, 1, none⟩ = some (.slice none 0 0) := (qAa aY.o 1).trans rfl; have fc : fJ.cell? ⟨aM, 2, none⟩ = some (.int .i64 0) := (qAa aY.o 2).trans rfl; have fd : fJ.cell? ⟨aM, 3, none⟩ = some (.slice none 0 0) := (qAa aY.o 3).trans rfl; have fe : fJ.cell? ⟨aM, 4, none⟩ = some (.slice none 0 0) := (qAa aY.o 4).trans rfl; have gK := qAb aY.o 0; have gM := qAb aY.o 1; have gN := qAb aY.o 2; have gO := qAb aY.o 3; have gP := qAb aY.o 4) | ((with_reducible refine qAk (f := 71) rfl ?_); refine gL 83 Tryz.func71 #[.pointer (some ⟨a1, 0, none⟩)] ?_; (with_reducible refine (qAj.calls bW a1 aN cg ch az bT bE bJ ci cj w _ ?side1 ?side2 hN.o).mono ?_); (case side1 => repeat (with_reducible first | exact aE.o | refine qAv.far ?_ bV.o _)); (case side2 => repeat (with_reducible first | exact HB.o | refine qAs ?_ cC.o)); rintro e fK ⟨h0, h2, h3, rfl, gp, gq, gr, hi, hb, hk⟩; refine ⟨_, rfl, ?_⟩; have n_ := a2 (Kd.R_kp (qAv.apart (show qAv w _ a1 aN cg ch from by repeat (with_reducible first | exact aE.o | refine qAv.far ?_ bV.o _)) (by exact (Kd.R_mono (Kd.R_far (p := ⟨aM, 4, none⟩) (Kd.R_far (p := ⟨aM, 3, none⟩) (Kd.R_far (p := ⟨aM, 2, none⟩) (Kd.R_far (p := ⟨aM, 1, none⟩) (Kd.R_far (p := ⟨aM, 0, none⟩) (Kd.R_types aA.o aY.o (by decide)) (fun _ hk => hk.2) (.string bD)) (fun _ hk => hk.2) (.slice none 0 0)) (fun _ hk => hk.2) (.int .i64 0)) (fun _ hk => hk.2) (.slice none 0 0)) (fun _ hk => hk.2) (.slice none 0 0)) (fun _ h_ => h_.1))) (by decide)) hk) (a2 (Kd.S_mono (Kd.S_told (Kd.S_told (Kd.S_told (Kd.S_oldK (qAv.apartS (show qAv w _ a1 aN cg ch from by repeat (with_reducible first | exact aE.o | refine qAv.far ?_ bV.o _)) (by exact (Kd.S_mono (Kd.S_far (p := ⟨aM, 4, none⟩) (Kd.S_far (p := ⟨aM, 3, none⟩) (Kd.S_far (p := ⟨aM, 2, none⟩) (Kd.S_far (p := ⟨aM, 1, none⟩) (Kd.S_far (p := ⟨aM, 0, none⟩) (Kd.S_mono aC.o (fun k_ hk => (⟨hk, hk.2⟩ : _ ∧ k_ ≠ aM))) (fun _ hk => hk.2) (.string bD)) (fun _ hk => hk.2) (.slice none 0 0)) (fun _ hk => hk.2) (.int .i64 0)) (fun _ hk => hk.2) (.slice none 0 0)) (fun _ hk => hk.2) (.slice none 0 0)) (fun _ h_ => h_.1))) (by decide)) hk) (Kd.R_base gp)) (Kd.R_base gq)) (Kd.R_base gr)) (fun _ h_ => h_.1)) (a2 (qAg.blk hk (g' := aQ) (o := .cells #[.string ⟨#[]⟩, .slice none 0 0, .slice none 0 0, .slice none 0 0] 26 (0, 0)) (by refine qAz ?_ ag.o _; refine qAz ?_ ag.o _; refine qAz ?_ ag.o _; refine qAz ?_ ag.o _; refine qAz ?_ ag.o _; exact aD.o) aZ.o (by simp)) (a2 (qAg.blk hk (g' := aT) (o := .cells #[.string aX, aR, aV, .slice none 0 0] 26 (0, 0)) (by refine qAz ?_ ai.o _; refine qAz ?_ ai.o _; refine qAz ?_ ai.o _; refine qAz ?_ ai.o _; refine qAz ?_ ai.o _; exact aG.o) a3.o (by simp)) (a2 (qAg.blk hk (g' := aM) (o := .cells #[.string bD, .slice none 0 0, .int .i64 0, .slice none 0 0, .slice none 0 0] 100 (0, 0)) (by refine qAx (cs := #[.string bD, .slice none 0 0, .int .i64 0, .slice none 0 0, .slice none 0 0]) ?_ 4 _ rfl; refine qAx (cs := #[.string bD, .slice none 0 0, .int .i64 0, .slice none 0 0, .slice none 0 0]) ?_ 3 _ rfl; refine qAx (cs := #[.string bD, .slice none 0 0, .int .i64 0, .slice none 0 0, .slice none 0 0]) ?_ 2 _ rfl; refine qAx (cs := #[.string bD, .slice none 0 0, .int .i64 0, .slice none 0 0, .slice none 0 0]) ?_ 1 _ rfl; refine qAx (cs := #[.string ⟨#[]⟩, .slice none 0 0, .int .i64 0, .slice none 0 0, .slice none 0 0]) ?_ 0 _ rfl; exact aY.o) cP.o (by simp)) (a2 (Kd.R_lower gp (qA5 (by repeat (with_reducible first | exact HB.o | refine qAs ?_ cC.o)))) (a2 (Kd.R_lower gq (qA5 (by repeat (with_reducible first | exact HB.o | refine qAs ?_ cC.o)))) (a2 (Kd.R_lower gr (qA5 (by repeat (with_reducible first | exact HB.o | refine qAs ?_ cC.o)))) (a2 (hb) (am (hi)))))))))); clear aA aC aD aG aY HB aE; obtain ⟨aA, aC, aD, aG, aY, bb, bc, bd, HB, aE⟩ := n_; obtain ⟨bM, bR, ga⟩ := Kd.R_slice bb.o; subst ga; have ff : fK.cell? ⟨aM, 1, none⟩ = some (.slice none 0 0) := (qAa aY.o 1).trans rfl; have fg : fK.cell? ⟨aM, 2, none⟩ = some (.int .i64 0) := (qAa aY.o 2).trans rfl; have fh : fK.cell? ⟨aM, 3, none⟩ = some (.slice none 0 0) := (qAa aY.o 3).trans rfl; have fi : fK.cell? ⟨aM, 4, none⟩ = some (.slice none 0 0) := (qAa aY.o 4).trans rfl; have gQ := qAb aY.o 1; have gR := qAb aY.o 2; have gS := qAb aY.o 3; have gT := qAb aY.o 4; obtain ⟨bX, bY, gb⟩ := Kd.R_slice bc.o; subst gb; obtain ⟨b1, b2, gc⟩ := Kd.R_slice bd.o; subst gc) | ((with_reducible refine qE8 (t := 98) (p := 84) rfl ?_); refine qDN (t := 98) (p := 84) (v := ?vo_w69) (w1 := ((((fK.setCell ⟨aM, 1, none⟩ (.slice bM az.length bR)).setCell ⟨aM, 2, none⟩ (.int .i64 bT)).setCell ⟨aM, 3, none⟩ (.slice bX bE.length bY)).setCell ⟨aM, 4, none⟩ (.slice b1 bJ.length b2))) ?hg ?ho ?hn ?hr ?_; (case ho => rfl); (case hg => rfl); (case hn => rfl); (case hr => (go_simp; done)); intro cG hw; have n0_ : qAe (Kd.R k95 95 cG w.heap.size (fun _ => True) aR aH) := ⟨(by rw [hw]; exact (by exact Kd.R_mono (Kd.R_far (p := ⟨aM, 4, none⟩) (Kd.R_far (p := ⟨aM, 3, none⟩) (Kd.R_far (p := ⟨aM, 2, none⟩) (Kd.R_far (p := ⟨aM, 1, none⟩) (Kd.R_types aA.o aY.o (by decide)) (fun _ hk => hk.2) (.slice bM az.length bR)) (fun _ hk => hk.2) (.int .i64 bT)) (fun _ hk => hk.2) (.slice bX bE.length bY)) (fun _ hk => hk.2) (.slice b1 bJ.length b2)) (fun _ hk => trivial)))⟩; have n1_ : qAe (Kd.S k100 100 cG w.heap.size (fun k_ => some k_ ≠ (.slice bM az.length bR : Value).ownBlock ∧ some k_ ≠ (.slice bX bE.length bY : Value).ownBlock ∧ some k_ ≠ (.slice b1 bJ.length b2 : Value).ownBlock ∧ k_ ≠ aM) aV aJ) := ⟨(by rw [hw]; exact (by exact Kd.S_mono (Kd.S_far (p := ⟨aM, 4, none⟩) (Kd.S_far (p := ⟨aM, 3, none⟩) (Kd.S_far (p := ⟨aM, 2, none⟩) (Kd.S_far (p := ⟨aM, 1, none⟩) (Kd.S_mono aC.o (fun k_ hk => (⟨hk, hk.1.1.1.2⟩ : _ ∧ k_ ≠ aM))) (fun _ hk => hk.2) (.slice bM az.length bR)) (fun _ hk => hk.2) (.int .i64 bT)) (fun _ hk => hk.2) (.slice bX bE.length bY)) (fun _ hk => hk.2) (.slice b1 bJ.length b2)) (fun _ hk => ⟨hk.1.1.1.2, ⟨hk.1.1.2, ⟨hk.1.2, hk.1.1.1.1.2⟩⟩⟩)))⟩; have n2_ : qAe (Kd.R (Kd.int .i64) 3 cG w.heap.size (fun k_ => some k_ ≠ (.slice bX bE.length bY : Value).ownBlock) (.slice bM az.length bR) az) := ⟨(by rw [hw]; exact (by exact Kd.R_mono (Kd.R_far (p := ⟨aM, 4, none⟩) (Kd.R_far (p := ⟨aM, 3, none⟩) (Kd.R_far (p := ⟨aM, 2, none⟩) (Kd.R_far (p := ⟨aM, 1, none⟩) (Kd.R_types bb.o aY.o (by decide)) (fun _ hk => hk.2) (.slice bM az.length bR)) (fun _ hk => hk.2) (.int .i64 bT)) (fun _ hk => hk.2) (.slice bX bE.length bY)) (fun _ hk => hk.2) (.slice b1 bJ.length b2)) (fun _ hk => hk.1)))⟩; have n3_ : qAe (Kd.R (Kd.int .i64) 3 cG w.heap.size (fun k_ => some k_ ≠ (.slice bM az.length bR : Value).ownBlock) (.slice bX bE.length bY) bE) := ⟨(by rw [hw]; exact (by exact Kd.R_mono (Kd.R_far (p := ⟨aM, 4, none⟩) (Kd.R_far (p := ⟨aM, 3, none⟩) (Kd.R_far (p := ⟨aM, 2, none⟩) (Kd.R_far (p := ⟨aM, 1, none⟩) (Kd.R_types bc.o aY.o (by decide)) (fun _ hk => hk.2) (.slice bM az.length bR)) (fun _ hk => hk.2) (.int .i64 bT)) (fun _ hk => hk.2) (.slice bX bE.length bY)) (fun _ hk => hk.2) (.slice b1 bJ.length b2)) (fun _ hk => hk.1)))⟩; have n4_ : qAe (Kd.R k172 172 cG w.heap.size (fun _ => True) (.slice b1 bJ.length b2) bJ) := ⟨(by rw [hw]; exact (by exact Kd.R_mono (Kd.R_far (p := ⟨aM, 4, none⟩) (Kd.R_far (p := ⟨aM, 3, none⟩) (Kd.R_far (p := ⟨aM, 2, none⟩) (Kd.R_far (p := ⟨aM, 1, none⟩) (Kd.R_types bd.o aY.o (by decide)) (fun _ hk => hk.2) (.slice bM az.length bR)) (fun _ hk => hk.2) (.int .i64 bT)) (fun _ hk => hk.2) (.slice bX bE.length bY)) (fun _ hk => hk.2) (.slice b1 bJ.length b2)) (fun _ hk => trivial)))⟩; have n5_ : qAe (cG.heap[aQ]? = some (.cells #[.string ⟨#[]⟩, .slice none 0 0, .slice none 0 0, .slice none 0 0] 26 (0, 0))) := ⟨(by rw [hw]; exact (by refine qAz ?_ ag.o _; refine qAz ?_ ag.o _; refine qAz ?_ ag.o _; refine qAz ?_ ag.o _; exact aD.o))⟩; have n6_ : qAe (cG.heap[aT]? = some (.cells #[.string aX, aR, aV, .slice none 0 0] 26 (0, 0))) := ⟨(by rw [hw]; exact (by refine qAz ?_ ai.o _; refine qAz ?_ ai.o _; refine qAz ?_ ai.o _; refine qAz ?_ ai.o _; exact aG.o))⟩; have n7_ : qAe (cG.heap[aM]? = some (.cells #[.string bD, .slice bM az.length bR, .int .i64 bT, .slice bX bE.length bY, .slice b1 bJ.length b2] 100 (0, 0))) := ⟨(by rw [hw]; exact (by refine qAx (cs := #[.string bD, .slice bM az.length bR, .int .i64 bT, .slice bX bE.length bY, .slice none 0 0]) ?_ 4 _ rfl; refine qAx (cs := #[.string bD, .slice bM az.length bR, .int .i64 bT, .slice none 0 0, .slice none 0 0]) ?_ 3 _ rfl; refine qAx (cs := #[.string bD, .slice bM az.length bR, .int .i64 0, .slice none 0 0, .slice none 0 0]) ?_ 2 _ rfl; refine qAx (cs := #[.string bD, .slice none 0 0, .int .i64 0, .slice none 0 0, .slice none 0 0]) ?_ 1 _ rfl; exact aY.o))⟩; have n8_ : qAe (qAv w cG a1 aN ci cj) := ⟨(by rw [hw]; exact (by repeat (with_reducible first | exact aE.o | refine qAv.far ?_ bV.o _)))⟩; have n9_ : qAe (Below w.heap.size w cG) := ⟨(by rw [hw]; exact (by repeat (with_reducible first | exact HB.o | refine qAs ?_ cC.o)))⟩; clear hw; clear aA; clear aC; clear bb; clear bc; clear bd; clear aD; clear aG; clear aY; clear aE; clear HB; have aA := n0_; have aC := n1_; have bb := n2_; have bc := n3_; have bd := n4_; have aD := n5_; have aG := n6_; have aY := n7_; have aE := n8_; have HB := n9_; clear n0_ n1_ n2_ n3_ n4_ n5_ n6_ n7_ n8_ n9_; have fj : cG.cell? ⟨aT, 2, none⟩ = some (aV) := (qAa aG.o 2).trans rfl; have fk : cG.cell? ⟨aM, 0, none⟩ = some (.string bD) := (qAa aY.o 0).trans rfl; have fl : cG.cell? ⟨aM, 1, none⟩ = some (.slice bM az.length bR) := (qAa aY.o 1).trans rfl; have fm : cG.cell? ⟨aM, 2, none⟩ = some (.int .i64 bT) := (qAa aY.o 2).trans rfl; have fn : cG.cell? ⟨aM, 3, none⟩ = some (.slice bX bE.length bY) := (qAa aY.o 3).trans rfl; have fo : cG.cell? ⟨aM, 4, none⟩ = some (.slice b1 bJ.length b2) := (qAa aY.o 4).trans rfl; have gU := qAb aY.o 4) | ((with_reducible refine qBG (b := .append) (xs := #[.tmp 86, .tmp 88]) rfl ?_); at_builtin; refine Kd.S_append k100 (w0 := w) w.heap.size rfl (.tmp 86) (.tmp 88) 23 100 (.agg #[(.string ⟨#[]⟩), (.slice none 0 0), (.int .i64 0), (.slice none 0 0), (.slice none 0 0)]) 96 rfl Tryz.underlying23 info100 rfl (by decide) (by omega) aV aJ (⟨bD, (⟨(⟨az, bT⟩ : S70), bE, bJ⟩ : S98)⟩ : S100) [.string bD, .slice bM az.length bR, .int .i64 bT, .slice bX bE.length bY, .slice b1 bJ.length b2] (fun k_ => k_ ≠ aM) (fun k_ => some k_ = (.slice bM az.length bR : Value).ownBlock ∨ some k_ = (.slice bX bE.length bY : Value).ownBlock ∨ some k_ = (.slice b1 bJ.length b2 : Value).ownBlock) rfl rfl ?aP (fun k_ hk_ => hk_.elim (fun h_ => (Kd.R_mono (ok' := fun k_ => (fun k_ => k_ ≠ aM) k_ ∧ some k_ ≠ (aV : Value).ownBlock) (Kd.R_types (Kd.R_apart' bb.o (Kd.S_typed aC.o) (by decide)) aY.o (by decide)) (fun k_ hk => ⟨hk.2, hk.1.2⟩)).1 k_ h_.symm) (fun h_ => h_.elim (fun h_ => (Kd.R_mono (ok' := fun k_ => (fun k_ => k_ ≠ aM) k_ ∧ some k_ ≠ (aV : Value).ownBlock) (Kd.R_types (Kd.R_apart' bc.o (Kd.S_typed aC.o) (by decide)) aY.o (by decide)) (fun k_ hk => ⟨hk.2, hk.1.2⟩)).1 k_ h_.symm) (fun h_ => (Kd.R_mono (ok' := fun k_ => (fun k_ => k_ ≠ aM) k_ ∧ some k_ ≠ (aV : Value).ownBlock) (Kd.R_types (Kd.R_apart' bd.o (Kd.S_typed aC.o) (by decide)) aY.o (by decide)) (fun k_ hk => ⟨hk.2, hk.1.2⟩)).1 k_ h_.symm))) ?aF ?aO ?aB ?aS ?aL ?_; (case aP => exact k100_mkM _ _ _ (⟨bD, (⟨(⟨az, bT⟩ : S70), bE, bJ⟩ : S98)⟩ : S100) (Kd.R_mono (Kd.R_tight rfl (Kd.R_mono (ok' := fun k_ => (fun k_ => k_ ≠ aM) k_ ∧ some k_ ≠ (aV : Value).ownBlock) (Kd.R_types (Kd.R_apart' bb.o (Kd.S_typed aC.o) (by decide)) aY.o (by decide)) (fun k_ hk => ⟨hk.2, hk.1.2⟩))) (fun _ h_ => Or.inl h_)) (Kd.R_mono (Kd.R_tight rfl (Kd.R_mono (ok' := fun k_ => (fun k_ => k_ ≠ aM) k_ ∧ some k_ ≠ (aV : Value).ownBlock) (Kd.R_types (Kd.R_apart' bc.o (Kd.S_typed aC.o) (by decide)) aY.o (by decide)) (fun k_ hk => ⟨hk.2, hk.1.2⟩))) (fun _ h_ => Or.inr (Or.inl h_))) (Kd.R_mono (Kd.R_tight rfl (Kd.R_mono (ok' := fun k_ => (fun k_ => k_ ≠ aM) k_ ∧ some k_ ≠ (aV : Value).ownBlock) (Kd.R_types (Kd.R_apart' bd.o (Kd.S_typed aC.o) (by decide)) aY.o (by decide)) (fun k_ hk => ⟨hk.2, hk.1.2⟩))) (fun _ h_ => Or.inr (Or.inr (h_))))); (case aB => exact HB.o); (case aF => exact (fun k_ hk => Kd.freshB (g := aM) (o := .cells #[.string bD, .slice bM az.length bR, .int .i64 bT, .slice bX bE.length bY, .slice b1 bJ.length b2] 100 (0, 0)) aY.o k_ hk)); (case aO => exact (by exact Kd.S_mono aC.o (fun k_ hk => ⟨hk.2.2.2, fun e_ => e_.elim (fun h_ => hk.1 h_) (fun h_ => h_.elim (fun h_ => hk.2.1 h_) (fun h_ => hk.2.2.1 h_))⟩))); (case aS => exact (qA5 HB.o)); (case aL => have := eD.o; omega); intro h4 h9 ho hb hg eX; rw [← eG.o] at ho; have n_ := a2 (Kd.R_over' aA.o (Kd.S_typed aC.o) (by decide) hg) (a2 (qBr (g := aQ) (o := .cells #[.string ⟨#[]⟩, .slice none 0 0, .slice none 0 0, .slice none 0 0] 26 (0, 0)) aD.o hg (Kd.S_ne aC.o aD.o (by decide))) (a2 (qBr (g := aT) (o := .cells #[.string aX, aR, aV, .slice none 0 0] 26 (0, 0)) aG.o hg (Kd.S_ne aC.o aG.o (by decide))) (a2 (qAv.grown aE.o hg (qAv.own_neS aE.o aC.o (by decide))) (a2 (hb) (am (ho)))))); clear aA aD aG aE aY HB aC bb bc bd; obtain ⟨aA, aD, aG, aE, HB, dJ⟩ := n_; clear ho hb hg eX; obtain ⟨dN, dT, gf⟩ := Kd.S_slice dJ.o; subst gf; have fp : h9.cell? ⟨aT, 2, none⟩ = some (aV) := (qAa aG.o 2).trans rfl; have gV := qAb aG.o 2; have gW := qAb aG.o 3))
             go_roundg bW
             case measure => have := cW.o; have := cX.o; have := bp.o; have := dH.o; have := cO.o; omega
             case rel => exact ⟨(wrap64 (b8 + 1)), (ci), (cj), (cm), (.slice dN cm.length dT), (by rfl), H', ⟨by have := cW.o; have := cX.o; have := bp.o; have := dH.o; have := cO.o; omega⟩, ⟨by exact Kd.R_mono (Kd.R_far (p := ⟨aT, 2, none⟩) (Kd.R_types aA.o aG.o (by decide)) (fun _ hk => hk.2) (.slice dN cm.length dT)) (fun _ hk => trivial)⟩, ⟨by exact Kd.S_mono (Kd.S_far (p := ⟨aT, 2, none⟩) (Kd.S_types dJ.o aG.o (by decide)) (fun _ hk => hk.2) (.slice dN cm.length dT)) (fun _ hk => trivial)⟩, ⟨by refine qAz ?_ ar.o _; exact aD.o⟩, ⟨by refine qAx (cs := #[.string aX, aR, aV, .slice none 0 0]) ?_ 2 _ rfl; exact aG.o⟩, ⟨by repeat (with_reducible first | exact aE.o | refine qAv.far ?_ bU.o _)⟩, ⟨by repeat (with_reducible first | exact HB.o | refine qAs ?_ cJ.o)⟩⟩
            replace fR := Bool.eq_false_iff.mpr fR
            subst fR
            replace H : ((qA1.f bW aN ak ad).bind fun bj => (qAc.l2 bW bj.1 0 aN bj.2.1 bj.2.2 aX aH aJ ([] : List (S103)))) = some (r1, r2, r3, r4, r5) := by rw [if_neg (show ¬ (false = true) by decide)] at H; exact H
            replace H := bm H
            obtain ⟨⟨bZ, d4, d5⟩, dr, H⟩ := H
            replace H : (qAc.l2 bW bZ 0 aN d4 d5 aX aH aJ ([] : List (S103))) = some (r1, r2, r3, r4, r5) := H
            have hO := am dr
            clear dr
            have H' := am H
            clear H
            go_wp2_with ((with_reducible refine qAk (f := 68) rfl ?_); refine gL 92 Tryz.func68 #[.pointer (some ⟨a1, 0, none⟩)] ?_; (with_reducible refine (qA1.calls bW a1 aN ak ad bZ d4 d5 w _ ?side1 ?side2 hO.o).mono ?_); (case side1 => exact aE.o); (case side2 => exact HB.o); rintro e hq ⟨rfl, hi, hb, hk⟩; refine ⟨_, rfl, ?_⟩; have n_ := a2 (Kd.R_kp (qAv.apart aE.o aA.o (by decide)) hk) (a2 (Kd.S_mono (Kd.S_keep (qAv.apartS aE.o aC.o (by decide)) hk (fun _ h => h.2)) (fun _ h => h.1)) (a2 (qAg.blk hk aD.o aZ.o (by simp)) (a2 (qAg.blk hk aG.o a3.o (by simp)) (a2 (hb) (am (hi)))))); clear aA aC aD aG HB aE; obtain ⟨aA, aC, aD, aG, HB, aE⟩ := n_)
            go_loopg [11] bW (fun kq hW w' => ∃ (bB : Int) (aa : Int) (a8 : Int) (aK : List (S103)) (ae : Value), hW = .int .i64 bB ∧ qAe (qAc.l2 kq bZ bB aN aa a8 aX aH aJ aK = some (r1, r2, r3, r4, r5)) ∧ qAe (kq ≤ bW) ∧ qAe (Kd.R k95 95 w' w.heap.size (fun _ => True) aR aH) ∧ qAe (Kd.S k100 100 w' w.heap.size (fun _ => True) aV aJ) ∧ qAe (Kd.R k103 103 w' w.heap.size (fun _ => True) ae aK) ∧ qAe (w'.heap[aQ]? = some (.cells #[.string ⟨#[]⟩, (.slice none 0 0), (.slice none 0 0), (.slice none 0 0)] 26 (0, 0))) ∧ qAe (w'.heap[aT]? = some (.cells #[.string aX, aR, aV, ae] 26 (0, 0))) ∧ qAe (qAv w w' a1 aN aa a8) ∧ qAe (Below w.heap.size w w'))
            case atStart => exact ⟨(0), (d4), (d5), ([] : List (S103)), (.slice none 0 0), (by rfl), H', ⟨Nat.le_refl _⟩, ⟨by exact aA.o⟩, ⟨by exact aC.o⟩, ⟨by (exact Kd.R_nil _ _ _ _ _)⟩, ⟨by exact aD.o⟩, ⟨by exact aG.o⟩, ⟨by exact aE.o⟩, ⟨by exact HB.o⟩⟩
            case round =>
             clear H'
             obtain ⟨bB, aa, a8, aK, ae, rfl, HA, fN, aA, aC, aI, aD, aG, aE, HB⟩ := hrel
             cases gk with
             | zero => exact absurd HA.o (by simp [qAc.l2])
             | succ k6 =>
              have H := HA.o
              clear HA
              simp only [qAc.l2] at H
              have dQ := am H
              clear H
              go_upto_region 24 with (fail)
              go_cut [102] (fun gs wc => ∃ (kq : Nat) (b9 : Bool), gs = .bool b9 ∧ qAe (qAc.j6 kq bZ bB b9 aN aa a8 aX aH aJ aK = some (r1, r2, r3, r4, r5)) ∧ qAe (kq ≤ k6) ∧ qAe (Kd.R k95 95 wc w.heap.size (fun _ => True) aR aH) ∧ qAe (Kd.S k100 100 wc w.heap.size (fun _ => True) aV aJ) ∧ qAe (Kd.R k103 103 wc w.heap.size (fun _ => True) ae aK) ∧ qAe (wc.heap[aQ]? = some (.cells #[.string ⟨#[]⟩, (.slice none 0 0), (.slice none 0 0), (.slice none 0 0)] 26 (0, 0))) ∧ qAe (wc.heap[aT]? = some (.cells #[.string aX, aR, aV, ae] 26 (0, 0))) ∧ qAe (qAv w wc a1 aN aa a8) ∧ qAe (Below w.heap.size w wc))
              case first =>
               have H := dQ.o
               clear dQ
               by_cases de : bB < bZ
               rotate_left
               ·rw [if_neg de] at H
                replace de := d0 de
                (skip)
                have H' := am H
                clear H
                go_wp2
                go_meet
                case rel => exact ⟨_, (false), (by rfl), H', ⟨by have := cW.o; have := cX.o; have := bp.o; have := dH.o; have := cO.o; have := fN.o; (omega)⟩, ⟨by exact aA.o⟩, ⟨by exact aC.o⟩, ⟨by exact aI.o⟩, ⟨by exact aD.o⟩, ⟨by exact aG.o⟩, ⟨by exact aE.o⟩, ⟨by exact HB.o⟩⟩
               rw [if_pos de] at H
               replace de := d1 de
               (skip)
               have H' := am H
               clear H
               obtain ⟨ASz81_0, cSz81_0, HGz81, hgz81, HSz81_0⟩ := aE.o
               have fq := qB4 HGz81
               clear HGz81 hgz81
               go_wp2
               go_meet
               case rel => exact ⟨_, (a8 == 0), (by rfl), H', ⟨by have := cW.o; have := cX.o; have := bp.o; have := dH.o; have := cO.o; have := fN.o; (omega)⟩, ⟨by exact aA.o⟩, ⟨by exact aC.o⟩, ⟨by exact aI.o⟩, ⟨by exact aD.o⟩, ⟨by exact aG.o⟩, ⟨by exact aE.o⟩, ⟨by exact HB.o⟩⟩
              case rest =>
               clear dQ
               obtain ⟨kq, b9, rfl, HA, dz, aA, aC, aI, aD, aG, aE, HB⟩ := hcut
               cases kq with
               | zero => exact absurd HA.o (by simp [qAc.j6])
               | succ ao =>
                have H := HA.o
                clear HA
                simp only [qAc.j6] at H
                by_cases fT : b9 = true
                rotate_left
                ·replace fT := Bool.eq_false_iff.mpr fT
                 subst fT
                 replace H : ((qAY.f aN aa a8).bind fun cY => (if cY.1 = 0 then ((qAi.f ao aX aH aJ aK).bind fun b7 => (if b7 = 0 then (some (aX, aH, aJ, aK, 0)) else (some ((⟨#[]⟩ : ByteArray), ([] : List (S95)), ([] : List (S100)), ([] : List (S103)), 52)))) else (some ((⟨#[]⟩ : ByteArray), ([] : List (S95)), ([] : List (S100)), ([] : List (S103)), 52)))) = some (r1, r2, r3, r4, r5) := by rw [if_neg (show ¬ (false = true) by decide)] at H; exact H
                 replace H := bm H
                 obtain ⟨⟨cH, da, db⟩, dF, H⟩ := H
                 replace H : (if cH = 0 then ((qAi.f ao aX aH aJ aK).bind fun b7 => (if b7 = 0 then (some (aX, aH, aJ, aK, 0)) else (some ((⟨#[]⟩ : ByteArray), ([] : List (S95)), ([] : List (S100)), ([] : List (S103)), 52)))) else (some ((⟨#[]⟩ : ByteArray), ([] : List (S95)), ([] : List (S100)), ([] : List (S103)), 52))) = some (r1, r2, r3, r4, r5) := H
                 have dM := am dF
                 clear dF
                 by_cases cZ : cH = 0
                 rotate_left
                 ·rw [if_neg cZ] at H
                  have dR : (cH != 0) = true := bne_iff_ne.mpr cZ
                  simp only [Option.some.injEq, Prod.mk.injEq] at H
                  obtain ⟨rfl, rfl, rfl, rfl, rfl⟩ := H
                  go_wp2_with ((with_reducible refine qAk (f := 73) rfl ?_); refine gL 126 Tryz.func73 #[.pointer (some ⟨a1, 0, none⟩)] ?_; (with_reducible refine (qAY.calls a1 aN aa a8 cH da db w _ ?side1 ?side2 dM.o).mono ?_); (case side1 => exact aE.o); (case side2 => exact HB.o); rintro e dD ⟨rfl, hi, hb, hk⟩; refine ⟨_, rfl, ?_⟩; have n_ := a2 (qAg.blk hk aD.o aZ.o (by simp)) (am (hb)); clear aA aC aI aD aG HB aE; obtain ⟨aD, HB⟩ := n_; have ep : dD.cell? ⟨aQ, 0, none⟩ = some (.string ⟨#[]⟩) := (qAa aD.o 0).trans rfl; have eq : dD.cell? ⟨aQ, 1, none⟩ = some (.slice none 0 0) := (qAa aD.o 1).trans rfl; have er : dD.cell? ⟨aQ, 2, none⟩ = some (.slice none 0 0) := (qAa aD.o 2).trans rfl; have es : dD.cell? ⟨aQ, 3, none⟩ = some (.slice none 0 0) := (qAa aD.o 3).trans rfl; have fE := qAb aD.o 0; have fF := qAb aD.o 1; have fG := qAb aD.o 2; have fH := qAb aD.o 3)
                  refine bodyPost_ret (qBW rfl _ _ aQ 26 #[.string ⟨#[]⟩, .slice none 0 0, .slice none 0 0, .slice none 0 0] (0, 0) _ rfl (by refine qAx (cs := #[.string ⟨#[]⟩, .slice none 0 0, .slice none 0 0, .slice none 0 0]) ?_ 3 _ rfl; refine qAx (cs := #[.string ⟨#[]⟩, .slice none 0 0, .slice none 0 0, .slice none 0 0]) ?_ 2 _ rfl; refine qAx (cs := #[.string ⟨#[]⟩, .slice none 0 0, .slice none 0 0, .slice none 0 0]) ?_ 1 _ rfl; refine qAx (cs := #[.string ⟨#[]⟩, .slice none 0 0, .slice none 0 0, .slice none 0 0]) ?_ 0 _ rfl; exact aD.o) Tryz.underlying26 rfl (by kernel_rfl)) rfl ?_
                  exact ⟨_, _, _, by rfl, by (exact Kd.R_nil _ _ _ _ _), by (exact Kd.S_nil _ _ _ _ _), by (exact Kd.R_nil _ _ _ _ _), by repeat (with_reducible first | exact HB.o | refine qAs ?_ br.o)⟩
                 rw [if_pos cZ] at H
                 have dR : (cH != 0) = false := bn cZ
                 clear cZ
                 replace H := bm H
                 obtain ⟨b7, dG, H⟩ := H
                 replace H : (if b7 = 0 then (some (aX, aH, aJ, aK, 0)) else (some ((⟨#[]⟩ : ByteArray), ([] : List (S95)), ([] : List (S100)), ([] : List (S103)), 52))) = some (r1, r2, r3, r4, r5) := H
                 have dg := am dG
                 clear dG
                 by_cases c1 : b7 = 0
                 rotate_left
                 ·rw [if_neg c1] at H
                  have dS : (b7 != 0) = true := bne_iff_ne.mpr c1
                  simp only [Option.some.injEq, Prod.mk.injEq] at H
                  obtain ⟨rfl, rfl, rfl, rfl, rfl⟩ := H
                  go_wp2_with (first | ((with_reducible refine qAk (f := 73) rfl ?_); refine gL 126 Tryz.func73 #[.pointer (some ⟨a1, 0, none⟩)] ?_; (with_reducible refine (qAY.calls a1 aN aa a8 cH da db w _ ?side1 ?side2 dM.o).mono ?_); (case side1 => exact aE.o); (case side2 => exact HB.o); rintro e dB ⟨rfl, hi, hb, hk⟩; refine ⟨_, rfl, ?_⟩; have n_ := a2 (Kd.R_kp (qAv.apart aE.o aA.o (by decide)) hk) (a2 (Kd.S_mono (Kd.S_keep (qAv.apartS aE.o aC.o (by decide)) hk (fun _ h => h.2)) (fun _ h => h.1)) (a2 (Kd.R_kp (qAv.apart aE.o aI.o (by decide)) hk) (a2 (qAg.blk hk aD.o aZ.o (by simp)) (a2 (qAg.blk hk aG.o a3.o (by simp)) (a2 (hb) (am (hi))))))); clear aA aC aI aD aG HB aE; obtain ⟨aA, aC, aI, aD, aG, HB, aE⟩ := n_; have eh : dB.cell? ⟨aT, 0, none⟩ = some (.string aX) := (qAa aG.o 0).trans rfl; have ei : dB.cell? ⟨aT, 1, none⟩ = some (aR) := (qAa aG.o 1).trans rfl; have ej : dB.cell? ⟨aT, 2, none⟩ = some (aV) := (qAa aG.o 2).trans rfl; have ek : dB.cell? ⟨aT, 3, none⟩ = some (ae) := (qAa aG.o 3).trans rfl; obtain ⟨gw, hB, eU⟩ := Kd.R_slice aA.o; subst eU; obtain ⟨gx, hC, eV⟩ := Kd.S_slice aC.o; subst eV; obtain ⟨gy, hD, eW⟩ := Kd.R_slice aI.o; subst eW) | (go_at_call 11; (with_reducible refine (qAi.calls ao aX _ _ aH _ _ aJ _ _ aK b7 _ ?side1 ?side2 ?side3 ?side4 ?side5 ?side6 dg.o).mono ?_); (case side1 => exact (Kd.R_reads' aA.o).2.2); (case side2 => exact (Kd.R_reads' aA.o).2.1); (case side3 => exact (Kd.S_reads' aC.o).2.2); (case side4 => exact (Kd.S_reads' aC.o).2.1); (case side5 => exact (Kd.R_reads' aI.o).2.2); (case side6 => exact (Kd.R_reads' aI.o).2.1); rintro e dC ⟨rfl, hb⟩; have n_ := a2 (qA4 aD.o hb) (am (qAp HB.o hb)); clear aA aC aI aD aG aE HB; obtain ⟨aD, HB⟩ := n_; have el : dC.cell? ⟨aQ, 0, none⟩ = some (.string ⟨#[]⟩) := (qAa aD.o 0).trans rfl; have em : dC.cell? ⟨aQ, 1, none⟩ = some (.slice none 0 0) := (qAa aD.o 1).trans rfl; have en : dC.cell? ⟨aQ, 2, none⟩ = some (.slice none 0 0) := (qAa aD.o 2).trans rfl; have eo : dC.cell? ⟨aQ, 3, none⟩ = some (.slice none 0 0) := (qAa aD.o 3).trans rfl; have fA := qAb aD.o 0; have fB := qAb aD.o 1; have fC := qAb aD.o 2; have fD := qAb aD.o 3))
                  refine bodyPost_ret (qBW rfl _ _ aQ 26 #[.string ⟨#[]⟩, .slice none 0 0, .slice none 0 0, .slice none 0 0] (0, 0) _ rfl (by refine qAx (cs := #[.string ⟨#[]⟩, .slice none 0 0, .slice none 0 0, .slice none 0 0]) ?_ 3 _ rfl; refine qAx (cs := #[.string ⟨#[]⟩, .slice none 0 0, .slice none 0 0, .slice none 0 0]) ?_ 2 _ rfl; refine qAx (cs := #[.string ⟨#[]⟩, .slice none 0 0, .slice none 0 0, .slice none 0 0]) ?_ 1 _ rfl; refine qAx (cs := #[.string ⟨#[]⟩, .slice none 0 0, .slice none 0 0, .slice none 0 0]) ?_ 0 _ rfl; exact aD.o) Tryz.underlying26 rfl (by kernel_rfl)) rfl ?_
                  exact ⟨_, _, _, by rfl, by (exact Kd.R_nil _ _ _ _ _), by (exact Kd.S_nil _ _ _ _ _), by (exact Kd.R_nil _ _ _ _ _), by repeat (with_reducible first | exact HB.o | refine qAs ?_ br.o)⟩
                 rw [if_pos c1] at H
                 have dS : (b7 != 0) = false := bn c1
                 clear c1
                 simp only [Option.some.injEq, Prod.mk.injEq] at H
                 obtain ⟨rfl, rfl, rfl, rfl, rfl⟩ := H
                 go_wp2_with (first | ((with_reducible refine qAk (f := 73) rfl ?_); refine gL 126 Tryz.func73 #[.pointer (some ⟨a1, 0, none⟩)] ?_; (with_reducible refine (qAY.calls a1 aN aa a8 cH da db w _ ?side1 ?side2 dM.o).mono ?_); (case side1 => exact aE.o); (case side2 => exact HB.o); rintro e dA ⟨rfl, hi, hb, hk⟩; refine ⟨_, rfl, ?_⟩; have n_ := a2 (Kd.R_kp (qAv.apart aE.o aA.o (by decide)) hk) (a2 (Kd.S_mono (Kd.S_keep (qAv.apartS aE.o aC.o (by decide)) hk (fun _ h => h.2)) (fun _ h => h.1)) (a2 (Kd.R_kp (qAv.apart aE.o aI.o (by decide)) hk) (a2 (qAg.blk hk aD.o aZ.o (by simp)) (a2 (qAg.blk hk aG.o a3.o (by simp)) (a2 (hb) (am (hi))))))); clear aA aC aI aD aG HB aE; obtain ⟨aA, aC, aI, aD, aG, HB, aE⟩ := n_; have e5 : dA.cell? ⟨aT, 0, none⟩ = some (.string aX) := (qAa aG.o 0).trans rfl; have e6 : dA.cell? ⟨aT, 1, none⟩ = some (aR) := (qAa aG.o 1).trans rfl; have e7 : dA.cell? ⟨aT, 2, none⟩ = some (aV) := (qAa aG.o 2).trans rfl; have e8 : dA.cell? ⟨aT, 3, none⟩ = some (ae) := (qAa aG.o 3).trans rfl; obtain ⟨ba, bl, eR⟩ := Kd.R_slice aA.o; subst eR; obtain ⟨bq, bw, eS⟩ := Kd.S_slice aC.o; subst eS; obtain ⟨cB, cD, eT⟩ := Kd.R_slice aI.o; subst eT) | (go_at_call 11; (with_reducible refine (qAi.calls ao aX _ _ aH _ _ aJ _ _ aK b7 _ ?side1 ?side2 ?side3 ?side4 ?side5 ?side6 dg.o).mono ?_); (case side1 => exact (Kd.R_reads' aA.o).2.2); (case side2 => exact (Kd.R_reads' aA.o).2.1); (case side3 => exact (Kd.S_reads' aC.o).2.2); (case side4 => exact (Kd.S_reads' aC.o).2.1); (case side5 => exact (Kd.R_reads' aI.o).2.2); (case side6 => exact (Kd.R_reads' aI.o).2.1); rintro e cF ⟨rfl, hb⟩; have n_ := a2 (Kd.R_below aA.o hb) (a2 (Kd.S_below aC.o hb) (a2 (Kd.R_below aI.o hb) (a2 (qA4 aD.o hb) (a2 (qA4 aG.o hb) (am (qAp HB.o hb)))))); clear aA aC aI aD aG aE HB; obtain ⟨aA, aC, aI, aD, aG, HB⟩ := n_; have e9 : cF.cell? ⟨aT, 0, none⟩ = some (.string aX) := (qAa aG.o 0).trans rfl; have ea : cF.cell? ⟨aT, 1, none⟩ = some (.slice ba aH.length bl) := (qAa aG.o 1).trans rfl; have eb : cF.cell? ⟨aT, 2, none⟩ = some (.slice bq aJ.length bw) := (qAa aG.o 2).trans rfl; have ec : cF.cell? ⟨aT, 3, none⟩ = some (.slice cB aK.length cD) := (qAa aG.o 3).trans rfl; have ed : cF.cell? ⟨aQ, 0, none⟩ = some (.string ⟨#[]⟩) := (qAa aD.o 0).trans rfl; have ee : cF.cell? ⟨aQ, 1, none⟩ = some (.slice none 0 0) := (qAa aD.o 1).trans rfl; have ef : cF.cell? ⟨aQ, 2, none⟩ = some (.slice none 0 0) := (qAa aD.o 2).trans rfl; have eg : cF.cell? ⟨aQ, 3, none⟩ = some (.slice none 0 0) := (qAa aD.o 3).trans rfl; have ew := qAb aD.o 0; have ex := qAb aD.o 1; have ey := qAb aD.o 2; have ez := qAb aD.o 3))
                 refine bodyPost_ret (qBW rfl _ _ aQ 26 #[.string aX, .slice ba aH.length bl, .slice bq aJ.length bw, .slice cB aK.length cD] (0, 0) _ rfl (by refine qAx (cs := #[.string aX, .slice ba aH.length bl, .slice bq aJ.length bw, .slice none 0 0]) ?_ 3 _ rfl; refine qAx (cs := #[.string aX, .slice ba aH.length bl, .slice none 0 0, .slice none 0 0]) ?_ 2 _ rfl; refine qAx (cs := #[.string aX, .slice none 0 0, .slice none 0 0, .slice none 0 0]) ?_ 1 _ rfl; refine qAx (cs := #[.string ⟨#[]⟩, .slice none 0 0, .slice none 0 0, .slice none 0 0]) ?_ 0 _ rfl; exact aD.o) Tryz.underlying26 rfl (by kernel_rfl)) rfl ?_
                 exact ⟨_, _, _, by rfl, by exact Kd.R_mono (Kd.R_far (p := ⟨aQ, 3, none⟩) (Kd.R_far (p := ⟨aQ, 2, none⟩) (Kd.R_far (p := ⟨aQ, 1, none⟩) (Kd.R_far (p := ⟨aQ, 0, none⟩) (Kd.R_types aA.o aD.o (by decide)) (fun _ hk => hk.2) (.string aX)) (fun _ hk => hk.2) (.slice ba aH.length bl)) (fun _ hk => hk.2) (.slice bq aJ.length bw)) (fun _ hk => hk.2) (.slice cB aK.length cD)) (fun _ hk => trivial), by exact Kd.S_mono (Kd.S_far (p := ⟨aQ, 3, none⟩) (Kd.S_far (p := ⟨aQ, 2, none⟩) (Kd.S_far (p := ⟨aQ, 1, none⟩) (Kd.S_far (p := ⟨aQ, 0, none⟩) (Kd.S_types aC.o aD.o (by decide)) (fun _ hk => hk.2) (.string aX)) (fun _ hk => hk.2) (.slice ba aH.length bl)) (fun _ hk => hk.2) (.slice bq aJ.length bw)) (fun _ hk => hk.2) (.slice cB aK.length cD)) (fun _ hk => trivial), by exact Kd.R_mono (Kd.R_far (p := ⟨aQ, 3, none⟩) (Kd.R_far (p := ⟨aQ, 2, none⟩) (Kd.R_far (p := ⟨aQ, 1, none⟩) (Kd.R_far (p := ⟨aQ, 0, none⟩) (Kd.R_types aI.o aD.o (by decide)) (fun _ hk => hk.2) (.string aX)) (fun _ hk => hk.2) (.slice ba aH.length bl)) (fun _ hk => hk.2) (.slice bq aJ.length bw)) (fun _ hk => hk.2) (.slice cB aK.length cD)) (fun _ hk => trivial), by repeat (with_reducible first | exact HB.o | refine qAs ?_ br.o)⟩
                subst fT
                replace H : ((qAK.f ao aN aa a8).bind fun bk => ((qAK.f ao aN bk.2.1 bk.2.2).bind fun bQ => ((qAt.f ao aN bQ.2.1 bQ.2.2).bind fun ay => ((qAq.f ao aN ay.2.1 ay.2.2 32).bind fun aq => ((qAq.f ao aN aq.2.1 aq.2.2 32).bind fun af => (if aK.length < 2513169434916 then (qAc.l2 ao bZ (wrap64 (bB + 1)) aN af.2.1 af.2.2 aX aH aJ (aK ++ [(⟨bk.1, bQ.1, wrap64 (ay.1), aq.1, af.1⟩ : S103)])) else (none))))))) = some (r1, r2, r3, r4, r5) := by rw [if_pos rfl] at H; exact H
                replace H := bm H
                obtain ⟨⟨bA, d6, d7⟩, ds, H⟩ := H
                replace H : ((qAK.f ao aN d6 d7).bind fun bQ => ((qAt.f ao aN bQ.2.1 bQ.2.2).bind fun ay => ((qAq.f ao aN ay.2.1 ay.2.2 32).bind fun aq => ((qAq.f ao aN aq.2.1 aq.2.2 32).bind fun af => (if aK.length < 2513169434916 then (qAc.l2 ao bZ (wrap64 (bB + 1)) aN af.2.1 af.2.2 aX aH aJ (aK ++ [(⟨bA, bQ.1, wrap64 (ay.1), aq.1, af.1⟩ : S103)])) else (none)))))) = some (r1, r2, r3, r4, r5) := H
                have hP := am ds
                clear ds
                replace H := bm H
                obtain ⟨⟨bF, d8, d9⟩, dt, H⟩ := H
                replace H : ((qAt.f ao aN d8 d9).bind fun ay => ((qAq.f ao aN ay.2.1 ay.2.2 32).bind fun aq => ((qAq.f ao aN aq.2.1 aq.2.2 32).bind fun af => (if aK.length < 2513169434916 then (qAc.l2 ao bZ (wrap64 (bB + 1)) aN af.2.1 af.2.2 aX aH aJ (aK ++ [(⟨bA, bF, wrap64 (ay.1), aq.1, af.1⟩ : S103)])) else (none))))) = some (r1, r2, r3, r4, r5) := H
                have hQ := am dt
                clear dt
                replace H := bm H
                obtain ⟨⟨bK, cR, cS⟩, du, H⟩ := H
                replace H : ((qAq.f ao aN cR cS 32).bind fun aq => ((qAq.f ao aN aq.2.1 aq.2.2 32).bind fun af => (if aK.length < 2513169434916 then (qAc.l2 ao bZ (wrap64 (bB + 1)) aN af.2.1 af.2.2 aX aH aJ (aK ++ [(⟨bA, bF, wrap64 (bK), aq.1, af.1⟩ : S103)])) else (none)))) = some (r1, r2, r3, r4, r5) := H
                have hR := am du
                clear du
                replace H := bm H
                obtain ⟨⟨b0, cT, cU⟩, dv, H⟩ := H
                replace H : ((qAq.f ao aN cT cU 32).bind fun af => (if aK.length < 2513169434916 then (qAc.l2 ao bZ (wrap64 (bB + 1)) aN af.2.1 af.2.2 aX aH aJ (aK ++ [(⟨bA, bF, wrap64 (bK), b0, af.1⟩ : S103)])) else (none))) = some (r1, r2, r3, r4, r5) := H
                have hS := am dv
                clear dv
                replace H := bm H
                obtain ⟨⟨b6, ck, cl⟩, dw, H⟩ := H
                replace H : (if aK.length < 2513169434916 then (qAc.l2 ao bZ (wrap64 (bB + 1)) aN ck cl aX aH aJ (aK ++ [(⟨bA, bF, wrap64 (bK), b0, b6⟩ : S103)])) else (none)) = some (r1, r2, r3, r4, r5) := H
                have hT := am dw
                clear dw
                obtain ⟨fU, H⟩ := gd H
                have eE := am fU
                clear fU
                obtain ⟨cV, cd⟩ : ∃ y_ : List (S103), y_ = (aK ++ [(⟨bA, bF, wrap64 (bK), b0, b6⟩ : S103)]) := ⟨_, rfl⟩
                replace H : (qAc.l2 ao bZ (wrap64 (bB + 1)) aN ck cl aX aH aJ cV) = some (r1, r2, r3, r4, r5) := by (rw [cd]; with_reducible exact H)
                have eH := am cd
                clear cd
                have H' := am H
                clear H
                go_wp2_with (first | ((with_reducible refine qAk (f := 72) rfl ?_); refine gL 106 Tryz.func72 #[.pointer (some ⟨a1, 0, none⟩)] ?_; (with_reducible refine (qAK.calls ao a1 aN aa a8 bA d6 d7 w _ ?side1 ?side2 hP.o).mono ?_); (case side1 => exact aE.o); (case side2 => exact HB.o); rintro e hs ⟨rfl, hi, hb, hk⟩; refine ⟨_, rfl, ?_⟩; have n_ := a2 (Kd.R_kp (qAv.apart aE.o aA.o (by decide)) hk) (a2 (Kd.S_mono (Kd.S_keep (qAv.apartS aE.o aC.o (by decide)) hk (fun _ h => h.2)) (fun _ h => h.1)) (a2 (Kd.R_kp (qAv.apart aE.o aI.o (by decide)) hk) (a2 (qAg.blk hk aD.o aZ.o (by simp)) (a2 (qAg.blk hk aG.o a3.o (by simp)) (a2 (hb) (am (hi))))))); clear aA aC aI aD aG HB aE; obtain ⟨aA, aC, aI, aD, aG, HB, aE⟩ := n_) | ((with_reducible refine qAk (f := 72) rfl ?_); refine gL 108 Tryz.func72 #[.pointer (some ⟨a1, 0, none⟩)] ?_; (with_reducible refine (qAK.calls ao a1 aN d6 d7 bF d8 d9 w _ ?side1 ?side2 hQ.o).mono ?_); (case side1 => exact aE.o); (case side2 => exact HB.o); rintro e ht ⟨rfl, hi, hb, hk⟩; refine ⟨_, rfl, ?_⟩; have n_ := a2 (Kd.R_kp (qAv.apart aE.o aA.o (by decide)) hk) (a2 (Kd.S_mono (Kd.S_keep (qAv.apartS aE.o aC.o (by decide)) hk (fun _ h => h.2)) (fun _ h => h.1)) (a2 (Kd.R_kp (qAv.apart aE.o aI.o (by decide)) hk) (a2 (qAg.blk hk aD.o aZ.o (by simp)) (a2 (qAg.blk hk aG.o a3.o (by simp)) (a2 (hb) (am (hi))))))); clear aA aC aI aD aG HB aE; obtain ⟨aA, aC, aI, aD, aG, HB, aE⟩ := n_) | ((with_reducible refine qAk (f := 69) rfl ?_); refine gL 110 Tryz.func69 #[.pointer (some ⟨a1, 0, none⟩)] ?_; (with_reducible refine (qAt.calls ao a1 aN d8 d9 bK cR cS w _ ?side1 ?side2 hR.o).mono ?_); (case side1 => exact aE.o); (case side2 => exact HB.o); rintro e hu ⟨rfl, hi, hb, hk⟩; refine ⟨_, rfl, ?_⟩; have n_ := a2 (Kd.R_kp (qAv.apart aE.o aA.o (by decide)) hk) (a2 (Kd.S_mono (Kd.S_keep (qAv.apartS aE.o aC.o (by decide)) hk (fun _ h => h.2)) (fun _ h => h.1)) (a2 (Kd.R_kp (qAv.apart aE.o aI.o (by decide)) hk) (a2 (qAg.blk hk aD.o aZ.o (by simp)) (a2 (qAg.blk hk aG.o a3.o (by simp)) (a2 (hb) (am (hi))))))); clear aA aC aI aD aG HB aE; obtain ⟨aA, aC, aI, aD, aG, HB, aE⟩ := n_) | ((with_reducible refine qAO (N := 12) rfl ?_); refine bx 12 #[.int .i64 0, .int .i64 0, .int .i64 0, .string ⟨#[]⟩, .string ⟨#[]⟩] 103 ?_; intro aU hg fL hbox hb; have n_ := a2 (Kd.R_below aA.o hb) (a2 (Kd.S_below aC.o hb) (a2 (Kd.R_below (Kd.R_elderB aI.o aU (Nat.le_of_eq hg.symm)) hb) (a2 (qA4 aD.o hb) (a2 (qA4 aG.o hb) (a2 (qAv.below aE.o hb) (a2 (qAp HB.o hb) (a2 (hbox) (a2 (by rw [hg]; exact (qA5 HB.o) : w.heap.size ≤ aU) (a2 (by rw [hg]; exact Nat.ne_of_lt (qBo aD.o) : aQ ≠ aU) (a2 (by rw [hg]; exact Nat.ne_of_lt (qBo aG.o) : aT ≠ aU) (a2 (by rw [hg]; exact Nat.ne_of_lt (qAv.lt aE.o) : a1 ≠ aU) (am (by rw [hg]; exact Nat.ne_of_gt (qAv.lt aE.o) : aU ≠ a1))))))))))))); clear aA aC aI aD aG aE HB; obtain ⟨aA, aC, aI, aD, aG, aE, HB, a5, cL, au, av, ah, bu⟩ := n_; clear hb hbox hg; have fr : fL.cell? ⟨aU, 0, none⟩ = some (.int .i64 0) := (qAa a5.o 0).trans rfl; have fs : fL.cell? ⟨aU, 1, none⟩ = some (.int .i64 0) := (qAa a5.o 1).trans rfl; have ft : fL.cell? ⟨aU, 2, none⟩ = some (.int .i64 0) := (qAa a5.o 2).trans rfl; have fu : fL.cell? ⟨aU, 3, none⟩ = some (.string ⟨#[]⟩) := (qAa a5.o 3).trans rfl; have fv : fL.cell? ⟨aU, 4, none⟩ = some (.string ⟨#[]⟩) := (qAa a5.o 4).trans rfl; have gX := qAb a5.o 0; have gY := qAb a5.o 1; have gZ := qAb a5.o 2; have g0 := qAb a5.o 3; have g1 := qAb a5.o 4) | ((with_reducible refine qAk (f := 67) rfl ?_); refine gL 114 Tryz.func67 #[.pointer (some ⟨a1, 0, none⟩), .int .i64 32] ?_; (with_reducible refine (qAq.calls ao a1 aN cR cS 32 b0 cT cU w _ ?side1 ?side2 hS.o).mono ?_); (case side1 => repeat (with_reducible first | exact aE.o | refine qAv.far ?_ ah.o _)); (case side2 => repeat (with_reducible first | exact HB.o | refine qAs ?_ cL.o)); rintro e ha ⟨rfl, hi, hb, hk⟩; refine ⟨_, rfl, ?_⟩; have n_ := a2 (Kd.R_kp (qAv.apart (show qAv w _ a1 aN cR cS from by repeat (with_reducible first | exact aE.o | refine qAv.far ?_ ah.o _)) (by exact (Kd.R_mono (Kd.R_far (p := ⟨aU, 4, none⟩) (Kd.R_far (p := ⟨aU, 3, none⟩) (Kd.R_far (p := ⟨aU, 2, none⟩) (Kd.R_far (p := ⟨aU, 1, none⟩) (Kd.R_far (p := ⟨aU, 0, none⟩) (Kd.R_types aA.o a5.o (by decide)) (fun _ hk => hk.2) (.int .i64 bA)) (fun _ hk => hk.2) (.int .i64 bF)) (fun _ hk => hk.2) (.int .i64 (wrap64 (bK)))) (fun _ hk => hk.2) (.string ⟨#[]⟩)) (fun _ hk => hk.2) (.string ⟨#[]⟩)) (fun _ h_ => h_.1))) (by decide)) hk) (a2 (Kd.S_mono (Kd.S_keep (qAv.apartS (show qAv w _ a1 aN cR cS from by repeat (with_reducible first | exact aE.o | refine qAv.far ?_ ah.o _)) (by exact (Kd.S_mono (Kd.S_far (p := ⟨aU, 4, none⟩) (Kd.S_far (p := ⟨aU, 3, none⟩) (Kd.S_far (p := ⟨aU, 2, none⟩) (Kd.S_far (p := ⟨aU, 1, none⟩) (Kd.S_far (p := ⟨aU, 0, none⟩) (Kd.S_types aC.o a5.o (by decide)) (fun _ hk => hk.2) (.int .i64 bA)) (fun _ hk => hk.2) (.int .i64 bF)) (fun _ hk => hk.2) (.int .i64 (wrap64 (bK)))) (fun _ hk => hk.2) (.string ⟨#[]⟩)) (fun _ hk => hk.2) (.string ⟨#[]⟩)) (fun _ h_ => h_.1))) (by decide)) hk (fun _ h => h.2)) (fun _ h => h.1)) (a2 (Kd.R_kp (qAv.apart (show qAv w _ a1 aN cR cS from by repeat (with_reducible first | exact aE.o | refine qAv.far ?_ ah.o _)) (by exact (Kd.R_mono (Kd.R_far (p := ⟨aU, 4, none⟩) (Kd.R_far (p := ⟨aU, 3, none⟩) (Kd.R_far (p := ⟨aU, 2, none⟩) (Kd.R_far (p := ⟨aU, 1, none⟩) (Kd.R_far (p := ⟨aU, 0, none⟩) (Kd.R_mono aI.o (fun k_ hk => (⟨hk, hk.2⟩ : _ ∧ k_ ≠ aU))) (fun _ hk => hk.2) (.int .i64 bA)) (fun _ hk => hk.2) (.int .i64 bF)) (fun _ hk => hk.2) (.int .i64 (wrap64 (bK)))) (fun _ hk => hk.2) (.string ⟨#[]⟩)) (fun _ hk => hk.2) (.string ⟨#[]⟩)) (fun _ h_ => h_.1))) (by decide)) hk) (a2 (qAg.blk hk (g' := aQ) (o := .cells #[.string ⟨#[]⟩, .slice none 0 0, .slice none 0 0, .slice none 0 0] 26 (0, 0)) (by refine qAz ?_ au.o _; refine qAz ?_ au.o _; refine qAz ?_ au.o _; refine qAz ?_ au.o _; refine qAz ?_ au.o _; exact aD.o) aZ.o (by simp)) (a2 (qAg.blk hk (g' := aT) (o := .cells #[.string aX, aR, aV, ae] 26 (0, 0)) (by refine qAz ?_ av.o _; refine qAz ?_ av.o _; refine qAz ?_ av.o _; refine qAz ?_ av.o _; refine qAz ?_ av.o _; exact aG.o) a3.o (by simp)) (a2 (qAg.blk hk (g' := aU) (o := .cells #[.int .i64 bA, .int .i64 bF, .int .i64 (wrap64 (bK)), .string ⟨#[]⟩, .string ⟨#[]⟩] 103 (0, 0)) (by refine qAx (cs := #[.int .i64 bA, .int .i64 bF, .int .i64 (wrap64 (bK)), .string ⟨#[]⟩, .string ⟨#[]⟩]) ?_ 4 _ rfl; refine qAx (cs := #[.int .i64 bA, .int .i64 bF, .int .i64 (wrap64 (bK)), .string ⟨#[]⟩, .string ⟨#[]⟩]) ?_ 3 _ rfl; refine qAx (cs := #[.int .i64 bA, .int .i64 bF, .int .i64 0, .string ⟨#[]⟩, .string ⟨#[]⟩]) ?_ 2 _ rfl; refine qAx (cs := #[.int .i64 bA, .int .i64 0, .int .i64 0, .string ⟨#[]⟩, .string ⟨#[]⟩]) ?_ 1 _ rfl; refine qAx (cs := #[.int .i64 0, .int .i64 0, .int .i64 0, .string ⟨#[]⟩, .string ⟨#[]⟩]) ?_ 0 _ rfl; exact a5.o) bu.o (by simp)) (a2 (hb) (am (hi)))))))); clear aA aC aI aD aG a5 HB aE; obtain ⟨aA, aC, aI, aD, aG, a5, HB, aE⟩ := n_; have fw : ha.cell? ⟨aU, 3, none⟩ = some (.string ⟨#[]⟩) := (qAa a5.o 3).trans rfl; have g2 := qAb a5.o 3; have g3 := qAb a5.o 4) | ((with_reducible refine qAk (f := 67) rfl ?_); refine gL 117 Tryz.func67 #[.pointer (some ⟨a1, 0, none⟩), .int .i64 32] ?_; (with_reducible refine (qAq.calls ao a1 aN cT cU 32 b6 ck cl w _ ?side1 ?side2 hT.o).mono ?_); (case side1 => repeat (with_reducible first | exact aE.o | refine qAv.far ?_ ah.o _)); (case side2 => repeat (with_reducible first | exact HB.o | refine qAs ?_ cL.o)); rintro e df ⟨rfl, hi, hb, hk⟩; refine ⟨_, rfl, ?_⟩; have n_ := a2 (Kd.R_kp (qAv.apart (show qAv w _ a1 aN cT cU from by repeat (with_reducible first | exact aE.o | refine qAv.far ?_ ah.o _)) (by exact (Kd.R_mono (Kd.R_far (p := ⟨aU, 3, none⟩) (Kd.R_types aA.o a5.o (by decide)) (fun _ hk => hk.2) (.string b0)) (fun _ h_ => h_.1))) (by decide)) hk) (a2 (Kd.S_mono (Kd.S_keep (qAv.apartS (show qAv w _ a1 aN cT cU from by repeat (with_reducible first | exact aE.o | refine qAv.far ?_ ah.o _)) (by exact (Kd.S_mono (Kd.S_far (p := ⟨aU, 3, none⟩) (Kd.S_types aC.o a5.o (by decide)) (fun _ hk => hk.2) (.string b0)) (fun _ h_ => h_.1))) (by decide)) hk (fun _ h => h.2)) (fun _ h => h.1)) (a2 (Kd.R_kp (qAv.apart (show qAv w _ a1 aN cT cU from by repeat (with_reducible first | exact aE.o | refine qAv.far ?_ ah.o _)) (by exact (Kd.R_mono (Kd.R_far (p := ⟨aU, 3, none⟩) (Kd.R_mono aI.o (fun k_ hk => (⟨hk, hk.2⟩ : _ ∧ k_ ≠ aU))) (fun _ hk => hk.2) (.string b0)) (fun _ h_ => h_.1))) (by decide)) hk) (a2 (qAg.blk hk (g' := aQ) (o := .cells #[.string ⟨#[]⟩, .slice none 0 0, .slice none 0 0, .slice none 0 0] 26 (0, 0)) (by refine qAz ?_ au.o _; exact aD.o) aZ.o (by simp)) (a2 (qAg.blk hk (g' := aT) (o := .cells #[.string aX, aR, aV, ae] 26 (0, 0)) (by refine qAz ?_ av.o _; exact aG.o) a3.o (by simp)) (a2 (qAg.blk hk (g' := aU) (o := .cells #[.int .i64 bA, .int .i64 bF, .int .i64 (wrap64 (bK)), .string b0, .string ⟨#[]⟩] 103 (0, 0)) (by refine qAx (cs := #[.int .i64 bA, .int .i64 bF, .int .i64 (wrap64 (bK)), .string ⟨#[]⟩, .string ⟨#[]⟩]) ?_ 3 _ rfl; exact a5.o) bu.o (by simp)) (a2 (hb) (am (hi)))))))); clear aA aC aI aD aG a5 HB aE; obtain ⟨aA, aC, aI, aD, aG, a5, HB, aE⟩ := n_; have eY : df.cell? ⟨aU, 0, none⟩ = some (.int .i64 bA) := (qAa a5.o 0).trans rfl; have eZ : df.cell? ⟨aU, 1, none⟩ = some (.int .i64 bF) := (qAa a5.o 1).trans rfl; have e0 : df.cell? ⟨aU, 2, none⟩ = some (.int .i64 (wrap64 (bK))) := (qAa a5.o 2).trans rfl; have e1 : df.cell? ⟨aU, 3, none⟩ = some (.string b0) := (qAa a5.o 3).trans rfl; have e2 : df.cell? ⟨aU, 4, none⟩ = some (.string ⟨#[]⟩) := (qAa a5.o 4).trans rfl; have et := qAb a5.o 4; have e3 : df.cell? ⟨aT, 3, none⟩ = some (ae) := (qAa aG.o 3).trans rfl; have eu := qAb aG.o 3) | ((with_reducible refine qBG (b := .append) (xs := #[.tmp 120, .tmp 122]) rfl ?_); at_builtin; refine Kd.R_append k103 (w0 := w) w.heap.size rfl (.tmp 120) (.tmp 122) 24 103 (.agg #[(.int .i64 0), (.int .i64 0), (.int .i64 0), (.string ⟨#[]⟩), (.string ⟨#[]⟩)]) 56 rfl Tryz.underlying24 info103 rfl (by decide) (by omega) ae aK (⟨bA, bF, wrap64 (bK), b0, b6⟩ : S103) [.int .i64 bA, .int .i64 bF, .int .i64 (wrap64 (bK)), .string b0, .string b6] (fun k_ => k_ ≠ aU) (fun _ => False) rfl (by (go_simp; done)) ?aP (fun _ hk => hk.elim) ?aF ?aO ?aB ?aS ?aL ?_; (case aP => exact k103_mkM _ _ _ (⟨bA, bF, wrap64 (bK), b0, b6⟩ : S103)); (case aB => exact (by repeat (with_reducible first | exact HB.o | refine qAs ?_ cL.o))); (case aF => exact (fun k_ hk => Kd.freshB (g := aU) (o := .cells #[.int .i64 bA, .int .i64 bF, .int .i64 (wrap64 (bK)), .string b0, .string b6] 103 (0, 0)) (by refine qAx (cs := #[.int .i64 bA, .int .i64 bF, .int .i64 (wrap64 (bK)), .string b0, .string ⟨#[]⟩]) ?_ 4 _ rfl; exact a5.o) k_ hk)); (case aO => exact (by exact Kd.R_mono (Kd.R_far (p := ⟨aU, 4, none⟩) (Kd.R_mono aI.o (fun k_ hk => (⟨hk, hk.2⟩ : _ ∧ k_ ≠ aU))) (fun _ hk => hk.2) (.string b6)) (fun _ hk => hk.1.2))); (case aS => exact (qA5 (by repeat (with_reducible first | exact HB.o | refine qAs ?_ cL.o)))); (case aL => have := eE.o; omega); intro h5 gt ho hb hg eX; rw [← eH.o] at ho; have n_ := a2 (Kd.R_over' (by exact (Kd.R_mono (Kd.R_far (p := ⟨aU, 4, none⟩) (Kd.R_types aA.o a5.o (by decide)) (fun _ hk => hk.2) (.string b6)) (fun _ h_ => h_.1))) (Kd.R_typed (by exact (Kd.R_mono (Kd.R_far (p := ⟨aU, 4, none⟩) (Kd.R_mono aI.o (fun k_ hk => (⟨hk, hk.2⟩ : _ ∧ k_ ≠ aU))) (fun _ hk => hk.2) (.string b6)) (fun _ h_ => h_.1)))) (by decide) hg) (a2 (Kd.S_over' (by exact (Kd.S_mono (Kd.S_far (p := ⟨aU, 4, none⟩) (Kd.S_types aC.o a5.o (by decide)) (fun _ hk => hk.2) (.string b6)) (fun _ h_ => h_.1))) (Kd.R_typed (by exact (Kd.R_mono (Kd.R_far (p := ⟨aU, 4, none⟩) (Kd.R_mono aI.o (fun k_ hk => (⟨hk, hk.2⟩ : _ ∧ k_ ≠ aU))) (fun _ hk => hk.2) (.string b6)) (fun _ h_ => h_.1)))) (by decide) hg) (a2 (qBr (g := aQ) (o := .cells #[.string ⟨#[]⟩, .slice none 0 0, .slice none 0 0, .slice none 0 0] 26 (0, 0)) (by refine qAz ?_ au.o _; exact aD.o) hg (Kd.R_ne aI.o aD.o (by decide))) (a2 (qBr (g := aT) (o := .cells #[.string aX, aR, aV, ae] 26 (0, 0)) (by refine qAz ?_ av.o _; exact aG.o) hg (Kd.R_ne aI.o aG.o (by decide))) (a2 (qAv.grown (show qAv w _ a1 aN ck cl from by repeat (with_reducible first | exact aE.o | refine qAv.far ?_ ah.o _)) hg (qAv.own_ne aE.o aI.o (by decide))) (a2 (hb) (am (ho))))))); clear aA aC aD aG aE a5 HB aI; obtain ⟨aA, aC, aD, aG, aE, HB, dK⟩ := n_; clear ho hb hg eX; obtain ⟨cI, cM, eQ⟩ := Kd.R_slice dK.o; subst eQ; have e4 : gt.cell? ⟨aT, 3, none⟩ = some (ae) := (qAa aG.o 3).trans rfl; have ev := qAb aG.o 3))
                go_roundg ao
                case measure => have := cW.o; have := cX.o; have := bp.o; have := dH.o; have := cO.o; have := fN.o; have := dz.o; omega
                case rel => exact ⟨(wrap64 (bB + 1)), (ck), (cl), (cV), (.slice cI cV.length cM), (by rfl), H', ⟨by have := cW.o; have := cX.o; have := bp.o; have := dH.o; have := cO.o; have := fN.o; have := dz.o; omega⟩, ⟨by exact Kd.R_mono (Kd.R_far (p := ⟨aT, 3, none⟩) (Kd.R_types aA.o aG.o (by decide)) (fun _ hk => hk.2) (.slice cI cV.length cM)) (fun _ hk => trivial)⟩, ⟨by exact Kd.S_mono (Kd.S_far (p := ⟨aT, 3, none⟩) (Kd.S_types aC.o aG.o (by decide)) (fun _ hk => hk.2) (.slice cI cV.length cM)) (fun _ hk => trivial)⟩, ⟨by exact Kd.R_mono (Kd.R_far (p := ⟨aT, 3, none⟩) (Kd.R_types dK.o aG.o (by decide)) (fun _ hk => hk.2) (.slice cI cV.length cM)) (fun _ hk => trivial)⟩, ⟨by refine qAz ?_ ar.o _; exact aD.o⟩, ⟨by refine qAx (cs := #[.string aX, aR, aV, ae]) ?_ 3 _ rfl; exact aG.o⟩, ⟨by repeat (with_reducible first | exact aE.o | refine qAv.far ?_ bU.o _)⟩, ⟨by repeat (with_reducible first | exact HB.o | refine qAs ?_ cJ.o)⟩⟩
mutual
def foundrylaw15_ObjectReads.j0 : Nat → List Int → Bool → ByteArray → List (S85) → List (S92) → List (S104) → ByteArray → List (S95) → List (S100) → List (S103) → Option (Bool)
 | 0, _, _, _, _, _, _, _, _, _, _ => none
 | k + 1, x3, dH, av, aw, ax, ay, az, bA, bB, bC => if dH = true then (some false) else (foundrylaw15_ObjectReads.l0 k x3 0 av aw ax ay az bA bB bC)
def foundrylaw15_ObjectReads.l0 : Nat → List Int → Int → ByteArray → List (S85) → List (S92) → List (S104) → ByteArray → List (S95) → List (S100) → List (S103) → Option (Bool)
 | 0, _, _, _, _, _, _, _, _, _, _ => none
 | k + 1, x3, x8, av, aw, ax, ay, az, bA, bB, bC => if x8 < (x3.length : Int) then (if 0 ≤ x8 then (foundrylaw15_ObjectReads.l0 k (x3.set (x8 : Int).toNat (((rd x3 x8) + 1) % 256)) (wrap64 (x8 + 1)) av aw ax ay az bA bB bC) else (none)) else ((qBc.f av aw ax ay az bA bB bC).bind fun b5 => (some b5))
end
def foundrylaw15_ObjectReads.f (k : Nat) (l0 : List Int) : Option (Bool) := (some (([] : List Int) : List Int)).bind fun bD => (if bD.length + l0.length < 140737488355328 then ((some (bD ++ l0 : List Int)).bind fun aH => ((qAd.f k aH).bind fun aC => ((qAc.f k l0).bind fun aA => (if aC.2.2.2.2 = aA.2.2.2.2 then ((qBc.f aC.1 aC.2.1 aC.2.2.1 aC.2.2.2.1 aA.1 aA.2.1 aA.2.2.1 aA.2.2.2.1).bind fun au => (if au = true then (if (strOfNums aH).toList = (strOfNums l0).toList then ((qBb.f k).bind fun ai => (foundrylaw15_ObjectReads.j0 k aH (!ai) aC.1 aC.2.1 aC.2.2.1 aC.2.2.2.1 aA.1 aA.2.1 aA.2.2.1 aA.2.2.2.1)) else (foundrylaw15_ObjectReads.j0 k aH true aC.1 aC.2.1 aC.2.2.1 aC.2.2.2.1 aA.1 aA.2.1 aA.2.2.1 aA.2.2.2.1)) else (foundrylaw15_ObjectReads.j0 k aH true aC.1 aC.2.1 aC.2.2.1 aC.2.2.2.1 aA.1 aA.2.1 aA.2.2.1 aA.2.2.2.1))) else (foundrylaw15_ObjectReads.j0 k aH true aC.1 aC.2.1 aC.2.2.1 aC.2.2.2.1 aA.1 aA.2.1 aA.2.2.1 aA.2.2.2.1))))) else (none))
theorem foundrylaw15_ObjectReads.calls (k : Nat) (A0 : Option Addr) (c0 : Nat) (l0 : List Int) (r : Bool) (hr : r = true) (w : World) (hr0 : Kd.C (Kd.int .u8) w A0 l0.length l0) (hc0 : l0.length ≤ c0) (h : foundrylaw15_ObjectReads.f k l0 = some r) :
  Calls Tryz.prog 5 #[.slice A0 l0.length c0] w fun e w' => e = .returned (.bool r) ∧ Below w.heap.size w w' := by
 have cQ := am hr0
 have ct := am hc0
 clear hr0 hc0
 have HB := am (Below.refl w.heap.size w)
 have H : ((some (([] : List Int) : List Int)).bind fun bD => (if bD.length + l0.length < 140737488355328 then ((some (bD ++ l0 : List Int)).bind fun aH => ((qAd.f k aH).bind fun aC => ((qAc.f k l0).bind fun aA => (if aC.2.2.2.2 = aA.2.2.2.2 then ((qBc.f aC.1 aC.2.1 aC.2.2.1 aC.2.2.2.1 aA.1 aA.2.1 aA.2.2.1 aA.2.2.2.1).bind fun au => (if au = true then (if (strOfNums aH).toList = (strOfNums l0).toList then ((qBb.f k).bind fun ai => (foundrylaw15_ObjectReads.j0 k aH (!ai) aC.1 aC.2.1 aC.2.2.1 aC.2.2.2.1 aA.1 aA.2.1 aA.2.2.1 aA.2.2.2.1)) else (foundrylaw15_ObjectReads.j0 k aH true aC.1 aC.2.1 aC.2.2.1 aC.2.2.2.1 aA.1 aA.2.1 aA.2.2.1 aA.2.2.2.1)) else (foundrylaw15_ObjectReads.j0 k aH true aC.1 aC.2.1 aC.2.2.1 aC.2.2.2.1 aA.1 aA.2.1 aA.2.2.1 aA.2.2.2.1))) else (foundrylaw15_ObjectReads.j0 k aH true aC.1 aC.2.1 aC.2.2.1 aC.2.2.2.1 aA.1 aA.2.1 aA.2.2.1 aA.2.2.2.1))))) else (none))) = some r := h
 clear h
 obtain ⟨bD, bI⟩ : ∃ y_ : List Int, y_ = ([] : List Int) := ⟨_, rfl⟩
 replace H : (if bD.length + l0.length < 140737488355328 then ((some (bD ++ l0 : List Int)).bind fun aH => ((qAd.f k aH).bind fun aC => ((qAc.f k l0).bind fun aA => (if aC.2.2.2.2 = aA.2.2.2.2 then ((qBc.f aC.1 aC.2.1 aC.2.2.1 aC.2.2.2.1 aA.1 aA.2.1 aA.2.2.1 aA.2.2.2.1).bind fun au => (if au = true then (if (strOfNums aH).toList = (strOfNums l0).toList then ((qBb.f k).bind fun ai => (foundrylaw15_ObjectReads.j0 k aH (!ai) aC.1 aC.2.1 aC.2.2.1 aC.2.2.2.1 aA.1 aA.2.1 aA.2.2.1 aA.2.2.2.1)) else (foundrylaw15_ObjectReads.j0 k aH true aC.1 aC.2.1 aC.2.2.1 aC.2.2.2.1 aA.1 aA.2.1 aA.2.2.1 aA.2.2.2.1)) else (foundrylaw15_ObjectReads.j0 k aH true aC.1 aC.2.1 aC.2.2.1 aC.2.2.2.1 aA.1 aA.2.1 aA.2.2.1 aA.2.2.2.1))) else (foundrylaw15_ObjectReads.j0 k aH true aC.1 aC.2.1 aC.2.2.1 aC.2.2.2.1 aA.1 aA.2.1 aA.2.2.1 aA.2.2.2.1))))) else (none)) = some r := by (have H2_ := (Option.bind_some _ _).symm.trans H; rw [bI]; with_reducible exact H2_)
 have bj := am bI
 clear bI
 by_cases c2 : bD.length + l0.length < 140737488355328
 ·rw [if_pos c2] at H
  have cR := am c2
  clear c2
  obtain ⟨aH, bJ⟩ : ∃ y_ : List Int, y_ = (bD ++ l0) := ⟨_, rfl⟩
  replace H : ((qAd.f k aH).bind fun aC => ((qAc.f k l0).bind fun aA => (if aC.2.2.2.2 = aA.2.2.2.2 then ((qBc.f aC.1 aC.2.1 aC.2.2.1 aC.2.2.2.1 aA.1 aA.2.1 aA.2.2.1 aA.2.2.2.1).bind fun au => (if au = true then (if (strOfNums aH).toList = (strOfNums l0).toList then ((qBb.f k).bind fun ai => (foundrylaw15_ObjectReads.j0 k aH (!ai) aC.1 aC.2.1 aC.2.2.1 aC.2.2.2.1 aA.1 aA.2.1 aA.2.2.1 aA.2.2.2.1)) else (foundrylaw15_ObjectReads.j0 k aH true aC.1 aC.2.1 aC.2.2.1 aC.2.2.2.1 aA.1 aA.2.1 aA.2.2.1 aA.2.2.2.1)) else (foundrylaw15_ObjectReads.j0 k aH true aC.1 aC.2.1 aC.2.2.1 aC.2.2.2.1 aA.1 aA.2.1 aA.2.2.1 aA.2.2.2.1))) else (foundrylaw15_ObjectReads.j0 k aH true aC.1 aC.2.1 aC.2.2.1 aC.2.2.2.1 aA.1 aA.2.1 aA.2.2.1 aA.2.2.2.1)))) = some r := by (have H2_ := (Option.bind_some _ _).symm.trans H; rw [bJ]; with_reducible exact H2_)
  have bk := am bJ
  clear bJ
  replace H := bm H
  obtain ⟨⟨aU, aM, aP, aQ, bL⟩, cf, H⟩ := H
  replace H : ((qAc.f k l0).bind fun aA => (if bL = aA.2.2.2.2 then ((qBc.f aU aM aP aQ aA.1 aA.2.1 aA.2.2.1 aA.2.2.2.1).bind fun au => (if au = true then (if (strOfNums aH).toList = (strOfNums l0).toList then ((qBb.f k).bind fun ai => (foundrylaw15_ObjectReads.j0 k aH (!ai) aU aM aP aQ aA.1 aA.2.1 aA.2.2.1 aA.2.2.2.1)) else (foundrylaw15_ObjectReads.j0 k aH true aU aM aP aQ aA.1 aA.2.1 aA.2.2.1 aA.2.2.2.1)) else (foundrylaw15_ObjectReads.j0 k aH true aU aM aP aQ aA.1 aA.2.1 aA.2.2.1 aA.2.2.2.1))) else (foundrylaw15_ObjectReads.j0 k aH true aU aM aP aQ aA.1 aA.2.1 aA.2.2.1 aA.2.2.2.1))) = some r := H
  have A3 := am cf
  clear cf
  replace H := bm H
  obtain ⟨⟨aT, aJ, aK, aN, b4⟩, cg, H⟩ := H
  replace H : (if bL = b4 then ((qBc.f aU aM aP aQ aT aJ aK aN).bind fun au => (if au = true then (if (strOfNums aH).toList = (strOfNums l0).toList then ((qBb.f k).bind fun ai => (foundrylaw15_ObjectReads.j0 k aH (!ai) aU aM aP aQ aT aJ aK aN)) else (foundrylaw15_ObjectReads.j0 k aH true aU aM aP aQ aT aJ aK aN)) else (foundrylaw15_ObjectReads.j0 k aH true aU aM aP aQ aT aJ aK aN))) else (foundrylaw15_ObjectReads.j0 k aH true aU aM aP aQ aT aJ aK aN)) = some r := H
  have A4 := am cg
  clear cg
  have cP := am H
  clear H
  go_enter Tryz.func5, Tryz.ntmps5
  go_upto_region 4 with (first | ((with_reducible refine qAO (N := 9) rfl ?_); refine Kd.R_lit (Kd.int .u8) _ 5 ?hg (N := 9) ?hd (xs := ([] : List Int)) (inner := []) (ok := fun _ => True) (okp := fun _ => True) ?hr ?hp (fun _ hk => hk) trivial (Below.refl _ _) (Nat.le_refl _) (by simp) ?_; (case hd => rfl); (case hg => rfl); (case hr => (go_simp; done)); (case hp => exact (Reps.none _ _)); intro cd w6 c1 hb hg_ hnew_; clear hg_ hnew_; (rw [← bj.o] at c1); have n_ := a2 (Kd.R_lower c1 (qA5 HB.o)) (am (qAp HB.o hb)); clear HB; obtain ⟨b6, HB⟩ := n_; clear hb c1) | ((with_reducible refine qBG (b := .append) (xs := #[.tmp 9, .tmp 10]) rfl ?_); at_builtin; refine Kd.R_append_rows (Kd.int .u8) (w0 := w) w.heap.size rfl (.tmp 9) (.tmp 10) 38 5 (.int .u8 0) 1 rfl Tryz.underlying38 info5 rfl (by decide) (by omega) cd bD l0 _ _ _ (fun _ => True) (fun _ => False) rfl rfl ?aO ?aR (fun _ _ h => h) (fun _ h => h.elim) ?aF ?aB ?aS ?aL ?_; (case aR => exact (Kd.C_below cQ.o HB.o)); (case aB => exact HB.o); (case aF => exact (fun _ _ => trivial)); (case aO => exact b6.o); (case aS => exact (qA5 HB.o)); (case aL => have := cR.o; omega); intro dA w8 ho hb hg cw; rw [← bk.o] at ho; have n_ := a2 (hb) (am (ho)); clear HB b6; obtain ⟨HB, aV⟩ := n_; clear ho hb hg cw; obtain ⟨cO, bM, cv⟩ := Kd.R_slice aV.o; subst cv) | ((with_reducible refine qAk (f := 16) rfl ?_); refine gL 14 Tryz.func16 #[.slice cO aH.length bM] ?_; (with_reducible refine (qAd.calls k _ _ aH aU aM aP aQ bL _ ?side1 ?side2 A3.o).mono ?_); (case side1 => exact (Kd.R_reads' aV.o).2.2); (case side2 => exact (Kd.R_reads' aV.o).2.1); rintro e dI ⟨dB, dC, dD, rfl, bq, br, bs, hb⟩; refine ⟨_, rfl, ?_⟩; have n_ := a2 (Kd.R_below aV.o hb) (a2 (Kd.R_lower bq (qA5 HB.o)) (a2 (Kd.S_lower br (qA5 HB.o)) (a2 (Kd.R_lower bs (qA5 HB.o)) (am (qAp HB.o hb))))); clear aV HB; obtain ⟨aV, a4, a5, a6, HB⟩ := n_) | ((with_reducible refine qAO (N := 4) rfl ?_); refine bx 4 #[.string ⟨#[]⟩, .slice none 0 0, .slice none 0 0, .slice none 0 0] 33 ?_; intro aI hg cN hbox hb; have n_ := a2 (Kd.R_below aV.o hb) (a2 (Kd.R_below a4.o hb) (a2 (Kd.S_below a5.o hb) (a2 (Kd.R_below a6.o hb) (a2 (qAp HB.o hb) (a2 (hbox) (am (by rw [hg]; exact (qA5 HB.o) : w.heap.size ≤ aI))))))); clear aV a4 a5 a6 HB; obtain ⟨aV, a4, a5, a6, HB, aE, bE⟩ := n_; clear hb hbox hg; have bN : cN.cell? ⟨aI, 0, none⟩ = some (.string ⟨#[]⟩) := (qAa aE.o 0).trans rfl; have bO : cN.cell? ⟨aI, 1, none⟩ = some (.slice none 0 0) := (qAa aE.o 1).trans rfl; have bP : cN.cell? ⟨aI, 2, none⟩ = some (.slice none 0 0) := (qAa aE.o 2).trans rfl; have bQ : cN.cell? ⟨aI, 3, none⟩ = some (.slice none 0 0) := (qAa aE.o 3).trans rfl; have bV := qAb aE.o 0; have bW := qAb aE.o 1; have bX := qAb aE.o 2; have bY := qAb aE.o 3; obtain ⟨an, ak, cT⟩ := Kd.R_slice a4.o; subst cT; obtain ⟨ap, ao, cU⟩ := Kd.S_slice a5.o; subst cU; obtain ⟨ar, aq, cV⟩ := Kd.R_slice a6.o; subst cV) | ((with_reducible refine qAk (f := 17) rfl ?_); refine gL 19 Tryz.func17 #[.slice A0 l0.length c0] ?_; (with_reducible refine (qAc.calls k _ _ l0 aT aJ aK aN b4 _ ?side1 ?side2 A4.o).mono ?_); (case side1 => exact Kd.C_below cQ.o (by repeat (with_reducible first | exact HB.o | refine qAs ?_ bE.o))); (case side2 => exact ct.o); rintro e dJ ⟨dE, dF, dG, rfl, bq, br, bs, hb⟩; refine ⟨_, rfl, ?_⟩; have n_ := a2 (Kd.R_below (by exact (Kd.R_mono (Kd.R_far (p := ⟨aI, 3, none⟩) (Kd.R_far (p := ⟨aI, 2, none⟩) (Kd.R_far (p := ⟨aI, 1, none⟩) (Kd.R_far (p := ⟨aI, 0, none⟩) (Kd.R_types aV.o aE.o (by decide)) (fun _ hk => hk.2) (.string aU)) (fun _ hk => hk.2) (.slice an aM.length ak)) (fun _ hk => hk.2) (.slice ap aP.length ao)) (fun _ hk => hk.2) (.slice ar aQ.length aq)) (fun _ h_ => h_.1))) hb) (a2 (Kd.R_below (by exact (Kd.R_mono (Kd.R_far (p := ⟨aI, 3, none⟩) (Kd.R_far (p := ⟨aI, 2, none⟩) (Kd.R_far (p := ⟨aI, 1, none⟩) (Kd.R_far (p := ⟨aI, 0, none⟩) (Kd.R_types a4.o aE.o (by decide)) (fun _ hk => hk.2) (.string aU)) (fun _ hk => hk.2) (.slice an aM.length ak)) (fun _ hk => hk.2) (.slice ap aP.length ao)) (fun _ hk => hk.2) (.slice ar aQ.length aq)) (fun _ h_ => h_.1))) hb) (a2 (Kd.S_below (by exact (Kd.S_mono (Kd.S_far (p := ⟨aI, 3, none⟩) (Kd.S_far (p := ⟨aI, 2, none⟩) (Kd.S_far (p := ⟨aI, 1, none⟩) (Kd.S_far (p := ⟨aI, 0, none⟩) (Kd.S_types a5.o aE.o (by decide)) (fun _ hk => hk.2) (.string aU)) (fun _ hk => hk.2) (.slice an aM.length ak)) (fun _ hk => hk.2) (.slice ap aP.length ao)) (fun _ hk => hk.2) (.slice ar aQ.length aq)) (fun _ h_ => h_.1))) hb) (a2 (Kd.R_below (by exact (Kd.R_mono (Kd.R_far (p := ⟨aI, 3, none⟩) (Kd.R_far (p := ⟨aI, 2, none⟩) (Kd.R_far (p := ⟨aI, 1, none⟩) (Kd.R_far (p := ⟨aI, 0, none⟩) (Kd.R_types a6.o aE.o (by decide)) (fun _ hk => hk.2) (.string aU)) (fun _ hk => hk.2) (.slice an aM.length ak)) (fun _ hk => hk.2) (.slice ap aP.length ao)) (fun _ hk => hk.2) (.slice ar aQ.length aq)) (fun _ h_ => h_.1))) hb) (a2 (Kd.R_lower bq (qA5 (by repeat (with_reducible first | exact HB.o | refine qAs ?_ bE.o)))) (a2 (Kd.S_lower br (qA5 (by repeat (with_reducible first | exact HB.o | refine qAs ?_ bE.o)))) (a2 (Kd.R_lower bs (qA5 (by repeat (with_reducible first | exact HB.o | refine qAs ?_ bE.o)))) (a2 (qA4 (g := aI) (o := .cells #[.string aU, .slice an aM.length ak, .slice ap aP.length ao, .slice ar aQ.length aq] 33 (0, 0)) (by refine qAx (cs := #[.string aU, .slice an aM.length ak, .slice ap aP.length ao, .slice none 0 0]) ?_ 3 _ rfl; refine qAx (cs := #[.string aU, .slice an aM.length ak, .slice none 0 0, .slice none 0 0]) ?_ 2 _ rfl; refine qAx (cs := #[.string aU, .slice none 0 0, .slice none 0 0, .slice none 0 0]) ?_ 1 _ rfl; refine qAx (cs := #[.string ⟨#[]⟩, .slice none 0 0, .slice none 0 0, .slice none 0 0]) ?_ 0 _ rfl; exact aE.o) hb) (am (qAp (by repeat (with_reducible first | exact HB.o | refine qAs ?_ bE.o)) hb))))))))); clear aV a4 a5 a6 aE HB; obtain ⟨aV, a4, a5, a6, ae, af, ag, aE, HB⟩ := n_) | ((with_reducible refine qAO (N := 6) rfl ?_); refine bx 6 #[.string ⟨#[]⟩, .slice none 0 0, .slice none 0 0, .slice none 0 0] 26 ?_; intro aD hg b7 hbox hb; have n_ := a2 (Kd.R_below aV.o hb) (a2 (Kd.R_below a4.o hb) (a2 (Kd.S_below a5.o hb) (a2 (Kd.R_below a6.o hb) (a2 (Kd.R_below ae.o hb) (a2 (Kd.S_below af.o hb) (a2 (Kd.R_below ag.o hb) (a2 (qA4 aE.o hb) (a2 (qAp HB.o hb) (a2 (hbox) (a2 (by rw [hg]; exact (qA5 HB.o) : w.heap.size ≤ aD) (a2 (by rw [hg]; exact Nat.ne_of_lt (qBo aE.o) : aI ≠ aD) (am (by rw [hg]; exact Nat.ne_of_gt (qBo aE.o) : aD ≠ aI))))))))))))); clear aV a4 a5 a6 ae af ag aE HB; obtain ⟨aV, a4, a5, a6, ae, af, ag, aE, HB, aG, bi, al, bH⟩ := n_; clear hb hbox hg; have bR : b7.cell? ⟨aD, 0, none⟩ = some (.string ⟨#[]⟩) := (qAa aG.o 0).trans rfl; have bS : b7.cell? ⟨aD, 1, none⟩ = some (.slice none 0 0) := (qAa aG.o 1).trans rfl; have bT : b7.cell? ⟨aD, 2, none⟩ = some (.slice none 0 0) := (qAa aG.o 2).trans rfl; have bU : b7.cell? ⟨aD, 3, none⟩ = some (.slice none 0 0) := (qAa aG.o 3).trans rfl; have bZ := qAb aG.o 0; have b0 := qAb aG.o 1; have b1 := qAb aG.o 2; have b2 := qAb aG.o 3; obtain ⟨a8, a7, cW⟩ := Kd.R_slice ae.o; subst cW; obtain ⟨aa, a9, cX⟩ := Kd.S_slice af.o; subst cX; obtain ⟨ad, ab, cY⟩ := Kd.R_slice ag.o; subst cY))
  (skip)
  go_cut [41] (fun cz wc => ∃ (kq : Nat) (bG : Bool), cz = .bool bG ∧ qAe (foundrylaw15_ObjectReads.j0 kq aH bG aU aM aP aQ aT aJ aK aN = some r) ∧ qAe (kq ≤ k) ∧ qAe (Kd.R (Kd.int .u8) 5 wc w.heap.size (fun _ => True) (.slice cO aH.length bM) aH) ∧ qAe (Kd.R k85 85 wc w.heap.size (fun _ => True) (.slice an aM.length ak) aM) ∧ qAe (Kd.S k92 92 wc w.heap.size (fun _ => True) (.slice ap aP.length ao) aP) ∧ qAe (Kd.R k104 104 wc w.heap.size (fun _ => True) (.slice ar aQ.length aq) aQ) ∧ qAe (Kd.R k95 95 wc w.heap.size (fun _ => True) (.slice a8 aJ.length a7) aJ) ∧ qAe (Kd.S k100 100 wc w.heap.size (fun _ => True) (.slice aa aK.length a9) aK) ∧ qAe (Kd.R k103 103 wc w.heap.size (fun _ => True) (.slice ad aN.length ab) aN) ∧ qAe (wc.heap[aI]? = some (.cells #[.string aU, (.slice an aM.length ak), (.slice ap aP.length ao), (.slice ar aQ.length aq)] 33 (0, 0))) ∧ qAe (wc.heap[aD]? = some (.cells #[.string aT, (.slice a8 aJ.length a7), (.slice aa aK.length a9), (.slice ad aN.length ab)] 26 (0, 0))) ∧ qAe (Below w.heap.size w wc))
  case first =>
   have H := cP.o
   clear cP
   by_cases bu : bL = b4
   rotate_left
   ·rw [if_neg bu] at H
    subst hr
    exact absurd H (by cases k <;> simp [foundrylaw15_ObjectReads.j0])
   rw [if_pos bu] at H
   have ck : (bL != b4) = false := bn bu
   clear bu
   (skip)
   replace H := bm H
   obtain ⟨au, bd, H⟩ := H
   replace H : (if au = true then (if (strOfNums aH).toList = (strOfNums l0).toList then ((qBb.f k).bind fun ai => (foundrylaw15_ObjectReads.j0 k aH (!ai) aU aM aP aQ aT aJ aK aN)) else (foundrylaw15_ObjectReads.j0 k aH true aU aM aP aQ aT aJ aK aN)) else (foundrylaw15_ObjectReads.j0 k aH true aU aM aP aQ aT aJ aK aN)) = some r := H
   have cp := am bd
   clear bd
   by_cases cl : au = true
   rotate_left
   ·rw [if_neg cl] at H
    subst hr
    exact absurd H (by cases k <;> simp [foundrylaw15_ObjectReads.j0])
   subst cl
   replace H : (if (strOfNums aH).toList = (strOfNums l0).toList then ((qBb.f k).bind fun ai => (foundrylaw15_ObjectReads.j0 k aH (!ai) aU aM aP aQ aT aJ aK aN)) else (foundrylaw15_ObjectReads.j0 k aH true aU aM aP aQ aT aJ aK aN)) = some r := by rw [if_pos rfl] at H; exact H
   by_cases bw : (strOfNums aH).toList = (strOfNums l0).toList
   rotate_left
   ·rw [if_neg bw] at H
    subst hr
    exact absurd H (by cases k <;> simp [foundrylaw15_ObjectReads.j0])
   rw [if_pos bw] at H
   have cm : ((strOfNums aH).toList == (strOfNums l0).toList) = true := beq_iff_eq.mpr bw
   clear bw
   replace H := bm H
   obtain ⟨ai, bg, H⟩ := H
   replace H : (foundrylaw15_ObjectReads.j0 k aH (!ai) aU aM aP aQ aT aJ aK aN) = some r := H
   have cq := am bg
   clear bg
   have H' := am H
   clear H
   have co := bH.o
   have cB : b7.cell? ⟨aI, 0, none⟩ = some (.string aU) := (qAa aE.o 0).trans rfl
   have cC : b7.cell? ⟨aI, 1, none⟩ = some (.slice an aM.length ak) := (qAa aE.o 1).trans rfl
   have cD : b7.cell? ⟨aI, 2, none⟩ = some (.slice ap aP.length ao) := (qAa aE.o 2).trans rfl
   have cE : b7.cell? ⟨aI, 3, none⟩ = some (.slice ar aQ.length aq) := (qAa aE.o 3).trans rfl
   go_wp2_with (first | (go_at_call 15; (with_reducible refine (qBc.calls aU _ _ aM _ _ aP _ _ aQ aT _ _ aJ _ _ aK _ _ aN true _ ?side1 ?side2 ?side3 ?side4 ?side5 ?side6 ?side7 ?side8 ?side9 ?side10 ?side11 ?side12 cp.o).mono ?_); (case side1 => refine (Kd.R_reads' (e := 85) (base := w.heap.size) (ok := fun k_ => True) (n := aM.length) (c := ak) ?_).2.2; exact (by exact (Kd.R_mono (Kd.R_far (p := ⟨aD, 3, none⟩) (Kd.R_far (p := ⟨aD, 2, none⟩) (Kd.R_far (p := ⟨aD, 1, none⟩) (Kd.R_far (p := ⟨aD, 0, none⟩) (Kd.R_types a4.o aG.o (by decide)) (fun _ hk => hk.2) (.string aT)) (fun _ hk => hk.2) (.slice a8 aJ.length a7)) (fun _ hk => hk.2) (.slice aa aK.length a9)) (fun _ hk => hk.2) (.slice ad aN.length ab)) (fun _ h_ => h_.1)))); (case side2 => exact (Kd.R_reads' a4.o).2.1); (case side3 => refine (Kd.S_reads' (e := 92) (base := w.heap.size) (ok := fun k_ => True) (n := aP.length) (c := ao) ?_).2.2; exact (by exact (Kd.S_mono (Kd.S_far (p := ⟨aD, 3, none⟩) (Kd.S_far (p := ⟨aD, 2, none⟩) (Kd.S_far (p := ⟨aD, 1, none⟩) (Kd.S_far (p := ⟨aD, 0, none⟩) (Kd.S_types a5.o aG.o (by decide)) (fun _ hk => hk.2) (.string aT)) (fun _ hk => hk.2) (.slice a8 aJ.length a7)) (fun _ hk => hk.2) (.slice aa aK.length a9)) (fun _ hk => hk.2) (.slice ad aN.length ab)) (fun _ h_ => h_.1)))); (case side4 => exact (Kd.S_reads' a5.o).2.1); (case side5 => refine (Kd.R_reads' (e := 104) (base := w.heap.size) (ok := fun k_ => True) (n := aQ.length) (c := aq) ?_).2.2; exact (by exact (Kd.R_mono (Kd.R_far (p := ⟨aD, 3, none⟩) (Kd.R_far (p := ⟨aD, 2, none⟩) (Kd.R_far (p := ⟨aD, 1, none⟩) (Kd.R_far (p := ⟨aD, 0, none⟩) (Kd.R_types a6.o aG.o (by decide)) (fun _ hk => hk.2) (.string aT)) (fun _ hk => hk.2) (.slice a8 aJ.length a7)) (fun _ hk => hk.2) (.slice aa aK.length a9)) (fun _ hk => hk.2) (.slice ad aN.length ab)) (fun _ h_ => h_.1)))); (case side6 => exact (Kd.R_reads' a6.o).2.1); (case side7 => refine (Kd.R_reads' (e := 95) (base := w.heap.size) (ok := fun k_ => True) (n := aJ.length) (c := a7) ?_).2.2; exact (by exact (Kd.R_mono (Kd.R_far (p := ⟨aD, 3, none⟩) (Kd.R_far (p := ⟨aD, 2, none⟩) (Kd.R_far (p := ⟨aD, 1, none⟩) (Kd.R_far (p := ⟨aD, 0, none⟩) (Kd.R_types ae.o aG.o (by decide)) (fun _ hk => hk.2) (.string aT)) (fun _ hk => hk.2) (.slice a8 aJ.length a7)) (fun _ hk => hk.2) (.slice aa aK.length a9)) (fun _ hk => hk.2) (.slice ad aN.length ab)) (fun _ h_ => h_.1)))); (case side8 => exact (Kd.R_reads' ae.o).2.1); (case side9 => refine (Kd.S_reads' (e := 100) (base := w.heap.size) (ok := fun k_ => True) (n := aK.length) (c := a9) ?_).2.2; exact (by exact (Kd.S_mono (Kd.S_far (p := ⟨aD, 3, none⟩) (Kd.S_far (p := ⟨aD, 2, none⟩) (Kd.S_far (p := ⟨aD, 1, none⟩) (Kd.S_far (p := ⟨aD, 0, none⟩) (Kd.S_types af.o aG.o (by decide)) (fun _ hk => hk.2) (.string aT)) (fun _ hk => hk.2) (.slice a8 aJ.length a7)) (fun _ hk => hk.2) (.slice aa aK.length a9)) (fun _ hk => hk.2) (.slice ad aN.length ab)) (fun _ h_ => h_.1)))); (case side10 => exact (Kd.S_reads' af.o).2.1); (case side11 => refine (Kd.R_reads' (e := 103) (base := w.heap.size) (ok := fun k_ => True) (n := aN.length) (c := ab) ?_).2.2; exact (by exact (Kd.R_mono (Kd.R_far (p := ⟨aD, 3, none⟩) (Kd.R_far (p := ⟨aD, 2, none⟩) (Kd.R_far (p := ⟨aD, 1, none⟩) (Kd.R_far (p := ⟨aD, 0, none⟩) (Kd.R_types ag.o aG.o (by decide)) (fun _ hk => hk.2) (.string aT)) (fun _ hk => hk.2) (.slice a8 aJ.length a7)) (fun _ hk => hk.2) (.slice aa aK.length a9)) (fun _ hk => hk.2) (.slice ad aN.length ab)) (fun _ h_ => h_.1)))); (case side12 => exact (Kd.R_reads' ag.o).2.1); rintro e dK ⟨rfl, hb⟩; have n_ := a2 (Kd.R_below (by exact (Kd.R_mono (Kd.R_far (p := ⟨aD, 3, none⟩) (Kd.R_far (p := ⟨aD, 2, none⟩) (Kd.R_far (p := ⟨aD, 1, none⟩) (Kd.R_far (p := ⟨aD, 0, none⟩) (Kd.R_types aV.o aG.o (by decide)) (fun _ hk => hk.2) (.string aT)) (fun _ hk => hk.2) (.slice a8 aJ.length a7)) (fun _ hk => hk.2) (.slice aa aK.length a9)) (fun _ hk => hk.2) (.slice ad aN.length ab)) (fun _ h_ => h_.1))) hb) (a2 (Kd.R_below (by exact (Kd.R_mono (Kd.R_far (p := ⟨aD, 3, none⟩) (Kd.R_far (p := ⟨aD, 2, none⟩) (Kd.R_far (p := ⟨aD, 1, none⟩) (Kd.R_far (p := ⟨aD, 0, none⟩) (Kd.R_types a4.o aG.o (by decide)) (fun _ hk => hk.2) (.string aT)) (fun _ hk => hk.2) (.slice a8 aJ.length a7)) (fun _ hk => hk.2) (.slice aa aK.length a9)) (fun _ hk => hk.2) (.slice ad aN.length ab)) (fun _ h_ => h_.1))) hb) (a2 (Kd.S_below (by exact (Kd.S_mono (Kd.S_far (p := ⟨aD, 3, none⟩) (Kd.S_far (p := ⟨aD, 2, none⟩) (Kd.S_far (p := ⟨aD, 1, none⟩) (Kd.S_far (p := ⟨aD, 0, none⟩) (Kd.S_types a5.o aG.o (by decide)) (fun _ hk => hk.2) (.string aT)) (fun _ hk => hk.2) (.slice a8 aJ.length a7)) (fun _ hk => hk.2) (.slice aa aK.length a9)) (fun _ hk => hk.2) (.slice ad aN.length ab)) (fun _ h_ => h_.1))) hb) (a2 (Kd.R_below (by exact (Kd.R_mono (Kd.R_far (p := ⟨aD, 3, none⟩) (Kd.R_far (p := ⟨aD, 2, none⟩) (Kd.R_far (p := ⟨aD, 1, none⟩) (Kd.R_far (p := ⟨aD, 0, none⟩) (Kd.R_types a6.o aG.o (by decide)) (fun _ hk => hk.2) (.string aT)) (fun _ hk => hk.2) (.slice a8 aJ.length a7)) (fun _ hk => hk.2) (.slice aa aK.length a9)) (fun _ hk => hk.2) (.slice ad aN.length ab)) (fun _ h_ => h_.1))) hb) (a2 (Kd.R_below (by exact (Kd.R_mono (Kd.R_far (p := ⟨aD, 3, none⟩) (Kd.R_far (p := ⟨aD, 2, none⟩) (Kd.R_far (p := ⟨aD, 1, none⟩) (Kd.R_far (p := ⟨aD, 0, none⟩) (Kd.R_types ae.o aG.o (by decide)) (fun _ hk => hk.2) (.string aT)) (fun _ hk => hk.2) (.slice a8 aJ.length a7)) (fun _ hk => hk.2) (.slice aa aK.length a9)) (fun _ hk => hk.2) (.slice ad aN.length ab)) (fun _ h_ => h_.1))) hb) (a2 (Kd.S_below (by exact (Kd.S_mono (Kd.S_far (p := ⟨aD, 3, none⟩) (Kd.S_far (p := ⟨aD, 2, none⟩) (Kd.S_far (p := ⟨aD, 1, none⟩) (Kd.S_far (p := ⟨aD, 0, none⟩) (Kd.S_types af.o aG.o (by decide)) (fun _ hk => hk.2) (.string aT)) (fun _ hk => hk.2) (.slice a8 aJ.length a7)) (fun _ hk => hk.2) (.slice aa aK.length a9)) (fun _ hk => hk.2) (.slice ad aN.length ab)) (fun _ h_ => h_.1))) hb) (a2 (Kd.R_below (by exact (Kd.R_mono (Kd.R_far (p := ⟨aD, 3, none⟩) (Kd.R_far (p := ⟨aD, 2, none⟩) (Kd.R_far (p := ⟨aD, 1, none⟩) (Kd.R_far (p := ⟨aD, 0, none⟩) (Kd.R_types ag.o aG.o (by decide)) (fun _ hk => hk.2) (.string aT)) (fun _ hk => hk.2) (.slice a8 aJ.length a7)) (fun _ hk => hk.2) (.slice aa aK.length a9)) (fun _ hk => hk.2) (.slice ad aN.length ab)) (fun _ h_ => h_.1))) hb) (a2 (qA4 (g := aI) (o := .cells #[.string aU, .slice an aM.length ak, .slice ap aP.length ao, .slice ar aQ.length aq] 33 (0, 0)) (by refine qAz ?_ al.o _; refine qAz ?_ al.o _; refine qAz ?_ al.o _; refine qAz ?_ al.o _; exact aE.o) hb) (a2 (qA4 (g := aD) (o := .cells #[.string aT, .slice a8 aJ.length a7, .slice aa aK.length a9, .slice ad aN.length ab] 26 (0, 0)) (by refine qAx (cs := #[.string aT, .slice a8 aJ.length a7, .slice aa aK.length a9, .slice none 0 0]) ?_ 3 _ rfl; refine qAx (cs := #[.string aT, .slice a8 aJ.length a7, .slice none 0 0, .slice none 0 0]) ?_ 2 _ rfl; refine qAx (cs := #[.string aT, .slice none 0 0, .slice none 0 0, .slice none 0 0]) ?_ 1 _ rfl; refine qAx (cs := #[.string ⟨#[]⟩, .slice none 0 0, .slice none 0 0, .slice none 0 0]) ?_ 0 _ rfl; exact aG.o) hb) (am (qAp (by repeat (with_reducible first | exact HB.o | refine qAs ?_ bi.o)) hb)))))))))); clear aV a4 a5 a6 ae af ag aE aG HB; obtain ⟨aV, a4, a5, a6, ae, af, ag, aE, aG, HB⟩ := n_; have hcv32 := qEt (P := Tryz.prog) Tryz.underlying38 Tryz.underlying5 Tryz.underlying9 (Kd.own_of_R aV.o); have hcv33 := Kd.C_string (P := Tryz.prog) (A := A0) (c := c0) Tryz.underlying38 Tryz.underlying5 Tryz.underlying9 (Kd.C_below cQ.o HB.o)) | (go_at_call 12; (with_reducible refine (qBb.calls k  ai _ cq.o).mono ?_); rintro e dL ⟨rfl, hb⟩; have n_ := a2 (Kd.R_below aV.o hb) (a2 (Kd.R_below a4.o hb) (a2 (Kd.S_below a5.o hb) (a2 (Kd.R_below a6.o hb) (a2 (Kd.R_below ae.o hb) (a2 (Kd.S_below af.o hb) (a2 (Kd.R_below ag.o hb) (a2 (qA4 aE.o hb) (a2 (qA4 aG.o hb) (am (qAp HB.o hb)))))))))); clear aV a4 a5 a6 ae af ag aE aG HB; obtain ⟨aV, a4, a5, a6, ae, af, ag, aE, aG, HB⟩ := n_; (skip)))
   go_meet
   case rel => exact ⟨_, (!ai), (by rfl), H', ⟨by omega⟩, ⟨by exact aV.o⟩, ⟨by exact a4.o⟩, ⟨by exact a5.o⟩, ⟨by exact a6.o⟩, ⟨by exact ae.o⟩, ⟨by exact af.o⟩, ⟨by exact ag.o⟩, ⟨by exact aE.o⟩, ⟨by exact aG.o⟩, ⟨by exact HB.o⟩⟩
  case rest =>
   clear cP
   obtain ⟨kq, bG, rfl, HA, ch, ah, aW, aX, aY, aZ, a1, a3, aE, aG, HB⟩ := hcut
   cases kq with
   | zero => exact absurd HA.o (by simp [foundrylaw15_ObjectReads.j0])
   | succ cc =>
    have H := HA.o
    clear HA
    simp only [foundrylaw15_ObjectReads.j0] at H
    by_cases bz : bG = true
    ·subst bz
     replace H : (some false) = some r := by rw [if_pos rfl] at H; exact H
     obtain rfl := Option.some.inj H
     go_wp2
     go_ret
     exact ⟨by rfl, by exact HB.o⟩
    replace bz := Bool.eq_false_iff.mpr bz
    subst bz
    replace H : (foundrylaw15_ObjectReads.l0 cc aH 0 aU aM aP aQ aT aJ aK aN) = some r := by rw [if_neg (show ¬ (false = true) by decide)] at H; exact H
    have H' := am H
    clear H
    go_wp2
    go_loopg [8] cc (fun kq v8 w' => ∃ (aj : List Int) (ac : Int), v8 = .int .i64 ac ∧ qAe (foundrylaw15_ObjectReads.l0 kq aj ac aU aM aP aQ aT aJ aK aN = some r) ∧ qAe (kq ≤ cc) ∧ qAe (Kd.R (Kd.int .u8) 5 w' w.heap.size (fun _ => True) (.slice cO aH.length bM) aj) ∧ qAe (Kd.R k85 85 w' w.heap.size (fun _ => True) (.slice an aM.length ak) aM) ∧ qAe (Kd.S k92 92 w' w.heap.size (fun _ => True) (.slice ap aP.length ao) aP) ∧ qAe (Kd.R k104 104 w' w.heap.size (fun _ => True) (.slice ar aQ.length aq) aQ) ∧ qAe (Kd.R k95 95 w' w.heap.size (fun _ => True) (.slice a8 aJ.length a7) aJ) ∧ qAe (Kd.S k100 100 w' w.heap.size (fun _ => True) (.slice aa aK.length a9) aK) ∧ qAe (Kd.R k103 103 w' w.heap.size (fun _ => True) (.slice ad aN.length ab) aN) ∧ qAe (w'.heap[aI]? = some (.cells #[.string aU, (.slice an aM.length ak), (.slice ap aP.length ao), (.slice ar aQ.length aq)] 33 (0, 0))) ∧ qAe (w'.heap[aD]? = some (.cells #[.string aT, (.slice a8 aJ.length a7), (.slice aa aK.length a9), (.slice ad aN.length ab)] 26 (0, 0))) ∧ qAe (Below w.heap.size w w'))
    case atStart => exact ⟨(aH), (0), (by rfl), H', ⟨Nat.le_refl _⟩, ⟨by exact ah.o⟩, ⟨by exact aW.o⟩, ⟨by exact aX.o⟩, ⟨by exact aY.o⟩, ⟨by exact aZ.o⟩, ⟨by exact a1.o⟩, ⟨by exact a3.o⟩, ⟨by exact aE.o⟩, ⟨by exact aG.o⟩, ⟨by exact HB.o⟩⟩
    case round =>
     clear H'
     obtain ⟨aj, ac, rfl, HA, ci, ah, aW, aX, aY, aZ, a1, a3, aE, aG, HB⟩ := hrel
     have bF := (Kd.R_reads' ah.o).1
     rw [bF] at ah
     (try simp only [bF])
     (skip)
     (skip)
     (skip)
     (skip)
     (skip)
     (skip)
     (skip)
     (skip)
     cases gk with
     | zero => exact absurd HA.o (by simp [foundrylaw15_ObjectReads.l0])
     | succ k2 =>
      have H := HA.o
      clear HA
      simp only [foundrylaw15_ObjectReads.l0] at H
      by_cases bc : ac < (aj.length : Int)
      rotate_left
      ·rw [if_neg bc] at H
       replace bc := d0 bc
       replace H := bm H
       obtain ⟨b5, bh, H⟩ := H
       replace H : (some b5) = some r := H
       have cr := am bh
       clear bh
       obtain rfl := Option.some.inj H
       have cF : wr.cell? ⟨aI, 0, none⟩ = some (.string aU) := (qAa aE.o 0).trans rfl
       have cG : wr.cell? ⟨aI, 1, none⟩ = some (.slice an aM.length ak) := (qAa aE.o 1).trans rfl
       have cH : wr.cell? ⟨aI, 2, none⟩ = some (.slice ap aP.length ao) := (qAa aE.o 2).trans rfl
       have cI : wr.cell? ⟨aI, 3, none⟩ = some (.slice ar aQ.length aq) := (qAa aE.o 3).trans rfl
       have cJ : wr.cell? ⟨aD, 0, none⟩ = some (.string aT) := (qAa aG.o 0).trans rfl
       have cK : wr.cell? ⟨aD, 1, none⟩ = some (.slice a8 aJ.length a7) := (qAa aG.o 1).trans rfl
       have cL : wr.cell? ⟨aD, 2, none⟩ = some (.slice aa aK.length a9) := (qAa aG.o 2).trans rfl
       have cM : wr.cell? ⟨aD, 3, none⟩ = some (.slice ad aN.length ab) := (qAa aG.o 3).trans rfl
       go_wp2_with ((with_reducible refine qAk (f := 15) rfl ?_); refine gL 58 Tryz.func15 #[.agg #[.string aU, .slice an aM.length ak, .slice ap aP.length ao, .slice ar aQ.length aq], .agg #[.string aT, .slice a8 aJ.length a7, .slice aa aK.length a9, .slice ad aN.length ab]] ?_; (with_reducible refine (qBc.calls aU _ _ aM _ _ aP _ _ aQ aT _ _ aJ _ _ aK _ _ aN b5 _ ?side1 ?side2 ?side3 ?side4 ?side5 ?side6 ?side7 ?side8 ?side9 ?side10 ?side11 ?side12 cr.o).mono ?_); (case side1 => exact (Kd.R_reads' aW.o).2.2); (case side2 => exact (Kd.R_reads' aW.o).2.1); (case side3 => exact (Kd.S_reads' aX.o).2.2); (case side4 => exact (Kd.S_reads' aX.o).2.1); (case side5 => exact (Kd.R_reads' aY.o).2.2); (case side6 => exact (Kd.R_reads' aY.o).2.1); (case side7 => exact (Kd.R_reads' aZ.o).2.2); (case side8 => exact (Kd.R_reads' aZ.o).2.1); (case side9 => exact (Kd.S_reads' a1.o).2.2); (case side10 => exact (Kd.S_reads' a1.o).2.1); (case side11 => exact (Kd.R_reads' a3.o).2.2); (case side12 => exact (Kd.R_reads' a3.o).2.1); rintro e dM ⟨rfl, hb⟩; refine ⟨_, rfl, ?_⟩; have n_ := am (qAp HB.o hb); clear ah aW aX aY aZ a1 a3 aE aG HB; have HB := n_; clear n_; (skip))
       go_ret
       exact ⟨by rfl, by exact HB.o⟩
      rw [if_pos bc] at H
      replace bc := d1 bc
      obtain ⟨cA, H⟩ := gd H
      replace cA := d1 cA
      obtain ⟨bb, bK⟩ : ∃ y_ : List Int, y_ = (aj.set (ac : Int).toNat (((rd aj ac) + 1) % 256)) := ⟨_, rfl⟩
      replace H : (foundrylaw15_ObjectReads.l0 k2 bb (wrap64 (ac + 1)) aU aM aP aQ aT aJ aK aN) = some r := by (rw [bK]; with_reducible exact H)
      have bl := am bK
      clear bK
      have H' := am H
      clear H
      have b9 : 0 ≤ ac := od (by assumption)
      have ba : ac < (aj.length : Int) := od (by assumption)
      obtain ⟨cj, cS, b3⟩ := Kd.at_int (Kd.R_reads' ah.o).2.2 ac b9 ba
      cases cS
      replace b9 := eq_true b9
      replace ba := eq_true ba
      have cx : 0 ≤ ac := od (by assumption)
      have cy : (ac : Int) < ((aj.length : Int) : Int) := od (by assumption)
      obtain ⟨go48, cu, cZ, bp, gl48, cl48, HG48⟩ := Kd.R_form ah.o (by omega)
      (cases cZ)
      have GB48 := am bp
      clear bp gl48 HG48
      (simp only [add_plain] at b3)
      obtain ⟨ca, hf48_0⟩ := Kd.R_celln 0 ah.o (ac : Int) cx cy
      have b8 := Kd.R_putg ah.o (ac : Int) (((rd aj ac) + 1) % 256)
      go_wp2_with ((with_reducible refine qE8 (t := 5) (p := 55) rfl ?_); refine qDN (t := 5) (p := 55) (v := ?vo_w50) (w1 := (wr.setCell ⟨go48, (ac : Int).toNat, none⟩ (.int .u8 (((rd aj ac) + 1) % 256)))) ?hg ?ho ?hn ?hr ?_; (case ho => rfl); (case hg => rfl); (case hn => rfl); (case hr => (go_simp; done)); intro ce hw; have hg : wr.grownBy ce (some go48) := (by rw [hw]; exact b8.2); have hp_ : Kd.R (Kd.int .u8) 5 ce w.heap.size (fun _ => True) (.slice (some ⟨go48, 0, none⟩) aj.length bM) bb := (by rw [hw, bl.o]; exact b8.1); clear b8; have n_ := a2 (hp_) (a2 (Kd.R_over' (v := (.slice (some ⟨go48, 0, none⟩) aj.length bM)) aW.o (Kd.R_typed ah.o) (by decide) hg) (a2 (Kd.S_over' (v := (.slice (some ⟨go48, 0, none⟩) aj.length bM)) aX.o (Kd.R_typed ah.o) (by decide) hg) (a2 (Kd.R_over' (v := (.slice (some ⟨go48, 0, none⟩) aj.length bM)) aY.o (Kd.R_typed ah.o) (by decide) hg) (a2 (Kd.R_over' (v := (.slice (some ⟨go48, 0, none⟩) aj.length bM)) aZ.o (Kd.R_typed ah.o) (by decide) hg) (a2 (Kd.S_over' (v := (.slice (some ⟨go48, 0, none⟩) aj.length bM)) a1.o (Kd.R_typed ah.o) (by decide) hg) (a2 (Kd.R_over' (v := (.slice (some ⟨go48, 0, none⟩) aj.length bM)) a3.o (Kd.R_typed ah.o) (by decide) hg) (a2 (qBr (g := aI) (o := .cells #[.string aU, .slice an aM.length ak, .slice ap aP.length ao, .slice ar aQ.length aq] 33 (0, 0)) aE.o hg (Kd.R_ne ah.o aE.o (by decide))) (a2 (qBr (g := aD) (o := .cells #[.string aT, .slice a8 aJ.length a7, .slice aa aK.length a9, .slice ad aN.length ab] 26 (0, 0)) aG.o hg (Kd.R_ne ah.o aG.o (by decide))) (am (by rw [hw]; exact qAs HB.o GB48.o : Below w.heap.size w ce)))))))))); clear ah aW aX aY aZ a1 a3 aE aG HB; obtain ⟨ah, aW, aX, aY, aZ, a1, a3, aE, aG, HB⟩ := n_; clear hg hw hp_)
      (try simp only [← bF])
      go_roundg k2
      case measure => have := ch.o; have := ci.o; omega
      case rel => exact ⟨(bb), (wrap64 (ac + 1)), (by rfl), H', ⟨by have := ch.o; have := ci.o; omega⟩, ⟨by (try simp only [bF]); exact ah.o⟩, ⟨by exact aW.o⟩, ⟨by exact aX.o⟩, ⟨by exact aY.o⟩, ⟨by exact aZ.o⟩, ⟨by exact a1.o⟩, ⟨by exact a3.o⟩, ⟨by exact aE.o⟩, ⟨by exact aG.o⟩, ⟨by exact HB.o⟩⟩
 ·rw [if_neg c2] at H
  exact absurd H (by simp)
def foundrylaw15_ObjectReads.Pure : Prop := ∀ (l0 : List Int), l0.length ≤ maxLen → l0.length * 1 ≤ 140737488351232 → (∀ x ∈ l0, (Lit.int .u8 x).wf = true) → ∃ k, foundrylaw15_ObjectReads.f k l0 = some true
theorem foundrylaw15_ObjectReads.walk (P : foundrylaw15_ObjectReads.Pure) (a0 : Option Addr) (len0 cap0 : Nat) (z0 : List Int) (w : World) (w0 : (a0 = none ∧ len0 = 0 ∧ cap0 = 0 ∧ z0 = []) ∨ ∃ x, a0 = some x ∧ len0 ≤ cap0 ∧ cap0 ≤ maxLen ∧ z0.length = cap0 ∧ (∀ i, i < z0.length → w.cell? (x.add i) = some (.int .u8 (z0.getD i 0))) ∧ ∀ n ∈ z0, (Lit.int .u8 n).wf = true) (y0 : len0 * 1 ≤ 140737488351232) :
  Calls Tryz.prog 5 #[.slice a0 len0 cap0] w fun e w' => e = .returned (.bool true) ∧ Below w.heap.size w w' := by
 obtain ⟨l0, rfl, hr0, hm0, hw0, hc0⟩ := qC8.ofRowC w0
 obtain ⟨k, h⟩ := P l0 hm0 y0 hw0
 refine (foundrylaw15_ObjectReads.calls k _ _ l0 true rfl w (Kd.C_of_reads (d := (0 : Int)) (h1 := fun _ => rfl) hr0) hc0 h).mono ?_
 rintro e w' ⟨rfl, hd⟩
 exact ⟨rfl, hd⟩
end Q
end
section
namespace Q
open Go.RowKit PA PC PB
open DecLaw
theorem qCs {l : List Int} (h : qBn l) (n : Nat) : qBn (l.take n) := fun x hx => h x (List.mem_of_mem_take hx)
theorem qBu {l : List Int} (h : qBn l) (n : Nat) : qBn (l.drop n) := fun x hx => h x (List.mem_of_mem_drop hx)
theorem qFv : ∀ (l : List Int), qBn l → ∀ v : Int, 0 ≤ v → 0 ≤ l.foldl (fun v x => v * 256 + x) v ∧ l.foldl (fun v x => v * 256 + x) v < (v + 1) * 256 ^ l.length := by
 intro l
 induction l with
 | nil => intro _ v hv; simp; omega
 | cons x l ih =>
  intro h v hv
  have hx := h x List.mem_cons_self
  obtain ⟨h1, h2⟩ := ih (fun y hy => h y (List.mem_cons_of_mem _ hy)) (v * 256 + x) (by omega)
  refine ⟨h1, Int.lt_of_lt_of_le h2 ?_⟩
  rw [List.length_cons, Int.pow_succ]
  have : (v * 256 + x + 1) * 256 ^ l.length ≤ ((v + 1) * 256) * 256 ^ l.length := Int.mul_le_mul_of_nonneg_right (by omega) (Int.le_of_lt (Int.pow_pos (by decide)))
  have e : (v + 1) * (256 ^ l.length * 256) = ((v + 1) * 256) * 256 ^ l.length := by rw [Int.mul_assoc, Int.mul_comm (256 ^ l.length) 256]
  rw [e]; exact this
theorem qC4 (l : List Int) (h : qBn l) : 0 ≤ valB l ∧ valB l < 256 ^ l.length := by
 have := qFv l h 0 (Int.le_refl 0)
 unfold valB
 simpa using this
theorem numStep_eq (v x : Int) (hv : 0 ≤ v) (hv2 : v < 72057594037927936) (hx : 0 ≤ x) (hx2 : x < 256) : qCO v x = v * 256 + x := by
 unfold qCO
 rw [Dec.wrap_256, show IntKind.u64.wrap x = x from by simp [IntKind.wrap, IntKind.bits, IntKind.signed]; omega, Dec.or_low v x hv (by omega) hx hx2]
 omega
theorem numF_fold (l : List Int) (h : qBn l) : ∀ (v : Int), 0 ≤ v → (v + 1) * 256 ^ l.length ≤ 18446744073709551616 → l.foldl qCO v = l.foldl (fun v x => v * 256 + x) v := by
 induction l with
 | nil => intro v _ _; rfl
 | cons x l ih =>
  intro v hv hb
  have hx := h x List.mem_cons_self
  have hp : (1 : Int) ≤ 256 ^ l.length := by have := @Int.pow_pos 256 l.length (by decide); omega
  rw [List.length_cons, Int.pow_succ] at hb
  have hv2 : v < 72057594037927936 := by
   have h1 : (v + 1) * (1 * 256) ≤ (v + 1) * (256 ^ l.length * 256) := Int.mul_le_mul_of_nonneg_left (Int.mul_le_mul_of_nonneg_right hp (by decide)) (by omega)
   omega
  simp only [List.foldl_cons]
  rw [numStep_eq v x hv hv2 hx.1 hx.2]
  refine ih (fun y hy => h y (List.mem_cons_of_mem _ hy)) _ (by omega) ?_
  have h1 : (v * 256 + x + 1) * 256 ^ l.length ≤ ((v + 1) * 256) * 256 ^ l.length := Int.mul_le_mul_of_nonneg_right (by omega) (by omega)
  have e : (v + 1) * (256 ^ l.length * 256) = ((v + 1) * 256) * 256 ^ l.length := by rw [Int.mul_assoc, Int.mul_comm (256 ^ l.length) 256]
  omega
theorem qEf (l : List Int) (h : qBn l) (h8 : l.length ≤ 8) : numF l = valB l := by
 unfold numF valB
 refine numF_fold l h 0 (Int.le_refl 0) ?_
 have : ∀ n : Nat, n < 9 → (256 : Int) ^ n ≤ 18446744073709551616 := by decide
 have := this l.length (by omega)
 omega
abbrev Ps (α : Type) := List Int → Option (α × List Int)
def qCU : Ps Int := fun r => match r with | [] => none | x :: r => some (x, r)
def numP (m : Nat) : Ps Int := fun r => if m ≤ r.length then some (valB (r.take m), r.drop m) else none
def intP : Ps Int := fun r => if 4 ≤ r.length then (if valB (r.take 4) ≤ 2147483647 then some (valB (r.take 4), r.drop 4) else none) else none
def rawP (most : Int) : Ps (List Int) := fun r => (intP r).bind fun a => if a.1 ≤ most ∧ a.1 ≤ a.2.length then some (a.2.take a.1.toNat, a.2.drop a.1.toNat) else none
def qDH (most : Int) : Ps ByteArray := fun r => (rawP most r).map fun a => (strOfNums a.1, a.2)
def Rd {α : Type} (f0 : List Int) (g : Nat → Option (α × Int × Int)) (s : Option (α × List Int)) : Prop :=
 ∃ v p e, Ev g (v, p, e) ∧ match s with
  | some (x, r) => v = x ∧ e = 0 ∧ 0 ≤ p ∧ p ≤ f0.length ∧ r = f0.drop p.toNat
  | none => e ≠ 0
def Pl (f0 : List Int) (p : Int) : Prop := 0 ≤ p ∧ p ≤ f0.length
theorem Rd.ok {α : Type} {f0 : List Int} {g : Nat → Option (α × Int × Int)} {x : α} {p : Int} (h : Ev g (x, p, 0)) (hp : Pl f0 p) : Rd f0 g (some (x, f0.drop p.toNat)) := ⟨x, p, 0, h, rfl, rfl, hp.1, hp.2, rfl⟩
theorem Rd.no {α : Type} {f0 : List Int} {g : Nat → Option (α × Int × Int)} {x : α} {p e : Int} (h : Ev g (x, p, e)) (he : e ≠ 0) : Rd f0 g none := ⟨x, p, e, h, he⟩
theorem Rd.bind {α β : Type} {f0 : List Int} {g : Nat → Option (α × Int × Int)} {s : Option (α × List Int)} {h : Nat → α × Int × Int → Option (β × Int × Int)} {t : α × List Int → Option (β × List Int)} (hg : Rd f0 g s)
  (good : ∀ x p, Pl f0 p → s = some (x, f0.drop p.toNat) → Rd f0 (fun k => h k (x, p, 0)) (t (x, f0.drop p.toNat))) (bad : ∀ x p e, e ≠ 0 → Rd f0 (fun k => h k (x, p, e)) none) : Rd f0 (fun k => (g k).bind (h k)) (s.bind t) := by
 obtain ⟨v, p, e, hv, hs⟩ := hg
 cases s with
 | none =>
  obtain ⟨v2, p2, e2, h2, hs2⟩ := bad v p e hs
  exact ⟨v2, p2, e2, Ev.bind hv h2, hs2⟩
 | some a =>
  obtain ⟨x, r⟩ := a
  obtain ⟨rfl, rfl, h0, h1, rfl⟩ := hs
  obtain ⟨v2, p2, e2, h2, hs2⟩ := good v p ⟨h0, h1⟩ rfl
  exact ⟨v2, p2, e2, Ev.bind hv h2, hs2⟩
theorem Rd.congr {α : Type} {f0 : List Int} {g h : Nat → Option (α × Int × Int)} {s t : Option (α × List Int)} (hg : Rd f0 g s) (e : ∀ k, h k = g k) (es : t = s) : Rd f0 h t := by
 subst es
 obtain ⟨v, p, e', hv, hs⟩ := hg
 exact ⟨v, p, e', Ev.congr e hv, hs⟩
theorem qDO (f0 : List Int) (p : Int) (hp : Pl f0 p) : (f0.drop p.toNat).length = f0.length - p.toNat := List.length_drop
theorem qC7 (f0 : List Int) (p : Int) (n : Nat) (hp : Pl f0 p) : (f0.drop p.toNat).drop n = f0.drop (p + n).toNat := by
 rw [List.drop_drop]; congr 1; have := hp.1; omega
theorem qD7 (f0 : List Int) (hb : qBn f0) (p : Int) (hp : Pl f0 p) : Rd f0 (fun _ => qAu.f f0 p 0) (qCU (f0.drop p.toNat)) := by
 obtain ⟨h0, h1⟩ := hp
 by_cases hlt : p < f0.length
 rotate_left
 ·rw [List.drop_eq_nil_of_le (by omega)]
  refine Rd.no (x := 0) (p := p) (e := 40) (Ev.congr (f := fun _ => some (0, p, 40)) (fun k => ?_) (Ev.now _)) (by decide)
  simp [qAu.f, hlt]
 have hc : f0.drop p.toNat = f0.getD p.toNat 0 :: f0.drop (p + 1).toNat := by
  rw [show (p + 1).toNat = p.toNat + 1 from by omega, List.drop_eq_getElem_cons (by omega), List.getD_eq_getElem?_getD, List.getElem?_eq_getElem (by omega)]; rfl
 rw [hc]
 refine Rd.ok (f0 := f0) (p := p + 1) ?_ ⟨by omega, by omega⟩
 refine Ev.congr (f := fun _ => some (f0.getD p.toNat 0, p + 1, 0)) (fun k => ?_) (Ev.now _)
 simp [qAu.f, hlt]
theorem short_good (f0 : List Int) (hb : qBn f0) (p : Int) (hp : Pl f0 p) : Rd f0 (fun _ => qAU.f f0 p 0) (numP 2 (f0.drop p.toNat)) := by
 have hd := qDO f0 p hp
 unfold numP
 by_cases h : 2 ≤ (f0.drop p.toNat).length
 rotate_left
 ·rw [if_neg h]
  have hp2 : ¬ p + 2 ≤ f0.length := by have := hp.1; omega
  exact Rd.no (x := 0) (p := p) (e := 40) (Ev.congr (f := fun _ => some (0, p, 40)) (fun k => by simp [qAU.f, hp2]) (Ev.now _)) (by decide)
 rw [if_pos h, qC7 f0 p 2 hp]
 have hp2 : p + 2 ≤ f0.length := by have := hp.1; omega
 have hv := qC4 _ (qCs (qBu hb p.toNat) 2)
 have h2 : ((f0.drop p.toNat).take 2).length = 2 := by rw [List.length_take]; omega
 rw [h2] at hv
 have hn : wrap64 (numF ((f0.drop p.toNat).take 2)) = valB ((f0.drop p.toNat).take 2) := by
  rw [qEf _ (qCs (qBu hb p.toNat) 2) (by omega)]
  unfold wrap64; omega
 exact Rd.ok (Ev.congr (f := fun _ => some (valB ((f0.drop p.toNat).take 2), p + (2 : Nat), 0)) (fun k => by simp [qAU.f, hp2, hn]) (Ev.now _)) ⟨by have := hp.1; omega, hp2⟩
theorem long_good (f0 : List Int) (hb : qBn f0) (p : Int) (hp : Pl f0 p) : Rd f0 (fun _ => qBj.f f0 p 0) (numP 8 (f0.drop p.toNat)) := by
 have hd := qDO f0 p hp
 unfold numP
 by_cases h : 8 ≤ (f0.drop p.toNat).length
 rotate_left
 ·rw [if_neg h]
  have hp2 : ¬ p + 8 ≤ f0.length := by have := hp.1; omega
  exact Rd.no (x := 0) (p := p) (e := 40) (Ev.congr (f := fun _ => some (0, p, 40)) (fun k => by simp [qBj.f, hp2]) (Ev.now _)) (by decide)
 rw [if_pos h, qC7 f0 p 8 hp]
 have hp2 : p + 8 ≤ f0.length := by have := hp.1; omega
 have h2 : ((f0.drop p.toNat).take 8).length = 8 := by rw [List.length_take]; omega
 have hn : numF ((f0.drop p.toNat).take 8) = valB ((f0.drop p.toNat).take 8) := qEf _ (qCs (qBu hb p.toNat) 8) (by omega)
 exact Rd.ok (Ev.congr (f := fun _ => some (valB ((f0.drop p.toNat).take 8), p + (8 : Nat), 0)) (fun k => by simp [qBj.f, hp2, hn]) (Ev.now _)) ⟨by have := hp.1; omega, hp2⟩
theorem num4_eq (f0 : List Int) (hb : qBn f0) (p : Int) (hp : Pl f0 p) (h : 4 ≤ (f0.drop p.toNat).length) : num4 f0 p = valB ((f0.drop p.toNat).take 4) := by
 unfold num4
 exact qEf _ (qCs (qBu hb p.toNat) 4) (by rw [List.length_take]; omega)
theorem int_good (f0 : List Int) (hb : qBn f0) (p : Int) (hp : Pl f0 p) : Rd f0 (fun _ => qAT.f f0 p 0) (intP (f0.drop p.toNat)) := by
 have hd := qDO f0 p hp
 unfold intP
 by_cases h : 4 ≤ (f0.drop p.toNat).length
 rotate_left
 ·rw [if_neg h]
  have hp2 : ¬ p + 4 ≤ f0.length := by have := hp.1; omega
  exact Rd.no (x := 0) (p := p) (e := 40) (Ev.congr (f := fun _ => some (0, p, 40)) (fun k => by simp [qAT.f, hp2]) (Ev.now _)) (by decide)
 rw [if_pos h, qC7 f0 p 4 hp]
 have hp2 : p + 4 ≤ f0.length := by have := hp.1; omega
 have hn := num4_eq f0 hb p hp h
 by_cases hv : valB ((f0.drop p.toNat).take 4) ≤ 2147483647
 rotate_left
 ·rw [if_neg hv]
  exact Rd.no (x := 0) (p := p + 4) (e := 42) (Ev.congr (f := fun _ => some (0, p + 4, 42)) (fun k => by simp [qAT.f, hp2, hn, hv]) (Ev.now _)) (by decide)
 rw [if_pos hv]
 exact Rd.ok (Ev.congr (f := fun _ => some (valB ((f0.drop p.toNat).take 4), p + (4 : Nat), 0)) (fun k => by simp [qAT.f, hp2, hn, hv]) (Ev.now _)) ⟨by have := hp.1; omega, hp2⟩
theorem raw_good (f0 : List Int) (hb : qBn f0) (most : Int) (hm : 0 ≤ most) (p : Int) (hp : Pl f0 p) : Rd f0 (fun _ => qAC.f f0 p 0 most) (rawP most (f0.drop p.toNat)) := by
 have hd := qDO f0 p hp
 have hmx : mx most 0 = most := by unfold mx; omega
 unfold rawP intP
 by_cases h : 4 ≤ (f0.drop p.toNat).length
 rotate_left
 ·rw [if_neg h]
  have hp2 : ¬ p + 4 ≤ f0.length := by have := hp.1; omega
  refine Rd.no (x := []) (p := p) (e := 40) (Ev.congr (f := fun _ => some ([], p, 40)) (fun k => ?_) (Ev.now _)) (by decide)
  unfold qAC.f
  rw [if_neg (by simp), if_neg hp2]
 rw [if_pos h, qC7 f0 p 4 hp]
 have hp2 : p + 4 ≤ f0.length := by have := hp.1; omega
 have hp4 : Pl f0 (p + (4 : Nat)) := ⟨by have := hp.1; omega, hp2⟩
 have hn := num4_eq f0 hb p hp h
 have hd4 := qDO f0 _ hp4
 have hv0 := (qC4 _ (qCs (qBu hb p.toNat) 4)).1
 generalize valB ((f0.drop p.toNat).take 4) = n at *
 by_cases hv : n ≤ 2147483647
 rotate_left
 ·rw [if_neg hv]
  refine Rd.no (x := []) (p := p + 4) (e := 42) (Ev.congr (f := fun _ => some ([], p + 4, 42)) (fun k => ?_) (Ev.now _)) (by decide)
  unfold qAC.f
  rw [hn, hmx, if_neg (by simp), if_pos hp2, if_neg hv]
 rw [if_pos hv]
 simp only [Option.bind_some]
 by_cases hq : n ≤ most ∧ n ≤ (f0.drop (p + (4 : Nat)).toNat).length
 ·rw [if_pos hq]
  have hq2 : p + 4 + n ≤ f0.length := by have := hp.1; omega
  have hdd := qC7 f0 (p + (4 : Nat)) n.toNat hp4
  rw [hdd]
  refine Rd.ok (p := p + (4 : Nat) + (n.toNat : Nat)) (Ev.congr (f := fun _ => some ((f0.drop (p + (4 : Nat)).toNat).take n.toNat, p + (4 : Nat) + (n.toNat : Nat), 0)) (fun k => ?_) (Ev.now _)) ⟨by have := hp.1; omega, by omega⟩
  unfold qAC.f
  rw [hn, hmx, if_neg (by simp), if_pos hp2, if_pos hv, if_pos hq.1, if_pos hq2]
  rw [show ((n.toNat : Nat) : Int) = n from by omega]; rfl
 rw [if_neg hq]
 by_cases hq1 : n ≤ most
 rotate_left
 ·refine Rd.no (x := []) (p := p + 4) (e := 3) (Ev.congr (f := fun _ => some ([], p + 4, 3)) (fun k => ?_) (Ev.now _)) (by decide)
  unfold qAC.f
  rw [hn, hmx, if_neg (by simp), if_pos hp2, if_pos hv, if_neg hq1]
 have hq2 : ¬ p + 4 + n ≤ f0.length := fun hh => hq ⟨hq1, by have := hp.1; omega⟩
 refine Rd.no (x := []) (p := p + 4) (e := 40) (Ev.congr (f := fun _ => some ([], p + 4, 40)) (fun k => ?_) (Ev.now _)) (by decide)
 unfold qAC.f
 rw [hn, hmx, if_neg (by simp), if_pos hp2, if_pos hv, if_pos hq1, if_neg hq2]
theorem qD8 (f0 : List Int) (hb : qBn f0) (most : Int) (hm : 0 ≤ most) (p : Int) (hp : Pl f0 p) : Rd f0 (fun _ => qAA.f f0 p 0 most) (qDH most (f0.drop p.toNat)) := by
 have h := raw_good f0 hb most hm p hp
 refine Rd.congr (g := fun k => (qAC.f f0 p 0 most).bind fun b => some (strOfNums b.1, b.2.1, b.2.2)) (s := (rawP most (f0.drop p.toNat)).bind fun a => some (strOfNums a.1, a.2)) ?_ (fun k => rfl) (by unfold qDH; cases rawP most (f0.drop p.toNat) <;> rfl)
 exact Rd.bind h (fun x p hp _ => Rd.ok (Ev.now _) hp) (fun x p e he => Rd.no (Ev.now _) he)
theorem rfail_eq (f0 : List Int) (p a : Int) : qAl.f f0 p 0 a = some (p, a) := by simp [qAl.f]
theorem take_loop (f0 : List Int) (hl : f0.length ≤ 4294967296) (p : Int) (hp : Pl f0 p) (n : Nat) (hn : p + n ≤ f0.length) : ∀ (d : Nat) (i v : Int), 0 ≤ i → (n : Int) - i = d →
  Ev (fun k => qAr.l0 k (n : Int) v i f0 p 0) ((((f0.drop p.toNat).take n).drop i.toNat).foldl qCO v, p + n, 0) := by
 intro d
 have h0 := hp.1
 have h1 := hp.2
 induction d with
 | zero =>
  intro i v hi hd
  rw [List.drop_eq_nil_of_le (by rw [List.length_take, List.length_drop]; omega)]
  refine Ev.step (f := fun _ => some (v, p + n, 0)) (fun k => ?_) (Ev.now _)
  simp only [qAr.l0]
  rw [if_neg (by omega), show wrap64 (p + (n : Int)) = p + n from by unfold wrap64; omega]
 | succ d ih =>
  intro i v hi hd
  have hlen : ((f0.drop p.toNat).take n).length = n := by rw [List.length_take, List.length_drop]; omega
  have hc := qC2 ((f0.drop p.toNat).take n) 0 i hi (by rw [hlen]; omega)
  have hx : ((f0.drop p.toNat).take n).getD i.toNat 0 = rd f0 (p + i) := by
   unfold rd
   rw [List.getD_eq_getElem?_getD, List.getD_eq_getElem?_getD, List.getElem?_take, if_pos (by omega), List.getElem?_drop, show p.toNat + i.toNat = (p + i).toNat from by omega]
  rw [hc, hx]
  have hw : wrap64 (p + i) = p + i := by unfold wrap64; omega
  have hw1 : wrap64 (i + 1) = i + 1 := by unfold wrap64; omega
  refine Ev.step (f := fun k => qAr.l0 k (n : Int) (qCO v (rd f0 (p + i))) (i + 1) f0 p 0) (fun k => ?_) (ih (i + 1) _ (by omega) (by omega))
  simp only [qAr.l0]
  rw [if_pos (by omega), hw, if_pos (by omega), if_pos (by omega), hw1]
  rfl
theorem qDF (f0 : List Int) (hb : qBn f0) (hl : f0.length ≤ 4294967296) (n : Nat) (hn : n ≤ 8) (p : Int) (hp : Pl f0 p) : Rd f0 (fun k => qAr.f k f0 p 0 (n : Int)) (numP n (f0.drop p.toNat)) := by
 have hd := qDO f0 p hp
 have h0 := hp.1
 have h1 := hp.2
 have hw : wrap64 ((f0.length : Int) - p) = f0.length - p := by unfold wrap64; omega
 unfold numP
 by_cases h : n ≤ (f0.drop p.toNat).length
 rotate_left
 ·rw [if_neg h]
  refine Rd.no (x := 0) (p := p) (e := 40) (Ev.congr (f := fun _ => some (0, p, 40)) (fun k => ?_) (Ev.now _)) (by decide)
  unfold qAr.f
  rw [if_pos rfl, hw, if_pos (by omega), rfail_eq]; rfl
 rw [if_pos h, qC7 f0 p n hp]
 have hq : p + n ≤ f0.length := by omega
 have hv : valB ((f0.drop p.toNat).take n) = ((f0.drop p.toNat).take n).foldl qCO 0 := (qEf _ (qCs (qBu hb p.toNat) n) (by rw [List.length_take]; omega)).symm
 refine Rd.ok ?_ ⟨by omega, hq⟩
 rw [hv]
 refine Ev.congr (f := fun k => qAr.l0 k (n : Int) 0 0 f0 p 0) (fun k => ?_) (take_loop f0 hl p hp n hq n 0 0 (by omega) (by omega))
 unfold qAr.f
 rw [if_pos rfl, hw, if_neg (by omega)]
theorem qEr (f0 : List Int) (n p e : Int) (he : e ≠ 0) (k : Nat) : qAr.f k f0 p e n = some (0, p, e) := by
 unfold qAr.f
 rw [if_neg he]
theorem numP1 (r : List Int) (hb : qBn r) : (numP 1 r).bind (fun a => some (a.1 % 256, a.2)) = qCU r := by
 unfold numP qCU
 cases r with
 | nil => simp
 | cons x r =>
  have hx := hb x List.mem_cons_self
  simp only [List.length_cons, Nat.le_add_left, if_true, Option.bind_some, List.take_succ_cons, List.take_zero, List.drop_succ_cons, List.drop_zero]
  have : valB [x] = x := by simp [valB]
  rw [this, Int.emod_eq_of_lt hx.1 hx.2]
theorem qC1 (f0 : List Int) (hb : qBn f0) (hl : f0.length ≤ 4294967296) (p : Int) (hp : Pl f0 p) : Rd f0 (fun k => qAt.f k f0 p 0) (qCU (f0.drop p.toNat)) := by
 refine Rd.congr (Rd.bind (qDF f0 hb hl 1 (by omega) p hp) (h := fun _ b => some (b.1 % 256, b.2.1, b.2.2)) (t := fun a => some (a.1 % 256, a.2)) (fun x p hp _ => Rd.ok (Ev.now _) hp) (fun x p e he => Rd.no (Ev.now _) he)) (fun k => rfl) (numP1 _ (qBu hb _)).symm
theorem qDi (f0 : List Int) (p e : Int) (he : e ≠ 0) (k : Nat) : qAt.f k f0 p e = some (0, p, e) := by
 unfold qAt.f; rw [qEr f0 1 p e he k]; rfl
theorem rlong_good (f0 : List Int) (hb : qBn f0) (hl : f0.length ≤ 4294967296) (p : Int) (hp : Pl f0 p) : Rd f0 (fun k => qAV.f k f0 p 0) (numP 8 (f0.drop p.toNat)) := by
 refine Rd.congr (Rd.bind (qDF f0 hb hl 8 (by omega) p hp) (h := fun _ b => some (b.1, b.2.1, b.2.2)) (t := fun a => some a) (fun x p hp _ => Rd.ok (Ev.now _) hp) (fun x p e he => Rd.no (Ev.now _) he)) (fun k => rfl) (by simp)
theorem rlong_bad (f0 : List Int) (p e : Int) (he : e ≠ 0) (k : Nat) : qAV.f k f0 p e = some (0, p, e) := by
 unfold qAV.f; rw [qEr f0 8 p e he k]; rfl
theorem qE0 (m : Nat) (r : List Int) (hb : qBn r) (a : Int × List Int) (h : numP m r = some a) : 0 ≤ a.1 ∧ a.1 < 256 ^ m := by
 unfold numP at h
 split at h
 ·rename_i hl
  obtain rfl := Option.some.inj h
  have := qC4 _ (qCs hb m)
  rw [List.length_take, Nat.min_eq_left hl] at this
  exact this
 cases h
theorem qF2 (f0 : List Int) (hb : qBn f0) (hl : f0.length ≤ 4294967296) (p : Int) (hp : Pl f0 p) : Rd f0 (fun k => qAK.f k f0 p 0) (numP 2 (f0.drop p.toNat)) := by
 refine Rd.congr (Rd.bind (qDF f0 hb hl 2 (by omega) p hp) (h := fun _ b => some (wrap64 b.1, b.2.1, b.2.2)) (t := fun a => some a) (fun x p2 hp2 hs => ?_) (fun x p e he => Rd.no (Ev.now _) he)) (fun k => rfl) (by simp)
 have := qE0 2 _ (qBu hb _) _ hs
 have hw : wrap64 x = x := by simp only at this; unfold wrap64; omega
 exact Rd.ok (by rw [hw]; exact Ev.now _) hp2
theorem rshort_bad (f0 : List Int) (p e : Int) (he : e ≠ 0) (k : Nat) : qAK.f k f0 p e = some (wrap64 0, p, e) := by
 unfold qAK.f; rw [qEr f0 2 p e he k]; rfl
theorem intP_eq (r : List Int) : intP r = (numP 4 r).bind fun a => if a.1 ≤ 2147483647 then some a else none := by
 unfold intP numP
 by_cases h : 4 ≤ r.length
 ·rw [if_pos h, if_pos h]; rfl
 rw [if_neg h, if_neg h]; rfl
theorem qDX (f0 : List Int) (hb : qBn f0) (hl : f0.length ≤ 4294967296) (p : Int) (hp : Pl f0 p) : Rd f0 (fun k => qA1.f k f0 p 0) (intP (f0.drop p.toNat)) := by
 refine Rd.congr (Rd.bind (qDF f0 hb hl 4 (by omega) p hp) (h := fun _ b => if b.1 > 2147483647 then (qAl.f f0 b.2.1 b.2.2 42).bind fun c => some (0, c.1, c.2) else some (wrap64 b.1, b.2.1, b.2.2)) (t := fun a => if a.1 ≤ 2147483647 then some a else none) (fun x p2 hp2 hs => ?_) (fun x p e he => ?_)) (fun k => rfl) (intP_eq _)
 ·have hx := qE0 4 _ (qBu hb _) _ hs
  by_cases h : x ≤ 2147483647
  rotate_left
  ·rw [if_neg h]
   refine Rd.no (x := 0) (p := p2) (e := 42) (Ev.congr (f := fun _ => some (0, p2, 42)) (fun k => ?_) (Ev.now _)) (by decide)
   show (if x > 2147483647 then (qAl.f f0 p2 0 42).bind _ else _) = _
   rw [if_pos (by omega), rfail_eq]; rfl
  rw [if_pos h]
  have hw : wrap64 x = x := by have h1 := hx.1; simp only at h1; unfold wrap64; omega
  refine Rd.ok (Ev.congr (f := fun _ => some (x, p2, 0)) (fun k => ?_) (Ev.now _)) hp2
  show (if x > 2147483647 then _ else some (wrap64 x, p2, 0)) = _
  rw [if_neg (by omega), hw]
 by_cases h : x > 2147483647
 rotate_left
 ·refine Rd.no (x := wrap64 x) (p := p) (e := e) (Ev.congr (f := fun _ => some (wrap64 x, p, e)) (fun k => ?_) (Ev.now _)) he
  show (if x > 2147483647 then (qAl.f f0 p e 42).bind _ else _) = _
  rw [if_neg h]
 refine Rd.no (x := 0) (p := p) (e := e) (Ev.congr (f := fun _ => some (0, p, e)) (fun k => ?_) (Ev.now _)) he
 show (if x > 2147483647 then (qAl.f f0 p e 42).bind _ else _) = _
 rw [if_pos h]
 unfold qAl.f
 rw [if_neg he]; rfl
theorem qEX (f0 : List Int) (p e : Int) (he : e ≠ 0) (k : Nat) : qA1.f k f0 p e = some (0, p, e) := by
 unfold qA1.f
 rw [qEr f0 4 p e he k]
 simp only [Option.bind_some]
 rw [if_neg (by decide), show wrap64 0 = 0 from by unfold wrap64; omega]
theorem qBS (r : List Int) (hb : qBn r) (a : Int × List Int) (h : intP r = some a) : 0 ≤ a.1 ∧ a.1 ≤ 2147483647 := by
 unfold intP at h
 split at h
 ·split at h
  ·rename_i h2
   obtain rfl := Option.some.inj h
   exact ⟨(qC4 _ (qCs hb 4)).1, h2⟩
  cases h
 cases h
theorem rraw_good (f0 : List Int) (hb : qBn f0) (hl : f0.length ≤ 4294967296) (most : Int) (hm : 0 ≤ most) (p : Int) (hp : Pl f0 p) : Rd f0 (fun k => qAF.f k f0 p 0 most) (rawP most (f0.drop p.toNat)) := by
 have hmany : ∀ k, qAJ.f k f0 p 0 most = (qA1.f k f0 p 0).bind fun b => (if b.1 > most then (if b.1 > 0 then ((qAl.f f0 b.2.1 b.2.2 3).bind fun c => some (0, c.1, c.2)) else some (b.1, b.2.1, b.2.2)) else some (b.1, b.2.1, b.2.2)) := fun k => rfl
 have h1 : Rd f0 (fun k => qAJ.f k f0 p 0 most) ((intP (f0.drop p.toNat)).bind fun a => if a.1 ≤ most then some a else none) := by
  refine Rd.congr (Rd.bind (qDX f0 hb hl p hp) (h := fun _ b => if b.1 > most then (if b.1 > 0 then ((qAl.f f0 b.2.1 b.2.2 3).bind fun c => some (0, c.1, c.2)) else some (b.1, b.2.1, b.2.2)) else some (b.1, b.2.1, b.2.2)) (t := fun a => if a.1 ≤ most then some a else none) (fun x p2 hp2 hs => ?_) (fun x p e he => ?_)) hmany rfl
  ·by_cases h : x ≤ most
   ·rw [if_pos h]
    refine Rd.ok (Ev.congr (f := fun _ => some (x, p2, 0)) (fun k => ?_) (Ev.now _)) hp2
    show (if x > most then _ else some (x, p2, 0)) = _
    rw [if_neg (by omega)]
   rw [if_neg h]
   refine Rd.no (x := 0) (p := p2) (e := 3) (Ev.congr (f := fun _ => some (0, p2, 3)) (fun k => ?_) (Ev.now _)) (by decide)
   show (if x > most then (if x > 0 then (qAl.f f0 p2 0 3).bind _ else _) else _) = _
   rw [if_pos (by omega), if_pos (by omega), rfail_eq]; rfl
  by_cases h : x > most
  rotate_left
  ·refine Rd.no (x := x) (p := p) (e := e) (Ev.congr (f := fun _ => some (x, p, e)) (fun k => ?_) (Ev.now _)) he
   show (if x > most then _ else some (x, p, e)) = _
   rw [if_neg h]
  by_cases h2 : x > 0
  rotate_left
  ·refine Rd.no (x := x) (p := p) (e := e) (Ev.congr (f := fun _ => some (x, p, e)) (fun k => ?_) (Ev.now _)) he
   show (if x > most then (if x > 0 then _ else some (x, p, e)) else _) = _
   rw [if_pos h, if_neg h2]
  refine Rd.no (x := 0) (p := p) (e := e) (Ev.congr (f := fun _ => some (0, p, e)) (fun k => ?_) (Ev.now _)) he
  show (if x > most then (if x > 0 then (qAl.f f0 p e 3).bind _ else _) else _) = _
  rw [if_pos h, if_pos h2]
  unfold qAl.f
  rw [if_neg he]; rfl
 have hraw : ∀ k, qAF.f k f0 p 0 most = (qAJ.f k f0 p 0 most).bind fun b => (if b.2.2 ≠ 0 then some ([], b.2.1, b.2.2) else if 0 ≤ b.2.1 ∧ b.2.1 ≤ f0.length ∧ 0 ≤ b.1 ∧ b.1 ≤ 2147483647 then (if f0.length - b.2.1 < b.1 then some ([], b.2.1, 40) else some ((f0.drop b.2.1.toNat).take b.1.toNat, b.2.1 + b.1, 0)) else none) := fun k => rfl
 refine Rd.congr (Rd.bind h1 (h := fun _ b => (if b.2.2 ≠ 0 then some ([], b.2.1, b.2.2) else if 0 ≤ b.2.1 ∧ b.2.1 ≤ f0.length ∧ 0 ≤ b.1 ∧ b.1 ≤ 2147483647 then (if f0.length - b.2.1 < b.1 then some ([], b.2.1, 40) else some ((f0.drop b.2.1.toNat).take b.1.toNat, b.2.1 + b.1, 0)) else none)) (t := fun a => if a.1 ≤ a.2.length then some (a.2.take a.1.toNat, a.2.drop a.1.toNat) else none) (fun x p2 hp2 hs => ?_) (fun x p e he => ?_)) hraw ?_
 ·have hx : 0 ≤ x ∧ x ≤ 2147483647 := by
   cases hi : intP (f0.drop p.toNat) with
   | none => rw [hi] at hs; cases hs
   | some a =>
    rw [hi] at hs
    simp only [Option.bind_some] at hs
    split at hs
    ·have := qBS _ (qBu hb _) _ hi
     obtain rfl := Option.some.inj hs
     exact this
    cases hs
  have hd := qDO f0 p2 hp2
  have h20 := hp2.1
  have h21 := hp2.2
  by_cases h : x ≤ (f0.drop p2.toNat).length
  rotate_left
  ·rw [if_neg h]
   refine Rd.no (x := []) (p := p2) (e := 40) (Ev.congr (f := fun _ => some ([], p2, 40)) (fun k => ?_) (Ev.now _)) (by decide)
   show (if (0 : Int) ≠ 0 then _ else if 0 ≤ p2 ∧ p2 ≤ f0.length ∧ 0 ≤ x ∧ x ≤ 2147483647 then (if f0.length - p2 < x then _ else _) else none) = _
   rw [if_neg (by simp), if_pos ⟨h20, h21, hx.1, hx.2⟩, if_pos (by omega)]
  rw [if_pos h]
  have hdd := qC7 f0 p2 x.toNat hp2
  simp only
  rw [hdd]
  refine Rd.ok (p := p2 + (x.toNat : Nat)) (Ev.congr (f := fun _ => some ((f0.drop p2.toNat).take x.toNat, p2 + (x.toNat : Nat), 0)) (fun k => ?_) (Ev.now _)) ⟨by omega, by omega⟩
  show (if (0 : Int) ≠ 0 then _ else if 0 ≤ p2 ∧ p2 ≤ f0.length ∧ 0 ≤ x ∧ x ≤ 2147483647 then (if f0.length - p2 < x then _ else some ((f0.drop p2.toNat).take x.toNat, p2 + x, 0)) else none) = _
  rw [if_neg (by simp), if_pos ⟨h20, h21, hx.1, hx.2⟩, if_neg (by omega), show ((x.toNat : Nat) : Int) = x from by omega]
 ·refine Rd.no (x := []) (p := p) (e := e) (Ev.congr (f := fun _ => some ([], p, e)) (fun k => ?_) (Ev.now _)) he
  show (if e ≠ 0 then _ else _) = _
  rw [if_pos he]
 unfold rawP
 cases intP (f0.drop p.toNat) with
 | none => rfl
 | some a =>
  simp only [Option.bind_some]
  by_cases h : a.1 ≤ most
  rotate_left
  ·rw [if_neg (fun hh => h hh.1), if_neg h]; rfl
  rw [if_pos h, Option.bind_some]
  by_cases h2 : a.1 ≤ a.2.length
  ·rw [if_pos ⟨h, h2⟩, if_pos h2]
  rw [if_neg (fun hh => h2 hh.2), if_neg h2]
theorem rraw_bad (f0 : List Int) (most p e : Int) (hm : 0 ≤ most) (he : e ≠ 0) (k : Nat) : qAF.f k f0 p e most = some ([], p, e) := by
 unfold qAF.f qAJ.f
 rw [qEX f0 p e he k]
 simp only [Option.bind_some]
 rw [if_neg (by omega)]
 simp only [Option.bind_some]
 rw [if_pos he]
theorem qDb (f0 : List Int) (hb : qBn f0) (hl : f0.length ≤ 4294967296) (most : Int) (hm : 0 ≤ most) (p : Int) (hp : Pl f0 p) : Rd f0 (fun k => qAq.f k f0 p 0 most) (qDH most (f0.drop p.toNat)) := by
 have h := rraw_good f0 hb hl most hm p hp
 refine Rd.congr (g := fun k => (qAF.f k f0 p 0 most).bind fun b => some (strOfNums b.1, b.2.1, b.2.2)) (s := (rawP most (f0.drop p.toNat)).bind fun a => some (strOfNums a.1, a.2)) ?_ (fun k => rfl) (by unfold qDH; cases rawP most (f0.drop p.toNat) <;> rfl)
 exact Rd.bind h (fun x p hp _ => Rd.ok (Ev.now _) hp) (fun x p e he => Rd.no (Ev.now _) he)
theorem qEg (f0 : List Int) (most p e : Int) (hm : 0 ≤ most) (he : e ≠ 0) (k : Nat) : qAq.f k f0 p e most = some (strOfNums [], p, e) := by
 unfold qAq.f; rw [rraw_bad f0 most p e hm he k]; rfl
end Q
end
end Go.Proofs.YtfjpnjbinbhcfaaGreat
