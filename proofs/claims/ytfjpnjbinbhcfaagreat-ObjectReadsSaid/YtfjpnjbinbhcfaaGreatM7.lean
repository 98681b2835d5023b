/- What the document's object.Unpack and the program's tell of any bytes is the same: Rows.ObjectReadsSaid. Part 7 of 11. -/
import Derived.Test.YtfjpnjbinbhcfaaGreatM6
set_option maxHeartbeats 8000000
set_option maxRecDepth 100000
set_option linter.unusedVariables false
set_option linter.unusedSimpArgs false
namespace Go.Proofs.YtfjpnjbinbhcfaaGreat
section
namespace Q
open Go.RowKit PA PC PB
attribute [local go_sem] qBe min2_int qBq min_two max_three min_three max_four min_four
mutual
def qAd.l0 : Nat → List Int → List Int → Int → Int → List Int → Int → Int → Option (ByteArray × (List (S85)) × (List (S92)) × (List (S104)) × Int)
 | 0, _, _, _, _, _, _, _ => none
 | k + 1, x0, fz, g4, dt, aM, aZ, a1 => if dt < g4 then (if 0 ≤ dt then (if dt < (fz.length : Int) then ((qAu.f aM aZ a1).bind fun b6 => (if b6.1 = (rd fz dt) then (qAd.l0 k x0 fz g4 (wrap64 (dt + 1)) aM b6.2.1 b6.2.2) else ((qAP.f aM b6.2.1 b6.2.2 52).bind fun b7 => (qAd.l0 k x0 fz g4 (wrap64 (dt + 1)) aM b7.1 b7.2)))) else (none)) else (none)) else ((qAA.f aM aZ a1 32).bind fun cM => ((qAT.f aM cM.2.1 cM.2.2).bind fun bK => (qAd.l1 k x0 bK.1 aM bK.2.1 bK.2.2 cM.1 ([] : List (S85)))))
def qAd.l1 : Nat → List Int → Int → List Int → Int → Int → ByteArray → List (S85) → Option (ByteArray × (List (S85)) × (List (S92)) × (List (S104)) × Int)
 | 0, _, _, _, _, _, _, _ => none
 | k + 1, x0, x8, aM, aZ, a1, a4, a3 => if x8 > 0 then ((qAL.f aM aZ a1).bind fun cN => (qAd.j2 k x0 x8 (cN.1 == 0) aM cN.2.1 cN.2.2 a4 a3)) else (qAd.j2 k x0 x8 false aM aZ a1 a4 a3)
def qAd.j2 : Nat → List Int → Int → Bool → List Int → Int → Int → ByteArray → List (S85) → Option (ByteArray × (List (S85)) × (List (S92)) × (List (S104)) × Int)
 | 0, _, _, _, _, _, _, _, _ => none
 | k + 1, x0, x8, hI, aM, aZ, a1, a4, a3 => if hI = true then ((qAA.f aM aZ a1 32).bind fun bL => ((qAu.f aM bL.2.1 bL.2.2).bind fun bA => ((qBj.f aM bA.2.1 bA.2.2).bind fun ao => (if a3.length < 4398046511104 then (qAd.l1 k x0 (wrap64 (x8 - 1)) aM ao.2.1 ao.2.2 a4 (a3 ++ [(⟨bL.1, (⟨wrap64 (bA.1), ao.1⟩ : S83)⟩ : S85)])) else (none))))) else ((qAT.f aM aZ a1).bind fun bM => (qAd.l2 k x0 bM.1 aM bM.2.1 bM.2.2 a4 a3 ([] : List (S92))))
def qAd.l2 : Nat → List Int → Int → List Int → Int → Int → ByteArray → List (S85) → List (S92) → Option (ByteArray × (List (S85)) × (List (S92)) × (List (S104)) × Int)
 | 0, _, _, _, _, _, _, _, _ => none
 | k + 1, x0, x9, aM, aZ, a1, a4, a3, a9 => if x9 > 0 then ((qAL.f aM aZ a1).bind fun cO => (qAd.j4 k x0 x9 (cO.1 == 0) aM cO.2.1 cO.2.2 a4 a3 a9)) else (qAd.j4 k x0 x9 false aM aZ a1 a4 a3 a9)
def qAd.j4 : Nat → List Int → Int → Bool → List Int → Int → Int → ByteArray → List (S85) → List (S92) → Option (ByteArray × (List (S85)) × (List (S92)) × (List (S104)) × Int)
 | 0, _, _, _, _, _, _, _, _, _ => none
 | k + 1, x0, x9, hJ, aM, aZ, a1, a4, a3, a9 => if hJ = true then ((qAA.f aM aZ a1 32).bind fun bN => ((qBF.f k aM bN.2.1 bN.2.2).bind fun ah => (if a9.length < 1466015503701 then (qAd.l2 k x0 (wrap64 (x9 - 1)) aM ah.2.2.2.2.1 ah.2.2.2.2.2 a4 a3 (a9 ++ [(⟨bN.1, (⟨(⟨ah.1, ah.2.1⟩ : S69), ah.2.2.1, ah.2.2.2.1⟩ : S90)⟩ : S92)])) else (none)))) else ((qAT.f aM aZ a1).bind fun bO => (qAd.l3 k x0 bO.1 aM bO.2.1 bO.2.2 a4 a3 a9 ([] : List (S104))))
def qAd.l3 : Nat → List Int → Int → List Int → Int → Int → ByteArray → List (S85) → List (S92) → List (S104) → Option (ByteArray × (List (S85)) × (List (S92)) × (List (S104)) × Int)
 | 0, _, _, _, _, _, _, _, _, _ => none
 | k + 1, x0, fg, aM, aZ, a1, a4, a3, a9, ay => if fg > 0 then ((qAL.f aM aZ a1).bind fun cP => (qAd.j6 k x0 fg (cP.1 == 0) aM cP.2.1 cP.2.2 a4 a3 a9 ay)) else (qAd.j6 k x0 fg false aM aZ a1 a4 a3 a9 ay)
def qAd.j6 : Nat → List Int → Int → Bool → List Int → Int → Int → ByteArray → List (S85) → List (S92) → List (S104) → Option (ByteArray × (List (S85)) × (List (S92)) × (List (S104)) × Int)
 | 0, _, _, _, _, _, _, _, _, _, _ => none
 | k + 1, x0, fg, hL, aM, aZ, a1, a4, a3, a9, ay => if hL = true then ((qAU.f aM aZ a1).bind fun bP => ((qAU.f aM bP.2.1 bP.2.2).bind fun bB => ((qAu.f aM bB.2.1 bB.2.2).bind fun ap => ((qAA.f aM ap.2.1 ap.2.2 32).bind fun ai => ((qAA.f aM ai.2.1 ai.2.2 32).bind fun a8 => (if ay.length < 2513169434916 then (qAd.l3 k x0 (wrap64 (fg - 1)) aM a8.2.1 a8.2.2 a4 a3 a9 (ay ++ [(⟨bP.1, bB.1, wrap64 (ap.1), ai.1, a8.1⟩ : S104)])) else (none))))))) else ((qBi.f aM aZ a1).bind fun cQ => (if cQ.1 = 0 then ((qBw.f a4 a3 a9 ay).bind fun bH => (if bH.2 = 0 then ((qA8.f k x0 bH.1).bind fun bW => (if bW = true then (some (a4, a3, a9, ay, 0)) else (some ((⟨#[]⟩ : ByteArray), ([] : List (S85)), ([] : List (S92)), ([] : List (S104)), 52)))) else (some ((⟨#[]⟩ : ByteArray), ([] : List (S85)), ([] : List (S92)), ([] : List (S104)), 52)))) else (some ((⟨#[]⟩ : ByteArray), ([] : List (S85)), ([] : List (S92)), ([] : List (S104)), 52))))
end
def qAd.f (k : Nat) (l0 : List Int) : Option (ByteArray × (List (S85)) × (List (S92)) × (List (S104)) × Int) := if (l0.length : Int) > 16384 then (some ((⟨#[]⟩ : ByteArray), ([] : List (S85)), ([] : List (S92)), ([] : List (S104)), 3)) else ((qCQ.f l0).bind fun bJ => ((some (([102, 111, 98, 106] : List Int) : List Int)).bind fun aa => (qAd.l0 k l0 aa (aa.length : Int) 0 bJ.1 bJ.2.1 bJ.2.2)))
def qAd.T14 : Bool × List (List Nat × List Nat) := (true, [([], []), ([0], [0]), ([], []), ([2], [2]), ([], []), ([4, 3], [4]), ([5], [5]), ([], []), ([7, 5], [7]), ([6, 8], [6, 8]), ([3, 9], [3, 9]), ([10], [10]), ([1, 11, 8], [1, 11]), ([0, 1, 2, 3, 4, 5, 6, 7, 8, 9, 10, 11, 12], []), ([13, 12, 12, 0, 1, 2, 3, 4, 5, 6, 7, 8, 9, 10, 11, 12], [12, 13])])
def qAd.B14 : List Nat := [0, 1, 0, 4, 0, 28, 60, 0, 188, 508, 1020, 2044, 4095, 8191, 16383]
theorem qAd.tab14 : rtab .any (opsOf Tryz.f16 14) = qAd.T14 := by kernel_rfl
theorem qAd.bits14 : qCG qAd.T14.2 qAd.B14 = true := by kernel_rfl
def qAd.T18 : Bool × List (List Nat × List Nat) := (true, [([], []), ([0], [0]), ([], []), ([2], [2]), ([], []), ([4, 3], [4]), ([3, 5], [3, 5]), ([6], [6]), ([1, 7, 5], [1, 7]), ([0, 1, 2, 3, 4, 5, 6, 7, 8], []), ([9, 8, 8, 0, 1, 2, 3, 4, 5, 6, 7, 8], [8, 9])])
def qAd.B18 : List Nat := [0, 1, 0, 4, 0, 28, 60, 124, 255, 511, 1023]
theorem qAd.tab18 : rtab .any (opsOf Tryz.f16 18) = qAd.T18 := by kernel_rfl
theorem qAd.bits18 : qCG qAd.T18.2 qAd.B18 = true := by kernel_rfl
def qAd.T22 : Bool × List (List Nat × List Nat) := (true, [([], []), ([0], [0]), ([], []), ([2], [2]), ([], []), ([4, 3], [4]), ([], []), ([6, 5], [6]), ([7], [7]), ([], []), ([9, 7], [9]), ([], []), ([11, 10], [11]), ([3, 5, 8, 10, 12], [3, 5, 8, 10, 12]), ([13], [13]), ([1, 14, 12], [1, 14]), ([0, 1, 2, 3, 4, 5, 6, 7, 8, 9, 10, 11, 12, 13, 14, 15], []), ([16, 15, 15, 0, 1, 2, 3, 4, 5, 6, 7, 8, 9, 10, 11, 12, 13, 14, 15], [15, 16])])
def qAd.B22 : List Nat := [0, 1, 0, 4, 0, 28, 0, 124, 252, 0, 764, 0, 3836, 8188, 16380, 32767, 65535, 131071]
theorem qAd.tab22 : rtab .any (opsOf Tryz.f16 22) = qAd.T22 := by kernel_rfl
theorem qAd.bits22 : qCG qAd.T22.2 qAd.B22 = true := by kernel_rfl
theorem qAd.calls (k : Nat) (A0 : Option Addr) (c0 : Nat) (l0 : List Int) (r1 : ByteArray) (r2 : List (S85)) (r3 : List (S92)) (r4 : List (S104)) (r5 : Int) (w : World) (hr0 : Kd.C (Kd.int .u8) w A0 l0.length l0) (hc0 : l0.length ≤ c0) (h : qAd.f k l0 = some (r1, r2, r3, r4, r5)) :
  Calls Tryz.prog 16 #[.slice A0 l0.length c0] w fun e w' => ∃ v1_ v2_ v3_ : Value, e = .returned (.tuple #[.agg #[.string r1, v1_, v2_, v3_], .int .i64 r5]) ∧ Kd.R k85 85 w' w.heap.size (fun _ => True) v1_ r2 ∧ Kd.S k92 92 w' w.heap.size (fun _ => True) v2_ r3 ∧ Kd.R k104 104 w' w.heap.size (fun _ => True) v3_ r4 ∧ Below w.heap.size w w' := by
 have gE := am hr0
 have gD := am hc0
 clear hr0 hc0
 have HB := am (Below.refl w.heap.size w)
 have H : (if (l0.length : Int) > 16384 then (some ((⟨#[]⟩ : ByteArray), ([] : List (S85)), ([] : List (S92)), ([] : List (S104)), 3)) else ((qCQ.f l0).bind fun bJ => ((some (([102, 111, 98, 106] : List Int) : List Int)).bind fun aa => (qAd.l0 k l0 aa (aa.length : Int) 0 bJ.1 bJ.2.1 bJ.2.2)))) = some (r1, r2, r3, r4, r5) := h
 clear h
 by_cases c2 : (l0.length : Int) > 16384
 ·rw [if_pos c2] at H
  have ea := d1 c2
  clear c2
  simp only [Option.some.injEq, Prod.mk.injEq] at H
  obtain ⟨rfl, rfl, rfl, rfl, rfl⟩ := H
  go_enter Tryz.func16, Tryz.ntmps16
  go_wp2_with ((with_reducible refine qAO (N := 2) rfl ?_); refine bx 2 #[.string ⟨#[]⟩, .slice none 0 0, .slice none 0 0, .slice none 0 0] 33 ?_; intro aR hg w3 hbox hb; have n_ := a2 (qAp HB.o hb) (a2 (hbox) (am (by rw [hg]; exact (qA5 HB.o) : w.heap.size ≤ aR))); clear HB; obtain ⟨HB, aE, bX⟩ := n_; clear hb hbox hg; have gU : w3.cell? ⟨aR, 0, none⟩ = some (.string ⟨#[]⟩) := (qAa aE.o 0).trans rfl; have gV : w3.cell? ⟨aR, 1, none⟩ = some (.slice none 0 0) := (qAa aE.o 1).trans rfl; have gW : w3.cell? ⟨aR, 2, none⟩ = some (.slice none 0 0) := (qAa aE.o 2).trans rfl; have gX : w3.cell? ⟨aR, 3, none⟩ = some (.slice none 0 0) := (qAa aE.o 3).trans rfl; have gY := qAb aE.o 0; have gZ := qAb aE.o 1; have g0 := qAb aE.o 2; have g1 := qAb aE.o 3)
  refine bodyPost_ret (qBW rfl _ _ aR 33 #[.string ⟨#[]⟩, .slice none 0 0, .slice none 0 0, .slice none 0 0] (0, 0) _ rfl (by refine qAx (cs := #[.string ⟨#[]⟩, .slice none 0 0, .slice none 0 0, .slice none 0 0]) ?_ 3 _ rfl; refine qAx (cs := #[.string ⟨#[]⟩, .slice none 0 0, .slice none 0 0, .slice none 0 0]) ?_ 2 _ rfl; refine qAx (cs := #[.string ⟨#[]⟩, .slice none 0 0, .slice none 0 0, .slice none 0 0]) ?_ 1 _ rfl; refine qAx (cs := #[.string ⟨#[]⟩, .slice none 0 0, .slice none 0 0, .slice none 0 0]) ?_ 0 _ rfl; exact aE.o) Tryz.underlying33 rfl (by kernel_rfl)) rfl ?_
  exact ⟨_, _, _, by rfl, by (exact Kd.R_nil _ _ _ _ _), by (exact Kd.S_nil _ _ _ _ _), by (exact Kd.R_nil _ _ _ _ _), by repeat (with_reducible first | exact HB.o | refine qAs ?_ bX.o)⟩
 ·rw [if_neg c2] at H
  have ea := d0 c2
  have gF : decide (16384 < l0.length) = false := decide_eq_false (by omega)
  clear c2
  replace H := bm H
  obtain ⟨⟨aN, cl, cm⟩, g6, H⟩ := H
  replace H : ((some (([102, 111, 98, 106] : List Int) : List Int)).bind fun aa => (qAd.l0 k l0 aa (aa.length : Int) 0 aN cl cm)) = some (r1, r2, r3, r4, r5) := H
  have A5 := am g6
  clear g6
  obtain ⟨aa, cV⟩ : ∃ y_ : List Int, y_ = ([102, 111, 98, 106] : List Int) := ⟨_, rfl⟩
  replace H : (qAd.l0 k l0 aa (aa.length : Int) 0 aN cl cm) = some (r1, r2, r3, r4, r5) := by (have H2_ := (Option.bind_some _ _).symm.trans H; rw [cV]; with_reducible exact H2_)
  have dD := am cV
  clear cV
  have H' := am H
  clear H
  go_enter Tryz.func16, Tryz.ntmps16
  go_wp2_with (first | ((with_reducible refine qAO (N := 2) rfl ?_); refine bx 2 #[.string ⟨#[]⟩, .slice none 0 0, .slice none 0 0, .slice none 0 0] 33 ?_; intro aR hg w6 hbox hb; have n_ := a2 (qAp HB.o hb) (a2 (hbox) (am (by rw [hg]; exact (qA5 HB.o) : w.heap.size ≤ aR))); clear HB; obtain ⟨HB, aE, bX⟩ := n_; clear hb hbox hg) | ((with_reducible refine qAk (f := 55) rfl ?_); refine gL 18 Tryz.func55 #[.slice A0 l0.length c0] ?_; (with_reducible refine (qCQ.calls _ _ l0 aN cl cm w _ ?side1 ?side2 ?side3 A5.o).mono ?_); (case side1 => exact HB.o); (case side2 => exact gE.o); (case side3 => exact gD.o); rintro e w7 ⟨aY, rfl, hi, hb, hb2⟩; refine ⟨_, rfl, ?_⟩; have n_ := a2 (qA4 aE.o hb2) (a2 (hb) (a2 (hi) (am (Ne.symm (qAm.ne_blk hi (qA4 aE.o hb2) (by decide)))))); clear aE HB; obtain ⟨aE, HB, aG, aQ⟩ := n_) | ((with_reducible refine qAO (N := 19) rfl ?_); refine Kd.R_lit (Kd.int .u8) _ 5 ?hg (N := 19) ?hd (xs := ([102, 111, 98, 106] : List Int)) (inner := [.int .u8 102, .int .u8 111, .int .u8 98, .int .u8 106]) (ok := fun _ => True) (okp := fun _ => True) ?hr ?hp (fun _ hk => hk) trivial (Below.refl _ _) (Nat.le_refl _) (by simp) ?_; (case hd => rfl); (case hg => rfl); (case hr => (go_simp; done)); (case hp => exact (Reps.one (show Kd.M (Kd.int .u8) _ _ _ 102 [.int .u8 102] from rfl) (Reps.one (show Kd.M (Kd.int .u8) _ _ _ 111 [.int .u8 111] from rfl) (Reps.one (show Kd.M (Kd.int .u8) _ _ _ 98 [.int .u8 98] from rfl) (Reps.one (show Kd.M (Kd.int .u8) _ _ _ 106 [.int .u8 106] from rfl) (Reps.none _ _)))))); intro gx w8 fw hb hg_ hnew_; clear hg_ hnew_; (rw [← dD.o] at fw); obtain ⟨gB, gG, gI⟩ := Kd.R_slice fw; subst gI; have g8 := am fw; have HB9 := am hb; clear hb fw) | ((with_reducible refine qAO (N := 20) rfl ?_); refine mark_event rfl (.tmp 19) 38 5 rfl Tryz.underlying38 Tryz.underlying5 rfl g8.o HB9.o (by rw [dD.o]; decide) ?_; intro wm9 hmk hb; have n_ := a2 hmk (a2 (qA4 aE.o hb) (a2 (qAm.below aG.o hb) (am (qAp HB.o hb)))); clear aE aG HB; obtain ⟨eZ, aE, aG, HB⟩ := n_; clear hb hmk; clear g8 HB9))
  go_loopg [22] k (fun kq gy w' => ∃ (a7 : Int) (al : Int) (an : Int), gy = .int .i64 a7 ∧ qAe (qAd.l0 kq l0 aa (aa.length : Int) a7 aN al an = some (r1, r2, r3, r4, r5)) ∧ qAe (kq ≤ k) ∧ qAe (MkR 5 w' (.slice gB aa.length gG) aa) ∧ qAe (w'.heap[aR]? = some (.cells #[.string ⟨#[]⟩, (.slice none 0 0), (.slice none 0 0), (.slice none 0 0)] 33 (0, 0))) ∧ qAe (qAm w w' aY aN al an) ∧ qAe (Below w.heap.size w w'))
  case atStart => exact ⟨(0), (cl), (cm), (by rfl), H', ⟨Nat.le_refl _⟩, ⟨by exact eZ.o⟩, ⟨by exact aE.o⟩, ⟨by exact aG.o⟩, ⟨by exact HB.o⟩⟩
  case round =>
   clear H'
   obtain ⟨a7, al, an, rfl, HA, bc, ag, aE, aG, HB⟩ := hrel
   cases gk with
   | zero => exact absurd HA.o (by simp [qAd.l0])
   | succ k1 =>
    have H := HA.o
    clear HA
    simp only [qAd.l0] at H
    by_cases dn : a7 < (aa.length : Int)
    ·rw [if_pos dn] at H
     replace dn := d1 dn
     obtain ⟨fj, H⟩ := gd H
     replace fj := d1 fj
     obtain ⟨fk, H⟩ := gd H
     replace fk := d1 fk
     replace H := bm H
     obtain ⟨⟨bz, cA, cB⟩, du, H⟩ := H
     replace H : (if bz = (rd aa a7) then (qAd.l0 k1 l0 aa (aa.length : Int) (wrap64 (a7 + 1)) aN cA cB) else ((qAP.f aN cA cB 52).bind fun b7 => (qAd.l0 k1 l0 aa (aa.length : Int) (wrap64 (a7 + 1)) aN b7.1 b7.2))) = some (r1, r2, r3, r4, r5) := H
     have g5 := am du
     clear du
     by_cases e7 : bz = (rd aa a7)
     ·rw [if_pos e7] at H
      have e8 : (bz != (rd aa a7)) = false := bn e7
      clear e7
      have H' := am H
      clear H
      have bd : 0 ≤ a7 := od (by assumption)
      have bg : a7 < (aa.length : Int) := od (by assumption)
      obtain ⟨e6, dK, ck⟩ := MkR.at_int ag.o a7 bd bg
      cases dK
      replace bd := eq_true bd
      replace bg := eq_true bg
      go_wp2_with ((with_reducible refine qAk (f := 56) rfl ?_); refine gL 27 Tryz.func56 #[.pointer (some ⟨aY, 0, none⟩)] ?_; (with_reducible refine (qAu.calls aY aN al an bz cA cB w _ ?side1 ?side2 g5.o).mono ?_); (case side1 => exact aG.o); (case side2 => exact HB.o); rintro e hM ⟨rfl, hi, hb, hk⟩; refine ⟨_, rfl, ?_⟩; have n_ := a2 (MkR.keepS ag.o hk aG.o (by decide)) (a2 (qAg.blk hk aE.o aQ.o (by simp)) (a2 (hb) (am (hi)))); clear ag aE HB aG; obtain ⟨ag, aE, HB, aG⟩ := n_)
      go_roundg k1
      case measure => have := bc.o; omega
      case rel => exact ⟨(wrap64 (a7 + 1)), (cA), (cB), (by rfl), H', ⟨by have := bc.o; omega⟩, ⟨by exact ag.o⟩, ⟨by exact aE.o⟩, ⟨by exact aG.o⟩, ⟨by exact HB.o⟩⟩
     rw [if_neg e7] at H
     have e8 : (bz != (rd aa a7)) = true := bne_iff_ne.mpr e7
     replace H := bm H
     obtain ⟨⟨dL, dM⟩, dv, H⟩ := H
     replace H : (qAd.l0 k1 l0 aa (aa.length : Int) (wrap64 (a7 + 1)) aN dL dM) = some (r1, r2, r3, r4, r5) := H
     have gb := am dv
     clear dv
     have H' := am H
     clear H
     have bd : 0 ≤ a7 := od (by assumption)
     have bg : a7 < (aa.length : Int) := od (by assumption)
     obtain ⟨e6, dK, ck⟩ := MkR.at_int ag.o a7 bd bg
     cases dK
     replace bd := eq_true bd
     replace bg := eq_true bg
     go_wp2_with (first | ((with_reducible refine qAk (f := 56) rfl ?_); refine gL 27 Tryz.func56 #[.pointer (some ⟨aY, 0, none⟩)] ?_; (with_reducible refine (qAu.calls aY aN al an bz cA cB w _ ?side1 ?side2 g5.o).mono ?_); (case side1 => exact aG.o); (case side2 => exact HB.o); rintro e hN ⟨rfl, hi, hb, hk⟩; refine ⟨_, rfl, ?_⟩; have n_ := a2 (MkR.keepS ag.o hk aG.o (by decide)) (a2 (qAg.blk hk aE.o aQ.o (by simp)) (a2 (hb) (am (hi)))); clear ag aE HB aG; obtain ⟨ag, aE, HB, aG⟩ := n_) | ((with_reducible refine qAk (f := 57) rfl ?_); refine gL 31 Tryz.func57 #[.pointer (some ⟨aY, 0, none⟩), .int .i64 52] ?_; (with_reducible refine (qAP.calls aY aN cA cB 52 dL dM w _ ?side1 ?side2 gb.o).mono ?_); (case side1 => exact aG.o); (case side2 => exact HB.o); rintro e hO ⟨rfl, hi, hb, hk⟩; refine ⟨_, rfl, ?_⟩; have n_ := a2 (MkR.keepS ag.o hk aG.o (by decide)) (a2 (qAg.blk hk aE.o aQ.o (by simp)) (a2 (hb) (am (hi)))); clear ag aE HB aG; obtain ⟨ag, aE, HB, aG⟩ := n_))
     go_roundg k1
     case measure => have := bc.o; omega
     case rel => exact ⟨(wrap64 (a7 + 1)), (dL), (dM), (by rfl), H', ⟨by have := bc.o; omega⟩, ⟨by exact ag.o⟩, ⟨by exact aE.o⟩, ⟨by exact aG.o⟩, ⟨by exact HB.o⟩⟩
    rw [if_neg dn] at H
    replace dn := d0 dn
    replace H := bm H
    obtain ⟨⟨aU, dN, dO⟩, dw, H⟩ := H
    replace H : ((qAT.f aN dN dO).bind fun bK => (qAd.l1 k1 l0 bK.1 aN bK.2.1 bK.2.2 aU ([] : List (S85)))) = some (r1, r2, r3, r4, r5) := H
    have gc := am dw
    clear dw
    replace H := bm H
    obtain ⟨⟨dP, dQ, dR⟩, dx, H⟩ := H
    replace H : (qAd.l1 k1 l0 dP aN dQ dR aU ([] : List (S85))) = some (r1, r2, r3, r4, r5) := H
    have gf := am dx
    clear dx
    have H' := am H
    clear H
    go_wp2_with (first | ((with_reducible refine qAk (f := 58) rfl ?_); refine gL 34 Tryz.func58 #[.pointer (some ⟨aY, 0, none⟩), .int .i64 32] ?_; (with_reducible refine (qAA.calls aY aN al an 32 aU dN dO w _ ?side1 ?side2 gc.o).mono ?_); (case side1 => exact aG.o); (case side2 => exact HB.o); rintro e hP ⟨rfl, hi, hb, hk⟩; refine ⟨_, rfl, ?_⟩; have n_ := a2 (MkR.keepS ag.o hk aG.o (by decide)) (a2 (qAg.blk hk aE.o aQ.o (by simp)) (a2 (hb) (am (hi)))); clear ag aE HB aG; obtain ⟨ag, aE, HB, aG⟩ := n_) | ((with_reducible refine qAO (N := 7) rfl ?_); refine bx 7 #[.string ⟨#[]⟩, .slice none 0 0, .slice none 0 0, .slice none 0 0] 33 ?_; intro aT hg fx hbox hb; have n_ := a2 (MkR.below ag.o hb) (a2 (qA4 aE.o hb) (a2 (qAm.below aG.o hb) (a2 (qAp HB.o hb) (a2 (hbox) (a2 (by rw [hg]; exact (qA5 HB.o) : w.heap.size ≤ aT) (a2 (by rw [hg]; exact Nat.ne_of_lt (qBo aE.o) : aR ≠ aT) (a2 (by rw [hg]; exact Nat.ne_of_lt (qAm.lt aG.o) : aY ≠ aT) (am (by rw [hg]; exact Nat.ne_of_gt (qAm.lt aG.o) : aT ≠ aY))))))))); clear ag aE aG HB; obtain ⟨ag, aE, aG, HB, aC, bq, aj, bC, aV⟩ := n_; clear hb hbox hg; have cc : fx.cell? ⟨aT, 0, none⟩ = some (.string ⟨#[]⟩) := (qAa aC.o 0).trans rfl; have cd : fx.cell? ⟨aT, 1, none⟩ = some (.slice none 0 0) := (qAa aC.o 1).trans rfl; have ce : fx.cell? ⟨aT, 2, none⟩ = some (.slice none 0 0) := (qAa aC.o 2).trans rfl; have cf : fx.cell? ⟨aT, 3, none⟩ = some (.slice none 0 0) := (qAa aC.o 3).trans rfl; have cg := qAb aC.o 0; have ch := qAb aC.o 1; have ci := qAb aC.o 2; have cj := qAb aC.o 3) | ((with_reducible refine qAk (f := 59) rfl ?_); refine gL 37 Tryz.func59 #[.pointer (some ⟨aY, 0, none⟩)] ?_; (with_reducible refine (qAT.calls aY aN dN dO dP dQ dR w _ ?side1 ?side2 gf.o).mono ?_); (case side1 => repeat (with_reducible first | exact aG.o | refine qAm.far ?_ bC.o (by (with_reducible repeat (apply TyB.set)); exact TyB.of aC.o) (by decide) _)); (case side2 => repeat (with_reducible first | exact HB.o | refine qAs ?_ bq.o)); rintro e hQ ⟨rfl, hi, hb, hk⟩; refine ⟨_, rfl, ?_⟩; have n_ := a2 (qAg.blk hk (g' := aR) (o := .cells #[.string ⟨#[]⟩, .slice none 0 0, .slice none 0 0, .slice none 0 0] 33 (0, 0)) (by refine qAz ?_ aj.o _; refine qAz ?_ aj.o _; refine qAz ?_ aj.o _; refine qAz ?_ aj.o _; exact aE.o) aQ.o (by simp)) (a2 (qAg.blk hk (g' := aT) (o := .cells #[.string aU, .slice none 0 0, .slice none 0 0, .slice none 0 0] 33 (0, 0)) (by refine qAx (cs := #[.string aU, .slice none 0 0, .slice none 0 0, .slice none 0 0]) ?_ 3 _ rfl; refine qAx (cs := #[.string aU, .slice none 0 0, .slice none 0 0, .slice none 0 0]) ?_ 2 _ rfl; refine qAx (cs := #[.string aU, .slice none 0 0, .slice none 0 0, .slice none 0 0]) ?_ 1 _ rfl; refine qAx (cs := #[.string ⟨#[]⟩, .slice none 0 0, .slice none 0 0, .slice none 0 0]) ?_ 0 _ rfl; exact aC.o) aV.o (by simp)) (a2 (hb) (am (hi)))); clear ag aE aC HB aG; obtain ⟨aE, aC, HB, aG⟩ := n_))
    go_loopg [8] k1 (fun kq v8 w' => ∃ (bE : Int) (aq : Int) (av : Int) (aH : List (S85)) (aW : Value), v8 = .int .i64 bE ∧ qAe (qAd.l1 kq l0 bE aN aq av aU aH = some (r1, r2, r3, r4, r5)) ∧ qAe (kq ≤ k1) ∧ qAe (Kd.R k85 85 w' w.heap.size (fun _ => True) aW aH) ∧ qAe (w'.heap[aR]? = some (.cells #[.string ⟨#[]⟩, (.slice none 0 0), (.slice none 0 0), (.slice none 0 0)] 33 (0, 0))) ∧ qAe (w'.heap[aT]? = some (.cells #[.string aU, aW, (.slice none 0 0), (.slice none 0 0)] 33 (0, 0))) ∧ qAe (qAm w w' aY aN aq av) ∧ qAe (Below w.heap.size w w'))
    case atStart => exact ⟨(dP), (dQ), (dR), ([] : List (S85)), (.slice none 0 0), (by rfl), H', ⟨Nat.le_refl _⟩, ⟨by (exact Kd.R_nil _ _ _ _ _)⟩, ⟨by exact aE.o⟩, ⟨by exact aC.o⟩, ⟨by exact aG.o⟩, ⟨by exact HB.o⟩⟩
    case round =>
     clear H'
     obtain ⟨bE, aq, av, aH, aW, rfl, HA, cI, aA, aE, aC, aG, HB⟩ := hrel
     cases gk with
     | zero => exact absurd HA.o (by simp [qAd.l1])
     | succ k2 =>
      have H := HA.o
      clear HA
      simp only [qAd.l1] at H
      have dG := am H
      clear H
      go_upto_region 12 with (fail)
      go_cut [44] (fun hF wc => ∃ (kq : Nat) (b2 : Bool) (ac : Int) (ae : Int), hF = .bool b2 ∧ qAe (qAd.j2 kq l0 bE b2 aN ac ae aU aH = some (r1, r2, r3, r4, r5)) ∧ qAe (kq ≤ k2) ∧ qAe (Kd.R k85 85 wc w.heap.size (fun _ => True) aW aH) ∧ qAe (wc.heap[aR]? = some (.cells #[.string ⟨#[]⟩, (.slice none 0 0), (.slice none 0 0), (.slice none 0 0)] 33 (0, 0))) ∧ qAe (wc.heap[aT]? = some (.cells #[.string aU, aW, (.slice none 0 0), (.slice none 0 0)] 33 (0, 0))) ∧ qAe (qAm w wc aY aN ac ae) ∧ qAe (Below w.heap.size w wc))
      case first =>
       have H := dG.o
       clear dG
       by_cases dp : bE > 0
       rotate_left
       ·rw [if_neg dp] at H
        replace dp := d0 dp
        (skip)
        have H' := am H
        clear H
        go_wp2
        go_meet
        case rel => exact ⟨_, (false), (aq), (av), (by rfl), H', ⟨by have := bc.o; have := cI.o; (omega)⟩, ⟨by exact aA.o⟩, ⟨by exact aE.o⟩, ⟨by exact aC.o⟩, ⟨by exact aG.o⟩, ⟨by exact HB.o⟩⟩
       rw [if_pos dp] at H
       replace dp := d1 dp
       (skip)
       replace H := bm H
       obtain ⟨⟨dS, dT, dU⟩, dy, H⟩ := H
       replace H : (qAd.j2 k2 l0 bE (dS == 0) aN dT dU aU aH) = some (r1, r2, r3, r4, r5) := H
       have gg := am dy
       clear dy
       have H' := am H
       clear H
       go_wp2_with (go_at_call 60; (with_reducible refine (qAL.calls aY aN aq av dS dT dU w _ ?side1 ?side2 gg.o).mono ?_); (case side1 => exact aG.o); (case side2 => exact HB.o); rintro e hR ⟨rfl, hi, hb, hk⟩; have n_ := a2 (Kd.R_kp (qAm.apart aG.o aA.o (by decide)) hk) (a2 (qAg.blk hk aE.o aQ.o (by simp)) (a2 (qAg.blk hk aC.o aV.o (by simp)) (a2 (hb) (am (hi))))); clear aA aE aC HB aG; obtain ⟨aA, aE, aC, HB, aG⟩ := n_)
       go_meet
       case rel => exact ⟨_, (dS == 0), (dT), (dU), (by rfl), H', ⟨by have := bc.o; have := cI.o; (omega)⟩, ⟨by exact aA.o⟩, ⟨by exact aE.o⟩, ⟨by exact aC.o⟩, ⟨by exact aG.o⟩, ⟨by exact HB.o⟩⟩
      case rest =>
       clear dG
       obtain ⟨kq, b2, ac, ae, rfl, HA, bR, aA, aE, aC, aG, HB⟩ := hcut
       cases kq with
       | zero => exact absurd HA.o (by simp [qAd.j2])
       | succ bT =>
        have H := HA.o
        clear HA
        simp only [qAd.j2] at H
        by_cases fl : b2 = true
        ·subst fl
         replace H : ((qAA.f aN ac ae 32).bind fun bL => ((qAu.f aN bL.2.1 bL.2.2).bind fun bA => ((qBj.f aN bA.2.1 bA.2.2).bind fun ao => (if aH.length < 4398046511104 then (qAd.l1 bT l0 (wrap64 (bE - 1)) aN ao.2.1 ao.2.2 aU (aH ++ [(⟨bL.1, (⟨wrap64 (bA.1), ao.1⟩ : S83)⟩ : S85)])) else (none))))) = some (r1, r2, r3, r4, r5) := by rw [if_pos rfl] at H; exact H
         replace H := bm H
         obtain ⟨⟨b9, dV, dW⟩, dz, H⟩ := H
         replace H : ((qAu.f aN dV dW).bind fun bA => ((qBj.f aN bA.2.1 bA.2.2).bind fun ao => (if aH.length < 4398046511104 then (qAd.l1 bT l0 (wrap64 (bE - 1)) aN ao.2.1 ao.2.2 aU (aH ++ [(⟨b9, (⟨wrap64 (bA.1), ao.1⟩ : S83)⟩ : S85)])) else (none)))) = some (r1, r2, r3, r4, r5) := H
         have gh := am dz
         clear dz
         replace H := bm H
         obtain ⟨⟨bh, dX, dY⟩, eA, H⟩ := H
         replace H : ((qBj.f aN dX dY).bind fun ao => (if aH.length < 4398046511104 then (qAd.l1 bT l0 (wrap64 (bE - 1)) aN ao.2.1 ao.2.2 aU (aH ++ [(⟨b9, (⟨wrap64 (bh), ao.1⟩ : S83)⟩ : S85)])) else (none))) = some (r1, r2, r3, r4, r5) := H
         have gi := am eA
         clear eA
         replace H := bm H
         obtain ⟨⟨cC, cn, co⟩, eB, H⟩ := H
         replace H : (if aH.length < 4398046511104 then (qAd.l1 bT l0 (wrap64 (bE - 1)) aN cn co aU (aH ++ [(⟨b9, (⟨wrap64 (bh), cC⟩ : S83)⟩ : S85)])) else (none)) = some (r1, r2, r3, r4, r5) := H
         have gj := am eB
         clear eB
         obtain ⟨fm, H⟩ := gd H
         have e0 := am fm
         clear fm
         obtain ⟨cy, cW⟩ : ∃ y_ : List (S85), y_ = (aH ++ [(⟨b9, (⟨wrap64 (bh), cC⟩ : S83)⟩ : S85)]) := ⟨_, rfl⟩
         replace H : (qAd.l1 bT l0 (wrap64 (bE - 1)) aN cn co aU cy) = some (r1, r2, r3, r4, r5) := by (rw [cW]; with_reducible exact H)
         have e3 := am cW
         clear cW
         have H' := am H
         clear H
         try go_wp2
         have n_ := a2 (Kd.R_drew aA.o) (a2 (qCb aE.o) (a2 (qCb aC.o) (a2 (qAm.drew aG.o) (am (qAX HB.o)))))
         clear aA aE aC aG HB
         obtain ⟨aA, aE, aC, aG, HB⟩ := n_
         refine qEG (n := 15) (S := fun w' => w'.cell? ⟨aT, 0, none⟩ = some (.string aU) ∧ w'.cell? ⟨aT, 1, none⟩ = some (aW) ∧ w'.cell? ⟨aT, 2, none⟩ = some (.slice none 0 0) ∧ w'.cell? ⟨aT, 3, none⟩ = some (.slice none 0 0)) (ds := [14]) #[false, false, false, false, false, false, false, false, false, false, false, false, false, false, false] (by kernel_rfl) rfl rfl ⟨(qAa aC.o 0).trans rfl, (qAa aC.o 1).trans rfl, (qAa aC.o 2).trans rfl, (qAa aC.o 3).trans rfl⟩ (fun hHeld => ?_); refine qCD qAd.tab14 qAd.bits14 (fun HT_ HW_ => ?_)
         generalize wc.drew = hS at aA aE aC aG HB hHeld ⊢
         refine pu 0 47 #[true, false, false, false, false, false, false, false, false, false, false, false, false, false, false] (qBl HT_.o (by kernel_rfl)) ?_
         refine pu 2 49 #[true, false, true, false, false, false, false, false, false, false, false, false, false, false, false] (qBl HT_.o (by kernel_rfl)) ?_
         refine pu 4 51 #[true, false, true, false, true, false, false, false, false, false, false, false, false, false, false] (qBl HT_.o (by kernel_rfl)) ?_
         refine pu 7 54 #[true, false, true, false, true, false, false, true, false, false, false, false, false, false, false] (qBl HT_.o (by kernel_rfl)) ?_
         refine take_ (i := 1) (N := some 48) (v := ?_) (a' := ?_) #[true, true, true, false, true, false, false, true, false, false, false, false, false, false, false] rfl rfl (qCi HT_.o HW_.o (by kernel_rfl)) (fun _ _ _ h => h) (Or.inl ⟨by rfl, ?_⟩) hHeld ?_ ?_
         rotate_left
         ·rintro w' ⟨s0, s1, s2, s3⟩
          go_simp
          with_reducible rfl
         rotate_left
         ·simp only [Act.put, List.setIfInBounds_toArray, List.set_cons_zero, List.set_cons_succ]
          rfl
         refine one_ (i := 3) (N := some 50) #[true, true, true, true, true, false, false, true, false, false, false, false, false, false, false] rfl rfl (qBM HT_.o (by kernel_rfl)) (by decide) (fun K hK => ?_)
         refine qE1 Tryz.func58 (by kernel_rfl) rfl #[.pointer (some ⟨aY, 0, none⟩), .int .i64 32] (by rfl) rfl rfl (by (try simp only [List.map_toArray, List.map_cons, List.map_nil]); (rfl)) ?_
         with_reducible refine (qAA.calls aY aN ac ae 32 b9 dV dW w _ ?side1 ?side2 gh.o).mono ?_
         (case side1 => exact aG.o)
         (case side2 => exact HB.o)
         rintro e hT ⟨rfl, hi, hb, hk⟩
         refine ⟨_, rfl, ?_⟩
         have n_ := a2 (Kd.R_kp (qAm.apart aG.o aA.o (by decide)) hk) (a2 (qAg.blk hk aE.o aQ.o (by simp)) (a2 (qAg.blk hk aC.o aV.o (by simp)) (a2 (hb) (am (hi)))))
         clear aA aE aC HB aG
         obtain ⟨aA, aE, aC, HB, aG⟩ := n_
         (try clear hb)
         (skip)
         (try clear hk)
         (try clear hi)
         refine hK.o _ _ ⟨(qAa aC.o 0).trans rfl, (qAa aC.o 1).trans rfl, (qAa aC.o 2).trans rfl, (qAa aC.o 3).trans rfl⟩ (fun hHeld => ?_)
         clear hK K
         refine qCR (a' := ?_) ?_ ?_
         rotate_left
         ·show Act.put _ (some 50) _ = _
          simp only [Act.put, List.setIfInBounds_toArray, List.set_cons_zero, List.set_cons_succ]
          rfl
         refine one_ (i := 5) (N := some 52) #[true, true, true, true, true, true, false, true, false, false, false, false, false, false, false] rfl rfl (qBM HT_.o (by kernel_rfl)) (by decide) (fun K hK => ?_)
         refine qE1 Tryz.func56 (by kernel_rfl) rfl #[.pointer (some ⟨aY, 0, none⟩)] (by rfl) rfl rfl (by (try simp only [List.map_toArray, List.map_cons, List.map_nil]); (rfl)) ?_
         with_reducible refine (qAu.calls aY aN dV dW bh dX dY w _ ?side1 ?side2 gi.o).mono ?_
         (case side1 => exact aG.o)
         (case side2 => exact HB.o)
         rintro e hU ⟨rfl, hi, hb, hk⟩
         refine ⟨_, rfl, ?_⟩
         have n_ := a2 (Kd.R_kp (qAm.apart aG.o aA.o (by decide)) hk) (a2 (qAg.blk hk aE.o aQ.o (by simp)) (a2 (qAg.blk hk aC.o aV.o (by simp)) (a2 (hb) (am (hi)))))
         clear aA aE aC HB aG
         obtain ⟨aA, aE, aC, HB, aG⟩ := n_
         (try clear hb)
         (skip)
         (try clear hk)
         (try clear hi)
         refine hK.o _ _ ⟨(qAa aC.o 0).trans rfl, (qAa aC.o 1).trans rfl, (qAa aC.o 2).trans rfl, (qAa aC.o 3).trans rfl⟩ (fun hHeld => ?_)
         clear hK K
         refine qCR (a' := ?_) ?_ ?_
         rotate_left
         ·show Act.put _ (some 52) _ = _
          simp only [Act.put, List.setIfInBounds_toArray, List.set_cons_zero, List.set_cons_succ]
          rfl
         refine pure_ (i := 6) (N := some 53) (v := ?_) (a' := ?_) #[true, true, true, true, true, true, true, true, false, false, false, false, false, false, false] rfl rfl (qBl HT_.o (by kernel_rfl)) (fun _ _ _ h => h) (Or.inl ⟨by rfl, ?_⟩) ?_ ?_
         rotate_left
         ·intro w'
          go_simp
          with_reducible rfl
         rotate_left
         ·simp only [Act.put, List.setIfInBounds_toArray, List.set_cons_zero, List.set_cons_succ, i64_w]
          rfl
         refine one_ (i := 8) (N := some 55) #[true, true, true, true, true, true, true, true, true, false, false, false, false, false, false] rfl rfl (qBM HT_.o (by kernel_rfl)) (by decide) (fun K hK => ?_)
         refine qE1 Tryz.func61 (by kernel_rfl) rfl #[.pointer (some ⟨aY, 0, none⟩)] (by rfl) rfl rfl (by (try simp only [List.map_toArray, List.map_cons, List.map_nil]); (rfl)) ?_
         with_reducible refine (qBj.calls aY aN dX dY cC cn co w _ ?side1 ?side2 gj.o).mono ?_
         (case side1 => exact aG.o)
         (case side2 => exact HB.o)
         rintro e hV ⟨rfl, hi, hb, hk⟩
         refine ⟨_, rfl, ?_⟩
         have n_ := a2 (Kd.R_kp (qAm.apart aG.o aA.o (by decide)) hk) (a2 (qAg.blk hk aE.o aQ.o (by simp)) (a2 (qAg.blk hk aC.o aV.o (by simp)) (a2 (hb) (am (hi)))))
         clear aA aE aC HB aG
         obtain ⟨aA, aE, aC, HB, aG⟩ := n_
         (try clear hb)
         (skip)
         (try clear hk)
         (try clear hi)
         refine hK.o _ _ ⟨(qAa aC.o 0).trans rfl, (qAa aC.o 1).trans rfl, (qAa aC.o 2).trans rfl, (qAa aC.o 3).trans rfl⟩ (fun hHeld => ?_)
         clear hK K
         refine qCR (a' := ?_) ?_ ?_
         rotate_left
         ·show Act.put _ (some 55) _ = _
          simp only [Act.put, List.setIfInBounds_toArray, List.set_cons_zero, List.set_cons_succ]
          rfl
         refine pu 9 56 #[true, true, true, true, true, true, true, true, true, true, false, false, false, false, false] (qBl HT_.o (by kernel_rfl)) ?_
         refine pu 10 57 #[true, true, true, true, true, true, true, true, true, true, true, false, false, false, false] (qBl HT_.o (by kernel_rfl)) ?_
         refine one_ (i := 11) (N := some 58) #[true, true, true, true, true, true, true, true, true, true, true, true, false, false, false] rfl rfl (qBM HT_.o (by kernel_rfl)) (by decide) (fun K hK => ?_)
         refine value_ (w1 := ?_) (v := ?_) (by rfl) rfl ?_ ?_
         rotate_left 2
         ·go_simp
          constructor
          ·rfl
          rfl
         refine hK.o _ _ ⟨(qAa (qBp aC.o _) 0).trans rfl, (qAa (qBp aC.o _) 1).trans rfl, (qAa (qBp aC.o _) 2).trans rfl, (qAa (qBp aC.o _) 3).trans rfl⟩ (fun hHeld => ?_)
         clear hK K
         refine qCR (a' := ?_) ?_ ?_
         rotate_left
         ·show Act.put _ (some 58) _ = _
          simp only [Act.put, List.setIfInBounds_toArray, List.set_cons_zero, List.set_cons_succ]
          rfl
         refine one_ (i := 12) (N := some 59) #[true, true, true, true, true, true, true, true, true, true, true, true, true, false, false] rfl rfl (qBM HT_.o (by kernel_rfl)) (by decide) (fun K hK => ?_)
         refine Kd.R_append_step k85 (w0 := w) w.heap.size (by rfl) (.tmp 48) (.tmp 58) 29 85 (.agg #[(.string ⟨#[]⟩), (.int .i64 0), (.int .u64 0)]) 32 rfl Tryz.underlying29 info85 rfl (by decide) (by omega) aW aH (⟨b9, (⟨wrap64 (bh), cC⟩ : S83)⟩ : S85) [.string b9, .int .i64 (wrap64 (bh)), .int .u64 cC] (fun _ => True) (fun _ => False) rfl rfl ?aP (fun _ hk => hk.elim) ?aF ?aO ?aB ?aS ?aL ?_
         (case aP => exact k85_mkM _ _ _ (⟨b9, (⟨wrap64 (bh), cC⟩ : S83)⟩ : S85))
         (case aB => exact HB.o)
         (case aF => exact (fun _ _ => trivial))
         (case aO => exact aA.o)
         (case aS => exact (qA5 HB.o))
         (case aL => have := e0.o; omega)
         intro gz hW ho hb hg ew
         rw [← e3.o] at ho
         have n_ := a2 (qBr (g := aR) (o := .cells #[.string ⟨#[]⟩, .slice none 0 0, .slice none 0 0, .slice none 0 0] 33 (0, 0)) aE.o hg (Kd.R_ne aA.o aE.o (by decide))) (a2 (qBr (g := aT) (o := .cells #[.string aU, aW, .slice none 0 0, .slice none 0 0] 33 (0, 0)) aC.o hg (Kd.R_ne aA.o aC.o (by decide))) (a2 (qAm.grownR aG.o hg aG.o aA.o (by decide) (fun b_ t_ h_ => h_)) (a2 (hb) (am (ho)))))
         clear aE aC aG HB aA
         obtain ⟨aE, aC, aG, HB, dA⟩ := n_
         clear ho hb hg ew
         obtain ⟨eU, el, gJ⟩ := Kd.R_slice dA.o
         (subst gJ)
         refine hK.o _ _ ⟨(qAa aC.o 0).trans rfl, (qAa aC.o 1).trans rfl, (qAa aC.o 2).trans rfl, (qAa aC.o 3).trans rfl⟩ (fun hHeld => ?_)
         clear hK K
         refine qCR (a' := ?_) ?_ ?_
         rotate_left
         ·show Act.put _ (some 59) _ = _
          simp only [Act.put, List.setIfInBounds_toArray, List.set_cons_zero, List.set_cons_succ]
          rfl
         refine pu 13 60 #[true, true, true, true, true, true, true, true, true, true, true, true, true, true, false] (qBl HT_.o (by kernel_rfl)) ?_
         refine last_ (i := 14) (N := none) #[true, true, true, true, true, true, true, true, true, true, true, true, true, true, true] rfl rfl (qBM HT_.o (by kernel_rfl)) (by decide) (fun K hK => ?_)
         have hfs43 := qAb aC.o 1
         refine skip_ (w1 := ?_) (by rfl) rfl ?_ ?_
         rotate_left
         ·go_simp
          rfl
         refine hK.o _ _ ?_
         clear hK K
         refine done_ (qD5 HT_.o (by kernel_rfl)) ?_
         try go_wp2
         go_roundg bT
         case measure => have := bc.o; have := cI.o; have := bR.o; omega
         case rel => exact ⟨(wrap64 (bE - 1)), (cn), (co), (cy), (.slice eU cy.length el), (by rfl), H', ⟨by have := bc.o; have := cI.o; have := bR.o; omega⟩, ⟨by exact Kd.R_mono (Kd.R_far (p := ⟨aT, 1, none⟩) (Kd.R_types dA.o aC.o (by decide)) (fun _ hk => hk.2) (.slice eU cy.length el)) (fun _ hk => trivial)⟩, ⟨by refine qAz ?_ aj.o _; exact aE.o⟩, ⟨by refine qAx (cs := #[.string aU, aW, .slice none 0 0, .slice none 0 0]) ?_ 1 _ rfl; exact aC.o⟩, ⟨by repeat (with_reducible first | exact aG.o | refine qAm.far ?_ bC.o (by exact TyB.of aC.o) (by decide) _)⟩, ⟨by repeat (with_reducible first | exact HB.o | refine qAs ?_ bq.o)⟩⟩
        replace fl := Bool.eq_false_iff.mpr fl
        subst fl
        replace H : ((qAT.f aN ac ae).bind fun bM => (qAd.l2 bT l0 bM.1 aN bM.2.1 bM.2.2 aU aH ([] : List (S92)))) = some (r1, r2, r3, r4, r5) := by rw [if_neg (show ¬ (false = true) by decide)] at H; exact H
        replace H := bm H
        obtain ⟨⟨dZ, d2, d3⟩, eC, H⟩ := H
        replace H : (qAd.l2 bT l0 dZ aN d2 d3 aU aH ([] : List (S92))) = some (r1, r2, r3, r4, r5) := H
        have gl := am eC
        clear eC
        have H' := am H
        clear H
        go_wp2_with ((with_reducible refine qAk (f := 59) rfl ?_); refine gL 62 Tryz.func59 #[.pointer (some ⟨aY, 0, none⟩)] ?_; (with_reducible refine (qAT.calls aY aN ac ae dZ d2 d3 w _ ?side1 ?side2 gl.o).mono ?_); (case side1 => exact aG.o); (case side2 => exact HB.o); rintro e hX ⟨rfl, hi, hb, hk⟩; refine ⟨_, rfl, ?_⟩; have n_ := a2 (Kd.R_kp (qAm.apart aG.o aA.o (by decide)) hk) (a2 (qAg.blk hk aE.o aQ.o (by simp)) (a2 (qAg.blk hk aC.o aV.o (by simp)) (a2 (hb) (am (hi))))); clear aA aE aC HB aG; obtain ⟨aA, aE, aC, HB, aG⟩ := n_)
        go_loopg [9] bT (fun kq v9 w' => ∃ (bG : Int) (ar : Int) (aw : Int) (aJ : List (S92)) (aX : Value), v9 = .int .i64 bG ∧ qAe (qAd.l2 kq l0 bG aN ar aw aU aH aJ = some (r1, r2, r3, r4, r5)) ∧ qAe (kq ≤ bT) ∧ qAe (Kd.R k85 85 w' w.heap.size (fun _ => True) aW aH) ∧ qAe (Kd.S k92 92 w' w.heap.size (fun _ => True) aX aJ) ∧ qAe (w'.heap[aR]? = some (.cells #[.string ⟨#[]⟩, (.slice none 0 0), (.slice none 0 0), (.slice none 0 0)] 33 (0, 0))) ∧ qAe (w'.heap[aT]? = some (.cells #[.string aU, aW, aX, (.slice none 0 0)] 33 (0, 0))) ∧ qAe (qAm w w' aY aN ar aw) ∧ qAe (Below w.heap.size w w'))
        case atStart => exact ⟨(dZ), (d2), (d3), ([] : List (S92)), (.slice none 0 0), (by rfl), H', ⟨Nat.le_refl _⟩, ⟨by exact aA.o⟩, ⟨by (exact Kd.S_nil _ _ _ _ _)⟩, ⟨by exact aE.o⟩, ⟨by exact aC.o⟩, ⟨by exact aG.o⟩, ⟨by exact HB.o⟩⟩
        case round =>
         clear H'
         obtain ⟨bG, ar, aw, aJ, aX, rfl, HA, cz, aA, aD, aE, aC, aG, HB⟩ := hrel
         cases gk with
         | zero => exact absurd HA.o (by simp [qAd.l2])
         | succ k4 =>
          have H := HA.o
          clear HA
          simp only [qAd.l2] at H
          have dH := am H
          clear H
          go_upto_region 16 with (fail)
          go_cut [69] (fun hG wc => ∃ (kq : Nat) (b3 : Bool) (ad : Int) (af : Int), hG = .bool b3 ∧ qAe (qAd.j4 kq l0 bG b3 aN ad af aU aH aJ = some (r1, r2, r3, r4, r5)) ∧ qAe (kq ≤ k4) ∧ qAe (Kd.R k85 85 wc w.heap.size (fun _ => True) aW aH) ∧ qAe (Kd.S k92 92 wc w.heap.size (fun _ => True) aX aJ) ∧ qAe (wc.heap[aR]? = some (.cells #[.string ⟨#[]⟩, (.slice none 0 0), (.slice none 0 0), (.slice none 0 0)] 33 (0, 0))) ∧ qAe (wc.heap[aT]? = some (.cells #[.string aU, aW, aX, (.slice none 0 0)] 33 (0, 0))) ∧ qAe (qAm w wc aY aN ad af) ∧ qAe (Below w.heap.size w wc))
          case first =>
           have H := dH.o
           clear dH
           by_cases dq : bG > 0
           rotate_left
           ·rw [if_neg dq] at H
            replace dq := d0 dq
            (skip)
            have H' := am H
            clear H
            go_wp2
            go_meet
            case rel => exact ⟨_, (false), (ar), (aw), (by rfl), H', ⟨by have := bc.o; have := cI.o; have := bR.o; have := cz.o; (omega)⟩, ⟨by exact aA.o⟩, ⟨by exact aD.o⟩, ⟨by exact aE.o⟩, ⟨by exact aC.o⟩, ⟨by exact aG.o⟩, ⟨by exact HB.o⟩⟩
           rw [if_pos dq] at H
           replace dq := d1 dq
           (skip)
           replace H := bm H
           obtain ⟨⟨d4, d5, d6⟩, eD, H⟩ := H
           replace H : (qAd.j4 k4 l0 bG (d4 == 0) aN d5 d6 aU aH aJ) = some (r1, r2, r3, r4, r5) := H
           have gm := am eD
           clear eD
           have H' := am H
           clear H
           go_wp2_with (go_at_call 60; (with_reducible refine (qAL.calls aY aN ar aw d4 d5 d6 w _ ?side1 ?side2 gm.o).mono ?_); (case side1 => exact aG.o); (case side2 => exact HB.o); rintro e hY ⟨rfl, hi, hb, hk⟩; have n_ := a2 (Kd.R_kp (qAm.apart aG.o aA.o (by decide)) hk) (a2 (Kd.S_mono (Kd.S_keep (qAm.apartS aG.o aD.o (by decide)) hk (fun _ h => h.2)) (fun _ h => h.1)) (a2 (qAg.blk hk aE.o aQ.o (by simp)) (a2 (qAg.blk hk aC.o aV.o (by simp)) (a2 (hb) (am (hi)))))); clear aA aD aE aC HB aG; obtain ⟨aA, aD, aE, aC, HB, aG⟩ := n_)
           go_meet
           case rel => exact ⟨_, (d4 == 0), (d5), (d6), (by rfl), H', ⟨by have := bc.o; have := cI.o; have := bR.o; have := cz.o; (omega)⟩, ⟨by exact aA.o⟩, ⟨by exact aD.o⟩, ⟨by exact aE.o⟩, ⟨by exact aC.o⟩, ⟨by exact aG.o⟩, ⟨by exact HB.o⟩⟩
          case rest =>
           clear dH
           obtain ⟨kq, b3, ad, af, rfl, HA, bw, aA, aD, aE, aC, aG, HB⟩ := hcut
           cases kq with
           | zero => exact absurd HA.o (by simp [qAd.j4])
           | succ bI =>
            have H := HA.o
            clear HA
            simp only [qAd.j4] at H
            by_cases fn : b3 = true
            ·subst fn
             replace H : ((qAA.f aN ad af 32).bind fun bN => ((qBF.f bI aN bN.2.1 bN.2.2).bind fun ah => (if aJ.length < 1466015503701 then (qAd.l2 bI l0 (wrap64 (bG - 1)) aN ah.2.2.2.2.1 ah.2.2.2.2.2 aU aH (aJ ++ [(⟨bN.1, (⟨(⟨ah.1, ah.2.1⟩ : S69), ah.2.2.1, ah.2.2.2.1⟩ : S90)⟩ : S92)])) else (none)))) = some (r1, r2, r3, r4, r5) := by rw [if_pos rfl] at H; exact H
             replace H := bm H
             obtain ⟨⟨bi, d7, d8⟩, eE, H⟩ := H
             replace H : ((qBF.f bI aN d7 d8).bind fun ah => (if aJ.length < 1466015503701 then (qAd.l2 bI l0 (wrap64 (bG - 1)) aN ah.2.2.2.2.1 ah.2.2.2.2.2 aU aH (aJ ++ [(⟨bi, (⟨(⟨ah.1, ah.2.1⟩ : S69), ah.2.2.1, ah.2.2.2.1⟩ : S90)⟩ : S92)])) else (none))) = some (r1, r2, r3, r4, r5) := H
             have gn := am eE
             clear eE
             replace H := bm H
             obtain ⟨⟨bj, cD, bk, bl, cp, cq⟩, eF, H⟩ := H
             replace H : (if aJ.length < 1466015503701 then (qAd.l2 bI l0 (wrap64 (bG - 1)) aN cp cq aU aH (aJ ++ [(⟨bi, (⟨(⟨bj, cD⟩ : S69), bk, bl⟩ : S90)⟩ : S92)])) else (none)) = some (r1, r2, r3, r4, r5) := H
             have go := am eF
             clear eF
             obtain ⟨fo, H⟩ := gd H
             have e1 := am fo
             clear fo
             obtain ⟨cZ, cX⟩ : ∃ y_ : List (S92), y_ = (aJ ++ [(⟨bi, (⟨(⟨bj, cD⟩ : S69), bk, bl⟩ : S90)⟩ : S92)]) := ⟨_, rfl⟩
             replace H : (qAd.l2 bI l0 (wrap64 (bG - 1)) aN cp cq aU aH cZ) = some (r1, r2, r3, r4, r5) := by (rw [cX]; with_reducible exact H)
             have e4 := am cX
             clear cX
             have H' := am H
             clear H
             try go_wp2
             have n_ := a2 (Kd.R_drew aA.o) (a2 (Kd.S_drew aD.o) (a2 (qCb aE.o) (a2 (qCb aC.o) (a2 (qAm.drew aG.o) (am (qAX HB.o))))))
             clear aA aD aE aC aG HB
             obtain ⟨aA, aD, aE, aC, aG, HB⟩ := n_
             refine qEG (n := 11) (S := fun w' => w'.cell? ⟨aT, 0, none⟩ = some (.string aU) ∧ w'.cell? ⟨aT, 1, none⟩ = some (aW) ∧ w'.cell? ⟨aT, 2, none⟩ = some (aX) ∧ w'.cell? ⟨aT, 3, none⟩ = some (.slice none 0 0)) (ds := [10]) #[false, false, false, false, false, false, false, false, false, false, false] (by kernel_rfl) rfl rfl ⟨(qAa aC.o 0).trans rfl, (qAa aC.o 1).trans rfl, (qAa aC.o 2).trans rfl, (qAa aC.o 3).trans rfl⟩ (fun hHeld => ?_); refine qCD qAd.tab18 qAd.bits18 (fun HT_ HW_ => ?_)
             generalize wc.drew = hZ at aA aD aE aC aG HB hHeld ⊢
             refine pu 0 72 #[true, false, false, false, false, false, false, false, false, false, false] (qBl HT_.o (by kernel_rfl)) ?_
             refine pu 2 74 #[true, false, true, false, false, false, false, false, false, false, false] (qBl HT_.o (by kernel_rfl)) ?_
             refine pu 4 76 #[true, false, true, false, true, false, false, false, false, false, false] (qBl HT_.o (by kernel_rfl)) ?_
             refine take_ (i := 1) (N := some 73) (v := ?_) (a' := ?_) #[true, true, true, false, true, false, false, false, false, false, false] rfl rfl (qCi HT_.o HW_.o (by kernel_rfl)) (fun _ _ _ h => h) (Or.inl ⟨by rfl, ?_⟩) hHeld ?_ ?_
             rotate_left
             ·rintro w' ⟨s0, s1, s2, s3⟩
              go_simp
              with_reducible rfl
             rotate_left
             ·simp only [Act.put, List.setIfInBounds_toArray, List.set_cons_zero, List.set_cons_succ]
              rfl
             refine one_ (i := 3) (N := some 75) #[true, true, true, true, true, false, false, false, false, false, false] rfl rfl (qBM HT_.o (by kernel_rfl)) (by decide) (fun K hK => ?_)
             refine qE1 Tryz.func58 (by kernel_rfl) rfl #[.pointer (some ⟨aY, 0, none⟩), .int .i64 32] (by rfl) rfl rfl (by (try simp only [List.map_toArray, List.map_cons, List.map_nil]); (rfl)) ?_
             with_reducible refine (qAA.calls aY aN ad af 32 bi d7 d8 w _ ?side1 ?side2 gn.o).mono ?_
             (case side1 => exact aG.o)
             (case side2 => exact HB.o)
             rintro e h0 ⟨rfl, hi, hb, hk⟩
             refine ⟨_, rfl, ?_⟩
             have n_ := a2 (Kd.R_kp (qAm.apart aG.o aA.o (by decide)) hk) (a2 (Kd.S_mono (Kd.S_keep (qAm.apartS aG.o aD.o (by decide)) hk (fun _ h => h.2)) (fun _ h => h.1)) (a2 (qAg.blk hk aE.o aQ.o (by simp)) (a2 (qAg.blk hk aC.o aV.o (by simp)) (a2 (hb) (am (hi))))))
             clear aA aD aE aC HB aG
             obtain ⟨aA, aD, aE, aC, HB, aG⟩ := n_
             (try clear hb)
             (skip)
             (try clear hk)
             (try clear hi)
             refine hK.o _ _ ⟨(qAa aC.o 0).trans rfl, (qAa aC.o 1).trans rfl, (qAa aC.o 2).trans rfl, (qAa aC.o 3).trans rfl⟩ (fun hHeld => ?_)
             clear hK K
             refine qCR (a' := ?_) ?_ ?_
             rotate_left
             ·show Act.put _ (some 75) _ = _
              simp only [Act.put, List.setIfInBounds_toArray, List.set_cons_zero, List.set_cons_succ]
              rfl
             refine one_ (i := 5) (N := some 77) #[true, true, true, true, true, true, false, false, false, false, false] rfl rfl (qBM HT_.o (by kernel_rfl)) (by decide) (fun K hK => ?_)
             refine qE1 Tryz.func62 (by kernel_rfl) rfl #[.pointer (some ⟨aY, 0, none⟩)] (by rfl) rfl rfl (by (try simp only [List.map_toArray, List.map_cons, List.map_nil]); (rfl)) ?_
             with_reducible refine (qBF.calls bI aY aN d7 d8 bj cD bk bl cp cq w _ ?side1 ?side2 go.o).mono ?_
             (case side1 => exact aG.o)
             (case side2 => exact HB.o)
             rintro e h1 ⟨hA, hB, hC, rfl, cU, g2, g3, hi, hb, hk⟩
             refine ⟨_, rfl, ?_⟩
             have n_ := a2 (Kd.R_kp (qAm.apart aG.o aA.o (by decide)) hk) (a2 (Kd.S_mono (Kd.S_told (Kd.S_told (Kd.S_told (Kd.S_oldK (qAm.apartS aG.o aD.o (by decide)) hk) (Kd.R_base cU)) (Kd.R_base g2)) (Kd.R_base g3)) (fun _ h_ => h_.1)) (a2 (qAg.blk hk aE.o aQ.o (by simp)) (a2 (qAg.blk hk aC.o aV.o (by simp)) (a2 (Kd.R_lower cU (qA5 HB.o)) (a2 (Kd.R_lower g2 (qA5 HB.o)) (a2 (Kd.R_lower g3 (qA5 HB.o)) (a2 (hb) (am (hi)))))))))
             clear aA aD aE aC HB aG
             obtain ⟨aA, aD, aE, aC, br, bs, bu, HB, aG⟩ := n_
             (try clear hb)
             (skip)
             (try clear hk)
             (try clear hi)
             (try clear cU)
             (try clear g2)
             (try clear g3)
             obtain ⟨eV, em, gK⟩ := Kd.R_slice bu.o
             (subst gK)
             obtain ⟨eW, en, gM⟩ := Kd.R_slice bs.o
             (subst gM)
             obtain ⟨eX, eo, gN⟩ := Kd.R_slice br.o
             (subst gN)
             refine hK.o _ _ ⟨(qAa aC.o 0).trans rfl, (qAa aC.o 1).trans rfl, (qAa aC.o 2).trans rfl, (qAa aC.o 3).trans rfl⟩ (fun hHeld => ?_)
             clear hK K
             refine qCR (a' := ?_) ?_ ?_
             rotate_left
             ·show Act.put _ (some 77) _ = _
              simp only [Act.put, List.setIfInBounds_toArray, List.set_cons_zero, List.set_cons_succ]
              rfl
             refine pu 6 78 #[true, true, true, true, true, true, true, false, false, false, false] (qBl HT_.o (by kernel_rfl)) ?_
             refine one_ (i := 7) (N := some 79) #[true, true, true, true, true, true, true, true, false, false, false] rfl rfl (qBM HT_.o (by kernel_rfl)) (by decide) (fun K hK => ?_)
             refine value_ (w1 := ?_) (v := ?_) (by rfl) rfl ?_ ?_
             rotate_left 2
             ·go_simp
              constructor
              ·rfl
              rfl
             refine hK.o _ _ ⟨(qAa (qBp aC.o _) 0).trans rfl, (qAa (qBp aC.o _) 1).trans rfl, (qAa (qBp aC.o _) 2).trans rfl, (qAa (qBp aC.o _) 3).trans rfl⟩ (fun hHeld => ?_)
             clear hK K
             refine qCR (a' := ?_) ?_ ?_
             rotate_left
             ·show Act.put _ (some 79) _ = _
              simp only [Act.put, List.setIfInBounds_toArray, List.set_cons_zero, List.set_cons_succ]
              rfl
             refine one_ (i := 8) (N := some 80) #[true, true, true, true, true, true, true, true, true, false, false] rfl rfl (qBM HT_.o (by kernel_rfl)) (by decide) (fun K hK => ?_)
             refine Kd.S_append_step k92 (w0 := w) w.heap.size (by rfl) (.tmp 73) (.tmp 79) 30 92 (.agg #[(.string ⟨#[]⟩), (.slice none 0 0), (.int .i64 0), (.slice none 0 0), (.slice none 0 0)]) 96 rfl Tryz.underlying30 info92 rfl (by decide) (by omega) aX aJ (⟨bi, (⟨(⟨bj, cD⟩ : S69), bk, bl⟩ : S90)⟩ : S92) [.string bi, .slice eX bj.length eo, .int .i64 cD, .slice eW bk.length en, .slice eV bl.length em] (fun _ => True) (fun k_ => some k_ = (.slice eX bj.length eo : Value).ownBlock ∨ some k_ = (.slice eW bk.length en : Value).ownBlock ∨ some k_ = (.slice eV bl.length em : Value).ownBlock) rfl rfl ?aP (fun k_ hk_ => hk_.elim (fun h_ => (Kd.R_mono (ok' := fun k_ => (fun _ => True) k_ ∧ some k_ ≠ (aX : Value).ownBlock) (Kd.R_apart' br.o (Kd.S_typed aD.o) (by decide)) (fun k_ hk => ⟨trivial, hk.2⟩)).1 k_ h_.symm) (fun h_ => h_.elim (fun h_ => (Kd.R_mono (ok' := fun k_ => (fun _ => True) k_ ∧ some k_ ≠ (aX : Value).ownBlock) (Kd.R_apart' bs.o (Kd.S_typed aD.o) (by decide)) (fun k_ hk => ⟨trivial, hk.2⟩)).1 k_ h_.symm) (fun h_ => (Kd.R_mono (ok' := fun k_ => (fun _ => True) k_ ∧ some k_ ≠ (aX : Value).ownBlock) (Kd.R_apart' bu.o (Kd.S_typed aD.o) (by decide)) (fun k_ hk => ⟨trivial, hk.2⟩)).1 k_ h_.symm))) ?aF ?aO ?aB ?aS ?aL ?_
             (case aP => exact k92_mkM _ _ _ (⟨bi, (⟨(⟨bj, cD⟩ : S69), bk, bl⟩ : S90)⟩ : S92) (Kd.R_mono (Kd.R_tight rfl (Kd.R_mono (ok' := fun k_ => (fun _ => True) k_ ∧ some k_ ≠ (aX : Value).ownBlock) (Kd.R_apart' br.o (Kd.S_typed aD.o) (by decide)) (fun k_ hk => ⟨trivial, hk.2⟩))) (fun _ h_ => Or.inl h_)) (Kd.R_mono (Kd.R_tight rfl (Kd.R_mono (ok' := fun k_ => (fun _ => True) k_ ∧ some k_ ≠ (aX : Value).ownBlock) (Kd.R_apart' bs.o (Kd.S_typed aD.o) (by decide)) (fun k_ hk => ⟨trivial, hk.2⟩))) (fun _ h_ => Or.inr (Or.inl h_))) (Kd.R_mono (Kd.R_tight rfl (Kd.R_mono (ok' := fun k_ => (fun _ => True) k_ ∧ some k_ ≠ (aX : Value).ownBlock) (Kd.R_apart' bu.o (Kd.S_typed aD.o) (by decide)) (fun k_ hk => ⟨trivial, hk.2⟩))) (fun _ h_ => Or.inr (Or.inr (h_)))))
             (case aB => exact HB.o)
             (case aF => exact (fun _ _ => trivial))
             (case aO => exact (by exact Kd.S_mono aD.o (fun k_ hk => ⟨trivial, fun e_ => e_.elim (fun h_ => hk.1.1.2 h_) (fun h_ => h_.elim (fun h_ => hk.1.2 h_) (fun h_ => hk.2 h_))⟩)))
             (case aS => exact (qA5 HB.o))
             (case aL => have := e1.o; omega)
             intro hD h2 ho hb hg ew
             rw [← e4.o] at ho
             have n_ := a2 (Kd.R_over' aA.o (Kd.S_typed aD.o) (by decide) hg) (a2 (qBr (g := aR) (o := .cells #[.string ⟨#[]⟩, .slice none 0 0, .slice none 0 0, .slice none 0 0] 33 (0, 0)) aE.o hg (Kd.S_ne aD.o aE.o (by decide))) (a2 (qBr (g := aT) (o := .cells #[.string aU, aW, aX, .slice none 0 0] 33 (0, 0)) aC.o hg (Kd.S_ne aD.o aC.o (by decide))) (a2 (qAm.grownRS aG.o hg aG.o aD.o (by decide) (fun b_ t_ h_ => h_)) (a2 (hb) (am (ho))))))
             clear aA aE aC aG HB aD br bs bu
             obtain ⟨aA, aE, aC, aG, HB, dB⟩ := n_
             clear ho hb hg ew
             obtain ⟨dF, dJ, gO⟩ := Kd.S_slice dB.o
             (subst gO)
             refine hK.o _ _ ⟨(qAa aC.o 0).trans rfl, (qAa aC.o 1).trans rfl, (qAa aC.o 2).trans rfl, (qAa aC.o 3).trans rfl⟩ (fun hHeld => ?_)
             clear hK K
             refine qCR (a' := ?_) ?_ ?_
             rotate_left
             ·show Act.put _ (some 80) _ = _
              simp only [Act.put, List.setIfInBounds_toArray, List.set_cons_zero, List.set_cons_succ]
              rfl
             refine pu 9 81 #[true, true, true, true, true, true, true, true, true, true, false] (qBl HT_.o (by kernel_rfl)) ?_
             refine last_ (i := 10) (N := none) #[true, true, true, true, true, true, true, true, true, true, true] rfl rfl (qBM HT_.o (by kernel_rfl)) (by decide) (fun K hK => ?_)
             have hfs62 := qAb aC.o 2
             refine skip_ (w1 := ?_) (by rfl) rfl ?_ ?_
             rotate_left
             ·go_simp
              rfl
             refine hK.o _ _ ?_
             clear hK K
             refine done_ (qD5 HT_.o (by kernel_rfl)) ?_
             try go_wp2
             go_roundg bI
             case measure => have := bc.o; have := cI.o; have := bR.o; have := cz.o; have := bw.o; omega
             case rel => exact ⟨(wrap64 (bG - 1)), (cp), (cq), (cZ), (.slice dF cZ.length dJ), (by rfl), H', ⟨by have := bc.o; have := cI.o; have := bR.o; have := cz.o; have := bw.o; omega⟩, ⟨by exact Kd.R_mono (Kd.R_far (p := ⟨aT, 2, none⟩) (Kd.R_types aA.o aC.o (by decide)) (fun _ hk => hk.2) (.slice dF cZ.length dJ)) (fun _ hk => trivial)⟩, ⟨by exact Kd.S_mono (Kd.S_far (p := ⟨aT, 2, none⟩) (Kd.S_types dB.o aC.o (by decide)) (fun _ hk => hk.2) (.slice dF cZ.length dJ)) (fun _ hk => trivial)⟩, ⟨by refine qAz ?_ aj.o _; exact aE.o⟩, ⟨by refine qAx (cs := #[.string aU, aW, aX, .slice none 0 0]) ?_ 2 _ rfl; exact aC.o⟩, ⟨by repeat (with_reducible first | exact aG.o | refine qAm.far ?_ bC.o (by exact TyB.of aC.o) (by decide) _)⟩, ⟨by repeat (with_reducible first | exact HB.o | refine qAs ?_ bq.o)⟩⟩
            replace fn := Bool.eq_false_iff.mpr fn
            subst fn
            replace H : ((qAT.f aN ad af).bind fun bO => (qAd.l3 bI l0 bO.1 aN bO.2.1 bO.2.2 aU aH aJ ([] : List (S104)))) = some (r1, r2, r3, r4, r5) := by rw [if_neg (show ¬ (false = true) by decide)] at H; exact H
            replace H := bm H
            obtain ⟨⟨d9, da, db⟩, eG, H⟩ := H
            replace H : (qAd.l3 bI l0 d9 aN da db aU aH aJ ([] : List (S104))) = some (r1, r2, r3, r4, r5) := H
            have gp := am eG
            clear eG
            have H' := am H
            clear H
            go_wp2_with ((with_reducible refine qAk (f := 59) rfl ?_); refine gL 83 Tryz.func59 #[.pointer (some ⟨aY, 0, none⟩)] ?_; (with_reducible refine (qAT.calls aY aN ad af d9 da db w _ ?side1 ?side2 gp.o).mono ?_); (case side1 => exact aG.o); (case side2 => exact HB.o); rintro e h3 ⟨rfl, hi, hb, hk⟩; refine ⟨_, rfl, ?_⟩; have n_ := a2 (Kd.R_kp (qAm.apart aG.o aA.o (by decide)) hk) (a2 (Kd.S_mono (Kd.S_keep (qAm.apartS aG.o aD.o (by decide)) hk (fun _ h => h.2)) (fun _ h => h.1)) (a2 (qAg.blk hk aE.o aQ.o (by simp)) (a2 (qAg.blk hk aC.o aV.o (by simp)) (a2 (hb) (am (hi)))))); clear aA aD aE aC HB aG; obtain ⟨aA, aD, aE, aC, HB, aG⟩ := n_)
            go_loopg [10] bI (fun kq gw w' => ∃ (ak : Int) (au : Int) (ax : Int) (aK : List (S104)) (ab : Value), gw = .int .i64 ak ∧ qAe (qAd.l3 kq l0 ak aN au ax aU aH aJ aK = some (r1, r2, r3, r4, r5)) ∧ qAe (kq ≤ bI) ∧ qAe (Kd.R k85 85 w' w.heap.size (fun _ => True) aW aH) ∧ qAe (Kd.S k92 92 w' w.heap.size (fun _ => True) aX aJ) ∧ qAe (Kd.R k104 104 w' w.heap.size (fun _ => True) ab aK) ∧ qAe (w'.heap[aR]? = some (.cells #[.string ⟨#[]⟩, (.slice none 0 0), (.slice none 0 0), (.slice none 0 0)] 33 (0, 0))) ∧ qAe (w'.heap[aT]? = some (.cells #[.string aU, aW, aX, ab] 33 (0, 0))) ∧ qAe (qAm w w' aY aN au ax) ∧ qAe (Below w.heap.size w w'))
            case atStart => exact ⟨(d9), (da), (db), ([] : List (S104)), (.slice none 0 0), (by rfl), H', ⟨Nat.le_refl _⟩, ⟨by exact aA.o⟩, ⟨by exact aD.o⟩, ⟨by (exact Kd.R_nil _ _ _ _ _)⟩, ⟨by exact aE.o⟩, ⟨by exact aC.o⟩, ⟨by exact aG.o⟩, ⟨by exact HB.o⟩⟩
            case round =>
             clear H'
             obtain ⟨ak, au, ax, aK, ab, rfl, HA, fi, aA, aD, aI, aE, aC, aG, HB⟩ := hrel
             cases gk with
             | zero => exact absurd HA.o (by simp [qAd.l3])
             | succ k6 =>
              have H := HA.o
              clear HA
              simp only [qAd.l3] at H
              have dI := am H
              clear H
              go_upto_region 20 with (fail)
              go_cut [90] (fun hH wc => ∃ (kq : Nat) (b4 : Bool) (a5 : Int) (a6 : Int), hH = .bool b4 ∧ qAe (qAd.j6 kq l0 ak b4 aN a5 a6 aU aH aJ aK = some (r1, r2, r3, r4, r5)) ∧ qAe (kq ≤ k6) ∧ qAe (Kd.R k85 85 wc w.heap.size (fun _ => True) aW aH) ∧ qAe (Kd.S k92 92 wc w.heap.size (fun _ => True) aX aJ) ∧ qAe (Kd.R k104 104 wc w.heap.size (fun _ => True) ab aK) ∧ qAe (wc.heap[aR]? = some (.cells #[.string ⟨#[]⟩, (.slice none 0 0), (.slice none 0 0), (.slice none 0 0)] 33 (0, 0))) ∧ qAe (wc.heap[aT]? = some (.cells #[.string aU, aW, aX, ab] 33 (0, 0))) ∧ qAe (qAm w wc aY aN a5 a6) ∧ qAe (Below w.heap.size w wc))
              case first =>
               have H := dI.o
               clear dI
               by_cases dr : ak > 0
               rotate_left
               ·rw [if_neg dr] at H
                replace dr := d0 dr
                (skip)
                have H' := am H
                clear H
                go_wp2
                go_meet
                case rel => exact ⟨_, (false), (au), (ax), (by rfl), H', ⟨by have := bc.o; have := cI.o; have := bR.o; have := cz.o; have := bw.o; have := fi.o; (omega)⟩, ⟨by exact aA.o⟩, ⟨by exact aD.o⟩, ⟨by exact aI.o⟩, ⟨by exact aE.o⟩, ⟨by exact aC.o⟩, ⟨by exact aG.o⟩, ⟨by exact HB.o⟩⟩
               rw [if_pos dr] at H
               replace dr := d1 dr
               (skip)
               replace H := bm H
               obtain ⟨⟨dc, dd, de⟩, eH, H⟩ := H
               replace H : (qAd.j6 k6 l0 ak (dc == 0) aN dd de aU aH aJ aK) = some (r1, r2, r3, r4, r5) := H
               have gq := am eH
               clear eH
               have H' := am H
               clear H
               go_wp2_with (go_at_call 60; (with_reducible refine (qAL.calls aY aN au ax dc dd de w _ ?side1 ?side2 gq.o).mono ?_); (case side1 => exact aG.o); (case side2 => exact HB.o); rintro e h4 ⟨rfl, hi, hb, hk⟩; have n_ := a2 (Kd.R_kp (qAm.apart aG.o aA.o (by decide)) hk) (a2 (Kd.S_mono (Kd.S_keep (qAm.apartS aG.o aD.o (by decide)) hk (fun _ h => h.2)) (fun _ h => h.1)) (a2 (Kd.R_kp (qAm.apart aG.o aI.o (by decide)) hk) (a2 (qAg.blk hk aE.o aQ.o (by simp)) (a2 (qAg.blk hk aC.o aV.o (by simp)) (a2 (hb) (am (hi))))))); clear aA aD aI aE aC HB aG; obtain ⟨aA, aD, aI, aE, aC, HB, aG⟩ := n_)
               go_meet
               case rel => exact ⟨_, (dc == 0), (dd), (de), (by rfl), H', ⟨by have := bc.o; have := cI.o; have := bR.o; have := cz.o; have := bw.o; have := fi.o; (omega)⟩, ⟨by exact aA.o⟩, ⟨by exact aD.o⟩, ⟨by exact aI.o⟩, ⟨by exact aE.o⟩, ⟨by exact aC.o⟩, ⟨by exact aG.o⟩, ⟨by exact HB.o⟩⟩
              case rest =>
               clear dI
               obtain ⟨kq, b4, a5, a6, rfl, HA, eY, aA, aD, aI, aE, aC, aG, HB⟩ := hcut
               cases kq with
               | zero => exact absurd HA.o (by simp [qAd.j6])
               | succ bF =>
                have H := HA.o
                clear HA
                simp only [qAd.j6] at H
                by_cases fp : b4 = true
                rotate_left
                ·replace fp := Bool.eq_false_iff.mpr fp
                 subst fp
                 replace H : ((qBi.f aN a5 a6).bind fun cQ => (if cQ.1 = 0 then ((qBw.f aU aH aJ aK).bind fun bH => (if bH.2 = 0 then ((qA8.f bF l0 bH.1).bind fun bW => (if bW = true then (some (aU, aH, aJ, aK, 0)) else (some ((⟨#[]⟩ : ByteArray), ([] : List (S85)), ([] : List (S92)), ([] : List (S104)), 52)))) else (some ((⟨#[]⟩ : ByteArray), ([] : List (S85)), ([] : List (S92)), ([] : List (S104)), 52)))) else (some ((⟨#[]⟩ : ByteArray), ([] : List (S85)), ([] : List (S92)), ([] : List (S104)), 52)))) = some (r1, r2, r3, r4, r5) := by rw [if_neg (show ¬ (false = true) by decide)] at H; exact H
                 replace H := bm H
                 obtain ⟨⟨bb, cF, cG⟩, eN, H⟩ := H
                 replace H : (if bb = 0 then ((qBw.f aU aH aJ aK).bind fun bH => (if bH.2 = 0 then ((qA8.f bF l0 bH.1).bind fun bW => (if bW = true then (some (aU, aH, aJ, aK, 0)) else (some ((⟨#[]⟩ : ByteArray), ([] : List (S85)), ([] : List (S92)), ([] : List (S104)), 52)))) else (some ((⟨#[]⟩ : ByteArray), ([] : List (S85)), ([] : List (S92)), ([] : List (S104)), 52)))) else (some ((⟨#[]⟩ : ByteArray), ([] : List (S85)), ([] : List (S92)), ([] : List (S104)), 52))) = some (r1, r2, r3, r4, r5) := H
                 have fh := am eN
                 clear eN
                 by_cases ed : bb = 0
                 rotate_left
                 ·rw [if_neg ed] at H
                  have ee : (bb != 0) = true := bne_iff_ne.mpr ed
                  simp only [Option.some.injEq, Prod.mk.injEq] at H
                  obtain ⟨rfl, rfl, rfl, rfl, rfl⟩ := H
                  go_wp2_with ((with_reducible refine qAk (f := 64) rfl ?_); refine gL 111 Tryz.func64 #[.pointer (some ⟨aY, 0, none⟩)] ?_; (with_reducible refine (qBi.calls aY aN a5 a6 bb cF cG w _ ?side1 ?side2 fh.o).mono ?_); (case side1 => exact aG.o); (case side2 => exact HB.o); rintro e cx ⟨rfl, hi, hb, hk⟩; refine ⟨_, rfl, ?_⟩; have n_ := a2 (qAg.blk hk aE.o aQ.o (by simp)) (am (hb)); clear aA aD aI aE aC HB aG; obtain ⟨aE, HB⟩ := n_; have fV : cx.cell? ⟨aR, 0, none⟩ = some (.string ⟨#[]⟩) := (qAa aE.o 0).trans rfl; have fW : cx.cell? ⟨aR, 1, none⟩ = some (.slice none 0 0) := (qAa aE.o 1).trans rfl; have fX : cx.cell? ⟨aR, 2, none⟩ = some (.slice none 0 0) := (qAa aE.o 2).trans rfl; have fY : cx.cell? ⟨aR, 3, none⟩ = some (.slice none 0 0) := (qAa aE.o 3).trans rfl; have fb := qAb aE.o 0; have fc := qAb aE.o 1; have fd := qAb aE.o 2; have fe := qAb aE.o 3)
                  refine bodyPost_ret (qBW rfl _ _ aR 33 #[.string ⟨#[]⟩, .slice none 0 0, .slice none 0 0, .slice none 0 0] (0, 0) _ rfl (by refine qAx (cs := #[.string ⟨#[]⟩, .slice none 0 0, .slice none 0 0, .slice none 0 0]) ?_ 3 _ rfl; refine qAx (cs := #[.string ⟨#[]⟩, .slice none 0 0, .slice none 0 0, .slice none 0 0]) ?_ 2 _ rfl; refine qAx (cs := #[.string ⟨#[]⟩, .slice none 0 0, .slice none 0 0, .slice none 0 0]) ?_ 1 _ rfl; refine qAx (cs := #[.string ⟨#[]⟩, .slice none 0 0, .slice none 0 0, .slice none 0 0]) ?_ 0 _ rfl; exact aE.o) Tryz.underlying33 rfl (by kernel_rfl)) rfl ?_
                  exact ⟨_, _, _, by rfl, by (exact Kd.R_nil _ _ _ _ _), by (exact Kd.S_nil _ _ _ _ _), by (exact Kd.R_nil _ _ _ _ _), by repeat (with_reducible first | exact HB.o | refine qAs ?_ bX.o)⟩
                 rw [if_pos ed] at H
                 have ee : (bb != 0) = false := bn ed
                 clear ed
                 replace H := bm H
                 obtain ⟨⟨bV, bp⟩, eO, H⟩ := H
                 replace H : (if bp = 0 then ((qA8.f bF l0 bV).bind fun bW => (if bW = true then (some (aU, aH, aJ, aK, 0)) else (some ((⟨#[]⟩ : ByteArray), ([] : List (S85)), ([] : List (S92)), ([] : List (S104)), 52)))) else (some ((⟨#[]⟩ : ByteArray), ([] : List (S85)), ([] : List (S92)), ([] : List (S104)), 52))) = some (r1, r2, r3, r4, r5) := H
                 have gA := am eO
                 clear eO
                 by_cases ef : bp = 0
                 rotate_left
                 ·rw [if_neg ef] at H
                  have eg : (bp != 0) = true := bne_iff_ne.mpr ef
                  simp only [Option.some.injEq, Prod.mk.injEq] at H
                  obtain ⟨rfl, rfl, rfl, rfl, rfl⟩ := H
                  go_wp2_with (first | ((with_reducible refine qAk (f := 64) rfl ?_); refine gL 111 Tryz.func64 #[.pointer (some ⟨aY, 0, none⟩)] ?_; (with_reducible refine (qBi.calls aY aN a5 a6 bb cF cG w _ ?side1 ?side2 fh.o).mono ?_); (case side1 => exact aG.o); (case side2 => exact HB.o); rintro e cv ⟨rfl, hi, hb, hk⟩; refine ⟨_, rfl, ?_⟩; have n_ := a2 (Kd.R_kp (qAm.apart aG.o aA.o (by decide)) hk) (a2 (Kd.S_mono (Kd.S_keep (qAm.apartS aG.o aD.o (by decide)) hk (fun _ h => h.2)) (fun _ h => h.1)) (a2 (Kd.R_kp (qAm.apart aG.o aI.o (by decide)) hk) (a2 (qAg.blk hk aE.o aQ.o (by simp)) (a2 (qAg.blk hk aC.o aV.o (by simp)) (a2 (hb) (am (hi))))))); clear aA aD aI aE aC HB aG; obtain ⟨aA, aD, aI, aE, aC, HB, aG⟩ := n_; have fN : cv.cell? ⟨aT, 0, none⟩ = some (.string aU) := (qAa aC.o 0).trans rfl; have fO : cv.cell? ⟨aT, 1, none⟩ = some (aW) := (qAa aC.o 1).trans rfl; have fP : cv.cell? ⟨aT, 2, none⟩ = some (aX) := (qAa aC.o 2).trans rfl; have fQ : cv.cell? ⟨aT, 3, none⟩ = some (ab) := (qAa aC.o 3).trans rfl; obtain ⟨eR, ei, et⟩ := Kd.R_slice aA.o; subst et; obtain ⟨eS, ej, eu⟩ := Kd.S_slice aD.o; subst eu; obtain ⟨eT, ek, ev⟩ := Kd.R_slice aI.o; subst ev) | ((with_reducible refine qAk (f := 13) rfl ?_); refine gL 116 Tryz.func13 #[.agg #[.string aU, .slice eR aH.length ei, .slice eS aJ.length ej, .slice eT aK.length ek]] ?_; (with_reducible refine (qBw.calls aU _ _ aH _ _ aJ _ _ aK bV bp _ ?side1 ?side2 ?side3 ?side4 ?side5 ?side6 gA.o).mono ?_); (case side1 => exact (Kd.R_reads' aA.o).2.2); (case side2 => exact (Kd.R_reads' aA.o).2.1); (case side3 => exact (Kd.S_reads' aD.o).2.2); (case side4 => exact (Kd.S_reads' aD.o).2.1); (case side5 => exact (Kd.R_reads' aI.o).2.2); (case side6 => exact (Kd.R_reads' aI.o).2.1); rintro e cw ⟨ff, rfl, cU, hb⟩; refine ⟨_, rfl, ?_⟩; have n_ := a2 (qA4 aE.o hb) (am (qAp HB.o hb)); clear aA aD aI aE aC aG HB; obtain ⟨aE, HB⟩ := n_; have fR : cw.cell? ⟨aR, 0, none⟩ = some (.string ⟨#[]⟩) := (qAa aE.o 0).trans rfl; have fS : cw.cell? ⟨aR, 1, none⟩ = some (.slice none 0 0) := (qAa aE.o 1).trans rfl; have fT : cw.cell? ⟨aR, 2, none⟩ = some (.slice none 0 0) := (qAa aE.o 2).trans rfl; have fU : cw.cell? ⟨aR, 3, none⟩ = some (.slice none 0 0) := (qAa aE.o 3).trans rfl; have f7 := qAb aE.o 0; have f8 := qAb aE.o 1; have f9 := qAb aE.o 2; have fa := qAb aE.o 3))
                  refine bodyPost_ret (qBW rfl _ _ aR 33 #[.string ⟨#[]⟩, .slice none 0 0, .slice none 0 0, .slice none 0 0] (0, 0) _ rfl (by refine qAx (cs := #[.string ⟨#[]⟩, .slice none 0 0, .slice none 0 0, .slice none 0 0]) ?_ 3 _ rfl; refine qAx (cs := #[.string ⟨#[]⟩, .slice none 0 0, .slice none 0 0, .slice none 0 0]) ?_ 2 _ rfl; refine qAx (cs := #[.string ⟨#[]⟩, .slice none 0 0, .slice none 0 0, .slice none 0 0]) ?_ 1 _ rfl; refine qAx (cs := #[.string ⟨#[]⟩, .slice none 0 0, .slice none 0 0, .slice none 0 0]) ?_ 0 _ rfl; exact aE.o) Tryz.underlying33 rfl (by kernel_rfl)) rfl ?_
                  exact ⟨_, _, _, by rfl, by (exact Kd.R_nil _ _ _ _ _), by (exact Kd.S_nil _ _ _ _ _), by (exact Kd.R_nil _ _ _ _ _), by repeat (with_reducible first | exact HB.o | refine qAs ?_ bX.o)⟩
                 rw [if_pos ef] at H
                 have eg : (bp != 0) = false := bn ef
                 clear ef
                 replace H := bm H
                 obtain ⟨bW, eP, H⟩ := H
                 replace H : (if bW = true then (some (aU, aH, aJ, aK, 0)) else (some ((⟨#[]⟩ : ByteArray), ([] : List (S85)), ([] : List (S92)), ([] : List (S104)), 52))) = some (r1, r2, r3, r4, r5) := H
                 have g7 := am eP
                 clear eP
                 by_cases fr : bW = true
                 rotate_left
                 ·replace fr := Bool.eq_false_iff.mpr fr
                  subst fr
                  replace H : (some ((⟨#[]⟩ : ByteArray), ([] : List (S85)), ([] : List (S92)), ([] : List (S104)), 52)) = some (r1, r2, r3, r4, r5) := by rw [if_neg (show ¬ (false = true) by decide)] at H; exact H
                  simp only [Option.some.injEq, Prod.mk.injEq] at H
                  obtain ⟨rfl, rfl, rfl, rfl, rfl⟩ := H
                  go_wp2_with (first | ((with_reducible refine qAk (f := 64) rfl ?_); refine gL 111 Tryz.func64 #[.pointer (some ⟨aY, 0, none⟩)] ?_; (with_reducible refine (qBi.calls aY aN a5 a6 bb cF cG w _ ?side1 ?side2 fh.o).mono ?_); (case side1 => exact aG.o); (case side2 => exact HB.o); rintro e cu ⟨rfl, hi, hb, hk⟩; refine ⟨_, rfl, ?_⟩; have n_ := a2 (Kd.R_kp (qAm.apart aG.o aA.o (by decide)) hk) (a2 (Kd.S_mono (Kd.S_keep (qAm.apartS aG.o aD.o (by decide)) hk (fun _ h => h.2)) (fun _ h => h.1)) (a2 (Kd.R_kp (qAm.apart aG.o aI.o (by decide)) hk) (a2 (qAg.blk hk aE.o aQ.o (by simp)) (a2 (qAg.blk hk aC.o aV.o (by simp)) (a2 (hb) (am (hi))))))); clear aA aD aI aE aC HB aG; obtain ⟨aA, aD, aI, aE, aC, HB, aG⟩ := n_; have fF : cu.cell? ⟨aT, 0, none⟩ = some (.string aU) := (qAa aC.o 0).trans rfl; have fG : cu.cell? ⟨aT, 1, none⟩ = some (aW) := (qAa aC.o 1).trans rfl; have fH : cu.cell? ⟨aT, 2, none⟩ = some (aX) := (qAa aC.o 2).trans rfl; have fI : cu.cell? ⟨aT, 3, none⟩ = some (ab) := (qAa aC.o 3).trans rfl; obtain ⟨cJ, cR, ep⟩ := Kd.R_slice aA.o; subst ep; obtain ⟨cK, cS, eq⟩ := Kd.S_slice aD.o; subst eq; obtain ⟨cL, cT, er⟩ := Kd.R_slice aI.o; subst er) | ((with_reducible refine qAk (f := 13) rfl ?_); refine gL 116 Tryz.func13 #[.agg #[.string aU, .slice cJ aH.length cR, .slice cK aJ.length cS, .slice cL aK.length cT]] ?_; (with_reducible refine (qBw.calls aU _ _ aH _ _ aJ _ _ aK bV bp _ ?side1 ?side2 ?side3 ?side4 ?side5 ?side6 gA.o).mono ?_); (case side1 => exact (Kd.R_reads' aA.o).2.2); (case side2 => exact (Kd.R_reads' aA.o).2.1); (case side3 => exact (Kd.S_reads' aD.o).2.2); (case side4 => exact (Kd.S_reads' aD.o).2.1); (case side5 => exact (Kd.R_reads' aI.o).2.2); (case side6 => exact (Kd.R_reads' aI.o).2.1); rintro e bD ⟨ff, rfl, cU, hb⟩; refine ⟨_, rfl, ?_⟩; have n_ := a2 (Kd.R_below aA.o hb) (a2 (Kd.S_below aD.o hb) (a2 (Kd.R_below aI.o hb) (a2 (Kd.R_lower cU (qA5 HB.o)) (a2 (qA4 aE.o hb) (a2 (qA4 aC.o hb) (a2 (qAm.below aG.o hb) (am (qAp HB.o hb)))))))); clear aA aD aI aE aC aG HB; obtain ⟨aA, aD, aI, az, aE, aC, aG, HB⟩ := n_; obtain ⟨eQ, eh, es⟩ := Kd.R_slice az.o; subst es) | (go_at_call 65; (with_reducible refine (qA8.calls bF _ _ l0 _ _ bV false _ ?side1 ?side2 ?side3 ?side4 g7.o).mono ?_); (case side1 => exact (Kd.C_below gE.o HB.o)); (case side2 => exact gD.o); (case side3 => exact (Kd.R_reads' az.o).2.2); (case side4 => exact (Kd.R_reads' az.o).2.1); rintro e w' ⟨rfl, ⟨nd, rfl⟩⟩; (try (rw [drewN_self bD]; generalize hq_ : World.drewN bD _ = bD; have n0_ : qAe (Kd.R (Kd.int .u8) 5 bD w.heap.size (fun _ => True) (.slice eQ bV.length eh) bV) := ⟨by rw [← hq_]; exact (by (with_reducible repeat (apply Kd.R_drewN)); exact az.o)⟩; have n1_ : qAe (Kd.R k85 85 bD w.heap.size (fun _ => True) (.slice cJ aH.length cR) aH) := ⟨by rw [← hq_]; exact (by (with_reducible repeat (apply Kd.R_drewN)); exact aA.o)⟩; have n2_ : qAe (Kd.S k92 92 bD w.heap.size (fun _ => True) (.slice cK aJ.length cS) aJ) := ⟨by rw [← hq_]; exact (by (with_reducible repeat (apply Kd.S_drewN)); exact aD.o)⟩; have n3_ : qAe (Kd.R k104 104 bD w.heap.size (fun _ => True) (.slice cL aK.length cT) aK) := ⟨by rw [← hq_]; exact (by (with_reducible repeat (apply Kd.R_drewN)); exact aI.o)⟩; have n4_ : qAe (bD.heap[aR]? = some (.cells #[.string ⟨#[]⟩, .slice none 0 0, .slice none 0 0, .slice none 0 0] 33 (0, 0))) := ⟨by rw [← hq_]; exact (by (with_reducible repeat (refine qBs ?_ _)); exact aE.o)⟩; have n5_ : qAe (bD.heap[aT]? = some (.cells #[.string aU, .slice cJ aH.length cR, .slice cK aJ.length cS, .slice cL aK.length cT] 33 (0, 0))) := ⟨by rw [← hq_]; exact (by (with_reducible repeat (refine qBs ?_ _)); exact aC.o)⟩; have n6_ : qAe (qAm w bD aY aN cF cG) := ⟨by rw [← hq_]; exact (by repeat (with_reducible first | exact aG.o | apply qAm.drewN))⟩; have n7_ : qAe (Below w.heap.size w bD) := ⟨by rw [← hq_]; exact (by repeat (with_reducible first | exact HB.o | apply qAw))⟩; clear az aA aD aI aE aC aG HB hq_; have aE := n4_; have HB := n7_; clear n0_ n1_ n2_ n3_ n4_ n5_ n6_ n7_)); have fJ : bD.cell? ⟨aR, 0, none⟩ = some (.string ⟨#[]⟩) := (qAa aE.o 0).trans rfl; have fK : bD.cell? ⟨aR, 1, none⟩ = some (.slice none 0 0) := (qAa aE.o 1).trans rfl; have fL : bD.cell? ⟨aR, 2, none⟩ = some (.slice none 0 0) := (qAa aE.o 2).trans rfl; have fM : bD.cell? ⟨aR, 3, none⟩ = some (.slice none 0 0) := (qAa aE.o 3).trans rfl; have f3 := qAb aE.o 0; have f4 := qAb aE.o 1; have f5 := qAb aE.o 2; have f6 := qAb aE.o 3))
                  refine bodyPost_ret (qBW rfl _ _ aR 33 #[.string ⟨#[]⟩, .slice none 0 0, .slice none 0 0, .slice none 0 0] (0, 0) _ rfl (by refine qAx (cs := #[.string ⟨#[]⟩, .slice none 0 0, .slice none 0 0, .slice none 0 0]) ?_ 3 _ rfl; refine qAx (cs := #[.string ⟨#[]⟩, .slice none 0 0, .slice none 0 0, .slice none 0 0]) ?_ 2 _ rfl; refine qAx (cs := #[.string ⟨#[]⟩, .slice none 0 0, .slice none 0 0, .slice none 0 0]) ?_ 1 _ rfl; refine qAx (cs := #[.string ⟨#[]⟩, .slice none 0 0, .slice none 0 0, .slice none 0 0]) ?_ 0 _ rfl; exact aE.o) Tryz.underlying33 rfl (by kernel_rfl)) rfl ?_
                  exact ⟨_, _, _, by rfl, by (exact Kd.R_nil _ _ _ _ _), by (exact Kd.S_nil _ _ _ _ _), by (exact Kd.R_nil _ _ _ _ _), by repeat (with_reducible first | exact HB.o | refine qAs ?_ bX.o)⟩
                 subst fr
                 replace H : (some (aU, aH, aJ, aK, 0)) = some (r1, r2, r3, r4, r5) := by rw [if_pos rfl] at H; exact H
                 simp only [Option.some.injEq, Prod.mk.injEq] at H
                 obtain ⟨rfl, rfl, rfl, rfl, rfl⟩ := H
                 go_wp2_with (first | ((with_reducible refine qAk (f := 64) rfl ?_); refine gL 111 Tryz.func64 #[.pointer (some ⟨aY, 0, none⟩)] ?_; (with_reducible refine (qBi.calls aY aN a5 a6 bb cF cG w _ ?side1 ?side2 fh.o).mono ?_); (case side1 => exact aG.o); (case side2 => exact HB.o); rintro e fy ⟨rfl, hi, hb, hk⟩; refine ⟨_, rfl, ?_⟩; have n_ := a2 (Kd.R_kp (qAm.apart aG.o aA.o (by decide)) hk) (a2 (Kd.S_mono (Kd.S_keep (qAm.apartS aG.o aD.o (by decide)) hk (fun _ h => h.2)) (fun _ h => h.1)) (a2 (Kd.R_kp (qAm.apart aG.o aI.o (by decide)) hk) (a2 (qAg.blk hk aE.o aQ.o (by simp)) (a2 (qAg.blk hk aC.o aV.o (by simp)) (a2 (hb) (am (hi))))))); clear aA aD aI aE aC HB aG; obtain ⟨aA, aD, aI, aE, aC, HB, aG⟩ := n_; have fs : fy.cell? ⟨aT, 0, none⟩ = some (.string aU) := (qAa aC.o 0).trans rfl; have ft : fy.cell? ⟨aT, 1, none⟩ = some (aW) := (qAa aC.o 1).trans rfl; have fu : fy.cell? ⟨aT, 2, none⟩ = some (aX) := (qAa aC.o 2).trans rfl; have fv : fy.cell? ⟨aT, 3, none⟩ = some (ab) := (qAa aC.o 3).trans rfl; obtain ⟨bQ, bS, gQ⟩ := Kd.R_slice aA.o; subst gQ; obtain ⟨bY, bZ, gR⟩ := Kd.S_slice aD.o; subst gR; obtain ⟨b5, b8, gS⟩ := Kd.R_slice aI.o; subst gS) | ((with_reducible refine qAk (f := 13) rfl ?_); refine gL 116 Tryz.func13 #[.agg #[.string aU, .slice bQ aH.length bS, .slice bY aJ.length bZ, .slice b5 aK.length b8]] ?_; (with_reducible refine (qBw.calls aU _ _ aH _ _ aJ _ _ aK bV bp _ ?side1 ?side2 ?side3 ?side4 ?side5 ?side6 gA.o).mono ?_); (case side1 => exact (Kd.R_reads' aA.o).2.2); (case side2 => exact (Kd.R_reads' aA.o).2.1); (case side3 => exact (Kd.S_reads' aD.o).2.2); (case side4 => exact (Kd.S_reads' aD.o).2.1); (case side5 => exact (Kd.R_reads' aI.o).2.2); (case side6 => exact (Kd.R_reads' aI.o).2.1); rintro e b1 ⟨ff, rfl, cU, hb⟩; refine ⟨_, rfl, ?_⟩; have n_ := a2 (Kd.R_below aA.o hb) (a2 (Kd.S_below aD.o hb) (a2 (Kd.R_below aI.o hb) (a2 (Kd.R_lower cU (qA5 HB.o)) (a2 (qA4 aE.o hb) (a2 (qA4 aC.o hb) (a2 (qAm.below aG.o hb) (am (qAp HB.o hb)))))))); clear aA aD aI aE aC aG HB; obtain ⟨aA, aD, aI, az, aE, aC, aG, HB⟩ := n_; obtain ⟨gC, gH, gT⟩ := Kd.R_slice az.o; subst gT) | (go_at_call 65; (with_reducible refine (qA8.calls bF _ _ l0 _ _ bV true _ ?side1 ?side2 ?side3 ?side4 g7.o).mono ?_); (case side1 => exact (Kd.C_below gE.o HB.o)); (case side2 => exact gD.o); (case side3 => exact (Kd.R_reads' az.o).2.2); (case side4 => exact (Kd.R_reads' az.o).2.1); rintro e w' ⟨rfl, ⟨nd, rfl⟩⟩; (try (rw [drewN_self b1]; generalize hq_ : World.drewN b1 _ = b1; have n0_ : qAe (Kd.R (Kd.int .u8) 5 b1 w.heap.size (fun _ => True) (.slice gC bV.length gH) bV) := ⟨by rw [← hq_]; exact (by (with_reducible repeat (apply Kd.R_drewN)); exact az.o)⟩; have n1_ : qAe (Kd.R k85 85 b1 w.heap.size (fun _ => True) (.slice bQ aH.length bS) aH) := ⟨by rw [← hq_]; exact (by (with_reducible repeat (apply Kd.R_drewN)); exact aA.o)⟩; have n2_ : qAe (Kd.S k92 92 b1 w.heap.size (fun _ => True) (.slice bY aJ.length bZ) aJ) := ⟨by rw [← hq_]; exact (by (with_reducible repeat (apply Kd.S_drewN)); exact aD.o)⟩; have n3_ : qAe (Kd.R k104 104 b1 w.heap.size (fun _ => True) (.slice b5 aK.length b8) aK) := ⟨by rw [← hq_]; exact (by (with_reducible repeat (apply Kd.R_drewN)); exact aI.o)⟩; have n4_ : qAe (b1.heap[aR]? = some (.cells #[.string ⟨#[]⟩, .slice none 0 0, .slice none 0 0, .slice none 0 0] 33 (0, 0))) := ⟨by rw [← hq_]; exact (by (with_reducible repeat (refine qBs ?_ _)); exact aE.o)⟩; have n5_ : qAe (b1.heap[aT]? = some (.cells #[.string aU, .slice bQ aH.length bS, .slice bY aJ.length bZ, .slice b5 aK.length b8] 33 (0, 0))) := ⟨by rw [← hq_]; exact (by (with_reducible repeat (refine qBs ?_ _)); exact aC.o)⟩; have n6_ : qAe (qAm w b1 aY aN cF cG) := ⟨by rw [← hq_]; exact (by repeat (with_reducible first | exact aG.o | apply qAm.drewN))⟩; have n7_ : qAe (Below w.heap.size w b1) := ⟨by rw [← hq_]; exact (by repeat (with_reducible first | exact HB.o | apply qAw))⟩; clear az aA aD aI aE aC aG HB hq_; have aA := n1_; have aD := n2_; have aI := n3_; have aE := n4_; have aC := n5_; have HB := n7_; clear n0_ n1_ n2_ n3_ n4_ n5_ n6_ n7_)); have ex : b1.cell? ⟨aT, 0, none⟩ = some (.string aU) := (qAa aC.o 0).trans rfl; have ey : b1.cell? ⟨aT, 1, none⟩ = some (.slice bQ aH.length bS) := (qAa aC.o 1).trans rfl; have ez : b1.cell? ⟨aT, 2, none⟩ = some (.slice bY aJ.length bZ) := (qAa aC.o 2).trans rfl; have fA : b1.cell? ⟨aT, 3, none⟩ = some (.slice b5 aK.length b8) := (qAa aC.o 3).trans rfl; have fB : b1.cell? ⟨aR, 0, none⟩ = some (.string ⟨#[]⟩) := (qAa aE.o 0).trans rfl; have fC : b1.cell? ⟨aR, 1, none⟩ = some (.slice none 0 0) := (qAa aE.o 1).trans rfl; have fD : b1.cell? ⟨aR, 2, none⟩ = some (.slice none 0 0) := (qAa aE.o 2).trans rfl; have fE : b1.cell? ⟨aR, 3, none⟩ = some (.slice none 0 0) := (qAa aE.o 3).trans rfl; have fZ := qAb aE.o 0; have f0 := qAb aE.o 1; have f1 := qAb aE.o 2; have f2 := qAb aE.o 3))
                 refine bodyPost_ret (qBW rfl _ _ aR 33 #[.string aU, .slice bQ aH.length bS, .slice bY aJ.length bZ, .slice b5 aK.length b8] (0, 0) _ rfl (by refine qAx (cs := #[.string aU, .slice bQ aH.length bS, .slice bY aJ.length bZ, .slice none 0 0]) ?_ 3 _ rfl; refine qAx (cs := #[.string aU, .slice bQ aH.length bS, .slice none 0 0, .slice none 0 0]) ?_ 2 _ rfl; refine qAx (cs := #[.string aU, .slice none 0 0, .slice none 0 0, .slice none 0 0]) ?_ 1 _ rfl; refine qAx (cs := #[.string ⟨#[]⟩, .slice none 0 0, .slice none 0 0, .slice none 0 0]) ?_ 0 _ rfl; exact aE.o) Tryz.underlying33 rfl (by kernel_rfl)) rfl ?_
                 exact ⟨_, _, _, by rfl, by exact Kd.R_mono (Kd.R_far (p := ⟨aR, 3, none⟩) (Kd.R_far (p := ⟨aR, 2, none⟩) (Kd.R_far (p := ⟨aR, 1, none⟩) (Kd.R_far (p := ⟨aR, 0, none⟩) (Kd.R_types aA.o aE.o (by decide)) (fun _ hk => hk.2) (.string aU)) (fun _ hk => hk.2) (.slice bQ aH.length bS)) (fun _ hk => hk.2) (.slice bY aJ.length bZ)) (fun _ hk => hk.2) (.slice b5 aK.length b8)) (fun _ hk => trivial), by exact Kd.S_mono (Kd.S_far (p := ⟨aR, 3, none⟩) (Kd.S_far (p := ⟨aR, 2, none⟩) (Kd.S_far (p := ⟨aR, 1, none⟩) (Kd.S_far (p := ⟨aR, 0, none⟩) (Kd.S_types aD.o aE.o (by decide)) (fun _ hk => hk.2) (.string aU)) (fun _ hk => hk.2) (.slice bQ aH.length bS)) (fun _ hk => hk.2) (.slice bY aJ.length bZ)) (fun _ hk => hk.2) (.slice b5 aK.length b8)) (fun _ hk => trivial), by exact Kd.R_mono (Kd.R_far (p := ⟨aR, 3, none⟩) (Kd.R_far (p := ⟨aR, 2, none⟩) (Kd.R_far (p := ⟨aR, 1, none⟩) (Kd.R_far (p := ⟨aR, 0, none⟩) (Kd.R_types aI.o aE.o (by decide)) (fun _ hk => hk.2) (.string aU)) (fun _ hk => hk.2) (.slice bQ aH.length bS)) (fun _ hk => hk.2) (.slice bY aJ.length bZ)) (fun _ hk => hk.2) (.slice b5 aK.length b8)) (fun _ hk => trivial), by repeat (with_reducible first | exact HB.o | refine qAs ?_ bX.o)⟩
                subst fp
                replace H : ((qAU.f aN a5 a6).bind fun bP => ((qAU.f aN bP.2.1 bP.2.2).bind fun bB => ((qAu.f aN bB.2.1 bB.2.2).bind fun ap => ((qAA.f aN ap.2.1 ap.2.2 32).bind fun ai => ((qAA.f aN ai.2.1 ai.2.2 32).bind fun a8 => (if aK.length < 2513169434916 then (qAd.l3 bF l0 (wrap64 (ak - 1)) aN a8.2.1 a8.2.2 aU aH aJ (aK ++ [(⟨bP.1, bB.1, wrap64 (ap.1), ai.1, a8.1⟩ : S104)])) else (none))))))) = some (r1, r2, r3, r4, r5) := by rw [if_pos rfl] at H; exact H
                replace H := bm H
                obtain ⟨⟨bU, df, dg⟩, eI, H⟩ := H
                replace H : ((qAU.f aN df dg).bind fun bB => ((qAu.f aN bB.2.1 bB.2.2).bind fun ap => ((qAA.f aN ap.2.1 ap.2.2 32).bind fun ai => ((qAA.f aN ai.2.1 ai.2.2 32).bind fun a8 => (if aK.length < 2513169434916 then (qAd.l3 bF l0 (wrap64 (ak - 1)) aN a8.2.1 a8.2.2 aU aH aJ (aK ++ [(⟨bU, bB.1, wrap64 (ap.1), ai.1, a8.1⟩ : S104)])) else (none)))))) = some (r1, r2, r3, r4, r5) := H
                have gr := am eI
                clear eI
                replace H := bm H
                obtain ⟨⟨b0, dh, di⟩, eJ, H⟩ := H
                replace H : ((qAu.f aN dh di).bind fun ap => ((qAA.f aN ap.2.1 ap.2.2 32).bind fun ai => ((qAA.f aN ai.2.1 ai.2.2 32).bind fun a8 => (if aK.length < 2513169434916 then (qAd.l3 bF l0 (wrap64 (ak - 1)) aN a8.2.1 a8.2.2 aU aH aJ (aK ++ [(⟨bU, b0, wrap64 (ap.1), ai.1, a8.1⟩ : S104)])) else (none))))) = some (r1, r2, r3, r4, r5) := H
                have gs := am eJ
                clear eJ
                replace H := bm H
                obtain ⟨⟨ba, dj, dk⟩, eK, H⟩ := H
                replace H : ((qAA.f aN dj dk 32).bind fun ai => ((qAA.f aN ai.2.1 ai.2.2 32).bind fun a8 => (if aK.length < 2513169434916 then (qAd.l3 bF l0 (wrap64 (ak - 1)) aN a8.2.1 a8.2.2 aU aH aJ (aK ++ [(⟨bU, b0, wrap64 (ba), ai.1, a8.1⟩ : S104)])) else (none)))) = some (r1, r2, r3, r4, r5) := H
                have gt := am eK
                clear eK
                replace H := bm H
                obtain ⟨⟨bo, dl, dm⟩, eL, H⟩ := H
                replace H : ((qAA.f aN dl dm 32).bind fun a8 => (if aK.length < 2513169434916 then (qAd.l3 bF l0 (wrap64 (ak - 1)) aN a8.2.1 a8.2.2 aU aH aJ (aK ++ [(⟨bU, b0, wrap64 (ba), bo, a8.1⟩ : S104)])) else (none))) = some (r1, r2, r3, r4, r5) := H
                have gu := am eL
                clear eL
                replace H := bm H
                obtain ⟨⟨cE, cr, ct⟩, eM, H⟩ := H
                replace H : (if aK.length < 2513169434916 then (qAd.l3 bF l0 (wrap64 (ak - 1)) aN cr ct aU aH aJ (aK ++ [(⟨bU, b0, wrap64 (ba), bo, cE⟩ : S104)])) else (none)) = some (r1, r2, r3, r4, r5) := H
                have gv := am eM
                clear eM
                obtain ⟨fq, H⟩ := gd H
                have e2 := am fq
                clear fq
                obtain ⟨cH, cY⟩ : ∃ y_ : List (S104), y_ = (aK ++ [(⟨bU, b0, wrap64 (ba), bo, cE⟩ : S104)]) := ⟨_, rfl⟩
                replace H : (qAd.l3 bF l0 (wrap64 (ak - 1)) aN cr ct aU aH aJ cH) = some (r1, r2, r3, r4, r5) := by (rw [cY]; with_reducible exact H)
                have e5 := am cY
                clear cY
                have H' := am H
                clear H
                try go_wp2
                have n_ := a2 (Kd.R_drew aA.o) (a2 (Kd.S_drew aD.o) (a2 (Kd.R_drew aI.o) (a2 (qCb aE.o) (a2 (qCb aC.o) (a2 (qAm.drew aG.o) (am (qAX HB.o)))))))
                clear aA aD aI aE aC aG HB
                obtain ⟨aA, aD, aI, aE, aC, aG, HB⟩ := n_
                refine qEG (n := 18) (S := fun w' => w'.cell? ⟨aT, 0, none⟩ = some (.string aU) ∧ w'.cell? ⟨aT, 1, none⟩ = some (aW) ∧ w'.cell? ⟨aT, 2, none⟩ = some (aX) ∧ w'.cell? ⟨aT, 3, none⟩ = some (ab)) (ds := [17]) #[false, false, false, false, false, false, false, false, false, false, false, false, false, false, false, false, false, false] (by kernel_rfl) rfl rfl ⟨(qAa aC.o 0).trans rfl, (qAa aC.o 1).trans rfl, (qAa aC.o 2).trans rfl, (qAa aC.o 3).trans rfl⟩ (fun hHeld => ?_); refine qCD qAd.tab22 qAd.bits22 (fun HT_ HW_ => ?_)
                generalize wc.drew = h5 at aA aD aI aE aC aG HB hHeld ⊢
                refine pu 0 93 #[true, false, false, false, false, false, false, false, false, false, false, false, false, false, false, false, false, false] (qBl HT_.o (by kernel_rfl)) ?_
                refine pu 2 95 #[true, false, true, false, false, false, false, false, false, false, false, false, false, false, false, false, false, false] (qBl HT_.o (by kernel_rfl)) ?_
                refine pu 4 97 #[true, false, true, false, true, false, false, false, false, false, false, false, false, false, false, false, false, false] (qBl HT_.o (by kernel_rfl)) ?_
                refine pu 6 99 #[true, false, true, false, true, false, true, false, false, false, false, false, false, false, false, false, false, false] (qBl HT_.o (by kernel_rfl)) ?_
                refine pu 9 102 #[true, false, true, false, true, false, true, false, false, true, false, false, false, false, false, false, false, false] (qBl HT_.o (by kernel_rfl)) ?_
                refine pu 11 104 #[true, false, true, false, true, false, true, false, false, true, false, true, false, false, false, false, false, false] (qBl HT_.o (by kernel_rfl)) ?_
                refine take_ (i := 1) (N := some 94) (v := ?_) (a' := ?_) #[true, true, true, false, true, false, true, false, false, true, false, true, false, false, false, false, false, false] rfl rfl (qCi HT_.o HW_.o (by kernel_rfl)) (fun _ _ _ h => h) (Or.inl ⟨by rfl, ?_⟩) hHeld ?_ ?_
                rotate_left
                ·rintro w' ⟨s0, s1, s2, s3⟩
                 go_simp
                 with_reducible rfl
                rotate_left
                ·simp only [Act.put, List.setIfInBounds_toArray, List.set_cons_zero, List.set_cons_succ]
                 rfl
                refine one_ (i := 3) (N := some 96) #[true, true, true, true, true, false, true, false, false, true, false, true, false, false, false, false, false, false] rfl rfl (qBM HT_.o (by kernel_rfl)) (by decide) (fun K hK => ?_)
                refine qE1 Tryz.func63 (by kernel_rfl) rfl #[.pointer (some ⟨aY, 0, none⟩)] (by rfl) rfl rfl (by (try simp only [List.map_toArray, List.map_cons, List.map_nil]); (rfl)) ?_
                with_reducible refine (qAU.calls aY aN a5 a6 bU df dg w _ ?side1 ?side2 gr.o).mono ?_
                (case side1 => exact aG.o)
                (case side2 => exact HB.o)
                rintro e h6 ⟨rfl, hi, hb, hk⟩
                refine ⟨_, rfl, ?_⟩
                have n_ := a2 (Kd.R_kp (qAm.apart aG.o aA.o (by decide)) hk) (a2 (Kd.S_mono (Kd.S_keep (qAm.apartS aG.o aD.o (by decide)) hk (fun _ h => h.2)) (fun _ h => h.1)) (a2 (Kd.R_kp (qAm.apart aG.o aI.o (by decide)) hk) (a2 (qAg.blk hk aE.o aQ.o (by simp)) (a2 (qAg.blk hk aC.o aV.o (by simp)) (a2 (hb) (am (hi)))))))
                clear aA aD aI aE aC HB aG
                obtain ⟨aA, aD, aI, aE, aC, HB, aG⟩ := n_
                (try clear hb)
                (skip)
                (try clear hk)
                (try clear hi)
                refine hK.o _ _ ⟨(qAa aC.o 0).trans rfl, (qAa aC.o 1).trans rfl, (qAa aC.o 2).trans rfl, (qAa aC.o 3).trans rfl⟩ (fun hHeld => ?_)
                clear hK K
                refine qCR (a' := ?_) ?_ ?_
                rotate_left
                ·show Act.put _ (some 96) _ = _
                 simp only [Act.put, List.setIfInBounds_toArray, List.set_cons_zero, List.set_cons_succ]
                 rfl
                refine one_ (i := 5) (N := some 98) #[true, true, true, true, true, true, true, false, false, true, false, true, false, false, false, false, false, false] rfl rfl (qBM HT_.o (by kernel_rfl)) (by decide) (fun K hK => ?_)
                refine qE1 Tryz.func63 (by kernel_rfl) rfl #[.pointer (some ⟨aY, 0, none⟩)] (by rfl) rfl rfl (by (try simp only [List.map_toArray, List.map_cons, List.map_nil]); (rfl)) ?_
                with_reducible refine (qAU.calls aY aN df dg b0 dh di w _ ?side1 ?side2 gs.o).mono ?_
                (case side1 => exact aG.o)
                (case side2 => exact HB.o)
                rintro e h7 ⟨rfl, hi, hb, hk⟩
                refine ⟨_, rfl, ?_⟩
                have n_ := a2 (Kd.R_kp (qAm.apart aG.o aA.o (by decide)) hk) (a2 (Kd.S_mono (Kd.S_keep (qAm.apartS aG.o aD.o (by decide)) hk (fun _ h => h.2)) (fun _ h => h.1)) (a2 (Kd.R_kp (qAm.apart aG.o aI.o (by decide)) hk) (a2 (qAg.blk hk aE.o aQ.o (by simp)) (a2 (qAg.blk hk aC.o aV.o (by simp)) (a2 (hb) (am (hi)))))))
                clear aA aD aI aE aC HB aG
                obtain ⟨aA, aD, aI, aE, aC, HB, aG⟩ := n_
                (try clear hb)
                (skip)
                (try clear hk)
                (try clear hi)
                refine hK.o _ _ ⟨(qAa aC.o 0).trans rfl, (qAa aC.o 1).trans rfl, (qAa aC.o 2).trans rfl, (qAa aC.o 3).trans rfl⟩ (fun hHeld => ?_)
                clear hK K
                refine qCR (a' := ?_) ?_ ?_
                rotate_left
                ·show Act.put _ (some 98) _ = _
                 simp only [Act.put, List.setIfInBounds_toArray, List.set_cons_zero, List.set_cons_succ]
                 rfl
                refine one_ (i := 7) (N := some 100) #[true, true, true, true, true, true, true, true, false, true, false, true, false, false, false, false, false, false] rfl rfl (qBM HT_.o (by kernel_rfl)) (by decide) (fun K hK => ?_)
                refine qE1 Tryz.func56 (by kernel_rfl) rfl #[.pointer (some ⟨aY, 0, none⟩)] (by rfl) rfl rfl (by (try simp only [List.map_toArray, List.map_cons, List.map_nil]); (rfl)) ?_
                with_reducible refine (qAu.calls aY aN dh di ba dj dk w _ ?side1 ?side2 gt.o).mono ?_
                (case side1 => exact aG.o)
                (case side2 => exact HB.o)
                rintro e h8 ⟨rfl, hi, hb, hk⟩
                refine ⟨_, rfl, ?_⟩
                have n_ := a2 (Kd.R_kp (qAm.apart aG.o aA.o (by decide)) hk) (a2 (Kd.S_mono (Kd.S_keep (qAm.apartS aG.o aD.o (by decide)) hk (fun _ h => h.2)) (fun _ h => h.1)) (a2 (Kd.R_kp (qAm.apart aG.o aI.o (by decide)) hk) (a2 (qAg.blk hk aE.o aQ.o (by simp)) (a2 (qAg.blk hk aC.o aV.o (by simp)) (a2 (hb) (am (hi)))))))
                clear aA aD aI aE aC HB aG
                obtain ⟨aA, aD, aI, aE, aC, HB, aG⟩ := n_
                (try clear hb)
                (skip)
                (try clear hk)
                (try clear hi)
                refine hK.o _ _ ⟨(qAa aC.o 0).trans rfl, (qAa aC.o 1).trans rfl, (qAa aC.o 2).trans rfl, (qAa aC.o 3).trans rfl⟩ (fun hHeld => ?_)
                clear hK K
                refine qCR (a' := ?_) ?_ ?_
                rotate_left
                ·show Act.put _ (some 100) _ = _
                 simp only [Act.put, List.setIfInBounds_toArray, List.set_cons_zero, List.set_cons_succ]
                 rfl
                refine pure_ (i := 8) (N := some 101) (v := ?_) (a' := ?_) #[true, true, true, true, true, true, true, true, true, true, false, true, false, false, false, false, false, false] rfl rfl (qBl HT_.o (by kernel_rfl)) (fun _ _ _ h => h) (Or.inl ⟨by rfl, ?_⟩) ?_ ?_
                rotate_left
                ·intro w'
                 go_simp
                 with_reducible rfl
                rotate_left
                ·simp only [Act.put, List.setIfInBounds_toArray, List.set_cons_zero, List.set_cons_succ, i64_w]
                 rfl
                refine one_ (i := 10) (N := some 103) #[true, true, true, true, true, true, true, true, true, true, true, true, false, false, false, false, false, false] rfl rfl (qBM HT_.o (by kernel_rfl)) (by decide) (fun K hK => ?_)
                refine qE1 Tryz.func58 (by kernel_rfl) rfl #[.pointer (some ⟨aY, 0, none⟩), .int .i64 32] (by rfl) rfl rfl (by (try simp only [List.map_toArray, List.map_cons, List.map_nil]); (rfl)) ?_
                with_reducible refine (qAA.calls aY aN dj dk 32 bo dl dm w _ ?side1 ?side2 gu.o).mono ?_
                (case side1 => exact aG.o)
                (case side2 => exact HB.o)
                rintro e h9 ⟨rfl, hi, hb, hk⟩
                refine ⟨_, rfl, ?_⟩
                have n_ := a2 (Kd.R_kp (qAm.apart aG.o aA.o (by decide)) hk) (a2 (Kd.S_mono (Kd.S_keep (qAm.apartS aG.o aD.o (by decide)) hk (fun _ h => h.2)) (fun _ h => h.1)) (a2 (Kd.R_kp (qAm.apart aG.o aI.o (by decide)) hk) (a2 (qAg.blk hk aE.o aQ.o (by simp)) (a2 (qAg.blk hk aC.o aV.o (by simp)) (a2 (hb) (am (hi)))))))
                clear aA aD aI aE aC HB aG
                obtain ⟨aA, aD, aI, aE, aC, HB, aG⟩ := n_
                (try clear hb)
                (skip)
                (try clear hk)
                (try clear hi)
                refine hK.o _ _ ⟨(qAa aC.o 0).trans rfl, (qAa aC.o 1).trans rfl, (qAa aC.o 2).trans rfl, (qAa aC.o 3).trans rfl⟩ (fun hHeld => ?_)
                clear hK K
                refine qCR (a' := ?_) ?_ ?_
                rotate_left
                ·show Act.put _ (some 103) _ = _
                 simp only [Act.put, List.setIfInBounds_toArray, List.set_cons_zero, List.set_cons_succ]
                 rfl
                refine one_ (i := 12) (N := some 105) #[true, true, true, true, true, true, true, true, true, true, true, true, true, false, false, false, false, false] rfl rfl (qBM HT_.o (by kernel_rfl)) (by decide) (fun K hK => ?_)
                refine qE1 Tryz.func58 (by kernel_rfl) rfl #[.pointer (some ⟨aY, 0, none⟩), .int .i64 32] (by rfl) rfl rfl (by (try simp only [List.map_toArray, List.map_cons, List.map_nil]); (rfl)) ?_
                with_reducible refine (qAA.calls aY aN dl dm 32 cE cr ct w _ ?side1 ?side2 gv.o).mono ?_
                (case side1 => exact aG.o)
                (case side2 => exact HB.o)
                rintro e ha ⟨rfl, hi, hb, hk⟩
                refine ⟨_, rfl, ?_⟩
                have n_ := a2 (Kd.R_kp (qAm.apart aG.o aA.o (by decide)) hk) (a2 (Kd.S_mono (Kd.S_keep (qAm.apartS aG.o aD.o (by decide)) hk (fun _ h => h.2)) (fun _ h => h.1)) (a2 (Kd.R_kp (qAm.apart aG.o aI.o (by decide)) hk) (a2 (qAg.blk hk aE.o aQ.o (by simp)) (a2 (qAg.blk hk aC.o aV.o (by simp)) (a2 (hb) (am (hi)))))))
                clear aA aD aI aE aC HB aG
                obtain ⟨aA, aD, aI, aE, aC, HB, aG⟩ := n_
                (try clear hb)
                (skip)
                (try clear hk)
                (try clear hi)
                refine hK.o _ _ ⟨(qAa aC.o 0).trans rfl, (qAa aC.o 1).trans rfl, (qAa aC.o 2).trans rfl, (qAa aC.o 3).trans rfl⟩ (fun hHeld => ?_)
                clear hK K
                refine qCR (a' := ?_) ?_ ?_
                rotate_left
                ·show Act.put _ (some 105) _ = _
                 simp only [Act.put, List.setIfInBounds_toArray, List.set_cons_zero, List.set_cons_succ]
                 rfl
                refine pu 13 106 #[true, true, true, true, true, true, true, true, true, true, true, true, true, true, false, false, false, false] (qBl HT_.o (by kernel_rfl)) ?_
                refine one_ (i := 14) (N := some 107) #[true, true, true, true, true, true, true, true, true, true, true, true, true, true, true, false, false, false] rfl rfl (qBM HT_.o (by kernel_rfl)) (by decide) (fun K hK => ?_)
                refine value_ (w1 := ?_) (v := ?_) (by rfl) rfl ?_ ?_
                rotate_left 2
                ·go_simp
                 constructor
                 ·rfl
                 rfl
                refine hK.o _ _ ⟨(qAa (qBp aC.o _) 0).trans rfl, (qAa (qBp aC.o _) 1).trans rfl, (qAa (qBp aC.o _) 2).trans rfl, (qAa (qBp aC.o _) 3).trans rfl⟩ (fun hHeld => ?_)
                clear hK K
                refine qCR (a' := ?_) ?_ ?_
                rotate_left
                ·show Act.put _ (some 107) _ = _
                 simp only [Act.put, List.setIfInBounds_toArray, List.set_cons_zero, List.set_cons_succ]
                 rfl
                refine one_ (i := 15) (N := some 108) #[true, true, true, true, true, true, true, true, true, true, true, true, true, true, true, true, false, false] rfl rfl (qBM HT_.o (by kernel_rfl)) (by decide) (fun K hK => ?_)
                refine Kd.R_append_step k104 (w0 := w) w.heap.size (by rfl) (.tmp 94) (.tmp 107) 31 104 (.agg #[(.int .i64 0), (.int .i64 0), (.int .i64 0), (.string ⟨#[]⟩), (.string ⟨#[]⟩)]) 56 rfl Tryz.underlying31 info104 rfl (by decide) (by omega) ab aK (⟨bU, b0, wrap64 (ba), bo, cE⟩ : S104) [.int .i64 bU, .int .i64 b0, .int .i64 (wrap64 (ba)), .string bo, .string cE] (fun _ => True) (fun _ => False) rfl rfl ?aP (fun _ hk => hk.elim) ?aF ?aO ?aB ?aS ?aL ?_
                (case aP => exact k104_mkM _ _ _ (⟨bU, b0, wrap64 (ba), bo, cE⟩ : S104))
                (case aB => exact HB.o)
                (case aF => exact (fun _ _ => trivial))
                (case aO => exact aI.o)
                (case aS => exact (qA5 HB.o))
                (case aL => have := e2.o; omega)
                intro hE hc ho hb hg ew
                rw [← e5.o] at ho
                have n_ := a2 (Kd.R_over' aA.o (Kd.R_typed aI.o) (by decide) hg) (a2 (Kd.S_over' aD.o (Kd.R_typed aI.o) (by decide) hg) (a2 (qBr (g := aR) (o := .cells #[.string ⟨#[]⟩, .slice none 0 0, .slice none 0 0, .slice none 0 0] 33 (0, 0)) aE.o hg (Kd.R_ne aI.o aE.o (by decide))) (a2 (qBr (g := aT) (o := .cells #[.string aU, aW, aX, ab] 33 (0, 0)) aC.o hg (Kd.R_ne aI.o aC.o (by decide))) (a2 (qAm.grownR aG.o hg aG.o aI.o (by decide) (fun b_ t_ h_ => h_)) (a2 (hb) (am (ho)))))))
                clear aA aD aE aC aG HB aI
                obtain ⟨aA, aD, aE, aC, aG, HB, dC⟩ := n_
                clear ho hb hg ew
                obtain ⟨c1, ca, gP⟩ := Kd.R_slice dC.o
                (subst gP)
                refine hK.o _ _ ⟨(qAa aC.o 0).trans rfl, (qAa aC.o 1).trans rfl, (qAa aC.o 2).trans rfl, (qAa aC.o 3).trans rfl⟩ (fun hHeld => ?_)
                clear hK K
                refine qCR (a' := ?_) ?_ ?_
                rotate_left
                ·show Act.put _ (some 108) _ = _
                 simp only [Act.put, List.setIfInBounds_toArray, List.set_cons_zero, List.set_cons_succ]
                 rfl
                refine pu 16 109 #[true, true, true, true, true, true, true, true, true, true, true, true, true, true, true, true, true, false] (qBl HT_.o (by kernel_rfl)) ?_
                refine last_ (i := 17) (N := none) #[true, true, true, true, true, true, true, true, true, true, true, true, true, true, true, true, true, true] rfl rfl (qBM HT_.o (by kernel_rfl)) (by decide) (fun K hK => ?_)
                have hfs84 := qAb aC.o 3
                refine skip_ (w1 := ?_) (by rfl) rfl ?_ ?_
                rotate_left
                ·go_simp
                 rfl
                refine hK.o _ _ ?_
                clear hK K
                refine done_ (qD5 HT_.o (by kernel_rfl)) ?_
                try go_wp2
                go_roundg bF
                case measure => have := bc.o; have := cI.o; have := bR.o; have := cz.o; have := bw.o; have := fi.o; have := eY.o; omega
                case rel => exact ⟨(wrap64 (ak - 1)), (cr), (ct), (cH), (.slice c1 cH.length ca), (by rfl), H', ⟨by have := bc.o; have := cI.o; have := bR.o; have := cz.o; have := bw.o; have := fi.o; have := eY.o; omega⟩, ⟨by exact Kd.R_mono (Kd.R_far (p := ⟨aT, 3, none⟩) (Kd.R_types aA.o aC.o (by decide)) (fun _ hk => hk.2) (.slice c1 cH.length ca)) (fun _ hk => trivial)⟩, ⟨by exact Kd.S_mono (Kd.S_far (p := ⟨aT, 3, none⟩) (Kd.S_types aD.o aC.o (by decide)) (fun _ hk => hk.2) (.slice c1 cH.length ca)) (fun _ hk => trivial)⟩, ⟨by exact Kd.R_mono (Kd.R_far (p := ⟨aT, 3, none⟩) (Kd.R_types dC.o aC.o (by decide)) (fun _ hk => hk.2) (.slice c1 cH.length ca)) (fun _ hk => trivial)⟩, ⟨by refine qAz ?_ aj.o _; exact aE.o⟩, ⟨by refine qAx (cs := #[.string aU, aW, aX, ab]) ?_ 3 _ rfl; exact aC.o⟩, ⟨by repeat (with_reducible first | exact aG.o | refine qAm.far ?_ bC.o (by exact TyB.of aC.o) (by decide) _)⟩, ⟨by repeat (with_reducible first | exact HB.o | refine qAs ?_ bq.o)⟩⟩
def alive0.f (k : Nat)  : Option (Bool) := (qBw.f (⟨#[109]⟩ : ByteArray) ([(⟨(⟨#[118]⟩ : ByteArray), (⟨1, 1⟩ : S83)⟩ : S85)] : List (S85)) ([] : List (S92)) ([] : List (S104))).bind fun aG => ((qAd.f k aG.1).bind fun aB => (if aG.2 = 0 then (if aB.2.2.2.2 = 0 then (if (aG.1.length : Int) = 35 then (if 4 ≤ (aG.1.length : Int) then (if (strOfNums (aG.1.take 4)).toList = ([102, 111, 98, 106] : List UInt8) then (if aB.1.toList = ([109] : List UInt8) then (if (aB.2.1.length : Int) = 1 then (if 0 < (aB.2.1.length : Int) then (some (((qBd aB.2.1 0).f1.f1) == 1)) else (none)) else (some false)) else (some false)) else (some false)) else (none)) else (some false)) else (some false)) else (some false)))
theorem alive0.calls (k : Nat)  (r : Bool) (w : World) (h : alive0.f k  = some r) (hr : r = true) :
  Calls Tryz.prog 12 #[] w fun e w' => e = .returned (.bool r) ∧ Below w.heap.size w w' := by
 have HB := am (Below.refl w.heap.size w)
 have H : ((qBw.f (⟨#[109]⟩ : ByteArray) ([(⟨(⟨#[118]⟩ : ByteArray), (⟨1, 1⟩ : S83)⟩ : S85)] : List (S85)) ([] : List (S92)) ([] : List (S104))).bind fun aG => ((qAd.f k aG.1).bind fun aB => (if aG.2 = 0 then (if aB.2.2.2.2 = 0 then (if (aG.1.length : Int) = 35 then (if 4 ≤ (aG.1.length : Int) then (if (strOfNums (aG.1.take 4)).toList = ([102, 111, 98, 106] : List UInt8) then (if aB.1.toList = ([109] : List UInt8) then (if (aB.2.1.length : Int) = 1 then (if 0 < (aB.2.1.length : Int) then (some (((qBd aB.2.1 0).f1.f1) == 1)) else (none)) else (some false)) else (some false)) else (some false)) else (none)) else (some false)) else (some false)) else (some false)))) = some r := h
 clear h
 obtain ⟨aM, a7⟩ : ∃ y_ : List (S85), y_ = ([(⟨(⟨#[118]⟩ : ByteArray), (⟨1, 1⟩ : S83)⟩ : S85)] : List (S85)) := ⟨_, rfl⟩
 replace H : ((qBw.f (⟨#[109]⟩ : ByteArray) aM ([] : List (S92)) ([] : List (S104))).bind fun aG => ((qAd.f k aG.1).bind fun aB => (if aG.2 = 0 then (if aB.2.2.2.2 = 0 then (if (aG.1.length : Int) = 35 then (if 4 ≤ (aG.1.length : Int) then (if (strOfNums (aG.1.take 4)).toList = ([102, 111, 98, 106] : List UInt8) then (if aB.1.toList = ([109] : List UInt8) then (if (aB.2.1.length : Int) = 1 then (if 0 < (aB.2.1.length : Int) then (some (((qBd aB.2.1 0).f1.f1) == 1)) else (none)) else (some false)) else (some false)) else (some false)) else (none)) else (some false)) else (some false)) else (some false)))) = some r := by (rw [a7]; with_reducible exact H)
 have aj := am a7
 clear a7
 replace H := bm H
 obtain ⟨⟨aI, a4⟩, bP, H⟩ := H
 replace H : ((qAd.f k aI).bind fun aB => (if a4 = 0 then (if aB.2.2.2.2 = 0 then (if (aI.length : Int) = 35 then (if 4 ≤ (aI.length : Int) then (if (strOfNums (aI.take 4)).toList = ([102, 111, 98, 106] : List UInt8) then (if aB.1.toList = ([109] : List UInt8) then (if (aB.2.1.length : Int) = 1 then (if 0 < (aB.2.1.length : Int) then (some (((qBd aB.2.1 0).f1.f1) == 1)) else (none)) else (some false)) else (some false)) else (some false)) else (none)) else (some false)) else (some false)) else (some false))) = some r := H
 have A1 := am bP
 clear bP
 replace H := bm H
 obtain ⟨⟨aK, aF, aQ, aS, a9⟩, bQ, H⟩ := H
 replace H : (if a4 = 0 then (if a9 = 0 then (if (aI.length : Int) = 35 then (if 4 ≤ (aI.length : Int) then (if (strOfNums (aI.take 4)).toList = ([102, 111, 98, 106] : List UInt8) then (if aK.toList = ([109] : List UInt8) then (if (aF.length : Int) = 1 then (if 0 < (aF.length : Int) then (some (((qBd aF 0).f1.f1) == 1)) else (none)) else (some false)) else (some false)) else (some false)) else (none)) else (some false)) else (some false)) else (some false)) = some r := H
 have A2 := am bQ
 clear bQ
 by_cases c3 : a4 = 0
 ·rw [if_pos c3] at H
  have bV : (a4 == 0) = true := beq_iff_eq.mpr c3
  have bW : (a4 != 0) = false := bn c3
  clear c3
  by_cases c4 : a9 = 0
  ·rw [if_pos c4] at H
   have bX : (a9 == 0) = true := beq_iff_eq.mpr c4
   have bY : (a9 != 0) = false := bn c4
   clear c4
   by_cases c5 : (aI.length : Int) = 35
   ·rw [if_pos c5] at H
    have bZ : ((aI.length : Int) == 35) = true := beq_iff_eq.mpr c5
    have b0 : ((aI.length : Int) != 35) = false := bn c5
    clear c5
    by_cases c6 : 4 ≤ (aI.length : Int)
    ·rw [if_pos c6] at H
     replace c6 := d1 c6
     obtain ⟨aa, a8⟩ : ∃ y_ : List Int, y_ = (aI.take 4) := ⟨_, rfl⟩
     replace H : (if (strOfNums aa).toList = ([102, 111, 98, 106] : List UInt8) then (if aK.toList = ([109] : List UInt8) then (if (aF.length : Int) = 1 then (if 0 < (aF.length : Int) then (some (((qBd aF 0).f1.f1) == 1)) else (none)) else (some false)) else (some false)) else (some false)) = some r := by (rw [a8]; with_reducible exact H)
     have ad := am a8
     clear a8
     by_cases c7 : (strOfNums aa).toList = ([102, 111, 98, 106] : List UInt8)
     ·rw [if_pos c7] at H
      have b2 : ((strOfNums aa).toList == ([102, 111, 98, 106] : List UInt8)) = true := beq_iff_eq.mpr c7
      have b3 : ((strOfNums aa).toList != ([102, 111, 98, 106] : List UInt8)) = false := bn c7
      clear c7
      by_cases c8 : aK.toList = ([109] : List UInt8)
      ·rw [if_pos c8] at H
       have b4 : (aK.toList == ([109] : List UInt8)) = true := beq_iff_eq.mpr c8
       have b5 : (aK.toList != ([109] : List UInt8)) = false := bn c8
       clear c8
       by_cases c9 : (aF.length : Int) = 1
       ·rw [if_pos c9] at H
        have b6 : ((aF.length : Int) == 1) = true := beq_iff_eq.mpr c9
        have b7 : ((aF.length : Int) != 1) = false := bn c9
        clear c9
        by_cases c10 : 0 < (aF.length : Int)
        ·rw [if_pos c10] at H
         replace c10 := d1 c10
         obtain rfl := Option.some.inj H
         go_enter Tryz.func12, Tryz.ntmps12
         go_wp2_with (first | ((with_reducible refine qAO (N := 8) rfl ?_); (try (refine qBJ (by rfl) ?_; dsimp only)); refine Kd.R_lit k85 _ 85 ?hg (N := 8) ?hd (xs := ([(⟨(⟨#[118]⟩ : ByteArray), (⟨1, 1⟩ : S83)⟩ : S85)] : List (S85))) (inner := [.string (⟨#[118]⟩ : ByteArray), .int .i64 1, .int .u64 1]) (ok := fun _ => True) (okp := fun _ => True) ?hr ?hp (fun _ hk => hk) trivial (Below.refl _ _) (Nat.le_refl _) (by simp) ?_; (case hd => rfl); (case hg => rfl); (case hr => (go_simp; done)); (case hp => exact (Reps.c3 (show Kd.M k85 _ _ _ (⟨(⟨#[118]⟩ : ByteArray), (⟨1, 1⟩ : S83)⟩ : S85) [.string (⟨#[118]⟩ : ByteArray), .int .i64 1, .int .u64 1] from (k85_mkM _ _ _ (⟨(⟨#[118]⟩ : ByteArray), (⟨1, 1⟩ : S83)⟩ : S85) )) (Reps.none _ _))); intro b9 bg ho12 hb hg_ hnew_; clear hg_ hnew_; (rw [← aj.o] at ho12); have n_ := a2 (Kd.R_lower ho12 (qA5 HB.o)) (am (qAp HB.o hb)); clear HB; obtain ⟨aD, HB⟩ := n_; clear hb ho12; obtain ⟨aV, aR, bJ⟩ := Kd.R_slice aD.o; subst bJ) | ((with_reducible refine qAO (N := 1) rfl ?_); (try (refine qBJ (by rfl) ?_; dsimp only)); refine bx 1 #[.string ⟨#[]⟩, .slice none 0 0, .slice none 0 0, .slice none 0 0] 33 ?_; intro aH hg bH hbox hb; have n_ := a2 (Kd.R_below aD.o hb) (a2 (qAp HB.o hb) (a2 (hbox) (am (by rw [hg]; exact (qA5 HB.o) : w.heap.size ≤ aH)))); clear aD HB; obtain ⟨aD, HB, aC, ac⟩ := n_; clear hb hbox hg; have an : bH.cell? ⟨aH, 0, none⟩ = some (.string ⟨#[]⟩) := (qAa aC.o 0).trans rfl; have ao : bH.cell? ⟨aH, 1, none⟩ = some (.slice none 0 0) := (qAa aC.o 1).trans rfl; have ap : bH.cell? ⟨aH, 2, none⟩ = some (.slice none 0 0) := (qAa aC.o 2).trans rfl; have aq : bH.cell? ⟨aH, 3, none⟩ = some (.slice none 0 0) := (qAa aC.o 3).trans rfl; have az := qAb aC.o 0; have bA := qAb aC.o 1; have bB := qAb aC.o 2; have bC := qAb aC.o 3) | ((with_reducible refine qAk (f := 13) rfl ?_); refine gL 12 Tryz.func13 #[.agg #[.string (⟨#[109]⟩ : ByteArray), .slice aV aM.length aR, .slice none 0 0, .slice none 0 0]] ?_; (refine (qBw.calls (⟨#[109]⟩ : ByteArray) _ _ aM _ _ ([] : List (S92)) _ _ ([] : List (S104)) aI a4 _ ?side1 ?side2 ?side3 ?side4 ?side5 ?side6 A1.o).mono ?_); (case side1 => refine (Kd.R_reads' (e := 85) (base := w.heap.size) (ok := fun k_ => True) (n := aM.length) (c := aR) ?_).2.2; exact (by exact (Kd.R_mono (Kd.R_far (p := ⟨aH, 3, none⟩) (Kd.R_far (p := ⟨aH, 2, none⟩) (Kd.R_far (p := ⟨aH, 1, none⟩) (Kd.R_far (p := ⟨aH, 0, none⟩) (Kd.R_types aD.o aC.o (by decide)) (fun _ hk => hk.2) (.string (⟨#[109]⟩ : ByteArray))) (fun _ hk => hk.2) (.slice aV aM.length aR)) (fun _ hk => hk.2) (.slice none 0 0)) (fun _ hk => hk.2) (.slice none 0 0)) (fun _ h_ => h_.1)))); (case side2 => exact (Kd.R_reads' aD.o).2.1); (case side3 => exact Kd.C_nil _ _); (case side4 => exact Nat.le_refl _); (case side5 => exact Kd.C_nil _ _); (case side6 => exact Nat.le_refl _); rintro e bh ⟨ba, rfl, ag, hb⟩; refine ⟨_, rfl, ?_⟩; have n_ := a2 (Kd.R_below (by exact (Kd.R_mono (Kd.R_far (p := ⟨aH, 3, none⟩) (Kd.R_far (p := ⟨aH, 2, none⟩) (Kd.R_far (p := ⟨aH, 1, none⟩) (Kd.R_far (p := ⟨aH, 0, none⟩) (Kd.R_types aD.o aC.o (by decide)) (fun _ hk => hk.2) (.string (⟨#[109]⟩ : ByteArray))) (fun _ hk => hk.2) (.slice aV aM.length aR)) (fun _ hk => hk.2) (.slice none 0 0)) (fun _ hk => hk.2) (.slice none 0 0)) (fun _ h_ => h_.1))) hb) (a2 (Kd.R_lower ag (qA5 (by repeat (with_reducible first | exact HB.o | refine qAs ?_ ac.o)))) (a2 (qA4 (g := aH) (o := .cells #[.string (⟨#[109]⟩ : ByteArray), .slice aV aM.length aR, .slice none 0 0, .slice none 0 0] 33 (0, 0)) (by refine qAx (cs := #[.string (⟨#[109]⟩ : ByteArray), .slice aV aM.length aR, .slice none 0 0, .slice none 0 0]) ?_ 3 _ rfl; refine qAx (cs := #[.string (⟨#[109]⟩ : ByteArray), .slice aV aM.length aR, .slice none 0 0, .slice none 0 0]) ?_ 2 _ rfl; refine qAx (cs := #[.string (⟨#[109]⟩ : ByteArray), .slice none 0 0, .slice none 0 0, .slice none 0 0]) ?_ 1 _ rfl; refine qAx (cs := #[.string ⟨#[]⟩, .slice none 0 0, .slice none 0 0, .slice none 0 0]) ?_ 0 _ rfl; exact aC.o) hb) (am (qAp (by repeat (with_reducible first | exact HB.o | refine qAs ?_ ac.o)) hb)))); clear aD aC HB; obtain ⟨aD, aJ, aC, HB⟩ := n_; obtain ⟨a5, a6, bK⟩ := Kd.R_slice aJ.o; subst bK) | ((with_reducible refine qAk (f := 16) rfl ?_); refine gL 17 Tryz.func16 #[.slice a5 aI.length a6] ?_; (with_reducible refine (qAd.calls k _ _ aI aK aF aQ aS a9 _ ?side1 ?side2 A2.o).mono ?_); (case side1 => exact (Kd.R_reads' aJ.o).2.2); (case side2 => exact (Kd.R_reads' aJ.o).2.1); rintro e bi ⟨bb, bc, bd, rfl, ag, bT, bU, hb⟩; refine ⟨_, rfl, ?_⟩; have n_ := a2 (Kd.R_elder' aD.o (Kd.R_base ag) hb) (a2 (Kd.R_below aJ.o hb) (a2 (Kd.R_lower (Kd.R_new' ag (Kd.R_lt aD.o)) (qA5 HB.o)) (a2 (Kd.S_lower bT (qA5 HB.o)) (a2 (Kd.R_lower bU (qA5 HB.o)) (a2 (qA4 aC.o hb) (am (qAp HB.o hb))))))); clear aD aJ aC HB; obtain ⟨aD, aJ, aN, aT, aU, aC, HB⟩ := n_) | ((with_reducible refine qAO (N := 4) rfl ?_); (try (refine qBJ (by rfl) ?_; dsimp only)); refine bx 4 #[.string ⟨#[]⟩, .slice none 0 0, .slice none 0 0, .slice none 0 0] 33 ?_; intro aA hg al hbox hb; have n_ := a2 (Kd.R_below aD.o hb) (a2 (Kd.R_below aJ.o hb) (a2 (Kd.R_below aN.o hb) (a2 (Kd.S_below aT.o hb) (a2 (Kd.R_below aU.o hb) (a2 (qA4 aC.o hb) (a2 (qAp HB.o hb) (a2 (hbox) (a2 (by rw [hg]; exact (qA5 HB.o) : w.heap.size ≤ aA) (am (by rw [hg]; exact Nat.ne_of_lt (qBo aC.o) : aH ≠ aA)))))))))); clear aD aJ aN aT aU aC HB; obtain ⟨aD, aJ, aN, aT, aU, aC, HB, aE, ah, aL⟩ := n_; clear hb hbox hg; have ar : al.cell? ⟨aA, 0, none⟩ = some (.string ⟨#[]⟩) := (qAa aE.o 0).trans rfl; have au : al.cell? ⟨aA, 1, none⟩ = some (.slice none 0 0) := (qAa aE.o 1).trans rfl; have av : al.cell? ⟨aA, 2, none⟩ = some (.slice none 0 0) := (qAa aE.o 2).trans rfl; have aw : al.cell? ⟨aA, 3, none⟩ = some (.slice none 0 0) := (qAa aE.o 3).trans rfl; have bD := qAb aE.o 0; have bE := qAb aE.o 1; have bF := qAb aE.o 2; have bG := qAb aE.o 3; obtain ⟨aO, aP, bL⟩ := Kd.R_slice aN.o; subst bL; obtain ⟨aW, aX, bM⟩ := Kd.S_slice aT.o; subst bM; obtain ⟨a1, a3, bN⟩ := Kd.R_slice aU.o; subst bN) | ((with_reducible refine qE8 (t := 33) (p := 4) rfl ?_); refine qDN (t := 33) (p := 4) (v := ?vo_w25) (w1 := ((((al.setCell ⟨aA, 0, none⟩ (.string aK)).setCell ⟨aA, 1, none⟩ (.slice aO aF.length aP)).setCell ⟨aA, 2, none⟩ (.slice aW aQ.length aX)).setCell ⟨aA, 3, none⟩ (.slice a1 aS.length a3))) ?hg ?ho ?hn ?hr ?_; (case ho => rfl); (case hg => rfl); (case hn => rfl); (case hr => (go_simp; done)); intro ab hw; have n0_ : qAe (Kd.R k85 85 ab w.heap.size (fun k_ => some k_ ≠ (.slice aO aF.length aP : Value).ownBlock) (.slice aV aM.length aR) aM) := ⟨(by rw [hw]; exact (by exact Kd.R_mono (Kd.R_far (p := ⟨aA, 3, none⟩) (Kd.R_far (p := ⟨aA, 2, none⟩) (Kd.R_far (p := ⟨aA, 1, none⟩) (Kd.R_far (p := ⟨aA, 0, none⟩) (Kd.R_types aD.o aE.o (by decide)) (fun _ hk => hk.2) (.string aK)) (fun _ hk => hk.2) (.slice aO aF.length aP)) (fun _ hk => hk.2) (.slice aW aQ.length aX)) (fun _ hk => hk.2) (.slice a1 aS.length a3)) (fun _ hk => hk.1.2)))⟩; have n1_ : qAe (Kd.R (Kd.int .u8) 5 ab w.heap.size (fun _ => True) (.slice a5 aI.length a6) aI) := ⟨(by rw [hw]; exact (by exact Kd.R_mono (Kd.R_far (p := ⟨aA, 3, none⟩) (Kd.R_far (p := ⟨aA, 2, none⟩) (Kd.R_far (p := ⟨aA, 1, none⟩) (Kd.R_far (p := ⟨aA, 0, none⟩) (Kd.R_types aJ.o aE.o (by decide)) (fun _ hk => hk.2) (.string aK)) (fun _ hk => hk.2) (.slice aO aF.length aP)) (fun _ hk => hk.2) (.slice aW aQ.length aX)) (fun _ hk => hk.2) (.slice a1 aS.length a3)) (fun _ hk => trivial)))⟩; have n2_ : qAe (Kd.R k85 85 ab w.heap.size (fun k_ => some k_ ≠ (.slice aV aM.length aR : Value).ownBlock) (.slice aO aF.length aP) aF) := ⟨(by rw [hw]; exact (by exact Kd.R_mono (Kd.R_far (p := ⟨aA, 3, none⟩) (Kd.R_far (p := ⟨aA, 2, none⟩) (Kd.R_far (p := ⟨aA, 1, none⟩) (Kd.R_far (p := ⟨aA, 0, none⟩) (Kd.R_types aN.o aE.o (by decide)) (fun _ hk => hk.2) (.string aK)) (fun _ hk => hk.2) (.slice aO aF.length aP)) (fun _ hk => hk.2) (.slice aW aQ.length aX)) (fun _ hk => hk.2) (.slice a1 aS.length a3)) (fun _ hk => hk.1.2)))⟩; have n3_ : qAe (Kd.S k92 92 ab w.heap.size (fun _ => True) (.slice aW aQ.length aX) aQ) := ⟨(by rw [hw]; exact (by exact Kd.S_mono (Kd.S_far (p := ⟨aA, 3, none⟩) (Kd.S_far (p := ⟨aA, 2, none⟩) (Kd.S_far (p := ⟨aA, 1, none⟩) (Kd.S_far (p := ⟨aA, 0, none⟩) (Kd.S_types aT.o aE.o (by decide)) (fun _ hk => hk.2) (.string aK)) (fun _ hk => hk.2) (.slice aO aF.length aP)) (fun _ hk => hk.2) (.slice aW aQ.length aX)) (fun _ hk => hk.2) (.slice a1 aS.length a3)) (fun _ hk => trivial)))⟩; have n4_ : qAe (Kd.R k104 104 ab w.heap.size (fun _ => True) (.slice a1 aS.length a3) aS) := ⟨(by rw [hw]; exact (by exact Kd.R_mono (Kd.R_far (p := ⟨aA, 3, none⟩) (Kd.R_far (p := ⟨aA, 2, none⟩) (Kd.R_far (p := ⟨aA, 1, none⟩) (Kd.R_far (p := ⟨aA, 0, none⟩) (Kd.R_types aU.o aE.o (by decide)) (fun _ hk => hk.2) (.string aK)) (fun _ hk => hk.2) (.slice aO aF.length aP)) (fun _ hk => hk.2) (.slice aW aQ.length aX)) (fun _ hk => hk.2) (.slice a1 aS.length a3)) (fun _ hk => trivial)))⟩; have n5_ : qAe (ab.heap[aH]? = some (.cells #[.string (⟨#[109]⟩ : ByteArray), .slice aV aM.length aR, .slice none 0 0, .slice none 0 0] 33 (0, 0))) := ⟨(by rw [hw]; exact (by refine qAz ?_ aL.o _; refine qAz ?_ aL.o _; refine qAz ?_ aL.o _; refine qAz ?_ aL.o _; exact aC.o))⟩; have n6_ : qAe (ab.heap[aA]? = some (.cells #[.string aK, .slice aO aF.length aP, .slice aW aQ.length aX, .slice a1 aS.length a3] 33 (0, 0))) := ⟨(by rw [hw]; exact (by refine qAx (cs := #[.string aK, .slice aO aF.length aP, .slice aW aQ.length aX, .slice none 0 0]) ?_ 3 _ rfl; refine qAx (cs := #[.string aK, .slice aO aF.length aP, .slice none 0 0, .slice none 0 0]) ?_ 2 _ rfl; refine qAx (cs := #[.string aK, .slice none 0 0, .slice none 0 0, .slice none 0 0]) ?_ 1 _ rfl; refine qAx (cs := #[.string ⟨#[]⟩, .slice none 0 0, .slice none 0 0, .slice none 0 0]) ?_ 0 _ rfl; exact aE.o))⟩; have n7_ : qAe (Below w.heap.size w ab) := ⟨(by rw [hw]; exact (by repeat (with_reducible first | exact HB.o | refine qAs ?_ ah.o)))⟩; clear hw; clear aD; clear aJ; clear aN; clear aT; clear aU; clear aC; clear aE; clear HB; have aD := n0_; have aJ := n1_; have aN := n2_; have aE := n6_; have HB := n7_; clear n0_ n1_ n2_ n3_ n4_ n5_ n6_ n7_; have b8 : (4 : Int) ≤ ((aI.length : Int) : Int) := od (by assumption); obtain ⟨i026, ae, _, hsz26, _⟩ := info_parts info5; have hroom26 : aI.length ≤ a6 := (Kd.R_reads' aJ.o).2.1; have hC26 : Kd.C (Kd.int .u8) _ a5 aI.length aI := (Kd.R_reads' aJ.o).2.2; have hcut26 := cut_to (P := Tryz.prog) 38 5 .i64 Tryz.underlying38 ae a5 aI.length a6 4 (by omega) b8 hroom26; have hr26 := Kd.C_take (m := 4) hC26 (by omega); have ak : aa.length = (4 : Int).toNat := (by rw [ad.o, List.length_take]; omega); rw [← ad.o] at hr26; rw [← ak] at hcut26; have ai := am hr26; clear hr26 hC26 hroom26 ae hsz26; clear ak; have hcv27 := Kd.C_string (P := Tryz.prog) (A := a5) (c := a6) Tryz.underlying38 Tryz.underlying5 Tryz.underlying9 (by repeat (with_reducible exact ai.o)); have ax : ab.cell? ⟨aA, 0, none⟩ = some (.string aK) := (qAa aE.o 0).trans rfl; have ay : ab.cell? ⟨aA, 1, none⟩ = some (.slice aO aF.length aP) := (qAa aE.o 1).trans rfl; have bO : 0 ≤ (0 : Int) := (by omega); have af : 0 < (aF.length : Int) := od (by assumption); obtain ⟨bR, bI, aY, aZ, a0⟩ := at_T85 (Kd.R_reads' aN.o).2.2 0 bO af; cases bI; have qi309 : (0 < aF.length) = True := eq_true (by omega); (try rw [show (0 : Int).toNat = 0 from rfl] at aY); (try rw [show 0 * 3 = 0 from rfl] at aY); (try rw [Addr.add_zero'] at aY); (try rw [show (0 : Int).toNat = 0 from rfl] at aZ); (try rw [show 0 * 3 = 0 from rfl] at aZ); (try rw [Addr.add_zero'] at aZ); (try rw [show (0 : Int).toNat = 0 from rfl] at a0); (try rw [show 0 * 3 = 0 from rfl] at a0); (try rw [Addr.add_zero'] at a0); replace af := eq_true af))
         go_ret
         exact ⟨by rfl, by exact HB.o⟩
        ·rw [if_neg c10] at H
         exact absurd H (by simp)
       ·rw [if_neg c9] at H
        subst hr
        exact absurd H (by simp)
      ·rw [if_neg c8] at H
       subst hr
       exact absurd H (by simp)
     ·rw [if_neg c7] at H
      subst hr
      exact absurd H (by simp)
    ·rw [if_neg c6] at H
     exact absurd H (by simp)
   ·rw [if_neg c5] at H
    subst hr
    exact absurd H (by simp)
  ·rw [if_neg c4] at H
   subst hr
   exact absurd H (by simp)
 ·rw [if_neg c3] at H
  subst hr
  exact absurd H (by simp)
def qBb.f (k : Nat) : Option Bool := if alive0.f k = some true then some true else none
theorem qBb.calls (k : Nat) (r : Bool) (w : World) (h : qBb.f k = some r) :
  Calls Tryz.prog 12 #[] w fun e w' => e = .returned (.bool r) ∧ Below w.heap.size w w' := by
 unfold qBb.f at h
 split at h
 ·rename_i h0
  obtain rfl := Option.some.inj h
  exact alive0.calls k _ w h0 rfl
 ·cases h
end Q
end
section
namespace RIns
open Go.RowKit Base Val Tbl Ins
def widR (op : Int) : Int := if op = 2 ∨ op = 3 ∨ op = 6 ∨ op = 7 then 1 else if op = 4 ∨ op = 5 ∨ op = 8 ∨ op = 9 ∨ op = 10 ∨ op = 15 then 2 else 0
theorem width_1 (op : Int) (h : op = 2 ∨ op = 3 ∨ op = 6 ∨ op = 7) (w : World) : Calls Tryz.prog 152 #[.int .i64 op] w fun e w' => e = .returned (.int .i64 1) ∧ w' = w := by
 rcases h with rfl | rfl | rfl | rfl
 all_goals (go_enter Tryz.func152, Tryz.ntmps152; go_wp2; go_ret; exact ⟨rfl, rfl⟩)
theorem width_2 (op : Int) (h : op = 4 ∨ op = 5 ∨ op = 8 ∨ op = 9 ∨ op = 10 ∨ op = 15) (w : World) : Calls Tryz.prog 152 #[.int .i64 op] w fun e w' => e = .returned (.int .i64 2) ∧ w' = w := by
 rcases h with rfl | rfl | rfl | rfl | rfl | rfl
 all_goals (go_enter Tryz.func152, Tryz.ntmps152; go_wp2; go_ret; exact ⟨rfl, rfl⟩)
theorem width_0 (op : Int) (h2 : (op == 2) = false) (h3 : (op == 3) = false) (h6 : (op == 6) = false) (h7 : (op == 7) = false) (h4 : (op == 4) = false) (h5 : (op == 5) = false) (h8 : (op == 8) = false) (h9 : (op == 9) = false) (h10 : (op == 10) = false) (h15 : (op == 15) = false) (w : World) : Calls Tryz.prog 152 #[.int .i64 op] w fun e w' => e = .returned (.int .i64 0) ∧ w' = w := by
 go_enter Tryz.func152, Tryz.ntmps152
 go_wp2
 go_ret
 exact ⟨rfl, rfl⟩
theorem qDj (op : Int) (w : World) : Calls Tryz.prog 152 #[.int .i64 op] w fun e w' => e = .returned (.int .i64 (widR op)) ∧ w' = w := by
 unfold widR
 by_cases h1 : op = 2 ∨ op = 3 ∨ op = 6 ∨ op = 7
 ·rw [if_pos h1]; exact width_1 op h1 w
 by_cases h2 : op = 4 ∨ op = 5 ∨ op = 8 ∨ op = 9 ∨ op = 10 ∨ op = 15
 ·rw [if_neg h1, if_pos h2]; exact width_2 op h2 w
 rw [if_neg h1, if_neg h2]
 exact width_0 op (beq_eq_false_iff_ne.mpr (by omega)) (beq_eq_false_iff_ne.mpr (by omega)) (beq_eq_false_iff_ne.mpr (by omega)) (beq_eq_false_iff_ne.mpr (by omega)) (beq_eq_false_iff_ne.mpr (by omega)) (beq_eq_false_iff_ne.mpr (by omega)) (beq_eq_false_iff_ne.mpr (by omega)) (beq_eq_false_iff_ne.mpr (by omega)) (beq_eq_false_iff_ne.mpr (by omega)) (beq_eq_false_iff_ne.mpr (by omega)) w
theorem rright_lo (op n ty b : Int) (hlo : (decide (op < 1)) = true) (w : World) : Calls Tryz.prog 111 #[.agg #[.int .i64 op, .int .i64 n, .int .i64 ty, .int .u64 b]] w fun e w' => e = .returned (.bool false) ∧ Below w.heap.size w w' := by
 go_enter Tryz.func111, Tryz.ntmps111
 go_wp2
 go_ret
 exact ⟨rfl, (Below.refl _ _).alloc (Nat.le_refl _) _⟩
theorem rright_hi (op n ty b : Int) (hlo : (decide (op < 1)) = false) (hhi : (decide (17 < op)) = true) (w : World) : Calls Tryz.prog 111 #[.agg #[.int .i64 op, .int .i64 n, .int .i64 ty, .int .u64 b]] w fun e w' => e = .returned (.bool false) ∧ Below w.heap.size w w' := by
 go_enter Tryz.func111, Tryz.ntmps111
 go_wp2
 go_ret
 exact ⟨rfl, (Below.refl _ _).alloc (Nat.le_refl _) _⟩
theorem rsize_lo (op n ty b : Int) (hlo : (decide (op < 1)) = true) (w : World) : Calls Tryz.prog 158 #[.agg #[.int .i64 op, .int .i64 n, .int .i64 ty, .int .u64 b]] w fun e w' => e = .returned (.int .i64 0) ∧ Below w.heap.size w w' := by
 go_enter Tryz.func158, Tryz.ntmps158
 go_wp2
 go_ret
 exact ⟨rfl, (Below.refl _ _).alloc (Nat.le_refl _) _⟩
theorem rsize_hi (op n ty b : Int) (hlo : (decide (op < 1)) = false) (hhi : (decide (17 < op)) = true) (w : World) : Calls Tryz.prog 158 #[.agg #[.int .i64 op, .int .i64 n, .int .i64 ty, .int .u64 b]] w fun e w' => e = .returned (.int .i64 0) ∧ Below w.heap.size w w' := by
 go_enter Tryz.func158, Tryz.ntmps158
 go_wp2
 go_ret
 exact ⟨rfl, (Below.refl _ _).alloc (Nat.le_refl _) _⟩
theorem rright_push_no (n ty b : Int) (h : (n == 0) = false) (w : World) : Calls Tryz.prog 111 #[.agg #[.int .i64 1, .int .i64 n, .int .i64 ty, .int .u64 b]] w fun e w' => e = .returned (.bool false) ∧ Below w.heap.size w w' := by
 go_enter Tryz.func111, Tryz.ntmps111
 go_wp2
 go_ret
 exact ⟨rfl, (Below.refl _ _).alloc (Nat.le_refl _) _⟩
theorem rsize_push (n ty b : Int) (w : World) : Calls Tryz.prog 158 #[.agg #[.int .i64 1, .int .i64 n, .int .i64 ty, .int .u64 b]] w fun e w' => e = .returned (.int .i64 10) ∧ Below w.heap.size w w' := by
 go_enter Tryz.func158, Tryz.ntmps158
 go_wp2
 go_ret
 exact ⟨rfl, (Below.refl _ _).alloc (Nat.le_refl _) _⟩
theorem rright_push (ty b : Int) (hb : U64 b) (w : World) : Calls Tryz.prog 111 #[.agg #[.int .i64 1, .int .i64 0, .int .i64 ty, .int .u64 b]] w fun e w' => e = .returned (.bool (okV ty b)) ∧ Below w.heap.size w w' := by
 have HR := hid (Val.rright_any ty b hb)
 clear hb
 go_enter Tryz.func111, Tryz.ntmps111
 go_wp2_with fail
 go_at_call 37
 refine (HR.out _).mono ?_
 rintro e w1 ⟨rfl, hb1⟩
 go_wp2
 go_ret
 exact ⟨rfl, ((Below.refl _ _).alloc (Nat.le_refl _) _).trans (hb1.mono (by simp))⟩
theorem qCf (op n ty b wd sz : Int) (hlo : (decide (op < 1)) = false) (hhi : (decide (17 < op)) = false) (h1 : (op == 1) = false) (hwd : widR op = wd) (hw : IntKind.i64.wrap (1 + wd) = sz) (w : World) : Calls Tryz.prog 158 #[.agg #[.int .i64 op, .int .i64 n, .int .i64 ty, .int .u64 b]] w fun e w' => e = .returned (.int .i64 sz) ∧ Below w.heap.size w w' := by
 have HW := hid (qDj op)
 rw [hwd] at HW
 clear hwd
 go_enter Tryz.func158, Tryz.ntmps158
 go_wp2_with fail
 go_at_call 152
 refine (HW.out _).mono ?_
 rintro e w1 ⟨rfl, rfl⟩
 go_wp2
 go_ret
 exact ⟨by rw [← hw]; rfl, (Below.refl _ _).alloc (Nat.le_refl _) _⟩
theorem qDh (op n ty b : Int) (hlo : (decide (op < 1)) = false) (hhi : (decide (17 < op)) = false) (h1 : (op == 1) = false)  (hwd : widR op = 0) (w : World) : Calls Tryz.prog 111 #[.agg #[.int .i64 op, .int .i64 n, .int .i64 ty, .int .u64 b]] w fun e w' => e = .returned (.bool (decide (ty = 0 ∧ b = 0 ∧ 0 ≤ n ∧ n ≤ 0))) ∧ Below w.heap.size w w' := by
 have HW := hid (qDj op)
 rw [hwd] at HW
 clear hwd
 by_cases ht : ty = 0 ∧ b = 0 ∧ 0 ≤ n
 ·obtain ⟨rfl, rfl, hn⟩ := ht
  have hn' : decide (n < 0) = false := by simpa using hn
  go_enter Tryz.func111, Tryz.ntmps111
  go_wp2_with fail
  go_at_call 152
  refine (HW.out _).mono ?_
  rintro e w1 ⟨rfl, rfl⟩
  go_wp2
  all_goals (go_ret; refine ⟨congrArg (fun x => Ending.returned (Value.bool x)) ?_, (Below.refl _ _).alloc (Nat.le_refl _) _⟩; (rw [Bool.eq_iff_iff]; simp; omega))
 rw [show decide (ty = 0 ∧ b = 0 ∧ 0 ≤ n ∧ n ≤ 0) = false from by simp; omega]
 by_cases h2 : ty = 0
 rotate_left
 ·have h2' : (ty != 0) = true := bne_iff_ne.mpr h2
  clear ht h2
  go_enter Tryz.func111, Tryz.ntmps111
  go_wp2
  go_ret
  exact ⟨rfl, (Below.refl _ _).alloc (Nat.le_refl _) _⟩
 by_cases h3 : b = 0
 ·have hn' : decide (n < 0) = true := by simp; omega
  subst h2 h3
  clear ht
  go_enter Tryz.func111, Tryz.ntmps111
  go_wp2
  go_ret
  exact ⟨rfl, (Below.refl _ _).alloc (Nat.le_refl _) _⟩
 have h3' : (b != 0) = true := bne_iff_ne.mpr h3
 subst h2
 clear ht h3
 go_enter Tryz.func111, Tryz.ntmps111
 go_wp2
 go_ret
 exact ⟨rfl, (Below.refl _ _).alloc (Nat.le_refl _) _⟩
theorem qDk (op n ty b : Int) (hlo : (decide (op < 1)) = false) (hhi : (decide (17 < op)) = false) (h1 : (op == 1) = false)  (hwd : widR op = 2) (w : World) : Calls Tryz.prog 111 #[.agg #[.int .i64 op, .int .i64 n, .int .i64 ty, .int .u64 b]] w fun e w' => e = .returned (.bool (decide (ty = 0 ∧ b = 0 ∧ 0 ≤ n ∧ n ≤ 65535))) ∧ Below w.heap.size w w' := by
 have HW := hid (qDj op)
 rw [hwd] at HW
 clear hwd
 by_cases ht : ty = 0 ∧ b = 0 ∧ 0 ≤ n
 ·obtain ⟨rfl, rfl, hn⟩ := ht
  have hn' : decide (n < 0) = false := by simpa using hn
  go_enter Tryz.func111, Tryz.ntmps111
  go_wp2_with fail
  go_at_call 152
  refine (HW.out _).mono ?_
  rintro e w1 ⟨rfl, rfl⟩
  go_wp2
  all_goals (go_ret; refine ⟨congrArg (fun x => Ending.returned (Value.bool x)) ?_, (Below.refl _ _).alloc (Nat.le_refl _) _⟩; (simp_all <;> omega))
 rw [show decide (ty = 0 ∧ b = 0 ∧ 0 ≤ n ∧ n ≤ 65535) = false from by simp; omega]
 by_cases h2 : ty = 0
 rotate_left
 ·have h2' : (ty != 0) = true := bne_iff_ne.mpr h2
  clear ht h2
  go_enter Tryz.func111, Tryz.ntmps111
  go_wp2
  go_ret
  exact ⟨rfl, (Below.refl _ _).alloc (Nat.le_refl _) _⟩
 by_cases h3 : b = 0
 ·have hn' : decide (n < 0) = true := by simp; omega
  subst h2 h3
  clear ht
  go_enter Tryz.func111, Tryz.ntmps111
  go_wp2
  go_ret
  exact ⟨rfl, (Below.refl _ _).alloc (Nat.le_refl _) _⟩
 have h3' : (b != 0) = true := bne_iff_ne.mpr h3
 subst h2
 clear ht h3
 go_enter Tryz.func111, Tryz.ntmps111
 go_wp2
 go_ret
 exact ⟨rfl, (Below.refl _ _).alloc (Nat.le_refl _) _⟩
theorem rright_6 (op n ty b : Int) (hlo : (decide (op < 1)) = false) (hhi : (decide (17 < op)) = false) (h1 : (op == 1) = false) (h6 : (op == 6) = true) (hwd : widR op = 1) (w : World) : Calls Tryz.prog 111 #[.agg #[.int .i64 op, .int .i64 n, .int .i64 ty, .int .u64 b]] w fun e w' => e = .returned (.bool (decide (ty = 0 ∧ b = 0 ∧ 0 ≤ n ∧ n ≤ 255 ∧ 1 ≤ n ∧ n ≤ 4))) ∧ Below w.heap.size w w' := by
 have HW := hid (qDj op)
 rw [hwd] at HW
 clear hwd
 by_cases ht : ty = 0 ∧ b = 0 ∧ 0 ≤ n
 ·obtain ⟨rfl, rfl, hn⟩ := ht
  have hn' : decide (n < 0) = false := by simpa using hn
  go_enter Tryz.func111, Tryz.ntmps111
  go_wp2_with fail
  go_at_call 152
  refine (HW.out _).mono ?_
  rintro e w1 ⟨rfl, rfl⟩
  go_wp2
  all_goals (go_ret; refine ⟨congrArg (fun x => Ending.returned (Value.bool x)) ?_, (Below.refl _ _).alloc (Nat.le_refl _) _⟩; (simp_all <;> omega))
 rw [show decide (ty = 0 ∧ b = 0 ∧ 0 ≤ n ∧ n ≤ 255 ∧ 1 ≤ n ∧ n ≤ 4) = false from by simp; omega]
 by_cases h2 : ty = 0
 rotate_left
 ·have h2' : (ty != 0) = true := bne_iff_ne.mpr h2
  clear ht h2
  go_enter Tryz.func111, Tryz.ntmps111
  go_wp2
  go_ret
  exact ⟨rfl, (Below.refl _ _).alloc (Nat.le_refl _) _⟩
 by_cases h3 : b = 0
 ·have hn' : decide (n < 0) = true := by simp; omega
  subst h2 h3
  clear ht
  go_enter Tryz.func111, Tryz.ntmps111
  go_wp2
  go_ret
  exact ⟨rfl, (Below.refl _ _).alloc (Nat.le_refl _) _⟩
 have h3' : (b != 0) = true := bne_iff_ne.mpr h3
 subst h2
 clear ht h3
 go_enter Tryz.func111, Tryz.ntmps111
 go_wp2
 go_ret
 exact ⟨rfl, (Below.refl _ _).alloc (Nat.le_refl _) _⟩
theorem rright_7 (op n ty b : Int) (hlo : (decide (op < 1)) = false) (hhi : (decide (17 < op)) = false) (h1 : (op == 1) = false) (h6 : (op == 6) = false) (h7 : (op == 7) = true) (hwd : widR op = 1) (w : World) : Calls Tryz.prog 111 #[.agg #[.int .i64 op, .int .i64 n, .int .i64 ty, .int .u64 b]] w fun e w' => e = .returned (.bool (decide (ty = 0 ∧ b = 0 ∧ 0 ≤ n ∧ n ≤ 255 ∧ 1 ≤ n ∧ n ≤ 11))) ∧ Below w.heap.size w w' := by
 have HW := hid (qDj op)
 rw [hwd] at HW
 clear hwd
 by_cases ht : ty = 0 ∧ b = 0 ∧ 0 ≤ n
 ·obtain ⟨rfl, rfl, hn⟩ := ht
  have hn' : decide (n < 0) = false := by simpa using hn
  go_enter Tryz.func111, Tryz.ntmps111
  go_wp2_with fail
  go_at_call 152
  refine (HW.out _).mono ?_
  rintro e w1 ⟨rfl, rfl⟩
  go_wp2
  all_goals (go_ret; refine ⟨congrArg (fun x => Ending.returned (Value.bool x)) ?_, (Below.refl _ _).alloc (Nat.le_refl _) _⟩; (simp_all <;> omega))
 rw [show decide (ty = 0 ∧ b = 0 ∧ 0 ≤ n ∧ n ≤ 255 ∧ 1 ≤ n ∧ n ≤ 11) = false from by simp; omega]
 by_cases h2 : ty = 0
 rotate_left
 ·have h2' : (ty != 0) = true := bne_iff_ne.mpr h2
  clear ht h2
  go_enter Tryz.func111, Tryz.ntmps111
  go_wp2
  go_ret
  exact ⟨rfl, (Below.refl _ _).alloc (Nat.le_refl _) _⟩
 by_cases h3 : b = 0
 ·have hn' : decide (n < 0) = true := by simp; omega
  subst h2 h3
  clear ht
  go_enter Tryz.func111, Tryz.ntmps111
  go_wp2
  go_ret
  exact ⟨rfl, (Below.refl _ _).alloc (Nat.le_refl _) _⟩
 have h3' : (b != 0) = true := bne_iff_ne.mpr h3
 subst h2
 clear ht h3
 go_enter Tryz.func111, Tryz.ntmps111
 go_wp2
 go_ret
 exact ⟨rfl, (Below.refl _ _).alloc (Nat.le_refl _) _⟩
theorem rright_w1 (op n ty b : Int) (hlo : (decide (op < 1)) = false) (hhi : (decide (17 < op)) = false) (h1 : (op == 1) = false) (h6 : (op == 6) = false) (h7 : (op == 7) = false) (hwd : widR op = 1) (w : World) : Calls Tryz.prog 111 #[.agg #[.int .i64 op, .int .i64 n, .int .i64 ty, .int .u64 b]] w fun e w' => e = .returned (.bool (decide (ty = 0 ∧ b = 0 ∧ 0 ≤ n ∧ n ≤ 255))) ∧ Below w.heap.size w w' := by
 have HW := hid (qDj op)
 rw [hwd] at HW
 clear hwd
 by_cases ht : ty = 0 ∧ b = 0 ∧ 0 ≤ n
 ·obtain ⟨rfl, rfl, hn⟩ := ht
  have hn' : decide (n < 0) = false := by simpa using hn
  go_enter Tryz.func111, Tryz.ntmps111
  go_wp2_with fail
  go_at_call 152
  refine (HW.out _).mono ?_
  rintro e w1 ⟨rfl, rfl⟩
  go_wp2
  all_goals (go_ret; refine ⟨congrArg (fun x => Ending.returned (Value.bool x)) ?_, (Below.refl _ _).alloc (Nat.le_refl _) _⟩; (simp_all <;> omega))
 rw [show decide (ty = 0 ∧ b = 0 ∧ 0 ≤ n ∧ n ≤ 255) = false from by simp; omega]
 by_cases h2 : ty = 0
 rotate_left
 ·have h2' : (ty != 0) = true := bne_iff_ne.mpr h2
  clear ht h2
  go_enter Tryz.func111, Tryz.ntmps111
  go_wp2
  go_ret
  exact ⟨rfl, (Below.refl _ _).alloc (Nat.le_refl _) _⟩
 by_cases h3 : b = 0
 ·have hn' : decide (n < 0) = true := by simp; omega
  subst h2 h3
  clear ht
  go_enter Tryz.func111, Tryz.ntmps111
  go_wp2
  go_ret
  exact ⟨rfl, (Below.refl _ _).alloc (Nat.le_refl _) _⟩
 have h3' : (b != 0) = true := bne_iff_ne.mpr h3
 subst h2
 clear ht h3
 go_enter Tryz.func111, Tryz.ntmps111
 go_wp2
 go_ret
 exact ⟨rfl, (Below.refl _ _).alloc (Nat.le_refl _) _⟩
theorem rright_ins (op n ty b : Int) (hb : U64 b) (w : World) : Calls Tryz.prog 111 #[insV op n ty b] w fun e w' => e = .returned (.bool (okI op n ty b)) ∧ Below w.heap.size w w' := by
 unfold insV
 by_cases hl : op < 1
 ·rw [okI_lo op n ty b hl]; exact rright_lo op n ty b (by simpa using hl) w
 by_cases hh : 17 < op
 ·rw [okI_hi op n ty b hh]; exact rright_hi op n ty b (by simpa using hl) (by simpa using hh) w
 have ho : op = 1 ∨ op = 2 ∨ op = 3 ∨ op = 4 ∨ op = 5 ∨ op = 6 ∨ op = 7 ∨ op = 8 ∨ op = 9 ∨ op = 10 ∨ op = 11 ∨ op = 12 ∨ op = 13 ∨ op = 14 ∨ op = 15 ∨ op = 16 ∨ op = 17 := by omega
 rcases ho with rfl | rfl | rfl | rfl | rfl | rfl | rfl | rfl | rfl | rfl | rfl | rfl | rfl | rfl | rfl | rfl | rfl
 ·rw [okI_1]
  by_cases hn : n = 0
  ·rw [hn]; exact rright_push ty b hb w
  rw [show (n == 0) = false from beq_eq_false_iff_ne.mpr hn]; exact rright_push_no n ty b (beq_eq_false_iff_ne.mpr hn) w
 ·rw [qBC 2 n ty b 255 rfl rfl rfl rfl rfl rfl]; exact rright_w1 2 n ty b rfl rfl rfl rfl rfl rfl w
 ·rw [qBC 3 n ty b 255 rfl rfl rfl rfl rfl rfl]; exact rright_w1 3 n ty b rfl rfl rfl rfl rfl rfl w
 ·rw [qBC 4 n ty b 65535 rfl rfl rfl rfl rfl rfl]; exact qDk 4 n ty b rfl rfl rfl rfl w
 ·rw [qBC 5 n ty b 65535 rfl rfl rfl rfl rfl rfl]; exact qDk 5 n ty b rfl rfl rfl rfl w
 ·rw [okI_6]; exact rright_6 6 n ty b rfl rfl rfl rfl rfl w
 ·rw [okI_7]; exact rright_7 7 n ty b rfl rfl rfl rfl rfl rfl w
 ·rw [qBC 8 n ty b 65535 rfl rfl rfl rfl rfl rfl]; exact qDk 8 n ty b rfl rfl rfl rfl w
 ·rw [qBC 9 n ty b 65535 rfl rfl rfl rfl rfl rfl]; exact qDk 9 n ty b rfl rfl rfl rfl w
 ·rw [qBC 10 n ty b 65535 rfl rfl rfl rfl rfl rfl]; exact qDk 10 n ty b rfl rfl rfl rfl w
 ·rw [qBC 11 n ty b 0 rfl rfl rfl rfl rfl rfl]; exact qDh 11 n ty b rfl rfl rfl rfl w
 ·rw [qBC 12 n ty b 0 rfl rfl rfl rfl rfl rfl]; exact qDh 12 n ty b rfl rfl rfl rfl w
 ·rw [qBC 13 n ty b 0 rfl rfl rfl rfl rfl rfl]; exact qDh 13 n ty b rfl rfl rfl rfl w
 ·rw [qBC 14 n ty b 0 rfl rfl rfl rfl rfl rfl]; exact qDh 14 n ty b rfl rfl rfl rfl w
 ·rw [qBC 15 n ty b 65535 rfl rfl rfl rfl rfl rfl]; exact qDk 15 n ty b rfl rfl rfl rfl w
 ·rw [qBC 16 n ty b 0 rfl rfl rfl rfl rfl rfl]; exact qDh 16 n ty b rfl rfl rfl rfl w
 rw [qBC 17 n ty b 0 rfl rfl rfl rfl rfl rfl]; exact qDh 17 n ty b rfl rfl rfl rfl w
theorem rsize_ins (op n ty b : Int) (w : World) : Calls Tryz.prog 158 #[insV op n ty b] w fun e w' => e = .returned (.int .i64 (sizeI op)) ∧ Below w.heap.size w w' := by
 unfold insV
 by_cases hl : op < 1
 ·rw [show sizeI op = 0 from if_pos (Or.inl hl)]; exact rsize_lo op n ty b (by simpa using hl) w
 by_cases hh : 17 < op
 ·rw [show sizeI op = 0 from if_pos (Or.inr hh)]; exact rsize_hi op n ty b (by simpa using hl) (by simpa using hh) w
 have ho : op = 1 ∨ op = 2 ∨ op = 3 ∨ op = 4 ∨ op = 5 ∨ op = 6 ∨ op = 7 ∨ op = 8 ∨ op = 9 ∨ op = 10 ∨ op = 11 ∨ op = 12 ∨ op = 13 ∨ op = 14 ∨ op = 15 ∨ op = 16 ∨ op = 17 := by omega
 rcases ho with rfl | rfl | rfl | rfl | rfl | rfl | rfl | rfl | rfl | rfl | rfl | rfl | rfl | rfl | rfl | rfl | rfl
 ·rw [show sizeI 1 = 10 from rfl]; exact rsize_push n ty b w
 ·rw [show sizeI 2 = 2 from rfl]; exact qCf 2 n ty b 1 2 rfl rfl rfl rfl rfl w
 ·rw [show sizeI 3 = 2 from rfl]; exact qCf 3 n ty b 1 2 rfl rfl rfl rfl rfl w
 ·rw [show sizeI 4 = 3 from rfl]; exact qCf 4 n ty b 2 3 rfl rfl rfl rfl rfl w
 ·rw [show sizeI 5 = 3 from rfl]; exact qCf 5 n ty b 2 3 rfl rfl rfl rfl rfl w
 ·rw [show sizeI 6 = 2 from rfl]; exact qCf 6 n ty b 1 2 rfl rfl rfl rfl rfl w
 ·rw [show sizeI 7 = 2 from rfl]; exact qCf 7 n ty b 1 2 rfl rfl rfl rfl rfl w
 ·rw [show sizeI 8 = 3 from rfl]; exact qCf 8 n ty b 2 3 rfl rfl rfl rfl rfl w
 ·rw [show sizeI 9 = 3 from rfl]; exact qCf 9 n ty b 2 3 rfl rfl rfl rfl rfl w
 ·rw [show sizeI 10 = 3 from rfl]; exact qCf 10 n ty b 2 3 rfl rfl rfl rfl rfl w
 ·rw [show sizeI 11 = 1 from rfl]; exact qCf 11 n ty b 0 1 rfl rfl rfl rfl rfl w
 ·rw [show sizeI 12 = 1 from rfl]; exact qCf 12 n ty b 0 1 rfl rfl rfl rfl rfl w
 ·rw [show sizeI 13 = 1 from rfl]; exact qCf 13 n ty b 0 1 rfl rfl rfl rfl rfl w
 ·rw [show sizeI 14 = 1 from rfl]; exact qCf 14 n ty b 0 1 rfl rfl rfl rfl rfl w
 ·rw [show sizeI 15 = 3 from rfl]; exact qCf 15 n ty b 2 3 rfl rfl rfl rfl rfl w
 ·rw [show sizeI 16 = 1 from rfl]; exact qCf 16 n ty b 0 1 rfl rfl rfl rfl rfl w
 rw [show sizeI 17 = 1 from rfl]; exact qCf 17 n ty b 0 1 rfl rfl rfl rfl rfl w
end RIns
end
section
namespace Q
open Go.RowKit PA PC PB
def qBa.f (a0_0 : Int) (a0_1 : Int) (a0_2 : Int) (a0_3 : Int) : Option (Bool) := if 0 ≤ a0_3 ∧ a0_3 < 18446744073709551616 then some (Ins.okI a0_0 a0_1 a0_2 a0_3) else none
theorem qBa.calls (a0_0 : Int) (a0_1 : Int) (a0_2 : Int) (a0_3 : Int) (r : Bool) (w : World) (h : qBa.f a0_0 a0_1 a0_2 a0_3 = some r) :
  Calls Tryz.prog 111 #[.agg #[.int .i64 a0_0, .int .i64 a0_1, .int .i64 a0_2, .int .u64 a0_3]] w fun e w' => e = .returned (.bool r) ∧ Below w.heap.size w w' := by
 unfold qBa.f at h
 split at h
 case isFalse => cases h
 rename_i hs
 obtain rfl := Option.some.inj h
 exact RIns.rright_ins a0_0 a0_1 a0_2 a0_3 hs w
def qBL.f (a0_0 : Int) (_a0_1 : Int) (_a0_2 : Int) (_a0_3 : Int) : Option (Int) := some (Ins.sizeI a0_0)
theorem qBL.calls (a0_0 : Int) (a0_1 : Int) (a0_2 : Int) (a0_3 : Int) (r : Int) (w : World) (h : qBL.f a0_0 a0_1 a0_2 a0_3 = some r) :
  Calls Tryz.prog 158 #[.agg #[.int .i64 a0_0, .int .i64 a0_1, .int .i64 a0_2, .int .u64 a0_3]] w fun e w' => e = .returned (.int .i64 r) ∧ Below w.heap.size w w' := by
 unfold qBL.f at h
 obtain rfl := Option.some.inj h
 exact RIns.rsize_ins a0_0 a0_1 a0_2 a0_3 w
end Q
end
section
namespace Q
open Go.RowKit PA PC PB
attribute [local go_sem] qBe min2_int qBq min_two max_three min_three max_four min_four
def qAW.f (a0 : Int) : Option (Bool) := if a0 = 1 then (some true) else (if a0 = 2 then (some true) else (some (a0 == 3)))
theorem qAW.calls (a0 : Int) (r : Bool) (w : World) (h : qAW.f a0 = some r) :
  Calls Tryz.prog 110 #[.int .i64 a0] w fun e w' => e = .returned (.bool r) ∧ qAZ w w' := by
 have H : (if a0 = 1 then (some true) else (if a0 = 2 then (some true) else (some (a0 == 3)))) = some r := h
 clear h
 by_cases c2 : a0 = 1
 ·rw [if_pos c2] at H
  have aA : (a0 == 1) = true := beq_iff_eq.mpr c2
  clear c2
  obtain rfl := Option.some.inj H
  go_enter Tryz.func110, Tryz.ntmps110
  go_wp2
  go_ret
  exact ⟨by rfl, by exact qAZ.refl _⟩
 ·rw [if_neg c2] at H
  have aA : (a0 == 1) = false := bf c2
  have aC : (a0 != 1) = true := bne_iff_ne.mpr c2
  by_cases c3 : a0 = 2
  ·rw [if_pos c3] at H
   have aB : (a0 == 2) = true := beq_iff_eq.mpr c3
   clear c3
   obtain rfl := Option.some.inj H
   go_enter Tryz.func110, Tryz.ntmps110
   go_wp2
   go_ret
   exact ⟨by rfl, by exact qAZ.refl _⟩
  ·rw [if_neg c3] at H
   have aB : (a0 == 2) = false := bf c3
   obtain rfl := Option.some.inj H
   go_enter Tryz.func110, Tryz.ntmps110
   go_wp2
   go_ret
   exact ⟨by rfl, by exact qAZ.refl _⟩
end Q
end
end Go.Proofs.YtfjpnjbinbhcfaaGreat
