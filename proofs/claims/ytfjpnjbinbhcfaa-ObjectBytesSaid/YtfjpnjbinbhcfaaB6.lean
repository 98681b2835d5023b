/- object.Unpack of any bytes, where the law ObjectBytes asks: bytes that are read are written again as they were; bytes that are cut or longer are none. Part 6 of 8. -/
import Derived.Test.YtfjpnjbinbhcfaaB5
set_option maxHeartbeats 8000000
set_option maxRecDepth 100000
set_option linter.unusedVariables false
set_option linter.unusedSimpArgs false
namespace Go.Proofs.Ytfjpnjbinbhcfaa
section
namespace Q
open Go.RowKit PA PB PC
attribute [local go_sem] qBd min2_int qBp min_two max_three min_three max_four min_four
mutual
def qAa.l0 : Nat → List Int → List Int → Int → Int → List Int → Int → Int → Option (ByteArray × (List (S71)) × (List (S80)) × (List (S82)) × Int)
 | 0, _, _, _, _, _, _, _ => none
 | k + 1, x0, gA, g5, dt, aM, aZ, a1 => if dt < g5 then (if 0 ≤ dt then (if dt < (gA.length : Int) then ((qAg.f aM aZ a1).bind fun b6 => (if b6.1 = (rd gA dt) then (qAa.l0 k x0 gA g5 (wrap64 (dt + 1)) aM b6.2.1 b6.2.2) else ((qAy.f aM b6.2.1 b6.2.2 52).bind fun b7 => (qAa.l0 k x0 gA g5 (wrap64 (dt + 1)) aM b7.1 b7.2)))) else (none)) else (none)) else ((qAp.f aM aZ a1 32).bind fun cM => ((qA2.f aM cM.2.1 cM.2.2).bind fun bK => (qAa.l1 k x0 bK.1 aM bK.2.1 bK.2.2 cM.1 ([] : List (S71)))))
def qAa.l1 : Nat → List Int → Int → List Int → Int → Int → ByteArray → List (S71) → Option (ByteArray × (List (S71)) × (List (S80)) × (List (S82)) × Int)
 | 0, _, _, _, _, _, _, _ => none
 | k + 1, x0, x8, aM, aZ, a1, a4, a3 => if x8 > 0 then ((qAv.f aM aZ a1).bind fun cN => (qAa.j2 k x0 x8 (cN.1 == 0) aM cN.2.1 cN.2.2 a4 a3)) else (qAa.j2 k x0 x8 false aM aZ a1 a4 a3)
def qAa.j2 : Nat → List Int → Int → Bool → List Int → Int → Int → ByteArray → List (S71) → Option (ByteArray × (List (S71)) × (List (S80)) × (List (S82)) × Int)
 | 0, _, _, _, _, _, _, _, _ => none
 | k + 1, x0, x8, hJ, aM, aZ, a1, a4, a3 => if hJ = true then ((qAp.f aM aZ a1 32).bind fun bL => ((qAg.f aM bL.2.1 bL.2.2).bind fun bA => ((qAB.f aM bA.2.1 bA.2.2).bind fun ao => (if a3.length < 4398046511104 then (qAa.l1 k x0 (wrap64 (x8 - 1)) aM ao.2.1 ao.2.2 a4 (a3 ++ [(⟨bL.1, (⟨wrap64 (bA.1), ao.1⟩ : S69)⟩ : S71)])) else (none))))) else ((qA2.f aM aZ a1).bind fun bM => (qAa.l2 k x0 bM.1 aM bM.2.1 bM.2.2 a4 a3 ([] : List (S80))))
def qAa.l2 : Nat → List Int → Int → List Int → Int → Int → ByteArray → List (S71) → List (S80) → Option (ByteArray × (List (S71)) × (List (S80)) × (List (S82)) × Int)
 | 0, _, _, _, _, _, _, _, _ => none
 | k + 1, x0, x9, aM, aZ, a1, a4, a3, a9 => if x9 > 0 then ((qAv.f aM aZ a1).bind fun cO => (qAa.j4 k x0 x9 (cO.1 == 0) aM cO.2.1 cO.2.2 a4 a3 a9)) else (qAa.j4 k x0 x9 false aM aZ a1 a4 a3 a9)
def qAa.j4 : Nat → List Int → Int → Bool → List Int → Int → Int → ByteArray → List (S71) → List (S80) → Option (ByteArray × (List (S71)) × (List (S80)) × (List (S82)) × Int)
 | 0, _, _, _, _, _, _, _, _, _ => none
 | k + 1, x0, x9, hL, aM, aZ, a1, a4, a3, a9 => if hL = true then ((qAp.f aM aZ a1 32).bind fun bN => ((qAU.f k aM bN.2.1 bN.2.2).bind fun ah => (if a9.length < 1466015503701 then (qAa.l2 k x0 (wrap64 (x9 - 1)) aM ah.2.2.2.2.1 ah.2.2.2.2.2 a4 a3 (a9 ++ [(⟨bN.1, (⟨(⟨ah.1, ah.2.1⟩ : S74), ah.2.2.1, ah.2.2.2.1⟩ : S77)⟩ : S80)])) else (none)))) else ((qA2.f aM aZ a1).bind fun bO => (qAa.l3 k x0 bO.1 aM bO.2.1 bO.2.2 a4 a3 a9 ([] : List (S82))))
def qAa.l3 : Nat → List Int → Int → List Int → Int → Int → ByteArray → List (S71) → List (S80) → List (S82) → Option (ByteArray × (List (S71)) × (List (S80)) × (List (S82)) × Int)
 | 0, _, _, _, _, _, _, _, _, _ => none
 | k + 1, x0, fh, aM, aZ, a1, a4, a3, a9, ay => if fh > 0 then ((qAv.f aM aZ a1).bind fun cP => (qAa.j6 k x0 fh (cP.1 == 0) aM cP.2.1 cP.2.2 a4 a3 a9 ay)) else (qAa.j6 k x0 fh false aM aZ a1 a4 a3 a9 ay)
def qAa.j6 : Nat → List Int → Int → Bool → List Int → Int → Int → ByteArray → List (S71) → List (S80) → List (S82) → Option (ByteArray × (List (S71)) × (List (S80)) × (List (S82)) × Int)
 | 0, _, _, _, _, _, _, _, _, _, _ => none
 | k + 1, x0, fh, hM, aM, aZ, a1, a4, a3, a9, ay => if hM = true then ((qA3.f aM aZ a1).bind fun bP => ((qA3.f aM bP.2.1 bP.2.2).bind fun bB => ((qAg.f aM bB.2.1 bB.2.2).bind fun ap => ((qAp.f aM ap.2.1 ap.2.2 32).bind fun ai => ((qAp.f aM ai.2.1 ai.2.2 32).bind fun a8 => (if ay.length < 2513169434916 then (qAa.l3 k x0 (wrap64 (fh - 1)) aM a8.2.1 a8.2.2 a4 a3 a9 (ay ++ [(⟨bP.1, bB.1, wrap64 (ap.1), ai.1, a8.1⟩ : S82)])) else (none))))))) else ((qAA.f aM aZ a1).bind fun cQ => (if cQ.1 = 0 then ((qA7.f a4 a3 a9 ay).bind fun bH => (if bH.2 = 0 then ((qAl.f k x0 bH.1).bind fun bV => (if bV = true then (some (a4, a3, a9, ay, 0)) else (some ((⟨#[]⟩ : ByteArray), ([] : List (S71)), ([] : List (S80)), ([] : List (S82)), 52)))) else (some ((⟨#[]⟩ : ByteArray), ([] : List (S71)), ([] : List (S80)), ([] : List (S82)), 52)))) else (some ((⟨#[]⟩ : ByteArray), ([] : List (S71)), ([] : List (S80)), ([] : List (S82)), 52))))
end
def qAa.f (k : Nat) (l0 : List Int) : Option (ByteArray × (List (S71)) × (List (S80)) × (List (S82)) × Int) := if (l0.length : Int) > 16384 then (some ((⟨#[]⟩ : ByteArray), ([] : List (S71)), ([] : List (S80)), ([] : List (S82)), 3)) else ((qBI.f l0).bind fun bJ => ((some (([102, 111, 98, 106] : List Int) : List Int)).bind fun aa => (qAa.l0 k l0 aa (aa.length : Int) 0 bJ.1 bJ.2.1 bJ.2.2)))
def qAa.T14 : Bool × List (List Nat × List Nat) := (true, [([], []), ([0], [0]), ([], []), ([2], [2]), ([], []), ([4, 3], [4]), ([5], [5]), ([], []), ([7, 5], [7]), ([6, 8], [6, 8]), ([3, 9], [3, 9]), ([10], [10]), ([1, 11, 8], [1, 11]), ([0, 1, 2, 3, 4, 5, 6, 7, 8, 9, 10, 11, 12], []), ([13, 12, 12, 0, 1, 2, 3, 4, 5, 6, 7, 8, 9, 10, 11, 12], [12, 13])])
def qAa.B14 : List Nat := [0, 1, 0, 4, 0, 28, 60, 0, 188, 508, 1020, 2044, 4095, 8191, 16383]
theorem qAa.tab14 : rtab .any (opsOf Try.f7 14) = qAa.T14 := by kernel_rfl
theorem qAa.bits14 : qC3 qAa.T14.2 qAa.B14 = true := by kernel_rfl
def qAa.T18 : Bool × List (List Nat × List Nat) := (true, [([], []), ([0], [0]), ([], []), ([2], [2]), ([], []), ([4, 3], [4]), ([3, 5], [3, 5]), ([6], [6]), ([1, 7, 5], [1, 7]), ([0, 1, 2, 3, 4, 5, 6, 7, 8], []), ([9, 8, 8, 0, 1, 2, 3, 4, 5, 6, 7, 8], [8, 9])])
def qAa.B18 : List Nat := [0, 1, 0, 4, 0, 28, 60, 124, 255, 511, 1023]
theorem qAa.tab18 : rtab .any (opsOf Try.f7 18) = qAa.T18 := by kernel_rfl
theorem qAa.bits18 : qC3 qAa.T18.2 qAa.B18 = true := by kernel_rfl
def qAa.T22 : Bool × List (List Nat × List Nat) := (true, [([], []), ([0], [0]), ([], []), ([2], [2]), ([], []), ([4, 3], [4]), ([], []), ([6, 5], [6]), ([7], [7]), ([], []), ([9, 7], [9]), ([], []), ([11, 10], [11]), ([3, 5, 8, 10, 12], [3, 5, 8, 10, 12]), ([13], [13]), ([1, 14, 12], [1, 14]), ([0, 1, 2, 3, 4, 5, 6, 7, 8, 9, 10, 11, 12, 13, 14, 15], []), ([16, 15, 15, 0, 1, 2, 3, 4, 5, 6, 7, 8, 9, 10, 11, 12, 13, 14, 15], [15, 16])])
def qAa.B22 : List Nat := [0, 1, 0, 4, 0, 28, 0, 124, 252, 0, 764, 0, 3836, 8188, 16380, 32767, 65535, 131071]
theorem qAa.tab22 : rtab .any (opsOf Try.f7 22) = qAa.T22 := by kernel_rfl
theorem qAa.bits22 : qC3 qAa.T22.2 qAa.B22 = true := by kernel_rfl
theorem qAa.calls (k : Nat) (A0 : Option Addr) (c0 : Nat) (l0 : List Int) (r1 : ByteArray) (r2 : List (S71)) (r3 : List (S80)) (r4 : List (S82)) (r5 : Int) (w : World) (hr0 : Kd.C (Kd.int .u8) w A0 l0.length l0) (hc0 : l0.length ≤ c0) (h : qAa.f k l0 = some (r1, r2, r3, r4, r5)) :
  Calls Try.prog 7 #[.slice A0 l0.length c0] w fun e w' => ∃ v1_ v2_ v3_ : Value, e = .returned (.tuple #[.agg #[.string r1, v1_, v2_, v3_], .int .i64 r5]) ∧ Kd.R k71 71 w' w.heap.size (fun _ => True) v1_ r2 ∧ Kd.S k80 80 w' w.heap.size (fun _ => True) v2_ r3 ∧ Kd.R k82 82 w' w.heap.size (fun _ => True) v3_ r4 ∧ Below w.heap.size w w' := by
 have gF := am hr0
 have gE := am hc0
 clear hr0 hc0
 have HB := am (Below.refl w.heap.size w)
 have H : (if (l0.length : Int) > 16384 then (some ((⟨#[]⟩ : ByteArray), ([] : List (S71)), ([] : List (S80)), ([] : List (S82)), 3)) else ((qBI.f l0).bind fun bJ => ((some (([102, 111, 98, 106] : List Int) : List Int)).bind fun aa => (qAa.l0 k l0 aa (aa.length : Int) 0 bJ.1 bJ.2.1 bJ.2.2)))) = some (r1, r2, r3, r4, r5) := h
 clear h
 by_cases c2 : (l0.length : Int) > 16384
 ·rw [if_pos c2] at H
  have ea := d1 c2
  clear c2
  simp only [Option.some.injEq, Prod.mk.injEq] at H
  obtain ⟨rfl, rfl, rfl, rfl, rfl⟩ := H
  go_enter Try.func7, Try.ntmps7
  go_wp2_with ((with_reducible refine qAC (N := 2) rfl ?_); refine bx 2 #[.string ⟨#[]⟩, .slice none 0 0, .slice none 0 0, .slice none 0 0] 27 ?_; intro aR hg w3 hbox hb; have n_ := a2 (qAo HB.o hb) (a2 (hbox) (am (by rw [hg]; exact (qAi HB.o) : w.heap.size ≤ aR))); clear HB; obtain ⟨HB, aE, bX⟩ := n_; clear hb hbox hg; have gV : w3.cell? ⟨aR, 0, none⟩ = some (.string ⟨#[]⟩) := (qAb aE.o 0).trans rfl; have gW : w3.cell? ⟨aR, 1, none⟩ = some (.slice none 0 0) := (qAb aE.o 1).trans rfl; have gX : w3.cell? ⟨aR, 2, none⟩ = some (.slice none 0 0) := (qAb aE.o 2).trans rfl; have gY : w3.cell? ⟨aR, 3, none⟩ = some (.slice none 0 0) := (qAb aE.o 3).trans rfl; have gZ := qAc aE.o 0; have g0 := qAc aE.o 1; have g1 := qAc aE.o 2; have g2 := qAc aE.o 3)
  refine bodyPost_ret (qBY rfl _ _ aR 27 #[.string ⟨#[]⟩, .slice none 0 0, .slice none 0 0, .slice none 0 0] (0, 0) _ rfl (by refine qAt (cs := #[.string ⟨#[]⟩, .slice none 0 0, .slice none 0 0, .slice none 0 0]) ?_ 3 _ rfl; refine qAt (cs := #[.string ⟨#[]⟩, .slice none 0 0, .slice none 0 0, .slice none 0 0]) ?_ 2 _ rfl; refine qAt (cs := #[.string ⟨#[]⟩, .slice none 0 0, .slice none 0 0, .slice none 0 0]) ?_ 1 _ rfl; refine qAt (cs := #[.string ⟨#[]⟩, .slice none 0 0, .slice none 0 0, .slice none 0 0]) ?_ 0 _ rfl; exact aE.o) Try.underlying27 rfl (by kernel_rfl)) rfl ?_
  exact ⟨_, _, _, by rfl, by (exact Kd.R_nil _ _ _ _ _), by (exact Kd.S_nil _ _ _ _ _), by (exact Kd.R_nil _ _ _ _ _), by repeat (with_reducible first | exact HB.o | refine qAq ?_ bX.o)⟩
 ·rw [if_neg c2] at H
  have ea := d0 c2
  have gG : decide (16384 < l0.length) = false := decide_eq_false (by omega)
  clear c2
  replace H := bm H
  obtain ⟨⟨aN, cn, co⟩, g7, H⟩ := H
  replace H : ((some (([102, 111, 98, 106] : List Int) : List Int)).bind fun aa => (qAa.l0 k l0 aa (aa.length : Int) 0 aN cn co)) = some (r1, r2, r3, r4, r5) := H
  have A5 := am g7
  clear g7
  obtain ⟨aa, cV⟩ : ∃ y_ : List Int, y_ = ([102, 111, 98, 106] : List Int) := ⟨_, rfl⟩
  replace H : (qAa.l0 k l0 aa (aa.length : Int) 0 aN cn co) = some (r1, r2, r3, r4, r5) := by (have H2_ := (Option.bind_some _ _).symm.trans H; rw [cV]; with_reducible exact H2_)
  have dD := am cV
  clear cV
  have H' := am H
  clear H
  go_enter Try.func7, Try.ntmps7
  go_wp2_with (first | ((with_reducible refine qAC (N := 2) rfl ?_); refine bx 2 #[.string ⟨#[]⟩, .slice none 0 0, .slice none 0 0, .slice none 0 0] 27 ?_; intro aR hg w6 hbox hb; have n_ := a2 (qAo HB.o hb) (a2 (hbox) (am (by rw [hg]; exact (qAi HB.o) : w.heap.size ≤ aR))); clear HB; obtain ⟨HB, aE, bX⟩ := n_; clear hb hbox hg) | ((with_reducible refine qAj (f := 19) rfl ?_); refine gL 18 Try.func19 #[.slice A0 l0.length c0] ?_; (with_reducible refine (qBI.calls _ _ l0 aN cn co w _ ?side1 ?side2 ?side3 A5.o).mono ?_); (case side1 => exact HB.o); (case side2 => exact gF.o); (case side3 => exact gE.o); rintro e w7 ⟨aY, rfl, hi, hb, hb2⟩; refine ⟨_, rfl, ?_⟩; have n_ := a2 (qAz aE.o hb2) (a2 (hb) (a2 (hi) (am (Ne.symm (qAe.ne_blk hi (qAz aE.o hb2) (by decide)))))); clear aE HB; obtain ⟨aE, HB, aG, aQ⟩ := n_) | ((with_reducible refine qAC (N := 19) rfl ?_); refine Kd.R_lit (Kd.int .u8) _ 5 ?hg (N := 19) ?hd (xs := ([102, 111, 98, 106] : List Int)) (inner := [.int .u8 102, .int .u8 111, .int .u8 98, .int .u8 106]) (ok := fun _ => True) (okp := fun _ => True) ?hr ?hp (fun _ hk => hk) trivial (Below.refl _ _) (Nat.le_refl _) (by simp) ?_; (case hd => rfl); (case hg => rfl); (case hr => (go_simp; done)); (case hp => exact (Reps.one (show Kd.M (Kd.int .u8) _ _ _ 102 [.int .u8 102] from rfl) (Reps.one (show Kd.M (Kd.int .u8) _ _ _ 111 [.int .u8 111] from rfl) (Reps.one (show Kd.M (Kd.int .u8) _ _ _ 98 [.int .u8 98] from rfl) (Reps.one (show Kd.M (Kd.int .u8) _ _ _ 106 [.int .u8 106] from rfl) (Reps.none _ _)))))); intro gy w8 fx hb hg_ hnew_; clear hg_ hnew_; (rw [← dD.o] at fx); obtain ⟨gC, gH, gJ⟩ := Kd.R_slice fx; subst gJ; have g9 := am fx; have HB9 := am hb; clear hb fx) | ((with_reducible refine qAC (N := 20) rfl ?_); refine mark_event rfl (.tmp 19) 22 5 rfl Try.underlying22 Try.underlying5 rfl g9.o HB9.o (by rw [dD.o]; decide) ?_; intro wm9 hmk hb; have n_ := a2 hmk (a2 (qAz aE.o hb) (a2 (qAe.below aG.o hb) (am (qAo HB.o hb)))); clear aE aG HB; obtain ⟨eZ, aE, aG, HB⟩ := n_; clear hb hmk; clear g9 HB9))
  go_loopg [22] k (fun kq gz w' => ∃ (a7 : Int) (al : Int) (an : Int), gz = .int .i64 a7 ∧ qAf (qAa.l0 kq l0 aa (aa.length : Int) a7 aN al an = some (r1, r2, r3, r4, r5)) ∧ qAf (kq ≤ k) ∧ qAf (MkR 5 w' (.slice gC aa.length gH) aa) ∧ qAf (w'.heap[aR]? = some (.cells #[.string ⟨#[]⟩, (.slice none 0 0), (.slice none 0 0), (.slice none 0 0)] 27 (0, 0))) ∧ qAf (qAe w w' aY aN al an) ∧ qAf (Below w.heap.size w w'))
  case atStart => exact ⟨(0), (cn), (co), (by rfl), H', ⟨Nat.le_refl _⟩, ⟨by exact eZ.o⟩, ⟨by exact aE.o⟩, ⟨by exact aG.o⟩, ⟨by exact HB.o⟩⟩
  case round =>
   clear H'
   obtain ⟨a7, al, an, rfl, HA, bc, ag, aE, aG, HB⟩ := hrel
   cases gk with
   | zero => exact absurd HA.o (by simp [qAa.l0])
   | succ k1 =>
    have H := HA.o
    clear HA
    simp only [qAa.l0] at H
    by_cases dn : a7 < (aa.length : Int)
    ·rw [if_pos dn] at H
     replace dn := d1 dn
     obtain ⟨fk, H⟩ := gd H
     replace fk := d1 fk
     obtain ⟨fl, H⟩ := gd H
     replace fl := d1 fl
     replace H := bm H
     obtain ⟨⟨cB, cC, cD⟩, du, H⟩ := H
     replace H : (if cB = (rd aa a7) then (qAa.l0 k1 l0 aa (aa.length : Int) (wrap64 (a7 + 1)) aN cC cD) else ((qAy.f aN cC cD 52).bind fun b7 => (qAa.l0 k1 l0 aa (aa.length : Int) (wrap64 (a7 + 1)) aN b7.1 b7.2))) = some (r1, r2, r3, r4, r5) := H
     have g6 := am du
     clear du
     by_cases e7 : cB = (rd aa a7)
     ·rw [if_pos e7] at H
      have e8 : (cB != (rd aa a7)) = false := bn e7
      clear e7
      have H' := am H
      clear H
      have bd : 0 ≤ a7 := od (by assumption)
      have bg : a7 < (aa.length : Int) := od (by assumption)
      obtain ⟨e6, dK, ck⟩ := MkR.at_int ag.o a7 bd bg
      cases dK
      replace bd := eq_true bd
      replace bg := eq_true bg
      go_wp2_with ((with_reducible refine qAj (f := 20) rfl ?_); refine gL 27 Try.func20 #[.pointer (some ⟨aY, 0, none⟩)] ?_; (with_reducible refine (qAg.calls aY aN al an cB cC cD w _ ?side1 ?side2 g6.o).mono ?_); (case side1 => exact aG.o); (case side2 => exact HB.o); rintro e hN ⟨rfl, hi, hb, hk⟩; refine ⟨_, rfl, ?_⟩; have n_ := a2 (MkR.keepS ag.o hk aG.o (by decide)) (a2 (qAd.blk hk aE.o aQ.o (by simp)) (a2 (hb) (am (hi)))); clear ag aE HB aG; obtain ⟨ag, aE, HB, aG⟩ := n_)
      go_roundg k1
      case measure => have := bc.o; omega
      case rel => exact ⟨(wrap64 (a7 + 1)), (cC), (cD), (by rfl), H', ⟨by have := bc.o; omega⟩, ⟨by exact ag.o⟩, ⟨by exact aE.o⟩, ⟨by exact aG.o⟩, ⟨by exact HB.o⟩⟩
     rw [if_neg e7] at H
     have e8 : (cB != (rd aa a7)) = true := bne_iff_ne.mpr e7
     replace H := bm H
     obtain ⟨⟨dU, dV⟩, dv, H⟩ := H
     replace H : (qAa.l0 k1 l0 aa (aa.length : Int) (wrap64 (a7 + 1)) aN dU dV) = some (r1, r2, r3, r4, r5) := H
     have gc := am dv
     clear dv
     have H' := am H
     clear H
     have bd : 0 ≤ a7 := od (by assumption)
     have bg : a7 < (aa.length : Int) := od (by assumption)
     obtain ⟨e6, dK, ck⟩ := MkR.at_int ag.o a7 bd bg
     cases dK
     replace bd := eq_true bd
     replace bg := eq_true bg
     go_wp2_with (first | ((with_reducible refine qAj (f := 20) rfl ?_); refine gL 27 Try.func20 #[.pointer (some ⟨aY, 0, none⟩)] ?_; (with_reducible refine (qAg.calls aY aN al an cB cC cD w _ ?side1 ?side2 g6.o).mono ?_); (case side1 => exact aG.o); (case side2 => exact HB.o); rintro e hO ⟨rfl, hi, hb, hk⟩; refine ⟨_, rfl, ?_⟩; have n_ := a2 (MkR.keepS ag.o hk aG.o (by decide)) (a2 (qAd.blk hk aE.o aQ.o (by simp)) (a2 (hb) (am (hi)))); clear ag aE HB aG; obtain ⟨ag, aE, HB, aG⟩ := n_) | ((with_reducible refine qAj (f := 21) rfl ?_); refine gL 31 Try.func21 #[.pointer (some ⟨aY, 0, none⟩), .int .i64 52] ?_; (with_reducible refine (qAy.calls aY aN cC cD 52 dU dV w _ ?side1 ?side2 gc.o).mono ?_); (case side1 => exact aG.o); (case side2 => exact HB.o); rintro e hP ⟨rfl, hi, hb, hk⟩; refine ⟨_, rfl, ?_⟩; have n_ := a2 (MkR.keepS ag.o hk aG.o (by decide)) (a2 (qAd.blk hk aE.o aQ.o (by simp)) (a2 (hb) (am (hi)))); clear ag aE HB aG; obtain ⟨ag, aE, HB, aG⟩ := n_))
     go_roundg k1
     case measure => have := bc.o; omega
     case rel => exact ⟨(wrap64 (a7 + 1)), (dU), (dV), (by rfl), H', ⟨by have := bc.o; omega⟩, ⟨by exact ag.o⟩, ⟨by exact aE.o⟩, ⟨by exact aG.o⟩, ⟨by exact HB.o⟩⟩
    rw [if_neg dn] at H
    replace dn := d0 dn
    replace H := bm H
    obtain ⟨⟨aU, dW, dX⟩, dw, H⟩ := H
    replace H : ((qA2.f aN dW dX).bind fun bK => (qAa.l1 k1 l0 bK.1 aN bK.2.1 bK.2.2 aU ([] : List (S71)))) = some (r1, r2, r3, r4, r5) := H
    have gf := am dw
    clear dw
    replace H := bm H
    obtain ⟨⟨dY, dZ, d2⟩, dx, H⟩ := H
    replace H : (qAa.l1 k1 l0 dY aN dZ d2 aU ([] : List (S71))) = some (r1, r2, r3, r4, r5) := H
    have gg := am dx
    clear dx
    have H' := am H
    clear H
    go_wp2_with (first | ((with_reducible refine qAj (f := 22) rfl ?_); refine gL 34 Try.func22 #[.pointer (some ⟨aY, 0, none⟩), .int .i64 32] ?_; (with_reducible refine (qAp.calls aY aN al an 32 aU dW dX w _ ?side1 ?side2 gf.o).mono ?_); (case side1 => exact aG.o); (case side2 => exact HB.o); rintro e hQ ⟨rfl, hi, hb, hk⟩; refine ⟨_, rfl, ?_⟩; have n_ := a2 (MkR.keepS ag.o hk aG.o (by decide)) (a2 (qAd.blk hk aE.o aQ.o (by simp)) (a2 (hb) (am (hi)))); clear ag aE HB aG; obtain ⟨ag, aE, HB, aG⟩ := n_) | ((with_reducible refine qAC (N := 7) rfl ?_); refine bx 7 #[.string ⟨#[]⟩, .slice none 0 0, .slice none 0 0, .slice none 0 0] 27 ?_; intro aT hg fy hbox hb; have n_ := a2 (MkR.below ag.o hb) (a2 (qAz aE.o hb) (a2 (qAe.below aG.o hb) (a2 (qAo HB.o hb) (a2 (hbox) (a2 (by rw [hg]; exact (qAi HB.o) : w.heap.size ≤ aT) (a2 (by rw [hg]; exact Nat.ne_of_lt (qAO aE.o) : aR ≠ aT) (a2 (by rw [hg]; exact Nat.ne_of_lt (qAe.lt aG.o) : aY ≠ aT) (am (by rw [hg]; exact Nat.ne_of_gt (qAe.lt aG.o) : aT ≠ aY))))))))); clear ag aE aG HB; obtain ⟨ag, aE, aG, HB, aC, bq, aj, bC, aV⟩ := n_; clear hb hbox hg; have cc : fy.cell? ⟨aT, 0, none⟩ = some (.string ⟨#[]⟩) := (qAb aC.o 0).trans rfl; have cd : fy.cell? ⟨aT, 1, none⟩ = some (.slice none 0 0) := (qAb aC.o 1).trans rfl; have ce : fy.cell? ⟨aT, 2, none⟩ = some (.slice none 0 0) := (qAb aC.o 2).trans rfl; have cf : fy.cell? ⟨aT, 3, none⟩ = some (.slice none 0 0) := (qAb aC.o 3).trans rfl; have cg := qAc aC.o 0; have ch := qAc aC.o 1; have ci := qAc aC.o 2; have cj := qAc aC.o 3) | ((with_reducible refine qAj (f := 23) rfl ?_); refine gL 37 Try.func23 #[.pointer (some ⟨aY, 0, none⟩)] ?_; (with_reducible refine (qA2.calls aY aN dW dX dY dZ d2 w _ ?side1 ?side2 gg.o).mono ?_); (case side1 => repeat (with_reducible first | exact aG.o | refine qAe.far ?_ bC.o (by (with_reducible repeat (apply TyB.set)); exact TyB.of aC.o) (by decide) _)); (case side2 => repeat (with_reducible first | exact HB.o | refine qAq ?_ bq.o)); rintro e hR ⟨rfl, hi, hb, hk⟩; refine ⟨_, rfl, ?_⟩; have n_ := a2 (qAd.blk hk (g' := aR) (o := .cells #[.string ⟨#[]⟩, .slice none 0 0, .slice none 0 0, .slice none 0 0] 27 (0, 0)) (by refine qA4 ?_ aj.o _; refine qA4 ?_ aj.o _; refine qA4 ?_ aj.o _; refine qA4 ?_ aj.o _; exact aE.o) aQ.o (by simp)) (a2 (qAd.blk hk (g' := aT) (o := .cells #[.string aU, .slice none 0 0, .slice none 0 0, .slice none 0 0] 27 (0, 0)) (by refine qAt (cs := #[.string aU, .slice none 0 0, .slice none 0 0, .slice none 0 0]) ?_ 3 _ rfl; refine qAt (cs := #[.string aU, .slice none 0 0, .slice none 0 0, .slice none 0 0]) ?_ 2 _ rfl; refine qAt (cs := #[.string aU, .slice none 0 0, .slice none 0 0, .slice none 0 0]) ?_ 1 _ rfl; refine qAt (cs := #[.string ⟨#[]⟩, .slice none 0 0, .slice none 0 0, .slice none 0 0]) ?_ 0 _ rfl; exact aC.o) aV.o (by simp)) (a2 (hb) (am (hi)))); clear ag aE aC HB aG; obtain ⟨aE, aC, HB, aG⟩ := n_))
    go_loopg [8] k1 (fun kq v8 w' => ∃ (bE : Int) (aq : Int) (av : Int) (aH : List (S71)) (aW : Value), v8 = .int .i64 bE ∧ qAf (qAa.l1 kq l0 bE aN aq av aU aH = some (r1, r2, r3, r4, r5)) ∧ qAf (kq ≤ k1) ∧ qAf (Kd.R k71 71 w' w.heap.size (fun _ => True) aW aH) ∧ qAf (w'.heap[aR]? = some (.cells #[.string ⟨#[]⟩, (.slice none 0 0), (.slice none 0 0), (.slice none 0 0)] 27 (0, 0))) ∧ qAf (w'.heap[aT]? = some (.cells #[.string aU, aW, (.slice none 0 0), (.slice none 0 0)] 27 (0, 0))) ∧ qAf (qAe w w' aY aN aq av) ∧ qAf (Below w.heap.size w w'))
    case atStart => exact ⟨(dY), (dZ), (d2), ([] : List (S71)), (.slice none 0 0), (by rfl), H', ⟨Nat.le_refl _⟩, ⟨by (exact Kd.R_nil _ _ _ _ _)⟩, ⟨by exact aE.o⟩, ⟨by exact aC.o⟩, ⟨by exact aG.o⟩, ⟨by exact HB.o⟩⟩
    case round =>
     clear H'
     obtain ⟨bE, aq, av, aH, aW, rfl, HA, cI, aA, aE, aC, aG, HB⟩ := hrel
     cases gk with
     | zero => exact absurd HA.o (by simp [qAa.l1])
     | succ k2 =>
      have H := HA.o
      clear HA
      simp only [qAa.l1] at H
      have dG := am H
      clear H
      go_upto_region 12 with (fail)
      go_cut [44] (fun hG wc => ∃ (kq : Nat) (b2 : Bool) (ac : Int) (ae : Int), hG = .bool b2 ∧ qAf (qAa.j2 kq l0 bE b2 aN ac ae aU aH = some (r1, r2, r3, r4, r5)) ∧ qAf (kq ≤ k2) ∧ qAf (Kd.R k71 71 wc w.heap.size (fun _ => True) aW aH) ∧ qAf (wc.heap[aR]? = some (.cells #[.string ⟨#[]⟩, (.slice none 0 0), (.slice none 0 0), (.slice none 0 0)] 27 (0, 0))) ∧ qAf (wc.heap[aT]? = some (.cells #[.string aU, aW, (.slice none 0 0), (.slice none 0 0)] 27 (0, 0))) ∧ qAf (qAe w wc aY aN ac ae) ∧ qAf (Below w.heap.size w wc))
      case first =>
       have H := dG.o
       clear dG
       by_cases dp : bE > 0
       rotate_left
       ·rw [if_neg dp] at H
        replace dp := d0 dp
        (skip)
        have H' := am H
        clear H
        go_wp2
        go_meet
        case rel => exact ⟨_, (false), (aq), (av), (by rfl), H', ⟨by have := bc.o; have := cI.o; (omega)⟩, ⟨by exact aA.o⟩, ⟨by exact aE.o⟩, ⟨by exact aC.o⟩, ⟨by exact aG.o⟩, ⟨by exact HB.o⟩⟩
       rw [if_pos dp] at H
       replace dp := d1 dp
       (skip)
       replace H := bm H
       obtain ⟨⟨d3, d4, d5⟩, dy, H⟩ := H
       replace H : (qAa.j2 k2 l0 bE (d3 == 0) aN d4 d5 aU aH) = some (r1, r2, r3, r4, r5) := H
       have gh := am dy
       clear dy
       have H' := am H
       clear H
       go_wp2_with (go_at_call 24; (with_reducible refine (qAv.calls aY aN aq av d3 d4 d5 w _ ?side1 ?side2 gh.o).mono ?_); (case side1 => exact aG.o); (case side2 => exact HB.o); rintro e hS ⟨rfl, hi, hb, hk⟩; have n_ := a2 (Kd.R_kp (qAe.apart aG.o aA.o (by decide)) hk) (a2 (qAd.blk hk aE.o aQ.o (by simp)) (a2 (qAd.blk hk aC.o aV.o (by simp)) (a2 (hb) (am (hi))))); clear aA aE aC HB aG; obtain ⟨aA, aE, aC, HB, aG⟩ := n_)
       go_meet
       case rel => exact ⟨_, (d3 == 0), (d4), (d5), (by rfl), H', ⟨by have := bc.o; have := cI.o; (omega)⟩, ⟨by exact aA.o⟩, ⟨by exact aE.o⟩, ⟨by exact aC.o⟩, ⟨by exact aG.o⟩, ⟨by exact HB.o⟩⟩
      case rest =>
       clear dG
       obtain ⟨kq, b2, ac, ae, rfl, HA, bR, aA, aE, aC, aG, HB⟩ := hcut
       cases kq with
       | zero => exact absurd HA.o (by simp [qAa.j2])
       | succ bT =>
        have H := HA.o
        clear HA
        simp only [qAa.j2] at H
        by_cases fm : b2 = true
        ·subst fm
         replace H : ((qAp.f aN ac ae 32).bind fun bL => ((qAg.f aN bL.2.1 bL.2.2).bind fun bA => ((qAB.f aN bA.2.1 bA.2.2).bind fun ao => (if aH.length < 4398046511104 then (qAa.l1 bT l0 (wrap64 (bE - 1)) aN ao.2.1 ao.2.2 aU (aH ++ [(⟨bL.1, (⟨wrap64 (bA.1), ao.1⟩ : S69)⟩ : S71)])) else (none))))) = some (r1, r2, r3, r4, r5) := by rw [if_pos rfl] at H; exact H
         replace H := bm H
         obtain ⟨⟨ba, d6, d7⟩, dz, H⟩ := H
         replace H : ((qAg.f aN d6 d7).bind fun bA => ((qAB.f aN bA.2.1 bA.2.2).bind fun ao => (if aH.length < 4398046511104 then (qAa.l1 bT l0 (wrap64 (bE - 1)) aN ao.2.1 ao.2.2 aU (aH ++ [(⟨ba, (⟨wrap64 (bA.1), ao.1⟩ : S69)⟩ : S71)])) else (none)))) = some (r1, r2, r3, r4, r5) := H
         have gi := am dz
         clear dz
         replace H := bm H
         obtain ⟨⟨bi, d8, d9⟩, eA, H⟩ := H
         replace H : ((qAB.f aN d8 d9).bind fun ao => (if aH.length < 4398046511104 then (qAa.l1 bT l0 (wrap64 (bE - 1)) aN ao.2.1 ao.2.2 aU (aH ++ [(⟨ba, (⟨wrap64 (bi), ao.1⟩ : S69)⟩ : S71)])) else (none))) = some (r1, r2, r3, r4, r5) := H
         have gj := am eA
         clear eA
         replace H := bm H
         obtain ⟨⟨cE, cp, cq⟩, eB, H⟩ := H
         replace H : (if aH.length < 4398046511104 then (qAa.l1 bT l0 (wrap64 (bE - 1)) aN cp cq aU (aH ++ [(⟨ba, (⟨wrap64 (bi), cE⟩ : S69)⟩ : S71)])) else (none)) = some (r1, r2, r3, r4, r5) := H
         have gl := am eB
         clear eB
         obtain ⟨fn, H⟩ := gd H
         have e0 := am fn
         clear fn
         obtain ⟨cy, cW⟩ : ∃ y_ : List (S71), y_ = (aH ++ [(⟨ba, (⟨wrap64 (bi), cE⟩ : S69)⟩ : S71)]) := ⟨_, rfl⟩
         replace H : (qAa.l1 bT l0 (wrap64 (bE - 1)) aN cp cq aU cy) = some (r1, r2, r3, r4, r5) := by (rw [cW]; with_reducible exact H)
         have e3 := am cW
         clear cW
         have H' := am H
         clear H
         try go_wp2
         have n_ := a2 (Kd.R_drew aA.o) (a2 (qCc aE.o) (a2 (qCc aC.o) (a2 (qAe.drew aG.o) (am (qBu HB.o)))))
         clear aA aE aC aG HB
         obtain ⟨aA, aE, aC, aG, HB⟩ := n_
         refine start_ (n := 15) (S := fun w' => w'.cell? ⟨aT, 0, none⟩ = some (.string aU) ∧ w'.cell? ⟨aT, 1, none⟩ = some (aW) ∧ w'.cell? ⟨aT, 2, none⟩ = some (.slice none 0 0) ∧ w'.cell? ⟨aT, 3, none⟩ = some (.slice none 0 0)) (ds := [14]) #[false, false, false, false, false, false, false, false, false, false, false, false, false, false, false] (by kernel_rfl) rfl rfl ⟨(qAb aC.o 0).trans rfl, (qAb aC.o 1).trans rfl, (qAb aC.o 2).trans rfl, (qAb aC.o 3).trans rfl⟩ (fun hHeld => ?_); refine qDc qAa.tab14 qAa.bits14 (fun HT_ HW_ => ?_)
         generalize wc.drew = hT at aA aE aC aG HB hHeld ⊢
         refine pu 0 47 #[true, false, false, false, false, false, false, false, false, false, false, false, false, false, false] (qAX HT_.o (by kernel_rfl)) ?_
         refine pu 2 49 #[true, false, true, false, false, false, false, false, false, false, false, false, false, false, false] (qAX HT_.o (by kernel_rfl)) ?_
         refine pu 4 51 #[true, false, true, false, true, false, false, false, false, false, false, false, false, false, false] (qAX HT_.o (by kernel_rfl)) ?_
         refine pu 7 54 #[true, false, true, false, true, false, false, true, false, false, false, false, false, false, false] (qAX HT_.o (by kernel_rfl)) ?_
         refine take_ (i := 1) (N := some 48) (v := ?_) (a' := ?_) #[true, true, true, false, true, false, false, true, false, false, false, false, false, false, false] rfl rfl (qCA HT_.o HW_.o (by kernel_rfl)) (fun _ _ _ h => h) (Or.inl ⟨by rfl, ?_⟩) hHeld ?_ ?_
         rotate_left
         ·rintro w' ⟨s0, s1, s2, s3⟩
          go_simp
          with_reducible rfl
         rotate_left
         ·simp only [Act.put, List.setIfInBounds_toArray, List.set_cons_zero, List.set_cons_succ]
          rfl
         refine one_ (i := 3) (N := some 50) #[true, true, true, true, true, false, false, true, false, false, false, false, false, false, false] rfl rfl (qBx HT_.o (by kernel_rfl)) (by decide) (fun K hK => ?_)
         refine qDJ Try.func22 (by kernel_rfl) rfl #[.pointer (some ⟨aY, 0, none⟩), .int .i64 32] (by rfl) rfl rfl (by (try simp only [List.map_toArray, List.map_cons, List.map_nil]); (rfl)) ?_
         with_reducible refine (qAp.calls aY aN ac ae 32 ba d6 d7 w _ ?side1 ?side2 gi.o).mono ?_
         (case side1 => exact aG.o)
         (case side2 => exact HB.o)
         rintro e hU ⟨rfl, hi, hb, hk⟩
         refine ⟨_, rfl, ?_⟩
         have n_ := a2 (Kd.R_kp (qAe.apart aG.o aA.o (by decide)) hk) (a2 (qAd.blk hk aE.o aQ.o (by simp)) (a2 (qAd.blk hk aC.o aV.o (by simp)) (a2 (hb) (am (hi)))))
         clear aA aE aC HB aG
         obtain ⟨aA, aE, aC, HB, aG⟩ := n_
         (try clear hb)
         (skip)
         (try clear hk)
         (try clear hi)
         refine hK.o _ _ ⟨(qAb aC.o 0).trans rfl, (qAb aC.o 1).trans rfl, (qAb aC.o 2).trans rfl, (qAb aC.o 3).trans rfl⟩ (fun hHeld => ?_)
         clear hK K
         refine qCu (a' := ?_) ?_ ?_
         rotate_left
         ·show Act.put _ (some 50) _ = _
          simp only [Act.put, List.setIfInBounds_toArray, List.set_cons_zero, List.set_cons_succ]
          rfl
         refine one_ (i := 5) (N := some 52) #[true, true, true, true, true, true, false, true, false, false, false, false, false, false, false] rfl rfl (qBx HT_.o (by kernel_rfl)) (by decide) (fun K hK => ?_)
         refine qDJ Try.func20 (by kernel_rfl) rfl #[.pointer (some ⟨aY, 0, none⟩)] (by rfl) rfl rfl (by (try simp only [List.map_toArray, List.map_cons, List.map_nil]); (rfl)) ?_
         with_reducible refine (qAg.calls aY aN d6 d7 bi d8 d9 w _ ?side1 ?side2 gj.o).mono ?_
         (case side1 => exact aG.o)
         (case side2 => exact HB.o)
         rintro e hV ⟨rfl, hi, hb, hk⟩
         refine ⟨_, rfl, ?_⟩
         have n_ := a2 (Kd.R_kp (qAe.apart aG.o aA.o (by decide)) hk) (a2 (qAd.blk hk aE.o aQ.o (by simp)) (a2 (qAd.blk hk aC.o aV.o (by simp)) (a2 (hb) (am (hi)))))
         clear aA aE aC HB aG
         obtain ⟨aA, aE, aC, HB, aG⟩ := n_
         (try clear hb)
         (skip)
         (try clear hk)
         (try clear hi)
         refine hK.o _ _ ⟨(qAb aC.o 0).trans rfl, (qAb aC.o 1).trans rfl, (qAb aC.o 2).trans rfl, (qAb aC.o 3).trans rfl⟩ (fun hHeld => ?_)
         clear hK K
         refine qCu (a' := ?_) ?_ ?_
         rotate_left
         ·show Act.put _ (some 52) _ = _
          simp only [Act.put, List.setIfInBounds_toArray, List.set_cons_zero, List.set_cons_succ]
          rfl
         refine pure_ (i := 6) (N := some 53) (v := ?_) (a' := ?_) #[true, true, true, true, true, true, true, true, false, false, false, false, false, false, false] rfl rfl (qAX HT_.o (by kernel_rfl)) (fun _ _ _ h => h) (Or.inl ⟨by rfl, ?_⟩) ?_ ?_
         rotate_left
         ·intro w'
          go_simp
          with_reducible rfl
         rotate_left
         ·simp only [Act.put, List.setIfInBounds_toArray, List.set_cons_zero, List.set_cons_succ, i64_w]
          rfl
         refine one_ (i := 8) (N := some 55) #[true, true, true, true, true, true, true, true, true, false, false, false, false, false, false] rfl rfl (qBx HT_.o (by kernel_rfl)) (by decide) (fun K hK => ?_)
         refine qDJ Try.func25 (by kernel_rfl) rfl #[.pointer (some ⟨aY, 0, none⟩)] (by rfl) rfl rfl (by (try simp only [List.map_toArray, List.map_cons, List.map_nil]); (rfl)) ?_
         with_reducible refine (qAB.calls aY aN d8 d9 cE cp cq w _ ?side1 ?side2 gl.o).mono ?_
         (case side1 => exact aG.o)
         (case side2 => exact HB.o)
         rintro e hW ⟨rfl, hi, hb, hk⟩
         refine ⟨_, rfl, ?_⟩
         have n_ := a2 (Kd.R_kp (qAe.apart aG.o aA.o (by decide)) hk) (a2 (qAd.blk hk aE.o aQ.o (by simp)) (a2 (qAd.blk hk aC.o aV.o (by simp)) (a2 (hb) (am (hi)))))
         clear aA aE aC HB aG
         obtain ⟨aA, aE, aC, HB, aG⟩ := n_
         (try clear hb)
         (skip)
         (try clear hk)
         (try clear hi)
         refine hK.o _ _ ⟨(qAb aC.o 0).trans rfl, (qAb aC.o 1).trans rfl, (qAb aC.o 2).trans rfl, (qAb aC.o 3).trans rfl⟩ (fun hHeld => ?_)
         clear hK K
         refine qCu (a' := ?_) ?_ ?_
         rotate_left
         ·show Act.put _ (some 55) _ = _
          simp only [Act.put, List.setIfInBounds_toArray, List.set_cons_zero, List.set_cons_succ]
          rfl
         refine pu 9 56 #[true, true, true, true, true, true, true, true, true, true, false, false, false, false, false] (qAX HT_.o (by kernel_rfl)) ?_
         refine pu 10 57 #[true, true, true, true, true, true, true, true, true, true, true, false, false, false, false] (qAX HT_.o (by kernel_rfl)) ?_
         refine one_ (i := 11) (N := some 58) #[true, true, true, true, true, true, true, true, true, true, true, true, false, false, false] rfl rfl (qBx HT_.o (by kernel_rfl)) (by decide) (fun K hK => ?_)
         refine value_ (w1 := ?_) (v := ?_) (by rfl) rfl ?_ ?_
         rotate_left 2
         ·go_simp
          constructor
          ·rfl
          rfl
         refine hK.o _ _ ⟨(qAb (qAR aC.o _) 0).trans rfl, (qAb (qAR aC.o _) 1).trans rfl, (qAb (qAR aC.o _) 2).trans rfl, (qAb (qAR aC.o _) 3).trans rfl⟩ (fun hHeld => ?_)
         clear hK K
         refine qCu (a' := ?_) ?_ ?_
         rotate_left
         ·show Act.put _ (some 58) _ = _
          simp only [Act.put, List.setIfInBounds_toArray, List.set_cons_zero, List.set_cons_succ]
          rfl
         refine one_ (i := 12) (N := some 59) #[true, true, true, true, true, true, true, true, true, true, true, true, true, false, false] rfl rfl (qBx HT_.o (by kernel_rfl)) (by decide) (fun K hK => ?_)
         refine Kd.R_append_step k71 (w0 := w) w.heap.size (by rfl) (.tmp 48) (.tmp 58) 23 71 (.agg #[(.string ⟨#[]⟩), (.int .i64 0), (.int .u64 0)]) 32 rfl Try.underlying23 info71 rfl (by decide) (by omega) aW aH (⟨ba, (⟨wrap64 (bi), cE⟩ : S69)⟩ : S71) [.string ba, .int .i64 (wrap64 (bi)), .int .u64 cE] (fun _ => True) (fun _ => False) rfl rfl ?aP (fun _ hk => hk.elim) ?aF ?aO ?aB ?aS ?aL ?_
         (case aP => exact k71_mkM _ _ _ (⟨ba, (⟨wrap64 (bi), cE⟩ : S69)⟩ : S71))
         (case aB => exact HB.o)
         (case aF => exact (fun _ _ => trivial))
         (case aO => exact aA.o)
         (case aS => exact (qAi HB.o))
         (case aL => have := e0.o; omega)
         intro hA hX ho hb hg ew
         rw [← e3.o] at ho
         have n_ := a2 (qAP (g := aR) (o := .cells #[.string ⟨#[]⟩, .slice none 0 0, .slice none 0 0, .slice none 0 0] 27 (0, 0)) aE.o hg (Kd.R_ne aA.o aE.o (by decide))) (a2 (qAP (g := aT) (o := .cells #[.string aU, aW, .slice none 0 0, .slice none 0 0] 27 (0, 0)) aC.o hg (Kd.R_ne aA.o aC.o (by decide))) (a2 (qAe.grownR aG.o hg aG.o aA.o (by decide) (fun b_ t_ h_ => h_)) (a2 (hb) (am (ho)))))
         clear aE aC aG HB aA
         obtain ⟨aE, aC, aG, HB, dA⟩ := n_
         clear ho hb hg ew
         obtain ⟨eU, el, gK⟩ := Kd.R_slice dA.o
         (subst gK)
         refine hK.o _ _ ⟨(qAb aC.o 0).trans rfl, (qAb aC.o 1).trans rfl, (qAb aC.o 2).trans rfl, (qAb aC.o 3).trans rfl⟩ (fun hHeld => ?_)
         clear hK K
         refine qCu (a' := ?_) ?_ ?_
         rotate_left
         ·show Act.put _ (some 59) _ = _
          simp only [Act.put, List.setIfInBounds_toArray, List.set_cons_zero, List.set_cons_succ]
          rfl
         refine pu 13 60 #[true, true, true, true, true, true, true, true, true, true, true, true, true, true, false] (qAX HT_.o (by kernel_rfl)) ?_
         refine last_ (i := 14) (N := none) #[true, true, true, true, true, true, true, true, true, true, true, true, true, true, true] rfl rfl (qBx HT_.o (by kernel_rfl)) (by decide) (fun K hK => ?_)
         have hfs43 := qAc aC.o 1
         refine skip_ (w1 := ?_) (by rfl) rfl ?_ ?_
         rotate_left
         ·go_simp
          rfl
         refine hK.o _ _ ?_
         clear hK K
         refine done_ (done_of HT_.o (by kernel_rfl)) ?_
         try go_wp2
         go_roundg bT
         case measure => have := bc.o; have := cI.o; have := bR.o; omega
         case rel => exact ⟨(wrap64 (bE - 1)), (cp), (cq), (cy), (.slice eU cy.length el), (by rfl), H', ⟨by have := bc.o; have := cI.o; have := bR.o; omega⟩, ⟨by exact Kd.R_mono (Kd.R_far (p := ⟨aT, 1, none⟩) (Kd.R_types dA.o aC.o (by decide)) (fun _ hk => hk.2) (.slice eU cy.length el)) (fun _ hk => trivial)⟩, ⟨by refine qA4 ?_ aj.o _; exact aE.o⟩, ⟨by refine qAt (cs := #[.string aU, aW, .slice none 0 0, .slice none 0 0]) ?_ 1 _ rfl; exact aC.o⟩, ⟨by repeat (with_reducible first | exact aG.o | refine qAe.far ?_ bC.o (by exact TyB.of aC.o) (by decide) _)⟩, ⟨by repeat (with_reducible first | exact HB.o | refine qAq ?_ bq.o)⟩⟩
        replace fm := Bool.eq_false_iff.mpr fm
        subst fm
        replace H : ((qA2.f aN ac ae).bind fun bM => (qAa.l2 bT l0 bM.1 aN bM.2.1 bM.2.2 aU aH ([] : List (S80)))) = some (r1, r2, r3, r4, r5) := by rw [if_neg (show ¬ (false = true) by decide)] at H; exact H
        replace H := bm H
        obtain ⟨⟨da, db, dc⟩, eC, H⟩ := H
        replace H : (qAa.l2 bT l0 da aN db dc aU aH ([] : List (S80))) = some (r1, r2, r3, r4, r5) := H
        have gm := am eC
        clear eC
        have H' := am H
        clear H
        go_wp2_with ((with_reducible refine qAj (f := 23) rfl ?_); refine gL 62 Try.func23 #[.pointer (some ⟨aY, 0, none⟩)] ?_; (with_reducible refine (qA2.calls aY aN ac ae da db dc w _ ?side1 ?side2 gm.o).mono ?_); (case side1 => exact aG.o); (case side2 => exact HB.o); rintro e hY ⟨rfl, hi, hb, hk⟩; refine ⟨_, rfl, ?_⟩; have n_ := a2 (Kd.R_kp (qAe.apart aG.o aA.o (by decide)) hk) (a2 (qAd.blk hk aE.o aQ.o (by simp)) (a2 (qAd.blk hk aC.o aV.o (by simp)) (a2 (hb) (am (hi))))); clear aA aE aC HB aG; obtain ⟨aA, aE, aC, HB, aG⟩ := n_)
        go_loopg [9] bT (fun kq v9 w' => ∃ (bG : Int) (ar : Int) (aw : Int) (aJ : List (S80)) (aX : Value), v9 = .int .i64 bG ∧ qAf (qAa.l2 kq l0 bG aN ar aw aU aH aJ = some (r1, r2, r3, r4, r5)) ∧ qAf (kq ≤ bT) ∧ qAf (Kd.R k71 71 w' w.heap.size (fun _ => True) aW aH) ∧ qAf (Kd.S k80 80 w' w.heap.size (fun _ => True) aX aJ) ∧ qAf (w'.heap[aR]? = some (.cells #[.string ⟨#[]⟩, (.slice none 0 0), (.slice none 0 0), (.slice none 0 0)] 27 (0, 0))) ∧ qAf (w'.heap[aT]? = some (.cells #[.string aU, aW, aX, (.slice none 0 0)] 27 (0, 0))) ∧ qAf (qAe w w' aY aN ar aw) ∧ qAf (Below w.heap.size w w'))
        case atStart => exact ⟨(da), (db), (dc), ([] : List (S80)), (.slice none 0 0), (by rfl), H', ⟨Nat.le_refl _⟩, ⟨by exact aA.o⟩, ⟨by (exact Kd.S_nil _ _ _ _ _)⟩, ⟨by exact aE.o⟩, ⟨by exact aC.o⟩, ⟨by exact aG.o⟩, ⟨by exact HB.o⟩⟩
        case round =>
         clear H'
         obtain ⟨bG, ar, aw, aJ, aX, rfl, HA, cz, aA, aD, aE, aC, aG, HB⟩ := hrel
         cases gk with
         | zero => exact absurd HA.o (by simp [qAa.l2])
         | succ k4 =>
          have H := HA.o
          clear HA
          simp only [qAa.l2] at H
          have dH := am H
          clear H
          go_upto_region 16 with (fail)
          go_cut [69] (fun hH wc => ∃ (kq : Nat) (b3 : Bool) (ad : Int) (af : Int), hH = .bool b3 ∧ qAf (qAa.j4 kq l0 bG b3 aN ad af aU aH aJ = some (r1, r2, r3, r4, r5)) ∧ qAf (kq ≤ k4) ∧ qAf (Kd.R k71 71 wc w.heap.size (fun _ => True) aW aH) ∧ qAf (Kd.S k80 80 wc w.heap.size (fun _ => True) aX aJ) ∧ qAf (wc.heap[aR]? = some (.cells #[.string ⟨#[]⟩, (.slice none 0 0), (.slice none 0 0), (.slice none 0 0)] 27 (0, 0))) ∧ qAf (wc.heap[aT]? = some (.cells #[.string aU, aW, aX, (.slice none 0 0)] 27 (0, 0))) ∧ qAf (qAe w wc aY aN ad af) ∧ qAf (Below w.heap.size w wc))
          case first =>
           have H := dH.o
           clear dH
           by_cases dq : bG > 0
           rotate_left
           ·rw [if_neg dq] at H
            replace dq := d0 dq
            (skip)
            have H' := am H
            clear H
            go_wp2
            go_meet
            case rel => exact ⟨_, (false), (ar), (aw), (by rfl), H', ⟨by have := bc.o; have := cI.o; have := bR.o; have := cz.o; (omega)⟩, ⟨by exact aA.o⟩, ⟨by exact aD.o⟩, ⟨by exact aE.o⟩, ⟨by exact aC.o⟩, ⟨by exact aG.o⟩, ⟨by exact HB.o⟩⟩
           rw [if_pos dq] at H
           replace dq := d1 dq
           (skip)
           replace H := bm H
           obtain ⟨⟨dd, de, df⟩, eD, H⟩ := H
           replace H : (qAa.j4 k4 l0 bG (dd == 0) aN de df aU aH aJ) = some (r1, r2, r3, r4, r5) := H
           have gn := am eD
           clear eD
           have H' := am H
           clear H
           go_wp2_with (go_at_call 24; (with_reducible refine (qAv.calls aY aN ar aw dd de df w _ ?side1 ?side2 gn.o).mono ?_); (case side1 => exact aG.o); (case side2 => exact HB.o); rintro e hZ ⟨rfl, hi, hb, hk⟩; have n_ := a2 (Kd.R_kp (qAe.apart aG.o aA.o (by decide)) hk) (a2 (Kd.S_mono (Kd.S_keep (qAe.apartS aG.o aD.o (by decide)) hk (fun _ h => h.2)) (fun _ h => h.1)) (a2 (qAd.blk hk aE.o aQ.o (by simp)) (a2 (qAd.blk hk aC.o aV.o (by simp)) (a2 (hb) (am (hi)))))); clear aA aD aE aC HB aG; obtain ⟨aA, aD, aE, aC, HB, aG⟩ := n_)
           go_meet
           case rel => exact ⟨_, (dd == 0), (de), (df), (by rfl), H', ⟨by have := bc.o; have := cI.o; have := bR.o; have := cz.o; (omega)⟩, ⟨by exact aA.o⟩, ⟨by exact aD.o⟩, ⟨by exact aE.o⟩, ⟨by exact aC.o⟩, ⟨by exact aG.o⟩, ⟨by exact HB.o⟩⟩
          case rest =>
           clear dH
           obtain ⟨kq, b3, ad, af, rfl, HA, bw, aA, aD, aE, aC, aG, HB⟩ := hcut
           cases kq with
           | zero => exact absurd HA.o (by simp [qAa.j4])
           | succ bI =>
            have H := HA.o
            clear HA
            simp only [qAa.j4] at H
            by_cases fo : b3 = true
            ·subst fo
             replace H : ((qAp.f aN ad af 32).bind fun bN => ((qAU.f bI aN bN.2.1 bN.2.2).bind fun ah => (if aJ.length < 1466015503701 then (qAa.l2 bI l0 (wrap64 (bG - 1)) aN ah.2.2.2.2.1 ah.2.2.2.2.2 aU aH (aJ ++ [(⟨bN.1, (⟨(⟨ah.1, ah.2.1⟩ : S74), ah.2.2.1, ah.2.2.2.1⟩ : S77)⟩ : S80)])) else (none)))) = some (r1, r2, r3, r4, r5) := by rw [if_pos rfl] at H; exact H
             replace H := bm H
             obtain ⟨⟨bj, dg, dh⟩, eE, H⟩ := H
             replace H : ((qAU.f bI aN dg dh).bind fun ah => (if aJ.length < 1466015503701 then (qAa.l2 bI l0 (wrap64 (bG - 1)) aN ah.2.2.2.2.1 ah.2.2.2.2.2 aU aH (aJ ++ [(⟨bj, (⟨(⟨ah.1, ah.2.1⟩ : S74), ah.2.2.1, ah.2.2.2.1⟩ : S77)⟩ : S80)])) else (none))) = some (r1, r2, r3, r4, r5) := H
             have go := am eE
             clear eE
             replace H := bm H
             obtain ⟨⟨bk, cF, bl, bo, cr, ct⟩, eF, H⟩ := H
             replace H : (if aJ.length < 1466015503701 then (qAa.l2 bI l0 (wrap64 (bG - 1)) aN cr ct aU aH (aJ ++ [(⟨bj, (⟨(⟨bk, cF⟩ : S74), bl, bo⟩ : S77)⟩ : S80)])) else (none)) = some (r1, r2, r3, r4, r5) := H
             have gp := am eF
             clear eF
             obtain ⟨fp, H⟩ := gd H
             have e1 := am fp
             clear fp
             obtain ⟨cZ, cX⟩ : ∃ y_ : List (S80), y_ = (aJ ++ [(⟨bj, (⟨(⟨bk, cF⟩ : S74), bl, bo⟩ : S77)⟩ : S80)]) := ⟨_, rfl⟩
             replace H : (qAa.l2 bI l0 (wrap64 (bG - 1)) aN cr ct aU aH cZ) = some (r1, r2, r3, r4, r5) := by (rw [cX]; with_reducible exact H)
             have e4 := am cX
             clear cX
             have H' := am H
             clear H
             try go_wp2
             have n_ := a2 (Kd.R_drew aA.o) (a2 (Kd.S_drew aD.o) (a2 (qCc aE.o) (a2 (qCc aC.o) (a2 (qAe.drew aG.o) (am (qBu HB.o))))))
             clear aA aD aE aC aG HB
             obtain ⟨aA, aD, aE, aC, aG, HB⟩ := n_
             refine start_ (n := 11) (S := fun w' => w'.cell? ⟨aT, 0, none⟩ = some (.string aU) ∧ w'.cell? ⟨aT, 1, none⟩ = some (aW) ∧ w'.cell? ⟨aT, 2, none⟩ = some (aX) ∧ w'.cell? ⟨aT, 3, none⟩ = some (.slice none 0 0)) (ds := [10]) #[false, false, false, false, false, false, false, false, false, false, false] (by kernel_rfl) rfl rfl ⟨(qAb aC.o 0).trans rfl, (qAb aC.o 1).trans rfl, (qAb aC.o 2).trans rfl, (qAb aC.o 3).trans rfl⟩ (fun hHeld => ?_); refine qDc qAa.tab18 qAa.bits18 (fun HT_ HW_ => ?_)
             generalize wc.drew = h0 at aA aD aE aC aG HB hHeld ⊢
             refine pu 0 72 #[true, false, false, false, false, false, false, false, false, false, false] (qAX HT_.o (by kernel_rfl)) ?_
             refine pu 2 74 #[true, false, true, false, false, false, false, false, false, false, false] (qAX HT_.o (by kernel_rfl)) ?_
             refine pu 4 76 #[true, false, true, false, true, false, false, false, false, false, false] (qAX HT_.o (by kernel_rfl)) ?_
             refine take_ (i := 1) (N := some 73) (v := ?_) (a' := ?_) #[true, true, true, false, true, false, false, false, false, false, false] rfl rfl (qCA HT_.o HW_.o (by kernel_rfl)) (fun _ _ _ h => h) (Or.inl ⟨by rfl, ?_⟩) hHeld ?_ ?_
             rotate_left
             ·rintro w' ⟨s0, s1, s2, s3⟩
              go_simp
              with_reducible rfl
             rotate_left
             ·simp only [Act.put, List.setIfInBounds_toArray, List.set_cons_zero, List.set_cons_succ]
              rfl
             refine one_ (i := 3) (N := some 75) #[true, true, true, true, true, false, false, false, false, false, false] rfl rfl (qBx HT_.o (by kernel_rfl)) (by decide) (fun K hK => ?_)
             refine qDJ Try.func22 (by kernel_rfl) rfl #[.pointer (some ⟨aY, 0, none⟩), .int .i64 32] (by rfl) rfl rfl (by (try simp only [List.map_toArray, List.map_cons, List.map_nil]); (rfl)) ?_
             with_reducible refine (qAp.calls aY aN ad af 32 bj dg dh w _ ?side1 ?side2 go.o).mono ?_
             (case side1 => exact aG.o)
             (case side2 => exact HB.o)
             rintro e h1 ⟨rfl, hi, hb, hk⟩
             refine ⟨_, rfl, ?_⟩
             have n_ := a2 (Kd.R_kp (qAe.apart aG.o aA.o (by decide)) hk) (a2 (Kd.S_mono (Kd.S_keep (qAe.apartS aG.o aD.o (by decide)) hk (fun _ h => h.2)) (fun _ h => h.1)) (a2 (qAd.blk hk aE.o aQ.o (by simp)) (a2 (qAd.blk hk aC.o aV.o (by simp)) (a2 (hb) (am (hi))))))
             clear aA aD aE aC HB aG
             obtain ⟨aA, aD, aE, aC, HB, aG⟩ := n_
             (try clear hb)
             (skip)
             (try clear hk)
             (try clear hi)
             refine hK.o _ _ ⟨(qAb aC.o 0).trans rfl, (qAb aC.o 1).trans rfl, (qAb aC.o 2).trans rfl, (qAb aC.o 3).trans rfl⟩ (fun hHeld => ?_)
             clear hK K
             refine qCu (a' := ?_) ?_ ?_
             rotate_left
             ·show Act.put _ (some 75) _ = _
              simp only [Act.put, List.setIfInBounds_toArray, List.set_cons_zero, List.set_cons_succ]
              rfl
             refine one_ (i := 5) (N := some 77) #[true, true, true, true, true, true, false, false, false, false, false] rfl rfl (qBx HT_.o (by kernel_rfl)) (by decide) (fun K hK => ?_)
             refine qDJ Try.func26 (by kernel_rfl) rfl #[.pointer (some ⟨aY, 0, none⟩)] (by rfl) rfl rfl (by (try simp only [List.map_toArray, List.map_cons, List.map_nil]); (rfl)) ?_
             with_reducible refine (qAU.calls bI aY aN dg dh bk cF bl bo cr ct w _ ?side1 ?side2 gp.o).mono ?_
             (case side1 => exact aG.o)
             (case side2 => exact HB.o)
             rintro e h2 ⟨hB, hC, hD, rfl, cU, g3, g4, hi, hb, hk⟩
             refine ⟨_, rfl, ?_⟩
             have n_ := a2 (Kd.R_kp (qAe.apart aG.o aA.o (by decide)) hk) (a2 (Kd.S_mono (Kd.S_told (Kd.S_told (Kd.S_told (Kd.S_oldK (qAe.apartS aG.o aD.o (by decide)) hk) (Kd.R_base cU)) (Kd.R_base g3)) (Kd.R_base g4)) (fun _ h_ => h_.1)) (a2 (qAd.blk hk aE.o aQ.o (by simp)) (a2 (qAd.blk hk aC.o aV.o (by simp)) (a2 (Kd.R_lower cU (qAi HB.o)) (a2 (Kd.R_lower g3 (qAi HB.o)) (a2 (Kd.R_lower g4 (qAi HB.o)) (a2 (hb) (am (hi)))))))))
             clear aA aD aE aC HB aG
             obtain ⟨aA, aD, aE, aC, br, bs, bu, HB, aG⟩ := n_
             (try clear hb)
             (skip)
             (try clear hk)
             (try clear hi)
             (try clear cU)
             (try clear g3)
             (try clear g4)
             obtain ⟨eV, em, gM⟩ := Kd.R_slice bu.o
             (subst gM)
             obtain ⟨eW, en, gN⟩ := Kd.R_slice bs.o
             (subst gN)
             obtain ⟨eX, eo, gO⟩ := Kd.R_slice br.o
             (subst gO)
             refine hK.o _ _ ⟨(qAb aC.o 0).trans rfl, (qAb aC.o 1).trans rfl, (qAb aC.o 2).trans rfl, (qAb aC.o 3).trans rfl⟩ (fun hHeld => ?_)
             clear hK K
             refine qCu (a' := ?_) ?_ ?_
             rotate_left
             ·show Act.put _ (some 77) _ = _
              simp only [Act.put, List.setIfInBounds_toArray, List.set_cons_zero, List.set_cons_succ]
              rfl
             refine pu 6 78 #[true, true, true, true, true, true, true, false, false, false, false] (qAX HT_.o (by kernel_rfl)) ?_
             refine one_ (i := 7) (N := some 79) #[true, true, true, true, true, true, true, true, false, false, false] rfl rfl (qBx HT_.o (by kernel_rfl)) (by decide) (fun K hK => ?_)
             refine value_ (w1 := ?_) (v := ?_) (by rfl) rfl ?_ ?_
             rotate_left 2
             ·go_simp
              constructor
              ·rfl
              rfl
             refine hK.o _ _ ⟨(qAb (qAR aC.o _) 0).trans rfl, (qAb (qAR aC.o _) 1).trans rfl, (qAb (qAR aC.o _) 2).trans rfl, (qAb (qAR aC.o _) 3).trans rfl⟩ (fun hHeld => ?_)
             clear hK K
             refine qCu (a' := ?_) ?_ ?_
             rotate_left
             ·show Act.put _ (some 79) _ = _
              simp only [Act.put, List.setIfInBounds_toArray, List.set_cons_zero, List.set_cons_succ]
              rfl
             refine one_ (i := 8) (N := some 80) #[true, true, true, true, true, true, true, true, true, false, false] rfl rfl (qBx HT_.o (by kernel_rfl)) (by decide) (fun K hK => ?_)
             refine Kd.S_append_step k80 (w0 := w) w.heap.size (by rfl) (.tmp 73) (.tmp 79) 24 80 (.agg #[(.string ⟨#[]⟩), (.slice none 0 0), (.int .i64 0), (.slice none 0 0), (.slice none 0 0)]) 96 rfl Try.underlying24 info80 rfl (by decide) (by omega) aX aJ (⟨bj, (⟨(⟨bk, cF⟩ : S74), bl, bo⟩ : S77)⟩ : S80) [.string bj, .slice eX bk.length eo, .int .i64 cF, .slice eW bl.length en, .slice eV bo.length em] (fun _ => True) (fun k_ => some k_ = (.slice eX bk.length eo : Value).ownBlock ∨ some k_ = (.slice eW bl.length en : Value).ownBlock ∨ some k_ = (.slice eV bo.length em : Value).ownBlock) rfl rfl ?aP (fun k_ hk_ => hk_.elim (fun h_ => (Kd.R_mono (ok' := fun k_ => (fun _ => True) k_ ∧ some k_ ≠ (aX : Value).ownBlock) (Kd.R_apart' br.o (Kd.S_typed aD.o) (by decide)) (fun k_ hk => ⟨trivial, hk.2⟩)).1 k_ h_.symm) (fun h_ => h_.elim (fun h_ => (Kd.R_mono (ok' := fun k_ => (fun _ => True) k_ ∧ some k_ ≠ (aX : Value).ownBlock) (Kd.R_apart' bs.o (Kd.S_typed aD.o) (by decide)) (fun k_ hk => ⟨trivial, hk.2⟩)).1 k_ h_.symm) (fun h_ => (Kd.R_mono (ok' := fun k_ => (fun _ => True) k_ ∧ some k_ ≠ (aX : Value).ownBlock) (Kd.R_apart' bu.o (Kd.S_typed aD.o) (by decide)) (fun k_ hk => ⟨trivial, hk.2⟩)).1 k_ h_.symm))) ?aF ?aO ?aB ?aS ?aL ?_
             (case aP => exact k80_mkM _ _ _ (⟨bj, (⟨(⟨bk, cF⟩ : S74), bl, bo⟩ : S77)⟩ : S80) (Kd.R_mono (Kd.R_tight rfl (Kd.R_mono (ok' := fun k_ => (fun _ => True) k_ ∧ some k_ ≠ (aX : Value).ownBlock) (Kd.R_apart' br.o (Kd.S_typed aD.o) (by decide)) (fun k_ hk => ⟨trivial, hk.2⟩))) (fun _ h_ => Or.inl h_)) (Kd.R_mono (Kd.R_tight rfl (Kd.R_mono (ok' := fun k_ => (fun _ => True) k_ ∧ some k_ ≠ (aX : Value).ownBlock) (Kd.R_apart' bs.o (Kd.S_typed aD.o) (by decide)) (fun k_ hk => ⟨trivial, hk.2⟩))) (fun _ h_ => Or.inr (Or.inl h_))) (Kd.R_mono (Kd.R_tight rfl (Kd.R_mono (ok' := fun k_ => (fun _ => True) k_ ∧ some k_ ≠ (aX : Value).ownBlock) (Kd.R_apart' bu.o (Kd.S_typed aD.o) (by decide)) (fun k_ hk => ⟨trivial, hk.2⟩))) (fun _ h_ => Or.inr (Or.inr (h_)))))
             (case aB => exact HB.o)
             (case aF => exact (fun _ _ => trivial))
             (case aO => exact (by exact Kd.S_mono aD.o (fun k_ hk => ⟨trivial, fun e_ => e_.elim (fun h_ => hk.1.1.2 h_) (fun h_ => h_.elim (fun h_ => hk.1.2 h_) (fun h_ => hk.2 h_))⟩)))
             (case aS => exact (qAi HB.o))
             (case aL => have := e1.o; omega)
             intro hE h3 ho hb hg ew
             rw [← e4.o] at ho
             have n_ := a2 (Kd.R_over' aA.o (Kd.S_typed aD.o) (by decide) hg) (a2 (qAP (g := aR) (o := .cells #[.string ⟨#[]⟩, .slice none 0 0, .slice none 0 0, .slice none 0 0] 27 (0, 0)) aE.o hg (Kd.S_ne aD.o aE.o (by decide))) (a2 (qAP (g := aT) (o := .cells #[.string aU, aW, aX, .slice none 0 0] 27 (0, 0)) aC.o hg (Kd.S_ne aD.o aC.o (by decide))) (a2 (qAe.grownRS aG.o hg aG.o aD.o (by decide) (fun b_ t_ h_ => h_)) (a2 (hb) (am (ho))))))
             clear aA aE aC aG HB aD br bs bu
             obtain ⟨aA, aE, aC, aG, HB, dB⟩ := n_
             clear ho hb hg ew
             obtain ⟨dF, dJ, gP⟩ := Kd.S_slice dB.o
             (subst gP)
             refine hK.o _ _ ⟨(qAb aC.o 0).trans rfl, (qAb aC.o 1).trans rfl, (qAb aC.o 2).trans rfl, (qAb aC.o 3).trans rfl⟩ (fun hHeld => ?_)
             clear hK K
             refine qCu (a' := ?_) ?_ ?_
             rotate_left
             ·show Act.put _ (some 80) _ = _
              simp only [Act.put, List.setIfInBounds_toArray, List.set_cons_zero, List.set_cons_succ]
              rfl
             refine pu 9 81 #[true, true, true, true, true, true, true, true, true, true, false] (qAX HT_.o (by kernel_rfl)) ?_
             refine last_ (i := 10) (N := none) #[true, true, true, true, true, true, true, true, true, true, true] rfl rfl (qBx HT_.o (by kernel_rfl)) (by decide) (fun K hK => ?_)
             have hfs62 := qAc aC.o 2
             refine skip_ (w1 := ?_) (by rfl) rfl ?_ ?_
             rotate_left
             ·go_simp
              rfl
             refine hK.o _ _ ?_
             clear hK K
             refine done_ (done_of HT_.o (by kernel_rfl)) ?_
             try go_wp2
             go_roundg bI
             case measure => have := bc.o; have := cI.o; have := bR.o; have := cz.o; have := bw.o; omega
             case rel => exact ⟨(wrap64 (bG - 1)), (cr), (ct), (cZ), (.slice dF cZ.length dJ), (by rfl), H', ⟨by have := bc.o; have := cI.o; have := bR.o; have := cz.o; have := bw.o; omega⟩, ⟨by exact Kd.R_mono (Kd.R_far (p := ⟨aT, 2, none⟩) (Kd.R_types aA.o aC.o (by decide)) (fun _ hk => hk.2) (.slice dF cZ.length dJ)) (fun _ hk => trivial)⟩, ⟨by exact Kd.S_mono (Kd.S_far (p := ⟨aT, 2, none⟩) (Kd.S_types dB.o aC.o (by decide)) (fun _ hk => hk.2) (.slice dF cZ.length dJ)) (fun _ hk => trivial)⟩, ⟨by refine qA4 ?_ aj.o _; exact aE.o⟩, ⟨by refine qAt (cs := #[.string aU, aW, aX, .slice none 0 0]) ?_ 2 _ rfl; exact aC.o⟩, ⟨by repeat (with_reducible first | exact aG.o | refine qAe.far ?_ bC.o (by exact TyB.of aC.o) (by decide) _)⟩, ⟨by repeat (with_reducible first | exact HB.o | refine qAq ?_ bq.o)⟩⟩
            replace fo := Bool.eq_false_iff.mpr fo
            subst fo
            replace H : ((qA2.f aN ad af).bind fun bO => (qAa.l3 bI l0 bO.1 aN bO.2.1 bO.2.2 aU aH aJ ([] : List (S82)))) = some (r1, r2, r3, r4, r5) := by rw [if_neg (show ¬ (false = true) by decide)] at H; exact H
            replace H := bm H
            obtain ⟨⟨dL, dM, dN⟩, eG, H⟩ := H
            replace H : (qAa.l3 bI l0 dL aN dM dN aU aH aJ ([] : List (S82))) = some (r1, r2, r3, r4, r5) := H
            have gq := am eG
            clear eG
            have H' := am H
            clear H
            go_wp2_with ((with_reducible refine qAj (f := 23) rfl ?_); refine gL 83 Try.func23 #[.pointer (some ⟨aY, 0, none⟩)] ?_; (with_reducible refine (qA2.calls aY aN ad af dL dM dN w _ ?side1 ?side2 gq.o).mono ?_); (case side1 => exact aG.o); (case side2 => exact HB.o); rintro e h4 ⟨rfl, hi, hb, hk⟩; refine ⟨_, rfl, ?_⟩; have n_ := a2 (Kd.R_kp (qAe.apart aG.o aA.o (by decide)) hk) (a2 (Kd.S_mono (Kd.S_keep (qAe.apartS aG.o aD.o (by decide)) hk (fun _ h => h.2)) (fun _ h => h.1)) (a2 (qAd.blk hk aE.o aQ.o (by simp)) (a2 (qAd.blk hk aC.o aV.o (by simp)) (a2 (hb) (am (hi)))))); clear aA aD aE aC HB aG; obtain ⟨aA, aD, aE, aC, HB, aG⟩ := n_)
            go_loopg [10] bI (fun kq gx w' => ∃ (ak : Int) (au : Int) (ax : Int) (aK : List (S82)) (ab : Value), gx = .int .i64 ak ∧ qAf (qAa.l3 kq l0 ak aN au ax aU aH aJ aK = some (r1, r2, r3, r4, r5)) ∧ qAf (kq ≤ bI) ∧ qAf (Kd.R k71 71 w' w.heap.size (fun _ => True) aW aH) ∧ qAf (Kd.S k80 80 w' w.heap.size (fun _ => True) aX aJ) ∧ qAf (Kd.R k82 82 w' w.heap.size (fun _ => True) ab aK) ∧ qAf (w'.heap[aR]? = some (.cells #[.string ⟨#[]⟩, (.slice none 0 0), (.slice none 0 0), (.slice none 0 0)] 27 (0, 0))) ∧ qAf (w'.heap[aT]? = some (.cells #[.string aU, aW, aX, ab] 27 (0, 0))) ∧ qAf (qAe w w' aY aN au ax) ∧ qAf (Below w.heap.size w w'))
            case atStart => exact ⟨(dL), (dM), (dN), ([] : List (S82)), (.slice none 0 0), (by rfl), H', ⟨Nat.le_refl _⟩, ⟨by exact aA.o⟩, ⟨by exact aD.o⟩, ⟨by (exact Kd.R_nil _ _ _ _ _)⟩, ⟨by exact aE.o⟩, ⟨by exact aC.o⟩, ⟨by exact aG.o⟩, ⟨by exact HB.o⟩⟩
            case round =>
             clear H'
             obtain ⟨ak, au, ax, aK, ab, rfl, HA, fj, aA, aD, aI, aE, aC, aG, HB⟩ := hrel
             cases gk with
             | zero => exact absurd HA.o (by simp [qAa.l3])
             | succ k6 =>
              have H := HA.o
              clear HA
              simp only [qAa.l3] at H
              have dI := am H
              clear H
              go_upto_region 20 with (fail)
              go_cut [90] (fun hI wc => ∃ (kq : Nat) (b4 : Bool) (a5 : Int) (a6 : Int), hI = .bool b4 ∧ qAf (qAa.j6 kq l0 ak b4 aN a5 a6 aU aH aJ aK = some (r1, r2, r3, r4, r5)) ∧ qAf (kq ≤ k6) ∧ qAf (Kd.R k71 71 wc w.heap.size (fun _ => True) aW aH) ∧ qAf (Kd.S k80 80 wc w.heap.size (fun _ => True) aX aJ) ∧ qAf (Kd.R k82 82 wc w.heap.size (fun _ => True) ab aK) ∧ qAf (wc.heap[aR]? = some (.cells #[.string ⟨#[]⟩, (.slice none 0 0), (.slice none 0 0), (.slice none 0 0)] 27 (0, 0))) ∧ qAf (wc.heap[aT]? = some (.cells #[.string aU, aW, aX, ab] 27 (0, 0))) ∧ qAf (qAe w wc aY aN a5 a6) ∧ qAf (Below w.heap.size w wc))
              case first =>
               have H := dI.o
               clear dI
               by_cases dr : ak > 0
               rotate_left
               ·rw [if_neg dr] at H
                replace dr := d0 dr
                (skip)
                have H' := am H
                clear H
                go_wp2
                go_meet
                case rel => exact ⟨_, (false), (au), (ax), (by rfl), H', ⟨by have := bc.o; have := cI.o; have := bR.o; have := cz.o; have := bw.o; have := fj.o; (omega)⟩, ⟨by exact aA.o⟩, ⟨by exact aD.o⟩, ⟨by exact aI.o⟩, ⟨by exact aE.o⟩, ⟨by exact aC.o⟩, ⟨by exact aG.o⟩, ⟨by exact HB.o⟩⟩
               rw [if_pos dr] at H
               replace dr := d1 dr
               (skip)
               replace H := bm H
               obtain ⟨⟨dO, di, dj⟩, eH, H⟩ := H
               replace H : (qAa.j6 k6 l0 ak (dO == 0) aN di dj aU aH aJ aK) = some (r1, r2, r3, r4, r5) := H
               have gr := am eH
               clear eH
               have H' := am H
               clear H
               go_wp2_with (go_at_call 24; (with_reducible refine (qAv.calls aY aN au ax dO di dj w _ ?side1 ?side2 gr.o).mono ?_); (case side1 => exact aG.o); (case side2 => exact HB.o); rintro e h5 ⟨rfl, hi, hb, hk⟩; have n_ := a2 (Kd.R_kp (qAe.apart aG.o aA.o (by decide)) hk) (a2 (Kd.S_mono (Kd.S_keep (qAe.apartS aG.o aD.o (by decide)) hk (fun _ h => h.2)) (fun _ h => h.1)) (a2 (Kd.R_kp (qAe.apart aG.o aI.o (by decide)) hk) (a2 (qAd.blk hk aE.o aQ.o (by simp)) (a2 (qAd.blk hk aC.o aV.o (by simp)) (a2 (hb) (am (hi))))))); clear aA aD aI aE aC HB aG; obtain ⟨aA, aD, aI, aE, aC, HB, aG⟩ := n_)
               go_meet
               case rel => exact ⟨_, (dO == 0), (di), (dj), (by rfl), H', ⟨by have := bc.o; have := cI.o; have := bR.o; have := cz.o; have := bw.o; have := fj.o; (omega)⟩, ⟨by exact aA.o⟩, ⟨by exact aD.o⟩, ⟨by exact aI.o⟩, ⟨by exact aE.o⟩, ⟨by exact aC.o⟩, ⟨by exact aG.o⟩, ⟨by exact HB.o⟩⟩
              case rest =>
               clear dI
               obtain ⟨kq, b4, a5, a6, rfl, HA, eY, aA, aD, aI, aE, aC, aG, HB⟩ := hcut
               cases kq with
               | zero => exact absurd HA.o (by simp [qAa.j6])
               | succ bF =>
                have H := HA.o
                clear HA
                simp only [qAa.j6] at H
                by_cases fq : b4 = true
                rotate_left
                ·replace fq := Bool.eq_false_iff.mpr fq
                 subst fq
                 replace H : ((qAA.f aN a5 a6).bind fun cQ => (if cQ.1 = 0 then ((qA7.f aU aH aJ aK).bind fun bH => (if bH.2 = 0 then ((qAl.f bF l0 bH.1).bind fun bV => (if bV = true then (some (aU, aH, aJ, aK, 0)) else (some ((⟨#[]⟩ : ByteArray), ([] : List (S71)), ([] : List (S80)), ([] : List (S82)), 52)))) else (some ((⟨#[]⟩ : ByteArray), ([] : List (S71)), ([] : List (S80)), ([] : List (S82)), 52)))) else (some ((⟨#[]⟩ : ByteArray), ([] : List (S71)), ([] : List (S80)), ([] : List (S82)), 52)))) = some (r1, r2, r3, r4, r5) := by rw [if_neg (show ¬ (false = true) by decide)] at H; exact H
                 replace H := bm H
                 obtain ⟨⟨bb, bz, cA⟩, eN, H⟩ := H
                 replace H : (if bb = 0 then ((qA7.f aU aH aJ aK).bind fun bH => (if bH.2 = 0 then ((qAl.f bF l0 bH.1).bind fun bV => (if bV = true then (some (aU, aH, aJ, aK, 0)) else (some ((⟨#[]⟩ : ByteArray), ([] : List (S71)), ([] : List (S80)), ([] : List (S82)), 52)))) else (some ((⟨#[]⟩ : ByteArray), ([] : List (S71)), ([] : List (S80)), ([] : List (S82)), 52)))) else (some ((⟨#[]⟩ : ByteArray), ([] : List (S71)), ([] : List (S80)), ([] : List (S82)), 52))) = some (r1, r2, r3, r4, r5) := H
                 have fi := am eN
                 clear eN
                 by_cases ed : bb = 0
                 rotate_left
                 ·rw [if_neg ed] at H
                  have ee : (bb != 0) = true := bne_iff_ne.mpr ed
                  simp only [Option.some.injEq, Prod.mk.injEq] at H
                  obtain ⟨rfl, rfl, rfl, rfl, rfl⟩ := H
                  go_wp2_with ((with_reducible refine qAj (f := 28) rfl ?_); refine gL 111 Try.func28 #[.pointer (some ⟨aY, 0, none⟩)] ?_; (with_reducible refine (qAA.calls aY aN a5 a6 bb bz cA w _ ?side1 ?side2 fi.o).mono ?_); (case side1 => exact aG.o); (case side2 => exact HB.o); rintro e cx ⟨rfl, hi, hb, hk⟩; refine ⟨_, rfl, ?_⟩; have n_ := a2 (qAd.blk hk aE.o aQ.o (by simp)) (am (hb)); clear aA aD aI aE aC HB aG; obtain ⟨aE, HB⟩ := n_; have fV : cx.cell? ⟨aR, 0, none⟩ = some (.string ⟨#[]⟩) := (qAb aE.o 0).trans rfl; have fW : cx.cell? ⟨aR, 1, none⟩ = some (.slice none 0 0) := (qAb aE.o 1).trans rfl; have fX : cx.cell? ⟨aR, 2, none⟩ = some (.slice none 0 0) := (qAb aE.o 2).trans rfl; have fY : cx.cell? ⟨aR, 3, none⟩ = some (.slice none 0 0) := (qAb aE.o 3).trans rfl; have fc := qAc aE.o 0; have fd := qAc aE.o 1; have fe := qAc aE.o 2; have ff := qAc aE.o 3)
                  refine bodyPost_ret (qBY rfl _ _ aR 27 #[.string ⟨#[]⟩, .slice none 0 0, .slice none 0 0, .slice none 0 0] (0, 0) _ rfl (by refine qAt (cs := #[.string ⟨#[]⟩, .slice none 0 0, .slice none 0 0, .slice none 0 0]) ?_ 3 _ rfl; refine qAt (cs := #[.string ⟨#[]⟩, .slice none 0 0, .slice none 0 0, .slice none 0 0]) ?_ 2 _ rfl; refine qAt (cs := #[.string ⟨#[]⟩, .slice none 0 0, .slice none 0 0, .slice none 0 0]) ?_ 1 _ rfl; refine qAt (cs := #[.string ⟨#[]⟩, .slice none 0 0, .slice none 0 0, .slice none 0 0]) ?_ 0 _ rfl; exact aE.o) Try.underlying27 rfl (by kernel_rfl)) rfl ?_
                  exact ⟨_, _, _, by rfl, by (exact Kd.R_nil _ _ _ _ _), by (exact Kd.S_nil _ _ _ _ _), by (exact Kd.R_nil _ _ _ _ _), by repeat (with_reducible first | exact HB.o | refine qAq ?_ bX.o)⟩
                 rw [if_pos ed] at H
                 have ee : (bb != 0) = false := bn ed
                 clear ed
                 replace H := bm H
                 obtain ⟨⟨bU, bp⟩, eO, H⟩ := H
                 replace H : (if bp = 0 then ((qAl.f bF l0 bU).bind fun bV => (if bV = true then (some (aU, aH, aJ, aK, 0)) else (some ((⟨#[]⟩ : ByteArray), ([] : List (S71)), ([] : List (S80)), ([] : List (S82)), 52)))) else (some ((⟨#[]⟩ : ByteArray), ([] : List (S71)), ([] : List (S80)), ([] : List (S82)), 52))) = some (r1, r2, r3, r4, r5) := H
                 have gB := am eO
                 clear eO
                 by_cases ef : bp = 0
                 rotate_left
                 ·rw [if_neg ef] at H
                  have eg : (bp != 0) = true := bne_iff_ne.mpr ef
                  simp only [Option.some.injEq, Prod.mk.injEq] at H
                  obtain ⟨rfl, rfl, rfl, rfl, rfl⟩ := H
                  go_wp2_with (first | ((with_reducible refine qAj (f := 28) rfl ?_); refine gL 111 Try.func28 #[.pointer (some ⟨aY, 0, none⟩)] ?_; (with_reducible refine (qAA.calls aY aN a5 a6 bb bz cA w _ ?side1 ?side2 fi.o).mono ?_); (case side1 => exact aG.o); (case side2 => exact HB.o); rintro e cv ⟨rfl, hi, hb, hk⟩; refine ⟨_, rfl, ?_⟩; have n_ := a2 (Kd.R_kp (qAe.apart aG.o aA.o (by decide)) hk) (a2 (Kd.S_mono (Kd.S_keep (qAe.apartS aG.o aD.o (by decide)) hk (fun _ h => h.2)) (fun _ h => h.1)) (a2 (Kd.R_kp (qAe.apart aG.o aI.o (by decide)) hk) (a2 (qAd.blk hk aE.o aQ.o (by simp)) (a2 (qAd.blk hk aC.o aV.o (by simp)) (a2 (hb) (am (hi))))))); clear aA aD aI aE aC HB aG; obtain ⟨aA, aD, aI, aE, aC, HB, aG⟩ := n_; have fN : cv.cell? ⟨aT, 0, none⟩ = some (.string aU) := (qAb aC.o 0).trans rfl; have fO : cv.cell? ⟨aT, 1, none⟩ = some (aW) := (qAb aC.o 1).trans rfl; have fP : cv.cell? ⟨aT, 2, none⟩ = some (aX) := (qAb aC.o 2).trans rfl; have fQ : cv.cell? ⟨aT, 3, none⟩ = some (ab) := (qAb aC.o 3).trans rfl; obtain ⟨eR, ei, et⟩ := Kd.R_slice aA.o; subst et; obtain ⟨eS, ej, eu⟩ := Kd.S_slice aD.o; subst eu; obtain ⟨eT, ek, ev⟩ := Kd.R_slice aI.o; subst ev) | ((with_reducible refine qAj (f := 9) rfl ?_); refine gL 116 Try.func9 #[.agg #[.string aU, .slice eR aH.length ei, .slice eS aJ.length ej, .slice eT aK.length ek]] ?_; (with_reducible refine (qA7.calls aU _ _ aH _ _ aJ _ _ aK bU bp _ ?side1 ?side2 ?side3 ?side4 ?side5 ?side6 gB.o).mono ?_); (case side1 => exact (Kd.R_reads' aA.o).2.2); (case side2 => exact (Kd.R_reads' aA.o).2.1); (case side3 => exact (Kd.S_reads' aD.o).2.2); (case side4 => exact (Kd.S_reads' aD.o).2.1); (case side5 => exact (Kd.R_reads' aI.o).2.2); (case side6 => exact (Kd.R_reads' aI.o).2.1); rintro e cw ⟨fg, rfl, cU, hb⟩; refine ⟨_, rfl, ?_⟩; have n_ := a2 (qAz aE.o hb) (am (qAo HB.o hb)); clear aA aD aI aE aC aG HB; obtain ⟨aE, HB⟩ := n_; have fR : cw.cell? ⟨aR, 0, none⟩ = some (.string ⟨#[]⟩) := (qAb aE.o 0).trans rfl; have fS : cw.cell? ⟨aR, 1, none⟩ = some (.slice none 0 0) := (qAb aE.o 1).trans rfl; have fT : cw.cell? ⟨aR, 2, none⟩ = some (.slice none 0 0) := (qAb aE.o 2).trans rfl; have fU : cw.cell? ⟨aR, 3, none⟩ = some (.slice none 0 0) := (qAb aE.o 3).trans rfl; have f8 := qAc aE.o 0; have f9 := qAc aE.o 1; have fa := qAc aE.o 2; have fb := qAc aE.o 3))
                  refine bodyPost_ret (qBY rfl _ _ aR 27 #[.string ⟨#[]⟩, .slice none 0 0, .slice none 0 0, .slice none 0 0] (0, 0) _ rfl (by refine qAt (cs := #[.string ⟨#[]⟩, .slice none 0 0, .slice none 0 0, .slice none 0 0]) ?_ 3 _ rfl; refine qAt (cs := #[.string ⟨#[]⟩, .slice none 0 0, .slice none 0 0, .slice none 0 0]) ?_ 2 _ rfl; refine qAt (cs := #[.string ⟨#[]⟩, .slice none 0 0, .slice none 0 0, .slice none 0 0]) ?_ 1 _ rfl; refine qAt (cs := #[.string ⟨#[]⟩, .slice none 0 0, .slice none 0 0, .slice none 0 0]) ?_ 0 _ rfl; exact aE.o) Try.underlying27 rfl (by kernel_rfl)) rfl ?_
                  exact ⟨_, _, _, by rfl, by (exact Kd.R_nil _ _ _ _ _), by (exact Kd.S_nil _ _ _ _ _), by (exact Kd.R_nil _ _ _ _ _), by repeat (with_reducible first | exact HB.o | refine qAq ?_ bX.o)⟩
                 rw [if_pos ef] at H
                 have eg : (bp != 0) = false := bn ef
                 clear ef
                 replace H := bm H
                 obtain ⟨bV, eP, H⟩ := H
                 replace H : (if bV = true then (some (aU, aH, aJ, aK, 0)) else (some ((⟨#[]⟩ : ByteArray), ([] : List (S71)), ([] : List (S80)), ([] : List (S82)), 52))) = some (r1, r2, r3, r4, r5) := H
                 have g8 := am eP
                 clear eP
                 by_cases fs : bV = true
                 rotate_left
                 ·replace fs := Bool.eq_false_iff.mpr fs
                  subst fs
                  replace H : (some ((⟨#[]⟩ : ByteArray), ([] : List (S71)), ([] : List (S80)), ([] : List (S82)), 52)) = some (r1, r2, r3, r4, r5) := by rw [if_neg (show ¬ (false = true) by decide)] at H; exact H
                  simp only [Option.some.injEq, Prod.mk.injEq] at H
                  obtain ⟨rfl, rfl, rfl, rfl, rfl⟩ := H
                  go_wp2_with (first | ((with_reducible refine qAj (f := 28) rfl ?_); refine gL 111 Try.func28 #[.pointer (some ⟨aY, 0, none⟩)] ?_; (with_reducible refine (qAA.calls aY aN a5 a6 bb bz cA w _ ?side1 ?side2 fi.o).mono ?_); (case side1 => exact aG.o); (case side2 => exact HB.o); rintro e cu ⟨rfl, hi, hb, hk⟩; refine ⟨_, rfl, ?_⟩; have n_ := a2 (Kd.R_kp (qAe.apart aG.o aA.o (by decide)) hk) (a2 (Kd.S_mono (Kd.S_keep (qAe.apartS aG.o aD.o (by decide)) hk (fun _ h => h.2)) (fun _ h => h.1)) (a2 (Kd.R_kp (qAe.apart aG.o aI.o (by decide)) hk) (a2 (qAd.blk hk aE.o aQ.o (by simp)) (a2 (qAd.blk hk aC.o aV.o (by simp)) (a2 (hb) (am (hi))))))); clear aA aD aI aE aC HB aG; obtain ⟨aA, aD, aI, aE, aC, HB, aG⟩ := n_; have fF : cu.cell? ⟨aT, 0, none⟩ = some (.string aU) := (qAb aC.o 0).trans rfl; have fG : cu.cell? ⟨aT, 1, none⟩ = some (aW) := (qAb aC.o 1).trans rfl; have fH : cu.cell? ⟨aT, 2, none⟩ = some (aX) := (qAb aC.o 2).trans rfl; have fI : cu.cell? ⟨aT, 3, none⟩ = some (ab) := (qAb aC.o 3).trans rfl; obtain ⟨cJ, cR, ep⟩ := Kd.R_slice aA.o; subst ep; obtain ⟨cK, cS, eq⟩ := Kd.S_slice aD.o; subst eq; obtain ⟨cL, cT, er⟩ := Kd.R_slice aI.o; subst er) | ((with_reducible refine qAj (f := 9) rfl ?_); refine gL 116 Try.func9 #[.agg #[.string aU, .slice cJ aH.length cR, .slice cK aJ.length cS, .slice cL aK.length cT]] ?_; (with_reducible refine (qA7.calls aU _ _ aH _ _ aJ _ _ aK bU bp _ ?side1 ?side2 ?side3 ?side4 ?side5 ?side6 gB.o).mono ?_); (case side1 => exact (Kd.R_reads' aA.o).2.2); (case side2 => exact (Kd.R_reads' aA.o).2.1); (case side3 => exact (Kd.S_reads' aD.o).2.2); (case side4 => exact (Kd.S_reads' aD.o).2.1); (case side5 => exact (Kd.R_reads' aI.o).2.2); (case side6 => exact (Kd.R_reads' aI.o).2.1); rintro e bD ⟨fg, rfl, cU, hb⟩; refine ⟨_, rfl, ?_⟩; have n_ := a2 (Kd.R_below aA.o hb) (a2 (Kd.S_below aD.o hb) (a2 (Kd.R_below aI.o hb) (a2 (Kd.R_lower cU (qAi HB.o)) (a2 (qAz aE.o hb) (a2 (qAz aC.o hb) (a2 (qAe.below aG.o hb) (am (qAo HB.o hb)))))))); clear aA aD aI aE aC aG HB; obtain ⟨aA, aD, aI, az, aE, aC, aG, HB⟩ := n_; obtain ⟨eQ, eh, es⟩ := Kd.R_slice az.o; subst es) | (go_at_call 29; (with_reducible refine (qAl.calls bF _ _ l0 _ _ bU false _ ?side1 ?side2 ?side3 ?side4 g8.o).mono ?_); (case side1 => exact (Kd.C_below gF.o HB.o)); (case side2 => exact gE.o); (case side3 => exact (Kd.R_reads' az.o).2.2); (case side4 => exact (Kd.R_reads' az.o).2.1); rintro e w' ⟨rfl, ⟨nd, rfl⟩⟩; (try (rw [drewN_self bD]; generalize hq_ : World.drewN bD _ = bD; have n0_ : qAf (Kd.R (Kd.int .u8) 5 bD w.heap.size (fun _ => True) (.slice eQ bU.length eh) bU) := ⟨by rw [← hq_]; exact (by (with_reducible repeat (apply Kd.R_drewN)); exact az.o)⟩; have n1_ : qAf (Kd.R k71 71 bD w.heap.size (fun _ => True) (.slice cJ aH.length cR) aH) := ⟨by rw [← hq_]; exact (by (with_reducible repeat (apply Kd.R_drewN)); exact aA.o)⟩; have n2_ : qAf (Kd.S k80 80 bD w.heap.size (fun _ => True) (.slice cK aJ.length cS) aJ) := ⟨by rw [← hq_]; exact (by (with_reducible repeat (apply Kd.S_drewN)); exact aD.o)⟩; have n3_ : qAf (Kd.R k82 82 bD w.heap.size (fun _ => True) (.slice cL aK.length cT) aK) := ⟨by rw [← hq_]; exact (by (with_reducible repeat (apply Kd.R_drewN)); exact aI.o)⟩; have n4_ : qAf (bD.heap[aR]? = some (.cells #[.string ⟨#[]⟩, .slice none 0 0, .slice none 0 0, .slice none 0 0] 27 (0, 0))) := ⟨by rw [← hq_]; exact (by (with_reducible repeat (refine qBz ?_ _)); exact aE.o)⟩; have n5_ : qAf (bD.heap[aT]? = some (.cells #[.string aU, .slice cJ aH.length cR, .slice cK aJ.length cS, .slice cL aK.length cT] 27 (0, 0))) := ⟨by rw [← hq_]; exact (by (with_reducible repeat (refine qBz ?_ _)); exact aC.o)⟩; have n6_ : qAf (qAe w bD aY aN bz cA) := ⟨by rw [← hq_]; exact (by repeat (with_reducible first | exact aG.o | apply qAe.drewN))⟩; have n7_ : qAf (Below w.heap.size w bD) := ⟨by rw [← hq_]; exact (by repeat (with_reducible first | exact HB.o | apply qA1))⟩; clear az aA aD aI aE aC aG HB hq_; have aE := n4_; have HB := n7_; clear n0_ n1_ n2_ n3_ n4_ n5_ n6_ n7_)); have fJ : bD.cell? ⟨aR, 0, none⟩ = some (.string ⟨#[]⟩) := (qAb aE.o 0).trans rfl; have fK : bD.cell? ⟨aR, 1, none⟩ = some (.slice none 0 0) := (qAb aE.o 1).trans rfl; have fL : bD.cell? ⟨aR, 2, none⟩ = some (.slice none 0 0) := (qAb aE.o 2).trans rfl; have fM : bD.cell? ⟨aR, 3, none⟩ = some (.slice none 0 0) := (qAb aE.o 3).trans rfl; have f3 := qAc aE.o 0; have f4 := qAc aE.o 1; have f5 := qAc aE.o 2; have f6 := qAc aE.o 3))
                  refine bodyPost_ret (qBY rfl _ _ aR 27 #[.string ⟨#[]⟩, .slice none 0 0, .slice none 0 0, .slice none 0 0] (0, 0) _ rfl (by refine qAt (cs := #[.string ⟨#[]⟩, .slice none 0 0, .slice none 0 0, .slice none 0 0]) ?_ 3 _ rfl; refine qAt (cs := #[.string ⟨#[]⟩, .slice none 0 0, .slice none 0 0, .slice none 0 0]) ?_ 2 _ rfl; refine qAt (cs := #[.string ⟨#[]⟩, .slice none 0 0, .slice none 0 0, .slice none 0 0]) ?_ 1 _ rfl; refine qAt (cs := #[.string ⟨#[]⟩, .slice none 0 0, .slice none 0 0, .slice none 0 0]) ?_ 0 _ rfl; exact aE.o) Try.underlying27 rfl (by kernel_rfl)) rfl ?_
                  exact ⟨_, _, _, by rfl, by (exact Kd.R_nil _ _ _ _ _), by (exact Kd.S_nil _ _ _ _ _), by (exact Kd.R_nil _ _ _ _ _), by repeat (with_reducible first | exact HB.o | refine qAq ?_ bX.o)⟩
                 subst fs
                 replace H : (some (aU, aH, aJ, aK, 0)) = some (r1, r2, r3, r4, r5) := by rw [if_pos rfl] at H; exact H
                 simp only [Option.some.injEq, Prod.mk.injEq] at H
                 obtain ⟨rfl, rfl, rfl, rfl, rfl⟩ := H
                 go_wp2_with (first | ((with_reducible refine qAj (f := 28) rfl ?_); refine gL 111 Try.func28 #[.pointer (some ⟨aY, 0, none⟩)] ?_; (with_reducible refine (qAA.calls aY aN a5 a6 bb bz cA w _ ?side1 ?side2 fi.o).mono ?_); (case side1 => exact aG.o); (case side2 => exact HB.o); rintro e fz ⟨rfl, hi, hb, hk⟩; refine ⟨_, rfl, ?_⟩; have n_ := a2 (Kd.R_kp (qAe.apart aG.o aA.o (by decide)) hk) (a2 (Kd.S_mono (Kd.S_keep (qAe.apartS aG.o aD.o (by decide)) hk (fun _ h => h.2)) (fun _ h => h.1)) (a2 (Kd.R_kp (qAe.apart aG.o aI.o (by decide)) hk) (a2 (qAd.blk hk aE.o aQ.o (by simp)) (a2 (qAd.blk hk aC.o aV.o (by simp)) (a2 (hb) (am (hi))))))); clear aA aD aI aE aC HB aG; obtain ⟨aA, aD, aI, aE, aC, HB, aG⟩ := n_; have ft : fz.cell? ⟨aT, 0, none⟩ = some (.string aU) := (qAb aC.o 0).trans rfl; have fu : fz.cell? ⟨aT, 1, none⟩ = some (aW) := (qAb aC.o 1).trans rfl; have fv : fz.cell? ⟨aT, 2, none⟩ = some (aX) := (qAb aC.o 2).trans rfl; have fw : fz.cell? ⟨aT, 3, none⟩ = some (ab) := (qAb aC.o 3).trans rfl; obtain ⟨bQ, bS, gR⟩ := Kd.R_slice aA.o; subst gR; obtain ⟨bY, bZ, gS⟩ := Kd.S_slice aD.o; subst gS; obtain ⟨b5, b8, gT⟩ := Kd.R_slice aI.o; subst gT) | ((with_reducible refine qAj (f := 9) rfl ?_); refine gL 116 Try.func9 #[.agg #[.string aU, .slice bQ aH.length bS, .slice bY aJ.length bZ, .slice b5 aK.length b8]] ?_; (with_reducible refine (qA7.calls aU _ _ aH _ _ aJ _ _ aK bU bp _ ?side1 ?side2 ?side3 ?side4 ?side5 ?side6 gB.o).mono ?_); (case side1 => exact (Kd.R_reads' aA.o).2.2); (case side2 => exact (Kd.R_reads' aA.o).2.1); (case side3 => exact (Kd.S_reads' aD.o).2.2); (case side4 => exact (Kd.S_reads' aD.o).2.1); (case side5 => exact (Kd.R_reads' aI.o).2.2); (case side6 => exact (Kd.R_reads' aI.o).2.1); rintro e b1 ⟨fg, rfl, cU, hb⟩; refine ⟨_, rfl, ?_⟩; have n_ := a2 (Kd.R_below aA.o hb) (a2 (Kd.S_below aD.o hb) (a2 (Kd.R_below aI.o hb) (a2 (Kd.R_lower cU (qAi HB.o)) (a2 (qAz aE.o hb) (a2 (qAz aC.o hb) (a2 (qAe.below aG.o hb) (am (qAo HB.o hb)))))))); clear aA aD aI aE aC aG HB; obtain ⟨aA, aD, aI, az, aE, aC, aG, HB⟩ := n_; obtain ⟨gD, gI, gU⟩ := Kd.R_slice az.o; subst gU) | (go_at_call 29; (with_reducible refine (qAl.calls bF _ _ l0 _ _ bU true _ ?side1 ?side2 ?side3 ?side4 g8.o).mono ?_); (case side1 => exact (Kd.C_below gF.o HB.o)); (case side2 => exact gE.o); (case side3 => exact (Kd.R_reads' az.o).2.2); (case side4 => exact (Kd.R_reads' az.o).2.1); rintro e w' ⟨rfl, ⟨nd, rfl⟩⟩; (try (rw [drewN_self b1]; generalize hq_ : World.drewN b1 _ = b1; have n0_ : qAf (Kd.R (Kd.int .u8) 5 b1 w.heap.size (fun _ => True) (.slice gD bU.length gI) bU) := ⟨by rw [← hq_]; exact (by (with_reducible repeat (apply Kd.R_drewN)); exact az.o)⟩; have n1_ : qAf (Kd.R k71 71 b1 w.heap.size (fun _ => True) (.slice bQ aH.length bS) aH) := ⟨by rw [← hq_]; exact (by (with_reducible repeat (apply Kd.R_drewN)); exact aA.o)⟩; have n2_ : qAf (Kd.S k80 80 b1 w.heap.size (fun _ => True) (.slice bY aJ.length bZ) aJ) := ⟨by rw [← hq_]; exact (by (with_reducible repeat (apply Kd.S_drewN)); exact aD.o)⟩; have n3_ : qAf (Kd.R k82 82 b1 w.heap.size (fun _ => True) (.slice b5 aK.length b8) aK) := ⟨by rw [← hq_]; exact (by (with_reducible repeat (apply Kd.R_drewN)); exact aI.o)⟩; have n4_ : qAf (b1.heap[aR]? = some (.cells #[.string ⟨#[]⟩, .slice none 0 0, .slice none 0 0, .slice none 0 0] 27 (0, 0))) := ⟨by rw [← hq_]; exact (by (with_reducible repeat (refine qBz ?_ _)); exact aE.o)⟩; have n5_ : qAf (b1.heap[aT]? = some (.cells #[.string aU, .slice bQ aH.length bS, .slice bY aJ.length bZ, .slice b5 aK.length b8] 27 (0, 0))) := ⟨by rw [← hq_]; exact (by (with_reducible repeat (refine qBz ?_ _)); exact aC.o)⟩; have n6_ : qAf (qAe w b1 aY aN bz cA) := ⟨by rw [← hq_]; exact (by repeat (with_reducible first | exact aG.o | apply qAe.drewN))⟩; have n7_ : qAf (Below w.heap.size w b1) := ⟨by rw [← hq_]; exact (by repeat (with_reducible first | exact HB.o | apply qA1))⟩; clear az aA aD aI aE aC aG HB hq_; have aA := n1_; have aD := n2_; have aI := n3_; have aE := n4_; have aC := n5_; have HB := n7_; clear n0_ n1_ n2_ n3_ n4_ n5_ n6_ n7_)); have ex : b1.cell? ⟨aT, 0, none⟩ = some (.string aU) := (qAb aC.o 0).trans rfl; have ey : b1.cell? ⟨aT, 1, none⟩ = some (.slice bQ aH.length bS) := (qAb aC.o 1).trans rfl; have ez : b1.cell? ⟨aT, 2, none⟩ = some (.slice bY aJ.length bZ) := (qAb aC.o 2).trans rfl; have fA : b1.cell? ⟨aT, 3, none⟩ = some (.slice b5 aK.length b8) := (qAb aC.o 3).trans rfl; have fB : b1.cell? ⟨aR, 0, none⟩ = some (.string ⟨#[]⟩) := (qAb aE.o 0).trans rfl; have fC : b1.cell? ⟨aR, 1, none⟩ = some (.slice none 0 0) := (qAb aE.o 1).trans rfl; have fD : b1.cell? ⟨aR, 2, none⟩ = some (.slice none 0 0) := (qAb aE.o 2).trans rfl; have fE : b1.cell? ⟨aR, 3, none⟩ = some (.slice none 0 0) := (qAb aE.o 3).trans rfl; have fZ := qAc aE.o 0; have f0 := qAc aE.o 1; have f1 := qAc aE.o 2; have f2 := qAc aE.o 3))
                 refine bodyPost_ret (qBY rfl _ _ aR 27 #[.string aU, .slice bQ aH.length bS, .slice bY aJ.length bZ, .slice b5 aK.length b8] (0, 0) _ rfl (by refine qAt (cs := #[.string aU, .slice bQ aH.length bS, .slice bY aJ.length bZ, .slice none 0 0]) ?_ 3 _ rfl; refine qAt (cs := #[.string aU, .slice bQ aH.length bS, .slice none 0 0, .slice none 0 0]) ?_ 2 _ rfl; refine qAt (cs := #[.string aU, .slice none 0 0, .slice none 0 0, .slice none 0 0]) ?_ 1 _ rfl; refine qAt (cs := #[.string ⟨#[]⟩, .slice none 0 0, .slice none 0 0, .slice none 0 0]) ?_ 0 _ rfl; exact aE.o) Try.underlying27 rfl (by kernel_rfl)) rfl ?_
                 exact ⟨_, _, _, by rfl, by exact Kd.R_mono (Kd.R_far (p := ⟨aR, 3, none⟩) (Kd.R_far (p := ⟨aR, 2, none⟩) (Kd.R_far (p := ⟨aR, 1, none⟩) (Kd.R_far (p := ⟨aR, 0, none⟩) (Kd.R_types aA.o aE.o (by decide)) (fun _ hk => hk.2) (.string aU)) (fun _ hk => hk.2) (.slice bQ aH.length bS)) (fun _ hk => hk.2) (.slice bY aJ.length bZ)) (fun _ hk => hk.2) (.slice b5 aK.length b8)) (fun _ hk => trivial), by exact Kd.S_mono (Kd.S_far (p := ⟨aR, 3, none⟩) (Kd.S_far (p := ⟨aR, 2, none⟩) (Kd.S_far (p := ⟨aR, 1, none⟩) (Kd.S_far (p := ⟨aR, 0, none⟩) (Kd.S_types aD.o aE.o (by decide)) (fun _ hk => hk.2) (.string aU)) (fun _ hk => hk.2) (.slice bQ aH.length bS)) (fun _ hk => hk.2) (.slice bY aJ.length bZ)) (fun _ hk => hk.2) (.slice b5 aK.length b8)) (fun _ hk => trivial), by exact Kd.R_mono (Kd.R_far (p := ⟨aR, 3, none⟩) (Kd.R_far (p := ⟨aR, 2, none⟩) (Kd.R_far (p := ⟨aR, 1, none⟩) (Kd.R_far (p := ⟨aR, 0, none⟩) (Kd.R_types aI.o aE.o (by decide)) (fun _ hk => hk.2) (.string aU)) (fun _ hk => hk.2) (.slice bQ aH.length bS)) (fun _ hk => hk.2) (.slice bY aJ.length bZ)) (fun _ hk => hk.2) (.slice b5 aK.length b8)) (fun _ hk => trivial), by repeat (with_reducible first | exact HB.o | refine qAq ?_ bX.o)⟩
                subst fq
                replace H : ((qA3.f aN a5 a6).bind fun bP => ((qA3.f aN bP.2.1 bP.2.2).bind fun bB => ((qAg.f aN bB.2.1 bB.2.2).bind fun ap => ((qAp.f aN ap.2.1 ap.2.2 32).bind fun ai => ((qAp.f aN ai.2.1 ai.2.2 32).bind fun a8 => (if aK.length < 2513169434916 then (qAa.l3 bF l0 (wrap64 (ak - 1)) aN a8.2.1 a8.2.2 aU aH aJ (aK ++ [(⟨bP.1, bB.1, wrap64 (ap.1), ai.1, a8.1⟩ : S82)])) else (none))))))) = some (r1, r2, r3, r4, r5) := by rw [if_pos rfl] at H; exact H
                replace H := bm H
                obtain ⟨⟨bW, dk, dP⟩, eI, H⟩ := H
                replace H : ((qA3.f aN dk dP).bind fun bB => ((qAg.f aN bB.2.1 bB.2.2).bind fun ap => ((qAp.f aN ap.2.1 ap.2.2 32).bind fun ai => ((qAp.f aN ai.2.1 ai.2.2 32).bind fun a8 => (if aK.length < 2513169434916 then (qAa.l3 bF l0 (wrap64 (ak - 1)) aN a8.2.1 a8.2.2 aU aH aJ (aK ++ [(⟨bW, bB.1, wrap64 (ap.1), ai.1, a8.1⟩ : S82)])) else (none)))))) = some (r1, r2, r3, r4, r5) := H
                have gs := am eI
                clear eI
                replace H := bm H
                obtain ⟨⟨b0, dl, dQ⟩, eJ, H⟩ := H
                replace H : ((qAg.f aN dl dQ).bind fun ap => ((qAp.f aN ap.2.1 ap.2.2 32).bind fun ai => ((qAp.f aN ai.2.1 ai.2.2 32).bind fun a8 => (if aK.length < 2513169434916 then (qAa.l3 bF l0 (wrap64 (ak - 1)) aN a8.2.1 a8.2.2 aU aH aJ (aK ++ [(⟨bW, b0, wrap64 (ap.1), ai.1, a8.1⟩ : S82)])) else (none))))) = some (r1, r2, r3, r4, r5) := H
                have gt := am eJ
                clear eJ
                replace H := bm H
                obtain ⟨⟨b9, dR, dS⟩, eK, H⟩ := H
                replace H : ((qAp.f aN dR dS 32).bind fun ai => ((qAp.f aN ai.2.1 ai.2.2 32).bind fun a8 => (if aK.length < 2513169434916 then (qAa.l3 bF l0 (wrap64 (ak - 1)) aN a8.2.1 a8.2.2 aU aH aJ (aK ++ [(⟨bW, b0, wrap64 (b9), ai.1, a8.1⟩ : S82)])) else (none)))) = some (r1, r2, r3, r4, r5) := H
                have gu := am eK
                clear eK
                replace H := bm H
                obtain ⟨⟨bh, dT, dm⟩, eL, H⟩ := H
                replace H : ((qAp.f aN dT dm 32).bind fun a8 => (if aK.length < 2513169434916 then (qAa.l3 bF l0 (wrap64 (ak - 1)) aN a8.2.1 a8.2.2 aU aH aJ (aK ++ [(⟨bW, b0, wrap64 (b9), bh, a8.1⟩ : S82)])) else (none))) = some (r1, r2, r3, r4, r5) := H
                have gv := am eL
                clear eL
                replace H := bm H
                obtain ⟨⟨cG, cl, cm⟩, eM, H⟩ := H
                replace H : (if aK.length < 2513169434916 then (qAa.l3 bF l0 (wrap64 (ak - 1)) aN cl cm aU aH aJ (aK ++ [(⟨bW, b0, wrap64 (b9), bh, cG⟩ : S82)])) else (none)) = some (r1, r2, r3, r4, r5) := H
                have gw := am eM
                clear eM
                obtain ⟨fr, H⟩ := gd H
                have e2 := am fr
                clear fr
                obtain ⟨cH, cY⟩ : ∃ y_ : List (S82), y_ = (aK ++ [(⟨bW, b0, wrap64 (b9), bh, cG⟩ : S82)]) := ⟨_, rfl⟩
                replace H : (qAa.l3 bF l0 (wrap64 (ak - 1)) aN cl cm aU aH aJ cH) = some (r1, r2, r3, r4, r5) := by (rw [cY]; with_reducible exact H)
                have e5 := am cY
                clear cY
                have H' := am H
                clear H
                try go_wp2
                have n_ := a2 (Kd.R_drew aA.o) (a2 (Kd.S_drew aD.o) (a2 (Kd.R_drew aI.o) (a2 (qCc aE.o) (a2 (qCc aC.o) (a2 (qAe.drew aG.o) (am (qBu HB.o)))))))
                clear aA aD aI aE aC aG HB
                obtain ⟨aA, aD, aI, aE, aC, aG, HB⟩ := n_
                refine start_ (n := 18) (S := fun w' => w'.cell? ⟨aT, 0, none⟩ = some (.string aU) ∧ w'.cell? ⟨aT, 1, none⟩ = some (aW) ∧ w'.cell? ⟨aT, 2, none⟩ = some (aX) ∧ w'.cell? ⟨aT, 3, none⟩ = some (ab)) (ds := [17]) #[false, false, false, false, false, false, false, false, false, false, false, false, false, false, false, false, false, false] (by kernel_rfl) rfl rfl ⟨(qAb aC.o 0).trans rfl, (qAb aC.o 1).trans rfl, (qAb aC.o 2).trans rfl, (qAb aC.o 3).trans rfl⟩ (fun hHeld => ?_); refine qDc qAa.tab22 qAa.bits22 (fun HT_ HW_ => ?_)
                generalize wc.drew = h6 at aA aD aI aE aC aG HB hHeld ⊢
                refine pu 0 93 #[true, false, false, false, false, false, false, false, false, false, false, false, false, false, false, false, false, false] (qAX HT_.o (by kernel_rfl)) ?_
                refine pu 2 95 #[true, false, true, false, false, false, false, false, false, false, false, false, false, false, false, false, false, false] (qAX HT_.o (by kernel_rfl)) ?_
                refine pu 4 97 #[true, false, true, false, true, false, false, false, false, false, false, false, false, false, false, false, false, false] (qAX HT_.o (by kernel_rfl)) ?_
                refine pu 6 99 #[true, false, true, false, true, false, true, false, false, false, false, false, false, false, false, false, false, false] (qAX HT_.o (by kernel_rfl)) ?_
                refine pu 9 102 #[true, false, true, false, true, false, true, false, false, true, false, false, false, false, false, false, false, false] (qAX HT_.o (by kernel_rfl)) ?_
                refine pu 11 104 #[true, false, true, false, true, false, true, false, false, true, false, true, false, false, false, false, false, false] (qAX HT_.o (by kernel_rfl)) ?_
                refine take_ (i := 1) (N := some 94) (v := ?_) (a' := ?_) #[true, true, true, false, true, false, true, false, false, true, false, true, false, false, false, false, false, false] rfl rfl (qCA HT_.o HW_.o (by kernel_rfl)) (fun _ _ _ h => h) (Or.inl ⟨by rfl, ?_⟩) hHeld ?_ ?_
                rotate_left
                ·rintro w' ⟨s0, s1, s2, s3⟩
                 go_simp
                 with_reducible rfl
                rotate_left
                ·simp only [Act.put, List.setIfInBounds_toArray, List.set_cons_zero, List.set_cons_succ]
                 rfl
                refine one_ (i := 3) (N := some 96) #[true, true, true, true, true, false, true, false, false, true, false, true, false, false, false, false, false, false] rfl rfl (qBx HT_.o (by kernel_rfl)) (by decide) (fun K hK => ?_)
                refine qDJ Try.func27 (by kernel_rfl) rfl #[.pointer (some ⟨aY, 0, none⟩)] (by rfl) rfl rfl (by (try simp only [List.map_toArray, List.map_cons, List.map_nil]); (rfl)) ?_
                with_reducible refine (qA3.calls aY aN a5 a6 bW dk dP w _ ?side1 ?side2 gs.o).mono ?_
                (case side1 => exact aG.o)
                (case side2 => exact HB.o)
                rintro e h7 ⟨rfl, hi, hb, hk⟩
                refine ⟨_, rfl, ?_⟩
                have n_ := a2 (Kd.R_kp (qAe.apart aG.o aA.o (by decide)) hk) (a2 (Kd.S_mono (Kd.S_keep (qAe.apartS aG.o aD.o (by decide)) hk (fun _ h => h.2)) (fun _ h => h.1)) (a2 (Kd.R_kp (qAe.apart aG.o aI.o (by decide)) hk) (a2 (qAd.blk hk aE.o aQ.o (by simp)) (a2 (qAd.blk hk aC.o aV.o (by simp)) (a2 (hb) (am (hi)))))))
                clear aA aD aI aE aC HB aG
                obtain ⟨aA, aD, aI, aE, aC, HB, aG⟩ := n_
                (try clear hb)
                (skip)
                (try clear hk)
                (try clear hi)
                refine hK.o _ _ ⟨(qAb aC.o 0).trans rfl, (qAb aC.o 1).trans rfl, (qAb aC.o 2).trans rfl, (qAb aC.o 3).trans rfl⟩ (fun hHeld => ?_)
                clear hK K
                refine qCu (a' := ?_) ?_ ?_
                rotate_left
                ·show Act.put _ (some 96) _ = _
                 simp only [Act.put, List.setIfInBounds_toArray, List.set_cons_zero, List.set_cons_succ]
                 rfl
                refine one_ (i := 5) (N := some 98) #[true, true, true, true, true, true, true, false, false, true, false, true, false, false, false, false, false, false] rfl rfl (qBx HT_.o (by kernel_rfl)) (by decide) (fun K hK => ?_)
                refine qDJ Try.func27 (by kernel_rfl) rfl #[.pointer (some ⟨aY, 0, none⟩)] (by rfl) rfl rfl (by (try simp only [List.map_toArray, List.map_cons, List.map_nil]); (rfl)) ?_
                with_reducible refine (qA3.calls aY aN dk dP b0 dl dQ w _ ?side1 ?side2 gt.o).mono ?_
                (case side1 => exact aG.o)
                (case side2 => exact HB.o)
                rintro e h8 ⟨rfl, hi, hb, hk⟩
                refine ⟨_, rfl, ?_⟩
                have n_ := a2 (Kd.R_kp (qAe.apart aG.o aA.o (by decide)) hk) (a2 (Kd.S_mono (Kd.S_keep (qAe.apartS aG.o aD.o (by decide)) hk (fun _ h => h.2)) (fun _ h => h.1)) (a2 (Kd.R_kp (qAe.apart aG.o aI.o (by decide)) hk) (a2 (qAd.blk hk aE.o aQ.o (by simp)) (a2 (qAd.blk hk aC.o aV.o (by simp)) (a2 (hb) (am (hi)))))))
                clear aA aD aI aE aC HB aG
                obtain ⟨aA, aD, aI, aE, aC, HB, aG⟩ := n_
                (try clear hb)
                (skip)
                (try clear hk)
                (try clear hi)
                refine hK.o _ _ ⟨(qAb aC.o 0).trans rfl, (qAb aC.o 1).trans rfl, (qAb aC.o 2).trans rfl, (qAb aC.o 3).trans rfl⟩ (fun hHeld => ?_)
                clear hK K
                refine qCu (a' := ?_) ?_ ?_
                rotate_left
                ·show Act.put _ (some 98) _ = _
                 simp only [Act.put, List.setIfInBounds_toArray, List.set_cons_zero, List.set_cons_succ]
                 rfl
                refine one_ (i := 7) (N := some 100) #[true, true, true, true, true, true, true, true, false, true, false, true, false, false, false, false, false, false] rfl rfl (qBx HT_.o (by kernel_rfl)) (by decide) (fun K hK => ?_)
                refine qDJ Try.func20 (by kernel_rfl) rfl #[.pointer (some ⟨aY, 0, none⟩)] (by rfl) rfl rfl (by (try simp only [List.map_toArray, List.map_cons, List.map_nil]); (rfl)) ?_
                with_reducible refine (qAg.calls aY aN dl dQ b9 dR dS w _ ?side1 ?side2 gu.o).mono ?_
                (case side1 => exact aG.o)
                (case side2 => exact HB.o)
                rintro e h9 ⟨rfl, hi, hb, hk⟩
                refine ⟨_, rfl, ?_⟩
                have n_ := a2 (Kd.R_kp (qAe.apart aG.o aA.o (by decide)) hk) (a2 (Kd.S_mono (Kd.S_keep (qAe.apartS aG.o aD.o (by decide)) hk (fun _ h => h.2)) (fun _ h => h.1)) (a2 (Kd.R_kp (qAe.apart aG.o aI.o (by decide)) hk) (a2 (qAd.blk hk aE.o aQ.o (by simp)) (a2 (qAd.blk hk aC.o aV.o (by simp)) (a2 (hb) (am (hi)))))))
                clear aA aD aI aE aC HB aG
                obtain ⟨aA, aD, aI, aE, aC, HB, aG⟩ := n_
                (try clear hb)
                (skip)
                (try clear hk)
                (try clear hi)
                refine hK.o _ _ ⟨(qAb aC.o 0).trans rfl, (qAb aC.o 1).trans rfl, (qAb aC.o 2).trans rfl, (qAb aC.o 3).trans rfl⟩ (fun hHeld => ?_)
                clear hK K
                refine qCu (a' := ?_) ?_ ?_
                rotate_left
                ·show Act.put _ (some 100) _ = _
                 simp only [Act.put, List.setIfInBounds_toArray, List.set_cons_zero, List.set_cons_succ]
                 rfl
                refine pure_ (i := 8) (N := some 101) (v := ?_) (a' := ?_) #[true, true, true, true, true, true, true, true, true, true, false, true, false, false, false, false, false, false] rfl rfl (qAX HT_.o (by kernel_rfl)) (fun _ _ _ h => h) (Or.inl ⟨by rfl, ?_⟩) ?_ ?_
                rotate_left
                ·intro w'
                 go_simp
                 with_reducible rfl
                rotate_left
                ·simp only [Act.put, List.setIfInBounds_toArray, List.set_cons_zero, List.set_cons_succ, i64_w]
                 rfl
                refine one_ (i := 10) (N := some 103) #[true, true, true, true, true, true, true, true, true, true, true, true, false, false, false, false, false, false] rfl rfl (qBx HT_.o (by kernel_rfl)) (by decide) (fun K hK => ?_)
                refine qDJ Try.func22 (by kernel_rfl) rfl #[.pointer (some ⟨aY, 0, none⟩), .int .i64 32] (by rfl) rfl rfl (by (try simp only [List.map_toArray, List.map_cons, List.map_nil]); (rfl)) ?_
                with_reducible refine (qAp.calls aY aN dR dS 32 bh dT dm w _ ?side1 ?side2 gv.o).mono ?_
                (case side1 => exact aG.o)
                (case side2 => exact HB.o)
                rintro e ha ⟨rfl, hi, hb, hk⟩
                refine ⟨_, rfl, ?_⟩
                have n_ := a2 (Kd.R_kp (qAe.apart aG.o aA.o (by decide)) hk) (a2 (Kd.S_mono (Kd.S_keep (qAe.apartS aG.o aD.o (by decide)) hk (fun _ h => h.2)) (fun _ h => h.1)) (a2 (Kd.R_kp (qAe.apart aG.o aI.o (by decide)) hk) (a2 (qAd.blk hk aE.o aQ.o (by simp)) (a2 (qAd.blk hk aC.o aV.o (by simp)) (a2 (hb) (am (hi)))))))
                clear aA aD aI aE aC HB aG
                obtain ⟨aA, aD, aI, aE, aC, HB, aG⟩ := n_
                (try clear hb)
                (skip)
                (try clear hk)
                (try clear hi)
                refine hK.o _ _ ⟨(qAb aC.o 0).trans rfl, (qAb aC.o 1).trans rfl, (qAb aC.o 2).trans rfl, (qAb aC.o 3).trans rfl⟩ (fun hHeld => ?_)
                clear hK K
                refine qCu (a' := ?_) ?_ ?_
                rotate_left
                ·show Act.put _ (some 103) _ = _
                 simp only [Act.put, List.setIfInBounds_toArray, List.set_cons_zero, List.set_cons_succ]
                 rfl
                refine one_ (i := 12) (N := some 105) #[true, true, true, true, true, true, true, true, true, true, true, true, true, false, false, false, false, false] rfl rfl (qBx HT_.o (by kernel_rfl)) (by decide) (fun K hK => ?_)
                refine qDJ Try.func22 (by kernel_rfl) rfl #[.pointer (some ⟨aY, 0, none⟩), .int .i64 32] (by rfl) rfl rfl (by (try simp only [List.map_toArray, List.map_cons, List.map_nil]); (rfl)) ?_
                with_reducible refine (qAp.calls aY aN dT dm 32 cG cl cm w _ ?side1 ?side2 gw.o).mono ?_
                (case side1 => exact aG.o)
                (case side2 => exact HB.o)
                rintro e hc ⟨rfl, hi, hb, hk⟩
                refine ⟨_, rfl, ?_⟩
                have n_ := a2 (Kd.R_kp (qAe.apart aG.o aA.o (by decide)) hk) (a2 (Kd.S_mono (Kd.S_keep (qAe.apartS aG.o aD.o (by decide)) hk (fun _ h => h.2)) (fun _ h => h.1)) (a2 (Kd.R_kp (qAe.apart aG.o aI.o (by decide)) hk) (a2 (qAd.blk hk aE.o aQ.o (by simp)) (a2 (qAd.blk hk aC.o aV.o (by simp)) (a2 (hb) (am (hi)))))))
                clear aA aD aI aE aC HB aG
                obtain ⟨aA, aD, aI, aE, aC, HB, aG⟩ := n_
                (try clear hb)
                (skip)
                (try clear hk)
                (try clear hi)
                refine hK.o _ _ ⟨(qAb aC.o 0).trans rfl, (qAb aC.o 1).trans rfl, (qAb aC.o 2).trans rfl, (qAb aC.o 3).trans rfl⟩ (fun hHeld => ?_)
                clear hK K
                refine qCu (a' := ?_) ?_ ?_
                rotate_left
                ·show Act.put _ (some 105) _ = _
                 simp only [Act.put, List.setIfInBounds_toArray, List.set_cons_zero, List.set_cons_succ]
                 rfl
                refine pu 13 106 #[true, true, true, true, true, true, true, true, true, true, true, true, true, true, false, false, false, false] (qAX HT_.o (by kernel_rfl)) ?_
                refine one_ (i := 14) (N := some 107) #[true, true, true, true, true, true, true, true, true, true, true, true, true, true, true, false, false, false] rfl rfl (qBx HT_.o (by kernel_rfl)) (by decide) (fun K hK => ?_)
                refine value_ (w1 := ?_) (v := ?_) (by rfl) rfl ?_ ?_
                rotate_left 2
                ·go_simp
                 constructor
                 ·rfl
                 rfl
                refine hK.o _ _ ⟨(qAb (qAR aC.o _) 0).trans rfl, (qAb (qAR aC.o _) 1).trans rfl, (qAb (qAR aC.o _) 2).trans rfl, (qAb (qAR aC.o _) 3).trans rfl⟩ (fun hHeld => ?_)
                clear hK K
                refine qCu (a' := ?_) ?_ ?_
                rotate_left
                ·show Act.put _ (some 107) _ = _
                 simp only [Act.put, List.setIfInBounds_toArray, List.set_cons_zero, List.set_cons_succ]
                 rfl
                refine one_ (i := 15) (N := some 108) #[true, true, true, true, true, true, true, true, true, true, true, true, true, true, true, true, false, false] rfl rfl (qBx HT_.o (by kernel_rfl)) (by decide) (fun K hK => ?_)
                refine Kd.R_append_step k82 (w0 := w) w.heap.size (by rfl) (.tmp 94) (.tmp 107) 25 82 (.agg #[(.int .i64 0), (.int .i64 0), (.int .i64 0), (.string ⟨#[]⟩), (.string ⟨#[]⟩)]) 56 rfl Try.underlying25 info82 rfl (by decide) (by omega) ab aK (⟨bW, b0, wrap64 (b9), bh, cG⟩ : S82) [.int .i64 bW, .int .i64 b0, .int .i64 (wrap64 (b9)), .string bh, .string cG] (fun _ => True) (fun _ => False) rfl rfl ?aP (fun _ hk => hk.elim) ?aF ?aO ?aB ?aS ?aL ?_
                (case aP => exact k82_mkM _ _ _ (⟨bW, b0, wrap64 (b9), bh, cG⟩ : S82))
                (case aB => exact HB.o)
                (case aF => exact (fun _ _ => trivial))
                (case aO => exact aI.o)
                (case aS => exact (qAi HB.o))
                (case aL => have := e2.o; omega)
                intro hF he ho hb hg ew
                rw [← e5.o] at ho
                have n_ := a2 (Kd.R_over' aA.o (Kd.R_typed aI.o) (by decide) hg) (a2 (Kd.S_over' aD.o (Kd.R_typed aI.o) (by decide) hg) (a2 (qAP (g := aR) (o := .cells #[.string ⟨#[]⟩, .slice none 0 0, .slice none 0 0, .slice none 0 0] 27 (0, 0)) aE.o hg (Kd.R_ne aI.o aE.o (by decide))) (a2 (qAP (g := aT) (o := .cells #[.string aU, aW, aX, ab] 27 (0, 0)) aC.o hg (Kd.R_ne aI.o aC.o (by decide))) (a2 (qAe.grownR aG.o hg aG.o aI.o (by decide) (fun b_ t_ h_ => h_)) (a2 (hb) (am (ho)))))))
                clear aA aD aE aC aG HB aI
                obtain ⟨aA, aD, aE, aC, aG, HB, dC⟩ := n_
                clear ho hb hg ew
                obtain ⟨c1, ca, gQ⟩ := Kd.R_slice dC.o
                (subst gQ)
                refine hK.o _ _ ⟨(qAb aC.o 0).trans rfl, (qAb aC.o 1).trans rfl, (qAb aC.o 2).trans rfl, (qAb aC.o 3).trans rfl⟩ (fun hHeld => ?_)
                clear hK K
                refine qCu (a' := ?_) ?_ ?_
                rotate_left
                ·show Act.put _ (some 108) _ = _
                 simp only [Act.put, List.setIfInBounds_toArray, List.set_cons_zero, List.set_cons_succ]
                 rfl
                refine pu 16 109 #[true, true, true, true, true, true, true, true, true, true, true, true, true, true, true, true, true, false] (qAX HT_.o (by kernel_rfl)) ?_
                refine last_ (i := 17) (N := none) #[true, true, true, true, true, true, true, true, true, true, true, true, true, true, true, true, true, true] rfl rfl (qBx HT_.o (by kernel_rfl)) (by decide) (fun K hK => ?_)
                have hfs84 := qAc aC.o 3
                refine skip_ (w1 := ?_) (by rfl) rfl ?_ ?_
                rotate_left
                ·go_simp
                 rfl
                refine hK.o _ _ ?_
                clear hK K
                refine done_ (done_of HT_.o (by kernel_rfl)) ?_
                try go_wp2
                go_roundg bF
                case measure => have := bc.o; have := cI.o; have := bR.o; have := cz.o; have := bw.o; have := fj.o; have := eY.o; omega
                case rel => exact ⟨(wrap64 (ak - 1)), (cl), (cm), (cH), (.slice c1 cH.length ca), (by rfl), H', ⟨by have := bc.o; have := cI.o; have := bR.o; have := cz.o; have := bw.o; have := fj.o; have := eY.o; omega⟩, ⟨by exact Kd.R_mono (Kd.R_far (p := ⟨aT, 3, none⟩) (Kd.R_types aA.o aC.o (by decide)) (fun _ hk => hk.2) (.slice c1 cH.length ca)) (fun _ hk => trivial)⟩, ⟨by exact Kd.S_mono (Kd.S_far (p := ⟨aT, 3, none⟩) (Kd.S_types aD.o aC.o (by decide)) (fun _ hk => hk.2) (.slice c1 cH.length ca)) (fun _ hk => trivial)⟩, ⟨by exact Kd.R_mono (Kd.R_far (p := ⟨aT, 3, none⟩) (Kd.R_types dC.o aC.o (by decide)) (fun _ hk => hk.2) (.slice c1 cH.length ca)) (fun _ hk => trivial)⟩, ⟨by refine qA4 ?_ aj.o _; exact aE.o⟩, ⟨by refine qAt (cs := #[.string aU, aW, aX, ab]) ?_ 3 _ rfl; exact aC.o⟩, ⟨by repeat (with_reducible first | exact aG.o | refine qAe.far ?_ bC.o (by exact TyB.of aC.o) (by decide) _)⟩, ⟨by repeat (with_reducible first | exact HB.o | refine qAq ?_ bq.o)⟩⟩
def alive0.f (k : Nat)  : Option (Bool) := (qA7.f (⟨#[109]⟩ : ByteArray) ([(⟨(⟨#[118]⟩ : ByteArray), (⟨1, 1⟩ : S69)⟩ : S71)] : List (S71)) ([] : List (S80)) ([] : List (S82))).bind fun aG => ((qAa.f k aG.1).bind fun aB => (if aG.2 = 0 then (if aB.2.2.2.2 = 0 then (if (aG.1.length : Int) = 35 then (if 4 ≤ (aG.1.length : Int) then (if (strOfNums (aG.1.take 4)).toList = ([102, 111, 98, 106] : List UInt8) then (if aB.1.toList = ([109] : List UInt8) then (if (aB.2.1.length : Int) = 1 then (if 0 < (aB.2.1.length : Int) then (some (((qA6 aB.2.1 0).f1.f1) == 1)) else (none)) else (some false)) else (some false)) else (some false)) else (none)) else (some false)) else (some false)) else (some false)))
theorem alive0.calls (k : Nat)  (r : Bool) (w : World) (h : alive0.f k  = some r) (hr : r = true) :
  Calls Try.prog 8 #[] w fun e w' => e = .returned (.bool r) ∧ Below w.heap.size w w' := by
 have HB := am (Below.refl w.heap.size w)
 have H : ((qA7.f (⟨#[109]⟩ : ByteArray) ([(⟨(⟨#[118]⟩ : ByteArray), (⟨1, 1⟩ : S69)⟩ : S71)] : List (S71)) ([] : List (S80)) ([] : List (S82))).bind fun aG => ((qAa.f k aG.1).bind fun aB => (if aG.2 = 0 then (if aB.2.2.2.2 = 0 then (if (aG.1.length : Int) = 35 then (if 4 ≤ (aG.1.length : Int) then (if (strOfNums (aG.1.take 4)).toList = ([102, 111, 98, 106] : List UInt8) then (if aB.1.toList = ([109] : List UInt8) then (if (aB.2.1.length : Int) = 1 then (if 0 < (aB.2.1.length : Int) then (some (((qA6 aB.2.1 0).f1.f1) == 1)) else (none)) else (some false)) else (some false)) else (some false)) else (none)) else (some false)) else (some false)) else (some false)))) = some r := h
 clear h
 obtain ⟨aM, a7⟩ : ∃ y_ : List (S71), y_ = ([(⟨(⟨#[118]⟩ : ByteArray), (⟨1, 1⟩ : S69)⟩ : S71)] : List (S71)) := ⟨_, rfl⟩
 replace H : ((qA7.f (⟨#[109]⟩ : ByteArray) aM ([] : List (S80)) ([] : List (S82))).bind fun aG => ((qAa.f k aG.1).bind fun aB => (if aG.2 = 0 then (if aB.2.2.2.2 = 0 then (if (aG.1.length : Int) = 35 then (if 4 ≤ (aG.1.length : Int) then (if (strOfNums (aG.1.take 4)).toList = ([102, 111, 98, 106] : List UInt8) then (if aB.1.toList = ([109] : List UInt8) then (if (aB.2.1.length : Int) = 1 then (if 0 < (aB.2.1.length : Int) then (some (((qA6 aB.2.1 0).f1.f1) == 1)) else (none)) else (some false)) else (some false)) else (some false)) else (none)) else (some false)) else (some false)) else (some false)))) = some r := by (rw [a7]; with_reducible exact H)
 have aj := am a7
 clear a7
 replace H := bm H
 obtain ⟨⟨aI, a4⟩, bP, H⟩ := H
 replace H : ((qAa.f k aI).bind fun aB => (if a4 = 0 then (if aB.2.2.2.2 = 0 then (if (aI.length : Int) = 35 then (if 4 ≤ (aI.length : Int) then (if (strOfNums (aI.take 4)).toList = ([102, 111, 98, 106] : List UInt8) then (if aB.1.toList = ([109] : List UInt8) then (if (aB.2.1.length : Int) = 1 then (if 0 < (aB.2.1.length : Int) then (some (((qA6 aB.2.1 0).f1.f1) == 1)) else (none)) else (some false)) else (some false)) else (some false)) else (none)) else (some false)) else (some false)) else (some false))) = some r := H
 have A1 := am bP
 clear bP
 replace H := bm H
 obtain ⟨⟨aK, aF, aQ, aS, a9⟩, bQ, H⟩ := H
 replace H : (if a4 = 0 then (if a9 = 0 then (if (aI.length : Int) = 35 then (if 4 ≤ (aI.length : Int) then (if (strOfNums (aI.take 4)).toList = ([102, 111, 98, 106] : List UInt8) then (if aK.toList = ([109] : List UInt8) then (if (aF.length : Int) = 1 then (if 0 < (aF.length : Int) then (some (((qA6 aF 0).f1.f1) == 1)) else (none)) else (some false)) else (some false)) else (some false)) else (none)) else (some false)) else (some false)) else (some false)) = some r := H
 have A2 := am bQ
 clear bQ
 by_cases c3 : a4 = 0
 ·rw [if_pos c3] at H
  have bV : (a4 == 0) = true := beq_iff_eq.mpr c3
  have bW : (a4 != 0) = false := bn c3
  clear c3
  by_cases c4 : a9 = 0
  ·rw [if_pos c4] at H
   have bX : (a9 == 0) = true := beq_iff_eq.mpr c4
   have bY : (a9 != 0) = false := bn c4
   clear c4
   by_cases c5 : (aI.length : Int) = 35
   ·rw [if_pos c5] at H
    have bZ : ((aI.length : Int) == 35) = true := beq_iff_eq.mpr c5
    have b0 : ((aI.length : Int) != 35) = false := bn c5
    clear c5
    by_cases c6 : 4 ≤ (aI.length : Int)
    ·rw [if_pos c6] at H
     replace c6 := d1 c6
     obtain ⟨aa, a8⟩ : ∃ y_ : List Int, y_ = (aI.take 4) := ⟨_, rfl⟩
     replace H : (if (strOfNums aa).toList = ([102, 111, 98, 106] : List UInt8) then (if aK.toList = ([109] : List UInt8) then (if (aF.length : Int) = 1 then (if 0 < (aF.length : Int) then (some (((qA6 aF 0).f1.f1) == 1)) else (none)) else (some false)) else (some false)) else (some false)) = some r := by (rw [a8]; with_reducible exact H)
     have ad := am a8
     clear a8
     by_cases c7 : (strOfNums aa).toList = ([102, 111, 98, 106] : List UInt8)
     ·rw [if_pos c7] at H
      have b2 : ((strOfNums aa).toList == ([102, 111, 98, 106] : List UInt8)) = true := beq_iff_eq.mpr c7
      have b3 : ((strOfNums aa).toList != ([102, 111, 98, 106] : List UInt8)) = false := bn c7
      clear c7
      by_cases c8 : aK.toList = ([109] : List UInt8)
      ·rw [if_pos c8] at H
       have b4 : (aK.toList == ([109] : List UInt8)) = true := beq_iff_eq.mpr c8
       have b5 : (aK.toList != ([109] : List UInt8)) = false := bn c8
       clear c8
       by_cases c9 : (aF.length : Int) = 1
       ·rw [if_pos c9] at H
        have b6 : ((aF.length : Int) == 1) = true := beq_iff_eq.mpr c9
        have b7 : ((aF.length : Int) != 1) = false := bn c9
        clear c9
        by_cases c10 : 0 < (aF.length : Int)
        ·rw [if_pos c10] at H
         replace c10 := d1 c10
         obtain rfl := Option.some.inj H
         go_enter Try.func8, Try.ntmps8
         go_wp2_with (first | ((with_reducible refine qAC (N := 8) rfl ?_); (try (refine qAE (by rfl) ?_; dsimp only)); refine Kd.R_lit k71 _ 71 ?hg (N := 8) ?hd (xs := ([(⟨(⟨#[118]⟩ : ByteArray), (⟨1, 1⟩ : S69)⟩ : S71)] : List (S71))) (inner := [.string (⟨#[118]⟩ : ByteArray), .int .i64 1, .int .u64 1]) (ok := fun _ => True) (okp := fun _ => True) ?hr ?hp (fun _ hk => hk) trivial (Below.refl _ _) (Nat.le_refl _) (by simp) ?_; (case hd => rfl); (case hg => rfl); (case hr => (go_simp; done)); (case hp => exact (Reps.c3 (show Kd.M k71 _ _ _ (⟨(⟨#[118]⟩ : ByteArray), (⟨1, 1⟩ : S69)⟩ : S71) [.string (⟨#[118]⟩ : ByteArray), .int .i64 1, .int .u64 1] from (k71_mkM _ _ _ (⟨(⟨#[118]⟩ : ByteArray), (⟨1, 1⟩ : S69)⟩ : S71) )) (Reps.none _ _))); intro b9 bg ho12 hb hg_ hnew_; clear hg_ hnew_; (rw [← aj.o] at ho12); have n_ := a2 (Kd.R_lower ho12 (qAi HB.o)) (am (qAo HB.o hb)); clear HB; obtain ⟨aD, HB⟩ := n_; clear hb ho12; obtain ⟨aV, aR, bJ⟩ := Kd.R_slice aD.o; subst bJ) | ((with_reducible refine qAC (N := 1) rfl ?_); (try (refine qAE (by rfl) ?_; dsimp only)); refine bx 1 #[.string ⟨#[]⟩, .slice none 0 0, .slice none 0 0, .slice none 0 0] 27 ?_; intro aH hg bH hbox hb; have n_ := a2 (Kd.R_below aD.o hb) (a2 (qAo HB.o hb) (a2 (hbox) (am (by rw [hg]; exact (qAi HB.o) : w.heap.size ≤ aH)))); clear aD HB; obtain ⟨aD, HB, aC, ac⟩ := n_; clear hb hbox hg; have an : bH.cell? ⟨aH, 0, none⟩ = some (.string ⟨#[]⟩) := (qAb aC.o 0).trans rfl; have ao : bH.cell? ⟨aH, 1, none⟩ = some (.slice none 0 0) := (qAb aC.o 1).trans rfl; have ap : bH.cell? ⟨aH, 2, none⟩ = some (.slice none 0 0) := (qAb aC.o 2).trans rfl; have aq : bH.cell? ⟨aH, 3, none⟩ = some (.slice none 0 0) := (qAb aC.o 3).trans rfl; have az := qAc aC.o 0; have bA := qAc aC.o 1; have bB := qAc aC.o 2; have bC := qAc aC.o 3) | ((with_reducible refine qAj (f := 9) rfl ?_); refine gL 12 Try.func9 #[.agg #[.string (⟨#[109]⟩ : ByteArray), .slice aV aM.length aR, .slice none 0 0, .slice none 0 0]] ?_; (refine (qA7.calls (⟨#[109]⟩ : ByteArray) _ _ aM _ _ ([] : List (S80)) _ _ ([] : List (S82)) aI a4 _ ?side1 ?side2 ?side3 ?side4 ?side5 ?side6 A1.o).mono ?_); (case side1 => refine (Kd.R_reads' (e := 71) (base := w.heap.size) (ok := fun k_ => True) (n := aM.length) (c := aR) ?_).2.2; exact (by exact (Kd.R_mono (Kd.R_far (p := ⟨aH, 3, none⟩) (Kd.R_far (p := ⟨aH, 2, none⟩) (Kd.R_far (p := ⟨aH, 1, none⟩) (Kd.R_far (p := ⟨aH, 0, none⟩) (Kd.R_types aD.o aC.o (by decide)) (fun _ hk => hk.2) (.string (⟨#[109]⟩ : ByteArray))) (fun _ hk => hk.2) (.slice aV aM.length aR)) (fun _ hk => hk.2) (.slice none 0 0)) (fun _ hk => hk.2) (.slice none 0 0)) (fun _ h_ => h_.1)))); (case side2 => exact (Kd.R_reads' aD.o).2.1); (case side3 => exact Kd.C_nil _ _); (case side4 => exact Nat.le_refl _); (case side5 => exact Kd.C_nil _ _); (case side6 => exact Nat.le_refl _); rintro e bh ⟨ba, rfl, ag, hb⟩; refine ⟨_, rfl, ?_⟩; have n_ := a2 (Kd.R_below (by exact (Kd.R_mono (Kd.R_far (p := ⟨aH, 3, none⟩) (Kd.R_far (p := ⟨aH, 2, none⟩) (Kd.R_far (p := ⟨aH, 1, none⟩) (Kd.R_far (p := ⟨aH, 0, none⟩) (Kd.R_types aD.o aC.o (by decide)) (fun _ hk => hk.2) (.string (⟨#[109]⟩ : ByteArray))) (fun _ hk => hk.2) (.slice aV aM.length aR)) (fun _ hk => hk.2) (.slice none 0 0)) (fun _ hk => hk.2) (.slice none 0 0)) (fun _ h_ => h_.1))) hb) (a2 (Kd.R_lower ag (qAi (by repeat (with_reducible first | exact HB.o | refine qAq ?_ ac.o)))) (a2 (qAz (g := aH) (o := .cells #[.string (⟨#[109]⟩ : ByteArray), .slice aV aM.length aR, .slice none 0 0, .slice none 0 0] 27 (0, 0)) (by refine qAt (cs := #[.string (⟨#[109]⟩ : ByteArray), .slice aV aM.length aR, .slice none 0 0, .slice none 0 0]) ?_ 3 _ rfl; refine qAt (cs := #[.string (⟨#[109]⟩ : ByteArray), .slice aV aM.length aR, .slice none 0 0, .slice none 0 0]) ?_ 2 _ rfl; refine qAt (cs := #[.string (⟨#[109]⟩ : ByteArray), .slice none 0 0, .slice none 0 0, .slice none 0 0]) ?_ 1 _ rfl; refine qAt (cs := #[.string ⟨#[]⟩, .slice none 0 0, .slice none 0 0, .slice none 0 0]) ?_ 0 _ rfl; exact aC.o) hb) (am (qAo (by repeat (with_reducible first | exact HB.o | refine qAq ?_ ac.o)) hb)))); clear aD aC HB; obtain ⟨aD, aJ, aC, HB⟩ := n_; obtain ⟨a5, a6, bK⟩ := Kd.R_slice aJ.o; subst bK) | ((with_reducible refine qAj (f := 7) rfl ?_); refine gL 17 Try.func7 #[.slice a5 aI.length a6] ?_; (with_reducible refine (qAa.calls k _ _ aI aK aF aQ aS a9 _ ?side1 ?side2 A2.o).mono ?_); (case side1 => exact (Kd.R_reads' aJ.o).2.2); (case side2 => exact (Kd.R_reads' aJ.o).2.1); rintro e bi ⟨bb, bc, bd, rfl, ag, bT, bU, hb⟩; refine ⟨_, rfl, ?_⟩; have n_ := a2 (Kd.R_elder' aD.o (Kd.R_base ag) hb) (a2 (Kd.R_below aJ.o hb) (a2 (Kd.R_lower (Kd.R_new' ag (Kd.R_lt aD.o)) (qAi HB.o)) (a2 (Kd.S_lower bT (qAi HB.o)) (a2 (Kd.R_lower bU (qAi HB.o)) (a2 (qAz aC.o hb) (am (qAo HB.o hb))))))); clear aD aJ aC HB; obtain ⟨aD, aJ, aN, aT, aU, aC, HB⟩ := n_) | ((with_reducible refine qAC (N := 4) rfl ?_); (try (refine qAE (by rfl) ?_; dsimp only)); refine bx 4 #[.string ⟨#[]⟩, .slice none 0 0, .slice none 0 0, .slice none 0 0] 27 ?_; intro aA hg al hbox hb; have n_ := a2 (Kd.R_below aD.o hb) (a2 (Kd.R_below aJ.o hb) (a2 (Kd.R_below aN.o hb) (a2 (Kd.S_below aT.o hb) (a2 (Kd.R_below aU.o hb) (a2 (qAz aC.o hb) (a2 (qAo HB.o hb) (a2 (hbox) (a2 (by rw [hg]; exact (qAi HB.o) : w.heap.size ≤ aA) (am (by rw [hg]; exact Nat.ne_of_lt (qAO aC.o) : aH ≠ aA)))))))))); clear aD aJ aN aT aU aC HB; obtain ⟨aD, aJ, aN, aT, aU, aC, HB, aE, ah, aL⟩ := n_; clear hb hbox hg; have ar : al.cell? ⟨aA, 0, none⟩ = some (.string ⟨#[]⟩) := (qAb aE.o 0).trans rfl; have au : al.cell? ⟨aA, 1, none⟩ = some (.slice none 0 0) := (qAb aE.o 1).trans rfl; have av : al.cell? ⟨aA, 2, none⟩ = some (.slice none 0 0) := (qAb aE.o 2).trans rfl; have aw : al.cell? ⟨aA, 3, none⟩ = some (.slice none 0 0) := (qAb aE.o 3).trans rfl; have bD := qAc aE.o 0; have bE := qAc aE.o 1; have bF := qAc aE.o 2; have bG := qAc aE.o 3; obtain ⟨aO, aP, bL⟩ := Kd.R_slice aN.o; subst bL; obtain ⟨aW, aX, bM⟩ := Kd.S_slice aT.o; subst bM; obtain ⟨a1, a3, bN⟩ := Kd.R_slice aU.o; subst bN) | ((with_reducible refine gate_store (t := 27) (p := 4) rfl ?_); refine store_event (t := 27) (p := 4) (v := ?vo_w25) (w1 := ((((al.setCell ⟨aA, 0, none⟩ (.string aK)).setCell ⟨aA, 1, none⟩ (.slice aO aF.length aP)).setCell ⟨aA, 2, none⟩ (.slice aW aQ.length aX)).setCell ⟨aA, 3, none⟩ (.slice a1 aS.length a3))) ?hg ?ho ?hn ?hr ?_; (case ho => rfl); (case hg => rfl); (case hn => rfl); (case hr => (go_simp; done)); intro ab hw; have n0_ : qAf (Kd.R k71 71 ab w.heap.size (fun k_ => some k_ ≠ (.slice aO aF.length aP : Value).ownBlock) (.slice aV aM.length aR) aM) := ⟨(by rw [hw]; exact (by exact Kd.R_mono (Kd.R_far (p := ⟨aA, 3, none⟩) (Kd.R_far (p := ⟨aA, 2, none⟩) (Kd.R_far (p := ⟨aA, 1, none⟩) (Kd.R_far (p := ⟨aA, 0, none⟩) (Kd.R_types aD.o aE.o (by decide)) (fun _ hk => hk.2) (.string aK)) (fun _ hk => hk.2) (.slice aO aF.length aP)) (fun _ hk => hk.2) (.slice aW aQ.length aX)) (fun _ hk => hk.2) (.slice a1 aS.length a3)) (fun _ hk => hk.1.2)))⟩; have n1_ : qAf (Kd.R (Kd.int .u8) 5 ab w.heap.size (fun _ => True) (.slice a5 aI.length a6) aI) := ⟨(by rw [hw]; exact (by exact Kd.R_mono (Kd.R_far (p := ⟨aA, 3, none⟩) (Kd.R_far (p := ⟨aA, 2, none⟩) (Kd.R_far (p := ⟨aA, 1, none⟩) (Kd.R_far (p := ⟨aA, 0, none⟩) (Kd.R_types aJ.o aE.o (by decide)) (fun _ hk => hk.2) (.string aK)) (fun _ hk => hk.2) (.slice aO aF.length aP)) (fun _ hk => hk.2) (.slice aW aQ.length aX)) (fun _ hk => hk.2) (.slice a1 aS.length a3)) (fun _ hk => trivial)))⟩; have n2_ : qAf (Kd.R k71 71 ab w.heap.size (fun k_ => some k_ ≠ (.slice aV aM.length aR : Value).ownBlock) (.slice aO aF.length aP) aF) := ⟨(by rw [hw]; exact (by exact Kd.R_mono (Kd.R_far (p := ⟨aA, 3, none⟩) (Kd.R_far (p := ⟨aA, 2, none⟩) (Kd.R_far (p := ⟨aA, 1, none⟩) (Kd.R_far (p := ⟨aA, 0, none⟩) (Kd.R_types aN.o aE.o (by decide)) (fun _ hk => hk.2) (.string aK)) (fun _ hk => hk.2) (.slice aO aF.length aP)) (fun _ hk => hk.2) (.slice aW aQ.length aX)) (fun _ hk => hk.2) (.slice a1 aS.length a3)) (fun _ hk => hk.1.2)))⟩; have n3_ : qAf (Kd.S k80 80 ab w.heap.size (fun _ => True) (.slice aW aQ.length aX) aQ) := ⟨(by rw [hw]; exact (by exact Kd.S_mono (Kd.S_far (p := ⟨aA, 3, none⟩) (Kd.S_far (p := ⟨aA, 2, none⟩) (Kd.S_far (p := ⟨aA, 1, none⟩) (Kd.S_far (p := ⟨aA, 0, none⟩) (Kd.S_types aT.o aE.o (by decide)) (fun _ hk => hk.2) (.string aK)) (fun _ hk => hk.2) (.slice aO aF.length aP)) (fun _ hk => hk.2) (.slice aW aQ.length aX)) (fun _ hk => hk.2) (.slice a1 aS.length a3)) (fun _ hk => trivial)))⟩; have n4_ : qAf (Kd.R k82 82 ab w.heap.size (fun _ => True) (.slice a1 aS.length a3) aS) := ⟨(by rw [hw]; exact (by exact Kd.R_mono (Kd.R_far (p := ⟨aA, 3, none⟩) (Kd.R_far (p := ⟨aA, 2, none⟩) (Kd.R_far (p := ⟨aA, 1, none⟩) (Kd.R_far (p := ⟨aA, 0, none⟩) (Kd.R_types aU.o aE.o (by decide)) (fun _ hk => hk.2) (.string aK)) (fun _ hk => hk.2) (.slice aO aF.length aP)) (fun _ hk => hk.2) (.slice aW aQ.length aX)) (fun _ hk => hk.2) (.slice a1 aS.length a3)) (fun _ hk => trivial)))⟩; have n5_ : qAf (ab.heap[aH]? = some (.cells #[.string (⟨#[109]⟩ : ByteArray), .slice aV aM.length aR, .slice none 0 0, .slice none 0 0] 27 (0, 0))) := ⟨(by rw [hw]; exact (by refine qA4 ?_ aL.o _; refine qA4 ?_ aL.o _; refine qA4 ?_ aL.o _; refine qA4 ?_ aL.o _; exact aC.o))⟩; have n6_ : qAf (ab.heap[aA]? = some (.cells #[.string aK, .slice aO aF.length aP, .slice aW aQ.length aX, .slice a1 aS.length a3] 27 (0, 0))) := ⟨(by rw [hw]; exact (by refine qAt (cs := #[.string aK, .slice aO aF.length aP, .slice aW aQ.length aX, .slice none 0 0]) ?_ 3 _ rfl; refine qAt (cs := #[.string aK, .slice aO aF.length aP, .slice none 0 0, .slice none 0 0]) ?_ 2 _ rfl; refine qAt (cs := #[.string aK, .slice none 0 0, .slice none 0 0, .slice none 0 0]) ?_ 1 _ rfl; refine qAt (cs := #[.string ⟨#[]⟩, .slice none 0 0, .slice none 0 0, .slice none 0 0]) ?_ 0 _ rfl; exact aE.o))⟩; have n7_ : qAf (Below w.heap.size w ab) := ⟨(by rw [hw]; exact (by repeat (with_reducible first | exact HB.o | refine qAq ?_ ah.o)))⟩; clear hw; clear aD; clear aJ; clear aN; clear aT; clear aU; clear aC; clear aE; clear HB; have aD := n0_; have aJ := n1_; have aN := n2_; have aE := n6_; have HB := n7_; clear n0_ n1_ n2_ n3_ n4_ n5_ n6_ n7_; have b8 : (4 : Int) ≤ ((aI.length : Int) : Int) := od (by assumption); obtain ⟨i026, ae, _, hsz26, _⟩ := info_parts info5; have hroom26 : aI.length ≤ a6 := (Kd.R_reads' aJ.o).2.1; have hC26 : Kd.C (Kd.int .u8) _ a5 aI.length aI := (Kd.R_reads' aJ.o).2.2; have hcut26 := cut_to (P := Try.prog) 22 5 .i64 Try.underlying22 ae a5 aI.length a6 4 (by omega) b8 hroom26; have hr26 := Kd.C_take (m := 4) hC26 (by omega); have ak : aa.length = (4 : Int).toNat := (by rw [ad.o, List.length_take]; omega); rw [← ad.o] at hr26; rw [← ak] at hcut26; have ai := am hr26; clear hr26 hC26 hroom26 ae hsz26; clear ak; have hcv27 := Kd.C_string (P := Try.prog) (A := a5) (c := a6) Try.underlying22 Try.underlying5 Try.underlying9 (by repeat (with_reducible exact ai.o)); have ax : ab.cell? ⟨aA, 0, none⟩ = some (.string aK) := (qAb aE.o 0).trans rfl; have ay : ab.cell? ⟨aA, 1, none⟩ = some (.slice aO aF.length aP) := (qAb aE.o 1).trans rfl; have bO : 0 ≤ (0 : Int) := (by omega); have af : 0 < (aF.length : Int) := od (by assumption); obtain ⟨bR, bI, aY, aZ, a0⟩ := at_T71 (Kd.R_reads' aN.o).2.2 0 bO af; cases bI; have qi309 : (0 < aF.length) = True := eq_true (by omega); (try rw [show (0 : Int).toNat = 0 from rfl] at aY); (try rw [show 0 * 3 = 0 from rfl] at aY); (try rw [Addr.add_zero'] at aY); (try rw [show (0 : Int).toNat = 0 from rfl] at aZ); (try rw [show 0 * 3 = 0 from rfl] at aZ); (try rw [Addr.add_zero'] at aZ); (try rw [show (0 : Int).toNat = 0 from rfl] at a0); (try rw [show 0 * 3 = 0 from rfl] at a0); (try rw [Addr.add_zero'] at a0); replace af := eq_true af))
         go_ret
         exact ⟨by rfl, by exact HB.o⟩
        ·rw [if_neg c10] at H
         exact absurd H (by simp)
       ·rw [if_neg c9] at H
        subst hr
        exact absurd H (by simp)
      ·rw [if_neg c8] at H
       subst hr
       exact absurd H (by simp)
     ·rw [if_neg c7] at H
      subst hr
      exact absurd H (by simp)
    ·rw [if_neg c6] at H
     exact absurd H (by simp)
   ·rw [if_neg c5] at H
    subst hr
    exact absurd H (by simp)
  ·rw [if_neg c4] at H
   subst hr
   exact absurd H (by simp)
 ·rw [if_neg c3] at H
  subst hr
  exact absurd H (by simp)
def qA5.f (k : Nat) : Option Bool := if alive0.f k = some true then some true else none
theorem qA5.calls (k : Nat) (r : Bool) (w : World) (h : qA5.f k = some r) :
  Calls Try.prog 8 #[] w fun e w' => e = .returned (.bool r) ∧ Below w.heap.size w w' := by
 unfold qA5.f at h
 split at h
 ·rename_i h0
  obtain rfl := Option.some.inj h
  exact alive0.calls k _ w h0 rfl
 ·cases h
end Q
end
end Go.Proofs.Ytfjpnjbinbhcfaa
