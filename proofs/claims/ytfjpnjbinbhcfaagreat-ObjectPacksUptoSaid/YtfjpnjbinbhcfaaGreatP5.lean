/- object.Pack and the document's Pack of any object, where what is read is of bulk at most 1048576: the same bytes and the same error. Part 5 of 8. -/
import Derived.Test.YtfjpnjbinbhcfaaGreatP4
set_option maxHeartbeats 8000000
set_option maxRecDepth 100000
set_option linter.unusedVariables false
set_option linter.unusedSimpArgs false
namespace Go.Proofs.YtfjpnjbinbhcfaaGreat
section
namespace Q
open Go.RowKit PA PC PB
attribute [local go_sem] qAX min2_int qBi min_two max_three min_three max_four min_four
mutual
def qAb.l0 : Nat → List Int → List Int → Int → Int → List Int → Int → Int → Option (ByteArray × (List (S85)) × (List (S92)) × (List (S104)) × Int)
 | 0, _, _, _, _, _, _, _ => none
 | k + 1, x0, ft, g2, dn, aM, aZ, a1 => if dn < g2 then (if 0 ≤ dn then (if dn < (ft.length : Int) then ((qAr.f aM aZ a1).bind fun b3 => (if b3.1 = (rd ft dn) then (qAb.l0 k x0 ft g2 (wrap64 (dn + 1)) aM b3.2.1 b3.2.2) else ((qAU.f aM b3.2.1 b3.2.2 52).bind fun b4 => (qAb.l0 k x0 ft g2 (wrap64 (dn + 1)) aM b4.1 b4.2)))) else (none)) else (none)) else ((qAC.f aM aZ a1 32).bind fun cM => ((qBa.f aM cM.2.1 cM.2.2).bind fun bK => (qAb.l1 k x0 bK.1 aM bK.2.1 bK.2.2 cM.1 ([] : List (S85)))))
def qAb.l1 : Nat → List Int → Int → List Int → Int → Int → ByteArray → List (S85) → Option (ByteArray × (List (S85)) × (List (S92)) × (List (S104)) × Int)
 | 0, _, _, _, _, _, _, _ => none
 | k + 1, x0, x8, aM, aZ, a1, a4, a3 => if x8 > 0 then ((qAO.f aM aZ a1).bind fun cN => (qAb.j2 k x0 x8 (cN.1 == 0) aM cN.2.1 cN.2.2 a4 a3)) else (qAb.j2 k x0 x8 false aM aZ a1 a4 a3)
def qAb.j2 : Nat → List Int → Int → Bool → List Int → Int → Int → ByteArray → List (S85) → Option (ByteArray × (List (S85)) × (List (S92)) × (List (S104)) × Int)
 | 0, _, _, _, _, _, _, _, _ => none
 | k + 1, x0, x8, hI, aM, aZ, a1, a4, a3 => if hI = true then ((qAC.f aM aZ a1 32).bind fun bL => ((qAr.f aM bL.2.1 bL.2.2).bind fun bA => ((qBn.f aM bA.2.1 bA.2.2).bind fun ao => (if a3.length < 4398046511104 then (qAb.l1 k x0 (wrap64 (x8 - 1)) aM ao.2.1 ao.2.2 a4 (a3 ++ [(⟨bL.1, (⟨wrap64 (bA.1), ao.1⟩ : S83)⟩ : S85)])) else (none))))) else ((qBa.f aM aZ a1).bind fun bM => (qAb.l2 k x0 bM.1 aM bM.2.1 bM.2.2 a4 a3 ([] : List (S92))))
def qAb.l2 : Nat → List Int → Int → List Int → Int → Int → ByteArray → List (S85) → List (S92) → Option (ByteArray × (List (S85)) × (List (S92)) × (List (S104)) × Int)
 | 0, _, _, _, _, _, _, _, _ => none
 | k + 1, x0, x9, aM, aZ, a1, a4, a3, a9 => if x9 > 0 then ((qAO.f aM aZ a1).bind fun cO => (qAb.j4 k x0 x9 (cO.1 == 0) aM cO.2.1 cO.2.2 a4 a3 a9)) else (qAb.j4 k x0 x9 false aM aZ a1 a4 a3 a9)
def qAb.j4 : Nat → List Int → Int → Bool → List Int → Int → Int → ByteArray → List (S85) → List (S92) → Option (ByteArray × (List (S85)) × (List (S92)) × (List (S104)) × Int)
 | 0, _, _, _, _, _, _, _, _, _ => none
 | k + 1, x0, x9, hJ, aM, aZ, a1, a4, a3, a9 => if hJ = true then ((qAC.f aM aZ a1 32).bind fun bN => ((qBC.f k aM bN.2.1 bN.2.2).bind fun ag => (if a9.length < 1466015503701 then (qAb.l2 k x0 (wrap64 (x9 - 1)) aM ag.2.2.2.2.1 ag.2.2.2.2.2 a4 a3 (a9 ++ [(⟨bN.1, (⟨(⟨ag.1, ag.2.1⟩ : S69), ag.2.2.1, ag.2.2.2.1⟩ : S90)⟩ : S92)])) else (none)))) else ((qBa.f aM aZ a1).bind fun bO => (qAb.l3 k x0 bO.1 aM bO.2.1 bO.2.2 a4 a3 a9 ([] : List (S104))))
def qAb.l3 : Nat → List Int → Int → List Int → Int → Int → ByteArray → List (S85) → List (S92) → List (S104) → Option (ByteArray × (List (S85)) × (List (S92)) × (List (S104)) × Int)
 | 0, _, _, _, _, _, _, _, _, _ => none
 | k + 1, x0, fc, aM, aZ, a1, a4, a3, a9, ay => if fc > 0 then ((qAO.f aM aZ a1).bind fun cP => (qAb.j6 k x0 fc (cP.1 == 0) aM cP.2.1 cP.2.2 a4 a3 a9 ay)) else (qAb.j6 k x0 fc false aM aZ a1 a4 a3 a9 ay)
def qAb.j6 : Nat → List Int → Int → Bool → List Int → Int → Int → ByteArray → List (S85) → List (S92) → List (S104) → Option (ByteArray × (List (S85)) × (List (S92)) × (List (S104)) × Int)
 | 0, _, _, _, _, _, _, _, _, _, _ => none
 | k + 1, x0, fc, hL, aM, aZ, a1, a4, a3, a9, ay => if hL = true then ((qBe.f aM aZ a1).bind fun bP => ((qBe.f aM bP.2.1 bP.2.2).bind fun bB => ((qAr.f aM bB.2.1 bB.2.2).bind fun ap => ((qAC.f aM ap.2.1 ap.2.2 32).bind fun ah => ((qAC.f aM ah.2.1 ah.2.2 32).bind fun a8 => (if ay.length < 2513169434916 then (qAb.l3 k x0 (wrap64 (fc - 1)) aM a8.2.1 a8.2.2 a4 a3 a9 (ay ++ [(⟨bP.1, bB.1, wrap64 (ap.1), ah.1, a8.1⟩ : S104)])) else (none))))))) else ((qBm.f aM aZ a1).bind fun cQ => (if cQ.1 = 0 then ((qBg.f a4 a3 a9 ay).bind fun bG => (if bG.2 = 0 then ((qAy.f k x0 bG.1).bind fun bU => (if bU = true then (some (a4, a3, a9, ay, 0)) else (some ((⟨#[]⟩ : ByteArray), ([] : List (S85)), ([] : List (S92)), ([] : List (S104)), 52)))) else (some ((⟨#[]⟩ : ByteArray), ([] : List (S85)), ([] : List (S92)), ([] : List (S104)), 52)))) else (some ((⟨#[]⟩ : ByteArray), ([] : List (S85)), ([] : List (S92)), ([] : List (S104)), 52))))
end
def qAb.f (k : Nat) (l0 : List Int) : Option (ByteArray × (List (S85)) × (List (S92)) × (List (S104)) × Int) := if (l0.length : Int) > 16384 then (some ((⟨#[]⟩ : ByteArray), ([] : List (S85)), ([] : List (S92)), ([] : List (S104)), 3)) else ((qCL.f l0).bind fun bJ => ((some (([102, 111, 98, 106] : List Int) : List Int)).bind fun aa => (qAb.l0 k l0 aa (aa.length : Int) 0 bJ.1 bJ.2.1 bJ.2.2)))
def qAb.T14 : Bool × List (List Nat × List Nat) := (true, [([], []), ([0], [0]), ([], []), ([2], [2]), ([], []), ([4, 3], [4]), ([5], [5]), ([], []), ([7, 5], [7]), ([6, 8], [6, 8]), ([3, 9], [3, 9]), ([10], [10]), ([1, 11, 8], [1, 11]), ([0, 1, 2, 3, 4, 5, 6, 7, 8, 9, 10, 11, 12], []), ([13, 12, 12, 0, 1, 2, 3, 4, 5, 6, 7, 8, 9, 10, 11, 12], [12, 13])])
def qAb.B14 : List Nat := [0, 1, 0, 4, 0, 28, 60, 0, 188, 508, 1020, 2044, 4095, 8191, 16383]
theorem qAb.tab14 : rtab .any (opsOf Tryz.f16 14) = qAb.T14 := by kernel_rfl
theorem qAb.bits14 : qCz qAb.T14.2 qAb.B14 = true := by kernel_rfl
def qAb.T18 : Bool × List (List Nat × List Nat) := (true, [([], []), ([0], [0]), ([], []), ([2], [2]), ([], []), ([4, 3], [4]), ([3, 5], [3, 5]), ([6], [6]), ([1, 7, 5], [1, 7]), ([0, 1, 2, 3, 4, 5, 6, 7, 8], []), ([9, 8, 8, 0, 1, 2, 3, 4, 5, 6, 7, 8], [8, 9])])
def qAb.B18 : List Nat := [0, 1, 0, 4, 0, 28, 60, 124, 255, 511, 1023]
theorem qAb.tab18 : rtab .any (opsOf Tryz.f16 18) = qAb.T18 := by kernel_rfl
theorem qAb.bits18 : qCz qAb.T18.2 qAb.B18 = true := by kernel_rfl
def qAb.T22 : Bool × List (List Nat × List Nat) := (true, [([], []), ([0], [0]), ([], []), ([2], [2]), ([], []), ([4, 3], [4]), ([], []), ([6, 5], [6]), ([7], [7]), ([], []), ([9, 7], [9]), ([], []), ([11, 10], [11]), ([3, 5, 8, 10, 12], [3, 5, 8, 10, 12]), ([13], [13]), ([1, 14, 12], [1, 14]), ([0, 1, 2, 3, 4, 5, 6, 7, 8, 9, 10, 11, 12, 13, 14, 15], []), ([16, 15, 15, 0, 1, 2, 3, 4, 5, 6, 7, 8, 9, 10, 11, 12, 13, 14, 15], [15, 16])])
def qAb.B22 : List Nat := [0, 1, 0, 4, 0, 28, 0, 124, 252, 0, 764, 0, 3836, 8188, 16380, 32767, 65535, 131071]
theorem qAb.tab22 : rtab .any (opsOf Tryz.f16 22) = qAb.T22 := by kernel_rfl
theorem qAb.bits22 : qCz qAb.T22.2 qAb.B22 = true := by kernel_rfl
theorem qAb.calls (k : Nat) (A0 : Option Addr) (c0 : Nat) (l0 : List Int) (r1 : ByteArray) (r2 : List (S85)) (r3 : List (S92)) (r4 : List (S104)) (r5 : Int) (w : World) (hr0 : Kd.C (Kd.int .u8) w A0 l0.length l0) (hc0 : l0.length ≤ c0) (h : qAb.f k l0 = some (r1, r2, r3, r4, r5)) :
  Calls Tryz.prog 16 #[.slice A0 l0.length c0] w fun e w' => ∃ v1_ v2_ v3_ : Value, e = .returned (.tuple #[.agg #[.string r1, v1_, v2_, v3_], .int .i64 r5]) ∧ Kd.R k85 85 w' w.heap.size (fun _ => True) v1_ r2 ∧ Kd.S k92 92 w' w.heap.size (fun _ => True) v2_ r3 ∧ Kd.R k104 104 w' w.heap.size (fun _ => True) v3_ r4 ∧ Below w.heap.size w w' := by
 have fy := am hr0
 have fx := am hc0
 clear hr0 hc0
 have HB := am (Below.refl w.heap.size w)
 have H : (if (l0.length : Int) > 16384 then (some ((⟨#[]⟩ : ByteArray), ([] : List (S85)), ([] : List (S92)), ([] : List (S104)), 3)) else ((qCL.f l0).bind fun bJ => ((some (([102, 111, 98, 106] : List Int) : List Int)).bind fun aa => (qAb.l0 k l0 aa (aa.length : Int) 0 bJ.1 bJ.2.1 bJ.2.2)))) = some (r1, r2, r3, r4, r5) := h
 clear h
 by_cases c2 : (l0.length : Int) > 16384
 ·rw [if_pos c2] at H
  have e6 := d1 c2
  clear c2
  simp only [Option.some.injEq, Prod.mk.injEq] at H
  obtain ⟨rfl, rfl, rfl, rfl, rfl⟩ := H
  go_enter Tryz.func16, Tryz.ntmps16
  go_wp2_with ((with_reducible refine qAK (N := 2) rfl ?_); refine bx 2 #[.string ⟨#[]⟩, .slice none 0 0, .slice none 0 0, .slice none 0 0] 33 ?_; intro aX hg w3 hbox hb; have n_ := a2 (qAe HB.o hb) (a2 (hbox) (am (by rw [hg]; exact (qAf HB.o) : w.heap.size ≤ aX))); clear HB; obtain ⟨HB, aE, bV⟩ := n_; clear hb hbox hg; obtain ⟨gO, gP, gQ, gR⟩ := c4_ w3 aE.o; obtain ⟨gS, gT, gU, gV⟩ := z4_ aE.o)
  refine bodyPost_ret (qDg rfl _ _ aX 33 #[.string ⟨#[]⟩, .slice none 0 0, .slice none 0 0, .slice none 0 0] (0, 0) _ rfl (by refine qA5 (cs := #[.string ⟨#[]⟩, .slice none 0 0, .slice none 0 0, .slice none 0 0]) ?_ 3 _ rfl; refine qA5 (cs := #[.string ⟨#[]⟩, .slice none 0 0, .slice none 0 0, .slice none 0 0]) ?_ 2 _ rfl; refine qA5 (cs := #[.string ⟨#[]⟩, .slice none 0 0, .slice none 0 0, .slice none 0 0]) ?_ 1 _ rfl; refine qA5 (cs := #[.string ⟨#[]⟩, .slice none 0 0, .slice none 0 0, .slice none 0 0]) ?_ 0 _ rfl; exact aE.o) Tryz.underlying33 rfl (by kernel_rfl)) rfl ?_
  exact ⟨_, _, _, by rfl, by (exact Kd.R_nil _ _ _ _ _), by (exact Kd.S_nil _ _ _ _ _), by (exact Kd.R_nil _ _ _ _ _), by repeat (with_reducible first | exact HB.o | refine qA1 ?_ bV.o)⟩
 ·rw [if_neg c2] at H
  have e6 := d0 c2
  have fz : decide (16384 < l0.length) = false := decide_eq_false (by omega)
  clear c2
  replace H := bm H
  obtain ⟨⟨aN, cl, cm⟩, g4, H⟩ := H
  replace H : ((some (([102, 111, 98, 106] : List Int) : List Int)).bind fun aa => (qAb.l0 k l0 aa (aa.length : Int) 0 aN cl cm)) = some (r1, r2, r3, r4, r5) := H
  have A5 := am g4
  clear g4
  obtain ⟨aa, cV⟩ : ∃ y_ : List Int, y_ = ([102, 111, 98, 106] : List Int) := ⟨_, rfl⟩
  replace H : (qAb.l0 k l0 aa (aa.length : Int) 0 aN cl cm) = some (r1, r2, r3, r4, r5) := by (have H2_ := (Option.bind_some _ _).symm.trans H; rw [cV]; with_reducible exact H2_)
  have cz := am cV
  clear cV
  have H' := am H
  clear H
  go_enter Tryz.func16, Tryz.ntmps16
  go_wp2_with (first | ((with_reducible refine qAK (N := 2) rfl ?_); refine bx 2 #[.string ⟨#[]⟩, .slice none 0 0, .slice none 0 0, .slice none 0 0] 33 ?_; intro aX hg w6 hbox hb; have n_ := a2 (qAe HB.o hb) (a2 (hbox) (am (by rw [hg]; exact (qAf HB.o) : w.heap.size ≤ aX))); clear HB; obtain ⟨HB, aE, bV⟩ := n_; clear hb hbox hg) | ((with_reducible refine qAi (f := 55) rfl ?_); refine gL 18 Tryz.func55 #[.slice A0 l0.length c0] ?_; (with_reducible refine (qCL.calls _ _ l0 aN cl cm w _ ?side1 ?side2 ?side3 A5.o).mono ?_); (case side1 => exact HB.o); (case side2 => exact fy.o); (case side3 => exact fx.o); rintro e w7 ⟨aW, rfl, hi, hb, hb2⟩; refine ⟨_, rfl, ?_⟩; have n_ := a2 (qAk aE.o hb2) (a2 (hb) (a2 (hi) (am (Ne.symm (qAm.ne_blk hi (qAk aE.o hb2) (by decide)))))); clear aE HB; obtain ⟨aE, HB, aD, aQ⟩ := n_) | ((with_reducible refine qAK (N := 19) rfl ?_); refine Kd.R_lit (Kd.int .u8) _ 5 ?hg (N := 19) ?hd (xs := ([102, 111, 98, 106] : List Int)) (inner := [.int .u8 102, .int .u8 111, .int .u8 98, .int .u8 106]) (ok := fun _ => True) (okp := fun _ => True) ?hr ?hp (fun _ hk => hk) trivial (Below.refl _ _) (Nat.le_refl _) (by simp) ?_; (case hd => rfl); (case hg => rfl); (case hr => (go_simp; done)); (case hp => exact (Reps.one (show Kd.M (Kd.int .u8) _ _ _ 102 [.int .u8 102] from rfl) (Reps.one (show Kd.M (Kd.int .u8) _ _ _ 111 [.int .u8 111] from rfl) (Reps.one (show Kd.M (Kd.int .u8) _ _ _ 98 [.int .u8 98] from rfl) (Reps.one (show Kd.M (Kd.int .u8) _ _ _ 106 [.int .u8 106] from rfl) (Reps.none _ _)))))); intro gv w8 fs hb hg_ hnew_; clear hg_ hnew_; (rw [← cz.o] at fs); obtain ⟨fv, gA, gC⟩ := Kd.R_slice fs; subst gC; have g6 := am fs; have HB9 := am hb; clear hb fs) | ((with_reducible refine qAK (N := 20) rfl ?_); refine mark_event rfl (.tmp 19) 38 5 rfl Tryz.underlying38 Tryz.underlying5 rfl g6.o HB9.o (by rw [cz.o]; decide) ?_; intro wm9 hmk hb; have n_ := a2 hmk (a2 (qAk aE.o hb) (a2 (qAm.below aD.o hb) (am (qAe HB.o hb)))); clear aE aD HB; obtain ⟨eV, aE, aD, HB⟩ := n_; clear hb hmk; clear g6 HB9))
  go_loopg [22] k (fun kq gw w' => ∃ (a7 : Int) (al : Int) (an : Int), gw = .int .i64 a7 ∧ qAa (qAb.l0 kq l0 aa (aa.length : Int) a7 aN al an = some (r1, r2, r3, r4, r5)) ∧ qAa (kq ≤ k) ∧ qAa (MkR 5 w' (.slice fv aa.length gA) aa) ∧ qAa (w'.heap[aX]? = some (.cells #[.string ⟨#[]⟩, (.slice none 0 0), (.slice none 0 0), (.slice none 0 0)] 33 (0, 0))) ∧ qAa (qAm w w' aW aN al an) ∧ qAa (Below w.heap.size w w'))
  case atStart => exact ⟨(0), (cl), (cm), (by rfl), H', ⟨Nat.le_refl _⟩, ⟨by exact eV.o⟩, ⟨by exact aE.o⟩, ⟨by exact aD.o⟩, ⟨by exact HB.o⟩⟩
  case round =>
   clear H'
   obtain ⟨a7, al, an, rfl, HA, b9, af, aE, aD, HB⟩ := hrel
   cases gk with
   | zero => exact absurd HA.o (by simp [qAb.l0])
   | succ k1 =>
    have H := HA.o
    clear HA
    simp only [qAb.l0] at H
    by_cases dj : a7 < (aa.length : Int)
    ·rw [if_pos dj] at H
     replace dj := d1 dj
     obtain ⟨ff, H⟩ := gd H
     replace ff := d1 ff
     obtain ⟨fg, H⟩ := gd H
     replace fg := d1 fg
     replace H := bm H
     obtain ⟨⟨bw, bz, cA⟩, dp, H⟩ := H
     replace H : (if bw = (rd aa a7) then (qAb.l0 k1 l0 aa (aa.length : Int) (wrap64 (a7 + 1)) aN bz cA) else ((qAU.f aN bz cA 52).bind fun b4 => (qAb.l0 k1 l0 aa (aa.length : Int) (wrap64 (a7 + 1)) aN b4.1 b4.2))) = some (r1, r2, r3, r4, r5) := H
     have g3 := am dp
     clear dp
     by_cases e3 : bw = (rd aa a7)
     ·rw [if_pos e3] at H
      have e4 : (bw != (rd aa a7)) = false := bn e3
      clear e3
      have H' := am H
      clear H
      have bc : 0 ≤ a7 := od (by assumption)
      have bd : a7 < (aa.length : Int) := od (by assumption)
      obtain ⟨e2, dG, ck⟩ := MkR.at_int af.o a7 bc bd
      cases dG
      replace bc := eq_true bc
      replace bd := eq_true bd
      go_wp2_with ((with_reducible refine qAi (f := 56) rfl ?_); refine gL 27 Tryz.func56 #[.pointer (some ⟨aW, 0, none⟩)] ?_; (with_reducible refine (qAr.calls aW aN al an bw bz cA w _ ?side1 ?side2 g3.o).mono ?_); (case side1 => exact aD.o); (case side2 => exact HB.o); rintro e hM ⟨rfl, hi, hb, hk⟩; refine ⟨_, rfl, ?_⟩; have n_ := a2 (MkR.keepS af.o hk aD.o (by decide)) (a2 (qAh.blk hk aE.o aQ.o (by simp)) (a2 (hb) (am (hi)))); clear af aE HB aD; obtain ⟨af, aE, HB, aD⟩ := n_)
      go_roundg k1
      case measure => have := b9.o; omega
      case rel => exact ⟨(wrap64 (a7 + 1)), (bz), (cA), (by rfl), H', ⟨by have := b9.o; omega⟩, ⟨by exact af.o⟩, ⟨by exact aE.o⟩, ⟨by exact aD.o⟩, ⟨by exact HB.o⟩⟩
     rw [if_neg e3] at H
     have e4 : (bw != (rd aa a7)) = true := bne_iff_ne.mpr e3
     replace H := bm H
     obtain ⟨⟨dH, dI⟩, dq, H⟩ := H
     replace H : (qAb.l0 k1 l0 aa (aa.length : Int) (wrap64 (a7 + 1)) aN dH dI) = some (r1, r2, r3, r4, r5) := H
     have g9 := am dq
     clear dq
     have H' := am H
     clear H
     have bc : 0 ≤ a7 := od (by assumption)
     have bd : a7 < (aa.length : Int) := od (by assumption)
     obtain ⟨e2, dG, ck⟩ := MkR.at_int af.o a7 bc bd
     cases dG
     replace bc := eq_true bc
     replace bd := eq_true bd
     go_wp2_with (first | ((with_reducible refine qAi (f := 56) rfl ?_); refine gL 27 Tryz.func56 #[.pointer (some ⟨aW, 0, none⟩)] ?_; (with_reducible refine (qAr.calls aW aN al an bw bz cA w _ ?side1 ?side2 g3.o).mono ?_); (case side1 => exact aD.o); (case side2 => exact HB.o); rintro e hN ⟨rfl, hi, hb, hk⟩; refine ⟨_, rfl, ?_⟩; have n_ := a2 (MkR.keepS af.o hk aD.o (by decide)) (a2 (qAh.blk hk aE.o aQ.o (by simp)) (a2 (hb) (am (hi)))); clear af aE HB aD; obtain ⟨af, aE, HB, aD⟩ := n_) | ((with_reducible refine qAi (f := 57) rfl ?_); refine gL 31 Tryz.func57 #[.pointer (some ⟨aW, 0, none⟩), .int .i64 52] ?_; (with_reducible refine (qAU.calls aW aN bz cA 52 dH dI w _ ?side1 ?side2 g9.o).mono ?_); (case side1 => exact aD.o); (case side2 => exact HB.o); rintro e hO ⟨rfl, hi, hb, hk⟩; refine ⟨_, rfl, ?_⟩; have n_ := a2 (MkR.keepS af.o hk aD.o (by decide)) (a2 (qAh.blk hk aE.o aQ.o (by simp)) (a2 (hb) (am (hi)))); clear af aE HB aD; obtain ⟨af, aE, HB, aD⟩ := n_))
     go_roundg k1
     case measure => have := b9.o; omega
     case rel => exact ⟨(wrap64 (a7 + 1)), (dH), (dI), (by rfl), H', ⟨by have := b9.o; omega⟩, ⟨by exact af.o⟩, ⟨by exact aE.o⟩, ⟨by exact aD.o⟩, ⟨by exact HB.o⟩⟩
    rw [if_neg dj] at H
    replace dj := d0 dj
    replace H := bm H
    obtain ⟨⟨aR, dJ, dK⟩, dr, H⟩ := H
    replace H : ((qBa.f aN dJ dK).bind fun bK => (qAb.l1 k1 l0 bK.1 aN bK.2.1 bK.2.2 aR ([] : List (S85)))) = some (r1, r2, r3, r4, r5) := H
    have ga := am dr
    clear dr
    replace H := bm H
    obtain ⟨⟨dL, dM, dN⟩, dt, H⟩ := H
    replace H : (qAb.l1 k1 l0 dL aN dM dN aR ([] : List (S85))) = some (r1, r2, r3, r4, r5) := H
    have gb := am dt
    clear dt
    have H' := am H
    clear H
    go_wp2_with (first | ((with_reducible refine qAi (f := 58) rfl ?_); refine gL 34 Tryz.func58 #[.pointer (some ⟨aW, 0, none⟩), .int .i64 32] ?_; (with_reducible refine (qAC.calls aW aN al an 32 aR dJ dK w _ ?side1 ?side2 ga.o).mono ?_); (case side1 => exact aD.o); (case side2 => exact HB.o); rintro e hP ⟨rfl, hi, hb, hk⟩; refine ⟨_, rfl, ?_⟩; have n_ := a2 (MkR.keepS af.o hk aD.o (by decide)) (a2 (qAh.blk hk aE.o aQ.o (by simp)) (a2 (hb) (am (hi)))); clear af aE HB aD; obtain ⟨af, aE, HB, aD⟩ := n_) | ((with_reducible refine qAK (N := 7) rfl ?_); refine bx 7 #[.string ⟨#[]⟩, .slice none 0 0, .slice none 0 0, .slice none 0 0] 33 ?_; intro aY hg hG hbox hb; have n_ := a2 (MkR.below af.o hb) (a2 (qAk aE.o hb) (a2 (qAm.below aD.o hb) (a2 (qAe HB.o hb) (a2 (hbox) (a2 (by rw [hg]; exact (qAf HB.o) : w.heap.size ≤ aY) (a2 (by rw [hg]; exact Nat.ne_of_lt (qBd aE.o) : aX ≠ aY) (a2 (by rw [hg]; exact Nat.ne_of_lt (qAm.lt aD.o) : aW ≠ aY) (am (by rw [hg]; exact Nat.ne_of_gt (qAm.lt aD.o) : aY ≠ aW))))))))); clear af aE aD HB; obtain ⟨af, aE, aD, HB, aG, bp, ai, bC, aT⟩ := n_; clear hb hbox hg; obtain ⟨cc, cd, ce, cf⟩ := c4_ hG aG.o; obtain ⟨cg, ch, ci, cj⟩ := z4_ aG.o) | ((with_reducible refine qAi (f := 59) rfl ?_); refine gL 37 Tryz.func59 #[.pointer (some ⟨aW, 0, none⟩)] ?_; (with_reducible refine (qBa.calls aW aN dJ dK dL dM dN w _ ?side1 ?side2 gb.o).mono ?_); (case side1 => repeat (with_reducible first | exact aD.o | refine qAm.far ?_ bC.o (by (with_reducible repeat (apply TyB.set)); exact TyB.of aG.o) (by decide) _)); (case side2 => repeat (with_reducible first | exact HB.o | refine qA1 ?_ bp.o)); rintro e hQ ⟨rfl, hi, hb, hk⟩; refine ⟨_, rfl, ?_⟩; have n_ := a2 (qAh.blk hk (g' := aX) (o := .cells #[.string ⟨#[]⟩, .slice none 0 0, .slice none 0 0, .slice none 0 0] 33 (0, 0)) (by refine qA2 ?_ ai.o _; refine qA2 ?_ ai.o _; refine qA2 ?_ ai.o _; refine qA2 ?_ ai.o _; exact aE.o) aQ.o (by simp)) (a2 (qAh.blk hk (g' := aY) (o := .cells #[.string aR, .slice none 0 0, .slice none 0 0, .slice none 0 0] 33 (0, 0)) (by refine qA5 (cs := #[.string aR, .slice none 0 0, .slice none 0 0, .slice none 0 0]) ?_ 3 _ rfl; refine qA5 (cs := #[.string aR, .slice none 0 0, .slice none 0 0, .slice none 0 0]) ?_ 2 _ rfl; refine qA5 (cs := #[.string aR, .slice none 0 0, .slice none 0 0, .slice none 0 0]) ?_ 1 _ rfl; refine qA5 (cs := #[.string ⟨#[]⟩, .slice none 0 0, .slice none 0 0, .slice none 0 0]) ?_ 0 _ rfl; exact aG.o) aT.o (by simp)) (a2 (hb) (am (hi)))); clear af aE aG HB aD; obtain ⟨aE, aG, HB, aD⟩ := n_))
    go_loopg [8] k1 (fun kq v8 w' => ∃ (bD : Int) (aq : Int) (av : Int) (aH : List (S85)) (aU : Value), v8 = .int .i64 bD ∧ qAa (qAb.l1 kq l0 bD aN aq av aR aH = some (r1, r2, r3, r4, r5)) ∧ qAa (kq ≤ k1) ∧ qAa (Kd.R k85 85 w' w.heap.size (fun _ => True) aU aH) ∧ qAa (w'.heap[aX]? = some (.cells #[.string ⟨#[]⟩, (.slice none 0 0), (.slice none 0 0), (.slice none 0 0)] 33 (0, 0))) ∧ qAa (w'.heap[aY]? = some (.cells #[.string aR, aU, (.slice none 0 0), (.slice none 0 0)] 33 (0, 0))) ∧ qAa (qAm w w' aW aN aq av) ∧ qAa (Below w.heap.size w w'))
    case atStart => exact ⟨(dL), (dM), (dN), ([] : List (S85)), (.slice none 0 0), (by rfl), H', ⟨Nat.le_refl _⟩, ⟨by (exact Kd.R_nil _ _ _ _ _)⟩, ⟨by exact aE.o⟩, ⟨by exact aG.o⟩, ⟨by exact aD.o⟩, ⟨by exact HB.o⟩⟩
    case round =>
     clear H'
     obtain ⟨bD, aq, av, aH, aU, rfl, HA, cI, aA, aE, aG, aD, HB⟩ := hrel
     cases gk with
     | zero => exact absurd HA.o (by simp [qAb.l1])
     | succ k2 =>
      have H := HA.o
      clear HA
      simp only [qAb.l1] at H
      have dC := am H
      clear H
      go_upto_region 12 with (fail)
      go_cut [44] (fun hD wc => ∃ (kq : Nat) (bZ : Bool) (ab : Int) (ad : Int), hD = .bool bZ ∧ qAa (qAb.j2 kq l0 bD bZ aN ab ad aR aH = some (r1, r2, r3, r4, r5)) ∧ qAa (kq ≤ k2) ∧ qAa (Kd.R k85 85 wc w.heap.size (fun _ => True) aU aH) ∧ qAa (wc.heap[aX]? = some (.cells #[.string ⟨#[]⟩, (.slice none 0 0), (.slice none 0 0), (.slice none 0 0)] 33 (0, 0))) ∧ qAa (wc.heap[aY]? = some (.cells #[.string aR, aU, (.slice none 0 0), (.slice none 0 0)] 33 (0, 0))) ∧ qAa (qAm w wc aW aN ab ad) ∧ qAa (Below w.heap.size w wc))
      case first =>
       have H := dC.o
       clear dC
       by_cases dk : bD > 0
       rotate_left
       ·rw [if_neg dk] at H
        replace dk := d0 dk
        (skip)
        have H' := am H
        clear H
        go_wp2
        go_meet
        case rel => exact ⟨_, (false), (aq), (av), (by rfl), H', ⟨by have := b9.o; have := cI.o; (omega)⟩, ⟨by exact aA.o⟩, ⟨by exact aE.o⟩, ⟨by exact aG.o⟩, ⟨by exact aD.o⟩, ⟨by exact HB.o⟩⟩
       rw [if_pos dk] at H
       replace dk := d1 dk
       (skip)
       replace H := bm H
       obtain ⟨⟨dO, dP, dQ⟩, du, H⟩ := H
       replace H : (qAb.j2 k2 l0 bD (dO == 0) aN dP dQ aR aH) = some (r1, r2, r3, r4, r5) := H
       have gc := am du
       clear du
       have H' := am H
       clear H
       go_wp2_with (go_at_call 60; (with_reducible refine (qAO.calls aW aN aq av dO dP dQ w _ ?side1 ?side2 gc.o).mono ?_); (case side1 => exact aD.o); (case side2 => exact HB.o); rintro e hR ⟨rfl, hi, hb, hk⟩; have n_ := a2 (Kd.R_kp (qAm.apart aD.o aA.o (by decide)) hk) (a2 (qAh.blk hk aE.o aQ.o (by simp)) (a2 (qAh.blk hk aG.o aT.o (by simp)) (a2 (hb) (am (hi))))); clear aA aE aG HB aD; obtain ⟨aA, aE, aG, HB, aD⟩ := n_)
       go_meet
       case rel => exact ⟨_, (dO == 0), (dP), (dQ), (by rfl), H', ⟨by have := b9.o; have := cI.o; (omega)⟩, ⟨by exact aA.o⟩, ⟨by exact aE.o⟩, ⟨by exact aG.o⟩, ⟨by exact aD.o⟩, ⟨by exact HB.o⟩⟩
      case rest =>
       clear dC
       obtain ⟨kq, bZ, ab, ad, rfl, HA, bQ, aA, aE, aG, aD, HB⟩ := hcut
       cases kq with
       | zero => exact absurd HA.o (by simp [qAb.j2])
       | succ bR =>
        have H := HA.o
        clear HA
        simp only [qAb.j2] at H
        by_cases fh : bZ = true
        ·subst fh
         replace H : ((qAC.f aN ab ad 32).bind fun bL => ((qAr.f aN bL.2.1 bL.2.2).bind fun bA => ((qBn.f aN bA.2.1 bA.2.2).bind fun ao => (if aH.length < 4398046511104 then (qAb.l1 bR l0 (wrap64 (bD - 1)) aN ao.2.1 ao.2.2 aR (aH ++ [(⟨bL.1, (⟨wrap64 (bA.1), ao.1⟩ : S83)⟩ : S85)])) else (none))))) = some (r1, r2, r3, r4, r5) := by rw [if_pos rfl] at H; exact H
         replace H := bm H
         obtain ⟨⟨b6, dR, dS⟩, dv, H⟩ := H
         replace H : ((qAr.f aN dR dS).bind fun bA => ((qBn.f aN bA.2.1 bA.2.2).bind fun ao => (if aH.length < 4398046511104 then (qAb.l1 bR l0 (wrap64 (bD - 1)) aN ao.2.1 ao.2.2 aR (aH ++ [(⟨b6, (⟨wrap64 (bA.1), ao.1⟩ : S83)⟩ : S85)])) else (none)))) = some (r1, r2, r3, r4, r5) := H
         have gf := am dv
         clear dv
         replace H := bm H
         obtain ⟨⟨bg, dT, dU⟩, dw, H⟩ := H
         replace H : ((qBn.f aN dT dU).bind fun ao => (if aH.length < 4398046511104 then (qAb.l1 bR l0 (wrap64 (bD - 1)) aN ao.2.1 ao.2.2 aR (aH ++ [(⟨b6, (⟨wrap64 (bg), ao.1⟩ : S83)⟩ : S85)])) else (none))) = some (r1, r2, r3, r4, r5) := H
         have gg := am dw
         clear dw
         replace H := bm H
         obtain ⟨⟨cB, cn, co⟩, dx, H⟩ := H
         replace H : (if aH.length < 4398046511104 then (qAb.l1 bR l0 (wrap64 (bD - 1)) aN cn co aR (aH ++ [(⟨b6, (⟨wrap64 (bg), cB⟩ : S83)⟩ : S85)])) else (none)) = some (r1, r2, r3, r4, r5) := H
         have gh := am dx
         clear dx
         obtain ⟨fi, H⟩ := gd H
         have eW := am fi
         clear fi
         obtain ⟨cu, cW⟩ : ∃ y_ : List (S85), y_ = (aH ++ [(⟨b6, (⟨wrap64 (bg), cB⟩ : S83)⟩ : S85)]) := ⟨_, rfl⟩
         replace H : (qAb.l1 bR l0 (wrap64 (bD - 1)) aN cn co aR cu) = some (r1, r2, r3, r4, r5) := by (rw [cW]; with_reducible exact H)
         have eZ := am cW
         clear cW
         have H' := am H
         clear H
         try go_wp2
         have n_ := a2 (Kd.R_drew aA.o) (a2 (qBF aE.o) (a2 (qBF aG.o) (a2 (qAm.drew aD.o) (am (qAM HB.o)))))
         clear aA aE aG aD HB
         obtain ⟨aA, aE, aG, aD, HB⟩ := n_
         refine qEs (n := 15) (S := fun w' => w'.cell? ⟨aY, 0, none⟩ = some (.string aR) ∧ w'.cell? ⟨aY, 1, none⟩ = some (aU) ∧ w'.cell? ⟨aY, 2, none⟩ = some (.slice none 0 0) ∧ w'.cell? ⟨aY, 3, none⟩ = some (.slice none 0 0)) (ds := [14]) (mK 15 0) (by kernel_rfl) rfl rfl (c4_ _ aG.o) (fun hHeld => ?_); refine qCs qAb.tab14 qAb.bits14 (fun HT_ HW_ => ?_)
         generalize wc.drew = hS at aA aE aG aD HB hHeld ⊢
         refine pu 0 47 (mK 15 1) (qBc HT_.o (by kernel_rfl)) ?_
         refine pu 2 49 (mK 15 5) (qBc HT_.o (by kernel_rfl)) ?_
         refine pu 4 51 (mK 15 21) (qBc HT_.o (by kernel_rfl)) ?_
         refine pu 7 54 (mK 15 149) (qBc HT_.o (by kernel_rfl)) ?_
         refine tk 1 48 (mK 15 151) (qBw HT_.o HW_.o (by kernel_rfl)) hHeld ?_
         refine one_ (i := 3) (N := some 50) (mK 15 159) rfl rfl (qB6 HT_.o (by kernel_rfl)) (by decide) (fun K hK => ?_)
         refine qEg Tryz.func58 (by kernel_rfl) rfl #[.pointer (some ⟨aW, 0, none⟩), .int .i64 32] (by rfl) rfl rfl (by (try simp only [List.map_toArray, List.map_cons, List.map_nil]); (rfl)) ?_
         with_reducible refine (qAC.calls aW aN ab ad 32 b6 dR dS w _ ?side1 ?side2 gf.o).mono ?_
         (case side1 => exact aD.o)
         (case side2 => exact HB.o)
         rintro e hT ⟨rfl, hi, hb, hk⟩
         refine ⟨_, rfl, ?_⟩
         have n_ := a2 (Kd.R_kp (qAm.apart aD.o aA.o (by decide)) hk) (a2 (qAh.blk hk aE.o aQ.o (by simp)) (a2 (qAh.blk hk aG.o aT.o (by simp)) (a2 (hb) (am (hi)))))
         clear aA aE aG HB aD
         obtain ⟨aA, aE, aG, HB, aD⟩ := n_
         (try clear hb)
         (skip)
         (try clear hk)
         (try clear hi)
         refine hK.o _ _ (c4_ _ aG.o) (fun hHeld => ?_)
         clear hK K
         refine nm ?_
         refine one_ (i := 5) (N := some 52) (mK 15 191) rfl rfl (qB6 HT_.o (by kernel_rfl)) (by decide) (fun K hK => ?_)
         refine qEg Tryz.func56 (by kernel_rfl) rfl #[.pointer (some ⟨aW, 0, none⟩)] (by rfl) rfl rfl (by (try simp only [List.map_toArray, List.map_cons, List.map_nil]); (rfl)) ?_
         with_reducible refine (qAr.calls aW aN dR dS bg dT dU w _ ?side1 ?side2 gg.o).mono ?_
         (case side1 => exact aD.o)
         (case side2 => exact HB.o)
         rintro e hU ⟨rfl, hi, hb, hk⟩
         refine ⟨_, rfl, ?_⟩
         have n_ := a2 (Kd.R_kp (qAm.apart aD.o aA.o (by decide)) hk) (a2 (qAh.blk hk aE.o aQ.o (by simp)) (a2 (qAh.blk hk aG.o aT.o (by simp)) (a2 (hb) (am (hi)))))
         clear aA aE aG HB aD
         obtain ⟨aA, aE, aG, HB, aD⟩ := n_
         (try clear hb)
         (skip)
         (try clear hk)
         (try clear hi)
         refine hK.o _ _ (c4_ _ aG.o) (fun hHeld => ?_)
         clear hK K
         refine nm ?_
         refine pure_ (i := 6) (N := some 53) (v := ?_) (a' := ?_) (mK 15 255) rfl rfl (qBc HT_.o (by kernel_rfl)) (fun _ _ _ h => h) (Or.inl ⟨by rfl, ?_⟩) ?_ ?_
         rotate_left
         ·intro w'
          go_simp
          with_reducible rfl
         rotate_left
         ·simp only [Act.put, List.setIfInBounds_toArray, List.set_cons_zero, List.set_cons_succ, i64_w]
          rfl
         refine one_ (i := 8) (N := some 55) (mK 15 511) rfl rfl (qB6 HT_.o (by kernel_rfl)) (by decide) (fun K hK => ?_)
         refine qEg Tryz.func61 (by kernel_rfl) rfl #[.pointer (some ⟨aW, 0, none⟩)] (by rfl) rfl rfl (by (try simp only [List.map_toArray, List.map_cons, List.map_nil]); (rfl)) ?_
         with_reducible refine (qBn.calls aW aN dT dU cB cn co w _ ?side1 ?side2 gh.o).mono ?_
         (case side1 => exact aD.o)
         (case side2 => exact HB.o)
         rintro e hV ⟨rfl, hi, hb, hk⟩
         refine ⟨_, rfl, ?_⟩
         have n_ := a2 (Kd.R_kp (qAm.apart aD.o aA.o (by decide)) hk) (a2 (qAh.blk hk aE.o aQ.o (by simp)) (a2 (qAh.blk hk aG.o aT.o (by simp)) (a2 (hb) (am (hi)))))
         clear aA aE aG HB aD
         obtain ⟨aA, aE, aG, HB, aD⟩ := n_
         (try clear hb)
         (skip)
         (try clear hk)
         (try clear hi)
         refine hK.o _ _ (c4_ _ aG.o) (fun hHeld => ?_)
         clear hK K
         refine nm ?_
         refine pu 9 56 (mK 15 1023) (qBc HT_.o (by kernel_rfl)) ?_
         refine pu 10 57 (mK 15 2047) (qBc HT_.o (by kernel_rfl)) ?_
         refine one_ (i := 11) (N := some 58) (mK 15 4095) rfl rfl (qB6 HT_.o (by kernel_rfl)) (by decide) (fun K hK => ?_)
         refine value_ (w1 := ?_) (v := ?_) (by rfl) rfl ?_ ?_
         rotate_left 2
         ·go_simp
          constructor
          ·rfl
          rfl
         refine hK.o _ _ ⟨(qAn (qAW aG.o _) 0).trans rfl, (qAn (qAW aG.o _) 1).trans rfl, (qAn (qAW aG.o _) 2).trans rfl, (qAn (qAW aG.o _) 3).trans rfl⟩ (fun hHeld => ?_)
         clear hK K
         refine nm ?_
         refine one_ (i := 12) (N := some 59) (mK 15 8191) rfl rfl (qB6 HT_.o (by kernel_rfl)) (by decide) (fun K hK => ?_)
         refine Kd.R_append_step k85 (w0 := w) w.heap.size (by rfl) (.tmp 48) (.tmp 58) 29 85 (.agg #[(.string ⟨#[]⟩), (.int .i64 0), (.int .u64 0)]) 32 rfl Tryz.underlying29 info85 rfl (by decide) (by omega) aU aH (⟨b6, (⟨wrap64 (bg), cB⟩ : S83)⟩ : S85) [.string b6, .int .i64 (wrap64 (bg)), .int .u64 cB] (fun _ => True) (fun _ => False) rfl rfl ?aP (fun _ hk => hk.elim) ?aF ?aO ?aB ?aS ?aL ?_
         (case aP => exact k85_mkM _ _ _ (⟨b6, (⟨wrap64 (bg), cB⟩ : S83)⟩ : S85))
         (case aB => exact HB.o)
         (case aF => exact (fun _ _ => trivial))
         (case aO => exact aA.o)
         (case aS => exact (qAf HB.o))
         (case aL => have := eW.o; omega)
         intro gx hW ho hb hg es
         rw [← eZ.o] at ho
         have n_ := a2 (qAI (g := aX) (o := .cells #[.string ⟨#[]⟩, .slice none 0 0, .slice none 0 0, .slice none 0 0] 33 (0, 0)) aE.o hg (Kd.R_ne aA.o aE.o (by decide))) (a2 (qAI (g := aY) (o := .cells #[.string aR, aU, .slice none 0 0, .slice none 0 0] 33 (0, 0)) aG.o hg (Kd.R_ne aA.o aG.o (by decide))) (a2 (qAm.grownR aD.o hg aD.o aA.o (by decide) (fun b_ t_ h_ => h_)) (a2 (hb) (am (ho)))))
         clear aE aG aD HB aA
         obtain ⟨aE, aG, aD, HB, cw⟩ := n_
         clear ho hb hg es
         obtain ⟨eQ, eh, gD⟩ := Kd.R_slice cw.o
         (subst gD)
         refine hK.o _ _ (c4_ _ aG.o) (fun hHeld => ?_)
         clear hK K
         refine nm ?_
         refine pu 13 60 (mK 15 16383) (qBc HT_.o (by kernel_rfl)) ?_
         refine last_ (i := 14) (N := none) (mK 15 32767) rfl rfl (qB6 HT_.o (by kernel_rfl)) (by decide) (fun K hK => ?_)
         have hfs43 := qAx aG.o 1
         refine skip_ (w1 := ?_) (by rfl) rfl ?_ ?_
         rotate_left
         ·go_simp
          rfl
         refine hK.o _ _ ?_
         clear hK K
         refine done_ (qDn HT_.o (by kernel_rfl)) ?_
         try go_wp2
         go_roundg bR
         case measure => have := b9.o; have := cI.o; have := bQ.o; omega
         case rel => exact ⟨(wrap64 (bD - 1)), (cn), (co), (cu), (.slice eQ cu.length eh), (by rfl), H', ⟨by have := b9.o; have := cI.o; have := bQ.o; omega⟩, ⟨by exact Kd.R_mono (Kd.R_far (p := ⟨aY, 1, none⟩) (Kd.R_types cw.o aG.o (by decide)) (fun _ hk => hk.2) (.slice eQ cu.length eh)) (fun _ hk => trivial)⟩, ⟨by refine qA2 ?_ ai.o _; exact aE.o⟩, ⟨by refine qA5 (cs := #[.string aR, aU, .slice none 0 0, .slice none 0 0]) ?_ 1 _ rfl; exact aG.o⟩, ⟨by repeat (with_reducible first | exact aD.o | refine qAm.far ?_ bC.o (by exact TyB.of aG.o) (by decide) _)⟩, ⟨by repeat (with_reducible first | exact HB.o | refine qA1 ?_ bp.o)⟩⟩
        replace fh := Bool.eq_false_iff.mpr fh
        subst fh
        replace H : ((qBa.f aN ab ad).bind fun bM => (qAb.l2 bR l0 bM.1 aN bM.2.1 bM.2.2 aR aH ([] : List (S92)))) = some (r1, r2, r3, r4, r5) := by rw [if_neg (show ¬ (false = true) by decide)] at H; exact H
        replace H := bm H
        obtain ⟨⟨dV, dW, dX⟩, dy, H⟩ := H
        replace H : (qAb.l2 bR l0 dV aN dW dX aR aH ([] : List (S92))) = some (r1, r2, r3, r4, r5) := H
        have gi := am dy
        clear dy
        have H' := am H
        clear H
        go_wp2_with ((with_reducible refine qAi (f := 59) rfl ?_); refine gL 62 Tryz.func59 #[.pointer (some ⟨aW, 0, none⟩)] ?_; (with_reducible refine (qBa.calls aW aN ab ad dV dW dX w _ ?side1 ?side2 gi.o).mono ?_); (case side1 => exact aD.o); (case side2 => exact HB.o); rintro e hX ⟨rfl, hi, hb, hk⟩; refine ⟨_, rfl, ?_⟩; have n_ := a2 (Kd.R_kp (qAm.apart aD.o aA.o (by decide)) hk) (a2 (qAh.blk hk aE.o aQ.o (by simp)) (a2 (qAh.blk hk aG.o aT.o (by simp)) (a2 (hb) (am (hi))))); clear aA aE aG HB aD; obtain ⟨aA, aE, aG, HB, aD⟩ := n_)
        go_loopg [9] bR (fun kq v9 w' => ∃ (bF : Int) (ar : Int) (aw : Int) (aJ : List (S92)) (aV : Value), v9 = .int .i64 bF ∧ qAa (qAb.l2 kq l0 bF aN ar aw aR aH aJ = some (r1, r2, r3, r4, r5)) ∧ qAa (kq ≤ bR) ∧ qAa (Kd.R k85 85 w' w.heap.size (fun _ => True) aU aH) ∧ qAa (Kd.S k92 92 w' w.heap.size (fun _ => True) aV aJ) ∧ qAa (w'.heap[aX]? = some (.cells #[.string ⟨#[]⟩, (.slice none 0 0), (.slice none 0 0), (.slice none 0 0)] 33 (0, 0))) ∧ qAa (w'.heap[aY]? = some (.cells #[.string aR, aU, aV, (.slice none 0 0)] 33 (0, 0))) ∧ qAa (qAm w w' aW aN ar aw) ∧ qAa (Below w.heap.size w w'))
        case atStart => exact ⟨(dV), (dW), (dX), ([] : List (S92)), (.slice none 0 0), (by rfl), H', ⟨Nat.le_refl _⟩, ⟨by exact aA.o⟩, ⟨by (exact Kd.S_nil _ _ _ _ _)⟩, ⟨by exact aE.o⟩, ⟨by exact aG.o⟩, ⟨by exact aD.o⟩, ⟨by exact HB.o⟩⟩
        case round =>
         clear H'
         obtain ⟨bF, ar, aw, aJ, aV, rfl, HA, cv, aA, aC, aE, aG, aD, HB⟩ := hrel
         cases gk with
         | zero => exact absurd HA.o (by simp [qAb.l2])
         | succ k4 =>
          have H := HA.o
          clear HA
          simp only [qAb.l2] at H
          have dD := am H
          clear H
          go_upto_region 16 with (fail)
          go_cut [69] (fun hE wc => ∃ (kq : Nat) (b0 : Bool) (ac : Int) (ae : Int), hE = .bool b0 ∧ qAa (qAb.j4 kq l0 bF b0 aN ac ae aR aH aJ = some (r1, r2, r3, r4, r5)) ∧ qAa (kq ≤ k4) ∧ qAa (Kd.R k85 85 wc w.heap.size (fun _ => True) aU aH) ∧ qAa (Kd.S k92 92 wc w.heap.size (fun _ => True) aV aJ) ∧ qAa (wc.heap[aX]? = some (.cells #[.string ⟨#[]⟩, (.slice none 0 0), (.slice none 0 0), (.slice none 0 0)] 33 (0, 0))) ∧ qAa (wc.heap[aY]? = some (.cells #[.string aR, aU, aV, (.slice none 0 0)] 33 (0, 0))) ∧ qAa (qAm w wc aW aN ac ae) ∧ qAa (Below w.heap.size w wc))
          case first =>
           have H := dD.o
           clear dD
           by_cases dl : bF > 0
           rotate_left
           ·rw [if_neg dl] at H
            replace dl := d0 dl
            (skip)
            have H' := am H
            clear H
            go_wp2
            go_meet
            case rel => exact ⟨_, (false), (ar), (aw), (by rfl), H', ⟨by have := b9.o; have := cI.o; have := bQ.o; have := cv.o; (omega)⟩, ⟨by exact aA.o⟩, ⟨by exact aC.o⟩, ⟨by exact aE.o⟩, ⟨by exact aG.o⟩, ⟨by exact aD.o⟩, ⟨by exact HB.o⟩⟩
           rw [if_pos dl] at H
           replace dl := d1 dl
           (skip)
           replace H := bm H
           obtain ⟨⟨dY, dZ, d2⟩, dz, H⟩ := H
           replace H : (qAb.j4 k4 l0 bF (dY == 0) aN dZ d2 aR aH aJ) = some (r1, r2, r3, r4, r5) := H
           have gj := am dz
           clear dz
           have H' := am H
           clear H
           go_wp2_with (go_at_call 60; (with_reducible refine (qAO.calls aW aN ar aw dY dZ d2 w _ ?side1 ?side2 gj.o).mono ?_); (case side1 => exact aD.o); (case side2 => exact HB.o); rintro e hY ⟨rfl, hi, hb, hk⟩; have n_ := a2 (Kd.R_kp (qAm.apart aD.o aA.o (by decide)) hk) (a2 (Kd.S_mono (Kd.S_keep (qAm.apartS aD.o aC.o (by decide)) hk (fun _ h => h.2)) (fun _ h => h.1)) (a2 (qAh.blk hk aE.o aQ.o (by simp)) (a2 (qAh.blk hk aG.o aT.o (by simp)) (a2 (hb) (am (hi)))))); clear aA aC aE aG HB aD; obtain ⟨aA, aC, aE, aG, HB, aD⟩ := n_)
           go_meet
           case rel => exact ⟨_, (dY == 0), (dZ), (d2), (by rfl), H', ⟨by have := b9.o; have := cI.o; have := bQ.o; have := cv.o; (omega)⟩, ⟨by exact aA.o⟩, ⟨by exact aC.o⟩, ⟨by exact aE.o⟩, ⟨by exact aG.o⟩, ⟨by exact aD.o⟩, ⟨by exact HB.o⟩⟩
          case rest =>
           clear dD
           obtain ⟨kq, b0, ac, ae, rfl, HA, bu, aA, aC, aE, aG, aD, HB⟩ := hcut
           cases kq with
           | zero => exact absurd HA.o (by simp [qAb.j4])
           | succ bH =>
            have H := HA.o
            clear HA
            simp only [qAb.j4] at H
            by_cases fj : b0 = true
            ·subst fj
             replace H : ((qAC.f aN ac ae 32).bind fun bN => ((qBC.f bH aN bN.2.1 bN.2.2).bind fun ag => (if aJ.length < 1466015503701 then (qAb.l2 bH l0 (wrap64 (bF - 1)) aN ag.2.2.2.2.1 ag.2.2.2.2.2 aR aH (aJ ++ [(⟨bN.1, (⟨(⟨ag.1, ag.2.1⟩ : S69), ag.2.2.1, ag.2.2.2.1⟩ : S90)⟩ : S92)])) else (none)))) = some (r1, r2, r3, r4, r5) := by rw [if_pos rfl] at H; exact H
             replace H := bm H
             obtain ⟨⟨bh, d3, d4⟩, eA, H⟩ := H
             replace H : ((qBC.f bH aN d3 d4).bind fun ag => (if aJ.length < 1466015503701 then (qAb.l2 bH l0 (wrap64 (bF - 1)) aN ag.2.2.2.2.1 ag.2.2.2.2.2 aR aH (aJ ++ [(⟨bh, (⟨(⟨ag.1, ag.2.1⟩ : S69), ag.2.2.1, ag.2.2.2.1⟩ : S90)⟩ : S92)])) else (none))) = some (r1, r2, r3, r4, r5) := H
             have gl := am eA
             clear eA
             replace H := bm H
             obtain ⟨⟨bi, cC, bj, bk, cp, cq⟩, eB, H⟩ := H
             replace H : (if aJ.length < 1466015503701 then (qAb.l2 bH l0 (wrap64 (bF - 1)) aN cp cq aR aH (aJ ++ [(⟨bh, (⟨(⟨bi, cC⟩ : S69), bj, bk⟩ : S90)⟩ : S92)])) else (none)) = some (r1, r2, r3, r4, r5) := H
             have gm := am eB
             clear eB
             obtain ⟨fk, H⟩ := gd H
             have eX := am fk
             clear fk
             obtain ⟨cZ, cX⟩ : ∃ y_ : List (S92), y_ = (aJ ++ [(⟨bh, (⟨(⟨bi, cC⟩ : S69), bj, bk⟩ : S90)⟩ : S92)]) := ⟨_, rfl⟩
             replace H : (qAb.l2 bH l0 (wrap64 (bF - 1)) aN cp cq aR aH cZ) = some (r1, r2, r3, r4, r5) := by (rw [cX]; with_reducible exact H)
             have e0 := am cX
             clear cX
             have H' := am H
             clear H
             try go_wp2
             have n_ := a2 (Kd.R_drew aA.o) (a2 (Kd.S_drew aC.o) (a2 (qBF aE.o) (a2 (qBF aG.o) (a2 (qAm.drew aD.o) (am (qAM HB.o))))))
             clear aA aC aE aG aD HB
             obtain ⟨aA, aC, aE, aG, aD, HB⟩ := n_
             refine qEs (n := 11) (S := fun w' => w'.cell? ⟨aY, 0, none⟩ = some (.string aR) ∧ w'.cell? ⟨aY, 1, none⟩ = some (aU) ∧ w'.cell? ⟨aY, 2, none⟩ = some (aV) ∧ w'.cell? ⟨aY, 3, none⟩ = some (.slice none 0 0)) (ds := [10]) (mK 11 0) (by kernel_rfl) rfl rfl (c4_ _ aG.o) (fun hHeld => ?_); refine qCs qAb.tab18 qAb.bits18 (fun HT_ HW_ => ?_)
             generalize wc.drew = hZ at aA aC aE aG aD HB hHeld ⊢
             refine pu 0 72 (mK 11 1) (qBc HT_.o (by kernel_rfl)) ?_
             refine pu 2 74 (mK 11 5) (qBc HT_.o (by kernel_rfl)) ?_
             refine pu 4 76 (mK 11 21) (qBc HT_.o (by kernel_rfl)) ?_
             refine tk 1 73 (mK 11 23) (qBw HT_.o HW_.o (by kernel_rfl)) hHeld ?_
             refine one_ (i := 3) (N := some 75) (mK 11 31) rfl rfl (qB6 HT_.o (by kernel_rfl)) (by decide) (fun K hK => ?_)
             refine qEg Tryz.func58 (by kernel_rfl) rfl #[.pointer (some ⟨aW, 0, none⟩), .int .i64 32] (by rfl) rfl rfl (by (try simp only [List.map_toArray, List.map_cons, List.map_nil]); (rfl)) ?_
             with_reducible refine (qAC.calls aW aN ac ae 32 bh d3 d4 w _ ?side1 ?side2 gl.o).mono ?_
             (case side1 => exact aD.o)
             (case side2 => exact HB.o)
             rintro e h0 ⟨rfl, hi, hb, hk⟩
             refine ⟨_, rfl, ?_⟩
             have n_ := a2 (Kd.R_kp (qAm.apart aD.o aA.o (by decide)) hk) (a2 (Kd.S_mono (Kd.S_keep (qAm.apartS aD.o aC.o (by decide)) hk (fun _ h => h.2)) (fun _ h => h.1)) (a2 (qAh.blk hk aE.o aQ.o (by simp)) (a2 (qAh.blk hk aG.o aT.o (by simp)) (a2 (hb) (am (hi))))))
             clear aA aC aE aG HB aD
             obtain ⟨aA, aC, aE, aG, HB, aD⟩ := n_
             (try clear hb)
             (skip)
             (try clear hk)
             (try clear hi)
             refine hK.o _ _ (c4_ _ aG.o) (fun hHeld => ?_)
             clear hK K
             refine nm ?_
             refine one_ (i := 5) (N := some 77) (mK 11 63) rfl rfl (qB6 HT_.o (by kernel_rfl)) (by decide) (fun K hK => ?_)
             refine qEg Tryz.func62 (by kernel_rfl) rfl #[.pointer (some ⟨aW, 0, none⟩)] (by rfl) rfl rfl (by (try simp only [List.map_toArray, List.map_cons, List.map_nil]); (rfl)) ?_
             with_reducible refine (qBC.calls bH aW aN d3 d4 bi cC bj bk cp cq w _ ?side1 ?side2 gm.o).mono ?_
             (case side1 => exact aD.o)
             (case side2 => exact HB.o)
             rintro e h1 ⟨gy, gz, hA, rfl, cU, gW, gX, hi, hb, hk⟩
             refine ⟨_, rfl, ?_⟩
             have n_ := a2 (Kd.R_kp (qAm.apart aD.o aA.o (by decide)) hk) (a2 (Kd.S_mono (Kd.S_told (Kd.S_told (Kd.S_told (Kd.S_oldK (qAm.apartS aD.o aC.o (by decide)) hk) (Kd.R_base cU)) (Kd.R_base gW)) (Kd.R_base gX)) (fun _ h_ => h_.1)) (a2 (qAh.blk hk aE.o aQ.o (by simp)) (a2 (qAh.blk hk aG.o aT.o (by simp)) (a2 (Kd.R_lower cU (qAf HB.o)) (a2 (Kd.R_lower gW (qAf HB.o)) (a2 (Kd.R_lower gX (qAf HB.o)) (a2 (hb) (am (hi)))))))))
             clear aA aC aE aG HB aD
             obtain ⟨aA, aC, aE, aG, bq, br, bs, HB, aD⟩ := n_
             (try clear hb)
             (skip)
             (try clear hk)
             (try clear hi)
             (try clear cU)
             (try clear gW)
             (try clear gX)
             obtain ⟨eR, ei, gE⟩ := Kd.R_slice bs.o
             (subst gE)
             obtain ⟨eS, ej, gF⟩ := Kd.R_slice br.o
             (subst gF)
             obtain ⟨eT, ek, gG⟩ := Kd.R_slice bq.o
             (subst gG)
             refine hK.o _ _ (c4_ _ aG.o) (fun hHeld => ?_)
             clear hK K
             refine nm ?_
             refine pu 6 78 (mK 11 127) (qBc HT_.o (by kernel_rfl)) ?_
             refine one_ (i := 7) (N := some 79) (mK 11 255) rfl rfl (qB6 HT_.o (by kernel_rfl)) (by decide) (fun K hK => ?_)
             refine value_ (w1 := ?_) (v := ?_) (by rfl) rfl ?_ ?_
             rotate_left 2
             ·go_simp
              constructor
              ·rfl
              rfl
             refine hK.o _ _ ⟨(qAn (qAW aG.o _) 0).trans rfl, (qAn (qAW aG.o _) 1).trans rfl, (qAn (qAW aG.o _) 2).trans rfl, (qAn (qAW aG.o _) 3).trans rfl⟩ (fun hHeld => ?_)
             clear hK K
             refine nm ?_
             refine one_ (i := 8) (N := some 80) (mK 11 511) rfl rfl (qB6 HT_.o (by kernel_rfl)) (by decide) (fun K hK => ?_)
             refine Kd.S_append_step k92 (w0 := w) w.heap.size (by rfl) (.tmp 73) (.tmp 79) 30 92 (.agg #[(.string ⟨#[]⟩), (.slice none 0 0), (.int .i64 0), (.slice none 0 0), (.slice none 0 0)]) 96 rfl Tryz.underlying30 info92 rfl (by decide) (by omega) aV aJ (⟨bh, (⟨(⟨bi, cC⟩ : S69), bj, bk⟩ : S90)⟩ : S92) [.string bh, .slice eT bi.length ek, .int .i64 cC, .slice eS bj.length ej, .slice eR bk.length ei] (fun _ => True) (fun k_ => some k_ = (.slice eT bi.length ek : Value).ownBlock ∨ some k_ = (.slice eS bj.length ej : Value).ownBlock ∨ some k_ = (.slice eR bk.length ei : Value).ownBlock) rfl rfl ?aP (fun k_ hk_ => hk_.elim (fun h_ => (Kd.R_mono (ok' := fun k_ => (fun _ => True) k_ ∧ some k_ ≠ (aV : Value).ownBlock) (Kd.R_apart' bq.o (Kd.S_typed aC.o) (by decide)) (fun k_ hk => ⟨trivial, hk.2⟩)).1 k_ h_.symm) (fun h_ => h_.elim (fun h_ => (Kd.R_mono (ok' := fun k_ => (fun _ => True) k_ ∧ some k_ ≠ (aV : Value).ownBlock) (Kd.R_apart' br.o (Kd.S_typed aC.o) (by decide)) (fun k_ hk => ⟨trivial, hk.2⟩)).1 k_ h_.symm) (fun h_ => (Kd.R_mono (ok' := fun k_ => (fun _ => True) k_ ∧ some k_ ≠ (aV : Value).ownBlock) (Kd.R_apart' bs.o (Kd.S_typed aC.o) (by decide)) (fun k_ hk => ⟨trivial, hk.2⟩)).1 k_ h_.symm))) ?aF ?aO ?aB ?aS ?aL ?_
             (case aP => exact k92_mkM _ _ _ (⟨bh, (⟨(⟨bi, cC⟩ : S69), bj, bk⟩ : S90)⟩ : S92) (Kd.R_mono (Kd.R_tight rfl (Kd.R_mono (ok' := fun k_ => (fun _ => True) k_ ∧ some k_ ≠ (aV : Value).ownBlock) (Kd.R_apart' bq.o (Kd.S_typed aC.o) (by decide)) (fun k_ hk => ⟨trivial, hk.2⟩))) (fun _ h_ => Or.inl h_)) (Kd.R_mono (Kd.R_tight rfl (Kd.R_mono (ok' := fun k_ => (fun _ => True) k_ ∧ some k_ ≠ (aV : Value).ownBlock) (Kd.R_apart' br.o (Kd.S_typed aC.o) (by decide)) (fun k_ hk => ⟨trivial, hk.2⟩))) (fun _ h_ => Or.inr (Or.inl h_))) (Kd.R_mono (Kd.R_tight rfl (Kd.R_mono (ok' := fun k_ => (fun _ => True) k_ ∧ some k_ ≠ (aV : Value).ownBlock) (Kd.R_apart' bs.o (Kd.S_typed aC.o) (by decide)) (fun k_ hk => ⟨trivial, hk.2⟩))) (fun _ h_ => Or.inr (Or.inr (h_)))))
             (case aB => exact HB.o)
             (case aF => exact (fun _ _ => trivial))
             (case aO => exact (by exact Kd.S_mono aC.o (fun k_ hk => ⟨trivial, fun e_ => e_.elim (fun h_ => hk.1.1.2 h_) (fun h_ => h_.elim (fun h_ => hk.1.2 h_) (fun h_ => hk.2 h_))⟩)))
             (case aS => exact (qAf HB.o))
             (case aL => have := eX.o; omega)
             intro hB h2 ho hb hg es
             rw [← e0.o] at ho
             have n_ := a2 (Kd.R_over' aA.o (Kd.S_typed aC.o) (by decide) hg) (a2 (qAI (g := aX) (o := .cells #[.string ⟨#[]⟩, .slice none 0 0, .slice none 0 0, .slice none 0 0] 33 (0, 0)) aE.o hg (Kd.S_ne aC.o aE.o (by decide))) (a2 (qAI (g := aY) (o := .cells #[.string aR, aU, aV, .slice none 0 0] 33 (0, 0)) aG.o hg (Kd.S_ne aC.o aG.o (by decide))) (a2 (qAm.grownRS aD.o hg aD.o aC.o (by decide) (fun b_ t_ h_ => h_)) (a2 (hb) (am (ho))))))
             clear aA aE aG aD HB aC bq br bs
             obtain ⟨aA, aE, aG, aD, HB, cx⟩ := n_
             clear ho hb hg es
             obtain ⟨dB, dF, gH⟩ := Kd.S_slice cx.o
             (subst gH)
             refine hK.o _ _ (c4_ _ aG.o) (fun hHeld => ?_)
             clear hK K
             refine nm ?_
             refine pu 9 81 (mK 11 1023) (qBc HT_.o (by kernel_rfl)) ?_
             refine last_ (i := 10) (N := none) (mK 11 2047) rfl rfl (qB6 HT_.o (by kernel_rfl)) (by decide) (fun K hK => ?_)
             have hfs62 := qAx aG.o 2
             refine skip_ (w1 := ?_) (by rfl) rfl ?_ ?_
             rotate_left
             ·go_simp
              rfl
             refine hK.o _ _ ?_
             clear hK K
             refine done_ (qDn HT_.o (by kernel_rfl)) ?_
             try go_wp2
             go_roundg bH
             case measure => have := b9.o; have := cI.o; have := bQ.o; have := cv.o; have := bu.o; omega
             case rel => exact ⟨(wrap64 (bF - 1)), (cp), (cq), (cZ), (.slice dB cZ.length dF), (by rfl), H', ⟨by have := b9.o; have := cI.o; have := bQ.o; have := cv.o; have := bu.o; omega⟩, ⟨by exact Kd.R_mono (Kd.R_far (p := ⟨aY, 2, none⟩) (Kd.R_types aA.o aG.o (by decide)) (fun _ hk => hk.2) (.slice dB cZ.length dF)) (fun _ hk => trivial)⟩, ⟨by exact Kd.S_mono (Kd.S_far (p := ⟨aY, 2, none⟩) (Kd.S_types cx.o aG.o (by decide)) (fun _ hk => hk.2) (.slice dB cZ.length dF)) (fun _ hk => trivial)⟩, ⟨by refine qA2 ?_ ai.o _; exact aE.o⟩, ⟨by refine qA5 (cs := #[.string aR, aU, aV, .slice none 0 0]) ?_ 2 _ rfl; exact aG.o⟩, ⟨by repeat (with_reducible first | exact aD.o | refine qAm.far ?_ bC.o (by exact TyB.of aG.o) (by decide) _)⟩, ⟨by repeat (with_reducible first | exact HB.o | refine qA1 ?_ bp.o)⟩⟩
            replace fj := Bool.eq_false_iff.mpr fj
            subst fj
            replace H : ((qBa.f aN ac ae).bind fun bO => (qAb.l3 bH l0 bO.1 aN bO.2.1 bO.2.2 aR aH aJ ([] : List (S104)))) = some (r1, r2, r3, r4, r5) := by rw [if_neg (show ¬ (false = true) by decide)] at H; exact H
            replace H := bm H
            obtain ⟨⟨d5, d6, d7⟩, eC, H⟩ := H
            replace H : (qAb.l3 bH l0 d5 aN d6 d7 aR aH aJ ([] : List (S104))) = some (r1, r2, r3, r4, r5) := H
            have gn := am eC
            clear eC
            have H' := am H
            clear H
            go_wp2_with ((with_reducible refine qAi (f := 59) rfl ?_); refine gL 83 Tryz.func59 #[.pointer (some ⟨aW, 0, none⟩)] ?_; (with_reducible refine (qBa.calls aW aN ac ae d5 d6 d7 w _ ?side1 ?side2 gn.o).mono ?_); (case side1 => exact aD.o); (case side2 => exact HB.o); rintro e h3 ⟨rfl, hi, hb, hk⟩; refine ⟨_, rfl, ?_⟩; have n_ := a2 (Kd.R_kp (qAm.apart aD.o aA.o (by decide)) hk) (a2 (Kd.S_mono (Kd.S_keep (qAm.apartS aD.o aC.o (by decide)) hk (fun _ h => h.2)) (fun _ h => h.1)) (a2 (qAh.blk hk aE.o aQ.o (by simp)) (a2 (qAh.blk hk aG.o aT.o (by simp)) (a2 (hb) (am (hi)))))); clear aA aC aE aG HB aD; obtain ⟨aA, aC, aE, aG, HB, aD⟩ := n_)
            go_loopg [10] bH (fun kq gu w' => ∃ (aj : Int) (au : Int) (ax : Int) (aK : List (S104)) (ak : Value), gu = .int .i64 aj ∧ qAa (qAb.l3 kq l0 aj aN au ax aR aH aJ aK = some (r1, r2, r3, r4, r5)) ∧ qAa (kq ≤ bH) ∧ qAa (Kd.R k85 85 w' w.heap.size (fun _ => True) aU aH) ∧ qAa (Kd.S k92 92 w' w.heap.size (fun _ => True) aV aJ) ∧ qAa (Kd.R k104 104 w' w.heap.size (fun _ => True) ak aK) ∧ qAa (w'.heap[aX]? = some (.cells #[.string ⟨#[]⟩, (.slice none 0 0), (.slice none 0 0), (.slice none 0 0)] 33 (0, 0))) ∧ qAa (w'.heap[aY]? = some (.cells #[.string aR, aU, aV, ak] 33 (0, 0))) ∧ qAa (qAm w w' aW aN au ax) ∧ qAa (Below w.heap.size w w'))
            case atStart => exact ⟨(d5), (d6), (d7), ([] : List (S104)), (.slice none 0 0), (by rfl), H', ⟨Nat.le_refl _⟩, ⟨by exact aA.o⟩, ⟨by exact aC.o⟩, ⟨by (exact Kd.R_nil _ _ _ _ _)⟩, ⟨by exact aE.o⟩, ⟨by exact aG.o⟩, ⟨by exact aD.o⟩, ⟨by exact HB.o⟩⟩
            case round =>
             clear H'
             obtain ⟨aj, au, ax, aK, ak, rfl, HA, fe, aA, aC, aI, aE, aG, aD, HB⟩ := hrel
             cases gk with
             | zero => exact absurd HA.o (by simp [qAb.l3])
             | succ k6 =>
              have H := HA.o
              clear HA
              simp only [qAb.l3] at H
              have dE := am H
              clear H
              go_upto_region 20 with (fail)
              go_cut [90] (fun hF wc => ∃ (kq : Nat) (b1 : Bool) (a5 : Int) (a6 : Int), hF = .bool b1 ∧ qAa (qAb.j6 kq l0 aj b1 aN a5 a6 aR aH aJ aK = some (r1, r2, r3, r4, r5)) ∧ qAa (kq ≤ k6) ∧ qAa (Kd.R k85 85 wc w.heap.size (fun _ => True) aU aH) ∧ qAa (Kd.S k92 92 wc w.heap.size (fun _ => True) aV aJ) ∧ qAa (Kd.R k104 104 wc w.heap.size (fun _ => True) ak aK) ∧ qAa (wc.heap[aX]? = some (.cells #[.string ⟨#[]⟩, (.slice none 0 0), (.slice none 0 0), (.slice none 0 0)] 33 (0, 0))) ∧ qAa (wc.heap[aY]? = some (.cells #[.string aR, aU, aV, ak] 33 (0, 0))) ∧ qAa (qAm w wc aW aN a5 a6) ∧ qAa (Below w.heap.size w wc))
              case first =>
               have H := dE.o
               clear dE
               by_cases dm : aj > 0
               rotate_left
               ·rw [if_neg dm] at H
                replace dm := d0 dm
                (skip)
                have H' := am H
                clear H
                go_wp2
                go_meet
                case rel => exact ⟨_, (false), (au), (ax), (by rfl), H', ⟨by have := b9.o; have := cI.o; have := bQ.o; have := cv.o; have := bu.o; have := fe.o; (omega)⟩, ⟨by exact aA.o⟩, ⟨by exact aC.o⟩, ⟨by exact aI.o⟩, ⟨by exact aE.o⟩, ⟨by exact aG.o⟩, ⟨by exact aD.o⟩, ⟨by exact HB.o⟩⟩
               rw [if_pos dm] at H
               replace dm := d1 dm
               (skip)
               replace H := bm H
               obtain ⟨⟨d8, d9, da⟩, eD, H⟩ := H
               replace H : (qAb.j6 k6 l0 aj (d8 == 0) aN d9 da aR aH aJ aK) = some (r1, r2, r3, r4, r5) := H
               have go := am eD
               clear eD
               have H' := am H
               clear H
               go_wp2_with (go_at_call 60; (with_reducible refine (qAO.calls aW aN au ax d8 d9 da w _ ?side1 ?side2 go.o).mono ?_); (case side1 => exact aD.o); (case side2 => exact HB.o); rintro e h4 ⟨rfl, hi, hb, hk⟩; have n_ := a2 (Kd.R_kp (qAm.apart aD.o aA.o (by decide)) hk) (a2 (Kd.S_mono (Kd.S_keep (qAm.apartS aD.o aC.o (by decide)) hk (fun _ h => h.2)) (fun _ h => h.1)) (a2 (Kd.R_kp (qAm.apart aD.o aI.o (by decide)) hk) (a2 (qAh.blk hk aE.o aQ.o (by simp)) (a2 (qAh.blk hk aG.o aT.o (by simp)) (a2 (hb) (am (hi))))))); clear aA aC aI aE aG HB aD; obtain ⟨aA, aC, aI, aE, aG, HB, aD⟩ := n_)
               go_meet
               case rel => exact ⟨_, (d8 == 0), (d9), (da), (by rfl), H', ⟨by have := b9.o; have := cI.o; have := bQ.o; have := cv.o; have := bu.o; have := fe.o; (omega)⟩, ⟨by exact aA.o⟩, ⟨by exact aC.o⟩, ⟨by exact aI.o⟩, ⟨by exact aE.o⟩, ⟨by exact aG.o⟩, ⟨by exact aD.o⟩, ⟨by exact HB.o⟩⟩
              case rest =>
               clear dE
               obtain ⟨kq, b1, a5, a6, rfl, HA, eU, aA, aC, aI, aE, aG, aD, HB⟩ := hcut
               cases kq with
               | zero => exact absurd HA.o (by simp [qAb.j6])
               | succ bE =>
                have H := HA.o
                clear HA
                simp only [qAb.j6] at H
                by_cases fl : b1 = true
                ·subst fl
                 replace H : ((qBe.f aN a5 a6).bind fun bP => ((qBe.f aN bP.2.1 bP.2.2).bind fun bB => ((qAr.f aN bB.2.1 bB.2.2).bind fun ap => ((qAC.f aN ap.2.1 ap.2.2 32).bind fun ah => ((qAC.f aN ah.2.1 ah.2.2 32).bind fun a8 => (if aK.length < 2513169434916 then (qAb.l3 bE l0 (wrap64 (aj - 1)) aN a8.2.1 a8.2.2 aR aH aJ (aK ++ [(⟨bP.1, bB.1, wrap64 (ap.1), ah.1, a8.1⟩ : S104)])) else (none))))))) = some (r1, r2, r3, r4, r5) := by rw [if_pos rfl] at H; exact H
                 replace H := bm H
                 obtain ⟨⟨bS, db, dc⟩, eE, H⟩ := H
                 replace H : ((qBe.f aN db dc).bind fun bB => ((qAr.f aN bB.2.1 bB.2.2).bind fun ap => ((qAC.f aN ap.2.1 ap.2.2 32).bind fun ah => ((qAC.f aN ah.2.1 ah.2.2 32).bind fun a8 => (if aK.length < 2513169434916 then (qAb.l3 bE l0 (wrap64 (aj - 1)) aN a8.2.1 a8.2.2 aR aH aJ (aK ++ [(⟨bS, bB.1, wrap64 (ap.1), ah.1, a8.1⟩ : S104)])) else (none)))))) = some (r1, r2, r3, r4, r5) := H
                 have gp := am eE
                 clear eE
                 replace H := bm H
                 obtain ⟨⟨bY, dd, de⟩, eF, H⟩ := H
                 replace H : ((qAr.f aN dd de).bind fun ap => ((qAC.f aN ap.2.1 ap.2.2 32).bind fun ah => ((qAC.f aN ah.2.1 ah.2.2 32).bind fun a8 => (if aK.length < 2513169434916 then (qAb.l3 bE l0 (wrap64 (aj - 1)) aN a8.2.1 a8.2.2 aR aH aJ (aK ++ [(⟨bS, bY, wrap64 (ap.1), ah.1, a8.1⟩ : S104)])) else (none))))) = some (r1, r2, r3, r4, r5) := H
                 have gq := am eF
                 clear eF
                 replace H := bm H
                 obtain ⟨⟨b7, df, dg⟩, eG, H⟩ := H
                 replace H : ((qAC.f aN df dg 32).bind fun ah => ((qAC.f aN ah.2.1 ah.2.2 32).bind fun a8 => (if aK.length < 2513169434916 then (qAb.l3 bE l0 (wrap64 (aj - 1)) aN a8.2.1 a8.2.2 aR aH aJ (aK ++ [(⟨bS, bY, wrap64 (b7), ah.1, a8.1⟩ : S104)])) else (none)))) = some (r1, r2, r3, r4, r5) := H
                 have gr := am eG
                 clear eG
                 replace H := bm H
                 obtain ⟨⟨bl, dh, di⟩, eH, H⟩ := H
                 replace H : ((qAC.f aN dh di 32).bind fun a8 => (if aK.length < 2513169434916 then (qAb.l3 bE l0 (wrap64 (aj - 1)) aN a8.2.1 a8.2.2 aR aH aJ (aK ++ [(⟨bS, bY, wrap64 (b7), bl, a8.1⟩ : S104)])) else (none))) = some (r1, r2, r3, r4, r5) := H
                 have gs := am eH
                 clear eH
                 replace H := bm H
                 obtain ⟨⟨cD, cr, ct⟩, eI, H⟩ := H
                 replace H : (if aK.length < 2513169434916 then (qAb.l3 bE l0 (wrap64 (aj - 1)) aN cr ct aR aH aJ (aK ++ [(⟨bS, bY, wrap64 (b7), bl, cD⟩ : S104)])) else (none)) = some (r1, r2, r3, r4, r5) := H
                 have gt := am eI
                 clear eI
                 obtain ⟨fm, H⟩ := gd H
                 have eY := am fm
                 clear fm
                 obtain ⟨cH, cY⟩ : ∃ y_ : List (S104), y_ = (aK ++ [(⟨bS, bY, wrap64 (b7), bl, cD⟩ : S104)]) := ⟨_, rfl⟩
                 replace H : (qAb.l3 bE l0 (wrap64 (aj - 1)) aN cr ct aR aH aJ cH) = some (r1, r2, r3, r4, r5) := by (rw [cY]; with_reducible exact H)
                 have e1 := am cY
                 clear cY
                 have H' := am H
                 clear H
                 try go_wp2
                 have n_ := a2 (Kd.R_drew aA.o) (a2 (Kd.S_drew aC.o) (a2 (Kd.R_drew aI.o) (a2 (qBF aE.o) (a2 (qBF aG.o) (a2 (qAm.drew aD.o) (am (qAM HB.o)))))))
                 clear aA aC aI aE aG aD HB
                 obtain ⟨aA, aC, aI, aE, aG, aD, HB⟩ := n_
                 refine qEs (n := 18) (S := fun w' => w'.cell? ⟨aY, 0, none⟩ = some (.string aR) ∧ w'.cell? ⟨aY, 1, none⟩ = some (aU) ∧ w'.cell? ⟨aY, 2, none⟩ = some (aV) ∧ w'.cell? ⟨aY, 3, none⟩ = some (ak)) (ds := [17]) (mK 18 0) (by kernel_rfl) rfl rfl (c4_ _ aG.o) (fun hHeld => ?_); refine qCs qAb.tab22 qAb.bits22 (fun HT_ HW_ => ?_)
                 generalize wc.drew = h5 at aA aC aI aE aG aD HB hHeld ⊢
                 refine pu 0 93 (mK 18 1) (qBc HT_.o (by kernel_rfl)) ?_
                 refine pu 2 95 (mK 18 5) (qBc HT_.o (by kernel_rfl)) ?_
                 refine pu 4 97 (mK 18 21) (qBc HT_.o (by kernel_rfl)) ?_
                 refine pu 6 99 (mK 18 85) (qBc HT_.o (by kernel_rfl)) ?_
                 refine pu 9 102 (mK 18 597) (qBc HT_.o (by kernel_rfl)) ?_
                 refine pu 11 104 (mK 18 2645) (qBc HT_.o (by kernel_rfl)) ?_
                 refine tk 1 94 (mK 18 2647) (qBw HT_.o HW_.o (by kernel_rfl)) hHeld ?_
                 refine one_ (i := 3) (N := some 96) (mK 18 2655) rfl rfl (qB6 HT_.o (by kernel_rfl)) (by decide) (fun K hK => ?_)
                 refine qEg Tryz.func63 (by kernel_rfl) rfl #[.pointer (some ⟨aW, 0, none⟩)] (by rfl) rfl rfl (by (try simp only [List.map_toArray, List.map_cons, List.map_nil]); (rfl)) ?_
                 with_reducible refine (qBe.calls aW aN a5 a6 bS db dc w _ ?side1 ?side2 gp.o).mono ?_
                 (case side1 => exact aD.o)
                 (case side2 => exact HB.o)
                 rintro e h6 ⟨rfl, hi, hb, hk⟩
                 refine ⟨_, rfl, ?_⟩
                 have n_ := a2 (Kd.R_kp (qAm.apart aD.o aA.o (by decide)) hk) (a2 (Kd.S_mono (Kd.S_keep (qAm.apartS aD.o aC.o (by decide)) hk (fun _ h => h.2)) (fun _ h => h.1)) (a2 (Kd.R_kp (qAm.apart aD.o aI.o (by decide)) hk) (a2 (qAh.blk hk aE.o aQ.o (by simp)) (a2 (qAh.blk hk aG.o aT.o (by simp)) (a2 (hb) (am (hi)))))))
                 clear aA aC aI aE aG HB aD
                 obtain ⟨aA, aC, aI, aE, aG, HB, aD⟩ := n_
                 (try clear hb)
                 (skip)
                 (try clear hk)
                 (try clear hi)
                 refine hK.o _ _ (c4_ _ aG.o) (fun hHeld => ?_)
                 clear hK K
                 refine nm ?_
                 refine one_ (i := 5) (N := some 98) (mK 18 2687) rfl rfl (qB6 HT_.o (by kernel_rfl)) (by decide) (fun K hK => ?_)
                 refine qEg Tryz.func63 (by kernel_rfl) rfl #[.pointer (some ⟨aW, 0, none⟩)] (by rfl) rfl rfl (by (try simp only [List.map_toArray, List.map_cons, List.map_nil]); (rfl)) ?_
                 with_reducible refine (qBe.calls aW aN db dc bY dd de w _ ?side1 ?side2 gq.o).mono ?_
                 (case side1 => exact aD.o)
                 (case side2 => exact HB.o)
                 rintro e h7 ⟨rfl, hi, hb, hk⟩
                 refine ⟨_, rfl, ?_⟩
                 have n_ := a2 (Kd.R_kp (qAm.apart aD.o aA.o (by decide)) hk) (a2 (Kd.S_mono (Kd.S_keep (qAm.apartS aD.o aC.o (by decide)) hk (fun _ h => h.2)) (fun _ h => h.1)) (a2 (Kd.R_kp (qAm.apart aD.o aI.o (by decide)) hk) (a2 (qAh.blk hk aE.o aQ.o (by simp)) (a2 (qAh.blk hk aG.o aT.o (by simp)) (a2 (hb) (am (hi)))))))
                 clear aA aC aI aE aG HB aD
                 obtain ⟨aA, aC, aI, aE, aG, HB, aD⟩ := n_
                 (try clear hb)
                 (skip)
                 (try clear hk)
                 (try clear hi)
                 refine hK.o _ _ (c4_ _ aG.o) (fun hHeld => ?_)
                 clear hK K
                 refine nm ?_
                 refine one_ (i := 7) (N := some 100) (mK 18 2815) rfl rfl (qB6 HT_.o (by kernel_rfl)) (by decide) (fun K hK => ?_)
                 refine qEg Tryz.func56 (by kernel_rfl) rfl #[.pointer (some ⟨aW, 0, none⟩)] (by rfl) rfl rfl (by (try simp only [List.map_toArray, List.map_cons, List.map_nil]); (rfl)) ?_
                 with_reducible refine (qAr.calls aW aN dd de b7 df dg w _ ?side1 ?side2 gr.o).mono ?_
                 (case side1 => exact aD.o)
                 (case side2 => exact HB.o)
                 rintro e h8 ⟨rfl, hi, hb, hk⟩
                 refine ⟨_, rfl, ?_⟩
                 have n_ := a2 (Kd.R_kp (qAm.apart aD.o aA.o (by decide)) hk) (a2 (Kd.S_mono (Kd.S_keep (qAm.apartS aD.o aC.o (by decide)) hk (fun _ h => h.2)) (fun _ h => h.1)) (a2 (Kd.R_kp (qAm.apart aD.o aI.o (by decide)) hk) (a2 (qAh.blk hk aE.o aQ.o (by simp)) (a2 (qAh.blk hk aG.o aT.o (by simp)) (a2 (hb) (am (hi)))))))
                 clear aA aC aI aE aG HB aD
                 obtain ⟨aA, aC, aI, aE, aG, HB, aD⟩ := n_
                 (try clear hb)
                 (skip)
                 (try clear hk)
                 (try clear hi)
                 refine hK.o _ _ (c4_ _ aG.o) (fun hHeld => ?_)
                 clear hK K
                 refine nm ?_
                 refine pure_ (i := 8) (N := some 101) (v := ?_) (a' := ?_) (mK 18 3071) rfl rfl (qBc HT_.o (by kernel_rfl)) (fun _ _ _ h => h) (Or.inl ⟨by rfl, ?_⟩) ?_ ?_
                 rotate_left
                 ·intro w'
                  go_simp
                  with_reducible rfl
                 rotate_left
                 ·simp only [Act.put, List.setIfInBounds_toArray, List.set_cons_zero, List.set_cons_succ, i64_w]
                  rfl
                 refine one_ (i := 10) (N := some 103) (mK 18 4095) rfl rfl (qB6 HT_.o (by kernel_rfl)) (by decide) (fun K hK => ?_)
                 refine qEg Tryz.func58 (by kernel_rfl) rfl #[.pointer (some ⟨aW, 0, none⟩), .int .i64 32] (by rfl) rfl rfl (by (try simp only [List.map_toArray, List.map_cons, List.map_nil]); (rfl)) ?_
                 with_reducible refine (qAC.calls aW aN df dg 32 bl dh di w _ ?side1 ?side2 gs.o).mono ?_
                 (case side1 => exact aD.o)
                 (case side2 => exact HB.o)
                 rintro e h9 ⟨rfl, hi, hb, hk⟩
                 refine ⟨_, rfl, ?_⟩
                 have n_ := a2 (Kd.R_kp (qAm.apart aD.o aA.o (by decide)) hk) (a2 (Kd.S_mono (Kd.S_keep (qAm.apartS aD.o aC.o (by decide)) hk (fun _ h => h.2)) (fun _ h => h.1)) (a2 (Kd.R_kp (qAm.apart aD.o aI.o (by decide)) hk) (a2 (qAh.blk hk aE.o aQ.o (by simp)) (a2 (qAh.blk hk aG.o aT.o (by simp)) (a2 (hb) (am (hi)))))))
                 clear aA aC aI aE aG HB aD
                 obtain ⟨aA, aC, aI, aE, aG, HB, aD⟩ := n_
                 (try clear hb)
                 (skip)
                 (try clear hk)
                 (try clear hi)
                 refine hK.o _ _ (c4_ _ aG.o) (fun hHeld => ?_)
                 clear hK K
                 refine nm ?_
                 refine one_ (i := 12) (N := some 105) (mK 18 8191) rfl rfl (qB6 HT_.o (by kernel_rfl)) (by decide) (fun K hK => ?_)
                 refine qEg Tryz.func58 (by kernel_rfl) rfl #[.pointer (some ⟨aW, 0, none⟩), .int .i64 32] (by rfl) rfl rfl (by (try simp only [List.map_toArray, List.map_cons, List.map_nil]); (rfl)) ?_
                 with_reducible refine (qAC.calls aW aN dh di 32 cD cr ct w _ ?side1 ?side2 gt.o).mono ?_
                 (case side1 => exact aD.o)
                 (case side2 => exact HB.o)
                 rintro e ha ⟨rfl, hi, hb, hk⟩
                 refine ⟨_, rfl, ?_⟩
                 have n_ := a2 (Kd.R_kp (qAm.apart aD.o aA.o (by decide)) hk) (a2 (Kd.S_mono (Kd.S_keep (qAm.apartS aD.o aC.o (by decide)) hk (fun _ h => h.2)) (fun _ h => h.1)) (a2 (Kd.R_kp (qAm.apart aD.o aI.o (by decide)) hk) (a2 (qAh.blk hk aE.o aQ.o (by simp)) (a2 (qAh.blk hk aG.o aT.o (by simp)) (a2 (hb) (am (hi)))))))
                 clear aA aC aI aE aG HB aD
                 obtain ⟨aA, aC, aI, aE, aG, HB, aD⟩ := n_
                 (try clear hb)
                 (skip)
                 (try clear hk)
                 (try clear hi)
                 refine hK.o _ _ (c4_ _ aG.o) (fun hHeld => ?_)
                 clear hK K
                 refine nm ?_
                 refine pu 13 106 (mK 18 16383) (qBc HT_.o (by kernel_rfl)) ?_
                 refine one_ (i := 14) (N := some 107) (mK 18 32767) rfl rfl (qB6 HT_.o (by kernel_rfl)) (by decide) (fun K hK => ?_)
                 refine value_ (w1 := ?_) (v := ?_) (by rfl) rfl ?_ ?_
                 rotate_left 2
                 ·go_simp
                  constructor
                  ·rfl
                  rfl
                 refine hK.o _ _ ⟨(qAn (qAW aG.o _) 0).trans rfl, (qAn (qAW aG.o _) 1).trans rfl, (qAn (qAW aG.o _) 2).trans rfl, (qAn (qAW aG.o _) 3).trans rfl⟩ (fun hHeld => ?_)
                 clear hK K
                 refine nm ?_
                 refine one_ (i := 15) (N := some 108) (mK 18 65535) rfl rfl (qB6 HT_.o (by kernel_rfl)) (by decide) (fun K hK => ?_)
                 refine Kd.R_append_step k104 (w0 := w) w.heap.size (by rfl) (.tmp 94) (.tmp 107) 31 104 (.agg #[(.int .i64 0), (.int .i64 0), (.int .i64 0), (.string ⟨#[]⟩), (.string ⟨#[]⟩)]) 56 rfl Tryz.underlying31 info104 rfl (by decide) (by omega) ak aK (⟨bS, bY, wrap64 (b7), bl, cD⟩ : S104) [.int .i64 bS, .int .i64 bY, .int .i64 (wrap64 (b7)), .string bl, .string cD] (fun _ => True) (fun _ => False) rfl rfl ?aP (fun _ hk => hk.elim) ?aF ?aO ?aB ?aS ?aL ?_
                 (case aP => exact qEZ _ _ _ (⟨bS, bY, wrap64 (b7), bl, cD⟩ : S104))
                 (case aB => exact HB.o)
                 (case aF => exact (fun _ _ => trivial))
                 (case aO => exact aI.o)
                 (case aS => exact (qAf HB.o))
                 (case aL => have := eY.o; omega)
                 intro hC hc ho hb hg es
                 rw [← e1.o] at ho
                 have n_ := a2 (Kd.R_over' aA.o (Kd.R_typed aI.o) (by decide) hg) (a2 (Kd.S_over' aC.o (Kd.R_typed aI.o) (by decide) hg) (a2 (qAI (g := aX) (o := .cells #[.string ⟨#[]⟩, .slice none 0 0, .slice none 0 0, .slice none 0 0] 33 (0, 0)) aE.o hg (Kd.R_ne aI.o aE.o (by decide))) (a2 (qAI (g := aY) (o := .cells #[.string aR, aU, aV, ak] 33 (0, 0)) aG.o hg (Kd.R_ne aI.o aG.o (by decide))) (a2 (qAm.grownR aD.o hg aD.o aI.o (by decide) (fun b_ t_ h_ => h_)) (a2 (hb) (am (ho)))))))
                 clear aA aC aE aG aD HB aI
                 obtain ⟨aA, aC, aE, aG, aD, HB, cy⟩ := n_
                 clear ho hb hg es
                 obtain ⟨c1, ca, gI⟩ := Kd.R_slice cy.o
                 (subst gI)
                 refine hK.o _ _ (c4_ _ aG.o) (fun hHeld => ?_)
                 clear hK K
                 refine nm ?_
                 refine pu 16 109 (mK 18 131071) (qBc HT_.o (by kernel_rfl)) ?_
                 refine last_ (i := 17) (N := none) (mK 18 262143) rfl rfl (qB6 HT_.o (by kernel_rfl)) (by decide) (fun K hK => ?_)
                 have hfs84 := qAx aG.o 3
                 refine skip_ (w1 := ?_) (by rfl) rfl ?_ ?_
                 rotate_left
                 ·go_simp
                  rfl
                 refine hK.o _ _ ?_
                 clear hK K
                 refine done_ (qDn HT_.o (by kernel_rfl)) ?_
                 try go_wp2
                 go_roundg bE
                 case measure => have := b9.o; have := cI.o; have := bQ.o; have := cv.o; have := bu.o; have := fe.o; have := eU.o; omega
                 case rel => exact ⟨(wrap64 (aj - 1)), (cr), (ct), (cH), (.slice c1 cH.length ca), (by rfl), H', ⟨by have := b9.o; have := cI.o; have := bQ.o; have := cv.o; have := bu.o; have := fe.o; have := eU.o; omega⟩, ⟨by exact Kd.R_mono (Kd.R_far (p := ⟨aY, 3, none⟩) (Kd.R_types aA.o aG.o (by decide)) (fun _ hk => hk.2) (.slice c1 cH.length ca)) (fun _ hk => trivial)⟩, ⟨by exact Kd.S_mono (Kd.S_far (p := ⟨aY, 3, none⟩) (Kd.S_types aC.o aG.o (by decide)) (fun _ hk => hk.2) (.slice c1 cH.length ca)) (fun _ hk => trivial)⟩, ⟨by exact Kd.R_mono (Kd.R_far (p := ⟨aY, 3, none⟩) (Kd.R_types cy.o aG.o (by decide)) (fun _ hk => hk.2) (.slice c1 cH.length ca)) (fun _ hk => trivial)⟩, ⟨by refine qA2 ?_ ai.o _; exact aE.o⟩, ⟨by refine qA5 (cs := #[.string aR, aU, aV, ak]) ?_ 3 _ rfl; exact aG.o⟩, ⟨by repeat (with_reducible first | exact aD.o | refine qAm.far ?_ bC.o (by exact TyB.of aG.o) (by decide) _)⟩, ⟨by repeat (with_reducible first | exact HB.o | refine qA1 ?_ bp.o)⟩⟩
                replace fl := Bool.eq_false_iff.mpr fl
                subst fl
                replace H : ((qBm.f aN a5 a6).bind fun cQ => (if cQ.1 = 0 then ((qBg.f aR aH aJ aK).bind fun bG => (if bG.2 = 0 then ((qAy.f bE l0 bG.1).bind fun bU => (if bU = true then (some (aR, aH, aJ, aK, 0)) else (some ((⟨#[]⟩ : ByteArray), ([] : List (S85)), ([] : List (S92)), ([] : List (S104)), 52)))) else (some ((⟨#[]⟩ : ByteArray), ([] : List (S85)), ([] : List (S92)), ([] : List (S104)), 52)))) else (some ((⟨#[]⟩ : ByteArray), ([] : List (S85)), ([] : List (S92)), ([] : List (S104)), 52)))) = some (r1, r2, r3, r4, r5) := by rw [if_neg (show ¬ (false = true) by decide)] at H; exact H
                replace H := bm H
                obtain ⟨⟨b8, cE, cF⟩, eJ, H⟩ := H
                replace H : (if b8 = 0 then ((qBg.f aR aH aJ aK).bind fun bG => (if bG.2 = 0 then ((qAy.f bE l0 bG.1).bind fun bU => (if bU = true then (some (aR, aH, aJ, aK, 0)) else (some ((⟨#[]⟩ : ByteArray), ([] : List (S85)), ([] : List (S92)), ([] : List (S104)), 52)))) else (some ((⟨#[]⟩ : ByteArray), ([] : List (S85)), ([] : List (S92)), ([] : List (S104)), 52)))) else (some ((⟨#[]⟩ : ByteArray), ([] : List (S85)), ([] : List (S92)), ([] : List (S104)), 52))) = some (r1, r2, r3, r4, r5) := H
                have fd := am eJ
                clear eJ
                by_cases e9 : b8 = 0
                rotate_left
                ·rw [if_neg e9] at H
                 have ea : (b8 != 0) = true := bne_iff_ne.mpr e9
                 simp only [Option.some.injEq, Prod.mk.injEq] at H
                 obtain ⟨rfl, rfl, rfl, rfl, rfl⟩ := H
                 go_wp2_with ((with_reducible refine qAi (f := 64) rfl ?_); refine gL 111 Tryz.func64 #[.pointer (some ⟨aW, 0, none⟩)] ?_; (with_reducible refine (qBm.calls aW aN a5 a6 b8 cE cF w _ ?side1 ?side2 fd.o).mono ?_); (case side1 => exact aD.o); (case side2 => exact HB.o); rintro e g1 ⟨rfl, hi, hb, hk⟩; refine ⟨_, rfl, ?_⟩; have n_ := a2 (qAh.blk hk aE.o aQ.o (by simp)) (am (hb)); clear aA aC aI aE aG HB aD; obtain ⟨aE, HB⟩ := n_; obtain ⟨fR, fS, fT, fU⟩ := c4_ g1 aE.o; obtain ⟨f7, f8, f9, fa⟩ := z4_ aE.o)
                 refine bodyPost_ret (qDg rfl _ _ aX 33 #[.string ⟨#[]⟩, .slice none 0 0, .slice none 0 0, .slice none 0 0] (0, 0) _ rfl (by refine qA5 (cs := #[.string ⟨#[]⟩, .slice none 0 0, .slice none 0 0, .slice none 0 0]) ?_ 3 _ rfl; refine qA5 (cs := #[.string ⟨#[]⟩, .slice none 0 0, .slice none 0 0, .slice none 0 0]) ?_ 2 _ rfl; refine qA5 (cs := #[.string ⟨#[]⟩, .slice none 0 0, .slice none 0 0, .slice none 0 0]) ?_ 1 _ rfl; refine qA5 (cs := #[.string ⟨#[]⟩, .slice none 0 0, .slice none 0 0, .slice none 0 0]) ?_ 0 _ rfl; exact aE.o) Tryz.underlying33 rfl (by kernel_rfl)) rfl ?_
                 exact ⟨_, _, _, by rfl, by (exact Kd.R_nil _ _ _ _ _), by (exact Kd.S_nil _ _ _ _ _), by (exact Kd.R_nil _ _ _ _ _), by repeat (with_reducible first | exact HB.o | refine qA1 ?_ bV.o)⟩
                rw [if_pos e9] at H
                have ea : (b8 != 0) = false := bn e9
                clear e9
                replace H := bm H
                obtain ⟨⟨bT, bo⟩, eK, H⟩ := H
                replace H : (if bo = 0 then ((qAy.f bE l0 bT).bind fun bU => (if bU = true then (some (aR, aH, aJ, aK, 0)) else (some ((⟨#[]⟩ : ByteArray), ([] : List (S85)), ([] : List (S92)), ([] : List (S104)), 52)))) else (some ((⟨#[]⟩ : ByteArray), ([] : List (S85)), ([] : List (S92)), ([] : List (S104)), 52))) = some (r1, r2, r3, r4, r5) := H
                have fu := am eK
                clear eK
                by_cases eb : bo = 0
                rotate_left
                ·rw [if_neg eb] at H
                 have ec : (bo != 0) = true := bne_iff_ne.mpr eb
                 simp only [Option.some.injEq, Prod.mk.injEq] at H
                 obtain ⟨rfl, rfl, rfl, rfl, rfl⟩ := H
                 go_wp2_with (first | ((with_reducible refine qAi (f := 64) rfl ?_); refine gL 111 Tryz.func64 #[.pointer (some ⟨aW, 0, none⟩)] ?_; (with_reducible refine (qBm.calls aW aN a5 a6 b8 cE cF w _ ?side1 ?side2 fd.o).mono ?_); (case side1 => exact aD.o); (case side2 => exact HB.o); rintro e gZ ⟨rfl, hi, hb, hk⟩; refine ⟨_, rfl, ?_⟩; have n_ := a2 (Kd.R_kp (qAm.apart aD.o aA.o (by decide)) hk) (a2 (Kd.S_mono (Kd.S_keep (qAm.apartS aD.o aC.o (by decide)) hk (fun _ h => h.2)) (fun _ h => h.1)) (a2 (Kd.R_kp (qAm.apart aD.o aI.o (by decide)) hk) (a2 (qAh.blk hk aE.o aQ.o (by simp)) (a2 (qAh.blk hk aG.o aT.o (by simp)) (a2 (hb) (am (hi))))))); clear aA aC aI aE aG HB aD; obtain ⟨aA, aC, aI, aE, aG, HB, aD⟩ := n_; obtain ⟨fJ, fK, fL, fM⟩ := c4_ gZ aG.o; obtain ⟨eN, ee, ep⟩ := Kd.R_slice aA.o; subst ep; obtain ⟨eO, ef, eq⟩ := Kd.S_slice aC.o; subst eq; obtain ⟨eP, eg, er⟩ := Kd.R_slice aI.o; subst er) | ((with_reducible refine qAi (f := 13) rfl ?_); refine gL 116 Tryz.func13 #[.agg #[.string aR, .slice eN aH.length ee, .slice eO aJ.length ef, .slice eP aK.length eg]] ?_; (with_reducible refine (qBg.calls aR _ _ aH _ _ aJ _ _ aK bT bo _ ?side1 ?side2 ?side3 ?side4 ?side5 ?side6 fu.o).mono ?_); (case side1 => exact (Kd.R_reads' aA.o).2.2); (case side2 => exact (Kd.R_reads' aA.o).2.1); (case side3 => exact (Kd.S_reads' aC.o).2.2); (case side4 => exact (Kd.S_reads' aC.o).2.1); (case side5 => exact (Kd.R_reads' aI.o).2.2); (case side6 => exact (Kd.R_reads' aI.o).2.1); rintro e g0 ⟨fb, rfl, cU, hb⟩; refine ⟨_, rfl, ?_⟩; have n_ := a2 (qAk aE.o hb) (am (qAe HB.o hb)); clear aA aC aI aE aG aD HB; obtain ⟨aE, HB⟩ := n_; obtain ⟨fN, fO, fP, fQ⟩ := c4_ g0 aE.o; obtain ⟨f3, f4, f5, f6⟩ := z4_ aE.o))
                 refine bodyPost_ret (qDg rfl _ _ aX 33 #[.string ⟨#[]⟩, .slice none 0 0, .slice none 0 0, .slice none 0 0] (0, 0) _ rfl (by refine qA5 (cs := #[.string ⟨#[]⟩, .slice none 0 0, .slice none 0 0, .slice none 0 0]) ?_ 3 _ rfl; refine qA5 (cs := #[.string ⟨#[]⟩, .slice none 0 0, .slice none 0 0, .slice none 0 0]) ?_ 2 _ rfl; refine qA5 (cs := #[.string ⟨#[]⟩, .slice none 0 0, .slice none 0 0, .slice none 0 0]) ?_ 1 _ rfl; refine qA5 (cs := #[.string ⟨#[]⟩, .slice none 0 0, .slice none 0 0, .slice none 0 0]) ?_ 0 _ rfl; exact aE.o) Tryz.underlying33 rfl (by kernel_rfl)) rfl ?_
                 exact ⟨_, _, _, by rfl, by (exact Kd.R_nil _ _ _ _ _), by (exact Kd.S_nil _ _ _ _ _), by (exact Kd.R_nil _ _ _ _ _), by repeat (with_reducible first | exact HB.o | refine qA1 ?_ bV.o)⟩
                rw [if_pos eb] at H
                have ec : (bo != 0) = false := bn eb
                clear eb
                replace H := bm H
                obtain ⟨bU, eL, H⟩ := H
                replace H : (if bU = true then (some (aR, aH, aJ, aK, 0)) else (some ((⟨#[]⟩ : ByteArray), ([] : List (S85)), ([] : List (S92)), ([] : List (S104)), 52))) = some (r1, r2, r3, r4, r5) := H
                have g5 := am eL
                clear eL
                by_cases fn : bU = true
                rotate_left
                ·replace fn := Bool.eq_false_iff.mpr fn
                 subst fn
                 replace H : (some ((⟨#[]⟩ : ByteArray), ([] : List (S85)), ([] : List (S92)), ([] : List (S104)), 52)) = some (r1, r2, r3, r4, r5) := by rw [if_neg (show ¬ (false = true) by decide)] at H; exact H
                 simp only [Option.some.injEq, Prod.mk.injEq] at H
                 obtain ⟨rfl, rfl, rfl, rfl, rfl⟩ := H
                 go_wp2_with (first | ((with_reducible refine qAi (f := 64) rfl ?_); refine gL 111 Tryz.func64 #[.pointer (some ⟨aW, 0, none⟩)] ?_; (with_reducible refine (qBm.calls aW aN a5 a6 b8 cE cF w _ ?side1 ?side2 fd.o).mono ?_); (case side1 => exact aD.o); (case side2 => exact HB.o); rintro e gY ⟨rfl, hi, hb, hk⟩; refine ⟨_, rfl, ?_⟩; have n_ := a2 (Kd.R_kp (qAm.apart aD.o aA.o (by decide)) hk) (a2 (Kd.S_mono (Kd.S_keep (qAm.apartS aD.o aC.o (by decide)) hk (fun _ h => h.2)) (fun _ h => h.1)) (a2 (Kd.R_kp (qAm.apart aD.o aI.o (by decide)) hk) (a2 (qAh.blk hk aE.o aQ.o (by simp)) (a2 (qAh.blk hk aG.o aT.o (by simp)) (a2 (hb) (am (hi))))))); clear aA aC aI aE aG HB aD; obtain ⟨aA, aC, aI, aE, aG, HB, aD⟩ := n_; obtain ⟨fB, fC, fD, fE⟩ := c4_ gY aG.o; obtain ⟨cJ, cR, el⟩ := Kd.R_slice aA.o; subst el; obtain ⟨cK, cS, em⟩ := Kd.S_slice aC.o; subst em; obtain ⟨cL, cT, en⟩ := Kd.R_slice aI.o; subst en) | ((with_reducible refine qAi (f := 13) rfl ?_); refine gL 116 Tryz.func13 #[.agg #[.string aR, .slice cJ aH.length cR, .slice cK aJ.length cS, .slice cL aK.length cT]] ?_; (with_reducible refine (qBg.calls aR _ _ aH _ _ aJ _ _ aK bT bo _ ?side1 ?side2 ?side3 ?side4 ?side5 ?side6 fu.o).mono ?_); (case side1 => exact (Kd.R_reads' aA.o).2.2); (case side2 => exact (Kd.R_reads' aA.o).2.1); (case side3 => exact (Kd.S_reads' aC.o).2.2); (case side4 => exact (Kd.S_reads' aC.o).2.1); (case side5 => exact (Kd.R_reads' aI.o).2.2); (case side6 => exact (Kd.R_reads' aI.o).2.1); rintro e bI ⟨fb, rfl, cU, hb⟩; refine ⟨_, rfl, ?_⟩; have n_ := a2 (Kd.R_below aA.o hb) (a2 (Kd.S_below aC.o hb) (a2 (Kd.R_below aI.o hb) (a2 (Kd.R_lower cU (qAf HB.o)) (a2 (qAk aE.o hb) (a2 (qAk aG.o hb) (a2 (qAm.below aD.o hb) (am (qAe HB.o hb)))))))); clear aA aC aI aE aG aD HB; obtain ⟨aA, aC, aI, az, aE, aG, aD, HB⟩ := n_; obtain ⟨eM, ed, eo⟩ := Kd.R_slice az.o; subst eo) | (go_at_call 65; (with_reducible refine (qAy.calls bE _ _ l0 _ _ bT false _ ?side1 ?side2 ?side3 ?side4 g5.o).mono ?_); (case side1 => exact (Kd.C_below fy.o HB.o)); (case side2 => exact fx.o); (case side3 => exact (Kd.R_reads' az.o).2.2); (case side4 => exact (Kd.R_reads' az.o).2.1); rintro e w' ⟨rfl, ⟨nd, rfl⟩⟩; (try (rw [drewN_self bI]; generalize hq_ : World.drewN bI _ = bI; have n0_ : qAa (Kd.R (Kd.int .u8) 5 bI w.heap.size (fun _ => True) (.slice eM bT.length ed) bT) := ⟨by rw [← hq_]; exact (by (with_reducible repeat (apply Kd.R_drewN)); exact az.o)⟩; have n1_ : qAa (Kd.R k85 85 bI w.heap.size (fun _ => True) (.slice cJ aH.length cR) aH) := ⟨by rw [← hq_]; exact (by (with_reducible repeat (apply Kd.R_drewN)); exact aA.o)⟩; have n2_ : qAa (Kd.S k92 92 bI w.heap.size (fun _ => True) (.slice cK aJ.length cS) aJ) := ⟨by rw [← hq_]; exact (by (with_reducible repeat (apply Kd.S_drewN)); exact aC.o)⟩; have n3_ : qAa (Kd.R k104 104 bI w.heap.size (fun _ => True) (.slice cL aK.length cT) aK) := ⟨by rw [← hq_]; exact (by (with_reducible repeat (apply Kd.R_drewN)); exact aI.o)⟩; have n4_ : qAa (bI.heap[aX]? = some (.cells #[.string ⟨#[]⟩, .slice none 0 0, .slice none 0 0, .slice none 0 0] 33 (0, 0))) := ⟨by rw [← hq_]; exact (by (with_reducible repeat (refine qBr ?_ _)); exact aE.o)⟩; have n5_ : qAa (bI.heap[aY]? = some (.cells #[.string aR, .slice cJ aH.length cR, .slice cK aJ.length cS, .slice cL aK.length cT] 33 (0, 0))) := ⟨by rw [← hq_]; exact (by (with_reducible repeat (refine qBr ?_ _)); exact aG.o)⟩; have n6_ : qAa (qAm w bI aW aN cE cF) := ⟨by rw [← hq_]; exact (by repeat (with_reducible first | exact aD.o | apply qAm.drewN))⟩; have n7_ : qAa (Below w.heap.size w bI) := ⟨by rw [← hq_]; exact (by repeat (with_reducible first | exact HB.o | apply qAl))⟩; clear az aA aC aI aE aG aD HB hq_; have aE := n4_; have HB := n7_; clear n0_ n1_ n2_ n3_ n4_ n5_ n6_ n7_)); obtain ⟨fF, fG, fH, fI⟩ := c4_ bI aE.o; obtain ⟨fZ, f0, f1, f2⟩ := z4_ aE.o))
                 refine bodyPost_ret (qDg rfl _ _ aX 33 #[.string ⟨#[]⟩, .slice none 0 0, .slice none 0 0, .slice none 0 0] (0, 0) _ rfl (by refine qA5 (cs := #[.string ⟨#[]⟩, .slice none 0 0, .slice none 0 0, .slice none 0 0]) ?_ 3 _ rfl; refine qA5 (cs := #[.string ⟨#[]⟩, .slice none 0 0, .slice none 0 0, .slice none 0 0]) ?_ 2 _ rfl; refine qA5 (cs := #[.string ⟨#[]⟩, .slice none 0 0, .slice none 0 0, .slice none 0 0]) ?_ 1 _ rfl; refine qA5 (cs := #[.string ⟨#[]⟩, .slice none 0 0, .slice none 0 0, .slice none 0 0]) ?_ 0 _ rfl; exact aE.o) Tryz.underlying33 rfl (by kernel_rfl)) rfl ?_
                 exact ⟨_, _, _, by rfl, by (exact Kd.R_nil _ _ _ _ _), by (exact Kd.S_nil _ _ _ _ _), by (exact Kd.R_nil _ _ _ _ _), by repeat (with_reducible first | exact HB.o | refine qA1 ?_ bV.o)⟩
                subst fn
                replace H : (some (aR, aH, aJ, aK, 0)) = some (r1, r2, r3, r4, r5) := by rw [if_pos rfl] at H; exact H
                simp only [Option.some.injEq, Prod.mk.injEq] at H
                obtain ⟨rfl, rfl, rfl, rfl, rfl⟩ := H
                go_wp2_with (first | ((with_reducible refine qAi (f := 64) rfl ?_); refine gL 111 Tryz.func64 #[.pointer (some ⟨aW, 0, none⟩)] ?_; (with_reducible refine (qBm.calls aW aN a5 a6 b8 cE cF w _ ?side1 ?side2 fd.o).mono ?_); (case side1 => exact aD.o); (case side2 => exact HB.o); rintro e hH ⟨rfl, hi, hb, hk⟩; refine ⟨_, rfl, ?_⟩; have n_ := a2 (Kd.R_kp (qAm.apart aD.o aA.o (by decide)) hk) (a2 (Kd.S_mono (Kd.S_keep (qAm.apartS aD.o aC.o (by decide)) hk (fun _ h => h.2)) (fun _ h => h.1)) (a2 (Kd.R_kp (qAm.apart aD.o aI.o (by decide)) hk) (a2 (qAh.blk hk aE.o aQ.o (by simp)) (a2 (qAh.blk hk aG.o aT.o (by simp)) (a2 (hb) (am (hi))))))); clear aA aC aI aE aG HB aD; obtain ⟨aA, aC, aI, aE, aG, HB, aD⟩ := n_; obtain ⟨fo, fp, fq, fr⟩ := c4_ hH aG.o; obtain ⟨bW, bX, gJ⟩ := Kd.R_slice aA.o; subst gJ; obtain ⟨b2, b5, gK⟩ := Kd.S_slice aC.o; subst gK; obtain ⟨ba, bb, gM⟩ := Kd.R_slice aI.o; subst gM) | ((with_reducible refine qAi (f := 13) rfl ?_); refine gL 116 Tryz.func13 #[.agg #[.string aR, .slice bW aH.length bX, .slice b2 aJ.length b5, .slice ba aK.length bb]] ?_; (with_reducible refine (qBg.calls aR _ _ aH _ _ aJ _ _ aK bT bo _ ?side1 ?side2 ?side3 ?side4 ?side5 ?side6 fu.o).mono ?_); (case side1 => exact (Kd.R_reads' aA.o).2.2); (case side2 => exact (Kd.R_reads' aA.o).2.1); (case side3 => exact (Kd.S_reads' aC.o).2.2); (case side4 => exact (Kd.S_reads' aC.o).2.1); (case side5 => exact (Kd.R_reads' aI.o).2.2); (case side6 => exact (Kd.R_reads' aI.o).2.1); rintro e cG ⟨fb, rfl, cU, hb⟩; refine ⟨_, rfl, ?_⟩; have n_ := a2 (Kd.R_below aA.o hb) (a2 (Kd.S_below aC.o hb) (a2 (Kd.R_below aI.o hb) (a2 (Kd.R_lower cU (qAf HB.o)) (a2 (qAk aE.o hb) (a2 (qAk aG.o hb) (a2 (qAm.below aD.o hb) (am (qAe HB.o hb)))))))); clear aA aC aI aE aG aD HB; obtain ⟨aA, aC, aI, az, aE, aG, aD, HB⟩ := n_; obtain ⟨fw, gB, gN⟩ := Kd.R_slice az.o; subst gN) | (go_at_call 65; (with_reducible refine (qAy.calls bE _ _ l0 _ _ bT true _ ?side1 ?side2 ?side3 ?side4 g5.o).mono ?_); (case side1 => exact (Kd.C_below fy.o HB.o)); (case side2 => exact fx.o); (case side3 => exact (Kd.R_reads' az.o).2.2); (case side4 => exact (Kd.R_reads' az.o).2.1); rintro e w' ⟨rfl, ⟨nd, rfl⟩⟩; (try (rw [drewN_self cG]; generalize hq_ : World.drewN cG _ = cG; have n0_ : qAa (Kd.R (Kd.int .u8) 5 cG w.heap.size (fun _ => True) (.slice fw bT.length gB) bT) := ⟨by rw [← hq_]; exact (by (with_reducible repeat (apply Kd.R_drewN)); exact az.o)⟩; have n1_ : qAa (Kd.R k85 85 cG w.heap.size (fun _ => True) (.slice bW aH.length bX) aH) := ⟨by rw [← hq_]; exact (by (with_reducible repeat (apply Kd.R_drewN)); exact aA.o)⟩; have n2_ : qAa (Kd.S k92 92 cG w.heap.size (fun _ => True) (.slice b2 aJ.length b5) aJ) := ⟨by rw [← hq_]; exact (by (with_reducible repeat (apply Kd.S_drewN)); exact aC.o)⟩; have n3_ : qAa (Kd.R k104 104 cG w.heap.size (fun _ => True) (.slice ba aK.length bb) aK) := ⟨by rw [← hq_]; exact (by (with_reducible repeat (apply Kd.R_drewN)); exact aI.o)⟩; have n4_ : qAa (cG.heap[aX]? = some (.cells #[.string ⟨#[]⟩, .slice none 0 0, .slice none 0 0, .slice none 0 0] 33 (0, 0))) := ⟨by rw [← hq_]; exact (by (with_reducible repeat (refine qBr ?_ _)); exact aE.o)⟩; have n5_ : qAa (cG.heap[aY]? = some (.cells #[.string aR, .slice bW aH.length bX, .slice b2 aJ.length b5, .slice ba aK.length bb] 33 (0, 0))) := ⟨by rw [← hq_]; exact (by (with_reducible repeat (refine qBr ?_ _)); exact aG.o)⟩; have n6_ : qAa (qAm w cG aW aN cE cF) := ⟨by rw [← hq_]; exact (by repeat (with_reducible first | exact aD.o | apply qAm.drewN))⟩; have n7_ : qAa (Below w.heap.size w cG) := ⟨by rw [← hq_]; exact (by repeat (with_reducible first | exact HB.o | apply qAl))⟩; clear az aA aC aI aE aG aD HB hq_; have aA := n1_; have aC := n2_; have aI := n3_; have aE := n4_; have aG := n5_; have HB := n7_; clear n0_ n1_ n2_ n3_ n4_ n5_ n6_ n7_)); obtain ⟨et, eu, ev, ew⟩ := c4_ cG aG.o; obtain ⟨ex, ey, ez, fA⟩ := c4_ cG aE.o; obtain ⟨fV, fW, fX, fY⟩ := z4_ aE.o))
                refine bodyPost_ret (qDg rfl _ _ aX 33 #[.string aR, .slice bW aH.length bX, .slice b2 aJ.length b5, .slice ba aK.length bb] (0, 0) _ rfl (by refine qA5 (cs := #[.string aR, .slice bW aH.length bX, .slice b2 aJ.length b5, .slice none 0 0]) ?_ 3 _ rfl; refine qA5 (cs := #[.string aR, .slice bW aH.length bX, .slice none 0 0, .slice none 0 0]) ?_ 2 _ rfl; refine qA5 (cs := #[.string aR, .slice none 0 0, .slice none 0 0, .slice none 0 0]) ?_ 1 _ rfl; refine qA5 (cs := #[.string ⟨#[]⟩, .slice none 0 0, .slice none 0 0, .slice none 0 0]) ?_ 0 _ rfl; exact aE.o) Tryz.underlying33 rfl (by kernel_rfl)) rfl ?_
                exact ⟨_, _, _, by rfl, by exact Kd.R_mono (Kd.R_far (p := ⟨aX, 3, none⟩) (Kd.R_far (p := ⟨aX, 2, none⟩) (Kd.R_far (p := ⟨aX, 1, none⟩) (Kd.R_far (p := ⟨aX, 0, none⟩) (Kd.R_types aA.o aE.o (by decide)) (fun _ hk => hk.2) (.string aR)) (fun _ hk => hk.2) (.slice bW aH.length bX)) (fun _ hk => hk.2) (.slice b2 aJ.length b5)) (fun _ hk => hk.2) (.slice ba aK.length bb)) (fun _ hk => trivial), by exact Kd.S_mono (Kd.S_far (p := ⟨aX, 3, none⟩) (Kd.S_far (p := ⟨aX, 2, none⟩) (Kd.S_far (p := ⟨aX, 1, none⟩) (Kd.S_far (p := ⟨aX, 0, none⟩) (Kd.S_types aC.o aE.o (by decide)) (fun _ hk => hk.2) (.string aR)) (fun _ hk => hk.2) (.slice bW aH.length bX)) (fun _ hk => hk.2) (.slice b2 aJ.length b5)) (fun _ hk => hk.2) (.slice ba aK.length bb)) (fun _ hk => trivial), by exact Kd.R_mono (Kd.R_far (p := ⟨aX, 3, none⟩) (Kd.R_far (p := ⟨aX, 2, none⟩) (Kd.R_far (p := ⟨aX, 1, none⟩) (Kd.R_far (p := ⟨aX, 0, none⟩) (Kd.R_types aI.o aE.o (by decide)) (fun _ hk => hk.2) (.string aR)) (fun _ hk => hk.2) (.slice bW aH.length bX)) (fun _ hk => hk.2) (.slice b2 aJ.length b5)) (fun _ hk => hk.2) (.slice ba aK.length bb)) (fun _ hk => trivial), by repeat (with_reducible first | exact HB.o | refine qA1 ?_ bV.o)⟩
end Q
end
section
namespace Q
open Go.RowKit PA PC PB
open DecLaw
def bytesP : Nat → List Int → Ps (List Int)
 | 0, acc => fun r => some (acc, r)
 | n + 1, acc => fun r => (byteP r).bind fun a => bytesP n (acc ++ [a.1]) a.2
def qEj : Ps (List Int) := fun r => (byteP r).bind fun a => bytesP a.1.toNat [] a.2
def decP (c : List Int) : List Enc.InsD × Int := decL (c.length + 1) [] c
def codeP' : Ps (List S144) := fun r => (rawP 16384 r).bind fun a => if (decP a.1).2 = 0 then some ((decP a.1).1.map toS, a.2) else none
abbrev Fn4 := List Int × Int × List Int × List S144
def fnP : Ps Fn4 := fun r => (qEj r).bind fun a => (byteP a.2).bind fun b => (qEj b.2).bind fun c => (codeP' c.2).bind fun d => some ((a.1, b.1, c.1, d.1), d.2)
def varP : Ps S85 := fun r => (textP 32 r).bind fun a => (byteP a.2).bind fun b => (numP 8 b.2).bind fun c => some (⟨a.1, ⟨b.1, c.1⟩⟩, c.2)
def nfnP : Ps S92 := fun r => (textP 32 r).bind fun a => (fnP a.2).bind fun b => some (⟨a.1, ⟨⟨b.1.1, b.1.2.1⟩, b.1.2.2.1, b.1.2.2.2⟩⟩, b.2)
def relP : Ps S104 := fun r => (numP 2 r).bind fun a => (numP 2 a.2).bind fun b => (byteP b.2).bind fun c => (textP 32 c.2).bind fun d => (textP 32 d.2).bind fun e => some (⟨a.1, b.1, c.1, d.1, e.1⟩, e.2)
abbrev Obj4 := ByteArray × List S85 × List S92 × List S104
def endO (o : Obj4) (r : List Int) : Option Obj4 := if r = [] then some o else none
def relsC : Nat → ByteArray → List S85 → List S92 → List S104 → List Int → Option Obj4
 | 0, m, vs, fs, acc, r => endO (m, vs, fs, acc) r
 | n + 1, m, vs, fs, acc, r => (relP r).bind fun a => relsC n m vs fs (acc ++ [a.1]) a.2
def relsI (m : ByteArray) (vs : List S85) (fs : List S92) (r : List Int) : Option Obj4 := (intP r).bind fun a => relsC a.1.toNat m vs fs [] a.2
def fnsC : Nat → ByteArray → List S85 → List S92 → List Int → Option Obj4
 | 0, m, vs, acc, r => relsI m vs acc r
 | n + 1, m, vs, acc, r => (nfnP r).bind fun a => fnsC n m vs (acc ++ [a.1]) a.2
def fnsI (m : ByteArray) (vs : List S85) (r : List Int) : Option Obj4 := (intP r).bind fun a => fnsC a.1.toNat m vs [] a.2
def varsC : Nat → ByteArray → List S85 → List Int → Option Obj4
 | 0, m, acc, r => fnsI m acc r
 | n + 1, m, acc, r => (varP r).bind fun a => varsC n m (acc ++ [a.1]) a.2
def objC (r : List Int) : Option Obj4 := (textP 32 r).bind fun a => (intP a.2).bind fun b => varsC b.1.toNat a.1 [] b.2
structure Fin {σ γ : Type} (tail : σ → Nat → Option γ) (err : γ) (s : Option σ) (R : γ) : Prop where
 yes : ∀ o, s = some o → Ev (tail o) R
 no : s = none → R = err
theorem Rd.fin {α σ γ : Type} {f0 : List Int} {g : Nat → Option (α × Int × Int)} {s : Option (α × List Int)} {h : Nat → α × Int × Int → Option γ} {t : α × List Int → Option σ} {tail : σ → Nat → Option γ} {err R : γ} (hg : Rd f0 g s) (hF : Fin tail err (s.bind t) R)
  (good : ∀ x p, Pl f0 p → s = some (x, f0.drop p.toNat) → Fin tail err (t (x, f0.drop p.toNat)) R → Ev (fun k => h k (x, p, 0)) R) (bad : ∀ x p e, e ≠ 0 → R = err → Ev (fun k => h k (x, p, e)) R) : Ev (fun k => (g k).bind (h k)) R := by
 obtain ⟨v, p, e, hv, hs⟩ := hg
 cases s with
 | none => exact Ev.bind hv (bad v p e hs (hF.no rfl))
 | some a =>
  obtain ⟨x, r⟩ := a
  obtain ⟨rfl, rfl, h0, h1, rfl⟩ := hs
  exact Ev.bind hv (good v p ⟨h0, h1⟩ rfl ⟨fun o ho => hF.yes o ho, fun hn => hF.no hn⟩)
theorem qCH {r : List Int} (hb : qBJ r) {a : Int × List Int} (h : byteP r = some a) : 0 ≤ a.1 ∧ a.1 < 256 := by
 cases r with
 | nil => cases h
 | cons x r => obtain rfl := Option.some.inj h; exact hb x List.mem_cons_self
theorem qDk {x : Int} (h : 0 ≤ x ∧ x < 256) : wrap64 x = x := by unfold wrap64; omega
section
variable (f0 : List Int) (hb : qBJ f0) (hl : f0.length ≤ 4294967296)
theorem kinds_bad (n : Int) (hn : 0 ≤ n ∧ n < 256) (p e : Int) (he : e ≠ 0) : ∀ (d : Nat) (i : Int) (acc : List Int), 0 ≤ i → n - i = d → acc.length + d ≤ 512 → ∃ l, Ev (fun k => qAE.l0 k acc n i f0 p e) (l, p, e) := by
 intro d
 induction d with
 | zero =>
  intro i acc h0 hd ha
  refine ⟨acc, Ev.step (f := fun _ => some (acc, p, e)) (fun k => ?_) (Ev.now _)⟩
  simp only [qAE.l0]; rw [if_neg (by omega)]
 | succ d ih =>
  intro i acc h0 hd ha
  obtain ⟨l, hl⟩ := ih (i + 1) (acc ++ [wrap64 0]) (by omega) (by omega) (by simp; omega)
  refine ⟨l, Ev.step (fun k => ?_) hl⟩
  simp only [qAE.l0]
  rw [if_pos (by omega), show qAr.f f0 p e = some (0, p, e) from by simp [qAr.f, he]]
  simp only [Option.bind_some]
  rw [if_pos (by omega), show wrap64 (i + 1) = i + 1 from by unfold wrap64; omega]
theorem kinds_loop (hb : qBJ f0) (n : Int) (hn : 0 ≤ n ∧ n < 256) : ∀ (d : Nat) (i : Int) (acc : List Int) (p : Int), 0 ≤ i → n - i = d → acc.length + d ≤ 512 → Pl f0 p → Rd f0 (fun k => qAE.l0 k acc n i f0 p 0) (bytesP d acc (f0.drop p.toNat)) := by
 intro d
 induction d with
 | zero =>
  intro i acc p h0 hd ha hp
  refine Rd.ok (Ev.step (f := fun _ => some (acc, p, 0)) (fun k => ?_) (Ev.now _)) hp
  simp only [qAE.l0]; rw [if_neg (by omega)]
 | succ d ih =>
  intro i acc p h0 hd ha hp
  have hw : wrap64 (i + 1) = i + 1 := by unfold wrap64; omega
  have hstep : Rd f0 (fun k => (qAr.f f0 p 0).bind fun b => (if acc.length < 17592186044416 then qAE.l0 k (acc ++ [wrap64 b.1]) n (wrap64 (i + 1)) f0 b.2.1 b.2.2 else none)) ((byteP (f0.drop p.toNat)).bind fun a => bytesP d (acc ++ [a.1]) a.2) := by
   refine Rd.bind (qD4 f0 hb p hp) (h := fun k b => (if acc.length < 17592186044416 then qAE.l0 k (acc ++ [wrap64 b.1]) n (wrap64 (i + 1)) f0 b.2.1 b.2.2 else none)) (fun x p2 hp2 hs => ?_) (fun x p2 e he => ?_)
   ·have hx := qCH (qCe hb _) hs
    simp only [show acc.length < 17592186044416 from by omega, if_true, hw, qDk hx]
    exact ih (i + 1) _ p2 (by omega) (by omega) (by simp; omega) hp2
   simp only [show acc.length < 17592186044416 from by omega, if_true, hw]
   obtain ⟨l, hl⟩ := kinds_bad f0 n hn p2 e he d (i + 1) (acc ++ [wrap64 x]) (by omega) (by omega) (by simp; omega)
   exact Rd.no hl he
  obtain ⟨v, p', e', hev, hs⟩ := hstep
  refine ⟨v, p', e', Ev.step (fun k => ?_) hev, hs⟩
  simp only [qAE.l0]
  rw [if_pos (by omega)]
theorem kinds_good (hb : qBJ f0) (p : Int) (hp : Pl f0 p) : Rd f0 (fun k => qAE.f k f0 p 0) (qEj (f0.drop p.toNat)) := by
 cases hs : byteP (f0.drop p.toNat) with
 | none =>
  have hlt : ¬ p < f0.length := by
   intro hlt
   have hc : (f0.drop p.toNat).length ≠ 0 := by rw [List.length_drop]; have := hp.1; omega
   cases hd : f0.drop p.toNat with
   | nil => rw [hd] at hc; exact hc rfl
   | cons x r => rw [hd] at hs; cases hs
  have e : qEj (f0.drop p.toNat) = none := by unfold qEj; rw [hs]; rfl
  rw [e]
  refine Rd.no (x := []) (p := p) (e := 40) (Ev.congr (f := fun k => qAE.l0 k [] 0 0 f0 p 40) (fun k => ?_) (Ev.step (f := fun _ => some ([], p, 40)) (fun k => ?_) (Ev.now _))) (by decide)
  ·unfold qAE.f
   rw [show qAr.f f0 p 0 = some (0, p, 40) from by simp [qAr.f, hlt]]
   simp only [Option.bind_some]
   rw [show wrap64 0 = 0 from by unfold wrap64; omega]
  simp only [qAE.l0]; rw [if_neg (by omega)]
 | some a =>
  obtain ⟨x, r⟩ := a
  have hx := qCH (qCe hb _) hs
  obtain ⟨v, q, e, hev, hq⟩ := qD4 f0 hb p hp
  rw [hs] at hq
  obtain ⟨rfl, rfl, q0, q1, rfl⟩ := hq
  have e : qEj (f0.drop p.toNat) = bytesP v.toNat [] (f0.drop q.toNat) := by unfold qEj; rw [hs]; rfl
  rw [e]
  obtain ⟨v2, p2, e2, h2, hs2⟩ := kinds_loop f0 hb v hx v.toNat 0 [] q (by omega) (by have := hx.1; simp only at this; omega) (by have := hx.2; simp only at this; simp; omega) ⟨q0, q1⟩
  refine ⟨v2, p2, e2, ?_, hs2⟩
  refine Ev.congr (f := fun k => (qAr.f f0 p 0).bind fun b => qAE.l0 k [] (wrap64 b.1) 0 f0 b.2.1 b.2.2) (fun k => rfl) (Ev.bind hev ?_)
  simp only [qDk hx]
  exact h2
theorem kinds_badF (p e : Int) (he : e ≠ 0) : Ev (fun k => qAE.f k f0 p e) ([], p, e) := by
 refine Ev.congr (f := fun k => qAE.l0 k [] 0 0 f0 p e) (fun k => ?_) (Ev.step (f := fun _ => some ([], p, e)) (fun k => ?_) (Ev.now _))
 ·unfold qAE.f
  rw [show qAr.f f0 p e = some (0, p, e) from by simp [qAr.f, he]]
  simp only [Option.bind_some]
  rw [show wrap64 0 = 0 from by unfold wrap64; omega]
 simp only [qAE.l0]; rw [if_neg (by omega)]
def RdF (g : Nat → Option (List Int × Int × List Int × List S144 × Int × Int)) (s : Option (Fn4 × List Int)) : Prop :=
 ∃ a b c d p e, Ev g (a, b, c, d, p, e) ∧ match s with
  | some (x, r) => x = (a, b, c, d) ∧ e = 0 ∧ 0 ≤ p ∧ p ≤ f0.length ∧ r = f0.drop p.toNat
  | none => e ≠ 0
theorem qD5 (c : List Int) (hb : qBJ c) : qBx.f c = some ((decP c).1.map toS, (decP c).2) := by
 unfold qBx.f
 rw [if_pos (List.all_eq_true.2 fun x hx => decide_eq_true (hb x hx))]; rfl
theorem rawP_bytes {most : Int} {r : List Int} (hb : qBJ r) {a : List Int × List Int} (h : rawP most r = some a) : qBJ a.1 := by
 unfold rawP at h
 cases hi : intP r with
 | none => rw [hi] at h; cases h
 | some b =>
  rw [hi] at h
  simp only [Option.bind_some] at h
  split at h
  ·obtain rfl := Option.some.inj h
   refine qDS ?_ _
   unfold intP at hi
   split at hi
   ·split at hi
    ·obtain rfl := Option.some.inj hi
     exact qCe hb 4
    cases hi
   cases hi
  cases h
theorem raw_empty (most p : Int) (v : List Int) (q e : Int) (h : qAF.f f0 p 0 most = some (v, q, e)) (he : e ≠ 0) : v = [] := by
 unfold qAF.f at h
 replace h := Option.some.inj h
 rw [if_neg (by simp)] at h
 (repeat' split at h) <;> (simp only [Prod.mk.injEq] at h; first | exact h.1.symm | exact absurd h.2.2.symm he)
theorem readFn_bad (p e : Int) (he : e ≠ 0) : ∃ a b c d, Ev (fun k => qBC.f k f0 p e) (a, b, c, d, p, e) := by
 have h1 := kinds_badF f0 p e he
 refine ⟨[], wrap64 0, [], (decP []).1.map toS, ?_⟩
 refine Ev.congr (f := fun k => (qAE.f k f0 p e).bind fun b1 => ((qAr.f f0 b1.2.1 b1.2.2).bind fun b2 => ((qAE.f k f0 b2.2.1 b2.2.2).bind fun b3 => ((qAF.f f0 b3.2.1 b3.2.2 16384).bind fun b4 => ((qBx.f b4.1).bind fun b5 => (if b5.2 = 0 then (some (b1.1, wrap64 (b2.1), b3.1, b5.1, b4.2.1, b4.2.2)) else ((qAU.f f0 b4.2.1 b4.2.2 52).bind fun b6 => (some (b1.1, wrap64 (b2.1), b3.1, b5.1, b6.1, b6.2))))))))) (fun k => rfl) (Ev.bind h1 ?_)
 simp only [show qAr.f f0 p e = some (0, p, e) from by simp [qAr.f, he], Option.bind_some]
 refine Ev.bind h1 ?_
 have hr : qAF.f f0 p e 16384 = some ([], p, e) := by unfold qAF.f; rw [if_pos he]
 simp only [hr, Option.bind_some, qD5 [] (by intro x hx; cases hx)]
 have hz : (decP []).2 = 0 := rfl
 simp only [hz, if_true]
 exact Ev.now _
theorem readFn_good (hb : qBJ f0) (p : Int) (hp : Pl f0 p) : RdF f0 (fun k => qBC.f k f0 p 0) (fnP (f0.drop p.toNat)) := by
 have hun : ∀ k, qBC.f k f0 p 0 = (qAE.f k f0 p 0).bind fun b1 => ((qAr.f f0 b1.2.1 b1.2.2).bind fun b2 => ((qAE.f k f0 b2.2.1 b2.2.2).bind fun b3 => ((qAF.f f0 b3.2.1 b3.2.2 16384).bind fun b4 => ((qBx.f b4.1).bind fun b5 => (if b5.2 = 0 then (some (b1.1, wrap64 (b2.1), b3.1, b5.1, b4.2.1, b4.2.2)) else ((qAU.f f0 b4.2.1 b4.2.2 52).bind fun b6 => (some (b1.1, wrap64 (b2.1), b3.1, b5.1, b6.1, b6.2)))))))) := fun k => rfl
 have tail4 : ∀ (q1 : List Int) (q2 : Int) (q3 : List Int) (p e : Int), e ≠ 0 → Ev (fun _ => (qAF.f f0 p e 16384).bind fun b4 => ((qBx.f b4.1).bind fun b5 => (if b5.2 = 0 then (some (q1, q2, q3, b5.1, b4.2.1, b4.2.2)) else ((qAU.f f0 b4.2.1 b4.2.2 52).bind fun b6 => (some (q1, q2, q3, b5.1, b6.1, b6.2)))))) (q1, q2, q3, (decP []).1.map toS, p, e) := fun q1 q2 q3 p e he => by
  have hr : qAF.f f0 p e 16384 = some ([], p, e) := by unfold qAF.f; rw [if_pos he]
  simp only [hr, Option.bind_some, qD5 [] (by intro x hx; cases hx)]
  have hz : (decP []).2 = 0 := rfl
  simp only [hz, if_true]
  exact Ev.now _
 have tail3 : ∀ (q1 : List Int) (q2 : Int) (p e : Int), e ≠ 0 → ∃ l, Ev (fun k => (qAE.f k f0 p e).bind fun b3 => ((qAF.f f0 b3.2.1 b3.2.2 16384).bind fun b4 => ((qBx.f b4.1).bind fun b5 => (if b5.2 = 0 then (some (q1, q2, b3.1, b5.1, b4.2.1, b4.2.2)) else ((qAU.f f0 b4.2.1 b4.2.2 52).bind fun b6 => (some (q1, q2, b3.1, b5.1, b6.1, b6.2))))))) (q1, q2, [], l, p, e) := fun q1 q2 p e he =>
  ⟨_, Ev.bind (kinds_badF f0 p e he) (tail4 q1 q2 [] p e he)⟩
 obtain ⟨v1, p1, e1, h1, s1⟩ := kinds_good f0 hb p hp
 unfold fnP
 cases hk1 : qEj (f0.drop p.toNat) with
 | none =>
  rw [hk1] at s1
  obtain ⟨l, hl⟩ := tail3 v1 (wrap64 0) p1 e1 s1
  refine ⟨v1, wrap64 0, [], l, p1, e1, Ev.congr hun (Ev.bind h1 ?_), s1⟩
  simp only [show qAr.f f0 p1 e1 = some (0, p1, e1) from by simp [qAr.f, show e1 ≠ 0 from s1], Option.bind_some]
  exact hl
 | some a1 =>
  obtain ⟨x1, r1⟩ := a1
  rw [hk1] at s1
  obtain ⟨rfl, rfl, g0, g1, rfl⟩ := s1
  simp only [Option.bind_some]
  obtain ⟨v2, p2, e2, h2, s2⟩ := qD4 f0 hb p1 ⟨g0, g1⟩
  cases hk2 : byteP (f0.drop p1.toNat) with
  | none =>
   rw [hk2] at s2
   obtain ⟨l, hl⟩ := tail3 v1 (wrap64 v2) p2 e2 s2
   exact ⟨v1, wrap64 v2, [], l, p2, e2, Ev.congr hun (Ev.bind h1 (Ev.bind h2 hl)), s2⟩
  | some a2 =>
   obtain ⟨x2, r2⟩ := a2
   have hx2 := qCH (qCe hb _) hk2
   rw [hk2] at s2
   obtain ⟨rfl, rfl, g0, g1, rfl⟩ := s2
   simp only [Option.bind_some]
   obtain ⟨v3, p3, e3, h3, s3⟩ := kinds_good f0 hb p2 ⟨g0, g1⟩
   cases hk3 : qEj (f0.drop p2.toNat) with
   | none =>
    rw [hk3] at s3
    exact ⟨v1, wrap64 v2, v3, _, p3, e3, Ev.congr hun (Ev.bind h1 (Ev.bind h2 (Ev.bind h3 (tail4 _ _ _ p3 e3 s3)))), s3⟩
   | some a3 =>
    obtain ⟨x3, r3⟩ := a3
    rw [hk3] at s3
    obtain ⟨rfl, rfl, g0, g1, rfl⟩ := s3
    simp only [Option.bind_some]
    obtain ⟨v4, p4, e4, h4, s4⟩ := raw_good f0 hb 16384 (by decide) p3 ⟨g0, g1⟩
    cases hk4 : rawP 16384 (f0.drop p3.toNat) with
    | none =>
     rw [hk4] at s4
     have he : codeP' (f0.drop p3.toNat) = none := by unfold codeP'; rw [hk4]; rfl
     rw [he]
     have hv4 : v4 = [] := by
      obtain ⟨k, hk⟩ := h4.rounds
      exact raw_empty f0 16384 p3 _ _ _ hk s4
     subst hv4
     by_cases hz : (decP []).2 = 0
     rotate_left
     ·exact absurd rfl hz
     refine ⟨v1, wrap64 v2, v3, (decP []).1.map toS, p4, e4, Ev.congr hun (Ev.bind h1 (Ev.bind h2 (Ev.bind h3 (Ev.bind h4 ?_)))), s4⟩
     simp only [qD5 [] (by intro x hx; cases hx), Option.bind_some, hz, if_true]
     exact Ev.now _
    | some a4 =>
     obtain ⟨x4, r4⟩ := a4
     have hb4 := rawP_bytes (qCe hb _) hk4
     rw [hk4] at s4
     obtain ⟨rfl, rfl, g0, g1, rfl⟩ := s4
     have he : codeP' (f0.drop p3.toNat) = (if (decP v4).2 = 0 then some ((decP v4).1.map toS, f0.drop p4.toNat) else none) := by unfold codeP'; rw [hk4]; rfl
     rw [he]
     by_cases hz : (decP v4).2 = 0
     ·rw [if_pos hz]
      refine ⟨v1, v2, v3, (decP v4).1.map toS, p4, 0, Ev.congr hun (Ev.bind h1 (Ev.bind h2 (Ev.bind h3 (Ev.bind h4 ?_)))), rfl, rfl, g0, g1, rfl⟩
      simp only [qD5 v4 hb4, Option.bind_some, hz, if_true, qDk hx2]
      exact Ev.now _
     rw [if_neg hz]
     refine ⟨v1, v2, v3, (decP v4).1.map toS, p4, 52, Ev.congr hun (Ev.bind h1 (Ev.bind h2 (Ev.bind h3 (Ev.bind h4 ?_)))), (by show (52 : Int) ≠ 0; decide)⟩
     simp only [qD5 v4 hb4, Option.bind_some, hz, if_false, qDk hx2, qAU.f, if_true]
     exact Ev.now _
theorem qEX (p e : Int) (he : e ≠ 0) : qAr.f f0 p e = some (0, p, e) := by simp [qAr.f, he]
theorem short_err (p e : Int) (he : e ≠ 0) : qBe.f f0 p e = some (0, p, e) := by simp [qBe.f, he]
theorem long_err (p e : Int) (he : e ≠ 0) : qBn.f f0 p e = some (0, p, e) := by simp [qBn.f, he]
theorem int_err (p e : Int) (he : e ≠ 0) : qBa.f f0 p e = some (0, p, e) := by simp [qBa.f, he]
theorem raw_err (most p e : Int) (he : e ≠ 0) : qAF.f f0 p e most = some ([], p, e) := by unfold qAF.f; rw [if_pos he]
theorem qEu (most p e : Int) (he : e ≠ 0) : qAC.f f0 p e most = some (strOfNums [], p, e) := by unfold qAC.f; rw [raw_err f0 most p e he]; rfl
theorem done_err (p e : Int) (he : e ≠ 0) : qBm.f f0 p e = some (e, p, e) := by
 unfold qBm.f qB2.f qAO.f
 simp [he]
abbrev Res := ByteArray × List S85 × List S92 × List S104 × Int
def errP : Res := (⟨#[]⟩, [], [], [], 52)
def qEV (x0 : List Int) (o : Obj4) (k : Nat) : Option Res := (qBg.f o.1 o.2.1 o.2.2.1 o.2.2.2).bind fun b => (if b.2 = 0 then ((qAy.f k x0 b.1).bind fun t => (if t = true then some (o.1, o.2.1, o.2.2.1, o.2.2.2, 0) else some errP)) else some errP)
theorem j6_bad (x0 : List Int) (n p e : Int) (he : e ≠ 0) (m : ByteArray) (vs : List S85) (fs : List S92) (acc : List S104) : Ev (fun k => qAb.j6 k x0 n false f0 p e m vs fs acc) errP := by
 refine Ev.step (f := fun _ => some errP) (fun k => ?_) (Ev.now _)
 simp only [qAb.j6]
 rw [if_neg (by decide), done_err f0 p e he]
 simp only [Option.bind_some]
 rw [if_neg he]; rfl
theorem l3_bad (x0 : List Int) (n p e : Int) (he : e ≠ 0) (m : ByteArray) (vs : List S85) (fs : List S92) (acc : List S104) : Ev (fun k => qAb.l3 k x0 n f0 p e m vs fs acc) errP := by
 refine Ev.step (fun k => ?_) (j6_bad f0 x0 n p e he m vs fs acc)
 simp only [qAb.l3, qAO.f, Option.bind_some, beq_eq_false_iff_ne.mpr he, ite_self]
theorem j4_bad (x0 : List Int) (n p e : Int) (he : e ≠ 0) (m : ByteArray) (vs : List S85) (fs : List S92) : Ev (fun k => qAb.j4 k x0 n false f0 p e m vs fs) errP := by
 refine Ev.step (fun k => ?_) (l3_bad f0 x0 0 p e he m vs fs [])
 simp only [qAb.j4]
 rw [if_neg (by decide), int_err f0 p e he]; rfl
theorem l2_bad (x0 : List Int) (n p e : Int) (he : e ≠ 0) (m : ByteArray) (vs : List S85) (fs : List S92) : Ev (fun k => qAb.l2 k x0 n f0 p e m vs fs) errP := by
 refine Ev.step (fun k => ?_) (j4_bad f0 x0 n p e he m vs fs)
 simp only [qAb.l2, qAO.f, Option.bind_some, beq_eq_false_iff_ne.mpr he, ite_self]
theorem j2_bad (x0 : List Int) (n p e : Int) (he : e ≠ 0) (m : ByteArray) (vs : List S85) : Ev (fun k => qAb.j2 k x0 n false f0 p e m vs) errP := by
 refine Ev.step (fun k => ?_) (l2_bad f0 x0 0 p e he m vs [])
 simp only [qAb.j2]
 rw [if_neg (by decide), int_err f0 p e he]; rfl
theorem l1_bad (x0 : List Int) (n p e : Int) (he : e ≠ 0) (m : ByteArray) (vs : List S85) : Ev (fun k => qAb.l1 k x0 n f0 p e m vs) errP := by
 refine Ev.step (fun k => ?_) (j2_bad f0 x0 n p e he m vs)
 simp only [qAb.l1, qAO.f, Option.bind_some, beq_eq_false_iff_ne.mpr he, ite_self]
theorem done_end (p : Int) (hp : Pl f0 p) (h : f0.drop p.toNat = []) : qBm.f f0 p 0 = some (0, p, 0) := by
 have h1 := hp.1; have h2 := hp.2
 have h3 := congrArg List.length h
 rw [List.length_drop] at h3
 simp only [List.length_nil] at h3
 unfold qBm.f qB2.f qAO.f
 simp only [Option.bind_some, if_true]
 rw [if_neg (by omega)]
theorem done_more (p : Int) (hp : Pl f0 p) (h : f0.drop p.toNat ≠ []) : qBm.f f0 p 0 = some (41, p, 0) := by
 have h1 := hp.1; have h2 := hp.2
 have h3 : 0 < (f0.drop p.toNat).length := List.length_pos_iff.2 h
 rw [List.length_drop] at h3
 unfold qBm.f qB2.f qAO.f
 simp only [Option.bind_some, if_true]
 rw [if_pos (by omega)]
theorem l3_good (hb : qBJ f0) (x0 : List Int) (m : ByteArray) (vs : List S85) (fs : List S92) (R : Res) : ∀ (n : Nat) (p : Int) (acc : List S104), Pl f0 p → acc.length + n ≤ 2147483647 → Fin (qEV x0) errP (relsC n m vs fs acc (f0.drop p.toNat)) R →
  Ev (fun k => qAb.l3 k x0 (n : Int) f0 p 0 m vs fs acc) R := by
 intro n
 induction n with
 | zero =>
  intro p acc hp hn hF
  refine Ev.step (f := fun k => qAb.j6 k x0 0 false f0 p 0 m vs fs acc) (fun k => ?_) ?_
  ·simp only [qAb.l3]; rw [if_neg (by decide)]; rfl
  simp only [relsC, endO] at hF
  by_cases hr : f0.drop p.toNat = []
  ·rw [if_pos hr] at hF
   refine Ev.step (f := qEV x0 (m, vs, fs, acc)) (fun k => ?_) (hF.yes _ rfl)
   simp only [qAb.j6]
   rw [if_neg (by decide), done_end f0 p hp hr]; rfl
  rw [if_neg hr] at hF
  rw [hF.no rfl]
  refine Ev.step (f := fun _ => some errP) (fun k => ?_) (Ev.now _)
  simp only [qAb.j6]
  rw [if_neg (by decide), done_more f0 p hp hr]; rfl
 | succ n ih =>
  intro p acc hp hn hF
  simp only [relsC, relP, Option.bind_assoc, Option.bind_some] at hF
  have hw : wrap64 (((n + 1 : Nat) : Int) - 1) = (n : Int) := by unfold wrap64; omega
  have hlen : acc.length < 2513169434916 := by omega
  refine Ev.step (f := fun k => qAb.j6 k x0 ((n + 1 : Nat) : Int) true f0 p 0 m vs fs acc) (fun k => ?_) (Ev.step (f := fun k => (qBe.f f0 p 0).bind fun b1 => ((qBe.f f0 b1.2.1 b1.2.2).bind fun b2 => ((qAr.f f0 b2.2.1 b2.2.2).bind fun b3 => ((qAC.f f0 b3.2.1 b3.2.2 32).bind fun b4 => ((qAC.f f0 b4.2.1 b4.2.2 32).bind fun b5 => qAb.l3 k x0 (n : Int) f0 b5.2.1 b5.2.2 m vs fs (acc ++ [⟨b1.1, b2.1, wrap64 b3.1, b4.1, b5.1⟩])))))) (fun k => ?_) ?_)
  ·simp only [qAb.l3, qAO.f, Option.bind_some]; rw [if_pos (by omega)]; rfl
  ·simp only [qAb.j6, if_true, hw]
   simp only [hlen, if_true]
  have bad : ∀ (x : List S104) (p e : Int), e ≠ 0 → R = errP → Ev (fun k => qAb.l3 k x0 (n : Int) f0 p e m vs fs x) R := fun x p e he hR => hR ▸ l3_bad f0 x0 n p e he m vs fs x
  refine Rd.fin (short_good f0 hb p hp) hF (fun x1 p1 hp1 hs1 hF1 => ?_) (fun x1 p1 e he hR => ?_)
  ·refine Rd.fin (short_good f0 hb p1 hp1) hF1 (fun x2 p2 hp2 hs2 hF2 => ?_) (fun x2 p2 e he hR => ?_)
   ·refine Rd.fin (qD4 f0 hb p2 hp2) hF2 (fun x3 p3 hp3 hs3 hF3 => ?_) (fun x3 p3 e he hR => ?_)
    ·refine Rd.fin (qDG f0 hb 32 (by decide) p3 hp3) hF3 (fun x4 p4 hp4 hs4 hF4 => ?_) (fun x4 p4 e he hR => ?_)
     ·refine Rd.fin (qDG f0 hb 32 (by decide) p4 hp4) hF4 (fun x5 p5 hp5 hs5 hF5 => ?_) (fun x5 p5 e he hR => ?_)
      ·simp only [qDk (qCH (qCe hb _) hs3)]
       exact ih p5 _ hp5 (by simp; omega) hF5
      exact bad _ _ _ he hR
     simp only [qEu f0 _ _ _ he, Option.bind_some]; exact bad _ _ _ he hR
    simp only [qEu f0 _ _ _ he, Option.bind_some]; exact bad _ _ _ he hR
   simp only [qEX f0 _ _ he, qEu f0 _ _ _ he, Option.bind_some]; exact bad _ _ _ he hR
  simp only [short_err f0 _ _ he, qEX f0 _ _ he, qEu f0 _ _ _ he, Option.bind_some]; exact bad _ _ _ he hR
theorem RdF.fin {σ γ : Type} {g : Nat → Option (List Int × Int × List Int × List S144 × Int × Int)} {s : Option (Fn4 × List Int)} {h : Nat → List Int × Int × List Int × List S144 × Int × Int → Option γ} {t : Fn4 × List Int → Option σ} {tail : σ → Nat → Option γ} {err R : γ} (hg : RdF f0 g s) (hF : Fin tail err (s.bind t) R)
  (good : ∀ a b c d p, Pl f0 p → s = some ((a, b, c, d), f0.drop p.toNat) → Fin tail err (t ((a, b, c, d), f0.drop p.toNat)) R → Ev (fun k => h k (a, b, c, d, p, 0)) R) (bad : ∀ a b c d p e, e ≠ 0 → R = err → Ev (fun k => h k (a, b, c, d, p, e)) R) : Ev (fun k => (g k).bind (h k)) R := by
 obtain ⟨a, b, c, d, p, e, hv, hs⟩ := hg
 cases s with
 | none => exact Ev.bind hv (bad a b c d p e hs (hF.no rfl))
 | some x =>
  obtain ⟨x, r⟩ := x
  obtain ⟨rfl, rfl, h0, h1, rfl⟩ := hs
  exact Ev.bind hv (good a b c d p ⟨h0, h1⟩ rfl ⟨fun o ho => hF.yes o ho, fun hn => hF.no hn⟩)
theorem l2_good (hb : qBJ f0) (x0 : List Int) (m : ByteArray) (vs : List S85) (R : Res) : ∀ (n : Nat) (p : Int) (acc : List S92), Pl f0 p → acc.length + n ≤ 2147483647 → Fin (qEV x0) errP (fnsC n m vs acc (f0.drop p.toNat)) R →
  Ev (fun k => qAb.l2 k x0 (n : Int) f0 p 0 m vs acc) R := by
 intro n
 induction n with
 | zero =>
  intro p acc hp hn hF
  refine Ev.step (f := fun k => qAb.j4 k x0 0 false f0 p 0 m vs acc) (fun k => ?_) (Ev.step (f := fun k => (qBa.f f0 p 0).bind fun b => qAb.l3 k x0 b.1 f0 b.2.1 b.2.2 m vs acc []) (fun k => ?_) ?_)
  ·simp only [qAb.l2]; rw [if_neg (by decide)]; rfl
  ·simp only [qAb.j4]; rw [if_neg (by decide)]
  simp only [fnsC, relsI] at hF
  refine Rd.fin (int_good f0 hb p hp) hF (fun x1 p1 hp1 hs1 hF1 => ?_) (fun x1 p1 e he hR => ?_)
  ·have hx := qE6 _ (qCe hb _) _ hs1
   obtain ⟨q, rfl⟩ := Int.eq_ofNat_of_zero_le hx.1
   exact l3_good f0 hb x0 m vs acc R q p1 [] hp1 (by have := hx.2; simp only at this; simp; omega) hF1
  exact hR ▸ l3_bad f0 x0 x1 p1 e he m vs acc []
 | succ n ih =>
  intro p acc hp hn hF
  simp only [fnsC, nfnP, Option.bind_assoc, Option.bind_some] at hF
  have hw : wrap64 (((n + 1 : Nat) : Int) - 1) = (n : Int) := by unfold wrap64; omega
  have hlen : acc.length < 1466015503701 := by omega
  refine Ev.step (f := fun k => qAb.j4 k x0 ((n + 1 : Nat) : Int) true f0 p 0 m vs acc) (fun k => ?_) (Ev.step (f := fun k => (qAC.f f0 p 0 32).bind fun b1 => ((qBC.f k f0 b1.2.1 b1.2.2).bind fun b2 => qAb.l2 k x0 (n : Int) f0 b2.2.2.2.2.1 b2.2.2.2.2.2 m vs (acc ++ [⟨b1.1, ⟨⟨b2.1, b2.2.1⟩, b2.2.2.1, b2.2.2.2.1⟩⟩]))) (fun k => ?_) ?_)
  ·simp only [qAb.l2, qAO.f, Option.bind_some]; rw [if_pos (by omega)]; rfl
  ·simp only [qAb.j4, if_true, hw]
   simp only [hlen, if_true]
  have bad : ∀ (x : List S92) (p e : Int), e ≠ 0 → R = errP → Ev (fun k => qAb.l2 k x0 (n : Int) f0 p e m vs x) R := fun x p e he hR => hR ▸ l2_bad f0 x0 n p e he m vs x
  refine Rd.fin (qDG f0 hb 32 (by decide) p hp) hF (fun x1 p1 hp1 hs1 hF1 => ?_) (fun x1 p1 e he hR => ?_)
  ·refine RdF.fin f0 (readFn_good f0 hb p1 hp1) hF1 (fun a b c d p2 hp2 hs2 hF2 => ?_) (fun a b c d p2 e he hR => ?_)
   ·exact ih p2 _ hp2 (by simp; omega) hF2
   exact bad _ _ _ he hR
  obtain ⟨a, b, c, d, hrf⟩ := readFn_bad f0 p1 e he
  exact Ev.bind hrf (bad _ _ _ he hR)
theorem l1_good (hb : qBJ f0) (x0 : List Int) (m : ByteArray) (R : Res) : ∀ (n : Nat) (p : Int) (acc : List S85), Pl f0 p → acc.length + n ≤ 2147483647 → Fin (qEV x0) errP (varsC n m acc (f0.drop p.toNat)) R →
  Ev (fun k => qAb.l1 k x0 (n : Int) f0 p 0 m acc) R := by
 intro n
 induction n with
 | zero =>
  intro p acc hp hn hF
  refine Ev.step (f := fun k => qAb.j2 k x0 0 false f0 p 0 m acc) (fun k => ?_) (Ev.step (f := fun k => (qBa.f f0 p 0).bind fun b => qAb.l2 k x0 b.1 f0 b.2.1 b.2.2 m acc []) (fun k => ?_) ?_)
  ·simp only [qAb.l1]; rw [if_neg (by decide)]; rfl
  ·simp only [qAb.j2]; rw [if_neg (by decide)]
  simp only [varsC, fnsI] at hF
  refine Rd.fin (int_good f0 hb p hp) hF (fun x1 p1 hp1 hs1 hF1 => ?_) (fun x1 p1 e he hR => ?_)
  ·have hx := qE6 _ (qCe hb _) _ hs1
   obtain ⟨q, rfl⟩ := Int.eq_ofNat_of_zero_le hx.1
   exact l2_good f0 hb x0 m acc R q p1 [] hp1 (by have := hx.2; simp only at this; simp; omega) hF1
  exact hR ▸ l2_bad f0 x0 x1 p1 e he m acc []
 | succ n ih =>
  intro p acc hp hn hF
  simp only [varsC, varP, Option.bind_assoc, Option.bind_some] at hF
  have hw : wrap64 (((n + 1 : Nat) : Int) - 1) = (n : Int) := by unfold wrap64; omega
  have hlen : acc.length < 4398046511104 := by omega
  refine Ev.step (f := fun k => qAb.j2 k x0 ((n + 1 : Nat) : Int) true f0 p 0 m acc) (fun k => ?_) (Ev.step (f := fun k => (qAC.f f0 p 0 32).bind fun b1 => ((qAr.f f0 b1.2.1 b1.2.2).bind fun b2 => ((qBn.f f0 b2.2.1 b2.2.2).bind fun b3 => qAb.l1 k x0 (n : Int) f0 b3.2.1 b3.2.2 m (acc ++ [⟨b1.1, ⟨wrap64 b2.1, b3.1⟩⟩])))) (fun k => ?_) ?_)
  ·simp only [qAb.l1, qAO.f, Option.bind_some]; rw [if_pos (by omega)]; rfl
  ·simp only [qAb.j2, if_true, hw]
   simp only [hlen, if_true]
  have bad : ∀ (x : List S85) (p e : Int), e ≠ 0 → R = errP → Ev (fun k => qAb.l1 k x0 (n : Int) f0 p e m x) R := fun x p e he hR => hR ▸ l1_bad f0 x0 n p e he m x
  refine Rd.fin (qDG f0 hb 32 (by decide) p hp) hF (fun x1 p1 hp1 hs1 hF1 => ?_) (fun x1 p1 e he hR => ?_)
  ·refine Rd.fin (qD4 f0 hb p1 hp1) hF1 (fun x2 p2 hp2 hs2 hF2 => ?_) (fun x2 p2 e he hR => ?_)
   ·refine Rd.fin (long_good f0 hb p2 hp2) hF2 (fun x3 p3 hp3 hs3 hF3 => ?_) (fun x3 p3 e he hR => ?_)
    ·simp only [qDk (qCH (qCe hb _) hs2)]
     exact ih p3 _ hp3 (by simp; omega) hF3
    exact bad _ _ _ he hR
   simp only [long_err f0 _ _ he, Option.bind_some]; exact bad _ _ _ he hR
  simp only [qEX f0 _ _ he, long_err f0 _ _ he, Option.bind_some]; exact bad _ _ _ he hR
def MK : List Int := [102, 111, 98, 106]
theorem mk_rd (i : Int) (h0 : 0 ≤ i) (h : i < 4) : rd MK i ≠ 0 ∧ rd MK i = MK.getD i.toNat 0 := by
 refine ⟨?_, rfl⟩
 have hc : i = 0 ∨ i = 1 ∨ i = 2 ∨ i = 3 := by omega
 rcases hc with rfl | rfl | rfl | rfl <;> decide
theorem l0_bad (x0 : List Int) (p e : Int) (he : e ≠ 0) : ∀ (d : Nat) (i : Int), 0 ≤ i → 4 - i = d → Ev (fun k => qAb.l0 k x0 MK 4 i f0 p e) errP := by
 intro d
 induction d with
 | zero =>
  intro i h0 hd
  refine Ev.step (fun k => ?_) (l1_bad f0 x0 0 p e he (strOfNums []) [])
  simp only [qAb.l0]
  rw [if_neg (by omega), qEu f0 32 p e he]
  simp only [Option.bind_some, int_err f0 p e he]
 | succ d ih =>
  intro i h0 hd
  refine Ev.step (fun k => ?_) (ih (i + 1) (by omega) (by omega))
  simp only [qAb.l0]
  rw [if_pos (by omega), if_pos h0, if_pos (by show i < 4; omega), qEX f0 p e he]
  simp only [Option.bind_some]
  rw [if_neg (fun hh => (mk_rd i h0 (by omega)).1 hh.symm), show wrap64 (i + 1) = i + 1 from by unfold wrap64; omega]
  simp only [qAU.f, if_neg he, Option.bind_some]
theorem l0_good (hb : qBJ f0) (x0 : List Int) (R : Res) : ∀ (d : Nat) (i : Int), 0 ≤ i → 4 - i = d → i ≤ f0.length → Fin (qEV x0) errP (if (f0.drop i.toNat).take d = MK.drop i.toNat then objC (f0.drop 4) else none) R →
  Ev (fun k => qAb.l0 k x0 MK 4 i f0 i 0) R := by
 intro d
 induction d with
 | zero =>
  intro i h0 hd hl hF
  have hi : i = 4 := by omega
  subst hi
  rw [if_pos (by rfl)] at hF
  have hp : Pl f0 4 := ⟨by omega, hl⟩
  refine Ev.step (f := fun k => (qAC.f f0 4 0 32).bind fun b1 => ((qBa.f f0 b1.2.1 b1.2.2).bind fun b2 => qAb.l1 k x0 b2.1 f0 b2.2.1 b2.2.2 b1.1 [])) (fun k => ?_) ?_
  ·simp only [qAb.l0]; rw [if_neg (by omega)]
  unfold objC at hF
  refine Rd.fin (qDG f0 hb 32 (by decide) 4 hp) hF (fun x1 p1 hp1 hs1 hF1 => ?_) (fun x1 p1 e he hR => ?_)
  ·refine Rd.fin (int_good f0 hb p1 hp1) hF1 (fun x2 p2 hp2 hs2 hF2 => ?_) (fun x2 p2 e he hR => ?_)
   ·have hx := qE6 _ (qCe hb _) _ hs2
    obtain ⟨q, rfl⟩ := Int.eq_ofNat_of_zero_le hx.1
    exact l1_good f0 hb x0 x1 R q p2 [] hp2 (by have := hx.2; simp only at this; simp; omega) hF2
   exact hR ▸ l1_bad f0 x0 x2 p2 e he x1 []
  simp only [int_err f0 _ _ he, Option.bind_some]
  exact hR ▸ l1_bad f0 x0 0 p1 e he x1 []
 | succ d ih =>
  intro i h0 hd hl hF
  have hi4 : i < 4 := by omega
  obtain ⟨m1, m2⟩ := mk_rd i h0 hi4
  have hmk := qCB MK 0 i h0 (by show i < 4; omega)
  rw [← m2] at hmk
  have hw : wrap64 (i + 1) = i + 1 := by unfold wrap64; omega
  by_cases hlt : i < f0.length
  rotate_left
  ·have hnil : f0.drop i.toNat = [] := List.drop_eq_nil_of_le (by omega)
   rw [hnil, hmk] at hF
   rw [if_neg (by simp)] at hF
   rw [hF.no rfl]
   refine Ev.step (fun k => ?_) (l0_bad f0 x0 i 40 (by decide) d (i + 1) (by omega) (by omega))
   simp only [qAb.l0]
   rw [if_pos hi4, if_pos h0, if_pos (by show i < 4; omega), show qAr.f f0 i 0 = some (0, i, 40) from by simp [qAr.f, hlt]]
   simp only [Option.bind_some]
   rw [if_neg (fun hh => m1 hh.symm), hw]
   simp only [qAU.f, Option.bind_some]; rfl
  have hc := qCB f0 0 i h0 hlt
  rw [hc, hmk, List.take_succ_cons] at hF
  have hby : qAr.f f0 i 0 = some (f0.getD i.toNat 0, i + 1, 0) := by simp [qAr.f, hlt]
  by_cases he : f0.getD i.toNat 0 = rd MK i
  ·refine Ev.step (fun k => ?_) (ih (i + 1) (by omega) (by omega) (by omega) ?_)
   ·simp only [qAb.l0]
    rw [if_pos hi4, if_pos h0, if_pos (by show i < 4; omega), hby]
    simp only [Option.bind_some]
    rw [if_pos he, hw]
   rw [he] at hF
   simpa using hF
  have hne : ¬ (f0.getD i.toNat 0 :: (f0.drop (i + 1).toNat).take d = rd MK i :: MK.drop (i + 1).toNat) := fun hh => he (List.cons.inj hh).1
  rw [if_neg hne] at hF
  rw [hF.no rfl]
  refine Ev.step (fun k => ?_) (l0_bad f0 x0 (i + 1) 52 (by decide) d (i + 1) (by omega) (by omega))
  simp only [qAb.l0]
  rw [if_pos hi4, if_pos h0, if_pos (by show i < 4; omega), hby]
  simp only [Option.bind_some]
  rw [if_neg he, hw]
  simp only [qAU.f, if_true, Option.bind_some]
def wholeC (b : List Int) : Option Obj4 := if b.take 4 = MK then objC (b.drop 4) else none
theorem unpack_ev (hb : qBJ f0) (R : Res) (h4 : ¬ 16384 < f0.length) (hF : Fin (qEV f0) errP (wholeC f0) R) : Ev (fun k => qAb.f k f0) R := by
 refine Ev.congr (f := fun k => qAb.l0 k f0 MK 4 0 f0 0 0) (fun k => ?_) (l0_good f0 hb f0 R 4 0 (by omega) (by omega) (by omega) hF)
 unfold qAb.f qCL.f
 rw [if_neg (by omega), if_pos (by omega)]; rfl
end
end Q
end
section
namespace RIns
open Go.RowKit Base Val Tbl Ins
def widR (op : Int) : Int := if op = 2 ∨ op = 3 ∨ op = 6 ∨ op = 7 then 1 else if op = 4 ∨ op = 5 ∨ op = 8 ∨ op = 9 ∨ op = 10 ∨ op = 15 then 2 else 0
theorem width_1 (op : Int) (h : op = 2 ∨ op = 3 ∨ op = 6 ∨ op = 7) (w : World) : Calls Tryz.prog 152 #[.int .i64 op] w fun e w' => e = .returned (.int .i64 1) ∧ w' = w := by
 rcases h with rfl | rfl | rfl | rfl
 all_goals (go_enter Tryz.func152, Tryz.ntmps152; go_wp2; go_ret; exact ⟨rfl, rfl⟩)
theorem width_2 (op : Int) (h : op = 4 ∨ op = 5 ∨ op = 8 ∨ op = 9 ∨ op = 10 ∨ op = 15) (w : World) : Calls Tryz.prog 152 #[.int .i64 op] w fun e w' => e = .returned (.int .i64 2) ∧ w' = w := by
 rcases h with rfl | rfl | rfl | rfl | rfl | rfl
 all_goals (go_enter Tryz.func152, Tryz.ntmps152; go_wp2; go_ret; exact ⟨rfl, rfl⟩)
theorem width_0 (op : Int) (h2 : (op == 2) = false) (h3 : (op == 3) = false) (h6 : (op == 6) = false) (h7 : (op == 7) = false) (h4 : (op == 4) = false) (h5 : (op == 5) = false) (h8 : (op == 8) = false) (h9 : (op == 9) = false) (h10 : (op == 10) = false) (h15 : (op == 15) = false) (w : World) : Calls Tryz.prog 152 #[.int .i64 op] w fun e w' => e = .returned (.int .i64 0) ∧ w' = w := by
 go_enter Tryz.func152, Tryz.ntmps152
 go_wp2
 go_ret
 exact ⟨rfl, rfl⟩
theorem qDH (op : Int) (w : World) : Calls Tryz.prog 152 #[.int .i64 op] w fun e w' => e = .returned (.int .i64 (widR op)) ∧ w' = w := by
 unfold widR
 by_cases h1 : op = 2 ∨ op = 3 ∨ op = 6 ∨ op = 7
 ·rw [if_pos h1]; exact width_1 op h1 w
 by_cases h2 : op = 4 ∨ op = 5 ∨ op = 8 ∨ op = 9 ∨ op = 10 ∨ op = 15
 ·rw [if_neg h1, if_pos h2]; exact width_2 op h2 w
 rw [if_neg h1, if_neg h2]
 exact width_0 op (beq_eq_false_iff_ne.mpr (by omega)) (beq_eq_false_iff_ne.mpr (by omega)) (beq_eq_false_iff_ne.mpr (by omega)) (beq_eq_false_iff_ne.mpr (by omega)) (beq_eq_false_iff_ne.mpr (by omega)) (beq_eq_false_iff_ne.mpr (by omega)) (beq_eq_false_iff_ne.mpr (by omega)) (beq_eq_false_iff_ne.mpr (by omega)) (beq_eq_false_iff_ne.mpr (by omega)) (beq_eq_false_iff_ne.mpr (by omega)) w
theorem rright_lo (op n ty b : Int) (hlo : (decide (op < 1)) = true) (w : World) : Calls Tryz.prog 111 #[.agg #[.int .i64 op, .int .i64 n, .int .i64 ty, .int .u64 b]] w fun e w' => e = .returned (.bool false) ∧ Below w.heap.size w w' := by
 go_enter Tryz.func111, Tryz.ntmps111
 go_wp2
 go_ret
 exact ⟨rfl, (Below.refl _ _).alloc (Nat.le_refl _) _⟩
theorem rright_hi (op n ty b : Int) (hlo : (decide (op < 1)) = false) (hhi : (decide (17 < op)) = true) (w : World) : Calls Tryz.prog 111 #[.agg #[.int .i64 op, .int .i64 n, .int .i64 ty, .int .u64 b]] w fun e w' => e = .returned (.bool false) ∧ Below w.heap.size w w' := by
 go_enter Tryz.func111, Tryz.ntmps111
 go_wp2
 go_ret
 exact ⟨rfl, (Below.refl _ _).alloc (Nat.le_refl _) _⟩
theorem rright_push_no (n ty b : Int) (h : (n == 0) = false) (w : World) : Calls Tryz.prog 111 #[.agg #[.int .i64 1, .int .i64 n, .int .i64 ty, .int .u64 b]] w fun e w' => e = .returned (.bool false) ∧ Below w.heap.size w w' := by
 go_enter Tryz.func111, Tryz.ntmps111
 go_wp2
 go_ret
 exact ⟨rfl, (Below.refl _ _).alloc (Nat.le_refl _) _⟩
theorem rright_push (ty b : Int) (hb : U64 b) (w : World) : Calls Tryz.prog 111 #[.agg #[.int .i64 1, .int .i64 0, .int .i64 ty, .int .u64 b]] w fun e w' => e = .returned (.bool (okV ty b)) ∧ Below w.heap.size w w' := by
 have HR := hid (Val.rright_any ty b hb)
 clear hb
 go_enter Tryz.func111, Tryz.ntmps111
 go_wp2_with fail
 go_at_call 37
 refine (HR.out _).mono ?_
 rintro e w1 ⟨rfl, hb1⟩
 go_wp2
 go_ret
 exact ⟨rfl, ((Below.refl _ _).alloc (Nat.le_refl _) _).trans (hb1.mono (by simp))⟩
theorem qDh (op n ty b : Int) (hlo : (decide (op < 1)) = false) (hhi : (decide (17 < op)) = false) (h1 : (op == 1) = false)  (hwd : widR op = 0) (w : World) : Calls Tryz.prog 111 #[.agg #[.int .i64 op, .int .i64 n, .int .i64 ty, .int .u64 b]] w fun e w' => e = .returned (.bool (decide (ty = 0 ∧ b = 0 ∧ 0 ≤ n ∧ n ≤ 0))) ∧ Below w.heap.size w w' := by
 have HW := hid (qDH op)
 rw [hwd] at HW
 clear hwd
 by_cases ht : ty = 0 ∧ b = 0 ∧ 0 ≤ n
 ·obtain ⟨rfl, rfl, hn⟩ := ht
  have hn' : decide (n < 0) = false := by simpa using hn
  go_enter Tryz.func111, Tryz.ntmps111
  go_wp2_with fail
  go_at_call 152
  refine (HW.out _).mono ?_
  rintro e w1 ⟨rfl, rfl⟩
  go_wp2
  all_goals (go_ret; refine ⟨congrArg (fun x => Ending.returned (Value.bool x)) ?_, (Below.refl _ _).alloc (Nat.le_refl _) _⟩; (rw [Bool.eq_iff_iff]; simp; omega))
 rw [show decide (ty = 0 ∧ b = 0 ∧ 0 ≤ n ∧ n ≤ 0) = false from by simp; omega]
 by_cases h2 : ty = 0
 rotate_left
 ·have h2' : (ty != 0) = true := bne_iff_ne.mpr h2
  clear ht h2
  go_enter Tryz.func111, Tryz.ntmps111
  go_wp2
  go_ret
  exact ⟨rfl, (Below.refl _ _).alloc (Nat.le_refl _) _⟩
 by_cases h3 : b = 0
 ·have hn' : decide (n < 0) = true := by simp; omega
  subst h2 h3
  clear ht
  go_enter Tryz.func111, Tryz.ntmps111
  go_wp2
  go_ret
  exact ⟨rfl, (Below.refl _ _).alloc (Nat.le_refl _) _⟩
 have h3' : (b != 0) = true := bne_iff_ne.mpr h3
 subst h2
 clear ht h3
 go_enter Tryz.func111, Tryz.ntmps111
 go_wp2
 go_ret
 exact ⟨rfl, (Below.refl _ _).alloc (Nat.le_refl _) _⟩
theorem qDi (op n ty b : Int) (hlo : (decide (op < 1)) = false) (hhi : (decide (17 < op)) = false) (h1 : (op == 1) = false)  (hwd : widR op = 2) (w : World) : Calls Tryz.prog 111 #[.agg #[.int .i64 op, .int .i64 n, .int .i64 ty, .int .u64 b]] w fun e w' => e = .returned (.bool (decide (ty = 0 ∧ b = 0 ∧ 0 ≤ n ∧ n ≤ 65535))) ∧ Below w.heap.size w w' := by
 have HW := hid (qDH op)
 rw [hwd] at HW
 clear hwd
 by_cases ht : ty = 0 ∧ b = 0 ∧ 0 ≤ n
 ·obtain ⟨rfl, rfl, hn⟩ := ht
  have hn' : decide (n < 0) = false := by simpa using hn
  go_enter Tryz.func111, Tryz.ntmps111
  go_wp2_with fail
  go_at_call 152
  refine (HW.out _).mono ?_
  rintro e w1 ⟨rfl, rfl⟩
  go_wp2
  all_goals (go_ret; refine ⟨congrArg (fun x => Ending.returned (Value.bool x)) ?_, (Below.refl _ _).alloc (Nat.le_refl _) _⟩; (simp_all <;> omega))
 rw [show decide (ty = 0 ∧ b = 0 ∧ 0 ≤ n ∧ n ≤ 65535) = false from by simp; omega]
 by_cases h2 : ty = 0
 rotate_left
 ·have h2' : (ty != 0) = true := bne_iff_ne.mpr h2
  clear ht h2
  go_enter Tryz.func111, Tryz.ntmps111
  go_wp2
  go_ret
  exact ⟨rfl, (Below.refl _ _).alloc (Nat.le_refl _) _⟩
 by_cases h3 : b = 0
 ·have hn' : decide (n < 0) = true := by simp; omega
  subst h2 h3
  clear ht
  go_enter Tryz.func111, Tryz.ntmps111
  go_wp2
  go_ret
  exact ⟨rfl, (Below.refl _ _).alloc (Nat.le_refl _) _⟩
 have h3' : (b != 0) = true := bne_iff_ne.mpr h3
 subst h2
 clear ht h3
 go_enter Tryz.func111, Tryz.ntmps111
 go_wp2
 go_ret
 exact ⟨rfl, (Below.refl _ _).alloc (Nat.le_refl _) _⟩
theorem rright_6 (op n ty b : Int) (hlo : (decide (op < 1)) = false) (hhi : (decide (17 < op)) = false) (h1 : (op == 1) = false) (h6 : (op == 6) = true) (hwd : widR op = 1) (w : World) : Calls Tryz.prog 111 #[.agg #[.int .i64 op, .int .i64 n, .int .i64 ty, .int .u64 b]] w fun e w' => e = .returned (.bool (decide (ty = 0 ∧ b = 0 ∧ 0 ≤ n ∧ n ≤ 255 ∧ 1 ≤ n ∧ n ≤ 4))) ∧ Below w.heap.size w w' := by
 have HW := hid (qDH op)
 rw [hwd] at HW
 clear hwd
 by_cases ht : ty = 0 ∧ b = 0 ∧ 0 ≤ n
 ·obtain ⟨rfl, rfl, hn⟩ := ht
  have hn' : decide (n < 0) = false := by simpa using hn
  go_enter Tryz.func111, Tryz.ntmps111
  go_wp2_with fail
  go_at_call 152
  refine (HW.out _).mono ?_
  rintro e w1 ⟨rfl, rfl⟩
  go_wp2
  all_goals (go_ret; refine ⟨congrArg (fun x => Ending.returned (Value.bool x)) ?_, (Below.refl _ _).alloc (Nat.le_refl _) _⟩; (simp_all <;> omega))
 rw [show decide (ty = 0 ∧ b = 0 ∧ 0 ≤ n ∧ n ≤ 255 ∧ 1 ≤ n ∧ n ≤ 4) = false from by simp; omega]
 by_cases h2 : ty = 0
 rotate_left
 ·have h2' : (ty != 0) = true := bne_iff_ne.mpr h2
  clear ht h2
  go_enter Tryz.func111, Tryz.ntmps111
  go_wp2
  go_ret
  exact ⟨rfl, (Below.refl _ _).alloc (Nat.le_refl _) _⟩
 by_cases h3 : b = 0
 ·have hn' : decide (n < 0) = true := by simp; omega
  subst h2 h3
  clear ht
  go_enter Tryz.func111, Tryz.ntmps111
  go_wp2
  go_ret
  exact ⟨rfl, (Below.refl _ _).alloc (Nat.le_refl _) _⟩
 have h3' : (b != 0) = true := bne_iff_ne.mpr h3
 subst h2
 clear ht h3
 go_enter Tryz.func111, Tryz.ntmps111
 go_wp2
 go_ret
 exact ⟨rfl, (Below.refl _ _).alloc (Nat.le_refl _) _⟩
theorem rright_7 (op n ty b : Int) (hlo : (decide (op < 1)) = false) (hhi : (decide (17 < op)) = false) (h1 : (op == 1) = false) (h6 : (op == 6) = false) (h7 : (op == 7) = true) (hwd : widR op = 1) (w : World) : Calls Tryz.prog 111 #[.agg #[.int .i64 op, .int .i64 n, .int .i64 ty, .int .u64 b]] w fun e w' => e = .returned (.bool (decide (ty = 0 ∧ b = 0 ∧ 0 ≤ n ∧ n ≤ 255 ∧ 1 ≤ n ∧ n ≤ 11))) ∧ Below w.heap.size w w' := by
 have HW := hid (qDH op)
 rw [hwd] at HW
 clear hwd
 by_cases ht : ty = 0 ∧ b = 0 ∧ 0 ≤ n
 ·obtain ⟨rfl, rfl, hn⟩ := ht
  have hn' : decide (n < 0) = false := by simpa using hn
  go_enter Tryz.func111, Tryz.ntmps111
  go_wp2_with fail
  go_at_call 152
  refine (HW.out _).mono ?_
  rintro e w1 ⟨rfl, rfl⟩
  go_wp2
  all_goals (go_ret; refine ⟨congrArg (fun x => Ending.returned (Value.bool x)) ?_, (Below.refl _ _).alloc (Nat.le_refl _) _⟩; (simp_all <;> omega))
 rw [show decide (ty = 0 ∧ b = 0 ∧ 0 ≤ n ∧ n ≤ 255 ∧ 1 ≤ n ∧ n ≤ 11) = false from by simp; omega]
 by_cases h2 : ty = 0
 rotate_left
 ·have h2' : (ty != 0) = true := bne_iff_ne.mpr h2
  clear ht h2
  go_enter Tryz.func111, Tryz.ntmps111
  go_wp2
  go_ret
  exact ⟨rfl, (Below.refl _ _).alloc (Nat.le_refl _) _⟩
 by_cases h3 : b = 0
 ·have hn' : decide (n < 0) = true := by simp; omega
  subst h2 h3
  clear ht
  go_enter Tryz.func111, Tryz.ntmps111
  go_wp2
  go_ret
  exact ⟨rfl, (Below.refl _ _).alloc (Nat.le_refl _) _⟩
 have h3' : (b != 0) = true := bne_iff_ne.mpr h3
 subst h2
 clear ht h3
 go_enter Tryz.func111, Tryz.ntmps111
 go_wp2
 go_ret
 exact ⟨rfl, (Below.refl _ _).alloc (Nat.le_refl _) _⟩
theorem rright_w1 (op n ty b : Int) (hlo : (decide (op < 1)) = false) (hhi : (decide (17 < op)) = false) (h1 : (op == 1) = false) (h6 : (op == 6) = false) (h7 : (op == 7) = false) (hwd : widR op = 1) (w : World) : Calls Tryz.prog 111 #[.agg #[.int .i64 op, .int .i64 n, .int .i64 ty, .int .u64 b]] w fun e w' => e = .returned (.bool (decide (ty = 0 ∧ b = 0 ∧ 0 ≤ n ∧ n ≤ 255))) ∧ Below w.heap.size w w' := by
 have HW := hid (qDH op)
 rw [hwd] at HW
 clear hwd
 by_cases ht : ty = 0 ∧ b = 0 ∧ 0 ≤ n
 ·obtain ⟨rfl, rfl, hn⟩ := ht
  have hn' : decide (n < 0) = false := by simpa using hn
  go_enter Tryz.func111, Tryz.ntmps111
  go_wp2_with fail
  go_at_call 152
  refine (HW.out _).mono ?_
  rintro e w1 ⟨rfl, rfl⟩
  go_wp2
  all_goals (go_ret; refine ⟨congrArg (fun x => Ending.returned (Value.bool x)) ?_, (Below.refl _ _).alloc (Nat.le_refl _) _⟩; (simp_all <;> omega))
 rw [show decide (ty = 0 ∧ b = 0 ∧ 0 ≤ n ∧ n ≤ 255) = false from by simp; omega]
 by_cases h2 : ty = 0
 rotate_left
 ·have h2' : (ty != 0) = true := bne_iff_ne.mpr h2
  clear ht h2
  go_enter Tryz.func111, Tryz.ntmps111
  go_wp2
  go_ret
  exact ⟨rfl, (Below.refl _ _).alloc (Nat.le_refl _) _⟩
 by_cases h3 : b = 0
 ·have hn' : decide (n < 0) = true := by simp; omega
  subst h2 h3
  clear ht
  go_enter Tryz.func111, Tryz.ntmps111
  go_wp2
  go_ret
  exact ⟨rfl, (Below.refl _ _).alloc (Nat.le_refl _) _⟩
 have h3' : (b != 0) = true := bne_iff_ne.mpr h3
 subst h2
 clear ht h3
 go_enter Tryz.func111, Tryz.ntmps111
 go_wp2
 go_ret
 exact ⟨rfl, (Below.refl _ _).alloc (Nat.le_refl _) _⟩
theorem rright_ins (op n ty b : Int) (hb : U64 b) (w : World) : Calls Tryz.prog 111 #[insV op n ty b] w fun e w' => e = .returned (.bool (okI op n ty b)) ∧ Below w.heap.size w w' := by
 unfold insV
 by_cases hl : op < 1
 ·rw [okI_lo op n ty b hl]; exact rright_lo op n ty b (by simpa using hl) w
 by_cases hh : 17 < op
 ·rw [okI_hi op n ty b hh]; exact rright_hi op n ty b (by simpa using hl) (by simpa using hh) w
 have ho : op = 1 ∨ op = 2 ∨ op = 3 ∨ op = 4 ∨ op = 5 ∨ op = 6 ∨ op = 7 ∨ op = 8 ∨ op = 9 ∨ op = 10 ∨ op = 11 ∨ op = 12 ∨ op = 13 ∨ op = 14 ∨ op = 15 ∨ op = 16 ∨ op = 17 := by omega
 rcases ho with rfl | rfl | rfl | rfl | rfl | rfl | rfl | rfl | rfl | rfl | rfl | rfl | rfl | rfl | rfl | rfl | rfl
 ·rw [okI_1]
  by_cases hn : n = 0
  ·rw [hn]; exact rright_push ty b hb w
  rw [show (n == 0) = false from beq_eq_false_iff_ne.mpr hn]; exact rright_push_no n ty b (beq_eq_false_iff_ne.mpr hn) w
 ·rw [qBA 2 n ty b 255 rfl rfl rfl rfl rfl rfl]; exact rright_w1 2 n ty b rfl rfl rfl rfl rfl rfl w
 ·rw [qBA 3 n ty b 255 rfl rfl rfl rfl rfl rfl]; exact rright_w1 3 n ty b rfl rfl rfl rfl rfl rfl w
 ·rw [qBA 4 n ty b 65535 rfl rfl rfl rfl rfl rfl]; exact qDi 4 n ty b rfl rfl rfl rfl w
 ·rw [qBA 5 n ty b 65535 rfl rfl rfl rfl rfl rfl]; exact qDi 5 n ty b rfl rfl rfl rfl w
 ·rw [okI_6]; exact rright_6 6 n ty b rfl rfl rfl rfl rfl w
 ·rw [okI_7]; exact rright_7 7 n ty b rfl rfl rfl rfl rfl rfl w
 ·rw [qBA 8 n ty b 65535 rfl rfl rfl rfl rfl rfl]; exact qDi 8 n ty b rfl rfl rfl rfl w
 ·rw [qBA 9 n ty b 65535 rfl rfl rfl rfl rfl rfl]; exact qDi 9 n ty b rfl rfl rfl rfl w
 ·rw [qBA 10 n ty b 65535 rfl rfl rfl rfl rfl rfl]; exact qDi 10 n ty b rfl rfl rfl rfl w
 ·rw [qBA 11 n ty b 0 rfl rfl rfl rfl rfl rfl]; exact qDh 11 n ty b rfl rfl rfl rfl w
 ·rw [qBA 12 n ty b 0 rfl rfl rfl rfl rfl rfl]; exact qDh 12 n ty b rfl rfl rfl rfl w
 ·rw [qBA 13 n ty b 0 rfl rfl rfl rfl rfl rfl]; exact qDh 13 n ty b rfl rfl rfl rfl w
 ·rw [qBA 14 n ty b 0 rfl rfl rfl rfl rfl rfl]; exact qDh 14 n ty b rfl rfl rfl rfl w
 ·rw [qBA 15 n ty b 65535 rfl rfl rfl rfl rfl rfl]; exact qDi 15 n ty b rfl rfl rfl rfl w
 ·rw [qBA 16 n ty b 0 rfl rfl rfl rfl rfl rfl]; exact qDh 16 n ty b rfl rfl rfl rfl w
 rw [qBA 17 n ty b 0 rfl rfl rfl rfl rfl rfl]; exact qDh 17 n ty b rfl rfl rfl rfl w
end RIns
end
section
namespace Q
open Go.RowKit PA PC PB
def qBh.f (a0_0 : Int) (a0_1 : Int) (a0_2 : Int) (a0_3 : Int) : Option (Bool) := if 0 ≤ a0_3 ∧ a0_3 < 18446744073709551616 then some (Ins.okI a0_0 a0_1 a0_2 a0_3) else none
theorem qBh.calls (a0_0 : Int) (a0_1 : Int) (a0_2 : Int) (a0_3 : Int) (r : Bool) (w : World) (h : qBh.f a0_0 a0_1 a0_2 a0_3 = some r) :
  Calls Tryz.prog 111 #[.agg #[.int .i64 a0_0, .int .i64 a0_1, .int .i64 a0_2, .int .u64 a0_3]] w fun e w' => e = .returned (.bool r) ∧ Below w.heap.size w w' := by
 unfold qBh.f at h
 split at h
 case isFalse => cases h
 rename_i hs
 obtain rfl := Option.some.inj h
 exact RIns.rright_ins a0_0 a0_1 a0_2 a0_3 hs w
end Q
end
section
namespace Q
open Go.RowKit PA PC PB
attribute [local go_sem] qAX min2_int qBi min_two max_three min_three max_four min_four
def qBf.f (a0 : Int) : Option (Bool) := if a0 = 1 then (some true) else (if a0 = 2 then (some true) else (some (a0 == 3)))
theorem qBf.calls (a0 : Int) (r : Bool) (w : World) (h : qBf.f a0 = some r) :
  Calls Tryz.prog 110 #[.int .i64 a0] w fun e w' => e = .returned (.bool r) ∧ qAS w w' := by
 have H : (if a0 = 1 then (some true) else (if a0 = 2 then (some true) else (some (a0 == 3)))) = some r := h
 clear h
 by_cases c2 : a0 = 1
 ·rw [if_pos c2] at H
  have aA : (a0 == 1) = true := beq_iff_eq.mpr c2
  clear c2
  obtain rfl := Option.some.inj H
  go_enter Tryz.func110, Tryz.ntmps110
  go_wp2
  go_ret
  exact ⟨by rfl, by exact qAS.refl _⟩
 ·rw [if_neg c2] at H
  have aA : (a0 == 1) = false := bf c2
  have aC : (a0 != 1) = true := bne_iff_ne.mpr c2
  by_cases c3 : a0 = 2
  ·rw [if_pos c3] at H
   have aB : (a0 == 2) = true := beq_iff_eq.mpr c3
   clear c3
   obtain rfl := Option.some.inj H
   go_enter Tryz.func110, Tryz.ntmps110
   go_wp2
   go_ret
   exact ⟨by rfl, by exact qAS.refl _⟩
  ·rw [if_neg c3] at H
   have aB : (a0 == 2) = false := bf c3
   obtain rfl := Option.some.inj H
   go_enter Tryz.func110, Tryz.ntmps110
   go_wp2
   go_ret
   exact ⟨by rfl, by exact qAS.refl _⟩
mutual
def qAc.j0 : Nat → Bool → List Int → Int → List Int → List (S172) → Option (Bool)
 | 0, _, _, _, _, _ => none
 | k + 1, cG, aD, aF, aE, aB => if cG = true then (some false) else (qAc.l0 k 0 aD aF aE aB)
def qAc.l0 : Nat → Int → List Int → Int → List Int → List (S172) → Option (Bool)
 | 0, _, _, _, _, _ => none
 | k + 1, x3, aD, aF, aE, aB => if x3 < (aD.length : Int) then (if 0 ≤ x3 then ((qBf.f (rd aD x3)).bind fun ao => (if ao = true then (qAc.l0 k (wrap64 (x3 + 1)) aD aF aE aB) else (some false))) else (none)) else (qAc.l1 k 0 aD aF aE aB)
def qAc.l1 : Nat → Int → List Int → Int → List Int → List (S172) → Option (Bool)
 | 0, _, _, _, _, _ => none
 | k + 1, x4, aD, aF, aE, aB => if x4 < (aE.length : Int) then (if 0 ≤ x4 then ((qBf.f (rd aE x4)).bind fun ap => (if ap = true then (qAc.l1 k (wrap64 (x4 + 1)) aD aF aE aB) else (some false))) else (none)) else (qAc.l2 k 0 aD aF aE aB)
def qAc.l2 : Nat → Int → List Int → Int → List Int → List (S172) → Option (Bool)
 | 0, _, _, _, _, _ => none
 | k + 1, x5, aD, aF, aE, aB => if x5 < (aB.length : Int) then (if 0 ≤ x5 then ((qBh.f ((qAv aB x5).f0) ((qAv aB x5).f1) ((qAv aB x5).f2.f0) ((qAv aB x5).f2.f1)).bind fun aq => (if aq = true then (qAc.l2 k (wrap64 (x5 + 1)) aD aF aE aB) else (some false))) else (none)) else (some true)
end
def qAc.f (k : Nat) (l0_0 : List Int) (a0_1 : Int) (l0_2 : List Int) (l0_3 : List (S172)) : Option (Bool) := if (l0_0.length : Int) > 8 then (qAc.j0 k true l0_0 a0_1 l0_2 l0_3) else (if (l0_2.length : Int) > 64 then (qAc.j0 k true l0_0 a0_1 l0_2 l0_3) else (if (l0_3.length : Int) > 4096 then (qAc.j0 k true l0_0 a0_1 l0_2 l0_3) else ((qBf.f a0_1).bind fun a6 => (if a6 = true then (qAc.j0 k false l0_0 a0_1 l0_2 l0_3) else (qAc.j0 k (a0_1 != 0) l0_0 a0_1 l0_2 l0_3)))))
theorem qAc.calls (k : Nat) (aO : Option Addr) (aR : Nat) (l0_0 : List Int) (a0_1 : Int) (aP : Option Addr) (aS : Nat) (l0_2 : List Int) (aQ : Option Addr) (aT : Nat) (l0_3 : List (S172)) (r : Bool) (w : World) (hr0_0 : Kd.C (Kd.int .i64) w aO l0_0.length l0_0) (hc0_0 : l0_0.length ≤ aR) (hr0_2 : Kd.C (Kd.int .i64) w aP l0_2.length l0_2) (hc0_2 : l0_2.length ≤ aS) (hr0_3 : Kd.C k172 w aQ l0_3.length l0_3) (hc0_3 : l0_3.length ≤ aT) (h : qAc.f k l0_0 a0_1 l0_2 l0_3 = some r) :
  Calls Tryz.prog 38 #[.agg #[.slice aO l0_0.length aR, .int .i64 a0_1, .slice aP l0_2.length aS, .slice aQ l0_3.length aT]] w fun e w' => e = .returned (.bool r) ∧ Below w.heap.size w w' := by
 have ar := am hr0_0
 clear hr0_0 hc0_0
 have au := am hr0_2
 clear hr0_2 hc0_2
 have av := am hr0_3
 clear hr0_3 hc0_3
 have HB := am (Below.refl w.heap.size w)
 have H : (if (l0_0.length : Int) > 8 then (qAc.j0 k true l0_0 a0_1 l0_2 l0_3) else (if (l0_2.length : Int) > 64 then (qAc.j0 k true l0_0 a0_1 l0_2 l0_3) else (if (l0_3.length : Int) > 4096 then (qAc.j0 k true l0_0 a0_1 l0_2 l0_3) else ((qBf.f a0_1).bind fun a6 => (if a6 = true then (qAc.j0 k false l0_0 a0_1 l0_2 l0_3) else (qAc.j0 k (a0_1 != 0) l0_0 a0_1 l0_2 l0_3)))))) = some r := h
 clear h
 have bc := am H
 clear H
 go_enter Tryz.func38, Tryz.ntmps38
 go_upto_region 1 with ((with_reducible refine qAK (N := 1) rfl ?_); (try (refine qBO (by rfl) ?_; dsimp only)); refine bx 1 #[.slice aO l0_0.length aR, .int .i64 a0_1, .slice aP l0_2.length aS, .slice aQ l0_3.length aT] 98 ?_; intro a4 hg w3 hbox hb; have n_ := a2 (qAe HB.o hb) (am (hbox)); clear HB; obtain ⟨HB, aA⟩ := n_; clear hb hbox hg)
 (skip)
 go_cut [35] (fun cF wc => ∃ (kq : Nat) (a5 : Bool), cF = .bool a5 ∧ qAa (qAc.j0 kq a5 l0_0 a0_1 l0_2 l0_3 = some r) ∧ qAa (kq ≤ k) ∧ qAa (wc.heap[a4]? = some (.cells #[(.slice aO l0_0.length aR), .int .i64 a0_1, (.slice aP l0_2.length aS), (.slice aQ l0_3.length aT)] 98 (0, 0))) ∧ qAa (Below w.heap.size w wc))
 case first =>
  have H := bc.o
  clear bc
  by_cases c4 : (l0_0.length : Int) > 8
  ·rw [if_pos c4] at H
   have bd := d1 c4
   clear c4
   (skip)
   have H' := am H
   clear H
   have bi := c1_ w3 aA.o
   go_wp2
   go_meet
   case rel => exact ⟨_, (true), (by rfl), H', ⟨by omega⟩, ⟨by exact aA.o⟩, ⟨by exact HB.o⟩⟩
  rw [if_neg c4] at H
  have bd := d0 c4
  have cD : decide (8 < l0_0.length) = false := decide_eq_false (by omega)
  clear c4
  (skip)
  by_cases c6 : (l0_2.length : Int) > 64
  ·rw [if_pos c6] at H
   have bg := d1 c6
   clear c6
   have H' := am H
   clear H
   obtain ⟨bj, -, bk⟩ := c3_ w3 aA.o
   go_wp2
   go_meet
   case rel => exact ⟨_, (true), (by rfl), H', ⟨by omega⟩, ⟨by exact aA.o⟩, ⟨by exact HB.o⟩⟩
  rw [if_neg c6] at H
  have bg := d0 c6
  have cE : decide (64 < l0_2.length) = false := decide_eq_false (by omega)
  clear c6
  by_cases c8 : (l0_3.length : Int) > 4096
  ·rw [if_pos c8] at H
   replace c8 := d1 c8
   have H' := am H
   clear H
   obtain ⟨bl, -, bo, bp⟩ := c4_ w3 aA.o
   go_wp2
   go_meet
   case rel => exact ⟨_, (true), (by rfl), H', ⟨by omega⟩, ⟨by exact aA.o⟩, ⟨by exact HB.o⟩⟩
  rw [if_neg c8] at H
  replace c8 := d0 c8
  replace H := bm H
  obtain ⟨a6, bG, H⟩ := H
  replace H : (if a6 = true then (qAc.j0 k false l0_0 a0_1 l0_2 l0_3) else (qAc.j0 k (a0_1 != 0) l0_0 a0_1 l0_2 l0_3)) = some r := H
  have br := am bG
  clear bG
  by_cases bP : a6 = true
  ·subst bP
   replace H : (qAc.j0 k false l0_0 a0_1 l0_2 l0_3) = some r := by rw [if_pos rfl] at H; exact H
   have H' := am H
   clear H
   obtain ⟨bX, bY, bZ, b0⟩ := c4_ w3 aA.o
   go_wp2_with (go_at_call 110; (with_reducible refine (qBf.calls a0_1 true _ br.o).mono ?_); rintro e w' ⟨rfl, ⟨nd, rfl⟩⟩)
   go_meet
   case rel => exact ⟨_, (false), (by rfl), H', ⟨by omega⟩, ⟨by (with_reducible repeat (refine qBr ?_ _)); exact aA.o⟩, ⟨by repeat (with_reducible first | exact HB.o | apply qAl)⟩⟩
  replace bP := Bool.eq_false_iff.mpr bP
  subst bP
  replace H : (qAc.j0 k (a0_1 != 0) l0_0 a0_1 l0_2 l0_3) = some r := by rw [if_neg (show ¬ (false = true) by decide)] at H; exact H
  have H' := am H
  clear H
  obtain ⟨b1, b2, b3, b4⟩ := c4_ w3 aA.o
  go_wp2_with (go_at_call 110; (with_reducible refine (qBf.calls a0_1 false _ br.o).mono ?_); rintro e w' ⟨rfl, ⟨nd, rfl⟩⟩)
  go_meet
  case rel => exact ⟨_, (a0_1 != 0), (by rfl), H', ⟨by omega⟩, ⟨by (with_reducible repeat (refine qBr ?_ _)); exact aA.o⟩, ⟨by repeat (with_reducible first | exact HB.o | apply qAl)⟩⟩
 case rest =>
  clear bc
  obtain ⟨kq, a5, rfl, HA, bB, aA, HB⟩ := hcut
  cases kq with
  | zero => exact absurd HA.o (by simp [qAc.j0])
  | succ bq =>
   have H := HA.o
   clear HA
   simp only [qAc.j0] at H
   by_cases bQ : a5 = true
   ·subst bQ
    replace H : (some false) = some r := by rw [if_pos rfl] at H; exact H
    obtain rfl := Option.some.inj H
    go_wp2
    go_ret
    exact ⟨by rfl, by exact HB.o⟩
   replace bQ := Bool.eq_false_iff.mpr bQ
   subst bQ
   replace H : (qAc.l0 bq 0 l0_0 a0_1 l0_2 l0_3) = some r := by rw [if_neg (show ¬ (false = true) by decide)] at H; exact H
   have H' := am H
   clear H
   go_wp2
   go_loopg [3] bq (fun kq v3 w' => ∃ (aG : Int), v3 = .int .i64 aG ∧ qAa (qAc.l0 kq aG l0_0 a0_1 l0_2 l0_3 = some r) ∧ qAa (kq ≤ bq) ∧ qAa (w'.heap[a4]? = some (.cells #[(.slice aO l0_0.length aR), .int .i64 a0_1, (.slice aP l0_2.length aS), (.slice aQ l0_3.length aT)] 98 (0, 0))) ∧ qAa (Below w.heap.size w w'))
   case atStart => exact ⟨(0), (by rfl), H', ⟨Nat.le_refl _⟩, ⟨by exact aA.o⟩, ⟨by exact HB.o⟩⟩
   case round =>
    clear H'
    obtain ⟨aG, rfl, HA, bC, aA, HB⟩ := hrel
    cases gk with
    | zero => exact absurd HA.o (by simp [qAc.l0])
    | succ k2 =>
     have H := HA.o
     clear HA
     simp only [qAc.l0] at H
     by_cases bD : aG < (l0_0.length : Int)
     ·rw [if_pos bD] at H
      replace bD := d1 bD
      obtain ⟨bR, H⟩ := gd H
      replace bR := d1 bR
      replace H := bm H
      obtain ⟨ao, bH, H⟩ := H
      replace H : (if ao = true then (qAc.l0 k2 (wrap64 (aG + 1)) l0_0 a0_1 l0_2 l0_3) else (some false)) = some r := H
      have bs := am bH
      clear bH
      by_cases bS : ao = true
      rotate_left
      ·replace bS := Bool.eq_false_iff.mpr bS
       subst bS
       replace H : (some false) = some r := by rw [if_neg (show ¬ (false = true) by decide)] at H; exact H
       obtain rfl := Option.some.inj H
       have b6 := c1_ wr aA.o
       have aU : 0 ≤ aG := od (by assumption)
       have aX : aG < (l0_0.length : Int) := od (by assumption)
       obtain ⟨bK, ay, aI⟩ := Kd.at_int ar.o aG aU aX
       cases ay
       replace aI := (HB.o.cell (World.block_lt_of_cell? w _ aI)).trans aI
       replace aU := eq_true aU
       replace aX := eq_true aX
       go_wp2_with ((with_reducible refine qAi (f := 110) rfl ?_); refine gL 50 Tryz.func110 #[.int .i64 (rd l0_0 aG)] ?_; (with_reducible refine (qBf.calls (rd l0_0 aG) false _ bs.o).mono ?_); rintro e w' ⟨rfl, ⟨nd, rfl⟩⟩; refine ⟨_, rfl, ?_⟩)
       go_ret
       exact ⟨by rfl, by repeat (with_reducible first | exact HB.o | apply qAl)⟩
      subst bS
      replace H : (qAc.l0 k2 (wrap64 (aG + 1)) l0_0 a0_1 l0_2 l0_3) = some r := by rw [if_pos rfl] at H; exact H
      have H' := am H
      clear H
      have b5 := c1_ wr aA.o
      have aU : 0 ≤ aG := od (by assumption)
      have aX : aG < (l0_0.length : Int) := od (by assumption)
      obtain ⟨bK, ay, aI⟩ := Kd.at_int ar.o aG aU aX
      cases ay
      replace aI := (HB.o.cell (World.block_lt_of_cell? w _ aI)).trans aI
      replace aU := eq_true aU
      replace aX := eq_true aX
      go_wp2_with ((with_reducible refine qAi (f := 110) rfl ?_); refine gL 50 Tryz.func110 #[.int .i64 (rd l0_0 aG)] ?_; (with_reducible refine (qBf.calls (rd l0_0 aG) true _ bs.o).mono ?_); rintro e w' ⟨rfl, ⟨nd, rfl⟩⟩; refine ⟨_, rfl, ?_⟩)
      go_roundg k2
      case measure => have := bB.o; have := bC.o; omega
      case rel => exact ⟨(wrap64 (aG + 1)), (by rfl), H', ⟨by have := bB.o; have := bC.o; omega⟩, ⟨by (with_reducible repeat (refine qBr ?_ _)); exact aA.o⟩, ⟨by repeat (with_reducible first | exact HB.o | apply qAl)⟩⟩
     rw [if_neg bD] at H
     replace bD := d0 bD
     have H' := am H
     clear H
     obtain ⟨a7, a8, a9, aa⟩ := c4_ wr aA.o
     obtain ⟨af, ag, ah, ai⟩ := z4_ aA.o
     go_wp2
     go_loopg [4] k2 (fun kq v4 w' => ∃ (aH : Int), v4 = .int .i64 aH ∧ qAa (qAc.l1 kq aH l0_0 a0_1 l0_2 l0_3 = some r) ∧ qAa (kq ≤ k2) ∧ qAa (w'.heap[a4]? = some (.cells #[(.slice aO l0_0.length aR), .int .i64 a0_1, (.slice aP l0_2.length aS), (.slice aQ l0_3.length aT)] 98 (0, 0))) ∧ qAa (Below w.heap.size w w'))
     case atStart => exact ⟨(0), (by rfl), H', ⟨Nat.le_refl _⟩, ⟨by exact aA.o⟩, ⟨by exact HB.o⟩⟩
     case round =>
      clear H'
      obtain ⟨aH, rfl, HA, bO, aA, HB⟩ := hrel
      cases gk with
      | zero => exact absurd HA.o (by simp [qAc.l1])
      | succ k3 =>
       have H := HA.o
       clear HA
       simp only [qAc.l1] at H
       by_cases bE : aH < (l0_2.length : Int)
       ·rw [if_pos bE] at H
        replace bE := d1 bE
        obtain ⟨bT, H⟩ := gd H
        replace bT := d1 bT
        replace H := bm H
        obtain ⟨ap, bI, H⟩ := H
        replace H : (if ap = true then (qAc.l1 k3 (wrap64 (aH + 1)) l0_0 a0_1 l0_2 l0_3) else (some false)) = some r := H
        have bu := am bI
        clear bI
        by_cases bU : ap = true
        rotate_left
        ·replace bU := Bool.eq_false_iff.mpr bU
         subst bU
         replace H : (some false) = some r := by rw [if_neg (show ¬ (false = true) by decide)] at H; exact H
         obtain rfl := Option.some.inj H
         obtain ⟨-, -, b8⟩ := c3_ wr aA.o
         have aV : 0 ≤ aH := od (by assumption)
         have aY : aH < (l0_2.length : Int) := od (by assumption)
         obtain ⟨bL, az, aJ⟩ := Kd.at_int au.o aH aV aY
         cases az
         replace aJ := (HB.o.cell (World.block_lt_of_cell? w _ aJ)).trans aJ
         replace aV := eq_true aV
         replace aY := eq_true aY
         go_wp2_with ((with_reducible refine qAi (f := 110) rfl ?_); refine gL 64 Tryz.func110 #[.int .i64 (rd l0_2 aH)] ?_; (with_reducible refine (qBf.calls (rd l0_2 aH) false _ bu.o).mono ?_); rintro e w' ⟨rfl, ⟨nd, rfl⟩⟩; refine ⟨_, rfl, ?_⟩)
         go_ret
         exact ⟨by rfl, by repeat (with_reducible first | exact HB.o | apply qAl)⟩
        subst bU
        replace H : (qAc.l1 k3 (wrap64 (aH + 1)) l0_0 a0_1 l0_2 l0_3) = some r := by rw [if_pos rfl] at H; exact H
        have H' := am H
        clear H
        obtain ⟨-, -, b7⟩ := c3_ wr aA.o
        have aV : 0 ≤ aH := od (by assumption)
        have aY : aH < (l0_2.length : Int) := od (by assumption)
        obtain ⟨bL, az, aJ⟩ := Kd.at_int au.o aH aV aY
        cases az
        replace aJ := (HB.o.cell (World.block_lt_of_cell? w _ aJ)).trans aJ
        replace aV := eq_true aV
        replace aY := eq_true aY
        go_wp2_with ((with_reducible refine qAi (f := 110) rfl ?_); refine gL 64 Tryz.func110 #[.int .i64 (rd l0_2 aH)] ?_; (with_reducible refine (qBf.calls (rd l0_2 aH) true _ bu.o).mono ?_); rintro e w' ⟨rfl, ⟨nd, rfl⟩⟩; refine ⟨_, rfl, ?_⟩)
        go_roundg k3
        case measure => have := bB.o; have := bC.o; have := bO.o; omega
        case rel => exact ⟨(wrap64 (aH + 1)), (by rfl), H', ⟨by have := bB.o; have := bC.o; have := bO.o; omega⟩, ⟨by (with_reducible repeat (refine qBr ?_ _)); exact aA.o⟩, ⟨by repeat (with_reducible first | exact HB.o | apply qAl)⟩⟩
       rw [if_neg bE] at H
       replace bE := d0 bE
       have H' := am H
       clear H
       obtain ⟨ab, ac, ad, ae⟩ := c4_ wr aA.o
       obtain ⟨aj, ak, al, an⟩ := z4_ aA.o
       go_wp2
       go_loopg [5] k3 (fun kq v5 w' => ∃ (aC : Int), v5 = .int .i64 aC ∧ qAa (qAc.l2 kq aC l0_0 a0_1 l0_2 l0_3 = some r) ∧ qAa (kq ≤ k3) ∧ qAa (w'.heap[a4]? = some (.cells #[(.slice aO l0_0.length aR), .int .i64 a0_1, (.slice aP l0_2.length aS), (.slice aQ l0_3.length aT)] 98 (0, 0))) ∧ qAa (Below w.heap.size w w'))
       case atStart => exact ⟨(0), (by rfl), H', ⟨Nat.le_refl _⟩, ⟨by exact aA.o⟩, ⟨by exact HB.o⟩⟩
       case round =>
        clear H'
        obtain ⟨aC, rfl, HA, bz, aA, HB⟩ := hrel
        cases gk with
        | zero => exact absurd HA.o (by simp [qAc.l2])
        | succ k4 =>
         have H := HA.o
         clear HA
         simp only [qAc.l2] at H
         by_cases bF : aC < (l0_3.length : Int)
         rotate_left
         ·rw [if_neg bF] at H
          replace bF := d0 bF
          obtain rfl := Option.some.inj H
          obtain ⟨-, -, -, bb⟩ := c4_ wr aA.o
          go_wp2
          go_ret
          exact ⟨by rfl, by exact HB.o⟩
         rw [if_pos bF] at H
         replace bF := d1 bF
         obtain ⟨bV, H⟩ := gd H
         replace bV := d1 bV
         replace H := bm H
         obtain ⟨aq, bJ, H⟩ := H
         replace H : (if aq = true then (qAc.l2 k4 (wrap64 (aC + 1)) l0_0 a0_1 l0_2 l0_3) else (some false)) = some r := H
         have bw := am bJ
         clear bJ
         by_cases bW : aq = true
         rotate_left
         ·replace bW := Bool.eq_false_iff.mpr bW
          subst bW
          replace H : (some false) = some r := by rw [if_neg (show ¬ (false = true) by decide)] at H; exact H
          obtain rfl := Option.some.inj H
          obtain ⟨-, -, -, ba⟩ := c4_ wr aA.o
          have aW : 0 ≤ aC := od (by assumption)
          have aZ : aC < (l0_3.length : Int) := od (by assumption)
          obtain ⟨bM, bA, aK, aL, aM, aN⟩ := qBK av.o aC aW aZ
          cases bA
          replace aK := (HB.o.cell (World.block_lt_of_cell? w _ aK)).trans aK
          replace aL := (HB.o.cell (World.block_lt_of_cell? w _ aL)).trans aL
          replace aM := (HB.o.cell (World.block_lt_of_cell? w _ aM)).trans aM
          replace aN := (HB.o.cell (World.block_lt_of_cell? w _ aN)).trans aN
          replace aW := eq_true aW
          replace aZ := eq_true aZ
          go_wp2_with ((with_reducible refine qAi (f := 111) rfl ?_); refine gL 78 Tryz.func111 #[.agg #[.int .i64 ((qAv l0_3 aC).f0), .int .i64 ((qAv l0_3 aC).f1), .int .i64 ((qAv l0_3 aC).f2.f0), .int .u64 ((qAv l0_3 aC).f2.f1)]] ?_; (with_reducible refine (qBh.calls ((qAv l0_3 aC).f0) ((qAv l0_3 aC).f1) ((qAv l0_3 aC).f2.f0) ((qAv l0_3 aC).f2.f1) false _ bw.o).mono ?_); rintro e cI ⟨rfl, hb⟩; refine ⟨_, rfl, ?_⟩; have n_ := am (qAe HB.o hb); clear aA HB; have HB := n_; clear n_; (skip))
          go_ret
          exact ⟨by rfl, by exact HB.o⟩
         subst bW
         replace H : (qAc.l2 k4 (wrap64 (aC + 1)) l0_0 a0_1 l0_2 l0_3) = some r := by rw [if_pos rfl] at H; exact H
         have H' := am H
         clear H
         obtain ⟨-, -, -, b9⟩ := c4_ wr aA.o
         have aW : 0 ≤ aC := od (by assumption)
         have aZ : aC < (l0_3.length : Int) := od (by assumption)
         obtain ⟨bM, bA, aK, aL, aM, aN⟩ := qBK av.o aC aW aZ
         cases bA
         replace aK := (HB.o.cell (World.block_lt_of_cell? w _ aK)).trans aK
         replace aL := (HB.o.cell (World.block_lt_of_cell? w _ aL)).trans aL
         replace aM := (HB.o.cell (World.block_lt_of_cell? w _ aM)).trans aM
         replace aN := (HB.o.cell (World.block_lt_of_cell? w _ aN)).trans aN
         replace aW := eq_true aW
         replace aZ := eq_true aZ
         go_wp2_with ((with_reducible refine qAi (f := 111) rfl ?_); refine gL 78 Tryz.func111 #[.agg #[.int .i64 ((qAv l0_3 aC).f0), .int .i64 ((qAv l0_3 aC).f1), .int .i64 ((qAv l0_3 aC).f2.f0), .int .u64 ((qAv l0_3 aC).f2.f1)]] ?_; (with_reducible refine (qBh.calls ((qAv l0_3 aC).f0) ((qAv l0_3 aC).f1) ((qAv l0_3 aC).f2.f0) ((qAv l0_3 aC).f2.f1) true _ bw.o).mono ?_); rintro e cH ⟨rfl, hb⟩; refine ⟨_, rfl, ?_⟩; have n_ := a2 (qAk aA.o hb) (am (qAe HB.o hb)); clear aA HB; obtain ⟨aA, HB⟩ := n_; (skip))
         go_roundg k4
         case measure => have := bB.o; have := bC.o; have := bO.o; have := bz.o; omega
         case rel => exact ⟨(wrap64 (aC + 1)), (by rfl), H', ⟨by have := bB.o; have := bC.o; have := bO.o; have := bz.o; omega⟩, ⟨by exact aA.o⟩, ⟨by exact HB.o⟩⟩
def qAZ.l0 : Nat → List ByteArray → ByteArray → Int → Option (Int × Bool)
 | 0, _, _, _ => none
 | k + 1, x0, x1, x6 => if x6 < (x0.length : Int) then (if 0 ≤ x6 then (if (rdOf ByteArray.empty x0 x6).toList = x1.toList then (some (x6, true)) else (qAZ.l0 k x0 x1 (wrap64 (x6 + 1)))) else (none)) else (some (0, false))
def qAZ.f (k : Nat) (l0 : List ByteArray) (a1 : ByteArray) : Option (Int × Bool) := qAZ.l0 k l0 a1 0
theorem qAZ.calls (k : Nat) (A0 : Option Addr) (c0 : Nat) (l0 : List ByteArray) (a1 : ByteArray) (r1 : Int) (r2 : Bool) (w : World) (hr0 : Kd.C Kd.string w A0 l0.length l0) (hc0 : l0.length ≤ c0) (h : qAZ.f k l0 a1 = some (r1, r2)) :
  Calls Tryz.prog 112 #[.slice A0 l0.length c0, .string a1] w fun e w' => e = .returned (.tuple #[.int .i64 r1, .bool r2]) ∧ qAS w w' := by
 have aJ := am hr0
 clear hr0 hc0
 have H : (qAZ.l0 k l0 a1 0) = some (r1, r2) := h
 clear h
 have H' := am H
 clear H
 go_enter Tryz.func112, Tryz.ntmps112
 go_wp2
 go_loopg [6] k (fun kq v6 w' => ∃ (aA : Int), v6 = .int .i64 aA ∧ qAa (qAZ.l0 kq l0 a1 aA = some (r1, r2)) ∧ qAa (kq ≤ k) ∧ qAS w w')
 case atStart => exact ⟨(0), (by rfl), H', ⟨Nat.le_refl _⟩, by exact qAS.refl _⟩
 case round =>
  clear H'
  obtain ⟨aA, rfl, HA, aI, ⟨m1, rfl⟩⟩ := hrel
  cases gk with
  | zero => exact absurd HA.o (by simp [qAZ.l0])
  | succ k1 =>
   have H := HA.o
   clear HA
   simp only [qAZ.l0] at H
   by_cases c3 : aA < (l0.length : Int)
   rotate_left
   ·rw [if_neg c3] at H
    replace c3 := d0 c3
    simp only [Option.some.injEq, Prod.mk.injEq] at H
    obtain ⟨rfl, rfl⟩ := H
    go_wp2
    go_ret2
    exact ⟨by rfl, by repeat (first | exact qAS.refl _ | apply qAS.step)⟩
   rw [if_pos c3] at H
   replace c3 := d1 c3
   obtain ⟨c4, H⟩ := gd H
   replace c4 := d1 c4
   by_cases c5 : (rdOf ByteArray.empty l0 aA).toList = a1.toList
   ·rw [if_pos c5] at H
    have aH : ((rdOf ByteArray.empty l0 aA).toList == a1.toList) = true := beq_iff_eq.mpr c5
    clear c5
    simp only [Option.some.injEq, Prod.mk.injEq] at H
    obtain ⟨rfl, rfl⟩ := H
    have aB : 0 ≤ aA := od (by assumption)
    have aC : aA < (l0.length : Int) := od (by assumption)
    obtain ⟨aF, aE, aD⟩ := Kd.at_string aJ.o aA aB aC
    cases aE
    replace aB := eq_true aB
    replace aC := eq_true aC
    go_wp2
    go_ret2
    exact ⟨by rfl, by repeat (first | exact qAS.refl _ | apply qAS.step)⟩
   rw [if_neg c5] at H
   have aH : ((rdOf ByteArray.empty l0 aA).toList == a1.toList) = false := bf c5
   have H' := am H
   clear H
   have aB : 0 ≤ aA := od (by assumption)
   have aC : aA < (l0.length : Int) := od (by assumption)
   obtain ⟨aF, aE, aD⟩ := Kd.at_string aJ.o aA aB aC
   cases aE
   replace aB := eq_true aB
   replace aC := eq_true aC
   go_wp2
   go_roundg k1
   case measure => have := aI.o; omega
   case rel => exact ⟨(wrap64 (aA + 1)), (by rfl), H', ⟨by have := aI.o; omega⟩, by repeat (first | exact qAS.refl _ | apply qAS.step)⟩
def qB4.f (k : Nat) (l0 : List ByteArray) (a1 : ByteArray) : Option (Bool) := (qAZ.f k l0 a1).bind fun aA => (some aA.2)
theorem qB4.calls (k : Nat) (A0 : Option Addr) (c0 : Nat) (l0 : List ByteArray) (a1 : ByteArray) (r : Bool) (w : World) (hr0 : Kd.C Kd.string w A0 l0.length l0) (hc0 : l0.length ≤ c0) (h : qB4.f k l0 a1 = some r) :
  Calls Tryz.prog 39 #[.slice A0 l0.length c0, .string a1] w fun e w' => e = .returned (.bool r) ∧ qAS w w' := by
 have aF := am hr0
 have aE := am hc0
 clear hr0 hc0
 have H : ((qAZ.f k l0 a1).bind fun aA => (some aA.2)) = some r := h
 clear h
 replace H := bm H
 obtain ⟨⟨aC, aB⟩, aD, H⟩ := H
 replace H : (some aB) = some r := H
 have A3 := am aD
 clear aD
 obtain rfl := Option.some.inj H
 go_enter Tryz.func39, Tryz.ntmps39
 go_wp2_with ((with_reducible refine qAi (f := 112) rfl ?_); refine gL 10 Tryz.func112 #[.slice A0 l0.length c0, .string a1] ?_; (with_reducible refine (qAZ.calls k _ _ l0 a1 aC aB _ ?side1 ?side2 A3.o).mono ?_); (case side1 => exact aF.o); (case side2 => exact aE.o); rintro e w' ⟨rfl, ⟨nd, rfl⟩⟩; refine ⟨_, rfl, ?_⟩)
 go_ret
 exact ⟨by rfl, by repeat (first | exact qAS.refl _ | apply qAS.step)⟩
def qAJ.j0 : Nat → Int → Bool → Option (Int)
 | 0, _, _ => none
 | k + 1, x4, x5 => if x5 = true then (some 1) else (if x4 = 10 then (some 2) else (some 0))
def qAJ.f (k : Nat) (a0_0 : Int) (a0_1 : Int) (a0_2 : Int) (a0_3 : Int) : Option (Int) := if a0_0 = 4 then (qAJ.j0 k a0_0 (a0_0 == 4)) else (qAJ.j0 k a0_0 (a0_0 == 5))
theorem qAJ.calls (k : Nat) (a0_0 : Int) (a0_1 : Int) (a0_2 : Int) (a0_3 : Int) (r : Int) (w : World) (h : qAJ.f k a0_0 a0_1 a0_2 a0_3 = some r) :
  Calls Tryz.prog 113 #[.agg #[.int .i64 a0_0, .int .i64 a0_1, .int .i64 a0_2, .int .u64 a0_3]] w fun e w' => e = .returned (.int .i64 r) ∧ Below w.heap.size w w' := by
 have HB := am (Below.refl w.heap.size w)
 have H : (if a0_0 = 4 then (qAJ.j0 k a0_0 (a0_0 == 4)) else (qAJ.j0 k a0_0 (a0_0 == 5))) = some r := h
 clear h
 have aM := am H
 clear H
 go_enter Tryz.func113, Tryz.ntmps113
 go_upto_if 5 with ((with_reducible refine qAK (N := 1) rfl ?_); refine bx 1 #[.int .i64 a0_0, .int .i64 a0_1, .int .i64 a0_2, .int .u64 a0_3] 172 ?_; intro aL hg w3 hbox hb; have n_ := a2 (qAe HB.o hb) (am (hbox)); clear HB; obtain ⟨HB, aA⟩ := n_; clear hb hbox hg; obtain ⟨aD, aE, aF, aG⟩ := c4_ w3 aA.o; obtain ⟨aH, aI, aJ, aK⟩ := z4_ aA.o)
 (skip)
 go_cut [5] (fun v5 wc => ∃ (kq : Nat) (aB : Bool), v5 = .bool aB ∧ qAa (qAJ.j0 kq a0_0 aB = some r) ∧ qAa (kq ≤ k) ∧ qAa (wc.heap[aL]? = some (.cells #[.int .i64 a0_0, .int .i64 a0_1, .int .i64 a0_2, .int .u64 a0_3] 172 (0, 0))) ∧ qAa (Below w.heap.size w wc))
 case first =>
  have H := aM.o
  clear aM
  by_cases c5 : a0_0 = 4
  rotate_left
  ·rw [if_neg c5] at H
   have aC : (a0_0 == 4) = false := bf c5
   (rw [aC])
   have H' := am H
   clear H
   go_wp2
   go_meet
   case rel => exact ⟨_, (a0_0 == 5), (by rfl), H', ⟨by omega⟩, ⟨by exact aA.o⟩, ⟨by exact HB.o⟩⟩
  rw [if_pos c5] at H
  have aC : (a0_0 == 4) = true := beq_iff_eq.mpr c5
  clear c5
  (rw [aC])
  have H' := am H
  clear H
  go_wp2
  go_meet
  case rel => exact ⟨_, (a0_0 == 4), (by (simp [*]; done)), H', ⟨by omega⟩, ⟨by exact aA.o⟩, ⟨by exact HB.o⟩⟩
 case rest =>
  clear aM
  obtain ⟨kq, aB, rfl, HA, aO, aA, HB⟩ := hcut
  cases kq with
  | zero => exact absurd HA.o (by simp [qAJ.j0])
  | succ aP =>
   have H := HA.o
   clear HA
   simp only [qAJ.j0] at H
   by_cases c6 : aB = true
   ·subst c6
    replace H : (some 1) = some r := by rw [if_pos rfl] at H; exact H
    obtain rfl := Option.some.inj H
    go_wp2
    go_ret
    exact ⟨by rfl, by exact HB.o⟩
   replace c6 := Bool.eq_false_iff.mpr c6
   subst c6
   replace H : (if a0_0 = 10 then (some 2) else (some 0)) = some r := by rw [if_neg (show ¬ (false = true) by decide)] at H; exact H
   by_cases c7 : a0_0 = 10
   ·rw [if_pos c7] at H
    have aN : (a0_0 == 10) = true := beq_iff_eq.mpr c7
    clear c7
    obtain rfl := Option.some.inj H
    go_wp2
    go_ret
    exact ⟨by rfl, by exact HB.o⟩
   rw [if_neg c7] at H
   have aN : (a0_0 == 10) = false := bf c7
   obtain rfl := Option.some.inj H
   go_wp2
   go_ret
   exact ⟨by rfl, by exact HB.o⟩
mutual
def qAp.l0 : Nat → Int → Int → ByteArray → List (S95) → List (S100) → List (S103) → Option (Bool)
 | 0, _, _, _, _, _, _ => none
 | k + 1, x3, x4, aP, aQ, aK, aJ => if x4 < (aK.length : Int) then (if 0 ≤ x4 then (qAp.l1 k x3 x4 ((qAz aK x4).f1.f2) 0 aP aQ aK aJ) else (none)) else (some (x3 == (aJ.length : Int)))
def qAp.l1 : Nat → Int → Int → List (S172) → Int → ByteArray → List (S95) → List (S100) → List (S103) → Option (Bool)
 | 0, _, _, _, _, _, _, _, _ => none
 | k + 1, x3, x4, x5, x6, aP, aQ, aK, aJ => if x6 < (x5.length : Int) then (if 0 ≤ x6 then ((qAJ.f k ((qAv x5 x6).f0) ((qAv x5 x6).f1) ((qAv x5 x6).f2.f0) ((qAv x5 x6).f2.f1)).bind fun aT => (if aT = 0 then (qAp.l1 k x3 x4 x5 (wrap64 (x6 + 1)) aP aQ aK aJ) else (if ((qAv x5 x6).f1) = 0 then (qAp.j2 k x3 x4 x5 x6 aT (x3 == (aJ.length : Int)) aP aQ aK aJ) else (qAp.j2 k x3 x4 x5 x6 aT true aP aQ aK aJ)))) else (none)) else (qAp.l0 k x3 (wrap64 (x4 + 1)) aP aQ aK aJ)
def qAp.j2 : Nat → Int → Int → List (S172) → Int → Int → Bool → ByteArray → List (S95) → List (S100) → List (S103) → Option (Bool)
 | 0, _, _, _, _, _, _, _, _, _, _ => none
 | k + 1, x3, x4, x5, x6, x7, cx, aP, aQ, aK, aJ => if cx = true then (some false) else (if 0 ≤ x3 then (if x3 < (aJ.length : Int) then (if ((qAj aJ x3).f0) = x4 then (if ((qAj aJ x3).f1) = x6 then (if ((qAj aJ x3).f2) = x7 then (qAp.l1 k (wrap64 (x3 + 1)) x4 x5 (wrap64 (x6 + 1)) aP aQ aK aJ) else (some false)) else (some false)) else (some false)) else (none)) else (none))
end
def qAp.f (k : Nat) (a0_0 : ByteArray) (l0_1 : List (S95)) (l0_2 : List (S100)) (l0_3 : List (S103)) : Option (Bool) := qAp.l0 k 0 0 a0_0 l0_1 l0_2 l0_3
theorem qAp.calls (k : Nat) (a0_0 : ByteArray) (ag : Option Addr) (ai : Nat) (l0_1 : List (S95)) (ap : Option Addr) (aj : Nat) (l0_2 : List (S100)) (ah : Option Addr) (ak : Nat) (l0_3 : List (S103)) (r : Bool) (w : World) (hr0_1 : Kd.C k95 w ag l0_1.length l0_1) (hc0_1 : l0_1.length ≤ ai) (hr0_2 : Kd.C k100 w ap l0_2.length l0_2) (hc0_2 : l0_2.length ≤ aj) (hr0_3 : Kd.C k103 w ah l0_3.length l0_3) (hc0_3 : l0_3.length ≤ ak) (h : qAp.f k a0_0 l0_1 l0_2 l0_3 = some r) :
  Calls Tryz.prog 40 #[.agg #[.string a0_0, .slice ag l0_1.length ai, .slice ap l0_2.length aj, .slice ah l0_3.length ak]] w fun e w' => e = .returned (.bool r) ∧ Below w.heap.size w w' := by
 clear hr0_1 hc0_1
 have bW := am hr0_2
 clear hr0_2 hc0_2
 have ad := am hr0_3
 clear hr0_3 hc0_3
 have HB := am (Below.refl w.heap.size w)
 have H : (qAp.l0 k 0 0 a0_0 l0_1 l0_2 l0_3) = some r := h
 clear h
 have H' := am H
 clear H
 go_enter Tryz.func40, Tryz.ntmps40
 go_wp2_with ((with_reducible refine qAK (N := 1) rfl ?_); (try (refine qBO (by rfl) ?_; dsimp only)); refine bx 1 #[.string a0_0, .slice ag l0_1.length ai, .slice ap l0_2.length aj, .slice ah l0_3.length ak] 26 ?_; intro ae hg w2 hbox hb; have n_ := a2 (qAe HB.o hb) (am (hbox)); clear HB; obtain ⟨HB, aC⟩ := n_; clear hb hbox hg)
 go_loopg [3, 4] k (fun kq v3 v4 w' => ∃ (bC : Int) (aA : Int), v3 = .int .i64 bC ∧ v4 = .int .i64 aA ∧ qAa (qAp.l0 kq bC aA a0_0 l0_1 l0_2 l0_3 = some r) ∧ qAa (kq ≤ k) ∧ qAa (w'.heap[ae]? = some (.cells #[.string a0_0, (.slice ag l0_1.length ai), (.slice ap l0_2.length aj), (.slice ah l0_3.length ak)] 26 (0, 0))) ∧ qAa (Below w.heap.size w w'))
 case atStart => exact ⟨(0), (0), (by rfl), (by rfl), H', ⟨Nat.le_refl _⟩, ⟨by exact aC.o⟩, ⟨by exact HB.o⟩⟩
 case round =>
  clear H'
  obtain ⟨bC, aA, rfl, rfl, HA, bD, aC, HB⟩ := hrel
  cases gk with
  | zero => exact absurd HA.o (by simp [qAp.l0])
  | succ k1 =>
   have H := HA.o
   clear HA
   simp only [qAp.l0] at H
   by_cases c3 : aA < (l0_2.length : Int)
   rotate_left
   ·rw [if_neg c3] at H
    replace c3 := d0 c3
    obtain rfl := Option.some.inj H
    obtain ⟨-, -, cH, cI⟩ := c4_ wr aC.o
    go_wp2
    go_ret
    exact ⟨by rfl, by exact HB.o⟩
   rw [if_pos c3] at H
   replace c3 := d1 c3
   obtain ⟨c4, H⟩ := gd H
   replace c4 := d1 c4
   have H' := am H
   clear H
   obtain ⟨bJ, bK, bL, bM⟩ := c4_ wr aC.o
   obtain ⟨bN, bO, bP, bQ⟩ := z4_ aC.o
   have bA : 0 ≤ aA := od (by assumption)
   have bB : aA < (l0_2.length : Int) := od (by assumption)
   obtain ⟨bF, cc, cf, cd, cg, ce, ch, cl, aZ, a4, a5, a6, a7, au, aq, av, ar, aw, af⟩ := qCV bW.o aA bA bB
   cases cl
   replace aZ := (HB.o.cell (World.block_lt_of_cell? w _ aZ)).trans aZ
   replace a4 := (HB.o.cell (World.block_lt_of_cell? w _ a4)).trans a4
   replace a5 := (HB.o.cell (World.block_lt_of_cell? w _ a5)).trans a5
   replace a6 := (HB.o.cell (World.block_lt_of_cell? w _ a6)).trans a6
   replace a7 := (HB.o.cell (World.block_lt_of_cell? w _ a7)).trans a7
   clear aq au ar av
   have aY := am af
   clear af aw
   replace bA := eq_true bA
   replace bB := eq_true bB
   go_wp2
   go_loopg [3, 6] k1 (fun kq v3 v6 w' => ∃ (aD : Int) (aB : Int), v3 = .int .i64 aD ∧ v6 = .int .i64 aB ∧ qAa (qAp.l1 kq aD aA ((qAz l0_2 aA).f1.f2) aB a0_0 l0_1 l0_2 l0_3 = some r) ∧ qAa (kq ≤ k1) ∧ qAa (w'.heap[ae]? = some (.cells #[.string a0_0, (.slice ag l0_1.length ai), (.slice (some bF) l0_2.length aj), (.slice ah l0_3.length ak)] 26 (0, 0))) ∧ qAa (Below w.heap.size w w'))
   case atStart => exact ⟨(bC), (0), (by rfl), (by rfl), H', ⟨Nat.le_refl _⟩, ⟨by exact aC.o⟩, ⟨by exact HB.o⟩⟩
   case round =>
    clear H'
    obtain ⟨aD, aB, rfl, rfl, HA, bE, aC, HB⟩ := hrel
    cases gk with
    | zero => exact absurd HA.o (by simp [qAp.l1])
    | succ k2 =>
     have H := HA.o
     clear HA
     simp only [qAp.l1] at H
     by_cases c6 : aB < (((qAz l0_2 aA).f1.f2).length : Int)
     rotate_left
     ·rw [if_neg c6] at H
      replace c6 := d0 c6
      have H' := am H
      clear H
      go_wp2
      go_roundg k2
      case measure => have := bD.o; have := bE.o; omega
      case rel => exact ⟨(aD), (wrap64 (aA + 1)), (by rfl), (by rfl), H', ⟨by have := bD.o; have := bE.o; omega⟩, ⟨by exact aC.o⟩, ⟨by exact HB.o⟩⟩
     rw [if_pos c6] at H
     replace c6 := d1 c6
     obtain ⟨c7, H⟩ := gd H
     replace c7 := d1 c7
     replace H := bm H
     obtain ⟨aT, cm, H⟩ := H
     replace H : (if aT = 0 then (qAp.l1 k2 aD aA ((qAz l0_2 aA).f1.f2) (wrap64 (aB + 1)) a0_0 l0_1 l0_2 l0_3) else (if ((qAv ((qAz l0_2 aA).f1.f2) aB).f1) = 0 then (qAp.j2 k2 aD aA ((qAz l0_2 aA).f1.f2) aB aT (aD == (l0_3.length : Int)) a0_0 l0_1 l0_2 l0_3) else (qAp.j2 k2 aD aA ((qAz l0_2 aA).f1.f2) aB aT true a0_0 l0_1 l0_2 l0_3))) = some r := H
     have A8 := am cm
     clear cm
     by_cases c9 : aT = 0
     ·rw [if_pos c9] at H
      have b5 : (aT == 0) = true := beq_iff_eq.mpr c9
      clear c9
      have H' := am H
      clear H
      have aa : 0 ≤ aB := od (by assumption)
      have ab : aB < (((qAz l0_2 aA).f1.f2).length : Int) := od (by assumption)
      obtain ⟨al, bH, aL, aM, aN, aO⟩ := qBK aY.o aB aa ab
      cases bH
      replace aL := (HB.o.cell (World.block_lt_of_cell? w _ aL)).trans aL
      replace aM := (HB.o.cell (World.block_lt_of_cell? w _ aM)).trans aM
      replace aN := (HB.o.cell (World.block_lt_of_cell? w _ aN)).trans aN
      replace aO := (HB.o.cell (World.block_lt_of_cell? w _ aO)).trans aO
      replace aa := eq_true aa
      replace ab := eq_true ab
      go_wp2_with ((with_reducible refine qAi (f := 113) rfl ?_); refine gL 33 Tryz.func113 #[.agg #[.int .i64 ((qAv ((qAz l0_2 aA).f1.f2) aB).f0), .int .i64 ((qAv ((qAz l0_2 aA).f1.f2) aB).f1), .int .i64 ((qAv ((qAz l0_2 aA).f1.f2) aB).f2.f0), .int .u64 ((qAv ((qAz l0_2 aA).f1.f2) aB).f2.f1)]] ?_; (with_reducible refine (qAJ.calls k2 ((qAv ((qAz l0_2 aA).f1.f2) aB).f0) ((qAv ((qAz l0_2 aA).f1.f2) aB).f1) ((qAv ((qAz l0_2 aA).f1.f2) aB).f2.f0) ((qAv ((qAz l0_2 aA).f1.f2) aB).f2.f1) aT _ A8.o).mono ?_); rintro e cy ⟨rfl, hb⟩; refine ⟨_, rfl, ?_⟩; have n_ := a2 (qAk aC.o hb) (am (qAe HB.o hb)); clear aC HB; obtain ⟨aC, HB⟩ := n_; (skip))
      go_roundg k2
      case measure => have := bD.o; have := bE.o; omega
      case rel => exact ⟨(aD), (wrap64 (aB + 1)), (by rfl), (by rfl), H', ⟨by have := bD.o; have := bE.o; omega⟩, ⟨by exact aC.o⟩, ⟨by exact HB.o⟩⟩
     rw [if_neg c9] at H
     have b5 : (aT == 0) = false := bf c9
     have ck : (aT != 0) = true := bne_iff_ne.mpr c9
     have bG := am H
     clear H
     have aa : 0 ≤ aB := od (by assumption)
     have ab : aB < (((qAz l0_2 aA).f1.f2).length : Int) := od (by assumption)
     obtain ⟨al, bH, aL, aM, aN, aO⟩ := qBK aY.o aB aa ab
     cases bH
     replace aL := (HB.o.cell (World.block_lt_of_cell? w _ aL)).trans aL
     replace aM := (HB.o.cell (World.block_lt_of_cell? w _ aM)).trans aM
     replace aN := (HB.o.cell (World.block_lt_of_cell? w _ aN)).trans aN
     replace aO := (HB.o.cell (World.block_lt_of_cell? w _ aO)).trans aO
     replace aa := eq_true aa
     replace ab := eq_true ab
     go_upto_region 11 with ((with_reducible refine qAi (f := 113) rfl ?_); refine gL 33 Tryz.func113 #[.agg #[.int .i64 ((qAv ((qAz l0_2 aA).f1.f2) aB).f0), .int .i64 ((qAv ((qAz l0_2 aA).f1.f2) aB).f1), .int .i64 ((qAv ((qAz l0_2 aA).f1.f2) aB).f2.f0), .int .u64 ((qAv ((qAz l0_2 aA).f1.f2) aB).f2.f1)]] ?_; (with_reducible refine (qAJ.calls k2 ((qAv ((qAz l0_2 aA).f1.f2) aB).f0) ((qAv ((qAz l0_2 aA).f1.f2) aB).f1) ((qAv ((qAz l0_2 aA).f1.f2) aB).f2.f0) ((qAv ((qAz l0_2 aA).f1.f2) aB).f2.f1) aT _ A8.o).mono ?_); rintro e cs ⟨rfl, hb⟩; refine ⟨_, rfl, ?_⟩; have n_ := a2 (qAk aC.o hb) (am (qAe HB.o hb)); clear aC HB; obtain ⟨aC, HB⟩ := n_; (skip))
     (skip)
     go_cut [48] (fun cr wc => ∃ (kq : Nat) (a9 : Bool), cr = .bool a9 ∧ qAa (qAp.j2 kq aD aA ((qAz l0_2 aA).f1.f2) aB aT a9 a0_0 l0_1 l0_2 l0_3 = some r) ∧ qAa (kq ≤ k2) ∧ qAa (wc.heap[ae]? = some (.cells #[.string a0_0, (.slice ag l0_1.length ai), (.slice (some bF) l0_2.length aj), (.slice ah l0_3.length ak)] 26 (0, 0))) ∧ qAa (Below w.heap.size w wc))
     case first =>
      have H := bG.o
      clear bG
      by_cases bX : ((qAv ((qAz l0_2 aA).f1.f2) aB).f1) = 0
      rotate_left
      ·rw [if_neg bX] at H
       have bY : (((qAv ((qAz l0_2 aA).f1.f2) aB).f1) != 0) = true := bne_iff_ne.mpr bX
       (skip)
       have H' := am H
       clear H
       have bR : 0 ≤ aB := od (by assumption)
       have bS : aB < (((qAz l0_2 aA).f1.f2).length : Int) := od (by assumption)
       obtain ⟨an, bI, ax, aS, ay, az⟩ := qBK aY.o aB bR bS
       obtain rfl : al = an := (by injection bI)
       replace aS := (HB.o.cell (World.block_lt_of_cell? w _ aS)).trans aS
       go_wp2
       go_meet
       case rel => exact ⟨_, (true), (by rfl), H', ⟨by have := bD.o; have := bE.o; (omega)⟩, ⟨by exact aC.o⟩, ⟨by exact HB.o⟩⟩
      rw [if_pos bX] at H
      have bY : (((qAv ((qAz l0_2 aA).f1.f2) aB).f1) != 0) = false := bn bX
      clear bX
      (skip)
      have H' := am H
      clear H
      have bR : 0 ≤ aB := od (by assumption)
      have bS : aB < (((qAz l0_2 aA).f1.f2).length : Int) := od (by assumption)
      obtain ⟨an, bI, ax, aS, ay, az⟩ := qBK aY.o aB bR bS
      obtain rfl : al = an := (by injection bI)
      replace aS := (HB.o.cell (World.block_lt_of_cell? w _ aS)).trans aS
      obtain ⟨-, -, -, ba⟩ := c4_ cs aC.o
      go_wp2
      go_meet
      case rel => exact ⟨_, (aD == (l0_3.length : Int)), (by rfl), H', ⟨by have := bD.o; have := bE.o; (omega)⟩, ⟨by exact aC.o⟩, ⟨by exact HB.o⟩⟩
     case rest =>
      clear bG
      obtain ⟨kq, a9, rfl, HA, bV, aC, HB⟩ := hcut
      cases kq with
      | zero => exact absurd HA.o (by simp [qAp.j2])
      | succ b6 =>
       have H := HA.o
       clear HA
       simp only [qAp.j2] at H
       by_cases b7 : a9 = true
       ·subst b7
        replace H : (some false) = some r := by rw [if_pos rfl] at H; exact H
        obtain rfl := Option.some.inj H
        go_wp2
        go_ret
        exact ⟨by rfl, by exact HB.o⟩
       replace b7 := Bool.eq_false_iff.mpr b7
       subst b7
       replace H : (if 0 ≤ aD then (if aD < (l0_3.length : Int) then (if ((qAj l0_3 aD).f0) = aA then (if ((qAj l0_3 aD).f1) = aB then (if ((qAj l0_3 aD).f2) = aT then (qAp.l1 b6 (wrap64 (aD + 1)) aA ((qAz l0_2 aA).f1.f2) (wrap64 (aB + 1)) a0_0 l0_1 l0_2 l0_3) else (some false)) else (some false)) else (some false)) else (none)) else (none)) = some r := by rw [if_neg (show ¬ (false = true) by decide)] at H; exact H
       obtain ⟨b8, H⟩ := gd H
       replace b8 := d1 b8
       obtain ⟨b9, H⟩ := gd H
       replace b9 := d1 b9
       by_cases bT : ((qAj l0_3 aD).f0) = aA
       rotate_left
       ·rw [if_neg bT] at H
        have bZ : (((qAj l0_3 aD).f0) != aA) = true := bne_iff_ne.mpr bT
        obtain rfl := Option.some.inj H
        obtain ⟨-, -, -, cB⟩ := c4_ wc aC.o
        have aV : 0 ≤ aD := od (by assumption)
        have aW : aD < (l0_3.length : Int) := od (by assumption)
        obtain ⟨ao, ac, aE, aF, aG, aH, aI⟩ := qCl ad.o aD aV aW
        cases ac
        replace aE := (HB.o.cell (World.block_lt_of_cell? w _ aE)).trans aE
        replace aF := (HB.o.cell (World.block_lt_of_cell? w _ aF)).trans aF
        replace aG := (HB.o.cell (World.block_lt_of_cell? w _ aG)).trans aG
        replace aH := (HB.o.cell (World.block_lt_of_cell? w _ aH)).trans aH
        replace aI := (HB.o.cell (World.block_lt_of_cell? w _ aI)).trans aI
        replace aV := eq_true aV
        replace aW := eq_true aW
        go_wp2_with ((with_reducible refine qAK (N := 8) rfl ?_); (try (refine qBO (by rfl) ?_; dsimp only)); refine bx 8 #[.int .i64 0, .int .i64 0, .int .i64 0, .string ⟨#[]⟩, .string ⟨#[]⟩] 103 ?_; intro aX hg cw hbox hb; have n_ := a2 (qAe HB.o hb) (a2 (hbox) (am (by rw [hg]; exact (qAf HB.o) : w.heap.size ≤ aX))); clear aC HB; obtain ⟨HB, aU, a8⟩ := n_; clear hb hbox hg; obtain ⟨cC, cD, cE, cF, cG⟩ := c5_ cw aU.o; obtain ⟨cY, cZ, c0, c1, ca⟩ := z5_ aU.o)
        go_ret
        exact ⟨by rfl, by repeat (with_reducible first | exact HB.o | refine qA1 ?_ a8.o)⟩
       rw [if_pos bT] at H
       have cp : (((qAj l0_3 aD).f0) == aA) = true := beq_iff_eq.mpr bT
       have bZ : (((qAj l0_3 aD).f0) != aA) = false := bn bT
       clear bT
       by_cases bU : ((qAj l0_3 aD).f1) = aB
       rotate_left
       ·rw [if_neg bU] at H
        have b0 : (((qAj l0_3 aD).f1) != aB) = true := bne_iff_ne.mpr bU
        obtain rfl := Option.some.inj H
        obtain ⟨-, -, -, br⟩ := c4_ wc aC.o
        have aV : 0 ≤ aD := od (by assumption)
        have aW : aD < (l0_3.length : Int) := od (by assumption)
        obtain ⟨ao, ac, aE, aF, aG, aH, aI⟩ := qCl ad.o aD aV aW
        cases ac
        replace aE := (HB.o.cell (World.block_lt_of_cell? w _ aE)).trans aE
        replace aF := (HB.o.cell (World.block_lt_of_cell? w _ aF)).trans aF
        replace aG := (HB.o.cell (World.block_lt_of_cell? w _ aG)).trans aG
        replace aH := (HB.o.cell (World.block_lt_of_cell? w _ aH)).trans aH
        replace aI := (HB.o.cell (World.block_lt_of_cell? w _ aI)).trans aI
        replace aV := eq_true aV
        replace aW := eq_true aW
        go_wp2_with ((with_reducible refine qAK (N := 8) rfl ?_); (try (refine qBO (by rfl) ?_; dsimp only)); refine bx 8 #[.int .i64 0, .int .i64 0, .int .i64 0, .string ⟨#[]⟩, .string ⟨#[]⟩] 103 ?_; intro aX hg cv hbox hb; have n_ := a2 (qAe HB.o hb) (a2 (hbox) (am (by rw [hg]; exact (qAf HB.o) : w.heap.size ≤ aX))); clear aC HB; obtain ⟨HB, aU, a8⟩ := n_; clear hb hbox hg; obtain ⟨bs, bu, bw, bz, cA⟩ := c5_ cv aU.o; obtain ⟨cT, cU, cV, cW, cX⟩ := z5_ aU.o)
        go_ret
        exact ⟨by rfl, by repeat (with_reducible first | exact HB.o | refine qA1 ?_ a8.o)⟩
       rw [if_pos bU] at H
       have cq : (((qAj l0_3 aD).f1) == aB) = true := beq_iff_eq.mpr bU
       have b0 : (((qAj l0_3 aD).f1) != aB) = false := bn bU
       clear bU
       by_cases b1 : ((qAj l0_3 aD).f2) = aT
       rotate_left
       ·rw [if_neg b1] at H
        have b2 : (((qAj l0_3 aD).f2) != aT) = true := bne_iff_ne.mpr b1
        obtain rfl := Option.some.inj H
        obtain ⟨-, -, -, bj⟩ := c4_ wc aC.o
        have aV : 0 ≤ aD := od (by assumption)
        have aW : aD < (l0_3.length : Int) := od (by assumption)
        obtain ⟨ao, ac, aE, aF, aG, aH, aI⟩ := qCl ad.o aD aV aW
        cases ac
        replace aE := (HB.o.cell (World.block_lt_of_cell? w _ aE)).trans aE
        replace aF := (HB.o.cell (World.block_lt_of_cell? w _ aF)).trans aF
        replace aG := (HB.o.cell (World.block_lt_of_cell? w _ aG)).trans aG
        replace aH := (HB.o.cell (World.block_lt_of_cell? w _ aH)).trans aH
        replace aI := (HB.o.cell (World.block_lt_of_cell? w _ aI)).trans aI
        replace aV := eq_true aV
        replace aW := eq_true aW
        go_wp2_with ((with_reducible refine qAK (N := 8) rfl ?_); (try (refine qBO (by rfl) ?_; dsimp only)); refine bx 8 #[.int .i64 0, .int .i64 0, .int .i64 0, .string ⟨#[]⟩, .string ⟨#[]⟩] 103 ?_; intro aX hg cu hbox hb; have n_ := a2 (qAe HB.o hb) (a2 (hbox) (am (by rw [hg]; exact (qAf HB.o) : w.heap.size ≤ aX))); clear aC HB; obtain ⟨HB, aU, a8⟩ := n_; clear hb hbox hg; obtain ⟨bk, bl, bo, bp, bq⟩ := c5_ cu aU.o; obtain ⟨cO, cP, cQ, cR, cS⟩ := z5_ aU.o)
        go_ret
        exact ⟨by rfl, by repeat (with_reducible first | exact HB.o | refine qA1 ?_ a8.o)⟩
       rw [if_pos b1] at H
       have b2 : (((qAj l0_3 aD).f2) != aT) = false := bn b1
       clear b1
       have H' := am H
       clear H
       obtain ⟨-, -, -, bb⟩ := c4_ wc aC.o
       have aV : 0 ≤ aD := od (by assumption)
       have aW : aD < (l0_3.length : Int) := od (by assumption)
       obtain ⟨ao, ac, aE, aF, aG, aH, aI⟩ := qCl ad.o aD aV aW
       cases ac
       replace aE := (HB.o.cell (World.block_lt_of_cell? w _ aE)).trans aE
       replace aF := (HB.o.cell (World.block_lt_of_cell? w _ aF)).trans aF
       replace aG := (HB.o.cell (World.block_lt_of_cell? w _ aG)).trans aG
       replace aH := (HB.o.cell (World.block_lt_of_cell? w _ aH)).trans aH
       replace aI := (HB.o.cell (World.block_lt_of_cell? w _ aI)).trans aI
       replace aV := eq_true aV
       replace aW := eq_true aW
       go_wp2_with ((with_reducible refine qAK (N := 8) rfl ?_); (try (refine qBO (by rfl) ?_; dsimp only)); refine bx 8 #[.int .i64 0, .int .i64 0, .int .i64 0, .string ⟨#[]⟩, .string ⟨#[]⟩] 103 ?_; intro aX hg ct hbox hb; have n_ := a2 (qAk aC.o hb) (a2 (qAe HB.o hb) (a2 (hbox) (a2 (by rw [hg]; exact (qAf HB.o) : w.heap.size ≤ aX) (am (by rw [hg]; exact Nat.ne_of_lt (qBd aC.o) : ae ≠ aX))))); clear aC HB; obtain ⟨aC, HB, aU, a8, aR⟩ := n_; clear hb hbox hg; obtain ⟨bc, bd, bg, bh, bi⟩ := c5_ ct aU.o; obtain ⟨cJ, cK, cL, cM, cN⟩ := z5_ aU.o)
       go_roundg b6
       case measure => have := bD.o; have := bE.o; have := bV.o; omega
       case rel => exact ⟨(wrap64 (aD + 1)), (wrap64 (aB + 1)), (by rfl), (by rfl), H', ⟨by have := bD.o; have := bE.o; have := bV.o; omega⟩, ⟨by refine qA2 ?_ aR.o _; refine qA2 ?_ aR.o _; refine qA2 ?_ aR.o _; refine qA2 ?_ aR.o _; refine qA2 ?_ aR.o _; exact aC.o⟩, ⟨by repeat (with_reducible first | exact HB.o | refine qA1 ?_ a8.o)⟩⟩
mutual
def qA0.l0 : Nat → Int → ByteArray → List (S95) → List (S100) → List (S103) → Int → Int → Int → ByteArray → ByteArray → Option (Bool)
 | 0, _, _, _, _, _, _, _, _, _, _ => none
 | k + 1, x5, aP, aG, aH, aQ, aR, aS, aT, aU, aI => if x5 < (aG.length : Int) then (if 0 ≤ x5 then (if ((qBq aG x5).f0).toList = aI.toList then (some true) else (qA0.l0 k (wrap64 (x5 + 1)) aP aG aH aQ aR aS aT aU aI)) else (none)) else (some false)
def qA0.l1 : Nat → Int → ByteArray → List (S95) → List (S100) → List (S103) → Int → Int → Int → ByteArray → ByteArray → Option (Bool)
 | 0, _, _, _, _, _, _, _, _, _, _ => none
 | k + 1, x6, aP, aG, aH, aQ, aR, aS, aT, aU, aI => if x6 < (aH.length : Int) then (if 0 ≤ x6 then (if ((qAz aH x6).f0).toList = aI.toList then (some true) else (qA0.l1 k (wrap64 (x6 + 1)) aP aG aH aQ aR aS aT aU aI)) else (none)) else (some false)
end
def qA0.f (k : Nat) (a0_0 : ByteArray) (l0_1 : List (S95)) (l0_2 : List (S100)) (l0_3 : List (S103)) (a1_0 : Int) (a1_1 : Int) (a1_2 : Int) (a1_3 : ByteArray) (a1_4 : ByteArray) : Option (Bool) := if a1_2 = 1 then (qA0.l0 k 0 a0_0 l0_1 l0_2 l0_3 a1_0 a1_1 a1_2 a1_3 a1_4) else (qA0.l1 k 0 a0_0 l0_1 l0_2 l0_3 a1_0 a1_1 a1_2 a1_3 a1_4)
theorem qA0.calls (k : Nat) (a0_0 : ByteArray) (aZ : Option Addr) (ab : Nat) (l0_1 : List (S95)) (a9 : Option Addr) (ac : Nat) (l0_2 : List (S100)) (aa : Option Addr) (ad : Nat) (l0_3 : List (S103)) (a1_0 : Int) (a1_1 : Int) (a1_2 : Int) (a1_3 : ByteArray) (a1_4 : ByteArray) (r : Bool) (w : World) (hr0_1 : Kd.C k95 w aZ l0_1.length l0_1) (hc0_1 : l0_1.length ≤ ab) (hr0_2 : Kd.C k100 w a9 l0_2.length l0_2) (hc0_2 : l0_2.length ≤ ac) (hr0_3 : Kd.C k103 w aa l0_3.length l0_3) (hc0_3 : l0_3.length ≤ ad) (h : qA0.f k a0_0 l0_1 l0_2 l0_3 a1_0 a1_1 a1_2 a1_3 a1_4 = some r) :
  Calls Tryz.prog 41 #[.agg #[.string a0_0, .slice aZ l0_1.length ab, .slice a9 l0_2.length ac, .slice aa l0_3.length ad], .agg #[.int .i64 a1_0, .int .i64 a1_1, .int .i64 a1_2, .string a1_3, .string a1_4]] w fun e w' => e = .returned (.bool r) ∧ Below w.heap.size w w' := by
 have az := am hr0_1
 clear hr0_1 hc0_1
 have bA := am hr0_2
 clear hr0_2 hc0_2 hr0_3 hc0_3
 have HB := am (Below.refl w.heap.size w)
 have H : (if a1_2 = 1 then (qA0.l0 k 0 a0_0 l0_1 l0_2 l0_3 a1_0 a1_1 a1_2 a1_3 a1_4) else (qA0.l1 k 0 a0_0 l0_1 l0_2 l0_3 a1_0 a1_1 a1_2 a1_3 a1_4)) = some r := h
 clear h
 by_cases c3 : a1_2 = 1
 ·rw [if_pos c3] at H
  have bH : (a1_2 == 1) = true := beq_iff_eq.mpr c3
  have bI : (a1_2 != 1) = false := bn c3
  clear c3
  have H' := am H
  clear H
  go_enter Tryz.func41, Tryz.ntmps41
  go_wp2_with (first | ((with_reducible refine qAK (N := 2) rfl ?_); refine bx 2 #[.string a0_0, .slice aZ l0_1.length ab, .slice a9 l0_2.length ac, .slice aa l0_3.length ad] 26 ?_; intro ae hg w4 hbox hb; have n_ := a2 (qAe HB.o hb) (am (hbox)); clear HB; obtain ⟨HB, aA⟩ := n_; clear hb hbox hg) | ((with_reducible refine qAK (N := 3) rfl ?_); refine bx 3 #[.int .i64 a1_0, .int .i64 a1_1, .int .i64 a1_2, .string a1_3, .string a1_4] 103 ?_; intro af hg w5 hbox hb; have n_ := a2 (qAk aA.o hb) (a2 (qAe HB.o hb) (am (hbox))); clear aA HB; obtain ⟨aA, HB, aB⟩ := n_; clear hb hbox hg; obtain ⟨bL, bM, bN, bO, bP⟩ := c5_ w5 aB.o; obtain ⟨bQ, bR, bS, bT, bU⟩ := z5_ aB.o))
  repeat (go_quiet (fail))
  go_loopg [5] k (fun kq v5 w' => ∃ (aE : Int), v5 = .int .i64 aE ∧ qAa (qA0.l0 kq aE a0_0 l0_1 l0_2 l0_3 a1_0 a1_1 a1_2 a1_3 a1_4 = some r) ∧ qAa (kq ≤ k) ∧ qAa (w'.heap[ae]? = some (.cells #[.string a0_0, (.slice aZ l0_1.length ab), (.slice a9 l0_2.length ac), (.slice aa l0_3.length ad)] 26 (0, 0))) ∧ qAa (w'.heap[af]? = some (.cells #[.int .i64 a1_0, .int .i64 a1_1, .int .i64 a1_2, .string a1_3, .string a1_4] 103 (0, 0))) ∧ qAa (Below w.heap.size w w'))
  case atStart => exact ⟨(0), (by rfl), H', ⟨Nat.le_refl _⟩, ⟨by exact aA.o⟩, ⟨by exact aB.o⟩, ⟨by exact HB.o⟩⟩
  case round =>
   clear H'
   obtain ⟨aE, rfl, HA, bW, aA, aB, HB⟩ := hrel
   cases gk with
   | zero => exact absurd HA.o (by simp [qA0.l0])
   | succ k1 =>
    have H := HA.o
    clear HA
    simp only [qA0.l0] at H
    by_cases c8 : aE < (l0_1.length : Int)
    rotate_left
    ·rw [if_neg c8] at H
     replace c8 := d0 c8
     obtain rfl := Option.some.inj H
     obtain ⟨-, b8⟩ := c2_ wr aA.o
     go_wp2
     repeat (go_quiet (fail))
     go_ret
     exact ⟨by rfl, by exact HB.o⟩
    rw [if_pos c8] at H
    replace c8 := d1 c8
    obtain ⟨c9, H⟩ := gd H
    replace c9 := d1 c9
    by_cases c10 : ((qBq l0_1 aE).f0).toList = a1_4.toList
    ·rw [if_pos c10] at H
     have bZ : (((qBq l0_1 aE).f0).toList == a1_4.toList) = true := beq_iff_eq.mpr c10
     clear c10
     obtain rfl := Option.some.inj H
     obtain ⟨-, b4⟩ := c2_ wr aA.o
     have aV : 0 ≤ aE := od (by assumption)
     have aX : aE < (l0_1.length : Int) := od (by assumption)
     obtain ⟨bX, bJ, aC, ar, au⟩ := qDN az.o aE aV aX
     cases bJ
     replace aC := (HB.o.cell (World.block_lt_of_cell? w _ aC)).trans aC
     replace aV := eq_true aV
     replace aX := eq_true aX
     obtain ⟨-, -, -, -, b5⟩ := c5_ wr aB.o
     go_wp2
     repeat (go_quiet (fail); try go_wp2)
     go_ret
     exact ⟨by rfl, by repeat (with_reducible first | exact HB.o | apply qAl)⟩
    rw [if_neg c10] at H
    have bZ : (((qBq l0_1 aE).f0).toList == a1_4.toList) = false := bf c10
    have H' := am H
    clear H
    obtain ⟨-, b6⟩ := c2_ wr aA.o
    have aV : 0 ≤ aE := od (by assumption)
    have aX : aE < (l0_1.length : Int) := od (by assumption)
    obtain ⟨bX, bJ, aC, ar, au⟩ := qDN az.o aE aV aX
    cases bJ
    replace aC := (HB.o.cell (World.block_lt_of_cell? w _ aC)).trans aC
    replace aV := eq_true aV
    replace aX := eq_true aX
    obtain ⟨-, -, -, -, b7⟩ := c5_ wr aB.o
    go_wp2
    repeat (go_quiet (fail); try go_wp2)
    go_roundg k1
    case measure => have := bW.o; omega
    case rel => exact ⟨(wrap64 (aE + 1)), (by rfl), H', ⟨by have := bW.o; omega⟩, ⟨by (with_reducible repeat (refine qBr ?_ _)); exact aA.o⟩, ⟨by (with_reducible repeat (refine qBr ?_ _)); exact aB.o⟩, ⟨by repeat (with_reducible first | exact HB.o | apply qAl)⟩⟩
 ·rw [if_neg c3] at H
  have bH : (a1_2 == 1) = false := bf c3
  have bI : (a1_2 != 1) = true := bne_iff_ne.mpr c3
  have H' := am H
  clear H
  go_enter Tryz.func41, Tryz.ntmps41
  go_wp2_with (first | ((with_reducible refine qAK (N := 2) rfl ?_); refine bx 2 #[.string a0_0, .slice aZ l0_1.length ab, .slice a9 l0_2.length ac, .slice aa l0_3.length ad] 26 ?_; intro ae hg bk hbox hb; have n_ := a2 (qAe HB.o hb) (am (hbox)); clear HB; obtain ⟨HB, aA⟩ := n_; clear hb hbox hg) | ((with_reducible refine qAK (N := 3) rfl ?_); refine bx 3 #[.int .i64 a1_0, .int .i64 a1_1, .int .i64 a1_2, .string a1_3, .string a1_4] 103 ?_; intro af hg bj hbox hb; have n_ := a2 (qAk aA.o hb) (a2 (qAe HB.o hb) (am (hbox))); clear aA HB; obtain ⟨aA, HB, aB⟩ := n_; clear hb hbox hg; obtain ⟨ag, ah, ai, aj, ak⟩ := c5_ bj aB.o; obtain ⟨al, an, ao, ap, aq⟩ := z5_ aB.o))
  repeat (go_quiet (fail))
  go_loopg [6] k (fun kq v6 w' => ∃ (aF : Int), v6 = .int .i64 aF ∧ qAa (qA0.l1 kq aF a0_0 l0_1 l0_2 l0_3 a1_0 a1_1 a1_2 a1_3 a1_4 = some r) ∧ qAa (kq ≤ k) ∧ qAa (w'.heap[ae]? = some (.cells #[.string a0_0, (.slice aZ l0_1.length ab), (.slice a9 l0_2.length ac), (.slice aa l0_3.length ad)] 26 (0, 0))) ∧ qAa (w'.heap[af]? = some (.cells #[.int .i64 a1_0, .int .i64 a1_1, .int .i64 a1_2, .string a1_3, .string a1_4] 103 (0, 0))) ∧ qAa (Below w.heap.size w w'))
  case atStart => exact ⟨(0), (by rfl), H', ⟨Nat.le_refl _⟩, ⟨by exact aA.o⟩, ⟨by exact aB.o⟩, ⟨by exact HB.o⟩⟩
  case round =>
   clear H'
   obtain ⟨aF, rfl, HA, bW, aA, aB, HB⟩ := hrel
   cases gk with
   | zero => exact absurd HA.o (by simp [qA0.l1])
   | succ k1 =>
    have H := HA.o
    clear HA
    simp only [qA0.l1] at H
    by_cases bV : aF < (l0_2.length : Int)
    rotate_left
    ·rw [if_neg bV] at H
     replace bV := d0 bV
     obtain rfl := Option.some.inj H
     obtain ⟨-, -, bd⟩ := c3_ wr aA.o
     go_wp2
     repeat (go_quiet (fail))
     go_ret
     exact ⟨by rfl, by exact HB.o⟩
    rw [if_pos bV] at H
    replace bV := d1 bV
    obtain ⟨b3, H⟩ := gd H
    replace b3 := d1 b3
    by_cases b1 : ((qAz l0_2 aF).f0).toList = a1_4.toList
    ·rw [if_pos b1] at H
     have b2 : (((qAz l0_2 aF).f0).toList == a1_4.toList) = true := beq_iff_eq.mpr b1
     clear b1
     obtain rfl := Option.some.inj H
     obtain ⟨-, -, b9⟩ := c3_ wr aA.o
     have aW : 0 ≤ aF := od (by assumption)
     have aY : aF < (l0_2.length : Int) := od (by assumption)
     obtain ⟨bY, bB, bE, bC, bF, bD, bG, bK, aD, av, aw, ax, ay, aM, aJ, aN, aK, aO, aL⟩ := qCV bA.o aF aW aY
     cases bK
     replace aD := (HB.o.cell (World.block_lt_of_cell? w _ aD)).trans aD
     clear aJ aM aK aN aL aO
     replace aW := eq_true aW
     replace aY := eq_true aY
     obtain ⟨-, -, -, -, ba⟩ := c5_ wr aB.o
     go_wp2
     repeat (go_quiet (fail); try go_wp2)
     go_ret
     exact ⟨by rfl, by repeat (with_reducible first | exact HB.o | apply qAl)⟩
    rw [if_neg b1] at H
    have b2 : (((qAz l0_2 aF).f0).toList == a1_4.toList) = false := bf b1
    have H' := am H
    clear H
    obtain ⟨-, -, bb⟩ := c3_ wr aA.o
    have aW : 0 ≤ aF := od (by assumption)
    have aY : aF < (l0_2.length : Int) := od (by assumption)
    obtain ⟨bY, bB, bE, bC, bF, bD, bG, bK, aD, av, aw, ax, ay, aM, aJ, aN, aK, aO, aL⟩ := qCV bA.o aF aW aY
    cases bK
    replace aD := (HB.o.cell (World.block_lt_of_cell? w _ aD)).trans aD
    clear aJ aM aK aN aL aO
    replace aW := eq_true aW
    replace aY := eq_true aY
    obtain ⟨-, -, -, -, bc⟩ := c5_ wr aB.o
    go_wp2
    repeat (go_quiet (fail); try go_wp2)
    go_roundg k1
    case measure => have := bW.o; omega
    case rel => exact ⟨(wrap64 (aF + 1)), (by rfl), H', ⟨by have := bW.o; omega⟩, ⟨by (with_reducible repeat (refine qBr ?_ _)); exact aA.o⟩, ⟨by (with_reducible repeat (refine qBr ?_ _)); exact aB.o⟩, ⟨by repeat (with_reducible first | exact HB.o | apply qAl)⟩⟩
end Q
end
end Go.Proofs.YtfjpnjbinbhcfaaGreat
