/- ImageBack, where what it reads is of bulk at most 1048576: an image of any kind: what is packed is read again as it was and packed again as it was; what is not packed is not right, or too big. Part 5 of 6. -/
import Derived.Test.YtfjpnjbinbhcfaaJ4
import Derived.Laws.BitsAllLaws
import Derived.Test.YtfjpnjbinbhcfaaRows
import Derived.ChangeArms
import Derived.ChangeSame
import Derived.Deep.Slices
set_option maxHeartbeats 8000000
set_option maxRecDepth 100000
set_option linter.unusedVariables false
set_option linter.unusedSimpArgs false
namespace Go.Proofs.Ytfjpnjbinbhcfaa
section
namespace Q
open Go.RowKit YA YC YB
attribute [local go_sem] qAS min2_int qBa min_two max_three min_three max_four min_four
attribute [local go_sem high] eqA118
mutual
def qAc.j0 : Nat → List Int → List Int → Int → Int → Option ((List (S69)) × (List (S77)) × Int × Int)
 | 0, _, _, _, _ => none
 | k + 1, x0, a1, an, ao => (qAI.f a1 an ao).bind fun cc => (qAc.l0 k x0 cc.1 a1 cc.2.1 cc.2.2 ([] : List (S69)) 0)
def qAc.l0 : Nat → List Int → Int → List Int → Int → Int → List (S69) → Int → Option ((List (S69)) × (List (S77)) × Int × Int)
 | 0, _, _, _, _, _, _, _ => none
 | k + 1, x0, x6, a1, an, ao, aj, aw => if x6 > 0 then ((qA7.f a1 an ao).bind fun cd => (qAc.j2 k x0 x6 (cd.1 == 0) a1 cd.2.1 cd.2.2 aj aw)) else (qAc.j2 k x0 x6 false a1 an ao aj aw)
def qAc.j2 : Nat → List Int → Int → Bool → List Int → Int → Int → List (S69) → Int → Option ((List (S69)) × (List (S77)) × Int × Int)
 | 0, _, _, _, _, _, _, _, _ => none
 | k + 1, x0, x6, hM, a1, an, ao, aj, aw => if hM = true then ((qAo.f a1 an ao).bind fun bk => ((qAX.f a1 bk.2.1 bk.2.2).bind fun bR => (if aj.length < 8796093022208 then (qAc.l0 k x0 (wrap64 (x6 - 1)) a1 bR.2.1 bR.2.2 (aj ++ [(⟨wrap64 (bk.1), bR.1⟩ : S69)]) aw) else (none)))) else ((qAI.f a1 an ao).bind fun bl => (qAc.l1 k x0 bl.1 a1 bl.2.1 bl.2.2 aj ([] : List (S77)) aw))
def qAc.l1 : Nat → List Int → Int → List Int → Int → Int → List (S69) → List (S77) → Int → Option ((List (S69)) × (List (S77)) × Int × Int)
 | 0, _, _, _, _, _, _, _, _ => none
 | k + 1, x0, x7, a1, an, ao, aj, bE, aw => if x7 > 0 then ((qA7.f a1 an ao).bind fun ce => (qAc.j4 k x0 x7 (ce.1 == 0) a1 ce.2.1 ce.2.2 aj bE aw)) else (qAc.j4 k x0 x7 false a1 an ao aj bE aw)
def qAc.j4 : Nat → List Int → Int → Bool → List Int → Int → Int → List (S69) → List (S77) → Int → Option ((List (S69)) × (List (S77)) × Int × Int)
 | 0, _, _, _, _, _, _, _, _, _ => none
 | k + 1, x0, x7, hN, a1, an, ao, aj, bE, aw => if hN = true then ((qA3.f k a1 an ao).bind fun b6 => ((qAo.f a1 b6.2.1 b6.2.2).bind fun bI => ((qA3.f k a1 bI.2.1 bI.2.2).bind fun av => ((qAO.f a1 av.2.1 av.2.2 65536).bind fun aa => ((qBe.f aa.1).bind fun al => (if al.2 = 0 then (if bE.length < 1759218604441 then (qAc.l1 k x0 (wrap64 (x7 - 1)) a1 aa.2.1 aa.2.2 aj (bE ++ [(⟨(⟨b6.1, wrap64 (bI.1)⟩ : S74), av.1, al.1⟩ : S77)]) aw) else (none)) else ((qA5.f a1 aa.2.1 aa.2.2 53).bind fun aq => (if bE.length < 1759218604441 then (qAc.l1 k x0 (wrap64 (x7 - 1)) a1 aq.1 aq.2 aj (bE ++ [(⟨(⟨b6.1, wrap64 (bI.1)⟩ : S74), av.1, al.1⟩ : S77)]) aw) else (none))))))))) else ((qAI.f a1 an ao).bind fun b7 => ((qA7.f a1 b7.2.1 b7.2.2).bind fun cG => (if cG.1 = 0 then ((qAA.f aj bE b7.1).bind fun bS => (if bS.2 = 0 then ((qAj.f k x0 bS.1).bind fun bg => (if bg = true then (some (aj, bE, b7.1, 0)) else (some (([] : List (S69)), ([] : List (S77)), 0, 53)))) else (some (([] : List (S69)), ([] : List (S77)), 0, 53)))) else (some (([] : List (S69)), ([] : List (S77)), 0, 53)))))
end
def qAc.f (k : Nat) (l0 : List Int) : Option ((List (S69)) × (List (S77)) × Int × Int) := if (l0.length : Int) > 65536 then (some (([] : List (S69)), ([] : List (S77)), 0, 3)) else ((qCb.f l0).bind fun ar => ((qAo.f ar.1 ar.2.1 ar.2.2).bind fun bQ => ((qAo.f ar.1 bQ.2.1 bQ.2.2).bind fun bH => ((qAo.f ar.1 bH.2.1 bH.2.2).bind fun au => ((qAo.f ar.1 au.2.1 au.2.2).bind fun a6 => ((qBl.f).bind fun a7 => (if (!(bQ.1 == a7.1) || (!(bH.1 == a7.2.1) || (!(au.1 == a7.2.2.1) || (!(a6.1 == a7.2.2.2))))) = true then ((qA5.f ar.1 a6.2.1 a6.2.2 53).bind fun ak => (qAc.j0 k l0 ar.1 ak.1 ak.2)) else (qAc.j0 k l0 ar.1 a6.2.1 a6.2.2))))))))
theorem qAc.mono_l : ∀ k, (∀ y0 y1 y2 y3, LeO (qAc.j0 k y0 y1 y2 y3) (qAc.j0 (k + 1) y0 y1 y2 y3)) ∧ (∀ y0 y1 y2 y3 y4 y5 y6, LeO (qAc.l0 k y0 y1 y2 y3 y4 y5 y6) (qAc.l0 (k + 1) y0 y1 y2 y3 y4 y5 y6)) ∧ (∀ y0 y1 y2 y3 y4 y5 y6 y7, LeO (qAc.j2 k y0 y1 y2 y3 y4 y5 y6 y7) (qAc.j2 (k + 1) y0 y1 y2 y3 y4 y5 y6 y7)) ∧ (∀ y0 y1 y2 y3 y4 y5 y6 y7, LeO (qAc.l1 k y0 y1 y2 y3 y4 y5 y6 y7) (qAc.l1 (k + 1) y0 y1 y2 y3 y4 y5 y6 y7)) ∧ (∀ y0 y1 y2 y3 y4 y5 y6 y7 y8, LeO (qAc.j4 k y0 y1 y2 y3 y4 y5 y6 y7 y8) (qAc.j4 (k + 1) y0 y1 y2 y3 y4 y5 y6 y7 y8))
 | 0 => ⟨fun _ _ _ _ r h => by simp [qAc.j0] at h, fun _ _ _ _ _ _ _ r h => by simp [qAc.l0] at h, fun _ _ _ _ _ _ _ _ r h => by simp [qAc.j2] at h, fun _ _ _ _ _ _ _ _ r h => by simp [qAc.l1] at h, fun _ _ _ _ _ _ _ _ _ r h => by simp [qAc.j4] at h⟩
 | k + 1 => by
  obtain ⟨ih0, ih1, ih2, ih3, ih4⟩ := qAc.mono_l k
  refine ⟨?_, ?_, ?_, ?_, ?_⟩
  ·intro y0 y1 y2 y3
   unfold qAc.j0
   repeat' first | (with_reducible exact ih1 _ _ _ _ _ _ _) | (with_reducible exact LeO.refl _) | (with_reducible refine LeO.bind ?_ (fun _ => ?_))
  ·intro y0 y1 y2 y3 y4 y5 y6
   unfold qAc.l0
   repeat' first | (with_reducible exact ih2 _ _ _ _ _ _ _ _) | (with_reducible exact LeO.refl _) | (with_reducible refine LeO.ite ?_ ?_) | (with_reducible refine LeO.bind ?_ (fun _ => ?_))
  ·intro y0 y1 y2 y3 y4 y5 y6 y7
   unfold qAc.j2
   repeat' first | (with_reducible exact ih1 _ _ _ _ _ _ _) | (with_reducible exact ih3 _ _ _ _ _ _ _ _) | (with_reducible exact LeO.refl _) | (with_reducible refine LeO.ite ?_ ?_) | (with_reducible refine LeO.bind ?_ (fun _ => ?_))
  ·intro y0 y1 y2 y3 y4 y5 y6 y7
   unfold qAc.l1
   repeat' first | (with_reducible exact ih4 _ _ _ _ _ _ _ _ _) | (with_reducible exact LeO.refl _) | (with_reducible refine LeO.ite ?_ ?_) | (with_reducible refine LeO.bind ?_ (fun _ => ?_))
  intro y0 y1 y2 y3 y4 y5 y6 y7 y8
  unfold qAc.j4
  repeat' first | (with_reducible exact ih3 _ _ _ _ _ _ _ _) | (with_reducible exact qA3.mono _ _ _ _) | (with_reducible exact qAj.mono _ _ _) | (with_reducible exact LeO.refl _) | (with_reducible refine LeO.ite ?_ ?_) | (with_reducible refine LeO.bind ?_ (fun _ => ?_))
theorem qAc.mono : ∀ a0 k, LeO (qAc.f k a0) (qAc.f (k + 1) a0) := by
 intro a0 k
 obtain ⟨ih0, ih1, ih2, ih3, ih4⟩ := qAc.mono_l k
 unfold qAc.f
 repeat' first | (with_reducible exact ih0 _ _ _ _) | (with_reducible exact LeO.refl _) | (with_reducible refine LeO.ite ?_ ?_) | (with_reducible refine LeO.bind ?_ (fun _ => ?_))
def qAc.T10 : Bool × List (List Nat × List Nat) := (true, [([], []), ([0], [0]), ([], []), ([2], [2]), ([3], [3]), ([], []), ([5, 3], [5]), ([4, 6], [4, 6]), ([7], [7]), ([1, 8, 6], [1, 8]), ([0, 1, 2, 3, 4, 5, 6, 7, 8, 9], []), ([10, 9, 9, 0, 1, 2, 3, 4, 5, 6, 7, 8, 9], [9, 10])])
def qAc.B10 : List Nat := [0, 1, 0, 4, 12, 0, 44, 124, 252, 511, 1023, 2047]
theorem qAc.tab10 : rtab .any (opsOf Try.f13 10) = qAc.T10 := by kernel_rfl
theorem qAc.bits10 : qCl qAc.T10.2 qAc.B10 = true := by kernel_rfl
theorem qAc.calls (k : Nat) (A0 : Option Addr) (c0 : Nat) (l0 : List Int) (r1 : List (S69)) (r2 : List (S77)) (r3 : Int) (r4 : Int) (w : World) (hr0 : Kd.C (Kd.int .u8) w A0 l0.length l0) (hc0 : l0.length ≤ c0) (h : qAc.f k l0 = some (r1, r2, r3, r4)) :
  Calls Try.prog 13 #[.slice A0 l0.length c0] w fun e w' => ∃ v0_ v1_ : Value, e = .returned (.tuple #[.agg #[v0_, v1_, .int .i64 r3], .int .i64 r4]) ∧ Kd.R k69 69 w' w.heap.size (fun _ => True) v0_ r1 ∧ Kd.S k77 77 w' w.heap.size (fun _ => True) v1_ r2 ∧ Below w.heap.size w w' := by
 have gJ := am hr0
 have gI := am hc0
 clear hr0 hc0
 have HB := am (Below.refl w.heap.size w)
 have H : (if (l0.length : Int) > 65536 then (some (([] : List (S69)), ([] : List (S77)), 0, 3)) else ((qCb.f l0).bind fun ar => ((qAo.f ar.1 ar.2.1 ar.2.2).bind fun bQ => ((qAo.f ar.1 bQ.2.1 bQ.2.2).bind fun bH => ((qAo.f ar.1 bH.2.1 bH.2.2).bind fun au => ((qAo.f ar.1 au.2.1 au.2.2).bind fun a6 => ((qBl.f).bind fun a7 => (if (!(bQ.1 == a7.1) || (!(bH.1 == a7.2.1) || (!(au.1 == a7.2.2.1) || (!(a6.1 == a7.2.2.2))))) = true then ((qA5.f ar.1 a6.2.1 a6.2.2 53).bind fun ak => (qAc.j0 k l0 ar.1 ak.1 ak.2)) else (qAc.j0 k l0 ar.1 a6.2.1 a6.2.2))))))))) = some (r1, r2, r3, r4) := h
 clear h
 by_cases c2 : (l0.length : Int) > 65536
 ·rw [if_pos c2] at H
  have eU := d1 c2
  clear c2
  simp only [Option.some.injEq, Prod.mk.injEq] at H
  obtain ⟨rfl, rfl, rfl, rfl⟩ := H
  go_enter Try.func13, Try.ntmps13
  go_wp2_with (((with_reducible refine qAC (N := 2) rfl ?_); refine bx 2 #[.slice none 0 0, .slice none 0 0, .int .i64 0] 47 ?_; intro aT hg w3 hbox hb; have n0_ := am (qAk (by repeat ((with_reducible (exact HB.o)))) hb); have n1_ := am (hbox); have n2_ := am ((by rw [hg]; exact (qAf (by repeat ((with_reducible (exact HB.o))))) : w.heap.size ≤ aT)); have n3_ := am ((by rw [hg]; exact (qAf (by repeat ((with_reducible (exact HB.o))))) : w.heap.size ≤ aT)); clear HB; have HB := n0_; have aG := n1_; have cA := n3_; clear n0_ n1_ n2_ n3_; clear hb hbox hg; obtain ⟨gW, gX, gY⟩ := c3_ w3 aG.o; obtain ⟨gZ, g0, g1⟩ := z3_ aG.o))
  refine bodyPost_ret (qCw rfl _ _ aT 47 #[.slice none 0 0, .slice none 0 0, .int .i64 0] (0, 0) _ rfl (by (with_reducible repeat (fail)); refine qAx (cs := #[.slice none 0 0, .slice none 0 0, .int .i64 0]) ?_ 2 _ rfl; (with_reducible repeat (fail)); refine qAx (cs := #[.slice none 0 0, .slice none 0 0, .int .i64 0]) ?_ 1 _ rfl; (with_reducible repeat (fail)); refine qAx (cs := #[.slice none 0 0, .slice none 0 0, .int .i64 0]) ?_ 0 _ rfl; (with_reducible repeat (fail)); exact aG.o) Try.underlying47 rfl (by kernel_rfl)) rfl ?_
  exact ⟨_, _, by (rfl), by (exact Kd.R_nil _ _ _ _ _), by (exact Kd.S_nil _ _ _ _ _), by repeat ((with_reducible first | exact HB.o | refine qAs ?_ cA.o))⟩
 ·rw [if_neg c2] at H
  have eU := d0 c2
  have gK : decide (65536 < l0.length) = false := decide_eq_false (by omega)
  clear c2
  replace H := bm H
  obtain ⟨⟨aJ, dX, dY⟩, eF, H⟩ := H
  replace H : ((qAo.f aJ dX dY).bind fun bQ => ((qAo.f aJ bQ.2.1 bQ.2.2).bind fun bH => ((qAo.f aJ bH.2.1 bH.2.2).bind fun au => ((qAo.f aJ au.2.1 au.2.2).bind fun a6 => ((qBl.f).bind fun a7 => (if (!(bQ.1 == a7.1) || (!(bH.1 == a7.2.1) || (!(au.1 == a7.2.2.1) || (!(a6.1 == a7.2.2.2))))) = true then ((qA5.f aJ a6.2.1 a6.2.2 53).bind fun ak => (qAc.j0 k l0 aJ ak.1 ak.2)) else (qAc.j0 k l0 aJ a6.2.1 a6.2.2))))))) = some (r1, r2, r3, r4) := H
  have A5 := am eF
  clear eF
  replace H := bm H
  obtain ⟨⟨cC, dZ, d2⟩, gm, H⟩ := H
  replace H : ((qAo.f aJ dZ d2).bind fun bH => ((qAo.f aJ bH.2.1 bH.2.2).bind fun au => ((qAo.f aJ au.2.1 au.2.2).bind fun a6 => ((qBl.f).bind fun a7 => (if (!(cC == a7.1) || (!(bH.1 == a7.2.1) || (!(au.1 == a7.2.2.1) || (!(a6.1 == a7.2.2.2))))) = true then ((qA5.f aJ a6.2.1 a6.2.2 53).bind fun ak => (qAc.j0 k l0 aJ ak.1 ak.2)) else (qAc.j0 k l0 aJ a6.2.1 a6.2.2)))))) = some (r1, r2, r3, r4) := H
  have A6 := am gm
  clear gm
  replace H := bm H
  obtain ⟨⟨cH, d3, d4⟩, gn, H⟩ := H
  replace H : ((qAo.f aJ d3 d4).bind fun au => ((qAo.f aJ au.2.1 au.2.2).bind fun a6 => ((qBl.f).bind fun a7 => (if (!(cC == a7.1) || (!(cH == a7.2.1) || (!(au.1 == a7.2.2.1) || (!(a6.1 == a7.2.2.2))))) = true then ((qA5.f aJ a6.2.1 a6.2.2 53).bind fun ak => (qAc.j0 k l0 aJ ak.1 ak.2)) else (qAc.j0 k l0 aJ a6.2.1 a6.2.2))))) = some (r1, r2, r3, r4) := H
  have A7 := am gn
  clear gn
  replace H := bm H
  obtain ⟨⟨cJ, d5, d6⟩, go, H⟩ := H
  replace H : ((qAo.f aJ d5 d6).bind fun a6 => ((qBl.f).bind fun a7 => (if (!(cC == a7.1) || (!(cH == a7.2.1) || (!(cJ == a7.2.2.1) || (!(a6.1 == a7.2.2.2))))) = true then ((qA5.f aJ a6.2.1 a6.2.2 53).bind fun ak => (qAc.j0 k l0 aJ ak.1 ak.2)) else (qAc.j0 k l0 aJ a6.2.1 a6.2.2)))) = some (r1, r2, r3, r4) := H
  have A8 := am go
  clear go
  replace H := bm H
  obtain ⟨⟨cT, cK, cL⟩, gp, H⟩ := H
  replace H : ((qBl.f).bind fun a7 => (if (!(cC == a7.1) || (!(cH == a7.2.1) || (!(cJ == a7.2.2.1) || (!(cT == a7.2.2.2))))) = true then ((qA5.f aJ cK cL 53).bind fun ak => (qAc.j0 k l0 aJ ak.1 ak.2)) else (qAc.j0 k l0 aJ cK cL))) = some (r1, r2, r3, r4) := H
  have A9 := am gp
  clear gp
  replace H := bm H
  obtain ⟨⟨cm, cn, co, cp⟩, dr, H⟩ := H
  replace H : (if (!(cC == cm) || (!(cH == cn) || (!(cJ == co) || (!(cT == cp))))) = true then ((qA5.f aJ cK cL 53).bind fun ak => (qAc.j0 k l0 aJ ak.1 ak.2)) else (qAc.j0 k l0 aJ cK cL)) = some (r1, r2, r3, r4) := H
  have gt := am dr
  clear dr
  have dQ := am H
  clear H
  go_enter Try.func13, Try.ntmps13
  go_upto_if 29 with (first | ((with_reducible refine qAC (N := 2) rfl ?_); refine bx 2 #[.slice none 0 0, .slice none 0 0, .int .i64 0] 47 ?_; intro aT hg hO hbox hb; have n0_ := am (qAk (by repeat ((with_reducible (exact HB.o)))) hb); have n1_ := am (hbox); have n2_ := am ((by rw [hg]; exact (qAf (by repeat ((with_reducible (exact HB.o))))) : w.heap.size ≤ aT)); have n3_ := am ((by rw [hg]; exact (qAf (by repeat ((with_reducible (exact HB.o))))) : w.heap.size ≤ aT)); clear HB; have HB := n0_; have aG := n1_; have cA := n3_; clear n0_ n1_ n2_ n3_; clear hb hbox hg) | ((with_reducible refine qAy (f := 19) rfl ?_); refine gL 18 Try.func19 #[.slice A0 l0.length c0] ?_; (with_reducible refine (qCb.calls _ _ l0 aJ dX dY w _ ?side1 ?side2 ?side3 A5.o).mono ?_); (case side1 => repeat ((with_reducible (exact HB.o)))); (case side2 => exact gJ.o); (case side3 => exact gI.o); rintro e hP ⟨aQ, rfl, hi, hb, hb2⟩; refine ⟨_, rfl, ?_⟩; have n0_ := am (qAe (g := aT) (o := .cells #[.slice none 0 0, .slice none 0 0, .int .i64 0] 47 (0, 0)) (by (with_reducible repeat (fail)); exact aG.o) hb2); have n1_ := am (hb); have n2_ := am (hi); have n3_ := am (qAd.ne_blk hi (qAe (g := aT) (o := .cells #[.slice none 0 0, .slice none 0 0, .int .i64 0] 47 (0, 0)) (by (with_reducible repeat (fail)); exact aG.o) hb2) (by decide)); have n4_ := am (Ne.symm (qAd.ne_blk hi (qAe (g := aT) (o := .cells #[.slice none 0 0, .slice none 0 0, .int .i64 0] 47 (0, 0)) (by (with_reducible repeat (fail)); exact aG.o) hb2) (by decide))); clear aG; clear HB; have aG := n0_; have HB := n1_; have aD := n2_; have aV := n4_; clear n0_ n1_ n2_ n3_ n4_; (skip)) | ((with_reducible refine qAy (f := 20) rfl ?_); refine gL 20 Try.func20 #[.pointer (some ⟨aQ, 0, none⟩)] ?_; (with_reducible refine (qAo.calls aQ aJ dX dY cC dZ d2 w _ ?side1 ?side2 A6.o).mono ?_); (case side1 => repeat ((with_reducible (exact aD.o)))); (case side2 => repeat ((with_reducible (exact HB.o)))); rintro e hQ ⟨rfl, hi, hb, hk⟩; refine ⟨_, rfl, ?_⟩; have n0_ := am (qAh.blk hk (g' := aT) (o := .cells #[.slice none 0 0, .slice none 0 0, .int .i64 0] 47 (0, 0)) (by (with_reducible repeat (fail)); exact aG.o) aV.o (by simp)); have n1_ := am (hb); have n2_ := am (hi); clear aG; clear HB; clear aD; have aG := n0_; have HB := n1_; have aD := n2_; clear n0_ n1_ n2_; (skip)) | ((with_reducible refine qAy (f := 20) rfl ?_); refine gL 22 Try.func20 #[.pointer (some ⟨aQ, 0, none⟩)] ?_; (with_reducible refine (qAo.calls aQ aJ dZ d2 cH d3 d4 w _ ?side1 ?side2 A7.o).mono ?_); (case side1 => repeat ((with_reducible (exact aD.o)))); (case side2 => repeat ((with_reducible (exact HB.o)))); rintro e hR ⟨rfl, hi, hb, hk⟩; refine ⟨_, rfl, ?_⟩; have n0_ := am (qAh.blk hk (g' := aT) (o := .cells #[.slice none 0 0, .slice none 0 0, .int .i64 0] 47 (0, 0)) (by (with_reducible repeat (fail)); exact aG.o) aV.o (by simp)); have n1_ := am (hb); have n2_ := am (hi); clear aG; clear HB; clear aD; have aG := n0_; have HB := n1_; have aD := n2_; clear n0_ n1_ n2_; (skip)) | ((with_reducible refine qAy (f := 20) rfl ?_); refine gL 24 Try.func20 #[.pointer (some ⟨aQ, 0, none⟩)] ?_; (with_reducible refine (qAo.calls aQ aJ d3 d4 cJ d5 d6 w _ ?side1 ?side2 A8.o).mono ?_); (case side1 => repeat ((with_reducible (exact aD.o)))); (case side2 => repeat ((with_reducible (exact HB.o)))); rintro e hS ⟨rfl, hi, hb, hk⟩; refine ⟨_, rfl, ?_⟩; have n0_ := am (qAh.blk hk (g' := aT) (o := .cells #[.slice none 0 0, .slice none 0 0, .int .i64 0] 47 (0, 0)) (by (with_reducible repeat (fail)); exact aG.o) aV.o (by simp)); have n1_ := am (hb); have n2_ := am (hi); clear aG; clear HB; clear aD; have aG := n0_; have HB := n1_; have aD := n2_; clear n0_ n1_ n2_; (skip)) | ((with_reducible refine qAy (f := 20) rfl ?_); refine gL 26 Try.func20 #[.pointer (some ⟨aQ, 0, none⟩)] ?_; (with_reducible refine (qAo.calls aQ aJ d5 d6 cT cK cL w _ ?side1 ?side2 A9.o).mono ?_); (case side1 => repeat ((with_reducible (exact aD.o)))); (case side2 => repeat ((with_reducible (exact HB.o)))); rintro e hT ⟨rfl, hi, hb, hk⟩; refine ⟨_, rfl, ?_⟩; have n0_ := am (qAh.blk hk (g' := aT) (o := .cells #[.slice none 0 0, .slice none 0 0, .int .i64 0] 47 (0, 0)) (by (with_reducible repeat (fail)); exact aG.o) aV.o (by simp)); have n1_ := am (hb); have n2_ := am (hi); clear aG; clear HB; clear aD; have aG := n0_; have HB := n1_; have aD := n2_; clear n0_ n1_ n2_; (skip)) | ((with_reducible refine qAy (f := 49) rfl ?_); refine goesL_ (some 28) rfl rfl Try.func49 (by kernel_rfl) rfl #[] rfl (by (try simp only [List.map_toArray, List.map_nil]); (done)) ?_; (with_reducible refine (qBl.calls  cm cn co cp _ gt.o).mono ?_); rintro e hU ⟨rfl, hb⟩; refine ⟨_, rfl, ?_⟩; have n0_ := am (qAe (g := aT) (o := .cells #[.slice none 0 0, .slice none 0 0, .int .i64 0] 47 (0, 0)) (by (with_reducible repeat (fail)); exact aG.o) hb); have n1_ := am (qAd.below (by repeat ((with_reducible (exact aD.o)))) hb); have n2_ := am (qAk (by repeat ((with_reducible (exact HB.o)))) hb); clear aG; clear aD; clear HB; have aG := n0_; have aD := n1_; have HB := n2_; clear n0_ n1_ n2_; (skip); (skip); (skip)))
  (skip)
  go_cut [] (fun wc => ∃ (kq : Nat) (az : Int) (bB : Int), qAb (qAc.j0 kq l0 aJ az bB = some (r1, r2, r3, r4)) ∧ qAb (kq ≤ k) ∧ qAb (wc.heap[aT]? = some (.cells #[(.slice none 0 0), (.slice none 0 0), .int .i64 0] 47 (0, 0))) ∧ qAb (qAd w wc aQ aJ az bB) ∧ qAb (Below w.heap.size w wc))
  case first =>
   have H := dQ.o
   clear dQ
   by_cases dm : (!(cC == cm) || (!(cH == cn) || (!(cJ == co) || (!(cT == cp))))) = true
   rotate_left
   ·rw [if_neg dm] at H
    have ch : (!(cC == cm) || (!(cH == cn) || (!(cJ == co) || (!(cT == cp))))) = false := by simpa using dm
    clear dm
    ((rw [ch]))
    have H' := am H
    clear H
    go_wp2
    go_meet
    case rel => exact ⟨_, (cK), (cL), H', ⟨by (omega)⟩, ⟨by (with_reducible repeat (fail)); exact aG.o⟩, ⟨by repeat ((with_reducible (exact aD.o)))⟩, ⟨by repeat ((with_reducible (exact HB.o)))⟩⟩
   rw [if_pos dm] at H
   have ch : (!(cC == cm) || (!(cH == cn) || (!(cJ == co) || (!(cT == cp))))) = true := dm
   clear dm
   ((rw [ch]))
   replace H := bm H
   obtain ⟨⟨d7, d8⟩, du, H⟩ := H
   replace H : (qAc.j0 k l0 aJ d7 d8) = some (r1, r2, r3, r4) := H
   have gu := am du
   clear du
   have H' := am H
   clear H
   go_wp2_with (((with_reducible refine qAy (f := 21) rfl ?_); refine gL 31 Try.func21 #[.pointer (some ⟨aQ, 0, none⟩), .int .i64 53] ?_; (with_reducible refine (qA5.calls aQ aJ cK cL 53 d7 d8 w _ ?side1 ?side2 gu.o).mono ?_); (case side1 => repeat ((with_reducible (exact aD.o)))); (case side2 => repeat ((with_reducible (exact HB.o)))); rintro e hV ⟨rfl, hi, hb, hk⟩; refine ⟨_, rfl, ?_⟩; have n0_ := am (qAh.blk hk (g' := aT) (o := .cells #[.slice none 0 0, .slice none 0 0, .int .i64 0] 47 (0, 0)) (by (with_reducible repeat (fail)); exact aG.o) aV.o (by simp)); have n1_ := am (hb); have n2_ := am (hi); clear aG; clear HB; clear aD; have aG := n0_; have HB := n1_; have aD := n2_; clear n0_ n1_ n2_; (skip)))
   go_meet
   case rel => exact ⟨_, (d7), (d8), H', ⟨by (omega)⟩, ⟨by (with_reducible repeat (fail)); exact aG.o⟩, ⟨by repeat ((with_reducible (exact aD.o)))⟩, ⟨by repeat ((with_reducible (exact HB.o)))⟩⟩
  case rest =>
   clear dQ
   skip
   skip
   skip
   skip
   skip
   skip
   skip
   skip
   skip
   skip
   skip
   skip
   skip
   skip
   skip
   obtain ⟨kq, az, bB, HA, bw, aG, aD, HB⟩ := hcut
   cases kq with
   | zero => exact absurd HA.o (by simp [qAc.j0])
   | succ dW =>
    have H := HA.o
    clear HA
    simp only [qAc.j0] at H
    replace H := bm H
    obtain ⟨⟨d9, da, db⟩, dv, H⟩ := H
    replace H : (qAc.l0 dW l0 d9 aJ da db ([] : List (S69)) 0) = some (r1, r2, r3, r4) := H
    have gv := am dv
    clear dv
    have H' := am H
    clear H
    go_wp2_with (first | ((with_reducible refine qAC (N := 5) rfl ?_); refine bx 5 #[.slice none 0 0, .slice none 0 0, .int .i64 0] 47 ?_; intro aU hg hW hbox hb; have n0_ := am (qAe (g := aT) (o := .cells #[.slice none 0 0, .slice none 0 0, .int .i64 0] 47 (0, 0)) (by (with_reducible repeat (fail)); exact aG.o) hb); have n1_ := am (qAd.below (by repeat ((with_reducible (exact aD.o)))) hb); have n2_ := am (qAk (by repeat ((with_reducible (exact HB.o)))) hb); have n3_ := am (hbox); have n4_ := am ((by rw [hg]; exact (qAf (by repeat ((with_reducible (exact HB.o))))) : w.heap.size ≤ aU)); have n5_ := am ((by rw [hg]; exact (qAf (by repeat ((with_reducible (exact HB.o))))) : w.heap.size ≤ aU)); have n6_ := am ((by rw [hg]; exact Nat.ne_of_lt (qAt (g := aT) (o := .cells #[.slice none 0 0, .slice none 0 0, .int .i64 0] 47 (0, 0)) (by (with_reducible repeat (fail)); exact aG.o)) : aT ≠ aU)); have n7_ := am ((by rw [hg]; exact Nat.ne_of_gt (qAt (g := aT) (o := .cells #[.slice none 0 0, .slice none 0 0, .int .i64 0] 47 (0, 0)) (by (with_reducible repeat (fail)); exact aG.o)) : aU ≠ aT)); have n8_ := am ((by rw [hg]; exact Nat.ne_of_lt (qAd.lt (show qAd w _ aQ aJ az bB from by repeat ((with_reducible (exact aD.o))))) : aQ ≠ aU)); have n9_ := am ((by rw [hg]; exact Nat.ne_of_gt (qAd.lt (show qAd w _ aQ aJ az bB from by repeat ((with_reducible (exact aD.o))))) : aU ≠ aQ)); clear aG; clear aD; clear HB; have aG := n0_; have aD := n1_; have HB := n2_; have aE := n3_; have bi := n5_; have ay := n6_; have a4 := n8_; have aY := n9_; clear n0_ n1_ n2_ n3_ n4_ n5_ n6_ n7_ n8_ n9_; clear hb hbox hg) | ((with_reducible refine qAy (f := 23) rfl ?_); refine gL 33 Try.func23 #[.pointer (some ⟨aQ, 0, none⟩)] ?_; (with_reducible refine (qAI.calls aQ aJ az bB d9 da db w _ ?side1 ?side2 gv.o).mono ?_); (case side1 => repeat ((with_reducible (exact aD.o)))); (case side2 => repeat ((with_reducible (exact HB.o)))); rintro e hX ⟨rfl, hi, hb, hk⟩; refine ⟨_, rfl, ?_⟩; have n0_ := am (qAh.blk hk (g' := aT) (o := .cells #[.slice none 0 0, .slice none 0 0, .int .i64 0] 47 (0, 0)) (by (with_reducible repeat (fail)); exact aG.o) aV.o (by simp)); have n1_ := am (qAh.blk hk (g' := aU) (o := .cells #[.slice none 0 0, .slice none 0 0, .int .i64 0] 47 (0, 0)) (by (with_reducible repeat (fail)); exact aE.o) aY.o (by simp)); have n2_ := am (hb); have n3_ := am (hi); clear aG; clear aE; clear HB; clear aD; have aG := n0_; have aE := n1_; have HB := n2_; have aD := n3_; clear n0_ n1_ n2_ n3_; (skip)))
    go_loopg [6] dW (fun kq v6 w' => ∃ (bb : Int) (bF : Int) (bG : Int) (aH : List (S69)) (aN : Value), v6 = .int .i64 bb ∧ qAb (qAc.l0 kq l0 bb aJ bF bG aH 0 = some (r1, r2, r3, r4)) ∧ qAb (kq ≤ dW) ∧ qAb (Kd.R k69 69 w' w.heap.size (fun _ => True) aN aH) ∧ qAb (w'.heap[aT]? = some (.cells #[(.slice none 0 0), (.slice none 0 0), .int .i64 0] 47 (0, 0))) ∧ qAb (w'.heap[aU]? = some (.cells #[aN, (.slice none 0 0), .int .i64 0] 47 (0, 0))) ∧ qAb (qAd w w' aQ aJ bF bG) ∧ qAb (Below w.heap.size w w'))
    case atStart => exact ⟨(d9), (da), (db), (([] : List (S69))), (.slice none 0 0), (by (rfl)), H', ⟨Nat.le_refl _⟩, ⟨by (exact Kd.R_nil _ _ _ _ _)⟩, ⟨by (with_reducible repeat (fail)); exact aG.o⟩, ⟨by (with_reducible repeat (fail)); exact aE.o⟩, ⟨by repeat ((with_reducible (exact aD.o)))⟩, ⟨by repeat ((with_reducible (exact HB.o)))⟩⟩
    case round =>
     clear H'
     skip
     skip
     skip
     skip
     skip
     skip
     skip
     skip
     skip
     skip
     skip
     skip
     skip
     skip
     skip
     skip
     skip
     skip
     skip
     obtain ⟨bb, bF, bG, aH, aN, rfl, HA, cv, aA, aG, aE, aD, HB⟩ := hrel
     cases gk with
     | zero => exact absurd HA.o (by simp [qAc.l0])
     | succ k2 =>
      have H := HA.o
      clear HA
      simp only [qAc.l0] at H
      have dR := am H
      clear H
      go_upto_region 8 with (fail)
      go_cut [40] (fun hC wc => ∃ (kq : Nat) (cD : Bool) (ag : Int) (ah : Int), hC = .bool cD ∧ qAb (qAc.j2 kq l0 bb cD aJ ag ah aH 0 = some (r1, r2, r3, r4)) ∧ qAb (kq ≤ k2) ∧ qAb (Kd.R k69 69 wc w.heap.size (fun _ => True) aN aH) ∧ qAb (wc.heap[aT]? = some (.cells #[(.slice none 0 0), (.slice none 0 0), .int .i64 0] 47 (0, 0))) ∧ qAb (wc.heap[aU]? = some (.cells #[aN, (.slice none 0 0), .int .i64 0] 47 (0, 0))) ∧ qAb (qAd w wc aQ aJ ag ah) ∧ qAb (Below w.heap.size w wc))
      case first =>
       have H := dR.o
       clear dR
       by_cases dn : bb > 0
       rotate_left
       ·rw [if_neg dn] at H
        replace dn := d0 dn
        ((skip))
        have H' := am H
        clear H
        go_wp2
        go_meet
        case rel => exact ⟨_, (false), (bF), (bG), (by (rfl)), H', ⟨by have := bw.o; have := cv.o; (omega)⟩, ⟨by (with_reducible repeat (fail)); exact aA.o⟩, ⟨by (with_reducible repeat (fail)); exact aG.o⟩, ⟨by (with_reducible repeat (fail)); exact aE.o⟩, ⟨by repeat ((with_reducible (exact aD.o)))⟩, ⟨by repeat ((with_reducible (exact HB.o)))⟩⟩
       rw [if_pos dn] at H
       replace dn := d1 dn
       ((skip))
       replace H := bm H
       obtain ⟨⟨dc, dd, de⟩, dw, H⟩ := H
       replace H : (qAc.j2 k2 l0 bb (dc == 0) aJ dd de aH 0) = some (r1, r2, r3, r4) := H
       have gw := am dw
       clear dw
       have H' := am H
       clear H
       go_wp2_with ((go_at_call 24; (with_reducible refine (qA7.calls aQ aJ bF bG dc dd de w _ ?side1 ?side2 gw.o).mono ?_); (case side1 => repeat ((with_reducible (exact aD.o)))); (case side2 => repeat ((with_reducible (exact HB.o)))); rintro e hY ⟨rfl, hi, hb, hk⟩; have n0_ := am (Kd.R_kp (qAd.apart (show qAd w _ aQ aJ bF bG from by repeat ((with_reducible (exact aD.o)))) (by (with_reducible repeat (fail)); exact aA.o) (by decide)) hk); have n1_ := am (qAh.blk hk (g' := aT) (o := .cells #[.slice none 0 0, .slice none 0 0, .int .i64 0] 47 (0, 0)) (by (with_reducible repeat (fail)); exact aG.o) aV.o (by simp)); have n2_ := am (qAh.blk hk (g' := aU) (o := .cells #[aN, .slice none 0 0, .int .i64 0] 47 (0, 0)) (by (with_reducible repeat (fail)); exact aE.o) aY.o (by simp)); have n3_ := am (hb); have n4_ := am (hi); clear aA; clear aG; clear aE; clear HB; clear aD; have aA := n0_; have aG := n1_; have aE := n2_; have HB := n3_; have aD := n4_; clear n0_ n1_ n2_ n3_ n4_; (skip)))
       go_meet
       case rel => exact ⟨_, ((dc == 0)), (dd), (de), (by (rfl)), H', ⟨by have := bw.o; have := cv.o; (omega)⟩, ⟨by (with_reducible repeat (fail)); exact aA.o⟩, ⟨by (with_reducible repeat (fail)); exact aG.o⟩, ⟨by (with_reducible repeat (fail)); exact aE.o⟩, ⟨by repeat ((with_reducible (exact aD.o)))⟩, ⟨by repeat ((with_reducible (exact HB.o)))⟩⟩
      case rest =>
       clear dR
       skip
       skip
       skip
       skip
       skip
       skip
       skip
       skip
       skip
       skip
       skip
       skip
       skip
       skip
       skip
       skip
       skip
       skip
       skip
       skip
       skip
       obtain ⟨kq, cD, ag, ah, rfl, HA, cF, aA, aG, aE, aD, HB⟩ := hcut
       cases kq with
       | zero => exact absurd HA.o (by simp [qAc.j2])
       | succ cB =>
        have H := HA.o
        clear HA
        simp only [qAc.j2] at H
        by_cases f4 : cD = true
        ·subst f4
         replace H : ((qAo.f aJ ag ah).bind fun bk => ((qAX.f aJ bk.2.1 bk.2.2).bind fun bR => (if aH.length < 8796093022208 then (qAc.l0 cB l0 (wrap64 (bb - 1)) aJ bR.2.1 bR.2.2 (aH ++ [(⟨wrap64 (bk.1), bR.1⟩ : S69)]) 0) else (none)))) = some (r1, r2, r3, r4) := by rw [if_pos rfl] at H; exact H
         replace H := bm H
         obtain ⟨⟨cM, dA, dB⟩, dx, H⟩ := H
         replace H : ((qAX.f aJ dA dB).bind fun bR => (if aH.length < 8796093022208 then (qAc.l0 cB l0 (wrap64 (bb - 1)) aJ bR.2.1 bR.2.2 (aH ++ [(⟨wrap64 (cM), bR.1⟩ : S69)]) 0) else (none))) = some (r1, r2, r3, r4) := H
         have gx := am dx
         clear dx
         replace H := bm H
         obtain ⟨⟨cU, cq, cr⟩, dy, H⟩ := H
         replace H : (if aH.length < 8796093022208 then (qAc.l0 cB l0 (wrap64 (bb - 1)) aJ cq cr (aH ++ [(⟨wrap64 (cM), cU⟩ : S69)]) 0) else (none)) = some (r1, r2, r3, r4) := H
         have gy := am dy
         clear dy
         obtain ⟨c32, H⟩ := gd H
         have eN := am c32
         clear c32
         obtain ⟨dC, cj⟩ : ∃ y_ : List (S69), y_ = (aH ++ [(⟨wrap64 (cM), cU⟩ : S69)]) := ⟨_, rfl⟩
         replace H : (qAc.l0 cB l0 (wrap64 (bb - 1)) aJ cq cr dC 0) = some (r1, r2, r3, r4) := by (rw [cj]; with_reducible exact H)
         have eQ := am cj
         clear cj
         have H' := am H
         clear H
         try go_wp2
         have n0_ := am (Kd.R_drew aA.o)
         have n1_ := am (qBg aG.o)
         have n2_ := am (qBg aE.o)
         have n3_ := am (qAd.drew aD.o)
         have n4_ := am (qAL HB.o)
         clear aA
         clear aG
         clear aE
         clear aD
         clear HB
         have aA := n0_
         have aG := n1_
         have aE := n2_
         have aD := n3_
         have HB := n4_
         clear n0_ n1_ n2_ n3_ n4_
         refine start_ (n := 12) (S := fun w' => w'.cell? ⟨aU, 0, none⟩ = some (aN) ∧ w'.cell? ⟨aU, 1, none⟩ = some (.slice none 0 0) ∧ w'.cell? ⟨aU, 2, none⟩ = some (.int .i64 0)) (ds := [11]) (mK 12 0) (by kernel_rfl) rfl rfl (c3_ _ aE.o) (fun hHeld => ?_); refine qCz qAc.tab10 qAc.bits10 (fun HT_ HW_ => ?_)
         generalize wc.drew = hZ at aA aG aE aD HB hHeld ⊢
         refine pu 0 43 (mK 12 1) (qAR HT_.o (by kernel_rfl)) ?_
         refine pu 2 45 (mK 12 5) (qAR HT_.o (by kernel_rfl)) ?_
         refine pu 5 48 (mK 12 37) (qAR HT_.o (by kernel_rfl)) ?_
         refine tk 1 44 (mK 12 39) (qBk HT_.o HW_.o (by kernel_rfl)) hHeld ?_
         refine one_ (i := 3) (N := some 46) (mK 12 47) rfl rfl (qBv HT_.o (by kernel_rfl)) (by decide) (fun K hK => ?_)
         refine goes_ Try.func20 (by kernel_rfl) rfl #[.pointer (some ⟨aQ, 0, none⟩)] (by rfl) rfl rfl (by (try simp only [List.map_toArray, List.map_cons, List.map_nil]); (rfl)) ?_
         with_reducible refine (qAo.calls aQ aJ ag ah cM dA dB w _ ?side1 ?side2 gx.o).mono ?_
         (case side1 => repeat ((with_reducible (exact aD.o))))
         (case side2 => repeat ((with_reducible (exact HB.o))))
         rintro e h0 ⟨rfl, hi, hb, hk⟩
         refine ⟨_, rfl, ?_⟩
         have n0_ := am (Kd.R_kp (qAd.apart (show qAd w _ aQ aJ ag ah from by repeat ((with_reducible (exact aD.o)))) (by (with_reducible repeat (fail)); exact aA.o) (by decide)) hk)
         have n1_ := am (qAh.blk hk (g' := aT) (o := .cells #[.slice none 0 0, .slice none 0 0, .int .i64 0] 47 (0, 0)) (by (with_reducible repeat (fail)); exact aG.o) aV.o (by simp))
         have n2_ := am (qAh.blk hk (g' := aU) (o := .cells #[aN, .slice none 0 0, .int .i64 0] 47 (0, 0)) (by (with_reducible repeat (fail)); exact aE.o) aY.o (by simp))
         have n3_ := am (hb)
         have n4_ := am (hi)
         clear aA
         clear aG
         clear aE
         clear HB
         clear aD
         have aA := n0_
         have aG := n1_
         have aE := n2_
         have HB := n3_
         have aD := n4_
         clear n0_ n1_ n2_ n3_ n4_
         (try clear hb)
         (skip)
         (try clear hk)
         (try clear hi)
         refine hK.o _ _ (c3_ _ aE.o) (fun hHeld => ?_)
         clear hK K
         refine nm ?_
         refine pure_ (i := 4) (N := some 47) (v := ?_) (a' := ?_) (mK 12 63) rfl rfl (qAR HT_.o (by kernel_rfl)) (fun _ _ _ h => h) (Or.inl ⟨by rfl, ?_⟩) ?_ ?_
         rotate_left
         ·intro w'
          go_simp
          with_reducible rfl
         rotate_left
         ·simp only [Act.put, List.setIfInBounds_toArray, List.set_cons_zero, List.set_cons_succ, i64_w]
          rfl
         refine one_ (i := 6) (N := some 49) (mK 12 127) rfl rfl (qBv HT_.o (by kernel_rfl)) (by decide) (fun K hK => ?_)
         refine goes_ Try.func25 (by kernel_rfl) rfl #[.pointer (some ⟨aQ, 0, none⟩)] (by rfl) rfl rfl (by (try simp only [List.map_toArray, List.map_cons, List.map_nil]); (rfl)) ?_
         with_reducible refine (qAX.calls aQ aJ dA dB cU cq cr w _ ?side1 ?side2 gy.o).mono ?_
         (case side1 => repeat ((with_reducible (exact aD.o))))
         (case side2 => repeat ((with_reducible (exact HB.o))))
         rintro e h1 ⟨rfl, hi, hb, hk⟩
         refine ⟨_, rfl, ?_⟩
         have n0_ := am (Kd.R_kp (qAd.apart (show qAd w _ aQ aJ dA dB from by repeat ((with_reducible (exact aD.o)))) (by (with_reducible repeat (fail)); exact aA.o) (by decide)) hk)
         have n1_ := am (qAh.blk hk (g' := aT) (o := .cells #[.slice none 0 0, .slice none 0 0, .int .i64 0] 47 (0, 0)) (by (with_reducible repeat (fail)); exact aG.o) aV.o (by simp))
         have n2_ := am (qAh.blk hk (g' := aU) (o := .cells #[aN, .slice none 0 0, .int .i64 0] 47 (0, 0)) (by (with_reducible repeat (fail)); exact aE.o) aY.o (by simp))
         have n3_ := am (hb)
         have n4_ := am (hi)
         clear aA
         clear aG
         clear aE
         clear HB
         clear aD
         have aA := n0_
         have aG := n1_
         have aE := n2_
         have HB := n3_
         have aD := n4_
         clear n0_ n1_ n2_ n3_ n4_
         (try clear hb)
         (skip)
         (try clear hk)
         (try clear hi)
         refine hK.o _ _ (c3_ _ aE.o) (fun hHeld => ?_)
         clear hK K
         refine nm ?_
         refine pu 7 50 (mK 12 255) (qAR HT_.o (by kernel_rfl)) ?_
         refine one_ (i := 8) (N := some 51) (mK 12 511) rfl rfl (qBv HT_.o (by kernel_rfl)) (by decide) (fun K hK => ?_)
         refine value_ (w1 := ?_) (v := ?_) (by rfl) rfl ?_ ?_
         rotate_left 2
         ·go_simp
          constructor
          ·rfl
          rfl
         refine hK.o _ _ ⟨(qAa (qAG aE.o _) 0).trans rfl, (qAa (qAG aE.o _) 1).trans rfl, (qAa (qAG aE.o _) 2).trans rfl⟩ (fun hHeld => ?_)
         clear hK K
         refine nm ?_
         refine one_ (i := 9) (N := some 52) (mK 12 1023) rfl rfl (qBv HT_.o (by kernel_rfl)) (by decide) (fun K hK => ?_)
         refine Kd.R_append_step k69 (w0 := w) w.heap.size (by rfl) (.tmp 44) (.tmp 51) 44 69 (.agg #[(.int .i64 0), (.int .u64 0)]) 16 rfl Try.underlying44 info69 rfl (by decide) (by omega) aN aH (⟨wrap64 (cM), cU⟩ : S69) [.int .i64 (wrap64 (cM)), .int .u64 cU] (fun _ => True) (fun _ => False) rfl rfl ?aP (fun _ hk => hk.elim) ?aF ?aO ?aB ?aS ?aL ?_
         (case aP => exact k69_mkM _ _ _ (⟨wrap64 (cM), cU⟩ : S69))
         (case aB => exact (by repeat ((with_reducible (exact HB.o)))))
         (case aF => exact (fun _ _ => trivial))
         (case aO => exact (by (with_reducible repeat (fail)); exact aA.o))
         (case aS => exact (qAf (by repeat ((with_reducible (exact HB.o))))))
         (case aL => have := eN.o; omega)
         intro hD h2 ho hb hg eb
         rw [← eQ.o] at ho
         have n0_ := am (qA6 (g := aT) (o := .cells #[.slice none 0 0, .slice none 0 0, .int .i64 0] 47 (0, 0)) (by (with_reducible repeat (fail)); exact aG.o) hg (Kd.R_ne aA.o aG.o (by decide)))
         have n1_ := am (qA6 (g := aU) (o := .cells #[aN, .slice none 0 0, .int .i64 0] 47 (0, 0)) (by (with_reducible repeat (fail)); exact aE.o) hg (Kd.R_ne aA.o aE.o (by decide)))
         have n2_ := am (qAd.grownR (show qAd w _ aQ aJ cq cr from by repeat ((with_reducible (exact aD.o)))) hg aD.o aA.o (by decide) (fun b_ t_ h_ => by (with_reducible repeat (fail)); exact h_))
         have n3_ := am (hb)
         have n4_ := am (ho)
         clear aG
         clear aE
         clear aD
         clear HB
         clear aA
         have aG := n0_
         have aE := n1_
         have aD := n2_
         have HB := n3_
         have dJ := n4_
         clear n0_ n1_ n2_ n3_ n4_
         clear ho hb hg eb
         obtain ⟨eK, eZ, gM⟩ := Kd.R_slice dJ.o
         ((subst gM))
         refine hK.o _ _ (c3_ _ aE.o) (fun hHeld => ?_)
         clear hK K
         refine nm ?_
         refine pu 10 53 (mK 12 2047) (qAR HT_.o (by kernel_rfl)) ?_
         refine last_ (i := 11) (N := none) (mK 12 4095) rfl rfl (qBv HT_.o (by kernel_rfl)) (by decide) (fun K hK => ?_)
         have hfs38 := qAg aE.o 0
         refine skip_ (w1 := ?_) (by rfl) rfl ?_ ?_
         rotate_left
         ·go_simp
          rfl
         refine hK.o _ _ ?_
         clear hK K
         refine done_ (qD1 HT_.o (by kernel_rfl)) ?_
         try go_wp2
         go_roundg cB
         case measure => have := bw.o; have := cv.o; have := cF.o; omega
         case rel => exact ⟨(wrap64 (bb - 1)), (cq), (cr), (dC), (.slice eK dC.length eZ), (by (rfl)), H', ⟨by have := bw.o; have := cv.o; have := cF.o; omega⟩, ⟨by (with_reducible repeat (fail)); exact Kd.R_mono (Kd.R_far (p := ⟨aU, 0, none⟩) (Kd.R_types dJ.o aE.o (by decide)) (fun _ hk => hk.2) (.slice eK dC.length eZ)) (fun _ hk => trivial)⟩, ⟨by (with_reducible repeat (fail)); refine qAu ?_ ay.o _; (with_reducible repeat (fail)); exact aG.o⟩, ⟨by (with_reducible repeat (fail)); refine qAx (cs := #[aN, .slice none 0 0, .int .i64 0]) ?_ 0 _ rfl; (with_reducible repeat (fail)); exact aE.o⟩, ⟨by repeat ((with_reducible first | exact aD.o | refine qAd.far ?_ a4.o (by (with_reducible repeat (fail)); exact TyB.of aE.o) (by decide) _))⟩, ⟨by repeat ((with_reducible first | exact HB.o | refine qAs ?_ bi.o))⟩⟩
        replace f4 := Bool.eq_false_iff.mpr f4
        subst f4
        replace H : ((qAI.f aJ ag ah).bind fun bl => (qAc.l1 cB l0 bl.1 aJ bl.2.1 bl.2.2 aH ([] : List (S77)) 0)) = some (r1, r2, r3, r4) := by rw [if_neg (show ¬ (false = true) by decide)] at H; exact H
        replace H := bm H
        obtain ⟨⟨df, dg, dh⟩, dz, H⟩ := H
        replace H : (qAc.l1 cB l0 df aJ dg dh aH ([] : List (S77)) 0) = some (r1, r2, r3, r4) := H
        have gz := am dz
        clear dz
        have H' := am H
        clear H
        go_wp2_with (((with_reducible refine qAy (f := 23) rfl ?_); refine gL 55 Try.func23 #[.pointer (some ⟨aQ, 0, none⟩)] ?_; (with_reducible refine (qAI.calls aQ aJ ag ah df dg dh w _ ?side1 ?side2 gz.o).mono ?_); (case side1 => repeat ((with_reducible (exact aD.o)))); (case side2 => repeat ((with_reducible (exact HB.o)))); rintro e h3 ⟨rfl, hi, hb, hk⟩; refine ⟨_, rfl, ?_⟩; have n0_ := am (Kd.R_kp (qAd.apart (show qAd w _ aQ aJ ag ah from by repeat ((with_reducible (exact aD.o)))) (by (with_reducible repeat (fail)); exact aA.o) (by decide)) hk); have n1_ := am (qAh.blk hk (g' := aT) (o := .cells #[.slice none 0 0, .slice none 0 0, .int .i64 0] 47 (0, 0)) (by (with_reducible repeat (fail)); exact aG.o) aV.o (by simp)); have n2_ := am (qAh.blk hk (g' := aU) (o := .cells #[aN, .slice none 0 0, .int .i64 0] 47 (0, 0)) (by (with_reducible repeat (fail)); exact aE.o) aY.o (by simp)); have n3_ := am (hb); have n4_ := am (hi); clear aA; clear aG; clear aE; clear HB; clear aD; have aA := n0_; have aG := n1_; have aE := n2_; have HB := n3_; have aD := n4_; clear n0_ n1_ n2_ n3_ n4_; (skip)))
        go_loopg [7] cB (fun kq v7 w' => ∃ (bD : Int) (bA : Int) (bC : Int) (aI : List (S77)) (aM : Value), v7 = .int .i64 bD ∧ qAb (qAc.l1 kq l0 bD aJ bA bC aH aI 0 = some (r1, r2, r3, r4)) ∧ qAb (kq ≤ cB) ∧ qAb (Kd.R k69 69 w' w.heap.size (fun _ => True) aN aH) ∧ qAb (Kd.S k77 77 w' w.heap.size (fun _ => True) aM aI) ∧ qAb (w'.heap[aT]? = some (.cells #[(.slice none 0 0), (.slice none 0 0), .int .i64 0] 47 (0, 0))) ∧ qAb (w'.heap[aU]? = some (.cells #[aN, aM, .int .i64 0] 47 (0, 0))) ∧ qAb (qAd w w' aQ aJ bA bC) ∧ qAb (Below w.heap.size w w'))
        case atStart => exact ⟨(df), (dg), (dh), (([] : List (S77))), (.slice none 0 0), (by (rfl)), H', ⟨Nat.le_refl _⟩, ⟨by (with_reducible repeat (fail)); exact aA.o⟩, ⟨by (exact Kd.S_nil _ _ _ _ _)⟩, ⟨by (with_reducible repeat (fail)); exact aG.o⟩, ⟨by (with_reducible repeat (fail)); exact aE.o⟩, ⟨by repeat ((with_reducible (exact aD.o)))⟩, ⟨by repeat ((with_reducible (exact HB.o)))⟩⟩
        case round =>
         clear H'
         skip
         skip
         skip
         skip
         skip
         skip
         skip
         skip
         skip
         skip
         skip
         skip
         skip
         skip
         skip
         skip
         skip
         skip
         skip
         skip
         skip
         skip
         skip
         skip
         skip
         skip
         obtain ⟨bD, bA, bC, aI, aM, rfl, HA, dl, aA, aC, aG, aE, aD, HB⟩ := hrel
         cases gk with
         | zero => exact absurd HA.o (by simp [qAc.l1])
         | succ k4 =>
          have H := HA.o
          clear HA
          simp only [qAc.l1] at H
          have dS := am H
          clear H
          go_upto_region 12 with (fail)
          go_cut [62] (fun hG wc => ∃ (kq : Nat) (cE : Bool) (aW : Int) (aX : Int), hG = .bool cE ∧ qAb (qAc.j4 kq l0 bD cE aJ aW aX aH aI 0 = some (r1, r2, r3, r4)) ∧ qAb (kq ≤ k4) ∧ qAb (Kd.R k69 69 wc w.heap.size (fun _ => True) aN aH) ∧ qAb (Kd.S k77 77 wc w.heap.size (fun _ => True) aM aI) ∧ qAb (wc.heap[aT]? = some (.cells #[(.slice none 0 0), (.slice none 0 0), .int .i64 0] 47 (0, 0))) ∧ qAb (wc.heap[aU]? = some (.cells #[aN, aM, .int .i64 0] 47 (0, 0))) ∧ qAb (qAd w wc aQ aJ aW aX) ∧ qAb (Below w.heap.size w wc))
          case first =>
           have H := dS.o
           clear dS
           by_cases dp : bD > 0
           rotate_left
           ·rw [if_neg dp] at H
            replace dp := d0 dp
            ((skip))
            have H' := am H
            clear H
            go_wp2
            go_meet
            case rel => exact ⟨_, (false), (bA), (bC), (by (rfl)), H', ⟨by have := bw.o; have := cv.o; have := cF.o; have := dl.o; (omega)⟩, ⟨by (with_reducible repeat (fail)); exact aA.o⟩, ⟨by (with_reducible repeat (fail)); exact aC.o⟩, ⟨by (with_reducible repeat (fail)); exact aG.o⟩, ⟨by (with_reducible repeat (fail)); exact aE.o⟩, ⟨by repeat ((with_reducible (exact aD.o)))⟩, ⟨by repeat ((with_reducible (exact HB.o)))⟩⟩
           rw [if_pos dp] at H
           replace dp := d1 dp
           ((skip))
           replace H := bm H
           obtain ⟨⟨di, dj, dk⟩, eA, H⟩ := H
           replace H : (qAc.j4 k4 l0 bD (di == 0) aJ dj dk aH aI 0) = some (r1, r2, r3, r4) := H
           have hA := am eA
           clear eA
           have H' := am H
           clear H
           go_wp2_with ((go_at_call 24; (with_reducible refine (qA7.calls aQ aJ bA bC di dj dk w _ ?side1 ?side2 hA.o).mono ?_); (case side1 => repeat ((with_reducible (exact aD.o)))); (case side2 => repeat ((with_reducible (exact HB.o)))); rintro e h4 ⟨rfl, hi, hb, hk⟩; have n0_ := am (Kd.R_kp (qAd.apart (show qAd w _ aQ aJ bA bC from by repeat ((with_reducible (exact aD.o)))) (by (with_reducible repeat (fail)); exact aA.o) (by decide)) hk); have n1_ := am (Kd.S_mono (Kd.S_keep (qAd.apartS (show qAd w _ aQ aJ bA bC from by repeat ((with_reducible (exact aD.o)))) (by (with_reducible repeat (fail)); exact aC.o) (by decide)) hk (fun _ h => h.2)) (fun _ h => h.1)); have n2_ := am (qAh.blk hk (g' := aT) (o := .cells #[.slice none 0 0, .slice none 0 0, .int .i64 0] 47 (0, 0)) (by (with_reducible repeat (fail)); exact aG.o) aV.o (by simp)); have n3_ := am (qAh.blk hk (g' := aU) (o := .cells #[aN, aM, .int .i64 0] 47 (0, 0)) (by (with_reducible repeat (fail)); exact aE.o) aY.o (by simp)); have n4_ := am (hb); have n5_ := am (hi); clear aA; clear aC; clear aG; clear aE; clear HB; clear aD; have aA := n0_; have aC := n1_; have aG := n2_; have aE := n3_; have HB := n4_; have aD := n5_; clear n0_ n1_ n2_ n3_ n4_ n5_; (skip)))
           go_meet
           case rel => exact ⟨_, ((di == 0)), (dj), (dk), (by (rfl)), H', ⟨by have := bw.o; have := cv.o; have := cF.o; have := dl.o; (omega)⟩, ⟨by (with_reducible repeat (fail)); exact aA.o⟩, ⟨by (with_reducible repeat (fail)); exact aC.o⟩, ⟨by (with_reducible repeat (fail)); exact aG.o⟩, ⟨by (with_reducible repeat (fail)); exact aE.o⟩, ⟨by repeat ((with_reducible (exact aD.o)))⟩, ⟨by repeat ((with_reducible (exact HB.o)))⟩⟩
          case rest =>
           clear dS
           skip
           skip
           skip
           skip
           skip
           skip
           skip
           skip
           skip
           skip
           skip
           skip
           skip
           skip
           skip
           skip
           skip
           skip
           skip
           skip
           skip
           skip
           skip
           skip
           skip
           skip
           skip
           skip
           skip
           obtain ⟨kq, cE, aW, aX, rfl, HA, cy, aA, aC, aG, aE, aD, HB⟩ := hcut
           cases kq with
           | zero => exact absurd HA.o (by simp [qAc.j4])
           | succ ap =>
            have H := HA.o
            clear HA
            simp only [qAc.j4] at H
            by_cases f5 : cE = true
            rotate_left
            ·replace f5 := Bool.eq_false_iff.mpr f5
             subst f5
             replace H : ((qAI.f aJ aW aX).bind fun b7 => ((qA7.f aJ b7.2.1 b7.2.2).bind fun cG => (if cG.1 = 0 then ((qAA.f aH aI b7.1).bind fun bS => (if bS.2 = 0 then ((qAj.f ap l0 bS.1).bind fun bg => (if bg = true then (some (aH, aI, b7.1, 0)) else (some (([] : List (S69)), ([] : List (S77)), 0, 53)))) else (some (([] : List (S69)), ([] : List (S77)), 0, 53)))) else (some (([] : List (S69)), ([] : List (S77)), 0, 53))))) = some (r1, r2, r3, r4) := by rw [if_neg (show ¬ (false = true) by decide)] at H; exact H
             replace H := bm H
             obtain ⟨⟨ai, bY, bZ⟩, dD, H⟩ := H
             replace H : ((qA7.f aJ bY bZ).bind fun cG => (if cG.1 = 0 then ((qAA.f aH aI ai).bind fun bS => (if bS.2 = 0 then ((qAj.f ap l0 bS.1).bind fun bg => (if bg = true then (some (aH, aI, ai, 0)) else (some (([] : List (S69)), ([] : List (S77)), 0, 53)))) else (some (([] : List (S69)), ([] : List (S77)), 0, 53)))) else (some (([] : List (S69)), ([] : List (S77)), 0, 53)))) = some (r1, r2, r3, r4) := H
             have cw := am dD
             clear dD
             replace H := bm H
             obtain ⟨⟨cI, cX, cY⟩, dE, H⟩ := H
             replace H : (if cI = 0 then ((qAA.f aH aI ai).bind fun bS => (if bS.2 = 0 then ((qAj.f ap l0 bS.1).bind fun bg => (if bg = true then (some (aH, aI, ai, 0)) else (some (([] : List (S69)), ([] : List (S77)), 0, 53)))) else (some (([] : List (S69)), ([] : List (S77)), 0, 53)))) else (some (([] : List (S69)), ([] : List (S77)), 0, 53))) = some (r1, r2, r3, r4) := H
             have cx := am dE
             clear dE
             by_cases cf : cI = 0
             rotate_left
             ·rw [if_neg cf] at H
              have dT : (cI != 0) = true := bne_iff_ne.mpr cf
              simp only [Option.some.injEq, Prod.mk.injEq] at H
              obtain ⟨rfl, rfl, rfl, rfl⟩ := H
              go_wp2_with (first | ((with_reducible refine qAy (f := 23) rfl ?_); refine gL 93 Try.func23 #[.pointer (some ⟨aQ, 0, none⟩)] ?_; (with_reducible refine (qAI.calls aQ aJ aW aX ai bY bZ w _ ?side1 ?side2 cw.o).mono ?_); (case side1 => repeat ((with_reducible (exact aD.o)))); (case side2 => repeat ((with_reducible (exact HB.o)))); rintro e gf ⟨rfl, hi, hb, hk⟩; refine ⟨_, rfl, ?_⟩; have n0_ := am (Kd.R_kp (qAd.apart (show qAd w _ aQ aJ aW aX from by repeat ((with_reducible (exact aD.o)))) (by (with_reducible repeat (fail)); exact aA.o) (by decide)) hk); have n1_ := am (Kd.S_mono (Kd.S_keep (qAd.apartS (show qAd w _ aQ aJ aW aX from by repeat ((with_reducible (exact aD.o)))) (by (with_reducible repeat (fail)); exact aC.o) (by decide)) hk (fun _ h => h.2)) (fun _ h => h.1)); have n2_ := am (qAh.blk hk (g' := aT) (o := .cells #[.slice none 0 0, .slice none 0 0, .int .i64 0] 47 (0, 0)) (by (with_reducible repeat (fail)); exact aG.o) aV.o (by simp)); have n3_ := am (qAh.blk hk (g' := aU) (o := .cells #[aN, aM, .int .i64 0] 47 (0, 0)) (by (with_reducible repeat (fail)); exact aE.o) aY.o (by simp)); have n4_ := am (hb); have n5_ := am (hi); clear aA; clear aC; clear aG; clear aE; clear HB; clear aD; have aA := n0_; have aC := n1_; have aG := n2_; have aE := n3_; have HB := n4_; have aD := n5_; clear n0_ n1_ n2_ n3_ n4_ n5_; (skip); obtain ⟨-, -, fH⟩ := c3_ gf aE.o; have fZ := qAg aE.o 2) | ((with_reducible refine qAy (f := 24) rfl ?_); refine gL 96 Try.func24 #[.pointer (some ⟨aQ, 0, none⟩)] ?_; (with_reducible refine (qA7.calls aQ aJ bY bZ cI cX cY w _ ?side1 ?side2 cx.o).mono ?_); (case side1 => repeat ((with_reducible first | exact aD.o | refine qAd.far ?_ a4.o (by (with_reducible repeat (fail)); exact TyB.of aE.o) (by decide) _))); (case side2 => repeat ((with_reducible first | exact HB.o | refine qAs ?_ bi.o))); rintro e gg ⟨rfl, hi, hb, hk⟩; refine ⟨_, rfl, ?_⟩; have n0_ := am (Kd.R_kp (qAd.apart (show qAd w _ aQ aJ bY bZ from by repeat ((with_reducible first | exact aD.o | refine qAd.far ?_ a4.o (by (with_reducible repeat (fail)); exact TyB.of aE.o) (by decide) _))) (by (with_reducible repeat (fail)); exact (Kd.R_mono (Kd.R_far (p := ⟨aU, 2, none⟩) (Kd.R_types aA.o aE.o (by decide)) (fun _ hk => hk.2) (.int .i64 ai)) (fun _ h_ => h_.1))) (by decide)) hk); have n1_ := am (Kd.S_mono (Kd.S_keep (qAd.apartS (show qAd w _ aQ aJ bY bZ from by repeat ((with_reducible first | exact aD.o | refine qAd.far ?_ a4.o (by (with_reducible repeat (fail)); exact TyB.of aE.o) (by decide) _))) (by (with_reducible repeat (fail)); exact (Kd.S_mono (Kd.S_far (p := ⟨aU, 2, none⟩) (Kd.S_types aC.o aE.o (by decide)) (fun _ hk => hk.2) (.int .i64 ai)) (fun _ h_ => h_.1))) (by decide)) hk (fun _ h => h.2)) (fun _ h => h.1)); have n2_ := am (qAh.blk hk (g' := aT) (o := .cells #[.slice none 0 0, .slice none 0 0, .int .i64 0] 47 (0, 0)) (by (with_reducible repeat (fail)); refine qAu ?_ ay.o _; (with_reducible repeat (fail)); exact aG.o) aV.o (by simp)); have n3_ := am (qAh.blk hk (g' := aU) (o := .cells #[aN, aM, .int .i64 ai] 47 (0, 0)) (by (with_reducible repeat (fail)); refine qAx (cs := #[aN, aM, .int .i64 0]) ?_ 2 _ rfl; (with_reducible repeat (fail)); exact aE.o) aY.o (by simp)); have n4_ := am (hb); have n5_ := am (hi); clear aA; clear aC; clear aG; clear aE; clear HB; clear aD; have aG := n2_; have HB := n4_; clear n0_ n1_ n2_ n3_ n4_ n5_; (skip); obtain ⟨fI, fJ, fK⟩ := c3_ gg aG.o; obtain ⟨f0, f1, f2⟩ := z3_ aG.o))
              refine bodyPost_ret (qCw rfl _ _ aT 47 #[.slice none 0 0, .slice none 0 0, .int .i64 0] (0, 0) _ rfl (by (with_reducible repeat (fail)); refine qAx (cs := #[.slice none 0 0, .slice none 0 0, .int .i64 0]) ?_ 2 _ rfl; (with_reducible repeat (fail)); refine qAx (cs := #[.slice none 0 0, .slice none 0 0, .int .i64 0]) ?_ 1 _ rfl; (with_reducible repeat (fail)); refine qAx (cs := #[.slice none 0 0, .slice none 0 0, .int .i64 0]) ?_ 0 _ rfl; (with_reducible repeat (fail)); exact aG.o) Try.underlying47 rfl (by kernel_rfl)) rfl ?_
              exact ⟨_, _, by (rfl), by (exact Kd.R_nil _ _ _ _ _), by (exact Kd.S_nil _ _ _ _ _), by repeat ((with_reducible first | exact HB.o | refine qAs ?_ cA.o))⟩
             rw [if_pos cf] at H
             have dT : (cI != 0) = false := bn cf
             clear cf
             replace H := bm H
             obtain ⟨⟨bz, cO⟩, dF, H⟩ := H
             replace H : (if cO = 0 then ((qAj.f ap l0 bz).bind fun bg => (if bg = true then (some (aH, aI, ai, 0)) else (some (([] : List (S69)), ([] : List (S77)), 0, 53)))) else (some (([] : List (S69)), ([] : List (S77)), 0, 53))) = some (r1, r2, r3, r4) := H
             have dO := am dF
             clear dF
             by_cases cg : cO = 0
             rotate_left
             ·rw [if_neg cg] at H
              have dU : (cO != 0) = true := bne_iff_ne.mpr cg
              simp only [Option.some.injEq, Prod.mk.injEq] at H
              obtain ⟨rfl, rfl, rfl, rfl⟩ := H
              go_wp2_with (first | ((with_reducible refine qAy (f := 23) rfl ?_); refine gL 93 Try.func23 #[.pointer (some ⟨aQ, 0, none⟩)] ?_; (with_reducible refine (qAI.calls aQ aJ aW aX ai bY bZ w _ ?side1 ?side2 cw.o).mono ?_); (case side1 => repeat ((with_reducible (exact aD.o)))); (case side2 => repeat ((with_reducible (exact HB.o)))); rintro e ga ⟨rfl, hi, hb, hk⟩; refine ⟨_, rfl, ?_⟩; have n0_ := am (Kd.R_kp (qAd.apart (show qAd w _ aQ aJ aW aX from by repeat ((with_reducible (exact aD.o)))) (by (with_reducible repeat (fail)); exact aA.o) (by decide)) hk); have n1_ := am (Kd.S_mono (Kd.S_keep (qAd.apartS (show qAd w _ aQ aJ aW aX from by repeat ((with_reducible (exact aD.o)))) (by (with_reducible repeat (fail)); exact aC.o) (by decide)) hk (fun _ h => h.2)) (fun _ h => h.1)); have n2_ := am (qAh.blk hk (g' := aT) (o := .cells #[.slice none 0 0, .slice none 0 0, .int .i64 0] 47 (0, 0)) (by (with_reducible repeat (fail)); exact aG.o) aV.o (by simp)); have n3_ := am (qAh.blk hk (g' := aU) (o := .cells #[aN, aM, .int .i64 0] 47 (0, 0)) (by (with_reducible repeat (fail)); exact aE.o) aY.o (by simp)); have n4_ := am (hb); have n5_ := am (hi); clear aA; clear aC; clear aG; clear aE; clear HB; clear aD; have aA := n0_; have aC := n1_; have aG := n2_; have aE := n3_; have HB := n4_; have aD := n5_; clear n0_ n1_ n2_ n3_ n4_ n5_; (skip); obtain ⟨ey, ez, fA⟩ := c3_ ga aE.o; have fV := qAg aE.o 2) | ((with_reducible refine qAy (f := 24) rfl ?_); refine gL 96 Try.func24 #[.pointer (some ⟨aQ, 0, none⟩)] ?_; (with_reducible refine (qA7.calls aQ aJ bY bZ cI cX cY w _ ?side1 ?side2 cx.o).mono ?_); (case side1 => repeat ((with_reducible first | exact aD.o | refine qAd.far ?_ a4.o (by (with_reducible repeat (fail)); exact TyB.of aE.o) (by decide) _))); (case side2 => repeat ((with_reducible first | exact HB.o | refine qAs ?_ bi.o))); rintro e gb ⟨rfl, hi, hb, hk⟩; refine ⟨_, rfl, ?_⟩; have n0_ := am (Kd.R_kp (qAd.apart (show qAd w _ aQ aJ bY bZ from by repeat ((with_reducible first | exact aD.o | refine qAd.far ?_ a4.o (by (with_reducible repeat (fail)); exact TyB.of aE.o) (by decide) _))) (by (with_reducible repeat (fail)); exact (Kd.R_mono (Kd.R_far (p := ⟨aU, 2, none⟩) (Kd.R_types aA.o aE.o (by decide)) (fun _ hk => hk.2) (.int .i64 ai)) (fun _ h_ => h_.1))) (by decide)) hk); have n1_ := am (Kd.S_mono (Kd.S_keep (qAd.apartS (show qAd w _ aQ aJ bY bZ from by repeat ((with_reducible first | exact aD.o | refine qAd.far ?_ a4.o (by (with_reducible repeat (fail)); exact TyB.of aE.o) (by decide) _))) (by (with_reducible repeat (fail)); exact (Kd.S_mono (Kd.S_far (p := ⟨aU, 2, none⟩) (Kd.S_types aC.o aE.o (by decide)) (fun _ hk => hk.2) (.int .i64 ai)) (fun _ h_ => h_.1))) (by decide)) hk (fun _ h => h.2)) (fun _ h => h.1)); have n2_ := am (qAh.blk hk (g' := aT) (o := .cells #[.slice none 0 0, .slice none 0 0, .int .i64 0] 47 (0, 0)) (by (with_reducible repeat (fail)); refine qAu ?_ ay.o _; (with_reducible repeat (fail)); exact aG.o) aV.o (by simp)); have n3_ := am (qAh.blk hk (g' := aU) (o := .cells #[aN, aM, .int .i64 ai] 47 (0, 0)) (by (with_reducible repeat (fail)); refine qAx (cs := #[aN, aM, .int .i64 0]) ?_ 2 _ rfl; (with_reducible repeat (fail)); exact aE.o) aY.o (by simp)); have n4_ := am (hb); have n5_ := am (hi); clear aA; clear aC; clear aG; clear aE; clear HB; clear aD; have aA := n0_; have aC := n1_; have aG := n2_; have aE := n3_; have HB := n4_; have aD := n5_; clear n0_ n1_ n2_ n3_ n4_ n5_; (skip); obtain ⟨fB, fC, fD⟩ := c3_ gb aE.o; obtain ⟨dH, dM, e9⟩ := Kd.R_slice aA.o; subst e9; obtain ⟨dI, dN, ea⟩ := Kd.S_slice aC.o; subst ea) | ((with_reducible refine qAy (f := 16) rfl ?_); refine gL 101 Try.func16 #[.agg #[.slice dH aH.length dM, .slice dI aI.length dN, .int .i64 ai]] ?_; (with_reducible refine (qAA.calls _ _ aH _ _ aI ai bz cO _ ?side1 ?side2 ?side3 ?side4 dO.o).mono ?_); (case side1 => repeat ((exact (Kd.R_reads' aA.o).2.2))); (case side2 => exact (Kd.R_reads' aA.o).2.1); (case side3 => repeat ((exact (Kd.S_reads' aC.o).2.2))); (case side4 => exact (Kd.S_reads' aC.o).2.1); rintro e gc ⟨f3, rfl, bJ, hb⟩; refine ⟨_, rfl, ?_⟩; have n0_ := am (Kd.R_below (by (with_reducible repeat (fail)); exact aA.o) hb); have n1_ := am (Kd.S_below (by (with_reducible repeat (fail)); exact aC.o) hb); have n2_ := am (Kd.R_lower bJ (qAf (by repeat ((with_reducible (exact HB.o)))))); have n3_ := am (qAe (g := aT) (o := .cells #[.slice none 0 0, .slice none 0 0, .int .i64 0] 47 (0, 0)) (by (with_reducible repeat (fail)); exact aG.o) hb); have n4_ := am (qAe (g := aU) (o := .cells #[.slice dH aH.length dM, .slice dI aI.length dN, .int .i64 ai] 47 (0, 0)) (by (with_reducible repeat (fail)); exact aE.o) hb); have n5_ := am (qAd.below (by repeat ((with_reducible (exact aD.o)))) hb); have n6_ := am (qAk (by repeat ((with_reducible (exact HB.o)))) hb); clear aA; clear aC; clear aG; clear aE; clear aD; clear HB; have aG := n3_; have HB := n6_; clear n0_ n1_ n2_ n3_ n4_ n5_ n6_; (skip); (skip); (skip); obtain ⟨fE, fF, fG⟩ := c3_ gc aG.o; obtain ⟨fW, fX, fY⟩ := z3_ aG.o))
              refine bodyPost_ret (qCw rfl _ _ aT 47 #[.slice none 0 0, .slice none 0 0, .int .i64 0] (0, 0) _ rfl (by (with_reducible repeat (fail)); refine qAx (cs := #[.slice none 0 0, .slice none 0 0, .int .i64 0]) ?_ 2 _ rfl; (with_reducible repeat (fail)); refine qAx (cs := #[.slice none 0 0, .slice none 0 0, .int .i64 0]) ?_ 1 _ rfl; (with_reducible repeat (fail)); refine qAx (cs := #[.slice none 0 0, .slice none 0 0, .int .i64 0]) ?_ 0 _ rfl; (with_reducible repeat (fail)); exact aG.o) Try.underlying47 rfl (by kernel_rfl)) rfl ?_
              exact ⟨_, _, by (rfl), by (exact Kd.R_nil _ _ _ _ _), by (exact Kd.S_nil _ _ _ _ _), by repeat ((with_reducible first | exact HB.o | refine qAs ?_ cA.o))⟩
             rw [if_pos cg] at H
             have dU : (cO != 0) = false := bn cg
             clear cg
             replace H := bm H
             obtain ⟨bg, dG, H⟩ := H
             replace H : (if bg = true then (some (aH, aI, ai, 0)) else (some (([] : List (S69)), ([] : List (S77)), 0, 53))) = some (r1, r2, r3, r4) := H
             have dt := am dG
             clear dG
             by_cases cz : bg = true
             rotate_left
             ·replace cz := Bool.eq_false_iff.mpr cz
              subst cz
              replace H : (some (([] : List (S69)), ([] : List (S77)), 0, 53)) = some (r1, r2, r3, r4) := by rw [if_neg (show ¬ (false = true) by decide)] at H; exact H
              simp only [Option.some.injEq, Prod.mk.injEq] at H
              obtain ⟨rfl, rfl, rfl, rfl⟩ := H
              go_wp2_with (first | ((with_reducible refine qAy (f := 23) rfl ?_); refine gL 93 Try.func23 #[.pointer (some ⟨aQ, 0, none⟩)] ?_; (with_reducible refine (qAI.calls aQ aJ aW aX ai bY bZ w _ ?side1 ?side2 cw.o).mono ?_); (case side1 => repeat ((with_reducible (exact aD.o)))); (case side2 => repeat ((with_reducible (exact HB.o)))); rintro e g8 ⟨rfl, hi, hb, hk⟩; refine ⟨_, rfl, ?_⟩; have n0_ := am (Kd.R_kp (qAd.apart (show qAd w _ aQ aJ aW aX from by repeat ((with_reducible (exact aD.o)))) (by (with_reducible repeat (fail)); exact aA.o) (by decide)) hk); have n1_ := am (Kd.S_mono (Kd.S_keep (qAd.apartS (show qAd w _ aQ aJ aW aX from by repeat ((with_reducible (exact aD.o)))) (by (with_reducible repeat (fail)); exact aC.o) (by decide)) hk (fun _ h => h.2)) (fun _ h => h.1)); have n2_ := am (qAh.blk hk (g' := aT) (o := .cells #[.slice none 0 0, .slice none 0 0, .int .i64 0] 47 (0, 0)) (by (with_reducible repeat (fail)); exact aG.o) aV.o (by simp)); have n3_ := am (qAh.blk hk (g' := aU) (o := .cells #[aN, aM, .int .i64 0] 47 (0, 0)) (by (with_reducible repeat (fail)); exact aE.o) aY.o (by simp)); have n4_ := am (hb); have n5_ := am (hi); clear aA; clear aC; clear aG; clear aE; clear HB; clear aD; have aA := n0_; have aC := n1_; have aG := n2_; have aE := n3_; have HB := n4_; have aD := n5_; clear n0_ n1_ n2_ n3_ n4_ n5_; (skip); obtain ⟨ep, eq, er⟩ := c3_ g8 aE.o; have fR := qAg aE.o 2) | ((with_reducible refine qAy (f := 24) rfl ?_); refine gL 96 Try.func24 #[.pointer (some ⟨aQ, 0, none⟩)] ?_; (with_reducible refine (qA7.calls aQ aJ bY bZ cI cX cY w _ ?side1 ?side2 cx.o).mono ?_); (case side1 => repeat ((with_reducible first | exact aD.o | refine qAd.far ?_ a4.o (by (with_reducible repeat (fail)); exact TyB.of aE.o) (by decide) _))); (case side2 => repeat ((with_reducible first | exact HB.o | refine qAs ?_ bi.o))); rintro e g9 ⟨rfl, hi, hb, hk⟩; refine ⟨_, rfl, ?_⟩; have n0_ := am (Kd.R_kp (qAd.apart (show qAd w _ aQ aJ bY bZ from by repeat ((with_reducible first | exact aD.o | refine qAd.far ?_ a4.o (by (with_reducible repeat (fail)); exact TyB.of aE.o) (by decide) _))) (by (with_reducible repeat (fail)); exact (Kd.R_mono (Kd.R_far (p := ⟨aU, 2, none⟩) (Kd.R_types aA.o aE.o (by decide)) (fun _ hk => hk.2) (.int .i64 ai)) (fun _ h_ => h_.1))) (by decide)) hk); have n1_ := am (Kd.S_mono (Kd.S_keep (qAd.apartS (show qAd w _ aQ aJ bY bZ from by repeat ((with_reducible first | exact aD.o | refine qAd.far ?_ a4.o (by (with_reducible repeat (fail)); exact TyB.of aE.o) (by decide) _))) (by (with_reducible repeat (fail)); exact (Kd.S_mono (Kd.S_far (p := ⟨aU, 2, none⟩) (Kd.S_types aC.o aE.o (by decide)) (fun _ hk => hk.2) (.int .i64 ai)) (fun _ h_ => h_.1))) (by decide)) hk (fun _ h => h.2)) (fun _ h => h.1)); have n2_ := am (qAh.blk hk (g' := aT) (o := .cells #[.slice none 0 0, .slice none 0 0, .int .i64 0] 47 (0, 0)) (by (with_reducible repeat (fail)); refine qAu ?_ ay.o _; (with_reducible repeat (fail)); exact aG.o) aV.o (by simp)); have n3_ := am (qAh.blk hk (g' := aU) (o := .cells #[aN, aM, .int .i64 ai] 47 (0, 0)) (by (with_reducible repeat (fail)); refine qAx (cs := #[aN, aM, .int .i64 0]) ?_ 2 _ rfl; (with_reducible repeat (fail)); exact aE.o) aY.o (by simp)); have n4_ := am (hb); have n5_ := am (hi); clear aA; clear aC; clear aG; clear aE; clear HB; clear aD; have aA := n0_; have aC := n1_; have aG := n2_; have aE := n3_; have HB := n4_; have aD := n5_; clear n0_ n1_ n2_ n3_ n4_ n5_; (skip); obtain ⟨es, et, eu⟩ := c3_ g9 aE.o; obtain ⟨cP, cR, e6⟩ := Kd.R_slice aA.o; subst e6; obtain ⟨cQ, cS, e7⟩ := Kd.S_slice aC.o; subst e7) | ((with_reducible refine qAy (f := 16) rfl ?_); refine gL 101 Try.func16 #[.agg #[.slice cP aH.length cR, .slice cQ aI.length cS, .int .i64 ai]] ?_; (with_reducible refine (qAA.calls _ _ aH _ _ aI ai bz cO _ ?side1 ?side2 ?side3 ?side4 dO.o).mono ?_); (case side1 => repeat ((exact (Kd.R_reads' aA.o).2.2))); (case side2 => exact (Kd.R_reads' aA.o).2.1); (case side3 => repeat ((exact (Kd.S_reads' aC.o).2.2))); (case side4 => exact (Kd.S_reads' aC.o).2.1); rintro e bu ⟨f3, rfl, bJ, hb⟩; refine ⟨_, rfl, ?_⟩; have n0_ := am (Kd.R_below (by (with_reducible repeat (fail)); exact aA.o) hb); have n1_ := am (Kd.S_below (by (with_reducible repeat (fail)); exact aC.o) hb); have n2_ := am (Kd.R_lower bJ (qAf (by repeat ((with_reducible (exact HB.o)))))); have n3_ := am (qAe (g := aT) (o := .cells #[.slice none 0 0, .slice none 0 0, .int .i64 0] 47 (0, 0)) (by (with_reducible repeat (fail)); exact aG.o) hb); have n4_ := am (qAe (g := aU) (o := .cells #[.slice cP aH.length cR, .slice cQ aI.length cS, .int .i64 ai] 47 (0, 0)) (by (with_reducible repeat (fail)); exact aE.o) hb); have n5_ := am (qAd.below (by repeat ((with_reducible (exact aD.o)))) hb); have n6_ := am (qAk (by repeat ((with_reducible (exact HB.o)))) hb); clear aA; clear aC; clear aG; clear aE; clear aD; clear HB; have aA := n0_; have aC := n1_; have bP := n2_; have aG := n3_; have aE := n4_; have aD := n5_; have HB := n6_; clear n0_ n1_ n2_ n3_ n4_ n5_ n6_; (skip); (skip); (skip); obtain ⟨eJ, eY, e8⟩ := Kd.R_slice bP.o; subst e8) | (go_at_call 29; (with_reducible refine (qAj.calls ap _ _ l0 _ _ bz false _ ?side1 ?side2 ?side3 ?side4 dt.o).mono ?_); (case side1 => repeat ((exact (Kd.C_below gJ.o HB.o)))); (case side2 => exact gI.o); (case side3 => repeat ((exact (Kd.R_reads' bP.o).2.2))); (case side4 => exact (Kd.R_reads' bP.o).2.1); rintro e w' ⟨rfl, ⟨nd, rfl⟩⟩; (try (rw [drewN_self bu]; generalize hq_ : World.drewN bu _ = bu; have n0_ : qAb (Kd.R (Kd.int .u8) 5 bu w.heap.size (fun _ => True) (.slice eJ bz.length eY) bz) := ⟨by rw [← hq_]; exact (by (with_reducible repeat ((apply Kd.R_drewN))); exact bP.o)⟩; have n1_ : qAb (Kd.R k69 69 bu w.heap.size (fun _ => True) (.slice cP aH.length cR) aH) := ⟨by rw [← hq_]; exact (by (with_reducible repeat ((apply Kd.R_drewN))); exact aA.o)⟩; have n2_ : qAb (Kd.S k77 77 bu w.heap.size (fun _ => True) (.slice cQ aI.length cS) aI) := ⟨by rw [← hq_]; exact (by (with_reducible repeat ((apply Kd.S_drewN))); exact aC.o)⟩; have n3_ : qAb (bu.heap[aT]? = some (.cells #[.slice none 0 0, .slice none 0 0, .int .i64 0] 47 (0, 0))) := ⟨by rw [← hq_]; exact (by (with_reducible repeat ((refine qBG ?_ _))); exact aG.o)⟩; have n4_ : qAb (bu.heap[aU]? = some (.cells #[.slice cP aH.length cR, .slice cQ aI.length cS, .int .i64 ai] 47 (0, 0))) := ⟨by rw [← hq_]; exact (by (with_reducible repeat ((refine qBG ?_ _))); exact aE.o)⟩; have n5_ : qAb (qAd w bu aQ aJ cX cY) := ⟨by rw [← hq_]; exact (by repeat ((with_reducible first | exact aD.o | apply qAd.drewN)))⟩; have n6_ : qAb (Below w.heap.size w bu) := ⟨by rw [← hq_]; exact (by repeat ((with_reducible first | exact HB.o | apply qAp)))⟩; clear bP aA aC aG aE aD HB hq_; have aG := n3_; have HB := n6_; clear n0_ n1_ n2_ n3_ n4_ n5_ n6_)); obtain ⟨ev, ew, ex⟩ := c3_ bu aG.o; obtain ⟨fS, fT, fU⟩ := z3_ aG.o))
              refine bodyPost_ret (qCw rfl _ _ aT 47 #[.slice none 0 0, .slice none 0 0, .int .i64 0] (0, 0) _ rfl (by (with_reducible repeat (fail)); refine qAx (cs := #[.slice none 0 0, .slice none 0 0, .int .i64 0]) ?_ 2 _ rfl; (with_reducible repeat (fail)); refine qAx (cs := #[.slice none 0 0, .slice none 0 0, .int .i64 0]) ?_ 1 _ rfl; (with_reducible repeat (fail)); refine qAx (cs := #[.slice none 0 0, .slice none 0 0, .int .i64 0]) ?_ 0 _ rfl; (with_reducible repeat (fail)); exact aG.o) Try.underlying47 rfl (by kernel_rfl)) rfl ?_
              exact ⟨_, _, by (rfl), by (exact Kd.R_nil _ _ _ _ _), by (exact Kd.S_nil _ _ _ _ _), by repeat ((with_reducible first | exact HB.o | refine qAs ?_ cA.o))⟩
             subst cz
             replace H : (some (aH, aI, ai, 0)) = some (r1, r2, r3, r4) := by rw [if_pos rfl] at H; exact H
             simp only [Option.some.injEq, Prod.mk.injEq] at H
             obtain ⟨rfl, rfl, rfl, rfl⟩ := H
             go_wp2_with (first | ((with_reducible refine qAy (f := 23) rfl ?_); refine gL 93 Try.func23 #[.pointer (some ⟨aQ, 0, none⟩)] ?_; (with_reducible refine (qAI.calls aQ aJ aW aX ai bY bZ w _ ?side1 ?side2 cw.o).mono ?_); (case side1 => repeat ((with_reducible (exact aD.o)))); (case side2 => repeat ((with_reducible (exact HB.o)))); rintro e g6 ⟨rfl, hi, hb, hk⟩; refine ⟨_, rfl, ?_⟩; have n0_ := am (Kd.R_kp (qAd.apart (show qAd w _ aQ aJ aW aX from by repeat ((with_reducible (exact aD.o)))) (by (with_reducible repeat (fail)); exact aA.o) (by decide)) hk); have n1_ := am (Kd.S_mono (Kd.S_keep (qAd.apartS (show qAd w _ aQ aJ aW aX from by repeat ((with_reducible (exact aD.o)))) (by (with_reducible repeat (fail)); exact aC.o) (by decide)) hk (fun _ h => h.2)) (fun _ h => h.1)); have n2_ := am (qAh.blk hk (g' := aT) (o := .cells #[.slice none 0 0, .slice none 0 0, .int .i64 0] 47 (0, 0)) (by (with_reducible repeat (fail)); exact aG.o) aV.o (by simp)); have n3_ := am (qAh.blk hk (g' := aU) (o := .cells #[aN, aM, .int .i64 0] 47 (0, 0)) (by (with_reducible repeat (fail)); exact aE.o) aY.o (by simp)); have n4_ := am (hb); have n5_ := am (hi); clear aA; clear aC; clear aG; clear aE; clear HB; clear aD; have aA := n0_; have aC := n1_; have aG := n2_; have aE := n3_; have HB := n4_; have aD := n5_; clear n0_ n1_ n2_ n3_ n4_ n5_; (skip); obtain ⟨ed, ee, ef⟩ := c3_ g6 aE.o; have fN := qAg aE.o 2) | ((with_reducible refine qAy (f := 24) rfl ?_); refine gL 96 Try.func24 #[.pointer (some ⟨aQ, 0, none⟩)] ?_; (with_reducible refine (qA7.calls aQ aJ bY bZ cI cX cY w _ ?side1 ?side2 cx.o).mono ?_); (case side1 => repeat ((with_reducible first | exact aD.o | refine qAd.far ?_ a4.o (by (with_reducible repeat (fail)); exact TyB.of aE.o) (by decide) _))); (case side2 => repeat ((with_reducible first | exact HB.o | refine qAs ?_ bi.o))); rintro e g7 ⟨rfl, hi, hb, hk⟩; refine ⟨_, rfl, ?_⟩; have n0_ := am (Kd.R_kp (qAd.apart (show qAd w _ aQ aJ bY bZ from by repeat ((with_reducible first | exact aD.o | refine qAd.far ?_ a4.o (by (with_reducible repeat (fail)); exact TyB.of aE.o) (by decide) _))) (by (with_reducible repeat (fail)); exact (Kd.R_mono (Kd.R_far (p := ⟨aU, 2, none⟩) (Kd.R_types aA.o aE.o (by decide)) (fun _ hk => hk.2) (.int .i64 ai)) (fun _ h_ => h_.1))) (by decide)) hk); have n1_ := am (Kd.S_mono (Kd.S_keep (qAd.apartS (show qAd w _ aQ aJ bY bZ from by repeat ((with_reducible first | exact aD.o | refine qAd.far ?_ a4.o (by (with_reducible repeat (fail)); exact TyB.of aE.o) (by decide) _))) (by (with_reducible repeat (fail)); exact (Kd.S_mono (Kd.S_far (p := ⟨aU, 2, none⟩) (Kd.S_types aC.o aE.o (by decide)) (fun _ hk => hk.2) (.int .i64 ai)) (fun _ h_ => h_.1))) (by decide)) hk (fun _ h => h.2)) (fun _ h => h.1)); have n2_ := am (qAh.blk hk (g' := aT) (o := .cells #[.slice none 0 0, .slice none 0 0, .int .i64 0] 47 (0, 0)) (by (with_reducible repeat (fail)); refine qAu ?_ ay.o _; (with_reducible repeat (fail)); exact aG.o) aV.o (by simp)); have n3_ := am (qAh.blk hk (g' := aU) (o := .cells #[aN, aM, .int .i64 ai] 47 (0, 0)) (by (with_reducible repeat (fail)); refine qAx (cs := #[aN, aM, .int .i64 0]) ?_ 2 _ rfl; (with_reducible repeat (fail)); exact aE.o) aY.o (by simp)); have n4_ := am (hb); have n5_ := am (hi); clear aA; clear aC; clear aG; clear aE; clear HB; clear aD; have aA := n0_; have aC := n1_; have aG := n2_; have aE := n3_; have HB := n4_; have aD := n5_; clear n0_ n1_ n2_ n3_ n4_ n5_; (skip); obtain ⟨eg, eh, ei⟩ := c3_ g7 aE.o; obtain ⟨b3, b8, e3⟩ := Kd.R_slice aA.o; subst e3; obtain ⟨bc, bd, e4⟩ := Kd.S_slice aC.o; subst e4) | ((with_reducible refine qAy (f := 16) rfl ?_); refine gL 101 Try.func16 #[.agg #[.slice b3 aH.length b8, .slice bc aI.length bd, .int .i64 ai]] ?_; (with_reducible refine (qAA.calls _ _ aH _ _ aI ai bz cO _ ?side1 ?side2 ?side3 ?side4 dO.o).mono ?_); (case side1 => repeat ((exact (Kd.R_reads' aA.o).2.2))); (case side2 => exact (Kd.R_reads' aA.o).2.1); (case side3 => repeat ((exact (Kd.S_reads' aC.o).2.2))); (case side4 => exact (Kd.S_reads' aC.o).2.1); rintro e bh ⟨f3, rfl, bJ, hb⟩; refine ⟨_, rfl, ?_⟩; have n0_ := am (Kd.R_below (by (with_reducible repeat (fail)); exact aA.o) hb); have n1_ := am (Kd.S_below (by (with_reducible repeat (fail)); exact aC.o) hb); have n2_ := am (Kd.R_lower bJ (qAf (by repeat ((with_reducible (exact HB.o)))))); have n3_ := am (qAe (g := aT) (o := .cells #[.slice none 0 0, .slice none 0 0, .int .i64 0] 47 (0, 0)) (by (with_reducible repeat (fail)); exact aG.o) hb); have n4_ := am (qAe (g := aU) (o := .cells #[.slice b3 aH.length b8, .slice bc aI.length bd, .int .i64 ai] 47 (0, 0)) (by (with_reducible repeat (fail)); exact aE.o) hb); have n5_ := am (qAd.below (by repeat ((with_reducible (exact aD.o)))) hb); have n6_ := am (qAk (by repeat ((with_reducible (exact HB.o)))) hb); clear aA; clear aC; clear aG; clear aE; clear aD; clear HB; have aA := n0_; have aC := n1_; have bP := n2_; have aG := n3_; have aE := n4_; have aD := n5_; have HB := n6_; clear n0_ n1_ n2_ n3_ n4_ n5_ n6_; (skip); (skip); (skip); obtain ⟨eI, eX, e5⟩ := Kd.R_slice bP.o; subst e5) | (go_at_call 29; (with_reducible refine (qAj.calls ap _ _ l0 _ _ bz true _ ?side1 ?side2 ?side3 ?side4 dt.o).mono ?_); (case side1 => repeat ((exact (Kd.C_below gJ.o HB.o)))); (case side2 => exact gI.o); (case side3 => repeat ((exact (Kd.R_reads' bP.o).2.2))); (case side4 => exact (Kd.R_reads' bP.o).2.1); rintro e w' ⟨rfl, ⟨nd, rfl⟩⟩; (try (rw [drewN_self bh]; generalize hq_ : World.drewN bh _ = bh; have n0_ : qAb (Kd.R (Kd.int .u8) 5 bh w.heap.size (fun _ => True) (.slice eI bz.length eX) bz) := ⟨by rw [← hq_]; exact (by (with_reducible repeat ((apply Kd.R_drewN))); exact bP.o)⟩; have n1_ : qAb (Kd.R k69 69 bh w.heap.size (fun _ => True) (.slice b3 aH.length b8) aH) := ⟨by rw [← hq_]; exact (by (with_reducible repeat ((apply Kd.R_drewN))); exact aA.o)⟩; have n2_ : qAb (Kd.S k77 77 bh w.heap.size (fun _ => True) (.slice bc aI.length bd) aI) := ⟨by rw [← hq_]; exact (by (with_reducible repeat ((apply Kd.S_drewN))); exact aC.o)⟩; have n3_ : qAb (bh.heap[aT]? = some (.cells #[.slice none 0 0, .slice none 0 0, .int .i64 0] 47 (0, 0))) := ⟨by rw [← hq_]; exact (by (with_reducible repeat ((refine qBG ?_ _))); exact aG.o)⟩; have n4_ : qAb (bh.heap[aU]? = some (.cells #[.slice b3 aH.length b8, .slice bc aI.length bd, .int .i64 ai] 47 (0, 0))) := ⟨by rw [← hq_]; exact (by (with_reducible repeat ((refine qBG ?_ _))); exact aE.o)⟩; have n5_ : qAb (qAd w bh aQ aJ cX cY) := ⟨by rw [← hq_]; exact (by repeat ((with_reducible first | exact aD.o | apply qAd.drewN)))⟩; have n6_ : qAb (Below w.heap.size w bh) := ⟨by rw [← hq_]; exact (by repeat ((with_reducible first | exact HB.o | apply qAp)))⟩; clear bP aA aC aG aE aD HB hq_; have aA := n1_; have aC := n2_; have aG := n3_; have aE := n4_; have HB := n6_; clear n0_ n1_ n2_ n3_ n4_ n5_ n6_)); obtain ⟨ej, ek, el⟩ := c3_ bh aE.o; obtain ⟨em, en, eo⟩ := c3_ bh aG.o; obtain ⟨fO, fP, fQ⟩ := z3_ aG.o))
             refine bodyPost_ret (qCw rfl _ _ aT 47 #[.slice b3 aH.length b8, .slice bc aI.length bd, .int .i64 ai] (0, 0) _ rfl (by (with_reducible repeat (fail)); refine qAx (cs := #[.slice b3 aH.length b8, .slice bc aI.length bd, .int .i64 0]) ?_ 2 _ rfl; (with_reducible repeat (fail)); refine qAx (cs := #[.slice b3 aH.length b8, .slice none 0 0, .int .i64 0]) ?_ 1 _ rfl; (with_reducible repeat (fail)); refine qAx (cs := #[.slice none 0 0, .slice none 0 0, .int .i64 0]) ?_ 0 _ rfl; (with_reducible repeat (fail)); exact aG.o) Try.underlying47 rfl (by kernel_rfl)) rfl ?_
             exact ⟨_, _, by (rfl), by (with_reducible repeat (fail)); exact Kd.R_mono (Kd.R_far (p := ⟨aT, 2, none⟩) (Kd.R_far (p := ⟨aT, 1, none⟩) (Kd.R_far (p := ⟨aT, 0, none⟩) (Kd.R_types aA.o aG.o (by decide)) (fun _ hk => hk.2) (.slice b3 aH.length b8)) (fun _ hk => hk.2) (.slice bc aI.length bd)) (fun _ hk => hk.2) (.int .i64 ai)) (fun _ hk => trivial), by (with_reducible repeat (fail)); exact Kd.S_mono (Kd.S_far (p := ⟨aT, 2, none⟩) (Kd.S_far (p := ⟨aT, 1, none⟩) (Kd.S_far (p := ⟨aT, 0, none⟩) (Kd.S_types aC.o aG.o (by decide)) (fun _ hk => hk.2) (.slice b3 aH.length b8)) (fun _ hk => hk.2) (.slice bc aI.length bd)) (fun _ hk => hk.2) (.int .i64 ai)) (fun _ hk => trivial), by repeat ((with_reducible first | exact HB.o | refine qAs ?_ cA.o))⟩
            subst f5
            replace H : ((qA3.f ap aJ aW aX).bind fun b6 => ((qAo.f aJ b6.2.1 b6.2.2).bind fun bI => ((qA3.f ap aJ bI.2.1 bI.2.2).bind fun av => ((qAO.f aJ av.2.1 av.2.2 65536).bind fun aa => ((qBe.f aa.1).bind fun al => (if al.2 = 0 then (if aI.length < 1759218604441 then (qAc.l1 ap l0 (wrap64 (bD - 1)) aJ aa.2.1 aa.2.2 aH (aI ++ [(⟨(⟨b6.1, wrap64 (bI.1)⟩ : S74), av.1, al.1⟩ : S77)]) 0) else (none)) else ((qA5.f aJ aa.2.1 aa.2.2 53).bind fun aq => (if aI.length < 1759218604441 then (qAc.l1 ap l0 (wrap64 (bD - 1)) aJ aq.1 aq.2 aH (aI ++ [(⟨(⟨b6.1, wrap64 (bI.1)⟩ : S74), av.1, al.1⟩ : S77)]) 0) else (none))))))))) = some (r1, r2, r3, r4) := by rw [if_pos rfl] at H; exact H
            replace H := bm H
            obtain ⟨⟨a3, bo, bp⟩, eB, H⟩ := H
            replace H : ((qAo.f aJ bo bp).bind fun bI => ((qA3.f ap aJ bI.2.1 bI.2.2).bind fun av => ((qAO.f aJ av.2.1 av.2.2 65536).bind fun aa => ((qBe.f aa.1).bind fun al => (if al.2 = 0 then (if aI.length < 1759218604441 then (qAc.l1 ap l0 (wrap64 (bD - 1)) aJ aa.2.1 aa.2.2 aH (aI ++ [(⟨(⟨a3, wrap64 (bI.1)⟩ : S74), av.1, al.1⟩ : S77)]) 0) else (none)) else ((qA5.f aJ aa.2.1 aa.2.2 53).bind fun aq => (if aI.length < 1759218604441 then (qAc.l1 ap l0 (wrap64 (bD - 1)) aJ aq.1 aq.2 aH (aI ++ [(⟨(⟨a3, wrap64 (bI.1)⟩ : S74), av.1, al.1⟩ : S77)]) 0) else (none)))))))) = some (r1, r2, r3, r4) := H
            have gh := am eB
            clear eB
            replace H := bm H
            obtain ⟨⟨ab, bq, br⟩, eC, H⟩ := H
            replace H : ((qA3.f ap aJ bq br).bind fun av => ((qAO.f aJ av.2.1 av.2.2 65536).bind fun aa => ((qBe.f aa.1).bind fun al => (if al.2 = 0 then (if aI.length < 1759218604441 then (qAc.l1 ap l0 (wrap64 (bD - 1)) aJ aa.2.1 aa.2.2 aH (aI ++ [(⟨(⟨a3, wrap64 (ab)⟩ : S74), av.1, al.1⟩ : S77)]) 0) else (none)) else ((qA5.f aJ aa.2.1 aa.2.2 53).bind fun aq => (if aI.length < 1759218604441 then (qAc.l1 ap l0 (wrap64 (bD - 1)) aJ aq.1 aq.2 aH (aI ++ [(⟨(⟨a3, wrap64 (ab)⟩ : S74), av.1, al.1⟩ : S77)]) 0) else (none))))))) = some (r1, r2, r3, r4) := H
            have gi := am eC
            clear eC
            replace H := bm H
            obtain ⟨⟨a8, bU, bV⟩, eD, H⟩ := H
            replace H : ((qAO.f aJ bU bV 65536).bind fun aa => ((qBe.f aa.1).bind fun al => (if al.2 = 0 then (if aI.length < 1759218604441 then (qAc.l1 ap l0 (wrap64 (bD - 1)) aJ aa.2.1 aa.2.2 aH (aI ++ [(⟨(⟨a3, wrap64 (ab)⟩ : S74), a8, al.1⟩ : S77)]) 0) else (none)) else ((qA5.f aJ aa.2.1 aa.2.2 53).bind fun aq => (if aI.length < 1759218604441 then (qAc.l1 ap l0 (wrap64 (bD - 1)) aJ aq.1 aq.2 aH (aI ++ [(⟨(⟨a3, wrap64 (ab)⟩ : S74), a8, al.1⟩ : S77)]) 0) else (none)))))) = some (r1, r2, r3, r4) := H
            have gj := am eD
            clear eD
            replace H := bm H
            obtain ⟨⟨bs, bW, bX⟩, eE, H⟩ := H
            replace H : ((qBe.f bs).bind fun al => (if al.2 = 0 then (if aI.length < 1759218604441 then (qAc.l1 ap l0 (wrap64 (bD - 1)) aJ bW bX aH (aI ++ [(⟨(⟨a3, wrap64 (ab)⟩ : S74), a8, al.1⟩ : S77)]) 0) else (none)) else ((qA5.f aJ bW bX 53).bind fun aq => (if aI.length < 1759218604441 then (qAc.l1 ap l0 (wrap64 (bD - 1)) aJ aq.1 aq.2 aH (aI ++ [(⟨(⟨a3, wrap64 (ab)⟩ : S74), a8, al.1⟩ : S77)]) 0) else (none))))) = some (r1, r2, r3, r4) := H
            have gl := am eE
            clear eE
            replace H := bm H
            obtain ⟨⟨ae, cN⟩, eG, H⟩ := H
            replace H : (if cN = 0 then (if aI.length < 1759218604441 then (qAc.l1 ap l0 (wrap64 (bD - 1)) aJ bW bX aH (aI ++ [(⟨(⟨a3, wrap64 (ab)⟩ : S74), a8, ae⟩ : S77)]) 0) else (none)) else ((qA5.f aJ bW bX 53).bind fun aq => (if aI.length < 1759218604441 then (qAc.l1 ap l0 (wrap64 (bD - 1)) aJ aq.1 aq.2 aH (aI ++ [(⟨(⟨a3, wrap64 (ab)⟩ : S74), a8, ae⟩ : S77)]) 0) else (none)))) = some (r1, r2, r3, r4) := H
            have eF := am eG
            clear eG
            by_cases dq : cN = 0
            ·rw [if_pos dq] at H
             have gq : (cN == 0) = true := beq_iff_eq.mpr dq
             have eW : (cN != 0) = false := bn dq
             clear dq
             obtain ⟨f6, H⟩ := gd H
             have eO := am f6
             clear f6
             obtain ⟨ct, ck⟩ : ∃ y_ : List (S77), y_ = (aI ++ [(⟨(⟨a3, wrap64 (ab)⟩ : S74), a8, ae⟩ : S77)]) := ⟨_, rfl⟩
             replace H : (qAc.l1 ap l0 (wrap64 (bD - 1)) aJ bW bX aH ct 0) = some (r1, r2, r3, r4) := by (rw [ck]; with_reducible exact H)
             have eR := am ck
             clear ck
             have H' := am H
             clear H
             go_wp2_with (first | ((with_reducible refine qAy (f := 50) rfl ?_); refine gL 66 Try.func50 #[.pointer (some ⟨aQ, 0, none⟩)] ?_; (with_reducible refine (qA3.calls ap aQ aJ aW aX a3 bo bp w _ ?side1 ?side2 gh.o).mono ?_); (case side1 => repeat ((with_reducible (exact aD.o)))); (case side2 => repeat ((with_reducible (exact HB.o)))); rintro e h5 ⟨g2, rfl, bJ, hi, hb, hk⟩; refine ⟨_, rfl, ?_⟩; have n0_ := am (Kd.R_kp (qAd.apart (show qAd w _ aQ aJ aW aX from by repeat ((with_reducible (exact aD.o)))) (by (with_reducible repeat (fail)); exact aA.o) (by decide)) hk); have n1_ := am (Kd.S_mono (Kd.S_told (Kd.S_oldK (qAd.apartS (show qAd w _ aQ aJ aW aX from by repeat ((with_reducible (exact aD.o)))) (by (with_reducible repeat (fail)); exact aC.o) (by decide)) hk) (Kd.R_base bJ)) (fun _ h_ => h_.1)); have n2_ := am (qAh.blk hk (g' := aT) (o := .cells #[.slice none 0 0, .slice none 0 0, .int .i64 0] 47 (0, 0)) (by (with_reducible repeat (fail)); exact aG.o) aV.o (by simp)); have n3_ := am (qAh.blk hk (g' := aU) (o := .cells #[aN, aM, .int .i64 0] 47 (0, 0)) (by (with_reducible repeat (fail)); exact aE.o) aY.o (by simp)); have n4_ := am (Kd.R_lower bJ (qAf (by repeat ((with_reducible (exact HB.o)))))); have n5_ := am (hb); have n6_ := am (hi); clear aA; clear aC; clear aG; clear aE; clear HB; clear aD; have aA := n0_; have aC := n1_; have aG := n2_; have aE := n3_; have aZ := n4_; have HB := n5_; have aD := n6_; clear n0_ n1_ n2_ n3_ n4_ n5_ n6_; (skip)) | ((with_reducible refine qAy (f := 20) rfl ?_); refine gL 68 Try.func20 #[.pointer (some ⟨aQ, 0, none⟩)] ?_; (with_reducible refine (qAo.calls aQ aJ bo bp ab bq br w _ ?side1 ?side2 gi.o).mono ?_); (case side1 => repeat ((with_reducible (exact aD.o)))); (case side2 => repeat ((with_reducible (exact HB.o)))); rintro e h6 ⟨rfl, hi, hb, hk⟩; refine ⟨_, rfl, ?_⟩; have n0_ := am (Kd.R_kp (qAd.apart (show qAd w _ aQ aJ bo bp from by repeat ((with_reducible (exact aD.o)))) (by (with_reducible repeat (fail)); exact aA.o) (by decide)) hk); have n1_ := am (Kd.S_mono (Kd.S_keep (qAd.apartS (show qAd w _ aQ aJ bo bp from by repeat ((with_reducible (exact aD.o)))) (by (with_reducible repeat (fail)); exact aC.o) (by decide)) hk (fun _ h => h.2)) (fun _ h => h.1)); have n2_ := am (qAh.blk hk (g' := aT) (o := .cells #[.slice none 0 0, .slice none 0 0, .int .i64 0] 47 (0, 0)) (by (with_reducible repeat (fail)); exact aG.o) aV.o (by simp)); have n3_ := am (qAh.blk hk (g' := aU) (o := .cells #[aN, aM, .int .i64 0] 47 (0, 0)) (by (with_reducible repeat (fail)); exact aE.o) aY.o (by simp)); have n4_ := am (Kd.R_kp (qAd.apart (show qAd w _ aQ aJ bo bp from by repeat ((with_reducible (exact aD.o)))) (by (with_reducible repeat (fail)); exact aZ.o) (by decide)) hk); have n5_ := am (hb); have n6_ := am (hi); clear aA; clear aC; clear aG; clear aE; clear aZ; clear HB; clear aD; have aA := n0_; have aC := n1_; have aG := n2_; have aE := n3_; have aZ := n4_; have HB := n5_; have aD := n6_; clear n0_ n1_ n2_ n3_ n4_ n5_ n6_; (skip); obtain ⟨bM, bN, gN⟩ := Kd.R_slice aZ.o; subst gN) | ((with_reducible refine qAy (f := 50) rfl ?_); refine gL 72 Try.func50 #[.pointer (some ⟨aQ, 0, none⟩)] ?_; (with_reducible refine (qA3.calls ap aQ aJ bq br a8 bU bV w _ ?side1 ?side2 gj.o).mono ?_); (case side1 => repeat ((with_reducible (exact aD.o)))); (case side2 => repeat ((with_reducible (exact HB.o)))); rintro e h7 ⟨g3, rfl, bJ, hi, hb, hk⟩; refine ⟨_, rfl, ?_⟩; have n0_ := am (Kd.R_kp (qAd.apart (show qAd w _ aQ aJ bq br from by repeat ((with_reducible (exact aD.o)))) (by (with_reducible repeat (fail)); exact aA.o) (by decide)) hk); have n1_ := am (Kd.S_mono (Kd.S_told (Kd.S_oldK (qAd.apartS (show qAd w _ aQ aJ bq br from by repeat ((with_reducible (exact aD.o)))) (by (with_reducible repeat (fail)); exact aC.o) (by decide)) hk) (Kd.R_base bJ)) (fun _ h_ => h_.1)); have n2_ := am (qAh.blk hk (g' := aT) (o := .cells #[.slice none 0 0, .slice none 0 0, .int .i64 0] 47 (0, 0)) (by (with_reducible repeat (fail)); exact aG.o) aV.o (by simp)); have n3_ := am (qAh.blk hk (g' := aU) (o := .cells #[aN, aM, .int .i64 0] 47 (0, 0)) (by (with_reducible repeat (fail)); exact aE.o) aY.o (by simp)); have n4_ := am (Kd.R_mono (Kd.R_told (Kd.R_oldK (qAd.apart (show qAd w _ aQ aJ bq br from by repeat ((with_reducible (exact aD.o)))) (by (with_reducible repeat (fail)); exact aZ.o) (by decide)) hk) (Kd.R_base bJ)) (fun _ h_ => h_.1)); have n5_ := am (Kd.R_lower (Kd.R_new' bJ (Kd.R_lt (by (with_reducible repeat (fail)); exact aZ.o))) (qAf (by repeat ((with_reducible (exact HB.o)))))); have n6_ := am (hb); have n7_ := am (hi); clear aA; clear aC; clear aG; clear aE; clear aZ; clear HB; clear aD; have aA := n0_; have aC := n1_; have aG := n2_; have aE := n3_; have aZ := n4_; have a5 := n5_; have HB := n6_; have aD := n7_; clear n0_ n1_ n2_ n3_ n4_ n5_ n6_ n7_; (skip); obtain ⟨b1, b2, gO⟩ := Kd.R_slice a5.o; subst gO) | ((with_reducible refine qAC (N := 8) rfl ?_); refine bx 8 #[.slice none 0 0, .int .i64 0, .slice none 0 0, .slice none 0 0] 77 ?_; intro aK hg hH hbox hb; have n0_ := am (Kd.R_below (by (with_reducible repeat (fail)); exact aA.o) hb); have n1_ := am (Kd.S_below (Kd.S_elderB (by (with_reducible repeat (fail)); exact aC.o) aK (Nat.le_of_eq hg.symm)) hb); have n2_ := am (Kd.R_below (by (with_reducible repeat (fail)); exact aZ.o) hb); have n3_ := am (Kd.R_below (by (with_reducible repeat (fail)); exact a5.o) hb); have n4_ := am (qAe (g := aT) (o := .cells #[.slice none 0 0, .slice none 0 0, .int .i64 0] 47 (0, 0)) (by (with_reducible repeat (fail)); exact aG.o) hb); have n5_ := am (qAe (g := aU) (o := .cells #[aN, aM, .int .i64 0] 47 (0, 0)) (by (with_reducible repeat (fail)); exact aE.o) hb); have n6_ := am (qAd.below (by repeat ((with_reducible (exact aD.o)))) hb); have n7_ := am (qAk (by repeat ((with_reducible (exact HB.o)))) hb); have n8_ := am (hbox); have n9_ := am ((by rw [hg]; exact (qAf (by repeat ((with_reducible (exact HB.o))))) : w.heap.size ≤ aK)); have n10_ := am ((by rw [hg]; exact (qAf (by repeat ((with_reducible (exact HB.o))))) : w.heap.size ≤ aK)); have n11_ := am ((by rw [hg]; exact Nat.ne_of_lt (qAt (g := aT) (o := .cells #[.slice none 0 0, .slice none 0 0, .int .i64 0] 47 (0, 0)) (by (with_reducible repeat (fail)); exact aG.o)) : aT ≠ aK)); have n12_ := am ((by rw [hg]; exact Nat.ne_of_gt (qAt (g := aT) (o := .cells #[.slice none 0 0, .slice none 0 0, .int .i64 0] 47 (0, 0)) (by (with_reducible repeat (fail)); exact aG.o)) : aK ≠ aT)); have n13_ := am ((by rw [hg]; exact Nat.ne_of_lt (qAt (g := aU) (o := .cells #[aN, aM, .int .i64 0] 47 (0, 0)) (by (with_reducible repeat (fail)); exact aE.o)) : aU ≠ aK)); have n14_ := am ((by rw [hg]; exact Nat.ne_of_gt (qAt (g := aU) (o := .cells #[aN, aM, .int .i64 0] 47 (0, 0)) (by (with_reducible repeat (fail)); exact aE.o)) : aK ≠ aU)); have n15_ := am ((by rw [hg]; exact Nat.ne_of_lt (qAd.lt (show qAd w _ aQ aJ bU bV from by repeat ((with_reducible (exact aD.o))))) : aQ ≠ aK)); have n16_ := am ((by rw [hg]; exact Nat.ne_of_gt (qAd.lt (show qAd w _ aQ aJ bU bV from by repeat ((with_reducible (exact aD.o))))) : aK ≠ aQ)); clear aA; clear aC; clear aZ; clear a5; clear aG; clear aE; clear aD; clear HB; have aA := n0_; have aC := n1_; have aZ := n2_; have a5 := n3_; have aG := n4_; have aE := n5_; have aD := n6_; have HB := n7_; have aR := n8_; have bj := n10_; have ac := n11_; have ad := n13_; have a9 := n15_; have b0 := n16_; clear n0_ n1_ n2_ n3_ n4_ n5_ n6_ n7_ n8_ n9_ n10_ n11_ n12_ n13_ n14_ n15_ n16_; clear hb hbox hg; obtain ⟨f8, f9, fa, fb⟩ := c4_ hH aR.o; obtain ⟨fu, fv, fw, fx⟩ := z4_ aR.o) | ((with_reducible refine qAy (f := 52) rfl ?_); refine gL 76 Try.func52 #[.pointer (some ⟨aQ, 0, none⟩), .int .i64 65536] ?_; (with_reducible refine (qAO.calls aQ aJ bU bV 65536 bs bW bX w _ ?side1 ?side2 gl.o).mono ?_); (case side1 => repeat ((with_reducible first | exact aD.o | refine qAd.far ?_ a9.o (by (with_reducible repeat ((apply TyB.set))); exact TyB.of aR.o) (by decide) _))); (case side2 => repeat ((with_reducible first | exact HB.o | refine qAs ?_ bj.o))); rintro e h8 ⟨g4, rfl, bJ, hi, hb, hk⟩; refine ⟨_, rfl, ?_⟩; have n0_ := am (Kd.R_kp (qAd.apart (show qAd w _ aQ aJ bU bV from by repeat ((with_reducible first | exact aD.o | refine qAd.far ?_ a9.o (by (with_reducible repeat ((apply TyB.set))); exact TyB.of aR.o) (by decide) _))) (by (with_reducible repeat (fail)); exact (Kd.R_mono (Kd.R_far (p := ⟨aK, 3, none⟩) (Kd.R_far (p := ⟨aK, 2, none⟩) (Kd.R_far (p := ⟨aK, 1, none⟩) (Kd.R_far (p := ⟨aK, 0, none⟩) (Kd.R_types aA.o aR.o (by decide)) (fun _ hk => hk.2) (.slice bM a3.length bN)) (fun _ hk => hk.2) (.int .i64 (wrap64 (ab)))) (fun _ hk => hk.2) (.slice b1 a8.length b2)) (fun _ hk => hk.2) (.slice none 0 0)) (fun _ h_ => h_.1))) (by decide)) hk); have n1_ := am (Kd.S_mono (Kd.S_keep (qAd.apartS (show qAd w _ aQ aJ bU bV from by repeat ((with_reducible first | exact aD.o | refine qAd.far ?_ a9.o (by (with_reducible repeat ((apply TyB.set))); exact TyB.of aR.o) (by decide) _))) (by (with_reducible repeat (fail)); exact (Kd.S_mono (Kd.S_far (p := ⟨aK, 3, none⟩) (Kd.S_far (p := ⟨aK, 2, none⟩) (Kd.S_far (p := ⟨aK, 1, none⟩) (Kd.S_far (p := ⟨aK, 0, none⟩) (Kd.S_mono aC.o (fun k_ hk => (⟨hk, hk.2⟩ : _ ∧ k_ ≠ aK))) (fun _ hk => hk.2) (.slice bM a3.length bN)) (fun _ hk => hk.2) (.int .i64 (wrap64 (ab)))) (fun _ hk => hk.2) (.slice b1 a8.length b2)) (fun _ hk => hk.2) (.slice none 0 0)) (fun _ h_ => h_.1))) (by decide)) hk (fun _ h => h.2)) (fun _ h => h.1)); have n2_ := am (qAh.blk hk (g' := aT) (o := .cells #[.slice none 0 0, .slice none 0 0, .int .i64 0] 47 (0, 0)) (by (with_reducible repeat (fail)); refine qAu ?_ ac.o _; (with_reducible repeat (fail)); refine qAu ?_ ac.o _; (with_reducible repeat (fail)); refine qAu ?_ ac.o _; (with_reducible repeat (fail)); refine qAu ?_ ac.o _; (with_reducible repeat (fail)); exact aG.o) aV.o (by simp)); have n3_ := am (qAh.blk hk (g' := aU) (o := .cells #[aN, aM, .int .i64 0] 47 (0, 0)) (by (with_reducible repeat (fail)); refine qAu ?_ ad.o _; (with_reducible repeat (fail)); refine qAu ?_ ad.o _; (with_reducible repeat (fail)); refine qAu ?_ ad.o _; (with_reducible repeat (fail)); refine qAu ?_ ad.o _; (with_reducible repeat (fail)); exact aE.o) aY.o (by simp)); have n4_ := am (Kd.R_kp (qAd.apart (show qAd w _ aQ aJ bU bV from by repeat ((with_reducible first | exact aD.o | refine qAd.far ?_ a9.o (by (with_reducible repeat ((apply TyB.set))); exact TyB.of aR.o) (by decide) _))) (by (with_reducible repeat (fail)); exact (Kd.R_mono (Kd.R_far (p := ⟨aK, 3, none⟩) (Kd.R_far (p := ⟨aK, 2, none⟩) (Kd.R_far (p := ⟨aK, 1, none⟩) (Kd.R_far (p := ⟨aK, 0, none⟩) (Kd.R_types aZ.o aR.o (by decide)) (fun _ hk => hk.2) (.slice bM a3.length bN)) (fun _ hk => hk.2) (.int .i64 (wrap64 (ab)))) (fun _ hk => hk.2) (.slice b1 a8.length b2)) (fun _ hk => hk.2) (.slice none 0 0)) (fun _ h_ => h_.1))) (by decide)) hk); have n5_ := am (Kd.R_kp (qAd.apart (show qAd w _ aQ aJ bU bV from by repeat ((with_reducible first | exact aD.o | refine qAd.far ?_ a9.o (by (with_reducible repeat ((apply TyB.set))); exact TyB.of aR.o) (by decide) _))) (by (with_reducible repeat (fail)); exact (Kd.R_mono (Kd.R_far (p := ⟨aK, 3, none⟩) (Kd.R_far (p := ⟨aK, 2, none⟩) (Kd.R_far (p := ⟨aK, 1, none⟩) (Kd.R_far (p := ⟨aK, 0, none⟩) (Kd.R_types a5.o aR.o (by decide)) (fun _ hk => hk.2) (.slice bM a3.length bN)) (fun _ hk => hk.2) (.int .i64 (wrap64 (ab)))) (fun _ hk => hk.2) (.slice b1 a8.length b2)) (fun _ hk => hk.2) (.slice none 0 0)) (fun _ h_ => h_.1))) (by decide)) hk); have n6_ := am (qAh.blk hk (g' := aK) (o := .cells #[.slice bM a3.length bN, .int .i64 (wrap64 (ab)), .slice b1 a8.length b2, .slice none 0 0] 77 (0, 0)) (by (with_reducible repeat (fail)); refine qAx (cs := #[.slice bM a3.length bN, .int .i64 (wrap64 (ab)), .slice b1 a8.length b2, .slice none 0 0]) ?_ 3 _ rfl; (with_reducible repeat (fail)); refine qAx (cs := #[.slice bM a3.length bN, .int .i64 (wrap64 (ab)), .slice none 0 0, .slice none 0 0]) ?_ 2 _ rfl; (with_reducible repeat (fail)); refine qAx (cs := #[.slice bM a3.length bN, .int .i64 0, .slice none 0 0, .slice none 0 0]) ?_ 1 _ rfl; (with_reducible repeat (fail)); refine qAx (cs := #[.slice none 0 0, .int .i64 0, .slice none 0 0, .slice none 0 0]) ?_ 0 _ rfl; (with_reducible repeat (fail)); exact aR.o) b0.o (by simp)); have n7_ := am (Kd.R_lower bJ (qAf (by repeat ((with_reducible first | exact HB.o | refine qAs ?_ bj.o))))); have n8_ := am (hb); have n9_ := am (hi); clear aA; clear aC; clear aG; clear aE; clear aZ; clear a5; clear aR; clear HB; clear aD; have aA := n0_; have aC := n1_; have aG := n2_; have aE := n3_; have aZ := n4_; have a5 := n5_; have aR := n6_; have af := n7_; have HB := n8_; have aD := n9_; clear n0_ n1_ n2_ n3_ n4_ n5_ n6_ n7_ n8_ n9_; (skip); obtain ⟨eL, e0, gP⟩ := Kd.R_slice af.o; subst gP) | ((with_reducible refine qAy (f := 51) rfl ?_); refine gL 77 Try.func51 #[.slice eL bs.length e0] ?_; (with_reducible refine (qBe.calls _ _ bs ae cN _ ?side1 ?side2 eF.o).mono ?_); (case side1 => repeat ((exact (Kd.R_reads' af.o).2.2))); (case side2 => exact (Kd.R_reads' af.o).2.1); rintro e gr ⟨g5, rfl, bJ, hb⟩; refine ⟨_, rfl, ?_⟩; have n0_ := am (Kd.R_below (by (with_reducible repeat (fail)); exact aA.o) hb); have n1_ := am (Kd.S_elder' (by (with_reducible repeat (fail)); exact aC.o) (Kd.R_base bJ) hb); have n2_ := am (Kd.R_below (by (with_reducible repeat (fail)); exact aZ.o) hb); have n3_ := am (Kd.R_below (by (with_reducible repeat (fail)); exact a5.o) hb); have n4_ := am (Kd.R_below (by (with_reducible repeat (fail)); exact af.o) hb); have n5_ := am (Kd.R_lower bJ (qAf (by repeat ((with_reducible (exact HB.o)))))); have n6_ := am (qAe (g := aT) (o := .cells #[.slice none 0 0, .slice none 0 0, .int .i64 0] 47 (0, 0)) (by (with_reducible repeat (fail)); exact aG.o) hb); have n7_ := am (qAe (g := aU) (o := .cells #[aN, aM, .int .i64 0] 47 (0, 0)) (by (with_reducible repeat (fail)); exact aE.o) hb); have n8_ := am (qAd.below (by repeat ((with_reducible (exact aD.o)))) hb); have n9_ := am (qAe (g := aK) (o := .cells #[.slice bM a3.length bN, .int .i64 (wrap64 (ab)), .slice b1 a8.length b2, .slice none 0 0] 77 (0, 0)) (by (with_reducible repeat (fail)); exact aR.o) hb); have n10_ := am (qAk (by repeat ((with_reducible (exact HB.o)))) hb); clear aA; clear aC; clear aZ; clear a5; clear af; clear aG; clear aE; clear aD; clear aR; clear HB; have aA := n0_; have aC := n1_; have aZ := n2_; have a5 := n3_; have af := n4_; have ax := n5_; have aG := n6_; have aE := n7_; have aD := n8_; have aR := n9_; have HB := n10_; clear n0_ n1_ n2_ n3_ n4_ n5_ n6_ n7_ n8_ n9_ n10_; (skip); (skip); (skip); obtain ⟨b4, b9, gQ⟩ := Kd.R_slice ax.o; subst gQ; obtain ⟨-, -, -, fc⟩ := c4_ gr aR.o; have fy := qAg aR.o 3) | ((with_reducible refine qCQ (t := 75) (p := 85) rfl ?_); refine qC5 (t := 75) (p := 85) (v := ?vo_w68) (w1 := (gr.setCell ⟨aK, 3, none⟩ (.slice b4 ae.length b9))) ?hg ?ho ?hn ?hr ?_; (case ho => rfl); (case hg => rfl); (case hn => rfl); (case hr => (go_simp; done)); intro cZ hw; have n0_ : qAb (Kd.R k69 69 cZ w.heap.size (fun _ => True) aN aH) := ⟨(by rw [hw]; exact (by (with_reducible repeat (fail)); exact Kd.R_mono (Kd.R_far (p := ⟨aK, 3, none⟩) (Kd.R_types aA.o aR.o (by decide)) (fun _ hk => hk.2) (.slice b4 ae.length b9)) (fun _ hk => trivial)))⟩; have n1_ : qAb (Kd.S k77 77 cZ w.heap.size (fun k_ => some k_ ≠ (.slice bM a3.length bN : Value).ownBlock ∧ some k_ ≠ (.slice b1 a8.length b2 : Value).ownBlock ∧ some k_ ≠ (.slice b4 ae.length b9 : Value).ownBlock ∧ k_ ≠ aK) aM aI) := ⟨(by rw [hw]; exact (by (with_reducible repeat (fail)); exact Kd.S_mono (Kd.S_far (p := ⟨aK, 3, none⟩) (Kd.S_mono aC.o (fun k_ hk => (⟨hk, hk.1.2⟩ : _ ∧ k_ ≠ aK))) (fun _ hk => hk.2) (.slice b4 ae.length b9)) (fun _ hk => ⟨hk.1.1.1.1.2, ⟨hk.1.1.1.2, ⟨hk.1.2, hk.1.1.2⟩⟩⟩)))⟩; have n2_ : qAb (Kd.R (Kd.int .i64) 3 cZ w.heap.size (fun k_ => some k_ ≠ (.slice b1 a8.length b2 : Value).ownBlock) (.slice bM a3.length bN) a3) := ⟨(by rw [hw]; exact (by (with_reducible repeat (fail)); exact Kd.R_mono (Kd.R_far (p := ⟨aK, 3, none⟩) (Kd.R_types aZ.o aR.o (by decide)) (fun _ hk => hk.2) (.slice b4 ae.length b9)) (fun _ hk => hk.1.2)))⟩; have n3_ : qAb (Kd.R (Kd.int .i64) 3 cZ w.heap.size (fun k_ => some k_ ≠ (.slice bM a3.length bN : Value).ownBlock) (.slice b1 a8.length b2) a8) := ⟨(by rw [hw]; exact (by (with_reducible repeat (fail)); exact Kd.R_mono (Kd.R_far (p := ⟨aK, 3, none⟩) (Kd.R_types a5.o aR.o (by decide)) (fun _ hk => hk.2) (.slice b4 ae.length b9)) (fun _ hk => hk.1.2)))⟩; have n4_ : qAb (Kd.R (Kd.int .u8) 5 cZ w.heap.size (fun _ => True) (.slice eL bs.length e0) bs) := ⟨(by rw [hw]; exact (by (with_reducible repeat (fail)); exact Kd.R_mono (Kd.R_far (p := ⟨aK, 3, none⟩) (Kd.R_types af.o aR.o (by decide)) (fun _ hk => hk.2) (.slice b4 ae.length b9)) (fun _ hk => trivial)))⟩; have n5_ : qAb (Kd.R k115 115 cZ w.heap.size (fun _ => True) (.slice b4 ae.length b9) ae) := ⟨(by rw [hw]; exact (by (with_reducible repeat (fail)); exact Kd.R_mono (Kd.R_far (p := ⟨aK, 3, none⟩) (Kd.R_types ax.o aR.o (by decide)) (fun _ hk => hk.2) (.slice b4 ae.length b9)) (fun _ hk => trivial)))⟩; have n6_ : qAb (cZ.heap[aT]? = some (.cells #[.slice none 0 0, .slice none 0 0, .int .i64 0] 47 (0, 0))) := ⟨(by rw [hw]; exact (by (with_reducible repeat (fail)); refine qAu ?_ ac.o _; (with_reducible repeat (fail)); exact aG.o))⟩; have n7_ : qAb (cZ.heap[aU]? = some (.cells #[aN, aM, .int .i64 0] 47 (0, 0))) := ⟨(by rw [hw]; exact (by (with_reducible repeat (fail)); refine qAu ?_ ad.o _; (with_reducible repeat (fail)); exact aE.o))⟩; have n8_ : qAb (cZ.heap[aK]? = some (.cells #[.slice bM a3.length bN, .int .i64 (wrap64 (ab)), .slice b1 a8.length b2, .slice b4 ae.length b9] 77 (0, 0))) := ⟨(by rw [hw]; exact (by (with_reducible repeat (fail)); refine qAx (cs := #[.slice bM a3.length bN, .int .i64 (wrap64 (ab)), .slice b1 a8.length b2, .slice none 0 0]) ?_ 3 _ rfl; (with_reducible repeat (fail)); exact aR.o))⟩; have n9_ : qAb (qAd w cZ aQ aJ bW bX) := ⟨(by rw [hw]; exact (by repeat ((with_reducible first | exact aD.o | refine qAd.far ?_ a9.o (by (with_reducible repeat (fail)); exact TyB.of aR.o) (by decide) _))))⟩; have n10_ : qAb (Below w.heap.size w cZ) := ⟨(by rw [hw]; exact (by repeat ((with_reducible first | exact HB.o | refine qAs ?_ bj.o))))⟩; clear hw; clear aA; clear aC; clear aZ; clear a5; clear af; clear ax; clear aG; clear aE; clear aR; clear aD; clear HB; have aA := n0_; have aC := n1_; have aZ := n2_; have a5 := n3_; have af := n4_; have ax := n5_; have aG := n6_; have aE := n7_; have aR := n8_; have aD := n9_; have HB := n10_; clear n0_ n1_ n2_ n3_ n4_ n5_ n6_ n7_ n8_ n9_ n10_; obtain ⟨-, fd⟩ := c2_ cZ aE.o; obtain ⟨fe, ff, fg, fh⟩ := c4_ cZ aR.o; have fz := qAg aR.o 3) | ((with_reducible refine qCf (b := .append) (xs := #[.tmp 87, .tmp 89]) rfl ?_); at_builtin; refine Kd.S_append k77 (w0 := w) w.heap.size rfl (.tmp 87) (.tmp 89) 45 77 (.agg #[(.slice none 0 0), (.int .i64 0), (.slice none 0 0), (.slice none 0 0)]) 80 rfl Try.underlying45 info77 rfl (by decide) (by omega) aM aI (⟨(⟨a3, wrap64 (ab)⟩ : S74), a8, ae⟩ : S77) [.slice bM a3.length bN, .int .i64 (wrap64 (ab)), .slice b1 a8.length b2, .slice b4 ae.length b9] (fun k_ => k_ ≠ aK) (fun k_ => some k_ = (.slice bM a3.length bN : Value).ownBlock ∨ some k_ = (.slice b1 a8.length b2 : Value).ownBlock ∨ some k_ = (.slice b4 ae.length b9 : Value).ownBlock) rfl rfl ?aP (fun k_ hk_ => hk_.elim (fun h_ => ((Kd.R_mono (ok' := fun k_ => ((fun k_ => k_ ≠ aK)) k_ ∧ some k_ ≠ (aM : Value).ownBlock) (Kd.R_types (Kd.R_apart' (aZ.o) (Kd.S_typed aC.o) (by decide)) aR.o (by decide)) (fun k_ hk => ⟨hk.2, hk.1.2⟩))).1 k_ h_.symm) (fun h_ => h_.elim (fun h_ => ((Kd.R_mono (ok' := fun k_ => ((fun k_ => k_ ≠ aK)) k_ ∧ some k_ ≠ (aM : Value).ownBlock) (Kd.R_types (Kd.R_apart' (a5.o) (Kd.S_typed aC.o) (by decide)) aR.o (by decide)) (fun k_ hk => ⟨hk.2, hk.1.2⟩))).1 k_ h_.symm) (fun h_ => ((Kd.R_mono (ok' := fun k_ => ((fun k_ => k_ ≠ aK)) k_ ∧ some k_ ≠ (aM : Value).ownBlock) (Kd.R_types (Kd.R_apart' (ax.o) (Kd.S_typed aC.o) (by decide)) aR.o (by decide)) (fun k_ hk => ⟨hk.2, hk.1.2⟩))).1 k_ h_.symm))) ?aF ?aO ?aB ?aS ?aL ?_; (case aP => exact k77_mkM _ _ _ (⟨(⟨a3, wrap64 (ab)⟩ : S74), a8, ae⟩ : S77) (Kd.R_mono (Kd.R_tight rfl (Kd.R_mono (ok' := fun k_ => ((fun k_ => k_ ≠ aK)) k_ ∧ some k_ ≠ (aM : Value).ownBlock) (Kd.R_types (Kd.R_apart' (aZ.o) (Kd.S_typed aC.o) (by decide)) aR.o (by decide)) (fun k_ hk => ⟨hk.2, hk.1.2⟩))) (fun _ h_ => Or.inl h_)) (Kd.R_mono (Kd.R_tight rfl (Kd.R_mono (ok' := fun k_ => ((fun k_ => k_ ≠ aK)) k_ ∧ some k_ ≠ (aM : Value).ownBlock) (Kd.R_types (Kd.R_apart' (a5.o) (Kd.S_typed aC.o) (by decide)) aR.o (by decide)) (fun k_ hk => ⟨hk.2, hk.1.2⟩))) (fun _ h_ => Or.inr (Or.inl h_))) (Kd.R_mono (Kd.R_tight rfl (Kd.R_mono (ok' := fun k_ => ((fun k_ => k_ ≠ aK)) k_ ∧ some k_ ≠ (aM : Value).ownBlock) (Kd.R_types (Kd.R_apart' (ax.o) (Kd.S_typed aC.o) (by decide)) aR.o (by decide)) (fun k_ hk => ⟨hk.2, hk.1.2⟩))) (fun _ h_ => Or.inr (Or.inr (h_))))); (case aB => exact (by repeat ((with_reducible (exact HB.o))))); (case aF => exact (fun k_ hk => Kd.freshB (g := aK) (o := .cells #[.slice bM a3.length bN, .int .i64 (wrap64 (ab)), .slice b1 a8.length b2, .slice b4 ae.length b9] 77 (0, 0)) (by (with_reducible repeat (fail)); exact aR.o) k_ hk)); (case aO => exact (by (with_reducible repeat (fail)); exact Kd.S_mono aC.o (fun k_ hk => ⟨hk.2.2.2, fun e_ => e_.elim (fun h_ => hk.1 h_) (fun h_ => h_.elim (fun h_ => hk.2.1 h_) (fun h_ => hk.2.2.1 h_))⟩))); (case aS => exact (qAf (by repeat ((with_reducible (exact HB.o)))))); (case aL => have := eO.o; omega); intro hE hI ho hb hg eb; rw [← eR.o] at ho; have n0_ := am (Kd.R_over' (by (with_reducible repeat (fail)); exact aA.o) (Kd.S_typed (by (with_reducible repeat (fail)); exact aC.o)) (by decide) hg); have n1_ := am (qA6 (g := aT) (o := .cells #[.slice none 0 0, .slice none 0 0, .int .i64 0] 47 (0, 0)) (by (with_reducible repeat (fail)); exact aG.o) hg (Kd.S_ne aC.o aG.o (by decide))); have n2_ := am (qA6 (g := aU) (o := .cells #[aN, aM, .int .i64 0] 47 (0, 0)) (by (with_reducible repeat (fail)); exact aE.o) hg (Kd.S_ne aC.o aE.o (by decide))); have n3_ := am (qAd.grownRS (show qAd w _ aQ aJ bW bX from by repeat ((with_reducible (exact aD.o)))) hg aD.o aC.o (by decide) (fun b_ t_ h_ => by (with_reducible repeat (fail)); exact h_)); have n4_ := am (qA6 (g := aK) (o := .cells #[.slice bM a3.length bN, .int .i64 (wrap64 (ab)), .slice b1 a8.length b2, .slice b4 ae.length b9] 77 (0, 0)) (by (with_reducible repeat (fail)); exact aR.o) hg (Kd.S_away aC.o (fun _ hk => hk.2.2.2))); have n5_ := am (Kd.R_over' (by (with_reducible repeat (fail)); exact af.o) (Kd.S_typed (by (with_reducible repeat (fail)); exact aC.o)) (by decide) hg); have n6_ := am (hb); have n7_ := am (ho); clear aA; clear aG; clear aE; clear aD; clear aR; clear af; clear HB; clear aC; clear aZ; clear a5; clear ax; have aA := n0_; have aG := n1_; have aE := n2_; have aD := n3_; have HB := n6_; have dK := n7_; clear n0_ n1_ n2_ n3_ n4_ n5_ n6_ n7_; clear ho hb hg eb; obtain ⟨dP, dV, gR⟩ := Kd.S_slice dK.o; subst gR; obtain ⟨-, fi⟩ := c2_ hI aE.o; obtain ⟨-, gA, gB⟩ := z3_ aE.o))
             go_roundg ap
             case measure => have := bw.o; have := cv.o; have := cF.o; have := dl.o; have := cy.o; omega
             case rel => exact ⟨(wrap64 (bD - 1)), (bW), (bX), (ct), (.slice dP ct.length dV), (by (rfl)), H', ⟨by have := bw.o; have := cv.o; have := cF.o; have := dl.o; have := cy.o; omega⟩, ⟨by (with_reducible repeat (fail)); exact Kd.R_mono (Kd.R_far (p := ⟨aU, 1, none⟩) (Kd.R_types aA.o aE.o (by decide)) (fun _ hk => hk.2) (.slice dP ct.length dV)) (fun _ hk => trivial)⟩, ⟨by (with_reducible repeat (fail)); exact Kd.S_mono (Kd.S_far (p := ⟨aU, 1, none⟩) (Kd.S_types dK.o aE.o (by decide)) (fun _ hk => hk.2) (.slice dP ct.length dV)) (fun _ hk => trivial)⟩, ⟨by (with_reducible repeat (fail)); refine qAu ?_ ay.o _; (with_reducible repeat (fail)); exact aG.o⟩, ⟨by (with_reducible repeat (fail)); refine qAx (cs := #[aN, aM, .int .i64 0]) ?_ 1 _ rfl; (with_reducible repeat (fail)); exact aE.o⟩, ⟨by repeat ((with_reducible first | exact aD.o | refine qAd.far ?_ a4.o (by (with_reducible repeat (fail)); exact TyB.of aE.o) (by decide) _))⟩, ⟨by repeat ((with_reducible first | exact HB.o | refine qAs ?_ bi.o))⟩⟩
            rw [if_neg dq] at H
            have eW : (cN != 0) = true := bne_iff_ne.mpr dq
            replace H := bm H
            obtain ⟨⟨cV, cW⟩, eH, H⟩ := H
            replace H : (if aI.length < 1759218604441 then (qAc.l1 ap l0 (wrap64 (bD - 1)) aJ cV cW aH (aI ++ [(⟨(⟨a3, wrap64 (ab)⟩ : S74), a8, ae⟩ : S77)]) 0) else (none)) = some (r1, r2, r3, r4) := H
            have hB := am eH
            clear eH
            obtain ⟨f7, H⟩ := gd H
            have eP := am f7
            clear f7
            obtain ⟨cu, cl⟩ : ∃ y_ : List (S77), y_ = (aI ++ [(⟨(⟨a3, wrap64 (ab)⟩ : S74), a8, ae⟩ : S77)]) := ⟨_, rfl⟩
            replace H : (qAc.l1 ap l0 (wrap64 (bD - 1)) aJ cV cW aH cu 0) = some (r1, r2, r3, r4) := by (rw [cl]; with_reducible exact H)
            have eS := am cl
            clear cl
            have H' := am H
            clear H
            go_wp2_with (first | ((with_reducible refine qAy (f := 50) rfl ?_); refine gL 66 Try.func50 #[.pointer (some ⟨aQ, 0, none⟩)] ?_; (with_reducible refine (qA3.calls ap aQ aJ aW aX a3 bo bp w _ ?side1 ?side2 gh.o).mono ?_); (case side1 => repeat ((with_reducible (exact aD.o)))); (case side2 => repeat ((with_reducible (exact HB.o)))); rintro e h9 ⟨g2, rfl, bJ, hi, hb, hk⟩; refine ⟨_, rfl, ?_⟩; have n0_ := am (Kd.R_kp (qAd.apart (show qAd w _ aQ aJ aW aX from by repeat ((with_reducible (exact aD.o)))) (by (with_reducible repeat (fail)); exact aA.o) (by decide)) hk); have n1_ := am (Kd.S_mono (Kd.S_told (Kd.S_oldK (qAd.apartS (show qAd w _ aQ aJ aW aX from by repeat ((with_reducible (exact aD.o)))) (by (with_reducible repeat (fail)); exact aC.o) (by decide)) hk) (Kd.R_base bJ)) (fun _ h_ => h_.1)); have n2_ := am (qAh.blk hk (g' := aT) (o := .cells #[.slice none 0 0, .slice none 0 0, .int .i64 0] 47 (0, 0)) (by (with_reducible repeat (fail)); exact aG.o) aV.o (by simp)); have n3_ := am (qAh.blk hk (g' := aU) (o := .cells #[aN, aM, .int .i64 0] 47 (0, 0)) (by (with_reducible repeat (fail)); exact aE.o) aY.o (by simp)); have n4_ := am (Kd.R_lower bJ (qAf (by repeat ((with_reducible (exact HB.o)))))); have n5_ := am (hb); have n6_ := am (hi); clear aA; clear aC; clear aG; clear aE; clear HB; clear aD; have aA := n0_; have aC := n1_; have aG := n2_; have aE := n3_; have aZ := n4_; have HB := n5_; have aD := n6_; clear n0_ n1_ n2_ n3_ n4_ n5_ n6_; (skip)) | ((with_reducible refine qAy (f := 20) rfl ?_); refine gL 68 Try.func20 #[.pointer (some ⟨aQ, 0, none⟩)] ?_; (with_reducible refine (qAo.calls aQ aJ bo bp ab bq br w _ ?side1 ?side2 gi.o).mono ?_); (case side1 => repeat ((with_reducible (exact aD.o)))); (case side2 => repeat ((with_reducible (exact HB.o)))); rintro e ha ⟨rfl, hi, hb, hk⟩; refine ⟨_, rfl, ?_⟩; have n0_ := am (Kd.R_kp (qAd.apart (show qAd w _ aQ aJ bo bp from by repeat ((with_reducible (exact aD.o)))) (by (with_reducible repeat (fail)); exact aA.o) (by decide)) hk); have n1_ := am (Kd.S_mono (Kd.S_keep (qAd.apartS (show qAd w _ aQ aJ bo bp from by repeat ((with_reducible (exact aD.o)))) (by (with_reducible repeat (fail)); exact aC.o) (by decide)) hk (fun _ h => h.2)) (fun _ h => h.1)); have n2_ := am (qAh.blk hk (g' := aT) (o := .cells #[.slice none 0 0, .slice none 0 0, .int .i64 0] 47 (0, 0)) (by (with_reducible repeat (fail)); exact aG.o) aV.o (by simp)); have n3_ := am (qAh.blk hk (g' := aU) (o := .cells #[aN, aM, .int .i64 0] 47 (0, 0)) (by (with_reducible repeat (fail)); exact aE.o) aY.o (by simp)); have n4_ := am (Kd.R_kp (qAd.apart (show qAd w _ aQ aJ bo bp from by repeat ((with_reducible (exact aD.o)))) (by (with_reducible repeat (fail)); exact aZ.o) (by decide)) hk); have n5_ := am (hb); have n6_ := am (hi); clear aA; clear aC; clear aG; clear aE; clear aZ; clear HB; clear aD; have aA := n0_; have aC := n1_; have aG := n2_; have aE := n3_; have aZ := n4_; have HB := n5_; have aD := n6_; clear n0_ n1_ n2_ n3_ n4_ n5_ n6_; (skip); obtain ⟨bK, bL, gS⟩ := Kd.R_slice aZ.o; subst gS) | ((with_reducible refine qAy (f := 50) rfl ?_); refine gL 72 Try.func50 #[.pointer (some ⟨aQ, 0, none⟩)] ?_; (with_reducible refine (qA3.calls ap aQ aJ bq br a8 bU bV w _ ?side1 ?side2 gj.o).mono ?_); (case side1 => repeat ((with_reducible (exact aD.o)))); (case side2 => repeat ((with_reducible (exact HB.o)))); rintro e hc ⟨g3, rfl, bJ, hi, hb, hk⟩; refine ⟨_, rfl, ?_⟩; have n0_ := am (Kd.R_kp (qAd.apart (show qAd w _ aQ aJ bq br from by repeat ((with_reducible (exact aD.o)))) (by (with_reducible repeat (fail)); exact aA.o) (by decide)) hk); have n1_ := am (Kd.S_mono (Kd.S_told (Kd.S_oldK (qAd.apartS (show qAd w _ aQ aJ bq br from by repeat ((with_reducible (exact aD.o)))) (by (with_reducible repeat (fail)); exact aC.o) (by decide)) hk) (Kd.R_base bJ)) (fun _ h_ => h_.1)); have n2_ := am (qAh.blk hk (g' := aT) (o := .cells #[.slice none 0 0, .slice none 0 0, .int .i64 0] 47 (0, 0)) (by (with_reducible repeat (fail)); exact aG.o) aV.o (by simp)); have n3_ := am (qAh.blk hk (g' := aU) (o := .cells #[aN, aM, .int .i64 0] 47 (0, 0)) (by (with_reducible repeat (fail)); exact aE.o) aY.o (by simp)); have n4_ := am (Kd.R_mono (Kd.R_told (Kd.R_oldK (qAd.apart (show qAd w _ aQ aJ bq br from by repeat ((with_reducible (exact aD.o)))) (by (with_reducible repeat (fail)); exact aZ.o) (by decide)) hk) (Kd.R_base bJ)) (fun _ h_ => h_.1)); have n5_ := am (Kd.R_lower (Kd.R_new' bJ (Kd.R_lt (by (with_reducible repeat (fail)); exact aZ.o))) (qAf (by repeat ((with_reducible (exact HB.o)))))); have n6_ := am (hb); have n7_ := am (hi); clear aA; clear aC; clear aG; clear aE; clear aZ; clear HB; clear aD; have aA := n0_; have aC := n1_; have aG := n2_; have aE := n3_; have aZ := n4_; have a5 := n5_; have HB := n6_; have aD := n7_; clear n0_ n1_ n2_ n3_ n4_ n5_ n6_ n7_; (skip); obtain ⟨bO, bT, gT⟩ := Kd.R_slice a5.o; subst gT) | ((with_reducible refine qAC (N := 8) rfl ?_); refine bx 8 #[.slice none 0 0, .int .i64 0, .slice none 0 0, .slice none 0 0] 77 ?_; intro aK hg hJ hbox hb; have n0_ := am (Kd.R_below (by (with_reducible repeat (fail)); exact aA.o) hb); have n1_ := am (Kd.S_below (Kd.S_elderB (by (with_reducible repeat (fail)); exact aC.o) aK (Nat.le_of_eq hg.symm)) hb); have n2_ := am (Kd.R_below (by (with_reducible repeat (fail)); exact aZ.o) hb); have n3_ := am (Kd.R_below (by (with_reducible repeat (fail)); exact a5.o) hb); have n4_ := am (qAe (g := aT) (o := .cells #[.slice none 0 0, .slice none 0 0, .int .i64 0] 47 (0, 0)) (by (with_reducible repeat (fail)); exact aG.o) hb); have n5_ := am (qAe (g := aU) (o := .cells #[aN, aM, .int .i64 0] 47 (0, 0)) (by (with_reducible repeat (fail)); exact aE.o) hb); have n6_ := am (qAd.below (by repeat ((with_reducible (exact aD.o)))) hb); have n7_ := am (qAk (by repeat ((with_reducible (exact HB.o)))) hb); have n8_ := am (hbox); have n9_ := am ((by rw [hg]; exact (qAf (by repeat ((with_reducible (exact HB.o))))) : w.heap.size ≤ aK)); have n10_ := am ((by rw [hg]; exact (qAf (by repeat ((with_reducible (exact HB.o))))) : w.heap.size ≤ aK)); have n11_ := am ((by rw [hg]; exact Nat.ne_of_lt (qAt (g := aT) (o := .cells #[.slice none 0 0, .slice none 0 0, .int .i64 0] 47 (0, 0)) (by (with_reducible repeat (fail)); exact aG.o)) : aT ≠ aK)); have n12_ := am ((by rw [hg]; exact Nat.ne_of_gt (qAt (g := aT) (o := .cells #[.slice none 0 0, .slice none 0 0, .int .i64 0] 47 (0, 0)) (by (with_reducible repeat (fail)); exact aG.o)) : aK ≠ aT)); have n13_ := am ((by rw [hg]; exact Nat.ne_of_lt (qAt (g := aU) (o := .cells #[aN, aM, .int .i64 0] 47 (0, 0)) (by (with_reducible repeat (fail)); exact aE.o)) : aU ≠ aK)); have n14_ := am ((by rw [hg]; exact Nat.ne_of_gt (qAt (g := aU) (o := .cells #[aN, aM, .int .i64 0] 47 (0, 0)) (by (with_reducible repeat (fail)); exact aE.o)) : aK ≠ aU)); have n15_ := am ((by rw [hg]; exact Nat.ne_of_lt (qAd.lt (show qAd w _ aQ aJ bU bV from by repeat ((with_reducible (exact aD.o))))) : aQ ≠ aK)); have n16_ := am ((by rw [hg]; exact Nat.ne_of_gt (qAd.lt (show qAd w _ aQ aJ bU bV from by repeat ((with_reducible (exact aD.o))))) : aK ≠ aQ)); clear aA; clear aC; clear aZ; clear a5; clear aG; clear aE; clear aD; clear HB; have aA := n0_; have aC := n1_; have aZ := n2_; have a5 := n3_; have aG := n4_; have aE := n5_; have aD := n6_; have HB := n7_; have aR := n8_; have bj := n10_; have ac := n11_; have ad := n13_; have a9 := n15_; have b0 := n16_; clear n0_ n1_ n2_ n3_ n4_ n5_ n6_ n7_ n8_ n9_ n10_ n11_ n12_ n13_ n14_ n15_ n16_; clear hb hbox hg; obtain ⟨fj, fk, fl, fm⟩ := c4_ hJ aR.o; obtain ⟨gC, gD, gE, gF⟩ := z4_ aR.o) | ((with_reducible refine qAy (f := 52) rfl ?_); refine gL 76 Try.func52 #[.pointer (some ⟨aQ, 0, none⟩), .int .i64 65536] ?_; (with_reducible refine (qAO.calls aQ aJ bU bV 65536 bs bW bX w _ ?side1 ?side2 gl.o).mono ?_); (case side1 => repeat ((with_reducible first | exact aD.o | refine qAd.far ?_ a9.o (by (with_reducible repeat ((apply TyB.set))); exact TyB.of aR.o) (by decide) _))); (case side2 => repeat ((with_reducible first | exact HB.o | refine qAs ?_ bj.o))); rintro e hd ⟨g4, rfl, bJ, hi, hb, hk⟩; refine ⟨_, rfl, ?_⟩; have n0_ := am (Kd.R_kp (qAd.apart (show qAd w _ aQ aJ bU bV from by repeat ((with_reducible first | exact aD.o | refine qAd.far ?_ a9.o (by (with_reducible repeat ((apply TyB.set))); exact TyB.of aR.o) (by decide) _))) (by (with_reducible repeat (fail)); exact (Kd.R_mono (Kd.R_far (p := ⟨aK, 3, none⟩) (Kd.R_far (p := ⟨aK, 2, none⟩) (Kd.R_far (p := ⟨aK, 1, none⟩) (Kd.R_far (p := ⟨aK, 0, none⟩) (Kd.R_types aA.o aR.o (by decide)) (fun _ hk => hk.2) (.slice bK a3.length bL)) (fun _ hk => hk.2) (.int .i64 (wrap64 (ab)))) (fun _ hk => hk.2) (.slice bO a8.length bT)) (fun _ hk => hk.2) (.slice none 0 0)) (fun _ h_ => h_.1))) (by decide)) hk); have n1_ := am (Kd.S_mono (Kd.S_keep (qAd.apartS (show qAd w _ aQ aJ bU bV from by repeat ((with_reducible first | exact aD.o | refine qAd.far ?_ a9.o (by (with_reducible repeat ((apply TyB.set))); exact TyB.of aR.o) (by decide) _))) (by (with_reducible repeat (fail)); exact (Kd.S_mono (Kd.S_far (p := ⟨aK, 3, none⟩) (Kd.S_far (p := ⟨aK, 2, none⟩) (Kd.S_far (p := ⟨aK, 1, none⟩) (Kd.S_far (p := ⟨aK, 0, none⟩) (Kd.S_mono aC.o (fun k_ hk => (⟨hk, hk.2⟩ : _ ∧ k_ ≠ aK))) (fun _ hk => hk.2) (.slice bK a3.length bL)) (fun _ hk => hk.2) (.int .i64 (wrap64 (ab)))) (fun _ hk => hk.2) (.slice bO a8.length bT)) (fun _ hk => hk.2) (.slice none 0 0)) (fun _ h_ => h_.1))) (by decide)) hk (fun _ h => h.2)) (fun _ h => h.1)); have n2_ := am (qAh.blk hk (g' := aT) (o := .cells #[.slice none 0 0, .slice none 0 0, .int .i64 0] 47 (0, 0)) (by (with_reducible repeat (fail)); refine qAu ?_ ac.o _; (with_reducible repeat (fail)); refine qAu ?_ ac.o _; (with_reducible repeat (fail)); refine qAu ?_ ac.o _; (with_reducible repeat (fail)); refine qAu ?_ ac.o _; (with_reducible repeat (fail)); exact aG.o) aV.o (by simp)); have n3_ := am (qAh.blk hk (g' := aU) (o := .cells #[aN, aM, .int .i64 0] 47 (0, 0)) (by (with_reducible repeat (fail)); refine qAu ?_ ad.o _; (with_reducible repeat (fail)); refine qAu ?_ ad.o _; (with_reducible repeat (fail)); refine qAu ?_ ad.o _; (with_reducible repeat (fail)); refine qAu ?_ ad.o _; (with_reducible repeat (fail)); exact aE.o) aY.o (by simp)); have n4_ := am (Kd.R_kp (qAd.apart (show qAd w _ aQ aJ bU bV from by repeat ((with_reducible first | exact aD.o | refine qAd.far ?_ a9.o (by (with_reducible repeat ((apply TyB.set))); exact TyB.of aR.o) (by decide) _))) (by (with_reducible repeat (fail)); exact (Kd.R_mono (Kd.R_far (p := ⟨aK, 3, none⟩) (Kd.R_far (p := ⟨aK, 2, none⟩) (Kd.R_far (p := ⟨aK, 1, none⟩) (Kd.R_far (p := ⟨aK, 0, none⟩) (Kd.R_types aZ.o aR.o (by decide)) (fun _ hk => hk.2) (.slice bK a3.length bL)) (fun _ hk => hk.2) (.int .i64 (wrap64 (ab)))) (fun _ hk => hk.2) (.slice bO a8.length bT)) (fun _ hk => hk.2) (.slice none 0 0)) (fun _ h_ => h_.1))) (by decide)) hk); have n5_ := am (Kd.R_kp (qAd.apart (show qAd w _ aQ aJ bU bV from by repeat ((with_reducible first | exact aD.o | refine qAd.far ?_ a9.o (by (with_reducible repeat ((apply TyB.set))); exact TyB.of aR.o) (by decide) _))) (by (with_reducible repeat (fail)); exact (Kd.R_mono (Kd.R_far (p := ⟨aK, 3, none⟩) (Kd.R_far (p := ⟨aK, 2, none⟩) (Kd.R_far (p := ⟨aK, 1, none⟩) (Kd.R_far (p := ⟨aK, 0, none⟩) (Kd.R_types a5.o aR.o (by decide)) (fun _ hk => hk.2) (.slice bK a3.length bL)) (fun _ hk => hk.2) (.int .i64 (wrap64 (ab)))) (fun _ hk => hk.2) (.slice bO a8.length bT)) (fun _ hk => hk.2) (.slice none 0 0)) (fun _ h_ => h_.1))) (by decide)) hk); have n6_ := am (qAh.blk hk (g' := aK) (o := .cells #[.slice bK a3.length bL, .int .i64 (wrap64 (ab)), .slice bO a8.length bT, .slice none 0 0] 77 (0, 0)) (by (with_reducible repeat (fail)); refine qAx (cs := #[.slice bK a3.length bL, .int .i64 (wrap64 (ab)), .slice bO a8.length bT, .slice none 0 0]) ?_ 3 _ rfl; (with_reducible repeat (fail)); refine qAx (cs := #[.slice bK a3.length bL, .int .i64 (wrap64 (ab)), .slice none 0 0, .slice none 0 0]) ?_ 2 _ rfl; (with_reducible repeat (fail)); refine qAx (cs := #[.slice bK a3.length bL, .int .i64 0, .slice none 0 0, .slice none 0 0]) ?_ 1 _ rfl; (with_reducible repeat (fail)); refine qAx (cs := #[.slice none 0 0, .int .i64 0, .slice none 0 0, .slice none 0 0]) ?_ 0 _ rfl; (with_reducible repeat (fail)); exact aR.o) b0.o (by simp)); have n7_ := am (Kd.R_lower bJ (qAf (by repeat ((with_reducible first | exact HB.o | refine qAs ?_ bj.o))))); have n8_ := am (hb); have n9_ := am (hi); clear aA; clear aC; clear aG; clear aE; clear aZ; clear a5; clear aR; clear HB; clear aD; have aA := n0_; have aC := n1_; have aG := n2_; have aE := n3_; have aZ := n4_; have a5 := n5_; have aR := n6_; have af := n7_; have HB := n8_; have aD := n9_; clear n0_ n1_ n2_ n3_ n4_ n5_ n6_ n7_ n8_ n9_; (skip); obtain ⟨eM, e1, gU⟩ := Kd.R_slice af.o; subst gU) | ((with_reducible refine qAy (f := 51) rfl ?_); refine gL 77 Try.func51 #[.slice eM bs.length e1] ?_; (with_reducible refine (qBe.calls _ _ bs ae cN _ ?side1 ?side2 eF.o).mono ?_); (case side1 => repeat ((exact (Kd.R_reads' af.o).2.2))); (case side2 => exact (Kd.R_reads' af.o).2.1); rintro e he ⟨g5, rfl, bJ, hb⟩; refine ⟨_, rfl, ?_⟩; have n0_ := am (Kd.R_below (by (with_reducible repeat (fail)); exact aA.o) hb); have n1_ := am (Kd.S_elder' (by (with_reducible repeat (fail)); exact aC.o) (Kd.R_base bJ) hb); have n2_ := am (Kd.R_below (by (with_reducible repeat (fail)); exact aZ.o) hb); have n3_ := am (Kd.R_below (by (with_reducible repeat (fail)); exact a5.o) hb); have n4_ := am (Kd.R_below (by (with_reducible repeat (fail)); exact af.o) hb); have n5_ := am (Kd.R_lower bJ (qAf (by repeat ((with_reducible (exact HB.o)))))); have n6_ := am (qAe (g := aT) (o := .cells #[.slice none 0 0, .slice none 0 0, .int .i64 0] 47 (0, 0)) (by (with_reducible repeat (fail)); exact aG.o) hb); have n7_ := am (qAe (g := aU) (o := .cells #[aN, aM, .int .i64 0] 47 (0, 0)) (by (with_reducible repeat (fail)); exact aE.o) hb); have n8_ := am (qAd.below (by repeat ((with_reducible (exact aD.o)))) hb); have n9_ := am (qAe (g := aK) (o := .cells #[.slice bK a3.length bL, .int .i64 (wrap64 (ab)), .slice bO a8.length bT, .slice none 0 0] 77 (0, 0)) (by (with_reducible repeat (fail)); exact aR.o) hb); have n10_ := am (qAk (by repeat ((with_reducible (exact HB.o)))) hb); clear aA; clear aC; clear aZ; clear a5; clear af; clear aG; clear aE; clear aD; clear aR; clear HB; have aA := n0_; have aC := n1_; have aZ := n2_; have a5 := n3_; have af := n4_; have ax := n5_; have aG := n6_; have aE := n7_; have aD := n8_; have aR := n9_; have HB := n10_; clear n0_ n1_ n2_ n3_ n4_ n5_ n6_ n7_ n8_ n9_ n10_; (skip); (skip); (skip)) | ((with_reducible refine qAy (f := 21) rfl ?_); refine gL 83 Try.func21 #[.pointer (some ⟨aQ, 0, none⟩), .int .i64 53] ?_; (with_reducible refine (qA5.calls aQ aJ bW bX 53 cV cW w _ ?side1 ?side2 hB.o).mono ?_); (case side1 => repeat ((with_reducible (exact aD.o)))); (case side2 => repeat ((with_reducible (exact HB.o)))); rintro e gs ⟨rfl, hi, hb, hk⟩; refine ⟨_, rfl, ?_⟩; have n0_ := am (Kd.R_kp (qAd.apart (show qAd w _ aQ aJ bW bX from by repeat ((with_reducible (exact aD.o)))) (by (with_reducible repeat (fail)); exact aA.o) (by decide)) hk); have n1_ := am (Kd.S_mono (Kd.S_keep (qAd.apartS (show qAd w _ aQ aJ bW bX from by repeat ((with_reducible (exact aD.o)))) (by (with_reducible repeat (fail)); exact aC.o) (by decide)) hk (fun _ h => h.2)) (fun _ h => h.1)); have n2_ := am (qAh.blk hk (g' := aT) (o := .cells #[.slice none 0 0, .slice none 0 0, .int .i64 0] 47 (0, 0)) (by (with_reducible repeat (fail)); exact aG.o) aV.o (by simp)); have n3_ := am (qAh.blk hk (g' := aU) (o := .cells #[aN, aM, .int .i64 0] 47 (0, 0)) (by (with_reducible repeat (fail)); exact aE.o) aY.o (by simp)); have n4_ := am (Kd.R_kp (qAd.apart (show qAd w _ aQ aJ bW bX from by repeat ((with_reducible (exact aD.o)))) (by (with_reducible repeat (fail)); exact aZ.o) (by decide)) hk); have n5_ := am (Kd.R_kp (qAd.apart (show qAd w _ aQ aJ bW bX from by repeat ((with_reducible (exact aD.o)))) (by (with_reducible repeat (fail)); exact a5.o) (by decide)) hk); have n6_ := am (qAh.blk hk (g' := aK) (o := .cells #[.slice bK a3.length bL, .int .i64 (wrap64 (ab)), .slice bO a8.length bT, .slice none 0 0] 77 (0, 0)) (by (with_reducible repeat (fail)); exact aR.o) b0.o (by simp)); have n7_ := am (Kd.R_kp (qAd.apart (show qAd w _ aQ aJ bW bX from by repeat ((with_reducible (exact aD.o)))) (by (with_reducible repeat (fail)); exact af.o) (by decide)) hk); have n8_ := am (Kd.R_kp (qAd.apart (show qAd w _ aQ aJ bW bX from by repeat ((with_reducible (exact aD.o)))) (by (with_reducible repeat (fail)); exact ax.o) (by decide)) hk); have n9_ := am (hb); have n10_ := am (hi); clear aA; clear aC; clear aG; clear aE; clear aZ; clear a5; clear aR; clear af; clear ax; clear HB; clear aD; have aA := n0_; have aC := n1_; have aG := n2_; have aE := n3_; have aZ := n4_; have a5 := n5_; have aR := n6_; have af := n7_; have ax := n8_; have HB := n9_; have aD := n10_; clear n0_ n1_ n2_ n3_ n4_ n5_ n6_ n7_ n8_ n9_ n10_; (skip); obtain ⟨b5, ba, gV⟩ := Kd.R_slice ax.o; subst gV; obtain ⟨-, -, -, fn⟩ := c4_ gs aR.o; have gG := qAg aR.o 3) | ((with_reducible refine qCQ (t := 75) (p := 85) rfl ?_); refine qC5 (t := 75) (p := 85) (v := ?vo_w94) (w1 := (gs.setCell ⟨aK, 3, none⟩ (.slice b5 ae.length ba))) ?hg ?ho ?hn ?hr ?_; (case ho => rfl); (case hg => rfl); (case hn => rfl); (case hr => (go_simp; done)); intro c1 hw; have n0_ : qAb (Kd.R k69 69 c1 w.heap.size (fun _ => True) aN aH) := ⟨(by rw [hw]; exact (by (with_reducible repeat (fail)); exact Kd.R_mono (Kd.R_far (p := ⟨aK, 3, none⟩) (Kd.R_types aA.o aR.o (by decide)) (fun _ hk => hk.2) (.slice b5 ae.length ba)) (fun _ hk => trivial)))⟩; have n1_ : qAb (Kd.S k77 77 c1 w.heap.size (fun k_ => some k_ ≠ (.slice bK a3.length bL : Value).ownBlock ∧ some k_ ≠ (.slice bO a8.length bT : Value).ownBlock ∧ some k_ ≠ (.slice b5 ae.length ba : Value).ownBlock ∧ k_ ≠ aK) aM aI) := ⟨(by rw [hw]; exact (by (with_reducible repeat (fail)); exact Kd.S_mono (Kd.S_far (p := ⟨aK, 3, none⟩) (Kd.S_mono aC.o (fun k_ hk => (⟨hk, hk.1.2⟩ : _ ∧ k_ ≠ aK))) (fun _ hk => hk.2) (.slice b5 ae.length ba)) (fun _ hk => ⟨hk.1.1.1.1.2, ⟨hk.1.1.1.2, ⟨hk.1.2, hk.1.1.2⟩⟩⟩)))⟩; have n2_ : qAb (Kd.R (Kd.int .i64) 3 c1 w.heap.size (fun k_ => some k_ ≠ (.slice bO a8.length bT : Value).ownBlock) (.slice bK a3.length bL) a3) := ⟨(by rw [hw]; exact (by (with_reducible repeat (fail)); exact Kd.R_mono (Kd.R_far (p := ⟨aK, 3, none⟩) (Kd.R_types aZ.o aR.o (by decide)) (fun _ hk => hk.2) (.slice b5 ae.length ba)) (fun _ hk => hk.1.2)))⟩; have n3_ : qAb (Kd.R (Kd.int .i64) 3 c1 w.heap.size (fun k_ => some k_ ≠ (.slice bK a3.length bL : Value).ownBlock) (.slice bO a8.length bT) a8) := ⟨(by rw [hw]; exact (by (with_reducible repeat (fail)); exact Kd.R_mono (Kd.R_far (p := ⟨aK, 3, none⟩) (Kd.R_types a5.o aR.o (by decide)) (fun _ hk => hk.2) (.slice b5 ae.length ba)) (fun _ hk => hk.1.2)))⟩; have n4_ : qAb (Kd.R (Kd.int .u8) 5 c1 w.heap.size (fun _ => True) (.slice eM bs.length e1) bs) := ⟨(by rw [hw]; exact (by (with_reducible repeat (fail)); exact Kd.R_mono (Kd.R_far (p := ⟨aK, 3, none⟩) (Kd.R_types af.o aR.o (by decide)) (fun _ hk => hk.2) (.slice b5 ae.length ba)) (fun _ hk => trivial)))⟩; have n5_ : qAb (Kd.R k115 115 c1 w.heap.size (fun _ => True) (.slice b5 ae.length ba) ae) := ⟨(by rw [hw]; exact (by (with_reducible repeat (fail)); exact Kd.R_mono (Kd.R_far (p := ⟨aK, 3, none⟩) (Kd.R_types ax.o aR.o (by decide)) (fun _ hk => hk.2) (.slice b5 ae.length ba)) (fun _ hk => trivial)))⟩; have n6_ : qAb (c1.heap[aT]? = some (.cells #[.slice none 0 0, .slice none 0 0, .int .i64 0] 47 (0, 0))) := ⟨(by rw [hw]; exact (by (with_reducible repeat (fail)); refine qAu ?_ ac.o _; (with_reducible repeat (fail)); exact aG.o))⟩; have n7_ : qAb (c1.heap[aU]? = some (.cells #[aN, aM, .int .i64 0] 47 (0, 0))) := ⟨(by rw [hw]; exact (by (with_reducible repeat (fail)); refine qAu ?_ ad.o _; (with_reducible repeat (fail)); exact aE.o))⟩; have n8_ : qAb (c1.heap[aK]? = some (.cells #[.slice bK a3.length bL, .int .i64 (wrap64 (ab)), .slice bO a8.length bT, .slice b5 ae.length ba] 77 (0, 0))) := ⟨(by rw [hw]; exact (by (with_reducible repeat (fail)); refine qAx (cs := #[.slice bK a3.length bL, .int .i64 (wrap64 (ab)), .slice bO a8.length bT, .slice none 0 0]) ?_ 3 _ rfl; (with_reducible repeat (fail)); exact aR.o))⟩; have n9_ : qAb (qAd w c1 aQ aJ cV cW) := ⟨(by rw [hw]; exact (by repeat ((with_reducible first | exact aD.o | refine qAd.far ?_ a9.o (by (with_reducible repeat (fail)); exact TyB.of aR.o) (by decide) _))))⟩; have n10_ : qAb (Below w.heap.size w c1) := ⟨(by rw [hw]; exact (by repeat ((with_reducible first | exact HB.o | refine qAs ?_ bj.o))))⟩; clear hw; clear aA; clear aC; clear aZ; clear a5; clear af; clear ax; clear aG; clear aE; clear aR; clear aD; clear HB; have aA := n0_; have aC := n1_; have aZ := n2_; have a5 := n3_; have af := n4_; have ax := n5_; have aG := n6_; have aE := n7_; have aR := n8_; have aD := n9_; have HB := n10_; clear n0_ n1_ n2_ n3_ n4_ n5_ n6_ n7_ n8_ n9_ n10_; obtain ⟨-, fo⟩ := c2_ c1 aE.o; obtain ⟨fp, fq, fs, ft⟩ := c4_ c1 aR.o; have gH := qAg aR.o 3) | ((with_reducible refine qCf (b := .append) (xs := #[.tmp 87, .tmp 89]) rfl ?_); at_builtin; refine Kd.S_append k77 (w0 := w) w.heap.size rfl (.tmp 87) (.tmp 89) 45 77 (.agg #[(.slice none 0 0), (.int .i64 0), (.slice none 0 0), (.slice none 0 0)]) 80 rfl Try.underlying45 info77 rfl (by decide) (by omega) aM aI (⟨(⟨a3, wrap64 (ab)⟩ : S74), a8, ae⟩ : S77) [.slice bK a3.length bL, .int .i64 (wrap64 (ab)), .slice bO a8.length bT, .slice b5 ae.length ba] (fun k_ => k_ ≠ aK) (fun k_ => some k_ = (.slice bK a3.length bL : Value).ownBlock ∨ some k_ = (.slice bO a8.length bT : Value).ownBlock ∨ some k_ = (.slice b5 ae.length ba : Value).ownBlock) rfl rfl ?aP (fun k_ hk_ => hk_.elim (fun h_ => ((Kd.R_mono (ok' := fun k_ => ((fun k_ => k_ ≠ aK)) k_ ∧ some k_ ≠ (aM : Value).ownBlock) (Kd.R_types (Kd.R_apart' (aZ.o) (Kd.S_typed aC.o) (by decide)) aR.o (by decide)) (fun k_ hk => ⟨hk.2, hk.1.2⟩))).1 k_ h_.symm) (fun h_ => h_.elim (fun h_ => ((Kd.R_mono (ok' := fun k_ => ((fun k_ => k_ ≠ aK)) k_ ∧ some k_ ≠ (aM : Value).ownBlock) (Kd.R_types (Kd.R_apart' (a5.o) (Kd.S_typed aC.o) (by decide)) aR.o (by decide)) (fun k_ hk => ⟨hk.2, hk.1.2⟩))).1 k_ h_.symm) (fun h_ => ((Kd.R_mono (ok' := fun k_ => ((fun k_ => k_ ≠ aK)) k_ ∧ some k_ ≠ (aM : Value).ownBlock) (Kd.R_types (Kd.R_apart' (ax.o) (Kd.S_typed aC.o) (by decide)) aR.o (by decide)) (fun k_ hk => ⟨hk.2, hk.1.2⟩))).1 k_ h_.symm))) ?aF ?aO ?aB ?aS ?aL ?_; (case aP => exact k77_mkM _ _ _ (⟨(⟨a3, wrap64 (ab)⟩ : S74), a8, ae⟩ : S77) (Kd.R_mono (Kd.R_tight rfl (Kd.R_mono (ok' := fun k_ => ((fun k_ => k_ ≠ aK)) k_ ∧ some k_ ≠ (aM : Value).ownBlock) (Kd.R_types (Kd.R_apart' (aZ.o) (Kd.S_typed aC.o) (by decide)) aR.o (by decide)) (fun k_ hk => ⟨hk.2, hk.1.2⟩))) (fun _ h_ => Or.inl h_)) (Kd.R_mono (Kd.R_tight rfl (Kd.R_mono (ok' := fun k_ => ((fun k_ => k_ ≠ aK)) k_ ∧ some k_ ≠ (aM : Value).ownBlock) (Kd.R_types (Kd.R_apart' (a5.o) (Kd.S_typed aC.o) (by decide)) aR.o (by decide)) (fun k_ hk => ⟨hk.2, hk.1.2⟩))) (fun _ h_ => Or.inr (Or.inl h_))) (Kd.R_mono (Kd.R_tight rfl (Kd.R_mono (ok' := fun k_ => ((fun k_ => k_ ≠ aK)) k_ ∧ some k_ ≠ (aM : Value).ownBlock) (Kd.R_types (Kd.R_apart' (ax.o) (Kd.S_typed aC.o) (by decide)) aR.o (by decide)) (fun k_ hk => ⟨hk.2, hk.1.2⟩))) (fun _ h_ => Or.inr (Or.inr (h_))))); (case aB => exact (by repeat ((with_reducible (exact HB.o))))); (case aF => exact (fun k_ hk => Kd.freshB (g := aK) (o := .cells #[.slice bK a3.length bL, .int .i64 (wrap64 (ab)), .slice bO a8.length bT, .slice b5 ae.length ba] 77 (0, 0)) (by (with_reducible repeat (fail)); exact aR.o) k_ hk)); (case aO => exact (by (with_reducible repeat (fail)); exact Kd.S_mono aC.o (fun k_ hk => ⟨hk.2.2.2, fun e_ => e_.elim (fun h_ => hk.1 h_) (fun h_ => h_.elim (fun h_ => hk.2.1 h_) (fun h_ => hk.2.2.1 h_))⟩))); (case aS => exact (qAf (by repeat ((with_reducible (exact HB.o)))))); (case aL => have := eP.o; omega); intro hF hL ho hb hg eb; rw [← eS.o] at ho; have n0_ := am (Kd.R_over' (by (with_reducible repeat (fail)); exact aA.o) (Kd.S_typed (by (with_reducible repeat (fail)); exact aC.o)) (by decide) hg); have n1_ := am (qA6 (g := aT) (o := .cells #[.slice none 0 0, .slice none 0 0, .int .i64 0] 47 (0, 0)) (by (with_reducible repeat (fail)); exact aG.o) hg (Kd.S_ne aC.o aG.o (by decide))); have n2_ := am (qA6 (g := aU) (o := .cells #[aN, aM, .int .i64 0] 47 (0, 0)) (by (with_reducible repeat (fail)); exact aE.o) hg (Kd.S_ne aC.o aE.o (by decide))); have n3_ := am (qAd.grownRS (show qAd w _ aQ aJ cV cW from by repeat ((with_reducible (exact aD.o)))) hg aD.o aC.o (by decide) (fun b_ t_ h_ => by (with_reducible repeat (fail)); exact h_)); have n4_ := am (qA6 (g := aK) (o := .cells #[.slice bK a3.length bL, .int .i64 (wrap64 (ab)), .slice bO a8.length bT, .slice b5 ae.length ba] 77 (0, 0)) (by (with_reducible repeat (fail)); exact aR.o) hg (Kd.S_away aC.o (fun _ hk => hk.2.2.2))); have n5_ := am (Kd.R_over' (by (with_reducible repeat (fail)); exact af.o) (Kd.S_typed (by (with_reducible repeat (fail)); exact aC.o)) (by decide) hg); have n6_ := am (hb); have n7_ := am (ho); clear aA; clear aG; clear aE; clear aD; clear aR; clear af; clear HB; clear aC; clear aZ; clear a5; clear ax; have aA := n0_; have aG := n1_; have aE := n2_; have aD := n3_; have HB := n6_; have dL := n7_; clear n0_ n1_ n2_ n3_ n4_ n5_ n6_ n7_; clear ho hb hg eb; obtain ⟨ca, ci, e2⟩ := Kd.S_slice dL.o; subst e2; obtain ⟨-, ec⟩ := c2_ hL aE.o; obtain ⟨-, fL, fM⟩ := z3_ aE.o))
            go_roundg ap
            case measure => have := bw.o; have := cv.o; have := cF.o; have := dl.o; have := cy.o; omega
            case rel => exact ⟨(wrap64 (bD - 1)), (cV), (cW), (cu), (.slice ca cu.length ci), (by (rfl)), H', ⟨by have := bw.o; have := cv.o; have := cF.o; have := dl.o; have := cy.o; omega⟩, ⟨by (with_reducible repeat (fail)); exact Kd.R_mono (Kd.R_far (p := ⟨aU, 1, none⟩) (Kd.R_types aA.o aE.o (by decide)) (fun _ hk => hk.2) (.slice ca cu.length ci)) (fun _ hk => trivial)⟩, ⟨by (with_reducible repeat (fail)); exact Kd.S_mono (Kd.S_far (p := ⟨aU, 1, none⟩) (Kd.S_types dL.o aE.o (by decide)) (fun _ hk => hk.2) (.slice ca cu.length ci)) (fun _ hk => trivial)⟩, ⟨by (with_reducible repeat (fail)); refine qAu ?_ ay.o _; (with_reducible repeat (fail)); exact aG.o⟩, ⟨by (with_reducible repeat (fail)); refine qAx (cs := #[aN, aM, .int .i64 0]) ?_ 1 _ rfl; (with_reducible repeat (fail)); exact aE.o⟩, ⟨by repeat ((with_reducible first | exact aD.o | refine qAd.far ?_ a4.o (by (with_reducible repeat (fail)); exact TyB.of aE.o) (by decide) _))⟩, ⟨by repeat ((with_reducible first | exact HB.o | refine qAs ?_ bi.o))⟩⟩
end Q
end
section
namespace Q
open Go.RowKit YA YC YB
open Val Ins DecLaw Wr Enc
namespace ImP
theorem wrap1 {i : Int} (h0 : 0 ≤ i) (h1 : i < 4611686018427387904) : wrap64 (i + 1) = i + 1 := by unfold wrap64; omega
theorem valB_lt : ∀ (l : List Int), qB5 l → ∀ v : Int, 0 ≤ v → 0 ≤ l.foldl (fun v x => v * 256 + x) v ∧ l.foldl (fun v x => v * 256 + x) v < (v + 1) * 256 ^ l.length := by
 intro l
 induction l with
 | nil => intro _ v hv; simp; omega
 | cons x l ih =>
  intro h v hv
  have hx := h x List.mem_cons_self
  obtain ⟨h1, h2⟩ := ih (fun y hy => h y (List.mem_cons_of_mem _ hy)) (v * 256 + x) (by omega)
  refine ⟨h1, Int.lt_of_lt_of_le h2 ?_⟩
  rw [List.length_cons, Int.pow_succ]
  have : (v * 256 + x + 1) * 256 ^ l.length ≤ ((v + 1) * 256) * 256 ^ l.length := Int.mul_le_mul_of_nonneg_right (by omega) (Int.le_of_lt (Int.pow_pos (by decide)))
  have e : (v + 1) * (256 ^ l.length * 256) = ((v + 1) * 256) * 256 ^ l.length := by rw [Int.mul_assoc, Int.mul_comm (256 ^ l.length) 256]
  rw [e]; exact this
theorem numStep_eq (v x : Int) (hv : 0 ≤ v) (hv2 : v < 72057594037927936) (hx : 0 ≤ x) (hx2 : x < 256) : qCG v x = v * 256 + x := by
 unfold qCG
 rw [Dec.wrap_256, show IntKind.u64.wrap x = x from by simp [IntKind.wrap, IntKind.bits, IntKind.signed]; omega, Dec.or_low v x hv (by omega) hx hx2]
 omega
theorem numF_fold (l : List Int) (h : qB5 l) : ∀ (v : Int), 0 ≤ v → (v + 1) * 256 ^ l.length ≤ 18446744073709551616 → l.foldl qCG v = l.foldl (fun v x => v * 256 + x) v := by
 induction l with
 | nil => intro v _ _; rfl
 | cons x l ih =>
  intro v hv hb
  have hx := h x List.mem_cons_self
  have hp : (1 : Int) ≤ 256 ^ l.length := by have := @Int.pow_pos 256 l.length (by decide); omega
  rw [List.length_cons, Int.pow_succ] at hb
  have hv2 : v < 72057594037927936 := by
   have h1 : (v + 1) * (1 * 256) ≤ (v + 1) * (256 ^ l.length * 256) := Int.mul_le_mul_of_nonneg_left (Int.mul_le_mul_of_nonneg_right hp (by decide)) (by omega)
   omega
  simp only [List.foldl_cons]
  rw [numStep_eq v x hv hv2 hx.1 hx.2]
  refine ih (fun y hy => h y (List.mem_cons_of_mem _ hy)) _ (by omega) ?_
  have h1 : (v * 256 + x + 1) * 256 ^ l.length ≤ ((v + 1) * 256) * 256 ^ l.length := Int.mul_le_mul_of_nonneg_right (by omega) (by omega)
  have e : (v + 1) * (256 ^ l.length * 256) = ((v + 1) * 256) * 256 ^ l.length := by rw [Int.mul_assoc, Int.mul_comm (256 ^ l.length) 256]
  omega
end ImP
namespace ImP
abbrev Img4 := List S69 × List S77 × Int × Int
def no53 : Img4 := ([], [], 0, 53)
end ImP
namespace ImP
structure FnOk (f : S77) : Prop where
 p : f.f0.f0.length ≤ 8
 l : f.f1.length ≤ 64
 c : f.f2.length ≤ 4096
theorem c32 (c : Int) : 0 ≤ c % 4294967296 ∧ c % 4294967296 < 4294967296 := ⟨Int.emod_nonneg _ (by decide), Int.emod_lt_of_pos _ (by decide)⟩
end ImP
namespace ImP
def At (f0 : List Int) (p : Int) (l : List Int) : Prop := 0 ≤ p ∧ p + l.length = f0.length ∧ f0.drop p.toNat = l
theorem At.over {f0 : List Int} {p : Int} {a r : List Int} (h : At f0 p (a ++ r)) : At f0 (p + a.length) r := by
 obtain ⟨h0, h1, h2⟩ := h
 refine ⟨by omega, by rw [List.length_append] at h1; omega, ?_⟩
 rw [show (p + (a.length : Int)).toNat = p.toNat + a.length from by omega, ← List.drop_drop, h2, List.drop_left]
theorem At.take {f0 : List Int} {p : Int} {a r : List Int} (h : At f0 p (a ++ r)) : (f0.drop p.toNat).take a.length = a := by rw [h.2.2, List.take_left]
theorem qCC {f0 : List Int} {p x : Int} {r : List Int} (h : At f0 p (x :: r)) : qAo.f f0 p 0 = some (x, p + 1, 0) ∧ At f0 (p + 1) r := by
 have h2 := At.over (a := [x]) h
 refine ⟨?_, h2⟩
 obtain ⟨h0, h1, h3⟩ := h
 rw [List.length_cons] at h1
 have hlt : p < f0.length := by omega
 have hx : f0.getD p.toNat 0 = x := by
  have e := congrArg (fun l => l.getD 0 0) h3
  simpa [List.getD_eq_getElem?_getD, List.getElem?_drop] using e
 unfold qAo.f
 rw [if_neg (by simp), if_pos hlt, hx]
theorem numF_be (n : Int) (m : Nat) (hm : m ≤ 8) (h0 : 0 ≤ n) (h1 : n < 256 ^ m) : numF (be n m m) = n := by
 have hp : ∀ n : Nat, n < 9 → (256 : Int) ^ n ≤ 18446744073709551616 := by decide
 have hp := hp m (by omega)
 unfold numF
 rw [numF_fold _ (be_bytes n m) 0 (Int.le_refl 0) (by rw [qAD]; omega)]
 exact DecLaw.valB_be m n h0 h1
theorem num4_at {f0 : List Int} {p n : Int} {r : List Int} (h : At f0 p (be n 4 4 ++ r)) (n0 : 0 ≤ n) (n1 : n ≤ 2147483647) : num4 f0 p = n := by
 have e : (256 : Int) ^ 4 = 4294967296 := by decide
 have ht := h.take
 rw [qAD] at ht
 unfold num4
 rw [ht]
 exact numF_be n 4 (by omega) n0 (by omega)
theorem qCE {f0 : List Int} {p n : Int} {r : List Int} (h : At f0 p (be n 4 4 ++ r)) (n0 : 0 ≤ n) (n1 : n ≤ 2147483647) : qAI.f f0 p 0 = some (n, p + 4, 0) ∧ At f0 (p + 4) r := by
 have h2 := h.over
 rw [qAD] at h2
 refine ⟨?_, h2⟩
 have hn := num4_at h n0 n1
 have hl := h.2.1
 rw [List.length_append, qAD] at hl
 have hlt : p + 4 ≤ f0.length := by omega
 simp [qAI.f, hlt, hn, n1]
theorem long_at {f0 : List Int} {p n : Int} {r : List Int} (h : At f0 p (be n 8 8 ++ r)) (n0 : 0 ≤ n) (n1 : n < 18446744073709551616) : qAX.f f0 p 0 = some (n, p + 8, 0) ∧ At f0 (p + 8) r := by
 have e : (256 : Int) ^ 8 = 18446744073709551616 := by decide
 have h2 := h.over
 rw [qAD] at h2
 refine ⟨?_, h2⟩
 have ht := h.take
 rw [qAD] at ht
 have hl := h.2.1
 rw [List.length_append, qAD] at hl
 have hlt : p + 8 ≤ f0.length := by omega
 have hn := numF_be n 8 (by omega) n0 (by omega)
 simp [qAX.f, hlt, ht, hn]
theorem raw_at {f0 ys : List Int} {p : Int} {r : List Int} (h : At f0 p (rawB ys ++ r)) (hy : ys.length ≤ 65536) : qAO.f f0 p 0 65536 = some (ys, p + 4 + ys.length, 0) ∧ At f0 (p + 4 + ys.length) r := by
 unfold rawB at h
 rw [List.append_assoc] at h
 have hn := num4_at h (by omega) (by omega)
 have h4 := h.over
 rw [qAD] at h4
 have h5 := h4.over
 refine ⟨?_, h5⟩
 have hl := h4.2.1
 have h0 := h.1
 rw [List.length_append] at hl
 have hmx : mx (65536 : Int) 0 = 65536 := by unfold mx; omega
 have ht := h4.take
 unfold qAO.f
 rw [hn, hmx, if_neg (by simp), if_pos (by omega), if_pos (by omega), if_pos (by omega), if_pos (by omega), Int.toNat_natCast]
 rw [show ((4 : Nat) : Int) = 4 from rfl] at ht
 rw [ht]
theorem read_l_at (n : Int) (hn : n ≤ 255) : ∀ (ys acc : List Int) (f0 : List Int) (i p : Int) (r : List Int), 0 ≤ i → n - i = ys.length → acc.length + ys.length ≤ 300 → (∀ y ∈ ys, 0 ≤ y ∧ y < 256) → At f0 p (ys ++ r) →
  Ev (fun k => qA3.l0 k acc n i f0 p 0) (acc ++ ys, p + ys.length, 0) := by
 intro ys
 induction ys with
 | nil =>
  intro acc f0 i p r h0 hd ha hy h
  refine Ev.step (f := fun _ => some (acc ++ [], p + ([] : List Int).length, 0)) (fun k => ?_) (Ev.now _)
  simp only [qA3.l0]
  rw [if_neg (by simp at hd; omega)]
  simp
 | cons y ys ih =>
  intro acc f0 i p r h0 hd ha hy h
  rw [List.length_cons] at hd ha
  obtain ⟨h1, h2⟩ := qCC (r := ys ++ r) h
  have hyb := hy y List.mem_cons_self
  have hw : wrap64 y = y := by unfold wrap64; omega
  have := ih (acc ++ [y]) f0 (i + 1) (p + 1) r (by omega) (by omega) (by simp; omega) (fun z hz => hy z (List.mem_cons_of_mem _ hz)) h2
  rw [List.append_assoc, List.singleton_append] at this
  refine Ev.step (fun k => ?_) (show Ev _ (acc ++ y :: ys, p + (y :: ys).length, 0) from by rw [List.length_cons, show p + ((ys.length + 1 : Nat) : Int) = p + 1 + ys.length from by omega]; exact this)
  simp only [qA3.l0]
  rw [if_pos (by omega), h1]
  simp only [Option.bind_some]
  rw [if_pos (by omega), wrap1 h0 (by omega), hw]
theorem byB_id (l : List Int) (h : ∀ y ∈ l, 0 ≤ y ∧ y < 256) : byB l = l := by
 unfold byB
 conv => rhs; rw [← List.map_id l]
 exact List.map_congr_left fun y hy => by have := h y hy; simp; omega
theorem read_at {f0 l : List Int} {p : Int} {r : List Int} (hl : l.length ≤ 255) (hb : ∀ y ∈ l, 0 ≤ y ∧ y < 256) (h : At f0 p ([(l.length : Int) % 256] ++ byB l ++ r)) : Ev (fun k => qA3.f k f0 p 0) (l, p + 1 + l.length, 0) ∧ At f0 (p + 1 + l.length) r := by
 rw [byB_id l hb, List.append_assoc, List.singleton_append, show (l.length : Int) % 256 = l.length from by omega] at h
 obtain ⟨h1, h2⟩ := qCC h
 refine ⟨?_, h2.over⟩
 have := read_l_at l.length (by omega) l [] f0 0 (p + 1) r (Int.le_refl _) (by omega) (by simp; omega) hb h2
 rw [List.nil_append] at this
 refine Ev.congr (fun k => ?_) this
 unfold qA3.f
 rw [h1]
 simp only [Option.bind_some]
 rw [show wrap64 (l.length : Int) = l.length from by unfold wrap64; omega]
theorem equal_self (l : List Int) (hl : l.length ≤ 4611686018427387903) : Ev (fun k => qAj.f k l l) true := by
 have hloop : ∀ (d : Nat) (i : Int), 0 ≤ i → (l.length : Int) - i = d → Ev (fun k => qAj.l0 k l l (l.length : Int) i) true := by
  intro d
  induction d with
  | zero =>
   intro i h0 hd
   refine Ev.step (f := fun _ => some true) (fun k => ?_) (Ev.now _)
   simp only [qAj.l0]
   rw [if_neg (by omega)]
  | succ d ih =>
   intro i h0 hd
   refine Ev.step (fun k => ?_) (ih (i + 1) (by omega) (by omega))
   simp only [qAj.l0]
   rw [if_pos (by omega), if_pos h0, if_pos (by omega), if_pos (by omega), if_pos trivial, wrap1 h0 (by omega)]
 refine Ev.congr (fun k => ?_) (hloop l.length 0 (by omega) (by omega))
 unfold qAj.f
 rw [if_pos rfl]
structure VOk (x : S69) : Prop where
 t : 0 ≤ x.f0 ∧ x.f0 < 256
 b : 0 ≤ x.f1 ∧ x.f1 < 18446744073709551616
theorem vars_at (f0 : List Int) (ma : Int) : ∀ (vs acc : List S69) (p : Int) (r : List Int), (∀ x ∈ vs, VOk x) → acc.length + vs.length ≤ 70000 → At f0 p (vs.flatMap Q.valB ++ r) →
  ∃ q, At f0 q r ∧ ∀ R, Ev (fun k => qAc.j2 k f0 0 false f0 q 0 (acc ++ vs) ma) R → Ev (fun k => qAc.l0 k f0 (vs.length : Int) f0 p 0 acc ma) R := by
 intro vs
 induction vs with
 | nil =>
  intro acc p r hv hl h
  refine ⟨p, h, fun R hR => Ev.step (fun k => ?_) hR⟩
  simp only [qAc.l0]
  rw [if_neg (by simp)]
  simp
 | cons x vs ih =>
  intro acc p r hv hl h
  rw [List.length_cons] at hl
  have hx := hv x List.mem_cons_self
  have hx1 := hx.t
  rw [List.flatMap_cons, List.append_assoc] at h
  unfold Q.valB at h
  rw [List.append_assoc, List.singleton_append, show x.f0 % 256 = x.f0 from by omega] at h
  obtain ⟨h1, h2⟩ := qCC h
  obtain ⟨h3, h4⟩ := long_at h2 hx.b.1 hx.b.2
  obtain ⟨q, hq, hk⟩ := ih (acc ++ [x]) _ r (fun z hz => hv z (List.mem_cons_of_mem _ hz)) (by simp; omega) h4
  rw [List.append_assoc, List.singleton_append] at hk
  refine ⟨q, hq, fun R hR => Ev.step (f := fun k => qAc.j2 k f0 ((x :: vs).length : Int) true f0 p 0 acc ma) (fun k => ?_) (Ev.step (fun k => ?_) (hk R hR))⟩
  ·simp only [qAc.l0, qA7.f, Option.bind_some]
   rw [if_pos (by rw [List.length_cons]; omega)]; rfl
  simp only [qAc.j2]
  rw [if_pos trivial, h1]
  simp only [Option.bind_some]
  rw [h3]
  simp only [Option.bind_some]
  rw [if_pos (by omega), List.length_cons, show wrap64 (((vs.length + 1 : Nat) : Int) - 1) = vs.length from by unfold wrap64; omega, show wrap64 x.f0 = x.f0 from by unfold wrap64; omega]
structure FOk (f : S77) : Prop where
 n : FnOk f
 kp : ∀ y ∈ f.f0.f0, 0 ≤ y ∧ y < 256
 kr : 0 ≤ f.f0.f1 ∧ f.f0.f1 < 256
 kl : ∀ y ∈ f.f1, 0 ≤ y ∧ y < 256
 c : ∀ x ∈ f.f2, okS x = true ∧ u64S x = true
theorem toS_toD (x : S115) : toS (toD x) = x := rfl
theorem dec_at (l : List S115) (hl : l.length ≤ 4096) (hc : ∀ x ∈ l, okS x = true ∧ u64S x = true) (hb : qB5 (encB (l.map toD))) : qBe.f (encB (l.map toD)) = some (l, 0) := by
 have hok : DecOk (encB (l.map toD)) (l.map toD) := ⟨fun x hx => by
   obtain ⟨y, hy, rfl⟩ := List.mem_map.1 hx
   exact ⟨(hc y hy).1, u64S_U (hc y hy).2⟩, by rw [List.length_map]; exact hl, rfl⟩
 unfold qBe.f
 rw [if_pos (List.all_eq_true.2 fun x hx => decide_eq_true (hb x hx))]
 rcases decL_spec (encB (l.map toD)) ((encB (l.map toD)).length + 1) [] (encB (l.map toD)) (by omega) (fun x hx => by cases hx) (by simp) (by simp [encB]) with ⟨m, h, k⟩ | ⟨h, k⟩ | ⟨h, k⟩
 ·rw [h, ok_ok k hok]
  simp only [List.map_map]
  congr 2
  exact (List.map_congr_left (fun x _ => toS_toD x)).trans (List.map_id l)
 ·exact (ok_bad hok k).elim
 exact (ok_big hok k).elim
theorem fns_at (f0 : List Int) (hb : qB5 f0) (vars : List S69) (ma : Int) : ∀ (fs acc : List S77) (p : Int) (r : List Int), (∀ x ∈ fs, FOk x) → acc.length + fs.length ≤ 70000 → At f0 p (fs.flatMap fnBI ++ r) →
  ∃ q, At f0 q r ∧ ∀ R, Ev (fun k => qAc.j4 k f0 0 false f0 q 0 vars (acc ++ fs) ma) R → Ev (fun k => qAc.l1 k f0 (fs.length : Int) f0 p 0 vars acc ma) R := by
 intro fs
 induction fs with
 | nil =>
  intro acc p r hv hl h
  refine ⟨p, h, fun R hR => Ev.step (fun k => ?_) hR⟩
  simp only [qAc.l1]
  rw [if_neg (by simp)]
  simp
 | cons x fs ih =>
  intro acc p r hv hl h
  rw [List.length_cons] at hl
  have hx := hv x List.mem_cons_self
  have hkr := hx.kr
  have := hx.n.p; have := hx.n.l; have := hx.n.c
  have e1 := encB_len (x.f2.map toD)
  rw [List.length_map] at e1
  rw [List.flatMap_cons, List.append_assoc] at h
  obtain ⟨rr, hrr⟩ : ∃ rr, rr = fs.flatMap fnBI ++ r := ⟨_, rfl⟩
  rw [← hrr] at h
  have h' : At f0 p ([(x.f0.f0.length : Int) % 256] ++ byB x.f0.f0 ++ (x.f0.f1 :: ([(x.f1.length : Int) % 256] ++ byB x.f1 ++ (rawB (encB (x.f2.map toD)) ++ rr)))) := by
   unfold fnBI at h
   rw [show x.f0.f1 % 256 = x.f0.f1 from by omega] at h
   simpa only [List.append_assoc, List.singleton_append, List.cons_append, List.nil_append] using h
  obtain ⟨g1, h1⟩ := read_at (by omega) hx.kp h'
  obtain ⟨g2, h2⟩ := qCC h1
  obtain ⟨g3, h3⟩ := read_at (by omega) hx.kl h2
  obtain ⟨g4, h4⟩ := raw_at h3 (by omega)
  rw [hrr] at h4
  have hbe : qB5 (encB (x.f2.map toD)) := fun y hy => hb y (by
    have hm : y ∈ f0.drop (p + 1 + (x.f0.f0.length : Int) + 1 + 1 + (x.f1.length : Int)).toNat := by
      rw [h3.2.2]
      unfold rawB
      simp [hy]
    exact List.mem_of_mem_drop hm)
  have g5 := dec_at x.f2 hx.n.c hx.c hbe
  obtain ⟨q, hq, hk⟩ := ih (acc ++ [x]) _ r (fun z hz => hv z (List.mem_cons_of_mem _ hz)) (by simp; omega) h4
  rw [List.append_assoc, List.singleton_append] at hk
  refine ⟨q, hq, fun R hR => Ev.step (f := fun k => qAc.j4 k f0 ((x :: fs).length : Int) true f0 p 0 vars acc ma) (fun k => ?_) (Ev.step (fun k => by simp only [qAc.j4]; rw [if_pos trivial]) (Ev.bind g1 ?_))⟩
  ·simp only [qAc.l1, qA7.f, Option.bind_some]
   rw [if_pos (by rw [List.length_cons]; omega)]; rfl
  simp only [g2, Option.bind_some]
  refine Ev.bind g3 ?_
  simp only [g4, g5, Option.bind_some, if_true, show acc.length < 1759218604441 from by omega, List.length_cons, show wrap64 (((fs.length + 1 : Nat) : Int) - 1) = fs.length from by unfold wrap64; omega, show wrap64 x.f0.f1 = x.f0.f1 from by unfold wrap64; omega]
  exact hk R hR
theorem unpack_written (vars : List S69) (fns : List S77) (main : Int) (hb : qB5 (qC9 vars fns main)) (hl : (qC9 vars fns main).length ≤ 65536) (hr : qAV vars fns main = 0) (hv : ∀ x ∈ vars, VOk x) (hf : ∀ x ∈ fns, FOk x) :
  Ev (fun k => qAc.f k (qC9 vars fns main)) (vars, fns, main, 0) := by
 have H := ImgR.of hr
 have := H.v; have := H.f; have := H.m0; have := H.m1
 have hvu : vars.all u64V = true := List.all_eq_true.2 fun x hx => decide_eq_true (hv x hx).b
 have hfu : fns.all fnSz = true := List.all_eq_true.2 fun x hx => by
  have h := hf x hx
  have := h.n.p; have := h.n.l; have := h.n.c
  unfold fnSz
  simp only [Bool.and_eq_true, decide_eq_true_eq, List.all_eq_true]
  exact ⟨⟨⟨by omega, by omega⟩, by omega⟩, fun y hy => (h.c y hy).2⟩
 have hP : qAA.f vars fns main = some (qC9 vars fns main, 0) := by
  unfold qAA.f
  rw [if_pos (by simp only [hvu, hfu, Bool.true_and, Bool.and_eq_true, decide_eq_true_eq]; omega), if_pos hr, if_neg (by omega)]
 obtain ⟨f0, hf0⟩ : ∃ f0, f0 = qC9 vars fns main := ⟨_, rfl⟩
 rw [← hf0] at hb hl hP ⊢
 have h0 : At f0 0 ([102, 105, 109, 103] ++ (be vars.length 4 4 ++ (vars.flatMap Q.valB ++ (be fns.length 4 4 ++ (fns.flatMap fnBI ++ (be main 4 4 ++ be (sumS (qDy vars fns main)) 4 4)))))) := by
  have e : f0 = [102, 105, 109, 103] ++ (be vars.length 4 4 ++ (vars.flatMap Q.valB ++ (be fns.length 4 4 ++ (fns.flatMap fnBI ++ (be main 4 4 ++ be (sumS (qDy vars fns main)) 4 4))))) := by
   rw [hf0]
   unfold qC9
   obtain ⟨q, hq⟩ : ∃ q, q = sumS (qDy vars fns main) := ⟨_, rfl⟩
   rw [← hq]
   unfold qDy
   simp only [List.append_assoc]
  exact ⟨Int.le_refl _, by rw [← e]; omega, by rw [← e]; rfl⟩
 obtain ⟨b1, h1⟩ := qCC (r := 105 :: 109 :: 103 :: _) h0
 obtain ⟨b2, h2⟩ := qCC h1
 obtain ⟨b3, h3⟩ := qCC h2
 obtain ⟨b4, h4⟩ := qCC h3
 obtain ⟨g5, h5⟩ := qCE h4 (by omega) (by omega)
 obtain ⟨q, hq, hk⟩ := vars_at f0 0 vars [] _ _ hv (by simp; omega) h5
 obtain ⟨g6, h6⟩ := qCE hq (by omega) (by omega)
 obtain ⟨q2, hq2, hk2⟩ := fns_at f0 hb vars 0 fns [] _ _ hf (by simp; omega) h6
 obtain ⟨g7, h7⟩ := qCE hq2 (by omega) (by omega)
 rw [List.nil_append] at hk hk2
 have heq := equal_self f0 (by omega)
 have hend : Ev (fun k => qAc.j4 k f0 0 false f0 q2 0 vars fns 0) (vars, fns, main, 0) := by
  refine Ev.step (f := fun k => (qAj.f k f0 f0).bind fun t => if t = true then some (vars, fns, main, 0) else some no53) (fun k => ?_) (Ev.bind heq (by simp only [if_true]; exact Ev.now _))
  simp only [qAc.j4]
  rw [if_neg (by decide), g7]
  simp only [Option.bind_some, qA7.f]
  rw [if_pos trivial, hP]
  simp only [Option.bind_some]
  rw [if_pos trivial]; rfl
 have hj0 : Ev (fun k => qAc.j0 k f0 f0 (0 + 1 + 1 + 1 + 1) 0) (vars, fns, main, 0) := by
  refine Ev.step (fun k => ?_) (hk _ (Ev.step (fun k => ?_) (hk2 _ hend)))
  ·simp only [qAc.j0]
   rw [g5]; rfl
  simp only [qAc.j2]
  rw [if_neg (by decide), g6]; rfl
 refine Ev.congr (fun k => ?_) hj0
 unfold qAc.f
 rw [if_neg (by omega), show qCb.f f0 = some (f0, 0, 0) from if_pos (by omega)]
 simp only [Option.bind_some, b1, b2, b3, b4, qBl.f]
 rw [if_neg (by decide)]
end ImP
end Q
end
section
namespace Q
open Go.RowKit YA YC YB
attribute [local go_sem] qAS min2_int qBa min_two max_three min_three max_four min_four
def qCU.f (k : Nat)  : Option (Bool) := (some (([(⟨(⟨([] : List Int), 1⟩ : S74), ([] : List Int), (([(⟨1, 0, (⟨1, 5⟩ : S69)⟩ : S115), (⟨11, 0, (⟨0, 0⟩ : S69)⟩ : S115)] : List (S115)))⟩ : S77)] : List (S77)) : List (S77))).bind fun aE => ((qAA.f ([] : List (S69)) aE 0).bind fun aF => ((qAc.f k aF.1).bind fun aJ => (if aF.2 = 0 then (if aJ.2.2.2 = 0 then (if (aF.1.length : Int) = 38 then (if 4 ≤ (aF.1.length : Int) then (if (strOfNums (aF.1.take 4)).toList = ([102, 105, 109, 103] : List UInt8) then (if (aJ.2.1.length : Int) = 1 then ((qA9.f ([] : List (S69)) aE 1).bind fun aQ => (if aQ = 53 then ((qAE.f k ([] : List Int)).bind fun aR => (some (aR == 2166136261))) else (some false))) else (some false)) else (some false)) else (none)) else (some false)) else (some false)) else (some false))))
theorem qCU.mono : ∀ k, LeO (qCU.f k ) (qCU.f (k + 1) ) := by
 intro  k
 unfold qCU.f
 repeat' first | (with_reducible exact qAE.mono _ _) | (with_reducible exact qAc.mono _ _) | (with_reducible exact LeO.refl _) | (with_reducible refine LeO.ite ?_ ?_) | (with_reducible refine LeO.bind ?_ (fun _ => ?_))
theorem qCU.calls (k : Nat)  (r : Bool) (w : World) (h : qCU.f k  = some r) (hr : r = true) :
  Calls Try.prog 14 #[] w fun e w' => e = .returned (.bool r) ∧ Below w.heap.size w w' := by
 have HB := am (Below.refl w.heap.size w)
 have H : ((some (([(⟨(⟨([] : List Int), 1⟩ : S74), ([] : List Int), (([(⟨1, 0, (⟨1, 5⟩ : S69)⟩ : S115), (⟨11, 0, (⟨0, 0⟩ : S69)⟩ : S115)] : List (S115)))⟩ : S77)] : List (S77)) : List (S77))).bind fun aE => ((qAA.f ([] : List (S69)) aE 0).bind fun aF => ((qAc.f k aF.1).bind fun aJ => (if aF.2 = 0 then (if aJ.2.2.2 = 0 then (if (aF.1.length : Int) = 38 then (if 4 ≤ (aF.1.length : Int) then (if (strOfNums (aF.1.take 4)).toList = ([102, 105, 109, 103] : List UInt8) then (if (aJ.2.1.length : Int) = 1 then ((qA9.f ([] : List (S69)) aE 1).bind fun aQ => (if aQ = 53 then ((qAE.f k ([] : List Int)).bind fun aR => (some (aR == 2166136261))) else (some false))) else (some false)) else (some false)) else (none)) else (some false)) else (some false)) else (some false))))) = some r := h
 clear h
 obtain ⟨a0, a8⟩ : ∃ y_ : List (S115), y_ = (([(⟨1, 0, (⟨1, 5⟩ : S69)⟩ : S115), (⟨11, 0, (⟨0, 0⟩ : S69)⟩ : S115)] : List (S115))) := ⟨_, rfl⟩
 replace H : ((some (([(⟨(⟨([] : List Int), 1⟩ : S74), ([] : List Int), a0⟩ : S77)] : List (S77)) : List (S77))).bind fun aE => ((qAA.f ([] : List (S69)) aE 0).bind fun aF => ((qAc.f k aF.1).bind fun aJ => (if aF.2 = 0 then (if aJ.2.2.2 = 0 then (if (aF.1.length : Int) = 38 then (if 4 ≤ (aF.1.length : Int) then (if (strOfNums (aF.1.take 4)).toList = ([102, 105, 109, 103] : List UInt8) then (if (aJ.2.1.length : Int) = 1 then ((qA9.f ([] : List (S69)) aE 1).bind fun aQ => (if aQ = 53 then ((qAE.f k ([] : List Int)).bind fun aR => (some (aR == 2166136261))) else (some false))) else (some false)) else (some false)) else (none)) else (some false)) else (some false)) else (some false))))) = some r := by (rw [a8]; with_reducible exact H)
 have ak := am a8
 clear a8
 obtain ⟨aE, a9⟩ : ∃ y_ : List (S77), y_ = (([(⟨(⟨([] : List Int), 1⟩ : S74), ([] : List Int), a0⟩ : S77)] : List (S77))) := ⟨_, rfl⟩
 replace H : ((qAA.f ([] : List (S69)) aE 0).bind fun aF => ((qAc.f k aF.1).bind fun aJ => (if aF.2 = 0 then (if aJ.2.2.2 = 0 then (if (aF.1.length : Int) = 38 then (if 4 ≤ (aF.1.length : Int) then (if (strOfNums (aF.1.take 4)).toList = ([102, 105, 109, 103] : List UInt8) then (if (aJ.2.1.length : Int) = 1 then ((qA9.f ([] : List (S69)) aE 1).bind fun aQ => (if aQ = 53 then ((qAE.f k ([] : List Int)).bind fun aR => (some (aR == 2166136261))) else (some false))) else (some false)) else (some false)) else (none)) else (some false)) else (some false)) else (some false)))) = some r := by (have H2_ := (Option.bind_some _ _).symm.trans H; rw [a9]; with_reducible exact H2_)
 have al := am a9
 clear a9
 replace H := bm H
 obtain ⟨⟨aH, a5⟩, bR, H⟩ := H
 replace H : ((qAc.f k aH).bind fun aJ => (if a5 = 0 then (if aJ.2.2.2 = 0 then (if (aH.length : Int) = 38 then (if 4 ≤ (aH.length : Int) then (if (strOfNums (aH.take 4)).toList = ([102, 105, 109, 103] : List UInt8) then (if (aJ.2.1.length : Int) = 1 then ((qA9.f ([] : List (S69)) aE 1).bind fun aQ => (if aQ = 53 then ((qAE.f k ([] : List Int)).bind fun aR => (some (aR == 2166136261))) else (some false))) else (some false)) else (some false)) else (none)) else (some false)) else (some false)) else (some false))) = some r := H
 have A1 := am bR
 clear bR
 replace H := bm H
 obtain ⟨⟨aP, aN, aZ, ab⟩, bS, H⟩ := H
 replace H : (if a5 = 0 then (if ab = 0 then (if (aH.length : Int) = 38 then (if 4 ≤ (aH.length : Int) then (if (strOfNums (aH.take 4)).toList = ([102, 105, 109, 103] : List UInt8) then (if (aN.length : Int) = 1 then ((qA9.f ([] : List (S69)) aE 1).bind fun aQ => (if aQ = 53 then ((qAE.f k ([] : List Int)).bind fun aR => (some (aR == 2166136261))) else (some false))) else (some false)) else (some false)) else (none)) else (some false)) else (some false)) else (some false)) = some r := H
 have A2 := am bS
 clear bS
 by_cases c3 : a5 = 0
 ·rw [if_pos c3] at H
  have bX : (a5 == 0) = true := beq_iff_eq.mpr c3
  have bY : (a5 != 0) = false := bn c3
  clear c3
  by_cases c4 : ab = 0
  ·rw [if_pos c4] at H
   have bZ : (ab == 0) = true := beq_iff_eq.mpr c4
   have b0 : (ab != 0) = false := bn c4
   clear c4
   by_cases c5 : (aH.length : Int) = 38
   ·rw [if_pos c5] at H
    have b1 : ((aH.length : Int) == 38) = true := beq_iff_eq.mpr c5
    have b2 : ((aH.length : Int) != 38) = false := bn c5
    clear c5
    by_cases c6 : 4 ≤ (aH.length : Int)
    ·rw [if_pos c6] at H
     replace c6 := d1 c6
     obtain ⟨a1, aa⟩ : ∃ y_ : List Int, y_ = (aH.take 4) := ⟨_, rfl⟩
     replace H : (if (strOfNums a1).toList = ([102, 105, 109, 103] : List UInt8) then (if (aN.length : Int) = 1 then ((qA9.f ([] : List (S69)) aE 1).bind fun aQ => (if aQ = 53 then ((qAE.f k ([] : List Int)).bind fun aR => (some (aR == 2166136261))) else (some false))) else (some false)) else (some false)) = some r := by (rw [aa]; with_reducible exact H)
     have ae := am aa
     clear aa
     by_cases c7 : (strOfNums a1).toList = ([102, 105, 109, 103] : List UInt8)
     ·rw [if_pos c7] at H
      have b4 : ((strOfNums a1).toList == ([102, 105, 109, 103] : List UInt8)) = true := beq_iff_eq.mpr c7
      have b5 : ((strOfNums a1).toList != ([102, 105, 109, 103] : List UInt8)) = false := bn c7
      clear c7
      by_cases c8 : (aN.length : Int) = 1
      ·rw [if_pos c8] at H
       have b6 : ((aN.length : Int) == 1) = true := beq_iff_eq.mpr c8
       clear c8
       replace H := bm H
       obtain ⟨aQ, bT, H⟩ := H
       replace H : (if aQ = 53 then ((qAE.f k ([] : List Int)).bind fun aR => (some (aR == 2166136261))) else (some false)) = some r := H
       have A9 := am bT
       clear bT
       by_cases c10 : aQ = 53
       ·rw [if_pos c10] at H
        have bU : (aQ == 53) = true := beq_iff_eq.mpr c10
        clear c10
        replace H := bm H
        obtain ⟨aR, ah, H⟩ := H
        replace H : (some (aR == 2166136261)) = some r := H
        have bW := am ah
        clear ah
        obtain rfl := Option.some.inj H
        go_enter Try.func14, Try.ntmps14
        go_wp2_with (first | ((with_reducible refine qAC (N := 10) rfl ?_); (try (refine qCP (by rfl) ?_; dsimp only)); refine Kd.R_lit k115 _ 115 ?hg (N := 10) ?hd (xs := ([(⟨1, 0, (⟨1, 5⟩ : S69)⟩ : S115), (⟨11, 0, (⟨0, 0⟩ : S69)⟩ : S115)] : List (S115))) (inner := [.int .i64 1, .int .i64 0, .int .i64 1, .int .u64 5, .int .i64 11, .int .i64 0, .int .i64 0, .int .u64 0]) (ok := fun _ => True) (okp := fun _ => True) ?hr ?hp (fun _ hk => hk) trivial (Below.refl _ _) (Nat.le_refl _) (by simp) ?_; (case hd => rfl); (case hg => rfl); (case hr => (go_simp; done)); (case hp => exact (Reps.c4 (show Kd.M k115 _ _ _ (⟨1, 0, (⟨1, 5⟩ : S69)⟩ : S115) [.int .i64 1, .int .i64 0, .int .i64 1, .int .u64 5] from (qDS _ _ _ (⟨1, 0, (⟨1, 5⟩ : S69)⟩ : S115) )) (Reps.c4 (show Kd.M k115 _ _ _ (⟨11, 0, (⟨0, 0⟩ : S69)⟩ : S115) [.int .i64 11, .int .i64 0, .int .i64 0, .int .u64 0] from (qDS _ _ _ (⟨11, 0, (⟨0, 0⟩ : S69)⟩ : S115) )) (Reps.none _ _)))); intro b8 bc ho13 hb hg_ hnew_; clear hg_ hnew_; ((rw [← ak.o] at ho13)); have n0_ := am (Kd.R_lower ho13 (qAf (by repeat ((with_reducible (exact HB.o)))))); have n1_ := am (qAk (by repeat ((with_reducible (exact HB.o)))) hb); clear HB; have a3 := n0_; have HB := n1_; clear n0_ n1_; clear hb ho13; obtain ⟨ai, an, bK⟩ := Kd.R_slice a3.o; subst bK) | ((with_reducible refine qAC (N := 12) rfl ?_); (try (refine qCP (by rfl) ?_; dsimp only)); refine Kd.N_lit k77 _ 77 ?hg (N' := 12) ?hd (xs := ([(⟨(⟨([] : List Int), 1⟩ : S74), ([] : List Int), a0⟩ : S77)] : List (S77))) (inner := [.slice none 0 0, .int .i64 1, .slice none 0 0, .slice ai a0.length an]) (ok := (fun _ => True)) (okp := (fun _ => True)) ?hr ?hp (fun _ hk => hk) ((show ∀ k_, bc.heap.size ≤ k_ → (fun _ => True) k_ from fun k_ hk => trivial) _ (Nat.le_refl _)) (Below.refl _ _) (Nat.le_refl _) (by simp) ?_; (case hd => rfl); (case hg => rfl); (case hr => (go_simp; done)); (case hp => exact (Reps.c4 (show Kd.FK k77 _ _ (⟨(⟨([] : List Int), 1⟩ : S74), ([] : List Int), a0⟩ : S77) [.slice none 0 0, .int .i64 1, .slice none 0 0, .slice ai a0.length an] from (k77_mkF _ _ (⟨(⟨([] : List Int), 1⟩ : S74), ([] : List Int), a0⟩ : S77) (Nat.le_refl _) (Kd.F_nil _ _ _) (Nat.le_refl _) (Kd.F_nil _ _ _) (Kd.R_reads' (Kd.R_mono (ok' := (fun _ => True)) (a3.o) (fun k_ hk => trivial))).2.1 (Kd.R_F (Kd.R_mono (ok' := (fun _ => True)) (a3.o) (fun k_ hk => trivial))))) (Reps.none _ _))); intro b9 bg ho16 hb hg_ hnew_; clear hg_ hnew_; ((rw [← al.o] at ho16)); have n0_ := am (Kd.N_lower ho16 (qAf (by repeat ((with_reducible (exact HB.o)))))); have n1_ := am (qAk (by repeat ((with_reducible (exact HB.o)))) hb); clear HB; clear a3; have aD := n0_; have HB := n1_; clear n0_ n1_; clear hb ho16; obtain ⟨aO, aM, bL⟩ := Kd.N_slice aD.o; subst bL) | ((with_reducible refine qAC (N := 1) rfl ?_); (try (refine qCP (by rfl) ?_; dsimp only)); refine bx 1 #[.slice none 0 0, .slice none 0 0, .int .i64 0] 47 ?_; intro aA hg bd hbox hb; have n0_ := am (Kd.N_below (Kd.N_elderB (by (with_reducible repeat (fail)); exact aD.o) aA (Nat.le_of_eq hg.symm)) hb); have n1_ := am (qAk (by repeat ((with_reducible (exact HB.o)))) hb); have n2_ := am (hbox); have n3_ := am ((by rw [hg]; exact (qAf (by repeat ((with_reducible (exact HB.o))))) : w.heap.size ≤ aA)); have n4_ := am ((by rw [hg]; exact (qAf (by repeat ((with_reducible (exact HB.o))))) : w.heap.size ≤ aA)); clear aD; clear HB; have aD := n0_; have HB := n1_; have aC := n2_; have a6 := n4_; clear n0_ n1_ n2_ n3_ n4_; clear hb hbox hg; obtain ⟨ap, aq, ar⟩ := c3_ bd aC.o; obtain ⟨bC, bD, bE⟩ := z3_ aC.o) | ((with_reducible refine qAy (f := 16) rfl ?_); refine gL 16 Try.func16 #[.agg #[.slice none 0 0, .slice aO aE.length aM, .int .i64 0]] ?_; (refine (qAA.calls _ _ ([] : List (S69)) _ _ aE 0 aH a5 _ ?side1 ?side2 ?side3 ?side4 A1.o).mono ?_); (case side1 => exact Kd.C_nil _ _); (case side2 => exact Nat.le_refl _); (case side3 => refine (Kd.N_reads' (e := 77) (base := w.heap.size) (ok := fun k_ => (True ∧ k_ ≠ aA)) (n := aE.length) (c := aM) ?_).2.2; exact (by (with_reducible repeat (fail)); exact (Kd.N_mono (Kd.N_far (p := ⟨aA, 2, none⟩) (Kd.N_far (p := ⟨aA, 1, none⟩) (Kd.N_far (p := ⟨aA, 0, none⟩) (Kd.N_mono aD.o (fun k_ hk => (⟨hk, hk.2⟩ : _ ∧ k_ ≠ aA))) (fun _ hk => hk.2) (.slice none 0 0)) (fun _ hk => hk.2) (.slice aO aE.length aM)) (fun _ hk => hk.2) (.int .i64 0)) (fun _ h_ => h_.1)))); (case side4 => exact (Kd.N_reads' aD.o).2.1); rintro e bh ⟨ba, rfl, ag, hb⟩; refine ⟨_, rfl, ?_⟩; have n0_ := am (Kd.N_elder' (by (with_reducible repeat (fail)); exact (Kd.N_mono (Kd.N_far (p := ⟨aA, 2, none⟩) (Kd.N_far (p := ⟨aA, 1, none⟩) (Kd.N_far (p := ⟨aA, 0, none⟩) (Kd.N_mono aD.o (fun k_ hk => (⟨hk, hk.2⟩ : _ ∧ k_ ≠ aA))) (fun _ hk => hk.2) (.slice none 0 0)) (fun _ hk => hk.2) (.slice aO aE.length aM)) (fun _ hk => hk.2) (.int .i64 0)) (fun _ h_ => h_.1))) (Kd.R_base ag) hb); have n1_ := am (Kd.R_lower ag (qAf (by repeat ((with_reducible first | exact HB.o | refine qAs ?_ a6.o))))); have n2_ := am (qAe (g := aA) (o := .cells #[.slice none 0 0, .slice aO aE.length aM, .int .i64 0] 47 (0, 0)) (by (with_reducible repeat (fail)); refine qAx (cs := #[.slice none 0 0, .slice aO aE.length aM, .int .i64 0]) ?_ 2 _ rfl; (with_reducible repeat (fail)); refine qAx (cs := #[.slice none 0 0, .slice none 0 0, .int .i64 0]) ?_ 1 _ rfl; (with_reducible repeat (fail)); refine qAx (cs := #[.slice none 0 0, .slice none 0 0, .int .i64 0]) ?_ 0 _ rfl; (with_reducible repeat (fail)); exact aC.o) hb); have n3_ := am (qAk (by repeat ((with_reducible first | exact HB.o | refine qAs ?_ a6.o))) hb); clear aD; clear aC; clear HB; have aD := n0_; have aG := n1_; have aC := n2_; have HB := n3_; clear n0_ n1_ n2_ n3_; (skip); (skip); (skip); obtain ⟨aY, aX, bM⟩ := Kd.R_slice aG.o; subst bM) | ((with_reducible refine qAy (f := 13) rfl ?_); refine gL 21 Try.func13 #[.slice aY aH.length aX] ?_; (with_reducible refine (qAc.calls k _ _ aH aP aN aZ ab _ ?side1 ?side2 A2.o).mono ?_); (case side1 => repeat ((exact (Kd.R_reads' aG.o).2.2))); (case side2 => exact (Kd.R_reads' aG.o).2.1); rintro e bi ⟨bQ, bb, rfl, ag, bP, hb⟩; refine ⟨_, rfl, ?_⟩; have n0_ := am (Kd.N_mono (Kd.N_told (Kd.N_told (Kd.N_old (by (with_reducible repeat (fail)); exact aD.o) hb) (Kd.R_base ag)) (Kd.N_base (Kd.S_N bP))) (fun _ h_ => h_.1)); have n1_ := am (Kd.R_below (by (with_reducible repeat (fail)); exact aG.o) hb); have n2_ := am (Kd.R_lower ag (qAf (by repeat ((with_reducible (exact HB.o)))))); have n3_ := am (Kd.N_lower (Kd.N_mono (ok' := fun k_ => some k_ ≠ (bQ : Value).ownBlock ∧ some k_ ≠ (.slice aO aE.length aM : Value).ownBlock ∧ some k_ ≠ (.slice aY aH.length aX : Value).ownBlock ∧ k_ ≠ aA) (Kd.S_N (Kd.S_bound (Kd.S_apart' bP (Kd.R_typed ag) (by decide)))) (fun k_ hk_ => ⟨hk_.1.2, (Kd.fresh' (Kd.N_lt (by (with_reducible repeat (fail)); exact aD.o)) k_ hk_.2.1), (Kd.fresh' (Kd.R_lt (by (with_reducible repeat (fail)); exact aG.o)) k_ hk_.2.1), (Kd.freshB (g := aA) (o := .cells #[.slice none 0 0, .slice aO aE.length aM, .int .i64 0] 47 (0, 0)) (by (with_reducible repeat (fail)); exact aC.o) k_ hk_.2.1)⟩)) (qAf (by repeat ((with_reducible (exact HB.o)))))); have n4_ := am (qAe (g := aA) (o := .cells #[.slice none 0 0, .slice aO aE.length aM, .int .i64 0] 47 (0, 0)) (by (with_reducible repeat (fail)); exact aC.o) hb); have n5_ := am (qAk (by repeat ((with_reducible (exact HB.o)))) hb); clear aD; clear aG; clear aC; clear HB; have aD := n0_; have aG := n1_; have aK := n2_; have aL := n3_; have aC := n4_; have HB := n5_; clear n0_ n1_ n2_ n3_ n4_ n5_; (skip); (skip); (skip)) | ((with_reducible refine qAC (N := 4) rfl ?_); (try (refine qCP (by rfl) ?_; dsimp only)); refine bx 4 #[.slice none 0 0, .slice none 0 0, .int .i64 0] 47 ?_; intro aB hg bV hbox hb; have n0_ := am (Kd.N_below (Kd.N_elderB (by (with_reducible repeat (fail)); exact aD.o) aB (Nat.le_of_eq hg.symm)) hb); have n1_ := am (Kd.R_below (by (with_reducible repeat (fail)); exact aG.o) hb); have n2_ := am (Kd.R_below (by (with_reducible repeat (fail)); exact aK.o) hb); have n3_ := am (Kd.N_below (Kd.N_elderB (by (with_reducible repeat (fail)); exact aL.o) aB (Nat.le_of_eq hg.symm)) hb); have n4_ := am (qAe (g := aA) (o := .cells #[.slice none 0 0, .slice aO aE.length aM, .int .i64 0] 47 (0, 0)) (by (with_reducible repeat (fail)); exact aC.o) hb); have n5_ := am (qAk (by repeat ((with_reducible (exact HB.o)))) hb); have n6_ := am (hbox); have n7_ := am ((by rw [hg]; exact (qAf (by repeat ((with_reducible (exact HB.o))))) : w.heap.size ≤ aB)); have n8_ := am ((by rw [hg]; exact (qAf (by repeat ((with_reducible (exact HB.o))))) : w.heap.size ≤ aB)); have n9_ := am ((by rw [hg]; exact Nat.ne_of_lt (qAt (g := aA) (o := .cells #[.slice none 0 0, .slice aO aE.length aM, .int .i64 0] 47 (0, 0)) (by (with_reducible repeat (fail)); exact aC.o)) : aA ≠ aB)); have n10_ := am ((by rw [hg]; exact Nat.ne_of_gt (qAt (g := aA) (o := .cells #[.slice none 0 0, .slice aO aE.length aM, .int .i64 0] 47 (0, 0)) (by (with_reducible repeat (fail)); exact aC.o)) : aB ≠ aA)); clear aD; clear aG; clear aK; clear aL; clear aC; clear HB; have aD := n0_; have aG := n1_; have aK := n2_; have aL := n3_; have aC := n4_; have HB := n5_; have aI := n6_; have aj := n8_; have aV := n9_; have a4 := n10_; clear n0_ n1_ n2_ n3_ n4_ n5_ n6_ n7_ n8_ n9_ n10_; clear hb hbox hg; obtain ⟨aS, aT, bN⟩ := Kd.R_slice aK.o; subst bN; obtain ⟨au, av, aw⟩ := c3_ bV aI.o; obtain ⟨bF, bG, bH⟩ := z3_ aI.o; obtain ⟨aU, aW, bO⟩ := Kd.N_slice aL.o; subst bO) | ((with_reducible refine qCQ (t := 47) (p := 4) rfl ?_); refine qC5 (t := 47) (p := 4) (v := ?vo_w28) (w1 := (((bV.setCell ⟨aB, 0, none⟩ (.slice aS aP.length aT)).setCell ⟨aB, 1, none⟩ (.slice aU aN.length aW)).setCell ⟨aB, 2, none⟩ (.int .i64 aZ))) ?hg ?ho ?hn ?hr ?_; (case ho => rfl); (case hg => rfl); (case hn => rfl); (case hr => (go_simp; done)); intro ac hw; have n0_ : qAb (Kd.N k77 77 ac w.heap.size (fun k_ => some k_ ≠ (.slice aY aH.length aX : Value).ownBlock ∧ some k_ ≠ (.slice aS aP.length aT : Value).ownBlock ∧ some k_ ≠ (.slice aU aN.length aW : Value).ownBlock ∧ k_ ≠ aA ∧ k_ ≠ aB) (.slice aO aE.length aM) aE) := ⟨(by rw [hw]; exact (by (with_reducible repeat (fail)); exact Kd.N_mono (Kd.N_far (p := ⟨aB, 2, none⟩) (Kd.N_far (p := ⟨aB, 1, none⟩) (Kd.N_far (p := ⟨aB, 0, none⟩) (Kd.N_mono aD.o (fun k_ hk => (⟨hk, hk.2⟩ : _ ∧ k_ ≠ aB))) (fun _ hk => hk.2) (.slice aS aP.length aT)) (fun _ hk => hk.2) (.slice aU aN.length aW)) (fun _ hk => hk.2) (.int .i64 aZ)) (fun _ hk => ⟨hk.1.1.1.1.2, ⟨hk.1.1.1.2, ⟨hk.1.1.2, ⟨hk.1.1.1.1.1.2, hk.1.2⟩⟩⟩⟩)))⟩; have n1_ : qAb (Kd.R (Kd.int .u8) 5 ac w.heap.size (fun _ => True) (.slice aY aH.length aX) aH) := ⟨(by rw [hw]; exact (by (with_reducible repeat (fail)); exact Kd.R_mono (Kd.R_far (p := ⟨aB, 2, none⟩) (Kd.R_far (p := ⟨aB, 1, none⟩) (Kd.R_far (p := ⟨aB, 0, none⟩) (Kd.R_types aG.o aI.o (by decide)) (fun _ hk => hk.2) (.slice aS aP.length aT)) (fun _ hk => hk.2) (.slice aU aN.length aW)) (fun _ hk => hk.2) (.int .i64 aZ)) (fun _ hk => trivial)))⟩; have n2_ : qAb (Kd.R k69 69 ac w.heap.size (fun _ => True) (.slice aS aP.length aT) aP) := ⟨(by rw [hw]; exact (by (with_reducible repeat (fail)); exact Kd.R_mono (Kd.R_far (p := ⟨aB, 2, none⟩) (Kd.R_far (p := ⟨aB, 1, none⟩) (Kd.R_far (p := ⟨aB, 0, none⟩) (Kd.R_types aK.o aI.o (by decide)) (fun _ hk => hk.2) (.slice aS aP.length aT)) (fun _ hk => hk.2) (.slice aU aN.length aW)) (fun _ hk => hk.2) (.int .i64 aZ)) (fun _ hk => trivial)))⟩; have n3_ : qAb (Kd.N k77 77 ac w.heap.size (fun k_ => some k_ ≠ (.slice aO aE.length aM : Value).ownBlock ∧ some k_ ≠ (.slice aY aH.length aX : Value).ownBlock ∧ some k_ ≠ (.slice aS aP.length aT : Value).ownBlock ∧ k_ ≠ aA ∧ k_ ≠ aB) (.slice aU aN.length aW) aN) := ⟨(by rw [hw]; exact (by (with_reducible repeat (fail)); exact Kd.N_mono (Kd.N_far (p := ⟨aB, 2, none⟩) (Kd.N_far (p := ⟨aB, 1, none⟩) (Kd.N_far (p := ⟨aB, 0, none⟩) (Kd.N_mono aL.o (fun k_ hk => (⟨hk, hk.2⟩ : _ ∧ k_ ≠ aB))) (fun _ hk => hk.2) (.slice aS aP.length aT)) (fun _ hk => hk.2) (.slice aU aN.length aW)) (fun _ hk => hk.2) (.int .i64 aZ)) (fun _ hk => ⟨hk.1.1.2.1, ⟨hk.1.1.2.2.1, ⟨hk.1.1.1, ⟨hk.1.1.2.2.2, hk.1.2⟩⟩⟩⟩)))⟩; have n4_ : qAb (ac.heap[aA]? = some (.cells #[.slice none 0 0, .slice aO aE.length aM, .int .i64 0] 47 (0, 0))) := ⟨(by rw [hw]; exact (by (with_reducible repeat (fail)); refine qAu ?_ aV.o _; (with_reducible repeat (fail)); refine qAu ?_ aV.o _; (with_reducible repeat (fail)); refine qAu ?_ aV.o _; (with_reducible repeat (fail)); exact aC.o))⟩; have n5_ : qAb (ac.heap[aB]? = some (.cells #[.slice aS aP.length aT, .slice aU aN.length aW, .int .i64 aZ] 47 (0, 0))) := ⟨(by rw [hw]; exact (by (with_reducible repeat (fail)); refine qAx (cs := #[.slice aS aP.length aT, .slice aU aN.length aW, .int .i64 0]) ?_ 2 _ rfl; (with_reducible repeat (fail)); refine qAx (cs := #[.slice aS aP.length aT, .slice none 0 0, .int .i64 0]) ?_ 1 _ rfl; (with_reducible repeat (fail)); refine qAx (cs := #[.slice none 0 0, .slice none 0 0, .int .i64 0]) ?_ 0 _ rfl; (with_reducible repeat (fail)); exact aI.o))⟩; have n6_ : qAb (Below w.heap.size w ac) := ⟨(by rw [hw]; exact (by repeat ((with_reducible first | exact HB.o | refine qAs ?_ aj.o))))⟩; clear hw; clear aD; clear aG; clear aK; clear aL; clear aC; clear aI; clear HB; have aD := n0_; have aG := n1_; have aK := n2_; have aL := n3_; have aC := n4_; have aI := n5_; have HB := n6_; clear n0_ n1_ n2_ n3_ n4_ n5_ n6_; obtain ⟨-, -, ax⟩ := c3_ ac aC.o; have bI := qAg aC.o 2) | ((with_reducible refine qCQ (t := 3) (p := 24) rfl ?_); refine qC5 (t := 3) (p := 24) (v := ?vo_w30) (w1 := (ac.setCell ⟨aA, 2, none⟩ (.int .i64 1))) ?hg ?ho ?hn ?hr ?_; (case ho => rfl); (case hg => rfl); (case hn => rfl); (case hr => (go_simp; done)); intro ad hw; have n0_ : qAb (Kd.N k77 77 ad w.heap.size (fun k_ => some k_ ≠ (.slice aY aH.length aX : Value).ownBlock ∧ some k_ ≠ (.slice aS aP.length aT : Value).ownBlock ∧ some k_ ≠ (.slice aU aN.length aW : Value).ownBlock ∧ k_ ≠ aA ∧ k_ ≠ aB) (.slice aO aE.length aM) aE) := ⟨(by rw [hw]; exact (by (with_reducible repeat (fail)); exact Kd.N_mono (Kd.N_far (p := ⟨aA, 2, none⟩) (Kd.N_mono aD.o (fun k_ hk => (⟨hk, hk.2.2.2.1⟩ : _ ∧ k_ ≠ aA))) (fun _ hk => hk.2) (.int .i64 1)) (fun _ hk => ⟨hk.1.1, ⟨hk.1.2.1, ⟨hk.1.2.2.1, ⟨hk.1.2.2.2.1, hk.1.2.2.2.2⟩⟩⟩⟩)))⟩; have n1_ : qAb (Kd.R (Kd.int .u8) 5 ad w.heap.size (fun _ => True) (.slice aY aH.length aX) aH) := ⟨(by rw [hw]; exact (by (with_reducible repeat (fail)); exact Kd.R_mono (Kd.R_far (p := ⟨aA, 2, none⟩) (Kd.R_types aG.o aC.o (by decide)) (fun _ hk => hk.2) (.int .i64 1)) (fun _ hk => trivial)))⟩; have n2_ : qAb (Kd.R k69 69 ad w.heap.size (fun _ => True) (.slice aS aP.length aT) aP) := ⟨(by rw [hw]; exact (by (with_reducible repeat (fail)); exact Kd.R_mono (Kd.R_far (p := ⟨aA, 2, none⟩) (Kd.R_types aK.o aC.o (by decide)) (fun _ hk => hk.2) (.int .i64 1)) (fun _ hk => trivial)))⟩; have n3_ : qAb (Kd.N k77 77 ad w.heap.size (fun k_ => some k_ ≠ (.slice aO aE.length aM : Value).ownBlock ∧ some k_ ≠ (.slice aY aH.length aX : Value).ownBlock ∧ some k_ ≠ (.slice aS aP.length aT : Value).ownBlock ∧ k_ ≠ aA ∧ k_ ≠ aB) (.slice aU aN.length aW) aN) := ⟨(by rw [hw]; exact (by (with_reducible repeat (fail)); exact Kd.N_mono (Kd.N_far (p := ⟨aA, 2, none⟩) (Kd.N_mono aL.o (fun k_ hk => (⟨hk, hk.2.2.2.1⟩ : _ ∧ k_ ≠ aA))) (fun _ hk => hk.2) (.int .i64 1)) (fun _ hk => ⟨hk.1.1, ⟨hk.1.2.1, ⟨hk.1.2.2.1, ⟨hk.1.2.2.2.1, hk.1.2.2.2.2⟩⟩⟩⟩)))⟩; have n4_ : qAb (ad.heap[aA]? = some (.cells #[.slice none 0 0, .slice aO aE.length aM, .int .i64 1] 47 (0, 0))) := ⟨(by rw [hw]; exact (by (with_reducible repeat (fail)); refine qAx (cs := #[.slice none 0 0, .slice aO aE.length aM, .int .i64 0]) ?_ 2 _ rfl; (with_reducible repeat (fail)); exact aC.o))⟩; have n5_ : qAb (ad.heap[aB]? = some (.cells #[.slice aS aP.length aT, .slice aU aN.length aW, .int .i64 aZ] 47 (0, 0))) := ⟨(by rw [hw]; exact (by (with_reducible repeat (fail)); refine qAu ?_ a4.o _; (with_reducible repeat (fail)); exact aI.o))⟩; have n6_ : qAb (Below w.heap.size w ad) := ⟨(by rw [hw]; exact (by repeat ((with_reducible first | exact HB.o | refine qAs ?_ a6.o))))⟩; clear hw; clear aD; clear aG; clear aK; clear aL; clear aC; clear aI; clear HB; have aD := n0_; have aG := n1_; have aK := n2_; have aL := n3_; have aC := n4_; have aI := n5_; have HB := n6_; clear n0_ n1_ n2_ n3_ n4_ n5_ n6_; have b7 : (4 : Int) ≤ ((aH.length : Int) : Int) := of_decide_eq_true (by (with_reducible assumption)); obtain ⟨i031, af, _, hsz31, _⟩ := info_parts info5; have hroom31 : aH.length ≤ aX := (Kd.R_reads' aG.o).2.1; have hC31 : Kd.F (Kd.int .u8) _ _ aY aH.length aH := (Kd.V_at (base := w.heap.size) (Kd.R_V (Kd.R_types (Kd.R_types (Kd.R_apart' (Kd.R_apart' (Kd.R_apart' (aG.o) (Kd.N_typed aD.o) (by decide)) (Kd.R_typed aK.o) (by decide)) (Kd.N_typed aL.o) (by decide)) aC.o (by decide)) aI.o (by decide)))).2.2; have hcut31 := cut_to (P := Try.prog) 22 5 .i64 Try.underlying22 af aY aH.length aX 4 (by omega) b7 hroom31; have hr31 := Kd.F_take (m := 4) hC31 (by omega); have ao : a1.length = (4 : Int).toNat := (by rw [ae.o, List.length_take]; omega); rw [← ae.o] at hr31; rw [← ao] at hcut31; have a7 := am (show Kd.V (Kd.int .u8) 5 _ w.heap.size _ (.slice aY a1.length aX) a1 from Kd.V_mk (by omega) hr31); clear hr31 hC31 hroom31 af hsz31; clear ao; have hcv32 := Kd.C_string (P := Try.prog) (c := aX) Try.underlying22 Try.underlying5 Try.underlying9 (Kd.F_now (Kd.V_at a7.o).2.2); obtain ⟨-, ay⟩ := c2_ ad aI.o; obtain ⟨az, bA, bB⟩ := c3_ ad aC.o; have bJ := qAg aC.o 2) | (go_at_call 17; (refine (qA9.calls _ _ ([] : List (S69)) _ _ aE 1 aQ _ ?side1 ?side2 ?side3 ?side4 A9.o).mono ?_); (case side1 => exact Kd.C_nil _ _); (case side2 => exact Nat.le_refl _); (case side3 => repeat ((exact (Kd.N_reads' aD.o).2.2))); (case side4 => exact (Kd.N_reads' aD.o).2.1); rintro e bj ⟨rfl, hb⟩; have n0_ := am (Kd.N_below (by (with_reducible repeat (fail)); exact aD.o) hb); have n1_ := am (Kd.R_below (by (with_reducible repeat (fail)); exact aG.o) hb); have n2_ := am (Kd.R_below (by (with_reducible repeat (fail)); exact aK.o) hb); have n3_ := am (Kd.N_below (by (with_reducible repeat (fail)); exact aL.o) hb); have n4_ := am (Kd.V_below (by (with_reducible repeat (fail)); exact a7.o) hb); have n5_ := am (qAe (g := aA) (o := .cells #[.slice none 0 0, .slice aO aE.length aM, .int .i64 1] 47 (0, 0)) (by (with_reducible repeat (fail)); exact aC.o) hb); have n6_ := am (qAe (g := aB) (o := .cells #[.slice aS aP.length aT, .slice aU aN.length aW, .int .i64 aZ] 47 (0, 0)) (by (with_reducible repeat (fail)); exact aI.o) hb); have n7_ := am (qAk (by repeat ((with_reducible (exact HB.o)))) hb); clear aD; clear aG; clear aK; clear aL; clear a7; clear aC; clear aI; clear HB; have HB := n7_; clear n0_ n1_ n2_ n3_ n4_ n5_ n6_ n7_; (skip); (skip); (skip)) | (go_at_call 53; (refine (qAE.calls k _ _ ([] : List Int) aR _ ?side1 ?side2 bW.o).mono ?_); (case side1 => exact Kd.C_nil _ _); (case side2 => exact Nat.le_refl _); rintro e w' ⟨rfl, ⟨nd, rfl⟩⟩))
        go_ret
        exact ⟨by (simp [*] <;> rfl), by repeat ((with_reducible first | exact HB.o | apply qAp))⟩
       ·rw [if_neg c10] at H
        subst hr
        exact absurd H (by simp)
      ·rw [if_neg c8] at H
       subst hr
       exact absurd H (by simp)
     ·rw [if_neg c7] at H
      subst hr
      exact absurd H (by simp)
    ·rw [if_neg c6] at H
     exact absurd H (by simp)
   ·rw [if_neg c5] at H
    subst hr
    exact absurd H (by simp)
  ·rw [if_neg c4] at H
   subst hr
   exact absurd H (by simp)
 ·rw [if_neg c3] at H
  subst hr
  exact absurd H (by simp)
def qAq.f (k : Nat) : Option Bool := if qCU.f k = some true then some true else none
theorem qAq.mono : ∀ k, LeO (qAq.f k) (qAq.f (k + 1)) := by
 intro k r h
 unfold qAq.f at h ⊢
 split at h
 ·rename_i h0
  rw [if_pos (qCU.mono k _ h0)]
  exact h
 cases h
theorem qAq.calls (k : Nat) (r : Bool) (w : World) (h : qAq.f k = some r) :
  Calls Try.prog 14 #[] w fun e w' => e = .returned (.bool r) ∧ Below w.heap.size w w' := by
 unfold qAq.f at h
 split at h
 ·rename_i h0
  obtain rfl := Option.some.inj h
  exact qCU.calls k _ w h0 rfl
 ·cases h
end Q
end
section
namespace Q
open Go.RowKit YA YC YB
open Val Ins DecLaw Wr Enc
namespace ImP
theorem alive0_ev : qCU.f 100 = some true := by decide +kernel
theorem alive_ev : Ev (fun k => qAq.f k) true := by
 refine Ev.of qAq.mono (k := 100) ?_
 unfold qAq.f
 rw [if_pos alive0_ev]
end ImP
end Q
end
section
namespace Q
open Go.RowKit YA YC YB
attribute [local go_sem] qAS min2_int qBa min_two max_three min_three max_four min_four
attribute [local go_sem high] eqA69
def qBd.l0 : Nat → List (S69) → List (S69) → Int → Int → Option (Bool)
 | 0, _, _, _, _ => none
 | k + 1, x0, x1, aW, aJ => if aJ < aW then (if 0 ≤ aJ then (if aJ < (x0.length : Int) then (if aJ < (x1.length : Int) then (if (!(((qBm x0 aJ).f0) == ((qBm x1 aJ).f0)) || (!(((qBm x0 aJ).f1) == ((qBm x1 aJ).f1)))) = true then (some false) else (qBd.l0 k x0 x1 aW (wrap64 (aJ + 1)))) else (none)) else (none)) else (none)) else (some true)
def qBd.f (k : Nat) (l0 : List (S69)) (l1 : List (S69)) : Option (Bool) := if (l0.length : Int) = (l1.length : Int) then (qBd.l0 k l0 l1 (l0.length : Int) 0) else (some false)
theorem qBd.calls (k : Nat) (A0 : Option Addr) (c0 : Nat) (l0 : List (S69)) (A1 : Option Addr) (c1 : Nat) (l1 : List (S69)) (r : Bool) (w : World) (hr0 : Kd.C k69 w A0 l0.length l0) (hc0 : l0.length ≤ c0) (hr1 : Kd.C k69 w A1 l1.length l1) (hc1 : l1.length ≤ c1) (h : qBd.f k l0 l1 = some r) :
  Calls Try.prog 63 #[.slice A0 l0.length c0, .slice A1 l1.length c1] w fun e w' => e = .returned (.bool r) ∧ qAB w w' := by
 have hu69 := Try.underlying69
 have aU := am hr0
 have a4 := am hc0
 clear hr0 hc0
 have aV := am hr1
 have a5 := am hc1
 clear hr1 hc1
 have H : (if (l0.length : Int) = (l1.length : Int) then (qBd.l0 k l0 l1 (l0.length : Int) 0) else (some false)) = some r := h
 clear h
 by_cases c3 : (l0.length : Int) = (l1.length : Int)
 ·rw [if_pos c3] at H
  have aO : ((l0.length : Int) == (l1.length : Int)) = true := beq_iff_eq.mpr c3
  have aP : ((l0.length : Int) != (l1.length : Int)) = false := bn c3
  have aQ : (l0.length == l1.length) = true := by first | simpa using c3 | (simp at c3 ⊢; omega)
  clear c3
  have H' := am H
  clear H
  go_enter Try.func63, Try.ntmps63
  go_wp2
  repeat (go_quiet (fail); try go_wp2)
  go_loopg [13] k (fun kq a3 w' => ∃ (aA : Int), a3 = .int .i64 aA ∧ qAb (qBd.l0 kq l0 l1 (l0.length : Int) aA = some r) ∧ qAb (kq ≤ k) ∧ qAB w w')
  case atStart => exact ⟨(0), (by first | rfl | (simp; done) | (simp [*]; done)), H', ⟨Nat.le_refl _⟩, by repeat (first | exact qAB.refl _ | apply qAB.step)⟩
  case round =>
   clear H'
   obtain ⟨aA, rfl, HA, aT, ⟨m1, rfl⟩⟩ := hrel
   cases gk with
   | zero => exact absurd HA.o (by simp [qBd.l0])
   | succ k1 =>
    have H := HA.o
    clear HA
    simp only [qBd.l0] at H
    by_cases c4 : aA < (l0.length : Int)
    rotate_left
    ·rw [if_neg c4] at H
     replace c4 := d0 c4
     obtain rfl := Option.some.inj H
     go_wp2
     repeat (go_quiet (fail); try go_wp2)
     go_ret
     exact ⟨by first | rfl | (simp; done) | (simp [*]; done), by repeat (first | exact qAB.refl _ | apply qAB.step)⟩
    rw [if_pos c4] at H
    replace c4 := d1 c4
    obtain ⟨c5, H⟩ := gd H
    replace c5 := d1 c5
    obtain ⟨c6, H⟩ := gd H
    replace c6 := d1 c6
    obtain ⟨c7, H⟩ := gd H
    replace c7 := d1 c7
    by_cases c8 : (!(((qBm l0 aA).f0) == ((qBm l1 aA).f0)) || (!(((qBm l0 aA).f1) == ((qBm l1 aA).f1)))) = true
    ·rw [if_pos c8] at H
     have aS : (!(((qBm l0 aA).f0) == ((qBm l1 aA).f0)) || (!(((qBm l0 aA).f1) == ((qBm l1 aA).f1)))) = true := c8
     clear c8
     obtain rfl := Option.some.inj H
     have aB : 0 ≤ (aA : Int) := of_decide_eq_true (by first | (with_reducible assumption) | assumption)
     have aD : aA < (l0.length : Int) := of_decide_eq_true (by first | (with_reducible assumption) | assumption)
     obtain ⟨aM, aK, aF, aG⟩ := qDX aU.o aA aB aD
     cases aK
     replace aB := eq_true aB
     replace aD := eq_true aD
     have aC : 0 ≤ (aA : Int) := of_decide_eq_true (by first | (with_reducible assumption) | assumption)
     have aE : aA < (l1.length : Int) := of_decide_eq_true (by first | (with_reducible assumption) | assumption)
     obtain ⟨aN, aL, aH, aI⟩ := qDX aV.o aA aC aE
     cases aL
     replace aC := eq_true aC
     replace aE := eq_true aE
     go_wp2
     repeat (go_quiet (fail); try go_wp2)
     go_ret
     exact ⟨by first | rfl | (simp; done) | (simp [*]; done), by repeat (first | exact qAB.refl _ | apply qAB.step)⟩
    rw [if_neg c8] at H
    have aS : (!(((qBm l0 aA).f0) == ((qBm l1 aA).f0)) || (!(((qBm l0 aA).f1) == ((qBm l1 aA).f1)))) = false := by simpa using c8
    clear c8
    have H' := am H
    clear H
    have aB : 0 ≤ (aA : Int) := of_decide_eq_true (by first | (with_reducible assumption) | assumption)
    have aD : aA < (l0.length : Int) := of_decide_eq_true (by first | (with_reducible assumption) | assumption)
    obtain ⟨aM, aK, aF, aG⟩ := qDX aU.o aA aB aD
    cases aK
    replace aB := eq_true aB
    replace aD := eq_true aD
    have aC : 0 ≤ (aA : Int) := of_decide_eq_true (by first | (with_reducible assumption) | assumption)
    have aE : aA < (l1.length : Int) := of_decide_eq_true (by first | (with_reducible assumption) | assumption)
    obtain ⟨aN, aL, aH, aI⟩ := qDX aV.o aA aC aE
    cases aL
    replace aC := eq_true aC
    replace aE := eq_true aE
    go_wp2
    repeat (go_quiet (fail); try go_wp2)
    go_roundg k1
    case measure => have := aT.o; omega
    case rel => exact ⟨(wrap64 (aA + 1)), (by first | rfl | (simp; done) | (simp [*]; done)), H', ⟨by have := aT.o; omega⟩, by repeat (first | exact qAB.refl _ | apply qAB.step)⟩
 ·rw [if_neg c3] at H
  have aO : ((l0.length : Int) == (l1.length : Int)) = false := bf c3
  have aP : ((l0.length : Int) != (l1.length : Int)) = true := bne_iff_ne.mpr c3
  have aQ : (l0.length == l1.length) = false := by first | simpa using c3 | (simp at c3 ⊢; omega)
  obtain rfl := Option.some.inj H
  go_enter Try.func63, Try.ntmps63
  go_wp2
  repeat (go_quiet (fail); try go_wp2)
  go_ret
  exact ⟨by first | rfl | (simp; done) | (simp [*]; done), by repeat (first | exact qAB.refl _ | apply qAB.step)⟩
def qBQ.f (k : Nat) (l0_0 : List Int) (a0_1 : Int) (l0_2 : List Int) (l0_3 : List (S115)) (l1_0 : List Int) (a1_1 : Int) (l1_2 : List Int) (l1_3 : List (S115)) : Option (Bool) := if a0_1 = a1_1 then ((qAl.f k l0_0 l1_0).bind fun aS => (if aS = true then ((qAl.f k l0_2 l1_2).bind fun aL => (if aL = true then ((qAH.f k l0_3 l1_3).bind fun aK => (some aK)) else (some false))) else (some false))) else (some false)
theorem qBQ.calls (k : Nat) (aD : Option Addr) (aG : Nat) (l0_0 : List Int) (a0_1 : Int) (aE : Option Addr) (aH : Nat) (l0_2 : List Int) (aF : Option Addr) (aI : Nat) (l0_3 : List (S115)) (aM : Option Addr) (aP : Nat) (l1_0 : List Int) (a1_1 : Int) (aN : Option Addr) (aQ : Nat) (l1_2 : List Int) (aO : Option Addr) (aR : Nat) (l1_3 : List (S115)) (r : Bool) (w : World) (hr0_0 : Kd.C (Kd.int .i64) w aD l0_0.length l0_0) (hc0_0 : l0_0.length ≤ aG) (hr0_2 : Kd.C (Kd.int .i64) w aE l0_2.length l0_2) (hc0_2 : l0_2.length ≤ aH) (hr0_3 : Kd.C k115 w aF l0_3.length l0_3) (hc0_3 : l0_3.length ≤ aI) (hr1_0 : Kd.C (Kd.int .i64) w aM l1_0.length l1_0) (hc1_0 : l1_0.length ≤ aP) (hr1_2 : Kd.C (Kd.int .i64) w aN l1_2.length l1_2) (hc1_2 : l1_2.length ≤ aQ) (hr1_3 : Kd.C k115 w aO l1_3.length l1_3) (hc1_3 : l1_3.length ≤ aR) (h : qBQ.f k l0_0 a0_1 l0_2 l0_3 l1_0 a1_1 l1_2 l1_3 = some r) :
  Calls Try.prog 65 #[.agg #[.slice aD l0_0.length aG, .int .i64 a0_1, .slice aE l0_2.length aH, .slice aF l0_3.length aI], .agg #[.slice aM l1_0.length aP, .int .i64 a1_1, .slice aN l1_2.length aQ, .slice aO l1_3.length aR]] w fun e w' => e = .returned (.bool r) ∧ Below w.heap.size w w' := by
 have aV := am hr0_0
 have aT := am hc0_0
 clear hr0_0 hc0_0
 have aZ := am hr0_2
 have aX := am hc0_2
 clear hr0_2 hc0_2
 have ab := am hr0_3
 have a9 := am hc0_3
 clear hr0_3 hc0_3
 have aW := am hr1_0
 have aU := am hc1_0
 clear hr1_0 hc1_0
 have a8 := am hr1_2
 have aY := am hc1_2
 clear hr1_2 hc1_2
 have ac := am hr1_3
 have aa := am hc1_3
 clear hr1_3 hc1_3
 have HB := am (Below.refl w.heap.size w)
 have H : (if a0_1 = a1_1 then ((qAl.f k l0_0 l1_0).bind fun aS => (if aS = true then ((qAl.f k l0_2 l1_2).bind fun aL => (if aL = true then ((qAH.f k l0_3 l1_3).bind fun aK => (some aK)) else (some false))) else (some false))) else (some false)) = some r := h
 clear h
 by_cases c3 : a0_1 = a1_1
 ·rw [if_pos c3] at H
  have bE : (a0_1 == a1_1) = true := beq_iff_eq.mpr c3
  clear c3
  replace H := bm H
  obtain ⟨aS, bF, H⟩ := H
  replace H : (if aS = true then ((qAl.f k l0_2 l1_2).bind fun aL => (if aL = true then ((qAH.f k l0_3 l1_3).bind fun aK => (some aK)) else (some false))) else (some false)) = some r := H
  have A4 := am bF
  clear bF
  by_cases c5 : aS = true
  ·subst c5
   replace H : ((qAl.f k l0_2 l1_2).bind fun aL => (if aL = true then ((qAH.f k l0_3 l1_3).bind fun aK => (some aK)) else (some false))) = some r := by rw [if_pos rfl] at H; exact H
   replace H := bm H
   obtain ⟨aL, bG, H⟩ := H
   replace H : (if aL = true then ((qAH.f k l0_3 l1_3).bind fun aK => (some aK)) else (some false)) = some r := H
   have A6 := am bG
   clear bG
   by_cases c7 : aL = true
   ·subst c7
    replace H : ((qAH.f k l0_3 l1_3).bind fun aK => (some aK)) = some r := by rw [if_pos rfl] at H; exact H
    replace H := bm H
    obtain ⟨aK, bH, H⟩ := H
    replace H : (some aK) = some r := H
    have A8 := am bH
    clear bH
    obtain rfl := Option.some.inj H
    go_enter Try.func65, Try.ntmps65
    go_wp2_with (first | ((with_reducible refine qAC (N := 2) rfl ?_); refine bx 2 #[.slice aD l0_0.length aG, .int .i64 a0_1, .slice aE l0_2.length aH, .slice aF l0_3.length aI] 77 ?_; intro aA hg w9 hbox hb; have n0_ := am (qAk (by repeat ((with_reducible (exact HB.o)))) hb); have n1_ := am (hbox); have n2_ := am ((by rw [hg]; exact (qAf (by repeat ((with_reducible (exact HB.o))))) : w.heap.size ≤ aA)); have n3_ := am ((by rw [hg]; exact (qAf (by repeat ((with_reducible (exact HB.o))))) : w.heap.size ≤ aA)); clear HB; have HB := n0_; have aB := n1_; clear n0_ n1_ n2_ n3_; clear hb hbox hg) | ((with_reducible refine qAC (N := 3) rfl ?_); refine bx 3 #[.slice aM l1_0.length aP, .int .i64 a1_1, .slice aN l1_2.length aQ, .slice aO l1_3.length aR] 77 ?_; intro aC hg bI hbox hb; have n0_ := am (qAe (g := aA) (o := .cells #[.slice aD l0_0.length aG, .int .i64 a0_1, .slice aE l0_2.length aH, .slice aF l0_3.length aI] 77 (0, 0)) (by (with_reducible repeat (fail)); exact aB.o) hb); have n1_ := am (qAk (by repeat ((with_reducible (exact HB.o)))) hb); have n2_ := am (hbox); have n3_ := am ((by rw [hg]; exact (qAf (by repeat ((with_reducible (exact HB.o))))) : w.heap.size ≤ aC)); have n4_ := am ((by rw [hg]; exact (qAf (by repeat ((with_reducible (exact HB.o))))) : w.heap.size ≤ aC)); have n5_ := am ((by rw [hg]; exact Nat.ne_of_lt (qAt (g := aA) (o := .cells #[.slice aD l0_0.length aG, .int .i64 a0_1, .slice aE l0_2.length aH, .slice aF l0_3.length aI] 77 (0, 0)) (by (with_reducible repeat (fail)); exact aB.o)) : aA ≠ aC)); have n6_ := am ((by rw [hg]; exact Nat.ne_of_gt (qAt (g := aA) (o := .cells #[.slice aD l0_0.length aG, .int .i64 a0_1, .slice aE l0_2.length aH, .slice aF l0_3.length aI] 77 (0, 0)) (by (with_reducible repeat (fail)); exact aB.o)) : aC ≠ aA)); clear aB; clear HB; have aB := n0_; have HB := n1_; have aJ := n2_; clear n0_ n1_ n2_ n3_ n4_ n5_ n6_; clear hb hbox hg; obtain ⟨ad, ae, af, ag⟩ := c4_ bI aB.o; obtain ⟨ah, ai, aj, ak⟩ := c4_ bI aJ.o; have bA := qAg aJ.o 3) | (go_at_call 47; (with_reducible refine (qAl.calls k _ _ l0_0 _ _ l1_0 true _ ?side1 ?side2 ?side3 ?side4 A4.o).mono ?_); (case side1 => repeat ((exact (Kd.C_below aV.o HB.o)))); (case side2 => exact aT.o); (case side3 => repeat ((exact (Kd.C_below aW.o HB.o)))); (case side4 => exact aU.o); rintro e w' ⟨rfl, ⟨nd, rfl⟩⟩) | (go_at_call 47; (with_reducible refine (qAl.calls k _ _ l0_2 _ _ l1_2 true _ ?side1 ?side2 ?side3 ?side4 A6.o).mono ?_); (case side1 => repeat ((exact (Kd.C_below aZ.o (by repeat ((with_reducible first | exact HB.o | apply qAp))))))); (case side2 => exact aX.o); (case side3 => repeat ((exact (Kd.C_below a8.o (by repeat ((with_reducible first | exact HB.o | apply qAp))))))); (case side4 => exact aY.o); rintro e w' ⟨rfl, ⟨nd, rfl⟩⟩) | (go_at_call 48; (with_reducible refine (qAH.calls k _ _ l0_3 _ _ l1_3 aK _ ?side1 ?side2 ?side3 ?side4 A8.o).mono ?_); (case side1 => repeat ((exact (Kd.C_below ab.o (by repeat ((with_reducible first | exact HB.o | apply qAp))))))); (case side2 => exact a9.o); (case side3 => repeat ((exact (Kd.C_below ac.o (by repeat ((with_reducible first | exact HB.o | apply qAp))))))); (case side4 => exact aa.o); rintro e w' ⟨rfl, ⟨nd, rfl⟩⟩))
    go_ret
    exact ⟨by (rfl), by repeat ((with_reducible first | exact HB.o | apply qAp))⟩
   ·replace c7 := Bool.eq_false_iff.mpr c7
    subst c7
    replace H : (some false) = some r := by rw [if_neg (show ¬ (false = true) by decide)] at H; exact H
    obtain rfl := Option.some.inj H
    go_enter Try.func65, Try.ntmps65
    go_wp2_with (first | ((with_reducible refine qAC (N := 2) rfl ?_); refine bx 2 #[.slice aD l0_0.length aG, .int .i64 a0_1, .slice aE l0_2.length aH, .slice aF l0_3.length aI] 77 ?_; intro aA hg bM hbox hb; have n0_ := am (qAk (by repeat ((with_reducible (exact HB.o)))) hb); have n1_ := am (hbox); have n2_ := am ((by rw [hg]; exact (qAf (by repeat ((with_reducible (exact HB.o))))) : w.heap.size ≤ aA)); have n3_ := am ((by rw [hg]; exact (qAf (by repeat ((with_reducible (exact HB.o))))) : w.heap.size ≤ aA)); clear HB; have HB := n0_; have aB := n1_; clear n0_ n1_ n2_ n3_; clear hb hbox hg) | ((with_reducible refine qAC (N := 3) rfl ?_); refine bx 3 #[.slice aM l1_0.length aP, .int .i64 a1_1, .slice aN l1_2.length aQ, .slice aO l1_3.length aR] 77 ?_; intro aC hg bJ hbox hb; have n0_ := am (qAe (g := aA) (o := .cells #[.slice aD l0_0.length aG, .int .i64 a0_1, .slice aE l0_2.length aH, .slice aF l0_3.length aI] 77 (0, 0)) (by (with_reducible repeat (fail)); exact aB.o) hb); have n1_ := am (qAk (by repeat ((with_reducible (exact HB.o)))) hb); have n2_ := am (hbox); have n3_ := am ((by rw [hg]; exact (qAf (by repeat ((with_reducible (exact HB.o))))) : w.heap.size ≤ aC)); have n4_ := am ((by rw [hg]; exact (qAf (by repeat ((with_reducible (exact HB.o))))) : w.heap.size ≤ aC)); have n5_ := am ((by rw [hg]; exact Nat.ne_of_lt (qAt (g := aA) (o := .cells #[.slice aD l0_0.length aG, .int .i64 a0_1, .slice aE l0_2.length aH, .slice aF l0_3.length aI] 77 (0, 0)) (by (with_reducible repeat (fail)); exact aB.o)) : aA ≠ aC)); have n6_ := am ((by rw [hg]; exact Nat.ne_of_gt (qAt (g := aA) (o := .cells #[.slice aD l0_0.length aG, .int .i64 a0_1, .slice aE l0_2.length aH, .slice aF l0_3.length aI] 77 (0, 0)) (by (with_reducible repeat (fail)); exact aB.o)) : aC ≠ aA)); clear aB; clear HB; have aB := n0_; have HB := n1_; have aJ := n2_; clear n0_ n1_ n2_ n3_ n4_ n5_ n6_; clear hb hbox hg; obtain ⟨al, an, ao⟩ := c3_ bJ aB.o; obtain ⟨ap, aq, ar⟩ := c3_ bJ aJ.o; have bB := qAg aJ.o 3) | (go_at_call 47; (with_reducible refine (qAl.calls k _ _ l0_0 _ _ l1_0 true _ ?side1 ?side2 ?side3 ?side4 A4.o).mono ?_); (case side1 => repeat ((exact (Kd.C_below aV.o HB.o)))); (case side2 => exact aT.o); (case side3 => repeat ((exact (Kd.C_below aW.o HB.o)))); (case side4 => exact aU.o); rintro e w' ⟨rfl, ⟨nd, rfl⟩⟩) | (go_at_call 47; (with_reducible refine (qAl.calls k _ _ l0_2 _ _ l1_2 false _ ?side1 ?side2 ?side3 ?side4 A6.o).mono ?_); (case side1 => repeat ((exact (Kd.C_below aZ.o (by repeat ((with_reducible first | exact HB.o | apply qAp))))))); (case side2 => exact aX.o); (case side3 => repeat ((exact (Kd.C_below a8.o (by repeat ((with_reducible first | exact HB.o | apply qAp))))))); (case side4 => exact aY.o); rintro e w' ⟨rfl, ⟨nd, rfl⟩⟩))
    go_ret
    exact ⟨by (rfl), by repeat ((with_reducible first | exact HB.o | apply qAp))⟩
  ·replace c5 := Bool.eq_false_iff.mpr c5
   subst c5
   replace H : (some false) = some r := by rw [if_neg (show ¬ (false = true) by decide)] at H; exact H
   obtain rfl := Option.some.inj H
   go_enter Try.func65, Try.ntmps65
   go_wp2_with (first | ((with_reducible refine qAC (N := 2) rfl ?_); refine bx 2 #[.slice aD l0_0.length aG, .int .i64 a0_1, .slice aE l0_2.length aH, .slice aF l0_3.length aI] 77 ?_; intro aA hg bN hbox hb; have n0_ := am (qAk (by repeat ((with_reducible (exact HB.o)))) hb); have n1_ := am (hbox); have n2_ := am ((by rw [hg]; exact (qAf (by repeat ((with_reducible (exact HB.o))))) : w.heap.size ≤ aA)); have n3_ := am ((by rw [hg]; exact (qAf (by repeat ((with_reducible (exact HB.o))))) : w.heap.size ≤ aA)); clear HB; have HB := n0_; have aB := n1_; clear n0_ n1_ n2_ n3_; clear hb hbox hg) | ((with_reducible refine qAC (N := 3) rfl ?_); refine bx 3 #[.slice aM l1_0.length aP, .int .i64 a1_1, .slice aN l1_2.length aQ, .slice aO l1_3.length aR] 77 ?_; intro aC hg bK hbox hb; have n0_ := am (qAe (g := aA) (o := .cells #[.slice aD l0_0.length aG, .int .i64 a0_1, .slice aE l0_2.length aH, .slice aF l0_3.length aI] 77 (0, 0)) (by (with_reducible repeat (fail)); exact aB.o) hb); have n1_ := am (qAk (by repeat ((with_reducible (exact HB.o)))) hb); have n2_ := am (hbox); have n3_ := am ((by rw [hg]; exact (qAf (by repeat ((with_reducible (exact HB.o))))) : w.heap.size ≤ aC)); have n4_ := am ((by rw [hg]; exact (qAf (by repeat ((with_reducible (exact HB.o))))) : w.heap.size ≤ aC)); have n5_ := am ((by rw [hg]; exact Nat.ne_of_lt (qAt (g := aA) (o := .cells #[.slice aD l0_0.length aG, .int .i64 a0_1, .slice aE l0_2.length aH, .slice aF l0_3.length aI] 77 (0, 0)) (by (with_reducible repeat (fail)); exact aB.o)) : aA ≠ aC)); have n6_ := am ((by rw [hg]; exact Nat.ne_of_gt (qAt (g := aA) (o := .cells #[.slice aD l0_0.length aG, .int .i64 a0_1, .slice aE l0_2.length aH, .slice aF l0_3.length aI] 77 (0, 0)) (by (with_reducible repeat (fail)); exact aB.o)) : aC ≠ aA)); clear aB; clear HB; have aB := n0_; have HB := n1_; have aJ := n2_; clear n0_ n1_ n2_ n3_ n4_ n5_ n6_; clear hb hbox hg; obtain ⟨au, av⟩ := c2_ bK aB.o; obtain ⟨aw, ax⟩ := c2_ bK aJ.o; have bC := qAg aJ.o 3) | (go_at_call 47; (with_reducible refine (qAl.calls k _ _ l0_0 _ _ l1_0 false _ ?side1 ?side2 ?side3 ?side4 A4.o).mono ?_); (case side1 => repeat ((exact (Kd.C_below aV.o HB.o)))); (case side2 => exact aT.o); (case side3 => repeat ((exact (Kd.C_below aW.o HB.o)))); (case side4 => exact aU.o); rintro e w' ⟨rfl, ⟨nd, rfl⟩⟩))
   go_ret
   exact ⟨by (rfl), by repeat ((with_reducible first | exact HB.o | apply qAp))⟩
 ·rw [if_neg c3] at H
  have bE : (a0_1 == a1_1) = false := bf c3
  obtain rfl := Option.some.inj H
  go_enter Try.func65, Try.ntmps65
  go_wp2_with (first | ((with_reducible refine qAC (N := 2) rfl ?_); refine bx 2 #[.slice aD l0_0.length aG, .int .i64 a0_1, .slice aE l0_2.length aH, .slice aF l0_3.length aI] 77 ?_; intro aA hg bO hbox hb; have n0_ := am (qAk (by repeat ((with_reducible (exact HB.o)))) hb); have n1_ := am (hbox); have n2_ := am ((by rw [hg]; exact (qAf (by repeat ((with_reducible (exact HB.o))))) : w.heap.size ≤ aA)); have n3_ := am ((by rw [hg]; exact (qAf (by repeat ((with_reducible (exact HB.o))))) : w.heap.size ≤ aA)); clear HB; have HB := n0_; have aB := n1_; clear n0_ n1_ n2_ n3_; clear hb hbox hg) | ((with_reducible refine qAC (N := 3) rfl ?_); refine bx 3 #[.slice aM l1_0.length aP, .int .i64 a1_1, .slice aN l1_2.length aQ, .slice aO l1_3.length aR] 77 ?_; intro aC hg bL hbox hb; have n0_ := am (qAe (g := aA) (o := .cells #[.slice aD l0_0.length aG, .int .i64 a0_1, .slice aE l0_2.length aH, .slice aF l0_3.length aI] 77 (0, 0)) (by (with_reducible repeat (fail)); exact aB.o) hb); have n1_ := am (qAk (by repeat ((with_reducible (exact HB.o)))) hb); have n2_ := am (hbox); have n3_ := am ((by rw [hg]; exact (qAf (by repeat ((with_reducible (exact HB.o))))) : w.heap.size ≤ aC)); have n4_ := am ((by rw [hg]; exact (qAf (by repeat ((with_reducible (exact HB.o))))) : w.heap.size ≤ aC)); have n5_ := am ((by rw [hg]; exact Nat.ne_of_lt (qAt (g := aA) (o := .cells #[.slice aD l0_0.length aG, .int .i64 a0_1, .slice aE l0_2.length aH, .slice aF l0_3.length aI] 77 (0, 0)) (by (with_reducible repeat (fail)); exact aB.o)) : aA ≠ aC)); have n6_ := am ((by rw [hg]; exact Nat.ne_of_gt (qAt (g := aA) (o := .cells #[.slice aD l0_0.length aG, .int .i64 a0_1, .slice aE l0_2.length aH, .slice aF l0_3.length aI] 77 (0, 0)) (by (with_reducible repeat (fail)); exact aB.o)) : aC ≠ aA)); clear aB; clear HB; have aB := n0_; have HB := n1_; have aJ := n2_; clear n0_ n1_ n2_ n3_ n4_ n5_ n6_; clear hb hbox hg; obtain ⟨-, ay⟩ := c2_ bL aB.o; obtain ⟨-, az⟩ := c2_ bL aJ.o; have bD := qAg aJ.o 3))
  go_ret
  exact ⟨by (rfl), by repeat ((with_reducible (exact HB.o)))⟩
end Q
end
section
namespace Q
open Go.RowKit YA YC YB
open Val Ins
namespace ISame
theorem eqvals_ev (a b : List S69) (hl : a.length ≤ 4611686018427387904) : Ev (fun k => qBd.f k a b) (eqB a b) := by
 refine eq_list z69 (fun x y => (!(x.f0 == y.f0) || !(x.f1 == y.f1))) (fun x y => ?_) _ (fun k i => qBd.l0 k a b (a.length : Int) i) a b hl (fun k => rfl) (fun k i => rfl)
 by_cases e : x = y
 ·subst e; simp
 refine ⟨fun _ => e, fun _ => ?_⟩
 rcases Bool.eq_false_or_eq_true (!(x.f0 == y.f0) || !(x.f1 == y.f1)) with h | h
 ·exact h
 refine absurd ?_ e
 simp only [Bool.or_eq_false_iff, Bool.not_eq_false', beq_iff_eq] at h
 obtain ⟨x0, x1⟩ := x
 obtain ⟨y0, y1⟩ := y
 obtain ⟨h0, h1⟩ := h
 simp only at h0 h1
 subst h0; subst h1; rfl
def fnSmall (x : S77) : Prop := x.f0.f0.length ≤ 4611686018427387904 ∧ x.f1.length ≤ 4611686018427387904 ∧ x.f2.length ≤ 4611686018427387904
theorem eqfn_ev (x y : S77) (h : fnSmall x) : Ev (fun k => qBQ.f k x.f0.f0 x.f0.f1 x.f1 x.f2 y.f0.f0 y.f0.f1 y.f1 y.f2) (eqB x y) := by
 obtain ⟨h0, h1, h2⟩ := h
 have no : ∀ {p : Prop}, (x = y → p) → ¬ p → eqB x y = false := fun hp hn => qBP ⟨nofun, fun h => absurd (hp h) hn⟩
 unfold qBQ.f
 by_cases e1 : x.f0.f1 = y.f0.f1
 rotate_left
 ·rw [no (fun h => by rw [h]) e1]
  simp only [e1, if_false]
  exact Ev.now _
 simp only [e1, if_true]
 refine Ev.bind (qCt _ _ h0) ?_
 by_cases e2 : x.f0.f0 = y.f0.f0
 rotate_left
 ·rw [no (fun h => by rw [h]) e2]
  simp only [show eqB x.f0.f0 y.f0.f0 = false from qBP ⟨nofun, fun h => absurd h e2⟩]
  exact Ev.now _
 simp only [qBj.2 e2, if_true]
 refine Ev.bind (qCt _ _ h1) ?_
 by_cases e3 : x.f1 = y.f1
 rotate_left
 ·rw [no (fun h => by rw [h]) e3]
  simp only [show eqB x.f1 y.f1 = false from qBP ⟨nofun, fun h => absurd h e3⟩]
  exact Ev.now _
 simp only [qBj.2 e3, if_true]
 have e4 : eqB x y = eqB x.f2 y.f2 := qBP ⟨fun h => by
   have h4 := qBj.1 h
   obtain ⟨⟨x1, x2⟩, x3, x4⟩ := x
   obtain ⟨⟨y1, y2⟩, y3, y4⟩ := y
   simp only at e1 e2 e3 h4
   subst e1; subst e2; subst e3; subst h4; rfl, fun h => qBj.2 (by rw [h])⟩
 rw [e4]
 exact Ev.bind (eqins_ev _ _ h2) (Ev.now _)
theorem eqfns_any (A1 A2 : Option Addr) (c1 c2 : Nat) (l1 l2 : List S77) (w : World) (hr1 : Kd.C k77 w A1 l1.length l1) (hr2 : Kd.C k77 w A2 l2.length l2) (hl : l1.length ≤ 4611686018427387904) (hs : ∀ x ∈ l1, fnSmall x) :
  Calls Try.prog 64 #[.slice A1 l1.length c1, .slice A2 l2.length c2, .func (.func 65) #[] #[]] w fun e w' => e = .returned (.bool (eqB l1 l2)) ∧ Below w.heap.size w w' := by
 obtain ⟨n1, hn1⟩ : ∃ n, n = l1.length := ⟨_, rfl⟩
 obtain ⟨n2, hn2⟩ : ∃ n, n = l2.length := ⟨_, rfl⟩
 rw [← hn1] at hr1 hl ⊢
 rw [← hn2] at hr2 ⊢
 have HR1 := am hr1
 have HR2 := am hr2
 have HN1 := am hn1
 have HN2 := am hn2
 have HS := am hs
 clear hr1 hr2 hn1 hn2 hs
 by_cases hne : n1 = n2
 case neg =>
  have hq : ((n1 : Int) != (n2 : Int)) = true := bne_iff_ne.mpr (by omega)
  have hq2 : (n1 == n2) = false := beq_eq_false_iff_ne.mpr hne
  have HF : qAb (eqB l1 l2 = false) := ⟨qBP ⟨nofun, fun h => absurd (by rw [HN1.out, HN2.out, h]) hne⟩⟩
  go_enter Try.func64, Try.ntmps64
  go_wp2
  go_ret
  exact ⟨by rw [HF.out]; rfl, Below.refl _ _⟩
 subst hne
 have hq : ((n1 : Int) != (n1 : Int)) = false := bne_eq_false_iff_eq.mpr rfl
 go_enter Try.func64, Try.ntmps64
 go_wp2
 go_loopg [7, 8, 9, 17] n1 (fun gg _ _ _ s17 wr => ∃ kk : Nat, kk ≤ n1 ∧ n1 - kk ≤ gg ∧ s17 = .int .i64 kk ∧ qAb (∀ (j : Nat) x y, j < kk → l1[j]? = some x → l2[j]? = some y → x = y) ∧ qAb (Below w.heap.size w wr))
 case atStart => exact ⟨0, Nat.zero_le _, by omega, rfl, ⟨fun j x y hj => absurd hj (Nat.not_lt_zero _)⟩, ⟨Below.refl _ _⟩⟩
 case round =>
  obtain ⟨kk, hkk, hg, rfl, HA, HB⟩ := hrel
  by_cases hlt : kk < n1
  rotate_left
  ·have hltz : ¬ (kk : Int) < (n1 : Int) := by omega
   have : kk = n1 := by omega
   subst this
   go_wp2
   go_ret
   refine ⟨?_, HB.out⟩
   rw [qBj.2 (eq_take l1 l2 (by rw [← HN1.out, ← HN2.out]) fun j x y hx hy => HA.out j x y (by rw [HN1.out]; exact (List.getElem?_eq_some_iff.1 hx).1) hx hy)]
   rfl
  have hltz : (kk : Int) < (n1 : Int) := by omega
  have h0 : (0 : Int) ≤ (kk : Int) := by omega
  obtain ⟨ad, D0, d0, D2, d2, D3, d3, ea, hx0, hx1, hx2, hx3, xl0, xC0, xl2, xC2, xl3, xC3⟩ := at_T77 HR1.out (kk : Int) h0 hltz
  subst ea
  obtain ⟨bd, E0, e0, E2, e2, E3, e3, eb, hy0, hy1, hy2, hy3, yl0, yC0, yl2, yC2, yl3, yC3⟩ := at_T77 HR2.out (kk : Int) h0 hltz
  subst eb
  rw [Int.toNat_natCast] at hx0 hx1 hx2 hx3 hy0 hy1 hy2 hy3
  replace hx0 := cb HB hx0
  replace hx1 := cb HB hx1
  replace hx2 := cb HB hx2
  replace hx3 := cb HB hx3
  replace hy0 := cb HB hy0
  replace hy1 := cb HB hy1
  replace hy2 := cb HB hy2
  replace hy3 := cb HB hy3
  obtain ⟨x, hx⟩ : ∃ x, x = qAz l1 (kk : Int) := ⟨_, rfl⟩
  obtain ⟨y, hy⟩ : ∃ x, x = qAz l2 (kk : Int) := ⟨_, rfl⟩
  rw [← hx] at hx0 hx1 hx2 hx3 xl0 xC0 xl2 xC2 xl3 xC3
  rw [← hy] at hy0 hy1 hy2 hy3 yl0 yC0 yl2 yC2 yl3 yC3
  have hgx : l1[kk]? = some x := by rw [hx]; exact qBE l1 z77 kk (by have := HN1.out; omega)
  have HX := am hgx
  have HY : qAb (l2[kk]? = some y) := ⟨by rw [hy]; exact qBE l2 z77 kk (by have := HN2.out; omega)⟩
  obtain ⟨kf, hkf⟩ := (eqfn_ev x y (HS.out x (List.mem_of_getElem? hgx))).rounds
  have HC : qAb (∀ W, Below w.heap.size w W → Calls Try.prog 65 #[.agg #[.slice D0 x.f0.f0.length d0, .int .i64 x.f0.f1, .slice D2 x.f1.length d2, .slice D3 x.f2.length d3], .agg #[.slice E0 y.f0.f0.length e0, .int .i64 y.f0.f1, .slice E2 y.f1.length e2, .slice E3 y.f2.length e3]] W fun e w' => e = .returned (.bool (eqB x y)) ∧ Below W.heap.size W w') :=
   ⟨fun W hW => qBQ.calls kf D0 d0 x.f0.f0 x.f0.f1 D2 d2 x.f1 D3 d3 x.f2 E0 e0 y.f0.f0 y.f0.f1 E2 e2 y.f1 E3 e3 y.f2 _ W (Kd.C_below xC0 hW) xl0 (Kd.C_below xC2 hW) xl2 (Kd.C_below xC3 hW) xl3 (Kd.C_below yC0 hW) yl0 (Kd.C_below yC2 hW) yl2 (Kd.C_below yC3 hW) yl3 hkf⟩
  clear hx hy xl0 xC0 xl2 xC2 xl3 xC3 yl0 yC0 yl2 yC2 yl3 yC3 hkf hgx
  have hbl : (bd.add (kk * 4)).block < wr.heap.size := World.block_lt_of_cell? wr _ hy0
  obtain ⟨xa, hxa⟩ : ∃ q, q = x.f0.f0.length := ⟨_, rfl⟩
  obtain ⟨xb, hxb⟩ : ∃ q, q = x.f1.length := ⟨_, rfl⟩
  obtain ⟨xc, hxc⟩ : ∃ q, q = x.f2.length := ⟨_, rfl⟩
  obtain ⟨ya, hya⟩ : ∃ q, q = y.f0.f0.length := ⟨_, rfl⟩
  obtain ⟨yb, hyb⟩ : ∃ q, q = y.f1.length := ⟨_, rfl⟩
  obtain ⟨yc, hyc⟩ : ∃ q, q = y.f2.length := ⟨_, rfl⟩
  rw [← hxa, ← hxb, ← hxc, ← hya, ← hyb, ← hyc] at HC
  rw [← hxa] at hx0
  rw [← hxb] at hx2
  rw [← hxc] at hx3
  rw [← hya] at hy0
  rw [← hyb] at hy2
  rw [← hyc] at hy3
  obtain ⟨xr, hxr⟩ : ∃ q, q = x.f0.f1 := ⟨_, rfl⟩
  obtain ⟨yr, hyr⟩ : ∃ q, q = y.f0.f1 := ⟨_, rfl⟩
  rw [← hxr, ← hyr] at HC
  rw [← hxr] at hx1
  rw [← hyr] at hy1
  clear hxa hxb hxc hya hyb hyc  hxr hyr
  obtain ⟨b, hb⟩ : ∃ b, b = eqB x y := ⟨_, rfl⟩
  rw [← hb] at HC
  have HQ := am hb
  clear hb
  cases b with
  | false =>
   go_wp2_with (go_at_call 65; refine (HC.out _ (qAJ HB.out HB.out.size (((Below.refl wr.heap.size wr).alloc (Nat.le_refl _) _).alloc (by simp) _))).mono ?_; rintro e w1 ⟨rfl, hw⟩; have HB2 := am (qAJ HB.out HB.out.size ((((Below.refl wr.heap.size wr).alloc (Nat.le_refl _) _).alloc (by simp) _).trans (hw.mono (by simp; omega)))); clear hw)
   go_ret
   refine ⟨?_, HB2.out⟩
   rw [qBP (r := false) ⟨nofun, fun h => by
     have h1 := HX.out
     rw [h, HY.out] at h1
     have h2 := qBj.2 (Option.some.inj h1).symm
     rw [← HQ.out] at h2; cases h2⟩]; rfl
  | true =>
   go_wp2_with (go_at_call 65; refine (HC.out _ (qAJ HB.out HB.out.size (((Below.refl wr.heap.size wr).alloc (Nat.le_refl _) _).alloc (by simp) _))).mono ?_; rintro e w1 ⟨rfl, hw⟩; have HB2 := am (qAJ HB.out HB.out.size ((((Below.refl wr.heap.size wr).alloc (Nat.le_refl _) _).alloc (by simp) _).trans (hw.mono (by simp; omega)))); clear hw)
   go_roundg (n1 - (kk + 1))
   case measure => omega
   case rel =>
    refine ⟨kk + 1, by omega, by omega, by go_num, ⟨fun j u v hj hu hv => ?_⟩, HB2⟩
    by_cases e : j = kk
    rotate_left
    ·exact HA.out j u v (by omega) hu hv
    subst e
    rw [HX.out] at hu; rw [HY.out] at hv
    injection hu with hu; injection hv with hv; subst hu; subst hv
    exact qBj.1 HQ.out.symm
end ISame
def smallI (vs : List S69) (fs : List S77) : Prop := vs.length ≤ 4611686018427387904 ∧ fs.length ≤ 4611686018427387904 ∧ ∀ x ∈ fs, ISame.fnSmall x
noncomputable def qBq.f (l0_0 : List (S69)) (l0_1 : List (S77)) (a0_2 : Int) (l1_0 : List (S69)) (l1_1 : List (S77)) (a1_2 : Int) : Option (Bool) :=
 @ite (Option Bool) (smallI l0_0 l0_1) (Classical.propDecidable _) (some (eqB (l0_0, l0_1, a0_2) (l1_0, l1_1, a1_2))) none
theorem qBq.calls (A0_0 : Option Addr) (c0_0 : Nat) (l0_0 : List (S69)) (A0_1 : Option Addr) (c0_1 : Nat) (l0_1 : List (S77)) (a0_2 : Int) (A1_0 : Option Addr) (c1_0 : Nat) (l1_0 : List (S69)) (A1_1 : Option Addr) (c1_1 : Nat) (l1_1 : List (S77)) (a1_2 : Int) (r : Bool) (w : World) (hr0_0 : Kd.C k69 w A0_0 l0_0.length l0_0) (hc0_0 : l0_0.length ≤ c0_0) (hr0_1 : Kd.C k77 w A0_1 l0_1.length l0_1) (hc0_1 : l0_1.length ≤ c0_1) (hr1_0 : Kd.C k69 w A1_0 l1_0.length l1_0) (hc1_0 : l1_0.length ≤ c1_0) (hr1_1 : Kd.C k77 w A1_1 l1_1.length l1_1) (hc1_1 : l1_1.length ≤ c1_1) (h : qBq.f l0_0 l0_1 a0_2 l1_0 l1_1 a1_2 = some r) :
  Calls Try.prog 18 #[.agg #[.slice A0_0 l0_0.length c0_0, .slice A0_1 l0_1.length c0_1, .int .i64 a0_2], .agg #[.slice A1_0 l1_0.length c1_0, .slice A1_1 l1_1.length c1_1, .int .i64 a1_2]] w fun e w' => e = .returned (.bool r) ∧ Below w.heap.size w w' := by
 unfold qBq.f at h
 split at h
 case isFalse => cases h
 rename_i hs
 obtain ⟨s1, s2, s4⟩ := hs
 replace h := Option.some.inj h
 have hmf : ∀ (fn : Fn) (first cap : Array Value) (w : World), (Instr.makeFunc fn first cap).run Try.prog w = .ok (.func fn first cap) w := fun _ _ _ _ => rfl
 obtain ⟨kv, hkv⟩ := (ISame.eqvals_ev l0_0 l1_0 s1).rounds
 obtain ⟨WB, hWB⟩ : ∃ WB, WB = (w.alloc (.cells #[.slice A0_0 l0_0.length c0_0, .slice A0_1 l0_1.length c0_1, .int .i64 a0_2] 47)).alloc (.cells #[.slice A1_0 l1_0.length c1_0, .slice A1_1 l1_1.length c1_1, .int .i64 a1_2] 47) := ⟨_, rfl⟩
 have hBB : Below w.heap.size w WB := hWB ▸ ((Below.refl _ _).alloc (Nat.le_refl _) _).alloc (by simp) _
 have HV : qAb (∀ W, Below w.heap.size w W → Calls Try.prog 63 #[.slice A0_0 l0_0.length c0_0, .slice A1_0 l1_0.length c1_0] W fun e w' => e = .returned (.bool (eqB l0_0 l1_0)) ∧ Below W.heap.size W w') :=
  ⟨fun W hW => (qBd.calls kv A0_0 c0_0 l0_0 A1_0 c1_0 l1_0 _ W (Kd.C_below hr0_0 hW) hc0_0 (Kd.C_below hr1_0 hW) hc1_0 hkv).mono fun e w' ⟨h1, h2⟩ => ⟨h1, h2.below⟩⟩
 have HF : qAb (∀ W, Below w.heap.size w W → Calls Try.prog 64 #[.slice A0_1 l0_1.length c0_1, .slice A1_1 l1_1.length c1_1, .func (.func 65) #[] #[]] W fun e w' => e = .returned (.bool (eqB l0_1 l1_1)) ∧ Below W.heap.size W w') :=
  ⟨fun W hW => ISame.eqfns_any A0_1 A1_1 c0_1 c1_1 l0_1 l1_1 W (Kd.C_below hr0_1 hW) (Kd.C_below hr1_1 hW) s2 s4⟩
 obtain ⟨b0, hb0⟩ : ∃ b, b = (a0_2 == a1_2) := ⟨_, rfl⟩
 obtain ⟨b1, hb1⟩ : ∃ b, b = eqB l0_0 l1_0 := ⟨_, rfl⟩
 obtain ⟨b3, hb3⟩ : ∃ b, b = eqB l0_1 l1_1 := ⟨_, rfl⟩
 have hall : r = (b0 && (b1 && b3)) := by
  rw [← h]
  refine qBP ?_
  rw [hb0, hb1, hb3, Bool.and_eq_true, Bool.and_eq_true, beq_iff_eq, qBj, qBj]
  constructor
  ·rintro ⟨e0, e1, e2⟩; rw [e0, e1, e2]
  intro e; injection e with e0 e; injection e with e1 e2; exact ⟨e2, e0, e1⟩
 rw [← hb1] at HV
 rw [← hb3] at HF
 have q0 := hb0.symm
 have HALL := am hall
 have HBB := am hBB
 have HWB := am hWB
 obtain ⟨n1, hn1⟩ : ∃ n, n = l0_0.length := ⟨_, rfl⟩
 obtain ⟨n2, hn2⟩ : ∃ n, n = l0_1.length := ⟨_, rfl⟩
 obtain ⟨p1, hp1⟩ : ∃ n, n = l1_0.length := ⟨_, rfl⟩
 obtain ⟨p2, hp2⟩ : ∃ n, n = l1_1.length := ⟨_, rfl⟩
 rw [← hn1, ← hp1] at HV
 rw [← hn2, ← hp2] at HF
 rw [← hn1, ← hn2, ← hp1, ← hp2] at HWB ⊢
 clear hr0_0 hc0_0 hr0_1 hc0_1 hr1_0 hc1_0 hr1_1 hc1_1 h s1 s2 s4 hkv hWB hBB hb0 hb1 hb3 hall hn1 hn2 hp1 hp2
 cases b0 with
 | false =>
  go_enter Try.func18, Try.ntmps18
  go_wp2
  go_ret
  refine ⟨by rw [HALL.out]; rfl, ((Below.refl _ _).alloc (Nat.le_refl _) _).alloc (by simp) _⟩
 | true =>
  have c01 : WB.cell? ⟨w.heap.size, 1, none⟩ = some (.slice A0_1 n2 c0_1) := by rw [HWB.out, World.cell?_alloc_lt _ _ _ (by simp), World.cell?_alloc_at _ _ _ _ rfl]; rfl
  have c11 : WB.cell? ⟨w.heap.size + 1, 1, none⟩ = some (.slice A1_1 p2 c1_1) := by rw [HWB.out, World.cell?_alloc_at _ _ _ _ (by simp)]; rfl
  have hz : WB.heap.size = w.heap.size + 1 + 1 := by rw [HWB.out]; simp
  go_enter Try.func18, Try.ntmps18
  cases b1 with
  | false =>
   go_wp2_with (go_at_call 63; rw [← HWB.out]; refine (HV.out _ HBB.out).mono ?_; rintro e w1 ⟨rfl, hw⟩; have HB1 := am (qAJ HBB.out HBB.out.size hw); clear hw)
   go_ret
   exact ⟨by rw [HALL.out]; rfl, HB1.out⟩
  | true =>
   go_wp2_with (first | (go_at_call 63; rw [← HWB.out]; refine (HV.out _ HBB.out).mono ?_; rintro e w1 ⟨rfl, hw⟩; have d01 := (hw.cell (p := ⟨w.heap.size, 1, none⟩) (by show w.heap.size < _; rw [hz]; omega)).trans c01; have d11 := (hw.cell (p := ⟨w.heap.size + 1, 1, none⟩) (by show w.heap.size + 1 < _; rw [hz]; omega)).trans c11; have HB1 := am (qAJ HBB.out HBB.out.size hw); clear hw c01 c11) | (go_at_call 64; refine (HF.out _ HB1.out).mono ?_; rintro e w3 ⟨rfl, hw⟩; have HB3 := am (qAJ HB1.out HB1.out.size hw); clear hw))
   go_ret
   exact ⟨by rw [HALL.out]; rfl, HB3.out⟩
end Q
end
section
namespace Q
open Go.RowKit YA YC YB
structure S53 where
 f0 : (List S69)
 f1 : (List S98)
 f2 : Int
def k53 : Kd S53 := Kd.iso (Kd.pair (Kd.slice 69 k69) (Kd.pair (Kd.slice 98 k98) (Kd.int .i64))) (fun x : S53 => (x.f0, x.f1, x.f2))
theorem k53_open {w : World} {x : S53} {cs : List Value} (h : k53.K w x cs) : ∃ A0 c0 A1 c1, cs = [.slice A0 x.f0.length c0, .slice A1 x.f1.length c1, .int .i64 x.f2] ∧ x.f0.length ≤ c0 ∧ k69.C w A0 x.f0.length x.f0 ∧ x.f1.length ≤ c1 ∧ k98.C w A1 x.f1.length x.f1 := by
 obtain ⟨_, _, rfl, ⟨A0, c0, rfl, l0, g0⟩, ⟨_, _, rfl, ⟨A1, c1, rfl, l1, g1⟩, rfl⟩⟩ := h
 exact ⟨A0, c0, A1, c1, rfl, l0, g0, l1, g1⟩
end Q
end
section
namespace Q
open Go.ChangeShapes Go.WideShapes Go.RowKit Go.Deep YA YC YB
theorem one_bulk {H : Type} (d : DataW H) : 1 ≤ Rows.uptoBulk d := by
 cases d with
 | lit l => cases l <;> simp [Rows.uptoBulk]
 | nil => simp [Rows.uptoBulk]
 | ptr d => simp [Rows.uptoBulk]
 | slice elems spare => simp [Rows.uptoBulk]
 | agg parts => simp [Rows.uptoBulk]
 | iface t d => simp [Rows.uptoBulk]
 | map entries => simp [Rows.uptoBulk]
 | held h => simp [Rows.uptoBulk]
theorem part_bulk {H : Type} {d : DataW H} {l : List (DataW H)} (h : d ∈ l) : Rows.uptoBulk d ≤ Rows.uptoBulkAll l := by
 induction l with
 | nil => cases h
 | cons x r ih =>
  simp only [Rows.uptoBulkAll]
  cases List.mem_cons.1 h with
  | inl e => subst e; omega
  | inr e => have := ih e; omega
theorem length_bulk {H : Type} (l : List (DataW H)) : l.length ≤ Rows.uptoBulkAll l := by
 induction l with
 | nil => simp
 | cons x r ih => have := one_bulk x; simp only [Rows.uptoBulkAll, List.length_cons]; omega
def qCj {α : Type} (P : Program) (w : World) (N : Nat) (t : TypeId) (d : Kd α) (G : α → Prop) : Prop :=
 ∀ (H : Type) (enc : TypeId × Value → H) (base : Nat) (spare : Nat → Bool) (held : Bool) (fuel : Nat) (cs : List Value) (x : DataW H × List MemPlace),
  DataW.trod enc P w base spare held fuel t cs = some x → Rows.uptoBulk x.1 ≤ N → ∃ a, d.K w a cs ∧ G a
theorem qBR {P : Program} {w : World} {N : Nat} {t : TypeId} {k : IntKind} (ht : P.underlying t = some (.int k)) : qCj P w N t (Kd.int k) (fun n => (Lit.int k n).wf = true) := by
 intro H enc base spare held fuel cs x h hb
 obtain ⟨n, rfl, _, hw⟩ := DataW.trod_int ht h
 exact ⟨n, rfl, hw⟩
theorem list_of {α : Type} {p : Nat → α → Prop} : ∀ (n : Nat), (∀ i, i < n → ∃ a, p i a) → ∃ l : List α, l.length = n ∧ ∀ i a, l[i]? = some a → p i a
 | 0, _ => ⟨[], rfl, fun i a h => by simp at h⟩
 | n + 1, h => by
  obtain ⟨l, hl, hp⟩ := list_of n fun i hi => h i (by omega)
  obtain ⟨a, ha⟩ := h n (by omega)
  refine ⟨l ++ [a], by simp [hl], fun i b hb => ?_⟩
  by_cases hi : i < l.length
  ·rw [List.getElem?_append_left hi] at hb; exact hp i b hb
  rw [List.getElem?_append_right (by omega)] at hb
  have : i - l.length = 0 := by
   cases hk : i - l.length with
   | zero => rfl
   | succ k => rw [hk] at hb; simp at hb
  rw [this] at hb
  obtain rfl : a = b := by simpa using hb
  have : i = n := by omega
  subst this; exact ha
theorem qBX {α : Type} {P : Program} {w : World} {N : Nat} {t e : TypeId} {d : Kd α} {G : α → Prop} (ht : P.underlying t = some (.slice e)) (hsz : d.sz = P.cellsOf e) (he : qCj P w N e d G) : qCj P w N t (Kd.slice e d) (fun l => l.length ≤ N ∧ ∀ x ∈ l, G x) := by
 intro H enc base spare held fuel cs x h hb
 rcases open_slice ht h with ⟨rfl, rfl⟩ | ⟨a, len, cap, m, n, D, Pl, rfl, _, hl, hm, hmm, rfl, hx⟩
 ·exact ⟨[], ⟨none, 0, rfl, Nat.le_refl _, Kd.C_nil d w⟩, by simp, fun _ h => by cases h⟩
 have hlm : len ≤ m := by rw [hmm]; split <;> omega
 simp only [Rows.uptoBulk] at hb
 have hlen := length_bulk ((List.range len).map D)
 rw [List.length_map, List.length_range] at hlen
 obtain ⟨l, hll, hp⟩ := list_of (p := fun i a' => (∃ c, c.length = d.sz ∧ d.K w a' c ∧ ∀ j u, c[j]? = some u → w.cell? (a.add (i * d.sz + j)) = some u) ∧ G a') len (fun i hi => by
   obtain ⟨cs', h1, h2⟩ := hx i (by omega)
   have hbi : Rows.uptoBulk (D i) ≤ N := by
     have := part_bulk (d := D i) (l := (List.range len).map D) (List.mem_map.2 ⟨i, List.mem_range.2 hi, rfl⟩)
     omega
   obtain ⟨a', hk, hg⟩ := he _ _ _ _ _ _ _ _ h2 hbi
   obtain ⟨_, hcl, hcell⟩ := World.cells?_some h1
   refine ⟨a', ⟨cs', d.K_len hk, hk, fun j u hu => ?_⟩, hg⟩
   have hj : j < cs'.length := (List.getElem?_eq_some_iff.1 hu).1
   have := hcell j (by omega)
   rw [Go.Deep.add_add] at this
   rw [hsz, this, hu])
 have hmax : maxLen ≤ 9223372036854775807 := by decide
 refine ⟨l, ⟨some a, cap, by rw [hll], by omega, ⟨rfl, by omega, fun _ => ⟨a, rfl, fun j p hj => (hp j p hj).1⟩⟩⟩, by omega, fun x hx => ?_⟩
 obtain ⟨i, hi⟩ := List.getElem?_of_mem hx
 exact (hp i x hi).2
theorem list_2 {α : Type} : ∀ {l : List α}, l.length = 2 → ∃ a0 a1, l = [a0, a1]
 | [a0, a1], _ => ⟨a0, a1, rfl⟩
theorem list_3 {α : Type} : ∀ {l : List α}, l.length = 3 → ∃ a0 a1 a2, l = [a0, a1, a2]
 | [a0, a1, a2], _ => ⟨a0, a1, a2, rfl⟩
theorem list_4 {α : Type} : ∀ {l : List α}, l.length = 4 → ∃ a0 a1 a2 a3, l = [a0, a1, a2, a3]
 | [a0, a1, a2, a3], _ => ⟨a0, a1, a2, a3, rfl⟩
def qCW (N : Nat) (x : S69) : Prop := (Lit.int .i64 x.f0).wf = true ∧ (Lit.int .u64 x.f1).wf = true
theorem qCH (w : World) (N : Nat) : qCj Try.prog w N 69 k69 (qCW N) := by
 intro H enc base spare held fuel cs x h hb
 obtain ⟨xs, n, _, rfl, hl, hlen, hf⟩ := DataW.trod_struct Try.underlying69 h
 have hl' : cs.length = 2 := hl.trans (by kernel_rfl)
 obtain ⟨c0, c1, rfl⟩ : ∃ c0 c1, cs = [c0, c1] := list_2 hl'
 obtain ⟨y0, y1, rfl⟩ : ∃ y0 y1, xs = [y0, y1] := list_2 hlen
 simp only [Rows.uptoBulk, Rows.uptoBulkAll, List.map_cons, List.map_nil] at hb
 have h0 := hf 0 _ rfl
 obtain ⟨a0, k0, g0⟩ := (qBR (by kernel_rfl) : qCj Try.prog w N _ (Kd.int .i64) _) _ _ _ _ _ _ _ y0 h0 (by omega)
 have h1 := hf 1 _ rfl
 obtain ⟨a1, k1, g1⟩ := (qBR (by kernel_rfl) : qCj Try.prog w N _ (Kd.int .u64) _) _ _ _ _ _ _ _ y1 h1 (by omega)
 exact ⟨⟨a0, a1⟩, ⟨_, _, by kernel_rfl, k0, k1⟩, ⟨g0, g1⟩⟩
def qCc (N : Nat) (x : S150) : Prop := (Lit.int .i64 x.f0).wf = true ∧ (Lit.int .i64 x.f1).wf = true ∧ qCW N x.f2
theorem qC7 (w : World) (N : Nat) : qCj Try.prog w N 150 k150 (qCc N) := by
 intro H enc base spare held fuel cs x h hb
 obtain ⟨xs, n, _, rfl, hl, hlen, hf⟩ := DataW.trod_struct Try.underlying150 h
 have hl' : cs.length = 4 := hl.trans (by kernel_rfl)
 obtain ⟨c0, c1, c2, c3, rfl⟩ : ∃ c0 c1 c2 c3, cs = [c0, c1, c2, c3] := list_4 hl'
 obtain ⟨y0, y1, y2, rfl⟩ : ∃ y0 y1 y2, xs = [y0, y1, y2] := list_3 hlen
 simp only [Rows.uptoBulk, Rows.uptoBulkAll, List.map_cons, List.map_nil] at hb
 have h0 := hf 0 _ rfl
 obtain ⟨a0, k0, g0⟩ := (qBR (by kernel_rfl) : qCj Try.prog w N _ (Kd.int .i64) _) _ _ _ _ _ _ _ y0 h0 (by omega)
 have h1 := hf 1 _ rfl
 obtain ⟨a1, k1, g1⟩ := (qBR (by kernel_rfl) : qCj Try.prog w N _ (Kd.int .i64) _) _ _ _ _ _ _ _ y1 h1 (by omega)
 have h2 := hf 2 _ rfl
 obtain ⟨a2, k2, g2⟩ := (qCH w N : qCj Try.prog w N _ (k69) _) _ _ _ _ _ _ _ y2 h2 (by omega)
 exact ⟨⟨a0, a1, a2⟩, ⟨_, _, by kernel_rfl, k0, ⟨_, _, rfl, k1, k2⟩⟩, ⟨g0, g1, g2⟩⟩
def qCd (N : Nat) (x : S95) : Prop := (x.f0.length ≤ N ∧ ∀ y ∈ x.f0, (Lit.int .i64 y).wf = true) ∧ (Lit.int .i64 x.f1).wf = true
theorem qC8 (w : World) (N : Nat) : qCj Try.prog w N 95 k95 (qCd N) := by
 intro H enc base spare held fuel cs x h hb
 obtain ⟨xs, n, _, rfl, hl, hlen, hf⟩ := DataW.trod_struct Try.underlying95 h
 have hl' : cs.length = 2 := hl.trans (by kernel_rfl)
 obtain ⟨c0, c1, rfl⟩ : ∃ c0 c1, cs = [c0, c1] := list_2 hl'
 obtain ⟨y0, y1, rfl⟩ : ∃ y0 y1, xs = [y0, y1] := list_2 hlen
 simp only [Rows.uptoBulk, Rows.uptoBulkAll, List.map_cons, List.map_nil] at hb
 have h0 := hf 0 _ rfl
 obtain ⟨a0, k0, g0⟩ := (qBX (by kernel_rfl) (by kernel_rfl) (qBR (by kernel_rfl)) : qCj Try.prog w N _ (_) _) _ _ _ _ _ _ _ y0 h0 (by omega)
 have h1 := hf 1 _ rfl
 obtain ⟨a1, k1, g1⟩ := (qBR (by kernel_rfl) : qCj Try.prog w N _ (Kd.int .i64) _) _ _ _ _ _ _ _ y1 h1 (by omega)
 exact ⟨⟨a0, a1⟩, ⟨_, _, by kernel_rfl, k0, k1⟩, ⟨g0, g1⟩⟩
def qCm (N : Nat) (x : S98) : Prop := qCd N x.f0 ∧ (x.f1.length ≤ N ∧ ∀ y ∈ x.f1, (Lit.int .i64 y).wf = true) ∧ (x.f2.length ≤ N ∧ ∀ y ∈ x.f2, qCc N y)
theorem qCI (w : World) (N : Nat) : qCj Try.prog w N 98 k98 (qCm N) := by
 intro H enc base spare held fuel cs x h hb
 obtain ⟨xs, n, _, rfl, hl, hlen, hf⟩ := DataW.trod_struct Try.underlying98 h
 have hl' : cs.length = 4 := hl.trans (by kernel_rfl)
 obtain ⟨c0, c1, c2, c3, rfl⟩ : ∃ c0 c1 c2 c3, cs = [c0, c1, c2, c3] := list_4 hl'
 obtain ⟨y0, y1, y2, rfl⟩ : ∃ y0 y1 y2, xs = [y0, y1, y2] := list_3 hlen
 simp only [Rows.uptoBulk, Rows.uptoBulkAll, List.map_cons, List.map_nil] at hb
 have h0 := hf 0 _ rfl
 obtain ⟨a0, k0, g0⟩ := (qC8 w N : qCj Try.prog w N _ (k95) _) _ _ _ _ _ _ _ y0 h0 (by omega)
 have h1 := hf 1 _ rfl
 obtain ⟨a1, k1, g1⟩ := (qBX (by kernel_rfl) (by kernel_rfl) (qBR (by kernel_rfl)) : qCj Try.prog w N _ (_) _) _ _ _ _ _ _ _ y1 h1 (by omega)
 have h2 := hf 2 _ rfl
 obtain ⟨a2, k2, g2⟩ := (qBX (by kernel_rfl) (by kernel_rfl) (qC7 w N) : qCj Try.prog w N _ (_) _) _ _ _ _ _ _ _ y2 h2 (by omega)
 exact ⟨⟨a0, a1, a2⟩, ⟨_, _, by kernel_rfl, k0, ⟨_, _, rfl, k1, k2⟩⟩, ⟨g0, g1, g2⟩⟩
def qBu (N : Nat) (x : S53) : Prop := (x.f0.length ≤ N ∧ ∀ y ∈ x.f0, qCW N y) ∧ (x.f1.length ≤ N ∧ ∀ y ∈ x.f1, qCm N y) ∧ (Lit.int .i64 x.f2).wf = true
theorem opens_foundryref17_Image (w : World) (N : Nat) : qCj Try.prog w N 53 k53 (qBu N) := by
 intro H enc base spare held fuel cs x h hb
 obtain ⟨xs, n, _, rfl, hl, hlen, hf⟩ := DataW.trod_struct Try.underlying53 h
 have hl' : cs.length = 3 := hl.trans (by kernel_rfl)
 obtain ⟨c0, c1, c2, rfl⟩ : ∃ c0 c1 c2, cs = [c0, c1, c2] := list_3 hl'
 obtain ⟨y0, y1, y2, rfl⟩ : ∃ y0 y1 y2, xs = [y0, y1, y2] := list_3 hlen
 simp only [Rows.uptoBulk, Rows.uptoBulkAll, List.map_cons, List.map_nil] at hb
 have h0 := hf 0 _ rfl
 obtain ⟨a0, k0, g0⟩ := (qBX (by kernel_rfl) (by kernel_rfl) (qCH w N) : qCj Try.prog w N _ (_) _) _ _ _ _ _ _ _ y0 h0 (by omega)
 have h1 := hf 1 _ rfl
 obtain ⟨a1, k1, g1⟩ := (qBX (by kernel_rfl) (by kernel_rfl) (qCI w N) : qCj Try.prog w N _ (_) _) _ _ _ _ _ _ _ y1 h1 (by omega)
 have h2 := hf 2 _ rfl
 obtain ⟨a2, k2, g2⟩ := (qBR (by kernel_rfl) : qCj Try.prog w N _ (Kd.int .i64) _) _ _ _ _ _ _ _ y2 h2 (by omega)
 exact ⟨⟨a0, a1, a2⟩, ⟨_, _, by kernel_rfl, k0, ⟨_, _, rfl, k1, k2⟩⟩, ⟨g0, g1, g2⟩⟩
end Q
end
end Go.Proofs.Ytfjpnjbinbhcfaa
